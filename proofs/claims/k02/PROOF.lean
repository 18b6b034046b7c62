import PyProof.Rows.All
import Wide.All
import OpenK.AllK
import Wide.FinOn
import HandS.ForMost
import HandS.ForExc
import HandS.CallSlots
import HandS.Walk
import HandS.Flow
import HandS.DictTup
import HandS.Deep
import HandS.IsInst
import HandS.Wide
import HandS.TupAny
import KE.KDictWalk
import HandS.NamedTupSort
import HandS.SortOrd
import HandS.SortInts
import HandS.Ends
import HandS.Exc
import HandS.ExcInit
import HandS.ExcField
import HandS.ExcIs
import HandS.RaiseMore
import KE.KExcIs
import HandS.ExcOwn
import HandS.SetBool
import HandS.TupSets
import HandS.DictComp
import HandS.Style
import HandS.More
import KE.DataMinMax
import KE.DataFind
import PyProof.Rows.RowBridgeK
import HandS.Conv
import HandS.TupMul
import HandS.MakeKwOnly
import HandS.Defaults
import PyProof.ReprRoads
import PyProof.ListStr
import PySem.Challenge.RW_clinghold_k02_what_are_no_pulls
set_option Elab.async false
set_option linter.all false
set_option autoImplicit false
set_option maxRecDepth 100000
/-! G0: trees, how values stand for them, frames and cells, readings. -/
namespace G
open PySem PySem.Spec PyProof.Rows L2

inductive T where
  | non | bl (b : Bool) | int (i : Int) | str (x : Str)
  | tup (ts : List T) | lst (ts : List T)
  /-- read alone: the script, the top's own lists and tuples -/
  | rol (ts : List T) | rot (ts : List T)
  | dK (kvs : List (Key × T)) | dT (kvs : List (List Key × T))
  | ins (c : Str) (fs : List (Str × T))
  /-- an exception in hand -/
  | exc (c : Str) (fs : List (Str × T))
inductive U where | v (t : T) | c (i : Nat)
/-- what a cell holds: a tree, an object whose attributes may be cells, or a tuple that holds cells -/
inductive C where | t (t : T) | ins (n : Str) (fs : List (Str × U)) | pr (us : List U)
abbrev Mem := List (Option C)
abbrev Fr := List (Option U)
/-- an exception: its class's name, its fields -/
structure Xc where
  cls : Str
  fs : List (Str × T)
abbrev Res (α : Type) := Option (Except Xc α × Mem)

/-- the exception in hand: where it lies, its class, its dict -/
abbrev Hd := Option (Addr × Value × Option Addr)
structure Cn where
  K : PySem.W.Frag
  mg : Str → Option Value
  hx : Hd
/-- of the pinned things the first one, where that is an exception -/
def hdO : List (Addr × Obj) → Hd
  | (a, o) :: _ => match o.data with
    | .fields _ => some (a, o.cls, o.dict)
    | _ => none
  | [] => none
/-- within an except suite, and nowhere else, there is an exception in hand -/
def hdl (X : Cx) : Hd := match X.calm with
  | true => none
  | false => hdO X.pn
abbrev cn (X : Cx) : Cn := ⟨X.K, X.mg, hdl X⟩

def KLst (K : PySem.W.Frag) (a : Addr) (xs : List V) : Prop :=
  ∃ (o : Obj) (its : Array Value) (n : Nat), K.lookup a = some o ∧ o.cls = .type "list" ∧ o.dict = none ∧ o.data = .seq its n ∧ its.size ≤ sizeLine ∧ Vals xs its.toList
def KTup (K : PySem.W.Frag) (a : Addr) (xs : List V) : Prop :=
  ∃ (o : Obj) (its : Array Value) (n : Nat), K.lookup a = some o ∧ o.cls = .type "tuple" ∧ o.data = .seq its n ∧ its.size ≤ sizeLine ∧ Vals xs its.toList

mutual
inductive Rp (c : Cn) (H : Hp) (L : Addr → Prop) : V → T → Prop
  | non : Rp c H L .non .non
  | bl (b : Bool) : Rp c H L (.bl b) (.bl b)
  | int (i : Int) : Rp c H L (.int i) (.int i)
  | str (x : Str) : Rp c H L (.str x) (.str x)
  | tup {a : Addr} {vs : List V} {ts : List T} : ¬ L a → H a = some (.tup vs) → Rps c H L vs ts → Rp c H L (.ref a) (.tup ts)
  | rot {a : Addr} {vs : List V} {ts : List T} : KTup c.K a vs → Rps c H L vs ts → Rp c H L (.ref a) (.rot ts)
  | lst {a : Addr} {vs : List V} {ts : List T} : ¬ L a → H a = some (.lst vs) → Rps c H L vs ts → Rp c H L (.ref a) (.lst ts)
  | rolF {a : Addr} {o : Obj} {vs : List V} {ts : List T} : ¬ L a → H a = some (.frz o (.lst vs)) → Rps c H L vs ts → Rp c H L (.ref a) (.rol ts)
  | rol {a : Addr} {vs : List V} {ts : List T} : KLst c.K a vs → Rps c H L vs ts → Rp c H L (.ref a) (.rol ts)
  | dK {a : Addr} {kvs : List (Key × V)} {kts : List (Key × T)} : ¬ L a → Rd H a (.dK kvs) → kvs.map (·.1) = kts.map (·.1) → Rps c H L (kvs.map (·.2)) (kts.map (·.2)) → Rp c H L (.ref a) (.dK kts)
  | dT {a : Addr} {kvs : List (List Key × V)} {kts : List (List Key × T)} : ¬ L a → Rd H a (.dT kvs) → kvs.map (·.1) = kts.map (·.1) → Rps c H L (kvs.map (·.2)) (kts.map (·.2)) → Rp c H L (.ref a) (.dT kts)
  | ins {a C dx : Addr} {n : Str} {fs : List (Str × V)} {fts : List (Str × T)} : ¬ L a → H a = some (.ins C dx fs) → c.mg n = some (.ref C) → fs.map (·.1) = fts.map (·.1) → Rps c H L (fs.map (·.2)) (fts.map (·.2)) → Rp c H L (.ref a) (.ins n fts)
  | exc0 {a C : Addr} {n : Str} : c.hx = some (a, .ref C, none) → c.mg n = some (.ref C) → Rp c H L (.ref a) (.exc n [])
  | exc1 {a C d : Addr} {n : Str} {fs : List (Str × V)} {fts : List (Str × T)} : c.hx = some (a, .ref C, some d) → c.mg n = some (.ref C) → ¬ L d → H d = some (.xd fs) → fs.map (·.1) = fts.map (·.1) → Rps c H L (fs.map (·.2)) (fts.map (·.2)) → Rp c H L (.ref a) (.exc n fts)
inductive Rps (c : Cn) (H : Hp) (L : Addr → Prop) : List V → List T → Prop
  | nil : Rps c H L [] []
  | cons {v : V} {t : T} {vs : List V} {ts : List T} : Rp c H L v t → Rps c H L vs ts → Rps c H L (v :: vs) (t :: ts)
end

def isD : HO → Prop
  | .dK _ => True
  | .dT _ => True
  | _ => False
/-- kept, but for a lock upon a dict -/
def KeepO (o o' : HO) : Prop := o' = o ∨ (∃ ob, isD o ∧ o' = .frz ob o) ∨ (∃ ob, isD o' ∧ o = .frz ob o')
theorem KeepO.rd {o o' u : HO} {H H' : Hp} {a : Addr} (e : H a = some o) (e' : H' a = some o') (k : KeepO o o') (nf : ∀ ob w, u ≠ .frz ob w) (r : Rd H a u) : Rd H' a u := by
  rcases r with r | ⟨ob, r⟩
  · rw [e] at r; cases r
    rcases k with rfl | ⟨ob, _, rfl⟩ | ⟨ob, _, z⟩
    · exact .inl e'
    · exact .inr ⟨ob, e'⟩
    · exact absurd z (nf _ _)
  · rw [e] at r; cases r
    rcases k with rfl | ⟨ob', d, _⟩ | ⟨ob', _, z⟩
    · exact .inr ⟨ob, e'⟩
    · exact d.elim
    · injection z with z1 z2
      subst z2
      exact .inl e'
theorem KeepO.eq {o o' : HO} (k : KeepO o o') (h1 : ¬ isD o) (h2 : ∀ ob w, o = .frz ob w → ¬ isD w) : o' = o := by
  rcases k with rfl | ⟨ob, d, _⟩ | ⟨ob, d, z⟩
  · rfl
  · exact absurd d h1
  · exact absurd d (h2 ob o' z)
theorem rdHas {H : Hp} {a : Addr} {u : HO} (r : Rd H a u) : ∃ o, H a = some o := by
  rcases r with r | ⟨ob, r⟩ <;> exact ⟨_, r⟩

mutual
theorem Rp.mono {c : Cn} {H H' : Hp} {L L' : Addr → Prop} (h : ∀ a o, ¬ L a → H a = some o → ¬ L' a ∧ ∃ o', H' a = some o' ∧ KeepO o o') : ∀ {v : V} {t : T}, Rp c H L v t → Rp c H' L' v t
  | _, _, .non => .non
  | _, _, .bl b => .bl b
  | _, _, .int i => .int i
  | _, _, .str x => .str x
  | _, _, .tup nl e s => by
    obtain ⟨nl', o', e', k⟩ := h _ _ nl e
    rw [k.eq (fun z => z) (fun _ _ z => nomatch z)] at e'
    exact .tup nl' e' (s.mono h)
  | _, _, .rot k s => .rot k (s.mono h)
  | _, _, .lst nl e s => by
    obtain ⟨nl', o', e', k⟩ := h _ _ nl e
    rw [k.eq (fun z => z) (fun _ _ z => nomatch z)] at e'
    exact .lst nl' e' (s.mono h)
  | _, _, .rolF nl e s => by
    obtain ⟨nl', o', e', k⟩ := h _ _ nl e
    rw [k.eq (fun z => z) (fun _ _ z => by cases z; exact fun z => z)] at e'
    exact .rolF nl' e' (s.mono h)
  | _, _, .rol k s => .rol k (s.mono h)
  | _, _, .dK nl r ek s => by
    obtain ⟨o, e⟩ := rdHas r
    obtain ⟨nl', o', e', k⟩ := h _ o nl e
    exact .dK nl' (k.rd e e' (fun _ _ z => nomatch z) r) ek (s.mono h)
  | _, _, .dT nl r ek s => by
    obtain ⟨o, e⟩ := rdHas r
    obtain ⟨nl', o', e', k⟩ := h _ o nl e
    exact .dT nl' (k.rd e e' (fun _ _ z => nomatch z) r) ek (s.mono h)
  | _, _, .ins nl e g ek s => by
    obtain ⟨nl', o', e', k⟩ := h _ _ nl e
    rcases k with rfl | ⟨ob, d, rfl⟩ | ⟨ob, _, z⟩
    · exact .ins nl' e' g ek (s.mono h)
    · exact d.elim
    · exact nomatch z
  | _, _, .exc0 x g => .exc0 x g
  | _, _, .exc1 x g nd ed ek s => by
    obtain ⟨nd', o2, e2, k2⟩ := h _ _ nd ed
    rw [k2.eq (fun z => z) (fun _ _ z => nomatch z)] at e2
    exact .exc1 x g nd' e2 ek (s.mono h)
theorem Rps.mono {c : Cn} {H H' : Hp} {L L' : Addr → Prop} (h : ∀ a o, ¬ L a → H a = some o → ¬ L' a ∧ ∃ o', H' a = some o' ∧ KeepO o o') : ∀ {vs : List V} {ts : List T}, Rps c H L vs ts → Rps c H' L' vs ts
  | _, _, .nil => .nil
  | _, _, .cons a b => .cons (a.mono h) (b.mono h)
end

section
variable {c : Cn} {H : Hp} {L : Addr → Prop}
theorem Rps.length : ∀ {vs : List V} {ts : List T}, Rps c H L vs ts → vs.length = ts.length
  | _, _, .nil => rfl
  | _, _, .cons _ r => by simp [r.length]
theorem Rps.get : ∀ {vs : List V} {ts : List T} {i : Nat} {t : T}, Rps c H L vs ts → ts[i]? = some t → ∃ v, vs[i]? = some v ∧ Rp c H L v t
  | _, _, _, _, .nil, e => by simp at e
  | _, _, 0, _, .cons r _, e => by simp at e; subst e; exact ⟨_, rfl, r⟩
  | _, _, i + 1, t, .cons _ s, e => by simpa using Rps.get (i := i) s (by simpa using e)
theorem Rps.getV : ∀ {vs : List V} {ts : List T} {i : Nat} {v : V}, Rps c H L vs ts → vs[i]? = some v → ∃ t, ts[i]? = some t ∧ Rp c H L v t
  | _, _, _, _, .nil, e => by simp at e
  | _, _, 0, _, .cons r _, e => by simp at e; subst e; exact ⟨_, rfl, r⟩
  | _, _, i + 1, t, .cons _ s, e => by simpa using Rps.getV (i := i) s (by simpa using e)
theorem Rps.append : ∀ {vs ws : List V} {ts us : List T}, Rps c H L vs ts → Rps c H L ws us → Rps c H L (vs ++ ws) (ts ++ us)
  | _, _, _, _, .nil, s => s
  | _, _, _, _, .cons a r, s => .cons a (r.append s)
theorem Rps.take : ∀ {vs : List V} {ts : List T} (n : Nat), Rps c H L vs ts → Rps c H L (vs.take n) (ts.take n)
  | _, _, 0, _ => .nil
  | _, _, _ + 1, .nil => .nil
  | _, _, n + 1, .cons a r => .cons a (r.take n)
theorem Rps.drop : ∀ {vs : List V} {ts : List T} (n : Nat), Rps c H L vs ts → Rps c H L (vs.drop n) (ts.drop n)
  | _, _, 0, r => r
  | _, _, _ + 1, .nil => .nil
  | _, _, n + 1, .cons _ r => r.drop n
theorem Rps.set {v : V} {t : T} (a : Rp c H L v t) : ∀ {vs : List V} {ts : List T} (n : Nat), Rps c H L vs ts → Rps c H L (vs.set n v) (ts.set n t)
  | _, _, _, .nil => .nil
  | _, _, 0, .cons _ r => .cons a r
  | _, _, n + 1, .cons b r => .cons b (r.set a n)
theorem Rps.eraseIdx : ∀ {vs : List V} {ts : List T} (n : Nat), Rps c H L vs ts → Rps c H L (vs.eraseIdx n) (ts.eraseIdx n)
  | _, _, _, .nil => .nil
  | _, _, 0, .cons _ r => r
  | _, _, n + 1, .cons b r => .cons b (r.eraseIdx n)
theorem Rps.reverse : ∀ {vs : List V} {ts : List T}, Rps c H L vs ts → Rps c H L vs.reverse ts.reverse
  | _, _, .nil => .nil
  | _, _, .cons a r => by simpa using r.reverse.append (.cons a .nil)
theorem Rps.one {v : V} {t : T} (a : Rp c H L v t) : Rps c H L [v] [t] := .cons a .nil
end

/-! ### cells -/
def Lv (φ : List Addr) (m : Mem) (a : Addr) : Prop := ∃ (i : Nat) (t : C), φ[i]? = some a ∧ m[i]? = some (some t)
def LL (B : Addr → Prop) (φ : List Addr) (m : Mem) : Addr → Prop := fun a => B a ∨ Lv φ m a
/-- a value and what it stands for: a tree, or a cell of the frame -/
inductive Ru (c : Cn) (H : Hp) (L : Addr → Prop) (φ : List Addr) : V → U → Prop
  | v {v : V} {t : T} : Rp c H L v t → Ru c H L φ v (.v t)
  | c {a : Addr} {i : Nat} : φ[i]? = some a → Ru c H L φ (.ref a) (.c i)
inductive Rus (c : Cn) (H : Hp) (L : Addr → Prop) (φ : List Addr) : List V → List U → Prop
  | nil : Rus c H L φ [] []
  | cons {v : V} {u : U} {vs : List V} {us : List U} : Ru c H L φ v u → Rus c H L φ vs us → Rus c H L φ (v :: vs) (u :: us)
theorem Ru.mono {c : Cn} {H H' : Hp} {L L' : Addr → Prop} {φ φ' : List Addr} {v : V} {u : U} (hp : ∃ l, φ' = φ ++ l) (h : ∀ a o, ¬ L a → H a = some o → ¬ L' a ∧ ∃ o', H' a = some o' ∧ KeepO o o') (r : Ru c H L φ v u) : Ru c H' L' φ' v u := by
  cases r with
  | v r => exact .v (r.mono h)
  | c ei =>
    obtain ⟨l, rfl⟩ := hp
    refine .c ?_
    rw [List.getElem?_append_left (List.getElem?_eq_some_iff.mp ei).1]
    exact ei
theorem Rus.mono {c : Cn} {H H' : Hp} {L L' : Addr → Prop} {φ φ' : List Addr} (hp : ∃ l, φ' = φ ++ l) (h : ∀ a o, ¬ L a → H a = some o → ¬ L' a ∧ ∃ o', H' a = some o' ∧ KeepO o o') : ∀ {vs : List V} {us : List U}, Rus c H L φ vs us → Rus c H' L' φ' vs us
  | _, _, .nil => .nil
  | _, _, .cons a r => .cons (a.mono hp h) (r.mono hp h)
theorem pre0 {φ : List Addr} : ∃ l, φ = φ ++ l := ⟨[], by simp⟩
/-- a tuple of atoms alone can't be one that holds cells -/
def hasRef (vs : List V) : Prop := ∃ b, V.ref b ∈ vs
def Cel (c : Cn) (H : Hp) (L : Addr → Prop) (φ : List Addr) (a : Addr) : C → Prop
  | .t (.lst ts) => ∃ vs, H a = some (.lst vs) ∧ Rps c H L vs ts
  | .t (.dK kts) => ∃ kvs, H a = some (.dK kvs) ∧ kvs.map (·.1) = kts.map (·.1) ∧ Rps c H L (kvs.map (·.2)) (kts.map (·.2))
  | .t (.dT kts) => ∃ kvs, H a = some (.dT kvs) ∧ kvs.map (·.1) = kts.map (·.1) ∧ Rps c H L (kvs.map (·.2)) (kts.map (·.2))
  | .ins n fts => ∃ C dx fs, H a = some (.ins C dx fs) ∧ c.mg n = some (.ref C) ∧ fs.map (·.1) = fts.map (·.1) ∧ Rus c H L φ (fs.map (·.2)) (fts.map (·.2))
  | .pr us => ∃ vs, H a = some (.tup vs) ∧ hasRef vs ∧ Rus c H L φ vs us
  | _ => False
theorem Cel.has {c : Cn} {H : Hp} {L : Addr → Prop} {φ : List Addr} {a : Addr} : ∀ {t : C}, Cel c H L φ a t → ∃ o, H a = some o
  | .t (.lst _), ⟨_, e, _⟩ => ⟨_, e⟩
  | .t (.dK _), ⟨_, e, _⟩ => ⟨_, e⟩
  | .t (.dT _), ⟨_, e, _⟩ => ⟨_, e⟩
  | .ins _ _, ⟨_, _, _, e, _⟩ => ⟨_, e⟩
  | .pr _, ⟨_, e, _⟩ => ⟨_, e⟩
/-- the cell's object is kept, what it holds is kept -/
theorem Cel.mono {c : Cn} {H H' : Hp} {L L' : Addr → Prop} {φ φ' : List Addr} {a : Addr} (hp : ∃ l, φ' = φ ++ l) (h : ∀ a o, ¬ L a → H a = some o → ¬ L' a ∧ ∃ o', H' a = some o' ∧ KeepO o o') (ha : ∀ o, H a = some o → H' a = some o) : ∀ {t : C}, Cel c H L φ a t → Cel c H' L' φ' a t
  | .t (.lst _), ⟨vs, e, r⟩ => ⟨vs, ha _ e, r.mono h⟩
  | .t (.dK _), ⟨kvs, e, k, r⟩ => ⟨kvs, ha _ e, k, r.mono h⟩
  | .t (.dT _), ⟨kvs, e, k, r⟩ => ⟨kvs, ha _ e, k, r.mono h⟩
  | .ins _ _, ⟨C, dx, fs, e, g, k, r⟩ => ⟨C, dx, fs, ha _ e, g, k, r.mono hp h⟩
  | .pr _, ⟨vs, e, k, r⟩ => ⟨vs, ha _ e, k, r.mono hp h⟩

/-- no tuple of atoms alone -/
def NT (o : HO) : Prop := ∀ xs, o = .tup xs → hasRef xs
theorem Cel.nt {c : Cn} {H : Hp} {L : Addr → Prop} {φ : List Addr} {a : Addr} : ∀ {t : C}, Cel c H L φ a t → ∃ o, H a = some o ∧ NT o
  | .t (.lst _), ⟨_, e, _⟩ => ⟨_, e, fun _ z => nomatch z⟩
  | .t (.dK _), ⟨_, e, _⟩ => ⟨_, e, fun _ z => nomatch z⟩
  | .t (.dT _), ⟨_, e, _⟩ => ⟨_, e, fun _ z => nomatch z⟩
  | .ins _ _, ⟨_, _, _, e, _⟩ => ⟨_, e, fun _ z => nomatch z⟩
  | .pr _, ⟨_, e, k, _⟩ => ⟨_, e, fun _ z => by cases z; exact k⟩
structure MOk (c : Cn) (B : Addr → Prop) (H : Hp) (φ : List Addr) (m : Mem) : Prop where
  len : φ.length = m.length
  inj : ∀ (i j : Nat) (a : Addr) (t u : C), φ[i]? = some a → φ[j]? = some a → m[i]? = some (some t) → m[j]? = some (some u) → i = j
  nb : ∀ (i : Nat) (a : Addr) (t : C), φ[i]? = some a → m[i]? = some (some t) → ¬ B a
  cel : ∀ (i : Nat) (a : Addr) (t : C), φ[i]? = some a → m[i]? = some (some t) → Cel c H (LL B φ m) φ a t
  bt : ∀ a, B a → ∃ o, H a = some o ∧ NT o
theorem MOk.nil {c : Cn} {B : Addr → Prop} {H : Hp} (h : ∀ a, B a → ∃ o, H a = some o ∧ NT o) : MOk c B H [] [] :=
  ⟨rfl, fun _ _ _ _ _ e => by simp at e, fun _ _ _ e => by simp at e, fun _ _ _ e => by simp at e, h⟩
theorem MOk.lvt {c : Cn} {B : Addr → Prop} {H : Hp} {φ : List Addr} {m : Mem} (M : MOk c B H φ m) {a : Addr} (h : Lv φ m a) : H a ≠ none := by
  obtain ⟨i, t, e1, e2⟩ := h
  obtain ⟨o, e⟩ := (M.cel i a t e1 e2).has
  rw [e]; exact fun z => nomatch z
theorem MOk.btn {c : Cn} {B : Addr → Prop} {H : Hp} {φ : List Addr} {m : Mem} (M : MOk c B H φ m) {a : Addr} (h : B a) : H a ≠ none := by
  obtain ⟨o, e, _⟩ := M.bt a h
  rw [e]; exact fun z => nomatch z
/-- a live cell, or what is held apart, is no tuple -/
theorem MOk.nt {c : Cn} {B : Addr → Prop} {H : Hp} {φ : List Addr} {m : Mem} (M : MOk c B H φ m) {a : Addr} (h : LL B φ m a) : ∃ o, H a = some o ∧ NT o := by
  rcases h with h | ⟨i, t, e1, e2⟩
  · exact M.bt a h
  · exact (M.cel i a t e1 e2).nt
theorem MOk.llt {c : Cn} {B : Addr → Prop} {H : Hp} {φ : List Addr} {m : Mem} (M : MOk c B H φ m) {a : Addr} (h : LL B φ m a) : H a ≠ none := h.elim M.btn M.lvt

structure Nxt (c : Cn) (B : Addr → Prop) (H : Hp) (φ : List Addr) (m : Mem) (H' : Hp) (φ' : List Addr) (m' : Mem) : Prop where
  pre : ∃ l, φ' = φ ++ l
  keep : ∀ a o, H a = some o → ¬ Lv φ m a → H' a = some o
  sub : ∀ a, Lv φ' m' a → Lv φ m a ∨ H a = none
  trk : ∀ a, H a ≠ none → H' a ≠ none
  fr : ∀ (i : Nat) (a : Addr), φ.length ≤ i → φ'[i]? = some a → H a = none
  ok : MOk c B H' φ' m'
section
variable {c : Cn} {B : Addr → Prop} {H H1 H2 : Hp} {φ φ1 φ2 : List Addr} {m m1 m2 : Mem}
theorem Nxt.refl (M : MOk c B H φ m) : Nxt c B H φ m H φ m := ⟨⟨[], by simp⟩, fun _ _ e _ => e, fun _ h => .inl h, fun _ h => h, fun i a h e => absurd (List.getElem?_eq_some_iff.mp e).1 (by omega), M⟩
theorem Nxt.trans (a : Nxt c B H φ m H1 φ1 m1) (b : Nxt c B H1 φ1 m1 H2 φ2 m2) : Nxt c B H φ m H2 φ2 m2 := by
  refine ⟨?_, fun x o e n => b.keep x o (a.keep x o e n) fun z => ?_, fun x h => ?_, fun x h => b.trk x (a.trk x h), fun i x h e => ?_, b.ok⟩
  · obtain ⟨l, rfl⟩ := a.pre
    obtain ⟨l', rfl⟩ := b.pre
    exact ⟨l ++ l', by simp⟩
  · rcases a.sub x z with q | q
    · exact n q
    · rw [e] at q; cases q
  · rcases b.sub x h with q | q
    · exact a.sub x q
    · cases e : H x with
      | none => exact .inr rfl
      | some o =>
        by_cases hl : Lv φ m x
        · exact .inl hl
        · rw [a.keep x o e hl] at q; cases q
  · by_cases hi : i < φ1.length
    · obtain ⟨l, rfl⟩ := b.pre
      rw [List.getElem?_append_left hi] at e
      exact a.fr i x h e
    · have q := b.fr i x (by omega) e
      cases e2 : H x with
      | none => rfl
      | some o => exact absurd q (a.trk x (by rw [e2]; exact fun z => nomatch z))
theorem Nxt.mono (n : Nxt c B H φ m H1 φ1 m1) : ∀ a o, ¬ LL B φ m a → H a = some o → ¬ LL B φ1 m1 a ∧ ∃ o', H1 a = some o' ∧ KeepO o o' := fun a o nl e => by
  refine ⟨fun z => ?_, o, n.keep a o e fun z => nl (.inr z), .inl rfl⟩
  rcases z with z | z
  · exact nl (.inl z)
  · rcases n.sub a z with q | q
    · exact nl (.inr q)
    · rw [e] at q; cases q
/-- where more is held apart than ahead: new things alone -/
theorem Nxt.monoB {B' : Addr → Prop} (hB : ∀ a, B' a → B a ∨ H a = none) (n : Nxt c B' H φ m H1 φ1 m1) : ∀ a o, ¬ LL B φ m a → H a = some o → ¬ LL B' φ1 m1 a ∧ ∃ o', H1 a = some o' ∧ KeepO o o' := fun a o nl e => by
  refine ⟨fun z => ?_, o, n.keep a o e fun z => nl (.inr z), .inl rfl⟩
  rcases z with z | z
  · rcases hB a z with q | q
    · exact nl (.inl q)
    · rw [e] at q; cases q
  · rcases n.sub a z with q | q
    · exact nl (.inr q)
    · rw [e] at q; cases q
theorem Rp.nxt {v : V} {t : T} (r : Rp c H (LL B φ m) v t) (n : Nxt c B H φ m H1 φ1 m1) : Rp c H1 (LL B φ1 m1) v t := r.mono n.mono
theorem Rps.nxt {v : List V} {t : List T} (r : Rps c H (LL B φ m) v t) (n : Nxt c B H φ m H1 φ1 m1) : Rps c H1 (LL B φ1 m1) v t := r.mono n.mono
theorem Ru.nxt {v : V} {u : U} (r : Ru c H (LL B φ m) φ v u) (n : Nxt c B H φ m H1 φ1 m1) : Ru c H1 (LL B φ1 m1) φ1 v u := r.mono n.pre n.mono
theorem Rus.nxt : ∀ {v : List V} {u : List U}, Rus c H (LL B φ m) φ v u → Nxt c B H φ m H1 φ1 m1 → Rus c H1 (LL B φ1 m1) φ1 v u
  | _, _, .nil, _ => .nil
  | _, _, .cons a r, n => .cons (a.nxt n) (r.nxt n)
end

/-! ### frames -/
structure SOk (c : Cn) (B : Addr → Prop) (H : Hp) (φ : List Addr) (m : Mem) (σ : L2.St) (fr : Fr) : Prop where
  mem : MOk c B H φ m
  len : fr.length = σ.length
  loc : ∀ (i : Nat) (u : U), fr[i]? = some (some u) → ∃ v, σ[i]? = some (some v) ∧ Ru c H (LL B φ m) φ v u
theorem SOk.nxt {c : Cn} {B : Addr → Prop} {H H1 : Hp} {φ φ1 : List Addr} {m m1 : Mem} {σ : L2.St} {fr : Fr} (S : SOk c B H φ m σ fr) (n : Nxt c B H φ m H1 φ1 m1) : SOk c B H1 φ1 m1 σ fr :=
  ⟨n.ok, S.len, fun i u e => let ⟨v, e1, r⟩ := S.loc i u e; ⟨v, e1, r.nxt n⟩⟩
theorem SOk.nxtB {c : Cn} {B B' : Addr → Prop} {H H1 : Hp} {φ φ1 : List Addr} {m m1 : Mem} {σ : L2.St} {fr : Fr} (S : SOk c B H φ m σ fr) (hB : ∀ a, B' a → B a ∨ H a = none) (n : Nxt c B' H φ m H1 φ1 m1) : SOk c B' H1 φ1 m1 σ fr := by
  refine ⟨n.ok, S.len, fun i u e => ?_⟩
  obtain ⟨v, e1, r⟩ := S.loc i u e
  refine ⟨v, e1, ?_⟩
  cases r with
  | v r => exact .v (r.mono (n.monoB hB))
  | c ei =>
    obtain ⟨l, rfl⟩ := n.pre
    refine .c ?_
    rw [List.getElem?_append_left (List.getElem?_eq_some_iff.mp ei).1]
    exact ei
theorem SOk.set {c : Cn} {B : Addr → Prop} {H : Hp} {φ : List Addr} {m : Mem} {σ : L2.St} {fr : Fr} {v : V} {u : U} (S : SOk c B H φ m σ fr) (i : Nat) (r : Ru c H (LL B φ m) φ v u) : SOk c B H φ m (σ.set i (some v)) (fr.set i (some u)) := by
  refine ⟨S.mem, by simp [S.len], fun j w e => ?_⟩
  by_cases h : i = j
  · subst h
    have hi : i < fr.length := by
      have := (List.getElem?_eq_some_iff.mp e).1
      simpa using this
    rw [List.getElem?_set_self hi] at e
    cases e
    exact ⟨v, by rw [List.getElem?_set_self (by rw [← S.len]; exact hi)], r⟩
  · rw [List.getElem?_set_ne h] at e
    rw [List.getElem?_set_ne h]
    exact S.loc j w e

/-! ### readings -/
/-- how an exception in the air stands for x -/
def XRp (c : Cn) (H : Hp) (L : Addr → Prop) (x : Xc) (cls : Value) (d : Option Addr) : Prop :=
  c.mg x.cls = some cls ∧ match d with
    | none => x.fs = []
    | some d => ∃ fs, H d = some (.xd fs) ∧ ¬ L d ∧ fs.map (·.1) = x.fs.map (·.1) ∧ Rps c H L (fs.map (·.2)) (x.fs.map (·.2))
abbrev M (α : Type) := Fr → Mem → Res α
def mBind {α β : Type} (f : M α) (k : α → M β) : M β := fun fr m =>
  match f fr m with
  | some (.ok a, m') => k a fr m'
  | some (.error x, m') => some (.error x, m')
  | none => none
def mPure {α : Type} (a : α) : M α := fun _ m => some (.ok a, m)
/-- a result relation -/
abbrev RR (β α : Type) := Cn → Hp → (Addr → Prop) → List Addr → β → α → Prop
abbrev rrU : RR V U := Ru
abbrev rrUs : RR (List V) (List U) := Rus
abbrev rrB : RR Bool Bool := fun _ _ _ _ a b => a = b
def rx {α β : Type} (R : RR β α) (c : Cn) (W : WX) (o : Res α) (B : Addr → Prop) (H : Hp) (φ : List Addr) (m : Mem) (σ : L2.St) (Q : β → Hp → Prop) : Prop :=
  ∃ r m', o = some (r, m') ∧ ∀ H' φ', Nxt c B H φ m H' φ' m' → match r with
    | .ok u => ∀ v, R c H' (LL B φ' m') φ' v u → Q v H'
    | .error x => ∀ cls d, XRp c H' (LL B φ' m') x cls d → W cls d σ H'
def rd {α β : Type} (R : RR β α) (c : Cn) (W : WX) (f : M α) (σ : L2.St) (H : Hp) (Q : β → Hp → Prop) : Prop :=
  ∃ B φ m fr, SOk c B H φ m σ fr ∧ rx R c W (f fr m) B H φ m σ Q
abbrev rdE (X : Cx) (W : WX) (f : M U) : TE := rd rrU (cn X) W f
abbrev rdT (X : Cx) (W : WX) (f : M Bool) : TT := rd rrB (cn X) W f
abbrev rdA (X : Cx) (W : WX) (f : M (List U)) : TA := rd rrUs (cn X) W f
section
variable {α β γ δ : Type} {R : RR β α} {R' : RR δ γ} {c : Cn} {W : WX} {B : Addr → Prop} {H H1 : Hp} {φ φ1 : List Addr} {m m1 : Mem} {σ : L2.St} {fr : Fr} {Q : β → Hp → Prop}
theorem rx.mono {o : Res α} {Q' : β → Hp → Prop} (h : rx R c W o B H φ m σ Q) (hq : ∀ v H', Q v H' → Q' v H') : rx R c W o B H φ m σ Q' := by
  obtain ⟨r, m', e, h⟩ := h
  refine ⟨r, m', e, fun H' φ' n => ?_⟩
  have := h H' φ' n
  cases r with
  | ok u => exact fun v rv => hq v H' (this v rv)
  | error x => exact this
/-- the first step, then the rest from there -/
theorem rx.bind {f : M α} {k : α → M γ} {Q : δ → Hp → Prop} (h : rx R' c W (mBind f k fr m) B H φ m σ Q) :
    rx R c W (f fr m) B H φ m σ fun v H1 => ∃ φ1 m1 u, Nxt c B H φ m H1 φ1 m1 ∧ R c H1 (LL B φ1 m1) φ1 v u ∧ rx R' c W (k u fr m1) B H1 φ1 m1 σ Q := by
  obtain ⟨r, m', e, h⟩ := h
  unfold mBind at e
  cases q : f fr m with
  | none => rw [q] at e; cases e
  | some p =>
    obtain ⟨r1, m1⟩ := p
    rw [q] at e
    refine ⟨r1, m1, rfl, fun H1 φ1 n1 => ?_⟩
    cases r1 with
    | error x =>
      cases e
      exact h H1 φ1 n1
    | ok u =>
      intro v rv
      refine ⟨φ1, m1, u, n1, rv, r, m', e, fun H' φ' n => ?_⟩
      exact h H' φ' (n1.trans n)
theorem rx.pure {a : α} (M : MOk c B H φ m) (h : rx R c W (mPure a fr m) B H φ m σ Q) : ∀ v, R c H (LL B φ m) φ v a → Q v H := by
  obtain ⟨r, m', e, h⟩ := h
  cases e
  exact h H φ (.refl M)
end
end G

/-! G1: heaps that grow, cells written and frozen; the first rules. -/
namespace G
open PySem PySem.Spec PyProof.Rows L2

def Bq (B : Addr → Prop) (q : Addr) : Addr → Prop := fun a => B a ∨ a = q
section
variable {c : Cn} {B : Addr → Prop} {H H1 H' : Hp} {φ φ1 φ' : List Addr} {m m1 m' : Mem} {q a : Addr} {o : HO} {i : Nat} {t t' : C}
theorem MOk.mono {B' : Addr → Prop} (M : MOk c B H φ m) (hl : ∀ a, ∀ o, H a = some o → B' a → B a) (hh : ∀ a o, H a = some o → H' a = some o) (hb : ∀ a, B' a → ∃ o, H' a = some o ∧ NT o) : MOk c B' H' φ m := by
  refine ⟨M.len, M.inj, fun i a t e1 e2 z => ?_, fun i a t e1 e2 => ?_, hb⟩
  · obtain ⟨o, e⟩ := (M.cel i a t e1 e2).has
    exact M.nb i a t e1 e2 (hl a o e z)
  · refine (M.cel i a t e1 e2).mono pre0 (fun b o nl e => ⟨fun z => nl ?_, o, hh b o e, .inl rfl⟩) (hh a)
    rcases z with z | z
    · exact .inl (hl b o e z)
    · exact .inr z
/-- a new object that no cell holds, held apart -/
theorem Nxt.new (n : Nxt c B H φ m H1 φ1 m1) (hq : H1 q = none) (ho : NT o := by exact fun _ z => nomatch z) : Nxt c (Bq B q) H φ m (upd H1 q o) φ1 m1 := by
  have hh : ∀ a u, H1 a = some u → upd H1 q o a = some u := fun a u e => by rw [upd_ne (ne_of_none e hq)]; exact e
  refine ⟨n.pre, fun a u e nl => hh a u (n.keep a u e nl), n.sub, fun a h => ?_, n.fr, n.ok.mono (fun a u e z => ?_) hh fun a z => ?_⟩
  · cases e : H1 a with
    | none => exact absurd e (n.trk a h)
    | some u => rw [hh a u e]; exact fun z => nomatch z
  · rcases z with z | z
    · exact z
    · exact absurd z (ne_of_none e hq)
  · rcases z with z | z
    · obtain ⟨u, e, hu⟩ := n.ok.bt a z
      exact ⟨u, hh a u e, hu⟩
    · subst z; exact ⟨o, upd_same, ho⟩
/-- a new object that no cell holds -/
theorem Nxt.plus (n : Nxt c B H φ m H1 φ1 m1) (hq : H1 q = none) : Nxt c B H φ m (upd H1 q o) φ1 m1 := by
  have hh : ∀ a u, H1 a = some u → upd H1 q o a = some u := fun a u e => by rw [upd_ne (ne_of_none e hq)]; exact e
  refine ⟨n.pre, fun a u e nl => hh a u (n.keep a u e nl), n.sub, fun a h => ?_, n.fr, n.ok.mono (fun _ _ _ z => z) hh fun a z => ?_⟩
  · cases e : H1 a with
    | none => exact absurd e (n.trk a h)
    | some u => rw [hh a u e]; exact fun z => nomatch z
  · obtain ⟨u, e, hu⟩ := n.ok.bt a z
    exact ⟨u, hh a u e, hu⟩
theorem Nxt.unB (n : Nxt c (Bq B q) H φ m H' φ' m') : Nxt c B H φ m H' φ' m' :=
  ⟨n.pre, n.keep, n.sub, n.trk, n.fr, n.ok.mono (fun _ _ _ z => .inl z) (fun _ _ e => e) fun a z => n.ok.bt a (.inl z)⟩
theorem Nxt.fresh (n : Nxt c B H φ m H' φ' m') (hq : H' q = none) : H q = none := by
  cases e : H q with
  | none => rfl
  | some u => exact absurd hq (n.trk q (by rw [e]; exact fun z => nomatch z))
theorem LL.unBq (z : LL B φ m a) : LL (Bq B q) φ m a := z.elim (fun z => .inl (.inl z)) .inr
theorem Rp.unB {v : V} {t : T} (r : Rp c H (LL (Bq B q) φ m) v t) : Rp c H (LL B φ m) v t := r.mono fun a o nl e => ⟨fun z => nl (LL.unBq z), o, e, .inl rfl⟩
theorem Rps.unB {v : List V} {t : List T} (r : Rps c H (LL (Bq B q) φ m) v t) : Rps c H (LL B φ m) v t := r.mono fun a o nl e => ⟨fun z => nl (LL.unBq z), o, e, .inl rfl⟩
theorem XRp.unB {x : Xc} {cls : Value} {d : Option Addr} (r : XRp c H (LL (Bq B q) φ m) x cls d) : XRp c H (LL B φ m) x cls d := by
  refine ⟨r.1, ?_⟩
  have h := r.2
  cases d with
  | none => exact h
  | some d =>
    obtain ⟨fs, e, nl, k, r⟩ := h
    exact ⟨fs, e, fun z => nl (LL.unBq z), k, r.unB⟩
/-- kept through a new object -/
theorem Rp.new {v : V} {t : T} (hq : H q = none) (r : Rp c H (LL B φ m) v t) : Rp c (upd H q o) (LL (Bq B q) φ m) v t := r.mono fun a u nl e => by
  have ne := ne_of_none e hq
  refine ⟨fun z => ?_, u, by rw [upd_ne ne]; exact e, .inl rfl⟩
  rcases z with (z | z) | z
  · exact nl (.inl z)
  · exact ne z
  · exact nl (.inr z)
theorem Rps.new {vs : List V} {ts : List T} (hq : H q = none) (r : Rps c H (LL B φ m) vs ts) : Rps c (upd H q o) (LL (Bq B q) φ m) vs ts := r.mono fun a u nl e => by
  have ne := ne_of_none e hq
  refine ⟨fun z => ?_, u, by rw [upd_ne ne]; exact e, .inl rfl⟩
  rcases z with (z | z) | z
  · exact nl (.inl z)
  · exact ne z
  · exact nl (.inr z)
def toTs : List (Str × U) → Option (List (Str × T))
  | [] => some []
  | (n, .v t) :: fs => match toTs fs with
    | some ts => some ((n, t) :: ts)
    | none => none
  | (_, .c _) :: _ => none
theorem toTs_rel {L : Addr → Prop} : ∀ {vs : List V} {fs : List (Str × U)} {ts : List (Str × T)}, Rus c H L φ vs (fs.map (·.2)) → toTs fs = some ts → fs.map (·.1) = ts.map (·.1) ∧ Rps c H L vs (ts.map (·.2))
  | _, [], _, r, e => by cases e; cases r; exact ⟨rfl, .nil⟩
  | vs, (n, .v t) :: fs, _, r, e => by
    unfold toTs at e
    cases q : toTs fs with
    | none => rw [q] at e; cases e
    | some ts =>
      rw [q] at e; cases e
      cases r with
      | cons r rs =>
        cases r with
        | v r =>
          obtain ⟨h1, h2⟩ := toTs_rel rs q
          exact ⟨by simp [h1], .cons r h2⟩
  | _, (_, .c _) :: _, _, _, e => by cases e
/-- a cell's content as a tree, where no cell is in it -/
def toT : C → Option T
  | .t t => some t
  | .ins n fs => match toTs fs with
    | some ts => some (.ins n ts)
    | none => none
  | .pr _ => none
/-- what a cell would hold is a tree where it is no cell -/
theorem Cel.frozen {L : Addr → Prop} {t : T} {ct : C} (hc : Cel c H L φ a ct) (nl : ¬ L a) (e : toT ct = some t) : Rp c H L (.ref a) t := by
  match ct, hc, e with
  | .t (.lst ts), ⟨vs, eh, r⟩, q => cases q; exact .lst nl eh r
  | .t (.dK ts), ⟨vs, eh, k, r⟩, q => cases q; exact .dK nl (.inl eh) k r
  | .t (.dT ts), ⟨vs, eh, k, r⟩, q => cases q; exact .dT nl (.inl eh) k r
  | .ins n fs, ⟨C, dx, vs, eh, g, k, r⟩, q =>
    unfold toT at q
    cases q2 : toTs fs with
    | none => simp only [q2] at q; cases q
    | some ts =>
      simp only [q2] at q; cases q
      obtain ⟨h1, h2⟩ := toTs_rel r q2
      exact .ins nl eh g (k.trans h1) h2
theorem MOk.noB (M : MOk c B H φ m) (hq : H q = none) : ¬ B q := fun z => M.btn z hq
theorem MOk.noL (M : MOk c B H φ m) (hq : H q = none) : ¬ LL B φ m q := fun z => M.llt z hq
/-- a new object becomes a tree -/
theorem Nxt.tree {tt : T} (n : Nxt c (Bq B q) H φ m H' φ' m') (hb : ¬ B q) (hc : Cel c H' (LL (Bq B q) φ' m') φ' q t) (ht : toT t = some tt) : Rp c H' (LL B φ' m') (.ref q) tt := by
  have nq : ¬ LL B φ' m' q := fun z => by
    rcases z with z | ⟨i, t, e1, e2⟩
    · exact hb z
    · exact n.ok.nb i q t e1 e2 (.inr rfl)
  exact (hc.mono pre0 (fun b o nl e => ⟨fun z => nl (LL.unBq z), o, e, .inl rfl⟩) (fun _ e => e)).frozen nq ht
theorem getElem?_snoc {α : Type} {l : List α} {x y : α} {i : Nat} (h : (l ++ [x])[i]? = some y) : l[i]? = some y ∨ (i = l.length ∧ y = x) := by
  by_cases hi : i < l.length
  · rw [List.getElem?_append_left hi] at h; exact .inl h
  · rw [List.getElem?_append_right (by omega)] at h
    have hz : i - l.length = 0 := by
      have := (List.getElem?_eq_some_iff.mp h).1
      simp at this; omega
    rw [hz] at h
    simp at h
    exact .inr ⟨by omega, h.symm⟩
theorem Lv.snoc (hl : φ.length = m.length) (h : Lv (φ ++ [q]) (m ++ [some t]) a) : Lv φ m a ∨ a = q := by
  obtain ⟨i, u, e1, e2⟩ := h
  rcases getElem?_snoc e1 with e1 | ⟨e, rfl⟩
  · rcases getElem?_snoc e2 with e2 | ⟨e, _⟩
    · exact .inl ⟨i, u, e1, e2⟩
    · have := (List.getElem?_eq_some_iff.mp e1).1
      omega
  · exact .inr rfl
theorem Lv.old (h : Lv φ m a) (t : C) (q : Addr) : Lv (φ ++ [q]) (m ++ [some t]) a := by
  obtain ⟨i, u, e1, e2⟩ := h
  refine ⟨i, u, ?_, ?_⟩
  · rw [List.getElem?_append_left (List.getElem?_eq_some_iff.mp e1).1]; exact e1
  · rw [List.getElem?_append_left (List.getElem?_eq_some_iff.mp e2).1]; exact e2
/-- a new object becomes a cell -/
theorem Nxt.cell (n : Nxt c (Bq B q) H φ m H' φ' m') (hb : ¬ B q) (hq : H q = none) (hc : Cel c H' (LL (Bq B q) φ' m') φ' q t) : Nxt c B H φ m H' (φ' ++ [q]) (m' ++ [some t]) := by
  have ll : ∀ a, LL B (φ' ++ [q]) (m' ++ [some t]) a → LL (Bq B q) φ' m' a := fun a z => by
    rcases z with z | z
    · exact .inl (.inl z)
    · rcases z.snoc n.ok.len with z | z
      · exact .inr z
      · exact .inl (.inr z)
  have hm : ∀ a o, ¬ LL (Bq B q) φ' m' a → H' a = some o → ¬ LL B (φ' ++ [q]) (m' ++ [some t]) a ∧ ∃ o', H' a = some o' ∧ KeepO o o' := fun a o nl e => ⟨fun z => nl (ll a z), o, e, .inl rfl⟩
  refine ⟨?_, n.keep, fun a z => ?_, n.trk, fun i a h e => ?_, ⟨by simp [n.ok.len], fun i j a u w e1 e2 e3 e4 => ?_, fun i a u e1 e2 z => ?_, fun i a u e1 e2 => ?_, fun a z => n.ok.bt a (.inl z)⟩⟩
  · obtain ⟨l, rfl⟩ := n.pre
    exact ⟨l ++ [q], by simp⟩
  · rcases z.snoc n.ok.len with z | z
    · exact n.sub a z
    · subst z; exact .inr hq
  · rcases getElem?_snoc e with e | ⟨_, rfl⟩
    · exact n.fr i a h e
    · exact hq
  · have nlq : ∀ {k : Nat} {u : C}, φ'[k]? = some q → m'[k]? = some (some u) → False := fun e1 e2 => n.ok.nb _ q _ e1 e2 (.inr rfl)
    rcases getElem?_snoc e1 with f1 | ⟨p1, q1⟩
    · rcases getElem?_snoc e3 with f3 | ⟨p, _⟩
      · rcases getElem?_snoc e2 with f2 | ⟨p2, q2⟩
        · rcases getElem?_snoc e4 with f4 | ⟨p, _⟩
          · exact n.ok.inj i j a u w f1 f2 f3 f4
          · have := (List.getElem?_eq_some_iff.mp f2).1; have := n.ok.len; omega
        · subst q2; exact (nlq f1 f3).elim
      · have := (List.getElem?_eq_some_iff.mp f1).1; have := n.ok.len; omega
    · rcases getElem?_snoc e2 with f2 | ⟨p2, _⟩
      · rcases getElem?_snoc e4 with f4 | ⟨p, _⟩
        · subst q1; exact (nlq f2 f4).elim
        · have := (List.getElem?_eq_some_iff.mp f2).1; have := n.ok.len; omega
      · omega
  · rcases getElem?_snoc e1 with e1 | ⟨_, rfl⟩
    · rcases getElem?_snoc e2 with e2 | ⟨p, _⟩
      · exact n.ok.nb i a u e1 e2 (.inl z)
      · have := (List.getElem?_eq_some_iff.mp e1).1; have := n.ok.len; omega
    · exact hb z
  · rcases getElem?_snoc e1 with e1 | ⟨p1, rfl⟩
    · rcases getElem?_snoc e2 with e2 | ⟨p, _⟩
      · exact (n.ok.cel i a u e1 e2).mono ⟨[q], rfl⟩ hm fun _ e => e
      · have := (List.getElem?_eq_some_iff.mp e1).1; have := n.ok.len; omega
    · rcases getElem?_snoc e2 with e2 | ⟨p, p2⟩
      · have := (List.getElem?_eq_some_iff.mp e2).1; have := n.ok.len; omega
      · cases p2
        exact hc.mono ⟨[_], rfl⟩ hm fun _ e => e
theorem set_get {m : Mem} {i j : Nat} {x y : Option C} (h : (m.set i x)[j]? = some y) : (i = j ∧ y = x) ∨ (i ≠ j ∧ m[j]? = some y) := by
  by_cases e : i = j
  · subst e
    have hi : i < m.length := by have := (List.getElem?_eq_some_iff.mp h).1; simpa using this
    rw [List.getElem?_set_self hi] at h
    exact .inl ⟨rfl, (Option.some.inj h).symm⟩
  · rw [List.getElem?_set_ne e] at h; exact .inr ⟨e, h⟩
theorem Lv.set (hm : m[i]? = some (some t)) : Lv φ (m.set i (some t')) a ↔ Lv φ m a := by
  have hi : i < m.length := (List.getElem?_eq_some_iff.mp hm).1
  constructor
  · rintro ⟨j, u, e1, e2⟩
    rcases set_get e2 with ⟨rfl, _⟩ | ⟨_, e2⟩
    · exact ⟨i, t, e1, hm⟩
    · exact ⟨j, u, e1, e2⟩
  · rintro ⟨j, u, e1, e2⟩
    by_cases e : i = j
    · subst e; exact ⟨i, t', e1, by rw [List.getElem?_set_self hi]⟩
    · exact ⟨j, u, e1, by rw [List.getElem?_set_ne e]; exact e2⟩
theorem LL.set (hm : m[i]? = some (some t)) : LL B φ (m.set i (some t')) = LL B φ m := by
  funext a; unfold LL; rw [Lv.set hm]
/-- a live cell's object may change: trees don't hang on it -/
theorem Rps.upd {L : Addr → Prop} {vs : List V} {ts : List T} (hl : L a) (r : Rps c H L vs ts) : Rps c (upd H a o) L vs ts := r.mono fun b u nl e => ⟨nl, u, by rw [upd_ne (show b ≠ a from fun z => nl (by rw [z]; exact hl))]; exact e, .inl rfl⟩
theorem Rp.upd {L : Addr → Prop} {v : V} {t : T} (hl : L a) (r : Rp c H L v t) : Rp c (upd H a o) L v t := r.mono fun b u nl e => ⟨nl, u, by rw [upd_ne (show b ≠ a from fun z => nl (by rw [z]; exact hl))]; exact e, .inl rfl⟩
/-- a cell is written -/
theorem Nxt.write (M : MOk c B H φ m) (hi : φ[i]? = some a) (hm : m[i]? = some (some t)) (hc : Cel c (upd H a o) (LL B φ m) φ a t') : Nxt c B H φ m (upd H a o) φ (m.set i (some t')) := by
  have la : LL B φ m a := .inr ⟨i, t, hi, hm⟩
  have hil : i < m.length := (List.getElem?_eq_some_iff.mp hm).1
  refine ⟨⟨[], by simp⟩, fun b u e nl => by rw [upd_ne (show b ≠ a from fun z => nl (by rw [z]; exact ⟨i, t, hi, hm⟩))]; exact e, fun b z => .inl ((Lv.set hm).mp z), fun b h => by (by_cases e : b = a; subst e; rw [upd_same]; exact fun z => nomatch z; rw [upd_ne e]; exact h), fun i a h e => absurd (List.getElem?_eq_some_iff.mp e).1 (by omega), ⟨by simp [M.len], fun j k b u w e1 e2 e3 e4 => ?_, fun j b u e1 e2 => ?_, fun j b u e1 e2 => ?_, fun b z => ?_⟩⟩
  · have f : ∀ {k : Nat} {u : C}, (m.set i (some t'))[k]? = some (some u) → ∃ u, m[k]? = some (some u) := fun e => by
      rcases set_get e with ⟨rfl, _⟩ | ⟨_, e⟩
      · exact ⟨t, hm⟩
      · exact ⟨_, e⟩
    obtain ⟨u', f1⟩ := f e3
    obtain ⟨w', f2⟩ := f e4
    exact M.inj j k b u' w' e1 e2 f1 f2
  · rcases set_get e2 with ⟨rfl, _⟩ | ⟨_, e2⟩
    · exact M.nb _ b t e1 hm
    · exact M.nb j b u e1 e2
  · rw [LL.set hm]
    rcases set_get e2 with ⟨rfl, e⟩ | ⟨ne, e2⟩
    · rw [hi] at e1; cases e1; cases e; exact hc
    · have nb : b ≠ a := fun z => by subst z; exact ne (M.inj i j b t u hi e1 hm e2)
      exact (M.cel j b u e1 e2).mono pre0 (fun x o' nl e => ⟨nl, o', by rw [upd_ne (show x ≠ a from fun z => nl (by rw [z]; exact la))]; exact e, .inl rfl⟩) fun o' e => by rw [upd_ne nb]; exact e
  · rw [upd_ne (show b ≠ a from fun e => M.nb i a t hi hm (by rw [← e]; exact z))]; exact M.bt b z
/-- a cell is frozen: it is a tree from then on -/
theorem Nxt.freeze {tt : T} (M : MOk c B H φ m) (hi : φ[i]? = some a) (hm : m[i]? = some (some t)) (ht : toT t = some tt) : Nxt c B H φ m H φ (m.set i none) ∧ Rp c H (LL B φ (m.set i none)) (.ref a) tt := by
  have f : ∀ {k : Nat} {u : C}, (m.set i none)[k]? = some (some u) → i ≠ k ∧ m[k]? = some (some u) := fun e => by
    rcases set_get e with ⟨_, z⟩ | z
    · cases z
    · exact z
  have lsub : ∀ b, Lv φ (m.set i none) b → Lv φ m b ∧ b ≠ a := fun b ⟨j, u, e1, e2⟩ => by
    obtain ⟨ne, e⟩ := f e2
    exact ⟨⟨j, u, e1, e⟩, fun z => by subst z; exact ne (M.inj i j b t u hi e1 hm e)⟩
  have ll : ∀ b, LL B φ (m.set i none) b → LL B φ m b := fun b z => z.elim .inl fun z => .inr (lsub b z).1
  have mono : ∀ b o, ¬ LL B φ m b → H b = some o → ¬ LL B φ (m.set i none) b ∧ ∃ o', H b = some o' ∧ KeepO o o' := fun b o nl e => ⟨fun z => nl (ll b z), o, e, .inl rfl⟩
  refine ⟨⟨⟨[], by simp⟩, fun _ _ e _ => e, fun b z => .inl (lsub b z).1, fun _ h => h, fun i a h e => absurd (List.getElem?_eq_some_iff.mp e).1 (by omega), ⟨by simp [M.len], fun j k b u w e1 e2 e3 e4 => M.inj j k b u w e1 e2 (f e3).2 (f e4).2, fun j b u e1 e2 => M.nb j b u e1 (f e2).2, fun j b u e1 e2 => (M.cel j b u e1 (f e2).2).mono pre0 mono fun _ e => e, M.bt⟩⟩, ?_⟩
  refine ((M.cel i a t hi hm).mono pre0 mono fun _ e => e).frozen (fun z => ?_) ht
  rcases z with z | z
  · exact M.nb i a t hi hm z
  · exact (lsub a z).2 rfl
end

theorem Nxt.updB {c : Cn} {B : Addr → Prop} {H H' : Hp} {φ φ' : List Addr} {m m' : Mem} {q : Addr} {o : HO} (n : Nxt c B H φ m H' φ' m') (hb : B q) (hk : H q = none ∨ H q = H' q ∧ H q = some o) (ho : NT o := by exact fun _ z => nomatch z) : Nxt c B H φ m (upd H' q o) φ' m' := by
  have nq : ∀ b, ¬ LL B φ' m' b → b ≠ q := fun b nl z => nl (by rw [z]; exact .inl hb)
  refine ⟨n.pre, fun a u e nl => ?_, n.sub, fun a h => ?_, n.fr, ⟨n.ok.len, n.ok.inj, n.ok.nb, fun i a t e1 e2 => ?_, fun a z => ?_⟩⟩
  · by_cases e' : a = q
    · subst e'
      rcases hk with hk | ⟨_, hk⟩
      · rw [hk] at e; cases e
      · rw [upd_same]; exact hk.symm.trans e
    · rw [upd_ne e']; exact n.keep a u e nl
  · by_cases e : a = q
    · subst e; rw [upd_same]; exact fun z => nomatch z
    · rw [upd_ne e]; exact n.trk a h
  · refine (n.ok.cel i a t e1 e2).mono pre0 (fun b u nl e => ⟨nl, u, by rw [upd_ne (nq b nl)]; exact e, .inl rfl⟩) fun u e => ?_
    rw [upd_ne (show a ≠ q from fun z => n.ok.nb i a t e1 e2 (by rw [z]; exact hb))]
    exact e
  · by_cases e : a = q
    · subst e; exact ⟨o, upd_same, ho⟩
    · rw [upd_ne e]; exact n.ok.bt a z
/-! ### a value that is read: a tree, or what a cell holds -/
def deref (m : Mem) : U → Option T
  | .v t => some t
  | .c i => match m[i]? with
    | some (some ct) => toT ct
    | _ => none
/-- as it stands: a tree, or what a cell holds -/
def Vw (c : Cn) (H : Hp) (L : Addr → Prop) (x : V) (t : T) : Prop := Rp c H L x t ∨ ∃ a φ ct, x = .ref a ∧ toT ct = some t ∧ Cel c H L φ a ct
theorem Ru.vw {c : Cn} {B : Addr → Prop} {H : Hp} {φ : List Addr} {m : Mem} {x : V} {u : U} {t : T} (M : MOk c B H φ m) (r : Ru c H (LL B φ m) φ x u) (h : deref m u = some t) : Vw c H (LL B φ m) x t := by
  cases r with
  | v r => cases h; exact .inl r
  | @c a i e =>
    unfold deref at h
    dsimp only at h
    split at h
    · rename_i ct hm
      exact .inr ⟨a, φ, ct, rfl, h, M.cel i a ct e hm⟩
    · cases h
section
variable {c : Cn} {H : Hp} {L : Addr → Prop} {x : V}
theorem KLst.sq {a : Addr} {xs : List V} (h : KLst c.K a xs) : SqL c.K H a xs := .inr h
theorem KTup.sq {a : Addr} {xs : List V} (h : KTup c.K a xs) : SqT c.K H a xs := .inr h
theorem toT_t {ct : C} {t : T} (h : toT ct = some t) (hn : ∀ n fs, t ≠ .ins n fs) : ct = .t t := by
  cases ct with
  | t t' => cases h; rfl
  | ins n fs =>
    unfold toT at h
    cases q : toTs fs with
    | none => simp only [q] at h; cases h
    | some ts => simp only [q] at h; cases h; exact absurd rfl (hn _ _)
  | pr us => cases h
theorem Vw.lst {ts : List T} (h : Vw c H L x (.lst ts)) : ∃ a vs, x = .ref a ∧ H a = some (.lst vs) ∧ Rps c H L vs ts := by
  rcases h with h | ⟨a, φ, ct, rfl, ht, hc⟩
  · cases h with
    | lst nl r s => exact ⟨_, _, rfl, r, s⟩
  · cases toT_t ht fun _ _ z => nomatch z
    obtain ⟨vs, e, r⟩ := hc
    exact ⟨a, vs, rfl, e, r⟩
theorem Vw.rol {ts : List T} (h : Vw c H L x (.rol ts)) : ∃ a vs, x = .ref a ∧ SqL c.K H a vs ∧ Rps c H L vs ts := by
  rcases h with h | ⟨a, φ, ct, rfl, ht, hc⟩
  · cases h with
    | rolF nl r s => exact ⟨_, _, rfl, .inl (.inr ⟨_, r⟩), s⟩
    | rol k s => exact ⟨_, _, rfl, .inr k, s⟩
  · cases toT_t ht fun _ _ z => nomatch z
    exact hc.elim
theorem Vw.rot {ts : List T} (h : Vw c H L x (.rot ts)) : ∃ a vs, x = .ref a ∧ SqT c.K H a vs ∧ Rps c H L vs ts := by
  rcases h with h | ⟨a, φ, ct, rfl, ht, hc⟩
  · cases h with
    | rot k s => exact ⟨_, _, rfl, .inr k, s⟩
  · cases toT_t ht fun _ _ z => nomatch z
    exact hc.elim
theorem Vw.plain {t : T} (h : Vw c H L x t) (hn : ∀ n fs, t ≠ .ins n fs) (h1 : ∀ ts, t ≠ .lst ts) (h2 : ∀ ts, t ≠ .dK ts) (h3 : ∀ ts, t ≠ .dT ts) : Rp c H L x t := by
  rcases h with h | ⟨a, φ, ct, rfl, ht, hc⟩
  · exact h
  · cases toT_t ht hn
    cases t with
    | lst ts => exact absurd rfl (h1 ts)
    | dK ts => exact absurd rfl (h2 ts)
    | dT ts => exact absurd rfl (h3 ts)
    | _ => exact hc.elim
theorem Vw.tup {ts : List T} (h : Vw c H L x (.tup ts)) : ∃ a vs, x = .ref a ∧ H a = some (.tup vs) ∧ Rps c H L vs ts := by
  cases h.plain (fun _ _ z => nomatch z) (fun _ z => nomatch z) (fun _ z => nomatch z) (fun _ z => nomatch z) with
  | tup nl r s => exact ⟨_, _, rfl, r, s⟩
theorem Vw.int {i : Int} (h : Vw c H L x (.int i)) : x = .int i := by
  cases h.plain (fun _ _ z => nomatch z) (fun _ z => nomatch z) (fun _ z => nomatch z) (fun _ z => nomatch z); rfl
theorem Vw.bl {i : Bool} (h : Vw c H L x (.bl i)) : x = .bl i := by
  cases h.plain (fun _ _ z => nomatch z) (fun _ z => nomatch z) (fun _ z => nomatch z) (fun _ z => nomatch z); rfl
theorem Vw.str {i : Str} (h : Vw c H L x (.str i)) : x = .str i := by
  cases h.plain (fun _ _ z => nomatch z) (fun _ z => nomatch z) (fun _ z => nomatch z) (fun _ z => nomatch z); rfl
theorem Vw.non (h : Vw c H L x .non) : x = .non := by
  cases h.plain (fun _ _ z => nomatch z) (fun _ z => nomatch z) (fun _ z => nomatch z) (fun _ z => nomatch z); rfl
theorem Vw.ins {n : Str} {fts : List (Str × T)} (h : Vw c H L x (.ins n fts)) : ∃ a C dx fs, x = .ref a ∧ H a = some (.ins C dx fs) ∧ c.mg n = some (.ref C) ∧ fs.map (·.1) = fts.map (·.1) ∧ Rps c H L (fs.map (·.2)) (fts.map (·.2)) := by
  rcases h with h | ⟨a, φ, ct, rfl, ht, hc⟩
  · cases h with
    | ins nl e g k r => exact ⟨_, _, _, _, rfl, e, g, k, r⟩
  · cases ct with
    | t t => cases ht; exact hc.elim
    | pr us => cases ht
    | ins n fs =>
      unfold toT at ht
      cases q : toTs fs with
      | none => simp only [q] at ht; cases ht
      | some ts =>
        simp only [q] at ht; cases ht
        obtain ⟨C, dx, fv, e, g, k, r⟩ := hc
        obtain ⟨h1, h2⟩ := toTs_rel r q
        exact ⟨a, C, dx, fv, rfl, e, g, k.trans h1, h2⟩
theorem Vw.dK {kts : List (Key × T)} (h : Vw c H L x (.dK kts)) : ∃ a kvs, x = .ref a ∧ Rd H a (.dK kvs) ∧ kvs.map (·.1) = kts.map (·.1) ∧ Rps c H L (kvs.map (·.2)) (kts.map (·.2)) := by
  rcases h with h | ⟨a, φ, ct, rfl, ht, hc⟩
  · cases h with
    | dK nl r k s => exact ⟨_, _, rfl, r, k, s⟩
  · cases toT_t ht fun _ _ z => nomatch z
    obtain ⟨kvs, e, k, r⟩ := hc
    exact ⟨a, kvs, rfl, .inl e, k, r⟩
theorem Vw.dT {kts : List (List Key × T)} (h : Vw c H L x (.dT kts)) : ∃ a kvs, x = .ref a ∧ Rd H a (.dT kvs) ∧ kvs.map (·.1) = kts.map (·.1) ∧ Rps c H L (kvs.map (·.2)) (kts.map (·.2)) := by
  rcases h with h | ⟨a, φ, ct, rfl, ht, hc⟩
  · cases h with
    | dT nl r k s => exact ⟨_, _, rfl, r, k, s⟩
  · cases toT_t ht fun _ _ z => nomatch z
    obtain ⟨kvs, e, k, r⟩ := hc
    exact ⟨a, kvs, rfl, .inl e, k, r⟩
end
end G

/-! G2: rules for expressions, tests, statements. -/
namespace G
open PySem PySem.Spec PyProof.Rows L2

theorem PE.wk {X : Cx} {e : Expr} {t t' : TE} (h : PE X e t) (w : ∀ σ H Q, t' σ H Q → t σ H Q) : PE X e t' := ⟨fun pins s σ H Q I q => h.run pins s σ H Q I (w σ H Q q)⟩
theorem PT.wk {X : Cx} {e : Expr} {t t' : TT} (h : PT X e t) (w : ∀ σ H Q, t' σ H Q → t σ H Q) : PT X e t' := ⟨fun pins s σ H Q I q => h.run pins s σ H Q I (w σ H Q q)⟩
theorem PW.wk {X : Cx} {e : Expr} {t t' : TT} (h : PW X e t) (w : ∀ σ H Q, t' σ H Q → t σ H Q) : PW X e t' := ⟨fun wh pins s σ H Q I q => h.run wh pins s σ H Q I (w σ H Q q)⟩
theorem PA.wk {X : Cx} {e : List Expr} {t t' : TA} (h : PA X e t) (w : ∀ σ H Q, t' σ H Q → t σ H Q) : PA X e t' := ⟨fun pos pins s σ H Q I q => h.run pos pins s σ H Q I (w σ H Q q)⟩
theorem PS.wk {X : Cx} {e : Stmt} {t t' : TS} (h : PS X e t) (w : ∀ D σ H, t' D σ H → t D σ H) : PS X e t' := ⟨fun pins s σ H D I q => h.run pins s σ H D I (w D σ H q)⟩
theorem PSs.wk {X : Cx} {e : List Stmt} {t t' : TS} (h : PSs X e t) (w : ∀ D σ H, t' D σ H → t D σ H) : PSs X e t' := ⟨fun pins s σ H D I q => h.run pins s σ H D I (w D σ H q)⟩
theorem OpR.wk {X : Cx} {f : Value → Value → Sem Value} {r r' : R2} (h : OpR X f r) (w : ∀ x y H Q, r' x y H Q → r x y H Q) : OpR X f r' := fun pins s σ H x y v u Q I a b q => h pins s σ H x y v u Q I a b (w x y H Q q)
theorem CallR.wk {X : Cx} {f : Value} {r r' : List V → Hp → VK → Prop} (h : CallR X f r) (w : ∀ x H Q, r' x H Q → r x H Q) : CallR X f r' := fun pins s σ H x v Q I a q => h pins s σ H x v Q I a (w x H Q q)
theorem UnR.wk {X : Cx} {f : Value → Sem Value} {r r' : V → Hp → VK → Prop} (h : UnR X f r) (w : ∀ x H Q, r' x H Q → r x H Q) : UnR X f r' := fun pins s σ H x v Q I a q => h pins s σ H x v Q I a (w x H Q q)

/-! ### the functions -/
def stuck {α : Type} : M α := fun _ _ => none
def mVar (i : Nat) : M U := fun fr m => match fr[i]? with
  | some (some u) => some (.ok u, m)
  | _ => none
def mC (t : T) : M U := mPure (.v t)
def mLift (o : Mem → Option (U × Mem)) : M U := fun _ m => match o m with
  | some (u, m') => some (.ok u, m')
  | none => none
def mUn (p : U → Mem → Option (U × Mem)) (f : M U) : M U := mBind f fun a => mLift (p a)
def mOp2 (p : U → U → Mem → Option (U × Mem)) (f g : M U) : M U := mBind f fun a => mBind g fun b => mLift (p a b)
def mNil : M (List U) := mPure []
def mCons (f : M U) (g : M (List U)) : M (List U) := mBind f fun a => mBind g fun b => mPure (a :: b)
def mCallB (p : List U → Mem → Option (U × Mem)) (f : M (List U)) : M U := mBind f fun a => mLift (p a)
def mTst (f : M U) : M Bool := mBind f fun
  | .v (.bl b) => mPure b
  | _ => stuck
def mAndT (f g : M Bool) : M Bool := mBind f fun b => if b then g else mPure false
def mOrT (f g : M Bool) : M Bool := mBind f fun b => if b then mPure true else g
def mNotT (f : M Bool) : M Bool := mBind f fun b => mPure (!b)
def mAnd (f g : M U) : M U := mBind f fun
  | .v (.bl b) => if b then g else mPure (.v (.bl false))
  | _ => stuck
def mOr (f g : M U) : M U := mBind f fun
  | .v (.bl b) => if b then mPure (.v (.bl true)) else g
  | _ => stuck
def mNot (f : M U) : M U := mBind f fun
  | .v (.bl b) => mPure (.v (.bl (!b)))
  | _ => stuck
def mIf (t : M Bool) (f g : M U) : M U := mBind t fun b => if b then f else g
/-- a < b < c -/
def mChain (p p' : U → U → Mem → Option (U × Mem)) (f g h : M U) : M U := mBind f fun a => mBind g fun b => mBind (mLift (p a b)) fun
  | .v (.bl k) => if k then mBind h fun d => mLift (p' b d) else mPure (.v (.bl false))
  | _ => stuck
/-- trees in, a tree out -/
def pv1 (p : T → Option T) : U → Mem → Option (U × Mem) := fun a m => match deref m a with
  | some x => match p x with
    | some t => some (.v t, m)
    | none => none
  | none => none
def pv2 (p : T → T → Option T) : U → U → Mem → Option (U × Mem) := fun a b m => match deref m a, deref m b with
  | some x, some y => match p x y with
    | some t => some (.v t, m)
    | none => none
  | _, _ => none
def derefs (m : Mem) : List U → Option (List T)
  | [] => some []
  | u :: us => match deref m u, derefs m us with
    | some t, some ts => some (t :: ts)
    | _, _ => none
def pvN (p : List T → Option T) : List U → Mem → Option (U × Mem) := fun a m => match derefs m a with
  | some x => match p x with
    | some t => some (.v t, m)
    | none => none
  | none => none

/-! ### primitives' readings -/
def rp (c : Cn) (o : Option (U × Mem)) (B : Addr → Prop) (H : Hp) (φ : List Addr) (m : Mem) (Q : VK) : Prop :=
  ∃ u m', o = some (u, m') ∧ ∀ H' φ', Nxt c B H φ m H' φ' m' → ∀ v, Ru c H' (LL B φ' m') φ' v u → Q v H'
def r1 (c : Cn) (p : U → Mem → Option (U × Mem)) : V → Hp → VK → Prop := fun x H Q => ∃ B φ m a, MOk c B H φ m ∧ Ru c H (LL B φ m) φ x a ∧ rp c (p a m) B H φ m Q
def r2 (c : Cn) (p : U → U → Mem → Option (U × Mem)) : R2 := fun x y H Q => ∃ B φ m a b, MOk c B H φ m ∧ Ru c H (LL B φ m) φ x a ∧ Ru c H (LL B φ m) φ y b ∧ rp c (p a b m) B H φ m Q
def rN (c : Cn) (p : List U → Mem → Option (U × Mem)) : List V → Hp → VK → Prop := fun x H Q => ∃ B φ m a, MOk c B H φ m ∧ Rus c H (LL B φ m) φ x a ∧ rp c (p a m) B H φ m Q
section
variable {c : Cn} {W : WX} {B : Addr → Prop} {H : Hp} {φ : List Addr} {m : Mem} {σ : L2.St} {fr : Fr} {Q : VK}
theorem rx.lift {o : Mem → Option (U × Mem)} (h : rx rrU c W (mLift o fr m) B H φ m σ Q) : rp c (o m) B H φ m Q := by
  obtain ⟨r, m', e, h⟩ := h
  unfold mLift at e
  cases q : o m with
  | none => rw [q] at e; cases e
  | some p =>
    obtain ⟨u, m1⟩ := p
    rw [q] at e; cases e
    exact ⟨u, _, rfl, h⟩
/-- a pure tree handed on -/
theorem rp.pv1 {p : T → Option T} {x : V} {a : U} (M : MOk c B H φ m) (r : Ru c H (LL B φ m) φ x a) (h : rp c (pv1 p a m) B H φ m Q) :
    ∃ x' t, Vw c H (LL B φ m) x x' ∧ p x' = some t ∧ ∀ H' , Nxt c B H φ m H' φ m → ∀ v, Rp c H' (LL B φ m) v t → Q v H' := by
  obtain ⟨u, m', e, h⟩ := h
  unfold G.pv1 at e
  cases q : deref m a with
  | none => rw [q] at e; cases e
  | some x' =>
    rw [q] at e
    dsimp only at e
    cases q2 : p x' with
    | none => rw [q2] at e; cases e
    | some t =>
      rw [q2] at e; cases e
      exact ⟨x', t, r.vw M q, q2, fun H' n v rv => h H' φ n v (.v rv)⟩
theorem rp.pv2 {p : T → T → Option T} {x y : V} {a b : U} (M : MOk c B H φ m) (r : Ru c H (LL B φ m) φ x a) (r' : Ru c H (LL B φ m) φ y b) (h : rp c (pv2 p a b m) B H φ m Q) :
    ∃ x' y' t, Vw c H (LL B φ m) x x' ∧ Vw c H (LL B φ m) y y' ∧ p x' y' = some t ∧ ∀ H' , Nxt c B H φ m H' φ m → ∀ v, Rp c H' (LL B φ m) v t → Q v H' := by
  obtain ⟨u, m', e, h⟩ := h
  unfold G.pv2 at e
  cases q : deref m a with
  | none => rw [q] at e; cases e
  | some x' =>
    cases q1 : deref m b with
    | none => rw [q, q1] at e; cases e
    | some y' =>
      rw [q, q1] at e
      dsimp only at e
      cases q2 : p x' y' with
      | none => rw [q2] at e; cases e
      | some t =>
        rw [q2] at e; cases e
        exact ⟨x', y', t, r.vw M q, r'.vw M q1, q2, fun H' n v rv => h H' φ n v (.v rv)⟩
inductive Vws (c : Cn) (H : Hp) (L : Addr → Prop) : List V → List T → Prop
  | nil : Vws c H L [] []
  | cons {v : V} {t : T} {vs : List V} {ts : List T} : Vw c H L v t → Vws c H L vs ts → Vws c H L (v :: vs) (t :: ts)
theorem Rus.vws (M : MOk c B H φ m) : ∀ {xs : List V} {us : List U} {ts : List T}, Rus c H (LL B φ m) φ xs us → derefs m us = some ts → Vws c H (LL B φ m) xs ts
  | _, _, _, .nil, h => by cases h; exact .nil
  | _, _, _, @Rus.cons _ _ _ _ v u vs us a r, h => by
    unfold derefs at h
    cases q : deref m u with
    | none => rw [q] at h; cases h
    | some t =>
      cases q1 : derefs m us with
      | none => rw [q, q1] at h; cases h
      | some ts' =>
        rw [q, q1] at h; cases h
        exact .cons (a.vw M q) (r.vws M q1)
theorem rp.pvN {p : List T → Option T} {x : List V} {a : List U} (M : MOk c B H φ m) (r : Rus c H (LL B φ m) φ x a) (h : rp c (pvN p a m) B H φ m Q) :
    ∃ x' t, Vws c H (LL B φ m) x x' ∧ p x' = some t ∧ ∀ H' , Nxt c B H φ m H' φ m → ∀ v, Rp c H' (LL B φ m) v t → Q v H' := by
  obtain ⟨u, m', e, h⟩ := h
  unfold G.pvN at e
  cases q : derefs m a with
  | none => rw [q] at e; cases e
  | some x' =>
    rw [q] at e
    dsimp only at e
    cases q2 : p x' with
    | none => rw [q2] at e; cases e
    | some t =>
      rw [q2] at e; cases e
      exact ⟨x', t, r.vws M q, q2, fun H' n v rv => h H' φ n v (.v rv)⟩
end

/-! ### expressions -/
section
variable {X : Cx} {W : WX} {e a b d : Expr} {es : List Expr} {f g h : M U} {pos : Pos}
/-- two steps in a row -/
theorem rd.bind {α β γ δ : Type} {R : RR β α} {R' : RR δ γ} {c : Cn} {f : M α} {k : α → M γ} {σ : L2.St} {H : Hp} {Q : δ → Hp → Prop} (h : rd R' c W (mBind f k) σ H Q) :
    rd R c W f σ H fun v H1 => ∃ B φ1 m1 fr u, SOk c B H1 φ1 m1 σ fr ∧ R c H1 (LL B φ1 m1) φ1 v u ∧ rx R' c W (k u fr m1) B H1 φ1 m1 σ Q := by
  obtain ⟨B, φ, m, fr, S, h⟩ := h
  exact ⟨B, φ, m, fr, S, h.bind.mono fun v H1 ⟨φ1, m1, u, n, r, h⟩ => ⟨B, φ1, m1, fr, u, S.nxt n, r, h⟩⟩
theorem e_var {i : Nat} {x : Str} (hN : X.N[i]? = some x) (hv : Vis X.env.scope x) (hd : (x == ("__debug__" : Str)) = false := by decide) (hcd : (x == ("__classdict__" : Str)) = false := by decide) : PE X (.Name x pos) (rdE X W (mVar i)) := by
  refine PE.wk (pe_var hN hv hd hcd) fun σ H Q ⟨B, φ, m, fr, S, r, m', e, h⟩ => ?_
  unfold mVar at e
  split at e
  · rename_i u hu
    cases e
    obtain ⟨v, e1, ru⟩ := S.loc i u hu
    exact ⟨v, e1, h H φ (.refl S.mem) v ru⟩
  · cases e
theorem e_const {t : T} {v : V} (he : PE X e (tC v)) (hv : ∀ c H L, Rp c H L v t) : PE X e (rdE X W (mC t)) := by
  refine PE.wk he fun σ H Q ⟨B, φ, m, fr, S, h⟩ => ?_
  exact rx.pure (R := rrU) S.mem h v (.v (hv _ _ _))
theorem e_int {i : Int} {j} : PE X (.Constant (.int i) j pos) (rdE X W (mC (.int i))) := e_const pe_int fun _ _ _ => .int i
theorem e_bl {i : Bool} {j} : PE X (.Constant (.bool i) j pos) (rdE X W (mC (.bl i))) := e_const pe_bl fun _ _ _ => .bl i
theorem e_non {j} : PE X (.Constant .none j pos) (rdE X W (mC .non)) := e_const pe_non fun _ _ _ => .non
theorem e_str {i : Str} {j} : PE X (.Constant (.str i) j pos) (rdE X W (mC (.str i))) := e_const pe_str fun _ _ _ => .str i
/-- a module's constant -/
theorem e_glob {x : Str} {v : V} {u : Value} {t : T} (hg : Gl X x) (hm : X.mg x = some u) (r : RelV v u) (hv : ∀ H L, Rp (cn X) H L v t) (hd : (x == ("__debug__" : Str)) = false := by decide) : PE X (.Name x pos) (rdE X W (mC t)) := by
  refine PE.wk (pe_glob hg hm r hd) fun σ H Q ⟨B, φ, m, fr, S, h⟩ => ?_
  exact rx.pure (R := rrU) S.mem h v (.v (hv _ _))

theorem rd.un {p : U → Mem → Option (U × Mem)} {σ : L2.St} {H : Hp} {Q : VK} (hh : rdE X W (mUn p f) σ H Q) : rdE X W f σ H fun x H1 => r1 (cn X) p x H1 Q := by
  obtain ⟨B, φ, m, fr, S, h0⟩ := rd.bind (R := rrU) hh
  exact ⟨B, φ, m, fr, S, h0.mono fun v H1 ⟨B, φ1, m1, fr, u, S1, ru, h1⟩ => ⟨B, φ1, m1, u, S1.mem, ru, h1.lift⟩⟩
theorem rd.op2 {p : U → U → Mem → Option (U × Mem)} {σ : L2.St} {H : Hp} {Q : VK} (hh : rdE X W (mOp2 p f g) σ H Q) : rdE X W f σ H fun x H1 => rdE X W g σ H1 fun y H2 => r2 (cn X) p x y H2 Q := by
  obtain ⟨B, φ, m, fr, S, h0⟩ := hh
  refine ⟨B, φ, m, fr, S, (h0.bind (R := rrU)).mono fun x H1 ⟨φ1, m1, u1, n1, ru1, h1⟩ => ⟨B, φ1, m1, fr, S.nxt n1, (h1.bind (R := rrU)).mono fun y H2 ⟨φ2, m2, u2, n2, ru2, h2⟩ => ?_⟩⟩
  exact ⟨B, φ2, m2, u1, u2, n2.ok, ru1.nxt n2, ru2, h2.lift⟩
theorem rd.callB {p : List U → Mem → Option (U × Mem)} {f : M (List U)} {σ : L2.St} {H : Hp} {Q : VK} (hh : rdE X W (mCallB p f) σ H Q) : rdA X W f σ H fun x H1 => rN (cn X) p x H1 Q := by
  obtain ⟨B, φ, m, fr, S, h0⟩ := rd.bind (R := rrUs) hh
  exact ⟨B, φ, m, fr, S, h0.mono fun v H1 ⟨B, φ1, m1, fr, u, S1, ru, h1⟩ => ⟨B, φ1, m1, u, S1.mem, ru, h1.lift⟩⟩
theorem e_op {op : Operator} {p : U → U → Mem → Option (U × Mem)} (ho : OpR X (binaryOp op) (r2 (cn X) p)) (ha : PE X a (rdE X W f)) (hb : PE X b (rdE X W g)) : PE X (.BinOp a op b pos) (rdE X W (mOp2 p f g)) :=
  PE.wk (pe_op ho ha hb) fun _ _ _ h => rd.op2 h
theorem e_un {op : UnaryOp} {p : U → Mem → Option (U × Mem)} (ho : UnR X (unaryOp op) (r1 (cn X) p)) (ha : PE X a (rdE X W f)) : PE X (.UnaryOp op a pos) (rdE X W (mUn p f)) :=
  PE.wk (pe_un ho ha) fun _ _ _ h => rd.un h
theorem e_cmp {op : CmpOp} {p : U → U → Mem → Option (U × Mem)} (ho : OpR X (compareOp op) (r2 (cn X) p)) (ha : PE X a (rdE X W f)) (hb : PE X b (rdE X W g)) (h1 : behindInMarks op b = false) : PE X (.Compare a [op] [b] pos) (rdE X W (mOp2 p f g)) :=
  PE.wk (pe_cmpR ho ha hb h1) fun _ _ _ h => rd.op2 h
theorem rd.tst {σ : L2.St} {H : Hp} {Q : Bool → Hp → Prop} (hh : rdT X W (mTst f) σ H Q) : rdE X W f σ H fun x H1 => ∃ k, x = .bl k ∧ Q k H1 := by
  obtain ⟨B, φ, m, fr, S, h0⟩ := rd.bind (R := rrU) hh
  refine ⟨B, φ, m, fr, S, h0.mono fun v H1 ⟨B, φ1, m1, fr, u, S1, ru, h1⟩ => ?_⟩
  match u, ru, h1 with
  | .v (.bl k), .v r, h1 =>
    cases r
    exact ⟨k, rfl, rx.pure (R := rrB) S1.mem h1 k rfl⟩
  | .v .non, _, ⟨_, _, e, _⟩ => cases e
  | .v (.int _), _, ⟨_, _, e, _⟩ => cases e
  | .v (.str _), _, ⟨_, _, e, _⟩ => cases e
  | .v (.tup _), _, ⟨_, _, e, _⟩ => cases e
  | .v (.lst _), _, ⟨_, _, e, _⟩ => cases e
  | .v (.rol _), _, ⟨_, _, e, _⟩ => cases e
  | .v (.rot _), _, ⟨_, _, e, _⟩ => cases e
  | .v (.dK _), _, ⟨_, _, e, _⟩ => cases e
  | .v (.dT _), _, ⟨_, _, e, _⟩ => cases e
  | .v (.ins _ _), _, ⟨_, _, e, _⟩ => cases e
  | .v (.exc _ _), _, ⟨_, _, e, _⟩ => cases e
  | .c _, _, ⟨_, _, e, _⟩ => cases e
theorem t_val (he : PE X e (rdE X W f)) (hw : ∀ whole, isTrue e X.env whole = (do let v ← whole; standAt e.pos; holding [v] (truthy v)) := by intro _; rfl) : PT X e (rdT X W (mTst f)) :=
  PT.wk (pt_val he hw) fun _ _ _ h => rd.tst h
theorem t_cmp {op : CmpOp} {p : U → U → Mem → Option (U × Mem)} (ho : OpR X (compareOp op) (r2 (cn X) p)) (ha : PE X a (rdE X W f)) (hb : PE X b (rdE X W g)) (h1 : behindInMarks op b = false) : PT X (.Compare a [op] [b] pos) (rdT X W (mTst (mOp2 p f g))) := by
  refine PT.wk (pt_cmpR ho ha hb h1) fun σ H Q h => ?_
  obtain ⟨B, φ, m, fr, S, h0⟩ := rd.op2 (rd.tst h)
  exact ⟨B, φ, m, fr, S, h0⟩
theorem t_not {f : M Bool} (he : PT X e (rdT X W f)) : PT X (.UnaryOp .Not e pos) (rdT X W (mNotT f)) := by
  refine PT.wk (pt_not he) fun σ H Q h => ?_
  obtain ⟨B, φ, m, fr, S, h0⟩ := rd.bind (R := rrB) h
  exact ⟨B, φ, m, fr, S, h0.mono fun v H1 ⟨B, φ1, m1, fr, u, S1, ru, h1⟩ => by cases ru; exact rx.pure (R := rrB) S1.mem h1 _ rfl⟩
theorem rd.andT {f g : M Bool} {σ : L2.St} {H : Hp} {Q : Bool → Hp → Prop} (h : rdT X W (mAndT f g) σ H Q) : L2.tAnd (rdT X W f) (rdT X W g) σ H Q := by
  obtain ⟨B, φ, m, fr, S, h0⟩ := rd.bind (R := rrB) h
  refine ⟨B, φ, m, fr, S, h0.mono fun v H1 ⟨B, φ1, m1, fr, u, S1, ru, h1⟩ => ?_⟩
  cases ru
  cases v with
  | true => exact ⟨B, φ1, m1, fr, S1, h1⟩
  | false => exact rx.pure (R := rrB) (fr := fr) S1.mem h1 _ rfl
theorem rd.orT {f g : M Bool} {σ : L2.St} {H : Hp} {Q : Bool → Hp → Prop} (h : rdT X W (mOrT f g) σ H Q) : L2.tOr (rdT X W f) (rdT X W g) σ H Q := by
  obtain ⟨B, φ, m, fr, S, h0⟩ := rd.bind (R := rrB) h
  refine ⟨B, φ, m, fr, S, h0.mono fun v H1 ⟨B, φ1, m1, fr, u, S1, ru, h1⟩ => ?_⟩
  cases ru
  cases v with
  | false => exact ⟨B, φ1, m1, fr, S1, h1⟩
  | true => exact rx.pure (R := rrB) (fr := fr) S1.mem h1 _ rfl
theorem w_and1 {f : M Bool} (ha : PT X a (rdT X W f)) : PW X (.BoolOp .And [a] pos) (rdT X W f) := pw_and1 ha
theorem w_or1 {f : M Bool} (ha : PT X a (rdT X W f)) : PW X (.BoolOp .Or [a] pos) (rdT X W f) := pw_or1 ha
theorem w_and {f g : M Bool} (ha : PT X a (rdT X W f)) (hb : PW X (.BoolOp .And (b :: es) pos) (rdT X W g)) : PW X (.BoolOp .And (a :: b :: es) pos) (rdT X W (mAndT f g)) := PW.wk (pw_and ha hb) fun _ _ _ h => rd.andT h
theorem w_or {f g : M Bool} (ha : PT X a (rdT X W f)) (hb : PW X (.BoolOp .Or (b :: es) pos) (rdT X W g)) : PW X (.BoolOp .Or (a :: b :: es) pos) (rdT X W (mOrT f g)) := PW.wk (pw_or ha hb) fun _ _ _ h => rd.orT h
/-- a bool has come -/
theorem rx.boolM {α β : Type} {R : RR β α} {c : Cn} {B : Addr → Prop} {H : Hp} {φ : List Addr} {m : Mem} {σ : L2.St} {fr : Fr} {Q : β → Hp → Prop} {u : U} {k : Bool → M α} {v : V} (ru : Ru c H (LL B φ m) φ v u)
    (h : rx R c W ((match u with | .v (.bl b) => k b | _ => stuck) fr m) B H φ m σ Q) : ∃ b, v = .bl b ∧ rx R c W (k b fr m) B H φ m σ Q := by
  match u, ru, h with
  | .v (.bl k), .v r, h1 => cases r; exact ⟨k, rfl, h1⟩
  | .v .non, _, ⟨_, _, e, _⟩ => cases e
  | .v (.int _), _, ⟨_, _, e, _⟩ => cases e
  | .v (.str _), _, ⟨_, _, e, _⟩ => cases e
  | .v (.tup _), _, ⟨_, _, e, _⟩ => cases e
  | .v (.lst _), _, ⟨_, _, e, _⟩ => cases e
  | .v (.rol _), _, ⟨_, _, e, _⟩ => cases e
  | .v (.rot _), _, ⟨_, _, e, _⟩ => cases e
  | .v (.dK _), _, ⟨_, _, e, _⟩ => cases e
  | .v (.dT _), _, ⟨_, _, e, _⟩ => cases e
  | .v (.ins _ _), _, ⟨_, _, e, _⟩ => cases e
  | .v (.exc _ _), _, ⟨_, _, e, _⟩ => cases e
  | .c _, _, ⟨_, _, e, _⟩ => cases e
theorem e_one {op} (ha : PE X a (rdE X W f)) : PE X (.BoolOp op [a] pos) (rdE X W f) := pe_one ha
theorem e_and (ha : PE X a (rdE X W f)) (hb : PE X (.BoolOp .And (b :: es) pos) (rdE X W g)) : PE X (.BoolOp .And (a :: b :: es) pos) (rdE X W (mAnd f g)) := by
  refine PE.wk (pe_and ha hb) fun σ H Q h => ?_
  obtain ⟨B, φ, m, fr, S, h0⟩ := rd.bind (R := rrU) h
  refine ⟨B, φ, m, fr, S, h0.mono fun v H1 ⟨B, φ1, m1, fr, u, S1, ru, h1⟩ => ?_⟩
  obtain ⟨k, rfl, h1⟩ := rx.boolM (R := rrU) (k := fun b => if b then g else mPure (.v (.bl false))) ru h1
  refine ⟨k, rfl, ?_⟩
  cases k with
  | true => exact ⟨B, φ1, m1, fr, S1, h1⟩
  | false => exact rx.pure (R := rrU) (fr := fr) S1.mem h1 _ (.v (.bl _))
theorem e_or (ha : PE X a (rdE X W f)) (hb : PE X (.BoolOp .Or (b :: es) pos) (rdE X W g)) : PE X (.BoolOp .Or (a :: b :: es) pos) (rdE X W (mOr f g)) := by
  refine PE.wk (pe_or ha hb) fun σ H Q h => ?_
  obtain ⟨B, φ, m, fr, S, h0⟩ := rd.bind (R := rrU) h
  refine ⟨B, φ, m, fr, S, h0.mono fun v H1 ⟨B, φ1, m1, fr, u, S1, ru, h1⟩ => ?_⟩
  obtain ⟨k, rfl, h1⟩ := rx.boolM (R := rrU) (k := fun b => if b then mPure (.v (.bl true)) else g) ru h1
  refine ⟨k, rfl, ?_⟩
  cases k with
  | false => exact ⟨B, φ1, m1, fr, S1, h1⟩
  | true => exact rx.pure (R := rrU) (fr := fr) S1.mem h1 _ (.v (.bl _))
theorem e_not (ha : PE X a (rdE X W f)) : PE X (.UnaryOp .Not a pos) (rdE X W (mNot f)) := by
  refine PE.wk (pe_not ha) fun σ H Q h => ?_
  obtain ⟨B, φ, m, fr, S, h0⟩ := rd.bind (R := rrU) h
  refine ⟨B, φ, m, fr, S, h0.mono fun v H1 ⟨B, φ1, m1, fr, u, S1, ru, h1⟩ => ?_⟩
  obtain ⟨k, rfl, h1⟩ := rx.boolM (R := rrU) (k := fun b => mPure (.v (.bl (!b)))) ru h1
  exact ⟨k, rfl, rx.pure (R := rrU) S1.mem h1 _ (.v (.bl _))⟩
theorem e_ifExp {t : M Bool} (ht : PT X d (rdT X W t)) (ha : PE X a (rdE X W f)) (hb : PE X b (rdE X W g)) : PE X (.IfExp d a b pos) (rdE X W (mIf t f g)) := by
  refine PE.wk (pe_ifExp ht ha hb) fun σ H Q h => ?_
  obtain ⟨B, φ, m, fr, S, h0⟩ := rd.bind (R := rrB) h
  refine ⟨B, φ, m, fr, S, h0.mono fun v H1 ⟨B, φ1, m1, fr, u, S1, ru, h1⟩ => ?_⟩
  cases ru
  cases v with
  | true => exact ⟨B, φ1, m1, fr, S1, h1⟩
  | false => exact ⟨B, φ1, m1, fr, S1, h1⟩
theorem a_nil : PA X [] (rdA X W mNil) := PA.wk pa_nil fun σ H Q ⟨B, φ, m, fr, S, h⟩ => rx.pure (R := rrUs) S.mem h _ .nil
theorem a_cons {g : M (List U)} (ha : PE X e (rdE X W f)) (hr : PA X es (rdA X W g)) (hs : starEach (e :: es) X.env = (false, eval e X.env) :: starEach es X.env := by rfl) : PA X (e :: es) (rdA X W (mCons f g)) := by
  refine PA.wk (pa_cons ha hr hs) fun σ H Q ⟨B, φ, m, fr, S, h0⟩ => ?_
  refine ⟨B, φ, m, fr, S, (h0.bind (R := rrU)).mono fun x H1 ⟨φ1, m1, u1, n1, ru1, h1⟩ => ⟨B, φ1, m1, fr, S.nxt n1, (h1.bind (R := rrUs)).mono fun y H2 ⟨φ2, m2, u2, n2, ru2, h2⟩ => ?_⟩⟩
  exact rx.pure (R := rrUs) n2.ok h2 _ (.cons (ru1.nxt n2) ru2)
end
end G

/-! G3: statements, loops. -/
namespace G
open PySem PySem.Spec PyProof.Rows L2

inductive Fl where | nx | bk | ct | rt (u : U)
inductive SR where | fl (k : Fl) (fr : Fr) | ex (x : Xc) (fr : Fr)
abbrev MS := Fr → Mem → Option (SR × Mem)
def sBind {α : Type} (f : M α) (k : α → MS) : MS := fun fr m => match f fr m with
  | some (.ok a, m') => k a fr m'
  | some (.error x, m') => some (.ex x fr, m')
  | none => none
def sNext : MS := fun fr m => some (.fl .nx fr, m)
def sNever : MS := fun _ _ => none
def sSeq (f g : MS) : MS := fun fr m => match f fr m with
  | some (.fl .nx fr', m') => g fr' m'
  | r => r
def sIf (t : M Bool) (f g : MS) : MS := sBind t fun b => if b then f else g
def sRet (f : M U) : MS := sBind f fun u fr m => some (.fl (.rt u) fr, m)
def sExpr (f : M U) : MS := sBind f fun _ => sNext
def sBreak : MS := fun fr m => some (.fl .bk fr, m)
def sCont : MS := fun fr m => some (.fl .ct fr, m)
/-- a turn of a loop -/
def sTurn (b again : MS) : MS := fun fr m => match b fr m with
  | some (.fl .nx fr', m') => again fr' m'
  | some (.fl .ct fr', m') => again fr' m'
  | some (.fl .bk fr', m') => some (.fl .nx fr', m')
  | r => r
def sWhile : Nat → M Bool → MS → MS
  | 0, _, _ => sNever
  | n + 1, t, b => sBind t fun c => if c then sTurn b (sWhile n t b) else sNext
/-- targets -/
abbrev Tg := U → Fr → Option Fr
def gN (i : Nat) : Tg := fun u fr => some (fr.set i (some u))
abbrev Tgs := List T → Fr → Option Fr
def gNil : Tgs := fun ts fr => match ts with
  | [] => some fr
  | _ => none
def gCons (g : Tg) (h : Tgs) : Tgs := fun ts fr => match ts with
  | t :: r => match g (.v t) fr with
    | some fr' => h r fr'
    | none => none
  | [] => none
def gT (h : Tgs) : Tg := fun u fr => match u with
  | .v (.tup ts) => h ts fr
  | .v (.rot ts) => h ts fr
  | _ => none
def sAsg (f : M U) (g : Tg) : MS := sBind f fun u fr m => match g u fr with
  | some fr' => some (.fl .nx fr', m)
  | none => none
def sForL (g : Tg) (b : MS) : List T → MS
  | [] => sNext
  | t :: ts => fun fr m => match g (.v t) fr with
    | some fr' => sTurn b (sForL g b ts) fr' m
    | none => none

/-! ### readings -/
def fin (c : Cn) (B : Addr → Prop) (H : Hp) (φ : List Addr) (m : Mem) (σ : L2.St) (D : Ends) : Fl → Prop
  | .nx => D.nx σ H
  | .bk => D.bk σ H
  | .ct => D.ct σ H
  | .rt u => ∀ v, Ru c H (LL B φ m) φ v u → D.rt v H
def rxS (c : Cn) (W : WX) (o : Option (SR × Mem)) (B : Addr → Prop) (H : Hp) (φ : List Addr) (m : Mem) (D : Ends) : Prop :=
  ∃ r m', o = some (r, m') ∧ ∀ H' φ', Nxt c B H φ m H' φ' m' → match r with
    | .fl k fr' => ∀ σ', SOk c B H' φ' m' σ' fr' → fin c B H' φ' m' σ' D k
    | .ex x fr' => ∀ σ', SOk c B H' φ' m' σ' fr' → ∀ cls d, XRp c H' (LL B φ' m') x cls d → W cls d σ' H'
def rdS (X : Cx) (W : WX) (f : MS) : TS := fun D σ H => ∃ B φ m fr, SOk (cn X) B H φ m σ fr ∧ rxS (cn X) W (f fr m) B H φ m D
section
variable {c : Cn} {W : WX} {B : Addr → Prop} {H H1 : Hp} {φ φ1 : List Addr} {m m1 : Mem} {σ : L2.St} {fr : Fr} {D : Ends}
theorem rxS.bind {α β : Type} {R : RR β α} {f : M α} {k : α → MS} (S : SOk c B H φ m σ fr) (h : rxS c W (sBind f k fr m) B H φ m D) :
    rx R c W (f fr m) B H φ m σ fun v H1 => ∃ φ1 m1 u, Nxt c B H φ m H1 φ1 m1 ∧ R c H1 (LL B φ1 m1) φ1 v u ∧ rxS c W (k u fr m1) B H1 φ1 m1 D := by
  obtain ⟨r, m', e, h⟩ := h
  unfold sBind at e
  cases q : f fr m with
  | none => rw [q] at e; cases e
  | some p =>
    obtain ⟨r1, m1⟩ := p
    rw [q] at e
    refine ⟨r1, m1, rfl, fun H1 φ1 n1 => ?_⟩
    cases r1 with
    | error x =>
      cases e
      exact h H1 φ1 n1 σ (S.nxt n1)
    | ok u =>
      intro v rv
      refine ⟨φ1, m1, u, n1, rv, r, m', e, fun H' φ' n => ?_⟩
      exact h H' φ' (n1.trans n)
theorem rxS.next (S : SOk c B H φ m σ fr) (h : rxS c W (sNext fr m) B H φ m D) : D.nx σ H := by
  obtain ⟨r, m', e, h⟩ := h
  cases e
  exact h H φ (.refl S.mem) σ S
/-- the readings say that the ends are wanted -/
theorem rxS.nxt {o : Option (SR × Mem)} (n1 : Nxt c B H φ m H1 φ1 m1) (h : ∃ r m', o = some (r, m') ∧ ∀ H' φ', Nxt c B H φ m H' φ' m' → match r with
    | .fl k fr' => ∀ σ', SOk c B H' φ' m' σ' fr' → fin c B H' φ' m' σ' D k
    | .ex x fr' => ∀ σ', SOk c B H' φ' m' σ' fr' → ∀ cls d, XRp c H' (LL B φ' m') x cls d → W cls d σ' H') : rxS c W o B H1 φ1 m1 D := by
  obtain ⟨r, m', e, h⟩ := h
  exact ⟨r, m', e, fun H' φ' n => h H' φ' (n1.trans n)⟩
end
section
variable {X : Cx} {W : WX} {e a b : Expr} {st : Stmt} {sts : List Stmt} {f : M U} {t : M Bool} {s1 s2 : MS} {pos : Pos}
theorem rdS.bind {α β : Type} {R : RR β α} {f : M α} {k : α → MS} {D : Ends} {σ : L2.St} {H : Hp} (h : rdS X W (sBind f k) D σ H) :
    rd R (cn X) W f σ H fun v H1 => ∃ B φ1 m1 fr u, SOk (cn X) B H1 φ1 m1 σ fr ∧ R (cn X) H1 (LL B φ1 m1) φ1 v u ∧ rxS (cn X) W (k u fr m1) B H1 φ1 m1 D := by
  obtain ⟨B, φ, m, fr, S, h⟩ := h
  exact ⟨B, φ, m, fr, S, (h.bind (R := R) S).mono fun v H1 ⟨φ1, m1, u, n, r, h⟩ => ⟨B, φ1, m1, fr, u, S.nxt n, r, h⟩⟩
theorem ss_nil : PSs X [] (rdS X W sNext) := PSs.wk pss_nil fun D σ H ⟨B, φ, m, fr, S, h⟩ => h.next S
theorem ss_cons (h1 : PS X st (rdS X W s1)) (h2 : PSs X sts (rdS X W s2)) : PSs X (st :: sts) (rdS X W (sSeq s1 s2)) := by
  refine PSs.wk (pss_cons h1 h2) fun D σ H ⟨B, φ, m, fr, S, r, m', e, h⟩ => ⟨B, φ, m, fr, S, ?_⟩
  unfold sSeq at e
  cases q : s1 fr m with
  | none => rw [q] at e; cases e
  | some p =>
    obtain ⟨r1, m1⟩ := p
    rw [q] at e
    refine ⟨r1, m1, rfl, fun H1 φ1 n1 => ?_⟩
    match r1, e with
    | .fl .nx fr1, e => exact fun σ1 S1 => ⟨B, φ1, m1, fr1, S1, r, m', e, fun H' φ' n => h H' φ' (n1.trans n)⟩
    | .fl .bk fr1, e => cases e; exact h H1 φ1 n1
    | .fl .ct fr1, e => cases e; exact h H1 φ1 n1
    | .fl (.rt u) fr1, e => cases e; exact h H1 φ1 n1
    | .ex x fr1, e => cases e; exact h H1 φ1 n1
theorem ss_one (h1 : PS X st (rdS X W s1)) : PSs X [st] (rdS X W s1) := pss_one h1
theorem s_never : PS X st (rdS X W sNever) := PS.wk ps_never fun D σ H ⟨B, φ, m, fr, S, r, m', e, h⟩ => nomatch e
theorem s_pass : PS X (.Pass pos) (rdS X W sNext) := PS.wk ps_pass fun D σ H ⟨B, φ, m, fr, S, h⟩ => h.next S
theorem s_break : PS X (.Break pos) (rdS X W sBreak) := PS.wk ps_break fun D σ H ⟨B, φ, m, fr, S, r, m', e, h⟩ => by cases e; exact h H φ (.refl S.mem) σ S
theorem s_cont : PS X (.Continue pos) (rdS X W sCont) := PS.wk ps_continue fun D σ H ⟨B, φ, m, fr, S, r, m', e, h⟩ => by cases e; exact h H φ (.refl S.mem) σ S
theorem s_expr (he : PE X e (rdE X W f)) (hs : swapsWith e none pos.line X.env = pure false := by rfl) : PS X (.Expr e pos) (rdS X W (sExpr f)) := by
  refine PS.wk (ps_expr he hs) fun D σ H h => ?_
  obtain ⟨B, φ, m, fr, S, h⟩ := h.bind (R := rrU)
  exact ⟨B, φ, m, fr, S, h.mono fun v H1 ⟨B, φ1, m1, fr, u, S1, ru, h1⟩ => h1.next S1⟩
theorem s_ret (he : PE X e (rdE X W f)) : PS X (.Return (some e) pos) (rdS X W (sRet f)) := by
  refine PS.wk (ps_ret he) fun D σ H h => ?_
  obtain ⟨B, φ, m, fr, S, h⟩ := h.bind (R := rrU)
  refine ⟨B, φ, m, fr, S, h.mono fun v H1 ⟨B, φ1, m1, fr, u, S1, ru, r, m', e, h1⟩ => ?_⟩
  cases e
  exact h1 H1 φ1 (.refl S1.mem) σ S1 v ru
theorem s_if {c : Expr} {as bs : List Stmt} (hc : PT X c (rdT X W t)) (ha : PSs X as (rdS X W s1)) (hb : PSs X bs (rdS X W s2)) : PS X (.If c as bs pos) (rdS X W (sIf t s1 s2)) := by
  refine PS.wk (ps_if hc ha hb) fun D σ H h => ?_
  obtain ⟨B, φ, m, fr, S, h⟩ := h.bind (R := rrB)
  refine ⟨B, φ, m, fr, S, h.mono fun v H1 ⟨B, φ1, m1, fr, u, S1, ru, h1⟩ => ?_⟩
  cases ru
  cases v with
  | true => exact ⟨B, φ1, m1, fr, S1, h1⟩
  | false => exact ⟨B, φ1, m1, fr, S1, h1⟩
/-- targets -/
def Chg (ss : List Nat) (σ σ' : L2.St) : Prop := σ'.length = σ.length ∧ ∀ i : Nat, i ∉ ss → σ'[i]? = σ[i]?
theorem Chg.refl (ss : List Nat) (σ : L2.St) : Chg ss σ σ := ⟨rfl, fun _ _ => rfl⟩
def rdG (X : Cx) (ss : List Nat) (g : Tg) : TG := fun v σ H Q => ∃ B φ m fr u fr', SOk (cn X) B H φ m σ fr ∧ Ru (cn X) H (LL B φ m) φ v u ∧ g u fr = some fr' ∧ ∀ σ', SOk (cn X) B H φ m σ' fr' → Chg ss σ σ' → Q σ' H
def rdGs (X : Cx) (ss : List Nat) (g : Tgs) : TGs := fun vs σ H Q => ∃ B φ m fr ts fr', SOk (cn X) B H φ m σ fr ∧ Rps (cn X) H (LL B φ m) vs ts ∧ g ts fr = some fr' ∧ ∀ σ', SOk (cn X) B H φ m σ' fr' → Chg ss σ σ' → Q σ' H
theorem PG.wk {e : Expr} {t t' : TG} (h : PG X e t) (w : ∀ v σ H Q, t' v σ H Q → t v σ H Q) : PG X e t' := ⟨fun pins s σ H v u Q I r q => h.run pins s σ H v u Q I r (w v σ H Q q)⟩
theorem PGs.wk {e : List Expr} {t t' : TGs} (h : PGs X e t) (w : ∀ v σ H Q, t' v σ H Q → t v σ H Q) : PGs X e t' := ⟨fun pins s σ H v u Q I r q => h.run pins s σ H v u Q I r (w v σ H Q q)⟩
theorem g_name {i : Nat} {x : Str} (hN : X.N.Nodup) (hi : X.N[i]? = some x) (hx : Loc X.env.scope x) (hf : X.fn x = true ∨ X.env.scope.names.lookup x = some .local := by first | exact .inl rfl | exact .inr rfl | assumption) : PG X (.Name x pos) (rdG X [i] (gN i)) := by
  refine PG.wk (pg_name hN hi hx hf) fun v σ H Q ⟨B, φ, m, fr, u, fr', S, ru, e, h⟩ => ?_
  cases e
  exact h _ (S.set i ru) ⟨by simp, fun j hj => List.getElem?_set_ne fun z => hj (by simp [z])⟩
theorem gs_nil : PGs X [] (rdGs X [] gNil) := PGs.wk pgs_nil fun v σ H Q ⟨B, φ, m, fr, ts, fr', S, ru, e, h⟩ => by
  cases ru with
  | nil => cases e; exact ⟨rfl, h σ S (.refl _ _)⟩
  | cons _ _ => cases e
theorem gs_cons {es : List Expr} {g : Tg} {gs : Tgs} {ss ss' : List Nat} (h1 : PG X e (rdG X ss g)) (h2 : PGs X es (rdGs X ss' gs)) (hs : (assignEach (e :: es) X.env).map (·.2) = assign e X.env :: (assignEach es X.env).map (·.2) := by rfl) : PGs X (e :: es) (rdGs X (ss ++ ss') (gCons g gs)) := by
  refine PGs.wk (pgs_cons h1 h2 hs) fun v σ H Q ⟨B, φ, m, fr, ts, fr', S, ru, e, h⟩ => ?_
  cases ru with
  | nil => cases e
  | @cons v t vs ts r rs =>
    unfold gCons at e
    dsimp only at e
    cases q : g (.v t) fr with
    | none => rw [q] at e; cases e
    | some fr1 =>
      rw [q] at e
      exact ⟨v, vs, rfl, B, φ, m, fr, .v t, fr1, S, .v r, q, fun σ1 S1 c1 => ⟨B, φ, m, fr1, ts, fr', S1, rs, e, fun σ2 S2 c2 => h σ2 S2 ⟨c2.1.trans c1.1, fun i hi => (c2.2 i fun z => hi (List.mem_append_right _ z)).trans (c1.2 i fun z => hi (List.mem_append_left _ z))⟩⟩⟩
theorem g_tup {es : List Expr} {k : Nat} {gs : Tgs} {n : Nat} {ss : List Nat} (hc : X.calm = true) (h : PGs X es (rdGs X ss gs)) (hl : ∀ ts fr fr', gs ts fr = some fr' → ts.length = n)
    (hn : (assignEach es X.env).length = n := by rfl) (hst : (assignEach es X.env).findIdx? (·.1) = none := by rfl) : PG X (.Tuple es k pos) (rdG X ss (gT gs)) := by
  refine PG.wk (pg_tup hc h hn hst) fun v σ H Q ⟨B, φ, m, fr, u, fr', S, ru, e, h⟩ => ?_
  unfold gT at e
  split at e
  · rename_i ts
    cases ru with
    | v r =>
      obtain ⟨a, vs, rfl, sq, rs⟩ := Vw.tup (.inl r)
      exact ⟨a, vs, rfl, .of sq, by rw [rs.length]; exact hl ts fr fr' e, B, φ, m, fr, ts, fr', S, rs, e, h⟩
  · rename_i ts
    cases ru with
    | v r =>
      obtain ⟨a, vs, rfl, sq, rs⟩ := Vw.rot (.inl r)
      exact ⟨a, vs, rfl, sq, by rw [rs.length]; exact hl ts fr fr' e, B, φ, m, fr, ts, fr', S, rs, e, h⟩
  · cases e
theorem gl_nil : ∀ ts fr fr', gNil ts fr = some fr' → ts.length = 0 := fun ts fr fr' e => by
  cases ts with
  | nil => rfl
  | cons _ _ => cases e
theorem gl_cons {g : Tg} {gs : Tgs} {n : Nat} (h : ∀ ts fr fr', gs ts fr = some fr' → ts.length = n) : ∀ ts fr fr', gCons g gs ts fr = some fr' → ts.length = n + 1 := fun ts fr fr' e => by
  cases ts with
  | nil => cases e
  | cons t r =>
    unfold gCons at e
    dsimp only at e
    cases q : g (.v t) fr with
    | none => rw [q] at e; cases e
    | some fr1 => rw [q] at e; simp [h r fr1 fr' e]
theorem rdS.asg {g : Tg} {ss : List Nat} {D : Ends} {σ : L2.St} {H : Hp} (h : rdS X W (sAsg f g) D σ H) : rdE X W f σ H fun x H1 => rdG X ss g x σ H1 D.nx := by
  obtain ⟨B, φ, m, fr, S, h⟩ := h.bind (R := rrU)
  refine ⟨B, φ, m, fr, S, h.mono fun v H1 ⟨B, φ1, m1, fr, u, S1, ru, r, m', e, h1⟩ => ?_⟩
  cases q : g u fr with
  | none => rw [q] at e; cases e
  | some fr' =>
    rw [q] at e; cases e
    exact ⟨B, φ1, m1, fr, u, fr', S1, ru, q, fun σ' S' _ => h1 H1 φ1 (.refl S1.mem) σ' S'⟩
theorem s_asg {tg : Expr} {g : Tg} {ss : List Nat} (he : PE X e (rdE X W f)) (hg : PG X tg (rdG X ss g)) (hs : swapsWithSole [tg] e pos.line X.env = pure false := by rfl) (hw : swappedStores [tg] e X.env = pure none := by rfl)
    (h1 : (assignEach [tg] X.env).map (·.2) = [assign tg X.env] := by rfl) : PS X (.Assign [tg] e pos) (rdS X W (sAsg f g)) :=
  PS.wk (ps_asg he hg hs hw h1) fun _ _ _ h => h.asg
theorem s_set {i : Nat} {x : Str} {pos' : Pos} (hN : X.N.Nodup) (hi : X.N[i]? = some x) (hx : Loc X.env.scope x) (he : PE X e (rdE X W f)) (hs : swapsWith e (some (.Name x pos')) pos.line X.env = pure false := by rfl) (hf : X.fn x = true ∨ X.env.scope.names.lookup x = some .local := by first | exact .inl rfl | exact .inr rfl | assumption) :
    PS X (.Assign [.Name x pos'] e pos) (rdS X W (sAsg f (gN i))) := by
  refine PS.wk (ps_set hN hi hx he hs hf) fun D σ H h => ?_
  obtain ⟨B, φ, m, fr, S, h⟩ := h.asg (ss := [i])
  refine ⟨B, φ, m, fr, S, h.mono fun v H1 ⟨B, φ1, m1, fr, u, fr', S1, ru, e, h1⟩ => ?_⟩
  cases e
  exact h1 _ (S1.set i ru) ⟨by simp, fun j hj => List.getElem?_set_ne fun z => hj (by simp [z])⟩
/-! ### while -/
theorem rdS.turn {again : MS} {D : Ends} {σ : L2.St} {H : Hp} {B : Addr → Prop} {φ : List Addr} {m : Mem} {fr : Fr} (S : SOk (cn X) B H φ m σ fr) (h : rxS (cn X) W (sTurn s1 again fr m) B H φ m D) :
    rdS X W s1 { D with nx := rdS X W again D, ct := rdS X W again D, bk := D.nx } σ H := by
  obtain ⟨r, m', e, h⟩ := h
  refine ⟨B, φ, m, fr, S, ?_⟩
  unfold sTurn at e
  cases q : s1 fr m with
  | none => rw [q] at e; cases e
  | some p =>
    obtain ⟨r1, m1⟩ := p
    rw [q] at e
    refine ⟨r1, m1, rfl, fun H1 φ1 n1 => ?_⟩
    match r1, e with
    | .fl .nx fr1, e => exact fun σ1 S1 => ⟨B, φ1, m1, fr1, S1, r, m', e, fun H' φ' n => h H' φ' (n1.trans n)⟩
    | .fl .ct fr1, e => exact fun σ1 S1 => ⟨B, φ1, m1, fr1, S1, r, m', e, fun H' φ' n => h H' φ' (n1.trans n)⟩
    | .fl .bk fr1, e => cases e; exact h H1 φ1 n1
    | .fl (.rt u) fr1, e => cases e; exact h H1 φ1 n1
    | .ex x fr1, e => cases e; exact h H1 φ1 n1
theorem s_while (n : Nat) {c : Expr} {body : List Stmt} (hp : PassesOwn (model X.prog X.w) X.A X.env X.xe) (hc : PT X c (rdT X W t)) (hb : PSs X body (rdS X W s1)) : PS X (.While c body [] pos) (rdS X W (sWhile n t s1)) := by
  refine PS.wk (ps_while hp hc hb) fun D σ H h => ?_
  refine ⟨fun k σ H => rdS X W (sWhile k t s1) D σ H, ⟨n, h⟩, fun k σ H h => ?_⟩
  cases k with
  | zero => obtain ⟨B, φ, m, fr, S, r, m', e, h⟩ := h; cases e
  | succ k =>
    obtain ⟨B, φ, m, fr, S, h⟩ := rdS.bind (R := rrB) h
    refine ⟨B, φ, m, fr, S, h.mono fun v H1 ⟨B, φ1, m1, fr, u, S1, ru, h1⟩ => ?_⟩
    cases ru
    cases v with
    | true => exact ⟨rdS X W (sWhile k t s1) D, fun σ' H' h' => ⟨k, Nat.lt_succ_self k, h'⟩, rdS.turn S1 h1⟩
    | false => exact h1.next S1
end
end G

/-! G4: locks, loops over things. -/
namespace G
open PySem PySem.Spec PyProof.Rows L2

/-! ### a cell that is walked is locked -/
section
variable {c : Cn} {B : Addr → Prop} {H H' : Hp} {φ φ' : List Addr} {m m1 : Mem} {a : Addr} {i : Nat} {t : C} {σ : L2.St} {fr : Fr}
theorem dead_get {j : Nat} {u : C} (e : (m.set i none)[j]? = some (some u)) : i ≠ j ∧ m[j]? = some (some u) := by
  rcases set_get e with ⟨_, z⟩ | z
  · cases z
  · exact z
theorem LL.lock (M : MOk c B H φ m) (hi : φ[i]? = some a) (hm : m[i]? = some (some t)) : LL (Bq B a) φ (m.set i none) = LL B φ m := by
  funext b
  refine propext ⟨fun z => ?_, fun z => ?_⟩
  · rcases z with (z | z) | ⟨j, u, e1, e2⟩
    · exact .inl z
    · subst z; exact .inr ⟨i, t, hi, hm⟩
    · exact .inr ⟨j, u, e1, (dead_get e2).2⟩
  · rcases z with z | ⟨j, u, e1, e2⟩
    · exact .inl (.inl z)
    · by_cases e : i = j
      · subst e; rw [hi] at e1; cases e1; exact .inl (.inr rfl)
      · exact .inr ⟨j, u, e1, by rw [List.getElem?_set_ne e]; exact e2⟩
theorem MOk.lock (M : MOk c B H φ m) (hi : φ[i]? = some a) (hm : m[i]? = some (some t)) : MOk c (Bq B a) H φ (m.set i none) := by
  refine ⟨by simp [M.len], fun j k b u w e1 e2 e3 e4 => M.inj j k b u w e1 e2 (dead_get e3).2 (dead_get e4).2, fun j b u e1 e2 z => ?_, fun j b u e1 e2 => ?_, fun b z => ?_⟩
  · rcases z with z | z
    · exact M.nb j b u e1 (dead_get e2).2 z
    · subst z; exact (dead_get e2).1 (M.inj i j b t u hi e1 hm (dead_get e2).2)
  · rw [LL.lock M hi hm]; exact M.cel j b u e1 (dead_get e2).2
  · rcases z with z | z
    · exact M.bt b z
    · subst z; exact (M.cel i b t hi hm).nt
theorem SOk.lock (S : SOk c B H φ m σ fr) (hi : φ[i]? = some a) (hm : m[i]? = some (some t)) : SOk c (Bq B a) H φ (m.set i none) σ fr :=
  ⟨S.mem.lock hi hm, S.len, by rw [LL.lock S.mem hi hm]; exact S.loc⟩
/-- the lock is taken off -/
theorem Nxt.unlockB {B0 : Addr → Prop} (M : MOk c B0 H φ m) (hB : ∀ a, B a → B0 a ∨ H a = none) (hi : φ[i]? = some a) (hm : m[i]? = some (some t)) (n : Nxt c (Bq B a) H φ (m.set i none) H' φ' m1) :
    Nxt c B H φ m H' φ' (m1.set i (some t)) ∧ LL B φ' (m1.set i (some t)) = LL (Bq B a) φ' m1 := by
  have hi' : φ'[i]? = some a := by
    obtain ⟨l, rfl⟩ := n.pre
    rw [List.getElem?_append_left (List.getElem?_eq_some_iff.mp hi).1]; exact hi
  have il : i < m1.length := by rw [← n.ok.len]; exact (List.getElem?_eq_some_iff.mp hi').1
  have dead : ∀ u, m1[i]? ≠ some (some u) := fun u e => n.ok.nb i a u hi' e (.inr rfl)
  have lsub : ∀ b, Lv φ (m.set i none) b → Lv φ m b := fun b ⟨j, u, e1, e2⟩ => ⟨j, u, e1, (dead_get e2).2⟩
  have get : ∀ {j : Nat} {u : C}, (m1.set i (some t))[j]? = some (some u) → (i = j ∧ u = t) ∨ (i ≠ j ∧ m1[j]? = some (some u)) := fun e => by
    rcases set_get e with ⟨e', z⟩ | z
    · cases z; exact .inl ⟨e', rfl⟩
    · exact .inr z
  have ll : LL B φ' (m1.set i (some t)) = LL (Bq B a) φ' m1 := by
    funext b
    refine propext ⟨fun z => ?_, fun z => ?_⟩
    · rcases z with z | ⟨j, u, e1, e2⟩
      · exact .inl (.inl z)
      · rcases get e2 with ⟨rfl, _⟩ | ⟨_, e2⟩
        · rw [hi'] at e1; cases e1; exact .inl (.inr rfl)
        · exact .inr ⟨j, u, e1, e2⟩
    · rcases z with (z | z) | ⟨j, u, e1, e2⟩
      · exact .inl z
      · subst z; exact .inr ⟨i, t, hi', by rw [List.getElem?_set_self il]⟩
      · refine .inr ⟨j, u, e1, ?_⟩
        rw [List.getElem?_set_ne fun e => by subst e; exact dead u e2]; exact e2
  have nla : ¬ Lv φ (m.set i none) a := fun ⟨j, u, e1, e2⟩ => (dead_get e2).1 (M.inj i j a t u hi e1 hm (dead_get e2).2)
  have ha : ∀ o, H a = some o → H' a = some o := fun o e => n.keep a o e nla
  refine ⟨⟨n.pre, fun b o e nl => n.keep b o e fun z => nl (lsub b z), fun b z => ?_, n.trk, n.fr, ⟨by simp [n.ok.len], fun j k b u w e1 e2 e3 e4 => ?_, fun j b u e1 e2 z => ?_, fun j b u e1 e2 => ?_, fun b z => n.ok.bt b (.inl z)⟩⟩, ll⟩
  · obtain ⟨j, u, e1, e2⟩ := z
    rcases get e2 with ⟨rfl, _⟩ | ⟨_, e2⟩
    · rw [hi'] at e1; cases e1; exact .inl ⟨i, t, hi, hm⟩
    · exact (n.sub b ⟨j, u, e1, e2⟩).imp (lsub b) id
  · rcases get e3 with ⟨rfl, _⟩ | ⟨_, f3⟩
    · rcases get e4 with ⟨rfl, _⟩ | ⟨_, f4⟩
      · rfl
      · rw [hi'] at e1; cases e1
        exact (n.ok.nb k a w e2 f4 (.inr rfl)).elim
    · rcases get e4 with ⟨rfl, _⟩ | ⟨_, f4⟩
      · rw [hi'] at e2; cases e2
        exact (n.ok.nb j a u e1 f3 (.inr rfl)).elim
      · exact n.ok.inj j k b u w e1 e2 f3 f4
  · rcases get e2 with ⟨rfl, _⟩ | ⟨_, f2⟩
    · rw [hi'] at e1; cases e1
      rcases hB a z with z | z
      · exact M.nb i a t hi hm z
      · exact M.lvt ⟨i, t, hi, hm⟩ z
    · exact n.ok.nb j b u e1 f2 (.inl z)
  · rw [ll]
    rcases get e2 with ⟨rfl, rfl⟩ | ⟨_, f2⟩
    · rw [hi'] at e1; cases e1
      refine (M.cel i a u hi hm).mono n.pre (fun b o nl e => ?_) ha
      have nlv : ¬ Lv φ (m.set i none) b := fun z => nl (.inr (lsub b z))
      refine ⟨fun z => ?_, o, n.keep b o e nlv, .inl rfl⟩
      rcases z with (z | z) | z
      · rcases hB b z with z | z
        · exact nl (.inl z)
        · rw [e] at z; cases z
      · subst z; exact nl (.inr ⟨i, u, hi, hm⟩)
      · rcases n.sub b z with z | z
        · exact nlv z
        · rw [e] at z; cases z
    · exact n.ok.cel j b u e1 f2
end
theorem Nxt.unlock {c : Cn} {B : Addr → Prop} {H H' : Hp} {φ φ' : List Addr} {m m1 : Mem} {a : Addr} {i : Nat} {t : C} (M : MOk c B H φ m) (hi : φ[i]? = some a) (hm : m[i]? = some (some t)) (n : Nxt c (Bq B a) H φ (m.set i none) H' φ' m1) :
    Nxt c B H φ m H' φ' (m1.set i (some t)) ∧ LL B φ' (m1.set i (some t)) = LL (Bq B a) φ' m1 := Nxt.unlockB M (fun _ z => .inl z) hi hm n
def lockO {β : Type} (i : Nat) (F : Mem → Option (β × Mem)) (m : Mem) : Option (β × Mem) := match m[i]? with
  | some (some t) => match F (m.set i none) with
    | some (r, m') => some (r, m'.set i (some t))
    | none => none
  | _ => none
def sLock (i : Nat) (s : MS) : MS := fun fr m => lockO i (s fr) m
def mLock {α : Type} (i : Nat) (s : M α) : M α := fun fr m => lockO i (s fr) m
section
variable {c : Cn} {W : WX} {B : Addr → Prop} {H H1 : Hp} {φ φ1 : List Addr} {m m1 : Mem} {σ : L2.St} {fr : Fr} {D : Ends} {i : Nat}
theorem lock_inv {β : Type} {m : Mem} {i : Nat} {F : Mem → Option (β × Mem)} {r : β} {m' : Mem} (e : lockO i F m = some (r, m')) :
    ∃ t m1, m[i]? = some (some t) ∧ F (m.set i none) = some (r, m1) ∧ m' = m1.set i (some t) := by
  unfold lockO at e
  split at e
  · rename_i t ht
    cases q : F (m.set i none) with
    | none => rw [q] at e; cases e
    | some p => obtain ⟨r1, m1⟩ := p; rw [q] at e; cases e; exact ⟨t, m1, ht, rfl, rfl⟩
  · cases e
theorem rxS.unlock {s : MS} (M : MOk c B H φ m) (h : rxS c W (sLock i s fr m) B H φ m D) : ∃ a t, φ[i]? = some a ∧ m[i]? = some (some t) ∧ rxS c W (s fr (m.set i none)) (Bq B a) H φ (m.set i none) D := by
  obtain ⟨r, m', e, h⟩ := h
  obtain ⟨t, m1, ht, q, rfl⟩ := lock_inv (F := s fr) e
  have il : i < φ.length := by rw [M.len]; exact (List.getElem?_eq_some_iff.mp ht).1
  have hi : φ[i]? = some φ[i] := List.getElem?_eq_getElem il
  refine ⟨φ[i], t, hi, ht, r, m1, q, fun H' φ' n => ?_⟩
  obtain ⟨n', ll⟩ := n.unlock M hi ht
  have hh := h H' φ' n'
  have sk : ∀ {σ' fr'}, SOk c (Bq B φ[i]) H' φ' m1 σ' fr' → SOk c B H' φ' (m1.set i (some t)) σ' fr' := fun S => ⟨n'.ok, S.len, by rw [ll]; exact S.loc⟩
  cases r with
  | fl k fr' =>
    intro σ' S
    have z := hh σ' (sk S)
    cases k with
    | rt u => unfold fin at z ⊢; rw [ll] at z; exact z
    | nx => exact z
    | bk => exact z
    | ct => exact z
  | ex x fr' =>
    intro σ' S
    have z := hh σ' (sk S)
    rw [ll] at z
    exact z
theorem rx.unlock {α β : Type} {R : RR β α} {s : M α} {Q : β → Hp → Prop} (M : MOk c B H φ m) (h : rx R c W (mLock i s fr m) B H φ m σ Q) : ∃ a t, φ[i]? = some a ∧ m[i]? = some (some t) ∧ rx R c W (s fr (m.set i none)) (Bq B a) H φ (m.set i none) σ Q := by
  obtain ⟨r, m', e, h⟩ := h
  obtain ⟨t, m1, ht, q, rfl⟩ := lock_inv (F := s fr) e
  have il : i < φ.length := by rw [M.len]; exact (List.getElem?_eq_some_iff.mp ht).1
  have hi : φ[i]? = some φ[i] := List.getElem?_eq_getElem il
  refine ⟨φ[i], t, hi, ht, r, m1, q, fun H' φ' n => ?_⟩
  obtain ⟨n', ll⟩ := n.unlock M hi ht
  have hh := h H' φ' n'
  rw [ll] at hh
  exact hh
end

/-! ### walks -/
def ItOk (c : Cn) (B : Addr → Prop) (H : Hp) (φ : List Addr) (m : Mem) (J : It) (ts : List T) : Prop :=
  ∀ B' H2 φ2 m2, (∀ a, B' a → B a ∨ H a = none) → Nxt c B' H φ m H2 φ2 m2 → (∀ i, i < ts.length → J.go i H2) ∧ J.stop ts.length H2 ∧
    ∀ i x H3, i < ts.length → J.yld i H2 x H3 → Nxt c B' H2 φ2 m2 H3 φ2 m2 ∧ ∃ t, ts[i]? = some t ∧ Rp c H3 (LL B' φ2 m2) x t
abbrev Src := List T × Option Nat
def lkB (B : Addr → Prop) (φ : List Addr) : Option Nat → Addr → Prop
  | none => B
  | some i => match φ[i]? with
    | some a => Bq B a
    | none => B
def lkM (m : Mem) : Option Nat → Mem
  | none => m
  | some i => m.set i none
def rdI (X : Cx) (W : WX) (f : M Src) : TI := fun σ H R => ∃ B φ m fr, SOk (cn X) B H φ m σ fr ∧ ∃ r m', f fr m = some (r, m') ∧ ∀ H' φ', Nxt (cn X) B H φ m H' φ' m' → match r with
  | .ok (ts, l) => ∀ J, ItOk (cn X) (lkB B φ' l) H' φ' (lkM m' l) J ts → R J H'
  | .error x => ∀ cls d, XRp (cn X) H' (LL B φ' m') x cls d → W cls d σ H'
def sFor (it : M Src) (g : Tg) (b : MS) : MS := sBind it fun
  | (ts, none) => sForL g b ts
  | (ts, some i) => sLock i (sForL g b ts)
section
variable {X : Cx} {W : WX} {tg iter : Expr} {body : List Stmt} {pos : Pos} {g : Tg} {b : MS} {it : M Src} {ss : List Nat}
theorem for_core {D : Ends} {σ : L2.St} {B : Addr → Prop} {H : Hp} {φ : List Addr} {m : Mem} {fr : Fr} {ts : List T} {J : It} (S : SOk (cn X) B H φ m σ fr) (hJ : ItOk (cn X) B H φ m J ts) (h : rxS (cn X) W (sForL g b ts fr m) B H φ m D) :
    ∃ W' : Nat → Nat → L2.St → Hp → Prop, (∃ m, W' 0 m σ H) ∧ ∀ i m σ H, W' i m σ H →
      (J.stop i H ∧ D.nx σ H) ∨ (J.go i H ∧ ∃ N : L2.St → Hp → Prop, (∀ σ' H', N σ' H' → ∃ m', m' < m ∧ W' (i + 1) m' σ' H') ∧ ∀ x H', J.yld i H x H' → rdG X ss g x σ H' fun σ2 H2 => rdS X W b { D with nx := N, ct := N, bk := D.nx } σ2 H2) := by
  let P : Nat → L2.St → Hp → Prop := fun i σ' H' => i ≤ ts.length ∧ ∃ φ' m' fr', Nxt (cn X) B H φ m H' φ' m' ∧ SOk (cn X) B H' φ' m' σ' fr' ∧ rxS (cn X) W (sForL g b (ts.drop i) fr' m') B H' φ' m' D
  refine ⟨fun i k σ' H' => k = ts.length - i ∧ P i σ' H', ⟨_, rfl, Nat.zero_le _, φ, m, fr, .refl S.mem, S, by simpa using h⟩, ?_⟩
  rintro i k σ1 H1 ⟨rfl, hi, φ1, m1, fr1, n1, S1, h1⟩
  obtain ⟨go, stop, yld⟩ := hJ B H1 φ1 m1 (fun _ z => .inl z) n1
  by_cases hlt : i < ts.length
  · refine .inr ⟨go i hlt, P (i + 1), fun σ' H' p => ⟨ts.length - (i + 1), by omega, rfl, p⟩, fun x H2 y => ?_⟩
    obtain ⟨n2, t, et, rt⟩ := yld i x H2 hlt y
    have ed : ts.drop i = t :: ts.drop (i + 1) := by
      rw [List.drop_eq_getElem_cons hlt]
      rw [List.getElem?_eq_getElem hlt] at et
      rw [Option.some.inj et]
    rw [ed] at h1
    obtain ⟨r, m', e, h1⟩ := h1
    unfold sForL at e
    cases q : g (.v t) fr1 with
    | none => rw [q] at e; cases e
    | some fr2 =>
      rw [q] at e
      refine ⟨B, φ1, m1, fr1, .v t, fr2, S1.nxt n2, .v rt, q, fun σ2 S2 _ => ?_⟩
      have h2 : rxS (cn X) W (sTurn b (sForL g b (ts.drop (i + 1))) fr2 m1) B H2 φ1 m1 D := ⟨r, m', e, fun H' φ' n => h1 H' φ' (n2.trans n)⟩
      obtain ⟨r, m', e, h3⟩ := h2
      unfold sTurn at e
      cases q : b fr2 m1 with
      | none => rw [q] at e; cases e
      | some p =>
        obtain ⟨r1, m2⟩ := p
        rw [q] at e
        refine ⟨B, φ1, m1, fr2, S2, r1, m2, q, fun H3 φ3 n3 => ?_⟩
        match r1, e with
        | .fl .nx fr3, e => exact fun σ3 S3 => ⟨hlt, φ3, m2, fr3, n1.trans (n2.trans n3), S3, r, m', e, fun H' φ' n => h3 H' φ' (n3.trans n)⟩
        | .fl .ct fr3, e => exact fun σ3 S3 => ⟨hlt, φ3, m2, fr3, n1.trans (n2.trans n3), S3, r, m', e, fun H' φ' n => h3 H' φ' (n3.trans n)⟩
        | .fl .bk fr3, e => cases e; exact h3 H3 φ3 n3
        | .fl (.rt u) fr3, e => cases e; exact h3 H3 φ3 n3
        | .ex x fr3, e => cases e; exact h3 H3 φ3 n3
  · have e : i = ts.length := by omega
    subst e
    rw [List.drop_length] at h1
    exact .inl ⟨stop, rxS.next S1 h1⟩
theorem s_for (hp : PassesOwn (model X.prog X.w) X.A X.env X.xe) (hc : X.calm = true) (hi : PI X tg iter (rdI X W it)) (hg : PG X tg (rdG X ss g)) (hb : PSs X body (rdS X W b))
    (hs : ∀ x, foldedSetIterable iter X.env x = pure x := by intro _; rfl) : PS X (.For tg iter body [] pos) (rdS X W (sFor it g b)) := by
  refine PS.wk (ps_for hp hc hi hg hb hs) fun D σ H ⟨B, φ, m, fr, S, r, m', e, h⟩ => ?_
  refine ⟨B, φ, m, fr, S, ?_⟩
  unfold sFor sBind at e
  cases q : it fr m with
  | none => rw [q] at e; cases e
  | some p =>
    obtain ⟨r1, m1⟩ := p
    rw [q] at e
    refine ⟨r1, m1, rfl, fun H1 φ1 n1 => ?_⟩
    match r1, e with
    | .error x, e => cases e; exact h H1 φ1 n1 σ (S.nxt n1)
    | .ok (ts, none), e => exact fun J hJ => for_core (S.nxt n1) hJ ⟨r, m', e, fun H' φ' n => h H' φ' (n1.trans n)⟩
    | .ok (ts, some i), e =>
      intro J hJ
      obtain ⟨a, t, hi, hm, h2⟩ := rxS.unlock (fr := fr) n1.ok ⟨r, m', e, fun H' φ' n => h H' φ' (n1.trans n)⟩
      have hJ' : ItOk (cn X) (Bq B a) H1 φ1 (m1.set i none) J ts := by
        have : lkB B φ1 (some i) = Bq B a := by unfold lkB; dsimp only; rw [hi]
        rw [← this]; exact hJ
      exact for_core ((S.nxt n1).lock hi hm) hJ' h2
theorem PI.wk {t t' : TI} (h : PI X tg iter t) (w : ∀ σ H R, t' σ H R → t σ H R) : PI X tg iter t' := ⟨fun pins s σ H R I q => h.run pins s σ H R I (w σ H R q)⟩
end
end G

/-! G5: what is walked; list comprehensions. -/
namespace G
open PySem PySem.Spec PyProof.Rows L2

section
variable {X : Cx} {W : WX} {e : Expr}
/-- a list's size lies within the line -/
theorem PE.szL {t : TE} (h : PE X e t) : PE X e (fun σ H Q => t σ H fun v H' => (∀ a vs, v = .ref a → SqL X.K H' a vs → vs.length ≤ sizeLine) → Q v H') := by
  refine ⟨fun pins s σ H Q I q => thn (h.run pins s σ H _ I q) fun u s' ⟨v, H', I', r, q'⟩ => ⟨v, H', I', r, q' fun a vs _ sq => ?_⟩⟩
  obtain ⟨_, _, _, z⟩ := I'.list sq
  exact z
theorem PE.szT {t : TE} (h : PE X e t) : PE X e (fun σ H Q => t σ H fun v H' => (∀ a vs, v = .ref a → SqT X.K H' a vs → vs.length ≤ sizeLine) → Q v H') := by
  refine ⟨fun pins s σ H Q I q => thn (h.run pins s σ H _ I q) fun u s' ⟨v, H', I', r, q'⟩ => ⟨v, H', I', r, q' fun a vs _ sq => ?_⟩⟩
  obtain ⟨_, _, _, z⟩ := I'.tuple sq
  exact z
theorem PA.szL {es : List Expr} {t : TA} (h : PA X es t) : PA X es (fun σ H Q => t σ H fun v H' => (∀ a vs, .ref a ∈ v → SqL X.K H' a vs → vs.length ≤ sizeLine) → Q v H') := by
  refine ⟨fun pos pins s σ H Q I q => thn (h.run pos pins s σ H _ I q) fun u s' ⟨v, H', I', r, q'⟩ => ⟨v, H', I', r, q' fun a vs _ sq => ?_⟩⟩
  obtain ⟨_, _, _, z⟩ := I'.list sq
  exact z
end
/-- as rdI, the number of items being within the line -/
def rdIz (X : Cx) (W : WX) (f : M Src) : TI := fun σ H R => ∃ B φ m fr, SOk (cn X) B H φ m σ fr ∧ ∃ r m', f fr m = some (r, m') ∧ ∀ H' φ', Nxt (cn X) B H φ m H' φ' m' → match r with
  | .ok (ts, l) => ∀ J, ItOk (cn X) (lkB B φ' l) H' φ' (lkM m' l) J ts → ts.length ≤ sizeLine → R J H'
  | .error x => ∀ cls d, XRp (cn X) H' (LL B φ' m') x cls d → W cls d σ H'
theorem PI.z {X : Cx} {W : WX} {tg iter : Expr} {f : M Src} (h : PI X tg iter (rdIz X W f)) : PI X tg iter (rdI X W f) := by
  refine PI.wk h fun σ H R ⟨B, φ, m, fr, S, r, m', e, h⟩ => ⟨B, φ, m, fr, S, r, m', e, fun H' φ' n => ?_⟩
  have := h H' φ' n
  cases r with
  | ok p => exact fun J hJ _ => this J hJ
  | error x => exact this

/-! ### lists that stand -/
section
variable {c : Cn} {B : Addr → Prop} {H H2 : Hp} {φ φ2 : List Addr} {m m2 : Mem} {a : Addr} {vs : List V} {ts : List T} {i : Nat}
/-- a tree that is a list -/
def isL : T → Option (List T)
  | .lst ts => some ts
  | .rol ts => some ts
  | _ => none
def isTp : T → Option (List T)
  | .tup ts => some ts
  | .rot ts => some ts
  | _ => none
theorem Rp.stL {x : V} {t : T} (r : Rp c H (LL B φ m) x t) (h : isL t = some ts) : ∃ a vs, x = .ref a ∧ Rps c H (LL B φ m) vs ts ∧ ∀ B' H2 φ2 m2, Nxt c B' H φ m H2 φ2 m2 → SqL c.K H2 a vs := by
  cases r with
  | lst nl r s => cases h; exact ⟨_, _, rfl, s, fun B' H2 φ2 m2 n => .of (n.keep _ _ r fun z => nl (.inr z))⟩
  | rolF nl r s => cases h; exact ⟨_, _, rfl, s, fun B' H2 φ2 m2 n => .inl (.inr ⟨_, n.keep _ _ r fun z => nl (.inr z)⟩)⟩
  | rol k s => cases h; exact ⟨_, _, rfl, s, fun _ _ _ _ _ => .inr k⟩
  | _ => cases h
theorem Rp.stT {x : V} {t : T} (r : Rp c H (LL B φ m) x t) (h : isTp t = some ts) : ∃ a vs, x = .ref a ∧ Rps c H (LL B φ m) vs ts ∧ ∀ B' H2 φ2 m2, Nxt c B' H φ m H2 φ2 m2 → SqT c.K H2 a vs := by
  cases r with
  | tup nl r s => cases h; exact ⟨_, _, rfl, s, fun B' H2 φ2 m2 n => .of (n.keep _ _ r fun z => nl (.inr z))⟩
  | rot k s => cases h; exact ⟨_, _, rfl, s, fun _ _ _ _ _ => .inr k⟩
  | _ => cases h
/-- a locked cell that is a list -/
theorem MOk.stL (M : MOk c B H φ m) (hi : φ[i]? = some a) (hm : m[i]? = some (some (.t (.lst ts)))) :
    ∃ vs, Rps c H (LL (Bq B a) φ (m.set i none)) vs ts ∧ SqL c.K H a vs ∧ ∀ B' H2 φ2 m2, Nxt c B' H φ (m.set i none) H2 φ2 m2 → SqL c.K H2 a vs := by
  obtain ⟨vs, e, r⟩ := M.cel i a _ hi hm
  have nla : ¬ Lv φ (m.set i none) a := fun ⟨j, u, e1, e2⟩ => (dead_get e2).1 (M.inj i j a _ u hi e1 hm (dead_get e2).2)
  refine ⟨vs, by rw [LL.lock M hi hm]; exact r, .of e, fun B' H2 φ2 m2 n => .of (n.keep a _ e nla)⟩
theorem Nxt.tup {x : V} {t : T} {q : Addr} {ws : List V} {us : List T} (n : Nxt c B H φ m H2 φ2 m2) (hq : H2 q = none) (r : Rps c H2 (LL B φ2 m2) ws us) :
    Nxt c B H φ m (upd H2 q (.tup ws)) φ2 m2 ∧ Rp c (upd H2 q (.tup ws)) (LL B φ2 m2) (.ref q) (.tup us) := by
  refine ⟨n.plus hq, .tup (n.ok.noL hq) upd_same (r.new hq).unB⟩
theorem ItOk.list (r : Rps c H (LL B φ m) vs ts) (st : ∀ B' H2 φ2 m2, Nxt c B' H φ m H2 φ2 m2 → SqL c.K H2 a vs) : ItOk c B H φ m (Itl c.K a) ts := fun B' H2 φ2 m2 hB n => by
  have sq := st B' H2 φ2 m2 n
  have w := walk_list (K := c.K) (a := a) (xs := vs)
  rw [r.length] at w
  refine ⟨fun i hi => w.goes i H2 hi sq, w.stops H2 sq, fun i x H3 hi y => ?_⟩
  obtain ⟨rfl, e⟩ := w.yields i H2 x H3 hi sq y
  obtain ⟨t, et, rt⟩ := (r.mono (n.monoB hB)).getV e
  exact ⟨.refl n.ok, t, et, rt⟩
theorem ItOk.tuple (r : Rps c H (LL B φ m) vs ts) (st : ∀ B' H2 φ2 m2, Nxt c B' H φ m H2 φ2 m2 → SqT c.K H2 a vs) : ItOk c B H φ m (Itt c.K a) ts := fun B' H2 φ2 m2 hB n => by
  have sq := st B' H2 φ2 m2 n
  have w := walk_tup (K := c.K) (a := a) (xs := vs)
  rw [r.length] at w
  refine ⟨fun i hi => w.goes i H2 hi sq, w.stops H2 sq, fun i x H3 hi y => ?_⟩
  obtain ⟨rfl, e⟩ := w.yields i H2 x H3 hi sq y
  obtain ⟨t, et, rt⟩ := (r.mono (n.monoB hB)).getV e
  exact ⟨.refl n.ok, t, et, rt⟩
def enumT (ts : List T) : List T := ts.mapIdx fun i t => .tup [.int i, t]
theorem ItOk.enum (r : Rps c H (LL B φ m) vs ts) (st : ∀ B' H2 φ2 m2, Nxt c B' H φ m H2 φ2 m2 → SqL c.K H2 a vs) : ItOk c B H φ m (Ite c.K a) (enumT ts) := fun B' H2 φ2 m2 hB n => by
  have sq := st B' H2 φ2 m2 n
  have w := walk_enum (K := c.K) (a := a) (xs := vs)
  have hl : (enumT ts).length = vs.length := by simp [enumT, r.length]
  rw [hl]
  refine ⟨fun i hi => w.goes i H2 hi sq, w.stops H2 sq, fun i x H3 hi y => ?_⟩
  obtain ⟨q, x1, x2, rfl, hq, rfl, e1, e2⟩ := w.yields i H2 x H3 hi sq y
  cases e1
  obtain ⟨t, et, rt⟩ := (r.mono (n.monoB hB)).getV e2
  obtain ⟨n3, r3⟩ := Nxt.tup (x := .non) (t := .non) (.refl n.ok) hq (.cons (.int (i : Nat)) (.cons rt .nil))
  exact ⟨n3, _, by simp [enumT, et], r3⟩
def zipT (ts us : List T) : List T := List.zipWith (fun t u => .tup [t, u]) ts us
theorem ItOk.zip {b : Addr} {ws : List V} {us : List T} (r : Rps c H (LL B φ m) vs ts) (st : ∀ B' H2 φ2 m2, Nxt c B' H φ m H2 φ2 m2 → SqL c.K H2 a vs) (r' : Rps c H (LL B φ m) ws us) (st' : ∀ B' H2 φ2 m2, Nxt c B' H φ m H2 φ2 m2 → SqL c.K H2 b ws) :
    ItOk c B H φ m (Itz c.K a b) (zipT ts us) := fun B' H2 φ2 m2 hB n => by
  have sq : SqL c.K H2 a vs ∧ SqL c.K H2 b ws := ⟨st B' H2 φ2 m2 n, st' B' H2 φ2 m2 n⟩
  have w := walk_zip (K := c.K) (a := a) (b := b) (xs := vs) (ys := ws) rfl
  have hl : (zipT ts us).length = min vs.length ws.length := by simp [zipT, r.length, r'.length]
  rw [hl]
  refine ⟨fun i hi => w.goes i H2 hi sq, w.stops H2 sq, fun i x H3 hi y => ?_⟩
  obtain ⟨q, x1, x2, rfl, hq, rfl, e1, e2⟩ := w.yields i H2 x H3 hi sq y
  obtain ⟨t, et, rt⟩ := (r.mono (n.monoB hB)).getV e1
  obtain ⟨t', et', rt'⟩ := (r'.mono (n.monoB hB)).getV e2
  obtain ⟨n3, r3⟩ := Nxt.tup (x := .non) (t := .non) (.refl n.ok) hq (.cons rt (.cons rt' .nil))
  exact ⟨n3, _, by simp [zipT, List.getElem?_zipWith, et, et'], r3⟩
def rangeT (lo : Int) (n : Nat) : List T := (List.range n).map fun k => .int (lo + (k : Nat))
theorem ItOk.range {lo : Int} {n : Nat} : ItOk c B H φ m (Itr lo n) (rangeT lo n) := fun B' H2 φ2 m2 hB nx => by
  have w := walk_range (lo := lo) (n := n)
  have hl : (rangeT lo n).length = n := by simp [rangeT]
  rw [hl]
  refine ⟨fun i hi => w.goes i H2 hi trivial, w.stops H2 trivial, fun i x H3 hi y => ?_⟩
  obtain ⟨rfl, rfl⟩ := w.yields i H2 x H3 hi trivial y
  exact ⟨.refl nx.ok, _, by simp [rangeT, hi], .int _⟩
def strT (z : Str) : List T := z.cps.toList.map fun c => .str ⟨#[c]⟩
theorem ItOk.str {z : Str} : ItOk c B H φ m (Its z) (strT z) := fun B' H2 φ2 m2 hB nx => by
  have w := walk_str (z := z)
  have hl : (strT z).length = z.cps.size := by simp [strT]
  rw [hl]
  refine ⟨fun i hi => w.goes i H2 hi trivial, w.stops H2 trivial, fun i x H3 hi y => ?_⟩
  obtain ⟨rfl, ch, ec, rfl⟩ := w.yields i H2 x H3 hi trivial y
  exact ⟨.refl nx.ok, _, by simp only [strT, List.getElem?_map, Array.getElem?_toList, ec, Option.map_some], .str _⟩
end

/-! ### the sources -/
def srcL (F : List T → List T) (u : U) : M Src := fun _ m => match u with
  | .v t => match isL t with
    | some ts => some (.ok (F ts, none), m)
    | none => none
  | .c i => match m[i]? with
    | some (some (.t (.lst ts))) => some (.ok (F ts, some i), m)
    | _ => none
def mItL (f : M U) : M Src := mBind f (srcL id)
def mItE (f : M (List U)) : M Src := mBind f fun
  | [u] => srcL enumT u
  | _ => stuck
def mItZ (f : M (List U)) : M Src := mBind f fun
  | [.v t, .v u] => match isL t, isL u with
    | some ts, some us => mPure (zipT ts us, none)
    | _, _ => stuck
  | _ => stuck
def mItT (f : M U) : M Src := mBind f fun
  | .v t => match isTp t with
    | some ts => mPure (ts, none)
    | none => stuck
  | _ => stuck
def mItS (f : M U) : M Src := mBind f fun
  | .v (.str z) => mPure (strT z, none)
  | _ => stuck
def rng1 (us : List U) : Option (List T) := match us with
  | [.v (.int j)] => if -(2 ^ 62) ≤ j ∧ j < 2 ^ 62 then some (rangeT 0 j.toNat) else none
  | _ => none
def rng2 (us : List U) : Option (List T) := match us with
  | [.v (.int i), .v (.int j)] => if -(2 ^ 62) ≤ i ∧ i < 2 ^ 62 ∧ -(2 ^ 62) ≤ j ∧ j < 2 ^ 62 then some (rangeT i (j - i).toNat) else none
  | _ => none
def mItR (F : List U → Option (List T)) (f : M (List U)) : M Src := mBind f fun us => match F us with
  | some ts => mPure (ts, none)
  | none => stuck
def mSmall (f : M Src) : M Src := mBind f fun s => if s.1.length ≤ sizeLine then mPure s else stuck
section
variable {X : Cx} {W : WX} {tg l : Expr} {es : List Expr} {f : M U} {fs : M (List U)} {x : Str} {p pos : Pos}
theorem i_list (hl : PE X l (rdE X W f)) : PI X tg l (rdIz X W (mItL f)) := by
  refine PI.wk (pi_list (PE.szL hl)) fun σ H R ⟨B, φ, m, fr, S, r, m', e, h⟩ => ?_
  unfold mItL mBind at e
  refine ⟨B, φ, m, fr, S, ?_⟩
  cases q : f fr m with
  | none => rw [q] at e; cases e
  | some pq =>
    obtain ⟨r1, m1⟩ := pq
    rw [q] at e
    refine ⟨r1, m1, rfl, fun H1 φ1 n1 => ?_⟩
    cases r1 with
    | error z => cases e; exact h H1 φ1 n1
    | ok u =>
      intro v ru sz
      cases ru with
      | @v v t rt =>
        unfold srcL at e
        dsimp only at e
        cases qt : isL t with
        | none => rw [qt] at e; cases e
        | some ts =>
          rw [qt] at e
          cases e
          obtain ⟨a, vs, rfl, rs, st⟩ := rt.stL qt
          have sq := st _ H1 φ1 _ (.refl n1.ok)
          refine ⟨a, rfl, ⟨vs, sq⟩, h H1 φ1 n1 (Itl X.K a) (.list rs st) ?_⟩
          have := sz a vs rfl sq
          rw [rs.length] at this
          exact this
      | @c a i hi =>
        unfold srcL at e
        dsimp only at e
        split at e
        · rename_i ts hm
          cases e
          obtain ⟨vs, rs, sq, st⟩ := n1.ok.stL hi hm
          have hB : lkB B φ1 (some i) = Bq B a := by unfold lkB; dsimp only; rw [hi]
          have h2 := h H1 φ1 n1
          dsimp only at h2
          rw [hB] at h2
          refine ⟨a, rfl, ⟨vs, sq⟩, h2 (Itl X.K a) (.list rs st) ?_⟩
          have := sz a vs rfl sq
          rw [rs.length] at this
          exact this
        · cases e
theorem i_tup (hl : PE X l (rdE X W f)) : PI X tg l (rdIz X W (mItT f)) := by
  refine PI.wk (pi_tup (PE.szT hl)) fun σ H R ⟨B, φ, m, fr, S, r, m', e, h⟩ => ?_
  unfold mItT mBind at e
  refine ⟨B, φ, m, fr, S, ?_⟩
  cases q : f fr m with
  | none => rw [q] at e; cases e
  | some pq =>
    obtain ⟨r1, m1⟩ := pq
    rw [q] at e
    refine ⟨r1, m1, rfl, fun H1 φ1 n1 => ?_⟩
    cases r1 with
    | error z => cases e; exact h H1 φ1 n1
    | ok u =>
      intro v ru sz
      match u, ru, e with
      | .v t, .v rt, e =>
        dsimp only at e
        cases qt : isTp t with
        | none => rw [qt] at e; cases e
        | some ts =>
        rw [qt] at e
        cases e
        obtain ⟨a, vs, rfl, rs, st⟩ := rt.stT qt
        have sq := st _ H1 φ1 _ (.refl n1.ok)
        refine ⟨a, rfl, ⟨vs, sq⟩, h H1 φ1 n1 (Itt X.K a) (.tuple rs st) ?_⟩
        have := sz a vs rfl sq
        rw [rs.length] at this
        exact this
theorem i_str (hl : PE X l (rdE X W f)) : PI X tg l (rdI X W (mItS f)) := by
  refine PI.wk (pi_str hl) fun σ H R ⟨B, φ, m, fr, S, r, m', e, h⟩ => ?_
  unfold mItS mBind at e
  refine ⟨B, φ, m, fr, S, ?_⟩
  cases q : f fr m with
  | none => rw [q] at e; cases e
  | some pq =>
    obtain ⟨r1, m1⟩ := pq
    rw [q] at e
    refine ⟨r1, m1, rfl, fun H1 φ1 n1 => ?_⟩
    cases r1 with
    | error z => cases e; exact h H1 φ1 n1
    | ok u =>
      intro v ru
      match u, ru, e with
      | .v (.str z), .v rt, e =>
        cases e
        cases rt
        exact ⟨z, rfl, h H1 φ1 n1 (Its z) .str⟩
theorem i_enum {elts : List Expr} {kk : Nat} {tpos : Pos} (hg : Gl X "enumerate") (hm : X.mg "enumerate" = none) (ha : PA X [l] (rdA X W fs)) (hs : starEach [l] X.env = [(false, eval l X.env)] := by rfl) : PI X (.Tuple elts kk tpos) (.Call (.Name "enumerate" p) [l] [] pos) (rdIz X W (mItE fs)) := by
  refine PI.wk (pi_enum hg hm (PA.szL ha) hs) fun σ H R ⟨B, φ, m, fr, S, r, m', e, h⟩ => ?_
  unfold mItE mBind at e
  refine ⟨B, φ, m, fr, S, ?_⟩
  cases q : fs fr m with
  | none => rw [q] at e; cases e
  | some pq =>
    obtain ⟨r1, m1⟩ := pq
    rw [q] at e
    refine ⟨r1, m1, rfl, fun H1 φ1 n1 => ?_⟩
    cases r1 with
    | error z => cases e; exact h H1 φ1 n1
    | ok us =>
      intro vs ru sz
      match us, ru, e with
      | [u], .cons ru .nil, e =>
        cases ru with
        | @v v t rt =>
          unfold srcL at e
          dsimp only at e
          cases qt : isL t with
          | none => rw [qt] at e; cases e
          | some ts =>
            rw [qt] at e
            cases e
            obtain ⟨a, vs, rfl, rs, st⟩ := rt.stL qt
            have sq := st _ H1 φ1 _ (.refl n1.ok)
            refine ⟨a, vs, rfl, sq, h H1 φ1 n1 (Ite X.K a) (.enum rs st) ?_⟩
            have := sz a vs (by simp) sq
            rw [rs.length] at this
            simpa [enumT] using this
        | @c a i hi =>
          unfold srcL at e
          dsimp only at e
          split at e
          · rename_i ts hm
            cases e
            obtain ⟨vs, rs, sq, st⟩ := n1.ok.stL hi hm
            have hB : lkB B φ1 (some i) = Bq B a := by unfold lkB; dsimp only; rw [hi]
            have h2 := h H1 φ1 n1
            dsimp only at h2
            rw [hB] at h2
            refine ⟨a, vs, rfl, sq, h2 (Ite X.K a) (.enum rs st) ?_⟩
            have := sz a vs (by simp) sq
            rw [rs.length] at this
            simpa [enumT] using this
          · cases e
theorem i_zip {elts : List Expr} {kk : Nat} {tpos : Pos} {l' : Expr} (hg : Gl X "zip") (hm : X.mg "zip" = none) (ha : PA X [l, l'] (rdA X W fs)) (hs : starEach [l, l'] X.env = (false, eval l X.env) :: starEach [l'] X.env := by rfl) (hs' : ((backTo pos (starEach [l'] X.env)).any fun x => x.fst) = false := by rfl) :
    PI X (.Tuple elts kk tpos) (.Call (.Name "zip" p) [l, l'] [] pos) (rdIz X W (mItZ fs)) := by
  refine PI.wk (pi_zip hg hm (PA.szL ha) hs hs') fun σ H R ⟨B, φ, m, fr, S, r, m', e, h⟩ => ?_
  unfold mItZ mBind at e
  refine ⟨B, φ, m, fr, S, ?_⟩
  cases q : fs fr m with
  | none => rw [q] at e; cases e
  | some pq =>
    obtain ⟨r1, m1⟩ := pq
    rw [q] at e
    refine ⟨r1, m1, rfl, fun H1 φ1 n1 => ?_⟩
    cases r1 with
    | error z => cases e; exact h H1 φ1 n1
    | ok us =>
      intro vs ru sz
      match us, ru, e with
      | [.v t, .v t'], .cons (.v rt) (.cons (.v rt') .nil), e =>
        dsimp only at e
        cases qt : isL t with
        | none => rw [qt] at e; cases e
        | some ts =>
        cases qt' : isL t' with
        | none => rw [qt, qt'] at e; cases e
        | some ts' =>
        rw [qt, qt'] at e
        cases e
        obtain ⟨a, vs, rfl, rs, st⟩ := rt.stL qt
        obtain ⟨a', vs', rfl, rs', st'⟩ := rt'.stL qt'
        have sq := st _ H1 φ1 _ (.refl n1.ok)
        have sq' := st' _ H1 φ1 _ (.refl n1.ok)
        refine ⟨a, a', vs, vs', rfl, sq, sq', h H1 φ1 n1 (Itz X.K a a') (.zip rs st rs' st') ?_⟩
        have := sz a vs (by simp) sq
        rw [rs.length] at this
        simp only [zipT, List.length_zipWith]
        omega
theorem i_range1 (hg : Gl X "range") (hm : X.mg "range" = none) (ha : PA X [l] (rdA X W fs)) (hs : starEach [l] X.env = [(false, eval l X.env)] := by rfl) : PI X tg (.Call (.Name "range" p) [l] [] pos) (rdI X W (mItR rng1 fs)) := by
  refine PI.wk (pi_range1 hg hm ha hs) fun σ H R ⟨B, φ, m, fr, S, r, m', e, h⟩ => ?_
  unfold mItR mBind at e
  refine ⟨B, φ, m, fr, S, ?_⟩
  cases q : fs fr m with
  | none => rw [q] at e; cases e
  | some pq =>
    obtain ⟨r1, m1⟩ := pq
    rw [q] at e
    refine ⟨r1, m1, rfl, fun H1 φ1 n1 => ?_⟩
    cases r1 with
    | error z => cases e; exact h H1 φ1 n1
    | ok us =>
      intro vs ru
      dsimp only at e
      cases q2 : rng1 us with
      | none => rw [q2] at e; cases e
      | some ts =>
        rw [q2] at e; cases e
        unfold rng1 at q2
        split at q2
        · rename_i j
          split at q2
          · rename_i hj
            cases q2
            cases ru with
            | cons ru rr =>
              cases rr
              cases ru with
              | v rt =>
                cases rt
                exact ⟨j, rfl, hj.1, hj.2, h H1 φ1 n1 (Itr 0 j.toNat) .range⟩
          · cases q2
        · cases q2
theorem i_range2 {l' : Expr} (hg : Gl X "range") (hm : X.mg "range" = none) (ha : PA X [l, l'] (rdA X W fs)) (hs : starEach [l, l'] X.env = [(false, eval l X.env), (false, eval l' X.env)] := by rfl) (hs' : starEach [l'] X.env = [(false, eval l' X.env)] := by rfl) : PI X tg (.Call (.Name "range" p) [l, l'] [] pos) (rdI X W (mItR rng2 fs)) := by
  refine PI.wk (pi_range2 hg hm ha hs hs') fun σ H R ⟨B, φ, m, fr, S, r, m', e, h⟩ => ?_
  unfold mItR mBind at e
  refine ⟨B, φ, m, fr, S, ?_⟩
  cases q : fs fr m with
  | none => rw [q] at e; cases e
  | some pq =>
    obtain ⟨r1, m1⟩ := pq
    rw [q] at e
    refine ⟨r1, m1, rfl, fun H1 φ1 n1 => ?_⟩
    cases r1 with
    | error z => cases e; exact h H1 φ1 n1
    | ok us =>
      intro vs ru
      dsimp only at e
      cases q2 : rng2 us with
      | none => rw [q2] at e; cases e
      | some ts =>
        rw [q2] at e; cases e
        unfold rng2 at q2
        split at q2
        · rename_i i j
          split at q2
          · rename_i hj
            cases q2
            cases ru with
            | cons ru rr =>
              cases rr with
              | cons ru' rr =>
                cases rr
                cases ru with
                | v rt =>
                  cases ru' with
                  | v rt' =>
                    cases rt
                    cases rt'
                    exact ⟨i, j, rfl, hj, h H1 φ1 n1 (Itr i (j - i).toNat) .range⟩
          · cases q2
        · cases q2
theorem i_small {it : Expr} {f : M Src} (h : PI X tg it (rdI X W f)) : PI X tg it (rdIz X W (mSmall f)) := by
  refine PI.wk h fun σ H R ⟨B, φ, m, fr, S, r, m', e, h⟩ => ?_
  unfold mSmall mBind at e
  refine ⟨B, φ, m, fr, S, ?_⟩
  cases q : f fr m with
  | none => rw [q] at e; cases e
  | some pq =>
    obtain ⟨r1, m1⟩ := pq
    rw [q] at e
    refine ⟨r1, m1, rfl, fun H1 φ1 n1 => ?_⟩
    cases r1 with
    | error z => cases e; exact h H1 φ1 n1
    | ok us =>
      dsimp only at e
      split at e
      · rename_i hs
        cases e
        exact fun J hJ => h H1 φ1 n1 J hJ hs
      · cases e
end
end G

/-! G6: new objects; displays; list comprehensions. -/
namespace G
open PySem PySem.Spec PyProof.Rows L2

/-- a new object, told by what it holds -/
def rxN (c : Cn) (W : WX) (o : Res C) (B : Addr → Prop) (H : Hp) (φ : List Addr) (m : Mem) (σ : L2.St) (Q : VK) : Prop :=
  ∃ r m', o = some (r, m') ∧ match r with
    | .ok t => ∀ H' φ' q, H q = none → Nxt c (Bq B q) H φ m H' φ' m' → Cel c H' (LL (Bq B q) φ' m') φ' q t → Q (.ref q) H'
    | .error x => ∀ H' φ', Nxt c B H φ m H' φ' m' → ∀ cls d, XRp c H' (LL B φ' m') x cls d → W cls d σ H'
def rdN (X : Cx) (W : WX) (f : M C) : TE := fun σ H Q => ∃ B φ m fr, SOk (cn X) B H φ m σ fr ∧ rxN (cn X) W (f fr m) B H φ m σ Q
def mFz (f : M C) : M U := mBind f fun ct => match toT ct with
  | some t => mPure (.v t)
  | none => stuck
def mCl (f : M C) : M U := mBind f fun t _ m => some (.ok (.c m.length), m ++ [some t])
section
variable {X : Cx} {W : WX} {e : Expr} {es : List Expr} {f : M C} {pos : Pos}
theorem e_fz (h : PE X e (rdN X W f)) : PE X e (rdE X W (mFz f)) := by
  refine PE.wk h fun σ H Q ⟨B, φ, m, fr, S, r, m', e, h⟩ => ⟨B, φ, m, fr, S, ?_⟩
  unfold mFz mBind at e
  cases q : f fr m with
  | none => rw [q] at e; cases e
  | some p =>
    obtain ⟨r1, m1⟩ := p
    rw [q] at e
    refine ⟨r1, m1, rfl, ?_⟩
    cases r1 with
    | error x => cases e; exact h
    | ok ct =>
      dsimp only at e
      cases q2 : toT ct with
      | none => rw [q2] at e; cases e
      | some t =>
        rw [q2] at e; cases e
        exact fun H' φ' q hq n hc => h H' φ' n.unB _ (.v (n.tree (S.mem.noB hq) hc q2))
theorem e_cl (h : PE X e (rdN X W f)) : PE X e (rdE X W (mCl f)) := by
  refine PE.wk h fun σ H Q ⟨B, φ, m, fr, S, r, m', e, h⟩ => ⟨B, φ, m, fr, S, ?_⟩
  unfold mCl mBind at e
  cases q : f fr m with
  | none => rw [q] at e; cases e
  | some p =>
    obtain ⟨r1, m1⟩ := p
    rw [q] at e
    refine ⟨r1, m1, rfl, ?_⟩
    cases r1 with
    | error x => cases e; exact h
    | ok t =>
      cases e
      intro H' φ' q hq n hc
      refine h H' (φ' ++ [q]) (n.cell (S.mem.noB hq) hq hc) _ (.c ?_)
      rw [List.getElem?_append_right (by rw [n.ok.len]; exact Nat.le_refl _), n.ok.len]
      simp
def allV : List U → Option (List T)
  | [] => some []
  | .v t :: us => match allV us with
    | some ts => some (t :: ts)
    | none => none
  | .c _ :: _ => none
theorem Rus.allV {c : Cn} {H : Hp} {L : Addr → Prop} {φ : List Addr} : ∀ {vs : List V} {us : List U} {ts : List T}, Rus c H L φ vs us → G.allV us = some ts → Rps c H L vs ts
  | _, _, _, .nil, e => by cases e; exact .nil
  | _, _, _, @Rus.cons _ _ _ _ v u vs us r rs, e => by
    match u, r, e with
    | .v t, .v r, e =>
      unfold G.allV at e
      cases q : G.allV us with
      | none => rw [q] at e; cases e
      | some ts => rw [q] at e; cases e; exact .cons r (rs.allV q)
def mLst (f : M (List U)) : M C := mBind f fun us => match allV us with
  | some ts => if ts.length ≤ sizeLine then mPure (.t (.lst ts)) else stuck
  | none => stuck
def mTup (f : M (List U)) : M U := mBind f fun us => match allV us with
  | some ts => if ts.length ≤ sizeLine then mPure (.v (.tup ts)) else stuck
  | none => stuck
theorem e_lst {f : M (List U)} (h : PA X es (rdA X W f)) : PE X (.List es pos) (rdN X W (mLst f)) := by
  refine PE.wk (pe_lst h) fun σ H Q ⟨B, φ, m, fr, S, r, m', e, h⟩ => ⟨B, φ, m, fr, S, ?_⟩
  unfold mLst mBind at e
  cases q : f fr m with
  | none => rw [q] at e; cases e
  | some p =>
    obtain ⟨r1, m1⟩ := p
    rw [q] at e
    refine ⟨r1, m1, rfl, fun H1 φ1 n1 => ?_⟩
    cases r1 with
    | error x => cases e; exact h H1 φ1 n1
    | ok us =>
      intro vs ru
      dsimp only at e
      cases q2 : allV us with
      | none => rw [q2] at e; cases e
      | some ts =>
        rw [q2] at e
        dsimp only at e
        split at e
        · rename_i hs
          cases e
          have rs := ru.allV q2
          refine ⟨by rw [rs.length]; exact hs, fun p hp => ?_⟩
          exact h _ φ1 p (n1.fresh hp) (n1.new hp) ⟨vs, upd_same, rs.new hp⟩
        · cases e
theorem e_tup {f : M (List U)} {k} (h : PA X es (rdA X W f)) : PE X (.Tuple es k pos) (rdE X W (mTup f)) := by
  refine PE.wk (pe_tup h) fun σ H Q ⟨B, φ, m, fr, S, r, m', e, h⟩ => ⟨B, φ, m, fr, S, ?_⟩
  unfold mTup mBind at e
  cases q : f fr m with
  | none => rw [q] at e; cases e
  | some p =>
    obtain ⟨r1, m1⟩ := p
    rw [q] at e
    refine ⟨r1, m1, rfl, fun H1 φ1 n1 => ?_⟩
    cases r1 with
    | error x => cases e; exact h H1 φ1 n1
    | ok us =>
      intro vs ru
      dsimp only at e
      cases q2 : allV us with
      | none => rw [q2] at e; cases e
      | some ts =>
        rw [q2] at e
        dsimp only at e
        split at e
        · rename_i hs
          cases e
          have rs := ru.allV q2
          refine ⟨by rw [rs.length]; exact hs, fun p hp => ?_⟩
          obtain ⟨n2, r2⟩ := Nxt.tup (x := .non) (t := .non) n1 hp rs
          exact h _ φ1 n2 _ (.v r2)
        · cases e
end

theorem Nxt.transB {c : Cn} {B : Addr → Prop} {H H1 H2 : Hp} {φ φ1 φ2 : List Addr} {m m1 m2 : Mem} {D : Addr} (a : Nxt c B H φ m H1 φ1 m1) (hD : H1 D = none) (b : Nxt c (Bq B D) H1 φ1 m1 H2 φ2 m2) : Nxt c (Bq B D) H φ m H2 φ2 m2 := by
  have t := a.trans b.unB
  exact ⟨t.pre, t.keep, t.sub, t.trk, t.fr, b.ok⟩
/-! ### list comprehensions -/
def wipeT (fr : Fr) : List Nat → Fr
  | [] => fr
  | v :: vs => (wipeT fr vs).set v none
theorem wipeT_length (fr : Fr) : ∀ vs : List Nat, (wipeT fr vs).length = fr.length
  | [] => rfl
  | v :: vs => by unfold wipeT; rw [List.length_set, wipeT_length fr vs]
theorem wipeT_some {fr : Fr} {i : Nat} {x : U} : ∀ {vs : List Nat}, (wipeT fr vs)[i]? = some (some x) → fr[i]? = some (some x) ∧ i ∉ vs
  | [], h => ⟨h, by simp⟩
  | v :: vs, h => by
    unfold wipeT at h
    by_cases e : v = i
    · subst e
      have hl : v < (wipeT fr vs).length := by have := (List.getElem?_eq_some_iff.mp h).1; simpa using this
      rw [List.getElem?_set_self hl] at h; cases h
    · rw [List.getElem?_set_ne e] at h
      obtain ⟨h1, h2⟩ := wipeT_some h
      exact ⟨h1, fun z => (List.mem_cons.mp z).elim (fun z => e z.symm) h2⟩
theorem SOk.wipe {c : Cn} {B : Addr → Prop} {H : Hp} {φ : List Addr} {m : Mem} {σ : L2.St} {fr : Fr} (S : SOk c B H φ m σ fr) (vs : List Nat) : SOk c B H φ m (wipe σ vs) (wipeT fr vs) := by
  refine ⟨S.mem, by rw [wipeT_length, wipe_length, S.len], fun i u e => ?_⟩
  obtain ⟨e1, e2⟩ := wipeT_some e
  obtain ⟨v, e3, r⟩ := S.loc i u e1
  exact ⟨v, by rw [wipe_out e2]; exact e3, r⟩
theorem Chg.wipe {ss vs : List Nat} {σ σ' : L2.St} (h : Chg ss (wipe σ vs) σ') (hs : ∀ i ∈ ss, i ∈ vs) : L2.wipe σ' vs = L2.wipe σ vs := by
  have hl : σ'.length = σ.length := by rw [h.1, wipe_length]
  apply List.ext_getElem?
  intro i
  by_cases hi : i ∈ vs
  · have key : ∀ (τ : L2.St), i < τ.length → ∀ ws : List Nat, i ∈ ws → (L2.wipe τ ws)[i]? = some none := by
      intro τ ht ws
      induction ws with
      | nil => intro z; cases z
      | cons w ws ih =>
        intro z
        unfold L2.wipe
        by_cases e : w = i
        · subst e; rw [List.getElem?_set_self (by rw [wipe_length]; exact ht)]
        · rw [List.getElem?_set_ne e]
          exact ih ((List.mem_cons.mp z).resolve_left fun z => e z.symm)
    by_cases hl2 : i < σ.length
    · rw [key σ' (by omega) vs hi, key σ hl2 vs hi]
    · rw [List.getElem?_eq_none (by rw [wipe_length]; omega), List.getElem?_eq_none (by rw [wipe_length]; omega)]
  · rw [wipe_out hi, wipe_out hi, h.2 i fun z => hi (hs i z), wipe_out hi]
def compL (g : Tg) (t : M Bool) (e : M U) (fr0 : Fr) : List T → Mem → Option (List T × Mem)
  | [], m => some ([], m)
  | x :: xs, m => match g (.v x) fr0 with
    | none => none
    | some fr' => match t fr' m with
      | some (.ok true, m1) => match e fr' m1 with
        | some (.ok (.v y), m2) => match compL g t e fr0 xs m2 with
          | some (ys, m3) => some (y :: ys, m3)
          | none => none
        | _ => none
      | some (.ok false, m1) => compL g t e fr0 xs m1
      | _ => none
def compM (g : Tg) (t : M Bool) (e : M U) (vs : List Nat) (ts : List T) : M C := fun fr m => match compL g t e (wipeT fr vs) ts m with
  | some (ys, m') => some (.ok (.t (.lst ys)), m')
  | none => none
def mComp (it : M Src) (g : Tg) (t : M Bool) (e : M U) (vs : List Nat) : M C := mBind it fun
  | (ts, none) => compM g t e vs ts
  | (ts, some i) => mLock i (compM g t e vs ts)
def mYes : M Bool := mPure true
abbrev W0 : WX := fun _ _ _ _ => False
section
variable {X : Cx} {W : WX} {tg iter elt : Expr} {ifs : List Expr} {scope : Scope} {own : List (Str × Nat)} {pos : Pos} {g : Tg} {t : M Bool} {e : M U} {it : M Src} {ss : List Nat}
/-- the block's context -/
abbrev Bk (X : Cx) (scope : Scope) (s : Shared) (H : Hp) (C : Addr) (cl : List (Str × Addr)) (fp : List Addr) : Cx := X.blk s H scope (compEnvC scope cl C X.env) fp
theorem comp_core {vs : List Nat} {σ : L2.St} {B : Addr → Prop} {H1 : Hp} {φ1 : List Addr} {m1 m2 : Mem} {fr : Fr} {ts ys : List T} {J : It} {Qd : V → Hp → Prop} {c : Cn}
    (S : SOk c B H1 φ1 m1 σ fr) (hJ : ItOk c B H1 φ1 m1 J ts) (hz : ts.length ≤ sizeLine) (hs : ∀ i ∈ ss, i ∈ vs) (hcl : compL g t e (wipeT fr vs) ts m1 = some (ys, m2)) (D : Addr) (hD : H1 D = none)
    (hQ : ∀ H' φ', Nxt c (Bq B D) H1 φ1 m1 H' φ' m2 → Cel c H' (LL (Bq B D) φ' m2) φ' D (.t (.lst ys)) → Qd (.ref D) H') :
    ∃ W' : Nat → Nat → Hp → Prop, (∃ m, W' 0 m (upd H1 D (.lst []))) ∧ ∀ i m H, W' i m H →
      (J.stop i H ∧ Qd (.ref D) H) ∨ (J.go i H ∧ ∃ Nx : Hp → Prop, (∀ H', Nx H' → ∃ m', m' < m ∧ W' (i + 1) m' H') ∧ ∀ x H', J.yld i H x H' →
        (∃ B φ m fr u fr', SOk c B H' φ m (wipe σ vs) fr ∧ Ru c H' (LL B φ m) φ x u ∧ g u fr = some fr' ∧ ∀ σ2, SOk c B H' φ m σ2 fr' → Chg ss (wipe σ vs) σ2 → wipe σ2 vs = wipe σ vs ∧
          rd rrB c W0 t σ2 H' fun b H3 => if b = true then rd rrU c W0 e σ2 H3 fun y H4 => ∃ acc, H4 D = some (.lst acc) ∧ acc.length < sizeLine ∧ Nx (upd H4 D (.lst (acc ++ [y]))) else Nx H3)) := by
  have n0 : Nxt c (Bq B D) H1 φ1 m1 (upd H1 D (.lst [])) φ1 m1 := Nxt.new (.refl S.mem) hD
  have hB1 : ∀ a, Bq B D a → B a ∨ H1 a = none := fun a z => z.imp id fun z => by rw [z]; exact hD
  let P : Nat → Hp → Prop := fun i H => i ≤ ts.length ∧ ∃ φ' m' av at' rest, Nxt c (Bq B D) H1 φ1 m1 H φ' m' ∧ H D = some (.lst av) ∧ Rps c H (LL (Bq B D) φ' m') av at' ∧ av.length ≤ i ∧
    compL g t e (wipeT fr vs) (ts.drop i) m' = some (rest, m2) ∧ ys = at' ++ rest
  refine ⟨fun i k H => k = ts.length - i ∧ P i H, ⟨_, rfl, Nat.zero_le _, φ1, m1, [], [], ys, n0, upd_same, .nil, Nat.le_refl _, by simpa using hcl, by simp⟩, ?_⟩
  rintro i k H ⟨rfl, hi, φ', m', av, at', rest, n, eD, ra, la, hc, ey⟩
  obtain ⟨go, stop, yld⟩ := hJ (Bq B D) H φ' m' hB1 n
  by_cases hlt : i < ts.length
  · refine .inr ⟨go i hlt, P (i + 1), fun H' p => ⟨ts.length - (i + 1), by omega, rfl, p⟩, fun x H2 y => ?_⟩
    obtain ⟨n2, tx, et, rt⟩ := yld i x H2 hlt y
    have ed : ts.drop i = tx :: ts.drop (i + 1) := by
      rw [List.drop_eq_getElem_cons hlt]
      rw [List.getElem?_eq_getElem hlt] at et
      rw [Option.some.inj et]
    rw [ed] at hc
    unfold compL at hc
    cases q : g (.v tx) (wipeT fr vs) with
    | none => rw [q] at hc; cases hc
    | some fr2 =>
      rw [q] at hc
      dsimp only at hc
      have S2 : SOk c (Bq B D) H2 φ' m' (wipe σ vs) (wipeT fr vs) := ((S.nxtB hB1 n).nxt n2).wipe vs
      refine ⟨Bq B D, φ', m', wipeT fr vs, .v tx, fr2, S2, .v rt, q, fun σ2 S3 ch => ⟨ch.wipe hs, ?_⟩⟩
      cases q1 : t fr2 m' with
      | none => rw [q1] at hc; cases hc
      | some p =>
        obtain ⟨rb, m3⟩ := p
        rw [q1] at hc
        match rb, hc with
        | .ok false, hc =>
          refine ⟨Bq B D, φ', m', fr2, S3, .ok false, m3, q1, fun H3 φ3 n3 b eb => ?_⟩
          cases eb
          refine ⟨hlt, φ3, m3, av, at', rest, n.trans (n2.trans n3), ?_, (ra.nxt n2).nxt n3, by omega, hc, ey⟩
          have k2 := n2.keep D _ eD (fun ⟨j, u, e1, e2⟩ => n2.ok.nb j D u e1 e2 (.inr rfl))
          exact n3.keep D _ k2 (fun ⟨j, u, e1, e2⟩ => n2.ok.nb j D u e1 e2 (.inr rfl))
        | .ok true, hc =>
          refine ⟨Bq B D, φ', m', fr2, S3, .ok true, m3, q1, fun H3 φ3 n3 b eb => ?_⟩
          cases eb
          dsimp only at hc
          cases q2 : e fr2 m3 with
          | none => rw [q2] at hc; cases hc
          | some p =>
            obtain ⟨re, m4⟩ := p
            rw [q2] at hc
            match re, hc with
            | .ok (.v y), hc =>
              dsimp only at hc
              cases q3 : compL g t e (wipeT fr vs) (ts.drop (i + 1)) m4 with
              | none => rw [q3] at hc; cases hc
              | some p =>
                obtain ⟨ys', m5⟩ := p
                rw [q3] at hc
                cases hc
                refine ⟨Bq B D, φ3, m3, fr2, S3.nxt n3, .ok (.v y), m4, q2, fun H4 φ4 n4 v rv => ?_⟩
                have k2 := n2.keep D _ eD (fun ⟨j, u, e1, e2⟩ => n2.ok.nb j D u e1 e2 (.inr rfl))
                have k3 := n3.keep D _ k2 (fun ⟨j, u, e1, e2⟩ => n2.ok.nb j D u e1 e2 (.inr rfl))
                have k4 := n4.keep D _ k3 (fun ⟨j, u, e1, e2⟩ => n3.ok.nb j D u e1 e2 (.inr rfl))
                have n5 := n.trans (n2.trans (n3.trans n4))
                refine ⟨av, k4, by omega, hlt, φ4, m4, av ++ [v], at' ++ [y], ys', n5.updB (.inr rfl) (.inl hD), upd_same, ?_, by simp; omega, q3, by simp [ey]⟩
                · cases rv with
                  | v rv => exact ((((ra.nxt n2).nxt n3).nxt n4).append (.one rv)).upd (.inl (.inr rfl))
  · have e0 : i = ts.length := by omega
    subst e0
    rw [List.drop_length] at hc
    cases hc
    refine .inl ⟨stop, hQ H φ' n ⟨av, eD, ?_⟩⟩
    rw [ey, List.append_nil]; exact ra
theorem ts_nil : PTs X [] (rdT X W mYes) := ⟨fun pins s σ H Q I ⟨B, φ, m, fr, S, h⟩ => pts_nil.run pins s σ H Q I (rx.pure (R := rrB) S.mem h _ rfl)⟩
theorem ts_one {c : Expr} {t : M Bool} (h : PT X c (rdT X W t)) : PTs X [c] (rdT X W t) := pts_one h
theorem rd_comp {vs : List Nat} {σ : L2.St} {H : Hp} {Q : VK} (hs : ∀ i ∈ ss, i ∈ vs) (h : rdN X W (mComp it g t e vs) σ H Q) : tLc (rdIz X W it) (rdG X ss g) (rdT X W0 t) (rdE X W0 e) vs σ H Q := by
  obtain ⟨B, φ, m, fr, S, r, m', e1, h⟩ := h
  refine ⟨B, φ, m, fr, S, ?_⟩
  unfold mComp mBind at e1
  cases q : it fr m with
  | none => rw [q] at e1; cases e1
  | some p =>
    obtain ⟨r1, m1⟩ := p
    rw [q] at e1
    refine ⟨r1, m1, rfl, fun H1 φ1 n1 => ?_⟩
    match r1, e1 with
    | .error x, e1 => cases e1; exact h H1 φ1 n1
    | .ok (ts, none), e1 =>
      intro J hJ hz D hD
      dsimp only at e1
      unfold compM at e1
      cases q2 : compL g t e (wipeT fr vs) ts m1 with
      | none => rw [q2] at e1; cases e1
      | some p =>
        obtain ⟨ys, m2⟩ := p
        rw [q2] at e1; cases e1
        obtain ⟨W', h0, hW⟩ := comp_core (S.nxt n1) hJ hz hs q2 D hD (Qd := Q) fun H' φ' n2 hc => h H' φ' D (n1.fresh hD) (n1.transB hD n2) hc
        exact ⟨W', h0, hW⟩
    | .ok (ts, some i), e1 =>
      intro J hJ hz D hD
      dsimp only at e1
      obtain ⟨tc, m2, hm, e2, rfl⟩ := lock_inv (F := compM g t e vs ts fr) e1
      have il : i < φ1.length := by rw [n1.ok.len]; exact (List.getElem?_eq_some_iff.mp hm).1
      have hi : φ1[i]? = some φ1[i] := List.getElem?_eq_getElem il
      have hB : lkB B φ1 (some i) = Bq B φ1[i] := by unfold lkB; dsimp only; rw [hi]
      rw [hB] at hJ
      unfold compM at e2
      cases q2 : compL g t e (wipeT fr vs) ts (m1.set i none) with
      | none => rw [q2] at e2; cases e2
      | some p =>
        obtain ⟨ys, m3⟩ := p
        rw [q2] at e2; cases e2
        have bqc : Bq (Bq B φ1[i]) D = Bq (Bq B D) φ1[i] := by
          funext a; unfold Bq; exact propext ⟨fun z => z.elim (fun z => z.elim (fun z => .inl (.inl z)) .inr) fun z => .inl (.inr z), fun z => z.elim (fun z => z.elim (fun z => .inl (.inl z)) .inr) fun z => .inl (.inr z)⟩
        obtain ⟨W', h0, hW⟩ := comp_core ((S.nxt n1).lock hi hm) hJ hz hs q2 D hD (Qd := Q) fun H' φ' n2 hc => by
          rw [bqc] at n2 hc
          obtain ⟨n3, ll⟩ := Nxt.unlockB n1.ok (B := Bq B D) (fun a z => z.imp id fun z => by rw [z]; exact hD) hi hm n2
          exact h H' φ' D (n1.fresh hD) (n1.transB hD n3) (by rw [ll]; exact hc)
        exact ⟨W', h0, hW⟩
theorem e_comp (vs : List Nat) (hc : X.calm = true) (hN : X.N.Nodup) (hi : PI X tg iter (rdIz X W it)) (ok : BlkOk X.N X.env.scope scope own)
    (hg : ∀ s H C cl fp, PG (Bk X scope s H C cl fp) tg (rdG X ss g)) (ht : ∀ s H C cl fp, PTs (Bk X scope s H C cl fp) ifs (rdT X W0 t)) (he : ∀ s H C cl fp, PE (Bk X scope s H C cl fp) elt (rdE X W0 e))
    (hv : own.map (·.2) = vs) (hss : ∀ i ∈ ss, i ∈ vs) (hs : ∀ x, foldedSetIterable iter X.env x = pure x := by intro _; rfl) : PE X (.ListComp elt [⟨tg, iter, ifs, 0⟩] scope pos) (rdN X W (mComp it g t e vs)) := by
  subst hv
  exact PE.wk (pe_lc hc hN hi ok hg ht he hs) fun σ H Q h => rd_comp hss h
end
end G

/-! G7: calls of defs, methods, classes. -/
namespace G
open PySem PySem.Spec PyProof.Rows L2

abbrev Fn := List U → Mem → Res U
def cellsOf : List U → List Nat
  | [] => []
  | .v _ :: us => cellsOf us
  | .c i :: us => i :: cellsOf us
def renum : Nat → List U → List U
  | _, [] => []
  | k, .v t :: us => .v t :: renum k us
  | k, .c _ :: us => .c k :: renum (k + 1) us
/-- a content in which no cell is -/
def flatO : Option C → Option C
  | some ct => if (toT ct).isSome then some ct else none
  | none => none
def ldM (m : Mem) (is : List Nat) : Mem := is.map fun i => flatO m[i]?.join
def stM (m : Mem) : List Nat → Mem → Mem
  | [], _ => m
  | i :: is, x :: m1 => (stM m is m1).set i (flatO x)
  | _ :: _, [] => m
def adrs : List V → List U → List Addr
  | .ref a :: vs, .c _ :: us => a :: adrs vs us
  | _ :: vs, .v _ :: us => adrs vs us
  | _, _ => []
theorem flatO_some {x : Option C} {ct : C} (h : flatO x = some ct) : x = some ct ∧ (toT ct).isSome = true := by
  cases x with
  | none => cases h
  | some y =>
    unfold flatO at h
    dsimp only at h
    split at h
    · rename_i hy
      cases h
      exact ⟨rfl, hy⟩
    · cases h
theorem toTs_re {c : Cn} {H : Hp} {L : Addr → Prop} {φ φ' : List Addr} : ∀ {vs : List V} {fs : List (Str × U)} {ts : List (Str × T)}, Rus c H L φ vs (fs.map (·.2)) → toTs fs = some ts → Rus c H L φ' vs (fs.map (·.2))
  | _, [], _, r, _ => by cases r; exact .nil
  | _, (n, .v t) :: fs, _, r, e => by
    unfold toTs at e
    cases q : toTs fs with
    | none => rw [q] at e; cases e
    | some ts =>
      cases r with
      | cons r rs =>
        cases r with
        | v r => exact .cons (.v r) (toTs_re rs q)
  | _, (_, .c _) :: _, _, _, e => by cases e
/-- a flat content doesn't hang on where cells are -/
theorem Cel.re {c : Cn} {H : Hp} {L : Addr → Prop} {φ φ' : List Addr} {a : Addr} {ct : C} (h : (toT ct).isSome = true) (hc : Cel c H L φ a ct) : Cel c H L φ' a ct := by
  match ct, hc with
  | .t (.lst ts), hc => exact hc
  | .t (.dK ts), hc => exact hc
  | .t (.dT ts), hc => exact hc
  | .ins n fs, ⟨C, dx, vs, e, g, k, r⟩ =>
    unfold toT at h
    cases q : toTs fs with
    | none => simp only [q] at h; cases h
    | some ts => exact ⟨C, dx, vs, e, g, k, toTs_re r q⟩
section
variable {c : Cn} {B : Addr → Prop} {H : Hp} {φ : List Addr} {m : Mem}
theorem stM_length : ∀ (is : List Nat) (m1 : Mem), (stM m is m1).length = m.length
  | [], _ => rfl
  | i :: is, x :: m1 => by unfold stM; rw [List.length_set, stM_length is m1]
  | _ :: _, [] => rfl
theorem stM_out {j : Nat} : ∀ (is : List Nat) (m1 : Mem), j ∉ is → (stM m is m1)[j]? = m[j]?
  | [], _, _ => rfl
  | i :: is, x :: m1, h => by
    unfold stM
    rw [List.getElem?_set_ne fun e => h (by simp [e])]
    exact stM_out is m1 fun z => h (List.mem_cons_of_mem _ z)
  | _ :: _, [], _ => rfl
theorem stM_in : ∀ (is : List Nat) (m1 : Mem) (k i : Nat) (x : Option C), is.Nodup → is[k]? = some i → i < m.length → m1[k]? = some x → (stM m is m1)[i]? = some (flatO x)
  | [], _, _, _, _, _, h, _, _ => by simp at h
  | j :: is, y :: m1, 0, i, x, _, h, hl, hx => by
    simp at h hx; subst h; subst hx
    unfold stM
    rw [List.getElem?_set_self (by rw [stM_length]; exact hl)]
  | j :: is, y :: m1, k + 1, i, x, nd, h, hl, hx => by
    simp only [List.getElem?_cons_succ] at h hx
    obtain ⟨n1, n2⟩ := List.nodup_cons.mp nd
    unfold stM
    rw [List.getElem?_set_ne fun e => n1 (by rw [e]; exact List.mem_of_getElem? h)]
    exact stM_in is m1 k i x n2 h hl hx
  | _ :: _, [], k, _, _, _, _, _, hx => by simp at hx
theorem adrs_get : ∀ {vs : List V} {us : List U}, Rus c H (LL B φ m) φ vs us → (adrs vs us).length = (cellsOf us).length ∧ ∀ k i : Nat, (cellsOf us)[k]? = some i → ∃ a, (adrs vs us)[k]? = some a ∧ φ[i]? = some a
  | _, _, .nil => ⟨rfl, fun k i h => by simp [cellsOf] at h⟩
  | _, _, @Rus.cons _ _ _ _ v u vs us r rs => by
    obtain ⟨l, g⟩ := adrs_get rs
    cases r with
    | @v v t r => cases v <;> exact ⟨l, g⟩
    | @c a i e =>
      refine ⟨by simp [adrs, cellsOf, l], fun k j h => ?_⟩
      cases k with
      | zero => simp [cellsOf] at h; subst h; exact ⟨a, by simp [adrs], e⟩
      | succ k =>
        obtain ⟨b, h1, h2⟩ := g k j (by simpa [cellsOf] using h)
        exact ⟨b, by simpa [adrs] using h1, h2⟩
theorem ldM_get {is : List Nat} {k : Nat} {t : C} (h : (ldM m is)[k]? = some (some t)) : ∃ i, is[k]? = some i ∧ m[i]? = some (some t) ∧ (toT t).isSome = true := by
  unfold ldM at h
  rw [List.getElem?_map] at h
  cases q : is[k]? with
  | none => rw [q] at h; cases h
  | some i =>
    rw [q] at h
    have h : flatO m[i]?.join = some t := by simpa using h
    obtain ⟨h, hf⟩ := flatO_some h
    refine ⟨i, rfl, ?_, hf⟩
    cases q2 : m[i]? with
    | none => rw [q2] at h; cases h
    | some z => rw [q2] at h; cases z with
      | none => cases h
      | some w => cases h; rfl
theorem Rus.ren {L : Addr → Prop} : ∀ {vs : List V} {us : List U} (φ0 : List Addr), Rus c H L φ vs us → Rus c H L (φ0 ++ adrs vs us) vs (renum φ0.length us)
  | _, _, _, .nil => .nil
  | _, _, φ0, @Rus.cons _ _ _ _ v u vs us r rs => by
    cases r with
    | @v v t r =>
      have h : adrs (v :: vs) (.v t :: us) = adrs vs us := by cases v <;> rfl
      rw [h]
      exact .cons (.v r) (rs.ren φ0)
    | @c a i e =>
      refine .cons (.c ?_) ?_
      · simp [adrs]
      · have := rs.ren (φ0 ++ [a])
        simp only [List.length_append, List.length_cons, List.length_nil, Nat.zero_add, List.append_assoc, List.singleton_append] at this
        exact this
/-- what the callee may not touch -/
def Bc (B : Addr → Prop) (φ : List Addr) (m : Mem) (φc : List Addr) (mc : Mem) : Addr → Prop := fun a => LL B φ m a ∧ ¬ Lv φc mc a
variable {vs : List V} {us : List U}
theorem lv_call (ru : Rus c H (LL B φ m) φ vs us) {a : Addr} (h : Lv (adrs vs us) (ldM m (cellsOf us)) a) : Lv φ m a := by
  obtain ⟨k, t, e1, e2⟩ := h
  obtain ⟨i, hi, hm, hf⟩ := ldM_get e2
  obtain ⟨b, f1, f2⟩ := (adrs_get ru).2 k i hi
  rw [e1] at f1; cases f1
  exact ⟨i, t, f2, hm⟩
theorem LL.call (ru : Rus c H (LL B φ m) φ vs us) : LL (Bc B φ m (adrs vs us) (ldM m (cellsOf us))) (adrs vs us) (ldM m (cellsOf us)) = LL B φ m := by
  funext a
  refine propext ⟨fun z => ?_, fun z => ?_⟩
  · rcases z with z | z
    · exact z.1
    · exact .inr (lv_call ru z)
  · by_cases h : Lv (adrs vs us) (ldM m (cellsOf us)) a
    · exact .inr h
    · exact .inl ⟨z, h⟩
theorem MOk.call (M : MOk c B H φ m) (ru : Rus c H (LL B φ m) φ vs us) (nd : (cellsOf us).Nodup) : MOk c (Bc B φ m (adrs vs us) (ldM m (cellsOf us))) H (adrs vs us) (ldM m (cellsOf us)) := by
  obtain ⟨l, g⟩ := adrs_get ru
  refine ⟨by simp [ldM, l], fun j k a t u e1 e2 e3 e4 => ?_, fun j a t e1 e2 z => z.2 ⟨j, t, e1, e2⟩, fun j a t e1 e2 => ?_, fun a z => M.nt z.1⟩
  · obtain ⟨i, hi, hm, hf⟩ := ldM_get e3
    obtain ⟨i', hi', hm', hf'⟩ := ldM_get e4
    obtain ⟨b, f1, f2⟩ := g j i hi
    obtain ⟨b', f1', f2'⟩ := g k i' hi'
    rw [e1] at f1; cases f1
    rw [e2] at f1'; cases f1'
    have := M.inj i i' a t u f2 f2' hm hm'
    subst this
    obtain ⟨p1, q1⟩ := List.getElem?_eq_some_iff.mp hi
    obtain ⟨p2, q2⟩ := List.getElem?_eq_some_iff.mp hi'
    exact (List.getElem_inj nd).mp (q1.trans q2.symm)
  · rw [LL.call ru]
    obtain ⟨i, hi, hm, hf⟩ := ldM_get e2
    obtain ⟨b, f1, f2⟩ := g j i hi
    rw [e1] at f1; cases f1
    exact (M.cel i a t f2 hm).re hf
theorem Rus.call (ru : Rus c H (LL B φ m) φ vs us) : Rus c H (LL (Bc B φ m (adrs vs us) (ldM m (cellsOf us))) (adrs vs us) (ldM m (cellsOf us))) (adrs vs us) vs (renum 0 us) := by
  rw [LL.call ru]
  exact ru.ren []
/-- behind the call -/
theorem Nxt.callB {B' : Addr → Prop} {H' : Hp} {φc : List Addr} {mc : Mem} (M : MOk c B H φ m) (ru : Rus c H (LL B φ m) φ vs us) (nd : (cellsOf us).Nodup) (hB : ∀ a, B' a → B a ∨ H a = none)
    (n : Nxt c (Bc B' φ m (adrs vs us) (ldM m (cellsOf us))) H (adrs vs us) (ldM m (cellsOf us)) H' φc mc) :
    Nxt c B' H φ m H' φ (stM m (cellsOf us) mc) ∧ (∀ a, LL B' φ (stM m (cellsOf us) mc) a → LL (Bc B' φ m (adrs vs us) (ldM m (cellsOf us))) φc mc a) := by
  obtain ⟨l, g⟩ := adrs_get ru
  have nb' : ∀ (j : Nat) (a : Addr) (t : C), φ[j]? = some a → m[j]? = some (some t) → ¬ B' a := fun j a t e1 e2 z => (hB a z).elim (M.nb j a t e1 e2) (M.lvt ⟨j, t, e1, e2⟩)
  have il : ∀ i ∈ cellsOf us, i < m.length := fun i hi => by
    obtain ⟨k, hk⟩ := List.getElem?_of_mem hi
    obtain ⟨a, _, f⟩ := g k i hk
    rw [← M.len]; exact (List.getElem?_eq_some_iff.mp f).1
  have hlen : (cellsOf us).length ≤ mc.length := by
    obtain ⟨l', e⟩ := n.pre
    rw [← n.ok.len, e, List.length_append]; omega
  -- a cell behind the call
  have get : ∀ {j : Nat} {t : C}, (stM m (cellsOf us) mc)[j]? = some (some t) → (j ∉ cellsOf us ∧ m[j]? = some (some t)) ∨ ∃ k : Nat, (cellsOf us)[k]? = some j ∧ mc[k]? = some (some t) ∧ (toT t).isSome = true := fun {j t} e => by
    by_cases hj : j ∈ cellsOf us
    · obtain ⟨k, hk⟩ := List.getElem?_of_mem hj
      have kl : k < mc.length := Nat.lt_of_lt_of_le (List.getElem?_eq_some_iff.mp hk).1 hlen
      have := stM_in (m := m) (cellsOf us) mc k j _ nd hk (il j hj) (List.getElem?_eq_getElem kl)
      rw [e] at this
      obtain ⟨h1, h2⟩ := flatO_some (Option.some.inj this.symm)
      exact .inr ⟨k, hk, by rw [List.getElem?_eq_getElem kl, h1], h2⟩
    · rw [stM_out (cellsOf us) mc hj] at e
      exact .inl ⟨hj, e⟩
  have adr : ∀ {k j : Nat} {a : Addr}, (cellsOf us)[k]? = some j → φ[j]? = some a → φc[k]? = some a := fun {k j a} hk hj => by
    obtain ⟨b, f1, f2⟩ := g k j hk
    rw [hj] at f2; cases f2
    obtain ⟨l', e⟩ := n.pre
    rw [e, List.getElem?_append_left (List.getElem?_eq_some_iff.mp f1).1]; exact f1
  have nlc : ∀ {j : Nat} {a : Addr} {t : C}, j ∉ cellsOf us → φ[j]? = some a → m[j]? = some (some t) → ¬ Lv (adrs vs us) (ldM m (cellsOf us)) a := fun {j a t} hj e1 e2 ⟨k, u, f1, f2⟩ => by
    obtain ⟨i, hi, hm, hf⟩ := ldM_get f2
    obtain ⟨b, f3, f4⟩ := g k i hi
    rw [f1] at f3; cases f3
    have := M.inj j i a t u e1 f4 e2 hm
    subst this
    exact hj (List.mem_of_getElem? hi)
  have lsub : ∀ a, Lv φ (stM m (cellsOf us) mc) a → Lv φc mc a ∨ (Lv φ m a ∧ ¬ Lv (adrs vs us) (ldM m (cellsOf us)) a) := fun a ⟨j, t, e1, e2⟩ => by
    rcases get e2 with ⟨hj, e3⟩ | ⟨k, hk, e3, _⟩
    · exact .inr ⟨⟨j, t, e1, e3⟩, nlc hj e1 e3⟩
    · exact .inl ⟨k, t, adr hk e1, e3⟩
  have ll : ∀ a, LL B' φ (stM m (cellsOf us) mc) a → LL (Bc B' φ m (adrs vs us) (ldM m (cellsOf us))) φc mc a := fun a z => by
    rcases z with z | z
    · exact .inl ⟨.inl z, fun h => by
        obtain ⟨j, t, e1, e2⟩ := lv_call ru h
        exact nb' j a t e1 e2 z⟩
    · rcases lsub a z with z | z
      · exact .inr z
      · exact .inl ⟨.inr z.1, z.2⟩
  refine ⟨⟨⟨[], by simp⟩, fun a o e nl => n.keep a o e fun z => nl (lv_call ru z), fun a z => ?_, n.trk, fun i a h e => absurd (List.getElem?_eq_some_iff.mp e).1 (by omega), ⟨by rw [stM_length]; exact M.len, fun j k a t u e1 e2 e3 e4 => ?_, fun j a t e1 e2 z => ?_, fun j a t e1 e2 => ?_, fun a z => n.ok.bt a ⟨.inl z, fun h => ?_⟩⟩⟩, ll⟩
  · rcases lsub a z with z | z
    · exact (n.sub a z).imp (lv_call ru) id
    · exact .inl z.1
  · rcases get e3 with ⟨hj, f3⟩ | ⟨p, hp, f3, _⟩
    · rcases get e4 with ⟨hk, f4⟩ | ⟨q, hq, f4, _⟩
      · exact M.inj j k a t u e1 e2 f3 f4
      · exact (n.ok.nb q a u (adr hq e2) f4 ⟨.inr ⟨j, t, e1, f3⟩, nlc hj e1 f3⟩).elim
    · rcases get e4 with ⟨hk, f4⟩ | ⟨q, hq, f4, _⟩
      · exact (n.ok.nb p a t (adr hp e1) f3 ⟨.inr ⟨k, u, e2, f4⟩, nlc hk e2 f4⟩).elim
      · have := n.ok.inj p q a t u (adr hp e1) (adr hq e2) f3 f4
        subst this
        rw [hp] at hq; exact Option.some.inj hq
  · rcases get e2 with ⟨hj, f2⟩ | ⟨k, hk, f2, hfl⟩
    · exact nb' j a t e1 f2 z
    · exact n.ok.nb k a t (adr hk e1) f2 ⟨.inl z, fun h => by
        obtain ⟨j', t', e3, e4⟩ := lv_call ru h
        exact nb' j' a t' e3 e4 z⟩
  · rcases get e2 with ⟨hj, f2⟩ | ⟨k, hk, f2, hfl⟩
    · refine (M.cel j a t e1 f2).mono pre0 (fun b o nl e => ⟨fun z => ?_, o, n.keep b o e fun z => nl (.inr (lv_call ru z)), .inl rfl⟩) fun o e => n.keep a o e (nlc hj e1 f2)
      rcases z with z | z
      · rcases hB b z with z | z
        · exact nl (.inl z)
        · rw [e] at z; cases z
      · rcases lsub b z with z | z
        · rcases n.sub b z with z | z
          · exact nl (.inr (lv_call ru z))
          · rw [e] at z; cases z
        · exact nl (.inr z.1)
    · exact Cel.re hfl ((n.ok.cel k a t (adr hk e1) f2).mono pre0 (fun b o nl e => ⟨fun z => nl (ll b z), o, e, .inl rfl⟩) fun _ e => e)
  · obtain ⟨j, t, e1, e2⟩ := lv_call ru h
    exact nb' j a t e1 e2 z
theorem Nxt.call {H' : Hp} {φc : List Addr} {mc : Mem} (M : MOk c B H φ m) (ru : Rus c H (LL B φ m) φ vs us) (nd : (cellsOf us).Nodup)
    (n : Nxt c (Bc B φ m (adrs vs us) (ldM m (cellsOf us))) H (adrs vs us) (ldM m (cellsOf us)) H' φc mc) :
    Nxt c B H φ m H' φ (stM m (cellsOf us) mc) ∧ (∀ a, LL B φ (stM m (cellsOf us) mc) a → LL (Bc B φ m (adrs vs us) (ldM m (cellsOf us))) φc mc a) := Nxt.callB M ru nd (fun _ z => .inl z) n
end
/-- a def's promise -/
def spF (c : Cn) (n : Nat) (F : Fn) : Sp := fun vs H Q E => vs.length = n ∧ ∃ B φ m us, MOk c B H φ m ∧ Rus c H (LL B φ m) φ vs us ∧ ∃ r m', F us m = some (r, m') ∧ ∀ H' φ', Nxt c B H φ m H' φ' m' → match r with
  | .ok u => ∀ v, Ru c H' (LL B φ' m') φ' v u → Q v H'
  | .error x => ∀ cls d, XRp c H' (LL B φ' m') x cls d → E cls d H'
/-- a call: cells are handed in by themselves; what is handed back is a tree -/
def callV (n : Nat) (F : Fn) (us : List U) (m : Mem) : Res U :=
  if us.length = n ∧ (cellsOf us).Nodup then
    match F (renum 0 us) (ldM m (cellsOf us)) with
    | some (.ok (.v t), m1) => some (.ok (.v t), stM m (cellsOf us) m1)
    | some (.ok (.c j), m1) => match m1[j]? with
      | some (some ct) => match toT ct with
        | some t => some (.ok (.v t), stM m (cellsOf us) (m1.set j none))
        | none => none
      | _ => none
    | some (.error x, m1) => some (.error x, stM m (cellsOf us) m1)
    | none => none
  else none
theorem Rus.length {c : Cn} {H : Hp} {L : Addr → Prop} {φ : List Addr} : ∀ {vs : List V} {us : List U}, Rus c H L φ vs us → vs.length = us.length
  | _, _, .nil => rfl
  | _, _, .cons _ r => by simp [r.length]
theorem XRp.sub {c : Cn} {H : Hp} {L L' : Addr → Prop} {x : Xc} {cls : Value} {d : Option Addr} (hl : ∀ a, L' a → L a) (r : XRp c H L x cls d) : XRp c H L' x cls d := by
  refine ⟨r.1, ?_⟩
  have h := r.2
  cases d with
  | none => exact h
  | some d =>
    obtain ⟨fs, e, nl, k, r⟩ := h
    exact ⟨fs, e, fun z => nl (hl _ z), k, r.mono fun a o nl e => ⟨fun z => nl (hl a z), o, e, .inl rfl⟩⟩
theorem Rp.sub {c : Cn} {H : Hp} {L L' : Addr → Prop} {v : V} {t : T} (hl : ∀ a, L' a → L a) (r : Rp c H L v t) : Rp c H L' v t := r.mono fun a o nl e => ⟨fun z => nl (hl a z), o, e, .inl rfl⟩
/-- from the caller's state to the promise -/
theorem spF.of {c : Cn} {W : WX} {B : Addr → Prop} {H : Hp} {φ : List Addr} {m : Mem} {σ : L2.St} {vs : List V} {us : List U} {n : Nat} {F : Fn} {Q : VK} {E : XK} (M : MOk c B H φ m) (ru : Rus c H (LL B φ m) φ vs us) (hE : ∀ cls d H, W cls d σ H → E cls d H)
    (h : rx rrU c W (callV n F us m) B H φ m σ Q) : spF c n F vs H Q E := by
  obtain ⟨r, m', e, h⟩ := h
  unfold callV at e
  split at e
  · rename_i hn
    refine ⟨by rw [ru.length]; exact hn.1, Bc B φ m (adrs vs us) (ldM m (cellsOf us)), adrs vs us, ldM m (cellsOf us), renum 0 us, M.call ru hn.2, ru.call, ?_⟩
    cases q : F (renum 0 us) (ldM m (cellsOf us)) with
    | none => rw [q] at e; cases e
    | some p =>
      obtain ⟨r1, m1⟩ := p
      rw [q] at e
      refine ⟨r1, m1, rfl, fun H' φ' nx => ?_⟩
      match r1, e with
      | .error x, e =>
        cases e
        obtain ⟨n2, ll⟩ := Nxt.call M ru hn.2 nx
        exact fun cls d xr => hE _ _ _ (h H' φ n2 cls d (xr.sub ll))
      | .ok (.v t), e =>
        cases e
        obtain ⟨n2, ll⟩ := Nxt.call M ru hn.2 nx
        intro v rv
        cases rv with
        | v rv => exact h H' φ n2 v (.v (rv.sub ll))
      | .ok (.c j), e =>
        dsimp only at e
        split at e
        · rename_i ct hj
          cases q3 : toT ct with
          | none => rw [q3] at e; cases e
          | some t =>
          rw [q3] at e
          cases e
          intro v rv
          cases rv with
          | @c a i hi =>
            obtain ⟨nf, rf⟩ := Nxt.freeze nx.ok hi hj q3
            obtain ⟨n2, ll⟩ := Nxt.call M ru hn.2 (nx.trans nf)
            exact h H' φ n2 _ (.v (rf.sub ll))
        · cases e
  · cases e
def mCall (n : Nat) (F : Fn) (g : M (List U)) : M U := mBind g fun us _ m => callV n F us m
section
variable {X : Cx} {W : WX} {e : Expr} {es : List Expr} {g : M (List U)} {F : Fn} {k n : Nat} {f : Addr} {fd : FuncData} {ps : List Str} {x : Str} {p pos : Pos}
theorem rd.call {σ : L2.St} {H : Hp} {Q : VK} (h : rdE X W (mCall n F g) σ H Q) : rdA X W g σ H fun vs H1 => spF (cn X) n F vs H1 Q (WE W σ) := by
  obtain ⟨B, φ, m, fr, S, h⟩ := rd.bind (R := rrUs) h
  exact ⟨B, φ, m, fr, S, h.mono fun vs H1 ⟨B, φ1, m1, fr, us, S1, ru, h1⟩ => spF.of S1.mem ru (fun _ _ _ z => z) h1⟩
theorem e_call (tk : Takes X W) (FO : FnOk X.prog X.w X.K X.mg X.base (L2.CX X.prog X.w) k f fd ps (spF (cn X) n F)) (hr : Room k X.A) (hg : Gl X x) (hm : X.mg x = some (.ref f)) (hk : PySem.W.keepIn X.K (.ref f) = true) (hb : Binds X.K fd ps [])
    (ha : PA X (e :: es) (rdA X W g)) (hdb : (x == ("__debug__" : Str)) = false := by decide) (he : starEach (e :: es) X.env = (false, eval e X.env) :: starEach es X.env := by rfl) (hpl : (backTo pos (starEach es X.env)).any (·.1) = false := by rfl) :
    PE X (.Call (.Name x p) (e :: es) [] pos) (rdE X W (mCall n F g)) := by
  refine PE.wk (pe_callSD (dvs := []) (E := WE W) FO hr hg hm hk hb .nil (fun σ => passAt tk σ) ha hdb he hpl) fun σ H Q h => ?_
  obtain ⟨B, φ, m, fr, S, h⟩ := rd.call h
  exact ⟨B, φ, m, fr, S, h.mono fun vs H1 h => by rw [List.append_nil]; exact h⟩
end
/-! ### a def's body -/
def runF (nN : Nat) (b : MS) : Fn := fun us m => match b (us.map some ++ List.replicate (nN - us.length) none) m with
  | some (.fl (.rt u) _, m') => some (.ok u, m')
  | some (.fl .nx _, m') => some (.ok (.v .non), m')
  | some (.ex x _, m') => some (.error x, m')
  | _ => none
theorem Rus.get {c : Cn} {H : Hp} {L : Addr → Prop} {φ : List Addr} : ∀ {vs : List V} {us : List U} {i : Nat} {u : U}, Rus c H L φ vs us → us[i]? = some u → ∃ v, vs[i]? = some v ∧ Ru c H L φ v u
  | _, _, _, _, .nil, e => by simp at e
  | _, _, 0, _, .cons r _, e => by simp at e; subst e; exact ⟨_, rfl, r⟩
  | _, _, i + 1, u, .cons _ s, e => by simpa using Rus.get (i := i) s (by simpa using e)
theorem fn_ok {P : Program} {w : World} {K : PySem.W.Frag} {mg : Str → Option Value} {base : Heap} {x qual : Str} {st : Stmt} {f : Addr} {fd : FuncData} {N ps : List Str} {k : Nat} {b : MS} (F : Fun K x qual st f fd) (S : FnScope N ps (defScope st))
    (hb : ∀ (cdv : Value) (A : Around) (outer : List Env) (s : Shared) (H : Hp) (E : XK), Room k (A.deeper (envOfC qual (defScope st) s.heap.objs.size f cdv)) →
      PSs (cxOf (L2.CX P w) P w K mg base N qual (defScope st) f cdv A outer s H E) (defBody st) (rdS (cxOf (L2.CX P w) P w K mg base N qual (defScope st) f cdv A outer s H E) (fun cls d _ H => E cls d H) b)) :
    FnOk P w K mg base (L2.CX P w) (k + 1) f fd ps (spF ⟨K, mg, none⟩ ps.length (runF N.length b)) := by
  refine F.okX S (fun vs H Q E h => h.1) fun cdv A outer s H vs Q E hr h => ⟨_, hb cdv A outer s H E hr, ?_⟩
  obtain ⟨hl, B, φ, m, us, M, ru, r, m', e, h⟩ := h
  refine ⟨B, φ, m, us.map some ++ List.replicate (N.length - us.length) none, ⟨M, ?_, fun i u ei => ?_⟩, ?_⟩
  · simp [L2.start, ru.length]
  · by_cases hi : i < us.length
    · rw [List.getElem?_append_left (by simpa using hi), List.getElem?_map] at ei
      cases q : us[i]? with
      | none => rw [q] at ei; cases ei
      | some u' =>
        rw [q] at ei
        have : u' = u := by simpa using ei
        subst this
        obtain ⟨v, ev, rv⟩ := ru.get q
        refine ⟨v, ?_, rv⟩
        unfold L2.start
        rw [List.getElem?_append_left (by simpa [ru.length] using hi), List.getElem?_map, ev]
        rfl
    · rw [List.getElem?_append_right (by simpa using hi)] at ei
      have := List.mem_of_getElem? ei
      simp at this
  · unfold runF at e
    cases q : b (us.map some ++ List.replicate (N.length - us.length) none) m with
    | none => rw [q] at e; cases e
    | some p =>
      obtain ⟨r1, m1⟩ := p
      rw [q] at e
      refine ⟨r1, m1, rfl, fun H' φ' n => ?_⟩
      match r1, e with
      | .fl (.rt u) fr', e => cases e; exact fun σ' _ => h H' φ' n
      | .fl .nx fr', e => cases e; exact fun σ' _ => h H' φ' n .non (.v .non)
      | .ex x fr', e => cases e; exact fun σ' _ => h H' φ' n
end G

/-! G8: methods, classes made, attributes. -/
namespace G
open PySem PySem.Spec PyProof.Rows L2

theorem lookup_keys {α β : Type} {n : Str} : ∀ {fs : List (Str × α)} {gs : List (Str × β)}, fs.map (·.1) = gs.map (·.1) → ((fs.lookup n = none ↔ gs.lookup n = none))
  | [], [], _ => by simp
  | [], _ :: _, h => by simp at h
  | _ :: _, [], h => by simp at h
  | (a, x) :: fs, (b, y) :: gs, h => by
    simp only [List.map_cons, List.cons.injEq] at h
    obtain ⟨rfl, h⟩ := h
    simp only [List.lookup_cons]
    cases n == a with
    | true => simp
    | false => exact lookup_keys h
theorem lookup_rel {c : Cn} {H : Hp} {L : Addr → Prop} {φ : List Addr} {n : Str} {t : U} : ∀ {fs : List (Str × V)} {gs : List (Str × U)}, fs.map (·.1) = gs.map (·.1) → Rus c H L φ (fs.map (·.2)) (gs.map (·.2)) → gs.lookup n = some t → ∃ v, fs.lookup n = some v ∧ Ru c H L φ v t
  | [], [], _, _, e => by simp at e
  | [], _ :: _, h, _, _ => by simp at h
  | _ :: _, [], h, _, _ => by simp at h
  | (a, x) :: fs, (b, y) :: gs, h, r, e => by
    simp only [List.map_cons, List.cons.injEq] at h
    obtain ⟨rfl, h⟩ := h
    cases r with
    | cons r rs =>
      simp only [List.lookup_cons] at e ⊢
      cases q : n == a with
      | true => rw [q] at e; simp only at e; cases e; exact ⟨x, rfl, r⟩
      | false => rw [q] at e; exact lookup_rel h rs e

/-! ### methods -/
/-- an object's class and attributes, a tree's or a cell's -/
def insOf (m : Mem) : U → Option (Str × List (Str × U))
  | .v (.ins n fs) => some (n, fs.map fun p => (p.1, .v p.2))
  | .c i => match m[i]? with
    | some (some (.ins n fs)) => some (n, fs)
    | _ => none
  | _ => none
theorem vmap_rel {c : Cn} {H : Hp} {L : Addr → Prop} {φ : List Addr} : ∀ {vs : List V} {fs : List (Str × T)}, Rps c H L vs (fs.map (·.2)) → Rus c H L φ vs ((fs.map fun p => (p.1, U.v p.2)).map (·.2))
  | _, [], r => by cases r; exact .nil
  | _, _ :: _, r => by
    cases r with
    | cons r rs => exact .cons (.v r) (vmap_rel rs)
theorem Ru.insOf {c : Cn} {B : Addr → Prop} {H : Hp} {φ : List Addr} {m : Mem} {x : V} {u : U} {n : Str} {fs : List (Str × U)} (M : MOk c B H φ m) (r : Ru c H (LL B φ m) φ x u) (h : G.insOf m u = some (n, fs)) :
    ∃ a C dx fv, x = .ref a ∧ H a = some (.ins C dx fv) ∧ c.mg n = some (.ref C) ∧ fv.map (·.1) = fs.map (·.1) ∧ Rus c H (LL B φ m) φ (fv.map (·.2)) (fs.map (·.2)) := by
  cases r with
  | @v v t r =>
    match t, r, h with
    | .ins n ts, .ins nl e g k rr, h =>
      cases h
      exact ⟨_, _, _, _, rfl, e, g, by rw [k]; simp, vmap_rel rr⟩
  | @c a i e =>
    unfold G.insOf at h
    dsimp only at h
    split at h
    · rename_i hm
      cases h
      obtain ⟨C, dx, fv, e1, g, k, rr⟩ := M.cel i a _ e hm
      exact ⟨a, C, dx, fv, rfl, e1, g, k, rr⟩
    · cases h
def mMeth (cl : Str) (mt : Str) (n : Nat) (F : Fn) (o : M U) (g : M (List U)) : M U := mBind o fun u => fun fr m => match insOf m u with
  | some (k, fs) => if k = cl ∧ fs.lookup mt = none then mBind g (fun us _ m => callV n F (u :: us) m) fr m else none
  | _ => none
section
variable {X : Cx} {W : WX} {o e : Expr} {es : List Expr} {f : M U} {g : M (List U)} {F : Fn} {k n : Nat} {fa C : Addr} {fd : FuncData} {ps : List Str} {mt cl : Str} {pos apos : Pos} {pl : Sem Bool}
theorem rd.meth {σ : L2.St} {H : Hp} {Q : VK} (hC : X.mg cl = some (.ref C)) (h : rdE X W (mMeth cl mt n F f g) σ H Q) :
    rdE X W f σ H fun x H1 => ∃ a dx fs, x = .ref a ∧ H1 a = some (.ins C dx fs) ∧ fs.lookup mt = none ∧ rdA X W g σ H1 fun vs H2 => spF (cn X) n F (x :: vs) H2 Q (WE W σ) := by
  obtain ⟨B, φ, m, fr, S, h⟩ := rd.bind (R := rrU) h
  refine ⟨B, φ, m, fr, S, h.mono fun x H1 ⟨B, φ1, m1, fr, u, S1, ru, r, m', e, h1⟩ => ?_⟩
  split at e
  · rename_i k fs hd
    split at e
    · rename_i hk
      obtain ⟨rfl, hk⟩ := hk
      obtain ⟨a, C', dx, fv, rfl, ea, gC, kk, rr⟩ := ru.insOf S1.mem hd
      have gC : X.mg k = some (.ref C') := gC
      rw [hC] at gC; cases gC
      refine ⟨a, dx, fv, rfl, ea, (lookup_keys kk).mpr hk, ?_⟩
      have h2 : rdE X W (mBind g fun us _ m => callV n F (u :: us) m) σ H1 Q := ⟨B, φ1, m1, fr, S1, r, m', e, h1⟩
      refine ⟨B, φ1, m1, fr, S1, ?_⟩
      obtain ⟨r', m'', e', h'⟩ : rx rrU (cn X) W (mBind g (fun us _ m => callV n F (u :: us) m) fr m1) B H1 φ1 m1 σ Q := ⟨r, m', e, h1⟩
      exact (rx.bind (R := rrUs) ⟨r', m'', e', h'⟩).mono fun vs H2 ⟨φ2, m2, us, n2, rus, h2⟩ => spF.of n2.ok (.cons (ru.nxt n2) rus) (fun _ _ _ z => z) h2
    · cases e
  · cases e
theorem e_meth (tk : Takes X W) (he : PE X o (rdE X W f)) (cK : Cls X.K C) (hC : X.mg cl = some (.ref C)) (hm : Meth X.K C mt fa) (FO : FnOk X.prog X.w X.K X.mg X.base (L2.CX X.prog X.w) k fa fd ps (spF (cn X) n F)) (hr : Room k X.A) (hb : Binds X.K fd ps [])
    (ha : PA X (e :: es) (rdA X W g)) (hst : starEach (e :: es) X.env = (false, eval e X.env) :: starEach es X.env := by rfl) (hpl : (backTo pos (starEach es X.env)).any (·.1) = false := by rfl)
    (ht : eval (.Call (.Attribute o mt apos) (e :: es) [] pos) X.env = (do
      let own ← eval o X.env
      standAt apos.atName
      let (fn, one) ← holding [own] (getMethod own mt pl)
      callWith pos fn one (backTo pos (starEach (e :: es) X.env)) (backToKw pos (keywordEach [] X.env))) := by rfl) :
    PE X (.Call (.Attribute o mt apos) (e :: es) [] pos) (rdE X W (mMeth cl mt n F f g)) := by
  refine ⟨fun pins s σ H Q inv hh => ?_⟩
  refine PySem.W.methodCall_KW (pl := pl) (thn (he.run pins s σ H _ inv (rd.meth hC hh)) fun u s1 ⟨x, H1, i1, r1, a, dx, fs, ex, ea, l, q⟩ => ?_) ht
  subst ex
  obtain rfl : u = Value.ref a := r1
  refine getmeth_ok i1 ea cK hm l (PySem.W.callWith_K (first := [.ref a]) (h₀ := X.base) inv.ok.mod.kin hm.kp (thn (ha.run pos pins s1 σ H1 _ i1 q) fun us s2 ⟨vs, H2, i2, r2, q2⟩ => ⟨i2.kIn, ?_⟩) hst hpl)
  exact run_fnSD (dvs := []) (E := WE W) (us := .ref a :: us) (vs := .ref a :: vs) FO hr hb .nil (passAt tk σ) i2 (.cons rfl r2) (by rw [List.append_nil]; exact q2)
theorem e_meth0 (tk : Takes X W) (he : PE X o (rdE X W f)) (cK : Cls X.K C) (hC : X.mg cl = some (.ref C)) (hm : Meth X.K C mt fa) (FO : FnOk X.prog X.w X.K X.mg X.base (L2.CX X.prog X.w) k fa fd ps (spF (cn X) n F)) (hr : Room k X.A) (hb : Binds X.K fd ps [])
    (ht : eval (.Call (.Attribute o mt apos) [] [] pos) X.env = (do
      let own ← eval o X.env
      standAt apos.atName
      let (fn, one) ← holding [own] (getMethod own mt pl)
      callWith pos fn one (backTo pos (starEach [] X.env)) (backToKw pos (keywordEach [] X.env))) := by rfl) :
    PE X (.Call (.Attribute o mt apos) [] [] pos) (rdE X W (mMeth cl mt n F f mNil)) := by
  refine ⟨fun pins s σ H Q inv hh => ?_⟩
  refine PySem.W.methodCall_KW (pl := pl) (thn (he.run pins s σ H _ inv (rd.meth hC hh)) fun u s1 ⟨x, H1, i1, r1, a, dx, fs, ex, ea, l, q⟩ => ?_) ht
  subst ex
  obtain rfl : u = Value.ref a := r1
  obtain ⟨B, φ, m, fr, S, q⟩ := q
  have q2 := rx.pure (R := rrUs) S.mem q [] .nil
  exact getmeth_ok i1 ea cK hm l (PySem.W.callWith_K0 (first := [.ref a]) i1.kIn hm.kp (run_fnSD (dvs := []) (E := WE W) (us := [.ref a]) (vs := [.ref a]) FO hr hb .nil (passAt tk σ) i1 (.cons rfl .nil) q2))
end

/-! ### a class is made -/
theorem Nxt.lock {c : Cn} {B : Addr → Prop} {H H' : Hp} {φ φ' : List Addr} {m m' : Mem} {a : Addr} {i : Nat} {t : C} (n : Nxt c B H φ m H' φ' m') (hi : φ'[i]? = some a) (hm : m'[i]? = some (some t)) : Nxt c (Bq B a) H φ m H' φ' (m'.set i none) :=
  ⟨n.pre, n.keep, fun b ⟨j, u, e1, e2⟩ => n.sub b ⟨j, u, e1, (dead_get e2).2⟩, n.trk, n.fr, n.ok.lock hi hm⟩
/-- an object's attributes settle: cells among them are frozen -/
def frzF : List (Str × U) → Mem → Option (List (Str × T) × Mem)
  | [], m => some ([], m)
  | (n, .v t) :: fs, m => match frzF fs m with
    | some (ts, m') => some ((n, t) :: ts, m')
    | none => none
  | (n, .c j) :: fs, m => match m[j]? with
    | some (some ct) => match toT ct with
      | some t => match frzF fs (m.set j none) with
        | some (ts, m') => some ((n, t) :: ts, m')
        | none => none
      | none => none
    | _ => none
theorem frzF_ok {c : Cn} {B : Addr → Prop} {H : Hp} {φ : List Addr} : ∀ {fs : List (Str × U)} {vs : List V} {m m' : Mem} {ts : List (Str × T)}, MOk c B H φ m → Rus c H (LL B φ m) φ vs (fs.map (·.2)) → frzF fs m = some (ts, m') →
    Nxt c B H φ m H φ m' ∧ fs.map (·.1) = ts.map (·.1) ∧ Rps c H (LL B φ m') vs (ts.map (·.2)) ∧ ∀ i : Nat, m'[i]? = m[i]? ∨ (∃ ct, m[i]? = some (some ct) ∧ (toT ct).isSome = true ∧ m'[i]? = some none)
  | [], _, m, _, _, M, r, e => by cases e; cases r; exact ⟨.refl M, rfl, .nil, fun _ => .inl rfl⟩
  | (n, .v t) :: fs, vs, m, _, _, M, r, e => by
    unfold frzF at e
    cases q : frzF fs m with
    | none => rw [q] at e; cases e
    | some p =>
      obtain ⟨ts, m'⟩ := p
      rw [q] at e; cases e
      cases r with
      | cons r rs =>
        cases r with
        | v r =>
          obtain ⟨n1, k, rr, g⟩ := frzF_ok M rs q
          exact ⟨n1, by simp [k], .cons (r.nxt n1) rr, g⟩
  | (n, .c j) :: fs, vs, m, _, _, M, r, e => by
    unfold frzF at e
    split at e
    · rename_i ct hj
      cases q2 : toT ct with
      | none => rw [q2] at e; cases e
      | some t =>
        rw [q2] at e
        dsimp only at e
        cases q : frzF fs (m.set j none) with
        | none => rw [q] at e; cases e
        | some p =>
          obtain ⟨ts, m'⟩ := p
          rw [q] at e; cases e
          cases r with
          | cons r rs =>
            cases r with
            | c hi =>
              obtain ⟨n0, r0⟩ := Nxt.freeze M hi hj q2
              obtain ⟨n1, k, rr, g⟩ := frzF_ok n0.ok (rs.mono pre0 n0.mono) q
              refine ⟨n0.trans n1, by simp [k], .cons (r0.nxt n1) rr, fun i => ?_⟩
              have hjl : j < m.length := (List.getElem?_eq_some_iff.mp hj).1
              by_cases hij : j = i
              · subst hij
                right
                refine ⟨ct, hj, by rw [q2]; rfl, ?_⟩
                rcases g j with z | ⟨ct', z, _⟩
                · rw [z, List.getElem?_set_self hjl]
                · rw [List.getElem?_set_self hjl] at z; cases z
              · rcases g i with z | ⟨ct', z, z2, z3⟩
                · left; rw [z, List.getElem?_set_ne hij]
                · right; rw [List.getElem?_set_ne hij] at z; exact ⟨ct', z, z2, z3⟩
    · cases e
def vF (ts : List (Str × T)) : List (Str × U) := ts.map fun p => (p.1, .v p.2)
def makeV (cl : Str) (n : Nat) (F : Fn) (us : List U) (m : Mem) : Res C :=
  if us.length + 1 = n ∧ (cellsOf us).Nodup then
    match F (.c (cellsOf us).length :: renum 0 us) (ldM m (cellsOf us) ++ [some (.ins cl [])]) with
    | some (.ok (.v .non), m1) => match m1[(cellsOf us).length]? with
      | some (some (.ins k fs)) => match frzF fs m1 with
        | some (ts, m2) => match m2[(cellsOf us).length]? with
          | some (some _) => some (.ok (.ins k (vF ts)), stM m (cellsOf us) (m2.set (cellsOf us).length none))
          | _ => none
        | none => none
      | _ => none
    | some (.error x, m1) => some (.error x, stM m (cellsOf us) m1)
    | _ => none
  else none
def mMake (cl : Str) (n : Nat) (F : Fn) (g : M (List U)) : M C := mBind g fun us _ m => makeV cl n F us m
section
variable {X : Cx} {W : WX} {e : Expr} {es : List Expr} {g : M (List U)} {F : Fn} {k n : Nat} {fa C : Addr} {fd : FuncData} {ps : List Str} {cl : Str} {p pos : Pos}
theorem spF.make {c : Cn} {B : Addr → Prop} {H : Hp} {φ : List Addr} {m : Mem} {σ : L2.St} {vs : List V} {us : List U} {Q : VK} {E : XK} (hC : c.mg cl = some (.ref C)) (M : MOk c B H φ m) (ru : Rus c H (LL B φ m) φ vs us) (hE : ∀ cls d H, W cls d σ H → E cls d H)
    (h : rxN c W (makeV cl n F us m) B H φ m σ Q) (x dx : Addr) (hx : H x = none) (hdx : H dx = none) (ne : dx ≠ x) : spF c n F (.ref x :: vs) (upd (upd H dx (.own x)) x (.ins C dx [])) (fun v H2 => v = .non ∧ Q (.ref x) H2) E := by
  obtain ⟨r, m', e, h⟩ := h
  unfold makeV at e
  split at e
  · rename_i hn
    have Mc := M.call ru hn.2
    have hl : (adrs vs us).length = (cellsOf us).length := (adrs_get ru).1
    have hlm : (ldM m (cellsOf us)).length = (cellsOf us).length := by simp [ldM]
    have n1 : Nxt c (Bc B φ m (adrs vs us) (ldM m (cellsOf us))) H (adrs vs us) (ldM m (cellsOf us)) (upd H dx (.own x)) (adrs vs us) (ldM m (cellsOf us)) := Nxt.plus (.refl Mc) hdx
    have hx1 : upd H dx (.own x) x = none := by rw [upd_ne (Ne.symm ne)]; exact hx
    have n2 : Nxt c (Bq (Bc B φ m (adrs vs us) (ldM m (cellsOf us))) x) H (adrs vs us) (ldM m (cellsOf us)) (upd (upd H dx (.own x)) x (.ins C dx [])) (adrs vs us) (ldM m (cellsOf us)) := n1.new hx1
    have n3 := n2.cell (t := .ins cl []) (Mc.noB hx) hx ⟨C, dx, [], upd_same, hC, rfl, .nil⟩
    refine ⟨by simp [ru.length]; exact hn.1, Bc B φ m (adrs vs us) (ldM m (cellsOf us)), adrs vs us ++ [x], ldM m (cellsOf us) ++ [some (.ins cl [])], .c (cellsOf us).length :: renum 0 us, n3.ok, .cons (.c (by rw [← hl]; simp)) (ru.call.mono n3.pre n3.mono), ?_⟩
    cases q : F (.c (cellsOf us).length :: renum 0 us) (ldM m (cellsOf us) ++ [some (.ins cl [])]) with
    | none => rw [q] at e; cases e
    | some pq =>
      obtain ⟨r1, m1⟩ := pq
      rw [q] at e
      refine ⟨r1, m1, rfl, fun H' φ' nx => ?_⟩
      have nn := n3.trans nx
      match r1, e with
      | .error y, e =>
        cases e
        intro cls d xr
        obtain ⟨n4, ll⟩ := Nxt.call M ru hn.2 nn
        exact hE _ _ _ (h H' φ n4 cls d (xr.sub ll))
      | .ok (.v .non), e =>
        intro v rv
        cases rv with
        | v rv =>
          cases rv
          refine ⟨rfl, ?_⟩
          dsimp only at e
          split at e
          · rename_i k fs hm1
            cases q2 : frzF fs m1 with
            | none => rw [q2] at e; cases e
            | some pq =>
              obtain ⟨ts, m2⟩ := pq
              rw [q2] at e
              dsimp only at e
              split at e
              · rename_i ct hm2
                cases e
                have hi : φ'[(cellsOf us).length]? = some x := by
                  obtain ⟨l, el⟩ := nx.pre
                  rw [el, List.getElem?_append_left (by simp [hl]), ← hl]; simp
                obtain ⟨C', dx', fv, e1, g1, k1, r1⟩ := nx.ok.cel _ x _ hi hm1
                obtain ⟨n5, kk, rr, gg⟩ := frzF_ok nx.ok r1 q2
                have n6 := (nn.trans n5).lock hi hm2
                have bqc : Bq (Bc B φ m (adrs vs us) (ldM m (cellsOf us))) x = Bc (Bq B x) φ m (adrs vs us) (ldM m (cellsOf us)) := by
                  funext a
                  refine propext ⟨fun z => ?_, fun z => ?_⟩
                  · rcases z with z | z
                    · exact ⟨z.1.elim (fun z => .inl (.inl z)) .inr, z.2⟩
                    · exact ⟨.inl (.inr z), fun h => Mc.lvt h (by rw [z]; exact hx)⟩
                  · rcases z with ⟨(z | z) | z, nl⟩
                    · exact .inl ⟨.inl z, nl⟩
                    · exact .inr z
                    · exact .inl ⟨.inr z, nl⟩
                have hc : Cel c H' (LL (Bq (Bc B φ m (adrs vs us) (ldM m (cellsOf us))) x) φ' (m2.set (cellsOf us).length none)) φ' x (.ins k (vF ts)) := by
                  refine ⟨C', dx', fv, e1, g1, by rw [k1, kk]; simp [vF], ?_⟩
                  rw [LL.lock n5.ok hi hm2]
                  exact vmap_rel rr
                rw [bqc] at n6 hc
                obtain ⟨n7, ll⟩ := Nxt.callB (B' := Bq B x) M ru hn.2 (fun a z => z.imp id fun z => by rw [z]; exact hx) n6
                refine h H' φ x hx n7 (Cel.re ?_ (hc.mono pre0 (fun b o nl e => ⟨fun z => nl (ll b z), o, e, .inl rfl⟩) fun _ e => e))
                have : ∀ ts : List (Str × T), toTs (vF ts) = some ts := by
                  intro ts
                  induction ts with
                  | nil => rfl
                  | cons p ts ih => obtain ⟨a, b⟩ := p; simp only [vF, List.map_cons, toTs]; unfold vF at ih; rw [ih]
                unfold toT
                simp only [this]; rfl
              · cases e
          · cases e
  · cases e
theorem rd.make {σ : L2.St} {H : Hp} {Q : VK} (hC : X.mg cl = some (.ref C)) (h : rdN X W (mMake cl n F g) σ H Q) :
    rdA X W g σ H fun vs H1 => ∀ x dx, H1 x = none → H1 dx = none → dx ≠ x → spF (cn X) n F (.ref x :: vs) (upd (upd H1 dx (.own x)) x (.ins C dx [])) (fun v H2 => v = .non ∧ Q (.ref x) H2) (WE W σ) := by
  obtain ⟨B, φ, m, fr, S, r, m', e, h⟩ := h
  refine ⟨B, φ, m, fr, S, ?_⟩
  unfold mMake mBind at e
  cases q : g fr m with
  | none => rw [q] at e; cases e
  | some pq =>
    obtain ⟨r1, m1⟩ := pq
    rw [q] at e
    refine ⟨r1, m1, rfl, fun H1 φ1 n1 => ?_⟩
    cases r1 with
    | error x => cases e; exact h H1 φ1 n1
    | ok us =>
      intro vs ru
      refine spF.make (W := W) (σ := σ) hC n1.ok ru (fun _ _ _ z => z) ⟨r, m', e, ?_⟩
      cases r with
      | ok t => exact fun H' φ' q hq nn hc => h H' φ' q (n1.fresh hq) (n1.transB hq nn) hc
      | error x => exact fun H' φ' nn => h H' φ' (n1.trans nn)
theorem makeAt {sp : Sp} {E : XK} {pins : List (Addr × Obj)} {σ : L2.St} {H : Hp} {s : Shared} {Q : VK} {us : List Value} {vs : List V} (mk : Mk X.K C fa) (FO : FnOk X.prog X.w X.K X.mg X.base (L2.CX X.prog X.w) k fa fd ps sp) (hr : Room (k + 1) X.A) (hb : Binds X.K fd ps [])
    (hx : PassesAt (L2.CX X.prog X.w) X σ E) (inv : Inv X pins σ H s) (r : Vals vs us)
    (h : ∀ x dx, H x = none → H dx = none → dx ≠ x → sp (.ref x :: vs) (upd (upd H dx (.own x)) x (.ins C dx [])) (fun v H2 => v = .non ∧ Q (.ref x) H2) E) :
    wpAny (model X.prog X.w) X.A (call (.ref C) us) (EP X pins σ Q) X.xe s := by
  have wish := h (s.heap.objs.size + 1) s.heap.objs.size (inv.hok.fresh (Nat.le_succ _)) (inv.hok.fresh (Nat.le_refl _)) (Nat.ne_of_lt (Nat.lt_succ_self _))
  have inv2 := Inv.made (C := C) inv
  have rel2 : Vals (V.ref (s.heap.objs.size + 1) :: vs) (Value.ref (s.heap.objs.size + 1) :: us) := .cons rfl r
  have len2 : (Value.ref (s.heap.objs.size + 1) :: us ++ []).length = ps.length := by
    rw [List.append_nil, ← rel2.length]; exact FO.len _ _ _ _ wish
  have bnd := hb _ (Value.ref (s.heap.objs.size + 1) :: us) inv2.kIn len2
  rw [List.append_nil] at bnd
  refine wpAny_call (make_map (f := fa) inv.kIn mk.makes mk.init (beq_iff_eq.mp mk.fn) (codeAny_mono (FO.run _ X.stack _ _ ⟨Value.ref (s.heap.objs.size + 1) :: us, []⟩ (Value.ref (s.heap.objs.size + 1) :: us) _ _ E (hr.make C us []) (inv2.env0.make C us []) bnd rel2 wish) fun res s' got => ?_))
  match res, got with
  | .error e, got => exact hx pins _ _ e s' inv2 got
  | .ok (.ret u), got =>
    obtain ⟨v, H', inv3, rv, ev, q3⟩ := inv2.after got
    subst ev
    exact ⟨rv, ⟨V.ref (s.heap.objs.size + 1), H', inv3, rfl, q3⟩⟩
theorem e_make (tk : Takes X W) (mk : Mk X.K C fa) (FO : FnOk X.prog X.w X.K X.mg X.base (L2.CX X.prog X.w) k fa fd ps (spF (cn X) n F)) (hr : Room (k + 1) X.A) (hg : Gl X cl) (hm : X.mg cl = some (.ref C)) (hb : Binds X.K fd ps [])
    (ha : PA X (e :: es) (rdA X W g)) (hdb : (cl == ("__debug__" : Str)) = false := by decide) (he : starEach (e :: es) X.env = (false, eval e X.env) :: starEach es X.env := by rfl) (hpl : (backTo pos (starEach es X.env)).any (·.1) = false := by rfl) :
    PE X (.Call (.Name cl p) (e :: es) [] pos) (rdN X W (mMake cl n F g)) := by
  refine ⟨fun pins s σ H Q inv hh => wpAny_Call_Name_kw (ld_glob inv hg hm ?_ hdb)⟩
  refine PySem.W.callWith_K (h₀ := X.base) inv.ok.mod.kin mk.kp (thn (ha.run pos pins s σ H _ inv (rd.make hm hh)) fun us s1 ⟨vs, H1, i1, r, q⟩ => ⟨i1.kIn, ?_⟩) he hpl
  exact makeAt mk FO hr hb (passAt tk σ) i1 r q
end
/-! ### attributes -/
def pFld (cl : Str) (f : Str) : U → Mem → Option (U × Mem) := fun u m => match insOf m u with
  | some (n, fs) => if n = cl then (match fs.lookup f with
    | some w => some (w, m)
    | none => none) else none
  | none => none
/-- o.f = v: o a cell -/
def putU (f : Str) (u : U) : List (Str × U) → List (Str × U)
  | [] => [(f, u)]
  | (k, x) :: r => if k = f then (k, u) :: r else (k, x) :: putU f u r
def sFldT (cl : Str) (f : Str) (fo fv : M U) : MS := sBind fv fun uv => sBind fo fun uo fr m => match uo with
  | .c i => match m[i]? with
    | some (some (.ins n fs)) => if n = cl ∧ fs.length < 1000 then some (.fl .nx fr, m.set i (some (.ins n (putU f uv fs)))) else none
    | _ => none
  | _ => none
section
variable {X : Cx} {W : WX} {o e : Expr} {f g : M U} {at' cl : Str} {pos apos : Pos} {C : Addr}
theorem e_fld (ho : PE X o (rdE X W f)) (hC : X.mg cl = some (.ref C)) (cK : Cls X.K C) (nF : NoAttr X.K C at') (hb : attributeBase o at' X.env (eval o X.env) = eval o X.env := by rfl) : PE X (.Attribute o at' pos) (rdE X W (mUn (pFld cl at') f)) := by
  refine PE.wk (pe_fld ho hb) fun σ H Q h => ?_
  obtain ⟨B, φ, m, fr, S, h⟩ := rd.un h
  refine ⟨B, φ, m, fr, S, h.mono fun x H1 ⟨B, φ1, m1, u, M1, ru, w, m', e, h1⟩ => ?_⟩
  unfold pFld at e
  split at e
  · rename_i n fs hins
    split at e
    · rename_i hnc
      subst hnc
      split at e
      · rename_i w' hl
        cases e
        obtain ⟨a, C', dx, fv, rfl, ea, gC, kk, rr⟩ := ru.insOf M1 hins
        have gC : X.mg n = some (.ref C') := gC
        rw [hC] at gC; cases gC
        obtain ⟨v, ev, rv⟩ := lookup_rel kk rr hl
        exact ⟨a, C, dx, fv, v, rfl, ea, cK, nF, ev, h1 H1 φ1 (.refl M1) v rv⟩
      · cases e
    · cases e
  · cases e
theorem putF_rel {c : Cn} {H : Hp} {L : Addr → Prop} {φ : List Addr} {n : Str} {v : V} {u : U} (r : Ru c H L φ v u) : ∀ {fs : List (Str × V)} {gs : List (Str × U)}, fs.map (·.1) = gs.map (·.1) → Rus c H L φ (fs.map (·.2)) (gs.map (·.2)) →
    (L2.putF n v fs).map (·.1) = (putU n u gs).map (·.1) ∧ Rus c H L φ ((L2.putF n v fs).map (·.2)) ((putU n u gs).map (·.2))
  | [], [], _, _ => ⟨rfl, .cons r .nil⟩
  | [], _ :: _, h, _ => by simp at h
  | _ :: _, [], h, _ => by simp at h
  | (a, x) :: fs, (b, y) :: gs, h, rs => by
    simp only [List.map_cons, List.cons.injEq] at h
    obtain ⟨rfl, h⟩ := h
    cases rs with
    | cons r1 rs =>
      unfold L2.putF putU
      by_cases e : a = n
      · subst e; simp only [if_true]
        exact ⟨by simp [h], .cons r rs⟩
      · simp only [if_neg e]
        obtain ⟨h1, h2⟩ := putF_rel r h rs
        exact ⟨by simp [h1], .cons r1 h2⟩
theorem s_fld (ho : PE X o (rdE X W f)) (hv : PE X e (rdE X W g)) (hC : X.mg cl = some (.ref C)) (cK : Cls X.K C) (nF : NoAttr X.K C at') (hs : swapsWith e (some (.Attribute o at' apos)) pos.line X.env = pure false := by rfl) :
    PS X (.Assign [.Attribute o at' apos] e pos) (rdS X W (sFldT cl at' f g)) := by
  refine PS.wk (ps_fld ho hv hs) fun D σ H h => ?_
  obtain ⟨B, φ, m, fr, S, h⟩ := h
  refine ⟨B, φ, m, fr, S, (h.bind (R := rrU) S).mono fun y H1 ⟨φ1, m1, uv, n1, rv, h1⟩ => ⟨B, φ1, m1, fr, S.nxt n1, (h1.bind (R := rrU) (S.nxt n1)).mono fun x H2 ⟨φ2, m2, uo, n2, ro, r, m', e0, h2⟩ => ?_⟩⟩
  have rv2 := rv.nxt n2
  have S2 := (S.nxt n1).nxt n2
  match uo, ro, e0 with
  | .c i, .c hi, e9 =>
    dsimp only at e9
    split at e9
    · rename_i n fs hm
      split at e9
      · rename_i hc
        obtain ⟨rfl, hlen⟩ := hc
        cases e9
        obtain ⟨C', dx, fv, ea, gC, kk, rr⟩ := n2.ok.cel i _ _ hi hm
        have gC' : X.mg n = some (.ref C') := gC
        rw [hC] at gC'; cases gC'
        have hl : fv.length = fs.length := by have := congrArg List.length kk; simpa using this
        refine ⟨_, C, dx, fv, rfl, ea, cK, nF, by omega, ?_⟩
        obtain ⟨k1, r1⟩ := putF_rel (n := at') rv2 kk rr
        have la : LL B φ2 m2 _ := .inr ⟨i, _, hi, hm⟩
        have n3 := Nxt.write (t' := .ins n (putU at' uv fs)) n2.ok hi hm (o := .ins C dx (L2.putF at' y fv)) ⟨C, dx, _, upd_same, gC, k1, r1.mono pre0 fun b u nl e => ⟨nl, u, by rw [upd_ne (fun z => nl (by rw [z]; exact la))]; exact e, .inl rfl⟩⟩
        exact h2 _ φ2 n3 σ (S2.nxt n3)
      · cases e9
    · cases e9
end
end G

/-! G9: operators, comparisons, isinstance. -/
namespace G
open PySem PySem.Spec PyProof.Rows L2

/-! ### arithmetic -/
def addT : T → T → Option T
  | .int a, .int b => some (.int (a + b))
  | .tup a, .tup b => if a.length + b.length ≤ sizeLine then some (.tup (a ++ b)) else none
  | .lst a, .lst b => if a.length + b.length ≤ sizeLine then some (.lst (a ++ b)) else none
  | _, _ => none
def subT : T → T → Option T
  | .int a, .int b => some (.int (a - b))
  | _, _ => none
def mulT : T → T → Option T
  | .int a, .int b => if (-(2 ^ 64) < a ∧ a < 2 ^ 64) ∨ (-(2 ^ 64) < b ∧ b < 2 ^ 64) then some (.int (a * b)) else none
  | _, _ => none
def fdivT : T → T → Option T
  | .int a, .int b => if 0 < b ∧ b < 2 ^ 200 then some (.int (a / b)) else none
  | _, _ => none
def modT : T → T → Option T
  | .int a, .int b => if 0 < b then some (.int (a % b)) else none
  | _, _ => none
def powT : T → T → Option T
  | .int a, .int b => if 0 ≤ b ∧ b ≤ 1000000 ∧ a.natAbs < 2 ^ 64 then some (.int (a ^ b.toNat)) else none
  | _, _ => none
def negT : T → Option T
  | .int a => some (.int (-a))
  | _ => none
def ltT : T → T → Option T
  | .int a, .int b => some (.bl (decide (a < b)))
  | .str a, .str b => some (.bl (decide (a.cps.toList < b.cps.toList)))
  | _, _ => none
def leT : T → T → Option T
  | .int a, .int b => some (.bl (decide (a ≤ b)))
  | .str a, .str b => some (.bl (!decide (b.cps.toList < a.cps.toList)))
  | _, _ => none
def gtT : T → T → Option T := fun a b => ltT b a
def geT : T → T → Option T := fun a b => leT b a
section
variable {X : Cx}
theorem op_T {f : Value → Value → Sem Value} {p : T → T → Option T}
    (h : ∀ (pins : List (Addr × Obj)) (s : Shared) (σ : L2.St) (H : Hp) (x y : V) (v u : Value) (Q : VK) (B : Addr → Prop) (φ : List Addr) (m : Mem) (x' y' t : T), Inv X pins σ H s → RelV x v → RelV y u → MOk (cn X) B H φ m →
      Vw (cn X) H (LL B φ m) x x' → Vw (cn X) H (LL B φ m) y y' → p x' y' = some t → (∀ H', Nxt (cn X) B H φ m H' φ m → ∀ v, Rp (cn X) H' (LL B φ m) v t → Q v H') → wpAny (model X.prog X.w) X.A (f v u) (EP X pins σ Q) X.xe s) : OpR X f (r2 (cn X) (pv2 p)) := by
  intro pins s σ H x y v u Q inv r1 r2 ⟨B, φ, m, a, b, M, ra, rb, h'⟩
  obtain ⟨x', y', t, vx, vy, e, hq⟩ := h'.pv2 M ra rb
  exact h pins s σ H x y v u Q B φ m x' y' t inv r1 r2 M vx vy e hq
/-- ints alone -/
theorem op_TI {f : Value → Value → Sem Value} {p : T → T → Option T} {g : Int → Int → V} {gt : Int → Int → T} {Cd : Int → Int → Prop} (h : OpR X f (rI Cd g)) (hg : ∀ c H L i j, Rp c H L (g i j) (gt i j))
    (hp : ∀ x y t, p x y = some t → ∃ i j, x = .int i ∧ y = .int j ∧ Cd i j ∧ t = gt i j) : OpR X f (r2 (cn X) (pv2 p)) := op_T fun pins s σ H x y v u Q B φ m x' y' t inv r1 r2 M vx vy e hq => by
  obtain ⟨i, j, rfl, rfl, hc, rfl⟩ := hp x' y' t e
  cases vx.int
  cases vy.int
  exact h pins s σ H _ _ v u Q inv r1 r2 ⟨i, j, rfl, rfl, hc, hq H (.refl M) _ (hg _ _ _ i j)⟩
theorem rI_of {f : Value → Value → Sem Value} {g : Int → Int → V} (h : OpR X f (rI0 g)) : OpR X f (rI (fun _ _ => True) g) := OpR.wk h fun _ _ _ _ ⟨i, j, e1, e2, _, q⟩ => ⟨i, j, e1, e2, q⟩
/-- nothing ahead of a tuple: the tuple itself -/
theorem op_catE : OpR X (binaryOp .Add) (fun x y H Q => ∃ a b ys, x = .ref a ∧ y = .ref b ∧ SqT X.K H a [] ∧ SqT X.K H b ys ∧ Q (.ref b) H) := by
  intro pins s σ H x y v u Q inv r1 r2 ⟨a, b, ys, e1, e2, ha, hb, q⟩
  subst e1 e2
  cases r1
  cases r2
  obtain ⟨its, i1, p1, _⟩ := inv.tuple ha
  obtain ⟨its2, i2, p2, _⟩ := inv.tuple hb
  cases i1
  obtain ⟨⟨cls, dd, data, sl⟩, ho, hc, n, hd⟩ := id p1
  obtain ⟨⟨cls2, dd2, data2, sl2⟩, ho2, hc2, n2, hd2⟩ := id p2
  simp only at hc hd hc2 hd2
  subst hc hd hc2 hd2
  exact concat_meets ⟨_, ho, rfl⟩ ⟨_, ho2, rfl⟩ noFill_tuple_add seq_tuple_add PySem.F.slot_tuple_add PySem.F.entry_tuple_add (PySem.F.args_tuple_add_2 _ _) (tuple_addW0 a b _ _ n n2 dd dd2 sl sl2 rfl) ⟨ho, ho2, ⟨.ref b, H, inv, rfl, q⟩⟩
theorem op_addT : OpR X (binaryOp .Add) (r2 (cn X) (pv2 addT)) := op_T fun pins s σ H x y v u Q B φ m x' y' t inv r1 r2 M vx vy e hq => by
  unfold addT at e
  split at e
  · cases e
    cases vx.int
    cases vy.int
    exact op_add pins s σ H _ _ v u Q inv r1 r2 ⟨_, _, rfl, rfl, hq H (.refl M) _ (.int _)⟩
  · rename_i a b
    split at e
    · rename_i hc
      cases e
      obtain ⟨p, vs, rfl, e1, r3⟩ := vx.tup
      obtain ⟨q, ws, rfl, e2, r4⟩ := vy.tup
      by_cases hv : vs = []
      · subst hv
        cases r3
        exact op_catE pins s σ H _ _ v u Q inv r1 r2 ⟨p, q, ws, rfl, rfl, .of e1, .of e2, hq H (.refl M) _ (vy.plain (fun _ _ z => nomatch z) (fun _ z => nomatch z) (fun _ z => nomatch z) (fun _ z => nomatch z))⟩
      · refine op_catT pins s σ H _ _ v u Q inv r1 r2 ⟨p, q, vs, ws, rfl, rfl, .of e1, .of e2, hv, by rw [r3.length, r4.length]; exact hc, fun z => ?_, fun _ n hn => ?_⟩
        · subst z
          cases r4
          rw [List.append_nil] at hq
          exact hq H (.refl M) _ (vx.plain (fun _ _ z => nomatch z) (fun _ z => nomatch z) (fun _ z => nomatch z) (fun _ z => nomatch z))
        · obtain ⟨n2, rt⟩ := Nxt.tup (x := .non) (t := .non) (.refl M) hn (r3.append r4)
          exact hq _ n2 _ rt
    · cases e
  · rename_i a b
    split at e
    · rename_i hc
      cases e
      obtain ⟨p, vs, rfl, e1, r3⟩ := vx.lst
      obtain ⟨q, ws, rfl, e2, r4⟩ := vy.lst
      refine op_cat pins s σ H _ _ v u Q inv r1 r2 ⟨p, q, vs, ws, rfl, rfl, e1, e2, by rw [r3.length, r4.length]; exact hc, fun n hn => ?_⟩
      exact hq _ (Nxt.new (.refl M) hn).unB _ (.lst (M.noL hn) upd_same ((r3.append r4).new hn).unB)
    · cases e
  · cases e
theorem op_subT : OpR X (binaryOp .Sub) (r2 (cn X) (pv2 subT)) := op_TI (gt := fun i j => .int (i - j)) (rI_of op_sub) (fun _ _ _ _ _ => .int _) fun x y t e => by
  unfold subT at e
  split at e
  · cases e; exact ⟨_, _, rfl, rfl, trivial, rfl⟩
  · cases e
theorem op_mulT : OpR X (binaryOp .Mult) (r2 (cn X) (pv2 mulT)) := op_TI (gt := fun i j => .int (i * j)) op_mul (fun _ _ _ _ _ => .int _) fun x y t e => by
  unfold mulT at e
  split at e
  · split at e
    · rename_i hc; cases e; exact ⟨_, _, rfl, rfl, hc, rfl⟩
    · cases e
  · cases e
theorem op_fdivT : OpR X (binaryOp .FloorDiv) (r2 (cn X) (pv2 fdivT)) := op_TI (gt := fun i j => .int (i / j)) op_fdivW (fun _ _ _ _ _ => .int _) fun x y t e => by
  unfold fdivT at e
  split at e
  · split at e
    · rename_i i j hc; cases e
      refine ⟨_, _, rfl, rfl, wide_div (b := 200) hc.1 ?_ (by decide) (by decide), rfl⟩
      have h1 : ((j.natAbs : Nat) : Int) = j := Int.natAbs_of_nonneg (Int.le_of_lt hc.1)
      have h2 : ((j.natAbs : Nat) : Int) < ((2 ^ 200 : Nat) : Int) := by rw [h1, Int.natCast_pow]; exact hc.2
      exact Int.ofNat_lt.mp h2
    · cases e
  · cases e
theorem op_modT : OpR X (binaryOp .Mod) (r2 (cn X) (pv2 modT)) := op_TI (gt := fun i j => .int (i % j)) op_mod (fun _ _ _ _ _ => .int _) fun x y t e => by
  unfold modT at e
  split at e
  · split at e
    · rename_i hc; cases e; exact ⟨_, _, rfl, rfl, hc, rfl⟩
    · cases e
  · cases e
theorem op_powT : OpR X (binaryOp .Pow) (r2 (cn X) (pv2 powT)) := op_TI (gt := fun i j => .int (i ^ j.toNat)) op_pow (fun _ _ _ _ _ => .int _) fun x y t e => by
  unfold powT at e
  split at e
  · split at e
    · rename_i hc; cases e; exact ⟨_, _, rfl, rfl, hc, rfl⟩
    · cases e
  · cases e
theorem un_negT : UnR X (unaryOp .USub) (r1 (cn X) (pv1 negT)) := by
  intro pins s σ H x v Q inv r1 ⟨B, φ, m, a, M, ra, h'⟩
  obtain ⟨x', t, vx, e, hq⟩ := h'.pv1 M ra
  unfold negT at e
  split at e
  · cases e
    cases vx.int
    exact un_neg pins s σ H _ v Q inv r1 ⟨_, rfl, hq H (.refl M) _ (.int _)⟩
  · cases e
theorem op_ltT : OpR X (compareOp .Lt) (r2 (cn X) (pv2 ltT)) := op_T fun pins s σ H x y v u Q B φ m x' y' t inv r1 r2 M vx vy e hq => by
  unfold ltT at e
  split at e
  · cases e; cases vx.int; cases vy.int
    exact op_lt pins s σ H _ _ v u Q inv r1 r2 ⟨_, _, rfl, rfl, hq H (.refl M) _ (.bl _)⟩
  · cases e; cases vx.str; cases vy.str
    exact op_lt_str pins s σ H _ _ v u Q inv r1 r2 ⟨_, _, rfl, rfl, hq H (.refl M) _ (.bl _)⟩
  · cases e
theorem op_leT : OpR X (compareOp .LtE) (r2 (cn X) (pv2 leT)) := op_T fun pins s σ H x y v u Q B φ m x' y' t inv r1 r2 M vx vy e hq => by
  unfold leT at e
  split at e
  · cases e; cases vx.int; cases vy.int
    exact op_le pins s σ H _ _ v u Q inv r1 r2 ⟨_, _, rfl, rfl, hq H (.refl M) _ (.bl _)⟩
  · cases e; cases vx.str; cases vy.str
    exact op_le_str pins s σ H _ _ v u Q inv r1 r2 ⟨_, _, rfl, rfl, hq H (.refl M) _ (.bl _)⟩
  · cases e
theorem op_gtT : OpR X (compareOp .Gt) (r2 (cn X) (pv2 gtT)) := op_T fun pins s σ H x y v u Q B φ m x' y' t inv r1 r2 M vx vy e hq => by
  unfold gtT ltT at e
  split at e
  · cases e; cases vx.int; cases vy.int
    exact op_gt pins s σ H _ _ v u Q inv r1 r2 ⟨_, _, rfl, rfl, hq H (.refl M) _ (.bl _)⟩
  · cases e; cases vx.str; cases vy.str
    exact op_gt_str pins s σ H _ _ v u Q inv r1 r2 ⟨_, _, rfl, rfl, hq H (.refl M) _ (.bl _)⟩
  · cases e
theorem op_geT : OpR X (compareOp .GtE) (r2 (cn X) (pv2 geT)) := op_T fun pins s σ H x y v u Q B φ m x' y' t inv r1 r2 M vx vy e hq => by
  unfold geT leT at e
  split at e
  · cases e; cases vx.int; cases vy.int
    exact op_ge pins s σ H _ _ v u Q inv r1 r2 ⟨_, _, rfl, rfl, hq H (.refl M) _ (.bl _)⟩
  · cases e; cases vx.str; cases vy.str
    exact op_ge_str pins s σ H _ _ v u Q inv r1 r2 ⟨_, _, rfl, rfl, hq H (.refl M) _ (.bl _)⟩
  · cases e
end

/-! ### data as a whole: ==, in -/
mutual
def toD : T → PyData
  | .non => .none
  | .bl b => .bool b
  | .int i => .int i
  | .str x => .str x
  | .tup ts => .tuple (toDs ts)
  | .lst ts => .list (toDs ts)
  | .rol ts => .list (toDs ts)
  | .rot ts => .tuple (toDs ts)
  | .dK _ => .dict []
  | .dT _ => .dict []
  | .ins _ _ => .dict []
  | .exc _ _ => .dict []
def toDs : List T → List PyData
  | [] => []
  | t :: ts => toD t :: toDs ts
end
theorem toDs_map : ∀ ts : List T, toDs ts = ts.map toD
  | [] => rfl
  | t :: ts => by unfold toDs; rw [toDs_map ts]; rfl
/-- data, nested at most so deep -/
def okD : Nat → T → Bool
  | _, .non => true
  | _, .bl _ => true
  | _, .int _ => true
  | _, .str x => PyData.strOk x
  | n + 1, .tup ts => ts.all (okD n)
  | n + 1, .lst ts => ts.all (okD n)
  | n + 1, .rol ts => ts.all (okD n)
  | n + 1, .rot ts => ts.all (okD n)
  | _, _ => false
theorem okD_lay : ∀ (n : Nat) (t : T), okD n t = true → (toD t).canLay0 = true ∧ (toD t).depth ≤ n := by
  have lst : ∀ (n : Nat), (∀ t : T, okD n t = true → (toD t).canLay0 = true ∧ (toD t).depth ≤ n) → ∀ ts : List T, ts.all (okD n) = true → PyData.canLayAll0 (toDs ts) = true ∧ PyData.depthAll (toDs ts) ≤ n := by
    intro n ih ts
    induction ts with
    | nil => intro _; exact ⟨rfl, Nat.zero_le _⟩
    | cons t ts ih2 =>
      intro h
      simp only [List.all_cons, Bool.and_eq_true] at h
      obtain ⟨h1, h2⟩ := ih t h.1
      obtain ⟨h3, h4⟩ := ih2 h.2
      unfold toDs
      refine ⟨by simp [PyData.canLayAll0, h1, h3], ?_⟩
      simp only [PyData.depthAll]
      omega
  intro n
  induction n with
  | zero =>
    intro t h
    cases t <;> first | exact ⟨rfl, Nat.le_refl _⟩ | (simp only [okD] at h; exact ⟨by simpa [toD, PyData.canLay0] using h, Nat.le_refl _⟩) | (simp [okD] at h)
  | succ n ih =>
    intro t h
    cases t with
    | non => exact ⟨rfl, Nat.zero_le _⟩
    | bl b => exact ⟨rfl, Nat.zero_le _⟩
    | int i => exact ⟨rfl, Nat.zero_le _⟩
    | str x => exact ⟨by simpa [okD, toD, PyData.canLay0] using h, Nat.zero_le _⟩
    | tup ts => obtain ⟨h1, h2⟩ := lst n ih ts (by simpa [okD] using h); exact ⟨by simpa [toD, PyData.canLay0] using h1, by simp only [toD, PyData.depth]; omega⟩
    | lst ts => obtain ⟨h1, h2⟩ := lst n ih ts (by simpa [okD] using h); exact ⟨by simpa [toD, PyData.canLay0] using h1, by simp only [toD, PyData.depth]; omega⟩
    | rol ts => obtain ⟨h1, h2⟩ := lst n ih ts (by simpa [okD] using h); exact ⟨by simpa [toD, PyData.canLay0] using h1, by simp only [toD, PyData.depth]; omega⟩
    | rot ts => obtain ⟨h1, h2⟩ := lst n ih ts (by simpa [okD] using h); exact ⟨by simpa [toD, PyData.canLay0] using h1, by simp only [toD, PyData.depth]; omega⟩
    | dK ts => simp [okD] at h
    | dT ts => simp [okD] at h
    | ins n fs => simp [okD] at h
    | exc n fs => simp [okD] at h
theorem okD_shaped {t : T} (h : okD 64 t = true) : SeqAt.shaped (toD t) = true := by
  obtain ⟨h1, h2⟩ := okD_lay 64 t h
  unfold SeqAt.shaped
  rw [h1, decide_eq_true h2]; rfl
mutual
theorem Rp.dp {c : Cn} {H : Hp} {L : Addr → Prop} : ∀ {n : Nat} {v : V} {t : T}, Rp c H L v t → okD n t = true → Dp c.K H v (toD t)
  | _, _, _, .non, _ => .non
  | _, _, _, .bl b, _ => .bl b
  | _, _, _, .int i, _ => .int i
  | _, _, _, .str x, _ => .str x
  | n + 1, _, _, .tup nl e r, h => .tup (.of e) (r.dp (n := n) (by simpa [okD] using h))
  | n + 1, _, _, .rot k r, h => .tup (.inr k) (r.dp (n := n) (by simpa [okD] using h))
  | n + 1, _, _, .lst nl e r, h => .lst (.of e) (r.dp (n := n) (by simpa [okD] using h))
  | n + 1, _, _, .rolF nl e r, h => .lst (.inl (.inr ⟨_, e⟩)) (r.dp (n := n) (by simpa [okD] using h))
  | n + 1, _, _, .rol k r, h => .lst (.inr k) (r.dp (n := n) (by simpa [okD] using h))
  | 0, _, _, .tup _ _ _, h => by simp [okD] at h
  | 0, _, _, .rot _ _, h => by simp [okD] at h
  | 0, _, _, .lst _ _ _, h => by simp [okD] at h
  | 0, _, _, .rolF _ _ _, h => by simp [okD] at h
  | 0, _, _, .rol _ _, h => by simp [okD] at h
  | n, _, _, .dK _ _ _ _, h => by cases n <;> simp [okD] at h
  | n, _, _, .dT _ _ _ _, h => by cases n <;> simp [okD] at h
  | n, _, _, .ins _ _ _ _ _, h => by cases n <;> simp [okD] at h
  | n, _, _, .exc0 _ _, h => by cases n <;> simp [okD] at h
  | n, _, _, .exc1 _ _ _ _ _ _, h => by cases n <;> simp [okD] at h
theorem Rps.dp {c : Cn} {H : Hp} {L : Addr → Prop} : ∀ {n : Nat} {vs : List V} {ts : List T}, Rps c H L vs ts → (∀ x ∈ ts, okD n x = true) → DpAll c.K H vs (toDs ts)
  | _, _, _, .nil, _ => .nil
  | n, _, _, .cons a r, h => .cons (a.dp (h _ (by simp))) (r.dp (n := n) fun x hx => h x (by simp [hx]))
end
theorem Vw.dp {c : Cn} {H : Hp} {L : Addr → Prop} {x : V} {t : T} {n : Nat} (h : Vw c H L x t) (hn : okD n t = true) : Dp c.K H x (toD t) := by
  rcases h with h | ⟨a, φ, ct, rfl, ht, hc⟩
  · exact h.dp hn
  · have : ct = .t t := toT_t ht fun k fs z => by subst z; cases n <;> simp [okD] at hn
    subst this
    match t, hc, hn with
    | .lst ts, ⟨vs, e, r⟩, hn =>
      cases n with
      | zero => simp [okD] at hn
      | succ n => exact .lst (.of e) (r.dp (n := n) (by simpa [okD] using hn))
    | .dK ts, _, hn => cases n <;> simp [okD] at hn
    | .dT ts, _, hn => cases n <;> simp [okD] at hn
def eqT (x y : T) : Bool := PyData.eqv (toD x) (toD y)
def eqP : T → T → Option T := fun x y => if okD 64 x && okD 64 y then some (.bl (eqT x y)) else none
def neP : T → T → Option T := fun x y => if okD 64 x && okD 64 y then some (.bl (!eqT x y)) else none
def isNon : T → Bool
  | .non => true
  | _ => false
def isP : T → T → Option T
  | x, .non => some (.bl (isNon x))
  | _, _ => none
def isNotP : T → T → Option T
  | x, .non => some (.bl (!isNon x))
  | _, _ => none
/-- in: a list's items -/
def inP : T → T → Option T
  | x, .lst ts => if okD 63 x && okD 64 (.lst ts) then some (.bl (ts.any fun z => eqT z x)) else none
  | x, .rol ts => if okD 63 x && okD 64 (.rol ts) then some (.bl (ts.any fun z => eqT z x)) else none
  | .str x, .str y => if x.cps.size = 1 then some (.bl (match x.cps[0]? with | some c => decide (c ∈ y.cps.toList) | none => false)) else none
  | _, _ => none
def notInP : T → T → Option T := fun x y => match inP x y with
  | some (.bl b) => some (.bl (!b))
  | _ => none
section
variable {X : Cx}
theorem op_eqT (hu : X.A.units + 64 < cLine) : OpR X (compareOp .Eq) (r2 (cn X) (pv2 eqP)) := op_T fun pins s σ H x y v u Q B φ m x' y' t inv r1 r2 M vx vy e hq => by
  unfold eqP at e
  split at e
  · rename_i hc
    cases e
    rw [Bool.and_eq_true] at hc
    exact op_eqD hu pins s σ H _ _ v u Q inv r1 r2 ⟨_, _, vx.dp hc.1, vy.dp hc.2, okD_shaped hc.1, okD_shaped hc.2, hq H (.refl M) _ (.bl _)⟩
  · cases e
theorem op_neT (hu : X.A.units + 64 < cLine) : OpR X (compareOp .NotEq) (r2 (cn X) (pv2 neP)) := op_T fun pins s σ H x y v u Q B φ m x' y' t inv r1 r2 M vx vy e hq => by
  unfold neP at e
  split at e
  · rename_i hc
    cases e
    rw [Bool.and_eq_true] at hc
    exact op_neD hu pins s σ H _ _ v u Q inv r1 r2 ⟨_, _, vx.dp hc.1, vy.dp hc.2, okD_shaped hc.1, okD_shaped hc.2, hq H (.refl M) _ (.bl _)⟩
  · cases e
theorem Vw.isN {c : Cn} {H : Hp} {L : Addr → Prop} {x : V} {t : T} (h : Vw c H L x t) : decide (x = .non) = isNon t := by
  rcases h with h | ⟨a, φ, ct, rfl, ht, hc⟩
  · cases h <;> rfl
  · cases t with
    | non =>
      have := toT_t ht fun _ _ z => nomatch z
      subst this; exact hc.elim
    | _ => rfl
theorem op_isT : OpR X (compareOp .Is) (r2 (cn X) (pv2 isP)) := op_T fun pins s σ H x y v u Q B φ m x' y' t inv r1 r2 M vx vy e hq => by
  unfold isP at e
  split at e
  · cases e
    cases vy.non
    refine op_isN pins s σ H _ _ v u Q inv r1 r2 ⟨rfl, ?_⟩
    rw [vx.isN]
    exact hq H (.refl M) _ (.bl _)
  · cases e
theorem op_isNotT : OpR X (compareOp .IsNot) (r2 (cn X) (pv2 isNotP)) := op_T fun pins s σ H x y v u Q B φ m x' y' t inv r1 r2 M vx vy e hq => by
  unfold isNotP at e
  split at e
  · cases e
    cases vy.non
    refine op_notN pins s σ H _ _ v u Q inv r1 r2 ⟨rfl, ?_⟩
    rw [vx.isN]
    exact hq H (.refl M) _ (.bl _)
  · cases e
theorem okD_up : ∀ {n : Nat} {t : T}, okD n t = true → okD (n + 1) t = true := by
  intro n
  induction n with
  | zero => intro t h; cases t <;> first | rfl | exact h | (simp [okD] at h)
  | succ n ih =>
    intro t h
    cases t <;> first | rfl | exact h | (simp only [okD, List.all_eq_true] at h ⊢; exact fun x hx => ih (h x hx)) | (simp [okD] at h)
theorem op_inT (hu : X.A.units + 65 < cLine) : OpR X (compareOp .In) (r2 (cn X) (pv2 inP)) := op_T fun pins s σ H x y v u Q B φ m x' y' t inv r1 r2 M vx vy e hq => by
  unfold inP at e
  split at e
  · rename_i x' ts
    split at e
    · rename_i hc
      cases e
      rw [Bool.and_eq_true] at hc
      have h1 := okD_up hc.1
      refine op_inD hu pins s σ H _ _ v u Q inv r1 r2 ⟨_, _, vx.dp h1, vy.dp hc.2, okD_shaped h1, okD_shaped (t := .lst ts) hc.2, ?_⟩
      rw [toDs_map, List.any_map]
      exact hq H (.refl M) _ (.bl _)
    · cases e
  · rename_i x' ts
    split at e
    · rename_i hc
      cases e
      rw [Bool.and_eq_true] at hc
      have h1 := okD_up hc.1
      refine op_inD hu pins s σ H _ _ v u Q inv r1 r2 ⟨_, _, vx.dp h1, vy.dp hc.2, okD_shaped h1, okD_shaped (t := .rol ts) hc.2, ?_⟩
      rw [toDs_map, List.any_map]
      exact hq H (.refl M) _ (.bl _)
    · cases e
  · rename_i a b
    split at e
    · rename_i hc
      cases e
      cases vx.str; cases vy.str
      obtain ⟨⟨l⟩⟩ := a
      match l, hc with
      | [c], _ =>
        refine op_in_sign pins s σ H _ _ v u Q inv r1 r2 ⟨c, b, rfl, rfl, ?_⟩
        exact hq H (.refl M) _ (.bl _)
    · cases e
  · cases e
theorem op_notInT (hu : X.A.units + 65 < cLine) : OpR X (compareOp .NotIn) (r2 (cn X) (pv2 notInP)) := op_T fun pins s σ H x y v u Q B φ m x' y' t inv r1 r2 M vx vy e hq => by
  unfold notInP inP at e
  split at e
  · rename_i b hb
    cases e
    split at hb
    · rename_i x' ts
      split at hb
      · rename_i hc
        cases hb
        rw [Bool.and_eq_true] at hc
        have h1 := okD_up hc.1
        refine op_notInD hu pins s σ H _ _ v u Q inv r1 r2 ⟨_, _, vx.dp h1, vy.dp hc.2, okD_shaped h1, okD_shaped (t := .lst ts) hc.2, ?_⟩
        rw [toDs_map, List.any_map]
        exact hq H (.refl M) _ (.bl _)
      · cases hb
    · rename_i x' ts
      split at hb
      · rename_i hc
        cases hb
        rw [Bool.and_eq_true] at hc
        have h1 := okD_up hc.1
        refine op_notInD hu pins s σ H _ _ v u Q inv r1 r2 ⟨_, _, vx.dp h1, vy.dp hc.2, okD_shaped h1, okD_shaped (t := .rol ts) hc.2, ?_⟩
        rw [toDs_map, List.any_map]
        exact hq H (.refl M) _ (.bl _)
      · cases hb
    · rename_i a b
      split at hb
      · rename_i hc
        cases hb
        cases vx.str; cases vy.str
        obtain ⟨⟨l⟩⟩ := a
        match l, hc with
        | [c], _ =>
          refine op_notIn_sign pins s σ H _ _ v u Q inv r1 r2 ⟨c, b, rfl, rfl, ?_⟩
          exact hq H (.refl M) _ (.bl _)
      · cases hb
    · cases hb
  · cases e
/-! ### chains -/
theorem rd.chain {W : WX} {p p' : U → U → Mem → Option (U × Mem)} {f g h : M U} {σ : L2.St} {H : Hp} {Q : VK} (hh : rdE X W (mChain p p' f g h) σ H Q) : tChain (r2 (cn X) p) (r2 (cn X) p') (rdE X W f) (rdE X W g) (rdE X W h) σ H Q := by
  obtain ⟨B, φ, m, fr, S, h0⟩ := hh
  refine ⟨B, φ, m, fr, S, (h0.bind (R := rrU)).mono fun x H1 ⟨φ1, m1, u1, n1, ru1, h1⟩ => ⟨B, φ1, m1, fr, S.nxt n1, (h1.bind (R := rrU)).mono fun y H2 ⟨φ2, m2, u2, n2, ru2, h2⟩ => ?_⟩⟩
  refine ⟨B, φ2, m2, u1, u2, n2.ok, ru1.nxt n2, ru2, ?_⟩
  have h3 := (h2.bind (R := rrU)).lift
  obtain ⟨w, m3, e, h3⟩ := h3
  refine ⟨w, m3, e, fun H3 φ3 n3 z rz => ?_⟩
  obtain ⟨φ4, m4, w4, n4, rw4, h4⟩ := h3 H3 φ3 n3 z rz
  obtain ⟨k, rfl, h5⟩ := rx.boolM (R := rrU) (k := fun k => if k then mBind h fun d => mLift (p' u2 d) else mPure (.v (.bl false))) rw4 h4
  refine ⟨k, rfl, ?_⟩
  cases k with
  | true =>
    refine ⟨B, φ4, m4, fr, ((S.nxt n1).nxt n2).nxt n4, (rx.bind (R := rrU) (fr := fr) (f := h) (k := fun d => mLift (p' u2 d)) h5).mono fun d H5 ⟨φ5, m5, u5, n5, ru5, h6⟩ => ?_⟩
    exact ⟨B, φ5, m5, u2, u5, n5.ok, (ru2.nxt n4).nxt n5, ru5, h6.lift⟩
  | false => exact rx.pure (R := rrU) (fr := fr) n4.ok h5 _ (.v (.bl _))
theorem e_chain {W : WX} {a b c : Expr} {pos : Pos} {f g h : M U} {op op' : CmpOp} {p p' : U → U → Mem → Option (U × Mem)} (ho : OpR X (compareOp op) (r2 (cn X) p)) (ho' : OpR X (compareOp op') (r2 (cn X) p')) (ha : PE X a (rdE X W f)) (hb : PE X b (rdE X W g)) (hc : PE X c (rdE X W h))
    (hm : lastMarks [op, op'] [b, c] = false := by with_unfolding_all rfl) : PE X (.Compare a [op, op'] [b, c] pos) (rdE X W (mChain p p' f g h)) := PE.wk (pe_chain ho ho' ha hb hc hm) fun _ _ _ h => rd.chain h
theorem t_chain {W : WX} {a b c : Expr} {pos : Pos} {f g h : M U} {op op' : CmpOp} {p p' : U → U → Mem → Option (U × Mem)} (ho : OpR X (compareOp op) (r2 (cn X) p)) (ho' : OpR X (compareOp op') (r2 (cn X) p')) (ha : PE X a (rdE X W f)) (hb : PE X b (rdE X W g)) (hc : PE X c (rdE X W h))
    (hm : lastMarks [op, op'] [b, c] = false := by with_unfolding_all rfl) : PT X (.Compare a [op, op'] [b, c] pos) (rdT X W (mTst (mChain p p' f g h))) := PT.wk (pt_chain ho ho' ha hb hc hm) fun _ _ _ h => rd.chain (rd.tst h)
end
end G

/-! G10: built-ins. -/
namespace G
open PySem PySem.Spec PyProof.Rows L2

/-! ### isinstance -/
def tyName : T → Option String
  | .non => some "NoneType"
  | .bl _ => some "bool"
  | .int _ => some "int"
  | .str _ => some "str"
  | .tup _ => some "tuple"
  | .lst _ => some "list"
  | .rol _ => some "list"
  | .rot _ => some "tuple"
  | .dT _ => some "dict"
  | .dK _ => some "dict"
  | _ => none
def isiT (ty : String) : T → Option T := fun t => match tyName t with
  | some n => match kitB n ty with
    | some b => some (.bl b)
    | none => none
  | none => none
/-- a class of one's own: of its instances and of data -/
def isiC (cl : Str) : T → Option T
  | .ins n _ => if n = cl then some (.bl true) else none
  | t => match tyName t with
    | some _ => some (.bl false)
    | none => none
theorem Vw.ty {c : Cn} {H : Hp} {L : Addr → Prop} {x : V} {t : T} {n : String} (h : Vw c H L x t) (hn : tyName t = some n) (hd : ∀ ts, t ≠ .dT ts) : TyX c.K H x (.type n) := by
  cases t with
  | non => cases hn; cases h.non; exact .base .non
  | bl b => cases hn; cases h.bl; exact .base (.bl _)
  | int i => cases hn; cases h.int; exact .base (.int _)
  | str x => cases hn; cases h.str; exact .base (.str _)
  | tup ts => cases hn; obtain ⟨a, vs, rfl, e, _⟩ := h.tup; exact .base (.tup e)
  | lst ts => cases hn; obtain ⟨a, vs, rfl, e, _⟩ := h.lst; exact .base (.lst e)
  | rol ts =>
    cases hn
    obtain ⟨a, vs, rfl, e, _⟩ := h.rol
    rcases e with (e | ⟨o, e⟩) | ⟨o, its, k, e, hc, _⟩
    · exact .base (.lst e)
    · exact .base (.frz e)
    · exact .kList e hc
  | rot ts =>
    cases hn
    obtain ⟨a, vs, rfl, e, _⟩ := h.rot
    rcases e with (e | ⟨o, e⟩) | ⟨o, its, k, e, hc, _⟩
    · exact .base (.tup e)
    · exact .fTuple e
    · exact .kTuple e hc
  | dT ts => exact absurd rfl (hd ts)
  | dK ts =>
    cases hn
    obtain ⟨a, kvs, rfl, e, _⟩ := h.dK
    rcases e with e | ⟨o, e⟩
    · exact .base (.dK e)
    · exact .fDict e
  | ins n fs => cases hn
  | exc n fs => cases hn
/-- what isinstance asks of a class of one's own -/
structure IsC (K : PySem.W.Frag) (C : Addr) : Prop where
  cl : Cls K C
  ha : PySem.W.findIn K (.ref C) "__class__" = some (some (.builtin "object.__class__"))
  hn : PySem.W.specialIn K (.builtin "object.__class__") "__get__" = some (some (.builtin "getset_descriptor.__get__"))
  htk : PySem.W.takesIn K (.builtin "object.__class__") = some true
  hm : PySem.W.mroIn K C (.type "object") = some true
  non : PySem.W.kitOne K (.type "NoneType") (.ref C) = some false
  bl : PySem.W.kitOne K (.type "bool") (.ref C) = some false
  int : PySem.W.kitOne K (.type "int") (.ref C) = some false
  str : PySem.W.kitOne K (.type "str") (.ref C) = some false
  tup : PySem.W.kitOne K (.type "tuple") (.ref C) = some false
  lst : PySem.W.kitOne K (.type "list") (.ref C) = some false
  dct : PySem.W.kitOne K (.type "dict") (.ref C) = some false
section
variable {X : Cx} {W : WX} {a e o : Expr} {es : List Expr} {f g : M U} {fs : M (List U)} {x : Str} {p p2 pos apos : Pos}
def noDT : T → Bool
  | .dT _ => false
  | _ => true
def isiT' (ty : String) : T → Option T := fun t => if noDT t then isiT ty t else none
def isiC' (cl : Str) : T → Option T := fun t => if noDT t then isiC cl t else none
theorem noDT_ne {t : T} (h : noDT t = true) : ∀ ts, t ≠ .dT ts := fun ts z => by subst z; cases h
theorem e_isi {ty : String} {tn : Str} (hg : Gl X "isinstance") (hm : X.mg "isinstance" = none) (hgt : Gl X tn) (hmt : X.mg tn = none) (hv : bootBuiltins tn = some (.type ty)) (ha : PE X a (rdE X W f))
    (hn : tn ≠ "__name__" := by decide) (hd : (tn == ("__debug__" : Str)) = false := by decide) (he : starEach [a, .Name tn p2] X.env = (false, eval a X.env) :: starEach [.Name tn p2] X.env := by rfl) :
    PE X (.Call (.Name "isinstance" p) [a, .Name tn p2] [] pos) (rdE X W (mUn (pv1 (isiT' ty)) f)) := by
  refine PE.wk (pe_callB call_isi hg hm (by decide +kernel) (pa_cons ha (pa_cons (pe_bltn (v := .ty ty) hgt hmt hv rfl hn hd) pa_nil) he) (by decide) (by decide) he (by rfl)) fun σ H Q h => ?_
  obtain ⟨B, φ, m, fr, S, h⟩ := rd.un h
  refine ⟨B, φ, m, fr, S, h.mono fun y H1 ⟨B, φ1, m1, u, M1, ru, h1⟩ => ?_⟩
  obtain ⟨x', t, vw, e1, hq⟩ := h1.pv1 M1 ru
  unfold isiT' isiT at e1
  split at e1
  · rename_i hdt
    cases q1 : tyName x' with
    | none => simp only [q1] at e1; cases e1
    | some n =>
      simp only [q1] at e1
      cases q2 : kitB n ty with
      | none => simp only [q2] at e1; cases e1
      | some b =>
        simp only [q2] at e1
        cases e1
        exact ⟨y, .ty ty, .type n, .type ty, b, rfl, .ty ty, vw.ty q1 (noDT_ne hdt), kit_ty q2, hq H1 (.refl M1) _ (.bl _)⟩
  · cases e1
theorem e_isiC {cl : Str} {C : Addr} (hg : Gl X "isinstance") (hm : X.mg "isinstance" = none) (hgt : Gl X cl) (hC : X.mg cl = some (.ref C)) (ic : IsC X.K C) (ha : PE X a (rdE X W f))
    (hd : (cl == ("__debug__" : Str)) = false := by decide) (he : starEach [a, .Name cl p2] X.env = (false, eval a X.env) :: starEach [.Name cl p2] X.env := by rfl) :
    PE X (.Call (.Name "isinstance" p) [a, .Name cl p2] [] pos) (rdE X W (mUn (pv1 (isiC' cl)) f)) := by
  refine PE.wk (pe_callB call_isi hg hm (by decide +kernel) (pa_cons ha (pa_cons (pe_glob (v := .ref C) hgt hC rfl hd) pa_nil) he) (by decide) (by decide) he (by rfl)) fun σ H Q h => ?_
  obtain ⟨B, φ, m, fr, S, h⟩ := rd.un h
  refine ⟨B, φ, m, fr, S, h.mono fun y H1 ⟨B, φ1, m1, u, M1, ru, h1⟩ => ?_⟩
  obtain ⟨x', t, vw, e1, hq⟩ := h1.pv1 M1 ru
  unfold isiC' at e1
  split at e1
  · rename_i hdt
    have key : ∀ n, tyName x' = some n → PySem.W.kitOne X.K (.type n) (.ref C) = some false → t = .bl false → ∃ (z c : V) (ty u : Value) (b : Bool), [y, .ref C] = [z, c] ∧ ClsV c u ∧ TyX X.K H1 z ty ∧ PySem.W.kitOne X.K ty u = some b ∧ Q (.bl b) H1 := fun n hn hk ht => by
      subst ht
      exact ⟨y, .ref C, .type n, .ref C, false, rfl, .own C, vw.ty hn (noDT_ne hdt), hk, hq H1 (.refl M1) _ (.bl _)⟩
    cases x' with
    | non => cases e1; exact key _ rfl ic.non rfl
    | bl _ => cases e1; exact key _ rfl ic.bl rfl
    | int _ => cases e1; exact key _ rfl ic.int rfl
    | str _ => cases e1; exact key _ rfl ic.str rfl
    | tup _ => cases e1; exact key _ rfl ic.tup rfl
    | lst _ => cases e1; exact key _ rfl ic.lst rfl
    | rol _ => cases e1; exact key _ rfl ic.lst rfl
    | rot _ => cases e1; exact key _ rfl ic.tup rfl
    | dT _ => cases hdt
    | dK _ => cases e1; exact key _ rfl ic.dct rfl
    | exc _ _ => cases e1
    | ins n fs =>
      simp only [isiC] at e1
      split at e1
      · rename_i hn
        cases e1
        subst hn
        obtain ⟨a', C', dx, fv, rfl, ea, gC, _, _⟩ := vw.ins
        have gC : X.mg n = some (.ref C') := gC
        rw [hC] at gC; cases gC
        refine ⟨_, .ref C, .ref C, .ref C, true, rfl, .own C, .base (.ins ea ic.cl ic.ha ic.hn ic.htk ic.hm), ?_, hq H1 (.refl M1) _ (.bl _)⟩
        unfold PySem.W.kitOne
        rw [if_pos (beq_self_eq_true _)]
      · cases e1
  · cases e1

/-! ### calls of built-ins by values -/
theorem e_callB {id : String} {p : List U → Mem → Option (U × Mem)} {pn : Pos} (hr : CallR X (.builtin id) (rN (cn X) p)) (hg : Gl X x) (hm : X.mg x = none) (hv : bootBuiltins x = some (.builtin id)) (ha : PA X (e :: es) (rdA X W fs))
    (hn : x ≠ "__name__" := by decide) (hd : (x == ("__debug__" : Str)) = false := by decide) (he : starEach (e :: es) X.env = (false, eval e X.env) :: starEach es X.env := by rfl) (hpl : (backTo pos (starEach es X.env)).any (·.1) = false := by rfl) :
    PE X (.Call (.Name x pn) (e :: es) [] pos) (rdE X W (mCallB p fs)) := PE.wk (pe_callB hr hg hm hv ha hn hd he hpl) fun _ _ _ h => rd.callB h
theorem e_callTy {ty : String} {p : List U → Mem → Option (U × Mem)} {pn : Pos} (hr : CallR X (.type ty) (rN (cn X) p)) (hg : Gl X x) (hm : X.mg x = none) (hv : bootBuiltins x = some (.type ty)) (ha : PA X (e :: es) (rdA X W fs))
    (hn : x ≠ "__name__" := by decide) (hd : (x == ("__debug__" : Str)) = false := by decide) (he : starEach (e :: es) X.env = (false, eval e X.env) :: starEach es X.env := by rfl) (hpl : (backTo pos (starEach es X.env)).any (·.1) = false := by rfl) :
    PE X (.Call (.Name x pn) (e :: es) [] pos) (rdE X W (mCallB p fs)) := PE.wk (pe_callTy hr hg hm hv ha hn hd he hpl) fun _ _ _ h => rd.callB h
theorem cr_T {v : Value} {p : List T → Option T} (h : ∀ (pins : List (Addr × Obj)) (s : Shared) (σ : L2.St) (H : Hp) (xs : List V) (us : List Value) (Q : VK) (B : Addr → Prop) (φ : List Addr) (m : Mem) (ts : List T) (t : T), Inv X pins σ H s → Vals xs us → MOk (cn X) B H φ m →
      Vws (cn X) H (LL B φ m) xs ts → p ts = some t → (∀ H', Nxt (cn X) B H φ m H' φ m → ∀ v, Rp (cn X) H' (LL B φ m) v t → Q v H') → wpAny (model X.prog X.w) X.A (call v us) (EP X pins σ Q) X.xe s) : CallR X v (rN (cn X) (pvN p)) := by
  intro pins s σ H xs us Q inv r ⟨B, φ, m, a, M, ra, h'⟩
  obtain ⟨ts, t, vx, e, hq⟩ := h'.pvN M ra
  exact h pins s σ H xs us Q B φ m ts t inv r M vx e hq
def seqOf : T → Option (List T)
  | .lst ts => some ts
  | .tup ts => some ts
  | .rol ts => some ts
  | .rot ts => some ts
  | _ => none
theorem Vw.seq {c : Cn} {H : Hp} {L : Addr → Prop} {y : V} {t : T} {ts : List T} (h : Vw c H L y t) (e : seqOf t = some ts) : ∃ a vs, y = .ref a ∧ (SqL c.K H a vs ∨ SqT c.K H a vs) ∧ Rps c H L vs ts := by
  cases t with
  | lst _ => cases e; obtain ⟨a, vs, rfl, ea, r⟩ := h.lst; exact ⟨a, vs, rfl, .inl (.of ea), r⟩
  | tup _ => cases e; obtain ⟨a, vs, rfl, ea, r⟩ := h.tup; exact ⟨a, vs, rfl, .inr (.of ea), r⟩
  | rol _ => cases e; obtain ⟨a, vs, rfl, ea, r⟩ := h.rol; exact ⟨a, vs, rfl, .inl ea, r⟩
  | rot _ => cases e; obtain ⟨a, vs, rfl, ea, r⟩ := h.rot; exact ⟨a, vs, rfl, .inr ea, r⟩
  | _ => cases e
def lenP : List T → Option T
  | [.str z] => if z.length ≤ sizeLine then some (.int z.length) else none
  | [t] => match seqOf t with
    | some ts => some (.int ts.length)
    | none => none
  | _ => none
theorem cr_len : CallR X (.builtin "len") (rN (cn X) (pvN lenP)) := cr_T fun pins s σ H xs us Q B φ m ts t inv r M vx e hq => by
  cases vx with
  | nil => cases e
  | @cons y t0 ys ts0 v vs =>
    cases vs with
    | nil =>
      unfold lenP at e
      split at e
      · rename_i z heq
        cases heq
        split at e
        · rename_i hz
          cases e
          cases v.str
          exact call_len_str pins s σ H _ us Q inv r ⟨z, rfl, hz, hq H (.refl M) _ (.int _)⟩
        · cases e
      · rename_i t1 hne heq
        cases heq
        cases q : seqOf t0 with
        | none => rw [q] at e; cases e
        | some ts =>
          rw [q] at e; cases e
          obtain ⟨a, vs, rfl, sq, rs⟩ := v.seq q
          refine call_len_seq pins s σ H _ us Q inv r ⟨a, vs, rfl, sq, ?_⟩
          rw [rs.length]
          exact hq H (.refl M) _ (.int _)
      · rename_i h1 h2; exact absurd rfl (h2 _)
    | cons w ws => unfold lenP at e; split at e <;> first | (rename_i heq; cases heq) | (rename_i heq _; cases heq) | cases e
/-- tuple(list or tuple) -/
def tupP : List T → Option T
  | [t] => match t with
    | .lst ts => some (.tup ts)
    | .rol ts => some (.tup ts)
    | .tup ts => some (.tup ts)
    | _ => none
  | _ => none
theorem cr_tuple : CallR X (.type "tuple") (rN (cn X) (pvN tupP)) := cr_T fun pins s σ H xs us Q B φ m ts t inv r M vx e hq => by
  cases vx with
  | nil => cases e
  | @cons y t0 ys ts0 v vs =>
    cases vs with
    | cons w ws => cases e
    | nil =>
      unfold tupP at e
      dsimp only at e
      split at e
      · cases e
        obtain ⟨a, vs, rfl, ea, rs⟩ := v.lst
        refine call_tuple_of pins s σ H _ us Q inv r ⟨a, vs, rfl, .inl ⟨.of ea, fun l hl => ?_⟩⟩
        obtain ⟨n2, rt⟩ := Nxt.tup (x := .non) (t := .non) (.refl M) hl rs
        exact hq _ n2 _ rt
      · cases e
        obtain ⟨a, vs, rfl, ea, rs⟩ := v.rol
        refine call_tuple_of pins s σ H _ us Q inv r ⟨a, vs, rfl, .inl ⟨ea, fun l hl => ?_⟩⟩
        obtain ⟨n2, rt⟩ := Nxt.tup (x := .non) (t := .non) (.refl M) hl rs
        exact hq _ n2 _ rt
      · cases e
        have hv := v.plain (fun _ _ z => nomatch z) (fun _ z => nomatch z) (fun _ z => nomatch z) (fun _ z => nomatch z)
        obtain ⟨a, vs, rfl, ea, rs⟩ := v.tup
        exact call_tuple_of pins s σ H _ us Q inv r ⟨a, vs, rfl, .inr ⟨.of ea, hq H (.refl M) _ hv⟩⟩
      · cases e
/-- all, any of a list of truths -/
def blsOf : List T → Option (List Bool)
  | [] => some []
  | .bl b :: ts => match blsOf ts with
    | some bs => some (b :: bs)
    | none => none
  | _ => none
theorem blsOf_rel {c : Cn} {H : Hp} {L : Addr → Prop} : ∀ {vs : List V} {ts : List T} {bs : List Bool}, Rps c H L vs ts → blsOf ts = some bs → vs = bs.map V.bl
  | _, _, _, .nil, e => by cases e; rfl
  | _, _, _, @Rps.cons _ _ _ v t vs ts a r, e => by
    cases t with
    | bl b =>
      unfold blsOf at e
      cases q : blsOf ts with
      | none => rw [q] at e; cases e
      | some bs => rw [q] at e; cases e; cases a; rw [blsOf_rel r q]; rfl
    | _ => cases e
def allP : List T → Option T
  | [.lst ts] => match blsOf ts with
    | some bs => some (.bl (bs.all id))
    | none => none
  | _ => none
def anyP : List T → Option T
  | [.lst ts] => match blsOf ts with
    | some bs => some (.bl (bs.any id))
    | none => none
  | _ => none
theorem cr_allT (hc : X.calm = true) : CallR X (.builtin "all") (rN (cn X) (pvN allP)) := cr_T fun pins s σ H xs us Q B φ m ts t inv r M vx e hq => by
  unfold allP at e
  split at e
  · rename_i ts
    cases q : blsOf ts with
    | none => rw [q] at e; cases e
    | some bs =>
      rw [q] at e; cases e
      cases vx with
      | cons v vs =>
        cases vs
        obtain ⟨a, vs, rfl, ea, rs⟩ := v.lst
        have := blsOf_rel rs q
        subst this
        exact cr_all hc pins s σ H _ us Q inv r ⟨a, bs, rfl, .of ea, hq H (.refl M) _ (.bl _)⟩
  · cases e
theorem cr_anyT (hc : X.calm = true) : CallR X (.builtin "any") (rN (cn X) (pvN anyP)) := cr_T fun pins s σ H xs us Q B φ m ts t inv r M vx e hq => by
  unfold anyP at e
  split at e
  · rename_i ts
    cases q : blsOf ts with
    | none => rw [q] at e; cases e
    | some bs =>
      rw [q] at e; cases e
      cases vx with
      | cons v vs =>
        cases vs
        obtain ⟨a, vs, rfl, ea, rs⟩ := v.lst
        have := blsOf_rel rs q
        subst this
        exact cr_any hc pins s σ H _ us Q inv r ⟨a, bs, rfl, .of ea, hq H (.refl M) _ (.bl _)⟩
  · cases e
def intP : List T → Option T
  | [.int i] => some (.int i)
  | [.bl b] => some (.int (if b then 1 else 0))
  | _ => none
theorem cr_int : CallR X (.type "int") (rN (cn X) (pvN intP)) := cr_T fun pins s σ H xs us Q B φ m ts t inv r M vx e hq => by
  unfold intP at e
  split at e
  · cases e
    cases vx with
    | cons v vs => cases vs; cases v.int; exact call_int1 pins s σ H _ us Q inv r (.inl ⟨_, rfl, hq H (.refl M) _ (.int _)⟩)
  · cases e
    cases vx with
    | cons v vs => cases vs; cases v.bl; exact call_int1 pins s σ H _ us Q inv r (.inr ⟨_, rfl, hq H (.refl M) _ (.int _)⟩)
  · cases e

/-! ### list(..): a new object -/
def mList (f : M (List U)) : M C := mBind f fun us _ m => match derefs m us with
  | some [t] => match seqOf t with
    | some ts => some (.ok (.t (.lst ts)), m)
    | none => none
  | _ => none
theorem e_list {pn : Pos} (hg : Gl X "list") (hm : X.mg "list" = none) (ha : PA X [e] (rdA X W fs)) (he : starEach [e] X.env = (false, eval e X.env) :: starEach [] X.env := by rfl) (hpl : (backTo pos (starEach [] X.env)).any (·.1) = false := by rfl) :
    PE X (.Call (.Name "list" pn) [e] [] pos) (rdN X W (mList fs)) := by
  refine PE.wk (pe_callTy call_list_of hg hm (by decide +kernel) ha (by decide) (by decide) he hpl) fun σ H Q ⟨B, φ, m, fr, S, r, m', e1, h⟩ => ⟨B, φ, m, fr, S, ?_⟩
  unfold mList mBind at e1
  cases q : fs fr m with
  | none => rw [q] at e1; cases e1
  | some pq =>
    obtain ⟨r1, m1⟩ := pq
    rw [q] at e1
    refine ⟨r1, m1, rfl, fun H1 φ1 n1 => ?_⟩
    cases r1 with
    | error z => cases e1; exact h H1 φ1 n1
    | ok us =>
      intro vs ru
      dsimp only at e1
      split at e1
      · rename_i t hd
        cases q2 : seqOf t with
        | none => rw [q2] at e1; cases e1
        | some ts =>
          rw [q2] at e1; cases e1
          have vw := ru.vws n1.ok hd
          cases vw with
          | cons v vs' =>
            cases vs'
            obtain ⟨a, vs, rfl, sq, rs⟩ := v.seq q2
            exact ⟨a, vs, rfl, sq, fun l hl => h _ φ1 l (n1.fresh hl) (n1.new hl) ⟨vs, upd_same, rs.new hl⟩⟩
      · cases e1

/-! ### items, slices -/
def atT (ts : List T) (i : Int) : Option T := L2.atI ts i
theorem atI_rel {c : Cn} {H : Hp} {L : Addr → Prop} {vs : List V} {ts : List T} {i : Int} {t : T} (r : Rps c H L vs ts) (h : L2.atI ts i = some t) : ∃ v, L2.atI vs i = some v ∧ Rp c H L v t := by
  unfold L2.atI at h ⊢
  rw [r.length]
  cases q : ixN ts.length i with
  | none => rw [q] at h; cases h
  | some j =>
    rw [q] at h
    exact r.get h
def ixP : T → T → Option T
  | .str z, .int i => if z.length ≤ sizeLine then (match L2.atI z.cps.toList i with
    | some c => some (.str ⟨#[c]⟩)
    | none => none) else none
  | t, .int i => match seqOf t with
    | some ts => L2.atI ts i
    | none => none
  | _, _ => none
theorem ix_T : IxR X (r2 (cn X) (pv2 ixP)) := by
  intro value slice pins s σ H x y v u Q inv r1 r2 ⟨B, φ, m, a, b, M, ra, rb, h'⟩ hs
  obtain ⟨x', y', t, vx, vy, e, hq⟩ := h'.pv2 M ra rb
  unfold ixP at e
  split at e
  · rename_i z i
    split at e
    · rename_i hz
      split at e
      · rename_i c hc
        cases e
        cases vx.str; cases vy.int
        exact ix_str value slice pins s σ H _ _ v u Q inv r1 r2 ⟨z, i, c, rfl, rfl, hz, hc, hq H (.refl M) _ (.str _)⟩ hs
      · cases e
    · cases e
  · rename_i t0 i hne
    cases vy.int
    cases q : seqOf x' with
    | none => rw [q] at e; cases e
    | some ts =>
      rw [q] at e
      obtain ⟨p, vs, rfl, sq, rs⟩ := vx.seq q
      obtain ⟨w, ew, rw'⟩ := atI_rel rs e
      rcases sq with sq | sq
      · exact ix_list value slice pins s σ H _ _ v u Q inv r1 r2 ⟨p, vs, i, w, rfl, rfl, sq, ew, hq H (.refl M) _ rw'⟩ hs
      · exact ix_tup value slice pins s σ H _ _ v u Q inv r1 r2 ⟨p, vs, i, w, rfl, rfl, sq, ew, hq H (.refl M) _ rw'⟩ hs
  · cases e
theorem e_ix {b : Expr} (ha : PE X a (rdE X W f)) (hb : PE X b (rdE X W g)) (hi : PlainIx b) : PE X (.Subscript a b pos) (rdE X W (mOp2 (pv2 ixP) f g)) := PE.wk (pe_ix ix_T ha hb hi) fun _ _ _ h => rd.op2 h
end
end G

/-! G11: slices, methods of lists, dicts. -/
namespace G
open PySem PySem.Spec PyProof.Rows L2

/-! ### slices -/
abbrev rrO : RR (Option Int) (Option Int) := fun _ _ _ _ a b => a = b
abbrev rdO (X : Cx) (W : WX) (f : M (Option Int)) : TO := rd rrO (cn X) W f
def mNoPart : M (Option Int) := mPure none
def mPart (f : M U) : M (Option Int) := mBind f fun
  | .v (.int i) => mPure (some i)
  | _ => stuck
def cutT (ts : List T) (lo hi : Option Int) : List T := (ts.drop (HT.sIx ts.length 0 lo)).take (HT.sIx ts.length ts.length hi - HT.sIx ts.length 0 lo)
def slP (t : T) (lo hi : Option Int) : Option T := match t with
  | .lst ts => some (.lst (cutT ts lo hi))
  | .rol ts => some (.lst (cutT ts lo hi))
  | .tup ts => some (.tup (cutT ts lo hi))
  | _ => none
def mSl (f : M U) (l h : M (Option Int)) : M U := mBind f fun u => mBind l fun lo => mBind h fun hi _ m => match deref m u with
  | some t => match slP t lo hi with
    | some r => some (.ok (.v r), m)
    | none => none
  | none => none
/-- a slice of a list, a new object -/
def mSlN (f : M U) (l h : M (Option Int)) : M C := mBind f fun u => mBind l fun lo => mBind h fun hi _ m => match deref m u with
  | some t => match isL t with
    | some ts => some (.ok (.t (.lst (cutT ts lo hi))), m)
    | none => none
  | none => none
theorem cutT_rel {c : Cn} {H : Hp} {L : Addr → Prop} {vs : List V} {ts : List T} (r : Rps c H L vs ts) (lo hi : Option Int) : Rps c H L (cutV vs lo hi) (cutT ts lo hi) := by
  unfold cutV cutT
  rw [r.length]
  exact (r.drop _).take _
theorem cutT_whole (ts : List T) (lo hi : Option Int) (h : HT.sIx ts.length 0 lo = 0 ∧ HT.sIx ts.length ts.length hi = ts.length) : cutT ts lo hi = ts := by
  unfold cutT
  rw [h.1, h.2]; simp
theorem PO.wk {X : Cx} {e : Option Expr} {t t' : TO} (h : PO X e t) (w : ∀ σ H Q, t' σ H Q → t σ H Q) : PO X e t' := ⟨fun pins s σ H Q inv q => h.run pins s σ H Q inv (w σ H Q q)⟩
section
variable {X : Cx} {W : WX} {a e o : Expr} {es : List Expr} {f g : M U} {fs : M (List U)} {x : Str} {p p2 pos apos : Pos}
theorem o_none : PO X none (rdO X W mNoPart) := PO.wk po_none fun σ H Q ⟨B, φ, m, fr, S, h⟩ => rx.pure (R := rrO) S.mem h _ rfl
theorem o_some (h : PE X e (rdE X W f)) : PO X (some e) (rdO X W (mPart f)) := by
  refine PO.wk (po_some h) fun σ H Q hh => ?_
  obtain ⟨B, φ, m, fr, S, h0⟩ := rd.bind (R := rrU) hh
  refine ⟨B, φ, m, fr, S, h0.mono fun v H1 ⟨B, φ1, m1, fr, u, S1, ru, h1⟩ => ?_⟩
  match u, ru, h1 with
  | .v (.int k), .v r, h1 =>
    cases r
    exact ⟨k, rfl, rx.pure (R := rrO) S1.mem h1 _ rfl⟩
  | .v (.bl _), _, ⟨_, _, e, _⟩ => cases e
  | .v .non, _, ⟨_, _, e, _⟩ => cases e
  | .v (.str _), _, ⟨_, _, e, _⟩ => cases e
  | .v (.tup _), _, ⟨_, _, e, _⟩ => cases e
  | .v (.lst _), _, ⟨_, _, e, _⟩ => cases e
  | .v (.rol _), _, ⟨_, _, e, _⟩ => cases e
  | .v (.rot _), _, ⟨_, _, e, _⟩ => cases e
  | .v (.dK _), _, ⟨_, _, e, _⟩ => cases e
  | .v (.dT _), _, ⟨_, _, e, _⟩ => cases e
  | .v (.ins _ _), _, ⟨_, _, e, _⟩ => cases e
  | .v (.exc _ _), _, ⟨_, _, e, _⟩ => cases e
  | .c _, _, ⟨_, _, e, _⟩ => cases e
/-- any sliced thing -/
def rSlT' (c : Cn) : V → Option Int → Option Int → Hp → VK → Prop := fun x lo hi H Q => ∃ B φ m t r, MOk c B H φ m ∧ Vw c H (LL B φ m) x t ∧ slP t lo hi = some r ∧ ∀ H', Nxt c B H φ m H' φ m → ∀ v, Rp c H' (LL B φ m) v r → Q v H'
theorem sl_T : SlR X (rSlT' (cn X)) := by
  intro pins s σ H x v vl vu lo hi sl Q inv rx' hs pl pu ⟨B, φ, m, t, r, M, vw, e, hq⟩
  unfold slP at e
  split at e
  · cases e
    obtain ⟨a, vs, rfl, ea, rs⟩ := vw.lst
    exact sl_list pins s σ H _ v vl vu lo hi sl Q inv rx' hs pl pu ⟨a, vs, rfl, .of ea, fun p hp => hq _ (Nxt.new (.refl M) hp).unB _ (.lst (M.noL hp) upd_same ((cutT_rel rs lo hi).new hp).unB)⟩
  · cases e
    obtain ⟨a, vs, rfl, ea, rs⟩ := vw.rol
    exact sl_list pins s σ H _ v vl vu lo hi sl Q inv rx' hs pl pu ⟨a, vs, rfl, ea, fun p hp => hq _ (Nxt.new (.refl M) hp).unB _ (.lst (M.noL hp) upd_same ((cutT_rel rs lo hi).new hp).unB)⟩
  · cases e
    have hv := vw.plain (fun _ _ z => nomatch z) (fun _ z => nomatch z) (fun _ z => nomatch z) (fun _ z => nomatch z)
    obtain ⟨a, vs, rfl, ea, rs⟩ := vw.tup
    refine sl_tupA pins s σ H _ v vl vu lo hi sl Q inv rx' hs pl pu ⟨a, vs, rfl, .of ea, fun hw => ?_, fun _ p hp => ?_⟩
    · rw [rs.length] at hw
      rw [cutT_whole _ _ _ hw] at hq
      exact hq H (.refl M) _ hv
    · obtain ⟨n2, rt⟩ := Nxt.tup (x := .non) (t := .non) (.refl M) hp (cutT_rel rs lo hi)
      exact hq _ n2 _ rt
  · cases e
theorem e_slice {lo hi : Option Expr} {l h : M (Option Int)} (he : PE X e (rdE X W f)) (hl : PO X lo (rdO X W l)) (hh : PO X hi (rdO X W h)) : PE X (.Subscript e (.Slice lo hi none p2) pos) (rdE X W (mSl f l h)) := by
  refine PE.wk (pe_slice sl_T he hl hh) fun σ H Q ⟨B, φ, m, fr, S, h0⟩ => ?_
  refine ⟨B, φ, m, fr, S, (h0.bind (R := rrU)).mono fun x H1 ⟨φ1, m1, u1, n1, ru1, h1⟩ => ⟨B, φ1, m1, fr, S.nxt n1, (h1.bind (R := rrO)).mono fun y H2 ⟨φ2, m2, u2, n2, ru2, h2⟩ => ⟨B, φ2, m2, fr, (S.nxt n1).nxt n2, (h2.bind (R := rrO)).mono fun z H3 ⟨φ3, m3, u3, n3, ru3, r, m', e3, h3⟩ => ?_⟩⟩⟩
  cases ru2
  cases ru3
  cases q : deref m3 u1 with
  | none => rw [q] at e3; cases e3
  | some t =>
    rw [q] at e3
    dsimp only at e3
    cases q2 : slP t y z with
    | none => rw [q2] at e3; cases e3
    | some r' =>
      rw [q2] at e3; cases e3
      exact ⟨B, φ3, m3, t, r', n3.ok, ((ru1.nxt n2).nxt n3).vw n3.ok q, q2, fun H' n v rv => h3 H' φ3 n v (.v rv)⟩

/-! ### a list's methods -/
def pAppend : U → List U → Mem → Option (U × Mem) := fun u us m => match u, us with
  | .c i, [.v t] => match m[i]? with
    | some (some (.t (.lst ts))) => if ts.length < sizeLine then some (.v .non, m.set i (some (.t (.lst (ts ++ [t]))))) else none
    | _ => none
  | _, _ => none
def pPopAt : U → List U → Mem → Option (U × Mem) := fun u us m => match u, us with
  | .c i, [.v (.int k)] => match m[i]? with
    | some (some (.t (.lst ts))) => if -(2 ^ 63) ≤ k ∧ k < 2 ^ 63 then (match L2.ixN ts.length k with
      | some j => match ts[j]? with
        | some t => some (.v t, m.set i (some (.t (.lst (ts.eraseIdx j)))))
        | none => none
      | none => none) else none
    | _ => none
  | _, _ => none
def mMt (p : U → List U → Mem → Option (U × Mem)) (f : M U) (g : M (List U)) : M U := mBind f fun u => mBind g fun us => mLift (p u us)
def rMt (c : Cn) (p : U → List U → Mem → Option (U × Mem)) : V → List V → Hp → VK → Prop := fun x xs H Q => ∃ B φ m u us, MOk c B H φ m ∧ Ru c H (LL B φ m) φ x u ∧ Rus c H (LL B φ m) φ xs us ∧ rp c (p u us m) B H φ m Q
/-- a cell's list -/
theorem MOk.lst {c : Cn} {B : Addr → Prop} {H : Hp} {φ : List Addr} {m : Mem} {i : Nat} {a : Addr} {ts : List T} (M : MOk c B H φ m) (hi : φ[i]? = some a) (hm : m[i]? = some (some (.t (.lst ts)))) : ∃ vs, H a = some (.lst vs) ∧ Rps c H (LL B φ m) vs ts := M.cel i a _ hi hm
theorem mt_appendT : MtR X "list.append" (rMt (cn X) pAppend) := by
  intro pins s σ H x xs v us Q inv r1 r2 ⟨B, φ, m, u, ws, M, ru, rus, w, m', e, h⟩
  unfold pAppend at e
  split at e
  · rename_i i t
    split at e
    · rename_i ts hm
      split at e
      · rename_i hz
        cases e
        cases ru with
        | c hi =>
          cases rus with
          | cons ry rn =>
            cases rn
            cases ry with
            | v ry =>
              obtain ⟨vs, ea, rs⟩ := M.lst hi hm
              refine mt_append pins s σ H _ _ v us Q inv r1 r2 ⟨_, vs, _, rfl, rfl, ea, by rw [rs.length]; exact hz, ?_⟩
              have la : LL B φ m _ := .inr ⟨i, _, hi, hm⟩
              exact h _ φ (Nxt.write M hi hm ⟨_, upd_same, (rs.append (.one ry)).upd la⟩) _ (.v .non)
      · cases e
    · cases e
  · cases e
theorem mt_popAtT : MtR X "list.pop" (rMt (cn X) pPopAt) := by
  intro pins s σ H x xs v us Q inv r1 r2 ⟨B, φ, m, u, ws, M, ru, rus, w, m', e, h⟩
  unfold pPopAt at e
  split at e
  · rename_i i k
    split at e
    · rename_i ts hm
      split at e
      · rename_i hk
        split at e
        · rename_i j hj
          split at e
          · rename_i t ht
            cases e
            cases ru with
            | c hi =>
              cases rus with
              | cons ry rn =>
                cases rn
                cases ry with
                | v ry =>
                  cases ry
                  obtain ⟨vs, ea, rs⟩ := M.lst hi hm
                  obtain ⟨y, ey, ry⟩ := rs.get ht
                  have la : LL B φ m _ := .inr ⟨i, _, hi, hm⟩
                  have n2 : Nxt (cn X) B H φ m (upd H _ (.lst (vs.eraseIdx j))) φ (m.set i (some (.t (.lst (ts.eraseIdx j))))) := Nxt.write M hi hm ⟨_, upd_same, (rs.eraseIdx j).upd la⟩
                  refine mt_popAt pins s σ H _ _ v us Q inv r1 r2 ⟨_, vs, k, j, y, rfl, rfl, ea, hk.1, hk.2, ?_, ey, h _ φ n2 y (.v (ry.nxt n2))⟩
                  rw [rs.length]; exact (ixN_seq hj).1
          · cases e
        · cases e
      · cases e
    · cases e
  · cases e
/-- what the object of a method call is, in T -/
def isLst (m : Mem) : U → Bool := fun u => match deref m u with
  | some (.lst _) => true
  | _ => false
def mMtL (p : U → List U → Mem → Option (U × Mem)) (f : M U) (g : M (List U)) : M U := mBind f fun u fr m => if isLst m u then mBind g (fun us => mLift (p u us)) fr m else none
theorem e_mtL {name : Str} {id : String} {cpos : Pos} {pr : U → List U → Mem → Option (U × Mem)} (slot : Slot "list" name id) (hty : typeOf (.builtin id) = pure (.type "method_descriptor")) (hm : MtR X id (rMt (cn X) pr)) (ho : PE X o (rdE X W f)) (ha : PA X (e :: es) (rdA X W fs))
    (hb : attributeBase o name X.env (eval o X.env) = eval o X.env := by rfl)
    (h2 : ((((backTo cpos (starEach (e :: es) X.env)).all fun x => !x.fst) && (backToKw cpos (keywordEach [] X.env)).all fun x => x.fst.isSome) && decide (((e :: es).length + ([] : List Keyword).length + if ([] : List Keyword).isEmpty = true then 0 else 1) < 30)) = true := by rfl)
    (h3 : (apos.endLine == cpos.line) = true := by rfl) (h4 : starEach (e :: es) X.env = (false, eval e X.env) :: starEach es X.env := by rfl) (h5 : ((backTo cpos (starEach es X.env)).any fun x => x.fst) = false := by rfl) :
    PE X (.Call (.Attribute o name apos) (e :: es) [] cpos) (rdE X W (mMtL pr f fs)) := by
  refine PE.wk (pe_bm PySem.F.plainAttrs_list slot hty hm ho ha hb h2 h3 h4 h5) fun σ H Q h => ?_
  obtain ⟨B, φ, m, fr, S, h⟩ := rd.bind (R := rrU) h
  refine ⟨B, φ, m, fr, S, h.mono fun x H1 ⟨B, φ1, m1, fr, u, S1, ru, r, m', e1, h1⟩ => ?_⟩
  split at e1
  · rename_i hl
    unfold isLst at hl
    split at hl
    · rename_i ts hd
      obtain ⟨a, vs, rfl, ea, rs⟩ := (ru.vw S1.mem hd).lst
      refine ⟨.inl ⟨rfl, vs, .of ea⟩, ?_⟩
      refine ⟨B, φ1, m1, fr, S1, (rx.bind (R := rrUs) ⟨r, m', e1, h1⟩).mono fun xs H2 ⟨φ2, m2, us, n2, rus, h2⟩ => ?_⟩
      exact ⟨B, φ2, m2, u, us, n2.ok, ru.nxt n2, rus, h2.lift⟩
    · cases hl
  · cases e1

/-! ### stores -/
/-- o[i] = v, o a cell that is a list -/
def sSetL (fv fo fi : M U) : MS := sBind fv fun uv => sBind fo fun uo => sBind fi fun ui fr m => match uo, ui, uv with
  | .c i, .v (.int k), .v t => match m[i]? with
    | some (some (.t (.lst ts))) => match L2.ixN ts.length k with
      | some j => some (.fl .nx fr, m.set i (some (.t (.lst (ts.set j t)))))
      | none => none
    | _ => none
  | _, _, _ => none
theorem s_setL {i' v' : Expr} {fo fi fv : M U} (hv : PE X v' (rdE X W fv)) (ho : PE X o (rdE X W fo)) (hi' : PE X i' (rdE X W fi))
    (hs : swapsWithSole [.Subscript o i' apos] v' pos.line X.env = pure false := by rfl) (hw : swappedStores [.Subscript o i' apos] v' X.env = pure none := by rfl) (h1 : (assignEach [.Subscript o i' apos] X.env).map (·.2) = [assign (.Subscript o i' apos) X.env] := by rfl)
    (ha : ∀ v, assign (.Subscript o i' apos) X.env v = (do
      let one ← holding [v] (eval o X.env)
      let two ← holding [v, one] (eval i' X.env)
      standAt apos
      holding [v, one, two] (setItem one two v)
      release [v, one, two] []) := by intro _; rfl) : PS X (.Assign [.Subscript o i' apos] v' pos) (rdS X W (sSetL fv fo fi)) := by
  refine PS.wk (ps_asg hv (pg_sub ho hi' set_list ha) hs hw h1) fun D σ H ⟨B, φ, m, fr, S, h⟩ => ?_
  refine ⟨B, φ, m, fr, S, (h.bind (R := rrU) S).mono fun y H1 ⟨φ1, m1, uv, n1, rv, h1⟩ => ⟨B, φ1, m1, fr, S.nxt n1, (h1.bind (R := rrU) (S.nxt n1)).mono fun x H2 ⟨φ2, m2, uo, n2, ro, h2⟩ => ⟨B, φ2, m2, fr, (S.nxt n1).nxt n2, (h2.bind (R := rrU) ((S.nxt n1).nxt n2)).mono fun z H3 ⟨φ3, m3, ui, n3, ri, r, m', e9, h3⟩ => ?_⟩⟩⟩
  have S3 := ((S.nxt n1).nxt n2).nxt n3
  have rv3 := (rv.nxt n2).nxt n3
  have ro3 := ro.nxt n3
  split at e9
  · split at e9
    · rename_i ts hm
      split at e9
      · rename_i j hj
        cases e9
        cases ro3 with
        | c hi =>
          cases ri with
          | v ri =>
            cases ri
            cases rv3 with
            | v rt =>
              obtain ⟨vs, ea, rs⟩ := n3.ok.lst hi hm
              have la : LL B φ3 m3 _ := .inr ⟨_, _, hi, hm⟩
              have n4 := Nxt.write (o := .lst (vs.set j y)) (t' := .t (.lst (ts.set j _))) n3.ok hi hm ⟨_, upd_same, (rs.set rt j).upd la⟩
              exact ⟨_, vs, _, j, rfl, rfl, ea, by rw [rs.length]; exact hj, h3 _ φ3 n4 σ (S3.nxt n4)⟩
      · cases e9
    · cases e9
  · cases e9
end
end G

/-! G12: dicts. -/
namespace G
open PySem PySem.Spec PyProof.Rows L2

def keyT : T → Option Key
  | .int i => some (.inl i)
  | .str x => some (.inr x)
  | _ => none
def keysT : List T → Option (List Key)
  | [] => some []
  | t :: ts => match keyT t, keysT ts with
    | some k, some ks => some (k :: ks)
    | _, _ => none
def valT {κ : Type} [DecidableEq κ] (kts : List (κ × T)) (k : κ) : Option T := (kts.find? fun kv => decide (kv.1 = k)).map (·.2)
def putT {κ : Type} [DecidableEq κ] (kts : List (κ × T)) (k : κ) (t : T) : List (κ × T) :=
  if (kts.any fun kv => decide (kv.1 = k)) = true then kts.map (fun kv => if kv.1 = k then (kv.1, t) else kv) else kts ++ [(k, t)]
section
variable {c : Cn} {H : Hp} {L : Addr → Prop}
theorem keyT_rel {v : V} {t : T} {k : Key} (r : Rp c H L v t) (h : keyT t = some k) : v = kV k := by
  cases r with
  | int i => cases h; rfl
  | str x => cases h; rfl
  | _ => cases h
theorem keysT_rel : ∀ {vs : List V} {ts : List T} {ks : List Key}, Rps c H L vs ts → keysT ts = some ks → vs = ks.map kV
  | _, _, _, .nil, h => by cases h; rfl
  | _, _, _, @Rps.cons _ _ _ v t vs ts r rs, h => by
    unfold keysT at h
    cases q : keyT t with
    | none => rw [q] at h; cases h
    | some k =>
      cases q2 : keysT ts with
      | none => rw [q, q2] at h; cases h
      | some ks =>
        rw [q, q2] at h; cases h
        rw [keyT_rel r q, keysT_rel rs q2]; rfl
theorem val_rel {κ : Type} [DecidableEq κ] {k : κ} : ∀ {kvs : List (κ × V)} {kts : List (κ × T)}, kvs.map (·.1) = kts.map (·.1) → Rps c H L (kvs.map (·.2)) (kts.map (·.2)) →
    (valT kts k = none ∧ valV kvs k = none) ∨ ∃ t v, valT kts k = some t ∧ valV kvs k = some v ∧ Rp c H L v t
  | [], [], _, _ => .inl ⟨rfl, rfl⟩
  | [], _ :: _, h, _ => by simp at h
  | _ :: _, [], h, _ => by simp at h
  | (a, x) :: fs, (b, y) :: gs, h, rs => by
    simp only [List.map_cons, List.cons.injEq] at h
    obtain ⟨rfl, h⟩ := h
    cases rs with
    | cons r rs =>
      by_cases e : a = k
      · right
        refine ⟨y, x, ?_, ?_, r⟩
        · unfold valT; rw [List.find?_cons_of_pos (by simpa using e)]; rfl
        · exact valV_pos e
      · have h1 : valT ((a, y) :: gs) k = valT gs k := by unfold valT; rw [List.find?_cons_of_neg (by simpa using e)]
        have h2 : valV ((a, x) :: fs) k = valV fs k := by unfold valV; rw [List.find?_cons_of_neg (by simpa using e)]
        rw [h1, h2]
        exact val_rel h rs
theorem putMap_rel {κ : Type} [DecidableEq κ] {k : κ} {v : V} {t : T} (r : Rp c H L v t) : ∀ {kvs : List (κ × V)} {kts : List (κ × T)}, kvs.map (·.1) = kts.map (·.1) → Rps c H L (kvs.map (·.2)) (kts.map (·.2)) →
    (kvs.map fun kv => if kv.1 = k then (kv.1, v) else kv).map (·.1) = (kts.map fun kv => if kv.1 = k then (kv.1, t) else kv).map (·.1) ∧ Rps c H L ((kvs.map fun kv => if kv.1 = k then (kv.1, v) else kv).map (·.2)) ((kts.map fun kv => if kv.1 = k then (kv.1, t) else kv).map (·.2))
  | [], [], _, _ => ⟨rfl, .nil⟩
  | [], _ :: _, h, _ => by simp at h
  | _ :: _, [], h, _ => by simp at h
  | (a, x) :: fs, (b, y) :: gs, h, rs => by
    simp only [List.map_cons, List.cons.injEq] at h
    obtain ⟨rfl, h⟩ := h
    cases rs with
    | cons r1 rs =>
      obtain ⟨h1, h2⟩ := putMap_rel r h rs
      by_cases e : a = k
      · simp only [List.map_cons, if_pos e]
        exact ⟨by rw [h1], .cons r h2⟩
      · simp only [List.map_cons, if_neg e]
        exact ⟨by rw [h1], .cons r1 h2⟩
theorem put_rel {κ : Type} [DecidableEq κ] {k : κ} {v : V} {t : T} {kvs : List (κ × V)} {kts : List (κ × T)} (hk : kvs.map (·.1) = kts.map (·.1)) (hr : Rps c H L (kvs.map (·.2)) (kts.map (·.2))) (r : Rp c H L v t) :
    (putK kvs k v).map (·.1) = (putT kts k t).map (·.1) ∧ Rps c H L ((putK kvs k v).map (·.2)) ((putT kts k t).map (·.2)) := by
  have hany : (kvs.any fun kv => decide (kv.1 = k)) = (kts.any fun kv => decide (kv.1 = k)) := by
    have h1 : (kvs.any fun kv => decide (kv.1 = k)) = (kvs.map (·.1)).any fun z => decide (z = k) := by rw [List.any_map]; rfl
    have h2 : (kts.any fun kv => decide (kv.1 = k)) = (kts.map (·.1)).any fun z => decide (z = k) := by rw [List.any_map]; rfl
    rw [h1, h2, hk]
  unfold putK putT
  rw [hany]
  split
  · exact putMap_rel r hk hr
  · simp only [List.map_append, List.map_cons, List.map_nil]
    exact ⟨by rw [hk], hr.append (.one r)⟩
/-- what a dict holds at a key -/
def dGetT : T → T → Option (Option T)
  | .dK kts, t => match keyT t with
    | some k => some (valT kts k)
    | none => none
  | .dT kts, .tup ts => match keysT ts with
    | some ks => some (valT kts ks)
    | none => none
  | _, _ => none
theorem dGetT_rel {x y : V} {d k : T} {r : Option T} (vd : Vw c H L x d) (vk : Vw c H L y k) (h : dGetT d k = some r) : ∃ a ro, x = .ref a ∧ DGet H a y ro ∧ ((r = none ∧ ro = none) ∨ ∃ t v, r = some t ∧ ro = some v ∧ Rp c H L v t) := by
  cases d with
  | dK kts =>
    obtain ⟨a, kvs, rfl, e, kk, rr⟩ := vd.dK
    unfold dGetT at h
    cases q : keyT k with
    | none => simp only [q] at h; cases h
    | some key =>
      simp only [q] at h; cases h
      have hy : y = kV key := by
        cases k with
        | int i => cases q; cases vk.int; rfl
        | str i => cases q; cases vk.str; rfl
        | _ => cases q
      subst hy
      refine ⟨a, _, rfl, .inl ⟨kvs, key, e, rfl, rfl⟩, ?_⟩
      rcases val_rel (k := key) kk rr with ⟨h1, h2⟩ | ⟨t, v, h1, h2, h3⟩
      · exact .inl ⟨h1, h2⟩
      · exact .inr ⟨t, v, h1, h2, h3⟩
  | dT kts =>
    obtain ⟨a, kvs, rfl, e, kk, rr⟩ := vd.dT
    cases k with
    | tup ts =>
      unfold dGetT at h
      cases q : keysT ts with
      | none => simp only [q] at h; cases h
      | some ks =>
        simp only [q] at h; cases h
        obtain ⟨b, vs, rfl, eb, rs⟩ := vk.tup
        have := keysT_rel rs q
        subst this
        refine ⟨a, _, rfl, .inr ⟨kvs, ks, b, e, rfl, eb, rfl⟩, ?_⟩
        rcases val_rel (k := ks) kk rr with ⟨h1, h2⟩ | ⟨t, v, h1, h2, h3⟩
        · exact .inl ⟨h1, h2⟩
        · exact .inr ⟨t, v, h1, h2, h3⟩
    | _ => cases h
  | _ => cases h
end
/-- in, also of a dict -/
def inD : T → T → Option T := fun x y => match y with
  | .dK _ => match dGetT y x with
    | some r => some (.bl r.isSome)
    | none => none
  | .dT _ => match dGetT y x with
    | some r => some (.bl r.isSome)
    | none => none
  | _ => none
def notInD : T → T → Option T := fun x y => match inD x y with
  | some (.bl b) => some (.bl (!b))
  | _ => none
theorem inD_get {x y t : T} (h : inD x y = some t) : ∃ r, dGetT y x = some r ∧ t = .bl r.isSome := by
  unfold inD at h
  split at h
  · split at h
    · rename_i r hr; cases h; exact ⟨r, hr, rfl⟩
    · cases h
  · split at h
    · rename_i r hr; cases h; exact ⟨r, hr, rfl⟩
    · cases h
  · cases h
/-- d[k], d.get(k), d.get(k, x) -/
def dIxP : T → T → Option T := fun d k => match dGetT d k with
  | some (some t) => some t
  | _ => none
def isDictU (m : Mem) (u : U) : Bool := match deref m u with
  | some (.dK _) => true
  | some (.dT _) => true
  | _ => false
def dGetM (ud uk ux : U) : M U := fun _ m => match deref m ud, deref m uk, ux with
  | some d, some k, .v x => match dGetT d k with
    | some r => some (.ok (.v (r.getD x)), m)
    | none => none
  | _, _, _ => none
def mDGet (fd fk fx : M U) : M U := mBind fd fun ud fr m => if isDictU m ud then mBind fk (fun uk => mBind fx fun ux => dGetM ud uk ux) fr m else none
def mDGet1 (fd fk : M U) : M U := mBind fd fun ud fr m => if isDictU m ud then mBind fk (fun uk => dGetM ud uk (.v .non)) fr m else none
/-- d[k] = v, d a cell -/
def dPutT : T → T → T → Option T
  | .dK kts, k, v => match keyT k with
    | some key => if kts.length < sizeLine then some (.dK (putT kts key v)) else none
    | none => none
  | .dT kts, .tup ks, v => match keysT ks with
    | some key => if kts.length < sizeLine then some (.dT (putT kts key v)) else none
    | none => none
  | _, _, _ => none
def sDPutT (fv fd fk : M U) : MS := sBind fv fun uv => sBind fd fun ud => sBind fk fun uk fr m => match ud, uv with
  | .c i, .v v => match m[i]?, deref m uk with
    | some (some (.t d)), some k => match dPutT d k v with
      | some d' => some (.fl .nx fr, m.set i (some (.t d')))
      | none => none
    | _, _ => none
  | _, _ => none
def mDNewT : M C := mPure (.t (.dT []))
def mDNewK : M C := mPure (.t (.dK []))
section
variable {X : Cx} {W : WX} {o i' e v' f' : Expr} {f g h : M U} {pos apos cpos : Pos}
theorem op_inDT (hu : X.A.units + 1 < cLine) : OpR X (compareOp .In) (r2 (cn X) (pv2 inD)) := op_T fun pins s σ H x y v u Q B φ m x' y' t inv r1 r2 M vx vy e hq => by
  obtain ⟨r, hr, rfl⟩ := inD_get e
  obtain ⟨a, ro, rfl, dg, hrel⟩ := dGetT_rel vy vx hr
  obtain rfl : u = Value.ref a := r2
  refine d_in hu inv dg r1 fun s' i1 => ⟨.bl ro.isSome, H, i1, rfl, ?_⟩
  have e2 : ro.isSome = r.isSome := by
    rcases hrel with ⟨rfl, rfl⟩ | ⟨t, v, rfl, rfl, _⟩ <;> rfl
  rw [e2]
  exact hq H (.refl M) _ (.bl _)
theorem op_notInDT (hu : X.A.units + 1 < cLine) : OpR X (compareOp .NotIn) (r2 (cn X) (pv2 notInD)) := op_T fun pins s σ H x y v u Q B φ m x' y' t inv r1 r2 M vx vy e hq => by
  unfold notInD at e
  split at e
  · rename_i b hb
    cases e
    obtain ⟨r, hr, hb'⟩ := inD_get hb
    cases hb'
    obtain ⟨a, ro, rfl, dg, hrel⟩ := dGetT_rel vy vx hr
    obtain rfl : u = Value.ref a := r2
    refine d_notIn hu inv dg r1 fun s' i1 => ⟨.bl (!ro.isSome), H, i1, rfl, ?_⟩
    have e2 : ro.isSome = r.isSome := by
      rcases hrel with ⟨rfl, rfl⟩ | ⟨t, v, rfl, rfl, _⟩ <;> rfl
    rw [e2]
    exact hq H (.refl M) _ (.bl _)
  · cases e
theorem e_dix (hu : X.A.units + 1 < cLine) (ho : PE X o (rdE X W f)) (hi : PE X i' (rdE X W g)) (hs : NoSl i') : PE X (.Subscript o i' pos) (rdE X W (mOp2 (pv2 dIxP) f g)) := by
  refine PE.wk (pe_dget hu ho hi hs) fun σ H Q hh => ?_
  obtain ⟨B, φ, m, fr, S, h0⟩ := rd.op2 hh
  refine ⟨B, φ, m, fr, S, h0.mono fun x H1 h1 => ?_⟩
  obtain ⟨B, φ, m, fr, S, h1⟩ := h1
  refine ⟨B, φ, m, fr, S, h1.mono fun y H2 ⟨B, φ2, m2, a, b, M, ra, rb, h2⟩ => ?_⟩
  obtain ⟨x', y', t, vx, vy, e, hq⟩ := h2.pv2 M ra rb
  unfold dIxP at e
  split at e
  · rename_i t' ht
    cases e
    obtain ⟨a, ro, rfl, dg, hrel⟩ := dGetT_rel vx vy ht
    rcases hrel with ⟨z, _⟩ | ⟨t2, v, z, rfl, rv⟩
    · cases z
    · cases z
      exact ⟨a, v, rfl, dg, hq H2 (.refl M) v rv⟩
  · cases e
theorem isDictU_ok {c : Cn} {B : Addr → Prop} {H : Hp} {φ : List Addr} {m : Mem} {x : V} {u : U} (M : MOk c B H φ m) (ru : Ru c H (LL B φ m) φ x u) (h : isDictU m u = true) : ∃ a, x = .ref a ∧ IsD H a := by
  unfold isDictU at h
  split at h
  · rename_i kts hd
    obtain ⟨a, kvs, rfl, e, _⟩ := (ru.vw M hd).dK
    exact ⟨a, rfl, .inl ⟨kvs, e⟩⟩
  · rename_i kts hd
    obtain ⟨a, kvs, rfl, e, _⟩ := (ru.vw M hd).dT
    exact ⟨a, rfl, .inr ⟨kvs, e⟩⟩
  · cases h
theorem dGetM_ok {c : Cn} {B : Addr → Prop} {H : Hp} {φ : List Addr} {m : Mem} {σ : L2.St} {fr : Fr} {a : Addr} {y z : V} {ud uk ux : U} {Q : VK} (M : MOk c B H φ m) (rd' : Ru c H (LL B φ m) φ (.ref a) ud) (rk : Ru c H (LL B φ m) φ y uk) (rz : Ru c H (LL B φ m) φ z ux)
    (h : rx rrU c W (dGetM ud uk ux fr m) B H φ m σ Q) : ∃ ro, DGet H a y ro ∧ Q (ro.getD z) H := by
  obtain ⟨r, m', e, h⟩ := h
  unfold dGetM at e
  split at e
  · rename_i d k x hd hk
    split at e
    · rename_i ro hr
      cases e
      obtain ⟨a', ro', ea, dg, hrel⟩ := dGetT_rel (rd'.vw M hd) (rk.vw M hk) hr
      cases ea
      refine ⟨ro', dg, ?_⟩
      rcases hrel with ⟨rfl, rfl⟩ | ⟨t, v, rfl, rfl, rv⟩
      · exact h H φ (.refl M) z rz
      · exact h H φ (.refl M) v (.v rv)
    · cases e
  · cases e
theorem e_dget2 (hu : X.A.units + 1 < cLine) (ho : PE X o (rdE X W f)) (he : PE X e (rdE X W g)) (hf : PE X f' (rdE X W h)) (m2 : M2 X o "get" apos e f' cpos) : PE X (.Call (.Attribute o "get" apos) [e, f'] [] cpos) (rdE X W (mDGet f g h)) := by
  refine PE.wk (pe_dget2 hu ho he hf m2) fun σ H Q hh => ?_
  obtain ⟨B, φ, m, fr, S, h0⟩ := rd.bind (R := rrU) hh
  refine ⟨B, φ, m, fr, S, h0.mono fun x H1 ⟨B, φ1, m1, fr, ud, S1, ru, r, m', e1, h1⟩ => ?_⟩
  split at e1
  · rename_i hd
    obtain ⟨a, rfl, hD⟩ := isDictU_ok S1.mem ru hd
    refine ⟨a, rfl, hD, B, φ1, m1, fr, S1, (rx.bind (R := rrU) ⟨r, m', e1, h1⟩).mono fun y H2 ⟨φ2, m2, uk, n2, rk, h2⟩ => ⟨B, φ2, m2, fr, S1.nxt n2, (h2.bind (R := rrU)).mono fun z H3 ⟨φ3, m3, ux, n3, rz, h3⟩ => ?_⟩⟩
    exact dGetM_ok n3.ok ((ru.nxt n2).nxt n3) (rk.nxt n3) rz h3
  · cases e1
theorem e_dget1 (hu : X.A.units + 1 < cLine) (ho : PE X o (rdE X W f)) (he : PE X e (rdE X W g)) (m1 : M1 X o "get" apos e cpos) : PE X (.Call (.Attribute o "get" apos) [e] [] cpos) (rdE X W (mDGet1 f g)) := by
  refine PE.wk (pe_dget1 hu ho he m1) fun σ H Q hh => ?_
  obtain ⟨B, φ, m, fr, S, h0⟩ := rd.bind (R := rrU) hh
  refine ⟨B, φ, m, fr, S, h0.mono fun x H1 ⟨B, φ1, m1, fr, ud, S1, ru, r, m', e1, h1⟩ => ?_⟩
  split at e1
  · rename_i hd
    obtain ⟨a, rfl, hD⟩ := isDictU_ok S1.mem ru hd
    refine ⟨a, rfl, hD, B, φ1, m1, fr, S1, (rx.bind (R := rrU) ⟨r, m', e1, h1⟩).mono fun y H2 ⟨φ2, m2, uk, n2, rk, h2⟩ => ?_⟩
    exact dGetM_ok n2.ok (ru.nxt n2) rk (.v .non) h2
  · cases e1
theorem e_dnewT : PE X (.Dict [] [] pos) (rdN X W mDNewT) := PE.wk pe_dnewT fun σ H Q ⟨B, φ, m, fr, S, r, m', e, h⟩ p hp => by
  cases e
  exact h _ φ p hp (Nxt.new (.refl S.mem) hp) ⟨[], upd_same, rfl, .nil⟩
theorem e_dnewK : PE X (.Dict [] [] pos) (rdN X W mDNewK) := PE.wk pe_dnewK fun σ H Q ⟨B, φ, m, fr, S, r, m', e, h⟩ p hp => by
  cases e
  exact h _ φ p hp (Nxt.new (.refl S.mem) hp) ⟨[], upd_same, rfl, .nil⟩
theorem s_dput (hu : X.A.units + 1 < cLine) (ho : PE X o (rdE X W f)) (hi : PE X i' (rdE X W g)) (hv : PE X v' (rdE X W h)) (hs : swapsWith v' (some (.Subscript o i' apos)) pos.line X.env = pure false := by rfl) :
    PS X (.Assign [.Subscript o i' apos] v' pos) (rdS X W (sDPutT h f g)) := by
  refine PS.wk (ps_dput hu ho hi hv hs) fun D σ H ⟨B, φ, m, fr, S, h⟩ => ?_
  refine ⟨B, φ, m, fr, S, (h.bind (R := rrU) S).mono fun y H1 ⟨φ1, m1, uv, n1, rv, h1⟩ => ⟨B, φ1, m1, fr, S.nxt n1, (h1.bind (R := rrU) (S.nxt n1)).mono fun x H2 ⟨φ2, m2, ud, n2, ro, h2⟩ => ⟨B, φ2, m2, fr, (S.nxt n1).nxt n2, (h2.bind (R := rrU) ((S.nxt n1).nxt n2)).mono fun z H3 ⟨φ3, m3, uk, n3, rk, r, m', e9, h3⟩ => ?_⟩⟩⟩
  have S3 := ((S.nxt n1).nxt n2).nxt n3
  have rv3 := (rv.nxt n2).nxt n3
  have ro3 := ro.nxt n3
  split at e9
  · split at e9
    · rename_i d k hm hk
      split at e9
      · rename_i d' hd'
        cases e9
        cases ro3 with
        | c hi =>
          cases rv3 with
          | v rt =>
            have la : LL B φ3 m3 _ := .inr ⟨_, _, hi, hm⟩
            have vk := rk.vw n3.ok hk
            unfold dPutT at hd'
            split at hd'
            · rename_i kts k0 v0
              split at hd'
              · rename_i key hkey
                split at hd'
                · rename_i hz
                  cases hd'
                  obtain ⟨kvs, ea, kk, rr⟩ := n3.ok.cel _ _ _ hi hm
                  have hl := congrArg List.length kk
                  simp only [List.length_map] at hl
                  have hy : z = kV key := by
                    cases k with
                    | int i => cases hkey; cases vk.int; rfl
                    | str i => cases hkey; cases vk.str; rfl
                    | _ => cases hkey
                  subst hy
                  obtain ⟨k1, r1⟩ := put_rel (k := key) kk rr rt
                  have n4 := Nxt.write (o := .dK (putK kvs key y)) (t' := .t (.dK (putT _ key _))) n3.ok hi hm ⟨_, upd_same, k1, r1.upd la⟩
                  exact ⟨_, _, rfl, .k ea (by omega), h3 _ φ3 n4 σ (S3.nxt n4)⟩
                · cases hd'
              · cases hd'
            · rename_i kts ks v0
              split at hd'
              · rename_i key hkey
                split at hd'
                · rename_i hz
                  cases hd'
                  obtain ⟨kvs, ea, kk, rr⟩ := n3.ok.cel _ _ _ hi hm
                  have hl := congrArg List.length kk
                  simp only [List.length_map] at hl
                  obtain ⟨b, vs, rfl, eb, rs⟩ := vk.tup
                  have := keysT_rel rs hkey
                  subst this
                  obtain ⟨k1, r1⟩ := put_rel (k := key) kk rr rt
                  have n4 := Nxt.write (o := .dT (putK kvs key y)) (t' := .t (.dT (putT _ key _))) n3.ok hi hm ⟨_, upd_same, k1, r1.upd la⟩
                  exact ⟨_, _, rfl, .t ea eb (by omega), h3 _ φ3 n4 σ (S3.nxt n4)⟩
                · cases hd'
              · cases hd'
            · cases hd'
      · cases e9
    · cases e9
  · cases e9
end
end G

/-! G13: calls that hand back a cell; in, of anything; names stored by a comprehension. -/
namespace G
open PySem PySem.Spec PyProof.Rows L2

def callC (n : Nat) (F : Fn) (us : List U) (m : Mem) : Res U :=
  if us.length = n ∧ (cellsOf us).Nodup then
    match F (renum 0 us) (ldM m (cellsOf us)) with
    | some (.ok (.c j), m1) => match m1[j]? with
      | some (some ct) => if (cellsOf us).length ≤ j ∧ (toT ct).isSome then some (.ok (.c m.length), stM m (cellsOf us) (m1.set j none) ++ [some ct]) else none
      | _ => none
    | some (.error x, m1) => some (.error x, stM m (cellsOf us) m1)
    | _ => none
  else none
theorem bq_bc {c : Cn} {B : Addr → Prop} {H : Hp} {φ φc : List Addr} {m mc : Mem} {x : Addr} (nl : ¬ Lv φc mc x) : Bq (Bc B φ m φc mc) x = Bc (Bq B x) φ m φc mc := by
  funext a
  refine propext ⟨fun z => ?_, fun z => ?_⟩
  · rcases z with z | z
    · exact ⟨z.1.elim (fun z => .inl (.inl z)) .inr, z.2⟩
    · exact ⟨.inl (.inr z), by rw [z]; exact nl⟩
  · rcases z with ⟨(z | z) | z, nl⟩
    · exact .inl ⟨.inl z, nl⟩
    · exact .inr z
    · exact .inl ⟨.inr z, nl⟩
theorem spF.ofC {c : Cn} {W : WX} {B : Addr → Prop} {H : Hp} {φ : List Addr} {m : Mem} {σ : L2.St} {vs : List V} {us : List U} {n : Nat} {F : Fn} {Q : VK} {E : XK} (M : MOk c B H φ m) (ru : Rus c H (LL B φ m) φ vs us) (hE : ∀ cls d H, W cls d σ H → E cls d H)
    (h : rx rrU c W (callC n F us m) B H φ m σ Q) : spF c n F vs H Q E := by
  obtain ⟨r, m', e, h⟩ := h
  unfold callC at e
  split at e
  · rename_i hn
    have hl : (adrs vs us).length = (cellsOf us).length := (adrs_get ru).1
    refine ⟨by rw [ru.length]; exact hn.1, Bc B φ m (adrs vs us) (ldM m (cellsOf us)), adrs vs us, ldM m (cellsOf us), renum 0 us, M.call ru hn.2, ru.call, ?_⟩
    cases q : F (renum 0 us) (ldM m (cellsOf us)) with
    | none => rw [q] at e; cases e
    | some p =>
      obtain ⟨r1, m1⟩ := p
      rw [q] at e
      refine ⟨r1, m1, rfl, fun H' φ' nx => ?_⟩
      match r1, e with
      | .error x, e =>
        cases e
        obtain ⟨n2, ll⟩ := Nxt.call M ru hn.2 nx
        exact fun cls d xr => hE _ _ _ (h H' φ n2 cls d (xr.sub ll))
      | .ok (.c j), e =>
        dsimp only at e
        split at e
        · rename_i ct hj
          split at e
          · rename_i hc
            cases e
            intro v rv
            cases rv with
            | @c a i hi =>
              have fa : H a = none := nx.fr j a (by omega) hi
              have nla : ¬ Lv (adrs vs us) (ldM m (cellsOf us)) a := fun z => (M.call ru hn.2).lvt z fa
              have n6 := nx.lock hi hj
              have hcel := nx.ok.cel j a ct hi hj
              rw [← LL.lock nx.ok hi hj] at hcel
              rw [bq_bc (c := c) (H := H) nla] at n6 hcel
              obtain ⟨n7, ll⟩ := Nxt.callB (B' := Bq B a) M ru hn.2 (fun x z => z.imp id fun z => by rw [z]; exact fa) n6
              have hcel2 : Cel c H' (LL (Bq B a) φ (stM m (cellsOf us) (m1.set j none))) φ a ct := Cel.re hc.2 (hcel.mono pre0 (fun b o nl e => ⟨fun z => nl (ll b z), o, e, .inl rfl⟩) fun _ e => e)
              have n8 := n7.cell (M.noB fa) fa hcel2
              exact h H' (φ ++ [a]) n8 _ (.c (by rw [← M.len]; simp))
          · cases e
        · cases e
  · cases e
def mCallC (n : Nat) (F : Fn) (g : M (List U)) : M U := mBind g fun us _ m => callC n F us m
section
variable {X : Cx} {W : WX} {e : Expr} {es : List Expr} {g : M (List U)} {F : Fn} {k n : Nat} {f : Addr} {fd : FuncData} {ps : List Str} {x : Str} {p pos : Pos}
theorem e_callC (tk : Takes X W) (FO : FnOk X.prog X.w X.K X.mg X.base (L2.CX X.prog X.w) k f fd ps (spF (cn X) n F)) (hr : Room k X.A) (hg : Gl X x) (hm : X.mg x = some (.ref f)) (hk : PySem.W.keepIn X.K (.ref f) = true) (hb : Binds X.K fd ps [])
    (ha : PA X (e :: es) (rdA X W g)) (hdb : (x == ("__debug__" : Str)) = false := by decide) (he : starEach (e :: es) X.env = (false, eval e X.env) :: starEach es X.env := by rfl) (hpl : (backTo pos (starEach es X.env)).any (·.1) = false := by rfl) :
    PE X (.Call (.Name x p) (e :: es) [] pos) (rdE X W (mCallC n F g)) := by
  refine PE.wk (pe_callSD (dvs := []) (E := WE W) FO hr hg hm hk hb .nil (fun σ => passAt tk σ) ha hdb he hpl) fun σ H Q h => ?_
  obtain ⟨B, φ, m, fr, S, h⟩ := rd.bind (R := rrUs) h
  exact ⟨B, φ, m, fr, S, h.mono fun vs H1 ⟨B, φ1, m1, fr, us, S1, ru, h1⟩ => by rw [List.append_nil]; exact spF.ofC S1.mem ru (fun _ _ _ z => z) h1⟩
end
/-- in, of a list, a text, a dict -/
def isDict : T → Bool
  | .dK _ => true
  | .dT _ => true
  | _ => false
def inA : T → T → Option T := fun x y => if isDict y then inD x y else inP x y
def notInA : T → T → Option T := fun x y => if isDict y then notInD x y else notInP x y
section
variable {X : Cx}
theorem op_of {f : Value → Value → Sem Value} {p q r : T → T → Option T} (hp : OpR X f (r2 (cn X) (pv2 p))) (hq : OpR X f (r2 (cn X) (pv2 q))) (hr : ∀ x y t, r x y = some t → p x y = some t ∨ q x y = some t) : OpR X f (r2 (cn X) (pv2 r)) := by
  intro pins s σ H x y v u Q inv r1 r2 ⟨B, φ, m, a, b, M, ra, rb, w, m', e, h⟩
  unfold pv2 at e
  split at e
  · rename_i x' y' h1 h2
    split at e
    · rename_i t ht
      cases e
      rcases hr _ _ _ ht with z | z
      · refine hp pins s σ H x y v u Q inv r1 r2 ⟨B, φ, m, a, b, M, ra, rb, _, m, ?_, h⟩
        unfold pv2; rw [h1, h2]; dsimp only; rw [z]
      · refine hq pins s σ H x y v u Q inv r1 r2 ⟨B, φ, m, a, b, M, ra, rb, _, m, ?_, h⟩
        unfold pv2; rw [h1, h2]; dsimp only; rw [z]
    · cases e
  · cases e
theorem op_inA (hu : X.A.units + 65 < cLine) : OpR X (compareOp .In) (r2 (cn X) (pv2 inA)) := op_of (op_inDT (by omega)) (op_inT hu) fun x y t h => by
  unfold inA at h
  split at h
  · exact .inl h
  · exact .inr h
theorem op_notInA (hu : X.A.units + 65 < cLine) : OpR X (compareOp .NotIn) (r2 (cn X) (pv2 notInA)) := op_of (op_notInDT (by omega)) (op_notInT hu) fun x y t h => by
  unfold notInA at h
  split at h
  · exact .inl h
  · exact .inr h
end
/-! ### y = [..] -/
def sAsgN (f : M C) (fz : Bool) (i : Nat) : MS := sAsg (if fz then mFz f else mCl f) (gN i)
section
variable {X : Cx} {W : WX} {tg iter elt : Expr} {ifs : List Expr} {scope : Scope} {own : List (Str × Nat)} {pos spos py : Pos} {g : Tg} {t : M Bool} {e : M U} {it : M Src} {ss : List Nat}
theorem rdE_N {f : M C} {σ : L2.St} {H : Hp} {Q : VK} (h : rdE X W (mFz f) σ H Q) : rdN X W f σ H Q := by
  obtain ⟨B, φ, m, fr, S, r, m', e, h⟩ := h
  refine ⟨B, φ, m, fr, S, ?_⟩
  unfold mFz mBind at e
  cases q : f fr m with
  | none => rw [q] at e; cases e
  | some p =>
    obtain ⟨r1, m1⟩ := p
    rw [q] at e
    refine ⟨r1, m1, rfl, ?_⟩
    cases r1 with
    | error x => cases e; exact h
    | ok ct =>
      dsimp only at e
      cases q2 : toT ct with
      | none => rw [q2] at e; cases e
      | some t =>
        rw [q2] at e; cases e
        exact fun H' φ' q hq n hc => h H' φ' n.unB _ (.v (n.tree (S.mem.noB hq) hc q2))
theorem rdE_C {f : M C} {σ : L2.St} {H : Hp} {Q : VK} (h : rdE X W (mCl f) σ H Q) : rdN X W f σ H Q := by
  obtain ⟨B, φ, m, fr, S, r, m', e, h⟩ := h
  refine ⟨B, φ, m, fr, S, ?_⟩
  unfold mCl mBind at e
  cases q : f fr m with
  | none => rw [q] at e; cases e
  | some p =>
    obtain ⟨r1, m1⟩ := p
    rw [q] at e
    refine ⟨r1, m1, rfl, ?_⟩
    cases r1 with
    | error x => cases e; exact h
    | ok ct =>
      cases e
      intro H' φ' q hq n hc
      refine h H' (φ' ++ [q]) (n.cell (S.mem.noB hq) hq hc) _ (.c ?_)
      rw [List.getElem?_append_right (by rw [n.ok.len]; exact Nat.le_refl _), n.ok.len]
      simp
theorem s_setComp {i : Nat} {y : Str} {f : M U} (vs : List Nat) (hc : X.calm = true) (hN : X.N.Nodup) (hy : X.N[i]? = some y) (hyl : X.env.scope.names.lookup y = some .local)
    (hsw : swapsWith (.ListComp elt [⟨tg, iter, ifs, 0⟩] scope pos) (some (.Name y py)) spos.line X.env = pure true) (hi : PI X tg iter (rdIz X W it)) (ok : BlkOk X.N X.env.scope scope own)
    (hg : ∀ s H C cl fp, PG (Bk X scope s H C cl fp) tg (rdG X ss g)) (ht : ∀ s H C cl fp, PTs (Bk X scope s H C cl fp) ifs (rdT X W0 t)) (he : ∀ s H C cl fp, PE (Bk X scope s H C cl fp) elt (rdE X W0 e))
    (hv : own.map (·.2) = vs) (hss : ∀ i ∈ ss, i ∈ vs) (hf : f = mFz (mComp it g t e vs) ∨ f = mCl (mComp it g t e vs)) (hs : ∀ x, foldedSetIterable iter X.env x = pure x := by intro _; rfl) :
    PS X (.Assign [.Name y py] (.ListComp elt [⟨tg, iter, ifs, 0⟩] scope pos) spos) (rdS X W (sAsg f (gN i))) := by
  subst hv
  refine PS.wk (ps_setLc hc hN hy hyl hsw hi ok hg ht he hs) fun D σ H h => ?_
  have h2 : rdE X W f σ H fun x H1 => D.nx (σ.set i (some x)) H1 := by
    obtain ⟨B, φ, m, fr, S, h⟩ := h.asg (ss := [i])
    refine ⟨B, φ, m, fr, S, h.mono fun v H1 ⟨B, φ1, m1, fr, u, fr', S1, ru, e, h1⟩ => ?_⟩
    cases e
    exact h1 _ (S1.set i ru) ⟨by simp, fun j hj => List.getElem?_set_ne fun z => hj (by simp [z])⟩
  rcases hf with rfl | rfl
  · exact rd_comp hss (rdE_N h2)
  · exact rd_comp hss (rdE_C h2)
end
end G

/-! G14: what the printed derivations lean on. -/
namespace G
open PySem PySem.Spec PyProof.Rows L2

theorem u1 {k : Nat} {A : Around} (hr : Room k A) : A.units + 1 < cLine := by have := hr.un; omega
theorem u64 {k : Nat} {A : Around} (hr : Room k A) : A.units + 64 < cLine := by have := hr.un; omega
theorem u65 {k : Nat} {A : Around} (hr : Room k A) : A.units + 65 < cLine := by have := hr.un; omega
theorem bb_len : bootBuiltins "len" = some (.builtin "len") := by decide +kernel
theorem bb_all : bootBuiltins "all" = some (.builtin "all") := by decide +kernel
theorem bb_any : bootBuiltins "any" = some (.builtin "any") := by decide +kernel
theorem bb_min : bootBuiltins "min" = some (.builtin "min") := by decide +kernel
theorem bb_max : bootBuiltins "max" = some (.builtin "max") := by decide +kernel
theorem bb_sum : bootBuiltins "sum" = some (.builtin "sum") := by decide +kernel
theorem bb_abs : bootBuiltins "abs" = some (.builtin "abs") := by decide +kernel
theorem bb_sorted : bootBuiltins "sorted" = some (.builtin "sorted") := by decide +kernel
theorem bb_int : bootBuiltins "int" = some (.type "int") := by decide +kernel
theorem bb_bool : bootBuiltins "bool" = some (.type "bool") := by decide +kernel
theorem bb_str : bootBuiltins "str" = some (.type "str") := by decide +kernel
theorem bb_tuple : bootBuiltins "tuple" = some (.type "tuple") := by decide +kernel
theorem bb_list : bootBuiltins "list" = some (.type "list") := by decide +kernel
theorem bb_set : bootBuiltins "set" = some (.type "set") := by decide +kernel
theorem bb_dict : bootBuiltins "dict" = some (.type "dict") := by decide +kernel
section
variable {X : Cx} {W : WX} {pos : Pos}
theorem e_globS {x z : Str} (hg : Gl X x) (hm : ∃ t, X.mg x = some (.str z t)) (hd : (x == ("__debug__" : Str)) = false := by decide) : PE X (.Name x pos) (rdE X W (mC (.str z))) := by
  obtain ⟨t, hm⟩ := hm
  exact e_glob (v := .str z) hg hm ⟨t, rfl⟩ (fun _ _ => .str z) hd
theorem e_globI {x : Str} {z : Int} (hg : Gl X x) (hm : ∃ t, X.mg x = some (.int z t)) (hd : (x == ("__debug__" : Str)) = false := by decide) : PE X (.Name x pos) (rdE X W (mC (.int z))) := by
  obtain ⟨t, hm⟩ := hm
  exact e_glob (v := .int z) hg hm ⟨t, rfl⟩ (fun _ _ => .int z) hd
end
theorem fn_okT {P : Program} {w : World} {K : PySem.W.Frag} {mg : Str → Option Value} {base : Heap} {x qual : Str} {st : Stmt} {f : Addr} {fd : FuncData} {N ps : List Str} {k : Nat} {b : MS} (F : Fun K x qual st f fd) (S : FnScope N ps (defScope st))
    (hb : ∀ (cdv : Value) (A : Around) (outer : List Env) (s : Shared) (H : Hp) (E : XK), Room k (A.deeper (envOfC qual (defScope st) s.heap.objs.size f cdv)) →
      Takes (cxOf (L2.CX P w) P w K mg base N qual (defScope st) f cdv A outer s H E) (fun cls d _ H => E cls d H) →
      PassesOwn (model P w) (cxOf (L2.CX P w) P w K mg base N qual (defScope st) f cdv A outer s H E).A (cxOf (L2.CX P w) P w K mg base N qual (defScope st) f cdv A outer s H E).env (cxOf (L2.CX P w) P w K mg base N qual (defScope st) f cdv A outer s H E).xe →
      PSs (cxOf (L2.CX P w) P w K mg base N qual (defScope st) f cdv A outer s H E) (defBody st) (rdS (cxOf (L2.CX P w) P w K mg base N qual (defScope st) f cdv A outer s H E) (fun cls d _ H => E cls d H) b)) :
    FnOk P w K mg base (L2.CX P w) (k + 1) f fd ps (spF ⟨K, mg, none⟩ ps.length (runF N.length b)) :=
  fn_ok F S fun cdv A outer s H E hr => hb cdv A outer s H E hr (takes_of rfl rfl rfl rfl) (passes_of (X := cxOf (L2.CX P w) P w K mg base N qual (defScope st) f cdv A outer s H E) rfl)
end G

/-! G15: min and max of two; own ==; d.items(). -/
namespace G
open PySem PySem.Spec PyProof.Rows L2
def strAt (x y : Str) (i : Nat) : Str := if i = 0 then x else y
theorem at2 {a b v : Value} {i : Nat} (h : #[a, b][i]? = some v) : (i = 0 ∧ v = a) ∨ (i = 1 ∧ v = b) := by
  match i, h with
  | 0, h => simp at h; exact .inl ⟨rfl, h.symm⟩
  | 1, h => simp at h; exact .inr ⟨rfl, h.symm⟩
  | i + 2, h => simp at h
section
variable {prog : Program} {w : World} {A : Around} {E : Value → Shared → Prop} {s : Shared}
theorem cmp_strs {op : CmpOp} {x y : Str} {t u : Tok} {bt : Str → Str → Bool} (hc : ∀ (x y : Str) (t u : Tok) (A : Around) (Q : Value → Shared → Prop) (E : Value → Shared → Prop) (s : Shared), Q (.bool (bt x y)) s → wpAny (model prog w) A (richCompare op (.str x t) (.str y u)) Q E s) :
    CmpOf prog w A op (fun i v => #[Value.str x t, Value.str y u][i]? = some v) (fun i j => bt (strAt x y i) (strAt x y j)) := by
  intro i j a b s Q E hi hj h
  rcases at2 hi with ⟨rfl, rfl⟩ | ⟨rfl, rfl⟩ <;> rcases at2 hj with ⟨rfl, rfl⟩ | ⟨rfl, rfl⟩ <;> exact hc _ _ _ _ _ _ _ _ h
/-- two things, gone through for the better one by bt: the first, but for a better second -/
theorem pair_walk {op : CmpOp} {a b : Value} {bt : Nat → Nat → Bool} {Q : Value → Shared → Prop} (hh : A.handled = none) (cmp : CmpOf prog w A op (fun i v => #[a, b][i]? = some v) bt)
    (fin : ∀ h' tk, (∀ c o, s.heap.get? c = some o → h'.get? c = some o) → Q (if bt 1 0 = true then b else a) { s with heap := h', toks := tk }) :
    wpAny (model prog w) A (pyIter (.ref s.heap.objs.size)) (fun it s2 => ∃ I fp wr n P St bt, it = .ref I ∧ Walks prog w A I fp wr n P St ∧ St 0 s2.heap ∧ (∀ b ∈ fp, b < s2.heap.objs.size) ∧ 0 < n ∧ CmpOf prog w A op P bt ∧
      ∀ v h' tk, P (argBest bt (n - 1)) v → (∀ b o, b ∉ wr → s2.heap.get? b = some o → h'.get? b = some o) → Q v { s2 with heap := h', toks := tk }) E
      { s with heap := s.heap.push { cls := .type "tuple", data := .seq #[a, b] } } := by
  have laid : (s.heap.push { cls := .type "tuple", data := .seq #[a, b] }).IsTuple s.heap.objs.size #[a, b] := ⟨_, Heap.get?_push_size _ rfl, rfl, 0, rfl⟩
  have one : (s.heap.push { cls := .type "tuple", data := .seq #[a, b] }).objs.size = s.heap.objs.size + 1 := Heap.size_push ..
  have walk := Walks.tuple (prog := prog) (w := w) hh (s.heap.objs.size + 1) s.heap.objs.size (Nat.ne_of_lt (Nat.lt_succ_self _)) #[a, b]
  refine wpAny_pyIter_tuple laid ⟨s.heap.objs.size + 1, _, _, _, _, _, bt, by rw [one], walk, ?_, fun c hc => ?_, Nat.succ_pos 1, cmp, fun v h' tk hv keep => ?_⟩
  · refine ⟨⟨{ cls := .type "tuple_iterator", data := .fields #[.ref s.heap.objs.size, .int 0 0] }, ?_, rfl, rfl⟩, laid.push _⟩
    rw [← one]; exact Heap.get?_push_size _ rfl
  · have two : c = s.heap.objs.size + 1 ∨ c = s.heap.objs.size := by simpa using hc
    show c < (Heap.push (s.heap.push { cls := .type "tuple", data := .seq #[a, b] }) _).objs.size
    rw [Heap.size_push, one]
    rcases two with z | z
    · rw [z]; exact Nat.lt_succ_self _
    · rw [z]; exact Nat.lt_add_of_pos_right (Nat.succ_pos 1)
  · have best : v = if bt 1 0 = true then b else a := by
      have hv : #[a, b][argBest bt 1]? = some v := hv
      cases q : bt 1 0 <;> simp [argBest, q] at hv ⊢ <;> exact hv.symm
    rw [best]
    refine fin h' tk fun c o e => keep c o (fun z => ?_) (Heap.get?_push_of_some _ (Heap.get?_push_of_some _ e))
    have z : c = s.heap.objs.size + 1 := by simpa using z
    have := Heap.lt_size e
    rw [z] at this
    exact Nat.not_succ_le_self _ (Nat.le_of_lt this)
theorem min_two_strs {x y : Str} {t u : Tok} {Q : Value → Shared → Prop} (hh : A.handled = none)
    (h : ∀ h' tk, (∀ c o, s.heap.get? c = some o → h'.get? c = some o) → Q (if y.cps.toList < x.cps.toList then .str y u else .str x t) { s with heap := h', toks := tk }) :
    wpAny (model prog w) A (call (.builtin "min") [.str x t, .str y u]) Q E s :=
  call_min_two (pair_walk (A := A.in1) hh (cmp_strs (op := .Lt) (fun _ _ _ _ _ _ _ _ q => lt_str q)) fun h' tk k => by simpa [strAt] using h h' tk k)
theorem max_two_strs {x y : Str} {t u : Tok} {Q : Value → Shared → Prop} (hh : A.handled = none)
    (h : ∀ h' tk, (∀ c o, s.heap.get? c = some o → h'.get? c = some o) → Q (if x.cps.toList < y.cps.toList then .str y u else .str x t) { s with heap := h', toks := tk }) :
    wpAny (model prog w) A (call (.builtin "max") [.str x t, .str y u]) Q E s :=
  call_max_two (pair_walk (A := A.in1) hh (cmp_strs (op := .Gt) (fun _ _ _ _ _ _ _ _ q => PySem.P.gt_str q)) fun h' tk k => by simpa [strAt] using h h' tk k)
end
def min2P : List T → Option T
  | [.int i, .int j] => some (.int (if j < i then j else i))
  | [.str x, .str y] => some (.str (if y.cps.toList < x.cps.toList then y else x))
  | _ => none
def max2P : List T → Option T
  | [.int i, .int j] => some (.int (if j > i then j else i))
  | [.str x, .str y] => some (.str (if x.cps.toList < y.cps.toList then y else x))
  | _ => none
section
variable {X : Cx}
theorem cr_min2 (hc : X.calm = true) (hu : X.A.units + 64 < cLine) : CallR X (.builtin "min") (rN (cn X) (pvN min2P)) := cr_T fun pins s σ H xs us Q B φ m ts t inv r M vx e hq => by
  unfold min2P at e
  split at e
  · cases e
    cases vx with
    | cons v vs =>
      cases vs with
      | cons v' vs =>
        cases vs; cases v.int; cases v'.int
        exact call_min2 hc pins s σ H _ us Q inv r ⟨_, _, rfl, hq H (.refl M) _ (.int _)⟩
  · rename_i x y
    cases e
    cases vx with
    | cons v vs =>
      cases vs with
      | cons v' vs =>
        cases vs; cases v.str; cases v'.str
        obtain ⟨u, w', rfl, ⟨t, rfl⟩, ⟨t', rfl⟩⟩ := vals2 r
        refine min_two_strs (inv.ok.hd hc) fun h' tk k => ⟨.str (if y.cps.toList < x.cps.toList then y else x), H, inv.kept k, ?_, hq H (.refl M) _ (.str _)⟩
        split
        · exact ⟨_, rfl⟩
        · exact ⟨_, rfl⟩
  · cases e
theorem cr_max2 (hc : X.calm = true) (hu : X.A.units + 64 < cLine) : CallR X (.builtin "max") (rN (cn X) (pvN max2P)) := cr_T fun pins s σ H xs us Q B φ m ts t inv r M vx e hq => by
  unfold max2P at e
  split at e
  · cases e
    cases vx with
    | cons v vs =>
      cases vs with
      | cons v' vs =>
        cases vs; cases v.int; cases v'.int
        exact call_max2 hc pins s σ H _ us Q inv r ⟨_, _, rfl, hq H (.refl M) _ (.int _)⟩
  · rename_i x y
    cases e
    cases vx with
    | cons v vs =>
      cases vs with
      | cons v' vs =>
        cases vs; cases v.str; cases v'.str
        obtain ⟨u, w', rfl, ⟨t, rfl⟩, ⟨t', rfl⟩⟩ := vals2 r
        refine max_two_strs (inv.ok.hd hc) fun h' tk k => ⟨.str (if x.cps.toList < y.cps.toList then y else x), H, inv.kept k, ?_, hq H (.refl M) _ (.str _)⟩
        split
        · exact ⟨_, rfl⟩
        · exact ⟨_, rfl⟩
  · cases e
end
end G

/-! G16: d.items() of a dict whose keys are tuples, in a comprehension. -/
namespace G
open PySem PySem.Spec PyProof.Rows PySem.W L2

/-- the pairs of the locked dict at d: its keys' own tuples -/
def ItiT (d : Addr) (o : Obj) (kvs : List (List Key × V)) : It :=
  ⟨fun i H => H d = some (.frz o (.dT kvs)) ∧ i < kvs.length, fun i H x H' => ∃ n k v q, kvs[i]? = some (k, v) ∧ x = .ref n ∧ H n = none ∧ H q = some (.tup (k.map kV)) ∧ H' = upd H n (.tup [.ref q, v]), fun i H => H d = some (.frz o (.dT kvs)) ∧ kvs.length ≤ i⟩
section
variable {X : Cx} {pins : List (Addr × Obj)} {σ : L2.St} {H : Hp} {s : Shared} {d : Addr} {o : Obj} {kvs : List (List Key × V)} {es : Array DictEntry} {ep : Nat}
/-- the pairs of the locked dict at d, as the heap has them -/
structure Pairs (H : Hp) (h : Heap) (d : Addr) (o : Obj) (kvs : List (List Key × V)) (es : Array DictEntry) (ep : Nat) : Prop where
  no : (d == sysModules) = false
  raw : h.DictRaw d es ep
  len : kvs.length = es.size
  one : ∀ (i : Nat) (lt : i < es.size), ∃ p q, kvs[i]? = some p ∧ es[i].key = .ref q ∧ H q = some (.tup (p.1.map kV)) ∧ RelV p.2 es[i].val
theorem val_at {G : List Key × V → List Key × Addr × Value → Prop} {ys : List (List Key × Addr × Value)} {ent : List Key × Addr × Value → DictEntry} {i : Nat} {p : List Key × V} (pr : Paired G kvs ys) (el : es.toList = ys.map ent) (lt : i < es.size) (hp : kvs[i]? = some p) :
    ∃ y, G p y ∧ es[i] = ent y := by
  obtain ⟨y, hy, g⟩ := paired_get pr hp
  have q : es.toList[i]? = some (ent y) := by rw [el, List.getElem?_map, hy]; rfl
  rw [Array.getElem?_toList, Array.getElem?_eq_getElem lt] at q
  exact ⟨y, g, Option.some.inj q⟩
theorem pairs_of (J : Inv X pins σ H s) (hd : H d = some (.frz o (.dT kvs))) : ∃ es ep, o.data = .dict es ep ∧ Pairs H s.heap d o kvs es ep := by
  obtain ⟨no, there, exact_, es, ep, dat, size, key⟩ := J.frzT hd
  refine ⟨es, ep, dat, no, ⟨o, there, exact_, dat⟩, size.symm, fun i lt => ?_⟩
  have lt' : i < kvs.length := by rw [← size]; exact lt
  have hp : kvs[i]? = some kvs[i] := List.getElem?_eq_getElem lt'
  obtain ⟨en, q, e1, e2, tup⟩ := key i kvs[i].1 kvs[i].2 hp
  rw [Array.getElem?_eq_getElem lt] at e1
  injection e1 with e1
  have ok : ObjOk X.prog X.w H s.heap d (.dT kvs) := (J.hok d _ hd).2
  obtain ⟨_, _, ys, pr, ob, es', _, at', _, dat', el, _⟩ := ok
  rw [there] at at'; cases at'
  rw [dat] at dat'; cases dat'
  obtain ⟨y, g, ev⟩ := val_at pr el lt hp
  exact ⟨kvs[i], q, hp, by rw [e1]; exact e2, tup, by rw [ev]; exact g.2.2⟩
end
/-- the iterator of d.items() stands ahead of the i-th pair -/
def AtPair (it d : Addr) (n ep i : Nat) (h : Heap) : Prop := ∃ k v, IsItemIter h it d i n ep k v
theorem turn_itemsT {P : Program} {w : World} {K : PySem.W.Frag} {d : Addr} {o : Obj} {es : Array DictEntry} {ep : Nat} {kvs : List (List Key × V)} {elts : List Expr} {kk : Nat} {tpos : Pos} (it : Addr) (dat : o.data = .dict es ep) :
    Turn P w K (.Tuple elts kk tpos) (ItiT d o kvs) [it] it (AtPair it d es.size ep) := by
  have mine : ∀ {X : Cx} {pins : List (Addr × Obj)} {σ : L2.St} {H : Hp} {s : Shared}, Inv X pins σ H s → H d = some (.frz o (.dT kvs)) → Pairs H s.heap d o kvs es ep := fun J hd => by
    obtain ⟨es', ep', dat', ps⟩ := pairs_of J hd
    rw [dat] at dat'; cases dat'
    exact ps
  refine ⟨List.mem_singleton.mpr rfl, fun i h ⟨k, v, a⟩ b hb => ?_, fun i h h' ⟨k, v, a⟩ same => ⟨k, v, same it (List.mem_singleton.mpr rfl) _ a⟩, ?_, ?_, fun A i s Q E ⟨k, v, a⟩ q => PySem.W.kcp_self a q⟩
  · rw [List.mem_singleton.mp hb]
    exact ⟨_, a, fun c z => nomatch z⟩
  · rintro X rfl rfl rfl - i pins s σ H E J own ⟨k, v, a⟩ ⟨hd, hi⟩
    have ps := mine J hd
    have lt : i < es.size := ps.len ▸ hi
    obtain ⟨p, q, hp, ek, tup, rv⟩ := ps.one i lt
    refine wpAny_pyNext_items_item_raw a ps.raw lt fun h1 out new _ rest => ⟨_, rfl, wpAny_letOwnedTupleGo_items (s := { s with heap := h1 }) out fun h2 next but => ?_⟩
    have old : it ≠ s.heap.objs.size := Nat.ne_of_lt (Heap.lt_size a)
    have both : Vals [V.ref q, p.2] [es[i].key, es[i].val] := .cons ek (.cons rv .nil)
    have made : IsTup h2 s.heap.objs.size #[es[i].key, es[i].val] := ⟨_, by rw [but.2 _ old.symm]; exact new, rfl, _, rfl⟩
    have J2 := J.turnedNew (t' := s.toks) (h' := h2) (ob := .tup [.ref q, p.2]) (fun b ob nb e => by
      have nb : b ≠ it := fun z => nb (List.mem_singleton.mpr z)
      rw [but.2 b nb]; exact rest b ob nb e) own (Nat.le_refl _) ⟨by rw [sizeLine_eq]; simp, _, both, made⟩
    refine ⟨.ref s.heap.objs.size, _, J2, rfl, ⟨_, p.1, p.2, q, hp, rfl, J.fresh, tup, rfl⟩, ⟨_, _, next⟩, fun b hb => ?_⟩
    rw [List.mem_singleton.mp hb, upd_ne old]
    exact (own it (List.mem_singleton.mpr rfl)).1
  · rintro X rfl rfl rfl calm i pins s σ H E J own ⟨k, v, a⟩ ⟨hd, hi⟩
    have ps := mine J hd
    have f := own it (List.mem_singleton.mpr rfl)
    exact wpAny_pyNext_items_end_raw (J.ok.hd calm) a ps.raw (ps.len ▸ hi) fun h1 but => ⟨rfl, J.turned (t' := s.toks) but f.1 f.2.1 f.2.2.2.1 f.2.2.2.2.1 f.2.2.2.2.2⟩
def iItemsT (td : TE) : TI := fun σ H R => td σ H fun x H1 => ∃ d o kvs, x = .ref d ∧ H1 d = some (.frz o (.dT kvs)) ∧ R (ItiT d o kvs) H1
section
variable {X : Cx} {e : Expr} {td : TE} {apos cpos : Pos}
/-- gone through: the items of a locked dict -/
theorem pi_itemsT {elts : List Expr} {kk : Nat} {tpos : Pos} (he : PE X e td) (hbase : attributeBase e "items" X.env (eval e X.env) = eval e X.env := by rfl) (hline : (apos.endLine == cpos.line) = true := by rfl) :
    PI X (.Tuple elts kk tpos) (.Call (.Attribute e "items" apos) [] [] cpos) (iItemsT td) := ⟨fun pins s σ H R J h => wpAny_Call_method0_late hbase hline (thn (he.run pins s σ H _ J h) fun u s1 ⟨x, H1, J1, rx, d, o, kvs, ex, hd, r⟩ => by
  subst ex
  cases rx
  obtain ⟨es, ep, dat, ps⟩ := pairs_of J1 hd
  obtain ⟨there, bare, _⟩ := isD_at J1 (.inr ⟨kvs, .inr ⟨o, hd⟩⟩)
  refine ⟨"dict", "dict.items", F.plainAttrs_dict, F.slot_dict_items, F.type_dict_items, there, bare, Calls.callWith_builtin rfl (PySem.evalArgs_none (DT.callItems ps.no ps.raw ?_))⟩
  have J2 := J1.kept (t' := s1.toks) (h' := s1.heap.push { cls := .type "dict_items", data := .fields #[.ref d] }) fun _ _ => Heap.get?_push_of_some _
  exact DT.iterI ⟨_, Heap.get?_push_size _ rfl, rfl, rfl⟩ (DT.Raw.push ps.raw _) (pi_one (tk := s1.toks) J2 _ (turn_itemsT _ dat) ⟨_, _, Heap.get?_push_size _ rfl⟩ r))⟩
end
/-! ### a dict that is walked is locked -/
section
variable {c : Cn} {B : Addr → Prop} {H H' : Hp} {φ φ' : List Addr} {m m' : Mem} {d : Addr} {u : HO} {od : Obj} {σ : L2.St} {fr : Fr}
theorem lockD_mono (hd : H d = some u) (hu : isD u) (L : Addr → Prop) : ∀ a o, ¬ L a → H a = some o → ¬ L a ∧ ∃ o', upd H d (.frz od u) a = some o' ∧ KeepO o o' := fun a o nl e => by
  refine ⟨nl, ?_⟩
  by_cases ea : a = d
  · subst ea
    rw [hd] at e; cases e
    exact ⟨_, upd_same, .inr (.inl ⟨od, hu, rfl⟩)⟩
  · exact ⟨o, by rw [upd_ne ea]; exact e, .inl rfl⟩
theorem MOk.lockD (M : MOk c B H φ m) (hd : H d = some u) (hu : isD u) (nl : ¬ Lv φ m d) : MOk c B (upd H d (.frz od u)) φ m := by
  refine ⟨M.len, M.inj, M.nb, fun i a t e1 e2 => ?_, fun a z => ?_⟩
  · exact (M.cel i a t e1 e2).mono pre0 (lockD_mono hd hu _) fun o e => by rw [upd_ne (show a ≠ d from fun z => nl (by rw [← z]; exact ⟨i, t, e1, e2⟩))]; exact e
  · by_cases ea : a = d
    · subst ea; exact ⟨_, upd_same, fun _ z => nomatch z⟩
    · rw [upd_ne ea]; exact M.bt a z
theorem SOk.lockD (S : SOk c B H φ m σ fr) (hd : H d = some u) (hu : isD u) (nl : ¬ Lv φ m d) : SOk c B (upd H d (.frz od u)) φ m σ fr :=
  ⟨S.mem.lockD hd hu nl, S.len, fun i v e => let ⟨x, e1, r⟩ := S.loc i v e; ⟨x, e1, r.mono pre0 (lockD_mono hd hu _)⟩⟩
theorem unlockD_mono (hd : H' d = some (.frz od u)) (hu : isD u) (L : Addr → Prop) : ∀ a o, ¬ L a → H' a = some o → ¬ L a ∧ ∃ o', upd H' d u a = some o' ∧ KeepO o o' := fun a o nl e => by
  refine ⟨nl, ?_⟩
  by_cases ea : a = d
  · subst ea
    rw [hd] at e; cases e
    exact ⟨_, upd_same, .inr (.inr ⟨od, hu, rfl⟩)⟩
  · exact ⟨o, by rw [upd_ne ea]; exact e, .inl rfl⟩
theorem Nxt.unlockD (hd : H d = some u) (hu : isD u) (nl : ¬ Lv φ m d) (n : Nxt c B (upd H d (.frz od u)) φ m H' φ' m') : H' d = some (.frz od u) ∧ Nxt c B H φ m (upd H' d u) φ' m' := by
  have hd' : H' d = some (.frz od u) := n.keep d _ upd_same nl
  have nn : ∀ a, upd H d (.frz od u) a = none → H a = none := fun a z => by
    by_cases ea : a = d
    · subst ea; rw [upd_same] at z; cases z
    · rw [upd_ne ea] at z; exact z
  have nl' : ¬ Lv φ' m' d := fun z => by
    rcases n.sub d z with z | z
    · exact nl z
    · rw [upd_same] at z; cases z
  refine ⟨hd', n.pre, fun a o e na => ?_, fun a z => (n.sub a z).imp id (nn a), fun a z => ?_, fun i a h e => nn a (n.fr i a h e), ⟨n.ok.len, n.ok.inj, n.ok.nb, fun i a t e1 e2 => ?_, fun a z => ?_⟩⟩
  · by_cases ea : a = d
    · subst ea; rw [upd_same]; exact hd.symm.trans e
    · rw [upd_ne ea]; exact n.keep a o (by rw [upd_ne ea]; exact e) na
  · by_cases ea : a = d
    · subst ea; rw [upd_same]; exact fun z => nomatch z
    · rw [upd_ne ea]; exact n.trk a (by rw [upd_ne ea]; exact z)
  · exact (n.ok.cel i a t e1 e2).mono pre0 (unlockD_mono hd' hu _) fun o e => by rw [upd_ne (show a ≠ d from fun z => nl' (by rw [← z]; exact ⟨i, t, e1, e2⟩))]; exact e
  · by_cases ea : a = d
    · subst ea
      refine ⟨u, upd_same, fun xs z => ?_⟩
      subst z; exact hu.elim
    · rw [upd_ne ea]; exact n.ok.bt a z
end
def keyTr : Key → T
  | .inl i => .int i
  | .inr x => .str x
def itemsT (kts : List (List Key × T)) : List T := kts.map fun kt => .tup [.tup (kt.1.map keyTr), kt.2]
theorem keyTs_atom (ks : List Key) : ¬ hasRef (ks.map kV) := fun ⟨b, h⟩ => by
  obtain ⟨k, _, e⟩ := List.mem_map.mp h
  cases k <;> cases e
theorem keyTr_rel {c : Cn} {H : Hp} {L : Addr → Prop} : ∀ ks : List Key, Rps c H L (ks.map kV) (ks.map keyTr)
  | [] => .nil
  | .inl i :: ks => .cons (.int i) (keyTr_rel ks)
  | .inr x :: ks => .cons (.str x) (keyTr_rel ks)
theorem ItOk.itemsT {c : Cn} {B : Addr → Prop} {H : Hp} {φ : List Addr} {m : Mem} {d : Addr} {o : Obj} {kvs : List (List Key × V)} {kts : List (List Key × T)} (hd : H d = some (.frz o (.dT kvs))) (nl : ¬ Lv φ m d) (kk : kvs.map (·.1) = kts.map (·.1)) (rr : Rps c H (LL B φ m) (kvs.map (·.2)) (kts.map (·.2))) :
    ItOk c B H φ m (ItiT d o kvs) (G.itemsT kts) := fun B' H2 φ2 m2 hB n => by
  have hl : (G.itemsT kts).length = kvs.length := by
    have := congrArg List.length kk
    simp only [List.length_map] at this
    simp [G.itemsT, this]
  have hd2 : H2 d = some (.frz o (.dT kvs)) := n.keep d _ hd nl
  rw [hl]
  refine ⟨fun i hi => ⟨hd2, hi⟩, ⟨hd2, Nat.le_refl _⟩, fun i x H3 hi y => ?_⟩
  obtain ⟨q', k, v, q, hkv, rfl, hn, hq, rfl⟩ := y
  have h1 : (kvs.map (·.2))[i]? = some v := by rw [List.getElem?_map, hkv]; rfl
  obtain ⟨t, et, rt⟩ := (rr.mono (n.monoB hB)).getV h1
  have h2 : (kts.map (·.1))[i]? = some k := by rw [← kk, List.getElem?_map, hkv]; rfl
  have h3 : kts[i]? = some (k, t) := by
    rw [List.getElem?_map] at et h2
    cases q9 : kts[i]? with
    | none => rw [q9] at et; cases et
    | some p =>
      rw [q9] at et h2
      obtain ⟨a, b⟩ := p
      simp at et h2
      rw [et, h2]
  have nq : ¬ LL B' φ2 m2 q := fun z => by
    obtain ⟨o', e', ht⟩ := n.ok.nt z
    rw [hq] at e'; cases e'
    exact keyTs_atom k (ht _ rfl)
  obtain ⟨n3, r3⟩ := Nxt.tup (x := .non) (t := .non) (.refl n.ok) hn (.cons (.tup nq hq (keyTr_rel k)) (.cons rt .nil))
  exact ⟨n3, _, by simp [G.itemsT, h3], r3⟩
/-- an expression that is read off the frame and does nothing else -/
def Simp (X : Cx) (tx : TE) (f : M U) : Prop := ∀ (B : Addr → Prop) (φ : List Addr) (m : Mem) (fr : Fr) (σ : L2.St) (H : Hp) (r : Except Xc U) (m' : Mem), SOk (cn X) B H φ m σ fr → f fr m = some (r, m') →
  m' = m ∧ ∃ u v, r = .ok u ∧ Ru (cn X) H (LL B φ m) φ v u ∧ ∀ H' Q, (∀ x o, H x = some o → ¬ isD o → H' x = some o) → Q v H' → tx σ H' Q
def mItI (f : M U) : M Src := mBind f fun u _ m => match u with
  | .v (.dT kts) => some (.ok (itemsT kts, none), m)
  | _ => none
section
variable {X : Cx} {W : WX} {tg iter elt e : Expr} {ifs : List Expr} {scope : Scope} {own : List (Str × Nat)} {pos apos cpos tpos : Pos} {g : Tg} {t : M Bool} {el f : M U} {ss : List Nat} {tx : TE}
theorem simp_var {i : Nat} : Simp X (tVar i) (mVar i) := fun B φ m fr σ H r m' S e => by
  unfold mVar at e
  split at e
  · rename_i u hu
    cases e
    obtain ⟨v, e1, ru⟩ := S.loc i u hu
    exact ⟨rfl, u, v, rfl, ru, fun H' Q _ q => ⟨v, e1, q⟩⟩
  · cases e
theorem simp_fld {i : Nat} {at' cl : Str} {C : Addr} (hC : X.mg cl = some (.ref C)) (cK : Cls X.K C) (nF : NoAttr X.K C at') : Simp X (tFld X.K (tVar i) at') (mUn (pFld cl at') (mVar i)) := fun B φ m fr σ H r m' S e => by
  unfold mUn mBind mVar at e
  cases q : fr[i]? with
  | none => rw [q] at e; cases e
  | some o =>
    cases o with
    | none => rw [q] at e; cases e
    | some u =>
      rw [q] at e
      dsimp only [mLift] at e
      obtain ⟨v, e1, ru⟩ := S.loc i u q
      unfold pFld at e
      cases q2 : insOf m u with
      | none => rw [q2] at e; cases e
      | some p =>
        obtain ⟨n, fs⟩ := p
        rw [q2] at e
        dsimp only at e
        by_cases hn : n = cl
        · subst hn
          rw [if_pos rfl] at e
          cases q3 : fs.lookup at' with
          | none => rw [q3] at e; cases e
          | some w =>
            rw [q3] at e; cases e
            obtain ⟨a, C', dx, fv, rfl, ea, gC, kk, rr⟩ := ru.insOf S.mem q2
            have gC : X.mg n = some (.ref C') := gC
            rw [hC] at gC; cases gC
            obtain ⟨v, ev, rv⟩ := lookup_rel kk rr q3
            exact ⟨rfl, w, v, rfl, rv, fun H' Q hk hq => ⟨_, e1, a, C, dx, fv, v, rfl, hk a _ ea (fun z => z), cK, nF, ev, hq⟩⟩
        · rw [if_neg hn] at e; cases e
theorem compI_eq {kts : List (List Key × T)} {fr : Fr} {m : Mem} {vs : List Nat} (q : f fr m = some (.ok (.v (.dT kts)), m)) (r : Except Xc C × Mem) (h : mComp (mSmall (mItI f)) g t el vs fr m = some r) :
    (itemsT kts).length ≤ sizeLine ∧ compM g t el vs (itemsT kts) fr m = some r := by
  have h1 : mItI f fr m = some (.ok (itemsT kts, none), m) := by unfold mItI mBind; rw [q]
  by_cases hz : (itemsT kts).length ≤ sizeLine
  · have h2 : mSmall (mItI f) fr m = some (.ok (itemsT kts, none), m) := by unfold mSmall mBind; rw [h1]; simp only [hz, if_true]; rfl
    refine ⟨hz, ?_⟩
    unfold mComp mBind at h
    rw [h2] at h
    exact h
  · have h2 : mSmall (mItI f) fr m = none := by unfold mSmall mBind; rw [h1]; simp only [hz, if_false]; rfl
    unfold mComp mBind at h
    rw [h2] at h
    cases h
theorem compI_dT {fr : Fr} {m : Mem} {vs : List Nat} {u : U} (q : f fr m = some (.ok u, m)) (r : Except Xc C × Mem) (h : mComp (mSmall (mItI f)) g t el vs fr m = some r) : ∃ kts, u = .v (.dT kts) := by
  have h1 : ∀ z, mItI f fr m = some z → ∃ kts, u = .v (.dT kts) := fun z hz => by
    unfold mItI mBind at hz
    rw [q] at hz
    dsimp only at hz
    split at hz
    · exact ⟨_, rfl⟩
    · cases hz
  cases q1 : mItI f fr m with
  | some z => exact h1 z q1
  | none =>
    have h2 : mSmall (mItI f) fr m = none := by unfold mSmall mBind; rw [q1]
    unfold mComp mBind at h
    rw [h2] at h
    cases h
theorem e_compI {elts : List Expr} {kk : Nat} (vs : List Nat) (hx : PE X e tx) (sx : Simp X tx f) (hc : X.calm = true) (hN : X.N.Nodup) (ok : BlkOk X.N X.env.scope scope own)
    (hg : ∀ s H C cl fp, PG (Bk X scope s H C cl fp) (.Tuple elts kk tpos) (rdG X ss g)) (ht : ∀ s H C cl fp, PTs (Bk X scope s H C cl fp) ifs (rdT X W0 t)) (he : ∀ s H C cl fp, PE (Bk X scope s H C cl fp) elt (rdE X W0 el))
    (hv : own.map (·.2) = vs) (hss : ∀ i ∈ ss, i ∈ vs)
    (hbase : attributeBase e "items" X.env (eval e X.env) = eval e X.env := by rfl) (hline : (apos.endLine == cpos.line) = true := by rfl) (hs : ∀ x, foldedSetIterable (.Call (.Attribute e "items" apos) [] [] cpos) X.env x = pure x := by intro _; rfl) :
    PE X (.ListComp elt [⟨.Tuple elts kk tpos, .Call (.Attribute e "items" apos) [] [] cpos, ifs, 0⟩] scope pos) (rdN X W (mComp (mSmall (mItI f)) g t el vs)) := by
  subst hv
  have base := pe_lc (pos := pos) hc hN (pi_itemsT hx hbase hline) ok hg ht he hs
  have both : PE X (.ListComp elt [⟨.Tuple elts kk tpos, .Call (.Attribute e "items" apos) [] [] cpos, ifs, 0⟩] scope pos) (fun σ H Q => tLc (iItemsT tx) (rdG X ss g) (rdT X W0 t) (rdE X W0 el) (own.map (·.2)) σ H Q ∨ tLockE (tLc (iItemsT tx) (rdG X ss g) (rdT X W0 t) (rdE X W0 el) (own.map (·.2))) σ H Q) :=
    ⟨fun pins s σ H Q inv h => h.elim (base.run pins s σ H Q inv) ((pe_lock base).run pins s σ H Q inv)⟩
  refine PE.wk both fun σ H Q ⟨B, φ, m, fr, S, r, m', e1, h⟩ => ?_
  cases q : f fr m with
  | none =>
    exfalso
    have h1 : mSmall (mItI f) fr m = none := by unfold mSmall mItI mBind; rw [q]
    unfold mComp mBind at e1
    rw [h1] at e1
    cases e1
  | some p =>
    obtain ⟨r1, m1⟩ := p
    obtain ⟨rfl, u, v, rfl, ru, hk⟩ := sx B φ m fr σ H r1 m1 S q
    obtain ⟨kts, rfl⟩ := compI_dT q _ e1
    obtain ⟨hsz, e2⟩ := compI_eq q _ e1
    unfold compM at e2
    cases q2 : compL g t el (wipeT fr (own.map (·.2))) (itemsT kts) m1 with
    | none => rw [q2] at e2; cases e2
    | some p =>
      obtain ⟨ys, m2⟩ := p
      rw [q2] at e2; cases e2
      cases ru with
      | v rp' =>
        cases rp' with
        | @dT d kvs _ nl rd' kk' rr =>
          have nlv : ¬ Lv φ m1 d := fun z => nl (.inr z)
          rcases rd' with hd | ⟨od, hd⟩
          · right
            refine ⟨d, _, hd, trivial, fun od => hk _ _ (fun x o e nd => ?_) ⟨d, od, kvs, rfl, upd_same, fun D hD => ?_⟩⟩
            · rw [upd_ne (show x ≠ d from fun z => nd (by rw [z, hd] at e; cases e; exact trivial))]; exact e
            · have S1 := S.lockD (od := od) hd (u := .dT kvs) trivial nlv
              have it := ItOk.itemsT (c := cn X) (B := B) (φ := φ) (m := m1) (o := od) (kts := kts) upd_same nlv kk' (rr.mono (lockD_mono hd trivial _))
              have nD : D ≠ d := fun z => by rw [z, upd_same] at hD; cases hD
              have hD0 : H D = none := by rw [upd_ne nD] at hD; exact hD
              obtain ⟨W', h0, hW⟩ := comp_core S1 it hsz hss q2 D hD (Qd := fun v H' => H' d = some (.frz od (.dT kvs)) ∧ Q v (upd H' d (.dT kvs))) fun H' φ' n2 hcl => by
                obtain ⟨h1, n3⟩ := n2.unlockD hd trivial nlv
                refine ⟨h1, h _ φ' D hD0 n3 (hcl.mono pre0 (unlockD_mono h1 trivial _) fun o e => ?_)⟩
                rw [upd_ne nD]; exact e
              exact ⟨W', h0, hW⟩
          · left
            refine hk _ _ (fun _ _ e _ => e) ⟨d, od, kvs, rfl, hd, fun D hD => ?_⟩
            have it := ItOk.itemsT (c := cn X) (B := B) (φ := φ) (m := m1) (o := od) (kts := kts) hd nlv kk' rr
            obtain ⟨W', h0, hW⟩ := comp_core S it hsz hss q2 D hD (Qd := Q) fun H' φ' n2 hcl => h _ φ' D hD n2 hcl
            exact ⟨W', h0, hW⟩
end
end G

/-! G17: == and != by a class's own __eq__. -/
namespace G
open PySem PySem.Spec PyProof.Rows L2

section
variable {prog : Program} {w : World} {A : Around} {E : Value → Shared → Prop} {s : Shared} {K : PySem.W.Frag} {x C f : Addr} {ox : Obj} {od : Option Obj} {b tb : Value}
/-- object.__ne__ asks the own == and turns its answer round -/
theorem turned_round {Q : Fin → Shared → Prop} (room : A.units < cLine)
    (ask : wpAny (model prog w) A (callSpecialIfBound? (.ref x) "__eq__" [b]) (fun r s' => ∃ k, r = some (.bool k) ∧ Q (.done (.ret (.bool (!k)))) s') E s) : wpAny (model prog w) A (Builtin.«object.__ne__» ⟨[.ref x, b], []⟩) Q E s := by
  have tail : ∀ (k : Bool) (s' : Shared), Q (.done (.ret (.bool (!k)))) s' → wpAny (model prog w) A (do ret (.bool (!(← truthy (.bool k))))) Q E s' := fun k s' q => wpAny_bind (wpAny_truthy_bool (wpAny_pure q))
  show wpAny (model prog w) A (slotArgs "__ne__" 1 ⟨[.ref x, b], []⟩ >>= _) Q E s
  refine wpAny_bind (wpAny_pure ?_)
  refine wpAny_bind (wpAny_cRoomFor room (wpAny_bind (wpAny_mono ask (fun r s' h => ?_) fun _ _ e => e)))
  obtain ⟨k, rfl, q⟩ := h
  exact tail k s' q
/-- the right one has no say ahead of the left one -/
theorem left_first {α : Type} {M : Model} {next : Bool → Sem α} {Q : α → Shared → Prop} (X : K.In s.heap) (hn : PySem.W.notFirst K C tb = true) (q : wpAny M A (next false) Q E s) :
    wpAny M A (if (Value.ref C != tb) = true then isSubtype tb (.ref C) >>= next else pure false >>= next) Q E s := by
  by_cases same : tb = .ref C
  · rw [same, if_neg (by simp)]; exact wpAny_bind (wpAny_pure q)
  · have apart : PySem.W.subIn K tb (.ref C) = some false := by simpa [PySem.W.notFirst, same, Ne.symm same] using hn
    rw [if_pos (by simpa using Ne.symm same)]
    exact wpAny_bind ((PySem.W.looks_subIn X apart).here q)
/-- what a class without an own != answers to it: its == turned round -/
theorem not_by_own {Q : Value → Shared → Prop} (room : A.units + 1 < cLine) (X : K.In s.heap) (I : PySem.W.InstAt s.heap x ox C od) (other : PySem.W.Looks (model prog w) s.heap (typeOf b) tb) (left : PySem.W.notFirst K C tb = true)
    (hn : PySem.W.findIn K (.ref C) "__ne__" = some (some (.builtin "object.__ne__"))) (own : PySem.W.findIn K (.ref C) "__eq__" = some (some (.ref f))) (hf : PySem.W.isFn K (.ref f) = true) (obj : PySem.W.subIn K (.ref C) (.type "object") = some true)
    (ans : wpAny (model prog w) A.in1 (call (.ref f) [.ref x, b]) (fun v s' => ∃ k, v = .bool k ∧ Q (.bool (!k)) s') E s) : wpAny (model prog w) A (richCompare .NotEq (.ref x) b) Q E s := by
  have less : A.in1.units < cLine := by simpa [Around.in1] using room
  have asked : wpAny (model prog w) A (tryCompare (.ref x) "__ne__" b) (fun r s' => ∃ v, r = some v ∧ Q v s') E s := by
    refine wpAny_bind (NtL.csib (I.type.andThen (PySem.W.looks_findIn X hn)) (F.cmp_object.ne.bind _) (wpAny_call (codeAny_call_builtin F.cmp_object.ne.plain F.cmpEntry_ne ?_)))
    refine PySem.W.check_slot F.cmpKind_ne F.cmpSplit_ne (I.type.andThen (PySem.W.looks_subIn X obj)) (F.cmpArgs_ne _ _) (turned_round (A := A.in1) less (PySem.W.ifBound_K X I own hf (wpAny_mono ans (fun v s' q => ?_) fun _ _ e => e)))
    obtain ⟨k, rfl, q⟩ := q
    exact ⟨k, rfl, wpAny_pure ⟨_, rfl, q⟩⟩
  unfold richCompare
  simp only [oneThing_ref, cmpInfo_NotEq]
  refine wpAny_holding (wpAny_bind (wpAny_cRoomFor (Nat.lt_of_succ_lt room) (wpAny_bind (I.type.here (wpAny_bind (other.here (left_first X left ?_)))))))
  rw [if_neg (by simp)]
  refine wpAny_bind (wpAny_mono asked (fun r s' q => ?_) fun _ _ e => e)
  obtain ⟨v, rfl, q⟩ := q
  exact wpAny_pure q
end

/-- what a class with its own == gives -/
structure OwnEqK (K : PySem.W.Frag) (C f : Addr) : Prop where
  eq : PySem.W.findIn K (.ref C) "__eq__" = some (some (.ref f))
  ne : PySem.W.findIn K (.ref C) "__ne__" = some (some (.builtin "object.__ne__"))
  fn : PySem.W.isFn K (.ref f) = true
  ob : PySem.W.subIn K (.ref C) (.type "object") = some true

/-- the other one of a comparison: data, or of the same class -/
def otherOk (cl : Str) (m : Mem) (u : U) : Bool := match insOf m u with
  | some (k, _) => decide (k = cl)
  | none => match deref m u with
    | some t => noDT t && (tyName t).isSome
    | none => false
def noX : Res U → Res U
  | some (.ok u, m) => some (.ok u, m)
  | _ => none
def notX : Res U → Res U
  | some (.ok (.v (.bl k)), m) => some (.ok (.v (.bl (!k))), m)
  | _ => none
def ownAt (cl : Str) (F : Fn) (u w : U) (m : Mem) : Res U := match insOf m u with
  | some (k, _) => if k = cl ∧ otherOk cl m w = true then noX (callV 2 F [u, w] m) else none
  | none => none
def mOwnEq (cl : Str) (F : Fn) (a b : M U) : M U := mBind a fun u => mBind b fun w => fun _ m => ownAt cl F u w m
def mOwnNe (cl : Str) (F : Fn) (a b : M U) : M U := mBind a fun u => mBind b fun w => fun _ m => notX (ownAt cl F u w m)
section
variable {X : Cx} {W : WX} {a b : Expr} {f g : M U} {F : Fn} {k : Nat} {fa C : Addr} {fd : FuncData} {ps : List Str} {cl : Str} {pos : Pos}
theorem notFirst_ty {K : PySem.W.Frag} {C : Addr} {n : String} {t : T} (h : tyName t = some n) : PySem.W.notFirst K C (.type n) = true := by
  unfold PySem.W.notFirst
  rw [Bool.or_eq_true_iff]
  refine .inr ?_
  cases t <;> cases h <;> rfl
/-- the promise of the comparison -/
def rOwn (X : Cx) (C : Addr) (F : Fn) : V → V → Hp → VK → Prop := fun x y H Q => ∃ a dx fs ty, x = .ref a ∧ H a = some (.ins C dx fs) ∧ (ty = .ref C ∧ (∃ b dy gs, y = .ref b ∧ H b = some (.ins C dy gs)) ∨ TyX X.K H y ty ∧ PySem.W.notFirst X.K C ty = true) ∧ spF (cn X) 2 F [x, y] H Q (fun _ _ _ => False)
theorem own_looks {pins : List (Addr × Obj)} {s : Shared} {σ : L2.St} {H : Hp} {y : V} {u ty : Value} (I : Inv X pins σ H s) (ry : RelV y u) (h : ty = .ref C ∧ (∃ b dy gs, y = .ref b ∧ H b = some (.ins C dy gs)) ∨ TyX X.K H y ty ∧ PySem.W.notFirst X.K C ty = true) :
    PySem.W.Looks (model X.prog X.w) s.heap (typeOf u) ty ∧ PySem.W.notFirst X.K C ty = true := by
  rcases h with ⟨rfl, b, dy, gs, rfl, hb⟩ | ⟨h, hn⟩
  · cases ry
    obtain ⟨mB, J, _⟩ := ins_get I.hok hb
    obtain ⟨od, J, _⟩ := J.look
    exact ⟨J.type, by simp [PySem.W.notFirst]⟩
  · obtain ⟨P, kx, hp, _⟩ := kit_of I ry h
    exact ⟨kx.ty _ _ I.kIn hp, hn⟩
theorem op_ownEq (ok : OwnEqK X.K C fa) (FO : FnOk X.prog X.w X.K X.mg X.base (L2.CX X.prog X.w) k fa fd ps (spF (cn X) 2 F)) (hr : Room (k + 1) X.A) (hb : Binds X.K fd ps []) : OpR X (compareOp .Eq) (rOwn X C F) := by
  intro pins s σ H x y v u Q I rx ry h
  obtain ⟨a, dx, fs, ty, rfl, ha, hy, hs⟩ := h
  cases rx
  obtain ⟨hl, hn⟩ := own_looks I ry hy
  obtain ⟨mA, J, _⟩ := ins_get I.hok ha
  obtain ⟨od, J, _⟩ := J.look
  obtain ⟨m, hF⟩ := I.fr
  unfold compareOp
  refine PySem.W.cmp_K (op := .Eq) (tb := ty) hr.units0 hF I.ok.mod.kin J hl hn ok.eq ok.fn ?_
  refine wpAny_mono (run_fnSD (dvs := []) (E := WE fun _ _ _ _ => False) (us := [.ref a, u]) (vs := [.ref a, y]) FO (hr.mono (Nat.le_succ _)) hb .nil (passAt takes0 σ) I (.cons rfl (.cons ry .nil)) (by rw [List.append_nil]; exact hs)) (fun z s' hz => ?_) fun _ _ e => e
  obtain ⟨z', H', I', rz, hq⟩ := hz
  cases z with
  | notImplemented => cases z' <;> first | exact (nomatch rz) | (obtain ⟨_, q⟩ := rz; cases q)
  | _ => exact ⟨z', H', I', rz, hq⟩
theorem op_ownNe (ok : OwnEqK X.K C fa) (FO : FnOk X.prog X.w X.K X.mg X.base (L2.CX X.prog X.w) k fa fd ps (spF (cn X) 2 F)) (hr : Room (k + 1) X.A) (hb : Binds X.K fd ps []) : OpR X (compareOp .NotEq) (fun x y H Q => rOwn X C F x y H fun z H' => ∃ d, z = .bl d ∧ Q (.bl (!d)) H') := by
  intro pins s σ H x y v u Q I rx ry h
  obtain ⟨a, dx, fs, ty, rfl, ha, hy, hs⟩ := h
  cases rx
  obtain ⟨hl, hn⟩ := own_looks I ry hy
  obtain ⟨mA, J, _⟩ := ins_get I.hok ha
  obtain ⟨od, J, _⟩ := J.look
  unfold compareOp
  have e0 : Env0 X.prog X.w X.K X.mg X.base X.A.in1 X.stack s H := by
    have e := I.env0
    exact ⟨e.frames, e.mod, e.bs, e.bsz, e.funs, e.frf, e.hok, e.bare⟩
  have hl' := FO.len _ _ _ _ hs
  have r2 : Vals [V.ref a, y] [Value.ref a, u] := .cons rfl (.cons ry .nil)
  refine not_by_own (tb := ty) (by have := hr.units; omega) I.kIn J hl hn ok.ne ok.eq ok.fn ok.ob ?_
  refine wpAny_call (codeAny_mono (FO.run X.A.in1 X.stack s H ⟨[.ref a, u], []⟩ [.ref a, u] [.ref a, y] _ (fun _ _ _ => False) hr.in1 e0 (by
    have := hb s [.ref a, u] I.kIn (by simpa using hl')
    simpa using this) r2 hs) fun r s' hq => ?_)
  cases r with
  | error e => exact passAt (W := fun _ _ _ _ => False) takes0 σ pins H s e s' I hq
  | ok fl =>
    cases fl with
    | ret w =>
      obtain ⟨z, H', I', rz, d, ez, q⟩ := I.after hq
      subst ez
      cases rz
      exact ⟨d, rfl, .bl (!d), H', I', rfl, q⟩
    | next => exact False.elim hq
    | brk => exact False.elim hq
    | cont => exact False.elim hq
theorem ownAt_ok {c : Cn} {B : Addr → Prop} {H : Hp} {φ : List Addr} {m : Mem} {x y : V} {u w : U} {σ : L2.St} {Q : VK} (hX : cn X = c) (hC : X.mg cl = some (.ref C)) (M : MOk c B H φ m) (ru : Ru c H (LL B φ m) φ x u) (rw' : Ru c H (LL B φ m) φ y w)
    (h : rx rrU c W (ownAt cl F u w m) B H φ m σ Q) : rOwn X C F x y H Q := by
  subst hX
  obtain ⟨r, m', e, h⟩ := h
  unfold ownAt at e
  split at e
  · rename_i k fs hd
    split at e
    · rename_i hk
      obtain ⟨rfl, ho⟩ := hk
      obtain ⟨a, C', dx, fv, rfl, ea, gC, _⟩ := ru.insOf M hd
      have gC : X.mg k = some (.ref C') := gC
      rw [hC] at gC; cases gC
      have hs : spF (cn X) 2 F [.ref a, y] H Q (fun _ _ _ => False) := by
        unfold noX at e
        split at e
        · rename_i u' m1 q
          cases e
          exact spF.of (W := fun _ _ _ _ => False) (σ := σ) M (.cons ru (.cons rw' .nil)) (fun _ _ _ z => z) ⟨_, _, q, h⟩
        · cases e
      unfold otherOk at ho
      split at ho
      · rename_i k' gs hw
        have : k' = k := by simpa using ho
        subst this
        obtain ⟨b, C', dy, gv, rfl, eb, gC, _⟩ := rw'.insOf M hw
        have gC : X.mg k' = some (.ref C') := gC
        rw [hC] at gC; cases gC
        exact ⟨a, dx, fv, .ref C, rfl, ea, .inl ⟨rfl, b, dy, gv, rfl, eb⟩, hs⟩
      · split at ho
        · rename_i t ht
          obtain ⟨h1, h2⟩ := Bool.and_eq_true_iff.mp ho
          obtain ⟨n, hn⟩ := Option.isSome_iff_exists.mp h2
          exact ⟨a, dx, fv, .type n, rfl, ea, .inr ⟨(rw'.vw M ht).ty hn (noDT_ne h1), notFirst_ty hn⟩, hs⟩
        · cases ho
    · cases e
  · cases e
theorem rd.ownEq {σ : L2.St} {H : Hp} {Q : VK} (hC : X.mg cl = some (.ref C)) (h : rdE X W (mOwnEq cl F f g) σ H Q) : rdE X W f σ H fun x H1 => rdE X W g σ H1 fun y H2 => rOwn X C F x y H2 Q := by
  obtain ⟨B, φ, m, fr, S, h0⟩ := h
  refine ⟨B, φ, m, fr, S, (h0.bind (R := rrU)).mono fun x H1 ⟨φ1, m1, u1, n1, ru1, h1⟩ => ⟨B, φ1, m1, fr, S.nxt n1, (h1.bind (R := rrU)).mono fun y H2 ⟨φ2, m2, u2, n2, ru2, h2⟩ => ?_⟩⟩
  exact ownAt_ok (W := W) (σ := σ) rfl hC n2.ok (ru1.nxt n2) ru2 h2
theorem rd.ownNe {σ : L2.St} {H : Hp} {Q : VK} (hC : X.mg cl = some (.ref C)) (h : rdE X W (mOwnNe cl F f g) σ H Q) : rdE X W f σ H fun x H1 => rdE X W g σ H1 fun y H2 => rOwn X C F x y H2 fun z H' => ∃ d, z = .bl d ∧ Q (.bl (!d)) H' := by
  obtain ⟨B, φ, m, fr, S, h0⟩ := h
  refine ⟨B, φ, m, fr, S, (h0.bind (R := rrU)).mono fun x H1 ⟨φ1, m1, u1, n1, ru1, h1⟩ => ⟨B, φ1, m1, fr, S.nxt n1, (h1.bind (R := rrU)).mono fun y H2 ⟨φ2, m2, u2, n2, ru2, h2⟩ => ?_⟩⟩
  refine ownAt_ok (W := W) (σ := σ) rfl hC n2.ok (ru1.nxt n2) ru2 ?_
  obtain ⟨r, m', e, h⟩ := h2
  unfold notX at e
  split at e
  · rename_i d m3 q
    cases e
    exact ⟨_, _, q, fun H' φ' nx v rv => by cases rv with | v rv => cases rv; exact ⟨d, rfl, h H' φ' nx _ (.v (.bl _))⟩⟩
  · cases e
theorem e_ownEq (_ : Takes X W) (ok : OwnEqK X.K C fa) (hC : X.mg cl = some (.ref C)) (FO : FnOk X.prog X.w X.K X.mg X.base (L2.CX X.prog X.w) k fa fd ps (spF (cn X) 2 F)) (hr : Room (k + 1) X.A) (hb : Binds X.K fd ps []) (h1 : PE X a (rdE X W f)) (h2 : PE X b (rdE X W g)) :
    PE X (.Compare a [.Eq] [b] pos) (rdE X W (mOwnEq cl F f g)) := PE.wk (pe_cmpR (op_ownEq ok FO hr hb) h1 h2 (nomark b)) fun _ _ _ h => rd.ownEq hC h
theorem t_ownEq (_ : Takes X W) (ok : OwnEqK X.K C fa) (hC : X.mg cl = some (.ref C)) (FO : FnOk X.prog X.w X.K X.mg X.base (L2.CX X.prog X.w) k fa fd ps (spF (cn X) 2 F)) (hr : Room (k + 1) X.A) (hb : Binds X.K fd ps []) (h1 : PE X a (rdE X W f)) (h2 : PE X b (rdE X W g)) :
    PT X (.Compare a [.Eq] [b] pos) (rdT X W (mTst (mOwnEq cl F f g))) := PT.wk (pt_cmpR (op_ownEq ok FO hr hb) h1 h2 (nomark b)) fun _ _ _ h => rd.ownEq hC (rd.tst h)
theorem e_ownNe (_ : Takes X W) (ok : OwnEqK X.K C fa) (hC : X.mg cl = some (.ref C)) (FO : FnOk X.prog X.w X.K X.mg X.base (L2.CX X.prog X.w) k fa fd ps (spF (cn X) 2 F)) (hr : Room (k + 1) X.A) (hb : Binds X.K fd ps []) (h1 : PE X a (rdE X W f)) (h2 : PE X b (rdE X W g)) :
    PE X (.Compare a [.NotEq] [b] pos) (rdE X W (mOwnNe cl F f g)) := PE.wk (pe_cmpR (op_ownNe ok FO hr hb) h1 h2 (nomark b)) fun _ _ _ h => rd.ownNe hC h
theorem t_ownNe (_ : Takes X W) (ok : OwnEqK X.K C fa) (hC : X.mg cl = some (.ref C)) (FO : FnOk X.prog X.w X.K X.mg X.base (L2.CX X.prog X.w) k fa fd ps (spF (cn X) 2 F)) (hr : Room (k + 1) X.A) (hb : Binds X.K fd ps []) (h1 : PE X a (rdE X W f)) (h2 : PE X b (rdE X W g)) :
    PT X (.Compare a [.NotEq] [b] pos) (rdT X W (mTst (mOwnNe cl F f g))) := PT.wk (pt_cmpR (op_ownNe ok FO hr hb) h1 h2 (nomark b)) fun _ _ _ h => rd.ownNe hC (rd.tst h)
end
end G

/-! G18: sorted(..). -/
namespace G
open PySem PySem.Spec PyProof.Rows L2

/-! ### linear orders -/
structure Lin {α : Type} (lt : α → α → Bool) : Prop where
  irr : ∀ x, lt x x = false
  tr : ∀ x y z, lt x y = true → lt y z = true → lt x z = true
  tri : ∀ x y, lt x y = false → lt y x = false → x = y
section
variable {α : Type} {lt : α → α → Bool}
theorem Lin.asym (O : Lin lt) {x y : α} (h : lt x y = true) : lt y x = false := by
  cases q : lt y x with
  | false => rfl
  | true => have := O.tr _ _ _ h q; rw [O.irr] at this; cases this
theorem Lin.swo {β : Type} (O : Lin lt) (k : β → α) : SrtO.Swo fun v u => lt (k v) (k u) where
  asym x y h := O.asym h
  tr x y z h1 h2 := by
    cases q : lt (k z) (k x) with
    | false => rfl
    | true =>
      cases q1 : lt (k x) (k y) with
      | true => have := O.tr _ _ _ q q1; rw [h2] at this; cases this
      | false => have := O.tri _ _ q1 h1; rw [this] at q; rw [h2] at q; cases q
def lexB (lt : α → α → Bool) : List α → List α → Bool
  | [], [] => false
  | [], _ :: _ => true
  | _ :: _, [] => false
  | x :: xs, y :: ys => lt x y || (!lt y x && lexB lt xs ys)
theorem lexB_irr (O : Lin lt) : ∀ x, lexB lt x x = false
  | [] => rfl
  | x :: xs => by simp [lexB, O.irr, lexB_irr O xs]
theorem lexB_tri (O : Lin lt) : ∀ x y, lexB lt x y = false → lexB lt y x = false → x = y
  | [], [], _, _ => rfl
  | [], _ :: _, h, _ => by cases h
  | _ :: _, [], _, h => by cases h
  | x :: xs, y :: ys, h1, h2 => by
    unfold lexB at h1 h2
    cases q1 : lt x y with
    | true => rw [q1] at h1; cases h1
    | false =>
      cases q2 : lt y x with
      | true => rw [q2] at h2; cases h2
      | false =>
        rw [q1, q2] at h1 h2
        simp only [Bool.not_false, Bool.true_and, Bool.false_or] at h1 h2
        rw [O.tri _ _ q1 q2, lexB_tri O xs ys h1 h2]
theorem lexB_tr (O : Lin lt) : ∀ x y z, lexB lt x y = true → lexB lt y z = true → lexB lt x z = true
  | [], [], _, h, _ => by cases h
  | [], _ :: _, [], _, h => by cases h
  | [], _ :: _, _ :: _, _, _ => rfl
  | _ :: _, [], _, h, _ => by cases h
  | _ :: _, _ :: _, [], _, h => by cases h
  | x :: xs, y :: ys, z :: zs, h1, h2 => by
    unfold lexB at h1 h2 ⊢
    simp only [Bool.or_eq_true, Bool.and_eq_true, Bool.not_eq_true'] at h1 h2 ⊢
    rcases h1 with h1 | ⟨h1, k1⟩
    · rcases h2 with h2 | ⟨h2, k2⟩
      · exact .inl (O.tr _ _ _ h1 h2)
      · cases q : lt y z with
        | true => exact .inl (O.tr _ _ _ h1 q)
        | false => rw [← O.tri _ _ q h2]; exact .inl h1
    · cases q1 : lt x y with
      | true =>
        rcases h2 with h2 | ⟨h2, k2⟩
        · exact .inl (O.tr _ _ _ q1 h2)
        · cases q : lt y z with
          | true => exact .inl (O.tr _ _ _ q1 q)
          | false => rw [← O.tri _ _ q h2]; exact .inl q1
      | false =>
        obtain rfl := O.tri _ _ q1 h1
        rcases h2 with h2 | ⟨h2, k2⟩
        · exact .inl h2
        · exact .inr ⟨h2, lexB_tr O xs ys zs k1 k2⟩
theorem Lin.lex (O : Lin lt) : Lin (lexB lt) := ⟨lexB_irr O, lexB_tr O, lexB_tri O⟩
theorem lin_nat : Lin fun (a b : Nat) => decide (a < b) := ⟨fun x => by simp, fun x y z h1 h2 => by simp at *; omega, fun x y h1 h2 => by simp at *; omega⟩
theorem lin_int : Lin fun (a b : Int) => decide (a < b) := ⟨fun x => by simp, fun x y z h1 h2 => by simp at *; omega, fun x y h1 h2 => by simp at *; omega⟩
theorem lexB_nat : ∀ (x y : List Nat), decide (x < y) = lexB (fun a b => decide (a < b)) x y
  | [], [] => by simp [lexB]
  | [], _ :: _ => by simp [lexB]
  | _ :: _, [] => by simp [lexB]
  | x :: xs, y :: ys => by
    rw [lexB, ← lexB_nat xs ys, Bool.eq_iff_iff]
    simp only [List.cons_lt_cons_iff, decide_eq_true_eq, Bool.or_eq_true, Bool.and_eq_true, Bool.not_eq_true', decide_eq_false_iff_not]
    constructor
    · rintro (h | ⟨rfl, h⟩)
      · exact .inl h
      · exact .inr ⟨Nat.lt_irrefl _, h⟩
    · rintro (h | ⟨h, k⟩)
      · exact .inl h
      · rcases Nat.lt_or_ge x y with h' | h'
        · exact .inl h'
        · exact .inr ⟨by omega, k⟩
def ltS (a b : Str) : Bool := decide (a.cps.toList < b.cps.toList)
theorem lin_str : Lin ltS := by
  have e : ∀ a b : Str, ltS a b = lexB (fun (a b : Nat) => decide (a < b)) a.cps.toList b.cps.toList := fun a b => lexB_nat _ _
  refine ⟨fun x => by rw [e]; exact lin_nat.lex.irr _, fun x y z h1 h2 => by rw [e] at *; exact lin_nat.lex.tr _ _ _ h1 h2, fun x y h1 h2 => ?_⟩
  rw [e] at h1 h2
  have := lin_nat.lex.tri _ _ h1 h2
  cases x; cases y
  simp only at this
  rw [Array.toList_inj.mp this]
end

/-! ### keys -/
inductive At where
  | i (n : Int)
  | s (x : Str)
  deriving DecidableEq
def At.isI : At → Bool
  | .i _ => true
  | .s _ => false
def ltA : At → At → Bool
  | .i a, .i b => decide (a < b)
  | .s a, .s b => ltS a b
  | .i _, .s _ => true
  | .s _, .i _ => false
theorem lin_at : Lin ltA := by
  refine ⟨fun x => ?_, fun x y z h1 h2 => ?_, fun x y h1 h2 => ?_⟩
  · cases x
    · exact lin_int.irr _
    · exact lin_str.irr _
  · cases x <;> cases y <;> cases z <;> first | exact lin_int.tr _ _ _ h1 h2 | exact lin_str.tr _ _ _ h1 h2 | rfl | (exfalso; revert h1 h2; simp [ltA])
  · cases x <;> cases y <;> first | (cases h1; done) | (cases h2; done) | exact congrArg _ (lin_int.tri _ _ h1 h2) | exact congrArg _ (lin_str.tri _ _ h1 h2)
def atOf : T → Option At
  | .int n => some (.i n)
  | .str x => some (.s x)
  | _ => none
def atsOf : List T → Option (List At)
  | [] => some []
  | t :: ts => match atOf t, atsOf ts with
    | some a, some as => some (a :: as)
    | _, _ => none
/-- a tree's key: of a whole number, a text, a flat tuple -/
def keyF : T → List At
  | .int n => [.i n]
  | .str x => [.s x]
  | .tup ts => (atsOf ts).getD []
  | _ => []
def ltK (a b : T) : Bool := lexB ltA (keyF a) (keyF b)
def insK (x : T) : List T → List T
  | [] => [x]
  | y :: ys => if ltK y x then y :: insK x ys else x :: y :: ys
def srtK : List T → List T
  | [] => []
  | x :: xs => insK x (srtK xs)
theorem insK_perm (x : T) : ∀ l, (insK x l).Perm (x :: l)
  | [] => .refl _
  | y :: ys => by
    unfold insK
    split
    · exact ((insK_perm x ys).cons y).trans (.swap x y ys)
    · exact .refl _
theorem srtK_perm : ∀ l, (srtK l).Perm l
  | [] => .refl _
  | x :: xs => (insK_perm x _).trans ((srtK_perm xs).cons x)
abbrev Srt (l : List T) : Prop := l.Pairwise fun x y => ltK y x = false
theorem swoK : SrtO.Swo ltK := lin_at.lex.swo keyF
theorem insK_srt (x : T) : ∀ l, Srt l → Srt (insK x l)
  | [], _ => List.pairwise_singleton _ _
  | y :: ys, h => by
    obtain ⟨h1, h2⟩ := List.pairwise_cons.mp h
    unfold insK
    split
    · rename_i q
      refine List.pairwise_cons.mpr ⟨fun z hz => ?_, insK_srt x ys h2⟩
      rcases List.mem_cons.mp ((insK_perm x ys).mem_iff.mp hz) with rfl | hz
      · exact swoK.asym _ _ q
      · exact h1 z hz
    · rename_i q
      have q : ltK y x = false := by simpa using q
      refine List.pairwise_cons.mpr ⟨fun z hz => ?_, h⟩
      rcases List.mem_cons.mp hz with rfl | hz
      · exact q
      · exact swoK.tr _ _ _ q (h1 z hz)
theorem srtK_srt : ∀ l, Srt (srtK l)
  | [] => List.Pairwise.nil
  | x :: xs => insK_srt x _ (srtK_srt xs)
/-- sorted by keys that tell all apart: only one way -/
theorem srt_unique : ∀ {l m : List T}, (∀ x ∈ l, ∀ y ∈ l, keyF x = keyF y → x = y) → l.Perm m → Srt l → Srt m → l = m
  | [], m, _, p, _, _ => (List.nil_perm.mp p).symm
  | x :: l, m, inj, p, h1, h2 => by
    match m, p, h2 with
    | [], p, _ => exact absurd p.length_eq (by simp)
    | y :: m, p, h2 =>
      obtain ⟨a1, a2⟩ := List.pairwise_cons.mp h1
      obtain ⟨b1, b2⟩ := List.pairwise_cons.mp h2
      have hy : y ∈ x :: l := p.mem_iff.mpr List.mem_cons_self
      have hx : x ∈ y :: m := p.mem_iff.mp List.mem_cons_self
      have exy : x = y := by
        rcases List.mem_cons.mp hy with e | hy'
        · exact e.symm
        · rcases List.mem_cons.mp hx with e | hx'
          · exact e
          · exact inj x List.mem_cons_self y hy (lin_at.lex.tri _ _ (b1 x hx') (a1 y hy'))
      subst exy
      rw [srt_unique (fun a ha b hb => inj a (List.mem_cons_of_mem _ ha) b (List.mem_cons_of_mem _ hb)) (List.perm_cons x |>.mp p) a2 b2]
theorem srtK_of {l m : List T} (inj : ∀ x ∈ l, ∀ y ∈ l, keyF x = keyF y → x = y) (p : l.Perm m) (h : Srt l) : l = srtK m := srt_unique inj (p.trans (srtK_perm m).symm) h (srtK_srt m)
end G

set_option maxHeartbeats 1000000
/-! G19: sorted(..) of flat tuples, of ints, of texts. -/
namespace G
open PySem PySem.Spec PyProof.Rows L2

def atV : Value → Option At
  | .int n _ => some (.i n)
  | .str x _ => some (.s x)
  | _ => none
def AtsAre (us : List Value) (as : List At) : Prop := us.map atV = as.map some
def IsFl (h : Heap) (v : Value) (as : List At) : Prop := ∃ (a : Addr) (o : Obj) (us : List Value) (n : Nat), v = .ref a ∧ h.get? a = some o ∧ o.cls = .type "tuple" ∧ o.data = .seq us.toArray n ∧ AtsAre us as
theorem IsFl.keeps {h h' : Heap} {v : Value} {as : List At} (x : IsFl h v as) (k : ∀ b o, h.get? b = some o → o.cls = .type "tuple" → h'.get? b = some o) : IsFl h' v as := by
  obtain ⟨a, o, us, n, e, ho, hc, hd, r⟩ := x
  exact ⟨a, o, us, n, e, k a o ho hc, hc, hd, r⟩
/-- the key of a value -/
def kyV (h : Heap) : Value → List At
  | .ref a => match h.get? a with
    | some o => match o.data with
      | .seq us _ => us.toList.filterMap atV
      | _ => []
    | none => []
  | _ => []
theorem AtsAre.filt : ∀ {us : List Value} {as : List At}, AtsAre us as → us.filterMap atV = as
  | [], [], _ => rfl
  | [], _ :: _, h => by simp [AtsAre] at h
  | _ :: _, [], h => by simp [AtsAre] at h
  | u :: us, a :: as, h => by
    unfold AtsAre at h
    simp only [List.map_cons, List.cons.injEq] at h
    rw [List.filterMap_cons_some h.1, AtsAre.filt h.2]
theorem IsFl.ky {h : Heap} {v : Value} {as : List At} (x : IsFl h v as) : kyV h v = as := by
  obtain ⟨a, o, us, n, rfl, ho, hc, hd, r⟩ := x
  unfold kyV
  simp only [ho, hd]
  exact r.filt

section
variable {prog : Program} {w : World} {A : Around} {E : Value → Shared → Prop} {s : Shared}
theorem oneLt_strs (c : Bool) {p q : Str} {t u : Tok} {Q : Bool → Shared → Prop} (h : Q (ltS p q) s) : wpAny (model prog w) A (oneLt' c (.str p t) (.str q u)) Q E s := by
  cases c with
  | true => exact oneLt_str h
  | false => exact PySem.W.kat_one _ _ (PyProof.Rows.lt_str (Q := PySem.W.BoolBack Q) h)
/-- alike as far as both go -/
def cpB : List Bool → List Bool → Bool
  | [], _ => true
  | _, [] => true
  | a :: as, b :: bs => (a == b) && cpB as bs
theorem cpB_refl : ∀ l : List Bool, cpB l l = true
  | [] => rfl
  | a :: l => by simp [cpB, cpB_refl l]
theorem cpB_ints : ∀ l m : List Bool, l.all id = true → m.all id = true → cpB l m = true
  | [], _, _, _ => by unfold cpB; rfl
  | _ :: _, [], _, _ => by unfold cpB; rfl
  | a :: l, b :: m, h1, h2 => by
    simp only [List.all_cons, Bool.and_eq_true, id] at h1 h2
    simp [cpB, h1.1, h2.1, cpB_ints l m h1.2 h2.2]
theorem lex_at {b z : Bool} {Q : Bool → Shared → Prop} : ∀ {xs ys : List Value} {ns ms : List At} (i : Nat), AtsAre xs ns → AtsAre ys ms → cpB (ns.map At.isI) (ms.map At.isI) = true → z = decide (ns.length < ms.length) → Q (lexB ltA ns ms) s → PySem.W.KatLex prog w A b z Q (xs.zip ys) i s
  | [], _, [], [], i, _, _, _, hz, h => by subst hz; exact PySem.W.kat_nil h
  | [], _, [], _ :: _, i, _, _, _, hz, h => by subst hz; exact PySem.W.kat_nil (by simpa [lexB] using h)
  | [], _, _ :: _, _, i, hx, _, _, _, _ => by simp [AtsAre] at hx
  | _ :: _, _, [], _, i, hx, _, _, _, _ => by simp [AtsAre] at hx
  | _ :: _, [], _ :: _, [], i, _, _, _, hz, h => by subst hz; exact PySem.W.kat_nil (by simpa [lexB] using h)
  | _ :: _, _ :: _, _ :: _, [], i, _, hy, _, _, _ => by simp [AtsAre] at hy
  | _ :: _, [], _ :: _, _ :: _, i, _, hy, _, _, _ => by simp [AtsAre] at hy
  | x :: xs, y :: ys, n :: ns, m :: ms, i, hx, hy, e, hz, h => by
    unfold AtsAre at hx hy
    simp only [List.map_cons, List.cons.injEq] at hx hy
    obtain ⟨hx, hxs⟩ := hx
    obtain ⟨hy, hys⟩ := hy
    simp only [List.map_cons, cpB, Bool.and_eq_true, beq_iff_eq] at e
    obtain ⟨e, es⟩ := e
    have ih := lex_at (b := b) (z := z) (Q := Q) (i + 1) hxs hys es (by rw [hz]; simp)
    rw [List.zip_cons_cons]
    match x, y, n, m, hx, hy, e, h with
    | .int p t, .int q u, _, _, rfl, rfl, _, h =>
      refine PySem.W.kat_cons (SeqAt.EqAt.int_int p t q u prog w _ _ (PySem.W.kat_go (fun e1 => PySem.W.kat_yes (ih ?_)) fun e1 => PySem.W.kat_no (TS.oneLt_ints _ ?_)))
      · have e2 : p = q := by simpa using e1
        subst e2
        simpa [lexB, ltA] using h
      · have e2 : ¬ p = q := by simpa using e1
        have h3 : lexB ltA (.i p :: ns) (.i q :: ms) = decide (p < q) := by
          unfold lexB
          rcases Int.lt_or_gt_of_ne e2 with h' | h'
          · simp [ltA, h']
          · have h2 : ¬ p < q := by omega
            simp [ltA, h', h2]
        rw [h3] at h
        exact h
    | .str p t, .str q u, _, _, rfl, rfl, _, h =>
      refine PySem.W.kat_cons (SeqAt.EqAt.str_str p t q u prog w _ _ (PySem.W.kat_go (fun e1 => PySem.W.kat_yes (ih ?_)) fun e1 => PySem.W.kat_no (oneLt_strs _ ?_)))
      · have e2 : p = q := by simpa using e1
        subst e2
        simpa [lexB, ltA, lin_str.irr] using h
      · have e2 : ¬ p = q := by simpa using e1
        have h3 : lexB ltA (.s p :: ns) (.s q :: ms) = ltS p q := by
          unfold lexB
          cases q1 : ltS p q with
          | true => simp [ltA, q1]
          | false =>
            cases q2 : ltS q p with
            | true => simp [ltA, q1, q2]
            | false => exact absurd (lin_str.tri _ _ q1 q2) e2
        rw [h3] at h
        exact h
theorem fl_cmp {vs : List Value} {k : Value → List At} (hp : ∀ v ∈ vs, IsFl s.heap v (k v)) (hs : ∀ v ∈ vs, ∀ u ∈ vs, cpB ((k v).map At.isI) ((k u).map At.isI) = true) : SrtO.Cmp prog w A s (tuples' true) (fun p => p.1 ∈ vs) (SrtO.lt2 fun v u => lexB ltA (k v) (k u)) := by
  intro p q hm hm'
  obtain ⟨a, o, us, n, e, ho, hc, hd, r⟩ := hp _ hm
  obtain ⟨a', o', us', n', e', ho', hc', hd', r'⟩ := hp _ hm'
  have hsh := hs _ hm _ hm'
  show wpAny (model prog w) A (keyLt' (tuples' true) p.1 q.1) (fun z s' => s' = s ∧ z = lexB ltA (k p.1) (k q.1)) (fun _ _ => False) s
  generalize k p.1 = ns at *
  generalize k q.1 = ms at *
  rw [e, e']
  refine PySem.W.kat_lt ho hd ho' hd' ?_
  refine lex_at 0 r r' hsh ?_ ⟨rfl, rfl⟩
  have h1 := congrArg List.length r
  have h2 := congrArg List.length r'
  simp at h1 h2
  simp [h1, h2]
theorem fl_firsts {h : Heap} {c : Bool} : ∀ {vs : List Value}, (∀ v ∈ vs, ∃ as, IsFl h v as ∧ as.head?.map At.isI = some c) → ∃ fs : List Value, PySem.W.KatTups h vs fs ∧ fs.length = vs.length ∧ ∀ f ∈ fs, ∃ x, atV f = some x ∧ x.isI = c
  | [], _ => ⟨[], PySem.W.KatTups.nil, rfl, fun _ hm => by simp at hm⟩
  | v :: vs, hp => by
    obtain ⟨fs, h1, h2, h3⟩ := fl_firsts (vs := vs) fun v' hm => hp v' (List.mem_cons_of_mem _ hm)
    obtain ⟨as, ⟨a, o, us, n, e, ho, hc, hd, r⟩, hh⟩ := hp v List.mem_cons_self
    subst e
    match us, as, r, hh with
    | [], [], r, hh => simp at hh
    | [], _ :: _, r, _ => simp [AtsAre] at r
    | _ :: _, [], r, _ => simp [AtsAre] at r
    | u :: us, x :: as, r, hh =>
      unfold AtsAre at r
      simp only [List.map_cons, List.cons.injEq] at r
      refine ⟨u :: fs, PySem.W.KatTups.cons ho hc hd (by simp) h1, by rw [List.length_cons, List.length_cons, h2], fun f hm => ?_⟩
      rcases List.mem_cons.mp hm with rfl | hm
      · exact ⟨x, r.1, by simpa using hh⟩
      · exact h3 f hm
/-- the type of an atom's value -/
def tyA (c : Bool) : Value := .type (if c then "int" else "str")
theorem tyA_ne (c : Bool) : (tyA c != Value.type "tuple") = true := by cases c <;> rfl
theorem atV_looks {M : Model} {h : Heap} : ∀ {f : Value} {x : At}, atV f = some x → PySem.W.Looks M h (typeOf f) (tyA x.isI)
  | .int _ _, _, rfl => .now
  | .str _ _, _, rfl => .now
theorem fl_sortable {a : Addr} {vs : List Value} {k : Value → List At} {c : Bool} (h0 : 0 < vs.length) (hp : ∀ v ∈ vs, IsFl s.heap v (k v)) (hs : ∀ v ∈ vs, ∀ u ∈ vs, cpB ((k v).map At.isI) ((k u).map At.isI) = true) (hc : ∀ v ∈ vs, (k v).head?.map At.isI = some c)
    (ha : ∀ o, s.heap.get? a = some o → o.cls ≠ .type "tuple") : SrtO.SortableO prog w A s a vs fun v u => lexB ltA (k v) (k u) := fun h' keep => by
  have there : ∀ v ∈ vs, IsFl h' v (k v) := fun v mem => by
    refine (hp v mem).keeps fun b o at' tup => keep b o ?_ at'
    rintro rfl
    exact ha o at' tup
  obtain ⟨fs, tups, len, atoms⟩ := fl_firsts (c := c) fun v mem => ⟨k v, there v mem, hc v mem⟩
  have kinds : ∀ f ∈ fs, PySem.W.Looks (model prog w) h' (typeOf f) (tyA c) := fun f mem => by
    obtain ⟨x, e, rfl⟩ := atoms f mem
    exact atV_looks e
  refine ⟨tuples' true, fun Q E q => PySem.W.kat_kind (T := tyA c) tups (by omega) kinds (by cases c <;> rfl) ?_, fl_cmp there hs⟩
  rw [tyA_ne]; exact q
theorem sorted_fl {l : Addr} {vs : List Value} {c : Bool} {k : Value → List At} {Q : Value → Shared → Prop} (hl : s.heap.IsList l vs.toArray) (hz : vs.length ≤ sizeLine) (hp : ∀ v ∈ vs, IsFl s.heap v (k v)) (hs : ∀ v ∈ vs, ∀ u ∈ vs, cpB ((k v).map At.isI) ((k u).map At.isI) = true) (hc : ∀ v ∈ vs, (k v).head?.map At.isI = some c)
    (h : ∀ (h' : Heap) (d : Addr) (out : List Value), SrtO.Srtd (fun v u => lexB ltA (k v) (k u)) out → out.Perm vs → (∀ b o, s.heap.get? b = some o → h'.get? b = some o) → s.heap.objs.size ≤ d → (∃ n, h'.get? d = some (seqObj "list" out.toArray n)) → Q (.ref d) { s with heap := h' }) :
    wpAny (model prog w) A (call (.builtin "sorted") [.ref l]) Q E s := by
  have ready : ∀ (h1 : Heap) (a : Addr), 0 < vs.length → h1.get? a = some (seqObj "list" vs.toArray 0) → (∀ b o, s.heap.get? b = some o → h1.get? b = some o) → SrtO.SortableO prog w A.in1.in1 { s with heap := h1 } a vs fun v u => lexB ltA (k v) (k u) := fun h1 a some_ new old =>
    fl_sortable (A := A.in1.in1) (s := { s with heap := h1 }) some_ (fun v mem => (hp v mem).keeps fun b o at' _ => old b o at') hs hc fun o at' => by
      obtain rfl := Option.some.inj (new.symm.trans at')
      exact fun z => by simp [seqObj] at z
  exact SrtO.sorted_ord (lin_at.lex.swo k) hl hz (fun two h1 a new old => ready h1 a (by omega) new fun b o at' => (old b o at').2) fun out ord pm => h _ _ out ord pm.perm (fun _ _ => PyProof.Rows.sortedAll_old) (Nat.le_succ _) (PyProof.Rows.sortedAll_at s.heap vs out.toArray)
end

/-! ### the trees -/
def allI : List T → Option (List Int)
  | [] => some []
  | .int n :: ts => match allI ts with
    | some ns => some (n :: ns)
    | none => none
  | _ => none
def allS : List T → Option (List Str)
  | [] => some []
  | .str n :: ts => match allS ts with
    | some ns => some (n :: ns)
    | none => none
  | _ => none
/-- flat tuples of one shape -/
def flShape : T → Option (List Bool)
  | .tup ts => match atsOf ts with
    | some (a :: as) => some ((a :: as).map At.isI)
    | _ => none
  | _ => none
def flSame (sh : List Bool) : List T → Bool
  | [] => true
  | t :: ts => decide (flShape t = some sh) && flSame sh ts
/-- a tuple of ints, one at least -/
def isIT (t : T) : Bool := match flShape t with
  | some sh => sh.all id
  | none => false
def sortT (ts : List T) : Option (List T) :=
  if (allI ts).isSome then some (srtK ts)
  else if (allS ts).isSome && decide (ts.length < 64) then some (srtK ts)
  else match ts with
    | t :: _ => match flShape t with
      | some sh => if flSame sh ts || ts.all isIT then some (srtK ts) else none
      | none => none
    | [] => none
theorem Rps.perm {c : Cn} {H : Hp} {L : Addr → Prop} {vs ys : List V} {ts : List T} (p : ys.Perm vs) (r : Rps c H L vs ts) : ∃ ts', Rps c H L ys ts' ∧ ts'.Perm ts := by
  induction p generalizing ts with
  | nil => cases r; exact ⟨[], .nil, .refl _⟩
  | cons x p ih =>
    cases r with
    | cons r rs =>
      obtain ⟨ts', r', p'⟩ := ih rs
      exact ⟨_ :: ts', .cons r r', p'.cons _⟩
  | swap x y l =>
    cases r with
    | cons r rs =>
      cases rs with
      | cons r2 rs => exact ⟨_ :: _ :: _, .cons r2 (.cons r rs), .swap ..⟩
  | trans p1 p2 ih1 ih2 =>
    obtain ⟨t2, r2, q2⟩ := ih2 r
    obtain ⟨t1, r1, q1⟩ := ih1 r2
    exact ⟨t1, r1, q1.trans q2⟩

theorem allI_rel {c : Cn} {H : Hp} {L : Addr → Prop} : ∀ {vs : List V} {ts : List T} {ns : List Int}, Rps c H L vs ts → allI ts = some ns → vs = ns.map V.int ∧ ts = ns.map T.int
  | _, _, _, .nil, e => by cases e; exact ⟨rfl, rfl⟩
  | _, .int n :: ts, _, .cons r rs, e => by
    unfold allI at e
    cases q : allI ts with
    | none => rw [q] at e; cases e
    | some ns =>
      rw [q] at e; cases e
      cases r
      obtain ⟨h1, h2⟩ := allI_rel rs q
      exact ⟨by rw [h1]; rfl, by rw [h2]; rfl⟩
  | _, .non :: _, _, .cons _ _, e => by cases e
  | _, .bl _ :: _, _, .cons _ _, e => by cases e
  | _, .str _ :: _, _, .cons _ _, e => by cases e
  | _, .tup _ :: _, _, .cons _ _, e => by cases e
  | _, .lst _ :: _, _, .cons _ _, e => by cases e
  | _, .rol _ :: _, _, .cons _ _, e => by cases e
  | _, .rot _ :: _, _, .cons _ _, e => by cases e
  | _, .dK _ :: _, _, .cons _ _, e => by cases e
  | _, .dT _ :: _, _, .cons _ _, e => by cases e
  | _, .ins _ _ :: _, _, .cons _ _, e => by cases e
  | _, .exc _ _ :: _, _, .cons _ _, e => by cases e
theorem allS_rel {c : Cn} {H : Hp} {L : Addr → Prop} : ∀ {vs : List V} {ts : List T} {ns : List Str}, Rps c H L vs ts → allS ts = some ns → vs = ns.map V.str ∧ ts = ns.map T.str
  | _, _, _, .nil, e => by cases e; exact ⟨rfl, rfl⟩
  | _, .str n :: ts, _, .cons r rs, e => by
    unfold allS at e
    cases q : allS ts with
    | none => rw [q] at e; cases e
    | some ns =>
      rw [q] at e; cases e
      cases r
      obtain ⟨h1, h2⟩ := allS_rel rs q
      exact ⟨by rw [h1]; rfl, by rw [h2]; rfl⟩
  | _, .non :: _, _, .cons _ _, e => by cases e
  | _, .bl _ :: _, _, .cons _ _, e => by cases e
  | _, .int _ :: _, _, .cons _ _, e => by cases e
  | _, .tup _ :: _, _, .cons _ _, e => by cases e
  | _, .lst _ :: _, _, .cons _ _, e => by cases e
  | _, .rol _ :: _, _, .cons _ _, e => by cases e
  | _, .rot _ :: _, _, .cons _ _, e => by cases e
  | _, .dK _ :: _, _, .cons _ _, e => by cases e
  | _, .dT _ :: _, _, .cons _ _, e => by cases e
  | _, .ins _ _ :: _, _, .cons _ _, e => by cases e
  | _, .exc _ _ :: _, _, .cons _ _, e => by cases e
theorem ints_rps {c : Cn} {H : Hp} {L : Addr → Prop} : ∀ ns : List Int, Rps c H L (ns.map V.int) (ns.map T.int)
  | [] => .nil
  | n :: ns => .cons (.int n) (ints_rps ns)
theorem strs_rps {c : Cn} {H : Hp} {L : Addr → Prop} : ∀ ns : List Str, Rps c H L (ns.map V.str) (ns.map T.str)
  | [] => .nil
  | n :: ns => .cons (.str n) (strs_rps ns)
theorem rising_all {ys : List Str} : ∀ {x : Str}, risingS x ys = true → (∀ y ∈ ys, ltS y x = false) ∧ ys.Pairwise (fun a b => ltS b a = false) := by
  induction ys with
  | nil => exact fun _ => ⟨fun _ h => by simp at h, List.Pairwise.nil⟩
  | cons y ys ih =>
    intro x h
    unfold risingS at h
    simp only [Bool.and_eq_true, Bool.not_eq_true'] at h
    obtain ⟨h1, h2⟩ := h
    obtain ⟨a, b⟩ := ih h2
    have h1 : ltS y x = false := by
      unfold ltS
      rw [lt_meets]
      exact h1
    refine ⟨fun z hz => ?_, List.pairwise_cons.mpr ⟨a, b⟩⟩
    rcases List.mem_cons.mp hz with rfl | hz
    · exact h1
    · exact (lin_str.swo id).tr _ _ _ h1 (a z hz)
theorem sortedS_all {ys : List Str} (h : sortedS ys = true) : ys.Pairwise (fun a b => ltS b a = false) := by
  cases ys with
  | nil => exact List.Pairwise.nil
  | cons y ys =>
    obtain ⟨a, b⟩ := rising_all (x := y) (ys := ys) h
    exact List.pairwise_cons.mpr ⟨a, b⟩
theorem atsOf_rel {c : Cn} {H : Hp} {L : Addr → Prop} : ∀ {vs : List V} {us : List Value} {ts : List T} {as : List At}, Rps c H L vs ts → Vals vs us → atsOf ts = some as → AtsAre us as
  | _, _, _, _, .nil, .nil, e => by cases e; rfl
  | _, _, t :: ts, _, .cons r rs, .cons q qs, e => by
    unfold atsOf at e
    cases q1 : atOf t with
    | none => rw [q1] at e; simp at e
    | some a =>
      cases q2 : atsOf ts with
      | none => rw [q1, q2] at e; simp at e
      | some as =>
        rw [q1, q2] at e
        cases e
        unfold AtsAre
        rw [List.map_cons, List.map_cons, (show List.map atV _ = as.map some from atsOf_rel rs qs q2)]
        congr 1
        cases t <;> simp only [atOf] at q1 <;> first | cases q1 | skip
        · cases r; obtain ⟨t, rfl⟩ := q; rfl
        · cases r; obtain ⟨t, rfl⟩ := q; rfl
theorem flSame_mem {sh : List Bool} : ∀ {ts : List T}, flSame sh ts = true → ∀ t ∈ ts, flShape t = some sh
  | [], _, t, h => by simp at h
  | x :: ts, e, t, h => by
    unfold flSame at e
    obtain ⟨e1, e2⟩ := Bool.and_eq_true_iff.mp e
    rcases List.mem_cons.mp h with rfl | h
    · simpa using e1
    · exact flSame_mem e2 t h
theorem flShape_of {t : T} {sh : List Bool} (h : flShape t = some sh) : ∃ ts a as, t = .tup ts ∧ atsOf ts = some (a :: as) ∧ sh = (a :: as).map At.isI := by
  cases t <;> simp only [flShape] at h <;> first | cases h | skip
  rename_i ts
  cases q : atsOf ts with
  | none => rw [q] at h; cases h
  | some as =>
    rw [q] at h
    cases as with
    | nil => cases h
    | cons a as => cases h; exact ⟨ts, a, as, rfl, q, rfl⟩
theorem atsOf_inj : ∀ {ts us : List T} {as : List At}, atsOf ts = some as → atsOf us = some as → ts = us
  | [], [], _, _, _ => rfl
  | [], u :: us, _, h1, h2 => by
    cases h1
    unfold atsOf at h2
    split at h2 <;> cases h2
  | t :: ts, [], _, h1, h2 => by
    cases h2
    unfold atsOf at h1
    split at h1 <;> cases h1
  | t :: ts, u :: us, as, h1, h2 => by
    unfold atsOf at h1 h2
    split at h1
    · rename_i a as' e1 e2
      cases h1
      split at h2
      · rename_i b bs f1 f2
        cases h2
        rw [atsOf_inj e2 f2]
        congr 1
        cases t <;> simp only [atOf] at e1 <;> first | cases e1 | skip
        all_goals (cases u <;> simp only [atOf] at f1 <;> first | cases f1 | skip)
        all_goals rfl
      · cases h2
    · cases h1
theorem keyF_fl {t u : T} {sh sh' : List Bool} (h1 : flShape t = some sh) (h2 : flShape u = some sh') (e : keyF t = keyF u) : t = u := by
  obtain ⟨ts, a, as, rfl, e1, _⟩ := flShape_of h1
  obtain ⟨us, b, bs, rfl, e2, _⟩ := flShape_of h2
  simp only [keyF, e1, e2, Option.getD_some] at e
  rw [e] at e1
  rw [atsOf_inj e1 e2]

theorem srtK_ints {ns ns' : List Int} (p : ns'.Perm ns) (h : ns'.Pairwise (· ≤ ·)) : ns'.map T.int = srtK (ns.map T.int) := by
  refine srtK_of (fun x hx y hy e => ?_) (p.map _) (List.pairwise_map.mpr (h.imp fun {a b} h => ?_))
  · obtain ⟨a, _, rfl⟩ := List.mem_map.mp hx
    obtain ⟨b, _, rfl⟩ := List.mem_map.mp hy
    cases e; rfl
  · have h2 : ¬ b < a := Int.not_lt.mpr h
    by_cases h3 : a < b <;> simp [ltK, keyF, lexB, ltA, h2, h3]
theorem srtK_strs {ns ns' : List Str} (p : ns'.Perm ns) (h : ns'.Pairwise (fun a b => ltS b a = false)) : ns'.map T.str = srtK (ns.map T.str) := by
  refine srtK_of (fun x hx y hy e => ?_) (p.map _) (List.pairwise_map.mpr (h.imp fun {a b} h => ?_))
  · obtain ⟨a, _, rfl⟩ := List.mem_map.mp hx
    obtain ⟨b, _, rfl⟩ := List.mem_map.mp hy
    cases e; rfl
  · simp [ltK, keyF, lexB, ltA, h]
theorem mem_rps {c : Cn} {H : Hp} {L : Addr → Prop} : ∀ {vs : List V} {ts : List T}, Rps c H L vs ts → ∀ v ∈ vs, ∃ t ∈ ts, Rp c H L v t
  | _, _, .nil, v, h => by simp at h
  | _, _, .cons r rs, v, h => by
    rcases List.mem_cons.mp h with rfl | h
    · exact ⟨_, List.mem_cons_self, r⟩
    · obtain ⟨t, ht, r⟩ := mem_rps rs v h
      exact ⟨t, List.mem_cons_of_mem _ ht, r⟩
section
variable {X : Cx}
/-- a flat tuple, in the heap -/
theorem fl_of {pins : List (Addr × Obj)} {s : Shared} {σ : L2.St} {H : Hp} {L : Addr → Prop} {v : V} {u : Value} {t : T} {sh : List Bool} (I : Inv X pins σ H s) (r : Rp (cn X) H L v t) (ru : RelV v u) (h : flShape t = some sh) : (∃ a, v = .ref a) ∧ IsFl s.heap u (keyF t) ∧ (keyF t).map At.isI = sh := by
  obtain ⟨ts, a, as, rfl, e, rfl⟩ := flShape_of h
  cases r with
  | tup nl ea rs =>
    cases ru
    obtain ⟨_, its2, r2, o, ho, hc, n, hd⟩ := I.hok _ _ ea
    refine ⟨⟨_, rfl⟩, ⟨_, o, its2, n, rfl, ho, hc, hd, ?_⟩, by simp [keyF, e]⟩
    simp only [keyF, e, Option.getD_some]
    exact atsOf_rel rs r2 e
theorem fl_list {pins : List (Addr × Obj)} {s : Shared} {σ : L2.St} {H : Hp} {L : Addr → Prop} {Ps : List Bool → Prop} (I : Inv X pins σ H s) : ∀ {vs : List V} {us : List Value} {ts : List T}, Rps (cn X) H L vs ts → Vals vs us → (∀ t ∈ ts, ∃ sh, flShape t = some sh ∧ Ps sh) → (∀ u ∈ us, ∃ t, IsFl s.heap u (keyF t) ∧ Ps ((keyF t).map At.isI)) ∧ us.map (kyV s.heap) = ts.map keyF ∧ (∀ x ∈ vs, ∃ a, x = V.ref a)
  | _, _, _, .nil, .nil, _ => ⟨fun u h => by simp at h, rfl, fun x h => by simp at h⟩
  | _, _, _, .cons r rs, .cons q qs, hs => by
    obtain ⟨h1, h2, h3⟩ := fl_list I rs qs fun t ht => hs t (List.mem_cons_of_mem _ ht)
    obtain ⟨sh, hsh, hP⟩ := hs _ List.mem_cons_self
    obtain ⟨g0, g1, g2⟩ := fl_of I r q hsh
    refine ⟨fun u hu => ?_, by rw [List.map_cons, List.map_cons, h2, g1.ky], fun x hx => ?_⟩
    · rcases List.mem_cons.mp hu with rfl | hu
      · exact ⟨_, g1, by rw [g2]; exact hP⟩
      · exact h1 u hu
    · rcases List.mem_cons.mp hx with rfl | hx
      · exact g0
      · exact h3 x hx
/-- sorted(xs): a new list -/
def rSortT (X : Cx) : List V → Hp → VK → Prop := fun vs H Q => ∃ (a : Addr) (xs : List V) (L : Addr → Prop) (ts ts' : List T), vs = [V.ref a] ∧ SqL X.K H a xs ∧ Rps (cn X) H L xs ts ∧ sortT ts = some ts' ∧
  ∀ (ys : List V) (p : Addr), Rps (cn X) H L ys ts' → H p = none → Q (.ref p) (upd H p (.lst ys))
theorem cr_sortT : CallR X (.builtin "sorted") (rSortT X) := by
  intro pins s σ H vs us Q I r h
  obtain ⟨a, xs, L, ts, ts', rfl, hs, rs, e, q⟩ := h
  unfold sortT at e
  split at e
  · rename_i h1
    cases e
    obtain ⟨ns, hn⟩ := Option.isSome_iff_exists.mp h1
    obtain ⟨rfl, rfl⟩ := allI_rel rs hn
    exact cr_sortedI pins s σ H _ us Q I r ⟨a, ns, rfl, hs, fun ns' p hp hw hH => q _ p (by rw [← srtK_ints hp hw]; exact ints_rps ns') hH⟩
  · split at e
    · rename_i h1
      cases e
      obtain ⟨h1, h2⟩ := Bool.and_eq_true_iff.mp h1
      obtain ⟨ns, hn⟩ := Option.isSome_iff_exists.mp h1
      obtain ⟨rfl, rfl⟩ := allS_rel rs hn
      exact cr_sortedS pins s σ H _ us Q I r ⟨a, ns, rfl, hs, by simpa using h2, fun ns' p hp hw hH => q _ p (by rw [← srtK_strs hp (sortedS_all hw)]; exact strs_rps ns') hH⟩
    · match ts, rs, e with
      | t :: ts0, rs, e =>
        dsimp only at e
        cases q0 : flShape t with
        | none => rw [q0] at e; cases e
        | some sh =>
          rw [q0] at e
          dsimp only at e
          split at e
          · rename_i hsame
            cases e
            obtain ⟨b, sh', hsh⟩ : ∃ b sh', sh = b :: sh' := by
              obtain ⟨_, a, as, _, _, rfl⟩ := flShape_of q0
              exact ⟨_, _, rfl⟩
            have hall : (∀ x ∈ t :: ts0, ∃ s, flShape x = some s ∧ s = sh) ∨ ∀ x ∈ t :: ts0, ∃ s, flShape x = some s ∧ s.all id = true := by
              rcases Bool.or_eq_true_iff.mp hsame with hs1 | hs1
              · exact .inl fun x hx => ⟨sh, flSame_mem hs1 x hx, rfl⟩
              · refine .inr fun x hx => ?_
                have hx1 := List.all_eq_true.mp hs1 x hx
                unfold isIT at hx1
                cases qx : flShape x with
                | none => rw [qx] at hx1; cases hx1
                | some s => rw [qx] at hx1; exact ⟨s, rfl, hx1⟩
            obtain ⟨Ps, hP, hcp, hhd⟩ : ∃ Ps : List Bool → Prop, (∀ x ∈ t :: ts0, ∃ s, flShape x = some s ∧ Ps s) ∧ (∀ s s', Ps s → Ps s' → cpB s s' = true) ∧ ∀ s, Ps s → s ≠ [] → s.head? = some b := by
              rcases hall with hall | hall
              · exact ⟨fun s => s = sh, hall, fun s s' h1 h2 => by rw [h1, h2]; exact cpB_refl _, fun s h1 _ => by rw [h1, hsh]; rfl⟩
              · refine ⟨fun s => s.all id = true, hall, fun s s' h1 h2 => cpB_ints s s' h1 h2, fun s h1 hne => ?_⟩
                obtain ⟨s0, e0, h0⟩ := hall t List.mem_cons_self
                rw [q0] at e0; cases e0
                rw [hsh] at h0
                simp only [List.all_cons, Bool.and_eq_true, id] at h0
                cases s with
                | nil => exact absurd rfl hne
                | cons a s =>
                  simp only [List.all_cons, Bool.and_eq_true, id] at h1
                  rw [List.head?_cons, h1.1, h0.1]
            obtain ⟨its, rv, hl, hz⟩ := I.list hs
            rw [Vals.ref1 r]
            obtain ⟨f1, f2, f3⟩ := fl_list (Ps := fun s => Ps s ∧ s ≠ []) I rs rv fun x hx => by
              obtain ⟨s, e1, e2⟩ := hP x hx
              refine ⟨s, e1, e2, ?_⟩
              obtain ⟨_, a, as, _, _, rfl⟩ := flShape_of e1
              simp
            obtain ⟨e1, e2⟩ := refs_back rv f3
            have k1 : ∀ v ∈ its, IsFl s.heap v (kyV s.heap v) ∧ Ps ((kyV s.heap v).map At.isI) ∧ (kyV s.heap v).map At.isI ≠ [] := fun v hv => by
              obtain ⟨t, g1, g2⟩ := f1 v hv
              rw [g1.ky]
              exact ⟨g1, g2⟩
            refine sorted_fl (k := kyV s.heap) (c := b) hl.isList (by rw [← rv.length]; exact hz) (fun v hv => (k1 v hv).1) (fun v hv u hu => hcp _ _ (k1 v hv).2.1 (k1 u hu).2.1) (fun v hv => ?_) fun h' d out hs' hp k hd hn => ?_
            · have := hhd _ (k1 v hv).2.1 (k1 v hv).2.2
              simpa using this
            · have h3 : ∀ u ∈ out, ∃ a, u = Value.ref a := fun u hu => e2 u (hp.mem_iff.mp hu)
              obtain ⟨n, hn⟩ := hn
              have hpv : (out.map backV).Perm xs := by rw [e1]; exact hp.map backV
              obtain ⟨ts', rs', pt⟩ := Rps.perm hpv rs
              have hall' : ∀ x ∈ ts', ∃ s, flShape x = some s ∧ Ps s := fun x hx => hP x (pt.mem_iff.mp hx)
              obtain ⟨_, g2, _⟩ := fl_list I rs' (vals_back h3) hall'
              have es : ts' = srtK (t :: ts0) := by
                refine srtK_of (fun x hx y hy e => let ⟨_, ex, _⟩ := hall' x hx; let ⟨_, ey, _⟩ := hall' y hy; keyF_fl ex ey e) pt ?_
                have h4 : (out.map (kyV s.heap)).Pairwise fun x y => lexB ltA y x = false := List.pairwise_map.mpr hs'
                rw [g2] at h4
                exact List.pairwise_map.mp h4
              refine ⟨.ref d, upd H d (.lst (out.map backV)), I.laid (t' := s.toks) k hd ⟨?_, out, n, vals_back h3, hn⟩, rfl, q _ d (by rw [← es]; exact rs') (I.hok.fresh hd)⟩
              rw [List.length_map, hp.length_eq, ← rv.length]; exact hz
          · cases e
      | [], _, e => cases e
variable {W : WX} {e : Expr} {fs : M (List U)} {pos : Pos}
def lstOf : T → Option (List T)
  | .lst ts => some ts
  | .rol ts => some ts
  | _ => none
theorem Vw.lstOf {c : Cn} {H : Hp} {L : Addr → Prop} {y : V} {t : T} {ts : List T} (h : Vw c H L y t) (e : G.lstOf t = some ts) : ∃ a vs, y = .ref a ∧ SqL c.K H a vs ∧ Rps c H L vs ts := by
  cases t with
  | lst _ => cases e; obtain ⟨a, vs, rfl, ea, r⟩ := h.lst; exact ⟨a, vs, rfl, .of ea, r⟩
  | rol _ => cases e; obtain ⟨a, vs, rfl, ea, r⟩ := h.rol; exact ⟨a, vs, rfl, ea, r⟩
  | _ => cases e
def mSorted (f : M (List U)) : M C := mBind f fun us _ m => match derefs m us with
  | some [t] => match lstOf t with
    | some ts => match sortT ts with
      | some ts' => some (.ok (.t (.lst ts')), m)
      | none => none
    | none => none
  | _ => none
theorem e_sorted {pn : Pos} (hg : Gl X "sorted") (hm : X.mg "sorted" = none) (ha : PA X [e] (rdA X W fs)) (he : starEach [e] X.env = (false, eval e X.env) :: starEach [] X.env := by rfl) (hpl : (backTo pos (starEach [] X.env)).any (·.1) = false := by rfl) :
    PE X (.Call (.Name "sorted" pn) [e] [] pos) (rdN X W (mSorted fs)) := by
  refine PE.wk (pe_callB cr_sortT hg hm (by decide +kernel) ha (by decide) (by decide) he hpl) fun σ H Q ⟨B, φ, m, fr, S, r, m', e1, h⟩ => ⟨B, φ, m, fr, S, ?_⟩
  unfold mSorted mBind at e1
  cases q : fs fr m with
  | none => rw [q] at e1; cases e1
  | some pq =>
    obtain ⟨r1, m1⟩ := pq
    rw [q] at e1
    refine ⟨r1, m1, rfl, fun H1 φ1 n1 => ?_⟩
    cases r1 with
    | error z => cases e1; exact h H1 φ1 n1
    | ok us =>
      intro vs ru
      dsimp only at e1
      split at e1
      · rename_i t hd
        cases q2 : lstOf t with
        | none => rw [q2] at e1; cases e1
        | some ts =>
          rw [q2] at e1
          dsimp only at e1
          cases q3 : sortT ts with
          | none => rw [q3] at e1; cases e1
          | some ts' =>
            rw [q3] at e1; cases e1
            have vw := ru.vws n1.ok hd
            cases vw with
            | cons v vs' =>
              cases vs'
              obtain ⟨a, vs, rfl, sq, rs⟩ := v.lstOf q2
              exact ⟨a, vs, _, ts, ts', rfl, sq, rs, q3, fun ys l ry hl => h _ φ1 l (n1.fresh hl) (n1.new hl) ⟨ys, upd_same, ry.new hl⟩⟩
      · cases e1
end
end G

/-! G20: the law's promise. -/
namespace G
open PySem PySem.Spec PyProof.Rows L2
/-- what is asked of the law's def -/
def spL (K : PySem.W.Frag) : Sp := fun vs H Q _ => ∃ (a : Addr) (ns : List Int), vs = [.ref a] ∧ ns.length ≤ 63 ∧ Only H ∧ SqL K H a (ns.map V.int) ∧ ∀ H', Q (.bl true) H'
theorem rps_ints {c : Cn} {H : Hp} {L : Addr → Prop} (ns : List Int) : Rps c H L (ns.map V.int) (ns.map T.int) := ints_rps ns
theorem spF_law {K : PySem.W.Frag} {mg : Str → Option Value} {F : Fn} (hF : ∀ ns : List Int, ns.length ≤ 63 → ∃ m, F [.v (.rol (ns.map .int))] [] = some (.ok (.v (.bl true)), m)) :
    ∀ vs H Q E, spL K vs H Q E → spF ⟨K, mg, none⟩ 1 F vs H Q E := fun vs H Q E h => by
  obtain ⟨a, ns, rfl, hl, hO, hs, hq⟩ := h
  obtain ⟨m', e⟩ := hF ns hl
  have nl : ∀ b, ¬ LL (fun _ => False) [] [] b := fun b z => by
    rcases z with z | ⟨i, t, e1, _⟩
    · exact z
    · simp at e1
  refine ⟨rfl, fun _ => False, [], [], [.v (.rol (ns.map .int))], MOk.nil fun _ z => z.elim, .cons (.v ?_) .nil, _, m', e, fun H' φ' n v rv => ?_⟩
  · rcases hs with (hs | ⟨o, hs⟩) | hs
    · rcases hO a with h | ⟨_, _, h⟩ <;> rw [hs] at h <;> cases h
    · exact .rolF (nl a) hs (rps_ints ns)
    · exact .rol hs (rps_ints ns)
  · cases rv with
    | v rv => cases rv; exact hq H'
theorem spL_of {K : PySem.W.Frag} {H : Hp} {a : Addr} {ns : List Int} (hl : ns.length ≤ 63) (hO : Only H) (hs : SqL K H a (ns.map V.int)) : spL K [.ref a] H (fun v _ => v = .bl true) fun _ _ _ => False := ⟨a, ns, rfl, hl, hO, hs, fun _ => rfl⟩
theorem kit_false {K : PySem.W.Frag} {C : Addr} {n : String} (i : PySem.W.isClsIn K C = true) (ty : PySem.W.typeIn K (.ref C) = some (.type "type")) (h : PySem.W.subIn K (.type n) (.ref C) = some false) : PySem.W.kitOne K (.type n) (.ref C) = some false := by
  have i' : (PySem.W.clsIn K C).isSome = true := i
  have e1 : ((PySem.W.clsIn K C).isSome && PySem.W.typeIn K (.ref C) == some (.type "type")) = true := by rw [i', ty]; rfl
  have e2 : ¬ (Value.type n == Value.ref C) = true := by simp
  show (if (Value.type n == Value.ref C) = true then some true else (if ((PySem.W.clsIn K C).isSome && PySem.W.typeIn K (.ref C) == some (.type "type")) = true then PySem.W.subIn K (.type n) (.ref C) else none)) = some false
  rw [if_neg e2, if_pos e1]
  exact h
theorem isC_mk {K : PySem.W.Frag} {C : Addr} (cl : Cls K C) (ha : PySem.W.findIn K (.ref C) "__class__" = some (some (.builtin "object.__class__"))) (hn : PySem.W.specialIn K (.builtin "object.__class__") "__get__" = some (some (.builtin "getset_descriptor.__get__")))
    (ht : PySem.W.takesIn K (.builtin "object.__class__") = some true) (hm : PySem.W.mroIn K C (.type "object") = some true) (i : PySem.W.isClsIn K C = true) (ty : PySem.W.typeIn K (.ref C) = some (.type "type")) : IsC K C :=
  ⟨cl, ha, hn, ht, hm, kit_false i ty rfl, kit_false i ty rfl, kit_false i ty rfl, kit_false i ty rfl, kit_false i ty rfl, kit_false i ty rfl, kit_false i ty rfl⟩
theorem CX_none {P : Program} (w : World) (H : Hp) (s : Shared) (e : Value) (s' : Shared) (h : L2.CX P w [] H s (fun _ _ _ => False) e s') : False := by
  obtain ⟨_, _, _, _, _, _, _, _, _, _, _, _, h⟩ := h
  exact h
end G

/-! G21: loops and comprehensions, in the plain. -/
namespace G
open PySem L2
theorem compL_pure {g : Tg} {t : M Bool} {e : M U} {fr0 : Fr} {m : Mem} (f : T → Option T) : ∀ {xs : List T},
    (∀ x ∈ xs, ∃ fr', g (.v x) fr0 = some fr' ∧ ((f x = none ∧ t fr' m = some (.ok false, m)) ∨ ∃ y, f x = some y ∧ t fr' m = some (.ok true, m) ∧ e fr' m = some (.ok (.v y), m))) →
    compL g t e fr0 xs m = some (xs.filterMap f, m)
  | [], _ => rfl
  | x :: xs, h => by
    have ih := compL_pure (f := f) (g := g) (t := t) (e := e) (fr0 := fr0) (m := m) (xs := xs) fun y hy => h y (List.mem_cons_of_mem _ hy)
    obtain ⟨fr', h1, h2⟩ := h x List.mem_cons_self
    unfold compL
    rw [h1]
    dsimp only
    rcases h2 with ⟨h2, h3⟩ | ⟨y, h2, h3, h4⟩
    · rw [h3, List.filterMap_cons_none h2]; exact ih
    · rw [h3, List.filterMap_cons_some h2]
      dsimp only
      rw [h4]
      dsimp only
      rw [ih]
theorem sForL_ix {g : Tg} {b : MS} {I : Nat → Fr → Mem → Prop} : ∀ {xs : List T} {k : Nat} {fr : Fr} {m : Mem}, I k fr m →
    (∀ i x fr m, xs[i]? = some x → I (k + i) fr m → ∃ fr1 fr2 m2, g (.v x) fr = some fr1 ∧ b fr1 m = some (.fl .nx fr2, m2) ∧ I (k + i + 1) fr2 m2) →
    ∃ fr' m', sForL g b xs fr m = some (.fl .nx fr', m') ∧ I (k + xs.length) fr' m'
  | [], k, fr, m, h0, _ => ⟨fr, m, rfl, h0⟩
  | x :: xs, k, fr, m, h0, h => by
    obtain ⟨fr1, fr2, m2, h1, h2, h3⟩ := h 0 x fr m rfl h0
    obtain ⟨fr', m', e, h4⟩ := sForL_ix (I := I) (xs := xs) (k := k + 1) (fr := fr2) (m := m2) h3 fun i y fr m hy hI => by
      obtain ⟨f1, f2, mm, a1, a2, a3⟩ := h (i + 1) y fr m (by simpa using hy) (by rw [show k + (i + 1) = k + 1 + i by omega]; exact hI)
      exact ⟨f1, f2, mm, a1, a2, by rw [show k + 1 + i + 1 = k + (i + 1) + 1 by omega]; exact a3⟩
    refine ⟨fr', m', ?_, by rw [show k + (x :: xs).length = k + 1 + xs.length by simp; omega]; exact h4⟩
    unfold sForL
    rw [h1]
    dsimp only
    unfold sTurn
    rw [h2]
    exact e
theorem sForL_inv {g : Tg} {b : MS} {I : Fr → Mem → Prop} {xs : List T} {fr : Fr} {m : Mem} (h0 : I fr m)
    (h : ∀ x ∈ xs, ∀ fr m, I fr m → ∃ fr1 fr2 m2, g (.v x) fr = some fr1 ∧ b fr1 m = some (.fl .nx fr2, m2) ∧ I fr2 m2) :
    ∃ fr' m', sForL g b xs fr m = some (.fl .nx fr', m') ∧ I fr' m' :=
  sForL_ix (I := fun _ => I) (k := 0) h0 fun i x fr m hx hI => h x (List.mem_of_getElem? hx) fr m hI
theorem set_same {m : Mem} {i : Nat} {x : Option C} (h : m[i]? = some x) : m.set i x = m := by
  apply List.ext_getElem?
  intro j
  by_cases hj : i = j
  · subst hj
    rw [List.getElem?_set_self (List.getElem?_eq_some_iff.mp h).1, h]
  · rw [List.getElem?_set_ne hj]
end G

/-! G22: what must hold ahead, step by step: the plain reading by continuations. -/
namespace G
open PySem L2
def wO {α : Type} (o : Option α) (Q : α → Prop) : Prop := ∃ a, o = some a ∧ Q a
def wR {β : Type} (o : Option (β × Mem)) (Q : β → Mem → Prop) : Prop := ∃ r m', o = some (r, m') ∧ Q r m'
def wE {α : Type} (f : M α) (fr : Fr) (m : Mem) (Q : Except Xc α → Mem → Prop) : Prop := wR (f fr m) Q
def wS (f : MS) (fr : Fr) (m : Mem) (Q : SR → Mem → Prop) : Prop := wR (f fr m) Q
def wF (F : Fn) (us : List U) (m : Mem) (Q : Except Xc U → Mem → Prop) : Prop := wR (F us m) Q
def wC (n : Nat) (F : Fn) (us : List U) (m : Mem) (Q : Except Xc U → Mem → Prop) : Prop := wR (callV n F us m) Q
def wCC (n : Nat) (F : Fn) (us : List U) (m : Mem) (Q : Except Xc U → Mem → Prop) : Prop := wR (callC n F us m) Q
def wMk (c : Str) (n : Nat) (F : Fn) (us : List U) (m : Mem) (Q : Except Xc C → Mem → Prop) : Prop := wR (makeV c n F us m) Q
def wOwn (c : Str) (F : Fn) (u v : U) (m : Mem) (Q : Except Xc U → Mem → Prop) : Prop := wR (ownAt c F u v m) Q
def onOk {α β : Type} (Q : Except Xc β → Mem → Prop) (k : α → Mem → Prop) : Except Xc α → Mem → Prop
  | .ok a, m => k a m
  | .error x, m => Q (.error x) m
def onSt {α : Type} (fr : Fr) (Q : SR → Mem → Prop) (k : α → Mem → Prop) : Except Xc α → Mem → Prop
  | .ok a, m => k a m
  | .error x, m => Q (.ex x fr) m
def onNx (Q : SR → Mem → Prop) (k : Fr → Mem → Prop) : SR → Mem → Prop
  | .fl .nx fr, m => k fr m
  | r, m => Q r m
def onLp (Q : SR → Mem → Prop) (k : Fr → Mem → Prop) : SR → Mem → Prop
  | .fl .nx fr, m => k fr m
  | .fl .ct fr, m => k fr m
  | .fl .bk fr, m => Q (.fl .nx fr) m
  | r, m => Q r m
def onRt (Q : Except Xc U → Mem → Prop) : SR → Mem → Prop
  | .fl (.rt u) _, m => Q (.ok u) m
  | .fl .nx _, m => Q (.ok (.v .non)) m
  | .ex x _, m => Q (.error x) m
  | _, _ => False
def retV (us : List U) (m : Mem) (Q : Except Xc U → Mem → Prop) : Except Xc U → Mem → Prop
  | .ok (.v t), m1 => Q (.ok (.v t)) (stM m (cellsOf us) m1)
  | .ok (.c j), m1 => wO (m1[j]?.join) fun ct => wO (toT ct) fun t => Q (.ok (.v t)) (stM m (cellsOf us) (m1.set j none))
  | .error x, m1 => Q (.error x) (stM m (cellsOf us) m1)
def retC (us : List U) (m : Mem) (Q : Except Xc U → Mem → Prop) : Except Xc U → Mem → Prop
  | .ok (.v _), _ => False
  | .ok (.c j), m1 => wO (m1[j]?.join) fun ct => ((cellsOf us).length ≤ j ∧ (toT ct).isSome = true) ∧ Q (.ok (.c m.length)) (stM m (cellsOf us) (m1.set j none) ++ [some ct])
  | .error x, m1 => Q (.error x) (stM m (cellsOf us) m1)
section
variable {α β γ : Type} {fr : Fr} {m : Mem}
theorem wO_some {a : α} {Q : α → Prop} : wO (some a) Q ↔ Q a := ⟨fun ⟨_, e, h⟩ => by cases e; exact h, fun h => ⟨a, rfl, h⟩⟩
theorem wO_none {Q : α → Prop} : wO none Q ↔ False := ⟨fun ⟨_, e, _⟩ => (nomatch e), False.elim⟩
theorem wR_some {a : β} {b : Mem} {Q : β → Mem → Prop} : wR (some (a, b)) Q ↔ Q a b := ⟨fun ⟨_, _, e, h⟩ => by cases e; exact h, fun h => ⟨a, b, rfl, h⟩⟩
theorem wR_none {Q : β → Mem → Prop} : wR none Q ↔ False := ⟨fun ⟨_, _, e, _⟩ => (nomatch e), False.elim⟩
theorem wE_on {f : M α} {Q : Except Xc β → Mem → Prop} {k k' : α → Mem → Prop} (h : ∀ a m, k a m ↔ k' a m) : wE f fr m (onOk Q k) ↔ wE f fr m (onOk Q k') := by
  have : k = k' := funext fun a => funext fun m => propext (h a m)
  rw [this]
theorem wE_onS {f : M α} {Q : SR → Mem → Prop} {k k' : α → Mem → Prop} (h : ∀ a m, k a m ↔ k' a m) : wE f fr m (onSt fr Q k) ↔ wE f fr m (onSt fr Q k') := by
  have : k = k' := funext fun a => funext fun m => propext (h a m)
  rw [this]
theorem wO_if {c : Prop} [Decidable c] {o : Option α} {Q : α → Prop} : wO (if c then o else none) Q ↔ c ∧ wO o Q := by
  by_cases h : c <;> simp [h, wO]
theorem wO_mono {o : Option α} {Q Q' : α → Prop} (h : wO o Q) (hq : ∀ a, Q a → Q' a) : wO o Q' := let ⟨a, e, q⟩ := h; ⟨a, e, hq a q⟩
theorem wO_congr {o o' : Option α} {Q : α → Prop} (h : o = o') : wO o Q = wO o' Q := by rw [h]
theorem wE_congr {f : M α} {fr fr' : Fr} {m m' : Mem} {Q : Except Xc α → Mem → Prop} (h1 : fr = fr') (h2 : m = m') : wE f fr m Q = wE f fr' m' Q := by rw [h1, h2]
theorem wS_congr {f : MS} {fr fr' : Fr} {m m' : Mem} {Q : SR → Mem → Prop} (h1 : fr = fr') (h2 : m = m') : wS f fr m Q = wS f fr' m' Q := by rw [h1, h2]
theorem wF_congr {F : Fn} {us us' : List U} {m m' : Mem} {Q : Except Xc U → Mem → Prop} (h1 : us = us') (h2 : m = m') : wF F us m Q = wF F us' m' Q := by rw [h1, h2]
theorem wC_congr {n : Nat} {F : Fn} {us us' : List U} {m m' : Mem} {Q : Except Xc U → Mem → Prop} (h1 : us = us') (h2 : m = m') : wC n F us m Q = wC n F us' m' Q := by rw [h1, h2]
theorem wCC_congr {n : Nat} {F : Fn} {us us' : List U} {m m' : Mem} {Q : Except Xc U → Mem → Prop} (h1 : us = us') (h2 : m = m') : wCC n F us m Q = wCC n F us' m' Q := by rw [h1, h2]
theorem wMk_congr {c : Str} {n : Nat} {F : Fn} {us us' : List U} {m m' : Mem} {Q : Except Xc C → Mem → Prop} (h1 : us = us') (h2 : m = m') : wMk c n F us m Q = wMk c n F us' m' Q := by rw [h1, h2]
theorem wOwn_congr {c : Str} {F : Fn} {u u' v v' : U} {m m' : Mem} {Q : Except Xc U → Mem → Prop} (h1 : u = u') (h0 : v = v') (h2 : m = m') : wOwn c F u v m Q = wOwn c F u' v' m' Q := by rw [h1, h2, h0]
theorem onOk_ok {Q : Except Xc β → Mem → Prop} {k : α → Mem → Prop} {a : α} : onOk Q k (.ok a) m = k a m := rfl
theorem onOk_er {Q : Except Xc β → Mem → Prop} {k : α → Mem → Prop} {x : Xc} : onOk Q k (.error x) m = Q (.error x) m := rfl
theorem onSt_ok {Q : SR → Mem → Prop} {k : α → Mem → Prop} {a : α} : onSt fr Q k (.ok a) m = k a m := rfl
theorem onSt_er {Q : SR → Mem → Prop} {k : α → Mem → Prop} {x : Xc} : onSt fr Q k (.error x) m = Q (.ex x fr) m := rfl
theorem onNx_nx {Q : SR → Mem → Prop} {k : Fr → Mem → Prop} : onNx Q k (.fl .nx fr) m = k fr m := rfl
theorem onNx_bk {Q : SR → Mem → Prop} {k : Fr → Mem → Prop} : onNx Q k (.fl .bk fr) m = Q (.fl .bk fr) m := rfl
theorem onNx_ct {Q : SR → Mem → Prop} {k : Fr → Mem → Prop} : onNx Q k (.fl .ct fr) m = Q (.fl .ct fr) m := rfl
theorem onNx_rt {Q : SR → Mem → Prop} {k : Fr → Mem → Prop} {u : U} : onNx Q k (.fl (.rt u) fr) m = Q (.fl (.rt u) fr) m := rfl
theorem onNx_ex {Q : SR → Mem → Prop} {k : Fr → Mem → Prop} {x : Xc} : onNx Q k (.ex x fr) m = Q (.ex x fr) m := rfl
theorem onLp_nx {Q : SR → Mem → Prop} {k : Fr → Mem → Prop} : onLp Q k (.fl .nx fr) m = k fr m := rfl
theorem onLp_bk {Q : SR → Mem → Prop} {k : Fr → Mem → Prop} : onLp Q k (.fl .bk fr) m = Q (.fl .nx fr) m := rfl
theorem onLp_ct {Q : SR → Mem → Prop} {k : Fr → Mem → Prop} : onLp Q k (.fl .ct fr) m = k fr m := rfl
theorem onLp_rt {Q : SR → Mem → Prop} {k : Fr → Mem → Prop} {u : U} : onLp Q k (.fl (.rt u) fr) m = Q (.fl (.rt u) fr) m := rfl
theorem onLp_ex {Q : SR → Mem → Prop} {k : Fr → Mem → Prop} {x : Xc} : onLp Q k (.ex x fr) m = Q (.ex x fr) m := rfl
theorem onRt_rt {Q : Except Xc U → Mem → Prop} {u : U} : onRt Q (.fl (.rt u) fr) m = Q (.ok u) m := rfl
theorem onRt_nx {Q : Except Xc U → Mem → Prop} : onRt Q (.fl .nx fr) m = Q (.ok (.v .non)) m := rfl
theorem onRt_ex {Q : Except Xc U → Mem → Prop} {x : Xc} : onRt Q (.ex x fr) m = Q (.error x) m := rfl
theorem retV_v {us : List U} {m1 : Mem} {Q : Except Xc U → Mem → Prop} {t : T} : retV us m Q (.ok (.v t)) m1 = Q (.ok (.v t)) (stM m (cellsOf us) m1) := rfl
theorem retV_c {us : List U} {m1 : Mem} {Q : Except Xc U → Mem → Prop} {j : Nat} : retV us m Q (.ok (.c j)) m1 = wO (m1[j]?.join) fun ct => wO (toT ct) fun t => Q (.ok (.v t)) (stM m (cellsOf us) (m1.set j none)) := rfl
theorem retV_x {us : List U} {m1 : Mem} {Q : Except Xc U → Mem → Prop} {x : Xc} : retV us m Q (.error x) m1 = Q (.error x) (stM m (cellsOf us) m1) := rfl
theorem retC_c {us : List U} {m1 : Mem} {Q : Except Xc U → Mem → Prop} {j : Nat} : retC us m Q (.ok (.c j)) m1 = wO (m1[j]?.join) fun ct => ((cellsOf us).length ≤ j ∧ (toT ct).isSome = true) ∧ Q (.ok (.c m.length)) (stM m (cellsOf us) (m1.set j none) ++ [some ct]) := rfl
theorem retC_x {us : List U} {m1 : Mem} {Q : Except Xc U → Mem → Prop} {x : Xc} : retC us m Q (.error x) m1 = Q (.error x) (stM m (cellsOf us) m1) := rfl
/-! ### values -/
theorem wE_bind {f : M α} {k : α → M β} {Q : Except Xc β → Mem → Prop} : wE (mBind f k) fr m Q ↔ wE f fr m (onOk Q fun a m' => wE (k a) fr m' Q) := by
  unfold wE mBind
  cases q : f fr m with
  | none => simp only [wR_none]
  | some p =>
    obtain ⟨r1, m1⟩ := p
    cases r1 <;> simp only [wR_some, onOk]
theorem wE_pure {a : α} {Q : Except Xc α → Mem → Prop} : wE (mPure a) fr m Q ↔ Q (.ok a) m := ⟨fun ⟨_, _, e, h⟩ => by cases e; exact h, fun h => ⟨_, _, rfl, h⟩⟩
theorem wE_c {t : T} {Q : Except Xc U → Mem → Prop} : wE (mC t) fr m Q ↔ Q (.ok (.v t)) m := wE_pure
theorem wE_var {i : Nat} {Q : Except Xc U → Mem → Prop} : wE (mVar i) fr m Q ↔ wO fr[i]?.join fun u => Q (.ok u) m := by
  unfold wE mVar
  cases h : fr[i]? with
  | none => simp only [wR_none, Option.join_none, wO_none]
  | some o => cases o <;> simp only [wR_none, wR_some, Option.join_some, wO_none, wO_some]
theorem wE_lift {o : Mem → Option (U × Mem)} {Q : Except Xc U → Mem → Prop} : wE (mLift o) fr m Q ↔ wO (o m) fun p => Q (.ok p.1) p.2 := by
  unfold wE mLift
  cases h : o m with
  | none => simp only [wR_none, wO_none]
  | some p => simp only [wR_some, wO_some]
theorem wE_stuck {Q : Except Xc α → Mem → Prop} : wE (stuck : M α) fr m Q ↔ False := ⟨fun ⟨_, _, e, _⟩ => (nomatch e), False.elim⟩
theorem wE_un {p : U → Mem → Option (U × Mem)} {f : M U} {Q : Except Xc U → Mem → Prop} : wE (mUn p f) fr m Q ↔ wE f fr m (onOk Q fun a m' => wO (p a m') fun p => Q (.ok p.1) p.2) := by
  unfold mUn; rw [wE_bind]; simp only [wE_lift]
theorem wE_op2 {p : U → U → Mem → Option (U × Mem)} {f g : M U} {Q : Except Xc U → Mem → Prop} : wE (mOp2 p f g) fr m Q ↔ wE f fr m (onOk Q fun a m1 => wE g fr m1 (onOk Q fun b m2 => wO (p a b m2) fun p => Q (.ok p.1) p.2)) := by
  unfold mOp2; rw [wE_bind]; simp only [wE_bind, wE_lift]
theorem wE_nil {Q : Except Xc (List U) → Mem → Prop} : wE mNil fr m Q ↔ Q (.ok []) m := wE_pure
theorem wE_cons {f : M U} {g : M (List U)} {Q : Except Xc (List U) → Mem → Prop} : wE (mCons f g) fr m Q ↔ wE f fr m (onOk Q fun a m1 => wE g fr m1 (onOk Q fun b m2 => Q (.ok (a :: b)) m2)) := by
  unfold mCons; rw [wE_bind]; simp only [wE_bind, wE_pure]
theorem wE_callB {p : List U → Mem → Option (U × Mem)} {f : M (List U)} {Q : Except Xc U → Mem → Prop} : wE (mCallB p f) fr m Q ↔ wE f fr m (onOk Q fun a m' => wO (p a m') fun p => Q (.ok p.1) p.2) := by
  unfold mCallB; rw [wE_bind]; simp only [wE_lift]
/-- a truth -/
def isBl : U → Option Bool
  | .v (.bl b) => some b
  | _ => none
theorem wE_tst {f : M U} {Q : Except Xc Bool → Mem → Prop} : wE (mTst f) fr m Q ↔ wE f fr m (onOk Q fun u m' => wO (isBl u) fun b => Q (.ok b) m') := by
  unfold mTst; rw [wE_bind]
  exact wE_on fun u m' => by
    cases u with
    | c j => simp [isBl, wE_stuck, wO_none]
    | v t => cases t <;> simp [isBl, wE_stuck, wO_none, wO_some, wE_pure]
theorem wE_andT {f g : M Bool} {Q : Except Xc Bool → Mem → Prop} : wE (mAndT f g) fr m Q ↔ wE f fr m (onOk Q fun b m' => (b = true → wE g fr m' Q) ∧ (b = false → Q (.ok false) m')) := by
  unfold mAndT; rw [wE_bind]
  exact wE_on fun b m' => by cases b <;> simp [wE_pure]
theorem wE_orT {f g : M Bool} {Q : Except Xc Bool → Mem → Prop} : wE (mOrT f g) fr m Q ↔ wE f fr m (onOk Q fun b m' => (b = true → Q (.ok true) m') ∧ (b = false → wE g fr m' Q)) := by
  unfold mOrT; rw [wE_bind]
  exact wE_on fun b m' => by cases b <;> simp [wE_pure]
theorem wE_notT {f : M Bool} {Q : Except Xc Bool → Mem → Prop} : wE (mNotT f) fr m Q ↔ wE f fr m (onOk Q fun b m' => Q (.ok (!b)) m') := by
  unfold mNotT; rw [wE_bind]; simp only [wE_pure]
theorem wE_and {f g : M U} {Q : Except Xc U → Mem → Prop} : wE (mAnd f g) fr m Q ↔ wE f fr m (onOk Q fun u m' => wO (isBl u) fun b => (b = true → wE g fr m' Q) ∧ (b = false → Q (.ok (.v (.bl false))) m')) := by
  unfold mAnd; rw [wE_bind]
  exact wE_on fun u m' => by
    cases u with
    | c j => simp [isBl, wE_stuck, wO_none]
    | v t =>
      cases t with
      | bl b => cases b <;> simp [isBl, wO_some, wE_pure]
      | _ => simp [isBl, wE_stuck, wO_none]
theorem wE_or {f g : M U} {Q : Except Xc U → Mem → Prop} : wE (mOr f g) fr m Q ↔ wE f fr m (onOk Q fun u m' => wO (isBl u) fun b => (b = true → Q (.ok (.v (.bl true))) m') ∧ (b = false → wE g fr m' Q)) := by
  unfold mOr; rw [wE_bind]
  exact wE_on fun u m' => by
    cases u with
    | c j => simp [isBl, wE_stuck, wO_none]
    | v t =>
      cases t with
      | bl b => cases b <;> simp [isBl, wO_some, wE_pure]
      | _ => simp [isBl, wE_stuck, wO_none]
theorem wE_not {f : M U} {Q : Except Xc U → Mem → Prop} : wE (mNot f) fr m Q ↔ wE f fr m (onOk Q fun u m' => wO (isBl u) fun b => Q (.ok (.v (.bl (!b)))) m') := by
  unfold mNot; rw [wE_bind]
  exact wE_on fun u m' => by
    cases u with
    | c j => simp [isBl, wE_stuck, wO_none]
    | v t => cases t <;> simp [isBl, wE_stuck, wO_none, wO_some, wE_pure]
theorem wE_if {t : M Bool} {f g : M U} {Q : Except Xc U → Mem → Prop} : wE (mIf t f g) fr m Q ↔ wE t fr m (onOk Q fun b m' => (b = true → wE f fr m' Q) ∧ (b = false → wE g fr m' Q)) := by
  unfold mIf; rw [wE_bind]
  exact wE_on fun b m' => by cases b <;> simp
theorem wE_chain {p p' : U → U → Mem → Option (U × Mem)} {f g h : M U} {Q : Except Xc U → Mem → Prop} : wE (mChain p p' f g h) fr m Q ↔ wE f fr m (onOk Q fun a m1 => wE g fr m1 (onOk Q fun b m2 => wO (p a b m2) fun q => wO (isBl q.1) fun k =>
    (k = true → wE h fr q.2 (onOk Q fun d m3 => wO (p' b d m3) fun p => Q (.ok p.1) p.2)) ∧ (k = false → Q (.ok (.v (.bl false))) q.2))) := by
  unfold mChain; rw [wE_bind]
  refine wE_on fun a m1 => ?_
  rw [wE_bind]
  refine wE_on fun b m2 => ?_
  rw [wE_bind, wE_lift]
  cases p a b m2 with
  | none => simp [wO_none]
  | some q =>
    obtain ⟨u, m3⟩ := q
    rw [wO_some, wO_some, onOk_ok]
    dsimp only
    cases u with
    | c j => simp [isBl, wE_stuck, wO_none]
    | v t =>
      cases t with
      | bl b => cases b <;> simp [isBl, wO_some, wE_pure, wE_bind, wE_lift]
      | _ => simp [isBl, wE_stuck, wO_none]
theorem wO_pv1 {p : T → Option T} {a : U} {Q : U × Mem → Prop} : wO (pv1 p a m) Q ↔ wO (deref m a) fun x => wO (p x) fun t => Q (.v t, m) := by
  unfold pv1
  cases deref m a with
  | none => simp only [wO_none]
  | some x =>
    dsimp only
    rw [wO_some]
    cases p x <;> simp only [wO_none, wO_some]
theorem wO_pv2 {p : T → T → Option T} {a b : U} {Q : U × Mem → Prop} : wO (pv2 p a b m) Q ↔ wO (deref m a) fun x => wO (deref m b) fun y => wO (p x y) fun t => Q (.v t, m) := by
  unfold pv2
  cases deref m a with
  | none => simp only [wO_none]
  | some x =>
    rw [wO_some]
    cases deref m b with
    | none => simp only [wO_none]
    | some y =>
      dsimp only
      rw [wO_some]
      cases p x y <;> simp only [wO_none, wO_some]
theorem wO_pvN {p : List T → Option T} {a : List U} {Q : U × Mem → Prop} : wO (pvN p a m) Q ↔ wO (derefs m a) fun x => wO (p x) fun t => Q (.v t, m) := by
  unfold pvN
  cases derefs m a with
  | none => simp only [wO_none]
  | some x =>
    dsimp only
    rw [wO_some]
    cases p x <;> simp only [wO_none, wO_some]
theorem wO_derefs_nil {Q : List T → Prop} : wO (derefs m []) Q ↔ Q [] := wO_some
theorem wO_derefs_cons {u : U} {us : List U} {Q : List T → Prop} : wO (derefs m (u :: us)) Q ↔ wO (deref m u) fun t => wO (derefs m us) fun ts => Q (t :: ts) := by
  rw [derefs]
  cases deref m u with
  | none => simp [wO]
  | some t => cases derefs m us <;> simp [wO]
theorem wE_fz {f : M C} {Q : Except Xc U → Mem → Prop} : wE (mFz f) fr m Q ↔ wE f fr m (onOk Q fun c m' => wO (toT c) fun t => Q (.ok (.v t)) m') := by
  unfold mFz; rw [wE_bind]
  exact wE_on fun c m' => by
    cases toT c with
    | none => rw [wE_stuck, wO_none]
    | some t => rw [wE_pure, wO_some]
theorem wE_cl {f : M C} {Q : Except Xc U → Mem → Prop} : wE (mCl f) fr m Q ↔ wE f fr m (onOk Q fun c m' => Q (.ok (.c m'.length)) (m' ++ [some c])) := by
  unfold mCl; rw [wE_bind]
  exact wE_on fun c m' => ⟨fun ⟨_, _, e, h⟩ => by cases e; exact h, fun h => ⟨_, _, rfl, h⟩⟩
theorem wE_lst {f : M (List U)} {Q : Except Xc C → Mem → Prop} : wE (mLst f) fr m Q ↔ wE f fr m (onOk Q fun us m' => wO (allV us) fun ts => ts.length ≤ sizeLine ∧ Q (.ok (.t (.lst ts))) m') := by
  unfold mLst; rw [wE_bind]
  exact wE_on fun us m' => by
    cases allV us with
    | none => rw [wE_stuck, wO_none]
    | some ts =>
      rw [wO_some]; dsimp only
      by_cases h : ts.length ≤ sizeLine <;> simp [h, wE_pure, wE_stuck]
theorem wE_tup {f : M (List U)} {Q : Except Xc U → Mem → Prop} : wE (mTup f) fr m Q ↔ wE f fr m (onOk Q fun us m' => wO (allV us) fun ts => ts.length ≤ sizeLine ∧ Q (.ok (.v (.tup ts))) m') := by
  unfold mTup; rw [wE_bind]
  exact wE_on fun us m' => by
    cases allV us with
    | none => rw [wE_stuck, wO_none]
    | some ts =>
      rw [wO_some]; dsimp only
      by_cases h : ts.length ≤ sizeLine <;> simp [h, wE_pure, wE_stuck]
theorem wO_allV_nil {Q : List T → Prop} : wO (allV []) Q ↔ Q [] := wO_some
theorem wO_allV_cons {t : T} {us : List U} {Q : List T → Prop} : wO (allV (.v t :: us)) Q ↔ wO (allV us) fun ts => Q (t :: ts) := by
  rw [allV]
  cases allV us <;> simp [wO]
/-! ### calls -/
theorem wE_call {n : Nat} {F : Fn} {g : M (List U)} {Q : Except Xc U → Mem → Prop} : wE (mCall n F g) fr m Q ↔ wE g fr m (onOk Q fun us m' => wC n F us m' Q) := by
  unfold mCall; rw [wE_bind]; rfl
theorem wE_callC {n : Nat} {F : Fn} {g : M (List U)} {Q : Except Xc U → Mem → Prop} : wE (mCallC n F g) fr m Q ↔ wE g fr m (onOk Q fun us m' => wCC n F us m' Q) := by
  unfold mCallC; rw [wE_bind]; rfl
theorem wC_iff {n : Nat} {F : Fn} {us : List U} {Q : Except Xc U → Mem → Prop} : wC n F us m Q ↔ (us.length = n ∧ (cellsOf us).Nodup) ∧ wF F (renum 0 us) (ldM m (cellsOf us)) (retV us m Q) := by
  unfold wC callV wF
  by_cases h : us.length = n ∧ (cellsOf us).Nodup
  · rw [if_pos h]
    simp only [h, and_self, true_and]
    cases q : F (renum 0 us) (ldM m (cellsOf us)) with
    | none => simp only [wR_none]
    | some p =>
      obtain ⟨r, m1⟩ := p
      rw [wR_some]
      cases r with
      | error x => simp only [retV, wR_some]
      | ok u =>
        cases u with
        | v t => simp only [retV, wR_some]
        | c j =>
          simp only [retV]
          cases q2 : m1[j]? with
          | none => simp only [wR_none, Option.join_none, wO_none]
          | some o =>
            cases o with
            | none => simp only [wR_none, Option.join_some, wO_none]
            | some ct =>
              simp only [Option.join_some, wO_some]
              cases toT ct <;> simp only [wR_none, wR_some, wO_none, wO_some]
  · rw [if_neg h, wR_none]; exact ⟨False.elim, fun z => h z.1⟩
theorem wCC_iff {n : Nat} {F : Fn} {us : List U} {Q : Except Xc U → Mem → Prop} : wCC n F us m Q ↔ (us.length = n ∧ (cellsOf us).Nodup) ∧ wF F (renum 0 us) (ldM m (cellsOf us)) (retC us m Q) := by
  unfold wCC callC wF
  by_cases h : us.length = n ∧ (cellsOf us).Nodup
  · rw [if_pos h]
    simp only [h, and_self, true_and]
    cases q : F (renum 0 us) (ldM m (cellsOf us)) with
    | none => simp only [wR_none]
    | some p =>
      obtain ⟨r, m1⟩ := p
      rw [wR_some]
      cases r with
      | error x => simp only [retC, wR_some]
      | ok u =>
        cases u with
        | v t => simp only [retC, wR_none]
        | c j =>
          simp only [retC]
          cases q2 : m1[j]? with
          | none => simp only [wR_none, Option.join_none, wO_none]
          | some o =>
            cases o with
            | none => simp only [wR_none, Option.join_some, wO_none]
            | some ct =>
              simp only [Option.join_some, wO_some]
              by_cases h2 : (cellsOf us).length ≤ j ∧ (toT ct).isSome = true
              · rw [if_pos h2, wR_some]; exact ⟨fun z => ⟨h2, z⟩, fun z => z.2⟩
              · rw [if_neg h2, wR_none]; exact ⟨False.elim, fun z => h2 z.1⟩
  · rw [if_neg h, wR_none]; exact ⟨False.elim, fun z => h z.1⟩
theorem wF_of_eq {F : Fn} {us : List U} {r : Except Xc U} {m' : Mem} {Q : Except Xc U → Mem → Prop} (e : F us m = some (r, m')) (h : Q r m') : wF F us m Q := ⟨_, _, e, h⟩
theorem wC_of_eq {n : Nat} {F : Fn} {us : List U} {r : Except Xc U} {m' : Mem} {Q : Except Xc U → Mem → Prop} (e : callV n F us m = some (r, m')) (h : Q r m') : wC n F us m Q := ⟨_, _, e, h⟩
theorem wMk_of_eq {c : Str} {n : Nat} {F : Fn} {us : List U} {r : Except Xc C} {m' : Mem} {Q : Except Xc C → Mem → Prop} (e : makeV c n F us m = some (r, m')) (h : Q r m') : wMk c n F us m Q := ⟨_, _, e, h⟩
theorem wOwn_of_eq {c : Str} {F : Fn} {u v : U} {r : Except Xc U} {m' : Mem} {Q : Except Xc U → Mem → Prop} (e : ownAt c F u v m = some (r, m')) (h : Q r m') : wOwn c F u v m Q := ⟨_, _, e, h⟩
theorem wF_run {n : Nat} {b : MS} {us : List U} {Q : Except Xc U → Mem → Prop} : wF (runF n b) us m Q ↔ wS b (us.map some ++ List.replicate (n - us.length) none) m (onRt Q) := by
  unfold wF runF wS
  cases q : b (us.map some ++ List.replicate (n - us.length) none) m with
  | none => simp only [wR_none]
  | some p =>
    obtain ⟨r, m1⟩ := p
    cases r with
    | ex x f => simp only [onRt, wR_some]
    | fl k f => cases k <;> simp only [onRt, wR_some, wR_none]
theorem wF_mono {F : Fn} {us : List U} {Q Q' : Except Xc U → Mem → Prop} (h : wF F us m Q) (hq : ∀ r m', Q r m' → Q' r m') : wF F us m Q' := let ⟨r, m', e, q⟩ := h; ⟨r, m', e, hq r m' q⟩
theorem wE_mono {f : M α} {Q Q' : Except Xc α → Mem → Prop} (h : wE f fr m Q) (hq : ∀ r m', Q r m' → Q' r m') : wE f fr m Q' := let ⟨r, m', e, q⟩ := h; ⟨r, m', e, hq r m' q⟩
theorem wS_mono {f : MS} {Q Q' : SR → Mem → Prop} (h : wS f fr m Q) (hq : ∀ r m', Q r m' → Q' r m') : wS f fr m Q' := let ⟨r, m', e, q⟩ := h; ⟨r, m', e, hq r m' q⟩
theorem wE_meth {c mt : Str} {n : Nat} {F : Fn} {o : M U} {g : M (List U)} {Q : Except Xc U → Mem → Prop} : wE (mMeth c mt n F o g) fr m Q ↔ wE o fr m (onOk Q fun u m' => wO (insOf m' u) fun p => (p.1 = c ∧ p.2.lookup mt = none) ∧ wE g fr m' (onOk Q fun us m2 => wC n F (u :: us) m2 Q)) := by
  unfold mMeth; rw [wE_bind]
  refine wE_on fun u m' => ?_
  unfold wE
  cases q : insOf m' u with
  | none => simp only [q, wR_none, wO_none]
  | some p =>
    obtain ⟨k, fs⟩ := p
    simp only [q, wO_some]
    by_cases h : k = c ∧ fs.lookup mt = none
    · rw [if_pos h]
      exact ⟨fun z => ⟨h, wE_bind.mp z⟩, fun z => wE_bind.mpr z.2⟩
    · rw [if_neg h, wR_none]; exact ⟨False.elim, fun z => h z.1⟩
theorem wE_make {c : Str} {n : Nat} {F : Fn} {g : M (List U)} {Q : Except Xc C → Mem → Prop} : wE (mMake c n F g) fr m Q ↔ wE g fr m (onOk Q fun us m' => wMk c n F us m' Q) := by
  unfold mMake; rw [wE_bind]; rfl
theorem wE_ownEq {c : Str} {F : Fn} {a b : M U} {Q : Except Xc U → Mem → Prop} : wE (mOwnEq c F a b) fr m Q ↔ wE a fr m (onOk Q fun u m1 => wE b fr m1 (onOk Q fun w m2 => wOwn c F u w m2 Q)) := by
  unfold mOwnEq; rw [wE_bind]; simp only [wE_bind]; rfl
def notQ (Q : Except Xc U → Mem → Prop) : Except Xc U → Mem → Prop
  | .ok u, m => wO (isBl u) fun b => Q (.ok (.v (.bl (!b)))) m
  | .error _, _ => False
theorem notQ_ok {Q : Except Xc U → Mem → Prop} {u : U} : notQ Q (.ok u) m = wO (isBl u) fun b => Q (.ok (.v (.bl (!b)))) m := rfl
theorem wE_ownNe {c : Str} {F : Fn} {a b : M U} {Q : Except Xc U → Mem → Prop} : wE (mOwnNe c F a b) fr m Q ↔ wE a fr m (onOk Q fun u m1 => wE b fr m1 (onOk Q fun w m2 => wOwn c F u w m2 (notQ Q))) := by
  unfold mOwnNe; rw [wE_bind]; simp only [wE_bind]
  refine wE_on fun u m1 => wE_on fun w m' => ?_
  show wR (notX (ownAt c F u w m')) Q ↔ wR (ownAt c F u w m') (notQ Q)
  cases q : ownAt c F u w m' with
  | none => simp only [notX, wR_none]
  | some p =>
    obtain ⟨r, m1⟩ := p
    cases r with
    | error x => simp only [notX, notQ, wR_none, wR_some]
    | ok u =>
      cases u with
      | c j => simp only [notX, notQ, isBl, wR_none, wR_some, wO_none]
      | v t => cases t <;> simp only [notX, notQ, isBl, wR_none, wR_some, wO_none, wO_some]
theorem wO_fld {c f : Str} {u : U} {Q : U × Mem → Prop} : wO (pFld c f u m) Q ↔ wO (insOf m u) fun p => p.1 = c ∧ wO (p.2.lookup f) fun w => Q (w, m) := by
  unfold pFld
  cases insOf m u with
  | none => simp only [wO_none]
  | some p =>
    obtain ⟨k, fs⟩ := p
    rw [wO_some]; dsimp only
    by_cases h : k = c
    · rw [if_pos h]
      cases fs.lookup f <;> simp [wO_none, wO_some, h]
    · rw [if_neg h]; simp [wO_none, h]
/-! ### statements -/
theorem wS_next {Q : SR → Mem → Prop} : wS sNext fr m Q ↔ Q (.fl .nx fr) m := ⟨fun ⟨_, _, e, h⟩ => by cases e; exact h, fun h => ⟨_, _, rfl, h⟩⟩
theorem wS_cont {Q : SR → Mem → Prop} : wS sCont fr m Q ↔ Q (.fl .ct fr) m := ⟨fun ⟨_, _, e, h⟩ => by cases e; exact h, fun h => ⟨_, _, rfl, h⟩⟩
theorem wS_break {Q : SR → Mem → Prop} : wS sBreak fr m Q ↔ Q (.fl .bk fr) m := ⟨fun ⟨_, _, e, h⟩ => by cases e; exact h, fun h => ⟨_, _, rfl, h⟩⟩
theorem wS_never {Q : SR → Mem → Prop} : wS sNever fr m Q ↔ False := ⟨fun ⟨_, _, e, _⟩ => (nomatch e), False.elim⟩
theorem wS_bind {f : M α} {k : α → MS} {Q : SR → Mem → Prop} : wS (sBind f k) fr m Q ↔ wE f fr m (onSt fr Q fun a m' => wS (k a) fr m' Q) := by
  unfold wS wE sBind
  cases q : f fr m with
  | none => simp only [wR_none]
  | some p =>
    obtain ⟨r1, m1⟩ := p
    cases r1 <;> simp only [wR_some, onSt]
theorem wS_seq {f g : MS} {Q : SR → Mem → Prop} : wS (sSeq f g) fr m Q ↔ wS f fr m (onNx Q fun fr' m' => wS g fr' m' Q) := by
  unfold wS sSeq
  cases q : f fr m with
  | none => simp only [wR_none]
  | some p =>
    obtain ⟨r1, m1⟩ := p
    cases r1 with
    | ex x f1 => simp only [wR_some, onNx]
    | fl k f1 => cases k <;> simp only [wR_some, onNx]
theorem wS_if {t : M Bool} {f g : MS} {Q : SR → Mem → Prop} : wS (sIf t f g) fr m Q ↔ wE t fr m (onSt fr Q fun b m' => (b = true → wS f fr m' Q) ∧ (b = false → wS g fr m' Q)) := by
  unfold sIf; rw [wS_bind]
  exact wE_onS fun b m' => by cases b <;> simp
theorem wS_ret {f : M U} {Q : SR → Mem → Prop} : wS (sRet f) fr m Q ↔ wE f fr m (onSt fr Q fun u m' => Q (.fl (.rt u) fr) m') := by
  unfold sRet; rw [wS_bind]
  exact wE_onS fun u m' => ⟨fun ⟨_, _, e, h⟩ => by cases e; exact h, fun h => ⟨_, _, rfl, h⟩⟩
theorem wS_expr {f : M U} {Q : SR → Mem → Prop} : wS (sExpr f) fr m Q ↔ wE f fr m (onSt fr Q fun u m' => Q (.fl .nx fr) m') := by
  unfold sExpr; rw [wS_bind]; simp only [wS_next]
theorem wS_asg {f : M U} {g : Tg} {Q : SR → Mem → Prop} : wS (sAsg f g) fr m Q ↔ wE f fr m (onSt fr Q fun u m' => wO (g u fr) fun fr' => Q (.fl .nx fr') m') := by
  unfold sAsg; rw [wS_bind]
  refine wE_onS fun u m' => ?_
  unfold wS
  cases q : g u fr with
  | none => simp only [q, wR_none, wO_none]
  | some fr' => simp only [q, wR_some, wO_some]
theorem wO_gN {i : Nat} {u : U} {Q : Fr → Prop} : wO (gN i u fr) Q ↔ Q (fr.set i (some u)) := wO_some
theorem wO_gT {h : Tgs} {ts : List T} {Q : Fr → Prop} : wO (gT h (.v (.tup ts)) fr) Q ↔ wO (h ts fr) Q := Iff.rfl
theorem wO_gTr {h : Tgs} {ts : List T} {Q : Fr → Prop} : wO (gT h (.v (.rot ts)) fr) Q ↔ wO (h ts fr) Q := Iff.rfl
theorem wO_gCons {g : Tg} {h : Tgs} {t : T} {ts : List T} {Q : Fr → Prop} : wO (gCons g h (t :: ts) fr) Q ↔ wO (g (.v t) fr) fun fr' => wO (h ts fr') Q := by
  unfold gCons
  cases q : g (.v t) fr <;> simp [wO, q]
theorem wO_gNil {Q : Fr → Prop} : wO (gNil [] fr) Q ↔ Q fr := wO_some
def forSel (g : Tg) (b : MS) : Src → MS
  | (ts, none) => sForL g b ts
  | (ts, some i) => sLock i (sForL g b ts)
theorem forSel_none {g : Tg} {b : MS} {ts : List T} : forSel g b (ts, none) = sForL g b ts := rfl
theorem forSel_some {g : Tg} {b : MS} {ts : List T} {i : Nat} : forSel g b (ts, some i) = sLock i (sForL g b ts) := rfl
theorem wS_for {it : M Src} {g : Tg} {b : MS} {Q : SR → Mem → Prop} : wS (sFor it g b) fr m Q ↔ wE it fr m (onSt fr Q fun p m' => wS (forSel g b p) fr m' Q) := by
  unfold sFor; rw [wS_bind]
  refine wE_onS fun p m' => ?_
  obtain ⟨ts, o⟩ := p
  cases o <;> exact Iff.rfl
theorem wS_lock {i : Nat} {b : MS} {t : C} {Q : SR → Mem → Prop} (h : m[i]? = some (some t)) : wS (sLock i b) fr m Q ↔ wS b fr (m.set i none) fun r m' => Q r (m'.set i (some t)) := by
  unfold wS sLock lockO
  rw [h]
  dsimp only
  cases b fr (m.set i none) with
  | none => simp only [wR_none]
  | some p => obtain ⟨r, m1⟩ := p; simp only [wR_some]
theorem wE_lock {f : M α} {i : Nat} {t : C} {Q : Except Xc α → Mem → Prop} (h : m[i]? = some (some t)) : wE (mLock i f) fr m Q ↔ wE f fr (m.set i none) fun r m' => Q r (m'.set i (some t)) := by
  unfold wE mLock lockO
  rw [h]
  dsimp only
  cases f fr (m.set i none) with
  | none => simp only [wR_none]
  | some p => obtain ⟨r, m1⟩ := p; simp only [wR_some]
theorem wS_forL_nil {g : Tg} {b : MS} {Q : SR → Mem → Prop} : wS (sForL g b []) fr m Q ↔ Q (.fl .nx fr) m := wS_next
theorem wS_turn {b k : MS} {Q : SR → Mem → Prop} : wS (sTurn b k) fr m Q ↔ wS b fr m (onLp Q fun fr' m' => wS k fr' m' Q) := by
  unfold wS sTurn
  cases q : b fr m with
  | none => simp only [wR_none]
  | some p =>
    obtain ⟨r, m1⟩ := p
    cases r with
    | ex x f1 => simp only [wR_some, onLp]
    | fl k f1 => cases k <;> simp only [wR_some, onLp]
theorem wS_forL_cons {g : Tg} {b : MS} {t : T} {ts : List T} {Q : SR → Mem → Prop} : wS (sForL g b (t :: ts)) fr m Q ↔ wO (g (.v t) fr) fun fr' => wS b fr' m (onLp Q fun fr'' m' => wS (sForL g b ts) fr'' m' Q) := by
  unfold wS
  rw [sForL]
  cases q : g (.v t) fr with
  | none => simp only [q, wR_none, wO_none]
  | some fr' =>
    simp only [q]
    rw [wO_some]
    exact wS_turn
/-- a for-loop by an invariant over the turns -/
theorem wS_forL {g : Tg} {b : MS} {ts : List T} {Q : SR → Mem → Prop} (I : Nat → Fr → Mem → Prop) (h0 : I 0 fr m)
    (hs : ∀ (i : Nat) (t : T) (fr : Fr) (m : Mem), ts[i]? = some t → I i fr m → wO (g (.v t) fr) fun fr' => wS b fr' m (onLp Q fun fr'' m' => I (i + 1) fr'' m'))
    (hq : ∀ (fr : Fr) (m : Mem), I ts.length fr m → Q (.fl .nx fr) m) : wS (sForL g b ts) fr m Q := by
  induction ts generalizing fr m I with
  | nil => exact wS_forL_nil.mpr (hq _ _ h0)
  | cons t ts ih =>
    rw [wS_forL_cons]
    refine wO_mono (hs 0 t fr m rfl h0) fun fr' h => wS_mono h fun r m' hr => ?_
    have k : ∀ (fr : Fr) (m : Mem), I 1 fr m → wS (sForL g b ts) fr m Q := fun fr m h1 => ih (fun i => I (i + 1)) h1 (fun i u fr m hu hI => hs (i + 1) u fr m (by simpa using hu) hI) (fun fr m h => hq fr m (by simpa using h))
    cases r with
    | ex x f1 => exact hr
    | fl q f1 =>
      cases q with
      | nx => exact k _ _ hr
      | ct => exact k _ _ hr
      | bk => exact hr
      | rt u => exact hr
/-- one invariant for all turns -/
theorem wS_forI {g : Tg} {b : MS} {ts : List T} {Q : SR → Mem → Prop} (I : Fr → Mem → Prop) (h0 : I fr m)
    (hs : ∀ (t : T) (fr : Fr) (m : Mem), t ∈ ts → I fr m → wO (g (.v t) fr) fun fr' => wS b fr' m (onLp Q fun fr'' m' => I fr'' m'))
    (hq : ∀ (fr : Fr) (m : Mem), I fr m → Q (.fl .nx fr) m) : wS (sForL g b ts) fr m Q :=
  wS_forL (fun _ => I) h0 (fun i t fr m ht hI => hs t fr m (List.mem_of_getElem? ht) hI) hq
/-- a while-loop by an invariant and a measure -/
theorem wS_while {t : M Bool} {b : MS} {Q : SR → Mem → Prop} (I : Nat → Fr → Mem → Prop) {k : Nat} (h0 : I k fr m)
    (hs : ∀ (k : Nat) (fr : Fr) (m : Mem), I k fr m → wE t fr m (onSt fr Q fun c m' => (c = true → wS b fr m' (onLp Q fun fr'' m' => ∃ k', k' < k ∧ I k' fr'' m')) ∧ (c = false → Q (.fl .nx fr) m'))) :
    ∀ {n : Nat}, k < n → wS (sWhile n t b) fr m Q := by
  intro n hn
  induction n generalizing k fr m with
  | zero => omega
  | succ n ih =>
    rw [sWhile, wS_bind]
    refine wE_mono (hs k fr m h0) fun r m' hr => ?_
    cases r with
    | error x => exact hr
    | ok c =>
      obtain ⟨h1, h2⟩ := hr
      cases c with
      | false => exact wS_next.mpr (h2 rfl)
      | true =>
        show wS (sTurn b (sWhile n t b)) fr m' Q
        rw [wS_turn]
        refine wS_mono (h1 rfl) fun r m'' hr => ?_
        have z : ∀ (fr : Fr) (m : Mem), (∃ k', k' < k ∧ I k' fr m) → wS (sWhile n t b) fr m Q := fun fr m ⟨k', hk, hI⟩ => ih hI (by omega)
        cases r with
        | ex x f1 => exact hr
        | fl q f1 =>
          cases q with
          | nx => exact z _ _ hr
          | ct => exact z _ _ hr
          | bk => exact hr
          | rt u => exact hr
/-! ### sources of loops -/
theorem wE_src {F : List T → List T} {t : T} {Q : Except Xc Src → Mem → Prop} : wE (srcL F (.v t)) fr m Q ↔ wO (isL t) fun ts => Q (.ok (F ts, none)) m := by
  unfold wE srcL
  dsimp only
  cases isL t <;> simp only [wR_none, wR_some, wO_none, wO_some]
/-- what a cell's list holds -/
def lstAt (m : Mem) (i : Nat) : Option (List T) := match m[i]? with
  | some (some (.t (.lst ts))) => some ts
  | _ => none
theorem wE_srcC {F : List T → List T} {i : Nat} {Q : Except Xc Src → Mem → Prop} : wE (srcL F (.c i)) fr m Q ↔ wO (lstAt m i) fun ts => Q (.ok (F ts, some i)) m := by
  unfold wE srcL lstAt
  dsimp only
  split
  · rename_i h; simp only [h, wR_some, wO_some]
  · rename_i h
    rw [wR_none]
    first
      | rw [wO_none]
      | (split
         · rename_i h2; exact absurd h2 (h _)
         · rw [wO_none])
theorem wE_itL {f : M U} {Q : Except Xc Src → Mem → Prop} : wE (mItL f) fr m Q ↔ wE f fr m (onOk Q fun u m' => wE (srcL id u) fr m' Q) := wE_bind
def one1 {α : Type} : List α → Option α
  | [u] => some u
  | _ => none
theorem wE_itE {f : M (List U)} {Q : Except Xc Src → Mem → Prop} : wE (mItE f) fr m Q ↔ wE f fr m (onOk Q fun us m' => wO (one1 us) fun u => wE (srcL enumT u) fr m' Q) := by
  unfold mItE; rw [wE_bind]
  exact wE_on fun us m' => by
    match us with
    | [] => simp [one1, wE_stuck, wO_none]
    | [u] => simp [one1, wO_some]
    | _ :: _ :: _ => simp [one1, wE_stuck, wO_none]
theorem wE_itR {F : List U → Option (List T)} {f : M (List U)} {Q : Except Xc Src → Mem → Prop} : wE (mItR F f) fr m Q ↔ wE f fr m (onOk Q fun us m' => wO (F us) fun ts => Q (.ok (ts, none)) m') := by
  unfold mItR; rw [wE_bind]
  exact wE_on fun us m' => by
    cases F us with
    | none => rw [wE_stuck, wO_none]
    | some ts => rw [wE_pure, wO_some]
theorem wE_small {f : M Src} {Q : Except Xc Src → Mem → Prop} : wE (mSmall f) fr m Q ↔ wE f fr m (onOk Q fun s m' => s.1.length ≤ sizeLine ∧ Q (.ok s) m') := by
  unfold mSmall; rw [wE_bind]
  exact wE_on fun s m' => by
    by_cases h : s.1.length ≤ sizeLine <;> simp [h, wE_pure, wE_stuck]
def isSt : U → Option Str
  | .v (.str z) => some z
  | _ => none
theorem wE_itS {f : M U} {Q : Except Xc Src → Mem → Prop} : wE (mItS f) fr m Q ↔ wE f fr m (onOk Q fun u m' => wO (isSt u) fun z => Q (.ok (strT z, none)) m') := by
  unfold mItS; rw [wE_bind]
  exact wE_on fun u m' => by
    cases u with
    | c j => simp [isSt, wE_stuck, wO_none]
    | v t => cases t <;> simp [isSt, wE_stuck, wO_none, wO_some, wE_pure]
/-! ### comprehensions -/
def wL (g : Tg) (t : M Bool) (e : M U) (fr0 : Fr) (xs : List T) (m : Mem) (Q : List T → Mem → Prop) : Prop := wR (compL g t e fr0 xs m) Q
theorem wE_compM {g : Tg} {t : M Bool} {e : M U} {vs : List Nat} {ts : List T} {Q : Except Xc C → Mem → Prop} : wE (compM g t e vs ts) fr m Q ↔ wL g t e (wipeT fr vs) ts m fun ys m' => Q (.ok (.t (.lst ys))) m' := by
  unfold wE compM wL
  cases compL g t e (wipeT fr vs) ts m with
  | none => simp only [wR_none]
  | some p => obtain ⟨ys, m1⟩ := p; simp only [wR_some]
def compSel (g : Tg) (t : M Bool) (e : M U) (vs : List Nat) : Src → M C
  | (ts, none) => compM g t e vs ts
  | (ts, some i) => mLock i (compM g t e vs ts)
theorem compSel_none {g : Tg} {t : M Bool} {e : M U} {vs : List Nat} {ts : List T} : compSel g t e vs (ts, none) = compM g t e vs ts := rfl
theorem compSel_some {g : Tg} {t : M Bool} {e : M U} {vs : List Nat} {ts : List T} {i : Nat} : compSel g t e vs (ts, some i) = mLock i (compM g t e vs ts) := rfl
theorem wE_comp {it : M Src} {g : Tg} {t : M Bool} {e : M U} {vs : List Nat} {Q : Except Xc C → Mem → Prop} : wE (mComp it g t e vs) fr m Q ↔ wE it fr m (onOk Q fun p m' => wE (compSel g t e vs p) fr m' Q) := by
  unfold mComp; rw [wE_bind]
  refine wE_on fun p m' => ?_
  obtain ⟨ts, o⟩ := p
  cases o <;> exact Iff.rfl
def onC (P : Bool → Mem → Prop) : Except Xc Bool → Mem → Prop
  | .ok b, m => P b m
  | .error _, _ => False
def onV (P : T → Mem → Prop) : Except Xc U → Mem → Prop
  | .ok (.v t), m => P t m
  | _, _ => False
theorem onC_ok {P : Bool → Mem → Prop} {b : Bool} : onC P (.ok b) m = P b m := rfl
theorem onV_ok {P : T → Mem → Prop} {t : T} : onV P (.ok (.v t)) m = P t m := rfl
theorem wL_nil {g : Tg} {t : M Bool} {e : M U} {fr0 : Fr} {Q : List T → Mem → Prop} : wL g t e fr0 [] m Q ↔ Q [] m := ⟨fun ⟨_, _, e, h⟩ => by cases e; exact h, fun h => ⟨_, _, rfl, h⟩⟩
theorem wL_cons {g : Tg} {t : M Bool} {e : M U} {fr0 : Fr} {x : T} {xs : List T} {Q : List T → Mem → Prop} : wL g t e fr0 (x :: xs) m Q ↔ wO (g (.v x) fr0) fun fr' => wE t fr' m (onC fun b m1 =>
    (b = true → wE e fr' m1 (onV fun y m2 => wL g t e fr0 xs m2 fun ys m3 => Q (y :: ys) m3)) ∧ (b = false → wL g t e fr0 xs m1 Q)) := by
  unfold wL
  rw [compL]
  cases g (.v x) fr0 with
  | none => simp only [wR_none, wO_none]
  | some fr' =>
    rw [wO_some]
    unfold wE
    cases q : t fr' m with
    | none => simp only [q, wR_none]
    | some p =>
      obtain ⟨r, m1⟩ := p
      cases r with
      | error x => simp only [q, onC, wR_none, wR_some]
      | ok b =>
        cases b with
        | false => simp [q, onC, wR_some]
        | true =>
          simp only [q, onC, wR_some]
          cases q2 : e fr' m1 with
          | none => simp [wR_none]
          | some p2 =>
            obtain ⟨r2, m2⟩ := p2
            cases r2 with
            | error x => simp [onV, wR_none, wR_some]
            | ok u =>
              cases u with
              | c j => simp [onV, wR_none, wR_some]
              | v y =>
                cases q3 : compL g t e fr0 xs m2 with
                | none => simp [onV, wR_none, wR_some, q3]
                | some p3 => obtain ⟨ys, m3⟩ := p3; simp [onV, wR_some, q3]
/-- a comprehension by an invariant over what is found so far -/
theorem wL_inv {g : Tg} {t : M Bool} {e : M U} {fr0 : Fr} {xs : List T} {Q : List T → Mem → Prop} (I : Nat → List T → Mem → Prop) (h0 : I 0 [] m)
    (hs : ∀ (i : Nat) (x : T) (ys : List T) (m : Mem), xs[i]? = some x → I i ys m → wO (g (.v x) fr0) fun fr' => wE t fr' m (onC fun b m1 =>
      (b = true → wE e fr' m1 (onV fun y m2 => I (i + 1) (ys ++ [y]) m2)) ∧ (b = false → I (i + 1) ys m1)))
    (hq : ∀ (ys : List T) (m : Mem), I xs.length ys m → Q ys m) : wL g t e fr0 xs m Q := by
  suffices h : ∀ (xs : List T) (k : Nat) (ys : List T) (m : Mem) (Q : List T → Mem → Prop), I k ys m →
      (∀ (i : Nat) (x : T) (ys : List T) (m : Mem), xs[i]? = some x → I (k + i) ys m → wO (g (.v x) fr0) fun fr' => wE t fr' m (onC fun b m1 =>
        (b = true → wE e fr' m1 (onV fun y m2 => I (k + i + 1) (ys ++ [y]) m2)) ∧ (b = false → I (k + i + 1) ys m1))) →
      (∀ (zs : List T) (m : Mem), I (k + xs.length) (ys ++ zs) m → Q zs m) → wL g t e fr0 xs m Q from
    h xs 0 [] m Q h0 (fun i x ys m hx hI => by rw [Nat.zero_add] at hI ⊢; exact hs i x ys m hx hI) fun zs m hI => hq zs m (by simpa using hI)
  intro xs
  induction xs with
  | nil => exact fun k ys m Q h0 _ hq => wL_nil.mpr (hq [] m (by simpa using h0))
  | cons x xs ih =>
    intro k ys m Q h0 hs hq
    rw [wL_cons]
    refine wO_mono (hs 0 x ys m rfl h0) fun fr' h => wE_mono h fun r m1 hr => ?_
    have step : ∀ (ys' : List T) (m : Mem) (Q' : List T → Mem → Prop), I (k + 1) ys' m → (∀ zs m, I (k + 1 + xs.length) (ys' ++ zs) m → Q' zs m) → wL g t e fr0 xs m Q' := fun ys' m Q' h1 h2 =>
      ih (k + 1) ys' m Q' h1 (fun i x ys m hx hI => by
        have := hs (i + 1) x ys m (by simpa using hx) (by rw [show k + (i + 1) = k + 1 + i by omega]; exact hI)
        rw [show k + (i + 1) + 1 = k + 1 + i + 1 by omega] at this
        exact this) h2
    cases r with
    | error x => exact hr
    | ok b =>
      refine ⟨fun hb => wE_mono (hr.1 hb) fun r2 m2 h2 => ?_, fun hb => step ys m1 Q (hr.2 hb) fun zs m h => hq zs m (by rw [show k + (x :: xs).length = k + 1 + xs.length by simp; omega]; exact h)⟩
      cases r2 with
      | error x => exact h2
      | ok u =>
        cases u with
        | c j => exact h2
        | v y => exact step (ys ++ [y]) m2 _ h2 fun zs m h => hq (y :: zs) m (by rw [show k + (x :: xs).length = k + 1 + xs.length by simp; omega]; simpa using h)
/-- a comprehension that draws on nothing, by a function -/
theorem wL_map {g : Tg} {t : M Bool} {e : M U} {fr0 : Fr} {xs : List T} {Q : List T → Mem → Prop} (f : T → Option T)
    (hs : ∀ x ∈ xs, wO (g (.v x) fr0) fun fr' => wE t fr' m (onC fun b m1 => m1 = m ∧ (b = true → wE e fr' m (onV fun y m2 => m2 = m ∧ f x = some y)) ∧ (b = false → f x = none)))
    (hq : Q (xs.filterMap f) m) : wL g t e fr0 xs m Q := by
  induction xs generalizing Q with
  | nil => exact wL_nil.mpr hq
  | cons x xs ih =>
    rw [wL_cons]
    refine wO_mono (hs x List.mem_cons_self) fun fr' h => wE_mono h fun r m1 hr => ?_
    have hs' := fun y hy => hs y (List.mem_cons_of_mem _ hy)
    cases r with
    | error x => exact hr
    | ok b =>
      obtain ⟨rfl, h1, h2⟩ := hr
      refine ⟨fun hb => wE_mono (h1 hb) fun r2 m2 h3 => ?_, fun hb => ih hs' (by rw [List.filterMap_cons_none (h2 hb)] at hq; exact hq)⟩
      cases r2 with
      | error x => exact h3
      | ok u =>
        cases u with
        | c j => exact h3
        | v y =>
          obtain ⟨rfl, h4⟩ := h3
          exact ih hs' (by rw [List.filterMap_cons_some h4] at hq; exact hq)
end
end G

/-! G23: more steps by continuations. -/
namespace G
open PySem L2
section
variable {α β γ : Type} {fr : Fr} {m : Mem}
theorem wE_raw {f : Mem → Option (Except Xc α × Mem)} {Q : Except Xc α → Mem → Prop} : wE (fun _ m => f m) fr m Q ↔ wR (f m) Q := Iff.rfl
theorem wE_list {f : M (List U)} {Q : Except Xc C → Mem → Prop} : wE (mList f) fr m Q ↔ wE f fr m (onOk Q fun us m' => wO (derefs m' us) fun ts => wO (one1 ts) fun t => wO (seqOf t) fun xs => Q (.ok (.t (.lst xs))) m') := by
  unfold mList; rw [wE_bind]
  refine wE_on fun us m' => ?_
  unfold wE
  cases q : derefs m' us with
  | none => simp only [q, wR_none, wO_none]
  | some ts =>
    rw [wO_some]
    match ts with
    | [] => simp only [q, one1, wR_none, wO_none]
    | [t] => cases q2 : seqOf t <;> simp only [q, q2, one1, wR_none, wR_some, wO_none, wO_some]
    | _ :: _ :: _ => simp only [q, one1, wR_none, wO_none]
theorem wE_sorted {f : M (List U)} {Q : Except Xc C → Mem → Prop} : wE (mSorted f) fr m Q ↔ wE f fr m (onOk Q fun us m' => wO (derefs m' us) fun ts => wO (one1 ts) fun t => wO (lstOf t) fun xs => wO (sortT xs) fun ys => Q (.ok (.t (.lst ys))) m') := by
  unfold mSorted; rw [wE_bind]
  refine wE_on fun us m' => ?_
  unfold wE
  cases q : derefs m' us with
  | none => simp only [q, wR_none, wO_none]
  | some ts =>
    rw [wO_some]
    match ts with
    | [] => simp only [q, one1, wR_none, wO_none]
    | [t] =>
      cases q2 : lstOf t with
      | none => simp only [q, q2, one1, wR_none, wO_none, wO_some]
      | some xs => cases q3 : sortT xs <;> simp only [q, q2, q3, one1, wR_none, wR_some, wO_none, wO_some]
    | _ :: _ :: _ => simp only [q, one1, wR_none, wO_none]
theorem wE_noPart {Q : Except Xc (Option Int) → Mem → Prop} : wE mNoPart fr m Q ↔ Q (.ok none) m := wE_pure
def isInt : U → Option Int
  | .v (.int i) => some i
  | _ => none
theorem wE_part {f : M U} {Q : Except Xc (Option Int) → Mem → Prop} : wE (mPart f) fr m Q ↔ wE f fr m (onOk Q fun u m' => wO (isInt u) fun i => Q (.ok (some i)) m') := by
  unfold mPart; rw [wE_bind]
  refine wE_on fun u m' => ?_
  cases u with
  | c j => simp [isInt, wE_stuck, wO_none]
  | v t => cases t <;> simp [isInt, wE_stuck, wO_none, wO_some, wE_pure]
theorem wE_sl {f : M U} {l h : M (Option Int)} {Q : Except Xc U → Mem → Prop} : wE (mSl f l h) fr m Q ↔ wE f fr m (onOk Q fun u m1 => wE l fr m1 (onOk Q fun lo m2 => wE h fr m2 (onOk Q fun hi m3 => wO (deref m3 u) fun t => wO (slP t lo hi) fun r => Q (.ok (.v r)) m3))) := by
  unfold mSl; simp only [wE_bind]
  refine wE_on fun u m1 => wE_on fun lo m2 => wE_on fun hi m3 => ?_
  unfold wE
  cases q : deref m3 u with
  | none => simp only [q, wR_none, wO_none]
  | some t => cases q2 : slP t lo hi <;> simp only [q, q2, wR_none, wR_some, wO_none, wO_some]
theorem wE_mtL {p : U → List U → Mem → Option (U × Mem)} {f : M U} {g : M (List U)} {Q : Except Xc U → Mem → Prop} : wE (mMtL p f g) fr m Q ↔ wE f fr m (onOk Q fun u m' => isLst m' u = true ∧ wE g fr m' (onOk Q fun us m2 => wO (p u us m2) fun p => Q (.ok p.1) p.2)) := by
  unfold mMtL; rw [wE_bind]
  refine wE_on fun u m' => ?_
  unfold wE
  by_cases h : isLst m' u = true
  · simp only [if_pos h]
    refine ⟨fun z => ⟨h, ?_⟩, fun z => ?_⟩
    · have := wE_bind.mp z
      simp only [wE_lift] at this
      exact this
    · refine wE_bind.mpr ?_
      simp only [wE_lift]
      exact z.2
  · simp only [if_neg h, wR_none]; exact ⟨False.elim, fun z => h z.1⟩
theorem wS_setL {fv fo fi : M U} {Q : SR → Mem → Prop} : wS (sSetL fv fo fi) fr m Q ↔ wE fv fr m (onSt fr Q fun uv m1 => wE fo fr m1 (onSt fr Q fun uo m2 => wE fi fr m2 (onSt fr Q fun ui m3 => wR (match uo, ui, uv with
    | .c i, .v (.int k), .v t => match m3[i]? with
      | some (some (.t (.lst ts))) => match L2.ixN ts.length k with
        | some j => some (SR.fl .nx fr, m3.set i (some (.t (.lst (ts.set j t)))))
        | none => none
      | _ => none
    | _, _, _ => none) Q))) := by
  unfold sSetL; simp only [wS_bind]; rfl
theorem wS_fld {cl f : Str} {fo fv : M U} {Q : SR → Mem → Prop} : wS (sFldT cl f fo fv) fr m Q ↔ wE fv fr m (onSt fr Q fun uv m1 => wE fo fr m1 (onSt fr Q fun uo m2 => wR (match uo with
    | .c i => match m2[i]? with
      | some (some (.ins n fs)) => if n = cl ∧ fs.length < 1000 then some (SR.fl .nx fr, m2.set i (some (.ins n (putU f uv fs)))) else none
      | _ => none
    | _ => none) Q)) := by
  unfold sFldT; simp only [wS_bind]; rfl
theorem wS_dput {fv fd fk : M U} {Q : SR → Mem → Prop} : wS (sDPutT fv fd fk) fr m Q ↔ wE fv fr m (onSt fr Q fun uv m1 => wE fd fr m1 (onSt fr Q fun ud m2 => wE fk fr m2 (onSt fr Q fun uk m3 => wR (match ud, uv with
    | .c i, .v v => match m3[i]?, deref m3 uk with
      | some (some (.t d)), some k => match dPutT d k v with
        | some d' => some (SR.fl .nx fr, m3.set i (some (.t d')))
        | none => none
      | _, _ => none
    | _, _ => none) Q))) := by
  unfold sDPutT; simp only [wS_bind]; rfl
theorem wE_dget {fd fk fx : M U} {Q : Except Xc U → Mem → Prop} : wE (mDGet fd fk fx) fr m Q ↔ wE fd fr m (onOk Q fun ud m1 => isDictU m1 ud = true ∧ wE fk fr m1 (onOk Q fun uk m2 => wE fx fr m2 (onOk Q fun ux m3 => wR (dGetM ud uk ux fr m3) Q))) := by
  unfold mDGet; rw [wE_bind]
  refine wE_on fun u m' => ?_
  unfold wE
  by_cases h : isDictU m' u = true
  · simp only [if_pos h]
    refine ⟨fun z => ⟨h, ?_⟩, fun z => ?_⟩
    · have := wE_bind.mp z
      simp only [wE_bind] at this
      exact this
    · refine wE_bind.mpr ?_
      simp only [wE_bind]
      exact z.2
  · simp only [if_neg h, wR_none]; exact ⟨False.elim, fun z => h z.1⟩
theorem wE_dget1 {fd fk : M U} {Q : Except Xc U → Mem → Prop} : wE (mDGet1 fd fk) fr m Q ↔ wE fd fr m (onOk Q fun ud m1 => isDictU m1 ud = true ∧ wE fk fr m1 (onOk Q fun uk m2 => wR (dGetM ud uk (.v .non) fr m2) Q)) := by
  unfold mDGet1; rw [wE_bind]
  refine wE_on fun u m' => ?_
  unfold wE
  by_cases h : isDictU m' u = true
  · simp only [if_pos h]
    exact ⟨fun z => ⟨h, wE_bind.mp z⟩, fun z => wE_bind.mpr z.2⟩
  · simp only [if_neg h, wR_none]; exact ⟨False.elim, fun z => h z.1⟩
theorem wE_dnewT {Q : Except Xc C → Mem → Prop} : wE mDNewT fr m Q ↔ Q (.ok (.t (.dT []))) m := wE_pure
theorem wE_dnewK {Q : Except Xc C → Mem → Prop} : wE mDNewK fr m Q ↔ Q (.ok (.t (.dK []))) m := wE_pure
theorem wE_yes {Q : Except Xc Bool → Mem → Prop} : wE mYes fr m Q ↔ Q (.ok true) m := wE_pure
def isDTu : U → Option (List (List Key × T))
  | .v (.dT kts) => some kts
  | _ => none
theorem wE_itI {f : M U} {Q : Except Xc Src → Mem → Prop} : wE (mItI f) fr m Q ↔ wE f fr m (onOk Q fun u m' => wO (isDTu u) fun kts => Q (.ok (itemsT kts, none)) m') := by
  unfold mItI; rw [wE_bind]
  refine wE_on fun u m' => ?_
  unfold wE
  cases u with
  | c j => simp only [isDTu, wR_none, wO_none]
  | v t => cases t <;> simp only [isDTu, wR_none, wO_none, wR_some, wO_some]
def isTpU : U → Option (List T)
  | .v t => isTp t
  | _ => none
theorem wE_itT {f : M U} {Q : Except Xc Src → Mem → Prop} : wE (mItT f) fr m Q ↔ wE f fr m (onOk Q fun u m' => wO (isTpU u) fun ts => Q (.ok (ts, none)) m') := by
  unfold mItT; rw [wE_bind]
  refine wE_on fun u m' => ?_
  cases u with
  | c j => simp [isTpU, wE_stuck, wO_none]
  | v t => cases q : isTp t <;> simp [isTpU, q, wE_stuck, wO_none, wO_some, wE_pure]
/-- making an object -/
def mkQ (cl : Str) (us : List U) (m : Mem) (Q : Except Xc C → Mem → Prop) : Except Xc U → Mem → Prop
  | .ok (.v .non), m1 => wR (match m1[(cellsOf us).length]? with
      | some (some (.ins k fs)) => match frzF fs m1 with
        | some (ts, m2) => match m2[(cellsOf us).length]? with
          | some (some _) => some (Except.ok (.ins k (vF ts)), stM m (cellsOf us) (m2.set (cellsOf us).length none))
          | _ => none
        | none => none
      | _ => none) Q
  | .ok _, _ => False
  | .error x, m1 => Q (.error x) (stM m (cellsOf us) m1)
theorem wMk_iff {cl : Str} {n : Nat} {F : Fn} {us : List U} {Q : Except Xc C → Mem → Prop} : wMk cl n F us m Q ↔ (us.length + 1 = n ∧ (cellsOf us).Nodup) ∧ wF F (.c (cellsOf us).length :: renum 0 us) (ldM m (cellsOf us) ++ [some (.ins cl [])]) (mkQ cl us m Q) := by
  unfold wMk makeV wF
  by_cases h : us.length + 1 = n ∧ (cellsOf us).Nodup
  · rw [if_pos h]
    simp only [h, and_self, true_and]
    cases q : F (.c (cellsOf us).length :: renum 0 us) (ldM m (cellsOf us) ++ [some (.ins cl [])]) with
    | none => simp only [wR_none]
    | some p =>
      obtain ⟨r, m1⟩ := p
      rw [wR_some]
      cases r with
      | error x => simp only [mkQ, wR_some]
      | ok u =>
        cases u with
        | c j => simp only [mkQ, wR_none]
        | v t =>
          cases t with
          | non => exact Iff.rfl
          | _ => simp only [mkQ, wR_none]
  · rw [if_neg h, wR_none]; exact ⟨False.elim, fun z => h z.1⟩
theorem wOwn_iff {cl : Str} {F : Fn} {u v : U} {Q : Except Xc U → Mem → Prop} : wOwn cl F u v m Q ↔ wO (insOf m u) fun p => (p.1 = cl ∧ otherOk cl m v = true) ∧ wC 2 F [u, v] m fun r m' => match r with | .ok w => Q (.ok w) m' | .error _ => False := by
  unfold wOwn ownAt wC
  cases insOf m u with
  | none => simp only [wR_none, wO_none]
  | some p =>
    obtain ⟨k, fs⟩ := p
    rw [wO_some]
    dsimp only
    by_cases h : k = cl ∧ otherOk cl m v = true
    · rw [if_pos h]
      simp only [h, and_self, true_and]
      cases q : callV 2 F [u, v] m with
      | none => simp only [noX, wR_none]
      | some p => obtain ⟨r, m1⟩ := p; cases r <;> simp only [noX, wR_none, wR_some]
    · rw [if_neg h, wR_none]; exact ⟨False.elim, fun z => h z.1⟩
end
end G

/-! G24: the steps by named continuations: what simp goes by. -/
namespace G
open PySem L2
abbrev QE (α : Type) := Except Xc α → Mem → Prop
abbrev QS := SR → Mem → Prop
section
variable {α β γ : Type} {fr : Fr} {m m' : Mem} {x : Xc}
@[simp] theorem wO_some' {a : α} {Q : α → Prop} : wO (some a) Q ↔ Q a := wO_some
@[simp] theorem wO_none' {Q : α → Prop} : wO none Q ↔ False := wO_none
@[simp] theorem wO_if' {c : Prop} [Decidable c] {o : Option α} {Q : α → Prop} : wO (if c then o else none) Q ↔ c ∧ wO o Q := wO_if
@[simp] theorem wR_some' {a : β} {Q : β → Mem → Prop} : wR (some (a, m)) Q ↔ Q a m := wR_some
@[simp] theorem wR_none' {Q : β → Mem → Prop} : wR none Q ↔ False := wR_none
@[simp] theorem deref_v {t : T} : deref m (.v t) = some t := rfl
/-! ### values -/
def kBind (k : α → M β) (fr : Fr) (Q : QE β) : QE α := onOk Q fun a m' => wE (k a) fr m' Q
@[simp] theorem kBind_ok {k : α → M β} {Q : QE β} {a : α} : kBind k fr Q (.ok a) m = wE (k a) fr m Q := rfl
@[simp] theorem kBind_er {k : α → M β} {Q : QE β} : kBind k fr Q (.error x) m = Q (.error x) m := rfl
@[simp] theorem w_bind {f : M α} {k : α → M β} {Q : QE β} : wE (mBind f k) fr m Q ↔ wE f fr m (kBind k fr Q) := wE_bind
@[simp] theorem w_pure {a : α} {Q : QE α} : wE (mPure a) fr m Q ↔ Q (.ok a) m := wE_pure
@[simp] theorem w_c {t : T} {Q : QE U} : wE (mC t) fr m Q ↔ Q (.ok (.v t)) m := wE_pure
def kVar (m : Mem) (Q : QE U) : U → Prop := fun u => Q (.ok u) m
@[simp] theorem kVar_eq {Q : QE U} {u : U} : kVar m Q u = Q (.ok u) m := rfl
@[simp] theorem w_var {i : Nat} {Q : QE U} : wE (mVar i) fr m Q ↔ wO fr[i]?.join (kVar m Q) := wE_var
def kU (Q : QE U) : U × Mem → Prop := fun p => Q (.ok p.1) p.2
@[simp] theorem kU_eq {Q : QE U} {u : U} : kU Q (u, m) = Q (.ok u) m := rfl
@[simp] theorem w_lift {o : Mem → Option (U × Mem)} {Q : QE U} : wE (mLift o) fr m Q ↔ wO (o m) (kU Q) := wE_lift
@[simp] theorem w_stuck {Q : QE α} : wE (stuck : M α) fr m Q ↔ False := wE_stuck
def kUn (p : U → Mem → Option (U × Mem)) (Q : QE U) : QE U := onOk Q fun a m' => wO (p a m') (kU Q)
@[simp] theorem kUn_ok {p : U → Mem → Option (U × Mem)} {Q : QE U} {a : U} : kUn p Q (.ok a) m = wO (p a m) (kU Q) := rfl
@[simp] theorem kUn_er {p : U → Mem → Option (U × Mem)} {Q : QE U} : kUn p Q (.error x) m = Q (.error x) m := rfl
@[simp] theorem w_un {p : U → Mem → Option (U × Mem)} {f : M U} {Q : QE U} : wE (mUn p f) fr m Q ↔ wE f fr m (kUn p Q) := wE_un
def kOpb (p : U → U → Mem → Option (U × Mem)) (a : U) (Q : QE U) : QE U := onOk Q fun b m2 => wO (p a b m2) (kU Q)
@[simp] theorem kOpb_ok {p : U → U → Mem → Option (U × Mem)} {Q : QE U} {a b : U} : kOpb p a Q (.ok b) m = wO (p a b m) (kU Q) := rfl
@[simp] theorem kOpb_er {p : U → U → Mem → Option (U × Mem)} {Q : QE U} {a : U} : kOpb p a Q (.error x) m = Q (.error x) m := rfl
def kOp (p : U → U → Mem → Option (U × Mem)) (g : M U) (fr : Fr) (Q : QE U) : QE U := onOk Q fun a m1 => wE g fr m1 (kOpb p a Q)
@[simp] theorem kOp_ok {p : U → U → Mem → Option (U × Mem)} {g : M U} {Q : QE U} {a : U} : kOp p g fr Q (.ok a) m = wE g fr m (kOpb p a Q) := rfl
@[simp] theorem kOp_er {p : U → U → Mem → Option (U × Mem)} {g : M U} {Q : QE U} : kOp p g fr Q (.error x) m = Q (.error x) m := rfl
@[simp] theorem w_op {p : U → U → Mem → Option (U × Mem)} {f g : M U} {Q : QE U} : wE (mOp2 p f g) fr m Q ↔ wE f fr m (kOp p g fr Q) := wE_op2
@[simp] theorem w_nil {Q : QE (List U)} : wE mNil fr m Q ↔ Q (.ok []) m := wE_pure
def kConsb (a : U) (Q : QE (List U)) : QE (List U) := onOk Q fun b m2 => Q (.ok (a :: b)) m2
@[simp] theorem kConsb_ok {a : U} {Q : QE (List U)} {b : List U} : kConsb a Q (.ok b) m = Q (.ok (a :: b)) m := rfl
@[simp] theorem kConsb_er {a : U} {Q : QE (List U)} : kConsb a Q (.error x) m = Q (.error x) m := rfl
def kCons (g : M (List U)) (fr : Fr) (Q : QE (List U)) : QE U := onOk Q fun a m1 => wE g fr m1 (kConsb a Q)
@[simp] theorem kCons_ok {g : M (List U)} {Q : QE (List U)} {a : U} : kCons g fr Q (.ok a) m = wE g fr m (kConsb a Q) := rfl
@[simp] theorem kCons_er {g : M (List U)} {Q : QE (List U)} : kCons g fr Q (.error x) m = Q (.error x) m := rfl
@[simp] theorem w_cons {f : M U} {g : M (List U)} {Q : QE (List U)} : wE (mCons f g) fr m Q ↔ wE f fr m (kCons g fr Q) := wE_cons
def kCallB (p : List U → Mem → Option (U × Mem)) (Q : QE U) : QE (List U) := onOk Q fun a m' => wO (p a m') (kU Q)
@[simp] theorem kCallB_ok {p : List U → Mem → Option (U × Mem)} {Q : QE U} {a : List U} : kCallB p Q (.ok a) m = wO (p a m) (kU Q) := rfl
@[simp] theorem kCallB_er {p : List U → Mem → Option (U × Mem)} {Q : QE U} : kCallB p Q (.error x) m = Q (.error x) m := rfl
@[simp] theorem w_callB {p : List U → Mem → Option (U × Mem)} {f : M (List U)} {Q : QE U} : wE (mCallB p f) fr m Q ↔ wE f fr m (kCallB p Q) := wE_callB
def kB (Q : QE Bool) (m : Mem) : Bool → Prop := fun b => Q (.ok b) m
@[simp] theorem kB_eq {Q : QE Bool} {b : Bool} : kB Q m b = Q (.ok b) m := rfl
def kTst (Q : QE Bool) : QE U := onOk Q fun u m' => wO (isBl u) (kB Q m')
@[simp] theorem kTst_bl {Q : QE Bool} {b : Bool} : kTst Q (.ok (.v (.bl b))) m ↔ Q (.ok b) m := wO_some
@[simp] theorem kTst_er {Q : QE Bool} : kTst Q (.error x) m = Q (.error x) m := rfl
@[simp] theorem w_tst {f : M U} {Q : QE Bool} : wE (mTst f) fr m Q ↔ wE f fr m (kTst Q) := wE_tst
def kAndT (g : M Bool) (fr : Fr) (Q : QE Bool) : QE Bool := onOk Q fun b m' => (b = true → wE g fr m' Q) ∧ (b = false → Q (.ok false) m')
@[simp] theorem kAndT_t {g : M Bool} {Q : QE Bool} : kAndT g fr Q (.ok true) m ↔ wE g fr m Q := by simp [kAndT, onOk]
@[simp] theorem kAndT_f {g : M Bool} {Q : QE Bool} : kAndT g fr Q (.ok false) m ↔ Q (.ok false) m := by simp [kAndT, onOk]
@[simp] theorem kAndT_er {g : M Bool} {Q : QE Bool} : kAndT g fr Q (.error x) m = Q (.error x) m := rfl
theorem kAndT_if {g : M Bool} {Q : QE Bool} {b : Bool} : kAndT g fr Q (.ok b) m ↔ (b = true → wE g fr m Q) ∧ (b = false → Q (.ok false) m) := Iff.rfl
@[simp] theorem w_andT {f g : M Bool} {Q : QE Bool} : wE (mAndT f g) fr m Q ↔ wE f fr m (kAndT g fr Q) := wE_andT
def kOrT (g : M Bool) (fr : Fr) (Q : QE Bool) : QE Bool := onOk Q fun b m' => (b = true → Q (.ok true) m') ∧ (b = false → wE g fr m' Q)
@[simp] theorem kOrT_t {g : M Bool} {Q : QE Bool} : kOrT g fr Q (.ok true) m ↔ Q (.ok true) m := by simp [kOrT, onOk]
@[simp] theorem kOrT_f {g : M Bool} {Q : QE Bool} : kOrT g fr Q (.ok false) m ↔ wE g fr m Q := by simp [kOrT, onOk]
@[simp] theorem kOrT_er {g : M Bool} {Q : QE Bool} : kOrT g fr Q (.error x) m = Q (.error x) m := rfl
theorem kOrT_if {g : M Bool} {Q : QE Bool} {b : Bool} : kOrT g fr Q (.ok b) m ↔ (b = true → Q (.ok true) m) ∧ (b = false → wE g fr m Q) := Iff.rfl
@[simp] theorem w_orT {f g : M Bool} {Q : QE Bool} : wE (mOrT f g) fr m Q ↔ wE f fr m (kOrT g fr Q) := wE_orT
def kNotT (Q : QE Bool) : QE Bool := onOk Q fun b m' => Q (.ok (!b)) m'
@[simp] theorem kNotT_ok {Q : QE Bool} {b : Bool} : kNotT Q (.ok b) m = Q (.ok (!b)) m := rfl
@[simp] theorem kNotT_er {Q : QE Bool} : kNotT Q (.error x) m = Q (.error x) m := rfl
@[simp] theorem w_notT {f : M Bool} {Q : QE Bool} : wE (mNotT f) fr m Q ↔ wE f fr m (kNotT Q) := wE_notT
def kAnd (g : M U) (fr : Fr) (Q : QE U) : QE U := onOk Q fun u m' => wO (isBl u) fun b => (b = true → wE g fr m' Q) ∧ (b = false → Q (.ok (.v (.bl false))) m')
@[simp] theorem kAnd_t {g : M U} {Q : QE U} : kAnd g fr Q (.ok (.v (.bl true))) m ↔ wE g fr m Q := by simp [kAnd, onOk, isBl]
@[simp] theorem kAnd_f {g : M U} {Q : QE U} : kAnd g fr Q (.ok (.v (.bl false))) m ↔ Q (.ok (.v (.bl false))) m := by simp [kAnd, onOk, isBl]
@[simp] theorem kAnd_er {g : M U} {Q : QE U} : kAnd g fr Q (.error x) m = Q (.error x) m := rfl
theorem kAnd_if {g : M U} {Q : QE U} {b : Bool} : kAnd g fr Q (.ok (.v (.bl b))) m ↔ (b = true → wE g fr m Q) ∧ (b = false → Q (.ok (.v (.bl false))) m) := wO_some
@[simp] theorem w_mand {f g : M U} {Q : QE U} : wE (mAnd f g) fr m Q ↔ wE f fr m (kAnd g fr Q) := wE_and
def kOr (g : M U) (fr : Fr) (Q : QE U) : QE U := onOk Q fun u m' => wO (isBl u) fun b => (b = true → Q (.ok (.v (.bl true))) m') ∧ (b = false → wE g fr m' Q)
@[simp] theorem kOr_t {g : M U} {Q : QE U} : kOr g fr Q (.ok (.v (.bl true))) m ↔ Q (.ok (.v (.bl true))) m := by simp [kOr, onOk, isBl]
@[simp] theorem kOr_f {g : M U} {Q : QE U} : kOr g fr Q (.ok (.v (.bl false))) m ↔ wE g fr m Q := by simp [kOr, onOk, isBl]
@[simp] theorem kOr_er {g : M U} {Q : QE U} : kOr g fr Q (.error x) m = Q (.error x) m := rfl
theorem kOr_if {g : M U} {Q : QE U} {b : Bool} : kOr g fr Q (.ok (.v (.bl b))) m ↔ (b = true → Q (.ok (.v (.bl true))) m) ∧ (b = false → wE g fr m Q) := wO_some
@[simp] theorem w_mor {f g : M U} {Q : QE U} : wE (mOr f g) fr m Q ↔ wE f fr m (kOr g fr Q) := wE_or
def kNot (Q : QE U) : QE U := onOk Q fun u m' => wO (isBl u) fun b => Q (.ok (.v (.bl (!b)))) m'
@[simp] theorem kNot_ok {Q : QE U} {b : Bool} : kNot Q (.ok (.v (.bl b))) m ↔ Q (.ok (.v (.bl (!b)))) m := wO_some
@[simp] theorem kNot_er {Q : QE U} : kNot Q (.error x) m = Q (.error x) m := rfl
@[simp] theorem w_not {f : M U} {Q : QE U} : wE (mNot f) fr m Q ↔ wE f fr m (kNot Q) := wE_not
def kMIf (f g : M U) (fr : Fr) (Q : QE U) : QE Bool := onOk Q fun b m' => (b = true → wE f fr m' Q) ∧ (b = false → wE g fr m' Q)
@[simp] theorem kMIf_t {f g : M U} {Q : QE U} : kMIf f g fr Q (.ok true) m ↔ wE f fr m Q := by simp [kMIf, onOk]
@[simp] theorem kMIf_f {f g : M U} {Q : QE U} : kMIf f g fr Q (.ok false) m ↔ wE g fr m Q := by simp [kMIf, onOk]
@[simp] theorem kMIf_er {f g : M U} {Q : QE U} : kMIf f g fr Q (.error x) m = Q (.error x) m := rfl
theorem kMIf_if {f g : M U} {Q : QE U} {b : Bool} : kMIf f g fr Q (.ok b) m ↔ (b = true → wE f fr m Q) ∧ (b = false → wE g fr m Q) := Iff.rfl
@[simp] theorem w_if {t : M Bool} {f g : M U} {Q : QE U} : wE (mIf t f g) fr m Q ↔ wE t fr m (kMIf f g fr Q) := wE_if
def kCh3 (p' : U → U → Mem → Option (U × Mem)) (b : U) (Q : QE U) : QE U := onOk Q fun d m3 => wO (p' b d m3) (kU Q)
@[simp] theorem kCh3_ok {p' : U → U → Mem → Option (U × Mem)} {b d : U} {Q : QE U} : kCh3 p' b Q (.ok d) m = wO (p' b d m) (kU Q) := rfl
@[simp] theorem kCh3_er {p' : U → U → Mem → Option (U × Mem)} {b : U} {Q : QE U} : kCh3 p' b Q (.error x) m = Q (.error x) m := rfl
def kChq (p' : U → U → Mem → Option (U × Mem)) (h : M U) (b : U) (fr : Fr) (Q : QE U) : U × Mem → Prop := fun q => wO (isBl q.1) fun k =>
    (k = true → wE h fr q.2 (kCh3 p' b Q)) ∧ (k = false → Q (.ok (.v (.bl false))) q.2)
@[simp] theorem kChq_t {p' : U → U → Mem → Option (U × Mem)} {h : M U} {b : U} {Q : QE U} : kChq p' h b fr Q (.v (.bl true), m) ↔ wE h fr m (kCh3 p' b Q) := by simp [kChq, isBl]
@[simp] theorem kChq_f {p' : U → U → Mem → Option (U × Mem)} {h : M U} {b : U} {Q : QE U} : kChq p' h b fr Q (.v (.bl false), m) ↔ Q (.ok (.v (.bl false))) m := by simp [kChq, isBl]
theorem kChq_if {p' : U → U → Mem → Option (U × Mem)} {h : M U} {b : U} {Q : QE U} {k : Bool} : kChq p' h b fr Q (.v (.bl k), m) ↔ (k = true → wE h fr m (kCh3 p' b Q)) ∧ (k = false → Q (.ok (.v (.bl false))) m) := wO_some
def kCh2 (p p' : U → U → Mem → Option (U × Mem)) (h : M U) (a : U) (fr : Fr) (Q : QE U) : QE U := onOk Q fun b m2 => wO (p a b m2) (kChq p' h b fr Q)
@[simp] theorem kCh2_ok {p p' : U → U → Mem → Option (U × Mem)} {h : M U} {a b : U} {Q : QE U} : kCh2 p p' h a fr Q (.ok b) m = wO (p a b m) (kChq p' h b fr Q) := rfl
@[simp] theorem kCh2_er {p p' : U → U → Mem → Option (U × Mem)} {h : M U} {a : U} {Q : QE U} : kCh2 p p' h a fr Q (.error x) m = Q (.error x) m := rfl
def kCh1 (p p' : U → U → Mem → Option (U × Mem)) (g h : M U) (fr : Fr) (Q : QE U) : QE U := onOk Q fun a m1 => wE g fr m1 (kCh2 p p' h a fr Q)
@[simp] theorem kCh1_ok {p p' : U → U → Mem → Option (U × Mem)} {g h : M U} {a : U} {Q : QE U} : kCh1 p p' g h fr Q (.ok a) m = wE g fr m (kCh2 p p' h a fr Q) := rfl
@[simp] theorem kCh1_er {p p' : U → U → Mem → Option (U × Mem)} {g h : M U} {Q : QE U} : kCh1 p p' g h fr Q (.error x) m = Q (.error x) m := rfl
@[simp] theorem w_chain {p p' : U → U → Mem → Option (U × Mem)} {f g h : M U} {Q : QE U} : wE (mChain p p' f g h) fr m Q ↔ wE f fr m (kCh1 p p' g h fr Q) := wE_chain
/-! ### plain functions of trees -/
def kT (m : Mem) (Q : U × Mem → Prop) : T → Prop := fun t => Q (.v t, m)
@[simp] theorem kT_eq {Q : U × Mem → Prop} {t : T} : kT m Q t = Q (.v t, m) := rfl
def kP1 (p : T → Option T) (m : Mem) (Q : U × Mem → Prop) : T → Prop := fun x => wO (p x) (kT m Q)
@[simp] theorem kP1_eq {p : T → Option T} {Q : U × Mem → Prop} {t : T} : kP1 p m Q t = wO (p t) (kT m Q) := rfl
@[simp] theorem w_pv1 {p : T → Option T} {a : U} {Q : U × Mem → Prop} : wO (pv1 p a m) Q ↔ wO (deref m a) (kP1 p m Q) := wO_pv1
def kP2b (p : T → T → Option T) (s : T) (m : Mem) (Q : U × Mem → Prop) : T → Prop := fun y => wO (p s y) (kT m Q)
@[simp] theorem kP2b_eq {p : T → T → Option T} {Q : U × Mem → Prop} {s t : T} : kP2b p s m Q t = wO (p s t) (kT m Q) := rfl
def kP2 (p : T → T → Option T) (b : U) (m : Mem) (Q : U × Mem → Prop) : T → Prop := fun x => wO (deref m b) (kP2b p x m Q)
@[simp] theorem kP2_eq {p : T → T → Option T} {b : U} {Q : U × Mem → Prop} {t : T} : kP2 p b m Q t = wO (deref m b) (kP2b p t m Q) := rfl
@[simp] theorem w_pv2 {p : T → T → Option T} {a b : U} {Q : U × Mem → Prop} : wO (pv2 p a b m) Q ↔ wO (deref m a) (kP2 p b m Q) := wO_pv2
def kPN (p : List T → Option T) (m : Mem) (Q : U × Mem → Prop) : List T → Prop := fun x => wO (p x) (kT m Q)
@[simp] theorem kPN_eq {p : List T → Option T} {Q : U × Mem → Prop} {t : List T} : kPN p m Q t = wO (p t) (kT m Q) := rfl
@[simp] theorem w_pvN {p : List T → Option T} {a : List U} {Q : U × Mem → Prop} : wO (pvN p a m) Q ↔ wO (derefs m a) (kPN p m Q) := wO_pvN
/-! ### new things -/
def kTv (m : Mem) (Q : QE U) : T → Prop := fun t => Q (.ok (.v t)) m
@[simp] theorem kTv_eq {Q : QE U} {t : T} : kTv m Q t = Q (.ok (.v t)) m := rfl
def kFz (Q : QE U) : QE C := onOk Q fun c m' => wO (toT c) (kTv m' Q)
@[simp] theorem kFz_ok {Q : QE U} {c : C} : kFz Q (.ok c) m = wO (toT c) (kTv m Q) := rfl
@[simp] theorem kFz_er {Q : QE U} : kFz Q (.error x) m = Q (.error x) m := rfl
@[simp] theorem w_fz {f : M C} {Q : QE U} : wE (mFz f) fr m Q ↔ wE f fr m (kFz Q) := wE_fz
def kCl (Q : QE U) : QE C := onOk Q fun c m' => Q (.ok (.c m'.length)) (m' ++ [some c])
@[simp] theorem kCl_ok {Q : QE U} {c : C} : kCl Q (.ok c) m = Q (.ok (.c m.length)) (m ++ [some c]) := rfl
@[simp] theorem kCl_er {Q : QE U} : kCl Q (.error x) m = Q (.error x) m := rfl
@[simp] theorem w_cl {f : M C} {Q : QE U} : wE (mCl f) fr m Q ↔ wE f fr m (kCl Q) := wE_cl
def kLst (Q : QE C) : QE (List U) := onOk Q fun us m' => wO (allV us) fun ts => ts.length ≤ sizeLine ∧ Q (.ok (.t (.lst ts))) m'
def kLb (m : Mem) (Q : QE C) : List T → Prop := fun ts => ts.length ≤ sizeLine ∧ Q (.ok (.t (.lst ts))) m
@[simp] theorem kLb_eq {Q : QE C} {ts : List T} : kLb m Q ts ↔ ts.length ≤ sizeLine ∧ Q (.ok (.t (.lst ts))) m := Iff.rfl
@[simp] theorem kLst_ok {Q : QE C} {us : List U} : kLst Q (.ok us) m = wO (allV us) (kLb m Q) := rfl
@[simp] theorem kLst_er {Q : QE C} : kLst Q (.error x) m = Q (.error x) m := rfl
@[simp] theorem w_lst {f : M (List U)} {Q : QE C} : wE (mLst f) fr m Q ↔ wE f fr m (kLst Q) := wE_lst
def kTb (m : Mem) (Q : QE U) : List T → Prop := fun ts => ts.length ≤ sizeLine ∧ Q (.ok (.v (.tup ts))) m
@[simp] theorem kTb_eq {Q : QE U} {ts : List T} : kTb m Q ts ↔ ts.length ≤ sizeLine ∧ Q (.ok (.v (.tup ts))) m := Iff.rfl
def kTup (Q : QE U) : QE (List U) := onOk Q fun us m' => wO (allV us) (kTb m' Q)
@[simp] theorem kTup_ok {Q : QE U} {us : List U} : kTup Q (.ok us) m = wO (allV us) (kTb m Q) := rfl
@[simp] theorem kTup_er {Q : QE U} : kTup Q (.error x) m = Q (.error x) m := rfl
@[simp] theorem w_tup {f : M (List U)} {Q : QE U} : wE (mTup f) fr m Q ↔ wE f fr m (kTup Q) := wE_tup
def kLs3 (m : Mem) (Q : QE C) : List T → Prop := fun xs => Q (.ok (.t (.lst xs))) m
@[simp] theorem kLs3_eq {Q : QE C} {xs : List T} : kLs3 m Q xs = Q (.ok (.t (.lst xs))) m := rfl
def kLs2 (m : Mem) (Q : QE C) : T → Prop := fun t => wO (seqOf t) (kLs3 m Q)
@[simp] theorem kLs2_eq {Q : QE C} {t : T} : kLs2 m Q t = wO (seqOf t) (kLs3 m Q) := rfl
def kLs1 (m : Mem) (Q : QE C) : List T → Prop := fun ts => wO (one1 ts) (kLs2 m Q)
@[simp] theorem kLs1_eq {Q : QE C} {ts : List T} : kLs1 m Q ts = wO (one1 ts) (kLs2 m Q) := rfl
def kLs (Q : QE C) : QE (List U) := onOk Q fun us m' => wO (derefs m' us) (kLs1 m' Q)
@[simp] theorem kLs_ok {Q : QE C} {us : List U} : kLs Q (.ok us) m = wO (derefs m us) (kLs1 m Q) := rfl
@[simp] theorem kLs_er {Q : QE C} : kLs Q (.error x) m = Q (.error x) m := rfl
@[simp] theorem w_list {f : M (List U)} {Q : QE C} : wE (mList f) fr m Q ↔ wE f fr m (kLs Q) := wE_list
def kSo3 (m : Mem) (Q : QE C) : List T → Prop := fun xs => wO (sortT xs) (kLs3 m Q)
@[simp] theorem kSo3_eq {Q : QE C} {xs : List T} : kSo3 m Q xs = wO (sortT xs) (kLs3 m Q) := rfl
def kSo2 (m : Mem) (Q : QE C) : T → Prop := fun t => wO (lstOf t) (kSo3 m Q)
@[simp] theorem kSo2_eq {Q : QE C} {t : T} : kSo2 m Q t = wO (lstOf t) (kSo3 m Q) := rfl
def kSo1 (m : Mem) (Q : QE C) : List T → Prop := fun ts => wO (one1 ts) (kSo2 m Q)
@[simp] theorem kSo1_eq {Q : QE C} {ts : List T} : kSo1 m Q ts = wO (one1 ts) (kSo2 m Q) := rfl
def kSo (Q : QE C) : QE (List U) := onOk Q fun us m' => wO (derefs m' us) (kSo1 m' Q)
@[simp] theorem kSo_ok {Q : QE C} {us : List U} : kSo Q (.ok us) m = wO (derefs m us) (kSo1 m Q) := rfl
@[simp] theorem kSo_er {Q : QE C} : kSo Q (.error x) m = Q (.error x) m := rfl
@[simp] theorem w_sorted {f : M (List U)} {Q : QE C} : wE (mSorted f) fr m Q ↔ wE f fr m (kSo Q) := wE_sorted
@[simp] theorem w_noPart {Q : QE (Option Int)} : wE mNoPart fr m Q ↔ Q (.ok none) m := wE_pure
def kPart (Q : QE (Option Int)) : QE U := onOk Q fun u m' => wO (isInt u) fun i => Q (.ok (some i)) m'
@[simp] theorem kPart_ok {Q : QE (Option Int)} {i : Int} : kPart Q (.ok (.v (.int i))) m ↔ Q (.ok (some i)) m := wO_some
@[simp] theorem kPart_er {Q : QE (Option Int)} : kPart Q (.error x) m = Q (.error x) m := rfl
@[simp] theorem w_part {f : M U} {Q : QE (Option Int)} : wE (mPart f) fr m Q ↔ wE f fr m (kPart Q) := wE_part
def kSl4 (lo hi : Option Int) (m : Mem) (Q : QE U) : T → Prop := fun t => wO (slP t lo hi) (kTv m Q)
@[simp] theorem kSl4_eq {lo hi : Option Int} {Q : QE U} {t : T} : kSl4 lo hi m Q t = wO (slP t lo hi) (kTv m Q) := rfl
def kSl3 (u : U) (lo : Option Int) (Q : QE U) : QE (Option Int) := onOk Q fun hi m3 => wO (deref m3 u) (kSl4 lo hi m3 Q)
@[simp] theorem kSl3_ok {u : U} {lo hi : Option Int} {Q : QE U} : kSl3 u lo Q (.ok hi) m = wO (deref m u) (kSl4 lo hi m Q) := rfl
@[simp] theorem kSl3_er {u : U} {lo : Option Int} {Q : QE U} : kSl3 u lo Q (.error x) m = Q (.error x) m := rfl
def kSl2 (h : M (Option Int)) (u : U) (fr : Fr) (Q : QE U) : QE (Option Int) := onOk Q fun lo m2 => wE h fr m2 (kSl3 u lo Q)
@[simp] theorem kSl2_ok {h : M (Option Int)} {u : U} {lo : Option Int} {Q : QE U} : kSl2 h u fr Q (.ok lo) m = wE h fr m (kSl3 u lo Q) := rfl
@[simp] theorem kSl2_er {h : M (Option Int)} {u : U} {Q : QE U} : kSl2 h u fr Q (.error x) m = Q (.error x) m := rfl
def kSl (l h : M (Option Int)) (fr : Fr) (Q : QE U) : QE U := onOk Q fun u m1 => wE l fr m1 (kSl2 h u fr Q)
@[simp] theorem kSl_ok {l h : M (Option Int)} {u : U} {Q : QE U} : kSl l h fr Q (.ok u) m = wE l fr m (kSl2 h u fr Q) := rfl
@[simp] theorem kSl_er {l h : M (Option Int)} {Q : QE U} : kSl l h fr Q (.error x) m = Q (.error x) m := rfl
@[simp] theorem w_sl {f : M U} {l h : M (Option Int)} {Q : QE U} : wE (mSl f l h) fr m Q ↔ wE f fr m (kSl l h fr Q) := wE_sl
def kMt2 (p : U → List U → Mem → Option (U × Mem)) (u : U) (Q : QE U) : QE (List U) := onOk Q fun us m2 => wO (p u us m2) (kU Q)
@[simp] theorem kMt2_ok {p : U → List U → Mem → Option (U × Mem)} {u : U} {us : List U} {Q : QE U} : kMt2 p u Q (.ok us) m = wO (p u us m) (kU Q) := rfl
@[simp] theorem kMt2_er {p : U → List U → Mem → Option (U × Mem)} {u : U} {Q : QE U} : kMt2 p u Q (.error x) m = Q (.error x) m := rfl
def kMt (p : U → List U → Mem → Option (U × Mem)) (g : M (List U)) (fr : Fr) (Q : QE U) : QE U := onOk Q fun u m' => isLst m' u = true ∧ wE g fr m' (kMt2 p u Q)
@[simp] theorem kMt_ok {p : U → List U → Mem → Option (U × Mem)} {g : M (List U)} {u : U} {Q : QE U} : kMt p g fr Q (.ok u) m ↔ isLst m u = true ∧ wE g fr m (kMt2 p u Q) := Iff.rfl
@[simp] theorem kMt_er {p : U → List U → Mem → Option (U × Mem)} {g : M (List U)} {Q : QE U} : kMt p g fr Q (.error x) m = Q (.error x) m := rfl
@[simp] theorem w_mtL {p : U → List U → Mem → Option (U × Mem)} {f : M U} {g : M (List U)} {Q : QE U} : wE (mMtL p f g) fr m Q ↔ wE f fr m (kMt p g fr Q) := wE_mtL
def kDg3 (ud uk : U) (fr : Fr) (Q : QE U) : QE U := onOk Q fun ux m3 => wR (dGetM ud uk ux fr m3) Q
@[simp] theorem kDg3_ok {ud uk ux : U} {Q : QE U} : kDg3 ud uk fr Q (.ok ux) m = wR (dGetM ud uk ux fr m) Q := rfl
@[simp] theorem kDg3_er {ud uk : U} {Q : QE U} : kDg3 ud uk fr Q (.error x) m = Q (.error x) m := rfl
def kDg2 (fx : M U) (ud : U) (fr : Fr) (Q : QE U) : QE U := onOk Q fun uk m2 => wE fx fr m2 (kDg3 ud uk fr Q)
@[simp] theorem kDg2_ok {fx : M U} {ud uk : U} {Q : QE U} : kDg2 fx ud fr Q (.ok uk) m = wE fx fr m (kDg3 ud uk fr Q) := rfl
@[simp] theorem kDg2_er {fx : M U} {ud : U} {Q : QE U} : kDg2 fx ud fr Q (.error x) m = Q (.error x) m := rfl
def kDg (fk fx : M U) (fr : Fr) (Q : QE U) : QE U := onOk Q fun ud m1 => isDictU m1 ud = true ∧ wE fk fr m1 (kDg2 fx ud fr Q)
@[simp] theorem kDg_ok {fk fx : M U} {ud : U} {Q : QE U} : kDg fk fx fr Q (.ok ud) m ↔ isDictU m ud = true ∧ wE fk fr m (kDg2 fx ud fr Q) := Iff.rfl
@[simp] theorem kDg_er {fk fx : M U} {Q : QE U} : kDg fk fx fr Q (.error x) m = Q (.error x) m := rfl
@[simp] theorem w_dget {fd fk fx : M U} {Q : QE U} : wE (mDGet fd fk fx) fr m Q ↔ wE fd fr m (kDg fk fx fr Q) := wE_dget
def kDh2 (ud : U) (fr : Fr) (Q : QE U) : QE U := onOk Q fun uk m2 => wR (dGetM ud uk (.v .non) fr m2) Q
@[simp] theorem kDh2_ok {ud uk : U} {Q : QE U} : kDh2 ud fr Q (.ok uk) m = wR (dGetM ud uk (.v .non) fr m) Q := rfl
@[simp] theorem kDh2_er {ud : U} {Q : QE U} : kDh2 ud fr Q (.error x) m = Q (.error x) m := rfl
def kDh (fk : M U) (fr : Fr) (Q : QE U) : QE U := onOk Q fun ud m1 => isDictU m1 ud = true ∧ wE fk fr m1 (kDh2 ud fr Q)
@[simp] theorem kDh_ok {fk : M U} {ud : U} {Q : QE U} : kDh fk fr Q (.ok ud) m ↔ isDictU m ud = true ∧ wE fk fr m (kDh2 ud fr Q) := Iff.rfl
@[simp] theorem kDh_er {fk : M U} {Q : QE U} : kDh fk fr Q (.error x) m = Q (.error x) m := rfl
@[simp] theorem w_dget1 {fd fk : M U} {Q : QE U} : wE (mDGet1 fd fk) fr m Q ↔ wE fd fr m (kDh fk fr Q) := wE_dget1
@[simp] theorem w_dnewT {Q : QE C} : wE mDNewT fr m Q ↔ Q (.ok (.t (.dT []))) m := wE_pure
@[simp] theorem w_dnewK {Q : QE C} : wE mDNewK fr m Q ↔ Q (.ok (.t (.dK []))) m := wE_pure
@[simp] theorem w_yes {Q : QE Bool} : wE mYes fr m Q ↔ Q (.ok true) m := wE_pure
def kF (f : Str) (m : Mem) (Q : U × Mem → Prop) : U → Prop := fun w => Q (w, m)
@[simp] theorem kF_eq {f : Str} {Q : U × Mem → Prop} {w : U} : kF f m Q w = Q (w, m) := rfl
def kFld (c f : Str) (m : Mem) (Q : U × Mem → Prop) : Str × List (Str × U) → Prop := fun p => p.1 = c ∧ wO (p.2.lookup f) (kF f m Q)
@[simp] theorem kFld_eq {c f n : Str} {Q : U × Mem → Prop} {fs : List (Str × U)} : kFld c f m Q (n, fs) ↔ n = c ∧ wO (fs.lookup f) (kF f m Q) := Iff.rfl
@[simp] theorem w_fld {c f : Str} {u : U} {Q : U × Mem → Prop} : wO (pFld c f u m) Q ↔ wO (insOf m u) (kFld c f m Q) := wO_fld
/-! ### calls -/
def kCall (n : Nat) (F : Fn) (Q : QE U) : QE (List U) := onOk Q fun us m' => wC n F us m' Q
@[simp] theorem kCall_ok {n : Nat} {F : Fn} {Q : QE U} {us : List U} : kCall n F Q (.ok us) m = wC n F us m Q := rfl
@[simp] theorem kCall_er {n : Nat} {F : Fn} {Q : QE U} : kCall n F Q (.error x) m = Q (.error x) m := rfl
@[simp] theorem w_call {n : Nat} {F : Fn} {g : M (List U)} {Q : QE U} : wE (mCall n F g) fr m Q ↔ wE g fr m (kCall n F Q) := wE_call
def kCallC (n : Nat) (F : Fn) (Q : QE U) : QE (List U) := onOk Q fun us m' => wCC n F us m' Q
@[simp] theorem kCallC_ok {n : Nat} {F : Fn} {Q : QE U} {us : List U} : kCallC n F Q (.ok us) m = wCC n F us m Q := rfl
@[simp] theorem kCallC_er {n : Nat} {F : Fn} {Q : QE U} : kCallC n F Q (.error x) m = Q (.error x) m := rfl
@[simp] theorem w_callC {n : Nat} {F : Fn} {g : M (List U)} {Q : QE U} : wE (mCallC n F g) fr m Q ↔ wE g fr m (kCallC n F Q) := wE_callC
def kMe2 (n : Nat) (F : Fn) (u : U) (Q : QE U) : QE (List U) := onOk Q fun us m2 => wC n F (u :: us) m2 Q
@[simp] theorem kMe2_ok {n : Nat} {F : Fn} {u : U} {us : List U} {Q : QE U} : kMe2 n F u Q (.ok us) m = wC n F (u :: us) m Q := rfl
@[simp] theorem kMe2_er {n : Nat} {F : Fn} {u : U} {Q : QE U} : kMe2 n F u Q (.error x) m = Q (.error x) m := rfl
def kMe1 (c mt : Str) (n : Nat) (F : Fn) (g : M (List U)) (u : U) (fr : Fr) (m : Mem) (Q : QE U) : Str × List (Str × U) → Prop := fun p => (p.1 = c ∧ p.2.lookup mt = none) ∧ wE g fr m (kMe2 n F u Q)
@[simp] theorem kMe1_eq {c mt k : Str} {n : Nat} {F : Fn} {g : M (List U)} {u : U} {fs : List (Str × U)} {Q : QE U} : kMe1 c mt n F g u fr m Q (k, fs) ↔ (k = c ∧ fs.lookup mt = none) ∧ wE g fr m (kMe2 n F u Q) := Iff.rfl
def kMe (c mt : Str) (n : Nat) (F : Fn) (g : M (List U)) (fr : Fr) (Q : QE U) : QE U := onOk Q fun u m' => wO (insOf m' u) (kMe1 c mt n F g u fr m' Q)
@[simp] theorem kMe_ok {c mt : Str} {n : Nat} {F : Fn} {g : M (List U)} {u : U} {Q : QE U} : kMe c mt n F g fr Q (.ok u) m = wO (insOf m u) (kMe1 c mt n F g u fr m Q) := rfl
@[simp] theorem kMe_er {c mt : Str} {n : Nat} {F : Fn} {g : M (List U)} {Q : QE U} : kMe c mt n F g fr Q (.error x) m = Q (.error x) m := rfl
@[simp] theorem w_meth {c mt : Str} {n : Nat} {F : Fn} {o : M U} {g : M (List U)} {Q : QE U} : wE (mMeth c mt n F o g) fr m Q ↔ wE o fr m (kMe c mt n F g fr Q) := wE_meth
def kMk (c : Str) (n : Nat) (F : Fn) (Q : QE C) : QE (List U) := onOk Q fun us m' => wMk c n F us m' Q
@[simp] theorem kMk_ok {c : Str} {n : Nat} {F : Fn} {Q : QE C} {us : List U} : kMk c n F Q (.ok us) m = wMk c n F us m Q := rfl
@[simp] theorem kMk_er {c : Str} {n : Nat} {F : Fn} {Q : QE C} : kMk c n F Q (.error x) m = Q (.error x) m := rfl
@[simp] theorem w_make {c : Str} {n : Nat} {F : Fn} {g : M (List U)} {Q : QE C} : wE (mMake c n F g) fr m Q ↔ wE g fr m (kMk c n F Q) := wE_make
def kOw2 (c : Str) (F : Fn) (u : U) (Q : QE U) : QE U := onOk Q fun w m2 => wOwn c F u w m2 Q
@[simp] theorem kOw2_ok {c : Str} {F : Fn} {u w : U} {Q : QE U} : kOw2 c F u Q (.ok w) m = wOwn c F u w m Q := rfl
@[simp] theorem kOw2_er {c : Str} {F : Fn} {u : U} {Q : QE U} : kOw2 c F u Q (.error x) m = Q (.error x) m := rfl
def kOw (c : Str) (F : Fn) (b : M U) (fr : Fr) (Q : QE U) : QE U := onOk Q fun u m1 => wE b fr m1 (kOw2 c F u Q)
@[simp] theorem kOw_ok {c : Str} {F : Fn} {b : M U} {u : U} {Q : QE U} : kOw c F b fr Q (.ok u) m = wE b fr m (kOw2 c F u Q) := rfl
@[simp] theorem kOw_er {c : Str} {F : Fn} {b : M U} {Q : QE U} : kOw c F b fr Q (.error x) m = Q (.error x) m := rfl
@[simp] theorem w_ownEq {c : Str} {F : Fn} {a b : M U} {Q : QE U} : wE (mOwnEq c F a b) fr m Q ↔ wE a fr m (kOw c F b fr Q) := wE_ownEq
@[simp] theorem kNq {Q : QE U} {b : Bool} : notQ Q (.ok (.v (.bl b))) m ↔ Q (.ok (.v (.bl (!b)))) m := wO_some
def kOv2 (c : Str) (F : Fn) (u : U) (Q : QE U) : QE U := onOk Q fun w m2 => wOwn c F u w m2 (notQ Q)
@[simp] theorem kOv2_ok {c : Str} {F : Fn} {u w : U} {Q : QE U} : kOv2 c F u Q (.ok w) m = wOwn c F u w m (notQ Q) := rfl
@[simp] theorem kOv2_er {c : Str} {F : Fn} {u : U} {Q : QE U} : kOv2 c F u Q (.error x) m = Q (.error x) m := rfl
def kOv (c : Str) (F : Fn) (b : M U) (fr : Fr) (Q : QE U) : QE U := onOk Q fun u m1 => wE b fr m1 (kOv2 c F u Q)
@[simp] theorem kOv_ok {c : Str} {F : Fn} {b : M U} {u : U} {Q : QE U} : kOv c F b fr Q (.ok u) m = wE b fr m (kOv2 c F u Q) := rfl
@[simp] theorem kOv_er {c : Str} {F : Fn} {b : M U} {Q : QE U} : kOv c F b fr Q (.error x) m = Q (.error x) m := rfl
@[simp] theorem w_ownNe {c : Str} {F : Fn} {a b : M U} {Q : QE U} : wE (mOwnNe c F a b) fr m Q ↔ wE a fr m (kOv c F b fr Q) := wE_ownNe
@[simp] theorem w_C {n : Nat} {F : Fn} {us : List U} {Q : QE U} : wC n F us m Q ↔ (us.length = n ∧ (cellsOf us).Nodup) ∧ wF F (renum 0 us) (ldM m (cellsOf us)) (retV us m Q) := wC_iff
@[simp] theorem w_CC {n : Nat} {F : Fn} {us : List U} {Q : QE U} : wCC n F us m Q ↔ (us.length = n ∧ (cellsOf us).Nodup) ∧ wF F (renum 0 us) (ldM m (cellsOf us)) (retC us m Q) := wCC_iff
@[simp] theorem kRv_v {us : List U} {m1 : Mem} {Q : QE U} {t : T} : retV us m Q (.ok (.v t)) m1 = Q (.ok (.v t)) (stM m (cellsOf us) m1) := rfl
def kRt (us : List U) (m m1 : Mem) (j : Nat) (Q : QE U) : T → Prop := fun t => Q (.ok (.v t)) (stM m (cellsOf us) (m1.set j none))
@[simp] theorem kRt_eq {us : List U} {m1 : Mem} {j : Nat} {Q : QE U} {t : T} : kRt us m m1 j Q t = Q (.ok (.v t)) (stM m (cellsOf us) (m1.set j none)) := rfl
def kRc (us : List U) (m m1 : Mem) (j : Nat) (Q : QE U) : C → Prop := fun ct => wO (toT ct) (kRt us m m1 j Q)
@[simp] theorem kRc_eq {us : List U} {m1 : Mem} {j : Nat} {Q : QE U} {ct : C} : kRc us m m1 j Q ct = wO (toT ct) (kRt us m m1 j Q) := rfl
@[simp] theorem kRv_c {us : List U} {m1 : Mem} {Q : QE U} {j : Nat} : retV us m Q (.ok (.c j)) m1 = wO (m1[j]?.join) (kRc us m m1 j Q) := rfl
@[simp] theorem kRv_x {us : List U} {m1 : Mem} {Q : QE U} : retV us m Q (.error x) m1 = Q (.error x) (stM m (cellsOf us) m1) := rfl
def kRd (us : List U) (m m1 : Mem) (j : Nat) (Q : QE U) : C → Prop := fun ct => ((cellsOf us).length ≤ j ∧ (toT ct).isSome = true) ∧ Q (.ok (.c m.length)) (stM m (cellsOf us) (m1.set j none) ++ [some ct])
@[simp] theorem kRd_eq {us : List U} {m1 : Mem} {j : Nat} {Q : QE U} {ct : C} : kRd us m m1 j Q ct ↔ ((cellsOf us).length ≤ j ∧ (toT ct).isSome = true) ∧ Q (.ok (.c m.length)) (stM m (cellsOf us) (m1.set j none) ++ [some ct]) := Iff.rfl
@[simp] theorem kRC_c {us : List U} {m1 : Mem} {Q : QE U} {j : Nat} : retC us m Q (.ok (.c j)) m1 = wO (m1[j]?.join) (kRd us m m1 j Q) := rfl
@[simp] theorem kRC_x {us : List U} {m1 : Mem} {Q : QE U} : retC us m Q (.error x) m1 = Q (.error x) (stM m (cellsOf us) m1) := rfl
/-! ### statements -/
@[simp] theorem w_next {Q : QS} : wS sNext fr m Q ↔ Q (.fl .nx fr) m := wS_next
@[simp] theorem w_cont {Q : QS} : wS sCont fr m Q ↔ Q (.fl .ct fr) m := wS_cont
@[simp] theorem w_break {Q : QS} : wS sBreak fr m Q ↔ Q (.fl .bk fr) m := wS_break
@[simp] theorem w_never {Q : QS} : wS sNever fr m Q ↔ False := wS_never
def kSBind (k : α → MS) (fr : Fr) (Q : QS) : QE α := onSt fr Q fun a m' => wS (k a) fr m' Q
@[simp] theorem kSBind_ok {k : α → MS} {Q : QS} {a : α} : kSBind k fr Q (.ok a) m = wS (k a) fr m Q := rfl
@[simp] theorem kSBind_er {k : α → MS} {Q : QS} : kSBind k fr Q (.error x) m = Q (.ex x fr) m := rfl
@[simp] theorem w_sbind {f : M α} {k : α → MS} {Q : QS} : wS (sBind f k) fr m Q ↔ wE f fr m (kSBind k fr Q) := wS_bind
def kSeq (g : MS) (Q : QS) : QS := onNx Q fun fr' m' => wS g fr' m' Q
@[simp] theorem kSeq_nx {g : MS} {Q : QS} : kSeq g Q (.fl .nx fr) m = wS g fr m Q := rfl
@[simp] theorem kSeq_bk {g : MS} {Q : QS} : kSeq g Q (.fl .bk fr) m = Q (.fl .bk fr) m := rfl
@[simp] theorem kSeq_ct {g : MS} {Q : QS} : kSeq g Q (.fl .ct fr) m = Q (.fl .ct fr) m := rfl
@[simp] theorem kSeq_rt {g : MS} {Q : QS} {u : U} : kSeq g Q (.fl (.rt u) fr) m = Q (.fl (.rt u) fr) m := rfl
@[simp] theorem kSeq_ex {g : MS} {Q : QS} : kSeq g Q (.ex x fr) m = Q (.ex x fr) m := rfl
@[simp] theorem w_seq {f g : MS} {Q : QS} : wS (sSeq f g) fr m Q ↔ wS f fr m (kSeq g Q) := wS_seq
def kIf (f g : MS) (fr : Fr) (Q : QS) : QE Bool := onSt fr Q fun b m' => (b = true → wS f fr m' Q) ∧ (b = false → wS g fr m' Q)
@[simp] theorem kIf_t {f g : MS} {Q : QS} : kIf f g fr Q (.ok true) m ↔ wS f fr m Q := by simp [kIf, onSt]
@[simp] theorem kIf_f {f g : MS} {Q : QS} : kIf f g fr Q (.ok false) m ↔ wS g fr m Q := by simp [kIf, onSt]
@[simp] theorem kIf_er {f g : MS} {Q : QS} : kIf f g fr Q (.error x) m = Q (.ex x fr) m := rfl
theorem kIf_if {f g : MS} {Q : QS} {b : Bool} : kIf f g fr Q (.ok b) m ↔ (b = true → wS f fr m Q) ∧ (b = false → wS g fr m Q) := Iff.rfl
@[simp] theorem w_sif {t : M Bool} {f g : MS} {Q : QS} : wS (sIf t f g) fr m Q ↔ wE t fr m (kIf f g fr Q) := wS_if
def kRet (fr : Fr) (Q : QS) : QE U := onSt fr Q fun u m' => Q (.fl (.rt u) fr) m'
@[simp] theorem kRet_ok {Q : QS} {u : U} : kRet fr Q (.ok u) m = Q (.fl (.rt u) fr) m := rfl
@[simp] theorem kRet_er {Q : QS} : kRet fr Q (.error x) m = Q (.ex x fr) m := rfl
@[simp] theorem w_ret {f : M U} {Q : QS} : wS (sRet f) fr m Q ↔ wE f fr m (kRet fr Q) := wS_ret
def kExpr (fr : Fr) (Q : QS) : QE U := onSt fr Q fun u m' => Q (.fl .nx fr) m'
@[simp] theorem kExpr_ok {Q : QS} {u : U} : kExpr fr Q (.ok u) m = Q (.fl .nx fr) m := rfl
@[simp] theorem kExpr_er {Q : QS} : kExpr fr Q (.error x) m = Q (.ex x fr) m := rfl
@[simp] theorem w_expr {f : M U} {Q : QS} : wS (sExpr f) fr m Q ↔ wE f fr m (kExpr fr Q) := wS_expr
def kNx (m : Mem) (Q : QS) : Fr → Prop := fun fr' => Q (.fl .nx fr') m
@[simp] theorem kNx_eq {Q : QS} : kNx m Q fr = Q (.fl .nx fr) m := rfl
def kAsg (g : Tg) (fr : Fr) (Q : QS) : QE U := onSt fr Q fun u m' => wO (g u fr) (kNx m' Q)
@[simp] theorem kAsg_ok {g : Tg} {Q : QS} {u : U} : kAsg g fr Q (.ok u) m = wO (g u fr) (kNx m Q) := rfl
@[simp] theorem kAsg_er {g : Tg} {Q : QS} : kAsg g fr Q (.error x) m = Q (.ex x fr) m := rfl
@[simp] theorem w_asg {f : M U} {g : Tg} {Q : QS} : wS (sAsg f g) fr m Q ↔ wE f fr m (kAsg g fr Q) := wS_asg
@[simp] theorem w_gN {i : Nat} {u : U} {Q : Fr → Prop} : wO (gN i u fr) Q ↔ Q (fr.set i (some u)) := wO_some
@[simp] theorem w_gT {h : Tgs} {ts : List T} {Q : Fr → Prop} : wO (gT h (.v (.tup ts)) fr) Q ↔ wO (h ts fr) Q := Iff.rfl
@[simp] theorem w_gTr {h : Tgs} {ts : List T} {Q : Fr → Prop} : wO (gT h (.v (.rot ts)) fr) Q ↔ wO (h ts fr) Q := Iff.rfl
def kG (h : Tgs) (ts : List T) (Q : Fr → Prop) : Fr → Prop := fun fr' => wO (h ts fr') Q
@[simp] theorem kG_eq {h : Tgs} {ts : List T} {Q : Fr → Prop} : kG h ts Q fr = wO (h ts fr) Q := rfl
@[simp] theorem w_gCons {g : Tg} {h : Tgs} {t : T} {ts : List T} {Q : Fr → Prop} : wO (gCons g h (t :: ts) fr) Q ↔ wO (g (.v t) fr) (kG h ts Q) := wO_gCons
@[simp] theorem w_gNil {Q : Fr → Prop} : wO (gNil [] fr) Q ↔ Q fr := wO_some
def kFor (g : Tg) (b : MS) (fr : Fr) (Q : QS) : QE Src := onSt fr Q fun p m' => wS (forSel g b p) fr m' Q
@[simp] theorem kFor_none {g : Tg} {b : MS} {Q : QS} {ts : List T} : kFor g b fr Q (.ok (ts, none)) m = wS (sForL g b ts) fr m Q := rfl
@[simp] theorem kFor_some {g : Tg} {b : MS} {Q : QS} {ts : List T} {i : Nat} : kFor g b fr Q (.ok (ts, some i)) m = wS (sLock i (sForL g b ts)) fr m Q := rfl
@[simp] theorem kFor_er {g : Tg} {b : MS} {Q : QS} : kFor g b fr Q (.error x) m = Q (.ex x fr) m := rfl
@[simp] theorem w_for {it : M Src} {g : Tg} {b : MS} {Q : QS} : wS (sFor it g b) fr m Q ↔ wE it fr m (kFor g b fr Q) := wS_for
@[simp] theorem onLp_nx' {Q : QS} {k : Fr → Mem → Prop} : onLp Q k (.fl .nx fr) m = k fr m := rfl
@[simp] theorem onLp_bk' {Q : QS} {k : Fr → Mem → Prop} : onLp Q k (.fl .bk fr) m = Q (.fl .nx fr) m := rfl
@[simp] theorem onLp_ct' {Q : QS} {k : Fr → Mem → Prop} : onLp Q k (.fl .ct fr) m = k fr m := rfl
@[simp] theorem onLp_rt' {Q : QS} {k : Fr → Mem → Prop} {u : U} : onLp Q k (.fl (.rt u) fr) m = Q (.fl (.rt u) fr) m := rfl
@[simp] theorem onLp_ex' {Q : QS} {k : Fr → Mem → Prop} : onLp Q k (.ex x fr) m = Q (.ex x fr) m := rfl
@[simp] theorem onRt_rt' {Q : QE U} {u : U} : onRt Q (.fl (.rt u) fr) m = Q (.ok u) m := rfl
@[simp] theorem onRt_nx' {Q : QE U} : onRt Q (.fl .nx fr) m = Q (.ok (.v .non)) m := rfl
@[simp] theorem onRt_ex' {Q : QE U} : onRt Q (.ex x fr) m = Q (.error x) m := rfl
@[simp] theorem onC_ok' {P : Bool → Mem → Prop} {b : Bool} : onC P (.ok b) m = P b m := rfl
@[simp] theorem onV_ok' {P : T → Mem → Prop} {t : T} : onV P (.ok (.v t)) m = P t m := rfl
@[simp] theorem onSt_ok' {Q : QS} {k : α → Mem → Prop} {a : α} : onSt fr Q k (.ok a) m = k a m := rfl
@[simp] theorem onSt_er' {Q : QS} {k : α → Mem → Prop} : onSt fr Q k (.error x) m = Q (.ex x fr) m := rfl
/-! ### sources -/
def kSrc (F : List T → List T) (l : Option Nat) (m : Mem) (Q : QE Src) : List T → Prop := fun ts => Q (.ok (F ts, l)) m
@[simp] theorem kSrc_eq {F : List T → List T} {l : Option Nat} {Q : QE Src} {ts : List T} : kSrc F l m Q ts = Q (.ok (F ts, l)) m := rfl
@[simp] theorem w_src {F : List T → List T} {t : T} {Q : QE Src} : wE (srcL F (.v t)) fr m Q ↔ wO (isL t) (kSrc F none m Q) := wE_src
@[simp] theorem w_srcC {F : List T → List T} {i : Nat} {Q : QE Src} : wE (srcL F (.c i)) fr m Q ↔ wO (lstAt m i) (kSrc F (some i) m Q) := wE_srcC
def kItL (F : List T → List T) (fr : Fr) (Q : QE Src) : QE U := onOk Q fun u m' => wE (srcL F u) fr m' Q
@[simp] theorem kItL_ok {F : List T → List T} {Q : QE Src} {u : U} : kItL F fr Q (.ok u) m = wE (srcL F u) fr m Q := rfl
@[simp] theorem kItL_er {F : List T → List T} {Q : QE Src} : kItL F fr Q (.error x) m = Q (.error x) m := rfl
@[simp] theorem w_itL {f : M U} {Q : QE Src} : wE (mItL f) fr m Q ↔ wE f fr m (kItL id fr Q) := wE_bind
def kItE (fr : Fr) (Q : QE Src) : QE (List U) := onOk Q fun us m' => wO (one1 us) fun u => wE (srcL enumT u) fr m' Q
@[simp] theorem kItE_ok {Q : QE Src} {u : U} : kItE fr Q (.ok [u]) m ↔ wE (srcL enumT u) fr m Q := wO_some
@[simp] theorem kItE_er {Q : QE Src} : kItE fr Q (.error x) m = Q (.error x) m := rfl
@[simp] theorem w_itE {f : M (List U)} {Q : QE Src} : wE (mItE f) fr m Q ↔ wE f fr m (kItE fr Q) := wE_itE
def kItR (F : List U → Option (List T)) (Q : QE Src) : QE (List U) := onOk Q fun us m' => wO (F us) (kSrc id none m' Q)
@[simp] theorem kItR_ok {F : List U → Option (List T)} {Q : QE Src} {us : List U} : kItR F Q (.ok us) m = wO (F us) (kSrc id none m Q) := rfl
@[simp] theorem kItR_er {F : List U → Option (List T)} {Q : QE Src} : kItR F Q (.error x) m = Q (.error x) m := rfl
@[simp] theorem w_itR {F : List U → Option (List T)} {f : M (List U)} {Q : QE Src} : wE (mItR F f) fr m Q ↔ wE f fr m (kItR F Q) := wE_itR
def kSmall (Q : QE Src) : QE Src := onOk Q fun s m' => s.1.length ≤ sizeLine ∧ Q (.ok s) m'
@[simp] theorem kSmall_ok {Q : QE Src} {s : Src} : kSmall Q (.ok s) m ↔ s.1.length ≤ sizeLine ∧ Q (.ok s) m := Iff.rfl
@[simp] theorem kSmall_er {Q : QE Src} : kSmall Q (.error x) m = Q (.error x) m := rfl
@[simp] theorem w_small {f : M Src} {Q : QE Src} : wE (mSmall f) fr m Q ↔ wE f fr m (kSmall Q) := wE_small
def kItS (Q : QE Src) : QE U := onOk Q fun u m' => wO (isSt u) fun z => Q (.ok (strT z, none)) m'
@[simp] theorem kItS_ok {Q : QE Src} {z : Str} : kItS Q (.ok (.v (.str z))) m ↔ Q (.ok (strT z, none)) m := wO_some
@[simp] theorem kItS_er {Q : QE Src} : kItS Q (.error x) m = Q (.error x) m := rfl
@[simp] theorem w_itS {f : M U} {Q : QE Src} : wE (mItS f) fr m Q ↔ wE f fr m (kItS Q) := wE_itS
def kItI (Q : QE Src) : QE U := onOk Q fun u m' => wO (isDTu u) fun kts => Q (.ok (itemsT kts, none)) m'
@[simp] theorem kItI_ok {Q : QE Src} {kts : List (List Key × T)} : kItI Q (.ok (.v (.dT kts))) m ↔ Q (.ok (itemsT kts, none)) m := wO_some
@[simp] theorem kItI_er {Q : QE Src} : kItI Q (.error x) m = Q (.error x) m := rfl
@[simp] theorem w_itI {f : M U} {Q : QE Src} : wE (mItI f) fr m Q ↔ wE f fr m (kItI Q) := wE_itI
def kItT (Q : QE Src) : QE U := onOk Q fun u m' => wO (isTpU u) (kSrc id none m' Q)
@[simp] theorem kItT_ok {Q : QE Src} {t : T} : kItT Q (.ok (.v t)) m = wO (isTp t) (kSrc id none m Q) := rfl
@[simp] theorem kItT_er {Q : QE Src} : kItT Q (.error x) m = Q (.error x) m := rfl
@[simp] theorem w_itT {f : M U} {Q : QE Src} : wE (mItT f) fr m Q ↔ wE f fr m (kItT Q) := wE_itT
def kLc (Q : QE C) : List T → Mem → Prop := fun ys m' => Q (.ok (.t (.lst ys))) m'
@[simp] theorem kLc_eq {Q : QE C} {ys : List T} : kLc Q ys m = Q (.ok (.t (.lst ys))) m := rfl
@[simp] theorem w_compM {g : Tg} {t : M Bool} {e : M U} {vs : List Nat} {ts : List T} {Q : QE C} : wE (compM g t e vs ts) fr m Q ↔ wL g t e (wipeT fr vs) ts m (kLc Q) := wE_compM
def kComp (g : Tg) (t : M Bool) (e : M U) (vs : List Nat) (fr : Fr) (Q : QE C) : QE Src := onOk Q fun p m' => wE (compSel g t e vs p) fr m' Q
@[simp] theorem kComp_none {g : Tg} {t : M Bool} {e : M U} {vs : List Nat} {Q : QE C} {ts : List T} : kComp g t e vs fr Q (.ok (ts, none)) m = wE (compM g t e vs ts) fr m Q := rfl
@[simp] theorem kComp_some {g : Tg} {t : M Bool} {e : M U} {vs : List Nat} {Q : QE C} {ts : List T} {i : Nat} : kComp g t e vs fr Q (.ok (ts, some i)) m = wE (mLock i (compM g t e vs ts)) fr m Q := rfl
@[simp] theorem kComp_er {g : Tg} {t : M Bool} {e : M U} {vs : List Nat} {Q : QE C} : kComp g t e vs fr Q (.error x) m = Q (.error x) m := rfl
@[simp] theorem w_comp {it : M Src} {g : Tg} {t : M Bool} {e : M U} {vs : List Nat} {Q : QE C} : wE (mComp it g t e vs) fr m Q ↔ wE it fr m (kComp g t e vs fr Q) := wE_comp
end
/-! ### trees -/
@[simp] theorem addT_ii {a b : Int} : addT (.int a) (.int b) = some (.int (a + b)) := rfl
@[simp] theorem addT_tt {a b : List T} : addT (.tup a) (.tup b) = if a.length + b.length ≤ sizeLine then some (.tup (a ++ b)) else none := rfl
@[simp] theorem addT_ll {a b : List T} : addT (.lst a) (.lst b) = if a.length + b.length ≤ sizeLine then some (.lst (a ++ b)) else none := rfl
@[simp] theorem subT_ii {a b : Int} : subT (.int a) (.int b) = some (.int (a - b)) := rfl
@[simp] theorem mulT_ii {a b : Int} : mulT (.int a) (.int b) = if (-(2 ^ 64) < a ∧ a < 2 ^ 64) ∨ (-(2 ^ 64) < b ∧ b < 2 ^ 64) then some (.int (a * b)) else none := rfl
@[simp] theorem fdivT_ii {a b : Int} : fdivT (.int a) (.int b) = if 0 < b ∧ b < 2 ^ 200 then some (.int (a / b)) else none := rfl
@[simp] theorem modT_ii {a b : Int} : modT (.int a) (.int b) = if 0 < b then some (.int (a % b)) else none := rfl
@[simp] theorem powT_ii {a b : Int} : powT (.int a) (.int b) = if 0 ≤ b ∧ b ≤ 1000000 ∧ a.natAbs < 2 ^ 64 then some (.int (a ^ b.toNat)) else none := rfl
@[simp] theorem negT_i {a : Int} : negT (.int a) = some (.int (-a)) := rfl
@[simp] theorem ltT_ii {a b : Int} : ltT (.int a) (.int b) = some (.bl (decide (a < b))) := rfl
@[simp] theorem leT_ii {a b : Int} : leT (.int a) (.int b) = some (.bl (decide (a ≤ b))) := rfl
@[simp] theorem gtT_ii {a b : Int} : gtT (.int a) (.int b) = some (.bl (decide (b < a))) := rfl
@[simp] theorem geT_ii {a b : Int} : geT (.int a) (.int b) = some (.bl (decide (b ≤ a))) := rfl
@[simp] theorem eqP_ii {a b : Int} : eqP (.int a) (.int b) = some (.bl (decide (a = b))) := by simp [eqP, okD, eqT, toD, PyData.eqv]; rfl
@[simp] theorem neP_ii {a b : Int} : neP (.int a) (.int b) = some (.bl (!decide (a = b))) := by simp [neP, okD, eqT, toD, PyData.eqv]; rfl
@[simp] theorem eqP_bb {a b : Bool} : eqP (.bl a) (.bl b) = some (.bl (a == b)) := by cases a <;> cases b <;> simp [eqP, okD, eqT, toD, PyData.eqv]
@[simp] theorem neP_bb {a b : Bool} : neP (.bl a) (.bl b) = some (.bl (a != b)) := by cases a <;> cases b <;> simp [neP, okD, eqT, toD, PyData.eqv]
@[simp] theorem seqOf_l {ts : List T} : seqOf (.lst ts) = some ts := rfl
@[simp] theorem seqOf_t {ts : List T} : seqOf (.tup ts) = some ts := rfl
@[simp] theorem seqOf_rl {ts : List T} : seqOf (.rol ts) = some ts := rfl
@[simp] theorem lenP_l {ts : List T} : lenP [.lst ts] = some (.int ts.length) := rfl
@[simp] theorem lenP_t {ts : List T} : lenP [.tup ts] = some (.int ts.length) := rfl
@[simp] theorem lenP_rl {ts : List T} : lenP [.rol ts] = some (.int ts.length) := rfl
@[simp] theorem tupP_l {ts : List T} : tupP [.lst ts] = some (.tup ts) := rfl
@[simp] theorem intP_i {i : Int} : intP [.int i] = some (.int i) := rfl
@[simp] theorem intP_b {b : Bool} : intP [.bl b] = some (.int (if b then 1 else 0)) := rfl
@[simp] theorem isL_l {ts : List T} : isL (.lst ts) = some ts := rfl
@[simp] theorem isL_rl {ts : List T} : isL (.rol ts) = some ts := rfl
@[simp] theorem isTp_t {ts : List T} : isTp (.tup ts) = some ts := rfl
@[simp] theorem lstOf_l {ts : List T} : lstOf (.lst ts) = some ts := rfl
@[simp] theorem toT_t' {t : T} : toT (.t t) = some t := by cases t <;> rfl
@[simp] theorem one1_one {α : Type} {a : α} : one1 [a] = some a := rfl
@[simp] theorem derefs_nil {m : Mem} : derefs m [] = some [] := rfl
@[simp] theorem derefs_v {m : Mem} {t : T} {us : List U} : derefs m (.v t :: us) = (derefs m us).map (t :: ·) := by
  rw [derefs]; simp; cases derefs m us <;> rfl
@[simp] theorem allV_nil : allV [] = some [] := rfl
@[simp] theorem allV_v {t : T} {us : List U} : allV (.v t :: us) = (allV us).map (t :: ·) := by
  rw [allV]; cases allV us <;> rfl
@[simp] theorem slP_l {ts : List T} {lo hi : Option Int} : slP (.lst ts) lo hi = some (.lst (cutT ts lo hi)) := rfl
@[simp] theorem slP_rl {ts : List T} {lo hi : Option Int} : slP (.rol ts) lo hi = some (.lst (cutT ts lo hi)) := rfl
@[simp] theorem slP_t {ts : List T} {lo hi : Option Int} : slP (.tup ts) lo hi = some (.tup (cutT ts lo hi)) := rfl
@[simp] theorem ixP_l {ts : List T} {i : Int} : ixP (.lst ts) (.int i) = L2.atI ts i := rfl
@[simp] theorem ixP_rl {ts : List T} {i : Int} : ixP (.rol ts) (.int i) = L2.atI ts i := rfl
@[simp] theorem ixP_t {ts : List T} {i : Int} : ixP (.tup ts) (.int i) = L2.atI ts i := rfl
@[simp] theorem cellsOf_nil : cellsOf [] = [] := rfl
@[simp] theorem cellsOf_v {t : T} {us : List U} : cellsOf (.v t :: us) = cellsOf us := rfl
@[simp] theorem cellsOf_c {i : Nat} {us : List U} : cellsOf (.c i :: us) = i :: cellsOf us := rfl
@[simp] theorem renum_nil {k : Nat} : renum k [] = [] := rfl
@[simp] theorem renum_v {k : Nat} {t : T} {us : List U} : renum k (.v t :: us) = .v t :: renum k us := rfl
@[simp] theorem renum_c {k i : Nat} {us : List U} : renum k (.c i :: us) = .c k :: renum (k + 1) us := rfl
@[simp] theorem ldM_nil {m : Mem} : ldM m [] = [] := rfl
@[simp] theorem ldM_cons {m : Mem} {i : Nat} {is : List Nat} : ldM m (i :: is) = flatO m[i]?.join :: ldM m is := rfl
@[simp] theorem flatO_t {t : T} : flatO (some (.t t)) = some (.t t) := by unfold flatO; dsimp only; rw [toT_t']; rfl
@[simp] theorem flatO_none : flatO none = none := rfl
@[simp] theorem stM_nil {m m1 : Mem} : stM m [] m1 = m := by cases m1 <;> rfl
@[simp] theorem stM_cons {m m1 : Mem} {i : Nat} {is : List Nat} {x : Option C} : stM m (i :: is) (x :: m1) = (stM m is m1).set i (flatO x) := rfl
@[simp] theorem deref_ct {m : Mem} {i : Nat} : deref m (.c i) = (m[i]?.join).bind toT := by
  unfold deref
  dsimp only
  cases h : m[i]? with
  | none => rfl
  | some o => cases o <;> rfl
end G

/-! G25: trees without an exception in them; readings with and without one in hand. -/
namespace G
open PySem PySem.Spec PyProof.Rows L2
/-- no exception within, down to so many levels -/
def nxD : Nat → T → Bool
  | _, .non => true
  | _, .bl _ => true
  | _, .int _ => true
  | _, .str _ => true
  | n + 1, .tup ts => ts.all (nxD n)
  | n + 1, .lst ts => ts.all (nxD n)
  | n + 1, .rol ts => ts.all (nxD n)
  | n + 1, .rot ts => ts.all (nxD n)
  | n + 1, .dK kts => (kts.map (·.2)).all (nxD n)
  | n + 1, .dT kts => (kts.map (·.2)).all (nxD n)
  | n + 1, .ins _ fs => (fs.map (·.2)).all (nxD n)
  | _, _ => false
def nxU : U → Bool
  | .v t => nxD 9 t
  | .c _ => true
def nxO : Option U → Bool
  | some u => nxU u
  | none => true
def nxC : Option C → Bool
  | some (.t t) => nxD 9 t
  | some (.ins _ fs) => (fs.map (·.2)).all nxU
  | some (.pr us) => us.all nxU
  | none => true
/-- the same, but for what is in hand -/
structure Alike (c c' : Cn) : Prop where
  K : c'.K = c.K
  mg : c'.mg = c.mg
section
variable {c c' : Cn} {H : Hp} {L : Addr → Prop}
mutual
/-- what holds with nothing in hand holds with something in hand -/
theorem Rp.into (h : Alike c c') (h0 : c.hx = none) : ∀ {v : V} {t : T}, Rp c H L v t → Rp c' H L v t
  | _, _, .non => .non
  | _, _, .bl b => .bl b
  | _, _, .int i => .int i
  | _, _, .str x => .str x
  | _, _, .tup nl e s => .tup nl e (s.into h h0)
  | _, _, .rot k s => .rot (by rw [h.K]; exact k) (s.into h h0)
  | _, _, .lst nl e s => .lst nl e (s.into h h0)
  | _, _, .rolF nl e s => .rolF nl e (s.into h h0)
  | _, _, .rol k s => .rol (by rw [h.K]; exact k) (s.into h h0)
  | _, _, .dK nl r ek s => .dK nl r ek (s.into h h0)
  | _, _, .dT nl r ek s => .dT nl r ek (s.into h h0)
  | _, _, .ins nl e g ek s => .ins nl e (by rw [h.mg]; exact g) ek (s.into h h0)
  | _, _, .exc0 x _ => by rw [h0] at x; cases x
  | _, _, .exc1 x _ _ _ _ _ => by rw [h0] at x; cases x
theorem Rps.into (h : Alike c c') (h0 : c.hx = none) : ∀ {vs : List V} {ts : List T}, Rps c H L vs ts → Rps c' H L vs ts
  | _, _, .nil => .nil
  | _, _, .cons a r => .cons (a.into h h0) (r.into h h0)
end
mutual
/-- a tree without an exception hangs on nothing in hand -/
theorem Rp.outof (h : Alike c c') : ∀ {n : Nat} {v : V} {t : T}, Rp c H L v t → nxD n t = true → Rp c' H L v t
  | _, _, _, .non, _ => .non
  | _, _, _, .bl b, _ => .bl b
  | _, _, _, .int i, _ => .int i
  | _, _, _, .str x, _ => .str x
  | n + 1, _, _, .tup nl e s, q => .tup nl e (s.outof h (n := n) (by simpa only [nxD] using q))
  | n + 1, _, _, .rot k s, q => .rot (by rw [h.K]; exact k) (s.outof h (n := n) (by simpa only [nxD] using q))
  | n + 1, _, _, .lst nl e s, q => .lst nl e (s.outof h (n := n) (by simpa only [nxD] using q))
  | n + 1, _, _, .rolF nl e s, q => .rolF nl e (s.outof h (n := n) (by simpa only [nxD] using q))
  | n + 1, _, _, .rol k s, q => .rol (by rw [h.K]; exact k) (s.outof h (n := n) (by simpa only [nxD] using q))
  | n + 1, _, _, .dK nl r ek s, q => .dK nl r ek (s.outof h (n := n) (by simpa only [nxD] using q))
  | n + 1, _, _, .dT nl r ek s, q => .dT nl r ek (s.outof h (n := n) (by simpa only [nxD] using q))
  | n + 1, _, _, .ins nl e g ek s, q => .ins nl e (by rw [h.mg]; exact g) ek (s.outof h (n := n) (by simpa only [nxD] using q))
  | 0, _, _, .tup _ _ _, q => by simp [nxD] at q
  | 0, _, _, .rot _ _, q => by simp [nxD] at q
  | 0, _, _, .lst _ _ _, q => by simp [nxD] at q
  | 0, _, _, .rolF _ _ _, q => by simp [nxD] at q
  | 0, _, _, .rol _ _, q => by simp [nxD] at q
  | 0, _, _, .dK _ _ _ _, q => by simp [nxD] at q
  | 0, _, _, .dT _ _ _ _, q => by simp [nxD] at q
  | 0, _, _, .ins _ _ _ _ _, q => by simp [nxD] at q
  | n, _, _, .exc0 _ _, q => by cases n <;> simp [nxD] at q
  | n, _, _, .exc1 _ _ _ _ _ _, q => by cases n <;> simp [nxD] at q
theorem Rps.outof (h : Alike c c') : ∀ {n : Nat} {vs : List V} {ts : List T}, Rps c H L vs ts → ts.all (nxD n) = true → Rps c' H L vs ts
  | _, _, _, .nil, _ => .nil
  | n, _, _, .cons a r, q => by
    rw [List.all_cons, Bool.and_eq_true] at q
    exact .cons (a.outof h q.1) (r.outof h (n := n) q.2)
end
variable {B : Addr → Prop} {φ : List Addr} {m : Mem} {σ : L2.St} {fr : Fr}
theorem Ru.into (h : Alike c c') (h0 : c.hx = none) {v : V} {u : U} : Ru c H L φ v u → Ru c' H L φ v u
  | .v r => .v (r.into h h0)
  | .c e => .c e
theorem Ru.outof (h : Alike c c') {v : V} {u : U} : Ru c H L φ v u → nxU u = true → Ru c' H L φ v u
  | .v r, q => .v (r.outof h q)
  | .c e, _ => .c e
theorem Rus.into (h : Alike c c') (h0 : c.hx = none) : ∀ {vs : List V} {us : List U}, Rus c H L φ vs us → Rus c' H L φ vs us
  | _, _, .nil => .nil
  | _, _, .cons a r => .cons (a.into h h0) (r.into h h0)
theorem Rus.outof (h : Alike c c') : ∀ {vs : List V} {us : List U}, Rus c H L φ vs us → us.all nxU = true → Rus c' H L φ vs us
  | _, _, .nil, _ => .nil
  | _, _, .cons a r, q => by
    rw [List.all_cons, Bool.and_eq_true] at q
    exact .cons (a.outof h q.1) (r.outof h q.2)
theorem Cel.into (h : Alike c c') (h0 : c.hx = none) {a : Addr} : ∀ {t : C}, Cel c H L φ a t → Cel c' H L φ a t
  | .t (.lst _), ⟨vs, e, r⟩ => ⟨vs, e, r.into h h0⟩
  | .t (.dK _), ⟨kvs, e, k, r⟩ => ⟨kvs, e, k, r.into h h0⟩
  | .t (.dT _), ⟨kvs, e, k, r⟩ => ⟨kvs, e, k, r.into h h0⟩
  | .ins _ _, ⟨C, dx, fs, e, g, k, r⟩ => ⟨C, dx, fs, e, by rw [h.mg]; exact g, k, r.into h h0⟩
  | .pr _, ⟨vs, e, k, r⟩ => ⟨vs, e, k, r.into h h0⟩
theorem Cel.outof (h : Alike c c') {a : Addr} : ∀ {t : C}, Cel c H L φ a t → nxC (some t) = true → Cel c' H L φ a t
  | .t (.lst _), ⟨vs, e, r⟩, q => ⟨vs, e, r.outof h (n := 8) (by simpa only [nxC, nxD] using q)⟩
  | .t (.dK _), ⟨kvs, e, k, r⟩, q => ⟨kvs, e, k, r.outof h (n := 8) (by simpa only [nxC, nxD] using q)⟩
  | .t (.dT _), ⟨kvs, e, k, r⟩, q => ⟨kvs, e, k, r.outof h (n := 8) (by simpa only [nxC, nxD] using q)⟩
  | .ins _ _, ⟨C, dx, fs, e, g, k, r⟩, q => ⟨C, dx, fs, e, by rw [h.mg]; exact g, k, r.outof h q⟩
  | .pr _, ⟨vs, e, k, r⟩, q => ⟨vs, e, k, r.outof h (by simpa only [nxC] using q)⟩
theorem all_at {α : Type} {p : α → Bool} {l : List α} {i : Nat} {x : α} (h : l.all p = true) (e : l[i]? = some x) : p x = true := List.all_eq_true.mp h x (List.mem_of_getElem? e)
theorem MOk.into (h : Alike c c') (h0 : c.hx = none) (M : MOk c B H φ m) : MOk c' B H φ m := ⟨M.len, M.inj, M.nb, fun i a t e1 e2 => (M.cel i a t e1 e2).into h h0, M.bt⟩
theorem MOk.outof (h : Alike c c') (M : MOk c B H φ m) (q : m.all nxC = true) : MOk c' B H φ m := ⟨M.len, M.inj, M.nb, fun i a t e1 e2 => (M.cel i a t e1 e2).outof h (all_at q e2), M.bt⟩
theorem SOk.into (h : Alike c c') (h0 : c.hx = none) (S : SOk c B H φ m σ fr) : SOk c' B H φ m σ fr := ⟨S.mem.into h h0, S.len, fun i u e => let ⟨v, e1, r⟩ := S.loc i u e; ⟨v, e1, r.into h h0⟩⟩
theorem SOk.outof (h : Alike c c') (S : SOk c B H φ m σ fr) (q : m.all nxC = true) (qf : fr.all nxO = true) : SOk c' B H φ m σ fr := ⟨S.mem.outof h q, S.len, fun i u e => let ⟨v, e1, r⟩ := S.loc i u e; ⟨v, e1, r.outof h (all_at (x := some u) (p := nxO) qf e)⟩⟩
theorem Nxt.outof {H' : Hp} {φ' : List Addr} {m' : Mem} (h : Alike c c') (N : Nxt c B H φ m H' φ' m') (q : m'.all nxC = true) : Nxt c' B H φ m H' φ' m' := ⟨N.pre, N.keep, N.sub, N.trk, N.fr, N.ok.outof h q⟩
/-- a slot that is wiped -/
theorem SOk.unset (S : SOk c B H φ m σ fr) (i : Nat) : SOk c B H φ m (σ.set i none) (fr.set i none) := by
  refine ⟨S.mem, by simp [S.len], fun j u e => ?_⟩
  by_cases h : i = j
  · subst h
    by_cases hi : i < fr.length
    · rw [List.getElem?_set_self hi] at e; cases e
    · rw [List.getElem?_eq_none (by simpa using hi)] at e; cases e
  · rw [List.getElem?_set_ne h] at e
    rw [List.getElem?_set_ne h]
    exact S.loc j u e
end
end G

/-! G26: try with one clause `except x as n`, over the library's own rule; what is in hand. -/
namespace G
open PySem PySem.Spec PyProof.Rows L2
abbrev MH := Xc → MS
def sTry (fb : MS) (fh : MH) : MS := fun fr m => match fb fr m with
  | some (.ex x fr', m') => fh x fr' m'
  | r => r
/-- is an exception of the class n one of the class cl? ns: the classes right under the base -/
def subX (ns : List Str) (n cl : Str) : Option Bool := if ns.contains n then some (n == cl || cl == "ClingError" || cl == "ValueError") else none
/-- how a suite ends: the name goes, and nothing that stays may hold the exception -/
def endS (i : Nat) : Option (SR × Mem) → Option (SR × Mem)
  | some (.fl (.rt u) fr, m) => if m.all nxC && nxU u then some (.fl (.rt u) (fr.map fun _ => none), m) else none
  | some (.fl k fr, m) => if m.all nxC && (fr.set i none).all nxO then some (.fl k (fr.set i none), m) else none
  | _ => none
def hAs (ns : List Str) (cl : Str) (i : Nat) (fs : MS) : MH := fun x fr m => match subX ns x.cls cl with
  | some true => endS i (fs (fr.set i (some (.v (.exc x.cls x.fs)))) m)
  | some false => some (.ex x fr, m)
  | none => none
/-- a reading of a block by c -/
def rdC (c : Cn) (W : WX) (f : MS) : TS := fun D σ H => ∃ B φ m fr, SOk c B H φ m σ fr ∧ rxS c W (f fr m) B H φ m D
section
variable {X : Cx} {W : WX}
theorem SOk.bare {c : Cn} {B : Addr → Prop} {H : Hp} {φ : List Addr} {m : Mem} {σ : L2.St} {fr : Fr} (S : SOk c B H φ m σ fr) : SOk c B H φ m σ (fr.map fun _ => none) :=
  ⟨S.mem, by simp [S.len], fun i u e => by
    rw [List.getElem?_map] at e
    cases q : fr[i]? with
    | none => rw [q] at e; cases e
    | some y => rw [q] at e; cases e⟩
/-- the ends of a suite: the slot wiped -/
abbrev endD (i : Nat) (D : Ends) : Ends := { nx := fun σ H => D.nx (σ.set i none) H, rt := D.rt, bk := fun σ H => D.bk (σ.set i none) H, ct := fun σ H => D.ct (σ.set i none) H }
/-- from the reading behind the clause to that of the suite, with the exception in hand -/
theorem suite_rd {c c' : Cn} {W W' : WX} {i : Nat} {fs : MS} {B : Addr → Prop} {H : Hp} {φ : List Addr} {m : Mem} {fr : Fr} {D : Ends} {x : Xc} {a C : Addr} {d : Option Addr} {σ : L2.St} (h : Alike c c') (h' : Alike c' c) (h0 : c.hx = none) (hx : c'.hx = some (a, .ref C, d)) (S : SOk c B H φ m σ fr) (xr : XRp c H (LL B φ m) x (.ref C) d)
    (q : rxS c W (endS i (fs (fr.set i (some (.v (.exc x.cls x.fs)))) m)) B H φ m D) : rdC c' W' fs (endD i D) (σ.set i (some (.ref a))) H := by
  have rp : Rp c' H (LL B φ m) (.ref a) (.exc x.cls x.fs) := by
    obtain ⟨g, y⟩ := xr
    rw [← h.mg] at g
    cases d with
    | none =>
      dsimp only at y
      rw [y]; exact .exc0 hx g
    | some d =>
      obtain ⟨ws, ed, nd, ek, rs⟩ := y
      exact .exc1 hx g nd ed ek (rs.into h h0)
  refine ⟨B, φ, m, fr.set i (some (.v (.exc x.cls x.fs))), (S.into h h0).set i (.v rp), ?_⟩
  obtain ⟨r, m', e, w⟩ := q
  cases o : fs (fr.set i (some (.v (.exc x.cls x.fs)))) m with
  | none => rw [o] at e; cases e
  | some p =>
    obtain ⟨r2, m2⟩ := p
    rw [o] at e
    refine ⟨r2, m2, rfl, fun H' φ' N => ?_⟩
    cases r2 with
    | ex x2 fr2 => cases e
    | fl k fr2 =>
      intro σ2 S2
      cases k with
      | rt u =>
        unfold endS at e
        dsimp only at e
        split at e
        · rename_i t
          rw [Bool.and_eq_true] at t
          cases e
          exact fun v rv => w H' φ' (N.outof h' t.1) σ2 (S2.bare.outof h' t.1 (by simp [nxO])) v (rv.outof h' t.2)
        · cases e
      | nx =>
        unfold endS at e
        dsimp only at e
        split at e
        · rename_i t
          rw [Bool.and_eq_true] at t
          cases e
          exact w H' φ' (N.outof h' t.1) _ ((S2.unset i).outof h' t.1 t.2)
        · cases e
      | bk =>
        unfold endS at e
        dsimp only at e
        split at e
        · rename_i t
          rw [Bool.and_eq_true] at t
          cases e
          exact w H' φ' (N.outof h' t.1) _ ((S2.unset i).outof h' t.1 t.2)
        · cases e
      | ct =>
        unfold endS at e
        dsimp only at e
        split at e
        · rename_i t
          rw [Bool.and_eq_true] at t
          cases e
          exact w H' φ' (N.outof h' t.1) _ ((S2.unset i).outof h' t.1 t.2)
        · cases e
theorem cn_tr {pn : List (Addr × Obj)} {xe : Value → Shared → Prop} (hq : X.calm = true) : cn (X.tr pn xe) = cn X := by
  have : hdl (X.tr pn xe) = hdl X := by
    unfold hdl
    rw [show (X.tr pn xe).calm = true from hq]
  show Cn.mk X.K X.mg (hdl (X.tr pn xe)) = _
  rw [this]
theorem cn_suite {a : Addr} {oe : Obj} {cls : Value} {d : Option Addr} {pn : List (Addr × Obj)} (z : Zc cls d oe) (hf : ∃ vs, oe.data = .fields vs) : cn (X.suite a ((a, oe) :: pn)) = ⟨X.K, X.mg, some (a, cls, d)⟩ := by
  obtain ⟨vs, hf⟩ := hf
  have : hdl (X.suite a ((a, oe) :: pn)) = some (a, cls, d) := by
    show hdO ((a, oe) :: pn) = _
    unfold hdO
    dsimp only
    rw [hf, z.1, z.2]
  show Cn.mk X.K X.mg (hdl (X.suite a ((a, oe) :: pn))) = _
  rw [this]
/-- try: body / except cl as n: suite -/
theorem s_tryAs {ns : List Str} {cl n : Str} {c : Value} {i : Nat} {body sts : List Stmt} {st : Stmt} {np pos pos' : Pos} {fb fs : MS} (hq : X.calm = true) (hst : X.stack = X.env :: X.outer) (hfm : X.env.frame = some X.env.locals)
    (hN : X.N.Nodup) (hi : X.N[i]? = some n) (hln : X.env.kindOf n = some .local) (hc : Names X cl c) (hm : ∀ x v b, X.mg x = some v → subX ns x cl = some b → (∃ C, v = .ref C) ∧ PySem.W.exmOne X.K v c = some b) (tk : Takes X W)
    (hb : ∀ (W : WX) (pn : List (Addr × Obj)) (xe : Value → Shared → Prop), Takes (X.tr pn xe) W → PassesOwn (model X.prog X.w) X.A X.env xe → PSs (X.tr pn xe) body (rdS (X.tr pn xe) W fb))
    (hsu : ∀ (a : Addr) (q : Addr × Obj) (pn : List (Addr × Obj)), PSs (X.suite a (q :: pn)) (st :: sts) (rdS (X.suite a (q :: pn)) W0 fs)) :
    PS X (.Try body [.ExceptHandler (some (.Name cl np)) (some n) (st :: sts) pos'] [] [] pos) (rdS X W (sTry fb (hAs ns cl i fs))) := by
  have hc0 : hdl X = none := by unfold hdl; rw [hq]
  refine PS.wk (ps_try_as (tb := fun W => rdC (cn X) W fb) (ts := fun a cls d => rdC ⟨X.K, X.mg, some (a, cls, d)⟩ W0 fs) hst hfm hN hi hln hc tk (fun W pn xe t po => ?_) fun a oe cls d pn z hf => ?_) ?_
  · have := hb W pn xe t po
    unfold rdS at this
    rw [cn_tr hq] at this
    exact this
  · have := hsu a (a, oe) pn
    unfold rdS at this
    rw [cn_suite z hf] at this
    exact this
  · rintro D σ H ⟨B, φ, m, fr, S, r, m', e, w⟩
    refine ⟨B, φ, m, fr, S, ?_⟩
    unfold sTry at e
    cases o : fb fr m with
    | none => rw [o] at e; cases e
    | some p =>
      obtain ⟨r1, m1⟩ := p
      rw [o] at e
      refine ⟨r1, m1, rfl, fun H1 φ1 n1 => ?_⟩
      match r1, e with
      | .fl k fr1, e => cases e; exact w H1 φ1 n1
      | .ex x fr1, e =>
        intro σ1 S1 cls d xr
        unfold hAs at e
        dsimp only at e
        cases k : subX ns x.cls cl with
        | none => rw [k] at e; cases e
        | some b =>
          rw [k] at e
          obtain ⟨⟨C, rfl⟩, em⟩ := hm x.cls cls b xr.1 k
          refine ⟨b, em, fun hb1 a _ => ?_, fun hb1 => ?_⟩
          · subst hb1
            exact suite_rd (c := cn X) (x := x) (W := W) ⟨rfl, rfl⟩ ⟨rfl, rfl⟩ hc0 rfl S1 xr ⟨r, m', e, fun H' φ' n => w H' φ' (n1.trans n)⟩
          · subst hb1
            cases e
            exact w H1 φ1 n1 σ1 S1 _ d xr
end
/-! ### what is in hand -/
structure ExC (K : PySem.W.Frag) (C : Addr) : Prop where
  ic : PySem.W.isClsIn K C = true
  ga : PySem.W.findIn K (.ref C) "__getattribute__" = some (some (.builtin "BaseException.__getattribute__"))
  gg : PySem.W.findIn K (.ref C) "__getattr__" = some none
  sb : PySem.W.subIn K (.ref C) (.type "BaseException") = some true
  hd : PySem.W.hasDictIn K C = true
  ha : PySem.W.findIn K (.ref C) "__class__" = some (some (.builtin "object.__class__"))
  hn : PySem.W.specialIn K (.builtin "object.__class__") "__get__" = some (some (.builtin "getset_descriptor.__get__"))
  ht : PySem.W.takesIn K (.builtin "object.__class__") = some true
  hm : PySem.W.mroIn K C (.type "object") = some true
section
variable {X : Cx} {W : WX} {f : M U}
/-- what is in hand lies there -/
theorem hdl_at {pins : List (Addr × Obj)} {σ : L2.St} {H : Hp} {s : Shared} {a : Addr} {cls : Value} {d : Option Addr} (I : Inv X pins σ H s) (h : hdl X = some (a, cls, d)) : ∃ oe vs, s.heap.get? a = some oe ∧ oe.cls = cls ∧ oe.dict = d ∧ oe.data = .fields vs := by
  unfold hdl at h
  cases q : X.calm with
  | true => rw [q] at h; cases h
  | false =>
    rw [q] at h
    dsimp only at h
    cases p : X.pn with
    | nil => rw [p] at h; cases h
    | cons y ys =>
      obtain ⟨b, oe⟩ := y
      rw [p] at h
      have hp := I.pin (b, oe) (by rw [p]; exact List.mem_cons_self ..)
      unfold hdO at h
      dsimp only at h
      split at h
      · rename_i vs hv
        cases h
        exact ⟨oe, vs, hp.1, rfl, rfl, hv⟩
      · cases h
theorem exc_at {pins : List (Addr × Obj)} {σ : L2.St} {H : Hp} {s : Shared} {L : Addr → Prop} {v : V} {n : Str} {fts : List (Str × T)} (I : Inv X pins σ H s) (r : Rp (cn X) H L v (.exc n fts)) :
    ∃ a C oe od, v = .ref a ∧ X.mg n = some (.ref C) ∧ PySem.W.InstAt s.heap a oe C od := by
  cases r with
  | @exc0 a C _ e g =>
    obtain ⟨oe, vs, h1, h2, h3, h4⟩ := hdl_at I e
    exact ⟨a, C, oe, none, rfl, g, h1, h2, by unfold PySem.W.notCls; rw [h4] <;> rfl, by rw [h3]; trivial⟩
  | @exc1 a C d _ fs _ e g nd ed ek rs =>
    obtain ⟨oe, vs, h1, h2, h3, h4⟩ := hdl_at I e
    have y : ObjOk X.prog X.w H s.heap d (.xd fs) := I.hok d _ ed
    obtain ⟨mA, hns, hr⟩ := y
    obtain ⟨od, ho, hl⟩ := lookIn_ns hns
    exact ⟨a, C, oe, some od, rfl, g, h1, h2, by unfold PySem.W.notCls; rw [h4] <;> rfl, by rw [h3]; exact ho⟩
end
end G

/-! G27: isinstance and fields of an exception in hand; raise. -/
namespace G
open PySem PySem.Spec PyProof.Rows L2
theorem Vw.exc {c : Cn} {H : Hp} {L : Addr → Prop} {x : V} {n : Str} {fts : List (Str × T)} (h : Vw c H L x (.exc n fts)) : Rp c H L x (.exc n fts) := by
  rcases h with h | ⟨a, φ, ct, rfl, ht, hc⟩
  · exact h
  · cases toT_t ht fun _ _ z => nomatch z
    exact hc.elim
def isU (n cl : Str) : Bool := n == cl || cl == "ClingError" || cl == "ValueError"
def isX (ns : List Str) (cl : Str) : T → Option T
  | .exc n _ => if ns.contains n then some (.bl (isU n cl)) else none
  | _ => none
def isXT (ns cls : List Str) : T → Option T
  | .exc n _ => if ns.contains n then some (.bl (cls.any (isU n))) else none
  | _ => none
def fX (cs : List Str) (f : Str) : T → Option T
  | .exc n fs => if cs.contains n then fs.lookup f else none
  | _ => none
section
variable {X : Cx} {W : WX} {f : M U}
theorem ExC.kit {K : PySem.W.Frag} {C a : Addr} {oe : Obj} {od : Option Obj} (e : ExC K C) : PySem.W.KitX K (.ref a) (.ref C) (fun h => PySem.W.InstAt h a oe C od) := PySem.W.kitx_exc e.ic e.ga e.gg e.sb e.ha e.hn e.ht e.hm
def rIsX (X : Cx) : List V → Hp → VK → Prop := fun xs H Q => ∃ (L : Addr → Prop) (v : V) (n : Str) (fts : List (Str × T)) (c : V) (C : Addr) (u : Value) (b : Bool), xs = [v, c] ∧ Rp (cn X) H L v (.exc n fts) ∧ ClsV c u ∧ X.mg n = some (.ref C) ∧ ExC X.K C ∧ PySem.W.kitOne X.K (.ref C) u = some b ∧ Q (.bl b) H
theorem call_isX : CallR X (.builtin "isinstance") (rIsX X) := by
  intro pins s σ H xs us Q I r h
  obtain ⟨L, v, n, fts, c, C, u, b, rfl, rp, k, g, ex, e, q⟩ := h
  obtain ⟨u1, u2, rfl, r1, r2⟩ := vals2 r
  have e2 := k.eq r2
  subst e2
  obtain ⟨a, C', oe, od, rfl, g', J⟩ := exc_at I rp
  rw [g] at g'; cases g'
  cases (show u1 = Value.ref a from r1)
  exact PySem.W.kia_one (ex.kit (od := od)) I.kIn J e (fun z => nomatch z) fun tk => ⟨.bl b, H, I.tok tk, rfl, q⟩
def rIsXT (X : Cx) : List V → Hp → VK → Prop := fun xs H Q => ∃ (L : Addr → Prop) (v : V) (n : Str) (fts : List (Str × T)) (tp : Addr) (cs : List V) (C : Addr) (ws : List Value) (b : Bool), xs = [v, .ref tp] ∧ Rp (cn X) H L v (.exc n fts) ∧ H tp = some (.tup cs) ∧ Paired ClsV cs ws ∧ X.mg n = some (.ref C) ∧ ExC X.K C ∧ PySem.W.kitAny X.K (.ref C) ws = some b ∧ Q (.bl b) H
theorem call_isXT : CallR X (.builtin "isinstance") (rIsXT X) := by
  intro pins s σ H xs us Q I r h
  obtain ⟨L, v, n, fts, tp, cs, C, ws, b, rfl, rp, hT, k, g, ex, e, q⟩ := h
  obtain ⟨u1, u2, rfl, r1, r2⟩ := vals2 r
  cases (show u2 = Value.ref tp from r2)
  obtain ⟨a, C', oe, od, rfl, g', J⟩ := exc_at I rp
  rw [g] at g'; cases g'
  cases (show u1 = Value.ref a from r1)
  obtain ⟨_, its, rv, o, h1, h2, n', h3⟩ := (show ObjOk X.prog X.w H s.heap tp (.tup cs) from I.hok tp _ hT)
  have e3 := ClsV.all k rv
  subst e3
  obtain ⟨oc, od', dt, sl⟩ := o
  simp only at h2 h3
  subst h2 h3
  exact PySem.W.kia_tup (ex.kit (od := od)) I.kIn J h1 e (fun z => nomatch z) fun tk => ⟨.bl b, H, I.tok tk, rfl, q⟩
/-- the classes of exceptions, and how isinstance asks them of one class -/
def XOk (X : Cx) (ns : List Str) (cl : Str) (u : Value) : Prop := ∀ n, ns.contains n = true → ∃ C, X.mg n = some (.ref C) ∧ ExC X.K C ∧ PySem.W.kitOne X.K (.ref C) u = some (isU n cl)
theorem e_isX {ns : List Str} {cl : Str} {c : V} {u : Value} {a k : Expr} {p pos : Pos} (hg : Gl X "isinstance") (hm : X.mg "isinstance" = none) (hk : PE X k (tC c)) (kc : ClsV c u) (hx : XOk X ns cl u) (ha : PE X a (rdE X W f))
    (he : starEach [a, k] X.env = (false, eval a X.env) :: starEach [k] X.env := by rfl) (he2 : starEach [k] X.env = (false, eval k X.env) :: starEach [] X.env := by rfl) :
    PE X (.Call (.Name "isinstance" p) [a, k] [] pos) (rdE X W (mUn (pv1 (isX ns cl)) f)) := by
  refine PE.wk (pe_callB call_isX hg hm (by decide +kernel) (pa_cons ha (pa_cons hk pa_nil he2) he) (by decide) (by decide) he (by rw [he2]; rfl)) fun σ H Q h => ?_
  obtain ⟨B, φ, m, fr, S, h⟩ := rd.un h
  refine ⟨B, φ, m, fr, S, h.mono fun y H1 ⟨B, φ1, m1, v, M1, ru, h1⟩ => ?_⟩
  obtain ⟨x', t, vw, e1, hq⟩ := h1.pv1 M1 ru
  cases x' with
  | exc n fts =>
    unfold isX at e1
    dsimp only at e1
    split at e1
    · rename_i hn
      cases e1
      obtain ⟨C, g, ex, e⟩ := hx n hn
      exact ⟨_, y, n, fts, c, C, u, _, rfl, vw.exc, kc, g, ex, e, hq H1 (.refl M1) _ (.bl _)⟩
    · cases e1
  | _ => cases e1
theorem kitAny_of {K : PySem.W.Frag} {t : Value} : ∀ {ws : List Value} {bs : List Bool}, Paired (fun w b => PySem.W.kitOne K t w = some b) ws bs → PySem.W.kitAny K t ws = some (bs.any id)
  | _, _, .nil => rfl
  | _, _, .cons (b := b) h r => by
    refine kitAny_cons h (fun hb => ?_) fun hb => ?_
    · rw [kitAny_of r, List.any_cons, hb]; rfl
    · rw [List.any_cons, hb]; rfl
end
end G

/-! G28: more of exceptions: a tuple of classes, fields, making and raising. -/
namespace G
open PySem PySem.Spec PyProof.Rows L2
section
variable {X : Cx} {W : WX} {f : M U}
def XB (X : Cx) (ns : List Str) : Prop := ∀ n, ns.contains n = true → ∃ C, X.mg n = some (.ref C) ∧ ExC X.K C
def XOkT (X : Cx) (ns cls : List Str) (ws : List Value) : Prop := ∀ n, ns.contains n = true → ∃ C, X.mg n = some (.ref C) ∧ ExC X.K C ∧ PySem.W.kitAny X.K (.ref C) ws = some (cls.any (isU n))
theorem xokT_nil {ns : List Str} (h : XB X ns) : XOkT X ns [] [] := fun n hn => by
  obtain ⟨C, g, ex⟩ := h n hn
  exact ⟨C, g, ex, rfl⟩
theorem xokT_cons {ns cls : List Str} {cl : Str} {u : Value} {ws : List Value} (h : XOk X ns cl u) (hr : XOkT X ns cls ws) : XOkT X ns (cl :: cls) (u :: ws) := fun n hn => by
  obtain ⟨C, g, ex, e⟩ := h n hn
  obtain ⟨C', g', _, e'⟩ := hr n hn
  rw [g] at g'; cases g'
  refine ⟨C, g, ex, kitAny_cons e (fun hb => ?_) fun hb => ?_⟩
  · rw [e', List.any_cons, hb]; rfl
  · rw [List.any_cons, hb]; rfl
theorem e_isXT {ns cls : List Str} {cs : List V} {ws : List Value} {tcs : TA} {a : Expr} {ks : List Expr} {x1 : Nat} {p p2 pos : Pos} (hg : Gl X "isinstance") (hm : X.mg "isinstance" = none) (hk : PA X ks tcs) (ht : ∀ σ H Q, Q cs H → tcs σ H Q) (kc : Paired ClsV cs ws) (hl : cs.length ≤ 100)
    (hx : XOkT X ns cls ws) (ha : PE X a (rdE X W f)) (he : starEach [a, .Tuple ks x1 p2] X.env = (false, eval a X.env) :: starEach [.Tuple ks x1 p2] X.env := by rfl) (he2 : starEach [.Tuple ks x1 p2] X.env = (false, eval (.Tuple ks x1 p2) X.env) :: starEach [] X.env := by rfl) :
    PE X (.Call (.Name "isinstance" p) [a, .Tuple ks x1 p2] [] pos) (rdE X W (mUn (pv1 (isXT ns cls)) f)) := by
  refine PE.wk (pe_callB call_isXT hg hm (by decide +kernel) (pa_cons ha (pa_cons (pe_tup hk) pa_nil he2) he) (by decide) (by decide) he (by rw [he2]; rfl)) fun σ H Q h => ?_
  obtain ⟨B, φ, m, fr, S, h⟩ := rd.un h
  refine ⟨B, φ, m, fr, S, h.mono fun y H1 ⟨B, φ1, m1, v, M1, ru, h1⟩ => ?_⟩
  obtain ⟨x', t, vw, e1, hq⟩ := h1.pv1 M1 ru
  refine ht _ _ _ ⟨by rw [sizeLine_eq]; omega, fun tp hp => ?_⟩
  cases x' with
  | exc n fts =>
    unfold isXT at e1
    dsimp only at e1
    split at e1
    · rename_i hn
      cases e1
      obtain ⟨C, g, ex, e⟩ := hx n hn
      have n1 : Nxt (cn X) B H1 φ1 m1 (upd H1 tp (.tup cs)) φ1 m1 := Nxt.plus (.refl M1) hp
      exact ⟨_, y, n, fts, tp, cs, C, ws, _, rfl, vw.exc.nxt n1, upd_same, kc, g, ex, e, hq _ n1 _ (.bl _)⟩
    · cases e1
  | _ => cases e1
/-- the classes with this field -/
def XF (X : Cx) (cs : List Str) (fd : Str) : Prop := ∀ n, cs.contains n = true → ∃ C, X.mg n = some (.ref C) ∧ ExC X.K C ∧ PySem.W.findIn X.K (.ref C) fd = some none
theorem Rps.lookup {c : Cn} {H : Hp} {L : Addr → Prop} {n : Str} {t : T} : ∀ {fs : List (Str × V)} {gs : List (Str × T)}, fs.map (·.1) = gs.map (·.1) → Rps c H L (fs.map (·.2)) (gs.map (·.2)) → gs.lookup n = some t → ∃ v, fs.lookup n = some v ∧ Rp c H L v t
  | [], [], _, _, e => by cases e
  | [], _ :: _, h, _, _ => by cases h
  | _ :: _, [], h, _, _ => by cases h
  | (k, v) :: fs, (k', t') :: gs, h, r, e => by
    rw [List.map_cons, List.map_cons] at h
    injection h with h1 h2
    dsimp only at h1
    subst h1
    cases r with
    | cons a r =>
      simp only [List.lookup_cons] at e ⊢
      cases q : (n == k) with
      | true => rw [q] at e; cases e; exact ⟨v, rfl, a⟩
      | false => rw [q] at e; exact Rps.lookup h2 r e
theorem e_fX {cs : List Str} {e : Expr} {fd : Str} {pos : Pos} (hx : XF X cs fd) (he : PE X e (rdE X W f)) (hb : attributeBase e fd X.env (eval e X.env) = eval e X.env := by rfl) : PE X (.Attribute e fd pos) (rdE X W (mUn (pv1 (fX cs fd)) f)) := by
  refine ⟨fun pins s σ H Q I h => ?_⟩
  obtain ⟨B, φ, m, fr, S, h⟩ := rd.un h
  refine attr_of hb (thn (he.run pins s σ H _ I ⟨B, φ, m, fr, S, h⟩) fun u s1 hh => ?_)
  obtain ⟨y, H1, I1, ry, B, φ1, m1, v, M1, ru, h1⟩ := hh
  obtain ⟨x', t, vw, e1, hq⟩ := h1.pv1 M1 ru
  cases x' with
  | exc n fts =>
    unfold fX at e1
    dsimp only at e1
    split at e1
    · rename_i hn
      obtain ⟨C, g, ex, no⟩ := hx n hn
      have rp := vw.exc
      obtain ⟨a, C', oe, od, rfl, g', J⟩ := exc_at I1 rp
      rw [g] at g'; cases g'
      cases (show u = Value.ref a from ry)
      cases rp with
      | exc0 ea ga => cases e1
      | @exc1 _ C2 dd _ fs _ ea ga nd ed ek rs =>
        have ga : X.mg n = some (.ref C2) := ga
        rw [g] at ga; cases ga
        obtain ⟨v', l, rv⟩ := rs.lookup ek e1
        have od' : ObjOk X.prog X.w H1 s1.heap dd (.xd fs) := I1.hok dd _ ed
        obtain ⟨mA, hns, hr⟩ := od'
        obtain ⟨od2, ho, hl⟩ := lookIn_ns hns
        obtain ⟨u', hu, ru'⟩ := RelO.some_of (v := v') (o := mA fd) (by rw [← l]; exact hr fd)
        obtain ⟨oe2, vs, q1, q2, q3, q4⟩ := hdl_at I1 ea
        have J2 : PySem.W.InstAt s1.heap a oe2 C (some od2) := ⟨q1, q2, by unfold PySem.W.notCls; rw [q4] <;> rfl, by rw [q3]; exact ho⟩
        exact HandSPX.exc_get I1.kIn J2 ex.ga ex.gg ex.sb (PySem.W.findObj_own ex.hd no rfl (by rw [hl, hu])) (handed_of ru') ⟨v', H1, I1.tok _, ru', hq H1 (.refl M1) v' rv⟩
    · cases e1
  | _ => cases e1
end
/-! ### making and raising -/
section
variable {X : Cx} {W : WX} {f : M U}
/-- what is said of the base, whose own making is a built-in's -/
structure BaseI (K : PySem.W.Frag) (mg : Str → Option Value) (bn : Str) (CE : Addr) : Prop where
  g : mg bn = some (.ref CE)
  sp : PySem.W.specialIn K (.ref CE) "__getattribute__" = some (some (.builtin "type.__getattribute__"))
  rd : PySem.W.readsIn K CE (.type "type") = true
  fc : PySem.W.findCls K (.ref CE) (.type "type") "__init__" = some (.val (.builtin "ValueError.__init__"))
/-- ValueError.__init__ by its arguments, the exception ahead -/
theorem ve_args {pins : List (Addr × Obj)} {s : Shared} {σ : L2.St} {H : Hp} {Q : VK} {e : Expr} {es : List Expr} {ta : TA} {pos : Pos} (J : Inv X pins σ H s) (ha : PA X (e :: es) ta) (h : tVeI X.K ta σ H Q) (first : starEach (e :: es) X.env = (false, eval e X.env) :: starEach es X.env)
    (plain : (backTo pos (starEach es X.env)).any (·.1) = false) : wpAny (model X.prog X.w) X.A (callWith pos (.builtin "ValueError.__init__") [] (backTo pos (starEach (e :: es) X.env)) []) (EP X pins σ Q) X.xe s := by
  have done : ∀ us s1, (∃ vs H1, Inv X pins σ H1 s1 ∧ Vals vs us ∧ ∃ a C ws, vs = .ref a :: ws ∧ ws.length ≤ 1000 ∧ OexC X.K C ∧ H1 a = some (exo a C none) ∧ Q .non H1) → wpAny (model X.prog X.w) X.A (call (.builtin "ValueError.__init__") us) (EP X pins σ Q) X.xe s1 := by
    rintro us s1 ⟨_, H1, J1, rel, a, C, ws, rfl, few, ex, at', q⟩
    cases rel with
    | cons ra rr =>
      cases ra
      have size : ws.length = _ := Paired.length rr
      exact oinit_ok ex J1 at' (by rw [← size, sizeLine_eq]; omega) fun s2 J2 => ⟨.non, H1, J2, rfl, q⟩
  exact PyProof.Rows.callWith_method1 (thn (ha.run pos pins s σ H _ J h) fun us s1 x => done us s1 x) first plain
/-- bn.__init__(..) of an own class whose making is the built-in's -/
theorem pe_baseinit {bn : Str} {CE : Addr} {e : Expr} {es : List Expr} {ta : TA} {p1 p2 pos : Pos} {pl : Sem Bool} (hg : Gl X bn) (bi : BaseI X.K X.mg bn CE) (ha : PA X (e :: es) ta)
    (hc : eval (.Call (.Attribute (.Name bn p1) "__init__" p2) (e :: es) [] pos) X.env = (do
      let o ← eval (.Name bn p1) X.env
      standAt p2.atName
      let (g, first) ← holding [o] (getMethod o "__init__" pl)
      callWith pos g first (backTo pos (starEach (e :: es) X.env)) (backToKw pos (keywordEach [] X.env))) := by rfl)
    (hdb : (bn == ("__debug__" : Str)) = false := by decide) (he : starEach (e :: es) X.env = (false, eval e X.env) :: starEach es X.env := by rfl) (hpl : (backTo pos (starEach es X.env)).any (·.1) = false := by rfl) :
    PE X (.Call (.Attribute (.Name bn p1) "__init__" p2) (e :: es) [] pos) (tVeI X.K ta) :=
  ⟨fun pins s σ H Q J h => PySem.W.methodCall_KW (ld_glob J hg bi.g (PySem.W.method_cls J.kIn bi.sp (PySem.W.cls_value J.kIn bi.rd bi.fc (by decide +kernel) (ve_args (J.tok _) ha h he hpl))) hdb) hc⟩
def spI (K : PySem.W.Frag) (fd : Str) (C : Addr) : Sp := fun vs H Q _ => ∃ a v, vs = [.ref a, v] ∧ H a = some (exo a C none) ∧ ∀ dx, H dx = none → dx ≠ a → Q .non (upd (upd H dx (exd dx [(fd, v)])) a (exo a C (some dx)))
def tIni (fd : Str) (C : Addr) : TS := fun D σ H => ∃ a v, σ[0]? = some (some (.ref a)) ∧ σ[1]? = some (some v) ∧ H a = some (exo a C none) ∧ ∀ dx, H dx = none → dx ≠ a → D.nx σ (upd (upd H dx (exd dx [(fd, v)])) a (exo a C (some dx)))
theorem ini_walk {C : Addr} {fd : Str} {e1 o v : Expr} {ta : TA} {p p' pos : Pos} (T : OexC X.K C) (no : PySem.W.findIn X.K (.ref C) fd = some none) (h1 : PE X e1 (tVeI X.K ta))
    (hta : ∀ (σ : L2.St) (H : Hp) (Q : List V → Hp → Prop) (a : Addr), σ[0]? = some (some (.ref a)) → (∀ w, Q [.ref a, w] H) → ta σ H Q) (h2 : PE X o (tVar 0)) (h3 : PE X v (tVar 1))
    (hs1 : swapsWith e1 none p.line X.env = pure false := by rfl) (hs2 : swapsWith v (some (.Attribute o fd p')) pos.line X.env = pure false := by rfl) :
    PSs X [.Expr e1 p, .Assign [.Attribute o fd p'] v pos] (tIni fd C) := by
  refine PSs.wk (pss_cons (ps_expr h1 hs1) (pss_one (ps_ost h2 h3 hs2))) fun D σ H ⟨a, w, q0, q1, ha, hq⟩ => ?_
  refine hta _ _ _ a q0 fun w' => ⟨a, C, [w'], rfl, by simp, T, ha, ?_⟩
  exact ⟨w, q1, .ref a, q0, a, C, rfl, T, no, .inl ⟨ha, hq⟩⟩
theorem init_okT {P : Program} {w : World} {K : PySem.W.Frag} {mg : Str → Option Value} {base : Heap} {x qual : Str} {st : Stmt} {f C : Addr} {fdat : FuncData} {sn pn fd : Str} {k : Nat} (F : Fun K x qual st f fdat) (S : FnScope [sn, pn] [sn, pn] (defScope st))
    (hb : ∀ (cdv : Value) (A : Around) (outer : List Env) (s : Shared) (H : Hp) (E : XK), PSs (cxOf (L2.CX P w) P w K mg base [sn, pn] qual (defScope st) f cdv A outer s H E) (defBody st) (tIni fd C)) :
    FnOk P w K mg base (L2.CX P w) (k + 1) f fdat [sn, pn] (spI K fd C) := by
  refine F.okX S (fun vs H Q E h => ?_) fun cdv A outer s H vs Q E hr h => ⟨_, hb cdv A outer s H E, ?_⟩
  · obtain ⟨a, v, rfl, _⟩ := h; rfl
  · obtain ⟨a, v, rfl, ha, hq⟩ := h
    exact ⟨a, v, rfl, rfl, ha, hq⟩
def sRaise1 (cl fd : Str) (f : M U) : MS := sBind f fun u fr m => match u with
  | .v t => some (.ex ⟨cl, [(fd, t)]⟩ fr, m)
  | .c _ => none
theorem s_raise1 {cl fd : Str} {C fI : Addr} {k : Nat} {fdat : FuncData} {ps : List Str} {e : Expr} {p pos pos' : Pos} (hc : X.calm = true) (tk : Takes X W) (T : OexC X.K C) (iC : PySem.W.findIn X.K (.ref C) "__init__" = some (some (.ref fI))) (tI : PySem.W.typeIn X.K (.ref fI) = some (.type "function"))
    (F1 : FnOk X.prog X.w X.K X.mg X.base (L2.CX X.prog X.w) k fI fdat ps (spI X.K fd C)) (hr : Room (k + 1) X.A) (hb : Binds X.K fdat ps []) (hg : Gl X cl) (hm : X.mg cl = some (.ref C)) (ha : PE X e (rdE X W f))
    (hdb : (cl == ("__debug__" : Str)) = false := by decide) (he : starEach [e] X.env = (false, eval e X.env) :: starEach [] X.env := by rfl) :
    PS X (.Raise (some (.Call (.Name cl p) [e] [] pos)) none pos') (rdS X W (sRaise1 cl fd f)) := by
  refine PS.wk (ps_raise hc tk (pmk_oex T iC tI F1 hr hb .nil (passes_call (W := fun _ _ _ _ => False) takes0 fun _ _ _ _ z => z) hg hm (pa_cons ha pa_nil he) hdb he (by rfl))) fun D σ H h => ?_
  obtain ⟨B, φ, m, fr, S, h⟩ := h.bind (R := rrU)
  refine ⟨B, φ, m, fr, S, h.mono fun v H1 ⟨B, φ1, m1, fr, u, S1, ru, h1⟩ => ?_⟩
  refine ⟨by simp, fun a na => ⟨a, v, rfl, upd_same, fun dx ndx nda => ⟨rfl, dx, [(fd, v)], upd_same, by rw [upd_ne nda, upd_same], ?_, ?_⟩⟩⟩
  · rw [upd_ne nda] at ndx; exact ndx
  · have nd1 : H1 dx = none := by rw [upd_ne nda] at ndx; exact ndx
    have eq : upd (del (upd (upd (upd H1 a (exo a C none)) dx (exd dx [(fd, v)])) a (exo a C (some dx))) a) dx (.xd [(fd, v)]) = upd H1 dx (.xd [(fd, v)]) := by
      funext b
      by_cases hb : b = dx
      · rw [hb, upd_same, upd_same]
      · rw [upd_ne hb, upd_ne hb]
        by_cases hba : b = a
        · rw [hba, del_same, na]
        · rw [del_ne hba, upd_ne hba, upd_ne hb, upd_ne hba]
    rw [eq]
    obtain ⟨r, m', e, h1⟩ := h1
    cases u with
    | c j => cases e
    | v t =>
      cases e
      cases ru with
      | v rt =>
        have n1 : Nxt (cn X) B H1 φ1 m1 (upd H1 dx (.xd [(fd, v)])) φ1 m1 := Nxt.plus (.refl S1.mem) nd1
        refine h1 _ φ1 n1 σ (S1.nxt n1) (.ref C) (some dx) ⟨hm, [(fd, v)], upd_same, fun z => S1.mem.llt z nd1, rfl, ?_⟩
        exact .cons (rt.nxt n1) .nil
end
end G

/-! G29: a comprehension over any kind of gathering thing: by what one turn puts in. -/
namespace G
open PySem PySem.Spec PyProof.Rows L2
/-- what a turn's last step does in the block's context: `put` runs, the heap is one of Nx -/
abbrev PutW := Around → Env → Addr → (Shared → Prop) → Shared → Prop
def Puts (Y : Cx) (D : Addr) (put : PutW) (t : L2.St → Hp → (Hp → Prop) → Prop) : Prop :=
  ∀ (pins : List (Addr × Obj)) (s : Shared) (σ : L2.St) (H : Hp) (Nx : Hp → Prop) (K : Shared → Prop), Inv Y pins σ H s → t σ H Nx → (∀ H' s', Inv Y pins σ H' s' → Nx H' → K s') → put Y.A Y.env D K s
section
variable {Y : Cx} {tg : Expr} {J : It} {fp : List Addr} {it : Addr} {tn : Nat → Heap → Prop} {ω : L2.St} {vs : List Nat}
/-- the block between two turns -/
structure Mid (Y : Cx) (fp : List Addr) (tn : Nat → Heap → Prop) (ω : L2.St) (i : Nat) (H : Hp) (s : Shared) : Prop where
  inv : Inv Y [] ω H s
  at_ : tn i s.heap
  off : ∀ b ∈ fp, H b = none
theorem Mid.fpOk {i : Nat} {H : Hp} {s : Shared} (hex : Y.ex = fp) (hpn : Y.pn = []) (M : Mid Y fp tn ω i H s) : ∀ b ∈ fp, FpOk Y [] H b := fun b hb => by
  have hx : b ∈ Y.ex := by rw [hex]; exact hb
  have k := M.inv.ok.exf b hx
  exact ⟨M.off b hb, k.1, M.inv.ok.exfs b hx, .inl hx, k.2, fun p hp => by rw [hpn] at hp; cases hp⟩
/-- one turn -/
theorem turn_one {ifs : List Expr} {g : TG} {tt : TT} {put : PutW} {D : Addr} {tp : L2.St → Hp → (Hp → Prop) → Prop} {Nx : Hp → Prop} {i : Nat} {H : Hp} {s : Shared} {E : Value → Shared → Prop} (hcalm : Y.calm = true) (hxe : Y.xe = fun _ _ => False) (hex : Y.ex = fp) (hpn : Y.pn = [])
    (T : Turn Y.prog Y.w Y.K tg J fp it tn) (pg : PG Y tg g) (pt : PTs Y ifs tt) (pp : Puts Y D put tp) (hω : wipe ω vs = ω) (M : Mid Y fp tn ω i H s) (go : J.go i H)
    (step : ∀ x H', J.yld i H x H' → g x ω H' fun σ2 H2 => wipe σ2 vs = ω ∧ tt σ2 H2 fun b H3 => if b = true then tp σ2 H3 Nx else Nx H3) {K : Shared → Prop} (fin : ∀ H' s', Mid Y fp tn ω (i + 1) H' s' → Nx H' → K s') :
    wpAny (model Y.prog Y.w) Y.A (pyNext (.ref it)) (fun r s1 => ∃ u, r = some u ∧ wpAny (model Y.prog Y.w) Y.A (letOwnedTupleGo tg (.ref it) u) (fun _ s2 => wpAny (model Y.prog Y.w) Y.A (assign tg Y.env u) (fun _ s3 =>
      wpAny (model Y.prog Y.w) Y.A (forIn ifs true fun c r => if r = true then do let ok ← isTrue c Y.env (eval c Y.env); pure (ForInStep.yield ok) else pure (ForInStep.yield r)) (fun ok s4 =>
        if ok = true then put Y.A Y.env D K s4 else K s4) E s3) E s2) E s1) E s := by
  refine thnF (T.item Y rfl rfl rfl hcalm i [] s ω H _ M.inv (M.fpOk hex hpn) M.at_ go) fun r sa ⟨u, hu, ha⟩ => ⟨u, hu, ?_⟩
  refine thnF ha fun _ sb ⟨x, Hb, Ib, rb, yb, tb, nb⟩ => ?_
  have Mb : Mid Y fp tn ω (i + 1) Hb sb := ⟨Ib, tb, nb⟩
  have Jb := Ib.pinned (Mb.fpOk hex hpn) (T.obj _ _ tb)
  have leave : ∀ {σ' : L2.St} {H' : Hp} {s' : Shared}, wipe σ' vs = ω → Inv Y ([] ++ pinsAt fp sb.heap) σ' H' s' → Nx H' → K s' := fun {σ' H' s'} hw I' nx => by
    have held : ∀ b ∈ fp, ∀ o, sb.heap.get? b = some o → s'.heap.get? b = some o ∧ H' b = none := fun b hb o e => by
      have z := I'.pin (b, o) (List.mem_append.mpr (.inr (List.mem_append.mpr (.inr (mem_pinsAt hb e)))))
      exact ⟨z.1, z.2.1⟩
    refine fin H' s' ⟨(I'.unpinned (pins := [])).weak ?_ fun j v e => ?_, T.keep _ _ _ tb fun b hb o e => (held b hb o e).1, fun b hb => ?_⟩ nx
    · rw [← hw, wipe_length]
    · rw [← hw] at e; exact (wipe_some e).1
    · obtain ⟨o, e, _⟩ := T.obj _ _ tb b hb
      exact (held b hb o e).2
  have q1 := pg.run _ sb ω Hb x u _ Jb rb (step x Hb yb)
  rw [hxe] at q1
  refine thnF q1 fun _ sc ⟨σc, Hc, Ic, hw, qc⟩ => ?_
  have q2 := pt.run _ sc σc Hc _ Ic qc
  rw [hxe] at q2
  refine thnF q2 fun b sd ⟨Hd, Id, qd⟩ => ?_
  cases b with
  | false => rw [if_neg Bool.false_ne_true] at qd ⊢; exact leave hw Id qd
  | true =>
    rw [if_pos rfl] at qd ⊢
    exact pp _ sd σc Hd Nx K Id qd fun He se Ie nx => leave hw Ie nx
end
/-- how a comprehension's loop is walked where `put` is a turn's last step -/
def Loops (P : Program) (w : World) (Ex tg : Expr) (ifs : List Expr) (put : PutW) : Prop :=
  ∀ (A : Around) (R : Result → Shared → Prop) (ce : Env) (it D : Addr) (V : Nat → Shared → Prop), (∀ n s, V n s → wpAny (model P w) A (pyNext (.ref it)) (fun r s1 => (r = none ∧ R (.ok .next) s1) ∨ ∃ u, r = some u ∧
      wpAny (model P w) A (letOwnedTupleGo tg (.ref it) u) (fun _ s2 => wpAny (model P w) A (assign tg ce u) (fun _ s3 =>
        wpAny (model P w) A (forIn ifs true fun c r => if r = true then do let ok ← isTrue c ce (eval c ce); pure (ForInStep.yield ok) else pure (ForInStep.yield r)) (fun ok s4 =>
          if ok = true then put A ce D (fun s5 => ∃ m, m < n ∧ V m s5) s4 else ∃ m, m < n ∧ V m s4) (fun _ _ => False) s3) (fun _ _ => False) s2) (fun _ _ => False) s1) (fun _ _ => False) s) →
    ∀ n s, V n s → codeAny (model P w) A (.compLoop Ex 0 (.ref it) (.ref D) ce) R s
/-- how the gathering thing is made -/
def News (X : Cx) (mk : Sem Value) (o0 : Addr → HO) : Prop :=
  ∀ (pins : List (Addr × Obj)) (s : Shared) (σ : L2.St) (H : Hp) (Q : Value → Shared → Prop) (E : Value → Shared → Prop), Inv X pins σ H s →
    (∀ D s', H D = none → s.heap.objs.size ≤ D → Inv X pins σ (upd H D (o0 D)) s' → (∀ b o, s.heap.get? b = some o → s'.heap.get? b = some o) → Q (.ref D) s') → wpAny (model X.prog X.w) X.A mk Q E s
/-- the reading -/
def tCc (wi : TI) (g : TG) (tt : TT) (tp : Addr → L2.St → Hp → (Hp → Prop) → Prop) (o0 : Addr → HO) (vs : List Nat) : TE := fun σ H Q => wi σ H fun J H1 => ∀ D, H1 D = none → ∃ W : Nat → Nat → Hp → Prop, (∃ m, W 0 m (upd H1 D (o0 D))) ∧ ∀ i m H, W i m H →
  (J.stop i H ∧ Q (.ref D) H) ∨ (J.go i H ∧ ∃ Nx : Hp → Prop, (∀ H', Nx H' → ∃ m', m' < m ∧ W (i + 1) m' H') ∧
    ∀ x H', J.yld i H x H' → g x (wipe σ vs) H' fun σ2 H2 => wipe σ2 vs = wipe σ vs ∧ tt σ2 H2 fun b H3 => if b = true then tp D σ2 H3 Nx else Nx H3)
theorem wipe_wipe (σ : L2.St) (vs : List Nat) : wipe (wipe σ vs) vs = wipe σ vs := by
  apply List.ext_getElem?
  intro j
  by_cases hj : j < σ.length
  · have l1 : (wipe σ vs).length = σ.length := wipe_length σ vs
    have l2 : (wipe (wipe σ vs) vs).length = σ.length := (wipe_length _ vs).trans l1
    cases q : (wipe (wipe σ vs) vs)[j]? with
    | none => rw [List.getElem?_eq_none_iff] at q; omega
    | some o =>
      cases o with
      | some v => rw [(wipe_some q).1]
      | none =>
        cases q2 : (wipe σ vs)[j]? with
        | none => rw [List.getElem?_eq_none_iff] at q2; omega
        | some o2 =>
          cases o2 with
          | none => rfl
          | some v =>
            exfalso
            have keep : ∀ (vs : List Nat) (τ : L2.St), τ[j]? = some (some v) → j ∉ vs → (wipe τ vs)[j]? = some (some v) := by
              intro vs
              induction vs with
              | nil => exact fun τ e _ => e
              | cons a vs ih =>
                intro τ e hn
                have hn' : j ∉ vs := fun z => hn (List.mem_cons_of_mem _ z)
                unfold wipe
                rw [List.getElem?_set_ne (fun z => hn (by simp [z]))]
                exact ih τ e hn'
            have z := keep vs _ q2 (wipe_some q2).2
            rw [q] at z
            cases z
  · rw [List.getElem?_eq_none (by rw [wipe_length, wipe_length]; omega), List.getElem?_eq_none (by rw [wipe_length]; omega)]
section
variable {X : Cx}
theorem comp_run {pins : List (Addr × Obj)} {s : Shared} {σ : L2.St} {H : Hp} {Q : VK} {Ex tg iter : Expr} {ifs : List Expr} {scope : Scope} {own : List (Str × Nat)} {pos : Pos} {wi : TI} {g : TG} {tt : TT} {mk : Sem Value} {o0 : Addr → HO} {put : PutW} {tp : Addr → L2.St → Hp → (Hp → Prop) → Prop}
    {use : Option (Value → Sem Unit)} {Qf : Value → Shared → Prop} (hcl : clausesOf Ex = [⟨tg, iter, ifs, 0⟩]) (hc : X.calm = true) (hN : X.N.Nodup) (I : Inv X pins σ H s) (hi : PI X tg iter wi) (ok : BlkOk X.N X.env.scope scope own) (hnew : News X mk o0) (hlp : Loops X.prog X.w Ex tg ifs put)
    (hst : ∀ (A : Around) (R : Result → Shared → Prop) (it D : Addr) (ce : Env) (s : Shared), codeAny (model X.prog X.w) A (.compLoop Ex 0 (.ref it) (.ref D) ce) R s → wpAny (model X.prog X.w) A (pyIter (.ref it)) (fun it' s' => codeAny (model X.prog X.w) A (.compLoop Ex 0 it' (.ref D) ce) R s') (notedBy (model X.prog X.w) A ce fun x s' => R (.error x) s') s →
      codeAny (model X.prog X.w) A (.compStart Ex 0 (.ref it) (.ref D) ce) R s)
    (hg : ∀ (s : Shared) (H : Hp) (C : Addr) (cl : List (Str × Addr)) (fp : List Addr), PG (X.blk s H scope (compEnvC scope cl C X.env) fp) tg g) (ht : ∀ (s : Shared) (H : Hp) (C : Addr) (cl : List (Str × Addr)) (fp : List Addr), PTs (X.blk s H scope (compEnvC scope cl C X.env) fp) ifs tt)
    (hp : ∀ (s : Shared) (H : Hp) (C : Addr) (cl : List (Str × Addr)) (fp : List Addr) (D : Addr), Puts (X.blk s H scope (compEnvC scope cl C X.env) fp) D put (tp D)) (hs : ∀ x, foldedSetIterable iter X.env x = pure x)
    (h : tCc wi g tt tp o0 (own.map (·.2)) σ H Q)
    (hend : ∀ D C s' m H', Inv X pins σ H' s' → Q (.ref D) H' → s'.heap.Ns C m → FpOk X pins H' C → compPost (model X.prog X.w) X.A X.xe use Qf (.ref D) C (.ok .next) s') :
    wpAny (model X.prog X.w) X.A (comprehension Ex scope X.env pos mk false (eval iter X.env) use) Qf X.xe s := by
  have clo : ∀ y ∈ scope.names, y.2 = .free → ∃ c, X.env.cells.lookup y.1 = some c := fun y hy e => (ok.free y hy e).elim (fun k => I.ok.has _ (.inl k)) fun k => I.ok.has _ (.inr k)
  refine wpAny_comprehension_free (use := use) hcl hs (closure_ok clo) ok.kind (fun y hy e => (ok.uniq y hy).trans (congrArg some e)) (thn (hi.run pins s σ H _ I h) fun _ _ hx => thn hx fun itv sa ha => ?_)
  obtain ⟨it, fp, tn, J, Ha, rfl, Ia, T, ta, fa, q⟩ := ha
  refine hnew pins sa σ Ha _ _ Ia fun D sb nD szD Ib kb => newEnv_comp ?_
  obtain ⟨W, ⟨m0, w0⟩, walk⟩ := q D nD
  have fb : ∀ b ∈ fp, FpOk X pins (upd Ha D (o0 D)) b ∧ b < sb.heap.objs.size := fun b hb => by
    obtain ⟨o, e, _⟩ := T.obj _ _ ta b hb
    refine ⟨⟨?_, (fa b hb).2⟩, Heap.lt_size (kb b o e)⟩
    rw [upd_ne (Nat.ne_of_lt (Nat.lt_of_lt_of_le (Heap.lt_size e) szD))]
    exact (fa b hb).1
  have tb : tn 0 sb.heap := T.keep _ _ _ ta fun b _ o e => kb b o e
  have Ic := block_start Ib ok hN fb
  generalize hcells : cellsFrom (sb.heap.objs.size + 1) scope.names (cloFrom X.env.cells scope.names []) = cells at Ic
  have pg := hg sb (upd Ha D (o0 D)) sb.heap.objs.size cells fp
  have pt := ht sb (upd Ha D (o0 D)) sb.heap.objs.size cells fp
  have pp := hp sb (upd Ha D (o0 D)) sb.heap.objs.size cells fp D
  show codeAny _ _ (.compStart Ex 0 (.ref it) (.ref D) (compEnvC scope cells sb.heap.objs.size X.env)) (compPost (model X.prog X.w) X.A X.xe use Qf (.ref D) sb.heap.objs.size) { sb with heap := pushCells (sb.heap.push { cls := .type "dict", data := .dict #[] }) scope.names }
  generalize hsc : ({ sb with heap := pushCells (sb.heap.push { cls := .type "dict", data := .dict #[] }) scope.names } : Shared) = sc at Ic ⊢
  have tc : tn 0 sc.heap := T.keep _ _ _ tb fun b _ o e => by rw [← hsc]; exact pushCells_keeps _ _ _ _ (Heap.get?_push_of_some _ e)
  have M0 : Mid (X.blk sb (upd Ha D (o0 D)) scope (compEnvC scope cells sb.heap.objs.size X.env) fp) fp tn (wipe σ (own.map (·.2))) 0 (upd Ha D (o0 D)) sc := ⟨Ic, tc, fun b hb => (fb b hb).1.1⟩
  have run : codeAny (model X.prog X.w) X.A (.compLoop Ex 0 (.ref it) (.ref D) (compEnvC scope cells sb.heap.objs.size X.env)) (compPost (model X.prog X.w) X.A X.xe use Qf (.ref D) sb.heap.objs.size) sc := by
    refine hlp X.A _ _ it D (fun n s' => ∃ i H', Mid (X.blk sb (upd Ha D (o0 D)) scope (compEnvC scope cells sb.heap.objs.size X.env) fp) fp tn (wipe σ (own.map (·.2))) i H' s' ∧ W i n H') ?_ m0 sc ⟨0, _, M0, w0⟩
    rintro n sd ⟨i, Hd, Md, wd⟩
    rcases walk i n Hd wd with ⟨stop, qq⟩ | ⟨go, Nx, hNx, step⟩
    · refine thnF (T.done (X.blk sb (upd Ha D (o0 D)) scope (compEnvC scope cells sb.heap.objs.size X.env) fp) rfl rfl rfl hc i [] sd _ Hd _ Md.inv (Md.fpOk rfl rfl) Md.at_ stop) fun r se ⟨hr, Ie⟩ => .inl ⟨hr, ?_⟩
      have back : Inv X pins σ Hd se := Ib.call' (ch := fp) Ie.os Ie.base Ie.hok Ie.bare fun b hb => by
        obtain ⟨⟨_, k1, _, k3, k4, k5⟩, _⟩ := fb b hb
        exact ⟨k3, k1, k4, k5⟩
      obtain ⟨mm, hns, _⟩ := Ie.loc
      exact hend D _ se mm Hd back qq hns (Ib.fpOk (Nat.le_refl _) Ie.free)
    · refine thn (turn_one (Y := X.blk sb (upd Ha D (o0 D)) scope (compEnvC scope cells sb.heap.objs.size X.env) fp) (vs := own.map (·.2)) (E := fun _ _ => False) (K := fun s' => ∃ m, m < n ∧ ∃ i H', Mid (X.blk sb (upd Ha D (o0 D)) scope (compEnvC scope cells sb.heap.objs.size X.env) fp) fp tn (wipe σ (own.map (·.2))) i H' s' ∧ W i m H') hc rfl rfl rfl T pg pt pp (wipe_wipe σ _) Md go step fun H' s' M' nx => ?_) fun r se he => .inr he
      obtain ⟨m', hm, w'⟩ := hNx H' nx
      exact ⟨m', hm, i + 1, H', M', w'⟩
  exact hst X.A _ it D _ sc run (T.self X.A 0 _ _ _ tc run)
end
end G

/-! G30: dict comprehensions whose keys are tuples. -/
namespace G
open PySem PySem.Spec PyProof.Rows L2
def putD (P : Program) (w : World) (kx vx : Expr) : PutW := fun A ce D K s => wpAny (model P w) A (eval kx ce) (fun k s1 => wpAny (model P w) A (eval vx ce) (fun v s2 => wpAny (model P w) A (dictSet D k v) (fun _ s3 => K s3) (fun _ _ => False) s2) (fun _ _ => False) s1) (fun _ _ => False) s
theorem loops_dict {P : Program} {w : World} {kx vx tg iter : Expr} {ifs : List Expr} {scope : Scope} {pos : Pos} :
    Loops P w (.DictComp kx vx [⟨tg, iter, ifs, 0⟩] scope pos) tg ifs (putD P w kx vx) := by
  intro A R ce it D V turn n s h
  refine compLoop_anyD V (fun n s hV => ?_) n h
  refine thnF (turn n s hV) fun r s1 hr => ?_
  rcases hr with ⟨rfl, q⟩ | ⟨u, rfl, q⟩
  · exact q
  · refine thnF q fun _ s2 q2 => thnF q2 fun _ s3 q3 => thnF q3 fun b s4 q4 => ?_
    cases b with
    | false => rw [if_neg Bool.false_ne_true] at q4 ⊢; exact q4
    | true =>
      rw [if_pos rfl] at q4 ⊢
      exact thnF q4 fun _ _ q5 => thnF q5 fun _ _ q6 => thnF q6 fun _ _ q7 => q7
theorem news_dT {X : Cx} : News X newDict (fun _ => .dT []) := by
  intro pins s σ H Q E I h
  refine wpAny_newObj_type (h s.heap.objs.size _ (I.hok.fresh (Nat.le_refl _)) (Nat.le_refl _) (I.laid (t' := s.toks) (fun _ _ q => Heap.get?_push_of_some _ q) (Nat.le_refl _) (dt_empty s.heap I.big)) fun b o e => Heap.get?_push_of_some _ e)
theorem dictSet_dT {Y : Cx} {pins : List (Addr × Obj)} {σ : L2.St} {H : Hp} {s : Shared} {E : Value → Shared → Prop} {D b : Addr} {kvs : List (List Key × V)} {k : List Key} {v : V} {r : Value} {Q : Unit → Shared → Prop} (hu : Y.A.units < cLine) (I : Inv Y pins σ H s) (hD : H D = some (.dT kvs)) (hb : H b = some (.tup (k.map kV)))
    (hz : kvs.length < sizeLine) (rv : RelV v r) (h : ∀ s', Inv Y pins σ (upd H D (.dT (putK kvs k v))) s' → Q () s') : wpAny (model Y.prog Y.w) Y.A (dictSet D (.ref b) r) Q E s := by
  obtain ⟨z, nsys, xs, rel, dd⟩ := dt_of I.hok hD
  refine wpAny_dictSet_heap (hsz := by rw [← Paired.length rel]; exact z) (show (tupleKind (mixKind Y.prog Y.w)).room Y.A from hu) (key_of I.hok hb) dd fun h' d2 hs => h _ ?_
  obtain ⟨q, es, ep, hq, h2, h3, h4, _, h5⟩ := d2
  have big : (putK kvs k v).length ≤ sizeLine := Nat.le_trans (length_putK kvs k v) hz
  exact d_write I (by rw [hD]; trivial) hs ⟨q, hq⟩ ⟨big, nsys, _, (rel.put k hb rv).keeps fun c ys ec => by rw [upd_ne (ne_of ec hD fun z => nomatch z)]; exact ec, q, es, ep, hq, h2, h3, h4, h5⟩
/-- what a turn asks: a tuple as key, any value -/
def tpD (tk tv : TE) (D : Addr) : L2.St → Hp → (Hp → Prop) → Prop := fun σ H Nx => tk σ H fun y H1 => tv σ H1 fun z H2 => ∃ b kvs k, y = .ref b ∧ H2 D = some (.dT kvs) ∧ H2 b = some (.tup (k.map kV)) ∧ kvs.length < sizeLine ∧ Nx (upd H2 D (.dT (putK kvs k z)))
theorem puts_dT {Y : Cx} {kx vx : Expr} {tk tv : TE} {D : Addr} (hu : Y.A.units < cLine) (hxe : Y.xe = fun _ _ => False) (hk : PE Y kx tk) (hv : PE Y vx tv) : Puts Y D (putD Y.prog Y.w kx vx) (tpD tk tv D) := by
  intro pins s σ H Nx K I h fin
  have q1 := hk.run pins s σ H _ I h
  rw [hxe] at q1
  refine thnF q1 fun ku s1 ⟨y, H1, I1, ry, h1⟩ => ?_
  have q2 := hv.run pins s1 σ H1 _ I1 h1
  rw [hxe] at q2
  refine thnF q2 fun vu s2 ⟨z, H2, I2, rz, b, kvs, k, ey, hD, hb, hz, nx⟩ => ?_
  subst ey
  cases (show ku = Value.ref b from ry)
  exact dictSet_dT hu I2 hD hb hz rz fun s3 I3 => fin _ _ I3 nx
theorem pe_dcT {X : Cx} {kx vx tg iter : Expr} {ifs : List Expr} {scope : Scope} {own : List (Str × Nat)} {pos : Pos} {wi : TI} {g : TG} {tt : TT} {tk tv : TE} (hu : X.A.units < cLine) (hc : X.calm = true) (hN : X.N.Nodup) (hi : PI X tg iter wi) (ok : BlkOk X.N X.env.scope scope own)
    (hg : ∀ (s : Shared) (H : Hp) (C : Addr) (cl : List (Str × Addr)) (fp : List Addr), PG (Bk X scope s H C cl fp) tg g) (ht : ∀ (s : Shared) (H : Hp) (C : Addr) (cl : List (Str × Addr)) (fp : List Addr), PTs (Bk X scope s H C cl fp) ifs tt)
    (hk : ∀ (s : Shared) (H : Hp) (C : Addr) (cl : List (Str × Addr)) (fp : List Addr), PE (Bk X scope s H C cl fp) kx tk) (hv : ∀ (s : Shared) (H : Hp) (C : Addr) (cl : List (Str × Addr)) (fp : List Addr), PE (Bk X scope s H C cl fp) vx tv) (hs : ∀ x, foldedSetIterable iter X.env x = pure x := by intro _; rfl) :
    PE X (.DictComp kx vx [⟨tg, iter, ifs, 0⟩] scope pos) (tCc wi g tt (tpD tk tv) (fun _ => .dT []) (own.map (·.2))) := by
  refine ⟨fun pins s σ H Q I h => ?_⟩
  rw [arm_eval_DictComp]
  refine comp_run rfl hc hN I hi ok news_dT loops_dict (fun A R it D ce s h0 h1 => codeAny_compStart_dict h0 h1) hg ht (fun s H C cl fp D => puts_dT hu rfl (hk s H C cl fp) (hv s H C cl fp)) hs h fun D C s' m H' I' q hns f => ⟨m, hns, fun h2 sb => ?_⟩
  obtain ⟨f0, f1, _, f3, f4, f5⟩ := f
  exact ⟨.ref D, H', I'.turned (t' := s'.toks) (fun b o hb e => (sb.2 b hb).trans e) f0 f1 f3 f4 f5, rfl, q⟩
end G

/-! G31: dict comprehensions with tuple keys, by values. -/
namespace G
open PySem PySem.Spec PyProof.Rows L2
def tupOf : U → Option (List T)
  | .v (.tup ks) => some ks
  | _ => none
def treeOf : U → Option T
  | .v t => some t
  | _ => none
/-- one turn of {k: v for ..}: what is put in, or nothing -/
def dTurn (t : M Bool) (ek ev : M U) (fr : Fr) (m : Mem) : Option (Option (List Key × T) × Mem) := match t fr m with
  | some (.ok true, m1) => match ek fr m1 with
    | some (.ok uk, m2) => match ev fr m2 with
      | some (.ok uv, m3) => match (tupOf uk).bind keysT, treeOf uv with
        | some key, some y => some (some (key, y), m3)
        | _, _ => none
      | _ => none
    | _ => none
  | some (.ok false, m1) => some (none, m1)
  | _ => none
def putO (d : List (List Key × T)) : Option (List Key × T) → List (List Key × T)
  | none => d
  | some (k, y) => putT d k y
def dcompL (g : Tg) (t : M Bool) (ek ev : M U) (fr0 : Fr) : List T → List (List Key × T) → Mem → Option (List (List Key × T) × Mem)
  | [], d, m => some (d, m)
  | x :: xs, d, m => match g (.v x) fr0 with
    | none => none
    | some fr' => match dTurn t ek ev fr' m with
      | some (o, m1) => dcompL g t ek ev fr0 xs (putO d o) m1
      | none => none
def dcompM (g : Tg) (t : M Bool) (ek ev : M U) (vs : List Nat) (ts : List T) : M C := fun fr m => match dcompL g t ek ev (wipeT fr vs) ts [] m with
  | some (d, m') => some (.ok (.t (.dT d)), m')
  | none => none
def mDComp (it : M Src) (g : Tg) (t : M Bool) (ek ev : M U) (vs : List Nat) : M C := mBind it fun
  | (ts, none) => dcompM g t ek ev vs ts
  | (ts, some i) => mLock i (dcompM g t ek ev vs ts)
/-- a dict's entries, and what they stand for -/
def DRel (c : Cn) (H : Hp) (L : Addr → Prop) (kvs : List (List Key × V)) (kts : List (List Key × T)) : Prop := kvs.map (·.1) = kts.map (·.1) ∧ Rps c H L (kvs.map (·.2)) (kts.map (·.2))
theorem DRel.nxt {c : Cn} {B : Addr → Prop} {H H1 : Hp} {φ φ1 : List Addr} {m m1 : Mem} {kvs : List (List Key × V)} {kts : List (List Key × T)} (r : DRel c H (LL B φ m) kvs kts) (n : Nxt c B H φ m H1 φ1 m1) : DRel c H1 (LL B φ1 m1) kvs kts := ⟨r.1, r.2.nxt n⟩
theorem dcomp_core {g : Tg} {t : M Bool} {ek ev : M U} {ss vs : List Nat} {σ : L2.St} {B : Addr → Prop} {H1 : Hp} {φ1 : List Addr} {m1 m2 : Mem} {fr : Fr} {ts : List T} {ds : List (List Key × T)} {J : It} {Qd : V → Hp → Prop} {c : Cn}
    (S : SOk c B H1 φ1 m1 σ fr) (hJ : ItOk c B H1 φ1 m1 J ts) (hz : ts.length ≤ sizeLine) (hs : ∀ i ∈ ss, i ∈ vs) (hcl : dcompL g t ek ev (wipeT fr vs) ts [] m1 = some (ds, m2)) (D : Addr) (hD : H1 D = none)
    (hQ : ∀ H' φ', Nxt c (Bq B D) H1 φ1 m1 H' φ' m2 → Cel c H' (LL (Bq B D) φ' m2) φ' D (.t (.dT ds)) → Qd (.ref D) H') :
    ∃ W' : Nat → Nat → Hp → Prop, (∃ m, W' 0 m (upd H1 D (.dT []))) ∧ ∀ i m H, W' i m H →
      (J.stop i H ∧ Qd (.ref D) H) ∨ (J.go i H ∧ ∃ Nx : Hp → Prop, (∀ H', Nx H' → ∃ m', m' < m ∧ W' (i + 1) m' H') ∧ ∀ x H', J.yld i H x H' →
        (∃ B φ m fr u fr', SOk c B H' φ m (wipe σ vs) fr ∧ Ru c H' (LL B φ m) φ x u ∧ g u fr = some fr' ∧ ∀ σ2, SOk c B H' φ m σ2 fr' → Chg ss (wipe σ vs) σ2 → wipe σ2 vs = wipe σ vs ∧
          rd rrB c W0 t σ2 H' fun b H3 => if b = true then tpD (rd rrU c W0 ek) (rd rrU c W0 ev) D σ2 H3 Nx else Nx H3)) := by
  have n0 : Nxt c (Bq B D) H1 φ1 m1 (upd H1 D (.dT [])) φ1 m1 := Nxt.new (.refl S.mem) hD
  have hB1 : ∀ a, Bq B D a → B a ∨ H1 a = none := fun a z => z.imp id fun z => by rw [z]; exact hD
  let P : Nat → Hp → Prop := fun i H => i ≤ ts.length ∧ ∃ φ' m' kv kt, Nxt c (Bq B D) H1 φ1 m1 H φ' m' ∧ H D = some (.dT kv) ∧ DRel c H (LL (Bq B D) φ' m') kv kt ∧ kv.length ≤ i ∧ dcompL g t ek ev (wipeT fr vs) (ts.drop i) kt m' = some (ds, m2)
  refine ⟨fun i k H => k = ts.length - i ∧ P i H, ⟨_, rfl, Nat.zero_le _, φ1, m1, [], [], n0, upd_same, ⟨rfl, .nil⟩, Nat.le_refl _, by simpa using hcl⟩, ?_⟩
  rintro i k H ⟨rfl, hi, φ', m', kv, kt, n, eD, ra, la, hc⟩
  obtain ⟨go, stop, yld⟩ := hJ (Bq B D) H φ' m' hB1 n
  by_cases hlt : i < ts.length
  · refine .inr ⟨go i hlt, P (i + 1), fun H' p => ⟨ts.length - (i + 1), by omega, rfl, p⟩, fun x H2 y => ?_⟩
    obtain ⟨n2, tx, et, rt⟩ := yld i x H2 hlt y
    have ed : ts.drop i = tx :: ts.drop (i + 1) := by
      rw [List.drop_eq_getElem_cons hlt]
      rw [List.getElem?_eq_getElem hlt] at et
      rw [Option.some.inj et]
    rw [ed] at hc
    unfold dcompL at hc
    cases q : g (.v tx) (wipeT fr vs) with
    | none => rw [q] at hc; cases hc
    | some fr2 =>
      rw [q] at hc
      dsimp only at hc
      have S2 : SOk c (Bq B D) H2 φ' m' (wipe σ vs) (wipeT fr vs) := ((S.nxtB hB1 n).nxt n2).wipe vs
      refine ⟨Bq B D, φ', m', wipeT fr vs, .v tx, fr2, S2, .v rt, q, fun σ2 S3 ch => ⟨ch.wipe hs, ?_⟩⟩
      have nv : ∀ {H0 : Hp} {φ0 : List Addr} {m0 : Mem}, MOk c (Bq B D) H0 φ0 m0 → ¬ Lv φ0 m0 D := fun M ⟨j, u, e1, e2⟩ => M.nb j D u e1 e2 (.inr rfl)
      have k2 := n2.keep D _ eD (nv n.ok)
      unfold dTurn at hc
      cases q1 : t fr2 m' with
      | none => rw [q1] at hc; cases hc
      | some p =>
        obtain ⟨rb, m3⟩ := p
        rw [q1] at hc
        match rb, hc with
        | .ok false, hc =>
          refine ⟨Bq B D, φ', m', fr2, S3, .ok false, m3, q1, fun H3 φ3 n3 b eb => ?_⟩
          cases eb
          exact ⟨hlt, φ3, m3, kv, kt, n.trans (n2.trans n3), n3.keep D _ k2 (nv n2.ok), (ra.nxt n2).nxt n3, by omega, hc⟩
        | .ok true, hc =>
          refine ⟨Bq B D, φ', m', fr2, S3, .ok true, m3, q1, fun H3 φ3 n3 b eb => ?_⟩
          cases eb
          dsimp only at hc
          rw [if_pos rfl]
          cases q2 : ek fr2 m3 with
          | none => rw [q2] at hc; cases hc
          | some p =>
            obtain ⟨re, m4⟩ := p
            rw [q2] at hc
            match re, hc with
            | .ok uk, hc =>
              refine ⟨Bq B D, φ3, m3, fr2, S3.nxt n3, .ok uk, m4, q2, fun H4 φ4 n4 yk rk => ?_⟩
              dsimp only at hc
              cases q3 : ev fr2 m4 with
              | none => rw [q3] at hc; cases hc
              | some p =>
                obtain ⟨rv, m5⟩ := p
                rw [q3] at hc
                match rv, hc with
                | .ok uv, hc =>
                  refine ⟨Bq B D, φ4, m4, fr2, (S3.nxt n3).nxt n4, .ok uv, m5, q3, fun H5 φ5 n5 yv rv => ?_⟩
                  dsimp only at hc
                  cases q4 : (tupOf uk).bind keysT with
                  | none => rw [q4] at hc; cases hc
                  | some key =>
                    cases q5 : treeOf uv with
                    | none => rw [q4, q5] at hc; cases hc
                    | some yt =>
                      rw [q4, q5] at hc
                      have hfin : dcompL g t ek ev (wipeT fr vs) (ts.drop (i + 1)) (putT kt key yt) m5 = some (ds, m2) := hc
                      clear hc
                      have rk5 := rk.nxt n5
                      match uk, rk5, q4 with
                      | .v (.tup ks), .v (.tup (a := a) nl ea rs), q4 =>
                        have q4 : keysT ks = some key := q4
                        have ev2 := keysT_rel rs q4
                        match uv, rv, q5 with
                        | .v _, .v rv, q5 =>
                          cases q5
                          have k5 := n5.keep D _ (n4.keep D _ (n3.keep D _ k2 (nv n2.ok)) (nv n3.ok)) (nv n4.ok)
                          have nn := n.trans (n2.trans (n3.trans (n4.trans n5)))
                          have r5 := (((ra.nxt n2).nxt n3).nxt n4).nxt n5
                          obtain ⟨p1, p2⟩ := put_rel (k := key) r5.1 r5.2 rv
                          refine ⟨a, kv, key, rfl, k5, by rw [ea, ev2], by omega, hlt, φ5, m5, putK kv key yv, putT kt key yt, nn.updB (.inr rfl) (.inl hD), upd_same, ⟨p1, p2.upd (.inl (.inr rfl))⟩, ?_, hfin⟩
                          have := length_putK kv key yv
                          omega
  · have e0 : i = ts.length := by omega
    subst e0
    rw [List.drop_length] at hc
    cases hc
    exact .inl ⟨stop, hQ H φ' n ⟨kv, eD, ra.1, ra.2⟩⟩
section
variable {X : Cx} {W : WX} {tg iter kx vx : Expr} {ifs : List Expr} {scope : Scope} {own : List (Str × Nat)} {pos : Pos} {g : Tg} {t : M Bool} {ek ev : M U} {it : M Src} {ss : List Nat}
theorem rd_dcomp {vs : List Nat} {σ : L2.St} {H : Hp} {Q : VK} (hs : ∀ i ∈ ss, i ∈ vs) (h : rdN X W (mDComp it g t ek ev vs) σ H Q) : tCc (rdIz X W it) (rdG X ss g) (rdT X W0 t) (tpD (rdE X W0 ek) (rdE X W0 ev)) (fun _ => .dT []) vs σ H Q := by
  obtain ⟨B, φ, m, fr, S, r, m', e1, h⟩ := h
  refine ⟨B, φ, m, fr, S, ?_⟩
  unfold mDComp mBind at e1
  cases q : it fr m with
  | none => rw [q] at e1; cases e1
  | some p =>
    obtain ⟨r1, m1⟩ := p
    rw [q] at e1
    refine ⟨r1, m1, rfl, fun H1 φ1 n1 => ?_⟩
    match r1, e1 with
    | .error x, e1 => cases e1; exact h H1 φ1 n1
    | .ok (ts, none), e1 =>
      intro J hJ hz D hD
      dsimp only at e1
      unfold dcompM at e1
      cases q2 : dcompL g t ek ev (wipeT fr vs) ts [] m1 with
      | none => rw [q2] at e1; cases e1
      | some p =>
        obtain ⟨ys, m2⟩ := p
        rw [q2] at e1; cases e1
        obtain ⟨W', h0, hW⟩ := dcomp_core (S.nxt n1) hJ hz hs q2 D hD (Qd := Q) fun H' φ' n2 hc => h H' φ' D (n1.fresh hD) (n1.transB hD n2) hc
        exact ⟨W', h0, hW⟩
    | .ok (ts, some i), e1 =>
      intro J hJ hz D hD
      dsimp only at e1
      obtain ⟨tc, m2, hm, e2, rfl⟩ := lock_inv (F := dcompM g t ek ev vs ts fr) e1
      have il : i < φ1.length := by rw [n1.ok.len]; exact (List.getElem?_eq_some_iff.mp hm).1
      have hi : φ1[i]? = some φ1[i] := List.getElem?_eq_getElem il
      have hB : lkB B φ1 (some i) = Bq B φ1[i] := by unfold lkB; dsimp only; rw [hi]
      rw [hB] at hJ
      unfold dcompM at e2
      cases q2 : dcompL g t ek ev (wipeT fr vs) ts [] (m1.set i none) with
      | none => rw [q2] at e2; cases e2
      | some p =>
        obtain ⟨ys, m3⟩ := p
        rw [q2] at e2; cases e2
        have bqc : Bq (Bq B φ1[i]) D = Bq (Bq B D) φ1[i] := by
          funext a; unfold Bq; exact propext ⟨fun z => z.elim (fun z => z.elim (fun z => .inl (.inl z)) .inr) fun z => .inl (.inr z), fun z => z.elim (fun z => z.elim (fun z => .inl (.inl z)) .inr) fun z => .inl (.inr z)⟩
        obtain ⟨W', h0, hW⟩ := dcomp_core ((S.nxt n1).lock hi hm) hJ hz hs q2 D hD (Qd := Q) fun H' φ' n2 hc => by
          rw [bqc] at n2 hc
          obtain ⟨n3, ll⟩ := Nxt.unlockB n1.ok (B := Bq B D) (fun a z => z.imp id fun z => by rw [z]; exact hD) hi hm n2
          exact h H' φ' D (n1.fresh hD) (n1.transB hD n3) (by rw [ll]; exact hc)
        exact ⟨W', h0, hW⟩
theorem e_dcomp (vs : List Nat) (hu : X.A.units < cLine) (hc : X.calm = true) (hN : X.N.Nodup) (hi : PI X tg iter (rdIz X W it)) (ok : BlkOk X.N X.env.scope scope own)
    (hg : ∀ s H C cl fp, PG (Bk X scope s H C cl fp) tg (rdG X ss g)) (ht : ∀ s H C cl fp, PTs (Bk X scope s H C cl fp) ifs (rdT X W0 t)) (hk : ∀ s H C cl fp, PE (Bk X scope s H C cl fp) kx (rdE X W0 ek)) (hv : ∀ s H C cl fp, PE (Bk X scope s H C cl fp) vx (rdE X W0 ev))
    (hvs : own.map (·.2) = vs) (hss : ∀ i ∈ ss, i ∈ vs) (hs : ∀ x, foldedSetIterable iter X.env x = pure x := by intro _; rfl) : PE X (.DictComp kx vx [⟨tg, iter, ifs, 0⟩] scope pos) (rdN X W (mDComp it g t ek ev vs)) := by
  subst hvs
  exact PE.wk (pe_dcT hu hc hN hi ok hg ht hk hv hs) fun σ H Q h => rd_dcomp hss h
end
end G

/-! G32: len of a set comprehension whose items are tuples of ints. -/
namespace G
open PySem PySem.Spec PyProof.Rows L2
def putS (P : Program) (w : World) (el : Expr) : PutW := fun A ce D K s => wpAny (model P w) A (eval el ce) (fun x s1 => wpAny (model P w) A (call (.builtin "set.add") [.ref D, x]) (fun _ s2 => K s2) (fun _ _ => False) s1) (fun _ _ => False) s
theorem loops_set {P : Program} {w : World} {el tg iter : Expr} {ifs : List Expr} {scope : Scope} {pos : Pos} :
    Loops P w (.SetComp el [⟨tg, iter, ifs, 0⟩] scope pos) tg ifs (putS P w el) := by
  intro A R ce it D V turn n s h
  refine PpSet.compLoopS_any V (fun n s hV => ?_) n h
  refine thnF (turn n s hV) fun r s1 hr => ?_
  rcases hr with ⟨rfl, q⟩ | ⟨u, rfl, q⟩
  · exact q
  · refine thnF q fun _ s2 q2 => thnF q2 fun _ s3 q3 => thnF q3 fun b s4 q4 => ?_
    cases b with
    | false => rw [if_neg Bool.false_ne_true] at q4 ⊢; exact q4
    | true =>
      rw [if_pos rfl] at q4 ⊢
      exact thnF q4 fun _ _ q5 => thnF q5 fun _ _ q6 => q6
/-- the set that is made -/
abbrev set0 (w : World) : Obj := { cls := .type "set", dict := none, data := .set #[] 0 (.fresh 0 0 (!w.params.followText "set-order")) }
theorem news_set {X : Cx} : News X (newSet (.type "set")) (fun D => SetTO X.prog X.w D []) := fun pins s σ H Q E J h => by
  have laid : (s.heap.push (set0 X.w)).get? s.heap.objs.size = some (set0 X.w) := Heap.get?_push_size _ rfl
  have J' := J.laid (t' := s.toks) (o := SetTO X.prog X.w s.heap.objs.size []) (h' := s.heap.push (set0 X.w)) (fun _ _ => Heap.get?_push_of_some _) (Nat.le_refl _) (setTO_new (setTR_fresh laid).t0)
  exact PpSet.newSet_ok (w := X.w) (h _ _ J.fresh (Nat.le_refl _) J' fun _ _ => Heap.get?_push_of_some _)
/-- set.add, by its two steps -/
theorem add_eq (a : Addr) (x : Value) : Builtin.«set.add» ⟨[.ref a, x], []⟩ = (do let _ ← setAdd a x; ret .none) := rfl
theorem set_add_tup {P : Program} {w : World} {A : Around} {E : Value → Shared → Prop} {s : Shared} {a x : Addr} {k : List Int} {L : List (Addr × List Int)} {es : Array (Int × Value)} {ep : Nat} {t : SetTable} {Q : Value → Shared → Prop} (R : SetTR P w s.heap a L es ep t) (hx : IsT P w s.heap k x) (room : A.units + 1 < cLine) (few : L.length + 1 < 64)
    (hQ : ∀ h' L' es' ep' t' tk, Heap.SameBut a s.heap h' → SetTR P w h' a L' es' ep' t' → (k ∈ L.map (·.2) → L' = L) → (k ∉ L.map (·.2) → L'.Perm ((x, k) :: L)) → Q .none { s with heap := h', toks := tk }) :
    wpAny (model P w) A (call (.builtin "set.add") [.ref a, .ref x]) Q E s := by
  obtain ⟨o, there, kind, _⟩ := R.ob
  refine wpAny_call_entry F.slot_set_add ⟨o, there, kind.1⟩ F.entry_set_add ?_ (F.args_set_add_2 _ _)
  rw [add_eq]
  refine wpAny_bind (wpAny_holding (wpAny_bind (wpAny_pyHash_tuple (A := A.in1) room hx (add_at (A := A.in1) (s := { s with toks := s.toks + (k.length + 1) }) R hx room few ?_))))
  exact fun _ h' L' es' ep' t' but R' c1 c2 => wpAny_pure ⟨_, rfl, hQ h' L' es' ep' t' _ but R' c1 c2⟩
/-- what a turn asks: a tuple of ints -/
def tpS (K : PySem.W.Frag) (P : Program) (w : World) (te : TE) (D : Addr) : L2.St → Hp → (Hp → Prop) → Prop := fun σ H Nx => te σ H fun y H1 => ∃ b k L, y = .ref b ∧ SqT K H1 b (k.map V.int) ∧ H1 D = some (SetTO P w D L) ∧ (∀ p ∈ L, SqT K H1 p.1 (p.2.map V.int)) ∧ L.length + 1 < 64 ∧
  ∀ L' : List (Addr × List Int), (k ∈ L.map (·.2) → L' = L) → (k ∉ L.map (·.2) → L'.Perm ((b, k) :: L)) → Nx (upd H1 D (SetTO P w D L'))
theorem puts_set {Y : Cx} {el : Expr} {te : TE} {D : Addr} (hu : Y.A.units + 1 < cLine) (hxe : Y.xe = fun _ _ => False) (he : PE Y el te) : Puts Y D (putS Y.prog Y.w el) (tpS Y.K Y.prog Y.w te D) := by
  intro pins s σ H Nx K I h fin
  have q1 := he.run pins s σ H _ I h
  rw [hxe] at q1
  refine thnF q1 fun xu s1 ⟨y, H1, I1, ry, b, k, L, ey, hk, hD, hL, hf, nx⟩ => ?_
  subst ey
  cases (show xu = Value.ref b from ry)
  have ob : ObjOk Y.prog Y.w H1 s1.heap D (SetTO Y.prog Y.w D L) := I1.hok D _ hD
  obtain ⟨es, ep, t, R⟩ := SetT0.full ob.1 fun p hp => I1.isT (hL p hp)
  refine set_add_tup R (I1.isT hk) hu hf fun h' L' es' ep' t' tk sb R' c1 c2 => ?_
  obtain ⟨o, ho, _⟩ := R'.ob
  exact fin _ _ (d_write I1 (by rw [hD]; trivial) sb ⟨o, ho⟩ (setTO_new R'.t0)) (nx L' c1 c2)
theorem pe_scT {X : Cx} {el tg iter : Expr} {ifs : List Expr} {scope : Scope} {own : List (Str × Nat)} {pos : Pos} {wi : TI} {g : TG} {tt : TT} {te : TE} (hu : X.A.units + 1 < cLine) (hc : X.calm = true) (hN : X.N.Nodup) (hi : PI X tg iter wi) (ok : BlkOk X.N X.env.scope scope own)
    (hg : ∀ (s : Shared) (H : Hp) (C : Addr) (cl : List (Str × Addr)) (fp : List Addr), PG (Bk X scope s H C cl fp) tg g) (ht : ∀ (s : Shared) (H : Hp) (C : Addr) (cl : List (Str × Addr)) (fp : List Addr), PTs (Bk X scope s H C cl fp) ifs tt)
    (he : ∀ (s : Shared) (H : Hp) (C : Addr) (cl : List (Str × Addr)) (fp : List Addr), PE (Bk X scope s H C cl fp) el te) (hs : ∀ x, foldedSetIterable iter X.env x = pure x := by intro _; rfl) :
    PE X (.SetComp el [⟨tg, iter, ifs, 0⟩] scope pos) (tCc wi g tt (tpS X.K X.prog X.w te) (fun D => SetTO X.prog X.w D []) (own.map (·.2))) := by
  refine ⟨fun pins s σ H Q I h => ?_⟩
  rw [PpSet.eval_SetComp]
  refine comp_run rfl hc hN I hi ok news_set loops_set (fun A R it D ce s h0 h1 => PpSet.codeAny_compStart_set h0 h1) hg ht (fun s H C cl fp D => puts_set (Y := Bk X scope s H C cl fp) hu rfl (he s H C cl fp)) hs h fun D C s' m H' I' q hns f => ⟨m, hns, fun h2 sb => ?_⟩
  obtain ⟨f0, f1, _, f3, f4, f5⟩ := f
  exact ⟨.ref D, H', I'.turned (t' := s'.toks) (fun b o hb e => (sb.2 b hb).trans e) f0 f1 f3 f4 f5, rfl, q⟩
def rLenS (X : Cx) : List V → Hp → VK → Prop := fun xs H Q => ∃ (a : Addr) (L : List (Addr × List Int)), xs = [.ref a] ∧ H a = some (SetTO X.prog X.w a L) ∧ (∀ p ∈ L, SqT X.K H p.1 (p.2.map V.int)) ∧ Q (.int (L.length : Nat)) H
theorem call_lenS {X : Cx} : CallR X (.builtin "len") (rLenS X) := by
  intro pins s σ H xs us Q I r h
  obtain ⟨a, L, rfl, hD, hL, q⟩ := h
  obtain ⟨u, rfl, ru⟩ := vals1 r
  cases (show u = Value.ref a from ru)
  have ob : ObjOk X.prog X.w H s.heap a (SetTO X.prog X.w a L) := I.hok a _ hD
  obtain ⟨es, ep, t, R⟩ := SetT0.full ob.1 fun p hp => I.isT (hL p hp)
  obtain ⟨o, ho, hex, hd⟩ := R.ob
  have few := R.few
  have sz := R.size
  exact call_len_set ho hex hd R.fits (by omega) ⟨.int (L.length : Nat), H, I.tok _, ⟨_, by rw [sz]⟩, q⟩
/-! ### by values -/
def intsOf : List T → Option (List Int)
  | [] => some []
  | .int n :: ts => match intsOf ts with
    | some ns => some (n :: ns)
    | none => none
  | _ => none
def keyI : T → Option (List Int)
  | .tup ts => intsOf ts
  | _ => none
def keysI : List T → Option (List (List Int))
  | [] => some []
  | t :: ts => match keyI t, keysI ts with
    | some k, some ks => some (k :: ks)
    | _, _ => none
/-- unlike ones, in turn -/
def unl (ks : List (List Int)) : List (List Int) := ks.foldl (fun acc k => if k ∈ acc then acc else acc ++ [k]) []
def mLenSet (it : M Src) (g : Tg) (t : M Bool) (e : M U) (vs : List Nat) : M U := mBind (mComp it g t e vs) fun
  | .t (.lst ys) => match keysI ys with
    | some ks => if ks.length < 63 then mPure (.v (.int ((unl ks).length : Nat))) else stuck
    | none => stuck
  | _ => stuck
theorem unl_snoc (ks : List (List Int)) (k : List Int) : unl (ks ++ [k]) = if k ∈ unl ks then unl ks else unl ks ++ [k] := by
  unfold unl; rw [List.foldl_append]; rfl
theorem unl_len (ks : List (List Int)) : (unl ks).length ≤ ks.length := by
  suffices h : ∀ (ks acc : List (List Int)), (ks.foldl (fun acc k => if k ∈ acc then acc else acc ++ [k]) acc).length ≤ acc.length + ks.length by simpa [unl] using h ks []
  intro ks
  induction ks with
  | nil => intro acc; simp
  | cons k ks ih =>
    intro acc
    rw [List.foldl_cons]
    have := ih (if k ∈ acc then acc else acc ++ [k])
    by_cases hk : k ∈ acc
    · rw [if_pos hk] at this ⊢; simp only [List.length_cons]; omega
    · rw [if_neg hk] at this ⊢; simp only [List.length_append, List.length_cons, List.length_nil] at this ⊢; omega
end G

/-! G33: len of a set comprehension, by values. -/
namespace G
open PySem PySem.Spec PyProof.Rows L2
theorem intsOf_map : ∀ {ts : List T} {ns : List Int}, intsOf ts = some ns → ts = ns.map T.int
  | [], _, h => by cases h; rfl
  | .int n :: ts, ns, h => by
    unfold intsOf at h
    cases q : intsOf ts with
    | none => rw [q] at h; cases h
    | some ms => rw [q] at h; cases h; rw [intsOf_map q]; rfl
  | .non :: _, _, h => by cases h
  | .bl _ :: _, _, h => by cases h
  | .str _ :: _, _, h => by cases h
  | .tup _ :: _, _, h => by cases h
  | .lst _ :: _, _, h => by cases h
  | .rol _ :: _, _, h => by cases h
  | .rot _ :: _, _, h => by cases h
  | .dK _ :: _, _, h => by cases h
  | .dT _ :: _, _, h => by cases h
  | .ins _ _ :: _, _, h => by cases h
  | .exc _ _ :: _, _, h => by cases h
theorem keyI_map {t : T} {k : List Int} (h : keyI t = some k) : t = .tup (k.map T.int) := by
  cases t with
  | tup ts => rw [intsOf_map (show intsOf ts = some k from h)]
  | _ => cases h
theorem rps_ints_eq {c : Cn} {H : Hp} {L : Addr → Prop} : ∀ {vs : List V} {ns : List Int}, Rps c H L vs (ns.map T.int) → vs = ns.map V.int
  | [], [], _ => rfl
  | [], _ :: _, h => by cases h
  | _ :: _, [], h => by cases h
  | v :: vs, n :: ns, h => by
    cases h with
    | cons a r => cases a; rw [rps_ints_eq r]; rfl
theorem rp_sqT {c : Cn} {H : Hp} {L : Addr → Prop} {v : V} {k : List Int} (r : Rp c H L v (.tup (k.map T.int))) : ∃ b, v = .ref b ∧ SqT c.K H b (k.map V.int) := by
  cases r with
  | tup nl e rs => rw [rps_ints_eq rs] at e; exact ⟨_, rfl, .of e⟩
theorem keysI_append : ∀ {as bs : List T} {ks : List (List Int)}, keysI (as ++ bs) = some ks → ∃ ka kb, keysI as = some ka ∧ keysI bs = some kb ∧ ks = ka ++ kb
  | [], bs, ks, h => ⟨[], ks, rfl, h, rfl⟩
  | a :: as, bs, ks, h => by
    rw [List.cons_append] at h
    unfold keysI at h
    cases q1 : keyI a with
    | none => rw [q1] at h; cases h
    | some k =>
      cases q2 : keysI (as ++ bs) with
      | none => rw [q1, q2] at h; cases h
      | some kr =>
        rw [q1, q2] at h
        cases h
        obtain ⟨ka, kb, h1, h2, rfl⟩ := keysI_append q2
        exact ⟨k :: ka, kb, by unfold keysI; rw [q1, h1], h2, rfl⟩
theorem keysI_len : ∀ {as : List T} {ks : List (List Int)}, keysI as = some ks → ks.length = as.length
  | [], _, h => by cases h; rfl
  | a :: as, ks, h => by
    unfold keysI at h
    cases q1 : keyI a with
    | none => rw [q1] at h; cases h
    | some k =>
      cases q2 : keysI as with
      | none => rw [q1, q2] at h; cases h
      | some kr => rw [q1, q2] at h; cases h; simp [keysI_len q2]
theorem keysI_one {y : T} {kb : List (List Int)} {r : List T} (h : keysI (y :: r) = some kb) : ∃ k kr, keyI y = some k ∧ keysI r = some kr ∧ kb = k :: kr := by
  unfold keysI at h
  cases q1 : keyI y with
  | none => rw [q1] at h; cases h
  | some k =>
    cases q2 : keysI r with
    | none => rw [q1, q2] at h; cases h
    | some kr => rw [q1, q2] at h; cases h; exact ⟨k, kr, rfl, rfl, rfl⟩
theorem keysI_snoc {as : List T} {y : T} {ka : List (List Int)} {k : List Int} (h1 : keysI as = some ka) (h2 : keyI y = some k) : keysI (as ++ [y]) = some (ka ++ [k]) := by
  induction as generalizing ka with
  | nil => cases h1; simp [keysI, h2]
  | cons a as ih =>
    obtain ⟨k', kr, e1, e2, rfl⟩ := keysI_one h1
    rw [List.cons_append]
    unfold keysI
    rw [e1, ih e2]
    rfl
theorem scomp_core {P : Program} {w : World} {g : Tg} {t : M Bool} {e : M U} {ss vs : List Nat} {σ : L2.St} {B : Addr → Prop} {H1 : Hp} {φ1 : List Addr} {m1 m2 : Mem} {fr : Fr} {ts ys : List T} {ks : List (List Int)} {J : It} {Qd : V → Hp → Prop} {c : Cn}
    (S : SOk c B H1 φ1 m1 σ fr) (hJ : ItOk c B H1 φ1 m1 J ts) (hs : ∀ i ∈ ss, i ∈ vs) (hcl : compL g t e (wipeT fr vs) ts m1 = some (ys, m2)) (hk : keysI ys = some ks) (hf : ks.length < 63) (D : Addr) (hD : H1 D = none)
    (hQ : ∀ H' φ' L, Nxt c B H1 φ1 m1 H' φ' m2 → H' D = some (SetTO P w D L) → (∀ p ∈ L, SqT c.K H' p.1 (p.2.map V.int)) → L.length = (unl ks).length → Qd (.ref D) H') :
    ∃ W' : Nat → Nat → Hp → Prop, (∃ m, W' 0 m (upd H1 D (SetTO P w D []))) ∧ ∀ i m H, W' i m H →
      (J.stop i H ∧ Qd (.ref D) H) ∨ (J.go i H ∧ ∃ Nx : Hp → Prop, (∀ H', Nx H' → ∃ m', m' < m ∧ W' (i + 1) m' H') ∧ ∀ x H', J.yld i H x H' →
        (∃ B φ m fr u fr', SOk c B H' φ m (wipe σ vs) fr ∧ Ru c H' (LL B φ m) φ x u ∧ g u fr = some fr' ∧ ∀ σ2, SOk c B H' φ m σ2 fr' → Chg ss (wipe σ vs) σ2 → wipe σ2 vs = wipe σ vs ∧
          rd rrB c W0 t σ2 H' fun b H3 => if b = true then tpS c.K P w (rd rrU c W0 e) D σ2 H3 Nx else Nx H3)) := by
  have nt : ∀ L, NT (SetTO P w D L) := fun L xs z => by unfold SetTO at z; cases z
  have n0 : Nxt c (Bq B D) H1 φ1 m1 (upd H1 D (SetTO P w D [])) φ1 m1 := Nxt.new (.refl S.mem) hD (nt _)
  have hB1 : ∀ a, Bq B D a → B a ∨ H1 a = none := fun a z => z.imp id fun z => by rw [z]; exact hD
  let I : Nat → Hp → Prop := fun i H => i ≤ ts.length ∧ ∃ φ' m' L at' rest ka, Nxt c (Bq B D) H1 φ1 m1 H φ' m' ∧ H D = some (SetTO P w D L) ∧ (∀ p ∈ L, Rp c H (LL (Bq B D) φ' m') (.ref p.1) (.tup (p.2.map T.int))) ∧
    keysI at' = some ka ∧ (L.map (·.2)).Perm (unl ka) ∧ compL g t e (wipeT fr vs) (ts.drop i) m' = some (rest, m2) ∧ ys = at' ++ rest
  refine ⟨fun i k H => k = ts.length - i ∧ I i H, ⟨_, rfl, Nat.zero_le _, φ1, m1, [], [], ys, [], n0, upd_same, (fun p hp => absurd hp List.not_mem_nil), rfl, List.Perm.refl _, by simpa using hcl, by simp⟩, ?_⟩
  rintro i k H ⟨rfl, hi, φ', m', L, at', rest, ka, n, eD, rL, hka, pm, hc, ey⟩
  obtain ⟨go, stop, yld⟩ := hJ (Bq B D) H φ' m' hB1 n
  by_cases hlt : i < ts.length
  · refine .inr ⟨go i hlt, I (i + 1), fun H' p => ⟨ts.length - (i + 1), by omega, rfl, p⟩, fun x H2 y => ?_⟩
    obtain ⟨n2, tx, et, rt⟩ := yld i x H2 hlt y
    have ed : ts.drop i = tx :: ts.drop (i + 1) := by
      rw [List.drop_eq_getElem_cons hlt]
      rw [List.getElem?_eq_getElem hlt] at et
      rw [Option.some.inj et]
    rw [ed] at hc
    unfold compL at hc
    cases q : g (.v tx) (wipeT fr vs) with
    | none => rw [q] at hc; cases hc
    | some fr2 =>
      rw [q] at hc
      dsimp only at hc
      have S2 : SOk c (Bq B D) H2 φ' m' (wipe σ vs) (wipeT fr vs) := ((S.nxtB hB1 n).nxt n2).wipe vs
      refine ⟨Bq B D, φ', m', wipeT fr vs, .v tx, fr2, S2, .v rt, q, fun σ2 S3 ch => ⟨ch.wipe hs, ?_⟩⟩
      have nv : ∀ {H0 : Hp} {φ0 : List Addr} {m0 : Mem}, MOk c (Bq B D) H0 φ0 m0 → ¬ Lv φ0 m0 D := fun M ⟨j, u, e1, e2⟩ => M.nb j D u e1 e2 (.inr rfl)
      have k2 := n2.keep D _ eD (nv n.ok)
      cases q1 : t fr2 m' with
      | none => rw [q1] at hc; cases hc
      | some p =>
        obtain ⟨rb, m3⟩ := p
        rw [q1] at hc
        match rb, hc with
        | .ok false, hc =>
          refine ⟨Bq B D, φ', m', fr2, S3, .ok false, m3, q1, fun H3 φ3 n3 b eb => ?_⟩
          cases eb
          exact ⟨hlt, φ3, m3, L, at', rest, ka, n.trans (n2.trans n3), n3.keep D _ k2 (nv n2.ok), fun p hp => ((rL p hp).nxt n2).nxt n3, hka, pm, hc, ey⟩
        | .ok true, hc =>
          refine ⟨Bq B D, φ', m', fr2, S3, .ok true, m3, q1, fun H3 φ3 n3 b eb => ?_⟩
          cases eb
          dsimp only at hc
          rw [if_pos rfl]
          cases q2 : e fr2 m3 with
          | none => rw [q2] at hc; cases hc
          | some p =>
            obtain ⟨re, m4⟩ := p
            rw [q2] at hc
            match re, hc with
            | .ok (.v y), hc =>
              dsimp only at hc
              cases q3 : compL g t e (wipeT fr vs) (ts.drop (i + 1)) m4 with
              | none => rw [q3] at hc; cases hc
              | some p =>
                obtain ⟨ys', m5⟩ := p
                rw [q3] at hc
                cases hc
                refine ⟨Bq B D, φ3, m3, fr2, S3.nxt n3, .ok (.v y), m4, q2, fun H4 φ4 n4 v rv => ?_⟩
                have k4 := n4.keep D _ (n3.keep D _ k2 (nv n2.ok)) (nv n3.ok)
                have nn := n.trans (n2.trans (n3.trans n4))
                have hk' := hk
                rw [ey] at hk'
                obtain ⟨ka', kb, e1, e2, e3⟩ := keysI_append hk'
                rw [hka] at e1; cases e1
                obtain ⟨key, kr, f1, f2, rfl⟩ := keysI_one e2
                cases rv with
                | v rv =>
                  have ry := keyI_map f1
                  subst ry
                  obtain ⟨b, rfl, sq⟩ := rp_sqT rv
                  have rL4 : ∀ p ∈ L, Rp c H4 (LL (Bq B D) φ4 m4) (.ref p.1) (.tup (p.2.map T.int)) := fun p hp => (((rL p hp).nxt n2).nxt n3).nxt n4
                  have lenL : L.length = (unl ka).length := by have := pm.length_eq; simpa using this
                  refine ⟨b, key, L, rfl, sq, k4, fun p hp => ?_, ?_, fun L' c1 c2 => ⟨hlt, φ4, m4, L', at' ++ [.tup (key.map T.int)], ys', ka ++ [key], nn.updB (.inr rfl) (.inl hD) (nt _), upd_same, fun p hp => ?_, keysI_snoc hka f1, ?_, q3, by simp [ey]⟩⟩
                  · obtain ⟨b', eb, sb⟩ := rp_sqT (rL4 p hp)
                    cases eb
                    exact sb
                  · have h1 := unl_len ka
                    rw [e3] at hf
                    simp only [List.length_append, List.length_cons] at hf
                    omega
                  · by_cases hm : key ∈ L.map (·.2)
                    · rw [c1 hm] at hp; exact (rL4 p hp).upd (.inl (.inr rfl))
                    · rcases List.mem_cons.mp ((c2 hm).mem_iff.mp hp) with rfl | hp
                      · exact rv.upd (.inl (.inr rfl))
                      · exact (rL4 p hp).upd (.inl (.inr rfl))
                  · rw [unl_snoc]
                    by_cases hm : key ∈ L.map (·.2)
                    · rw [if_pos (pm.mem_iff.mp hm), c1 hm]; exact pm
                    · rw [if_neg fun z => hm (pm.mem_iff.mpr z)]
                      exact List.Perm.trans (List.Perm.map Prod.snd (c2 hm)) ((pm.cons key).trans (List.perm_append_singleton key _).symm)
  · have e0 : i = ts.length := by omega
    subst e0
    rw [List.drop_length] at hc
    cases hc
    rw [List.append_nil] at ey
    subst ey
    rw [hka] at hk; cases hk
    refine .inl ⟨stop, hQ H φ' L n.unB eD (fun p hp => ?_) (by have := pm.length_eq; simpa using this)⟩
    obtain ⟨b', eb, sb⟩ := rp_sqT (rL p hp)
    cases eb
    exact sb
section
variable {X : Cx} {W : WX} {tg iter el : Expr} {ifs : List Expr} {scope : Scope} {own : List (Str × Nat)} {p pos pos' : Pos} {g : Tg} {t : M Bool} {e : M U} {it : M Src} {ss : List Nat}
theorem rd_lenSet {vs : List Nat} {σ : L2.St} {H : Hp} {Q : VK} (hs : ∀ i ∈ ss, i ∈ vs) (h : rdE X W (mLenSet it g t e vs) σ H Q) :
    tCc (rdIz X W it) (rdG X ss g) (rdT X W0 t) (tpS X.K X.prog X.w (rdE X W0 e)) (fun D => SetTO X.prog X.w D []) vs σ H fun y H1 => rLenS X [y] H1 Q := by
  obtain ⟨B, φ, m, fr, S, r, m', e1, h⟩ := h
  refine ⟨B, φ, m, fr, S, ?_⟩
  unfold mLenSet mComp at e1
  cases q : it fr m with
  | none => simp only [mBind, q] at e1; cases e1
  | some p =>
    obtain ⟨r1, m1⟩ := p
    refine ⟨r1, m1, rfl, fun H1 φ1 n1 => ?_⟩
    have use : ∀ {ts : List T} {J : It} {B' : Addr → Prop} {ma mb : Mem} {ys : List T} {ks : List (List Int)} {D : Addr}, True := trivial
    match r1, q with
    | .error x, q => simp only [mBind, q] at e1; cases e1; exact h H1 φ1 n1
    | .ok (ts, none), q =>
      intro J hJ hz D hD
      simp only [mBind, q, compM] at e1
      cases q2 : compL g t e (wipeT fr vs) ts m1 with
      | none => rw [q2] at e1; cases e1
      | some p =>
        obtain ⟨ys, m2⟩ := p
        rw [q2] at e1
        dsimp only at e1
        cases q3 : keysI ys with
        | none => rw [q3] at e1; cases e1
        | some ks =>
          rw [q3] at e1
          dsimp only at e1
          by_cases hf : ks.length < 63
          · rw [if_pos hf] at e1
            cases e1
            obtain ⟨W', h0, hW⟩ := scomp_core (P := X.prog) (w := X.w) (S.nxt n1) hJ hs q2 q3 hf D hD (Qd := fun y H1 => rLenS X [y] H1 Q) fun H' φ' L n2 hDL hL hlen => ⟨D, L, rfl, hDL, hL, by
              rw [hlen]; exact h H' φ' (n1.trans n2) _ (.v (.int _))⟩
            exact ⟨W', h0, hW⟩
          · rw [if_neg hf] at e1; cases e1
    | .ok (ts, some i), q =>
      intro J hJ hz D hD
      simp only [mBind, q] at e1
      cases ql : mLock i (compM g t e vs ts) fr m1 with
      | none => rw [ql] at e1; cases e1
      | some p =>
        obtain ⟨rc, mc⟩ := p
        have ql' : lockO i (compM g t e vs ts fr) m1 = some (rc, mc) := ql
        obtain ⟨tc, m2, hm, e2, rfl⟩ := lock_inv (F := compM g t e vs ts fr) ql'
        have il : i < φ1.length := by rw [n1.ok.len]; exact (List.getElem?_eq_some_iff.mp hm).1
        have hi : φ1[i]? = some φ1[i] := List.getElem?_eq_getElem il
        have hB : lkB B φ1 (some i) = Bq B φ1[i] := by unfold lkB; dsimp only; rw [hi]
        rw [hB] at hJ
        unfold compM at e2
        cases q2 : compL g t e (wipeT fr vs) ts (m1.set i none) with
        | none => rw [q2] at e2; cases e2
        | some p =>
          obtain ⟨ys, m3⟩ := p
          rw [q2] at e2; cases e2
          rw [ql] at e1
          dsimp only at e1
          cases q3 : keysI ys with
          | none => rw [q3] at e1; cases e1
          | some ks =>
            rw [q3] at e1
            dsimp only at e1
            by_cases hf : ks.length < 63
            · rw [if_pos hf] at e1
              cases e1
              obtain ⟨W', h0, hW⟩ := scomp_core (P := X.prog) (w := X.w) ((S.nxt n1).lock hi hm) hJ hs q2 q3 hf D hD (Qd := fun y H1 => rLenS X [y] H1 Q) fun H' φ' L n2 hDL hL hlen => ⟨D, L, rfl, hDL, hL, by
                obtain ⟨n3, ll⟩ := Nxt.unlockB n1.ok (B := B) (fun a z => .inl z) hi hm n2
                rw [hlen]; exact h H' φ' (n1.trans n3) _ (.v (.int _))⟩
              exact ⟨W', h0, hW⟩
            · rw [if_neg hf] at e1; cases e1
theorem e_lenSet (vs : List Nat) (hu : X.A.units + 1 < cLine) (hgl : Gl X "len") (hml : X.mg "len" = none) (hc : X.calm = true) (hN : X.N.Nodup) (hi : PI X tg iter (rdIz X W it)) (ok : BlkOk X.N X.env.scope scope own)
    (hg : ∀ s H C cl fp, PG (Bk X scope s H C cl fp) tg (rdG X ss g)) (ht : ∀ s H C cl fp, PTs (Bk X scope s H C cl fp) ifs (rdT X W0 t)) (he : ∀ s H C cl fp, PE (Bk X scope s H C cl fp) el (rdE X W0 e))
    (hvs : own.map (·.2) = vs) (hss : ∀ i ∈ ss, i ∈ vs) (hs : ∀ x, foldedSetIterable iter X.env x = pure x := by intro _; rfl)
    (hst : starEach [.SetComp el [⟨tg, iter, ifs, 0⟩] scope pos] X.env = (false, eval (.SetComp el [⟨tg, iter, ifs, 0⟩] scope pos) X.env) :: starEach [] X.env := by rfl) :
    PE X (.Call (.Name "len" p) [.SetComp el [⟨tg, iter, ifs, 0⟩] scope pos] [] pos') (rdE X W (mLenSet it g t e vs)) := by
  subst hvs
  exact PE.wk (pe_callB call_lenS hgl hml PySem.boot_len (pa_cons (pe_scT hu hc hN hi ok hg ht he hs) pa_nil hst) (by decide) (by decide) hst (by rfl)) fun σ H Q h => rd_lenSet hss h
end
end G

/-! G34: lists turned about, the greatest and the least of a list, sorted keys, a dict of one entry, lists of the top. -/
namespace G
open PySem PySem.Spec PyProof.Rows L2
section
variable {X : Cx} {W : WX} {e a : Expr} {fs : M (List U)} {f fk fv : M U} {pos : Pos}
def mRevN (f : M U) : M C := mBind f fun u _ m => match (deref m u).bind lstOf with
  | some ts => some (.ok (.t (.lst ts.reverse)), m)
  | none => none
theorem e_revL {k : Nat} {p1 p2 p3 : Pos} (he : PE X e (rdE X W f)) : PE X (.Subscript e (.Slice none none (some (.UnaryOp .USub (.Constant (.int 1) k p1) p2)) p3) pos) (rdN X W (mRevN f)) := by
  refine PE.wk (pe_revL he) fun σ H Q ⟨B, φ, m, fr, S, r, m', e1, h⟩ => ⟨B, φ, m, fr, S, ?_⟩
  unfold mRevN mBind at e1
  cases q : f fr m with
  | none => rw [q] at e1; cases e1
  | some pq =>
    obtain ⟨r1, m1⟩ := pq
    rw [q] at e1
    refine ⟨r1, m1, rfl, fun H1 φ1 n1 => ?_⟩
    cases r1 with
    | error z => cases e1; exact h H1 φ1 n1
    | ok u =>
      intro v ru
      dsimp only at e1
      cases q1 : deref m1 u with
      | none => rw [q1] at e1; cases e1
      | some t =>
        rw [q1, Option.bind_some] at e1
        cases q2 : lstOf t with
        | none => rw [q2] at e1; cases e1
        | some ts =>
          rw [q2] at e1; cases e1
          obtain ⟨a, vs, rfl, sq, rs⟩ := (ru.vw n1.ok q1).lstOf q2
          exact ⟨a, vs, rfl, sq, fun l hl => h _ φ1 l (n1.fresh hl) (n1.new hl) ⟨_, upd_same, rs.reverse.new hl⟩⟩
/-- the greatest of some -/
def maxI : List Int → Option Int
  | [] => none
  | n :: ns => some (ns.foldl max n)
def minI : List Int → Option Int
  | [] => none
  | n :: ns => some (ns.foldl min n)
theorem foldl_max (ns : List Int) : ∀ n : Int, ns.foldl max n ∈ n :: ns ∧ ∀ y ∈ n :: ns, y ≤ ns.foldl max n := by
  induction ns with
  | nil => intro n; simp
  | cons k ns ih =>
    intro n
    obtain ⟨h1, h2⟩ := ih (max n k)
    rw [List.foldl_cons]
    refine ⟨?_, fun y hy => ?_⟩
    · rcases List.mem_cons.mp h1 with e | e
      · rw [e]
        rcases Int.le_total n k with z | z
        · rw [Int.max_eq_right z]; simp
        · rw [Int.max_eq_left z]; simp
      · simp [e]
    · have h3 := h2 (max n k) (by simp)
      simp only [List.mem_cons] at hy
      rcases hy with rfl | rfl | hy
      · omega
      · omega
      · exact h2 y (by simp [hy])
theorem foldl_min (ns : List Int) : ∀ n : Int, ns.foldl min n ∈ n :: ns ∧ ∀ y ∈ n :: ns, ns.foldl min n ≤ y := by
  induction ns with
  | nil => intro n; simp
  | cons k ns ih =>
    intro n
    obtain ⟨h1, h2⟩ := ih (min n k)
    rw [List.foldl_cons]
    refine ⟨?_, fun y hy => ?_⟩
    · rcases List.mem_cons.mp h1 with e | e
      · rw [e]
        rcases Int.le_total n k with z | z
        · rw [Int.min_eq_left z]; simp
        · rw [Int.min_eq_right z]; simp
      · simp [e]
    · have h3 := h2 (min n k) (by simp)
      simp only [List.mem_cons] at hy
      rcases hy with rfl | rfl | hy
      · omega
      · omega
      · exact h2 y (by simp [hy])
def maxLP : List T → Option T
  | [.lst ts] => ((intsOf ts).bind maxI).map .int
  | _ => none
def minLP : List T → Option T
  | [.lst ts] => ((intsOf ts).bind minI).map .int
  | _ => none
theorem cr_maxL (hc : X.calm = true) : CallR X (.builtin "max") (rN (cn X) (pvN maxLP)) := fun pins s σ H xs us Q inv r h => cr_max hc pins s σ H xs us Q inv r (by
  obtain ⟨B, φ, m, a, M, ra, h'⟩ := h
  obtain ⟨ts, t, vx, e, hq⟩ := h'.pvN M ra
  unfold maxLP at e
  split at e
  · rename_i ts
    cases q : intsOf ts with
    | none => rw [q] at e; cases e
    | some ns =>
      rw [q, Option.bind_some] at e
      cases ns with
      | nil => cases e
      | cons n ns =>
        cases e
        cases vx with
        | cons v vs =>
          cases vs
          obtain ⟨a, vs, rfl, ea, rs⟩ := v.lst
          rw [intsOf_map q] at rs
          rw [rps_ints_eq rs] at ea
          refine ⟨a, n :: ns, rfl, .of ea, by simp, fun mx hm hle => ?_⟩
          obtain ⟨f1, f2⟩ := foldl_max ns n
          have : mx = ns.foldl max n := Int.le_antisymm (f2 mx hm) (hle _ f1)
          rw [this]
          exact hq H (.refl M) _ (.int _)
  · cases e)
theorem cr_minL (hc : X.calm = true) : CallR X (.builtin "min") (rN (cn X) (pvN minLP)) := fun pins s σ H xs us Q inv r h => cr_min hc pins s σ H xs us Q inv r (by
  obtain ⟨B, φ, m, a, M, ra, h'⟩ := h
  obtain ⟨ts, t, vx, e, hq⟩ := h'.pvN M ra
  unfold minLP at e
  split at e
  · rename_i ts
    cases q : intsOf ts with
    | none => rw [q] at e; cases e
    | some ns =>
      rw [q, Option.bind_some] at e
      cases ns with
      | nil => cases e
      | cons n ns =>
        cases e
        cases vx with
        | cons v vs =>
          cases vs
          obtain ⟨a, vs, rfl, ea, rs⟩ := v.lst
          rw [intsOf_map q] at rs
          rw [rps_ints_eq rs] at ea
          refine ⟨a, n :: ns, rfl, .of ea, by simp, fun mx hm hle => ?_⟩
          obtain ⟨f1, f2⟩ := foldl_min ns n
          have : mx = ns.foldl min n := Int.le_antisymm (hle _ f1) (f2 mx hm)
          rw [this]
          exact hq H (.refl M) _ (.int _)
  · cases e)
end
end G

/-! G35: sorted keys of a dict, a dict of one entry, lists of the top. -/
namespace G
open PySem PySem.Spec PyProof.Rows L2
section
variable {X : Cx} {W : WX} {e kx vx : Expr} {fs : M (List U)} {f fk fv : M U} {pos : Pos}
def keysInt : List (Key × T) → Option (List Int)
  | [] => some []
  | (.inl n, _) :: r => match keysInt r with
    | some ns => some (n :: ns)
    | none => none
  | _ => none
def dictI : List T → Option (List Int)
  | [.dK kts] => keysInt kts
  | _ => none
def mSortedD (f : M (List U)) : M C := mBind f fun us _ m => match (derefs m us).bind dictI with
  | some ns => if ns.length < 64 then some (.ok (.t (.lst (srtK (ns.map T.int)))), m) else none
  | none => none
theorem keysInt_eq : ∀ {kts : List (Key × T)} {ns : List Int}, keysInt kts = some ns → kts.map (·.1) = ns.map Sum.inl
  | [], _, h => by cases h; rfl
  | (.inl n, _) :: r, ns, h => by
    unfold keysInt at h
    cases q : keysInt r with
    | none => rw [q] at h; cases h
    | some ms => rw [q] at h; cases h; rw [List.map_cons, keysInt_eq q]; rfl
  | (.inr _, _) :: _, _, h => by cases h
theorem e_sortedD {pn : Pos} (hc : X.calm = true) (hg : Gl X "sorted") (hm : X.mg "sorted" = none) (ha : PA X [e] (rdA X W fs)) (he : starEach [e] X.env = (false, eval e X.env) :: starEach [] X.env := by rfl) (hpl : (backTo pos (starEach [] X.env)).any (·.1) = false := by rfl) :
    PE X (.Call (.Name "sorted" pn) [e] [] pos) (rdN X W (mSortedD fs)) := by
  refine PE.wk (pe_callB (call_sortedDI hc) hg hm (by decide +kernel) ha (by decide) (by decide) he hpl) fun σ H Q ⟨B, φ, m, fr, S, r, m', e1, h⟩ => ⟨B, φ, m, fr, S, ?_⟩
  unfold mSortedD mBind at e1
  cases q : fs fr m with
  | none => rw [q] at e1; cases e1
  | some pq =>
    obtain ⟨r1, m1⟩ := pq
    rw [q] at e1
    refine ⟨r1, m1, rfl, fun H1 φ1 n1 => ?_⟩
    cases r1 with
    | error z => cases e1; exact h H1 φ1 n1
    | ok us =>
      intro vs ru
      dsimp only at e1
      cases q1 : derefs m1 us with
      | none => rw [q1] at e1; cases e1
      | some ts =>
        rw [q1, Option.bind_some] at e1
        cases q2 : dictI ts with
        | none => rw [q2] at e1; cases e1
        | some ns =>
          rw [q2] at e1
          dsimp only at e1
          by_cases hl : ns.length < 64
          · rw [if_pos hl] at e1
            cases e1
            unfold dictI at q2
            split at q2
            · rename_i kts
              have vw := ru.vws n1.ok q1
              cases vw with
              | cons v vs' =>
                cases vs'
                obtain ⟨a, kvs, rfl, rd, kk, _⟩ := v.dK
                refine ⟨a, kvs, ns, rfl, rd, by rw [kk, keysInt_eq q2], hl, fun ys p hp hw hH => h _ φ1 p (n1.fresh hH) (n1.new hH) ⟨_, upd_same, ?_⟩⟩
                rw [← srtK_ints hp hw]
                exact ints_rps ys
            · cases q2
          · rw [if_neg hl] at e1; cases e1
/-- {k: v} -/
def mDisp1 (fk fv : M U) : M C := fun fr m => match fk fr m with
  | some (.ok (.v kt), m1) => match fv fr m1, keyT kt with
    | some (.ok (.v t), m2), some k => some (.ok (.t (.dK [(k, t)])), m2)
    | _, _ => none
  | _ => none
theorem e_disp1 (hk : PE X kx (rdE X W fk)) (hv : PE X vx (rdE X W fv)) : PE X (.Dict [some kx] [vx] pos) (rdN X W (mDisp1 fk fv)) := by
  refine PE.wk (pe_disp (pps_cons hk hv pps_nil) (by rfl) (by rfl) (fun z => by cases z) (by simp)) fun σ H Q ⟨B, φ, m, fr, S, r, m', e1, h⟩ p hp => ?_
  have n0 : Nxt (cn X) (Bq B p) H φ m (upd H p (.dK [])) φ m := Nxt.new (.refl S.mem) hp
  have S0 : SOk (cn X) (Bq B p) (upd H p (.dK [])) φ m σ fr := S.nxtB (fun a z => z.imp id fun z => by rw [z]; exact hp) n0
  have nv : ∀ {H0 : Hp} {φ0 : List Addr} {m0 : Mem}, MOk (cn X) (Bq B p) H0 φ0 m0 → ¬ Lv φ0 m0 p := fun M ⟨j, u, x1, x2⟩ => M.nb j p u x1 x2 (.inr rfl)
  unfold mDisp1 at e1
  cases q : fk fr m with
  | none => rw [q] at e1; cases e1
  | some pq =>
    obtain ⟨r1, m1⟩ := pq
    rw [q] at e1
    match r1, e1 with
    | .ok (.v kt), e1 =>
      refine ⟨Bq B p, φ, m, fr, S0, .ok (.v kt), m1, q, fun H1 φ1 n1 yk rk => ?_⟩
      dsimp only at e1
      cases q2 : fv fr m1 with
      | none => rw [q2] at e1; cases e1
      | some pq =>
        obtain ⟨r2, m2⟩ := pq
        rw [q2] at e1
        match r2, e1 with
        | .ok (.v t), e1 =>
          refine ⟨Bq B p, φ1, m1, fr, S0.nxt n1, .ok (.v t), m2, q2, fun H2 φ2 n2 yv rv => ?_⟩
          cases q3 : keyT kt with
          | none => rw [q3] at e1; cases e1
          | some k =>
            rw [q3] at e1
            cases e1
            cases rk with
            | v rk =>
              have ek := keyT_rel rk q3
              cases rv with
              | v rv =>
                have k2 := n2.keep p _ (n1.keep p _ upd_same (nv n0.ok)) (nv n1.ok)
                refine ⟨k2, [(k, yv)], by rw [ek]; rfl, by simp, h _ φ2 p hp (((n0.trans n1).trans n2).updB (.inr rfl) (.inl hp)) ⟨mergeK [] [(k, yv)], upd_same, rfl, ?_⟩⟩
                exact .cons (rv.upd (.inl (.inr rfl))) .nil
/-- a list of the top -/
theorem e_globL {x : Str} {t : T} (hg : Gl X x) (hm : ∃ a, X.mg x = some (.ref a) ∧ ∀ (c : Cn) (H : Hp) (L : Addr → Prop), c.K = X.K → Rp c H L (.ref a) t) (hd : (x == ("__debug__" : Str)) = false := by decide) : PE X (.Name x pos) (rdE X W (mC t)) := by
  obtain ⟨a, hm, hr⟩ := hm
  exact e_glob (v := .ref a) hg hm rfl (fun _ _ => hr _ _ _ rfl) hd
end
end G

/-! G36: [[x, 0], [0, x]][s], one of two new lists. -/
namespace G
open PySem PySem.Spec PyProof.Rows L2
def intU : Option (Option U) → Option Int
  | some (some (.v (.int n))) => some n
  | _ => none
def mPick (i j : Nat) : M C := fun fr m => match intU fr[i]?, intU fr[j]? with
  | some x, some s => if s = 0 then some (.ok (.t (.lst [.int x, .int 0])), m) else if s = 1 then some (.ok (.t (.lst [.int 0, .int x])), m) else none
  | _, _ => none
section
variable {X : Cx} {W : WX}
theorem intU_at {c : Cn} {B : Addr → Prop} {H : Hp} {φ : List Addr} {m : Mem} {σ : L2.St} {fr : Fr} {i : Nat} {n : Int} (S : SOk c B H φ m σ fr) (h : intU fr[i]? = some n) : σ[i]? = some (some (.int n)) := by
  cases q : fr[i]? with
  | none => rw [q] at h; cases h
  | some o =>
    rw [q] at h
    match o, h with
    | some (.v (.int k)), h =>
      cases h
      obtain ⟨v, e, r⟩ := S.loc i _ q
      cases r with
      | v r => cases r; exact e
theorem e_pick {x s : Str} {i j : Nat} {k1 k2 : Nat} {p1 p2 p3 p4 p5 p6 p7 p8 pos : Pos} (hi : X.N[i]? = some x) (vi : Vis X.env.scope x) (hj : X.N[j]? = some s) (vj : Vis X.env.scope s)
    (d1 : (x == ("__debug__" : Str)) = false := by decide) (c1 : (x == ("__classdict__" : Str)) = false := by decide) (d2 : (s == ("__debug__" : Str)) = false := by decide) (c2 : (s == ("__classdict__" : Str)) = false := by decide) :
    PE X (.Subscript (.List [.List [.Name x p1, .Constant (.int 0) k1 p2] p3, .List [.Constant (.int 0) k2 p4, .Name x p5] p6] p7) (.Name s p8) pos) (rdN X W (mPick i j)) := by
  refine PE.wk (pe_ix ix_list (pe_lst (pa_cons (pe_lst (pa_cons (pe_var hi vi d1 c1) (pa_cons pe_int pa_nil))) (pa_cons (pe_lst (pa_cons pe_int (pa_cons (pe_var hi vi d1 c1) pa_nil))) pa_nil))) (pe_var hj vj d2 c2) (fun _ _ => rfl)) fun σ H Q ⟨B, φ, m, fr, S, r, m', e1, h⟩ => ?_
  unfold mPick at e1
  cases q1 : intU fr[i]? with
  | none => rw [q1] at e1; cases e1
  | some n =>
    cases q2 : intU fr[j]? with
    | none => rw [q1, q2] at e1; cases e1
    | some t =>
      rw [q1, q2] at e1
      dsimp only at e1
      have ei := intU_at S q1
      have ej := intU_at S q2
      have two : (2 : Nat) ≤ sizeLine := by rw [sizeLine_eq]; decide
      refine ⟨.int n, ei, two, fun b1 h1 => ⟨.int n, ei, two, fun b2 h2 => ⟨two, fun b3 h3 => ⟨.int t, ej, ?_⟩⟩⟩⟩
      have n12 : b1 ≠ b2 := fun z => by rw [← z, upd_same] at h2; cases h2
      have n13 : b1 ≠ b3 := fun z => by rw [← z, upd_ne n12, upd_same] at h3; cases h3
      have n23 : b2 ≠ b3 := fun z => by rw [← z, upd_same] at h3; cases h3
      by_cases t0 : t = 0
      · rw [if_pos t0] at e1
        cases e1
        refine ⟨b3, _, _, .ref b1, rfl, rfl, SqL.of upd_same, by rw [t0]; rfl, h _ φ b1 h1 (((Nxt.new (.refl S.mem) h1).plus h2).plus h3) ⟨[.int n, .int 0], ?_, .cons (.int n) (.cons (.int 0) .nil)⟩⟩
        rw [upd_ne n13, upd_ne n12, upd_same]
      · rw [if_neg t0] at e1
        by_cases t1 : t = 1
        · rw [if_pos t1] at e1
          cases e1
          have h2' : H b2 = none := by rw [upd_ne (Ne.symm n12)] at h2; exact h2
          refine ⟨b3, _, _, .ref b2, rfl, rfl, SqL.of upd_same, by rw [t1]; rfl, h _ φ b2 h2' ((Nxt.new (Nxt.plus (.refl S.mem) h1) h2).plus h3) ⟨[.int 0, .int n], ?_, .cons (.int 0) (.cons (.int n) .nil)⟩⟩
          rw [upd_ne n23, upd_same]
        · rw [if_neg t1] at e1; cases e1
end
end G

/-! G37: two names told at once; the room of a handler's suite. -/
namespace G
open PySem PySem.Spec PyProof.Rows L2
def par2 (i j : Nat) : List U → Fr → Option Fr
  | [u, v], fr => some ((fr.set i (some u)).set j (some v))
  | _, _ => none
def sPar (i j : Nat) (f : M (List U)) : MS := sBind f fun us fr m => match par2 i j us fr with
  | some fr' => some (.fl .nx fr', m)
  | none => none
section
variable {X : Cx} {W : WX} {f : M (List U)}
theorem s_par {i j : Nat} {x y : Str} {a b : Expr} {px py pt pos : Pos} {kt k2 pt2} (hc : X.calm = true) (hN : X.N.Nodup) (hi : X.N[i]? = some x) (hj : X.N[j]? = some y) (hij : i ≠ j)
    (hx : X.env.scope.names.lookup x = some .local) (hy : X.env.scope.names.lookup y = some .local) (ha : PA X [a, b] (rdA X W f))
    (hw : swappedStores [.Tuple [.Name x px, .Name y py] kt pt] (.Tuple [a, b] k2 pt2) X.env = pure (some [x, y]))
    (hs : swapsWithSole [.Tuple [.Name x px, .Name y py] kt pt] (.Tuple [a, b] k2 pt2) pos.line X.env = pure false := by rfl) :
    PS X (.Assign [.Tuple [.Name x px, .Name y py] kt pt] (.Tuple [a, b] k2 pt2) pos) (rdS X W (sPar i j f)) := by
  refine PS.wk (ps_par hc hN hi hj hij hx hy ha hw hs) fun D σ H h => ?_
  obtain ⟨B, φ, m, fr, S, h⟩ := rdS.bind (R := rrUs) h
  refine ⟨B, φ, m, fr, S, h.mono fun vs H1 ⟨B, φ1, m1, fr, us, S1, ru, r, m', e, h1⟩ => ?_⟩
  cases q : par2 i j us fr with
  | none => rw [q] at e; cases e
  | some fr' =>
    rw [q] at e
    cases e
    obtain ⟨u, v, rfl, eq⟩ : ∃ u v, us = [u, v] ∧ (fr.set i (some u)).set j (some v) = fr' := by
      unfold par2 at q
      split at q
      · cases q; exact ⟨_, _, rfl, rfl⟩
      · cases q
    subst eq
    cases ru with
    | cons r1 ru =>
      cases ru with
      | cons r2 ru =>
        cases ru
        exact ⟨_, _, rfl, h1 H1 φ1 (.refl S1.mem) _ ((S1.set i r1).set j r2)⟩
theorem u64s {k : Nat} {a : Addr} {pn : List (Addr × Obj)} (hr : Room k X.A) : (X.suite a pn).A.units + 64 < cLine := by
  have h : X.A.units + 64 < cLine := u64 hr
  exact h
end
theorem le_sl {n : Nat} (h : n ≤ 4096) : n ≤ sizeLine := by rw [sizeLine_eq]; omega
theorem refs1 {C : Addr} : PySem.HandSPX.refsVE [.ref C, .type "ValueError", .type "Exception", .type "BaseException", .type "object"] = true := (by decide +kernel : PySem.HandSPX.refsVE [.type "ValueError", .type "Exception", .type "BaseException", .type "object"] = true)
/-! ### what is told of each class of a list -/
theorem all_nil {P : Str → Prop} : ∀ n : Str, ([] : List Str).contains n = true → P n := fun n h => by simp at h
theorem all_cons {P : Str → Prop} {n0 : Str} {ns : List Str} (h0 : P n0) (hr : ∀ n : Str, ns.contains n = true → P n) : ∀ n : Str, (n0 :: ns).contains n = true → P n := fun n h => by
  by_cases e : n = n0
  · rw [e]; exact h0
  · exact hr n (by simpa [List.contains_cons, e] using h)
theorem xm_of {K : PySem.W.Frag} {mg : Str → Option Value} {ns : List Str} {m : Str} {c : Value} (h : ∀ n, ns.contains n = true → ∃ C, mg n = some (.ref C) ∧ PySem.W.exmOne K (.ref C) c = some (isU n m)) :
    ∀ x v b, mg x = some v → subX ns x m = some b → (∃ C, v = .ref C) ∧ PySem.W.exmOne K v c = some b := fun x v b hv hs => by
  unfold subX at hs
  by_cases hc : ns.contains x = true
  · rw [if_pos hc] at hs
    obtain ⟨C, g, k⟩ := h x hc
    rw [g] at hv
    cases hv
    cases hs
    exact ⟨⟨_, rfl⟩, k⟩
  · rw [if_neg hc] at hs; cases hs
end G

/-! G38: the top's lists. -/
namespace G
open PySem PySem.Spec PyProof.Rows L2
theorem klst_of {c : Cn} {K : PySem.W.Frag} {a : Addr} {its : Array Value} {n : Nat} {sl : Array (Option Value)} {xs : List V} (hK : c.K = K) (h : K.lookup a = some ⟨.type "list", none, .seq its n, sl⟩) (hs : its.size ≤ 4096) (hv : Vals xs its.toList) : KLst c.K a xs := by
  rw [hK]
  exact ⟨_, its, n, h, rfl, rfl, rfl, le_sl hs, hv⟩
theorem ktup_of {c : Cn} {K : PySem.W.Frag} {a : Addr} {od : Option Addr} {its : Array Value} {n : Nat} {sl : Array (Option Value)} {xs : List V} (hK : c.K = K) (h : K.lookup a = some ⟨.type "tuple", od, .seq its n, sl⟩) (hs : its.size ≤ 4096) (hv : Vals xs its.toList) : KTup c.K a xs := by
  rw [hK]
  exact ⟨_, its, n, h, rfl, rfl, le_sl hs, hv⟩
/-! ### is one class under another -/
theorem exm_by {K : PySem.W.Frag} {C S : Addr} {b : Bool} (h1 : PySem.W.subIn K (.ref S) (.type "BaseException") = some true) (h2 : PySem.W.isClsIn K S = true) (h3 : PySem.W.typeIn K (.ref S) = some (.type "type")) (h4 : PySem.W.subIn K (.ref C) (.ref S) = some b) :
    PySem.W.exmOne K (.ref C) (.ref S) = some b := by
  have h2' : (PySem.W.clsIn K S).isSome = true := h2
  simp [PySem.W.exmOne, PySem.W.kitCls, h1, h2', h3, h4]
theorem kit_by {K : PySem.W.Frag} {C S : Addr} {b : Bool} (hs : PySem.W.subIn K (.ref C) (.ref C) = some true) (h2 : PySem.W.isClsIn K S = true) (h3 : PySem.W.typeIn K (.ref S) = some (.type "type")) (h4 : PySem.W.subIn K (.ref C) (.ref S) = some b) :
    PySem.W.kitOne K (.ref C) (.ref S) = some b := by
  have h2' : (PySem.W.clsIn K S).isSome = true := h2
  by_cases e : C = S
  · subst e
    rw [hs] at h4
    cases h4
    simp [PySem.W.kitOne]
  · have e' : ((Value.ref C) == (Value.ref S)) = false := by simpa using e
    simp [PySem.W.kitOne, PySem.W.kitCls, e', h2', h3, h4]
theorem kit_ty {K : PySem.W.Frag} {C : Addr} {n : String} {b : Bool} (hm : PySem.W.kitMeta n = true) (h4 : PySem.W.subIn K (.ref C) (.type n) = some b) : PySem.W.kitOne K (.ref C) (.type n) = some b := by
  have e' : ((Value.ref C) == (Value.type n)) = false := by simp
  simp [PySem.W.kitOne, PySem.W.kitCls, e', hm, h4]
end G

/-! G39: steps by named continuations for what G25..G37 brought. -/
namespace G
open PySem L2
section
variable {fr : Fr} {m : Mem} {x : Xc}
def kTry (fh : MH) (Q : QS) : QS
  | .ex x fr', m' => wS (fh x) fr' m' Q
  | .fl k fr', m' => Q (.fl k fr') m'
@[simp] theorem kTry_ex {fh : MH} {Q : QS} : kTry fh Q (.ex x fr) m = wS (fh x) fr m Q := rfl
@[simp] theorem kTry_fl {fh : MH} {Q : QS} {k} : kTry fh Q (.fl k fr) m = Q (.fl k fr) m := rfl
@[simp] theorem w_try {fb : MS} {fh : MH} {Q : QS} : wS (sTry fb fh) fr m Q ↔ wS fb fr m (kTry fh Q) := by
  unfold wS sTry
  cases fb fr m with
  | none => simp only [wR_none]
  | some p =>
    obtain ⟨r, m1⟩ := p
    cases r with
    | ex x fr' => simp only [wR_some, kTry]; rfl
    | fl k fr' => simp only [wR_some, kTry]
def kEnd (i : Nat) (Q : QS) : QS
  | .fl (.rt u) fr, m => (m.all nxC = true ∧ nxU u = true) ∧ Q (.fl (.rt u) (fr.map fun _ => none)) m
  | .fl k fr, m => (m.all nxC = true ∧ (fr.set i none).all nxO = true) ∧ Q (.fl k (fr.set i none)) m
  | .ex _ _, _ => False
@[simp] theorem kEnd_nx {i : Nat} {Q : QS} : kEnd i Q (.fl .nx fr) m = ((m.all nxC = true ∧ (fr.set i none).all nxO = true) ∧ Q (.fl .nx (fr.set i none)) m) := rfl
@[simp] theorem kEnd_bk {i : Nat} {Q : QS} : kEnd i Q (.fl .bk fr) m = ((m.all nxC = true ∧ (fr.set i none).all nxO = true) ∧ Q (.fl .bk (fr.set i none)) m) := rfl
@[simp] theorem kEnd_ct {i : Nat} {Q : QS} : kEnd i Q (.fl .ct fr) m = ((m.all nxC = true ∧ (fr.set i none).all nxO = true) ∧ Q (.fl .ct (fr.set i none)) m) := rfl
@[simp] theorem kEnd_rt {i : Nat} {Q : QS} {u : U} : kEnd i Q (.fl (.rt u) fr) m = ((m.all nxC = true ∧ nxU u = true) ∧ Q (.fl (.rt u) (fr.map fun _ => none)) m) := rfl
def kAs (i : Nat) (fs : MS) (x : Xc) (fr : Fr) (m : Mem) (Q : QS) : Bool → Prop
  | true => wS fs (fr.set i (some (.v (.exc x.cls x.fs)))) m (kEnd i Q)
  | false => Q (.ex x fr) m
@[simp] theorem kAs_t {i : Nat} {fs : MS} {Q : QS} : kAs i fs x fr m Q true = wS fs (fr.set i (some (.v (.exc x.cls x.fs)))) m (kEnd i Q) := rfl
@[simp] theorem kAs_f {i : Nat} {fs : MS} {Q : QS} : kAs i fs x fr m Q false = Q (.ex x fr) m := rfl
theorem wR_if {b b' : Bool} {r : SR} {m : Mem} {Q : QS} : wR (if (b && b') = true then some (r, m) else none) Q ↔ (b = true ∧ b' = true) ∧ Q r m := by
  cases b <;> cases b' <;> simp [wR_some, wR_none]
@[simp] theorem w_hAs {ns : List Str} {cl : Str} {i : Nat} {fs : MS} {Q : QS} : wS (hAs ns cl i fs x) fr m Q ↔ wO (subX ns x.cls cl) (kAs i fs x fr m Q) := by
  unfold wS hAs
  cases subX ns x.cls cl with
  | none => simp only [wR_none, wO_none]
  | some b =>
    cases b with
    | false => simp only [wO_some, kAs, wR_some]
    | true =>
      simp only [wO_some, kAs]
      unfold wS
      cases fs (fr.set i (some (.v (.exc x.cls x.fs)))) m with
      | none => simp only [endS, wR_none]
      | some p =>
        obtain ⟨r, m1⟩ := p
        cases r with
        | ex x fr' => simp only [endS, wR_none, wR_some, kEnd]
        | fl k fr' => cases k <;> simp only [endS, wR_some, kEnd, wR_if]
def kRaise (cl fd : Str) (fr : Fr) (Q : QS) : QE U
  | .ok (.v t), m => Q (.ex ⟨cl, [(fd, t)]⟩ fr) m
  | .ok (.c _), _ => False
  | .error x, m => Q (.ex x fr) m
@[simp] theorem kRaise_ok {cl fd : Str} {Q : QS} {t : T} : kRaise cl fd fr Q (.ok (.v t)) m = Q (.ex ⟨cl, [(fd, t)]⟩ fr) m := rfl
@[simp] theorem kRaise_er {cl fd : Str} {Q : QS} : kRaise cl fd fr Q (.error x) m = Q (.ex x fr) m := rfl
@[simp] theorem w_raise1 {cl fd : Str} {f : M U} {Q : QS} : wS (sRaise1 cl fd f) fr m Q ↔ wE f fr m (kRaise cl fd fr Q) := by
  unfold wS sRaise1 sBind wE
  cases f fr m with
  | none => simp only [wR_none]
  | some p =>
    obtain ⟨r, m1⟩ := p
    cases r with
    | error x => simp only [wR_some, kRaise]
    | ok u => cases u <;> simp only [wR_some, wR_none, kRaise]
def kPar (i j : Nat) (fr : Fr) (Q : QS) : QE (List U) := onSt fr Q fun us m' => wO (par2 i j us fr) (kNx m' Q)
@[simp] theorem kPar_ok {i j : Nat} {Q : QS} {us : List U} : kPar i j fr Q (.ok us) m = wO (par2 i j us fr) (kNx m Q) := rfl
@[simp] theorem kPar_er {i j : Nat} {Q : QS} : kPar i j fr Q (.error x) m = Q (.ex x fr) m := rfl
@[simp] theorem par2_two {i j : Nat} {u v : U} : par2 i j [u, v] fr = some ((fr.set i (some u)).set j (some v)) := rfl
@[simp] theorem w_par {i j : Nat} {f : M (List U)} {Q : QS} : wS (sPar i j f) fr m Q ↔ wE f fr m (kPar i j fr Q) := by
  unfold wS sPar sBind wE
  cases f fr m with
  | none => simp only [wR_none]
  | some p =>
    obtain ⟨r, m1⟩ := p
    cases r with
    | error x => simp only [wR_some, kPar, onSt]
    | ok us =>
      simp only [wR_some, kPar, onSt]
      cases par2 i j us fr with
      | none => simp only [wR_none, wO_none]
      | some fr' => simp only [wR_some, wO_some, kNx]
/-! ### values -/
def kLen (Q : QE U) : QE C
  | .ok (.t (.lst ys)), m => wO (keysI ys) fun ks => ks.length < 63 ∧ Q (.ok (.v (.int ((unl ks).length : Nat)))) m
  | .ok _, _ => False
  | .error x, m => Q (.error x) m
@[simp] theorem kLen_ok {Q : QE U} {ys : List T} : kLen Q (.ok (.t (.lst ys))) m = wO (keysI ys) fun ks => ks.length < 63 ∧ Q (.ok (.v (.int ((unl ks).length : Nat)))) m := rfl
@[simp] theorem kLen_er {Q : QE U} : kLen Q (.error x) m = Q (.error x) m := rfl
@[simp] theorem w_lenSet {it : M Src} {g : Tg} {t : M Bool} {e : M U} {vs : List Nat} {Q : QE U} : wE (mLenSet it g t e vs) fr m Q ↔ wE (mComp it g t e vs) fr m (kLen Q) := by
  unfold wE mLenSet mBind
  cases mComp it g t e vs fr m with
  | none => simp only [wR_none]
  | some p =>
    obtain ⟨r, m1⟩ := p
    cases r with
    | error x => simp only [wR_some, kLen]
    | ok c =>
      simp only [wR_some]
      match c with
      | .t (.lst ys) =>
        show wR ((match keysI ys with
          | some ks => if ks.length < 63 then mPure (.v (.int ((unl ks).length : Nat))) else stuck
          | none => stuck : M U) fr m1) Q ↔ wO (keysI ys) fun ks => ks.length < 63 ∧ Q (.ok (.v (.int ((unl ks).length : Nat)))) m1
        cases keysI ys with
        | none => simp only [stuck, wR_none, wO_none]
        | some ks =>
          simp only [wO_some]
          by_cases h : ks.length < 63
          · simp only [h, if_true, mPure, wR_some, true_and]
          · simp only [h, if_false, stuck, wR_none, false_and]
      | .ins _ _ => exact wR_none
      | .pr _ => exact wR_none
      | .t .non => exact wR_none
      | .t (.bl _) => exact wR_none
      | .t (.int _) => exact wR_none
      | .t (.str _) => exact wR_none
      | .t (.tup _) => exact wR_none
      | .t (.rol _) => exact wR_none
      | .t (.rot _) => exact wR_none
      | .t (.dK _) => exact wR_none
      | .t (.dT _) => exact wR_none
      | .t (.ins _ _) => exact wR_none
      | .t (.exc _ _) => exact wR_none
def kRev1 (m : Mem) (Q : QE C) : List T → Prop := fun ts => Q (.ok (.t (.lst ts.reverse))) m
@[simp] theorem kRev1_eq {Q : QE C} {ts : List T} : kRev1 m Q ts = Q (.ok (.t (.lst ts.reverse))) m := rfl
def kRev (Q : QE C) : QE U := onOk Q fun u m => wO ((deref m u).bind lstOf) (kRev1 m Q)
@[simp] theorem kRev_ok {Q : QE C} {u : U} : kRev Q (.ok u) m = wO ((deref m u).bind lstOf) (kRev1 m Q) := rfl
@[simp] theorem kRev_er {Q : QE C} : kRev Q (.error x) m = Q (.error x) m := rfl
@[simp] theorem w_revN {f : M U} {Q : QE C} : wE (mRevN f) fr m Q ↔ wE f fr m (kRev Q) := by
  unfold wE mRevN mBind
  cases f fr m with
  | none => simp only [wR_none]
  | some p =>
    obtain ⟨r, m1⟩ := p
    cases r with
    | error x => simp only [wR_some, kRev, onOk]
    | ok u =>
      simp only [wR_some, kRev, onOk]
      cases (deref m1 u).bind lstOf with
      | none => simp only [wR_none, wO_none]
      | some ts => simp only [wR_some, wO_some, kRev1]
def kSd1 (m : Mem) (Q : QE C) : List Int → Prop := fun ns => ns.length < 64 ∧ Q (.ok (.t (.lst (srtK (ns.map T.int))))) m
@[simp] theorem kSd1_eq {Q : QE C} {ns : List Int} : kSd1 m Q ns ↔ ns.length < 64 ∧ Q (.ok (.t (.lst (srtK (ns.map T.int))))) m := Iff.rfl
def kSd (Q : QE C) : QE (List U) := onOk Q fun us m => wO ((derefs m us).bind dictI) (kSd1 m Q)
@[simp] theorem kSd_ok {Q : QE C} {us : List U} : kSd Q (.ok us) m = wO ((derefs m us).bind dictI) (kSd1 m Q) := rfl
@[simp] theorem kSd_er {Q : QE C} : kSd Q (.error x) m = Q (.error x) m := rfl
@[simp] theorem w_sortedD {f : M (List U)} {Q : QE C} : wE (mSortedD f) fr m Q ↔ wE f fr m (kSd Q) := by
  unfold wE mSortedD mBind
  cases f fr m with
  | none => simp only [wR_none]
  | some p =>
    obtain ⟨r, m1⟩ := p
    cases r with
    | error x => simp only [wR_some, kSd, onOk]
    | ok us =>
      simp only [wR_some, kSd, onOk]
      cases (derefs m1 us).bind dictI with
      | none => simp only [wR_none, wO_none]
      | some ns =>
        simp only [wO_some, kSd1]
        by_cases h : ns.length < 64
        · simp only [h, if_true, wR_some, true_and]
        · simp only [h, if_false, wR_none, false_and]
def kDi2 (kt : T) (Q : QE C) : QE U
  | .ok (.v t), m => wO (keyT kt) fun k => Q (.ok (.t (.dK [(k, t)]))) m
  | _, _ => False
@[simp] theorem kDi2_ok {kt t : T} {Q : QE C} : kDi2 kt Q (.ok (.v t)) m = wO (keyT kt) fun k => Q (.ok (.t (.dK [(k, t)]))) m := rfl
def kDi1 (fv : M U) (fr : Fr) (Q : QE C) : QE U
  | .ok (.v kt), m => wE fv fr m (kDi2 kt Q)
  | _, _ => False
@[simp] theorem kDi1_ok {kt : T} {fv : M U} {Q : QE C} : kDi1 fv fr Q (.ok (.v kt)) m = wE fv fr m (kDi2 kt Q) := rfl
@[simp] theorem w_disp1 {fk fv : M U} {Q : QE C} : wE (mDisp1 fk fv) fr m Q ↔ wE fk fr m (kDi1 fv fr Q) := by
  unfold wE mDisp1
  cases fk fr m with
  | none => simp only [wR_none]
  | some p =>
    obtain ⟨r, m1⟩ := p
    cases r with
    | error x => simp only [wR_some, wR_none, kDi1]
    | ok u =>
      cases u with
      | c i => simp only [wR_some, wR_none, kDi1]
      | v kt =>
        simp only [wR_some, kDi1]
        unfold wE
        cases fv fr m1 with
        | none => simp only [wR_none]
        | some p =>
          obtain ⟨r, m2⟩ := p
          cases r with
          | error x => simp only [wR_some, wR_none, kDi2]
          | ok u =>
            cases u with
            | c i => simp only [wR_some, wR_none, kDi2]
            | v t =>
              simp only [wR_some, kDi2]
              cases keyT kt with
              | none => simp only [wR_none, wO_none]
              | some k => simp only [wR_some, wO_some]
def kPk2 (a : Int) (m : Mem) (Q : QE C) : Int → Prop := fun s => (s = 0 ∧ Q (.ok (.t (.lst [.int a, .int 0]))) m) ∨ (s = 1 ∧ Q (.ok (.t (.lst [.int 0, .int a]))) m)
def kPk1 (j : Nat) (fr : Fr) (m : Mem) (Q : QE C) : Int → Prop := fun a => wO (intU fr[j]?) (kPk2 a m Q)
@[simp] theorem kPk1_eq {j : Nat} {a : Int} {Q : QE C} : kPk1 j fr m Q a = wO (intU fr[j]?) (kPk2 a m Q) := rfl
@[simp] theorem kPk2_0 {a : Int} {Q : QE C} : kPk2 a m Q 0 ↔ Q (.ok (.t (.lst [.int a, .int 0]))) m := by simp [kPk2]
@[simp] theorem kPk2_1 {a : Int} {Q : QE C} : kPk2 a m Q 1 ↔ Q (.ok (.t (.lst [.int 0, .int a]))) m := by simp [kPk2]
@[simp] theorem intU_i {n : Int} : intU (some (some (.v (.int n)))) = some n := rfl
@[simp] theorem w_pick {i j : Nat} {Q : QE C} : wE (mPick i j) fr m Q ↔ wO (intU fr[i]?) (kPk1 j fr m Q) := by
  unfold wE mPick
  cases intU fr[i]? with
  | none => simp only [wR_none, wO_none]
  | some a =>
    simp only [wO_some, kPk1]
    cases intU fr[j]? with
    | none => simp only [wR_none, wO_none]
    | some s =>
      simp only [wO_some, kPk2]
      by_cases h : s = 0
      · simp only [h, if_true, wR_some, true_and]; simp
      · by_cases h1 : s = 1
        · simp only [h1, if_true, wR_some, true_and]; simp
        · simp only [h, h1, if_false, wR_none, false_and, or_self]
/-! ### dict comprehensions -/
def wD (g : Tg) (t : M Bool) (ek ev : M U) (fr0 : Fr) (xs : List T) (d : List (List Key × T)) (m : Mem) (Q : List (List Key × T) → Mem → Prop) : Prop := wR (dcompL g t ek ev fr0 xs d m) Q
def kDd (Q : QE C) : List (List Key × T) → Mem → Prop := fun d m => Q (.ok (.t (.dT d))) m
@[simp] theorem kDd_eq {Q : QE C} {d : List (List Key × T)} : kDd Q d m = Q (.ok (.t (.dT d))) m := rfl
@[simp] theorem w_dcompM {g : Tg} {t : M Bool} {ek ev : M U} {vs : List Nat} {ts : List T} {Q : QE C} : wE (dcompM g t ek ev vs ts) fr m Q ↔ wD g t ek ev (wipeT fr vs) ts [] m (kDd Q) := by
  unfold wE dcompM wD
  cases dcompL g t ek ev (wipeT fr vs) ts [] m with
  | none => simp only [wR_none]
  | some p => obtain ⟨d, m1⟩ := p; simp only [wR_some, kDd]
def dSel (g : Tg) (t : M Bool) (ek ev : M U) (vs : List Nat) : Src → M C
  | (ts, none) => dcompM g t ek ev vs ts
  | (ts, some i) => mLock i (dcompM g t ek ev vs ts)
def kDc (g : Tg) (t : M Bool) (ek ev : M U) (vs : List Nat) (fr : Fr) (Q : QE C) : QE Src := onOk Q fun p m' => wE (dSel g t ek ev vs p) fr m' Q
@[simp] theorem kDc_none {g : Tg} {t : M Bool} {ek ev : M U} {vs : List Nat} {Q : QE C} {ts : List T} : kDc g t ek ev vs fr Q (.ok (ts, none)) m = wE (dcompM g t ek ev vs ts) fr m Q := rfl
@[simp] theorem kDc_er {g : Tg} {t : M Bool} {ek ev : M U} {vs : List Nat} {Q : QE C} : kDc g t ek ev vs fr Q (.error x) m = Q (.error x) m := rfl
@[simp] theorem w_dcomp {it : M Src} {g : Tg} {t : M Bool} {ek ev : M U} {vs : List Nat} {Q : QE C} : wE (mDComp it g t ek ev vs) fr m Q ↔ wE it fr m (kDc g t ek ev vs fr Q) := by
  have e : mDComp it g t ek ev vs = mBind it (dSel g t ek ev vs) := by
    unfold mDComp
    congr 1
  rw [e]
  exact wE_bind
theorem wD_put {g : Tg} {ek ev : M U} {fr0 : Fr} {Q : List (List Key × T) → Mem → Prop} (f : T → List Key × T) : ∀ {xs : List T} {d : List (List Key × T)},
    (∀ x ∈ xs, wO (g (.v x) fr0) fun fr' => wE ek fr' m (onV fun k m1 => m1 = m ∧ ∃ ks, k = .tup ks ∧ keysT ks = some (f x).1 ∧ wE ev fr' m (onV fun y m2 => m2 = m ∧ y = (f x).2))) →
    Q (xs.foldl (fun d x => putT d (f x).1 (f x).2) d) m → wD g mYes ek ev fr0 xs d m Q := by
  intro xs
  induction xs with
  | nil => intro d _ hq; exact wR_some.mpr hq
  | cons x xs ih =>
    intro d hs hq
    obtain ⟨fr', e1, r, m1, e2, h2⟩ := hs x (List.mem_cons_self ..)
    have ih' := @ih (putT d (f x).1 (f x).2) (fun y hy => hs y (List.mem_cons_of_mem _ hy)) hq
    cases r with
    | error z => exact h2.elim
    | ok u =>
      cases u with
      | c i => exact h2.elim
      | v k =>
        obtain ⟨rfl, ks, rfl, hk, r3, m3, e3, h3⟩ := h2
        cases r3 with
        | error z => exact h3.elim
        | ok u =>
          cases u with
          | c i => exact h3.elim
          | v y =>
            obtain ⟨rfl, rfl⟩ := h3
            have et : dTurn mYes ek ev fr' m3 = some (some ((f x).1, (f x).2), m3) := by
              unfold dTurn
              simp only [mYes, mPure, e2, e3, tupOf, treeOf, Option.bind_some, hk]
            unfold wD
            rw [dcompL, e1]
            dsimp only
            rw [et]
            exact ih'
end
@[simp] theorem maxLP_l {ts : List T} : maxLP [.lst ts] = ((intsOf ts).bind maxI).map .int := rfl
@[simp] theorem minLP_l {ts : List T} : minLP [.lst ts] = ((intsOf ts).bind minI).map .int := rfl
@[simp] theorem intsOf_ints (ns : List Int) : intsOf (ns.map .int) = some ns := by
  induction ns with
  | nil => rfl
  | cons n ns ih => simp only [List.map_cons, intsOf, ih]
end G

/-! G40: is a number in a tuple of numbers? -/
namespace G
open PySem PySem.Spec PyProof.Rows L2
def inI : T → T → Option T
  | .int n, .tup ts => (intsOf ts).map fun ns => .bl (ns.any fun k => decide (k = n))
  | _, _ => none
section
variable {X : Cx}
theorem rps_vs {c : Cn} {H : Hp} {L : Addr → Prop} : ∀ {ns : List Int} {vs : List V}, Rps c H L vs (ns.map T.int) → vs = ns.map V.int
  | [], _, .nil => rfl
  | n :: ns, _, .cons h r => by cases h; rw [rps_vs r]; rfl
theorem op_inI : OpR X (compareOp .In) (r2 (cn X) (pv2 inI)) := op_T fun pins s σ H x y v u Q B φ m x' y' t inv r1 r2 M vx vy e hq => by
  unfold inI at e
  split at e
  · rename_i n ts
    cases q : intsOf ts with
    | none => rw [q] at e; cases e
    | some ns =>
      rw [q] at e
      cases e
      cases vx.int
      cases intsOf_map q
      obtain ⟨a, vs, rfl, hs, rs⟩ := vy.tup
      cases rps_vs rs
      refine op_in_seq pins s σ H _ _ v u Q inv r1 r2 ⟨a, ns.map V.int, rfl, .inr (.of hs), rfl, by simp [List.all_eq_true, flatV], ?_⟩
      have hh := hq H (.refl M) (.bl (ns.any fun k => decide (k = n))) (.bl _)
      have ee : inV (V.int n) (ns.map V.int) = ns.any fun k => decide (k = n) := by
        unfold inV
        rw [List.any_map]
        congr 1
      simp only [Bool.false_eq_true, if_false, ee]
      exact hh
  · cases e
end
@[simp] theorem inI_i {n : Int} {ns : List Int} : inI (.int n) (.tup (ns.map .int)) = some (.bl (ns.any fun k => decide (k = n))) := by simp [inI]
end G

/-! G41: a comprehension of new lists, each held apart; the least of them. -/
namespace G
open PySem PySem.Spec PyProof.Rows L2
/-- the elements are new cells: what they hold, in turn; the cells go -/
def compC (g : Tg) (e : M U) (fr0 : Fr) : List T → Mem → Option (List T × Mem)
  | [], m => some ([], m)
  | x :: xs, m => match g (.v x) fr0 with
    | none => none
    | some fr' => match e fr' m with
      | some (.ok (.c j), m1) => match m1[j]? with
        | some (some (.t y)) => if m.length ≤ j then match compC g e fr0 xs (m1.set j none) with
            | some (ys, m2) => some (y :: ys, m2)
            | none => none
          else none
        | _ => none
      | _ => none
/-- new things that are held apart, and what they stand for -/
inductive Held (c : Cn) (H0 H : Hp) (B : Addr → Prop) (φ : List Addr) (m : Mem) (D : Addr) : List V → List T → Prop
  | nil : Held c H0 H B φ m D [] []
  | snoc {vs : List V} {ts : List T} {a : Addr} {t : T} : Held c H0 H B φ m D vs ts → H0 a = none → B a → a ≠ D → Cel c H (LL B φ m) φ a (.t t) → Held c H0 H B φ m D (vs ++ [.ref a]) (ts ++ [t])
section
variable {c : Cn} {H0 H H' : Hp} {B B' : Addr → Prop} {φ φ' : List Addr} {m m' : Mem} {D : Addr}
theorem Held.length {vs : List V} {ts : List T} (h : Held c H0 H B φ m D vs ts) : vs.length = ts.length := by
  induction h with
  | nil => rfl
  | snoc _ _ _ _ _ ih => simp [ih]
/-- a step on, more held apart -/
theorem Held.nxt {vs : List V} {ts : List T} (h : Held c H0 H B φ m D vs ts) (M : MOk c B H φ m) (hB : ∀ a, B' a → B a ∨ H a = none) (hB2 : ∀ a, B a → B' a) (n : Nxt c B' H φ m H' φ' m') : Held c H0 H' B' φ' m' D vs ts := by
  induction h with
  | nil => exact .nil
  | snoc _ h0 hb ne cl ih => exact .snoc ih h0 (hB2 _ hb) ne (cl.mono n.pre (n.monoB hB) fun o e => n.keep _ o e fun ⟨j, t, e1, e2⟩ => M.nb j _ t e1 e2 hb)
/-- the gathering list is written -/
theorem Held.upd {vs : List V} {ts : List T} {o : HO} (h : Held c H0 H B φ m D vs ts) (hD : B D) : Held c H0 (upd H D o) B φ m D vs ts := by
  induction h with
  | nil => exact .nil
  | snoc _ h0 hb ne cl ih => exact .snoc ih h0 hb ne (cl.mono pre0 (fun b u nl e => ⟨nl, u, by rw [upd_ne (show b ≠ D from fun z => nl (by rw [z]; exact .inl hD))]; exact e, .inl rfl⟩) fun o e => by rw [upd_ne ne]; exact e)
theorem Held.get {vs : List V} {ts : List T} {i : Nat} {v : V} (h : Held c H0 H B φ m D vs ts) : vs[i]? = some v → ∃ a t, v = .ref a ∧ ts[i]? = some t ∧ H0 a = none ∧ B a ∧ Cel c H (LL B φ m) φ a (.t t) := by
  induction h with
  | nil => intro e; simp at e
  | @snoc vs ts a t hh h0 hb ne cl ih =>
    intro e
    have hl := hh.length
    by_cases hi : i < vs.length
    · rw [List.getElem?_append_left hi] at e
      obtain ⟨a', t', e1, e2, r⟩ := ih e
      exact ⟨a', t', e1, by rw [List.getElem?_append_left (by omega)]; exact e2, r⟩
    · rw [List.getElem?_append_right (by omega)] at e
      have hi0 : i - vs.length = 0 := by
        have := (List.getElem?_eq_some_iff.mp e).1
        simp at this
        omega
      rw [hi0] at e
      cases e
      exact ⟨a, t, rfl, by rw [List.getElem?_append_right (by omega), show i - ts.length = 0 by omega]; rfl, h0, hb, cl⟩
end
section
variable {X : Cx} {W : WX} {tg iter elt : Expr} {scope : Scope} {own : List (Str × Nat)} {pos : Pos} {g : Tg} {e : M U} {it : M Src} {ss : List Nat}
theorem comp_cells {vs : List Nat} {σ : L2.St} {B : Addr → Prop} {H1 : Hp} {φ1 : List Addr} {m1 m2 : Mem} {fr : Fr} {ts ys : List T} {J : It} {Qd : V → Hp → Prop} {c : Cn}
    (S : SOk c B H1 φ1 m1 σ fr) (hJ : ItOk c B H1 φ1 m1 J ts) (hz : ts.length ≤ sizeLine) (hs : ∀ i ∈ ss, i ∈ vs) (hcl : compC g e (wipeT fr vs) ts m1 = some (ys, m2)) (D : Addr) (hD : H1 D = none)
    (hQ : ∀ H' φ' B' av, (∀ a, B a → B' a) → (∀ a, B' a → B a ∨ H1 a = none) → Nxt c B' H1 φ1 m1 H' φ' m2 → H' D = some (.lst av) → Held c H1 H' B' φ' m2 D av ys → Qd (.ref D) H') :
    ∃ W' : Nat → Nat → Hp → Prop, (∃ m, W' 0 m (upd H1 D (.lst []))) ∧ ∀ i m H, W' i m H →
      (J.stop i H ∧ Qd (.ref D) H) ∨ (J.go i H ∧ ∃ Nx : Hp → Prop, (∀ H', Nx H' → ∃ m', m' < m ∧ W' (i + 1) m' H') ∧ ∀ x H', J.yld i H x H' →
        (∃ B φ m fr u fr', SOk c B H' φ m (wipe σ vs) fr ∧ Ru c H' (LL B φ m) φ x u ∧ g u fr = some fr' ∧ ∀ σ2, SOk c B H' φ m σ2 fr' → Chg ss (wipe σ vs) σ2 → wipe σ2 vs = wipe σ vs ∧
          rd rrB c W0 mYes σ2 H' fun b H3 => if b = true then rd rrU c W0 e σ2 H3 fun y H4 => ∃ acc, H4 D = some (.lst acc) ∧ acc.length < sizeLine ∧ Nx (upd H4 D (.lst (acc ++ [y]))) else Nx H3)) := by
  have n0 : Nxt c (Bq B D) H1 φ1 m1 (upd H1 D (.lst [])) φ1 m1 := Nxt.new (.refl S.mem) hD
  let P : Nat → Hp → Prop := fun i H => i ≤ ts.length ∧ ∃ B' φ' m' av at' rest, (∀ a, B a → B' a) ∧ B' D ∧ (∀ a, B' a → B a ∨ H1 a = none) ∧ Nxt c B' H1 φ1 m1 H φ' m' ∧ H D = some (.lst av) ∧ Held c H1 H B' φ' m' D av at' ∧ av.length = i ∧
    compC g e (wipeT fr vs) (ts.drop i) m' = some (rest, m2) ∧ ys = at' ++ rest
  refine ⟨fun i k H => k = ts.length - i ∧ P i H, ⟨_, rfl, Nat.zero_le _, Bq B D, φ1, m1, [], [], ys, fun _ => .inl, .inr rfl, fun a z => z.imp id fun z => by rw [z]; exact hD, n0, upd_same, .nil, rfl, by simpa using hcl, by simp⟩, ?_⟩
  rintro i k H ⟨rfl, hi, B', φ', m', av, at', rest, b1, bD, b2, n, eD, ra, la, hc, ey⟩
  obtain ⟨go, stop, yld⟩ := hJ B' H φ' m' b2 n
  by_cases hlt : i < ts.length
  · refine .inr ⟨go i hlt, P (i + 1), fun H' p => ⟨ts.length - (i + 1), by omega, rfl, p⟩, fun x H2 y => ?_⟩
    obtain ⟨n2, tx, et, rt⟩ := yld i x H2 hlt y
    have ed : ts.drop i = tx :: ts.drop (i + 1) := by
      rw [List.drop_eq_getElem_cons hlt]
      rw [List.getElem?_eq_getElem hlt] at et
      rw [Option.some.inj et]
    rw [ed] at hc
    unfold compC at hc
    cases q : g (.v tx) (wipeT fr vs) with
    | none => rw [q] at hc; cases hc
    | some fr2 =>
      rw [q] at hc
      dsimp only at hc
      have S2 : SOk c B' H2 φ' m' (wipe σ vs) (wipeT fr vs) := ((S.nxtB b2 n).nxt n2).wipe vs
      refine ⟨B', φ', m', wipeT fr vs, .v tx, fr2, S2, .v rt, q, fun σ2 S3 ch => ⟨ch.wipe hs, ?_⟩⟩
      refine ⟨B', φ', m', fr2, S3, .ok true, m', rfl, fun H3 φ3 n3 b eb => ?_⟩
      cases eb
      rw [if_pos rfl]
      cases q2 : e fr2 m' with
      | none => rw [q2] at hc; cases hc
      | some p =>
        obtain ⟨re, m4⟩ := p
        rw [q2] at hc
        match re, hc with
        | .ok (.c j), hc =>
          dsimp only at hc
          split at hc
          · rename_i y hj
            split at hc
            · rename_i hle
              cases q3 : compC g e (wipeT fr vs) (ts.drop (i + 1)) (m4.set j none) with
              | none => rw [q3] at hc; cases hc
              | some p =>
                obtain ⟨ys', m5⟩ := p
                rw [q3] at hc
                cases hc
                refine ⟨B', φ3, m', fr2, S3.nxt n3, .ok (.c j), m4, q2, fun H4 φ4 n4 v rv => ?_⟩
                cases rv with
                | @c a _ hi =>
                  have fa3 : H3 a = none := n4.fr j a (by rw [n3.ok.len]; exact hle) hi
                  have nD : ∀ {Hx : Hp} {φx : List Addr} {mx : Mem}, MOk c B' Hx φx mx → ¬ Lv φx mx D := fun M ⟨j, u, e1, e2⟩ => M.nb j D u e1 e2 bD
                  have k4 : H4 D = some (.lst av) := n4.keep D _ (n3.keep D _ (n2.keep D _ eD (nD n.ok)) (nD n2.ok)) (nD n3.ok)
                  have fa : H1 a = none := (n.trans (n2.trans n3)).fresh fa3
                  have neD : a ≠ D := fun z => by
                    rw [z, n3.keep D _ (n2.keep D _ eD (nD n.ok)) (nD n2.ok)] at fa3
                    cases fa3
                  have n6 : Nxt c (Bq B' a) H3 φ3 m' H4 φ4 (m4.set j none) := n4.lock hi hj
                  have hcel := n4.ok.cel j a (.t y) hi hj
                  rw [← LL.lock n4.ok hi hj] at hcel
                  have n5 := (n.trans (n2.trans n3)).transB fa3 n6
                  have hold : Held c H1 H4 (Bq B' a) φ4 (m4.set j none) D av at' := ((ra.nxt n.ok (fun _ => .inl) (fun _ z => z) n2).nxt n2.ok (fun _ => .inl) (fun _ z => z) n3).nxt n3.ok (fun x z => z.imp id fun z => by rw [z]; exact fa3) (fun _ => .inl) n6
                  refine ⟨av, k4, by omega, hlt, Bq B' a, φ4, m4.set j none, av ++ [.ref a], at' ++ [y], ys', fun x z => .inl (b1 x z), .inl bD, fun x z => z.elim (b2 x) fun z => .inr (by rw [z]; exact fa), n5.updB (.inl bD) (.inl hD), upd_same, (hold.snoc fa (.inr rfl) neD hcel).upd (.inl bD), by simp [la], q3, by simp [ey]⟩
            · cases hc
          · cases hc
  · have e0 : i = ts.length := by omega
    subst e0
    rw [List.drop_length] at hc
    cases hc
    refine .inl ⟨stop, hQ H φ' B' av b1 b2 n eD ?_⟩
    rw [ey, List.append_nil]; exact ra
end
end G

/-! G42: min of a comprehension of new lists, itself a new list. -/
namespace G
open PySem PySem.Spec PySem.W PyProof.Rows L2
/-- the first of the least, by what the trees are as data -/
def minTs (y : T) (ys : List T) : T := ys.foldl (fun a z => if dataLt (toD z) (toD a) then z else a) y
theorem minTs_toD : ∀ (ys : List T) (y : T), toD (minTs y ys) = minD (toD y) (ys.map toD)
  | [], _ => rfl
  | z :: ys, y => by
    unfold minTs minD
    rw [List.foldl_cons, List.map_cons, List.foldl_cons]
    have := minTs_toD ys (if dataLt (toD z) (toD y) then z else y)
    unfold minTs minD at this
    rw [this]
    cases dataLt (toD z) (toD y) <;> rfl
theorem minTs_mem : ∀ (ys : List T) (y : T), minTs y ys ∈ y :: ys
  | [], _ => by simp [minTs]
  | z :: ys, y => by
    have h := minTs_mem ys (if dataLt (toD z) (toD y) then z else y)
    have e : minTs y (z :: ys) = minTs (if dataLt (toD z) (toD y) then z else y) ys := rfl
    rw [e]
    rcases List.mem_cons.mp h with h | h
    · rw [h]; split <;> simp
    · simp [h]
/-- lists of flat tuples: such trees are told by their data -/
def flA : T → Bool
  | .int _ => true
  | .str _ => true
  | _ => false
def flT : T → Bool
  | .tup ts => ts.all flA
  | _ => false
def flL : T → Bool
  | .lst ts => ts.all flT
  | _ => false
theorem toD_A : ∀ {x y : T}, flA x = true → flA y = true → toD x = toD y → x = y
  | .int _, .int _, _, _, e => by injection e with e; rw [e]
  | .str _, .str _, _, _, e => by injection e with e; rw [e]
  | .int _, .str _, _, _, e => by cases e
  | .str _, .int _, _, _, e => by cases e
theorem toDs_inj {p : T → Bool} (h : ∀ {x y : T}, p x = true → p y = true → toD x = toD y → x = y) : ∀ {xs ys : List T}, xs.all p = true → ys.all p = true → toDs xs = toDs ys → xs = ys
  | [], [], _, _, _ => rfl
  | [], _ :: _, _, _, e => by cases e
  | _ :: _, [], _, _, e => by cases e
  | x :: xs, y :: ys, h1, h2, e => by
    rw [List.all_cons, Bool.and_eq_true] at h1 h2
    unfold toDs at e
    injection e with e1 e2
    rw [h h1.1 h2.1 e1, toDs_inj h h1.2 h2.2 e2]
theorem toD_T : ∀ {x y : T}, flT x = true → flT y = true → toD x = toD y → x = y
  | .tup _, .tup _, h1, h2, e => by injection e with e; rw [toDs_inj toD_A h1 h2 e]
theorem toD_L : ∀ {x y : T}, flL x = true → flL y = true → toD x = toD y → x = y
  | .lst _, .lst _, h1, h2, e => by injection e with e; rw [toDs_inj toD_T h1 h2 e]
def alkB (ys : List T) : Bool := ys.all fun x => ys.all fun y => alike (toD x) (toD y)
def okMin (ys : List T) : Bool := ys.all flL && alkB ys && okD 9 (.lst ys)
def mMinN (it : M Src) (g : Tg) (e : M U) (vs : List Nat) : M C := mBind it fun
  | (ts, none) => fun fr m => match compC g e (wipeT fr vs) ts m with
    | some (y :: ys, m') => if okMin (y :: ys) = true then some (.ok (.t (minTs y ys)), m') else none
    | _ => none
  | _ => stuck
section
variable {c : Cn} {H0 H : Hp} {B : Addr → Prop} {φ : List Addr} {m : Mem} {D : Addr}
theorem dpAll_snoc {K : PySem.W.Frag} {H : Hp} {v : V} {d : PyData} (h : Dp K H v d) : ∀ {vs : List V} {ds : List PyData}, DpAll K H vs ds → DpAll K H (vs ++ [v]) (ds ++ [d])
  | _, _, .nil => .cons h .nil
  | _, _, .cons a r => .cons a (dpAll_snoc h r)
theorem Held.dp {n : Nat} {vs : List V} {ts : List T} (h : Held c H0 H B φ m D vs ts) (hk : ∀ t ∈ ts, okD n t = true) : DpAll c.K H vs (ts.map toD) := by
  induction h with
  | nil => exact .nil
  | @snoc vs ts a t _ _ _ _ cl ih =>
    rw [List.map_append]
    exact dpAll_snoc (Vw.dp (.inr ⟨a, φ, .t t, rfl, rfl, cl⟩) (hk t (by simp))) (ih fun x hx => hk x (by simp [hx]))
theorem Nxt.less {B' : Addr → Prop} {H' : Hp} {φ' : List Addr} {m' : Mem} (n : Nxt c B H φ m H' φ' m') (h : ∀ a, B' a → B a) : Nxt c B' H φ m H' φ' m' :=
  ⟨n.pre, n.keep, n.sub, n.trk, n.fr, n.ok.mono (fun a _ _ z => h a z) (fun _ _ e => e) fun a z => n.ok.bt a (h a z)⟩
end
section
variable {X : Cx} {W : WX}
def rMinL (X : Cx) : List V → Hp → VK → Prop := fun xs H Q => ∃ (D : Addr) (vs : List V) (d : PyData) (ds : List PyData), xs = [.ref D] ∧ H D = some (.lst vs) ∧ DpAll X.K H vs (d :: ds) ∧ AlikeAll (d :: ds) ∧ PyData.depthAll (d :: ds) ≤ 60 ∧
  ∀ (i : Nat) (v : V), vs[i]? = some v → (d :: ds)[i]? = some (minD d ds) → Q v H
theorem cr_minLs (hc : X.calm = true) (hu : X.A.units + 64 < cLine) : CallR X (.builtin "min") (rMinL X) := by
  intro pins s σ H xs us Q I r h
  obtain ⟨D, vs, d, ds, rfl, hD, dp, al, dep, q⟩ := h
  obtain ⟨u, rfl, ru⟩ := vals1 r
  cases (show u = Value.ref D from ru)
  obtain ⟨_, its, n, rv, there⟩ := (show ObjOk X.prog X.w H s.heap D (.lst vs) from I.hok D _ hD)
  obtain ⟨as, rs⟩ := Dp.readsAll I (d :: ds) vs its dp rv
  refine min_list_data (vs := its.toArray) (I.ok.hd hc) ⟨_, there, rfl, n, rfl⟩ (by simpa using rs) al (by omega) fun i v h' tk bs hi rm keep => ?_
  have hi' : its[i]? = some v := by simpa using hi
  have lt : i < vs.length := by rw [Paired.length rv]; exact (List.getElem?_eq_some_iff.mp hi').1
  obtain ⟨b, hb, rb⟩ := paired_get rv (List.getElem?_eq_getElem lt)
  rw [hi'] at hb; cases hb
  refine ⟨vs[i], H, I.kept keep, rb, q i _ (List.getElem?_eq_getElem lt) ?_⟩
  obtain ⟨bs', r1, l1, _⟩ := readsAll_atA (vs := its.toArray) (by simpa using rs) i v hi
  have e := (reads_det (h' := h') (fun b o e _ => keep b o e) r1 rm).1
  rw [e, List.getD_eq_getElem?_getD, List.getElem?_eq_getElem l1]
  rfl
variable {tg iter elt : Expr} {scope : Scope} {own : List (Str × Nat)} {p pos pos' : Pos} {g : Tg} {e : M U} {it : M Src} {ss : List Nat}
theorem e_minN (vs : List Nat) (hc : X.calm = true) (hu : X.A.units + 64 < cLine) (hN : X.N.Nodup) (hgl : Gl X "min") (hm : X.mg "min" = none) (hi : PI X tg iter (rdIz X W it)) (ok : BlkOk X.N X.env.scope scope own)
    (hg : ∀ s H C cl fp, PG (Bk X scope s H C cl fp) tg (rdG X ss g)) (ht : ∀ s H C cl fp, PTs (Bk X scope s H C cl fp) [] (rdT X W0 mYes)) (he : ∀ s H C cl fp, PE (Bk X scope s H C cl fp) elt (rdE X W0 e)) (hv : own.map (·.2) = vs) (hss : ∀ i ∈ ss, i ∈ vs)
    (hs : ∀ x, foldedSetIterable iter X.env x = pure x := by intro _; rfl)
    (h1 : starEach [.ListComp elt [⟨tg, iter, [], 0⟩] scope pos'] X.env = (false, eval (.ListComp elt [⟨tg, iter, [], 0⟩] scope pos') X.env) :: starEach [] X.env := by rfl) :
    PE X (.Call (.Name "min" p) [.ListComp elt [⟨tg, iter, [], 0⟩] scope pos'] [] pos) (rdN X W (mMinN it g e vs)) := by
  subst hv
  refine PE.wk (pe_callB (cr_minLs hc hu) hgl hm bb_min (pa_cons (pe_lc hc hN hi ok hg ht he hs) pa_nil h1) (by decide) (by decide) h1 (by rfl)) fun σ H Q ⟨B, φ, m, fr, S, r, m', e1, h⟩ => ?_
  refine ⟨B, φ, m, fr, S, ?_⟩
  unfold mMinN mBind at e1
  cases q : it fr m with
  | none => rw [q] at e1; cases e1
  | some p =>
    obtain ⟨r1, m1⟩ := p
    rw [q] at e1
    refine ⟨r1, m1, rfl, fun H1 φ1 n1 => ?_⟩
    match r1, e1 with
    | .error x, e1 => cases e1; exact h H1 φ1 n1
    | .ok (ts, some i), e1 => cases e1
    | .ok (ts, none), e1 =>
      intro J hJ hz D hD
      dsimp only at e1
      cases q2 : compC g e (wipeT fr (own.map (·.2))) ts m1 with
      | none => rw [q2] at e1; cases e1
      | some p =>
        obtain ⟨zs, m2⟩ := p
        rw [q2] at e1
        match zs, q2, e1 with
        | [], _, e1 => cases e1
        | y :: ys, q2, e1 =>
          dsimp only at e1
          split at e1
          · rename_i hok
            cases e1
            unfold okMin at hok
            rw [Bool.and_eq_true, Bool.and_eq_true] at hok
            obtain ⟨⟨fl, al⟩, od⟩ := hok
            have od8 : ∀ t ∈ y :: ys, okD 8 t = true := List.all_eq_true.mp (by simpa only [okD] using od)
            obtain ⟨W', h0, hW⟩ := comp_cells (S.nxt n1) hJ hz hss q2 D hD (Qd := fun x H2 => rMinL X [x] H2 Q) fun H' φ' B' av b1 b2 n2 eD held => by
              refine ⟨D, av, toD y, ys.map toD, rfl, eD, ?_, ⟨?_, ?_⟩, ?_, fun i v hv hmin => ?_⟩
              · exact held.dp (n := 8) od8
              · intro a ha b hb
                rw [← List.map_cons] at ha hb
                obtain ⟨a', ha', rfl⟩ := List.mem_map.mp ha
                obtain ⟨b', hb', rfl⟩ := List.mem_map.mp hb
                unfold alkB at al
                exact List.all_eq_true.mp (List.all_eq_true.mp al a' ha') b' hb'
              · intro a ha
                rw [← List.map_cons] at ha
                obtain ⟨a', ha', rfl⟩ := List.mem_map.mp ha
                have f := List.all_eq_true.mp fl a' ha'
                cases a' <;> first | (intro z; cases z; done) | (cases f)
              · have := (okD_lay 9 (.lst (y :: ys)) od).2
                simp only [toD, PyData.depth] at this
                rw [toDs_map] at this
                have e2 : (y :: ys).map toD = toD y :: ys.map toD := rfl
                rw [e2] at this
                omega
              · obtain ⟨a, t, rfl, ht, fa, ba, cl⟩ := held.get hv
                have et : toD t = minD (toD y) (ys.map toD) := by
                  rw [← List.map_cons, List.getElem?_map, ht] at hmin
                  exact Option.some.inj hmin
                have tm : t = minTs y ys := toD_L (List.all_eq_true.mp fl t (List.mem_of_getElem? ht)) (List.all_eq_true.mp fl _ (minTs_mem ys y)) (by rw [et, minTs_toD])
                have sub : ∀ x, Bq B a x → B' x := fun x z => z.elim (b1 x) fun z => by rw [z]; exact ba
                rw [← tm] at h
                exact h H' φ' a (n1.fresh fa) (n1.transB fa (n2.less sub)) (cl.mono pre0 (fun b o nl e => ⟨fun z => nl (z.elim (fun z => .inl (sub b z)) .inr), o, e, .inl rfl⟩) fun _ e => e)
            exact ⟨W', h0, hW⟩
          · cases e1
end
end G

/-! G43: abs, list(range(n)), l.clear(), l.count(x), len(set(l)) of unlike ints. -/
namespace G
open PySem PySem.Spec PySem.W PyProof.Rows L2
section
variable {X : Cx} {W : WX} {e o : Expr} {f : M U} {p p2 q pos apos cpos : Pos}
def absP : List T → Option T
  | [.int i] => some (.int (if i < 0 then -i else i))
  | _ => none
theorem cr_absT : CallR X (.builtin "abs") (rN (cn X) (pvN absP)) := cr_T fun pins s σ H xs us Q B φ m ts t inv r M vx e hq => by
  unfold absP at e
  split at e
  · rename_i i
    cases e
    cases vx with
    | cons v vs =>
      cases vs
      cases v.int
      exact call_abs pins s σ H _ us Q inv r ⟨i, rfl, hq H (.refl M) _ (.int _)⟩
  · cases e
theorem bb_abs' : bootBuiltins "abs" = some (.builtin "abs") := by decide +kernel
/-! ### list(range(n)) -/
def rgT (n : Int) : List T := (List.range n.toNat).map fun i => .int (i : Nat)
def mListRg (f : M U) : M C := mBind f fun u _ m => match u with
  | .v (.int n) => if 0 ≤ n ∧ n ≤ 1000 then some (.ok (.t (.lst (rgT n))), m) else none
  | _ => none
theorem ints_rel {c : Cn} {H : Hp} {L : Addr → Prop} : ∀ ns : List Int, Rps c H L (ns.map V.int) (ns.map T.int)
  | [] => .nil
  | n :: ns => .cons (.int n) (ints_rel ns)
theorem e_listRg (hc : X.calm = true) (hg : Gl X "list") (hm : X.mg "list" = none) (hg2 : Gl X "range") (hm2 : X.mg "range" = none) (he : PE X e (rdE X W f))
    (h1 : starEach [e] X.env = (false, eval e X.env) :: starEach [] X.env := by rfl)
    (h2 : starEach [.Call (.Name "range" p2) [e] [] q] X.env = (false, eval (.Call (.Name "range" p2) [e] [] q) X.env) :: starEach [] X.env := by rfl) :
    PE X (.Call (.Name "list" p) [.Call (.Name "range" p2) [e] [] q] [] pos) (rdN X W (mListRg f)) := by
  refine PE.wk (pe_listRg hc hg hm (prg_1 hg2 hm2 he h1) h2) fun σ H Q ⟨B, φ, m, fr, S, r, m', e1, h⟩ => ⟨B, φ, m, fr, S, ?_⟩
  unfold mListRg mBind at e1
  cases qf : f fr m with
  | none => rw [qf] at e1; cases e1
  | some pq =>
    obtain ⟨r1, m1⟩ := pq
    rw [qf] at e1
    refine ⟨r1, m1, rfl, fun H1 φ1 n1 => ?_⟩
    match r1, e1 with
    | .error x, e1 => cases e1; exact h H1 φ1 n1
    | .ok (.c _), e1 => cases e1
    | .ok (.v (.int n)), e1 =>
      dsimp only at e1
      split at e1
      · rename_i hn
        cases e1
        intro v rv
        cases rv with
        | v rv =>
          cases rv
          refine ⟨n, rfl, RgOk.of_le (Int.le_refl 0) (by omega) (by omega) hn.1, fun D hD => ?_⟩
          have er : rgV 0 n = ((List.range n.toNat).map fun i => ((i : Nat) : Int)).map V.int := by
            unfold rgV
            rw [List.map_map, Int.sub_zero]
            exact List.map_congr_left fun i _ => by simp
          have et : rgT n = ((List.range n.toNat).map fun i => ((i : Nat) : Int)).map T.int := by unfold rgT; rw [List.map_map]; rfl
          refine h _ φ1 D (n1.fresh hD) (n1.new hD) ⟨_, upd_same, ?_⟩
          rw [er, et]
          exact ints_rel _
      · cases e1
/-! ### l.clear() -/
def pClear : U → List U → Mem → Option (U × Mem) := fun u us m => match u, us with
  | .c i, [] => match m[i]? with
    | some (some (.t (.lst _))) => some (.v .non, m.set i (some (.t (.lst []))))
    | _ => none
  | _, _ => none
theorem mt_clearT : MtR X "list.clear" (rMt (cn X) pClear) := fun pins s σ H x xs v us Q inv r1 r2 ⟨B, φ, m, u, ws, M, ru, rus, w, m', e, h⟩ => by
  unfold pClear at e
  split at e
  · rename_i i
    split at e
    · rename_i ts hm
      cases e
      cases ru with
      | c hi =>
        cases rus
        obtain ⟨vs, ea, rs⟩ := M.lst hi hm
        exact mt_clear pins s σ H _ _ v us Q inv r1 r2 ⟨_, vs, rfl, rfl, ea, h _ φ (Nxt.write M hi hm ⟨_, upd_same, .nil⟩) _ (.v .non)⟩
    · cases e
  · cases e
/-- a method of a list without arguments -/
def mMtL0 (p : U → List U → Mem → Option (U × Mem)) (f : M U) : M U := mBind f fun u _ m => if isLst m u then mLift (p u []) [] m else none
theorem e_mtL0 {name : Str} {id : String} {pr : U → List U → Mem → Option (U × Mem)} (slot : Slot "list" name id) (hty : typeOf (.builtin id) = pure (.type "method_descriptor")) (hm : MtR X id (rMt (cn X) pr)) (ho : PE X o (rdE X W f))
    (hb : attributeBase o name X.env (eval o X.env) = eval o X.env := by rfl) (h3 : (apos.endLine == cpos.line) = true := by rfl) :
    PE X (.Call (.Attribute o name apos) [] [] cpos) (rdE X W (mMtL0 pr f)) := by
  refine PE.wk (pe_bm0 PySem.F.plainAttrs_list slot hty hm ho hb h3) fun σ H Q h => ?_
  obtain ⟨B, φ, m, fr, S, h⟩ := rd.bind (R := rrU) h
  refine ⟨B, φ, m, fr, S, h.mono fun x H1 ⟨B, φ1, m1, fr, u, S1, ru, r, m', e1, h1⟩ => ?_⟩
  split at e1
  · rename_i hl
    unfold isLst at hl
    split at hl
    · rename_i ts hd
      obtain ⟨a, vs, rfl, ea, rs⟩ := (ru.vw S1.mem hd).lst
      exact ⟨.inl ⟨rfl, vs, .of ea⟩, B, φ1, m1, u, [], S1.mem, ru, .nil, (show rx rrU (cn X) W (mLift (pr u []) [] m1) B H1 φ1 m1 σ Q from ⟨r, m', e1, h1⟩).lift⟩
    · cases hl
  · cases e1
end
end G

/-! G44: l.count(x), len(set(l)) of unlike ints. -/
namespace G
open PySem PySem.Spec PySem.W PyProof.Rows L2
section
variable {X : Cx} {W : WX} {e o : Expr} {f : M U} {p p2 q pos apos cpos : Pos}
/-! ### l.count(x) -/
def cntP (ts : List T) (t : T) : Option T := if (ts.all (okD 9) && okD 9 t && PyData.plainAll (toDs ts) && (toD t).plain) = true then some (.int ((ts.countP fun y => eqT y t : Nat) : Int)) else none
def pCount : U → List U → Mem → Option (U × Mem) := fun u us m => match deref m u, us with
  | some (.lst ts), [w] => match deref m w with
    | some t => match cntP ts t with
      | some r => some (.v r, m)
      | none => none
    | none => none
  | _, _ => none
theorem depthAll_le : ∀ (n : Nat) (ts : List T), ts.all (okD n) = true → PyData.depthAll (toDs ts) ≤ n := fun n ts h => by
  have := (okD_lay (n + 1) (.lst ts) (by simpa only [okD] using h)).2
  simp only [toD, PyData.depth] at this
  omega
theorem mt_countT (hu : X.A.units + 64 < cLine) : MtR X "list.count" (rMt (cn X) pCount) := fun pins s σ H x xs v us Q inv r1 r2 ⟨B, φ, m, u, ws, M, ru, rus, w, m', e, h⟩ => by
  unfold pCount at e
  split at e
  · rename_i ts w' hd
    split at e
    · rename_i t ht
      split at e
      · rename_i r hr
        cases e
        unfold cntP at hr
        split at hr
        · rename_i ok
          cases hr
          simp only [Bool.and_eq_true] at ok
          obtain ⟨⟨⟨o1, o2⟩, p1⟩, p2⟩ := ok
          cases rus with
          | @cons y _ _ _ ry rn =>
            cases rn
            obtain ⟨a, vs, rfl, ea, rs⟩ := (ru.vw M hd).lst
            cases (show v = Value.ref a from r1)
            obtain ⟨yv, rfl, ryv⟩ := vals1 r2
            obtain ⟨its, rv, pl, hz⟩ := inv.list (.of ea)
            have dps : DpAll X.K H vs (toDs ts) := rs.dp (n := 9) fun t ht => List.all_eq_true.mp o1 t ht
            obtain ⟨as, rsd⟩ := Dp.readsAll inv _ vs its dps rv
            obtain ⟨bs, rxd⟩ := Dp.reads inv _ y yv ((ry.vw M ht).dp o2) ryv
            have dep := depthAll_le 9 ts o1
            refine PySem.SeqAt.count_list_data (vs := its.toArray) pl.isList (by simpa using rsd) rxd p1 p2 (by have := Nat.min_le_left (PyData.depthAll (toDs ts)) (toD t).depth; omega) ?_
            refine ⟨.int _, H, inv.tok _, ⟨_, rfl⟩, ?_⟩
            have ec : (toDs ts).countP (fun y => PyData.eqv y (toD t)) = ts.countP fun y => eqT y t := by
              rw [toDs_map, List.countP_map]; rfl
            rw [ec]
            exact h H φ (.refl M) _ (.v (.int _))
        · cases hr
      · cases e
    · cases e
  · cases e
/-! ### len(set(l)) -/
def lenSetP : T → Option T
  | .lst ts => match allI ts with
    | some ns => if ns.length < 64 ∧ ns.Nodup then some (.int (ns.length : Nat)) else none
    | none => none
  | _ => none
theorem e_lenSetI (hc : X.calm = true) (hg : Gl X "len") (hm : X.mg "len" = none) (hg2 : Gl X "set") (hm2 : X.mg "set" = none) (he : PE X e (rdE X W f)) (na : starEach [e] X.env = (false, eval e X.env) :: starEach [] X.env := by rfl) :
    PE X (.Call (.Name "len" p) [.Call (.Name "set" p2) [e] [] q] [] pos) (rdE X W (mUn (pv1 lenSetP) f)) := by
  refine PE.wk (pe_lenSetI hc hg hm hg2 hm2 he na) fun σ H Q h => ?_
  obtain ⟨B, φ, m, fr, S, h⟩ := rd.un h
  refine ⟨B, φ, m, fr, S, h.mono fun y H1 ⟨B, φ1, m1, v, M1, ru, h1⟩ => ?_⟩
  obtain ⟨x', t, vw, e1, hq⟩ := h1.pv1 M1 ru
  unfold lenSetP at e1
  split at e1
  · rename_i ts
    split at e1
    · rename_i ns hns
      split at e1
      · rename_i ok
        cases e1
        obtain ⟨a, vs, rfl, ea, rs⟩ := vw.lst
        exact ⟨a, ns, rfl, by rw [← (allI_rel rs hns).1]; exact .of ea, ok.1, ok.2, hq H1 (.refl M1) _ (.int _)⟩
      · cases e1
    · cases e1
  · cases e1
/-! ### min of a list of lists, a tree -/
def minDP : List T → Option T
  | [.lst (y :: ys)] => if okMin (y :: ys) = true then some (minTs y ys) else none
  | _ => none
theorem cr_minDT (hc : X.calm = true) (hu : X.A.units + 64 < cLine) : CallR X (.builtin "min") (rN (cn X) (pvN minDP)) := cr_T fun pins s σ H xs us Q B φ m ts t inv r M vx e hq => by
  unfold minDP at e
  split at e
  · rename_i y ys
    split at e
    · rename_i hok
      cases e
      unfold okMin at hok
      rw [Bool.and_eq_true, Bool.and_eq_true] at hok
      obtain ⟨⟨fl, al⟩, od⟩ := hok
      have od8 : ∀ t ∈ y :: ys, okD 8 t = true := List.all_eq_true.mp (by simpa only [okD] using od)
      cases vx with
      | cons v vs =>
        cases vs
        obtain ⟨a, vs, rfl, ea, rs⟩ := v.lst
        have dps := rs.dp (n := 8) od8
        rw [toDs_map] at dps
        refine cr_minLs hc hu pins s σ H _ us Q inv r ⟨a, vs, toD y, ys.map toD, rfl, ea, dps, ⟨fun x hx z hz => ?_, fun x hx => ?_⟩, ?_, fun i v hv hmin => ?_⟩
        · rw [← List.map_cons] at hx hz
          obtain ⟨x', hx', rfl⟩ := List.mem_map.mp hx
          obtain ⟨z', hz', rfl⟩ := List.mem_map.mp hz
          unfold alkB at al
          exact List.all_eq_true.mp (List.all_eq_true.mp al x' hx') z' hz'
        · rw [← List.map_cons] at hx
          obtain ⟨x', hx', rfl⟩ := List.mem_map.mp hx
          have f := List.all_eq_true.mp fl x' hx'
          cases x' <;> first | (intro z; cases z; done) | (cases f)
        · have := depthAll_le 8 (y :: ys) (List.all_eq_true.mpr od8)
          rw [toDs_map] at this
          have e2 : (y :: ys).map toD = toD y :: ys.map toD := rfl
          rw [e2] at this
          omega
        · obtain ⟨t, ht, rt⟩ := rs.getV hv
          have et : toD t = minD (toD y) (ys.map toD) := by
            rw [← List.map_cons, List.getElem?_map, ht] at hmin
            exact Option.some.inj hmin
          have tm : t = minTs y ys := toD_L (List.all_eq_true.mp fl t (List.mem_of_getElem? ht)) (List.all_eq_true.mp fl _ (minTs_mem ys y)) (by rw [et, minTs_toD])
          rw [← tm] at hq
          exact hq H (.refl M) _ rt
    · cases e
  · cases e
end
end G

/-! G45: x or y, x a text or None. -/
namespace G
open PySem PySem.Spec PySem.W PyProof.Rows L2
/-- the truth of None and of a text -/
def truS : T → Option Bool
  | .non => some false
  | .str x => if x.length ≤ sizeLine then some ((x.length : Int) != 0) else none
  | _ => none
def mOrV (f g : M U) : M U := mBind f fun u fr m => match u with
  | .v t => match truS t with
    | some true => some (.ok (.v t), m)
    | some false => g fr m
    | none => none
  | _ => none
section
variable {X : Cx} {W : WX} {a b : Expr} {es : List Expr} {f g : M U} {pos : Pos}
theorem e_orV (ha : PE X a (rdE X W f)) (hb : PE X (.BoolOp .Or (b :: es) pos) (rdE X W g)) : PE X (.BoolOp .Or (a :: b :: es) pos) (rdE X W (mOrV f g)) := by
  refine PE.wk (pe_orT ha hb) fun σ H Q h => ?_
  obtain ⟨B, φ, m, fr, S, h0⟩ := rd.bind (R := rrU) h
  refine ⟨B, φ, m, fr, S, h0.mono fun v H1 ⟨B, φ1, m1, fr, u, S1, ru, r, m', e, h1⟩ => ?_⟩
  cases ru with
  | c _ => cases e
  | @v _ t rt =>
    dsimp only at e
    split at e
    · rename_i q
      cases e
      match t, rt, q with
      | .str x, .str _, q =>
        dsimp only [truS] at q
        split at q
        · rename_i hz
          exact ⟨true, ⟨hz, (Option.some.inj q).symm⟩, by rw [if_pos rfl]; exact h1 H1 φ1 (.refl S1.mem) _ (.v (.str x))⟩
        · cases q
    · rename_i q
      match t, rt, q with
      | .non, .non, q => exact ⟨false, rfl, by rw [if_neg Bool.false_ne_true]; exact ⟨B, φ1, m1, fr, S1, r, m', e, h1⟩⟩
      | .str x, .str _, q =>
        dsimp only [truS] at q
        split at q
        · rename_i hz
          exact ⟨false, ⟨hz, (Option.some.inj q).symm⟩, by rw [if_neg Bool.false_ne_true]; exact ⟨B, φ1, m1, fr, S1, r, m', e, h1⟩⟩
        · cases q
    · cases e
end
end G

/-! G46: steps by continuations for what G41..G45 brought. -/
namespace G
open PySem L2
section
variable {fr : Fr} {m : Mem} {x : Xc}
def kOrV (g : M U) (fr : Fr) (Q : QE U) : QE U
  | .ok (.v t), m => wO (truS t) fun b => if b = true then Q (.ok (.v t)) m else wE g fr m Q
  | .ok (.c _), _ => False
  | .error x, m => Q (.error x) m
@[simp] theorem kOrV_non {g : M U} {Q : QE U} : kOrV g fr Q (.ok (.v .non)) m ↔ wE g fr m Q := by
  show wO (some false) _ ↔ _
  rw [wO_some]; simp
theorem kOrV_str {g : M U} {Q : QE U} {y : Str} (h1 : y.length ≤ sizeLine) (h2 : y.length ≠ 0) : kOrV g fr Q (.ok (.v (.str y))) m ↔ Q (.ok (.v (.str y))) m := by
  have e : truS (.str y) = some true := by
    show (if y.length ≤ sizeLine then some ((y.length : Int) != 0) else none) = some true
    rw [if_pos h1]
    have : ((y.length : Int) != 0) = true := by simpa using h2
    rw [this]
  show wO (truS (.str y)) _ ↔ _
  rw [e, wO_some]; simp
@[simp] theorem kOrV_er {g : M U} {Q : QE U} : kOrV g fr Q (.error x) m = Q (.error x) m := rfl
@[simp] theorem w_orV {f g : M U} {Q : QE U} : wE (mOrV f g) fr m Q ↔ wE f fr m (kOrV g fr Q) := by
  unfold wE mOrV mBind
  cases f fr m with
  | none => simp only [wR_none]
  | some p =>
    obtain ⟨r, m1⟩ := p
    cases r with
    | error x => simp only [wR_some, kOrV]
    | ok u =>
      cases u with
      | c i => simp only [wR_some, wR_none, kOrV]
      | v t =>
        simp only [wR_some, kOrV]
        cases truS t with
        | none => simp only [wR_none, wO_none]
        | some b => cases b <;> simp only [wR_some, wO_some, if_true, Bool.false_eq_true, if_false] <;> rfl
def kRg (Q : QE C) : QE U
  | .ok (.v (.int n)), m => (0 ≤ n ∧ n ≤ 1000) ∧ Q (.ok (.t (.lst (rgT n)))) m
  | .ok _, _ => False
  | .error x, m => Q (.error x) m
@[simp] theorem kRg_ok {Q : QE C} {n : Int} : kRg Q (.ok (.v (.int n))) m ↔ (0 ≤ n ∧ n ≤ 1000) ∧ Q (.ok (.t (.lst (rgT n)))) m := Iff.rfl
@[simp] theorem kRg_er {Q : QE C} : kRg Q (.error x) m = Q (.error x) m := rfl
@[simp] theorem w_listRg {f : M U} {Q : QE C} : wE (mListRg f) fr m Q ↔ wE f fr m (kRg Q) := by
  unfold wE mListRg mBind
  cases f fr m with
  | none => simp only [wR_none]
  | some p =>
    obtain ⟨r, m1⟩ := p
    cases r with
    | error x => simp only [wR_some, kRg]
    | ok u =>
      cases u with
      | c i => simp only [wR_some, wR_none, kRg]
      | v t =>
        cases t <;> simp only [wR_some, wR_none, kRg]
        rename_i n
        by_cases h : 0 ≤ n ∧ n ≤ 1000
        · rw [if_pos h, wR_some]; exact ⟨fun z => ⟨h, z⟩, fun z => z.2⟩
        · rw [if_neg h, wR_none]; exact ⟨False.elim, fun z => h z.1⟩
def kMt0 (p : U → List U → Mem → Option (U × Mem)) (Q : QE U) : QE U := onOk Q fun u m' => isLst m' u = true ∧ wO (p u [] m') (kU Q)
@[simp] theorem kMt0_ok {p : U → List U → Mem → Option (U × Mem)} {Q : QE U} {u : U} : kMt0 p Q (.ok u) m ↔ isLst m u = true ∧ wO (p u [] m) (kU Q) := Iff.rfl
@[simp] theorem kMt0_er {p : U → List U → Mem → Option (U × Mem)} {Q : QE U} : kMt0 p Q (.error x) m = Q (.error x) m := rfl
@[simp] theorem w_mtL0 {p : U → List U → Mem → Option (U × Mem)} {f : M U} {Q : QE U} : wE (mMtL0 p f) fr m Q ↔ wE f fr m (kMt0 p Q) := by
  unfold wE mMtL0 mBind
  cases f fr m with
  | none => simp only [wR_none]
  | some pr =>
    obtain ⟨r, m1⟩ := pr
    cases r with
    | error x => simp only [wR_some]; rfl
    | ok u =>
      simp only [wR_some, kMt0_ok]
      cases isLst m1 u with
      | false => simp [wR_none]
      | true =>
        simp only [if_true, true_and]
        unfold mLift
        cases p u [] m1 with
        | none => simp only [wR_none, wO_none]
        | some q => obtain ⟨v, m2⟩ := q; simp only [wR_some, wO_some]; rfl
def kMin (g : Tg) (e : M U) (vs : List Nat) (fr : Fr) (Q : QE C) : QE Src
  | .ok (ts, none), m => ∃ y ys m', compC g e (wipeT fr vs) ts m = some (y :: ys, m') ∧ okMin (y :: ys) = true ∧ Q (.ok (.t (minTs y ys))) m'
  | .ok _, _ => False
  | .error x, m => Q (.error x) m
@[simp] theorem kMin_ok {g : Tg} {e : M U} {vs : List Nat} {Q : QE C} {ts : List T} : kMin g e vs fr Q (.ok (ts, none)) m ↔ ∃ y ys m', compC g e (wipeT fr vs) ts m = some (y :: ys, m') ∧ okMin (y :: ys) = true ∧ Q (.ok (.t (minTs y ys))) m' := Iff.rfl
@[simp] theorem kMin_er {g : Tg} {e : M U} {vs : List Nat} {Q : QE C} : kMin g e vs fr Q (.error x) m = Q (.error x) m := rfl
@[simp] theorem w_minN {it : M Src} {g : Tg} {e : M U} {vs : List Nat} {Q : QE C} : wE (mMinN it g e vs) fr m Q ↔ wE it fr m (kMin g e vs fr Q) := by
  unfold wE mMinN mBind
  cases it fr m with
  | none => simp only [wR_none]
  | some p =>
    obtain ⟨r, m1⟩ := p
    cases r with
    | error x => simp only [wR_some, kMin]
    | ok src =>
      obtain ⟨ts, o⟩ := src
      cases o with
      | some i => simp only [wR_some, kMin]; exact wR_none
      | none =>
        simp only [wR_some, kMin]
        cases q : compC g e (wipeT fr vs) ts m1 with
        | none => simp [wR_none]
        | some p =>
          obtain ⟨zs, m2⟩ := p
          cases zs with
          | nil => simp [wR_none]
          | cons y ys =>
            by_cases h : okMin (y :: ys) = true
            · simp only [if_pos h, wR_some]
              exact ⟨fun z => ⟨y, ys, m2, rfl, h, z⟩, fun ⟨_, _, _, e, _, z⟩ => by cases e; exact z⟩
            · simp only [if_neg h, wR_none]
              exact ⟨False.elim, fun ⟨_, _, _, e, h', _⟩ => by cases e; exact h h'⟩
end
end G

/-! G47: a list or a tuple so many times; two lists put together as a new list. -/
namespace G
open PySem PySem.Spec PyProof.Rows L2
def repT (ts : List T) (k : Int) : List T := (List.replicate k.toNat ts).flatten
def mulA : T → T → Option T
  | .lst ts, .int k => if -(2 ^ 63) ≤ k ∧ k < 2 ^ 63 ∧ ts.length * k.toNat ≤ sizeLine then some (.lst (repT ts k)) else none
  | .tup ts, .int k => if ts ≠ [] ∧ 2 ≤ k ∧ k ≤ 1000 ∧ ts.length ≤ 1000 then some (.tup (repT ts k)) else none
  | .int a, .int b => mulT (.int a) (.int b)
  | _, _ => none
theorem Rps.rep {c : Cn} {H : Hp} {L : Addr → Prop} {vs : List V} {ts : List T} (r : Rps c H L vs ts) : ∀ n : Nat, Rps c H L (List.replicate n vs).flatten (List.replicate n ts).flatten
  | 0 => .nil
  | n + 1 => by
    rw [List.replicate_succ, List.replicate_succ, List.flatten_cons, List.flatten_cons]
    exact r.append (r.rep n)
section
variable {X : Cx} {W : WX} {a b : Expr} {f g : M U} {pos : Pos}
theorem op_mulA : OpR X (binaryOp .Mult) (r2 (cn X) (pv2 mulA)) := op_T fun pins s σ H x y v u Q B φ m x' y' t inv r1 r2 M vx vy e hq => by
  unfold mulA at e
  split at e
  · rename_i ts k
    split at e
    · rename_i hc
      cases e
      obtain ⟨p, vs, rfl, e1, r3⟩ := vx.lst
      cases vy.int
      refine op_rep pins s σ H _ _ v u Q inv r1 r2 ⟨p, k, vs, rfl, rfl, e1, hc.1, hc.2.1, by rw [r3.length]; exact hc.2.2, fun n hn => ?_⟩
      exact hq _ (Nxt.new (.refl M) hn).unB _ (.lst (M.noL hn) upd_same ((r3.rep _).new hn).unB)
    · cases e
  · rename_i ts k
    split at e
    · rename_i hc
      cases e
      obtain ⟨p, vs, rfl, e1, r3⟩ := vx.tup
      cases vy.int
      have hv : vs ≠ [] := fun z => hc.1 (by
        have := r3.length
        rw [z] at this
        exact List.eq_nil_of_length_eq_zero this.symm)
      refine op_repT pins s σ H _ _ v u Q inv r1 r2 ⟨p, k, vs, rfl, rfl, .of e1, hv, hc.2.1, hc.2.2.1, by rw [r3.length]; exact hc.2.2.2, fun n hn => ?_⟩
      obtain ⟨n2, rt⟩ := Nxt.tup (x := .non) (t := .non) (.refl M) hn (r3.rep k.toNat)
      exact hq _ n2 _ rt
    · cases e
  · rename_i i j
    simp only [mulT] at e
    split at e
    · rename_i hc
      cases e
      cases vx.int
      cases vy.int
      exact op_mul pins s σ H _ _ v u Q inv r1 r2 ⟨_, _, rfl, rfl, hc, hq H (.refl M) _ (.int _)⟩
    · cases e
  · cases e
def catL (m : Mem) (u w : U) : Option (List T) := match deref m u, deref m w with
  | some (.lst xs), some (.lst ys) => if xs.length + ys.length ≤ sizeLine then some (xs ++ ys) else none
  | _, _ => none
def mCatN (f g : M U) : M C := mBind f fun u => mBind g fun w _ m => match catL m u w with
  | some ts => some (.ok (.t (.lst ts)), m)
  | none => none
theorem e_catN (ha : PE X a (rdE X W f)) (hb : PE X b (rdE X W g)) : PE X (.BinOp a .Add b pos) (rdN X W (mCatN f g)) := by
  refine PE.wk (pe_op op_cat ha hb) fun σ H Q ⟨B, φ, m, fr, S, r, m', e1, h⟩ => ⟨B, φ, m, fr, S, ?_⟩
  unfold mCatN mBind at e1
  cases q : f fr m with
  | none => rw [q] at e1; cases e1
  | some pq =>
    obtain ⟨r1, m1⟩ := pq
    rw [q] at e1
    refine ⟨r1, m1, rfl, fun H1 φ1 n1 => ?_⟩
    cases r1 with
    | error z => cases e1; exact h H1 φ1 n1
    | ok u =>
      intro v ru
      dsimp only at e1
      refine ⟨B, φ1, m1, fr, S.nxt n1, ?_⟩
      cases q1 : g fr m1 with
      | none => rw [q1] at e1; cases e1
      | some pq =>
        obtain ⟨r2, m2⟩ := pq
        rw [q1] at e1
        refine ⟨r2, m2, rfl, fun H2 φ2 n2 => ?_⟩
        cases r2 with
        | error z => cases e1; exact h H2 φ2 (n1.trans n2)
        | ok w =>
          intro y rw'
          dsimp only at e1
          cases q2 : catL m2 u w with
          | none => rw [q2] at e1; cases e1
          | some ts =>
            rw [q2] at e1
            cases e1
            unfold catL at q2
            split at q2
            · rename_i xs ys d1 d2
              split at q2
              · rename_i hz
                cases q2
                obtain ⟨p, vs, rfl, e3, r3⟩ := ((ru.nxt n2).vw n2.ok d1).lst
                obtain ⟨p', ws, rfl, e4, r4⟩ := (rw'.vw n2.ok d2).lst
                have nn := n1.trans n2
                exact ⟨p, p', vs, ws, rfl, rfl, e3, e4, by rw [r3.length, r4.length]; exact hz, fun l hl => h _ φ2 l (nn.fresh hl) (nn.new hl) ⟨_, upd_same, (r3.append r4).new hl⟩⟩
              · cases q2
            · cases q2
/-! ### steps by continuations -/
end
section
variable {fr : Fr} {m : Mem} {x : Xc}
def kCat3 (m : Mem) (Q : QE C) : List T → Prop := fun ts => Q (.ok (.t (.lst ts))) m
@[simp] theorem kCat3_eq {Q : QE C} {ts : List T} : kCat3 m Q ts = Q (.ok (.t (.lst ts))) m := rfl
def kCat2 (u : U) (Q : QE C) : QE U := onOk Q fun w m => wO (catL m u w) (kCat3 m Q)
@[simp] theorem kCat2_ok {u w : U} {Q : QE C} : kCat2 u Q (.ok w) m = wO (catL m u w) (kCat3 m Q) := rfl
@[simp] theorem kCat2_er {u : U} {Q : QE C} : kCat2 u Q (.error x) m = Q (.error x) m := rfl
def kCat1 (g : M U) (fr : Fr) (Q : QE C) : QE U := onOk Q fun u m => wE g fr m (kCat2 u Q)
@[simp] theorem kCat1_ok {g : M U} {u : U} {Q : QE C} : kCat1 g fr Q (.ok u) m = wE g fr m (kCat2 u Q) := rfl
@[simp] theorem kCat1_er {g : M U} {Q : QE C} : kCat1 g fr Q (.error x) m = Q (.error x) m := rfl
@[simp] theorem w_catN {f g : M U} {Q : QE C} : wE (mCatN f g) fr m Q ↔ wE f fr m (kCat1 g fr Q) := by
  unfold wE mCatN mBind
  cases f fr m with
  | none => simp only [wR_none]
  | some p =>
    obtain ⟨r, m1⟩ := p
    cases r with
    | error x => simp only [wR_some, kCat1, onOk]
    | ok u =>
      simp only [wR_some, kCat1, onOk]
      unfold wE
      cases g fr m1 with
      | none => simp only [wR_none]
      | some p =>
        obtain ⟨r, m2⟩ := p
        cases r with
        | error x => simp only [wR_some, kCat2, onOk]
        | ok w =>
          simp only [wR_some, kCat2, onOk]
          cases catL m2 u w with
          | none => simp only [wR_none, wO_none]
          | some ts => simp only [wR_some, wO_some, kCat3]
end
end G

/-! G48: a def that hands back two new things in a tuple, which are named at once: x, y = f(..). -/
namespace G
open PySem PySem.Spec PyProof.Rows L2
abbrev MP := Fr → Mem → Option ((C × C) × Mem)
/-- two new things, held apart, in a tuple -/
def Two (c : Cn) (B : Addr → Prop) (H : Hp) (φ : List Addr) (m : Mem) (ca cb : C) (m' : Mem) (Q : VK) : Prop :=
  ∀ H' φ' a b t, H a = none → H b = none → a ≠ b → H' t = some (.tup [.ref a, .ref b]) → Nxt c (Bq (Bq B a) b) H φ m H' φ' m' → Cel c H' (LL (Bq (Bq B a) b) φ' m') φ' a ca → Cel c H' (LL (Bq (Bq B a) b) φ' m') φ' b cb → Q (.ref t) H'
def rdP (X : Cx) (f : MP) : TS := fun D σ H => ∃ B φ m fr, SOk (cn X) B H φ m σ fr ∧ ∃ ca cb m', f fr m = some ((ca, cb), m') ∧ Two (cn X) B H φ m ca cb m' D.rt
def pRet (f g : M C) : MP := fun fr m => match f fr m with
  | some (.ok ca, m1) => match g fr m1 with
    | some (.ok cb, m2) => some ((ca, cb), m2)
    | _ => none
  | _ => none
def pSeq (s : MS) (p : MP) : MP := fun fr m => match s fr m with
  | some (.fl .nx fr', m') => p fr' m'
  | _ => none
section
variable {X : Cx} {W : WX} {A B' : Expr} {st : Stmt} {sts : List Stmt} {f g : M C} {s1 : MS} {p : MP} {pos pos' : Pos} {k : Nat}
theorem p_ret (ha : PE X A (rdN X W f)) (hb : PE X B' (rdN X W g)) (h1 : starEach [A, B'] X.env = (false, eval A X.env) :: starEach [B'] X.env := by rfl) (h2 : starEach [B'] X.env = (false, eval B' X.env) :: starEach [] X.env := by rfl) :
    PS X (.Return (some (.Tuple [A, B'] k pos')) pos) (rdP X (pRet f g)) := by
  refine PS.wk (ps_ret (pe_tup (pa_cons ha (pa_cons hb pa_nil h2) h1))) fun D σ H ⟨B, φ, m, fr, S, ca, cb, m', e, h⟩ => ⟨B, φ, m, fr, S, ?_⟩
  unfold pRet at e
  split at e
  · rename_i ca' m1 q1
    split at e
    · rename_i cb' m2 q2
      cases e
      refine ⟨.ok ca, m1, q1, fun H1 φ1 a fa n1 c1 => ⟨Bq B a, φ1, m1, fr, S.nxtB (fun x z => z.imp id fun z => by rw [z]; exact fa) n1, .ok cb, m', q2, fun H2 φ2 b fb n2 c2 => ?_⟩⟩
      refine ⟨by rw [sizeLine_eq]; exact Nat.le_of_ble_eq_true rfl, fun t ft => ?_⟩
      have e1 : ∃ o, H1 a = some o := c1.has
      obtain ⟨o, e1⟩ := e1
      have hab : a ≠ b := fun z => by rw [z, fb] at e1; cases e1
      have fb0 : H b = none := n1.fresh fb
      have nl : ¬ Lv φ1 m1 a := fun ⟨j, u, z1, z2⟩ => n1.ok.nb j a u z1 z2 (.inr rfl)
      have c1' : Cel (cn X) H2 (LL (Bq (Bq B a) b) φ2 m') φ2 a ca := c1.mono n2.pre (n2.monoB fun x z => z.imp id fun z => by rw [z]; exact fb) fun o e => n2.keep a o e nl
      have nn := n1.transB fb n2
      refine h _ φ2 a b t fa fb0 hab upd_same (nn.plus ft) (c1'.mono pre0 (fun x o nl e => ⟨nl, o, ?_, .inl rfl⟩) fun o e => ?_) (c2.mono pre0 (fun x o nl e => ⟨nl, o, ?_, .inl rfl⟩) fun o e => ?_) <;> (rw [upd_ne (ne_of_none e ft)]; exact e)
    · cases e
  · cases e
theorem p_one (h : PS X st (rdP X p)) : PSs X [st] (rdP X p) := pss_one h
theorem p_cons (h1 : PS X st (rdS X W s1)) (h2 : PSs X sts (rdP X p)) : PSs X (st :: sts) (rdP X (pSeq s1 p)) := by
  refine PSs.wk (pss_cons h1 h2) fun D σ H ⟨B, φ, m, fr, S, ca, cb, m', e, h⟩ => ⟨B, φ, m, fr, S, ?_⟩
  unfold pSeq at e
  split at e
  · rename_i fr' m1 q
    refine ⟨_, m1, q, fun H1 φ1 n1 σ1 S1 => ⟨B, φ1, m1, fr', S1, ca, cb, m', e, fun H' φ' a b t fa fb ne ht n c1 c2 => ?_⟩⟩
    refine h H' φ' a b t (n1.fresh fa) (n1.fresh fb) ne ht ?_ c1 c2
    have u := n1.trans n.unB.unB
    exact ⟨u.pre, u.keep, u.sub, u.trk, u.fr, n.ok⟩
  · cases e
end
abbrev Fp := List U → Mem → Option ((C × C) × Mem)
def runP (nN : Nat) (p : MP) : Fp := fun us m => p (us.map some ++ List.replicate (nN - us.length) none) m
def spP (c : Cn) (n : Nat) (F : Fp) : Sp := fun vs H Q E => vs.length = n ∧ ∃ B φ m us, MOk c B H φ m ∧ Rus c H (LL B φ m) φ vs us ∧ ∃ ca cb m', F us m = some ((ca, cb), m') ∧ Two c B H φ m ca cb m' Q
theorem fnP_ok {P : Program} {w : World} {K : PySem.W.Frag} {mg : Str → Option Value} {base : Heap} {x qual : Str} {st : Stmt} {f : Addr} {fd : FuncData} {N ps : List Str} {k : Nat} {p : MP} (F : Fun K x qual st f fd) (S : FnScope N ps (defScope st))
    (hb : ∀ (cdv : Value) (A : Around) (outer : List Env) (s : Shared) (H : Hp) (E : XK), Room k (A.deeper (envOfC qual (defScope st) s.heap.objs.size f cdv)) →
      PSs (cxOf (L2.CX P w) P w K mg base N qual (defScope st) f cdv A outer s H E) (defBody st) (rdP (cxOf (L2.CX P w) P w K mg base N qual (defScope st) f cdv A outer s H E) p)) :
    FnOk P w K mg base (L2.CX P w) (k + 1) f fd ps (spP ⟨K, mg, none⟩ ps.length (runP N.length p)) := by
  refine F.okX S (fun vs H Q E h => h.1) fun cdv A outer s H vs Q E hr h => ⟨_, hb cdv A outer s H E hr, ?_⟩
  obtain ⟨hl, B, φ, m, us, M, ru, ca, cb, m', e, h⟩ := h
  refine ⟨B, φ, m, us.map some ++ List.replicate (N.length - us.length) none, ⟨M, ?_, fun i u ei => ?_⟩, ca, cb, m', e, h⟩
  · simp [L2.start, ru.length]
  · by_cases hi : i < us.length
    · rw [List.getElem?_append_left (by simpa using hi), List.getElem?_map] at ei
      cases q : us[i]? with
      | none => rw [q] at ei; cases ei
      | some u' =>
        rw [q] at ei
        have : u' = u := by simpa using ei
        subst this
        obtain ⟨v, ev, rv⟩ := ru.get q
        refine ⟨v, ?_, rv⟩
        unfold L2.start
        rw [List.getElem?_append_left (by simpa [ru.length] using hi), List.getElem?_map, ev]
        rfl
    · rw [List.getElem?_append_right (by simpa using hi)] at ei
      have := List.mem_of_getElem? ei
      simp at this
theorem fnP_okT {P : Program} {w : World} {K : PySem.W.Frag} {mg : Str → Option Value} {base : Heap} {x qual : Str} {st : Stmt} {f : Addr} {fd : FuncData} {N ps : List Str} {k : Nat} {p : MP} (F : Fun K x qual st f fd) (S : FnScope N ps (defScope st))
    (hb : ∀ (cdv : Value) (A : Around) (outer : List Env) (s : Shared) (H : Hp) (E : XK), Room k (A.deeper (envOfC qual (defScope st) s.heap.objs.size f cdv)) →
      Takes (cxOf (L2.CX P w) P w K mg base N qual (defScope st) f cdv A outer s H E) (fun cls d _ H => E cls d H) →
      PassesOwn (model P w) (cxOf (L2.CX P w) P w K mg base N qual (defScope st) f cdv A outer s H E).A (cxOf (L2.CX P w) P w K mg base N qual (defScope st) f cdv A outer s H E).env (cxOf (L2.CX P w) P w K mg base N qual (defScope st) f cdv A outer s H E).xe →
      PSs (cxOf (L2.CX P w) P w K mg base N qual (defScope st) f cdv A outer s H E) (defBody st) (rdP (cxOf (L2.CX P w) P w K mg base N qual (defScope st) f cdv A outer s H E) p)) :
    FnOk P w K mg base (L2.CX P w) (k + 1) f fd ps (spP ⟨K, mg, none⟩ ps.length (runP N.length p)) :=
  fnP_ok F S fun cdv A outer s H E hr => hb cdv A outer s H E hr (takes_of rfl rfl rfl rfl) (passes_of (X := cxOf (L2.CX P w) P w K mg base N qual (defScope st) f cdv A outer s H E) rfl)
/-- behind the call: the second one's cell, then the first one's -/
def unpK (i j n : Nat) (F : Fp) (us : List U) : MS := fun fr m =>
  if us.length = n ∧ (cellsOf us).Nodup then
    match F (renum 0 us) (ldM m (cellsOf us)) with
    | some ((ca, cb), m1) => if (toT ca).isSome ∧ (toT cb).isSome then some (.fl .nx ((fr.set i (some (.c (m.length + 1)))).set j (some (.c m.length))), stM m (cellsOf us) m1 ++ [some cb] ++ [some ca]) else none
    | none => none
  else none
def sUnp (i j n : Nat) (F : Fp) (g : M (List U)) : MS := sBind g (unpK i j n F)
section
variable {X : Cx} {W : WX} {e : Expr} {es : List Expr} {g : M (List U)} {F : Fp} {k n : Nat} {f : Addr} {fd : FuncData} {ps : List Str} {x y z : Str} {p p1 p2 p3 pos pos' : Pos} {i j q : Nat}
theorem s_unp (hc : X.calm = true) (tk : Takes X W) (FO : FnOk X.prog X.w X.K X.mg X.base (L2.CX X.prog X.w) k f fd ps (spP (cn X) n F)) (hr : Room k X.A) (hg : Gl X x) (hm : X.mg x = some (.ref f)) (hk : PySem.W.keepIn X.K (.ref f) = true) (hb : Binds X.K fd ps [])
    (ha : PA X (e :: es) (rdA X W g)) (hN : X.N.Nodup) (hi : X.N[i]? = some y) (hj : X.N[j]? = some z) (hy : Loc X.env.scope y) (hz : Loc X.env.scope z)
    (hf1 : X.fn y = true ∨ X.env.scope.names.lookup y = some .local := by first | exact .inl rfl | exact .inr rfl) (hf2 : X.fn z = true ∨ X.env.scope.names.lookup z = some .local := by first | exact .inl rfl | exact .inr rfl)
    (hdb : (x == ("__debug__" : Str)) = false := by decide) (he : starEach (e :: es) X.env = (false, eval e X.env) :: starEach es X.env := by rfl) (hpl : (backTo pos' (starEach es X.env)).any (·.1) = false := by rfl)
    (hs : swapsWithSole [.Tuple [.Name y p1, .Name z p2] q p3] (.Call (.Name x p) (e :: es) [] pos') pos.line X.env = pure false := by rfl) (hw : swappedStores [.Tuple [.Name y p1, .Name z p2] q p3] (.Call (.Name x p) (e :: es) [] pos') X.env = pure none := by rfl) :
    PS X (.Assign [.Tuple [.Name y p1, .Name z p2] q p3] (.Call (.Name x p) (e :: es) [] pos') pos) (rdS X W (sUnp i j n F g)) := by
  refine PS.wk (ps_asg (pe_callSD (dvs := []) (E := WE W) FO hr hg hm hk hb .nil (fun σ => passAt tk σ) ha hdb he hpl) (pg_tup (n := 2) hc (pgs_cons (pg_name hN hi hy hf1) (pgs_cons (pg_name hN hj hz hf2) pgs_nil))) hs hw) fun D σ H h => ?_
  obtain ⟨B, φ, m, fr, S, h⟩ := rdS.bind (R := rrUs) h
  refine ⟨B, φ, m, fr, S, h.mono fun vs H1 ⟨B, φ, m, fr, us, S1, ru, r, m', e1, h1⟩ => ?_⟩
  rw [List.append_nil]
  unfold unpK at e1
  split at e1
  · rename_i hn
    have M := S1.mem
    have hl : (adrs vs us).length = (cellsOf us).length := (adrs_get ru).1
    refine ⟨by rw [ru.length]; exact hn.1, Bc B φ m (adrs vs us) (ldM m (cellsOf us)), adrs vs us, ldM m (cellsOf us), renum 0 us, M.call ru hn.2, ru.call, ?_⟩
    split at e1
    · rename_i ca cb m1 q1
      split at e1
      · rename_i hc
        cases e1
        refine ⟨ca, cb, m1, q1, fun H' φ' a b t fa fb ne ht nx c1 c2 => ?_⟩
        have nla : ∀ x, H1 x = none → ¬ Lv (adrs vs us) (ldM m (cellsOf us)) x := fun x fx z => (M.call ru hn.2).lvt z fx
        rw [bq_bc (c := cn X) (H := H1) (nla a fa), bq_bc (c := cn X) (H := H1) (nla b fb)] at nx c1 c2
        obtain ⟨n7, ll⟩ := Nxt.callB (B' := Bq (Bq B a) b) M ru hn.2 (fun x z => by
          rcases z with (z | z) | z
          · exact .inl z
          · rw [z]; exact .inr fa
          · rw [z]; exact .inr fb) nx
        have k1 : Cel (cn X) H' (LL (Bq (Bq B a) b) φ (stM m (cellsOf us) m1)) φ a ca := Cel.re hc.1 (c1.mono pre0 (fun b o nl e => ⟨fun z => nl (ll b z), o, e, .inl rfl⟩) fun _ e => e)
        have k2 : Cel (cn X) H' (LL (Bq (Bq B a) b) φ (stM m (cellsOf us) m1)) φ b cb := Cel.re hc.2 (c2.mono pre0 (fun b o nl e => ⟨fun z => nl (ll b z), o, e, .inl rfl⟩) fun _ e => e)
        have nb : ¬ Bq B a b := fun z => z.elim (M.noB fb) fun z => ne z.symm
        have n8 := n7.cell nb fb k2
        have k1' : Cel (cn X) H' (LL (Bq B a) (φ ++ [b]) (stM m (cellsOf us) m1 ++ [some cb])) (φ ++ [b]) a ca := k1.mono ⟨[b], rfl⟩ (fun x o nl e => ⟨fun z => nl ?_, o, e, .inl rfl⟩) fun _ e => e
        · have n9 := n8.cell (M.noB fa) fa k1'
          have S9 := S1.nxt n9
          have hlen : φ.length = m.length := M.len
          have hA : (φ ++ [b] ++ [a])[m.length + 1]? = some a := by rw [← hlen]; simp
          have hB : (φ ++ [b] ++ [a])[m.length]? = some b := by rw [← hlen]; simp
          refine ⟨t, [.ref a, .ref b], rfl, .of ht, rfl, .ref a, [.ref b], rfl, .ref b, [], rfl, rfl, ?_⟩
          exact h1 H' (φ ++ [b] ++ [a]) n9 _ ((S9.set i (.c hA)).set j (.c hB))
        · rcases z with z | z
          · exact .inl (.inl z)
          · rcases z.snoc n7.ok.len with z | z
            · exact .inr z
            · exact .inl (.inr z)
      · cases e1
    · cases e1
  · cases e1
end
/-! ### steps by continuations -/
abbrev QP := C → C → Mem → Prop
def wP (p : MP) (fr : Fr) (m : Mem) (Q : QP) : Prop := ∃ ca cb m', p fr m = some ((ca, cb), m') ∧ Q ca cb m'
def wFp (F : Fp) (us : List U) (m : Mem) (Q : QP) : Prop := ∃ ca cb m', F us m = some ((ca, cb), m') ∧ Q ca cb m'
theorem wFp_run {n : Nat} {p : MP} {us : List U} {m : Mem} {Q : QP} : wFp (runP n p) us m Q ↔ wP p (us.map some ++ List.replicate (n - us.length) none) m Q := Iff.rfl
theorem wFp_by {F : Fp} {us : List U} {m m' : Mem} {ca cb : C} (e : F us m = some ((ca, cb), m')) {Q : QP} : wFp F us m Q ↔ Q ca cb m' :=
  ⟨fun ⟨_, _, _, e', h⟩ => by rw [e] at e'; cases e'; exact h, fun h => ⟨_, _, _, e, h⟩⟩
section
variable {fr : Fr} {m : Mem} {x : Xc}
def kPs (p : MP) (Q : QP) : QS
  | .fl .nx fr', m' => wP p fr' m' Q
  | _, _ => False
@[simp] theorem kPs_nx {p : MP} {Q : QP} : kPs p Q (.fl .nx fr) m = wP p fr m Q := rfl
@[simp] theorem w_pSeq {s : MS} {p : MP} {Q : QP} : wP (pSeq s p) fr m Q ↔ wS s fr m (kPs p Q) := by
  constructor
  · rintro ⟨ca, cb, m', e, h⟩
    unfold pSeq at e
    split at e
    · rename_i fr' m1 q
      exact ⟨_, _, q, ca, cb, m', e, h⟩
    · cases e
  · rintro ⟨r, m1, e, h⟩
    match r, h with
    | .fl .nx fr', ⟨ca, cb, m', e', h⟩ =>
      refine ⟨ca, cb, m', ?_, h⟩
      unfold pSeq
      rw [e]
      exact e'
def kPr2 (ca : C) (Q : QP) : QE C
  | .ok cb, m => Q ca cb m
  | _, _ => False
@[simp] theorem kPr2_ok {ca cb : C} {Q : QP} : kPr2 ca Q (.ok cb) m = Q ca cb m := rfl
def kPr1 (g : M C) (fr : Fr) (Q : QP) : QE C
  | .ok ca, m => wE g fr m (kPr2 ca Q)
  | _, _ => False
@[simp] theorem kPr1_ok {g : M C} {ca : C} {Q : QP} : kPr1 g fr Q (.ok ca) m = wE g fr m (kPr2 ca Q) := rfl
@[simp] theorem w_pRet {f g : M C} {Q : QP} : wP (pRet f g) fr m Q ↔ wE f fr m (kPr1 g fr Q) := by
  constructor
  · rintro ⟨ca, cb, m', e, h⟩
    unfold pRet at e
    split at e
    · rename_i ca' m1 q1
      split at e
      · rename_i cb' m2 q2
        cases e
        exact ⟨_, _, q1, _, _, q2, h⟩
      · cases e
    · cases e
  · rintro ⟨r, m1, e, h⟩
    match r, h with
    | .ok ca, ⟨r2, m2, e2, h⟩ =>
      match r2, h with
      | .ok cb, h =>
        refine ⟨ca, cb, m2, ?_, h⟩
        unfold pRet
        rw [e]
        dsimp only
        rw [e2]
def kUn3 (i j : Nat) (us : List U) (fr : Fr) (m : Mem) (Q : QS) : QP := fun ca cb m1 => ((toT ca).isSome = true ∧ (toT cb).isSome = true) ∧ Q (.fl .nx ((fr.set i (some (.c (m.length + 1)))).set j (some (.c m.length)))) (stM m (cellsOf us) m1 ++ [some cb] ++ [some ca])
@[simp] theorem kUn3_eq {i j : Nat} {us : List U} {Q : QS} {ca cb : C} {m1 : Mem} : kUn3 i j us fr m Q ca cb m1 ↔ ((toT ca).isSome = true ∧ (toT cb).isSome = true) ∧ Q (.fl .nx ((fr.set i (some (.c (m.length + 1)))).set j (some (.c m.length)))) (stM m (cellsOf us) m1 ++ [some cb] ++ [some ca]) := Iff.rfl
def kUnp (i j n : Nat) (F : Fp) (fr : Fr) (Q : QS) : QE (List U) := onSt fr Q fun us m => (us.length = n ∧ (cellsOf us).Nodup) ∧ wFp F (renum 0 us) (ldM m (cellsOf us)) (kUn3 i j us fr m Q)
@[simp] theorem kUnp_ok {i j n : Nat} {F : Fp} {us : List U} {Q : QS} : kUnp i j n F fr Q (.ok us) m ↔ (us.length = n ∧ (cellsOf us).Nodup) ∧ wFp F (renum 0 us) (ldM m (cellsOf us)) (kUn3 i j us fr m Q) := Iff.rfl
@[simp] theorem w_sUnp {i j n : Nat} {F : Fp} {g : M (List U)} {Q : QS} : wS (sUnp i j n F g) fr m Q ↔ wE g fr m (kUnp i j n F fr Q) := by
  unfold wS sUnp sBind wE
  cases g fr m with
  | none => simp only [wR_none]
  | some p =>
    obtain ⟨r, m1⟩ := p
    cases r with
    | error x => simp only [wR_some, kUnp, onSt]
    | ok us =>
      simp only [wR_some, kUnp, onSt]
      unfold unpK
      by_cases hn : us.length = n ∧ (cellsOf us).Nodup
      · rw [if_pos hn]
        cases q : F (renum 0 us) (ldM m1 (cellsOf us)) with
        | none => simp only [wR_none]; exact ⟨False.elim, fun ⟨_, _, _, _, e, _⟩ => by rw [q] at e; cases e⟩
        | some p =>
          obtain ⟨⟨ca, cb⟩, m2⟩ := p
          dsimp only
          by_cases hc : (toT ca).isSome = true ∧ (toT cb).isSome = true
          · rw [if_pos hc, wR_some]
            exact ⟨fun h => ⟨hn, ca, cb, m2, q, hc, h⟩, fun ⟨_, _, _, _, e, _, h⟩ => by rw [q] at e; cases e; exact h⟩
          · rw [if_neg hc, wR_none]
            exact ⟨False.elim, fun ⟨_, _, _, _, e, h', _⟩ => by rw [q] at e; cases e; exact hc h'⟩
      · rw [if_neg hn, wR_none]
        exact ⟨False.elim, fun h => hn h.1⟩
end
end G

/-! G49: a cell frozen for good; a call f(x, (.., cell, ..), y): within a tuple cells are handed in to be read alone. -/
namespace G
open PySem PySem.Spec PyProof.Rows L2
/-! ### frozen for good -/
def mFrz (f : M U) : M U := mBind f fun u _ m => match u with
  | .v t => some (.ok (.v t), m)
  | .c i => match m[i]? with
    | some (some ct) => match toT ct with
      | some t => some (.ok (.v t), m.set i none)
      | none => none
    | _ => none
section
variable {X : Cx} {W : WX} {e : Expr} {f : M U}
theorem e_frz (he : PE X e (rdE X W f)) : PE X e (rdE X W (mFrz f)) := by
  refine PE.wk he fun σ H Q h => ?_
  obtain ⟨B, φ, m, fr, S, h0⟩ := rd.bind (R := rrU) h
  refine ⟨B, φ, m, fr, S, h0.mono fun v H1 ⟨B, φ1, m1, fr, u, S1, ru, r, m', e1, h1⟩ => ?_⟩
  cases ru with
  | v r => cases e1; exact h1 H1 φ1 (.refl S1.mem) v (.v r)
  | @c a i hi =>
    dsimp only at e1
    split at e1
    · rename_i ct hm
      cases q : toT ct with
      | none => rw [q] at e1; cases e1
      | some t =>
        rw [q] at e1
        cases e1
        obtain ⟨n, rt⟩ := Nxt.freeze S1.mem hi hm q
        exact h1 H1 φ1 n _ (.v rt)
    · cases e1
end
/-! ### cells that are read alone for a while -/
def kill (m : Mem) (Z : List Nat) : Mem := m.mapIdx fun i x => if i ∈ Z then none else x
theorem kill_get {m : Mem} {Z : List Nat} {j : Nat} {t : C} (h : (kill m Z)[j]? = some (some t)) : j ∉ Z ∧ m[j]? = some (some t) := by
  unfold kill at h
  rw [List.getElem?_mapIdx] at h
  cases q : m[j]? with
  | none => rw [q] at h; cases h
  | some x =>
    rw [q] at h
    by_cases hz : j ∈ Z
    · simp [hz] at h
    · simp [hz] at h
      exact ⟨hz, by rw [h]⟩
theorem kill_out {m : Mem} {Z : List Nat} {j : Nat} (h : j ∉ Z) : (kill m Z)[j]? = m[j]? := by
  unfold kill
  rw [List.getElem?_mapIdx]
  cases m[j]? with
  | none => rfl
  | some x => simp [h]
section
variable {c : Cn} {B : Addr → Prop} {H : Hp} {φ : List Addr} {m : Mem} {Z : List Nat}
theorem kill_lv {a : Addr} (h : Lv φ (kill m Z) a) : Lv φ m a := by
  obtain ⟨j, t, e1, e2⟩ := h
  exact ⟨j, t, e1, (kill_get e2).2⟩
theorem kill_ll {a : Addr} (h : LL B φ (kill m Z) a) : LL B φ m a := h.imp id kill_lv
theorem MOk.kill (M : MOk c B H φ m) (Z : List Nat) : MOk c B H φ (kill m Z) :=
  ⟨by unfold G.kill; rw [List.length_mapIdx]; exact M.len, fun i j a t u e1 e2 e3 e4 => M.inj i j a t u e1 e2 (kill_get e3).2 (kill_get e4).2, fun i a t e1 e2 => M.nb i a t e1 (kill_get e2).2,
    fun i a t e1 e2 => (M.cel i a t e1 (kill_get e2).2).mono pre0 (fun b o nl e => ⟨fun z => nl (kill_ll z), o, e, .inl rfl⟩) fun _ e => e, M.bt⟩
/-- what the items of a tuple stand for while the cells among them are read alone -/
def viewT (m : Mem) : List U → Option (List T)
  | [] => some []
  | .v t :: us => (viewT m us).map (t :: ·)
  | .c i :: us => match m[i]? with
    | some (some (.t (.lst ts))) => (viewT m us).map (.lst ts :: ·)
    | _ => none
theorem viewT_rel (M : MOk c B H φ m) : ∀ {us : List U} {vs : List V} {ts : List T}, (∀ i ∈ cellsOf us, i ∈ Z) → Rus c H (LL B φ m) φ vs us → viewT m us = some ts → Rps c H (LL B φ (kill m Z)) vs ts := by
  have mono : ∀ b o, ¬ LL B φ m b → H b = some o → ¬ LL B φ (kill m Z) b ∧ ∃ o', H b = some o' ∧ KeepO o o' := fun b o nl e => ⟨fun z => nl (kill_ll z), o, e, .inl rfl⟩
  intro us
  induction us with
  | nil =>
    intro vs ts _ r e
    cases r
    cases e
    exact .nil
  | cons u us ih =>
    intro vs ts hz r e
    cases r with
    | cons r rs =>
      cases r with
      | @v _ t r =>
        unfold viewT at e
        cases q : viewT m us with
        | none => rw [q] at e; cases e
        | some ts =>
          rw [q] at e
          cases e
          exact .cons (r.mono mono) (ih hz rs q)
      | @c a i hi =>
        unfold viewT at e
        split at e
        · rename_i xs hm
          cases q : viewT m us with
          | none => rw [q] at e; cases e
          | some ts =>
            rw [q] at e
            cases e
            obtain ⟨ws, e1, r1⟩ := M.cel i a _ hi hm
            refine .cons (.lst (fun z => ?_) e1 (r1.mono mono)) (ih (fun j hj => hz j (by simp [cellsOf, hj])) rs q)
            rcases z with z | ⟨j, t, z1, z2⟩
            · exact M.nb i a _ hi hm z
            · obtain ⟨h1, h2⟩ := kill_get z2
              have := M.inj i j a _ t hi z1 hm h2
              subst this
              exact h1 (hz i (by simp [cellsOf]))
        · cases e
/-- a list of numbers, texts, truths -/
def atmT : T → Bool
  | .non => true
  | .bl _ => true
  | .int _ => true
  | .str _ => true
  | _ => false
theorem Rp.atm {L L' : Addr → Prop} {H' : Hp} {v : V} {t : T} (h : atmT t = true) (r : Rp c H L v t) : Rp c H' L' v t := by
  cases r <;> first | exact .non | exact .bl _ | exact .int _ | exact .str _ | (cases h; done)
theorem Rps.atm {L L' : Addr → Prop} {H' : Hp} : ∀ {vs : List V} {ts : List T}, ts.all atmT = true → Rps c H L vs ts → Rps c H' L' vs ts
  | _, _, _, .nil => .nil
  | _, _, h, .cons a r => by
    rw [List.all_cons, Bool.and_eq_true] at h
    exact .cons (a.atm h.1) (r.atm h.2)
def atmC : Option C → Bool
  | some (.t (.lst ts)) => ts.all atmT
  | none => true
  | _ => false
variable {vs : List V} {us : List U} {H' : Hp} {φc : List Addr} {mc : Mem}
theorem ldM_kill (h : ∀ i ∈ cellsOf us, i ∉ Z) : ldM (kill m Z) (cellsOf us) = ldM m (cellsOf us) := by
  unfold ldM
  refine List.map_congr_left fun i hi => ?_
  rw [kill_out (h i hi)]
/-- behind a call that was handed cells to be read alone -/
theorem Nxt.thaw (M : MOk c B H φ m) (ru : Rus c H (LL B φ (kill m Z)) φ vs us) (nd : (cellsOf us).Nodup) (hz : ∀ i ∈ cellsOf us, i ∉ Z) (ha : ∀ (k : Nat) (x : Option C), k < (cellsOf us).length → mc[k]? = some x → atmC (flatO x) = true)
    (n : Nxt c (Bc B φ (kill m Z) (adrs vs us) (ldM (kill m Z) (cellsOf us))) H (adrs vs us) (ldM (kill m Z) (cellsOf us)) H' φc mc) : Nxt c B H φ m H' φ (stM m (cellsOf us) mc) := by
  obtain ⟨n2, ll⟩ := Nxt.call (M.kill Z) ru nd n
  obtain ⟨l, g⟩ := adrs_get ru
  have il : ∀ i ∈ cellsOf us, i < m.length := fun i hi => by
    obtain ⟨k, hk⟩ := List.getElem?_of_mem hi
    obtain ⟨a, _, f⟩ := g k i hk
    rw [← M.len]; exact (List.getElem?_eq_some_iff.mp f).1
  have hlen : (cellsOf us).length ≤ mc.length := by
    obtain ⟨l', e⟩ := n.pre
    rw [← n.ok.len, e, List.length_append]; omega
  have hkl : (kill m Z).length = m.length := by unfold kill; rw [List.length_mapIdx]
  -- a cell behind the call
  have get : ∀ {j : Nat} {t : C}, (stM m (cellsOf us) mc)[j]? = some (some t) → (j ∉ cellsOf us ∧ m[j]? = some (some t)) ∨ (j ∈ cellsOf us ∧ (stM (kill m Z) (cellsOf us) mc)[j]? = some (some t) ∧ ∃ ts, t = .t (.lst ts) ∧ ts.all atmT = true) := fun {j t} e => by
    by_cases hj : j ∈ cellsOf us
    · obtain ⟨k, hk⟩ := List.getElem?_of_mem hj
      have kc := (List.getElem?_eq_some_iff.mp hk).1
      have kl : k < mc.length := Nat.lt_of_lt_of_le kc hlen
      have e1 := stM_in (m := m) (cellsOf us) mc k j _ nd hk (il j hj) (List.getElem?_eq_getElem kl)
      have e2 := stM_in (m := kill m Z) (cellsOf us) mc k j _ nd hk (by rw [hkl]; exact il j hj) (List.getElem?_eq_getElem kl)
      have at1 := ha k _ kc (List.getElem?_eq_getElem kl)
      rw [e] at e1
      have e3 := Option.some.inj e1
      rw [← e3] at e2 at1
      refine .inr ⟨hj, e2, ?_⟩
      match t, at1 with
      | .t (.lst ts), h => exact ⟨ts, rfl, h⟩
    · rw [stM_out (cellsOf us) mc hj] at e
      exact .inl ⟨hj, e⟩
  have sub : ∀ a, Lv φ (stM m (cellsOf us) mc) a → Lv φ m a ∨ H a = none := fun a ⟨j, t, e1, e2⟩ => by
    rcases get e2 with ⟨hj, e3⟩ | ⟨hj, e3, _⟩
    · exact .inl ⟨j, t, e1, e3⟩
    · exact (n2.sub a ⟨j, t, e1, e3⟩).imp kill_lv id
  have nlc : ∀ {j : Nat} {a : Addr} {t : C}, j ∉ cellsOf us → φ[j]? = some a → m[j]? = some (some t) → ¬ Lv (adrs vs us) (ldM (kill m Z) (cellsOf us)) a := fun {j a t} hj e1 e2 ⟨k, u, f1, f2⟩ => by
    obtain ⟨i, hi, hm, hf⟩ := ldM_get f2
    obtain ⟨b, f3, f4⟩ := g k i hi
    rw [f1] at f3; cases f3
    have := M.inj j i a t u e1 f4 e2 (kill_get hm).2
    subst this
    exact hj (List.mem_of_getElem? hi)
  have mono : ∀ x o, ¬ LL B φ m x → H x = some o → ¬ LL B φ (stM m (cellsOf us) mc) x ∧ ∃ o', H' x = some o' ∧ KeepO o o' := fun x o nl e => by
    refine ⟨fun z => ?_, o, n2.keep x o e fun z => nl (.inr (kill_lv z)), .inl rfl⟩
    rcases z with z | z
    · exact nl (.inl z)
    · rcases sub x z with z | z
      · exact nl (.inr z)
      · rw [e] at z; cases z
  refine ⟨⟨[], by simp⟩, fun a o e nl => n2.keep a o e fun z => nl (kill_lv z), sub, n2.trk, fun i a h e => absurd (List.getElem?_eq_some_iff.mp e).1 (by omega), ⟨by rw [stM_length]; exact M.len, fun j k a t u e1 e2 e3 e4 => ?_, fun j a t e1 e2 => ?_, fun j a t e1 e2 => ?_, n2.ok.bt⟩⟩
  · have key : ∀ {j k : Nat} {t u : C}, φ[j]? = some a → φ[k]? = some a → j ∉ cellsOf us → m[j]? = some (some t) → (stM (kill m Z) (cellsOf us) mc)[k]? = some (some u) → k ∈ cellsOf us → False := fun {j k t u} e1 e2 hj f3 f4 hk => by
      rcases n2.sub a ⟨k, u, e2, f4⟩ with ⟨i, w, z1, z2⟩ | z
      · obtain ⟨y1, y2⟩ := kill_get z2
        have h1 := M.inj j i a t w e1 z1 f3 y2
        subst h1
        obtain ⟨p, hp⟩ := List.getElem?_of_mem hk
        have nb := nlc hj e1 f3
        -- the callee's cell at that place
        obtain ⟨b, f1, f2⟩ := g p k hp
        rw [e2] at f2; cases f2
        have pl : p < mc.length := Nat.lt_of_lt_of_le (List.getElem?_eq_some_iff.mp hp).1 hlen
        have e5 := stM_in (m := kill m Z) (cellsOf us) mc p k _ nd hp (by rw [hkl]; exact il k hk) (List.getElem?_eq_getElem pl)
        rw [f4] at e5
        obtain ⟨h2, _⟩ := flatO_some (Option.some.inj e5.symm)
        have fc : φc[p]? = some a := by
          obtain ⟨l', e⟩ := n.pre
          rw [e, List.getElem?_append_left (List.getElem?_eq_some_iff.mp f1).1]; exact f1
        rcases n.sub a ⟨p, u, fc, by rw [List.getElem?_eq_getElem pl, h2]⟩ with z | z
        · exact nb z
        · exact M.lvt ⟨j, t, e1, f3⟩ z
      · exact M.lvt ⟨j, t, e1, f3⟩ z
    rcases get e3 with ⟨hj, f3⟩ | ⟨hj, f3, _⟩
    · rcases get e4 with ⟨hk, f4⟩ | ⟨hk, f4, _⟩
      · exact M.inj j k a t u e1 e2 f3 f4
      · exact (key e1 e2 hj f3 f4 hk).elim
    · rcases get e4 with ⟨hk, f4⟩ | ⟨hk, f4, _⟩
      · exact (key e2 e1 hk f4 f3 hj).elim
      · exact n2.ok.inj j k a t u e1 e2 f3 f4
  · rcases get e2 with ⟨hj, f2⟩ | ⟨hj, f2, _⟩
    · exact M.nb j a t e1 f2
    · exact n2.ok.nb j a t e1 f2
  · rcases get e2 with ⟨hj, f2⟩ | ⟨hj, f2, ts, rfl, hts⟩
    · exact (M.cel j a t e1 f2).mono pre0 mono fun o e => n.keep a o e (nlc hj e1 f2)
    · obtain ⟨ws, e3, r3⟩ := n2.ok.cel j a _ e1 f2
      exact ⟨ws, e3, r3.atm hts⟩
end
def callT (n : Nat) (F : Fn) (u1 : U) (us : List U) (u3 : U) (m : Mem) : Res U :=
  if 3 = n ∧ (cellsOf [u1, u3]).Nodup ∧ (cellsOf [u1, u3]).all (fun i => !(cellsOf us).contains i) = true then
    match viewT m us with
    | some ts => match F (renum 0 [u1, .v (.tup ts), u3]) (ldM m (cellsOf [u1, u3])) with
      | some (.ok (.v t), m1) => if atmT t = true ∧ ((m1.take (cellsOf [u1, u3]).length).all fun x => atmC (flatO x)) = true then some (.ok (.v t), stM m (cellsOf [u1, u3]) m1) else none
      | _ => none
    | none => none
  else none
theorem cells3 {u1 u3 : U} {t : T} : cellsOf [u1, .v t, u3] = cellsOf [u1, u3] := by cases u1 <;> rfl
theorem spF.ofT {c : Cn} {W : WX} {B : Addr → Prop} {H : Hp} {φ : List Addr} {m : Mem} {σ : L2.St} {v1 v3 : V} {t0 : Addr} {ws : List V} {u1 u3 : U} {us : List U} {n : Nat} {F : Fn} {Q : VK} {E : XK} (M : MOk c B H φ m)
    (r1 : Ru c H (LL B φ m) φ v1 u1) (r3 : Ru c H (LL B φ m) φ v3 u3) (ht : H t0 = some (.tup ws)) (nt : ¬ LL B φ m t0) (rs : Rus c H (LL B φ m) φ ws us)
    (h : rx rrU c W (callT n F u1 us u3 m) B H φ m σ Q) : spF c n F [v1, .ref t0, v3] H Q E := by
  obtain ⟨r, m', e, h⟩ := h
  unfold callT at e
  split at e
  · rename_i hn
    obtain ⟨h3, nd, hz⟩ := hn
    split at e
    · rename_i ts q0
      have hz' : ∀ i ∈ cellsOf [u1, .v (.tup ts), u3], i ∉ cellsOf us := fun i hi => by
        rw [cells3] at hi
        have := List.all_eq_true.mp hz i hi
        simpa using this
      have mono : ∀ b o, ¬ LL B φ m b → H b = some o → ¬ LL B φ (kill m (cellsOf us)) b ∧ ∃ o', H b = some o' ∧ KeepO o o' := fun b o nl e => ⟨fun z => nl (kill_ll z), o, e, .inl rfl⟩
      have rt : Rp c H (LL B φ (kill m (cellsOf us))) (.ref t0) (.tup ts) := .tup (fun z => nt (kill_ll z)) ht (viewT_rel M (fun _ z => z) rs q0)
      have ru : Rus c H (LL B φ (kill m (cellsOf us))) φ [v1, .ref t0, v3] [u1, .v (.tup ts), u3] := .cons (r1.mono pre0 mono) (.cons (.v rt) (.cons (r3.mono pre0 mono) .nil))
      have nd' : (cellsOf [u1, .v (.tup ts), u3]).Nodup := by rw [cells3]; exact nd
      refine ⟨h3, _, _, _, _, (M.kill (cellsOf us)).call ru nd', ru.call, ?_⟩
      rw [ldM_kill hz', cells3]
      split at e
      · rename_i t m1 q1
        split at e
        · rename_i hc
          cases e
          refine ⟨_, m1, q1, fun H' φ' nx v rv => ?_⟩
          cases rv with
          | v rv =>
            rw [← cells3 (t := .tup ts), ← ldM_kill hz'] at nx
            have n2 := Nxt.thaw M ru nd' hz' (fun k x hk hx => by
              rw [cells3] at hk
              refine List.all_eq_true.mp hc.2 x ?_
              rw [List.mem_take_iff_getElem]
              obtain ⟨p, hp⟩ := List.getElem?_eq_some_iff.mp hx
              exact ⟨k, by omega, hp⟩) nx
            rw [cells3] at n2
            exact h H' φ n2 v (.v (rv.atm hc.1))
        · cases e
      · cases e
    · cases e
  · cases e
def mCallT (n : Nat) (F : Fn) (f1 : M U) (g : M (List U)) (f3 : M U) : M U := mBind f1 fun u1 => mBind g fun us => if us.length ≤ 100 then mBind f3 fun u3 _ m => callT n F u1 us u3 m else stuck
section
variable {X : Cx} {W : WX} {e1 e3 : Expr} {es : List Expr} {f1 f3 : M U} {g : M (List U)} {F : Fn} {k n q : Nat} {f : Addr} {fd : FuncData} {ps : List Str} {x : Str} {p pt pos : Pos}
theorem e_callT (tk : Takes X W) (FO : FnOk X.prog X.w X.K X.mg X.base (L2.CX X.prog X.w) k f fd ps (spF (cn X) n F)) (hr : Room k X.A) (hg : Gl X x) (hm : X.mg x = some (.ref f)) (hk : PySem.W.keepIn X.K (.ref f) = true) (hb : Binds X.K fd ps [])
    (h1 : PE X e1 (rdE X W f1)) (h2 : PA X es (rdA X W g)) (h3 : PE X e3 (rdE X W f3)) (hdb : (x == ("__debug__" : Str)) = false := by decide)
    (he : starEach [e1, .Tuple es q pt, e3] X.env = (false, eval e1 X.env) :: starEach [.Tuple es q pt, e3] X.env := by rfl)
    (he2 : starEach [.Tuple es q pt, e3] X.env = (false, eval (.Tuple es q pt) X.env) :: starEach [e3] X.env := by rfl) (he3 : starEach [e3] X.env = (false, eval e3 X.env) :: starEach [] X.env := by rfl)
    (hpl : (backTo pos (starEach [.Tuple es q pt, e3] X.env)).any (·.1) = false := by rfl) :
    PE X (.Call (.Name x p) [e1, .Tuple es q pt, e3] [] pos) (rdE X W (mCallT n F f1 g f3)) := by
  refine PE.wk (pe_callSD (dvs := []) (E := WE W) FO hr hg hm hk hb .nil (fun σ => passAt tk σ) (pa_cons h1 (pa_cons (pe_tup h2) (pa_cons h3 pa_nil he3) he2) he) hdb he hpl) fun σ H Q h => ?_
  obtain ⟨B, φ, m, fr, S, h0⟩ := rd.bind (R := rrU) h
  refine ⟨B, φ, m, fr, S, h0.mono fun v1 H1 ⟨B, φ1, m1, fr, u1, S1, ru1, hx1⟩ => ?_⟩
  refine ⟨B, φ1, m1, fr, S1, (hx1.bind (R := rrUs)).mono fun ws H2 ⟨φ2, m2, us, n2, rs, hx2⟩ => ?_⟩
  by_cases hl : us.length ≤ 100
  case neg =>
    rw [if_neg hl] at hx2
    obtain ⟨r', m', e', h'⟩ := hx2
    cases e'
  rw [if_pos hl] at hx2
  refine ⟨by rw [rs.length, sizeLine_eq]; omega, fun t0 ft => ?_⟩
  have M2 := n2.ok
  have n2' : Nxt (cn X) B H2 φ2 m2 (upd H2 t0 (.tup ws)) φ2 m2 := (Nxt.refl M2).plus ft
  have nt : ¬ LL B φ2 m2 t0 := M2.noL ft
  have hx3 : rx rrU (cn X) W (mBind f3 (fun u3 _ m => callT n F u1 us u3 m) fr m2) B (upd H2 t0 (.tup ws)) φ2 m2 σ Q := by
    obtain ⟨r', m', e', h'⟩ := hx2
    exact ⟨r', m', e', fun H' φ' nn => h' H' φ' (n2'.trans nn)⟩
  refine ⟨B, φ2, m2, fr, (S1.nxt n2).nxt n2', (hx3.bind (R := rrU)).mono fun v3 H3 ⟨φ3, m3, u3, n3, ru3, hx4⟩ => ?_⟩
  show spF (cn X) n F ([v1, .ref t0, v3] ++ []) H3 Q (WE W σ)
  rw [List.append_nil]
  have e3 : H3 t0 = some (.tup ws) := n3.keep t0 _ upd_same fun z => nt (.inr z)
  have nt3 : ¬ LL B φ3 m3 t0 := (n3.mono t0 _ nt upd_same).1
  exact spF.ofT n3.ok ((ru1.nxt (n2.trans n2')).nxt n3) ru3 e3 nt3 ((rs.nxt n2').nxt n3) hx4
end
/-! ### steps by continuations -/
section
variable {fr : Fr} {m : Mem} {x : Xc}
def frzO (m : Mem) : U → Option (T × Mem)
  | .v t => some (t, m)
  | .c i => match m[i]? with
    | some (some ct) => (toT ct).map fun t => (t, m.set i none)
    | _ => none
def kFr1 (Q : QE U) : T × Mem → Prop := fun p => Q (.ok (.v p.1)) p.2
@[simp] theorem kFr1_eq {Q : QE U} {t : T} : kFr1 Q (t, m) = Q (.ok (.v t)) m := rfl
def kFrz (Q : QE U) : QE U := onOk Q fun u m => wO (frzO m u) (kFr1 Q)
@[simp] theorem kFrz_ok {Q : QE U} {u : U} : kFrz Q (.ok u) m = wO (frzO m u) (kFr1 Q) := rfl
@[simp] theorem kFrz_er {Q : QE U} : kFrz Q (.error x) m = Q (.error x) m := rfl
@[simp] theorem frzO_v {t : T} : frzO m (.v t) = some (t, m) := rfl
theorem frzO_c {i : Nat} {t : T} (h : m[i]? = some (some (.t t))) : frzO m (.c i) = some (t, m.set i none) := by
  unfold frzO
  dsimp only
  rw [h]
  simp
@[simp] theorem w_frz {f : M U} {Q : QE U} : wE (mFrz f) fr m Q ↔ wE f fr m (kFrz Q) := by
  unfold wE mFrz mBind
  cases f fr m with
  | none => simp only [wR_none]
  | some p =>
    obtain ⟨r, m1⟩ := p
    cases r with
    | error x => simp only [wR_some, kFrz, onOk]
    | ok u =>
      simp only [wR_some, kFrz, onOk]
      cases u with
      | v t => simp only [wR_some, frzO, wO_some, kFr1]
      | c i =>
        unfold frzO
        dsimp only
        cases q : m1[i]? with
        | none => dsimp only; simp only [wR_none, wO_none]
        | some y =>
          cases y with
          | none => dsimp only; simp only [wR_none, wO_none]
          | some ct =>
            dsimp only
            cases q2 : toT ct with
            | none => simp only [wR_none, Option.map_none, wO_none]
            | some t => simp only [wR_some, Option.map_some, wO_some, kFr1]
def wCT (n : Nat) (F : Fn) (u1 : U) (us : List U) (u3 : U) (m : Mem) (Q : QE U) : Prop := wR (callT n F u1 us u3 m) Q
def kCt3 (n : Nat) (F : Fn) (u1 : U) (us : List U) (Q : QE U) : QE U := onOk Q fun u3 m => wCT n F u1 us u3 m Q
@[simp] theorem kCt3_ok {n : Nat} {F : Fn} {u1 u3 : U} {us : List U} {Q : QE U} : kCt3 n F u1 us Q (.ok u3) m = wCT n F u1 us u3 m Q := rfl
@[simp] theorem kCt3_er {n : Nat} {F : Fn} {u1 : U} {us : List U} {Q : QE U} : kCt3 n F u1 us Q (.error x) m = Q (.error x) m := rfl
def kCt2 (n : Nat) (F : Fn) (u1 : U) (f3 : M U) (fr : Fr) (Q : QE U) : QE (List U) := onOk Q fun us m => us.length ≤ 100 ∧ wE f3 fr m (kCt3 n F u1 us Q)
@[simp] theorem kCt2_ok {n : Nat} {F : Fn} {u1 : U} {us : List U} {f3 : M U} {Q : QE U} : kCt2 n F u1 f3 fr Q (.ok us) m ↔ us.length ≤ 100 ∧ wE f3 fr m (kCt3 n F u1 us Q) := Iff.rfl
@[simp] theorem kCt2_er {n : Nat} {F : Fn} {u1 : U} {f3 : M U} {Q : QE U} : kCt2 n F u1 f3 fr Q (.error x) m = Q (.error x) m := rfl
def kCt1 (n : Nat) (F : Fn) (g : M (List U)) (f3 : M U) (fr : Fr) (Q : QE U) : QE U := onOk Q fun u1 m => wE g fr m (kCt2 n F u1 f3 fr Q)
@[simp] theorem kCt1_ok {n : Nat} {F : Fn} {u1 : U} {g : M (List U)} {f3 : M U} {Q : QE U} : kCt1 n F g f3 fr Q (.ok u1) m = wE g fr m (kCt2 n F u1 f3 fr Q) := rfl
@[simp] theorem kCt1_er {n : Nat} {F : Fn} {g : M (List U)} {f3 : M U} {Q : QE U} : kCt1 n F g f3 fr Q (.error x) m = Q (.error x) m := rfl
theorem wE_iff {α : Type} {f : M α} {Q Q' : QE α} (h : ∀ r m, Q r m ↔ Q' r m) : wE f fr m Q ↔ wE f fr m Q' :=
  ⟨fun ⟨r, m', e, q⟩ => ⟨r, m', e, (h r m').mp q⟩, fun ⟨r, m', e, q⟩ => ⟨r, m', e, (h r m').mpr q⟩⟩
theorem onOk_iff {α β : Type} {Q : QE β} {k k' : α → Mem → Prop} (h : ∀ a m, k a m ↔ k' a m) : ∀ r m, onOk Q k r m ↔ onOk Q k' r m := fun r m => by
  cases r with
  | error x => exact Iff.rfl
  | ok a => exact h a m
@[simp] theorem w_callT {n : Nat} {F : Fn} {f1 f3 : M U} {g : M (List U)} {Q : QE U} : wE (mCallT n F f1 g f3) fr m Q ↔ wE f1 fr m (kCt1 n F g f3 fr Q) := by
  unfold mCallT kCt1
  rw [wE_bind]
  refine wE_iff (onOk_iff fun u1 m => ?_)
  unfold kCt2
  rw [wE_bind]
  refine wE_iff (onOk_iff fun us m => ?_)
  by_cases hl : us.length ≤ 100
  · rw [if_pos hl, wE_bind]
    exact ⟨fun h => ⟨hl, h⟩, fun h => h.2⟩
  · rw [if_neg hl]
    exact ⟨fun h => (wE_stuck.mp h).elim, fun h => absurd h.1 hl⟩
theorem w_CT {n : Nat} {F : Fn} {u1 u3 : U} {us : List U} {ts : List T} {Q : QE U} (h3 : 3 = n) (nd : (cellsOf [u1, u3]).Nodup) (hz : (cellsOf [u1, u3]).all (fun i => !(cellsOf us).contains i) = true) (hv : viewT m us = some ts)
    (h : wF F (renum 0 [u1, .v (.tup ts), u3]) (ldM m (cellsOf [u1, u3])) fun r m1 => ∃ t, r = .ok (.v t) ∧ (atmT t = true ∧ ((m1.take (cellsOf [u1, u3]).length).all fun x => atmC (flatO x)) = true) ∧ Q (.ok (.v t)) (stM m (cellsOf [u1, u3]) m1)) : wCT n F u1 us u3 m Q := by
  obtain ⟨r, m1, e, t, rfl, hc, hq⟩ := h
  unfold wCT callT
  rw [if_pos ⟨h3, nd, hz⟩, hv]
  dsimp only
  rw [e]
  dsimp only
  rw [if_pos hc, wR_some]
  exact hq
end
end G

/-! G50: calls with keywords. -/
namespace G
open PySem PySem.Spec PyProof.Rows L2
/-- values in the parameters' order -/
def pick {α : Type} (d : α) (ord : List Nat) (l : List α) : List α := ord.map fun i => l.getD i d
theorem vals_getD {vs : List V} {us : List Value} (r : Vals vs us) (i : Nat) : RelV (vs.getD i .non) (us.getD i .none) := by
  induction r generalizing i with
  | nil => simp; exact rfl
  | cons a _ ih => cases i with
    | zero => exact a
    | succ i => simpa using ih i
theorem vals_pick {vs : List V} {us : List Value} (r : Vals vs us) : ∀ ord : List Nat, Vals (pick .non ord vs) (pick .none ord us)
  | [] => .nil
  | i :: ord => .cons (vals_getD r i) (vals_pick r ord)
theorem vals_app {vs vs' : List V} {us us' : List Value} (r : Vals vs us) (r' : Vals vs' us') : Vals (vs ++ vs') (us ++ us') := r.append r'
/-- a def without defaults: how keywords bind -/
theorem kbn_of {K : PySem.W.Frag} {x qual : Str} {st : Stmt} {f : Addr} {fd : FuncData} {ps : List Str} (F : Fun K x qual st f fd) (n : Nat) (ks : List Str) (ord : List Nat)
    (h : ∀ (kV doc pm : Value) (an : Option Addr) (cdv ct : Value) (us ws : List Value), us.length = n → ws.length = ks.length → bindArgs (PySem.W.fnOf x qual (defArgs st) (defBody st) (defScope st) .none kV doc pm an cdv ct) ⟨us, ks.zip ws⟩ = pure (ps.zip (pick .none ord (us ++ ws)))) :
    KBn K fd ps n ks (fun us ws => pick .none ord (us ++ ws)) (fun vs zs => pick .non ord (vs ++ zs)) := by
  obtain ⟨oc, od, kV, doc, pm, an, cdv, ct, osl, rfl, lk, hcd⟩ := F.ex
  exact ⟨fun s us ws _ h1 h2 => BindsTo.of_eq (h kV doc pm an cdv ct us ws h1 h2), fun r1 r2 => vals_pick (vals_app r1 r2) ord⟩
theorem rus_getD {c : Cn} {H : Hp} {L : Addr → Prop} {φ : List Addr} {vs : List V} {us : List U} (r : Rus c H L φ vs us) (i : Nat) : Ru c H L φ (vs.getD i .non) (us.getD i (.v .non)) := by
  induction r generalizing i with
  | nil => simp; exact .v .non
  | cons a _ ih => cases i with
    | zero => exact a
    | succ i => simpa using ih i
theorem rus_pick {c : Cn} {H : Hp} {L : Addr → Prop} {φ : List Addr} {vs : List V} {us : List U} (r : Rus c H L φ vs us) : ∀ ord : List Nat, Rus c H L φ (pick .non ord vs) (pick (.v .non) ord us)
  | [] => .nil
  | i :: ord => .cons (rus_getD r i) (rus_pick r ord)
theorem rus_app {c : Cn} {H : Hp} {L : Addr → Prop} {φ : List Addr} : ∀ {vs vs' : List V} {us us' : List U}, Rus c H L φ vs us → Rus c H L φ vs' us' → Rus c H L φ (vs ++ vs') (us ++ us')
  | _, _, _, _, .nil, s => s
  | _, _, _, _, .cons a r, s => .cons a (rus_app r s)
/-- f(e, .., k = v, ..): what is handed in, in the parameters' order -/
def mKw (ord : List Nat) (g h : M (List U)) : M (List U) := mBind g fun us => mBind h fun zs => mPure (pick (.v .non) ord (us ++ zs))
def mCallK (n i j : Nat) (F : Fn) (ord : List Nat) (g h : M (List U)) : M U := mBind g fun us => if us.length = i then mBind h fun zs => if zs.length = j then (fun _ m => callV n F (pick (.v .non) ord (us ++ zs)) m) else stuck else stuck
section
variable {X : Cx} {W : WX} {E : XK} {e : Expr} {es : List Expr} {kws : List Keyword} {g h : M (List U)} {F : Fn} {k n i : Nat} {f : Addr} {fd : FuncData} {ps ks : List Str} {ord : List Nat} {x : Str} {p pos : Pos}
/-- keywords -/
theorem k_nil : PK X [] (rdA X W mNil) := by
  refine ⟨fun pos pins s σ H Q I hq => pk_nil.run pos pins s σ H Q I ?_⟩
  obtain ⟨B, φ, m, fr, S, r, m', e, hh⟩ := hq
  cases e
  exact hh H φ (.refl S.mem) [] .nil
theorem k_cons {f1 : M U} {nm : Option Str} {kpos : Pos} (h1 : PE X e (rdE X W f1)) (h2 : PK X kws (rdA X W g)) : PK X (⟨nm, e, kpos⟩ :: kws) (rdA X W (mCons f1 g)) := by
  refine ⟨fun pos pins s σ H Q I hq => (pk_cons h1 h2).run pos pins s σ H Q I ?_⟩
  obtain ⟨B, φ, m, fr, S, h0⟩ := hq
  unfold mCons at h0
  refine ⟨B, φ, m, fr, S, (h0.bind (R := rrU)).mono fun v H1 ⟨φ1, m1, u, n1, ru, hx⟩ => ⟨B, φ1, m1, fr, S.nxt n1, (hx.bind (R := rrUs)).mono fun vs H2 ⟨φ2, m2, us, n2, rus, hy⟩ => ?_⟩⟩
  exact rx.pure (R := rrUs) n2.ok hy (v :: vs) (.cons (ru.nxt n2) rus)
theorem e_callK (tk : Takes X (fun cls d _ H => E cls d H)) (FO : FnOk X.prog X.w X.K X.mg X.base (L2.CX X.prog X.w) k f fd ps (spF (cn X) n F)) (hr : Room k X.A) (hg : Gl X x) (hm : X.mg x = some (.ref f)) (hk : PySem.W.keepIn X.K (.ref f) = true)
    (hb : KBn X.K fd ps i ks (fun us ws => pick .none ord (us ++ ws)) (fun vs zs => pick .non ord (vs ++ zs))) (ha : PA X (e :: es) (rdA X (fun cls d _ H => E cls d H) g)) (hkw : PK X kws (rdA X (fun cls d _ H => E cls d H) h))
    (hall : (backToKw pos (keywordEach kws X.env)).all (·.1.isSome) = true := by rfl) (hks : (backToKw pos (keywordEach kws X.env)).filterMap (·.1) = ks := by rfl)
    (hdb : (x == ("__debug__" : Str)) = false := by decide) (he : starEach (e :: es) X.env = (false, eval e X.env) :: starEach es X.env := by rfl)
    (hpl : ((backTo pos (starEach (e :: es) X.env)).any (·.1) || (backToKw pos (keywordEach kws X.env)).any (·.1.isNone)) = false := by rfl) :
    PE X (.Call (.Name x p) (e :: es) kws pos) (rdE X (fun cls d _ H => E cls d H) (mCallK n i ks.length F ord g h)) := by
  refine PE.wk (pe_callN (CX := L2.CX X.prog X.w) (E := E) FO hr hg hm hk hb (fun pins σ H s e s' I c => tk e s' (XE.of_call I (fun _ _ _ h => h) c)) ha hkw hall hks hdb he hpl) fun σ H Q hq => ?_
  obtain ⟨B, φ, m, fr, S, h0⟩ := hq
  unfold mCallK at h0
  refine ⟨B, φ, m, fr, S, (h0.bind (R := rrUs)).mono fun vs H1 ⟨φ1, m1, us, n1, ru, hx⟩ => ?_⟩
  by_cases hi : us.length = i
  case neg =>
    rw [if_neg hi] at hx
    obtain ⟨r', m', e', h'⟩ := hx
    cases e'
  rw [if_pos hi] at hx
  refine ⟨B, φ1, m1, fr, S.nxt n1, (hx.bind (R := rrUs)).mono fun zs H2 ⟨φ2, m2, ws, n2, rz, hy⟩ => ?_⟩
  by_cases hj : ws.length = ks.length
  case neg =>
    rw [if_neg hj] at hy
    obtain ⟨r', m', e', h'⟩ := hy
    cases e'
  rw [if_pos hj] at hy
  refine ⟨by rw [ru.length]; exact hi, by rw [rz.length]; exact hj, ?_⟩
  exact spF.of n2.ok (rus_pick (rus_app (ru.nxt n2) rz) ord) (fun _ _ _ z => z) hy
end
/-! ### a class called with keywords alone -/
theorem pick_self {α : Type} (d x : α) (ord : List Nat) (l : List α) : pick d (0 :: ord.map (· + 1)) ([x] ++ l) = x :: pick d ord l := by
  unfold pick
  rw [List.map_cons, List.map_map]
  rfl
def mMakeK (cl : Str) (n j : Nat) (F : Fn) (ord : List Nat) (h : M (List U)) : M C := mBind h fun zs => if zs.length = j then (fun _ m => makeV cl n F (pick (.v .non) ord zs) m) else stuck
section
variable {X : Cx} {E : XK} {kws : List Keyword} {h : M (List U)} {F : Fn} {k n : Nat} {fa C : Addr} {fd : FuncData} {ps ks : List Str} {ord : List Nat} {cl : Str} {p pos : Pos}
theorem e_makeK (tk : Takes X (fun cls d _ H => E cls d H)) (mk : Mk X.K C fa) (FO : FnOk X.prog X.w X.K X.mg X.base (L2.CX X.prog X.w) k fa fd ps (spF (cn X) n F)) (hr : Room (k + 1) X.A) (hg : Gl X cl) (hm : X.mg cl = some (.ref C))
    (hb : KBn X.K fd ps 1 ks (fun us ws => pick .none (0 :: ord.map (· + 1)) (us ++ ws)) (fun vs zs => pick .non (0 :: ord.map (· + 1)) (vs ++ zs))) (hkw : PK X kws (rdA X (fun cls d _ H => E cls d H) h))
    (hall : (backToKw pos (keywordEach kws X.env)).all (·.1.isSome) = true := by rfl) (hks : (backToKw pos (keywordEach kws X.env)).filterMap (·.1) = ks := by rfl) (hdb : (cl == ("__debug__" : Str)) = false := by decide)
    (hpl : ((backTo pos (starEach [] X.env)).any (·.1) || (backToKw pos (keywordEach kws X.env)).any (·.1.isNone)) = false := by rfl) :
    PE X (.Call (.Name cl p) [] kws pos) (rdN X (fun cls d _ H => E cls d H) (mMakeK cl n ks.length F ord h)) := by
  refine PE.wk (pe_makeK0 (CX := L2.CX X.prog X.w) (E := E) mk FO hr hg hm hb (fun pins σ H s e s' I c => tk e s' (XE.of_call I (fun _ _ _ h => h) c)) hkw hall hks hdb hpl) fun σ H Q hq => ?_
  obtain ⟨B, φ, m, fr, S, r, m', e, hh⟩ := hq
  unfold mMakeK mBind at e
  show rdA X (fun cls d _ H => E cls d H) h σ H _
  refine ⟨B, φ, m, fr, S, ?_⟩
  cases q : h fr m with
  | none => rw [q] at e; cases e
  | some pq =>
    obtain ⟨r1, m1⟩ := pq
    rw [q] at e
    refine ⟨r1, m1, rfl, fun H1 φ1 n1 => ?_⟩
    cases r1 with
    | error x => cases e; exact hh H1 φ1 n1
    | ok us =>
      intro vs ru
      dsimp only at e
      by_cases hj : us.length = ks.length
      case neg => rw [if_neg hj] at e; cases e
      rw [if_pos hj] at e
      refine ⟨rfl, by rw [ru.length]; exact hj, fun x dx hx hdx ne => ?_⟩
      show spF (cn X) n F (pick .non (0 :: ord.map (· + 1)) ([.ref x] ++ vs)) _ _ _
      rw [pick_self]
      refine spF.make (W := fun cls d _ H => E cls d H) (σ := σ) hm n1.ok (rus_pick ru ord) (fun _ _ _ z => z) ⟨r, m', e, ?_⟩ x dx hx hdx ne
      cases r with
      | ok t => exact fun H' φ' q hq nn hc => hh H' φ' q (n1.fresh hq) (n1.transB hq nn) hc
      | error x => exact fun H' φ' nn => hh H' φ' (n1.trans nn)
end
end G

/-! G51: tuples that hold cells: made, handed back by a def. -/
namespace G
open PySem PySem.Spec PyProof.Rows L2
def isCl : U → Bool
  | .c _ => true
  | .v _ => false
theorem rus_ref {c : Cn} {H : Hp} {L : Addr → Prop} {φ : List Addr} : ∀ {vs : List V} {us : List U}, Rus c H L φ vs us → us.any isCl = true → hasRef vs
  | _, _, .nil, h => by cases h
  | _, _, @Rus.cons _ _ _ _ v u vs us r rs, h => by
    rw [List.any_cons, Bool.or_eq_true] at h
    rcases h with h | h
    · cases r with
      | v r => cases h
      | @c a i e => exact ⟨a, List.mem_cons_self ..⟩
    · obtain ⟨b, hb⟩ := rus_ref rs h
      exact ⟨b, List.mem_cons_of_mem _ hb⟩
theorem Rus.new {c : Cn} {B : Addr → Prop} {H : Hp} {φ : List Addr} {m : Mem} {q : Addr} {o : HO} {vs : List V} {us : List U} (hq : H q = none) (r : Rus c H (LL B φ m) φ vs us) : Rus c (upd H q o) (LL (Bq B q) φ m) φ vs us := r.mono pre0 fun a u nl e => by
  have ne := ne_of_none e hq
  refine ⟨fun z => ?_, u, by rw [upd_ne ne]; exact e, .inl rfl⟩
  rcases z with (z | z) | z
  · exact nl (.inl z)
  · exact ne z
  · exact nl (.inr z)
def mPr (f : M (List U)) : M C := mBind f fun us => if us.any isCl = true ∧ us.length ≤ 100 then mPure (.pr us) else stuck
section
variable {X : Cx} {W : WX} {es : List Expr} {f : M (List U)} {k : Nat} {pos : Pos}
theorem e_pr (h : PA X es (rdA X W f)) : PE X (.Tuple es k pos) (rdN X W (mPr f)) := by
  refine PE.wk (pe_tup h) fun σ H Q ⟨B, φ, m, fr, S, r, m', e, hh⟩ => ⟨B, φ, m, fr, S, ?_⟩
  unfold mPr mBind at e
  cases q : f fr m with
  | none => rw [q] at e; cases e
  | some pq =>
    obtain ⟨r1, m1⟩ := pq
    rw [q] at e
    refine ⟨r1, m1, rfl, fun H1 φ1 n1 => ?_⟩
    cases r1 with
    | error z => cases e; exact hh H1 φ1 n1
    | ok us =>
      intro vs rs
      dsimp only at e
      by_cases hc : us.any isCl = true ∧ us.length ≤ 100
      case neg => rw [if_neg hc] at e; cases e
      rw [if_pos hc] at e
      cases e
      have hr := rus_ref rs hc.1
      exact ⟨by rw [rs.length, sizeLine_eq]; omega, fun p hp => hh _ φ1 p (n1.fresh hp) (n1.new hp fun xs z => by cases z; exact hr) ⟨vs, upd_same, hr, rs.new hp⟩⟩
end
/-! ### a def that hands back (x, a new list), or None -/
def callP (n : Nat) (F : Fn) (us : List U) (m : Mem) : Res U :=
  if us.length = n ∧ (cellsOf us).Nodup then
    match F (renum 0 us) (ldM m (cellsOf us)) with
    | some (.ok (.c j), m1) => match m1[j]? with
      | some (some (.pr [.v t, .c i])) => match m1[i]? with
        | some (some (.t (.lst ts))) => if (cellsOf us).length ≤ j ∧ (cellsOf us).length ≤ i ∧ i ≠ j then some (.ok (.c (m.length + 1)), stM m (cellsOf us) ((m1.set j none).set i none) ++ [some (.t (.lst ts))] ++ [some (.pr [.v t, .c m.length])]) else none
        | _ => none
      | _ => none
    | some (.ok (.v .non), m1) => some (.ok (.v .non), stM m (cellsOf us) m1)
    | some (.error x, m1) => some (.error x, stM m (cellsOf us) m1)
    | _ => none
  else none
theorem spF.ofP {c : Cn} {W : WX} {B : Addr → Prop} {H : Hp} {φ : List Addr} {m : Mem} {σ : L2.St} {vs : List V} {us : List U} {n : Nat} {F : Fn} {Q : VK} {E : XK} (M : MOk c B H φ m) (ru : Rus c H (LL B φ m) φ vs us) (hE : ∀ cls d H, W cls d σ H → E cls d H)
    (h : rx rrU c W (callP n F us m) B H φ m σ Q) : spF c n F vs H Q E := by
  obtain ⟨r, m', e, h⟩ := h
  unfold callP at e
  split at e
  · rename_i hn
    have hl : (adrs vs us).length = (cellsOf us).length := (adrs_get ru).1
    refine ⟨by rw [ru.length]; exact hn.1, Bc B φ m (adrs vs us) (ldM m (cellsOf us)), adrs vs us, ldM m (cellsOf us), renum 0 us, M.call ru hn.2, ru.call, ?_⟩
    cases q : F (renum 0 us) (ldM m (cellsOf us)) with
    | none => rw [q] at e; cases e
    | some p =>
      obtain ⟨r1, m1⟩ := p
      rw [q] at e
      refine ⟨r1, m1, rfl, fun H' φ' nx => ?_⟩
      match r1, e with
      | .error x, e =>
        cases e
        obtain ⟨n2, ll⟩ := Nxt.call M ru hn.2 nx
        exact fun cls d xr => hE _ _ _ (h H' φ n2 cls d (xr.sub ll))
      | .ok (.v .non), e =>
        cases e
        obtain ⟨n2, ll⟩ := Nxt.call M ru hn.2 nx
        intro v rv
        cases rv with
        | v rv => exact h H' φ n2 v (.v (rv.sub ll))
      | .ok (.c j), e =>
        dsimp only at e
        split at e
        · rename_i t i hj
          split at e
          · rename_i ts hi2
            split at e
            · rename_i hc
              obtain ⟨hcj, hci, hij⟩ := hc
              cases e
              intro v rv
              cases rv with
              | @c a _ hi =>
                obtain ⟨ws, ea, hr, rw'⟩ := nx.ok.cel j a _ hi hj
                cases rw' with
                | @cons v1 _ ws' _ r1 rr =>
                  cases rr with
                  | @cons v2 _ ws'' _ r2 rn =>
                    cases rn
                    cases r2 with
                    | @c b _ hb =>
                      have fa : H a = none := nx.fr j a (by omega) hi
                      have fb : H b = none := nx.fr i b (by omega) hb
                      have ne : a ≠ b := fun z => by
                        subst z
                        exact hij (nx.ok.inj i j a _ _ hb hi hi2 hj)
                      have nla : ∀ x, H x = none → ¬ Lv (adrs vs us) (ldM m (cellsOf us)) x := fun x fx z => (M.call ru hn.2).lvt z fx
                      have hi3 : (m1.set j none)[i]? = some (some (.t (.lst ts))) := by rw [List.getElem?_set_ne fun z => hij z.symm]; exact hi2
                      have n6 := nx.lock hi hj
                      have n6' := n6.lock hb hi3
                      have cb := nx.ok.cel i b _ hb hi2
                      rw [← LL.lock nx.ok hi hj, ← LL.lock n6.ok hb hi3] at cb
                      cases r1 with
                      | v r1 =>
                        rw [← LL.lock nx.ok hi hj, ← LL.lock n6.ok hb hi3] at r1
                        rw [bq_bc (c := c) (H := H) (nla a fa), bq_bc (c := c) (H := H) (nla b fb)] at n6' cb r1
                        obtain ⟨n7, ll⟩ := Nxt.callB (B' := Bq (Bq B a) b) M ru hn.2 (fun x z => by
                          rcases z with (z | z) | z
                          · exact .inl z
                          · rw [z]; exact .inr fa
                          · rw [z]; exact .inr fb) n6'
                        have k2 : Cel c H' (LL (Bq (Bq B a) b) φ (stM m (cellsOf us) ((m1.set j none).set i none))) φ b (.t (.lst ts)) := Cel.re rfl (cb.mono pre0 (fun b o nl e => ⟨fun z => nl (ll b z), o, e, .inl rfl⟩) fun _ e => e)
                        have nb : ¬ Bq B a b := fun z => z.elim (M.noB fb) fun z => ne z.symm
                        have n8 := n7.cell nb fb k2
                        have l2 : ∀ x, LL (Bq B a) (φ ++ [b]) (stM m (cellsOf us) ((m1.set j none).set i none) ++ [some (.t (.lst ts))]) x → LL (Bq (Bq B a) b) φ (stM m (cellsOf us) ((m1.set j none).set i none)) x := fun x z => by
                          rcases z with z | z
                          · exact .inl (.inl z)
                          · rcases z.snoc n7.ok.len with z | z
                            · exact .inr z
                            · exact .inl (.inr z)
                        have hlen : φ.length = m.length := M.len
                        have k1 : Cel c H' (LL (Bq B a) (φ ++ [b]) (stM m (cellsOf us) ((m1.set j none).set i none) ++ [some (.t (.lst ts))])) (φ ++ [b]) a (.pr [.v t, .c m.length]) :=
                          ⟨_, ea, hr, .cons (.v (r1.mono fun x o nl e => ⟨fun z => nl (ll x (l2 x z)), o, e, .inl rfl⟩)) (.cons (.c (by rw [← hlen]; simp)) .nil)⟩
                        have n9 := n8.cell (M.noB fa) fa k1
                        exact h H' (φ ++ [b] ++ [a]) n9 _ (.c (by rw [← hlen]; simp))
            · cases e
          · cases e
        · cases e
  · cases e
def mCallP (n : Nat) (F : Fn) (g : M (List U)) : M U := mBind g fun us _ m => callP n F us m
section
variable {X : Cx} {W : WX} {e : Expr} {es : List Expr} {g : M (List U)} {F : Fn} {k n : Nat} {f : Addr} {fd : FuncData} {ps : List Str} {x : Str} {p pos : Pos}
theorem e_callP (tk : Takes X W) (FO : FnOk X.prog X.w X.K X.mg X.base (L2.CX X.prog X.w) k f fd ps (spF (cn X) n F)) (hr : Room k X.A) (hg : Gl X x) (hm : X.mg x = some (.ref f)) (hk : PySem.W.keepIn X.K (.ref f) = true) (hb : Binds X.K fd ps [])
    (ha : PA X (e :: es) (rdA X W g)) (hdb : (x == ("__debug__" : Str)) = false := by decide) (he : starEach (e :: es) X.env = (false, eval e X.env) :: starEach es X.env := by rfl) (hpl : (backTo pos (starEach es X.env)).any (·.1) = false := by rfl) :
    PE X (.Call (.Name x p) (e :: es) [] pos) (rdE X W (mCallP n F g)) := by
  refine PE.wk (pe_callSD (dvs := []) (E := WE W) FO hr hg hm hk hb .nil (fun σ => passAt tk σ) ha hdb he hpl) fun σ H Q h => ?_
  obtain ⟨B, φ, m, fr, S, h⟩ := rd.bind (R := rrUs) h
  exact ⟨B, φ, m, fr, S, h.mono fun vs H1 ⟨B, φ1, m1, fr, us, S1, ru, h1⟩ => by rw [List.append_nil]; exact spF.ofP S1.mem ru (fun _ _ _ z => z) h1⟩
end
end G

/-! G52: tuples that hold cells: read, compared, taken apart; a def's pair as a tree; dict(list of pairs), l.index(x). -/
namespace G
open PySem PySem.Spec PySem.W PyProof.Rows L2
/-! ### the pair that a def hands back, as a tree -/
def callPF (n : Nat) (F : Fn) (us : List U) (m : Mem) : Res U :=
  if us.length = n ∧ (cellsOf us).Nodup then
    match F (renum 0 us) (ldM m (cellsOf us)) with
    | some (.ok (.c j), m1) => match m1[j]? with
      | some (some (.pr [.v t, .c i])) => match m1[i]? with
        | some (some (.t (.lst ts))) => if (cellsOf us).length ≤ j ∧ (cellsOf us).length ≤ i ∧ i ≠ j then some (.ok (.v (.tup [t, .lst ts])), stM m (cellsOf us) ((m1.set j none).set i none)) else none
        | _ => none
      | _ => none
    | some (.ok (.v .non), m1) => some (.ok (.v .non), stM m (cellsOf us) m1)
    | some (.error x, m1) => some (.error x, stM m (cellsOf us) m1)
    | _ => none
  else none
theorem spF.ofPF {c : Cn} {W : WX} {B : Addr → Prop} {H : Hp} {φ : List Addr} {m : Mem} {σ : L2.St} {vs : List V} {us : List U} {n : Nat} {F : Fn} {Q : VK} {E : XK} (M : MOk c B H φ m) (ru : Rus c H (LL B φ m) φ vs us) (hE : ∀ cls d H, W cls d σ H → E cls d H)
    (h : rx rrU c W (callPF n F us m) B H φ m σ Q) : spF c n F vs H Q E := by
  obtain ⟨r, m', e, h⟩ := h
  unfold callPF at e
  split at e
  · rename_i hn
    have hl : (adrs vs us).length = (cellsOf us).length := (adrs_get ru).1
    refine ⟨by rw [ru.length]; exact hn.1, Bc B φ m (adrs vs us) (ldM m (cellsOf us)), adrs vs us, ldM m (cellsOf us), renum 0 us, M.call ru hn.2, ru.call, ?_⟩
    cases q : F (renum 0 us) (ldM m (cellsOf us)) with
    | none => rw [q] at e; cases e
    | some p =>
      obtain ⟨r1, m1⟩ := p
      rw [q] at e
      refine ⟨r1, m1, rfl, fun H' φ' nx => ?_⟩
      match r1, e with
      | .error x, e =>
        cases e
        obtain ⟨n2, ll⟩ := Nxt.call M ru hn.2 nx
        exact fun cls d xr => hE _ _ _ (h H' φ n2 cls d (xr.sub ll))
      | .ok (.v .non), e =>
        cases e
        obtain ⟨n2, ll⟩ := Nxt.call M ru hn.2 nx
        intro v rv
        cases rv with
        | v rv => exact h H' φ n2 v (.v (rv.sub ll))
      | .ok (.c j), e =>
        dsimp only at e
        split at e
        · rename_i t i hj
          split at e
          · rename_i ts hi2
            split at e
            · rename_i hc
              obtain ⟨hcj, hci, hij⟩ := hc
              cases e
              intro v rv
              cases rv with
              | @c a _ hi =>
                obtain ⟨ws, ea, hr, rw'⟩ := nx.ok.cel j a _ hi hj
                cases rw' with
                | @cons v1 _ ws' _ r1 rr =>
                  cases rr with
                  | @cons v2 _ ws'' _ r2 rn =>
                    cases rn
                    cases r2 with
                    | @c b _ hb =>
                      have fa : H a = none := nx.fr j a (by omega) hi
                      have fb : H b = none := nx.fr i b (by omega) hb
                      have nla : ∀ x, H x = none → ¬ Lv (adrs vs us) (ldM m (cellsOf us)) x := fun x fx z => (M.call ru hn.2).lvt z fx
                      have hi3 : (m1.set j none)[i]? = some (some (.t (.lst ts))) := by rw [List.getElem?_set_ne fun z => hij z.symm]; exact hi2
                      have n6 := nx.lock hi hj
                      have n6' := n6.lock hb hi3
                      have cb := nx.ok.cel i b _ hb hi2
                      rw [← LL.lock nx.ok hi hj, ← LL.lock n6.ok hb hi3] at cb
                      cases r1 with
                      | v r1 =>
                        rw [← LL.lock nx.ok hi hj, ← LL.lock n6.ok hb hi3] at r1
                        rw [bq_bc (c := c) (H := H) (nla a fa), bq_bc (c := c) (H := H) (nla b fb)] at n6' cb r1
                        obtain ⟨n7, ll⟩ := Nxt.callB (B' := Bq (Bq B a) b) M ru hn.2 (fun x z => by
                          rcases z with (z | z) | z
                          · exact .inl z
                          · rw [z]; exact .inr fa
                          · rw [z]; exact .inr fb) n6'
                        have ap : ∀ x, H x = none → Bq (Bq B a) b x → ¬ LL B φ (stM m (cellsOf us) ((m1.set j none).set i none)) x := fun x fx bx z => by
                          rcases z with z | ⟨k, t', e1, e2⟩
                          · exact M.noB fx z
                          · exact n7.ok.nb k x t' e1 e2 bx
                        obtain ⟨ws2, eb, rs2⟩ := cb
                        have up : ∀ x o, ¬ LL (Bc (Bq (Bq B a) b) φ m (adrs vs us) (ldM m (cellsOf us))) φ' ((m1.set j none).set i none) x → H' x = some o → ¬ LL B φ (stM m (cellsOf us) ((m1.set j none).set i none)) x ∧ ∃ o', H' x = some o' ∧ KeepO o o' := fun x o nl e =>
                          ⟨fun z => nl (ll x (LL.unBq (LL.unBq z))), o, e, .inl rfl⟩
                        exact h H' φ n7.unB.unB _ (.v (.tup (ap a fa (.inl (.inr rfl))) ea (.cons (r1.mono up) (.cons (.lst (ap b fb (.inr rfl)) eb (rs2.mono up)) .nil))))
            · cases e
          · cases e
        · cases e
  · cases e
def mCallPF (n : Nat) (F : Fn) (g : M (List U)) : M U := mBind g fun us _ m => callPF n F us m
section
variable {X : Cx} {W : WX} {e : Expr} {es : List Expr} {g : M (List U)} {F : Fn} {k n : Nat} {f : Addr} {fd : FuncData} {ps : List Str} {x : Str} {p pos : Pos}
theorem e_callPF (tk : Takes X W) (FO : FnOk X.prog X.w X.K X.mg X.base (L2.CX X.prog X.w) k f fd ps (spF (cn X) n F)) (hr : Room k X.A) (hg : Gl X x) (hm : X.mg x = some (.ref f)) (hk : PySem.W.keepIn X.K (.ref f) = true) (hb : Binds X.K fd ps [])
    (ha : PA X (e :: es) (rdA X W g)) (hdb : (x == ("__debug__" : Str)) = false := by decide) (he : starEach (e :: es) X.env = (false, eval e X.env) :: starEach es X.env := by rfl) (hpl : (backTo pos (starEach es X.env)).any (·.1) = false := by rfl) :
    PE X (.Call (.Name x p) (e :: es) [] pos) (rdE X W (mCallPF n F g)) := by
  refine PE.wk (pe_callSD (dvs := []) (E := WE W) FO hr hg hm hk hb .nil (fun σ => passAt tk σ) ha hdb he hpl) fun σ H Q h => ?_
  obtain ⟨B, φ, m, fr, S, h⟩ := rd.bind (R := rrUs) h
  exact ⟨B, φ, m, fr, S, h.mono fun vs H1 ⟨B, φ1, m1, fr, us, S1, ru, h1⟩ => by rw [List.append_nil]; exact spF.ofPF S1.mem ru (fun _ _ _ z => z) h1⟩
end
/-! ### what such a tuple holds -/
/-- a tuple that holds cells, one step deep -/
def derefP (m : Mem) : U → Option T
  | .c j => match m[j]? with
    | some (some (.pr us)) => match derefs m us with
      | some ts => some (.tup ts)
      | none => none
    | some (some ct) => toT ct
    | _ => none
  | .v t => some t
def isTupT : T → Bool
  | .tup _ => true
  | _ => false
theorem Vws.dp {c : Cn} {H : Hp} {L : Addr → Prop} {n : Nat} : ∀ {xs : List V} {ts : List T}, Vws c H L xs ts → (∀ t ∈ ts, okD n t = true) → DpAll c.K H xs (toDs ts)
  | _, _, .nil, _ => .nil
  | _, _, .cons a r, h => .cons (a.dp (h _ (List.mem_cons_self ..))) (r.dp fun t ht => h t (List.mem_cons_of_mem _ ht))
theorem Ru.dpP {c : Cn} {B : Addr → Prop} {H : Hp} {φ : List Addr} {m : Mem} {x : V} {u : U} {t : T} {n : Nat} (M : MOk c B H φ m) (r : Ru c H (LL B φ m) φ x u) (h : derefP m u = some t) (ok : okD n t = true) : Dp c.K H x (toD t) := by
  cases r with
  | v r => cases h; exact r.dp ok
  | @c a j e =>
    unfold derefP at h
    dsimp only at h
    split at h
    · rename_i us hm
      split at h
      · rename_i ts hd
        cases h
        obtain ⟨vs, ea, hr, rs⟩ := M.cel j a _ e hm
        have vw := rs.vws M hd
        cases n with
        | zero => simp [okD] at ok
        | succ n => exact .tup (.of ea) (vw.dp (n := n) (by simpa [okD] using ok))
      · cases h
    · rename_i ct hm
      have vw : Vw c H (LL B φ m) (.ref a) t := (Ru.c (H := H) (c := c) (L := LL B φ m) e).vw M (by simp only [deref, hm]; exact h)
      exact vw.dp ok
    · cases h
/-- a != b -/
def neC : U → U → Mem → Option (U × Mem) := fun a b m => match derefP m a, derefP m b with
  | some x, some y => if okD 64 x && okD 64 y then some (.v (.bl (!eqT x y)), m) else none
  | _, _ => none
/-- a is None, a is not None -/
def isNC : U → U → Mem → Option (U × Mem) := fun a b m => match a, b with
  | .c _, .v .non => some (.v (.bl false), m)
  | .v t, .v .non => some (.v (.bl (isNon t)), m)
  | _, _ => none
def isNotNC : U → U → Mem → Option (U × Mem) := fun a b m => match a, b with
  | .c _, .v .non => some (.v (.bl true), m)
  | .v t, .v .non => some (.v (.bl (!isNon t)), m)
  | _, _ => none
/-- a[i] -/
def ixC : U → U → Mem → Option (U × Mem) := fun a b m => match a, b with
  | .c j, .v (.int i) => match m[j]? with
    | some (some (.pr us)) => match L2.atI us i with
      | some u => some (u, m)
      | none => none
    | _ => pv2 ixP a b m
  | _, _ => pv2 ixP a b m
theorem atI_rus {c : Cn} {H : Hp} {L : Addr → Prop} {φ : List Addr} {vs : List V} {us : List U} {i : Int} {u : U} (r : Rus c H L φ vs us) (h : L2.atI us i = some u) : ∃ v, L2.atI vs i = some v ∧ Ru c H L φ v u := by
  have hl : vs.length = us.length := r.length
  have g : ∀ {vs : List V} {us : List U} {k : Nat} {u : U}, Rus c H L φ vs us → us[k]? = some u → ∃ v, vs[k]? = some v ∧ Ru c H L φ v u := by
    intro vs us k u r
    induction r generalizing k with
    | nil => intro e; simp at e
    | cons a r ih =>
      intro e
      cases k with
      | zero => simp at e; subst e; exact ⟨_, rfl, a⟩
      | succ k => simpa using ih (by simpa using e)
  unfold L2.atI at h ⊢
  rw [hl]
  cases q : ixN us.length i with
  | none => rw [q] at h; cases h
  | some k =>
    rw [q] at h
    exact g r h
section
variable {X : Cx} {W : WX}
theorem op_neC (hu : X.A.units + 64 < cLine) : OpR X (compareOp .NotEq) (r2 (cn X) neC) := fun pins s σ H x y v u Q inv r1 r2 ⟨B, φ, m, a, b, M, ra, rb, w, m', e, h⟩ => by
  unfold neC at e
  split at e
  · rename_i x' y' h1 h2
    split at e
    · rename_i hc
      cases e
      rw [Bool.and_eq_true] at hc
      exact op_neD hu pins s σ H _ _ v u Q inv r1 r2 ⟨_, _, ra.dpP M h1 hc.1, rb.dpP M h2 hc.2, okD_shaped hc.1, okD_shaped hc.2, h H φ (.refl M) _ (.v (.bl _))⟩
    · cases e
  · cases e
theorem op_isNC : OpR X (compareOp .Is) (r2 (cn X) isNC) := fun pins s σ H x y v u Q inv r1 r2 ⟨B, φ, m, a, b, M, ra, rb, w, m', e, h⟩ => by
  unfold isNC at e
  split at e
  · cases e
    cases rb with
    | v rb =>
      cases rb
      cases ra with
      | c ea => exact op_isN pins s σ H _ _ v u Q inv r1 r2 ⟨rfl, h H φ (.refl M) _ (.v (.bl _))⟩
  · rename_i t
    cases e
    cases rb with
    | v rb =>
      cases rb
      cases ra with
      | v ra =>
        refine op_isN pins s σ H _ _ v u Q inv r1 r2 ⟨rfl, ?_⟩
        rw [(show Vw (cn X) H (LL B φ m) x t from .inl ra).isN]
        exact h H φ (.refl M) _ (.v (.bl _))
  · cases e
theorem op_isNotNC : OpR X (compareOp .IsNot) (r2 (cn X) isNotNC) := fun pins s σ H x y v u Q inv r1 r2 ⟨B, φ, m, a, b, M, ra, rb, w, m', e, h⟩ => by
  unfold isNotNC at e
  split at e
  · cases e
    cases rb with
    | v rb =>
      cases rb
      cases ra with
      | c ea => exact op_notN pins s σ H _ _ v u Q inv r1 r2 ⟨rfl, h H φ (.refl M) _ (.v (.bl _))⟩
  · rename_i t
    cases e
    cases rb with
    | v rb =>
      cases rb
      cases ra with
      | v ra =>
        refine op_notN pins s σ H _ _ v u Q inv r1 r2 ⟨rfl, ?_⟩
        rw [(show Vw (cn X) H (LL B φ m) x t from .inl ra).isN]
        exact h H φ (.refl M) _ (.v (.bl _))
  · cases e
theorem ix_C : IxR X (r2 (cn X) ixC) := by
  intro value slice pins s σ H x y v u Q inv r1 r2 ⟨B, φ, m, a, b, M, ra, rb, h⟩ hs
  have old : ixC a b m = pv2 ixP a b m → wpAny (model X.prog X.w) X.A (subscriptTail value slice v u) (EP X pins σ Q) X.xe s := fun z =>
    ix_T value slice pins s σ H x y v u Q inv r1 r2 ⟨B, φ, m, a, b, M, ra, rb, by rw [← z]; exact h⟩ hs
  match a, b with
  | .c j, .v (.int i) =>
    cases q : m[j]? with
    | none => exact old (by simp [ixC, q])
    | some o =>
      match o, q with
      | none, q => exact old (by simp [ixC, q])
      | some (.t t), q => exact old (by simp [ixC, q])
      | some (.ins n fs), q => exact old (by simp [ixC, q])
      | some (.pr us), q =>
        obtain ⟨w, m', e, h⟩ := h
        simp only [ixC, q] at e
        split at e
        · rename_i u' hu
          cases e
          cases ra with
          | @c p _ ep =>
            cases rb with
            | v rb =>
              cases rb
              obtain ⟨vs, ea, hr, rs⟩ := M.cel j p _ ep q
              obtain ⟨z, ez, rz⟩ := atI_rus rs hu
              exact ix_tup value slice pins s σ H _ _ v u Q inv r1 r2 ⟨p, vs, i, z, rfl, rfl, .of ea, ez, h H φ (.refl M) _ rz⟩ hs
        · cases e
  | .c j, .c i => exact old rfl
  | .v t, b => exact old rfl
  | .c j, .v (.non) => exact old rfl
  | .c j, .v (.bl _) => exact old rfl
  | .c j, .v (.str _) => exact old rfl
  | .c j, .v (.tup _) => exact old rfl
  | .c j, .v (.lst _) => exact old rfl
  | .c j, .v (.rol _) => exact old rfl
  | .c j, .v (.rot _) => exact old rfl
  | .c j, .v (.dK _) => exact old rfl
  | .c j, .v (.dT _) => exact old rfl
  | .c j, .v (.ins _ _) => exact old rfl
  | .c j, .v (.exc _ _) => exact old rfl
theorem e_ixC {a b : Expr} {f g : M U} {pos : Pos} (ha : PE X a (rdE X W f)) (hb : PE X b (rdE X W g)) (hi : PlainIx b) : PE X (.Subscript a b pos) (rdE X W (mOp2 ixC f g)) := PE.wk (pe_ix ix_C ha hb hi) fun _ _ _ h => rd.op2 h
end
/-! ### dict(a list of pairs) -/
def pairKT : T → Option (Key × T)
  | .tup [k, t] => match keyT k with
    | some k => some (k, t)
    | none => none
  | _ => none
def pairsKT : List T → Option (List (Key × T))
  | [] => some []
  | t :: ts => match pairKT t, pairsKT ts with
    | some p, some ps => some (p :: ps)
    | _, _ => none
def mergeT (acc more : List (Key × T)) : List (Key × T) := more.foldl (fun acc kv => putT acc kv.1 kv.2) acc
theorem merge_rel {c : Cn} {H : Hp} {L : Addr → Prop} : ∀ {more : List (Key × V)} {moreT : List (Key × T)} {kvs : List (Key × V)} {kts : List (Key × T)}, kvs.map (·.1) = kts.map (·.1) → Rps c H L (kvs.map (·.2)) (kts.map (·.2)) →
    more.map (·.1) = moreT.map (·.1) → Rps c H L (more.map (·.2)) (moreT.map (·.2)) → (mergeK kvs more).map (·.1) = (mergeT kts moreT).map (·.1) ∧ Rps c H L ((mergeK kvs more).map (·.2)) ((mergeT kts moreT).map (·.2))
  | [], [], _, _, h1, h2, _, _ => ⟨h1, h2⟩
  | [], _ :: _, _, _, _, _, h, _ => by simp at h
  | _ :: _, [], _, _, _, _, h, _ => by simp at h
  | (k, v) :: more, (k', t) :: moreT, kvs, kts, h1, h2, h3, h4 => by
    simp only [List.map_cons, List.cons.injEq] at h3
    obtain ⟨rfl, h3⟩ := h3
    cases h4 with
    | cons r rs =>
      obtain ⟨q1, q2⟩ := put_rel h1 h2 r (k := k)
      exact merge_rel (kvs := putK kvs k v) (kts := putT kts k t) q1 q2 h3 rs
theorem pairs_rel {c : Cn} {H : Hp} {L : Addr → Prop} : ∀ {vs : List V} {ts : List T} {kts : List (Key × T)}, Rps c H L vs ts → pairsKT ts = some kts →
    ∃ (ps : List Addr) (kvs : List (Key × V)), vs = ps.map V.ref ∧ Paired (fun p kv => SqT c.K H p [kV kv.1, kv.2]) ps kvs ∧ kvs.map (·.1) = kts.map (·.1) ∧ Rps c H L (kvs.map (·.2)) (kts.map (·.2))
  | _, _, _, .nil, h => by cases h; exact ⟨[], [], rfl, .nil, rfl, .nil⟩
  | _, _, _, @Rps.cons _ _ _ v t vs ts r rs, h => by
    unfold pairsKT at h
    split at h
    · rename_i p ps h1 h2
      cases h
      obtain ⟨as, kvs, e1, e2, e3, e4⟩ := pairs_rel rs h2
      unfold pairKT at h1
      split at h1
      · rename_i kt t
        split at h1
        · rename_i k hk
          cases h1
          cases r with
          | @tup a ws _ nl ea rr =>
            cases rr with
            | @cons v1 _ ws1 _ r1 rr =>
              cases rr with
              | @cons v2 _ ws2 _ r2 rn =>
                cases rn
                have := keyT_rel r1 hk
                subst this
                exact ⟨a :: as, (k, v2) :: kvs, by rw [e1]; rfl, .cons (.of ea) e2, by simp [e3], .cons r2 e4⟩
        · cases h1
      · cases h1
    · cases h
def mDictP (f : M U) : M C := mBind f fun u _ m => match deref m u with
  | some (.lst ts) => match pairsKT ts with
    | some kts => some (.ok (.t (.dK (mergeT [] kts))), m)
    | none => none
  | _ => none
section
variable {X : Cx} {W : WX} {e : Expr} {f : M U} {p pos : Pos}
theorem e_dictP (hc : X.calm = true) (hg : Gl X "dict") (hm : X.mg "dict" = none) (ha : PE X e (rdE X W f)) (he : starEach [e] X.env = (false, eval e X.env) :: starEach [] X.env := by rfl) (hpl : (backTo pos (starEach [] X.env)).any (·.1) = false := by rfl) :
    PE X (.Call (.Name "dict" p) [e] [] pos) (rdN X W (mDictP f)) := by
  refine PE.wk (pe_callTy (call_dictP hc) hg hm (by decide +kernel) (pa_cons ha pa_nil he) (by decide) (by decide) he hpl) fun σ H Q ⟨B, φ, m, fr, S, r, m', e, hh⟩ => ⟨B, φ, m, fr, S, ?_⟩
  unfold mDictP mBind at e
  cases q : f fr m with
  | none => rw [q] at e; cases e
  | some pq =>
    obtain ⟨r1, m1⟩ := pq
    rw [q] at e
    refine ⟨r1, m1, rfl, fun H1 φ1 n1 => ?_⟩
    cases r1 with
    | error z => cases e; exact hh H1 φ1 n1
    | ok u =>
      intro v rv
      dsimp only at e
      split at e
      · rename_i ts hd
        split at e
        · rename_i kts hk
          cases e
          obtain ⟨a, vs, rfl, ea, rs⟩ := (rv.vw n1.ok hd).lst
          obtain ⟨ps, kvs, e1, e2, e3, e4⟩ := pairs_rel rs hk
          subst e1
          refine ⟨a, ps, kvs, rfl, .of ea, e2, fun b hb => ?_⟩
          obtain ⟨q1, q2⟩ := merge_rel (kvs := []) (kts := []) rfl .nil e3 e4
          exact hh _ φ1 b (n1.fresh hb) (n1.new hb) ⟨_, upd_same, q1, q2.new hb⟩
        · cases e
      · cases e
end
/-! ### l.index(x) of ints -/
def findI (n : Int) : List Int → Nat → Option Nat
  | [], _ => none
  | k :: ks, j => if k = n then some j else findI n ks (j + 1)
theorem findI_some {n : Int} : ∀ {ks : List Int} {j k : Nat}, findI n ks j = some k → ∃ i, k = j + i ∧ ks[i]? = some n ∧ ∀ i' z, i' < i → ks[i']? = some z → z ≠ n
  | k0 :: ks, j, k, h => by
    unfold findI at h
    split at h
    · rename_i e
      cases h
      exact ⟨0, rfl, by simp [e], fun i' z h => absurd h (by omega)⟩
    · rename_i e
      obtain ⟨i, h1, h2, h3⟩ := findI_some h
      refine ⟨i + 1, by omega, by simpa using h2, fun i' z hi hz => ?_⟩
      cases i' with
      | zero => simp at hz; subst hz; exact e
      | succ i' => exact h3 i' z (by omega) (by simpa using hz)
def idxP : T → T → Option T
  | .lst ts, .int n => match allI ts with
    | some ns => match findI n ns 0 with
      | some j => some (.int (j : Nat))
      | none => none
    | none => none
  | _, _ => none
def pIndex : U → List U → Mem → Option (U × Mem) := fun u us m => match deref m u, us with
  | some t, [w] => match deref m w with
    | some x => match idxP t x with
      | some r => some (.v r, m)
      | none => none
    | none => none
  | _, _ => none
section
variable {X : Cx}
theorem mt_indexT : MtR X "list.index" (rMt (cn X) pIndex) := fun pins s σ H x xs v us Q inv r1 r2 ⟨B, φ, m, u, ws, M, ru, rus, w, m', e, h⟩ => by
  unfold pIndex at e
  split at e
  · rename_i t w' hd
    split at e
    · rename_i x' hx
      split at e
      · rename_i r hr
        cases e
        unfold idxP at hr
        split at hr
        · rename_i ts n
          split at hr
          · rename_i ns hns
            split at hr
            · rename_i j hj
              cases hr
              cases rus with
              | @cons y _ _ _ ry rn =>
                cases rn
                obtain ⟨a, vs, rfl, ea, rs⟩ := (ru.vw M hd).lst
                cases (ry.vw M hx).int
                obtain ⟨i, h1, h2, h3⟩ := findI_some hj
                have hji : j = i := by omega
                subst hji
                have ev := (allI_rel rs hns).1
                refine mt_index pins s σ H _ _ v us Q inv r1 r2 ⟨a, vs, .int n, j, .int n, rfl, rfl, .of ea, rfl, ?_, ?_, ?_, ?_, h H φ (.refl M) _ (.v (.int _))⟩
                · rw [ev]; simp [flatV]
                · rw [ev, List.getElem?_map, h2]; rfl
                · simp [eqV]
                · intro k z hk hz
                  rw [ev, List.getElem?_map] at hz
                  cases q : ns[k]? with
                  | none => rw [q] at hz; cases hz
                  | some z' =>
                    rw [q] at hz
                    cases hz
                    have := h3 k z' hk q
                    simp [eqV, this]
            · cases hr
          · cases hr
        · cases hr
      · cases e
    · cases e
  · cases e
end
end G

/-! G53: steps by continuations for G51, G52. -/
namespace G
open PySem L2
section
variable {fr : Fr} {m : Mem} {x : Xc}
def kPr (Q : QE C) : QE (List U) := onOk Q fun us m => (us.any isCl = true ∧ us.length ≤ 100) ∧ Q (.ok (.pr us)) m
@[simp] theorem kPr_ok {Q : QE C} {us : List U} : kPr Q (.ok us) m ↔ (us.any isCl = true ∧ us.length ≤ 100) ∧ Q (.ok (.pr us)) m := Iff.rfl
@[simp] theorem kPr_er {Q : QE C} : kPr Q (.error x) m = Q (.error x) m := rfl
@[simp] theorem w_pr {f : M (List U)} {Q : QE C} : wE (mPr f) fr m Q ↔ wE f fr m (kPr Q) := by
  unfold mPr
  rw [wE_bind]
  refine wE_on fun us m1 => ?_
  by_cases h : us.any isCl = true ∧ us.length ≤ 100
  · rw [if_pos h, wE_pure]; exact ⟨fun z => ⟨h, z⟩, fun z => z.2⟩
  · rw [if_neg h, wE_stuck]; exact ⟨False.elim, fun z => h z.1⟩
def retP (us : List U) (m : Mem) (Q : QE U) : QE U
  | .ok (.c j), m1 => ∃ t i ts, m1[j]? = some (some (.pr [.v t, .c i])) ∧ m1[i]? = some (some (.t (.lst ts))) ∧ ((cellsOf us).length ≤ j ∧ (cellsOf us).length ≤ i ∧ i ≠ j) ∧ Q (.ok (.c (m.length + 1))) (stM m (cellsOf us) ((m1.set j none).set i none) ++ [some (.t (.lst ts))] ++ [some (.pr [.v t, .c m.length])])
  | .ok (.v .non), m1 => Q (.ok (.v .non)) (stM m (cellsOf us) m1)
  | .ok (.v _), _ => False
  | .error x, m1 => Q (.error x) (stM m (cellsOf us) m1)
def wCP (n : Nat) (F : Fn) (us : List U) (m : Mem) (Q : QE U) : Prop := wR (callP n F us m) Q
def kCallP (n : Nat) (F : Fn) (Q : QE U) : QE (List U) := onOk Q fun us m' => wCP n F us m' Q
@[simp] theorem kCallP_ok {n : Nat} {F : Fn} {Q : QE U} {us : List U} : kCallP n F Q (.ok us) m = wCP n F us m Q := rfl
@[simp] theorem kCallP_er {n : Nat} {F : Fn} {Q : QE U} : kCallP n F Q (.error x) m = Q (.error x) m := rfl
@[simp] theorem w_callP {n : Nat} {F : Fn} {g : M (List U)} {Q : QE U} : wE (mCallP n F g) fr m Q ↔ wE g fr m (kCallP n F Q) := by
  unfold mCallP; rw [wE_bind]; rfl
theorem w_CP {n : Nat} {F : Fn} {us : List U} {Q : QE U} (hl : us.length = n) (nd : (cellsOf us).Nodup) (h : wF F (renum 0 us) (ldM m (cellsOf us)) (retP us m Q)) : wCP n F us m Q := by
  obtain ⟨r, m1, e, h⟩ := h
  unfold wCP callP
  rw [if_pos ⟨hl, nd⟩, e]
  match r, h with
  | .error x, h => exact ⟨_, _, rfl, h⟩
  | .ok (.v .non), h => exact ⟨_, _, rfl, h⟩
  | .ok (.c j), ⟨t, i, ts, h1, h2, h3, h⟩ =>
    dsimp only
    rw [h1]
    dsimp only
    rw [h2]
    dsimp only
    rw [if_pos h3]
    exact ⟨_, _, rfl, h⟩
def retPF (us : List U) (m : Mem) (Q : QE U) : QE U
  | .ok (.c j), m1 => ∃ t i ts, m1[j]? = some (some (.pr [.v t, .c i])) ∧ m1[i]? = some (some (.t (.lst ts))) ∧ ((cellsOf us).length ≤ j ∧ (cellsOf us).length ≤ i ∧ i ≠ j) ∧ Q (.ok (.v (.tup [t, .lst ts]))) (stM m (cellsOf us) ((m1.set j none).set i none))
  | .ok (.v .non), m1 => Q (.ok (.v .non)) (stM m (cellsOf us) m1)
  | .ok (.v _), _ => False
  | .error x, m1 => Q (.error x) (stM m (cellsOf us) m1)
def wCPF (n : Nat) (F : Fn) (us : List U) (m : Mem) (Q : QE U) : Prop := wR (callPF n F us m) Q
def kCallPF (n : Nat) (F : Fn) (Q : QE U) : QE (List U) := onOk Q fun us m' => wCPF n F us m' Q
@[simp] theorem kCallPF_ok {n : Nat} {F : Fn} {Q : QE U} {us : List U} : kCallPF n F Q (.ok us) m = wCPF n F us m Q := rfl
@[simp] theorem kCallPF_er {n : Nat} {F : Fn} {Q : QE U} : kCallPF n F Q (.error x) m = Q (.error x) m := rfl
@[simp] theorem w_callPF {n : Nat} {F : Fn} {g : M (List U)} {Q : QE U} : wE (mCallPF n F g) fr m Q ↔ wE g fr m (kCallPF n F Q) := by
  unfold mCallPF; rw [wE_bind]; rfl
theorem w_CPF {n : Nat} {F : Fn} {us : List U} {Q : QE U} (hl : us.length = n) (nd : (cellsOf us).Nodup) (h : wF F (renum 0 us) (ldM m (cellsOf us)) (retPF us m Q)) : wCPF n F us m Q := by
  obtain ⟨r, m1, e, h⟩ := h
  unfold wCPF callPF
  rw [if_pos ⟨hl, nd⟩, e]
  match r, h with
  | .error x, h => exact ⟨_, _, rfl, h⟩
  | .ok (.v .non), h => exact ⟨_, _, rfl, h⟩
  | .ok (.c j), ⟨t, i, ts, h1, h2, h3, h⟩ =>
    dsimp only
    rw [h1]
    dsimp only
    rw [h2]
    dsimp only
    rw [if_pos h3]
    exact ⟨_, _, rfl, h⟩
def kDp2 (m : Mem) (Q : QE C) : List (Key × T) → Prop := fun kts => Q (.ok (.t (.dK (mergeT [] kts)))) m
@[simp] theorem kDp2_eq {Q : QE C} {kts : List (Key × T)} : kDp2 m Q kts = Q (.ok (.t (.dK (mergeT [] kts)))) m := rfl
def kDp1 (m : Mem) (Q : QE C) : T → Prop
  | .lst ts => wO (pairsKT ts) (kDp2 m Q)
  | _ => False
@[simp] theorem kDp1_eq {Q : QE C} {ts : List T} : kDp1 m Q (.lst ts) = wO (pairsKT ts) (kDp2 m Q) := rfl
def kDp (Q : QE C) : QE U := onOk Q fun u m => wO (deref m u) (kDp1 m Q)
@[simp] theorem kDp_ok {Q : QE C} {u : U} : kDp Q (.ok u) m = wO (deref m u) (kDp1 m Q) := rfl
@[simp] theorem kDp_er {Q : QE C} : kDp Q (.error x) m = Q (.error x) m := rfl
@[simp] theorem w_dictP {f : M U} {Q : QE C} : wE (mDictP f) fr m Q ↔ wE f fr m (kDp Q) := by
  unfold mDictP
  rw [wE_bind]
  refine wE_on fun u m1 => ?_
  show wR (match deref m1 u with
    | some (.lst ts) => match pairsKT ts with
      | some kts => some (.ok (.t (.dK (mergeT [] kts))), m1)
      | none => none
    | _ => none) Q ↔ _
  generalize deref m1 u = o
  match o with
  | none => simp only [wR_none, wO_none]
  | some (.lst ts) =>
    simp only [wO_some, kDp1]
    generalize pairsKT ts = p
    cases p with
    | none => simp only [wR_none, wO_none]
    | some kts => simp only [wR_some, wO_some, kDp2]
  | some .non | some (.bl _) | some (.int _) | some (.str _) | some (.tup _) | some (.rol _) | some (.rot _) | some (.dK _) | some (.dT _) | some (.ins _ _) | some (.exc _ _) => simp only [wR_none, wO_some, kDp1]
end
/-! ### plain facts of dict(pairs), index -/
theorem mergeT_new : ∀ {more : List (Key × T)} {acc : List (Key × T)}, (∀ e ∈ acc, ∀ e' ∈ more, e.1 ≠ e'.1) → (more.map (·.1)).Nodup → mergeT acc more = acc ++ more
  | [], acc, _, _ => by simp [mergeT]
  | (k, t) :: more, acc, hd, hn => by
    rw [List.map_cons] at hn
    obtain ⟨h1, h2⟩ := List.nodup_cons.mp hn
    have e : putT acc k t = acc ++ [(k, t)] := by
      unfold putT
      have : acc.any (fun kv => decide (kv.1 = k)) = false := by
        rw [List.any_eq_false]
        intro e he
        have := hd e he (k, t) (List.mem_cons_self ..)
        simpa using this
      rw [this]
      simp
    have := mergeT_new (more := more) (acc := acc ++ [(k, t)]) (fun a ha b hb => by
      rcases List.mem_append.mp ha with ha | ha
      · exact hd a ha b (List.mem_cons_of_mem _ hb)
      · simp at ha
        subst ha
        intro z
        exact h1 (List.mem_map.mpr ⟨b, hb, z.symm⟩)) h2
    unfold mergeT at this ⊢
    rw [List.foldl_cons, e, this]
    simp
theorem valT_mem {κ : Type} [DecidableEq κ] : ∀ {kts : List (κ × T)} {k : κ} {t : T}, (kts.map (·.1)).Nodup → (k, t) ∈ kts → valT kts k = some t
  | [], _, _, _, h => by cases h
  | (a, b) :: kts, k, t, hn, h => by
    rw [List.map_cons] at hn
    obtain ⟨h1, h2⟩ := List.nodup_cons.mp hn
    unfold valT
    rw [List.find?_cons]
    by_cases e : a = k
    · subst e
      simp only [decide_true]
      rcases List.mem_cons.mp h with h | h
      · cases h; rfl
      · exact absurd (List.mem_map.mpr ⟨(a, t), h, rfl⟩) h1
    · simp only [decide_eq_false e]
      rcases List.mem_cons.mp h with h | h
      · cases h; exact absurd rfl e
      · exact valT_mem h2 h
theorem findI_mem {n : Int} : ∀ {ks : List Int} {j : Nat}, n ∈ ks → ∃ i, findI n ks j = some i
  | k :: ks, j, h => by
    unfold findI
    by_cases e : k = n
    · exact ⟨j, if_pos e⟩
    · rw [if_neg e]
      rcases List.mem_cons.mp h with h | h
      · exact absurd h.symm e
      · exact findI_mem h
end G

/-! G54: repr(x) of lists and tuples, where nothing is being shown already. -/
namespace G
open PySem PySem.Spec PySem.W PyProof.Rows L2
def isSeqT : T → Bool
  | .lst _ => true
  | .tup _ => true
  | _ => false
/-- what is shown; its length has a bound -/
def reprT (t : T) : Option T := if (isSeqT t && okD 60 t && PyData.showable (toD t) && decide ((PyData.shown (toD t)).length ≤ 16777216)) = true then some (.str (PyData.shown (toD t))) else none
def reprP : List T → Option T
  | [t] => reprT t
  | _ => none
section
variable {X : Cx}
theorem cr_repr (hg : X.A.guards = some []) (hu : X.A.units + 64 < cLine) : CallR X (.builtin "repr") (rN (cn X) (pvN reprP)) := cr_T fun pins s σ H xs us Q B φ m ts t inv r M vx e hq => by
  unfold reprP at e
  split at e
  · rename_i t0
    unfold reprT at e
    split at e
    · rename_i hc
      cases e
      simp only [Bool.and_eq_true, decide_eq_true_eq] at hc
      obtain ⟨⟨⟨h1, h2⟩, h3⟩, h4⟩ := hc
      cases vx with
      | cons v1 vn =>
        cases vn
        obtain ⟨u, rfl, ru⟩ := vals1 r
        obtain ⟨hl, hd⟩ := okD_lay 60 t0 h2
        obtain ⟨as, rd⟩ := Dp.reads inv _ _ u (v1.dp h2) ru
        obtain ⟨a, rfl⟩ : ∃ a, u = .ref a := by
          match t0, h1, v1 with
          | .lst _, _, v1 =>
            obtain ⟨a, vs, rfl, _⟩ := v1.lst
            exact ⟨a, ru⟩
          | .tup _, _, v1 =>
            obtain ⟨a, vs, rfl, _⟩ := v1.tup
            exact ⟨a, ru⟩
        refine repr_of_reads' rd h3 (PyData.noDict_hsm (PyData.hasDict_of_canLay _ hl)) hg (by omega) (fun _ _ e => e) (fun h' u' tk hk => ?_) (by rw [sizeLine_eq]; exact h4)
        exact ⟨.str _, H, inv.kept hk, ⟨_, rfl⟩, hq H (.refl M) _ (.str _)⟩
    · cases e
  · cases e
end
theorem bb_repr : bootBuiltins "repr" = some (.builtin "repr") := by decide +kernel
end G

/-! G55: a def that is called while nothing is being shown; the law as such a def. -/
namespace G
open PySem PySem.Spec PySem.W PyProof.Rows L2
/-- behind a body that ended: what the caller has -/
theorem flow_end {X : Cx} {CX : CXT} {outer : List Env} {s : Shared} {H : Hp} {Q : VK} {E : XK} {fl : Flow} {s' : Shared} (hs : X.s_0 = s) (hH : X.H_0 = H) (ho : frs outer = X.fs) (hx : X.ex = [])
    (h : SP X [] { nx := fun _ H' => Q .non H', rt := Q } fl s') : (∃ u, fl = .ret u ∧ CR CX outer X.prog X.w H s Q E (.ok (.ret u)) s') ∨ (fl = .next ∧ CR CX outer X.prog X.w H s Q E (.ok (.ret .none)) s') := by
  subst hs hH
  match fl, h with
  | .ret u, ⟨v, σ', H', J, rv, q⟩ => exact .inl ⟨u, rfl, v, H', J.os, J.bare, by rw [ho, ← hx]; exact J.base, J.hok, rv, q⟩
  | .next, ⟨σ', H', J, q⟩ => exact .inr ⟨rfl, .non, H', J.os, J.bare, by rw [ho, ← hx]; exact J.base, J.hok, rfl, q⟩
  | .brk, ⟨_, _, _, q⟩ => exact q.elim
  | .cont, ⟨_, _, _, q⟩ => exact q.elim
/-- as FnOk, but for callers that show nothing -/
structure FnG (P : Program) (w : World) (K : Frag) (mg : Str → Option Value) (base : Heap) (k : Nat) (f : Addr) (fd : FuncData) (ps : List Str) (sp : Sp) : Prop where
  go : ∀ (A : Around) (outer : List Env) (s : Shared) (H : Hp) (args : Args) (us : List Value) (vs : List V) (Q : VK) (E : XK), A.guards = some [] → Room k A → Env0 P w K mg base A outer s H →
    BindsTo s fd args (ps.zip us) → Vals vs us → sp vs H Q E → codeAny (model P w) A (.call (.ref f) args) (CR (L2.CX P w) outer P w H s Q E) s
theorem FnG.imp {P : Program} {w : World} {K : Frag} {mg : Str → Option Value} {base : Heap} {k : Nat} {f : Addr} {fd : FuncData} {ps : List Str} {sp sp' : Sp} (F : FnG P w K mg base k f fd ps sp) (h : ∀ vs H Q E, sp' vs H Q E → sp vs H Q E) :
    FnG P w K mg base k f fd ps sp' := ⟨fun A outer s H args us vs Q E hg hr e hb r q => F.go A outer s H args us vs Q E hg hr e hb r (h _ _ _ _ q)⟩
section
variable {P : Program} {w : World} {K : Frag} {mg : Str → Option Value} {base : Heap}
theorem fnG_ok {x qual : Str} {st : Stmt} {f : Addr} {fd : FuncData} {N ps : List Str} {k : Nat} {sp : Sp} (F : Fun K x qual st f fd) (S : FnScope N ps (defScope st)) (len : ∀ vs H Q E, sp vs H Q E → vs.length = ps.length)
    (body : ∀ (cdv : Value) (A : Around) (outer : List Env) (s : Shared) (H : Hp) (vs : List V) (Q : VK) (E : XK), A.guards = some [] → Room k (A.deeper (envOfC qual (defScope st) s.heap.objs.size f cdv)) → sp vs H Q E →
      ∃ t, PSs (cxOf (L2.CX P w) P w K mg base N qual (defScope st) f cdv A outer s H E) (defBody st) t ∧ t { nx := fun _ H' => Q .non H', rt := Q } (L2.start N vs) H) : FnG P w K mg base (k + 1) f fd ps sp := by
  obtain ⟨oc, od, kV, doc, pm, an, cdv, ct, osl, rfl, lk, hcd⟩ := F.ex
  refine ⟨fun A outer s H args us vs Q E hg hr e0 hb r q => ?_⟩
  have all : ∀ b o, base.get? b = some o → s.heap.get? b = some o := fun b o z => (e0.bs b o z).1
  obtain ⟨t, ht, hq⟩ := body cdv A outer s H vs Q E hg (hr.deeper _) q
  refine Att.call_fn (e0.mod.kin.keeps all) (e0.mod.nolimit.keeps all) lk hcd hr.depth hb ?_ (fun s1 ic => ?_) S.co S.gen S.kind
  · rw [List.all_eq_true]
    intro y hy
    rcases S.par y.1 (List.of_mem_zip hy).1 with z | z <;> simp [z]
  · refine wpAny_mono (ht.run [] s1 _ H _ (inv_start S hr.hd e0 (len _ _ _ _ q) r ic) hq) (fun fl s' h => ?_) fun _ _ h => h
    rcases flow_end (CX := L2.CX P w) (E := E) (X := cxOf (L2.CX P w) P w K mg base N qual (defScope st) f cdv A outer s H E) rfl rfl rfl rfl h with ⟨u, rfl, z⟩ | ⟨rfl, z⟩ <;> exact z
end
end G

/-! G56: the law's call, its def told by FnG. -/
namespace G
open PySem PySem.Spec PySem.W PyProof.Rows L2
open Classical in
/-- of all things the script alone is tracked, and that only where the module doesn't know it -/
noncomputable def onlyH (K : Frag) (a : Addr) (u : HO) : Hp := fun b => if b = a ∧ K.lookup a = none then some u else none
theorem onlyH_some {K : Frag} {a b : Addr} {u v : HO} (h : onlyH K a u b = some v) : b = a ∧ K.lookup a = none ∧ v = u := by
  unfold onlyH at h
  split at h
  · rename_i hc
    cases h
    exact ⟨hc.1, hc.2, rfl⟩
  · cases h
theorem law_g {P : Program} {w : World} {K : Frag} {mg mb : Str → Option Value} {k : Nat} {fa a : Addr} {fd : FuncData} {x : Str} {sp : Sp} {s1 : Shared} {vs : List Value} {ns : List Int}
    (kin : K.In s1.heap) (gns : s1.heap.Ns mainGlobals mg) (bns : s1.heap.Ns builtinsNs mb) (bbt : ∀ x : Str, x ≠ "__name__" → mb x = bootBuiltins x) (nol : s1.heap.NoLimit) (gen : s1.gens = #[])
    (at_a : s1.heap.get? a = some { cls := .type "list", data := .seq vs.toArray }) (are : IntsAre vs ns) (short : ns.length ≤ sizeLine) (room : Room k callerA)
    (F : ∀ base : Heap, K.In base → base.Ns mainGlobals mg → FnG P w K mg base k fa fd [x] sp) (bind : ∀ (s : Shared) (u : Value), BindsTo s fd ⟨[u], []⟩ [(x, u)])
    (due : ∀ H : Hp, Only H → SqL K H a (ns.map V.int) → sp [.ref a] H (fun v _ => v = .bl true) fun _ _ _ => False) :
    codeAny (model P w) callerA (.call (.ref fa) ⟨[.ref a], []⟩) (fun r s' => r = .ok (.ret (.bool true)) ∧ OldK s1.heap s'.heap ∧ s'.os = s1.os ∧ AllBare s'.gens) s1 := by
  obtain ⟨H, hH⟩ : ∃ H, H = onlyH K a (.frz { cls := .type "list", data := .seq vs.toArray } (.lst (ns.map V.int))) := ⟨_, rfl⟩
  have is : ∀ {b v}, H b = some v → b = a ∧ K.lookup a = none ∧ v = .frz { cls := .type "list", data := .seq vs.toArray } (.lst (ns.map V.int)) := fun h => onlyH_some (by rw [← hH]; exact h)
  have vals := vals_ints are
  have only : Only H := fun b => by
    cases q : H b with
    | none => exact .inl rfl
    | some v => exact .inr ⟨_, _, by rw [(is q).2.2]⟩
  have seq : SqL K H a (ns.map V.int) := by
    cases q : K.lookup a with
    | none => exact .inl (.inr ⟨_, by rw [hH]; exact if_pos ⟨rfl, q⟩⟩)
    | some o =>
      have z := kin a o q
      rw [at_a] at z
      cases z
      exact .inr ⟨_, vs.toArray, _, q, rfl, rfl, rfl, by rw [List.size_toArray, are.length]; exact short, by simpa using vals⟩
  have hok : HOk P w H s1.heap := fun b v q => by
    obtain ⟨rfl, _, rfl⟩ := is q
    exact ⟨at_a, by rw [List.length_map]; exact short, vs, _, vals, at_a⟩
  have stays : ∀ {b o}, s1.heap.get? b = some o → H b = none → (hidT s1.heap H).get? b = some o := fun e n => hidT_get e n
  have free : ∀ {b m}, s1.heap.Ns b m → (hidT s1.heap H).Ns b m := fun {b m} ⟨o, es, ep, e, d, r⟩ => by
    refine ⟨o, es, ep, stays e ?_, d, r⟩
    cases q : H b with
    | none => rfl
    | some v =>
      have z := (is q).1
      subst z
      rw [at_a] at e
      cases e
      cases d
  have kb : K.In (hidT s1.heap H) := fun b o e => by
    refine stays (kin b o e) ?_
    cases q : H b with
    | none => rfl
    | some v =>
      obtain ⟨z, z2, _⟩ := is q
      subst z
      rw [z2] at e
      cases e
  obtain ⟨mc, c1, c2⟩ := nol
  have env : Env0 P w K mg (hidT s1.heap H) callerA [] s1 H := {
    frames := rfl
    mod := ⟨kb, free gns, ⟨mb, free bns, bbt⟩, ⟨mc, free c1, c2⟩⟩
    bs := fun b o e => of_hidT e
    bsz := Nat.le_of_eq (hidT_size _ _)
    funs := trivial
    frf := fun b hb => by cases hb
    hok := hok
    bare := .of_eq gen }
  refine codeAny_mono ((F _ kb (free gns)).go callerA [] s1 H ⟨[.ref a], []⟩ [.ref a] [.ref a] _ _ rfl room env (bind s1 (.ref a)) (.cons rfl .nil) (due H only seq)) fun r s' h => ?_
  match r, h with
  | .error e, h => exact (CX_none w H s1 e s' h).elim
  | .ok (.ret u), ⟨v, H', os, bare, un, hok', rv, ev⟩ =>
    subst ev
    cases rv
    refine ⟨rfl, .of_keep fun b o e => ?_, os, bare⟩
    cases q : H b with
    | none => exact un.keep b o e q (fun z => by cases z) (fun z => by cases z)
    | some v =>
      obtain ⟨z, _, z2⟩ := is q
      subst z z2
      obtain ⟨e1, _⟩ := hok' b _ (un.frzs b _ _ q)
      rw [at_a] at e
      cases e
      exact e1
/-- the goal behind the top, from the law's def told by FnG -/
theorem walk_g {l : OpenLaw} {n k : Nat} {q : Program} {loose : List Str} {XP : (Str → Option Value) → Heap → Prop} {YP : World → Heap → Prop} {d : DefRec} {K : Params → Frag} {x : Str}
    (hn : l.most = some n) (hs : n ≤ sizeLine) (hd : d.params.defaults = []) (hr : Room k callerA) (hY : ∀ (w : World) (h : Heap), YP w h → (K w.params).In h)
    (F : ∀ (w : World) (mg : Str → Option Value) (fa : Addr) (h : Heap), (K w.params).In h → h.Ns mainGlobals mg → mg d.name = some (.ref fa) →
      ∃ fd : FuncData, (∀ (s : Shared) (u : Value), BindsTo s fd ⟨[u], []⟩ [(x, u)]) ∧ ∀ base : Heap, (K w.params).In base → base.Ns mainGlobals mg → FnG l.prog w (K w.params) mg base k fa fd [x] (spL (K w.params)))
    (hl : n ≤ 63) : WalkO q loose XP YP l.row.toRowW d [] (fun f vs => PySem.call f vs) :=
  Att.attach_call hn hd fun w s0 s1 mg mb fa o pm cd doc a vs ns G Y ho hdo hcd hmg hobj hints hlen hg => by
    obtain ⟨fd, hb, hF⟩ := F w mg fa _ (hY w _ Y) G.T.g hmg
    exact law_g (hY w _ Y) G.T.g G.T.b G.T.builtins G.T.nolimit hg hobj hints (Nat.le_trans hlen hs) hr hF hb fun H hO hS => spL_of (Nat.le_trans hlen hl) hO hS
end G

/-! G57: the law's def, which shows things itself. -/
namespace G
open PySem PySem.Spec PySem.W PyProof.Rows L2
theorem fnG_okT {P : Program} {w : World} {K : Frag} {mg : Str → Option Value} {base : Heap} {x qual : Str} {st : Stmt} {f : Addr} {fd : FuncData} {N ps : List Str} {k : Nat} {b : MS} (F : Fun K x qual st f fd) (S : FnScope N ps (defScope st))
    (hb : ∀ (cdv : Value) (A : Around) (outer : List Env) (s : Shared) (H : Hp) (E : XK), A.guards = some [] → Room k (A.deeper (envOfC qual (defScope st) s.heap.objs.size f cdv)) →
      Takes (cxOf (L2.CX P w) P w K mg base N qual (defScope st) f cdv A outer s H E) (fun cls d _ H => E cls d H) →
      PassesOwn (model P w) (cxOf (L2.CX P w) P w K mg base N qual (defScope st) f cdv A outer s H E).A (cxOf (L2.CX P w) P w K mg base N qual (defScope st) f cdv A outer s H E).env (cxOf (L2.CX P w) P w K mg base N qual (defScope st) f cdv A outer s H E).xe →
      PSs (cxOf (L2.CX P w) P w K mg base N qual (defScope st) f cdv A outer s H E) (defBody st) (rdS (cxOf (L2.CX P w) P w K mg base N qual (defScope st) f cdv A outer s H E) (fun cls d _ H => E cls d H) b)) :
    FnG P w K mg base (k + 1) f fd ps (spF ⟨K, mg, none⟩ ps.length (runF N.length b)) := by
  refine fnG_ok F S (fun vs H Q E h => h.1) fun cdv A outer s H vs Q E hg hr h => ⟨_, hb cdv A outer s H E hg hr (takes_of rfl rfl rfl rfl) (passes_of (X := cxOf (L2.CX P w) P w K mg base N qual (defScope st) f cdv A outer s H E) rfl), ?_⟩
  obtain ⟨hl, B, φ, m, us, M, ru, r, m', e, h⟩ := h
  refine ⟨B, φ, m, us.map some ++ List.replicate (N.length - us.length) none, ⟨M, ?_, fun i u ei => ?_⟩, ?_⟩
  · simp [L2.start, ru.length]
  · by_cases hi : i < us.length
    · rw [List.getElem?_append_left (by simpa using hi), List.getElem?_map] at ei
      cases q : us[i]? with
      | none => rw [q] at ei; cases ei
      | some u' =>
        rw [q] at ei
        have : u' = u := by simpa using ei
        subst this
        obtain ⟨v, ev, rv⟩ := ru.get q
        refine ⟨v, ?_, rv⟩
        unfold L2.start
        rw [List.getElem?_append_left (by simpa [ru.length] using hi), List.getElem?_map, ev]
        rfl
    · rw [List.getElem?_append_right (by simpa using hi)] at ei
      have := List.mem_of_getElem? ei
      simp at this
  · unfold runF at e
    cases q : b (us.map some ++ List.replicate (N.length - us.length) none) m with
    | none => rw [q] at e; cases e
    | some p =>
      obtain ⟨r1, m1⟩ := p
      rw [q] at e
      refine ⟨r1, m1, rfl, fun H' φ' n => ?_⟩
      match r1, e with
      | .fl (.rt u) fr', e => cases e; exact fun σ' _ => h H' φ' n
      | .fl .nx fr', e => cases e; exact fun σ' _ => h H' φ' n .non (.v .non)
      | .ex x fr', e => cases e; exact fun σ' _ => h H' φ' n
end G

/-! G58: str(a whole number), list(a text). -/
namespace G
open PySem PySem.Spec PySem.W PyProof.Rows L2
def strP : List T → Option T
  | [.int i] => if i.natAbs.log2 < 1920 then some (.str (toString i)) else none
  | _ => none
section
variable {X : Cx} {W : WX} {e : Expr} {fs : M (List U)} {pos : Pos}
theorem cr_strI : CallR X (.type "str") (rN (cn X) (pvN strP)) := cr_T fun pins s σ H xs us Q B φ m ts t inv r M vx e hq => by
  unfold strP at e
  split at e
  · split at e
    · rename_i hc
      cases e
      cases vx with
      | cons v vs => cases vs; cases v.int; exact call_str_int pins s σ H _ us Q inv r ⟨_, rfl, hc, hq H (.refl M) _ (.str _)⟩
    · cases e
  · cases e
/-- the signs of a text, each a text -/
def sgnV (x : Str) : List V := x.cps.toList.map fun c => V.str ⟨#[c]⟩
def sgnT (x : Str) : List T := x.cps.toList.map fun c => T.str ⟨#[c]⟩
theorem sgn_rps {c : Cn} {H : Hp} {L : Addr → Prop} (x : Str) : Rps c H L (sgnV x) (sgnT x) := by
  unfold sgnV sgnT
  induction x.cps.toList with
  | nil => exact .nil
  | cons a l ih => exact .cons (.str _) ih
theorem call_signs (hc : X.calm = true) : CallR X (.type "list") (fun xs H Q => ∃ x : Str, xs = [.str x] ∧ x.cps.size ≤ sizeLine ∧ ∀ p, H p = none → Q (.ref p) (upd H p (.lst (sgnV x)))) := by
  intro pins s σ H xs us Q I r ⟨x, ex, hz, q⟩
  subst ex
  obtain ⟨u, rfl, t, rfl⟩ := vals1 r
  refine call_list_str (I.ok.hd hc) x t (fun h' tk acc n k hS it => ?_) hz
  have new : H s.heap.objs.size = none := I.hok.fresh (Nat.le_refl _)
  refine ⟨.ref s.heap.objs.size, _, I.laid k (Nat.le_refl _) (show ObjOk X.prog X.w _ _ _ (.lst (sgnV x)) from ⟨by simpa [sgnV] using hz, acc.toList, n, ?_, hS⟩), rfl, q _ new⟩
  refine vals_of_at (by simp [sgnV, it.1]) fun j y w h1 h2 => ?_
  obtain ⟨c, u, e1, e2⟩ := it.2 j w (by rw [← Array.getElem?_toList]; exact h2)
  unfold sgnV at h1
  rw [List.getElem?_map, Array.getElem?_toList, e1] at h1
  cases h1
  exact ⟨u, e2⟩
def mListS (f : M (List U)) : M C := mBind f fun us _ m => match derefs m us with
  | some [.str x] => if x.cps.size ≤ 16777216 then some (.ok (.t (.lst (sgnT x))), m) else none
  | _ => none
theorem e_listS {pn : Pos} (hc : X.calm = true) (hg : Gl X "list") (hm : X.mg "list" = none) (ha : PA X [e] (rdA X W fs)) (he : starEach [e] X.env = (false, eval e X.env) :: starEach [] X.env := by rfl) (hpl : (backTo pos (starEach [] X.env)).any (·.1) = false := by rfl) :
    PE X (.Call (.Name "list" pn) [e] [] pos) (rdN X W (mListS fs)) := by
  refine PE.wk (pe_callTy (call_signs hc) hg hm (by decide +kernel) ha (by decide) (by decide) he hpl) fun σ H Q ⟨B, φ, m, fr, S, r, m', e1, h⟩ => ⟨B, φ, m, fr, S, ?_⟩
  unfold mListS mBind at e1
  cases q : fs fr m with
  | none => rw [q] at e1; cases e1
  | some pq =>
    obtain ⟨r1, m1⟩ := pq
    rw [q] at e1
    refine ⟨r1, m1, rfl, fun H1 φ1 n1 => ?_⟩
    cases r1 with
    | error z => cases e1; exact h H1 φ1 n1
    | ok us =>
      intro vs ru
      dsimp only at e1
      split at e1
      · rename_i x hd
        split at e1
        · rename_i hz
          cases e1
          have vw := ru.vws n1.ok hd
          cases vw with
          | cons v vs' =>
            cases vs'
            cases v.str
            exact ⟨x, rfl, by rw [sizeLine_eq]; exact hz, fun p hp => h _ φ1 p (n1.fresh hp) (n1.new hp) ⟨_, upd_same, (sgn_rps x).new hp⟩⟩
        · cases e1
      · cases e1
end
section
variable {fr : Fr} {m : Mem} {x : Xc}
def kLsS (m : Mem) (Q : QE C) : List T → Prop
  | [.str x] => x.cps.size ≤ 16777216 ∧ Q (.ok (.t (.lst (sgnT x)))) m
  | _ => False
@[simp] theorem kLsS_eq {Q : QE C} {x : Str} : kLsS m Q [.str x] ↔ x.cps.size ≤ 16777216 ∧ Q (.ok (.t (.lst (sgnT x)))) m := Iff.rfl
def kListS (Q : QE C) : QE (List U) := onOk Q fun us m => wO (derefs m us) (kLsS m Q)
@[simp] theorem kListS_ok {Q : QE C} {us : List U} : kListS Q (.ok us) m = wO (derefs m us) (kLsS m Q) := rfl
@[simp] theorem kListS_er {Q : QE C} : kListS Q (.error x) m = Q (.error x) m := rfl
@[simp] theorem w_listS {f : M (List U)} {Q : QE C} : wE (mListS f) fr m Q ↔ wE f fr m (kListS Q) := by
  unfold mListS
  rw [wE_bind]
  refine wE_on fun us m1 => ?_
  show wR (match derefs m1 us with
    | some [.str x] => if x.cps.size ≤ 16777216 then some (.ok (.t (.lst (sgnT x))), m1) else none
    | _ => none) Q ↔ _
  generalize derefs m1 us = o
  match o with
  | none => simp only [wR_none, wO_none]
  | some [] => simp only [wR_none, wO_some, kLsS]
  | some [.str x] =>
    simp only [wO_some, kLsS]
    by_cases h : x.cps.size ≤ 16777216
    · simp only [h, if_true, wR_some, true_and]
    · simp only [h, if_false, wR_none, false_and]
  | some [.non] | some [.bl _] | some [.int _] | some [.tup _] | some [.lst _] | some [.rol _] | some [.rot _] | some [.dK _] | some [.dT _] | some [.ins _ _] | some [.exc _ _] => simp only [wR_none, wO_some, kLsS]
  | some (_ :: _ :: _) => simp only [wR_none, wO_some, kLsS]
end
/-! ### texts put together -/
def catS : T → T → Option T
  | .str a, .str b => if a.length + b.length ≤ 16777216 then some (.str (a ++ b)) else none
  | _, _ => none
theorem op_catS {X : Cx} : OpR X (binaryOp .Add) (r2 (cn X) (pv2 catS)) := op_T fun pins s σ H x y v u Q B φ m x' y' t inv r1 r2 M vx vy e hq => by
  unfold catS at e
  split at e
  · split at e
    · rename_i hc
      cases e
      cases vx.str
      cases vy.str
      exact op_add_str pins s σ H _ _ v u Q inv r1 r2 ⟨_, _, rfl, rfl, by rw [sizeLine_eq]; exact hc, hq H (.refl M) _ (.str _)⟩
    · cases e
  · cases e
/-! ### texts compared, whatever their signs are -/
def neS : T → T → Option T
  | .str a, .str b => some (.bl (!decide (a = b)))
  | _, _ => none
theorem op_neS {X : Cx} : OpR X (compareOp .NotEq) (r2 (cn X) (pv2 neS)) := op_T fun pins s σ H x y v u Q B φ m x' y' t inv r1 r2 M vx vy e hq => by
  unfold neS at e
  split at e
  · cases e
    cases vx.str
    cases vy.str
    refine op_ne pins s σ H _ _ v u Q inv r1 r2 ⟨rfl, ?_⟩
    rename_i a b
    have : decide (V.str a = V.str b) = decide (a = b) := by
      rw [decide_eq_decide]
      exact ⟨fun z => by cases z; rfl, fun z => by rw [z]⟩
    rw [this]
    exact hq H (.refl M) _ (.bl _)
  · cases e
theorem bb_ValueError : bootBuiltins "ValueError" = some (.type "ValueError") := by decide +kernel
end G

namespace G
open PySem L2
def NS : List Str := ["NoPulls"]
def XF_at : List Str := ["NoPulls"]
/-- is_whole(thing): thing 0 -/
def B_is_whole : MS := (sRet (mAnd (mUn (pv1 (isiT' "int")) (mVar 0)) (mNot (mUn (pv1 (isiT' "bool")) (mVar 0)))))
def F_is_whole : Fn := runF 1 B_is_whole
/-- is_mark(thing): thing 0 -/
def B_is_mark : MS := (sRet (mAnd (mUn (pv1 (isiT' "str")) (mVar 0)) (mAnd (mOp2 (pv2 eqP) (mCallB (pvN lenP) (mCons (mVar 0) mNil)) (mC (.int 1))) (mOp2 (pv2 inA) (mVar 0) (mC (.str "abcdefghijklmnopqrstuvwxyz"))))))
def F_is_mark : Fn := runF 1 B_is_mark
/-- is_told_pull(thing): thing 0 -/
def B_is_told_pull : MS := (sSeq (sIf (mOrT (mNotT (mTst (mUn (pv1 (isiT' "tuple")) (mVar 0)))) (mOrT (mTst (mOp2 (pv2 neP) (mCallB (pvN lenP) (mCons (mVar 0) mNil)) (mC (.int 3)))) (mOrT (mNotT (mTst (mCall 1 F_is_mark (mCons (mOp2 (pv2 ixP) (mVar 0) (mC (.int 0))) mNil)))) (mNotT (mTst (mCall 1 F_is_mark (mCons (mOp2 (pv2 ixP) (mVar 0) (mC (.int 1))) mNil))))))) (sRet (mC (.bl false))) sNext)
  (sRet (mAnd (mOp2 (pv2 leT) (mOp2 (pv2 ixP) (mVar 0) (mC (.int 0))) (mOp2 (pv2 ixP) (mVar 0) (mC (.int 1)))) (mAnd (mCall 1 F_is_whole (mCons (mOp2 (pv2 ixP) (mVar 0) (mC (.int 2))) mNil)) (mChain (pv2 leT) (pv2 leT) (mC (.int 0)) (mOp2 (pv2 ixP) (mVar 0) (mC (.int 2))) (mC (.int 9)))))))
def F_is_told_pull : Fn := runF 1 B_is_told_pull
/-- Pulls.__init__(self, told): self 0 told 1 at 2 one 3 -/
def L_Pullsd_initd_1 : MS := (sSeq (sIf (mOrT (mNotT (mTst (mCall 1 F_is_told_pull (mCons (mVar 3) mNil)))) (mTst (mOp2 (pv2 inA) (mSl (mVar 3) mNoPart (mPart (mC (.int 2)))) (mUn (pFld "Pulls" "known") (mVar 0))))) (sRaise1 "NoPulls" "at" (mVar 2)) sNext)
  (sDPutT (mOp2 (pv2 ixP) (mVar 3) (mC (.int 2))) (mUn (pFld "Pulls" "known") (mVar 0)) (mSl (mVar 3) mNoPart (mPart (mC (.int 2))))))
def B_Pullsd_initd : MS := (sSeq (sIf (mNotT (mTst (mUn (pv1 (isiT' "list")) (mVar 1)))) (sRaise1 "NoPulls" "at" (mUn (pv1 negT) (mC (.int 1)))) sNext)
  (sSeq (sFldT "Pulls" "known" (mVar 0) (mCl mDNewT))
  (sFor (mItE (mCons (mVar 1) mNil)) (gT (gCons (gN 2) (gCons (gN 3) gNil))) L_Pullsd_initd_1)))
def F_Pullsd_initd : Fn := runF 4 B_Pullsd_initd
/-- Pulls.pull(self, one, other): self 0 one 1 other 2 -/
def B_Pulls_pull : MS := (sSeq (sIf (mOrT (mTst (mOp2 (pv2 isP) (mVar 1) (mC .non))) (mTst (mOp2 (pv2 isP) (mVar 2) (mC .non)))) (sRet (mC (.int 0))) sNext)
  (sRet (mDGet (mUn (pFld "Pulls" "known") (mVar 0)) (mTup (mCons (mCallB (pvN min2P) (mCons (mVar 1) (mCons (mVar 2) mNil))) (mCons (mCallB (pvN max2P) (mCons (mVar 1) (mCons (mVar 2) mNil))) mNil))) (mC (.int 0)))))
def F_Pulls_pull : Fn := runF 3 B_Pulls_pull
/-- Pulls.told(self): self 0 pair 1 pull 2 -/
def K_Pulls_told_1 : M Bool := (mTst (mOp2 (pv2 gtT) (mVar 2) (mC (.int 0))))
def E_Pulls_told_2 : M U := (mOp2 (pv2 addT) (mVar 1) (mTup (mCons (mVar 2) mNil)))
def B_Pulls_told : MS := (sRet (mFz (mSorted (mCons (mFz (mComp (mSmall (mItI (mUn (pFld "Pulls" "known") (mVar 0)))) (gT (gCons (gN 1) (gCons (gN 2) gNil))) K_Pulls_told_1 E_Pulls_told_2 [1, 2])) mNil))))
def F_Pulls_told : Fn := runF 3 B_Pulls_told
/-- Pulls.__eq__(self, other): self 0 other 1 -/
def B_Pullsd_eqd : MS := (sRet (mAnd (mUn (pv1 (isiC' "Pulls")) (mVar 1)) (mOp2 (pv2 eqP) (mMeth "Pulls" "told" 1 F_Pulls_told (mVar 0) mNil) (mMeth "Pulls" "told" 1 F_Pulls_told (mVar 1) mNil))))
def F_Pullsd_eqd : Fn := runF 2 B_Pullsd_eqd
/-- _law_cell_at(_law_script, _law_k): _law_script 0 _law_k 1 -/
def B_l_cell_at : MS := (sSeq (sIf (mTst (mOp2 (pv2 ltT) (mVar 1) (mCallB (pvN lenP) (mCons (mVar 0) mNil)))) (sRet (mOp2 (pv2 ixP) (mVar 0) (mVar 1))) sNext)
  (sRet (mC (.int 0))))
def F_l_cell_at : Fn := runF 2 B_l_cell_at
/-- _law_source(_law_cell): _law_cell 0 -/
def B_l_source : MS := (sRet (mCl (mLst (mCons (mOp2 (pv2 mulT) (mVar 0) (mCallB (pvN intP) (mCons (mOp2 (pv2 geT) (mVar 0) (mOp2 (pv2 powT) (mC (.int 10)) (mC (.int 18)))) mNil))) (mCons (mOp2 (pv2 modT) (mVar 0) (mC (.int 2147483629))) (mCons (mC (.int 0)) mNil))))))
def F_l_source : Fn := runF 1 B_l_source
/-- _law_take(_law_source_here, _law_many): _law_source_here 0 _law_many 1 _law_found 2 _law_number 3 -/
def B_l_take : MS := (sSeq (sIf (mTst (mOp2 (pv2 gtT) (mOp2 (pv2 ixP) (mVar 0) (mC (.int 0))) (mC (.int 0)))) (sSeq (sAsg (mOp2 (pv2 modT) (mOp2 (pv2 ixP) (mVar 0) (mC (.int 0))) (mVar 1)) (gN 2))
  (sSeq (sSetL (mOp2 (pv2 fdivT) (mOp2 (pv2 ixP) (mVar 0) (mC (.int 0))) (mVar 1)) (mVar 0) (mC (.int 0)))
  (sRet (mVar 2)))) sNext)
  (sSeq (sSetL (mOp2 (pv2 addT) (mOp2 (pv2 ixP) (mVar 0) (mC (.int 2))) (mC (.int 1))) (mVar 0) (mC (.int 2)))
  (sSeq (sAsg (mOp2 (pv2 modT) (mOp2 (pv2 mulT) (mOp2 (pv2 addT) (mOp2 (pv2 addT) (mOp2 (pv2 ixP) (mVar 0) (mC (.int 1))) (mOp2 (pv2 mulT) (mC (.int 15485863)) (mOp2 (pv2 ixP) (mVar 0) (mC (.int 2))))) (mC (.int 1))) (mC (.int 48271))) (mC (.int 2147483647))) (gN 3))
  (sSeq (sAsg (mOp2 (pv2 modT) (mOp2 (pv2 mulT) (mVar 3) (mOp2 (pv2 addT) (mOp2 (pv2 fdivT) (mVar 3) (mC (.int 1013))) (mC (.int 69621)))) (mC (.int 2147483629))) (gN 3))
  (sRet (mOp2 (pv2 modT) (mOp2 (pv2 fdivT) (mOp2 (pv2 modT) (mOp2 (pv2 mulT) (mVar 3) (mOp2 (pv2 addT) (mOp2 (pv2 fdivT) (mVar 3) (mC (.int 2011))) (mC (.int 40692)))) (mC (.int 2147483399))) (mC (.int 3))) (mVar 1)))))))
def F_l_take : Fn := runF 4 B_l_take
/-- _law_one(_law_source_here, _law_some): _law_source_here 0 _law_some 1 -/
def B_l_one : MS := (sRet (mOp2 (pv2 ixP) (mVar 1) (mCall 2 F_l_take (mCons (mVar 0) (mCons (mCallB (pvN lenP) (mCons (mVar 1) mNil)) mNil)))))
def F_l_one : Fn := runF 2 B_l_one
/-- _law_mixed(_law_source_here, _law_some): _law_source_here 0 _law_some 1 _law_left 2 _law_found 3 -/
def L_l_mixed_1 : MS := (sExpr (mMtL pAppend (mVar 3) (mCons (mMtL pPopAt (mVar 2) (mCons (mCall 2 F_l_take (mCons (mVar 0) (mCons (mCallB (pvN lenP) (mCons (mVar 2) mNil)) mNil))) mNil)) mNil)))
def K_l_mixed_2 : M Bool := (mTst (mOp2 (pv2 neP) (mVar 2) (mFz (mLst mNil))))
def B_l_mixed : MS := (sSeq (sAsg (mCl (mList (mCons (mVar 1) mNil))) (gN 2))
  (sSeq (sAsg (mCl (mLst mNil)) (gN 3))
  (sSeq (sWhile 10000 K_l_mixed_2 L_l_mixed_1)
  (sRet (mVar 3)))))
def F_l_mixed : Fn := runF 4 B_l_mixed
/-- _law_letters(_law_source_here): _law_source_here 0 _law_first 1 _law_k 2 -/
def E_l_letters_1 : M U := (mOp2 (pv2 ixP) (mC (.str "abcdefghijklmnopqrstuvwxyz")) (mOp2 (pv2 modT) (mOp2 (pv2 addT) (mVar 1) (mOp2 (pv2 mulT) (mC (.int 7)) (mVar 2))) (mC (.int 26))))
def B_l_letters : MS := (sSeq (sAsg (mCall 2 F_l_take (mCons (mVar 0) (mCons (mC (.int 26)) mNil))) (gN 1))
  (sRet (mFz (mComp (mSmall (mItR rng1 (mCons (mC (.int 4)) mNil))) (gN 2) mYes E_l_letters_1 [2]))))
def F_l_letters : Fn := runF 3 B_l_letters
/-- _law_told(_law_source_here, _law_letters_here): _law_source_here 0 _law_letters_here 1 _law_found 2 _law_k 3 _law_one_here 4 _law_other 5 -/
def L_l_told_1 : MS := (sIf (mTst (mOp2 (pv2 gtT) (mCall 2 F_l_take (mCons (mVar 0) (mCons (mC (.int 4)) mNil))) (mC (.int 0)))) (sExpr (mMtL pAppend (mVar 2) (mCons (mTup (mCons (mVar 4) (mCons (mVar 5) (mCons (mCall 2 F_l_one (mCons (mVar 0) (mCons (mFz (mLst (mCons (mC (.int 0)) (mCons (mC (.int 1)) (mCons (mC (.int 1)) (mCons (mC (.int 2)) (mCons (mC (.int 3)) (mCons (mC (.int 9)) mNil)))))))) mNil))) mNil)))) mNil))) sNext)
def L_l_told_2 : MS := (sFor (mItL (mSl (mFz (mSorted (mCons (mVar 1) mNil))) (mPart (mVar 3)) mNoPart)) (gN 5) L_l_told_1)
def B_l_told : MS := (sSeq (sAsg (mCl (mLst mNil)) (gN 2))
  (sSeq (sFor (mItE (mCons (mFz (mSorted (mCons (mVar 1) mNil))) mNil)) (gT (gCons (gN 3) (gCons (gN 4) gNil))) L_l_told_2)
  (sRet (mCall 2 F_l_mixed (mCons (mVar 0) (mCons (mVar 2) mNil))))))
def F_l_told : Fn := runF 6 B_l_told
/-- _law_is_mark(_law_thing): _law_thing 0 -/
def B_l_is_mark : MS := (sRet (mAnd (mUn (pv1 (isiT' "str")) (mVar 0)) (mAnd (mOp2 (pv2 neP) (mVar 0) (mC (.str ""))) (mOp2 (pv2 inA) (mVar 0) (mFz (mListS (mCons (mC (.str "abcdefghijklmnopqrstuvwxyz")) mNil)))))))
def F_l_is_mark : Fn := runF 1 B_l_is_mark
/-- _law_is_pull(_law_thing, _law_ahead): _law_thing 0 _law_ahead 1 _law_one_here 2 -/
def K_l_is_pull_1 : M Bool := (mTst (mOp2 (pv2 eqP) (mSl (mVar 2) mNoPart (mPart (mC (.int 2)))) (mSl (mVar 0) mNoPart (mPart (mC (.int 2))))))
def E_l_is_pull_2 : M U := (mVar 2)
def B_l_is_pull : MS := (sSeq (sIf (mOrT (mNotT (mTst (mUn (pv1 (isiT' "tuple")) (mVar 0)))) (mOrT (mTst (mOp2 (pv2 neP) (mCallB (pvN lenP) (mCons (mVar 0) mNil)) (mC (.int 3)))) (mOrT (mNotT (mTst (mCall 1 F_l_is_mark (mCons (mOp2 (pv2 ixP) (mVar 0) (mC (.int 0))) mNil)))) (mNotT (mTst (mCall 1 F_l_is_mark (mCons (mOp2 (pv2 ixP) (mVar 0) (mC (.int 1))) mNil))))))) (sRet (mC (.bl false))) sNext)
  (sSeq (sIf (mOrT (mTst (mOp2 (pv2 gtT) (mOp2 (pv2 ixP) (mVar 0) (mC (.int 0))) (mOp2 (pv2 ixP) (mVar 0) (mC (.int 1))))) (mOrT (mNotT (mTst (mUn (pv1 (isiT' "int")) (mOp2 (pv2 ixP) (mVar 0) (mC (.int 2)))))) (mOrT (mTst (mUn (pv1 (isiT' "bool")) (mOp2 (pv2 ixP) (mVar 0) (mC (.int 2))))) (mNotT (mTst (mChain (pv2 leT) (pv2 leT) (mC (.int 0)) (mOp2 (pv2 ixP) (mVar 0) (mC (.int 2))) (mC (.int 9)))))))) (sRet (mC (.bl false))) sNext)
  (sRet (mOp2 (pv2 eqP) (mFz (mComp (mItL (mVar 1)) (gN 2) K_l_is_pull_1 E_l_is_pull_2 [2])) (mFz (mLst mNil))))))
def F_l_is_pull : Fn := runF 3 B_l_is_pull
/-- _law_due(_law_told_here): _law_told_here 0 _law_at 1 -/
def L_l_due_1 : MS := (sIf (mNotT (mTst (mCall 2 F_l_is_pull (mCons (mOp2 (pv2 ixP) (mVar 0) (mVar 1)) (mCons (mSl (mVar 0) mNoPart (mPart (mVar 1))) mNil))))) (sRet (mVar 1)) sNext)
def B_l_due : MS := (sSeq (sFor (mItR rng1 (mCons (mCallB (pvN lenP) (mCons (mVar 0) mNil)) mNil)) (gN 1) L_l_due_1)
  (sRet (mC .non)))
def F_l_due : Fn := runF 2 B_l_due
/-- _law_spoilt(_law_source_here, _law_told_here): _law_source_here 0 _law_told_here 1 _law_at 2 _law_row 3 _law_one_here 4 _law_other 5 _law_pull 6 _law_mark 7 _law_odd 8 -/
def B_l_spoilt : MS := (sSeq (sAsg (mCall 2 F_l_take (mCons (mVar 0) (mCons (mOp2 (pv2 addT) (mCallB (pvN lenP) (mCons (mVar 1) mNil)) (mC (.int 1))) mNil))) (gN 2))
  (sSeq (sAsg (mOp2 (pv2 ixP) (mOp2 (pv2 addT) (mVar 1) (mFz (mLst (mCons (mTup (mCons (mC (.str "m")) (mCons (mC (.str "p")) (mCons (mC (.int 4)) mNil)))) mNil)))) (mVar 2)) (gN 3))
  (sSeq (sAsg (mIf (mTst (mCall 2 F_l_is_pull (mCons (mVar 3) (mCons (mFz (mLst mNil)) mNil)))) (mVar 3) (mTup (mCons (mC (.str "m")) (mCons (mC (.str "p")) (mCons (mC (.int 4)) mNil))))) (gT (gCons (gN 4) (gCons (gN 5) (gCons (gN 6) gNil)))))
  (sSeq (sAsg (mCall 2 F_l_one (mCons (mVar 0) (mCons (mFz (mLst (mCons (mC (.str "")) (mCons (mC (.str "ab")) (mCons (mC (.str "A")) (mCons (mC .non) (mCons (mC (.int 1)) (mCons (mC (.str "-")) (mCons (mTup (mCons (mC (.str "a")) mNil)) mNil))))))))) mNil))) (gN 7))
  (sSeq (sAsg (mFz (mLst (mCons (mFz (mLst (mCons (mVar 4) (mCons (mVar 5) (mCons (mVar 6) mNil))))) (mCons (mTup (mCons (mVar 4) (mCons (mVar 5) mNil))) (mCons (mTup (mCons (mVar 4) (mCons (mVar 5) (mCons (mVar 6) (mCons (mC (.int 0)) mNil))))) (mCons (mC .non) (mCons (mOp2 (pv2 catS) (mVar 4) (mVar 5)) (mCons (mTup (mCons (mVar 7) (mCons (mVar 5) (mCons (mVar 6) mNil)))) mNil)))))))) (gN 8))
  (sSeq (sAsg (mOp2 (pv2 addT) (mVar 8) (mFz (mLst (mCons (mTup (mCons (mVar 4) (mCons (mVar 7) (mCons (mVar 6) mNil)))) (mCons (mTup (mCons (mCallB (pvN max2P) (mCons (mVar 4) (mCons (mVar 5) mNil))) (mCons (mCallB (pvN min2P) (mCons (mVar 4) (mCons (mVar 5) mNil))) (mCons (mVar 6) mNil)))) (mCons (mTup (mCons (mVar 4) (mCons (mVar 5) (mCons (mUn (pv1 negT) (mC (.int 1))) mNil)))) (mCons (mTup (mCons (mVar 4) (mCons (mVar 5) (mCons (mC (.int 10)) mNil)))) mNil))))))) (gN 8))
  (sSeq (sAsg (mOp2 (pv2 addT) (mVar 8) (mFz (mLst (mCons (mTup (mCons (mVar 4) (mCons (mVar 5) (mCons (mC (.bl true)) mNil)))) (mCons (mTup (mCons (mVar 4) (mCons (mVar 5) (mCons (mC .non) mNil)))) (mCons (mTup (mCons (mVar 4) (mCons (mVar 5) (mCons (mCallB (pvN strP) (mCons (mVar 6) mNil)) mNil)))) (mCons (mTup (mCons (mVar 4) (mCons (mVar 5) (mCons (mOp2 (pv2 subT) (mC (.int 9)) (mVar 6)) mNil)))) mNil))))))) (gN 8))
  (sSeq (sAsg (mOp2 (pv2 addT) (mVar 8) (mFz (mLst (mCons (mOp2 (pv2 ixP) (mOp2 (pv2 addT) (mVar 1) (mFz (mLst (mCons (mTup (mCons (mC (.str "q")) (mCons (mC (.str "q")) (mCons (mC (.int 0)) mNil)))) mNil)))) (mC (.int 0))) (mCons (mTup (mCons (mVar 4) (mCons (mVar 5) (mCons (mOp2 (pv2 powT) (mC (.int 10)) (mC (.int 20))) mNil)))) mNil))))) (gN 8))
  (sRet (mOp2 (pv2 addT) (mOp2 (pv2 addT) (mSl (mVar 1) mNoPart (mPart (mVar 2))) (mFz (mLst (mCons (mCall 2 F_l_one (mCons (mVar 0) (mCons (mVar 8) mNil))) mNil)))) (mSl (mVar 1) (mPart (mOp2 (pv2 addT) (mVar 2) (mCall 2 F_l_take (mCons (mVar 0) (mCons (mC (.int 2)) mNil))))) mNoPart)))))))))))
def F_l_spoilt : Fn := runF 9 B_l_spoilt
/-- _law_refused(_law_thing): _law_thing 0 _law_found 1 e 2 -/
def B_l_refused : MS := (sSeq (sAsg (mC .non) (gN 1))
  (sSeq (sTry (sExpr (mFz (mMake "Pulls" 2 F_Pullsd_initd (mCons (mVar 0) mNil)))) (hAs NS "ClingError" 2 (sSeq (sAsg (mC (.str "other")) (gN 1))
  (sIf (mAndT (mTst (mUn (pv1 (isX NS "NoPulls")) (mVar 2))) (mAndT (mTst (mUn (pv1 (isX NS "ValueError")) (mVar 2))) (mNotT (mTst (mUn (pv1 (isXT NS ["NoBlock", "NoPiece", "NoStand"])) (mVar 2)))))) (sAsg (mUn (pv1 (fX XF_at "at")) (mVar 2)) (gN 1)) sNext))))
  (sRet (mVar 1))))
def F_l_refused : Fn := runF 3 B_l_refused
/-- law(_law_script): _law_script 0 _law_cell 1 _law_source_here 2 _law_told_here 3 _law_k 4 _law_kept 5 _law_turn 6 _law_found 7 _law_odd 8 -/
def L_law_1 : MS := (sAsg (mCall 2 F_l_spoilt (mCons (mVar 2) (mCons (mVar 3) mNil))) (gN 3))
def L_law_2 : MS := (sSeq (sAsg (mCall 1 F_l_refused (mCons (mVar 3) mNil)) (gN 7))
  (sIf (mOrT (mTst (mOp2 (pv2 neP) (mVar 7) (mCall 1 F_l_due (mCons (mVar 3) mNil)))) (mOrT (mTst (mUn (pv1 (isiT' "bool")) (mVar 7))) (mTst (mOp2 (pv2 neS) (mCallB (pvN reprP) (mCons (mVar 3) mNil)) (mVar 5))))) (sRet (mC (.bl false))) sNext))
def L_law_3 : MS := (sSeq (sAsg (mCallC 1 F_l_source (mCons (mVar 1) mNil)) (gN 2))
  (sSeq (sAsg (mCall 2 F_l_told (mCons (mVar 2) (mCons (mSl (mCall 1 F_l_letters (mCons (mVar 2) mNil)) mNoPart (mPart (mOp2 (pv2 addT) (mC (.int 1)) (mCall 2 F_l_take (mCons (mVar 2) (mCons (mC (.int 4)) mNil)))))) mNil))) (gN 3))
  (sSeq (sFor (mItR rng1 (mCons (mOp2 (pv2 addT) (mC (.int 1)) (mCall 2 F_l_take (mCons (mVar 2) (mCons (mC (.int 2)) mNil)))) mNil)) (gN 4) L_law_1)
  (sSeq (sAsg (mCallB (pvN reprP) (mCons (mVar 3) mNil)) (gN 5))
  (sSeq (sFor (mItR rng1 (mCons (mC (.int 2)) mNil)) (gN 6) L_law_2)
  (sSeq (sAsg (mCall 2 F_l_one (mCons (mVar 2) (mCons (mFz (mLst (mCons (mC .non) (mCons (mC (.int 5)) (mCons (mTup mNil) (mCons (mCallB (pvN tupP) (mCons (mVar 3) mNil)) (mCons (mFz mDNewK) (mCons (mC (.str "pulls")) (mCons (mC (.bl true)) mNil))))))))) mNil))) (gN 8))
  (sIf (mTst (mOp2 (pv2 neP) (mCall 1 F_l_refused (mCons (mVar 8) mNil)) (mUn (pv1 negT) (mC (.int 1))))) (sRet (mC (.bl false))) sNext)))))))
def B_law : MS := (sSeq (sFor (mItL (mOp2 (pv2 addT) (mFz (mLst (mCons (mCall 2 F_l_cell_at (mCons (mVar 0) (mCons (mC (.int 0)) mNil))) mNil))) (mSl (mVar 0) (mPart (mC (.int 1))) (mPart (mC (.int 10)))))) (gN 1) L_law_3)
  (sRet (mC (.bl true))))
def F_law : Fn := runF 9 B_law
end G

namespace G
open PySem L2
/-- a source of draws, in its cell -/
abbrev sc (a b c : Int) : Mem := [some (.t (.lst [.int a, .int b, .int c]))]
def nextN (b c : Int) : Int := (b + 15485863 * (c + 1) + 1) * 48271 % 2147483647
def nextM (b c : Int) : Int := nextN b c * (nextN b c / 1013 + 69621) % 2147483629
theorem take_ok {a b c n : Int} (hn : 0 < n) (hb : n < 2 ^ 100) : ∃ r a' b' c', 0 ≤ r ∧ r < n ∧ F_l_take [.c 0, .v (.int n)] (sc a b c) = some (.ok (.v (.int r)), sc a' b' c') := by
  have hb' : n < 1606938044258990275541962092341162602522202993782792835301376 := by omega
  by_cases h : 0 < a
  · refine ⟨a % n, a / n, b, c, Int.emod_nonneg _ (by omega), Int.emod_lt_of_pos _ hn, ?_⟩
    simp [F_l_take, B_l_take, runF, sSeq, sIf, sBind, sRet, sExpr, sAsg, sFor, sForL, sTurn, sNext, sSetL, sFldT, sDPutT, gN, gT, gCons, gNil, mTst, mBind, mOp2, mUn, mVar, mC, mPure, mLift, mCons, mNil, mCallB, mAndT, mOrT, mNotT, mAnd, mNot, mIf, mChain, pv1, pv2, pvN, deref, derefs, toT, mCall, callV, cellsOf, renum, ldM, stM, flatO, mFz, mCl, mLst, mTup, allV, mList, mSl, mNoPart, mPart, slP, ixP, seqOf, lstOf, isL, addT, subT, mulT, fdivT, modT, powT, ltT, leT, gtT, geT, lenP, intP, tupP, mItL, mItE, mItR, mItS, srcL, rng1, mSmall, mComp, compM, compL, wipeT, mMeth, insOf, pFld, mMake, makeV, atI, ixN, h, hn, hb', sc]
  · refine ⟨nextM b c * (nextM b c / 2011 + 40692) % 2147483399 / 3 % n, a, b, c + 1, Int.emod_nonneg _ (by omega), Int.emod_lt_of_pos _ hn, ?_⟩
    have h1 : -18446744073709551616 < nextN b c ∧ nextN b c < 18446744073709551616 := by
      have := Int.emod_nonneg ((b + 15485863 * (c + 1) + 1) * 48271) (show (2147483647 : Int) ≠ 0 by decide)
      have := Int.emod_lt_of_pos ((b + 15485863 * (c + 1) + 1) * 48271) (show (0 : Int) < 2147483647 by decide)
      unfold nextN; omega
    have h2 : -18446744073709551616 < nextM b c ∧ nextM b c < 18446744073709551616 := by
      have := Int.emod_nonneg (nextN b c * (nextN b c / 1013 + 69621)) (show (2147483629 : Int) ≠ 0 by decide)
      have := Int.emod_lt_of_pos (nextN b c * (nextN b c / 1013 + 69621)) (show (0 : Int) < 2147483629 by decide)
      unfold nextM; omega
    unfold nextM nextN at *
    simp [F_l_take, B_l_take, runF, sSeq, sIf, sBind, sRet, sExpr, sAsg, sFor, sForL, sTurn, sNext, sSetL, sFldT, sDPutT, gN, gT, gCons, gNil, mTst, mBind, mOp2, mUn, mVar, mC, mPure, mLift, mCons, mNil, mCallB, mAndT, mOrT, mNotT, mAnd, mNot, mIf, mChain, pv1, pv2, pvN, deref, derefs, toT, mCall, callV, cellsOf, renum, ldM, stM, flatO, mFz, mCl, mLst, mTup, allV, mList, mSl, mNoPart, mPart, slP, ixP, seqOf, lstOf, isL, addT, subT, mulT, fdivT, modT, powT, ltT, leT, gtT, geT, lenP, intP, tupP, mItL, mItE, mItR, mItS, srcL, rng1, mSmall, mComp, compM, compL, wipeT, mMeth, insOf, pFld, mMake, makeV, atI, ixN, h, hn, hb', sc, h1, h2]
theorem source_ok (x : Int) : ∃ a b c, F_l_source [.v (.int x)] [] = some (.ok (.c 0), sc a b c) := by
  refine ⟨x * (if x ≥ 10 ^ 18 then 1 else 0), x % 2147483629, 0, ?_⟩
  by_cases h : (1000000000000000000 : Int) ≤ x <;>
  simp [F_l_source, B_l_source, runF, sSeq, sIf, sBind, sRet, sExpr, sAsg, sFor, sForL, sTurn, sNext, sSetL, sFldT, sDPutT, gN, gT, gCons, gNil, mTst, mBind, mOp2, mUn, mVar, mC, mPure, mLift, mCons, mNil, mCallB, mAndT, mOrT, mNotT, mAnd, mNot, mIf, mChain, pv1, pv2, pvN, deref, derefs, toT, mCall, callV, cellsOf, renum, ldM, stM, flatO, mFz, mCl, mLst, mTup, allV, mList, mSl, mNoPart, mPart, slP, ixP, seqOf, lstOf, isL, addT, subT, mulT, fdivT, modT, powT, ltT, leT, gtT, geT, lenP, intP, tupP, mItL, mItE, mItR, mItS, srcL, rng1, mSmall, mComp, compM, compL, wipeT, mMeth, insOf, pFld, mMake, makeV, sc, h, sizeLine_eq]
theorem one_ok {a b c : Int} {ts : List T} (h0 : 0 < ts.length) (h1 : ts.length ≤ 1000) : ∃ x a' b' c', x ∈ ts ∧ F_l_one [.c 0, .v (.lst ts)] (sc a b c) = some (.ok (.v x), sc a' b' c') := by
  obtain ⟨r, a', b', c', r0, r1, e⟩ := take_ok (a := a) (b := b) (c := c) (n := ts.length) (by omega) (by omega)
  have hr : r.toNat < ts.length := by omega
  refine ⟨ts[r.toNat], a', b', c', List.getElem_mem _, ?_⟩
  have hs : ts.length ≤ sizeLine := by rw [sizeLine_eq]; omega
  have hl : r < ts.length := r1
  simp [F_l_one, B_l_one, runF, sSeq, sIf, sBind, sRet, sExpr, sAsg, sFor, sForL, sTurn, sNext, sSetL, sFldT, sDPutT, gN, gT, gCons, gNil, mTst, mBind, mOp2, mUn, mVar, mC, mPure, mLift, mCons, mNil, mCallB, mAndT, mOrT, mNotT, mAnd, mNot, mIf, mChain, pv1, pv2, pvN, deref, derefs, toT, mCall, callV, cellsOf, renum, ldM, stM, flatO, mFz, mCl, mLst, mTup, allV, mList, mSl, mNoPart, mPart, slP, ixP, seqOf, lstOf, isL, addT, subT, mulT, fdivT, modT, powT, ltT, leT, gtT, geT, lenP, intP, tupP, mItL, mItE, mItR, mItS, srcL, rng1, mSmall, mComp, compM, compL, wipeT, mMeth, insOf, pFld, mMake, makeV, sc, e, atI, ixN, r0, hl, hr, hs]
abbrev abc : Str := "abcdefghijklmnopqrstuvwxyz"
def lt (n : Nat) : Str := ⟨#[97 + n]⟩
theorem at_abc : ∀ n : Fin 26, L2.atI abc.cps.toList ((n : Nat) : Int) = some (97 + (n : Nat)) := by decide +kernel
theorem len_abc : abc.length = 26 := by decide +kernel
theorem ix_abc {k : Int} (h0 : 0 ≤ k) (h1 : k < 26) : ixP (.str abc) (.int k) = some (.str (lt k.toNat)) := by
  obtain ⟨n, rfl⟩ := Int.eq_ofNat_of_zero_le h0
  have hn : n < 26 := by omega
  have e := at_abc ⟨n, hn⟩
  have e : L2.atI abc.cps.toList (n : Int) = some (97 + n) := e
  have hl : abc.length ≤ sizeLine := by rw [len_abc, sizeLine_eq]; omega
  show (if abc.length ≤ sizeLine then (match L2.atI abc.cps.toList (n : Int) with
    | some c => some (T.str ⟨#[c]⟩)
    | none => none) else none) = _
  rw [if_pos hl, e]
  rfl
theorem rng4 : rangeT 0 4 = [.int 0, .int 1, .int 2, .int 3] := rfl
theorem rng4' : rangeT 0 (Int.toNat 4) = [.int 0, .int 1, .int 2, .int 3] := rfl
/-- the drawn letters: seven apart -/
def lets (f : Nat) : List T := [.str (lt (f % 26)), .str (lt ((f + 7) % 26)), .str (lt ((f + 14) % 26)), .str (lt ((f + 21) % 26))]
theorem ix_abc' (f k : Nat) : ixP (.str abc) (.int (((f : Int) + 7 * (k : Int)) % 26)) = some (.str (lt ((f + 7 * k) % 26))) := by
  rw [ix_abc (Int.emod_nonneg _ (by decide)) (Int.emod_lt_of_pos _ (by decide))]
  rfl
theorem letters_ok {a b c : Int} : ∃ f a' b' c', f < 26 ∧ F_l_letters [.c 0] (sc a b c) = some (.ok (.v (.lst (lets f))), sc a' b' c') := by
  obtain ⟨r, a', b', c', r0, r1, e⟩ := take_ok (a := a) (b := b) (c := c) (n := 26) (by omega) (by omega)
  obtain ⟨f, rfl⟩ := Int.eq_ofNat_of_zero_le r0
  refine ⟨f, a', b', c', by omega, ?_⟩
  have k0 := ix_abc' f 0
  have k1 := ix_abc' f 1
  have k2 := ix_abc' f 2
  have k3 := ix_abc' f 3
  simp at k0 k1 k2 k3
  simp [F_l_letters, B_l_letters, E_l_letters_1, runF, sSeq, sIf, sBind, sRet, sAsg, gN, mBind, mOp2, mVar, mC, mPure, mLift, mCons, mNil, pv2, deref, toT, mCall, callV, cellsOf, renum, ldM, stM, flatO, mFz, mItR, rng1, mSmall, mComp, compM, compL, wipeT, mYes, modT, addT, mulT, sc, e, rng4, sizeLine_eq, lets, k0, k1, k2, k3]
/-- a mark: a letter or nothing -/
def isMk : T → Prop
  | .non => True
  | .str x => ∃ n < 26, x = lt n
  | _ => False
theorem okD_lt (n k : Nat) (h : n < 26) : okD k (.str (lt n)) = true := by
  have : ∀ n : Fin 26, PyData.strOk (lt n) = true := by decide +kernel
  simpa [okD] using this ⟨n, h⟩
theorem okD_mk {x : T} (k : Nat) (h : isMk x) : okD k x = true := by
  match x, h with
  | .non, _ => simp [okD]
  | .str _, ⟨n, hn, e⟩ => subst e; exact okD_lt n k hn
theorem okD_tup4 {x y z w : T} (hx : isMk x) (hy : isMk y) (hz : isMk z) (hw : isMk w) : okD 64 (.tup [x, y, z, w]) = true := by
  simp [okD, okD_mk _ hx, okD_mk _ hy, okD_mk _ hz, okD_mk _ hw]
theorem eqT_refl_mk {x : T} (h : isMk x) : PyData.eqv (toD x) (toD x) = true := by
  match x, h with
  | .non, _ => rfl
  | .str _, ⟨n, hn, e⟩ => simp [toD, PyData.eqv]
theorem eqT_tup4 {x y z w : T} (hx : isMk x) (hy : isMk y) (hz : isMk z) (hw : isMk w) : eqT (.tup [x, y, z, w]) (.tup [x, y, z, w]) = true := by
  simp [eqT, toD, toDs, PyData.eqv, PyData.eqvAll, eqT_refl_mk hx, eqT_refl_mk hy, eqT_refl_mk hz, eqT_refl_mk hw]
end G

namespace G
open PySem L2
/-! ### rows of pulls -/
abbrev Row := Nat × Nat × Int
def rowT (r : Row) : T := .tup [.str (lt r.1), .str (lt r.2.1), .int r.2.2]
def keyR (r : Row) : List Key := [.inr (lt r.1), .inr (lt r.2.1)]
def entR (r : Row) : List Key × T := (keyR r, .int r.2.2)
def okR (r : Row) : Prop := r.1 ≤ r.2.1 ∧ r.2.1 < 26 ∧ 0 ≤ r.2.2 ∧ r.2.2 ≤ 9
def isBR (b : Bool) : Res U → Bool
  | some (.ok (.v (.bl b')), []) => b == b'
  | _ => false
theorem isBR_eq {b : Bool} {r : Res U} (h : isBR b r = true) : r = some (.ok (.v (.bl b)), []) := by
  unfold isBR at h
  split at h
  · rename_i b'
    have : b = b' := by simpa using h
    rw [this]
  · cases h
theorem mark_ok {n : Nat} (h : n < 26) : F_is_mark [.v (.str (lt n))] [] = some (.ok (.v (.bl true)), []) := by
  have : ∀ n : Fin 26, isBR true (F_is_mark [.v (.str (lt n))] []) = true := by decide +kernel
  exact isBR_eq (this ⟨n, h⟩)
theorem whole_ok (p : Int) : F_is_whole [.v (.int p)] [] = some (.ok (.v (.bl true)), []) := by
  have e1 : kitB "int" "int" = some true := by decide +kernel
  have e2 : kitB "int" "bool" = some false := by decide +kernel
  simp [F_is_whole, B_is_whole, runF, sRet, sBind, mAnd, mNot, mUn, mBind, mVar, mPure, mLift, pv1, deref, isiT', isiT, noDT, tyName, e1, e2]
theorem lt_lt (a b : Nat) : ((lt a).cps.toList < (lt b).cps.toList) ↔ a < b := by
  show [97 + a] < [97 + b] ↔ a < b
  rw [List.cons_lt_cons_iff]
  constructor
  · rintro (h | ⟨_, h⟩)
    · omega
    · exact absurd h (List.not_lt_nil _)
  · exact fun h => .inl (by omega)
theorem leT_lt (a b : Nat) : leT (.str (lt a)) (.str (lt b)) = some (.bl (decide (a ≤ b))) := by
  show some (T.bl (!decide ((lt b).cps.toList < (lt a).cps.toList))) = _
  congr 2
  by_cases h : a ≤ b
  · have h' : ¬ (lt b).cps.toList < (lt a).cps.toList := by rw [lt_lt]; omega
    rw [decide_eq_false h', decide_eq_true h]; rfl
  · have h' : (lt b).cps.toList < (lt a).cps.toList := by rw [lt_lt]; omega
    rw [decide_eq_true h', decide_eq_false h]; rfl
theorem leT_int (a b : Int) : leT (.int a) (.int b) = some (.bl (decide (a ≤ b))) := rfl
theorem told_ok {r : Row} (h : okR r) : F_is_told_pull [.v (rowT r)] [] = some (.ok (.v (.bl true)), []) := by
  obtain ⟨a, b, p⟩ := r
  obtain ⟨h1, h2, h3, h4⟩ := h
  have e1 : kitB "tuple" "tuple" = some true := by decide +kernel
  have m1 := mark_ok (n := a) (by simp at h1 h2; omega)
  have m2 := mark_ok (n := b) h2
  have w := whole_ok p
  simp at h1 h2 h3 h4
  simp [F_is_told_pull, B_is_told_pull, rowT, runF, sSeq, sIf, sRet, sBind, sNext, mOrT, mNotT, mTst, mAnd, mChain, mUn, mBind, mVar, mC, mPure, mLift, mOp2, mCons, mNil, mCall, mCallB, callV, cellsOf, renum, ldM, stM, pv1, pv2, pvN, deref, derefs, toT, isiT', isiT, noDT, tyName, e1, lenP, seqOf, neP, okD, eqT, toD, PyData.eqv, ixP, atI, ixN, leT_lt, leT_int, m1, m2, w, h1, h3, h4]
def enumF : Nat → List T → List T
  | _, [] => []
  | k, t :: ts => .tup [.int (k : Nat), t] :: enumF (k + 1) ts
theorem enumF_eq : ∀ (ts : List T) (k : Nat), ts.mapIdx (fun i t => T.tup [.int ((i + k : Nat) : Int), t]) = enumF k ts
  | [], _ => rfl
  | t :: ts, k => by
    rw [List.mapIdx_cons, enumF, ← enumF_eq ts (k + 1)]
    simp only [Nat.zero_add]
    congr 1
    apply List.mapIdx_eq_mapIdx_iff.mpr
    intro i hi
    rw [show i + 1 + k = i + (k + 1) by omega]
theorem enumT_eq (ts : List T) : enumT ts = enumF 0 ts := by
  rw [← enumF_eq ts 0]; rfl
/-- keys apart -/
def dk (D : List (List Key × T)) (k : List Key) : Prop := ∀ e ∈ D, e.1 ≠ k
theorem valT_none {D : List (List Key × T)} {k : List Key} (h : dk D k) : valT D k = none := by
  unfold valT
  rw [List.find?_eq_none.mpr (fun e he => by simpa using h e he)]
  rfl
theorem putT_new {D : List (List Key × T)} {k : List Key} {t : T} (h : dk D k) : putT D k t = D ++ [(k, t)] := by
  unfold putT
  rw [if_neg]
  intro z
  obtain ⟨e, he, hk⟩ := List.any_eq_true.mp z
  exact h e he (by simpa using hk)
theorem init_body {r : Row} {D : List (List Key × T)} {o d : Nat} {m : Mem} {x1 x2 : Option U} (hok : okR r) (h1 : dk D (keyR r)) (hl : D.length ≤ 1000) (ho : m[o]? = some (some (.ins "Pulls" [("known", .c d)]))) (hd : m[d]? = some (some (.t (.dT D)))) :
    L_Pullsd_initd_1 [some (.c o), x1, x2, some (.v (rowT r))] m = some (.fl .nx [some (.c o), x1, x2, some (.v (rowT r))], m.set d (some (.t (.dT (D ++ [entR r]))))) := by
  have hr := told_ok hok
  have hv := valT_none h1
  have hp := putT_new (t := .int r.2.2) h1
  have hs : D.length < 16777216 := by omega
  obtain ⟨a, b, p⟩ := r
  simp only [rowT] at hr
  simp only [keyR] at hv hp h1
  simp [L_Pullsd_initd_1, rowT, entR, keyR, sSeq, sIf, sBind, sNext, sDPutT, mOrT, mNotT, mTst, mUn, mBind, mVar, mC, mPure, mLift, mOp2, mCons, mNil, mCall, callV, cellsOf, renum, ldM, stM, pv2, deref, toT, mSl, mNoPart, mPart, slP, cutT, HT.sIx, pFld, insOf, ho, hd, inA, isDict, inD, dGetT, keysT, keyT, ixP, seqOf, atI, ixN, dPutT, sizeLine_eq, hr, hv, hp, hs]
theorem init_loop : ∀ (ps : List Row) (k : Nat) (D : List (List Key × T)) (o d : Nat) (m : Mem) (x1 x2 x3 : Option U), (∀ r ∈ ps, okR r) → (ps.map keyR).Nodup → (∀ r ∈ ps, dk D (keyR r)) → D.length + ps.length ≤ 1000 →
    m[o]? = some (some (.ins "Pulls" [("known", .c d)])) → m[d]? = some (some (.t (.dT D))) → o ≠ d →
    ∃ y2 y3, sForL (gT (gCons (gN 2) (gCons (gN 3) gNil))) L_Pullsd_initd_1 (enumF k (ps.map rowT)) [some (.c o), x1, x2, x3] m
      = some (.fl .nx [some (.c o), x1, y2, y3], m.set d (some (.t (.dT (D ++ ps.map entR)))))
  | [], k, D, o, d, m, x1, x2, x3, _, _, _, _, ho, hd, hod => by
    refine ⟨x2, x3, ?_⟩
    have : m.set d (some (.t (.dT D))) = m := by
      apply List.ext_getElem?
      intro i
      by_cases h : d = i
      · subst h
        rw [List.getElem?_set_self (by rcases List.getElem?_eq_some_iff.mp hd with ⟨z, _⟩; exact z), hd]
      · rw [List.getElem?_set_ne h]
    simp [enumF, sForL, sNext, this]
  | r :: ps, k, D, o, d, m, x1, x2, x3, hok, hnd, hdk, hl, ho, hd, hod => by
    rw [List.map_cons] at hnd
    obtain ⟨n1, n2⟩ := List.nodup_cons.mp hnd
    have hdl : d < m.length := (List.getElem?_eq_some_iff.mp hd).1
    obtain ⟨y2, y3, ih⟩ := init_loop ps (k + 1) (D ++ [entR r]) o d (m.set d (some (.t (.dT (D ++ [entR r]))))) x1 (some (.v (.int (k : Nat)))) (some (.v (rowT r)))
      (fun r' h => hok r' (List.mem_cons_of_mem _ h)) n2 (fun r' h e he => by
        rcases List.mem_append.mp he with he | he
        · exact hdk r' (List.mem_cons_of_mem _ h) e he
        · rw [List.mem_singleton.mp he]
          exact fun z => n1 (List.mem_map.mpr ⟨r', h, z.symm⟩)) (by simp at hl ⊢; omega) (by rw [List.getElem?_set_ne (Ne.symm hod), ho]) (by rw [List.getElem?_set_self hdl]) hod
    refine ⟨y2, y3, ?_⟩
    have hb := init_body (r := r) (x1 := x1) (x2 := some (.v (.int (k : Nat)))) (hok r List.mem_cons_self) (hdk r List.mem_cons_self) (by simp at hl; omega) ho hd
    rw [List.map_cons, enumF, sForL]
    simp only [gT, gCons, gN, gNil, List.set_cons_succ, List.set_cons_zero, sTurn, hb]
    rw [ih]
    simp [List.set_set]
/-- the object of the pulls -/
def pullsT (ps : List Row) : T := .ins "Pulls" [("known", .dT (ps.map entR))]
structure Good (ps : List Row) : Prop where
  ok : ∀ r ∈ ps, okR r
  nd : (ps.map keyR).Nodup
  ln : ps.length ≤ 500
theorem make_ok {ps : List Row} (g : Good ps) {m : Mem} : makeV "Pulls" 2 F_Pullsd_initd [.v (.lst (ps.map rowT))] m = some (.ok (.ins "Pulls" [("known", .v (.dT (ps.map entR)))]), m) := by
  obtain ⟨y2, y3, e⟩ := init_loop ps 0 [] 0 1 [some (.ins "Pulls" [("known", .c 1)]), some (.t (.dT []))] (some (.v (.lst (ps.map rowT)))) none none g.ok g.nd (fun _ _ _ h => by simp at h) (by have := g.ln; simp; omega) rfl rfl (by decide)
  have e1 : kitB "list" "list" = some true := by decide +kernel
  have hl : ps.length ≤ 16777216 := by have := g.ln; omega
  rw [← enumT_eq] at e
  simp at e
  simp [makeV, F_Pullsd_initd, B_Pullsd_initd, cellsOf, renum, ldM, stM, runF, sSeq, sIf, sBind, sNext, sFldT, sFor, mNotT, mTst, mUn, mBind, mVar, mPure, mLift, mCons, mNil, mCl, mDNewT, mItE, srcL, isL, pv1, deref, toT, isiT', isiT, noDT, tyName, e1, putU, frzF, vF, e, sizeLine_eq, hl]
theorem makeC_ok {ps : List Row} (g : Good ps) {m : Mem} {i : Nat} (hm : m[i]? = some (some (.t (.lst (ps.map rowT))))) : makeV "Pulls" 2 F_Pullsd_initd [.c i] m = some (.ok (.ins "Pulls" [("known", .v (.dT (ps.map entR)))]), m) := by
  obtain ⟨y2, y3, e⟩ := init_loop ps 0 [] 1 2 [none, some (.ins "Pulls" [("known", .c 2)]), some (.t (.dT []))] (some (.c 0)) none none g.ok g.nd (fun _ _ _ h => by simp at h) (by have := g.ln; simp; omega) rfl rfl (by decide)
  have e1 : kitB "list" "list" = some true := by decide +kernel
  have hl : ps.length ≤ 16777216 := by have := g.ln; omega
  have hs : m.set i (some (.t (.lst (ps.map rowT)))) = m := by
    apply List.ext_getElem?
    intro j
    by_cases h : i = j
    · subst h
      rw [List.getElem?_set_self (by rcases List.getElem?_eq_some_iff.mp hm with ⟨z, _⟩; exact z), hm]
    · rw [List.getElem?_set_ne h]
  rw [← enumT_eq] at e
  simp at e
  simp [makeV, F_Pullsd_initd, B_Pullsd_initd, cellsOf, renum, ldM, stM, flatO, hm, runF, sSeq, sIf, sBind, sNext, sFldT, sFor, sLock, lockO, mNotT, mTst, mUn, mBind, mVar, mPure, mLift, mCons, mNil, mCl, mDNewT, mItE, srcL, isL, pv1, deref, toT, isiT', isiT, noDT, tyName, e1, putU, frzF, vF, e, sizeLine_eq, hl, hs]
end G

namespace G
open PySem L2
/-! ### what is told of pulls -/
def posR (r : Row) : Bool := decide (0 < r.2.2)
def toldT (ps : List Row) : T := .lst (srtK ((ps.filter posR).map rowT))
theorem flShape_row (r : Row) : flShape (rowT r) = some [false, false, true] := rfl
theorem flSame_rows : ∀ ps : List Row, flSame [false, false, true] (ps.map rowT) = true
  | [] => rfl
  | r :: ps => by rw [List.map_cons, flSame, flSame_rows ps, flShape_row]; rfl
theorem sortT_rows (ps : List Row) : sortT (ps.map rowT) = some (srtK (ps.map rowT)) := by
  cases ps with
  | nil => rfl
  | cons r ps =>
    have h1 : allI ((r :: ps).map rowT) = none := rfl
    have h2 : allS ((r :: ps).map rowT) = none := rfl
    unfold sortT
    rw [h1, h2]
    simp only [Option.isSome_none, Bool.false_eq_true, if_false, Bool.false_and]
    rw [List.map_cons]
    dsimp only
    rw [flShape_row]
    dsimp only
    rw [← List.map_cons, flSame_rows, Bool.true_or, if_pos rfl]
theorem told_comp (ps : List Row) (x0 : Option U) : compL (gT (gCons (gN 1) (gCons (gN 2) gNil))) K_Pulls_told_1 E_Pulls_told_2 [x0, none, none] (itemsT (ps.map entR)) [] = some ((ps.filter posR).map rowT, []) := by
  have hf : (itemsT (ps.map entR)).filterMap (fun t => match t with
      | .tup [.tup ks, .int p] => if 0 < p then some (.tup (ks ++ [.int p])) else none
      | _ => none) = (ps.filter posR).map rowT := by
    induction ps with
    | nil => rfl
    | cons r ps ih =>
      obtain ⟨a, b, p⟩ := r
      unfold itemsT at ih ⊢
      by_cases h : 0 < p
      · rw [List.map_cons, List.map_cons, List.filterMap_cons_some (b := rowT (a, b, p)) (by simp [entR, keyR, h, rowT, keyTr]), ih, List.filter_cons_of_pos (by simp [posR, h]), List.map_cons]
      · rw [List.map_cons, List.map_cons, List.filterMap_cons_none (by simp [entR, h]), ih, List.filter_cons_of_neg (by simp [posR, h])]
  rw [← hf]
  refine compL_pure _ fun x hx => ?_
  unfold itemsT at hx
  obtain ⟨e, he, rfl⟩ := List.mem_map.mp hx
  obtain ⟨⟨a, b, p⟩, hr, rfl⟩ := List.mem_map.mp he
  refine ⟨[x0, some (.v (.tup [.str (lt a), .str (lt b)])), some (.v (.int p))], by simp [gT, gCons, gN, gNil, entR, keyR, keyTr], ?_⟩
  by_cases h : 0 < p
  · right
    refine ⟨rowT (a, b, p), by simp [entR, keyR, keyTr, h, rowT], ?_, ?_⟩
    · simp [K_Pulls_told_1, mTst, mOp2, mBind, mVar, mC, mPure, mLift, pv2, deref, gtT, ltT, h]
    · simp [E_Pulls_told_2, mOp2, mBind, mVar, mC, mPure, mLift, pv2, deref, mTup, mCons, mNil, allV, addT, rowT, sizeLine_eq]
  · left
    refine ⟨by simp [entR, h], ?_⟩
    simp [K_Pulls_told_1, mTst, mOp2, mBind, mVar, mC, mPure, mLift, pv2, deref, gtT, ltT, h]
theorem ptold_ok {ps : List Row} (g : ps.length ≤ 1000) : F_Pulls_told [.v (pullsT ps)] [] = some (.ok (.v (toldT ps)), []) := by
  have e := told_comp ps (some (.v (pullsT ps)))
  have e2 := sortT_rows (ps.filter posR)
  have hl : (itemsT (ps.map entR)).length ≤ sizeLine := by unfold itemsT; rw [List.length_map, List.length_map, sizeLine_eq]; omega
  unfold pullsT at e
  simp [F_Pulls_told, B_Pulls_told, pullsT, runF, sRet, sBind, mFz, mSorted, mBind, mCons, mNil, mComp, mSmall, mItI, mUn, mVar, mLift, mPure, pFld, insOf, hl, compM, wipeT, e, toT, derefs, deref, lstOf, e2, toldT]
end G

namespace G
open PySem L2
/-! ### pulls that are equal -/
theorem lt_inj {a b : Nat} (h : lt a = lt b) : a = b := by
  unfold lt at h
  simp at h
  exact h
theorem rowT_inj {r s : Row} (h : rowT r = rowT s) : r = s := by
  obtain ⟨a, b, p⟩ := r
  obtain ⟨c, d, q⟩ := s
  simp only [rowT, T.tup.injEq, List.cons.injEq, T.str.injEq, T.int.injEq, and_true] at h
  rw [lt_inj h.1, lt_inj h.2.1, h.2.2]
def areRows (xs : List T) : Prop := ∀ x ∈ xs, ∃ r : Row, x = rowT r ∧ r.1 < 26 ∧ r.2.1 < 26
theorem eqv_row {r s : Row} (h : PyData.eqv (toD (rowT r)) (toD (rowT s)) = true) : r = s := by
  obtain ⟨a, b, p⟩ := r
  obtain ⟨c, d, q⟩ := s
  simp [rowT, toD, toDs, PyData.eqv, PyData.eqvAll] at h
  rw [lt_inj h.1, lt_inj h.2.1, h.2.2]
theorem eqv_row_refl (r : Row) : PyData.eqv (toD (rowT r)) (toD (rowT r)) = true := by
  simp [rowT, toD, toDs, PyData.eqv, PyData.eqvAll]
theorem eqvAll_rows : ∀ {xs ys : List T}, areRows xs → areRows ys → PyData.eqvAll (toDs xs) (toDs ys) = true → xs = ys
  | [], [], _, _, _ => rfl
  | [], _ :: _, _, _, h => by simp [toDs, PyData.eqvAll] at h
  | _ :: _, [], _, _, h => by simp [toDs, PyData.eqvAll] at h
  | x :: xs, y :: ys, hx, hy, h => by
    simp only [toDs, PyData.eqvAll, Bool.and_eq_true] at h
    obtain ⟨r, rfl, _⟩ := hx x List.mem_cons_self
    obtain ⟨s, rfl, _⟩ := hy y List.mem_cons_self
    rw [eqv_row h.1, eqvAll_rows (fun z hz => hx z (List.mem_cons_of_mem _ hz)) (fun z hz => hy z (List.mem_cons_of_mem _ hz)) h.2]
theorem eqvAll_refl : ∀ {xs : List T}, areRows xs → PyData.eqvAll (toDs xs) (toDs xs) = true
  | [], _ => by simp [toDs, PyData.eqvAll]
  | x :: xs, hx => by
    obtain ⟨r, rfl, _⟩ := hx x List.mem_cons_self
    simp only [toDs, PyData.eqvAll, Bool.and_eq_true]
    exact ⟨eqv_row_refl r, eqvAll_refl fun z hz => hx z (List.mem_cons_of_mem _ hz)⟩
theorem okD_row {r : Row} (h1 : r.1 < 26) (h2 : r.2.1 < 26) (k : Nat) : okD (k + 1) (rowT r) = true := by
  simp [rowT, okD, okD_lt _ k h1, okD_lt _ k h2]
theorem okD_rows {xs : List T} (h : areRows xs) (k : Nat) : okD (k + 2) (.lst xs) = true := by
  simp only [okD, List.all_eq_true]
  intro x hx
  obtain ⟨r, rfl, h1, h2⟩ := h x hx
  exact okD_row h1 h2 k
theorem areRows_map {ps : List Row} (h : ∀ r ∈ ps, okR r) : areRows (ps.map rowT) := fun x hx => by
  obtain ⟨r, hr, rfl⟩ := List.mem_map.mp hx
  obtain ⟨h1, h2, _⟩ := h r hr
  exact ⟨r, rfl, by omega, h2⟩
theorem areRows_perm {xs ys : List T} (p : xs.Perm ys) (h : areRows ys) : areRows xs := fun x hx => h x (p.mem_iff.mp hx)
theorem areRows_told {ps : List Row} (h : ∀ r ∈ ps, okR r) : areRows (srtK ((ps.filter posR).map rowT)) :=
  areRows_perm (srtK_perm _) (areRows_map fun r hr => h r (List.mem_filter.mp hr).1)
theorem keyF_row (r : Row) : keyF (rowT r) = [.s (lt r.1), .s (lt r.2.1), .i r.2.2] := rfl
theorem keyF_inj {xs : List T} (h : areRows xs) : ∀ x ∈ xs, ∀ y ∈ xs, keyF x = keyF y → x = y := fun x hx y hy e => by
  obtain ⟨⟨a, b, p⟩, rfl, _⟩ := h x hx
  obtain ⟨⟨c, d, q⟩, rfl, _⟩ := h y hy
  rw [keyF_row, keyF_row] at e
  simp only [List.cons.injEq, At.s.injEq, At.i.injEq, and_true] at e
  rw [lt_inj e.1, lt_inj e.2.1, e.2.2]
theorem told_perm {ps qs : List Row} (h : ∀ r ∈ ps, okR r) (p : (ps.filter posR).Perm (qs.filter posR)) : toldT ps = toldT qs := by
  unfold toldT
  congr 1
  exact srtK_of (keyF_inj (areRows_told h)) ((srtK_perm _).trans (p.map rowT)) (srtK_srt _)
theorem told_mem {ps qs : List Row} (hp : ∀ r ∈ ps, okR r) (hq : ∀ r ∈ qs, okR r) (e : eqT (toldT ps) (toldT qs) = true) (r : Row) : r ∈ ps.filter posR ↔ r ∈ qs.filter posR := by
  have e' : srtK ((ps.filter posR).map rowT) = srtK ((qs.filter posR).map rowT) := eqvAll_rows (areRows_told hp) (areRows_told hq) (by simpa [eqT, toldT, toD, PyData.eqv] using e)
  have k : ∀ l : List Row, r ∈ l ↔ rowT r ∈ srtK (l.map rowT) := fun l => by
    rw [(srtK_perm _).mem_iff]
    constructor
    · exact fun h => List.mem_map.mpr ⟨r, h, rfl⟩
    · intro h
      obtain ⟨s, hs, es⟩ := List.mem_map.mp h
      rw [← rowT_inj es]; exact hs
  rw [k, k, e']
theorem ne_told : ((Str.ofString "told") == (Str.ofString "known")) = false := by decide +kernel
theorem ne_pull : ((Str.ofString "pull") == (Str.ofString "known")) = false := by decide +kernel
theorem peq_ok {ps qs : List Row} (gp : Good ps) (gq : Good qs) : F_Pullsd_eqd [.v (pullsT ps), .v (pullsT qs)] [] = some (.ok (.v (.bl (eqT (toldT ps) (toldT qs)))), []) := by
  have e1 := ptold_ok (ps := ps) (by have := gp.ln; omega)
  have e2 := ptold_ok (ps := qs) (by have := gq.ln; omega)
  have o1 : okD 64 (toldT ps) = true := okD_rows (areRows_told gp.ok) 62
  have o2 : okD 64 (toldT qs) = true := okD_rows (areRows_told gq.ok) 62
  unfold pullsT at e1 e2
  simp [F_Pullsd_eqd, B_Pullsd_eqd, pullsT, runF, sRet, sBind, mAnd, mUn, mBind, mVar, mPure, mLift, pv1, pv2, deref, isiC', isiC, noDT, mOp2, mMeth, insOf, mNil, callV, cellsOf, renum, ldM, stM, e1, e2, eqP, o1, o2, List.lookup, ne_told]
theorem own_ok {ps qs : List Row} (gp : Good ps) (gq : Good qs) {m : Mem} : ownAt "Pulls" F_Pullsd_eqd (.v (pullsT ps)) (.v (pullsT qs)) m = some (.ok (.v (.bl (eqT (toldT ps) (toldT qs)))), m) := by
  have e := peq_ok gp gq
  unfold pullsT at e
  simp [ownAt, insOf, otherOk, noX, callV, cellsOf, renum, ldM, stM, pullsT, e]
theorem own_no {ps : List Row} {t : T} {m : Mem} (h : noDT t = true) (ht : (tyName t).isSome = true) : ownAt "Pulls" F_Pullsd_eqd (.v (pullsT ps)) (.v t) m = some (.ok (.v (.bl false)), m) := by
  have e : F_Pullsd_eqd [.v (pullsT ps), .v t] [] = some (.ok (.v (.bl false)), []) := by
    obtain ⟨n, hn⟩ := Option.isSome_iff_exists.mp ht
    have hi : isiC "Pulls" t = some (.bl false) := by
      cases t <;> simp [tyName] at hn <;> simp [isiC, tyName]
    simp [F_Pullsd_eqd, B_Pullsd_eqd, pullsT, runF, sRet, sBind, mAnd, mUn, mBind, mVar, mPure, mLift, pv1, deref, isiC', h, hi]
  have hi : insOf m (.v t) = none := by cases t <;> simp [tyName] at ht <;> simp [insOf]
  have hj : insOf m (.v (pullsT ps)) = some (Str.ofString "Pulls", [(Str.ofString "known", U.v (.dT (ps.map entR)))]) := rfl
  simp [ownAt, hj, otherOk, hi, deref, h, ht, noX, callV, cellsOf, renum, ldM, stM, e]
end G

namespace G
open PySem L2
/-! ### single pulls -/
def isK (a b : Nat) (r : Row) : Bool := decide (r.1 = min a b) && decide (r.2.1 = max a b)
def lookR (ps : List Row) (a b : Nat) : Int := match ps.find? (isK a b) with
  | some r => r.2.2
  | none => 0
theorem min_lt (a b : Nat) : min2P [.str (lt a), .str (lt b)] = some (.str (lt (min a b))) := by
  show some (T.str (if (lt b).cps.toList < (lt a).cps.toList then lt b else lt a)) = _
  by_cases h : b < a
  · rw [if_pos ((lt_lt b a).mpr h), Nat.min_eq_right (by omega)]
  · rw [if_neg (fun z => h ((lt_lt b a).mp z)), Nat.min_eq_left (by omega)]
theorem max_lt (a b : Nat) : max2P [.str (lt a), .str (lt b)] = some (.str (lt (max a b))) := by
  show some (T.str (if (lt a).cps.toList < (lt b).cps.toList then lt b else lt a)) = _
  by_cases h : a < b
  · rw [if_pos ((lt_lt a b).mpr h), Nat.max_eq_right (by omega)]
  · rw [if_neg (fun z => h ((lt_lt a b).mp z)), Nat.max_eq_left (by omega)]
theorem valT_rows (ps : List Row) (a b : Nat) : valT (ps.map entR) [.inr (lt (min a b)), .inr (lt (max a b))] = (ps.find? (isK a b)).map fun r => .int r.2.2 := by
  unfold valT
  induction ps with
  | nil => rfl
  | cons r ps ih =>
    rw [List.map_cons, List.find?_cons, List.find?_cons]
    have e : decide ((entR r).1 = [Sum.inr (lt (min a b)), Sum.inr (lt (max a b))]) = isK a b r := by
      unfold isK entR keyR
      rw [← Bool.decide_and]
      congr 1
      simp only [List.cons.injEq, Sum.inr.injEq, and_true, eq_iff_iff]
      exact ⟨fun h => ⟨lt_inj h.1, lt_inj h.2⟩, fun h => ⟨by rw [h.1], by rw [h.2]⟩⟩
    rw [e]
    cases isK a b r with
    | true => rfl
    | false => exact ih
theorem pull_ok (ps : List Row) (a b : Nat) : F_Pulls_pull [.v (pullsT ps), .v (.str (lt a)), .v (.str (lt b))] [] = some (.ok (.v (.int (lookR ps a b))), []) := by
  have e := valT_rows ps a b
  have h1 := min_lt a b
  have h2 := max_lt a b
  have e3 : ((ps.find? (isK a b)).map fun r => T.int r.2.2).getD (.int 0) = .int (lookR ps a b) := by
    unfold lookR
    cases ps.find? (isK a b) <;> rfl
  simp [F_Pulls_pull, B_Pulls_pull, pullsT, runF, sSeq, sIf, sRet, sBind, sNext, mOrT, mTst, mOp2, mUn, mBind, mVar, mC, mPure, mLift, pv2, pvN, deref, derefs, isP, isNon, mDGet, isDictU, pFld, insOf, List.lookup, mTup, mCons, mNil, mCallB, allV, h1, h2, dGetM, dGetT, keysT, keyT, e, sizeLine_eq]
  exact e3
theorem pull_non1 (ps : List Row) (y : T) : F_Pulls_pull [.v (pullsT ps), .v .non, .v y] [] = some (.ok (.v (.int 0)), []) := by
  simp [F_Pulls_pull, B_Pulls_pull, pullsT, runF, sSeq, sIf, sRet, sBind, sNext, mOrT, mTst, mOp2, mUn, mBind, mVar, mC, mPure, mLift, pv2, deref, isP, isNon]
theorem pull_non2 (ps : List Row) (a : Nat) : F_Pulls_pull [.v (pullsT ps), .v (.str (lt a)), .v .non] [] = some (.ok (.v (.int 0)), []) := by
  simp [F_Pulls_pull, B_Pulls_pull, pullsT, runF, sSeq, sIf, sRet, sBind, sNext, mOrT, mTst, mOp2, mUn, mBind, mVar, mC, mPure, mLift, pv2, deref, isP, isNon]
/-! ### the law's own look -/
/-- found by the last that fits: the only one -/
theorem eqT_two {a b : Nat} {x y : T} : eqT (.tup [.str (lt a), .str (lt b)]) (.tup [x, y]) = true ↔ x = .str (lt a) ∧ y = .str (lt b) := by
  cases x <;> cases y <;> simp [eqT, toD, toDs, PyData.eqv, PyData.eqvAll]
  exact ⟨fun h => ⟨h.1.symm, h.2.symm⟩, fun h => ⟨h.1.symm, h.2.symm⟩⟩
theorem nodup_key {ps : List Row} (h : (ps.map keyR).Nodup) {r s : Row} (hr : r ∈ ps) (hs : s ∈ ps) (e : keyR r = keyR s) : r = s := by
  induction ps with
  | nil => simp at hr
  | cons q ps ih =>
    rw [List.map_cons] at h
    obtain ⟨n1, n2⟩ := List.nodup_cons.mp h
    rcases List.mem_cons.mp hr with er | hr' <;> rcases List.mem_cons.mp hs with es | hs'
    · rw [er, es]
    · exact (n1 (List.mem_map.mpr ⟨s, hs', by rw [← e, er]⟩)).elim
    · exact (n1 (List.mem_map.mpr ⟨r, hr', by rw [e, es]⟩)).elim
    · exact ih n2 hr' hs'
end G

namespace G
open PySem L2
/-! ### draws from a cell anywhere -/
abbrev srcC (a b c : Int) : Option C := some (.t (.lst [.int a, .int b, .int c]))
def SrcAt (m : Mem) (i : Nat) : Prop := ∃ a b c, m[i]? = some (srcC a b c)
theorem SrcAt.set {m : Mem} {i : Nat} {a b c : Int} (h : i < m.length) : SrcAt (m.set i (srcC a b c)) i := ⟨a, b, c, by rw [List.getElem?_set_self h]⟩
theorem callV_take {m : Mem} {i : Nat} {n : Int} (hm : SrcAt m i) (hn : 0 < n) (hb : n < 2 ^ 100) : ∃ r a' b' c', 0 ≤ r ∧ r < n ∧ callV 2 F_l_take [.c i, .v (.int n)] m = some (.ok (.v (.int r)), m.set i (srcC a' b' c')) := by
  obtain ⟨a, b, c, hm⟩ := hm
  obtain ⟨r, a', b', c', r0, r1, e⟩ := take_ok (a := a) (b := b) (c := c) hn hb
  refine ⟨r, a', b', c', r0, r1, ?_⟩
  simp [callV, cellsOf, renum, ldM, hm, flatO, toT, e, stM]
/-! ### mixing -/
theorem perm_erase {ts : List T} {j : Nat} (h : j < ts.length) : (ts[j] :: ts.eraseIdx j).Perm ts := by
  induction ts generalizing j with
  | nil => simp at h
  | cons x ts ih =>
    cases j with
    | zero => simp
    | succ j =>
      simp only [List.getElem_cons_succ, List.eraseIdx_cons_succ]
      exact (List.Perm.swap x _ _).trans ((ih (by simpa using h)).cons x)
theorem mixed_body {m : Mem} {l f : Nat} {ts fs : List T} {x1 : Option U} (hs : SrcAt m 0) (hl : m[l]? = some (some (.t (.lst ts)))) (hf : m[f]? = some (some (.t (.lst fs)))) (h0l : 0 ≠ l) (h0f : 0 ≠ f) (hlf : l ≠ f) (hn : 0 < ts.length) (hb : ts.length + fs.length ≤ 1000) :
    ∃ (j : Nat) (a b c : Int) (hj : j < ts.length), L_l_mixed_1 [some (.c 0), x1, some (.c l), some (.c f)] m = some (.fl .nx [some (.c 0), x1, some (.c l), some (.c f)], ((m.set 0 (srcC a b c)).set l (some (.t (.lst (ts.eraseIdx j))))).set f (some (.t (.lst (fs ++ [ts[j]]))))) := by
  obtain ⟨r, a, b, c, r0, r1, e⟩ := callV_take (m := m) (i := 0) (n := ts.length) hs (by omega) (by omega)
  have hj : r.toNat < ts.length := by omega
  refine ⟨r.toNat, a, b, c, hj, ?_⟩
  have k1 : (-9223372036854775808 : Int) ≤ r := by omega
  have k2 : r < (9223372036854775808 : Int) := by omega
  have k3 : fs.length < 16777216 := by omega
  have g1 : (m.set 0 (srcC a b c))[l]? = some (some (.t (.lst ts))) := by rw [List.getElem?_set_ne h0l, hl]
  have g2 : ((m.set 0 (srcC a b c)).set l (some (.t (.lst (ts.eraseIdx r.toNat)))))[f]? = some (some (.t (.lst fs))) := by rw [List.getElem?_set_ne hlf, List.getElem?_set_ne h0f, hf]
  simp [L_l_mixed_1, sExpr, sBind, sNext, mMtL, mBind, mVar, mCons, mNil, mPure, mLift, mCall, mCallB, pvN, derefs, deref, hl, hf, toT, lenP, seqOf, isLst, e, pPopAt, g1, k1, k2, ixN, r0, r1, hj, pAppend, g2, sizeLine_eq, k3]
theorem eqT_nil (ts : List T) : eqT (.lst ts) (.lst []) = ts.isEmpty := by
  cases ts <;> simp [eqT, toD, toDs, PyData.eqv, PyData.eqvAll]
theorem set6 {m : Mem} {l f : Nat} {x y z x' y' z' : Option C} (h0l : 0 ≠ l) (h0f : 0 ≠ f) (hlf : l ≠ f) : (((((m.set 0 x).set l y).set f z).set 0 x').set l y').set f z' = ((m.set 0 x').set l y').set f z' := by
  apply List.ext_getElem?
  intro i
  simp only [List.getElem?_set, List.length_set]
  by_cases i0 : 0 = i <;> by_cases il : l = i <;> by_cases iF : f = i <;> simp [i0, il, iF]
theorem mixed_loop : ∀ (n : Nat) (m : Mem) (l f : Nat) (ts fs : List T) (x1 : Option U), SrcAt m 0 → m[l]? = some (some (.t (.lst ts))) → m[f]? = some (some (.t (.lst fs))) → 0 ≠ l → 0 ≠ f → l ≠ f → ts.length < n → ts.length + fs.length ≤ 1000 → (∀ t ∈ ts, okD 63 t = true) →
    ∃ ts' a b c, ts'.Perm ts ∧ sWhile n K_l_mixed_2 L_l_mixed_1 [some (.c 0), x1, some (.c l), some (.c f)] m =
      some (.fl .nx [some (.c 0), x1, some (.c l), some (.c f)], ((m.set 0 (srcC a b c)).set l (some (.t (.lst [])))).set f (some (.t (.lst (fs ++ ts')))))
  | 0, _, _, _, ts, _, _, _, _, _, _, _, _, h, _, _ => absurd h (Nat.not_lt_zero _)
  | n + 1, m, l, f, ts, fs, x1, hs, hl, hf, h0l, h0f, hlf, hn, hb, hok => by
    have o1 : okD 64 (.lst ts) = true := by simpa [okD, List.all_eq_true] using hok
    have o2 : okD 64 (.lst []) = true := by simp [okD]
    have ht : K_l_mixed_2 [some (.c 0), x1, some (.c l), some (.c f)] m = some (.ok (!ts.isEmpty), m) := by
      simp [K_l_mixed_2, mTst, mOp2, mBind, mVar, mFz, mLst, mNil, allV, mPure, mLift, pv2, deref, hl, toT, neP, o1, o2, eqT_nil, sizeLine_eq]
    unfold sWhile sBind
    rw [ht]
    dsimp only
    cases ts with
    | nil =>
      obtain ⟨a, b, c, hs⟩ := hs
      refine ⟨[], a, b, c, .refl _, ?_⟩
      have e1 : m.set 0 (srcC a b c) = m := set_same hs
      rw [e1, set_same hl, List.append_nil, set_same hf]
      rfl
    | cons t ts =>
      obtain ⟨j, a, b, c, hj, e⟩ := mixed_body (x1 := x1) hs hl hf h0l h0f hlf (by simp) hb
      have l0 : 0 < m.length := by obtain ⟨_, _, _, h⟩ := hs; exact (List.getElem?_eq_some_iff.mp h).1
      have ll : l < m.length := (List.getElem?_eq_some_iff.mp hl).1
      have lf : f < m.length := (List.getElem?_eq_some_iff.mp hf).1
      have hle : ((t :: ts).eraseIdx j).length = ts.length := by rw [List.length_eraseIdx]; simp at hj ⊢; omega
      obtain ⟨ts', a', b', c', p, e'⟩ := mixed_loop n (((m.set 0 (srcC a b c)).set l (some (.t (.lst ((t :: ts).eraseIdx j))))).set f (some (.t (.lst (fs ++ [(t :: ts)[j]]))))) l f ((t :: ts).eraseIdx j) (fs ++ [(t :: ts)[j]]) x1
        ⟨a, b, c, by rw [List.getElem?_set_ne (Ne.symm h0f), List.getElem?_set_ne (Ne.symm h0l), List.getElem?_set_self l0]⟩
        (by rw [List.getElem?_set_ne (Ne.symm hlf), List.getElem?_set_self (by simpa using ll)]) (by rw [List.getElem?_set_self (by simpa using lf)]) h0l h0f hlf (by rw [hle]; simp at hn; omega) (by rw [hle]; simp at hb ⊢; omega)
        fun x hx => hok x (List.mem_of_mem_eraseIdx hx)
      refine ⟨(t :: ts)[j] :: ts', a', b', c', (p.cons _).trans (perm_erase hj), ?_⟩
      show sTurn L_l_mixed_1 _ _ m = _
      unfold sTurn
      rw [e]
      dsimp only
      rw [e']
      rw [set6 h0l h0f hlf, List.append_assoc]
      rfl
end G

namespace G
open PySem L2
theorem mixedV {ts : List T} (a b c : Int) (hb : ts.length ≤ 1000) (hok : ∀ t ∈ ts, okD 63 t = true) :
    ∃ ts' a' b' c', ts'.Perm ts ∧ F_l_mixed [.c 0, .v (.lst ts)] (sc a b c) = some (.ok (.c 2), [srcC a' b' c', some (.t (.lst [])), some (.t (.lst ts'))]) := by
  obtain ⟨ts', a', b', c', p, e⟩ := mixed_loop 10000 [srcC a b c, some (.t (.lst ts)), some (.t (.lst []))] 1 2 ts [] (some (.v (.lst ts))) ⟨a, b, c, rfl⟩ rfl rfl (by decide) (by decide) (by decide) (by omega) (by simpa using hb) hok
  refine ⟨ts', a', b', c', p, ?_⟩
  have hs : ts.length ≤ 16777216 := by omega
  simp only [srcC, List.set_cons_zero, List.set_cons_succ, List.nil_append] at e
  simp [F_l_mixed, B_l_mixed, runF, sSeq, sAsg, sRet, sBind, gN, mCl, mList, mBind, mCons, mNil, mVar, mPure, derefs, deref, seqOf, mLst, allV, sc, srcC, e, sizeLine_eq, hs]
theorem mixedC {ts : List T} (a b c : Int) (hb : ts.length ≤ 1000) (hok : ∀ t ∈ ts, okD 63 t = true) :
    ∃ ts' a' b' c', ts'.Perm ts ∧ F_l_mixed [.c 0, .c 1] [srcC a b c, some (.t (.lst ts))] = some (.ok (.c 3), [srcC a' b' c', some (.t (.lst ts)), some (.t (.lst [])), some (.t (.lst ts'))]) := by
  obtain ⟨ts', a', b', c', p, e⟩ := mixed_loop 10000 [srcC a b c, some (.t (.lst ts)), some (.t (.lst ts)), some (.t (.lst []))] 2 3 ts [] (some (.c 1)) ⟨a, b, c, rfl⟩ rfl rfl (by decide) (by decide) (by decide) (by omega) (by simpa using hb) hok
  refine ⟨ts', a', b', c', p, ?_⟩
  have hs : ts.length ≤ 16777216 := by omega
  simp only [srcC, List.set_cons_zero, List.set_cons_succ, List.nil_append] at e
  simp [F_l_mixed, B_l_mixed, runF, sSeq, sAsg, sRet, sBind, gN, mCl, mList, mBind, mCons, mNil, mVar, mPure, derefs, deref, toT, seqOf, mLst, allV, srcC, e, sizeLine_eq, hs]
theorem callV_mixed {m : Mem} {i : Nat} {ts : List T} (hm : SrcAt m i) (hb : ts.length ≤ 1000) (hok : ∀ t ∈ ts, okD 63 t = true) :
    ∃ ts' a b c, ts'.Perm ts ∧ callV 2 F_l_mixed [.c i, .v (.lst ts)] m = some (.ok (.v (.lst ts')), m.set i (srcC a b c)) := by
  obtain ⟨a, b, c, hm⟩ := hm
  obtain ⟨ts', a', b', c', p, e⟩ := mixedV a b c hb hok
  refine ⟨ts', a', b', c', p, ?_⟩
  simp [callV, cellsOf, renum, ldM, hm, flatO, toT, e, stM]
theorem callV_mixedC {m : Mem} {i k : Nat} {ts : List T} (hm : SrcAt m i) (hk : m[k]? = some (some (.t (.lst ts)))) (hik : i ≠ k) (hb : ts.length ≤ 1000) (hok : ∀ t ∈ ts, okD 63 t = true) :
    ∃ ts' a b c, ts'.Perm ts ∧ callV 2 F_l_mixed [.c i, .c k] m = some (.ok (.v (.lst ts')), m.set i (srcC a b c)) := by
  obtain ⟨a, b, c, hm⟩ := hm
  obtain ⟨ts', a', b', c', p, e⟩ := mixedC a b c hb hok
  refine ⟨ts', a', b', c', p, ?_⟩
  simp [callV, cellsOf, renum, ldM, hm, hk, hik, flatO, toT, e, stM, set_same hk]
theorem callV_one {m : Mem} {i : Nat} {ts : List T} (hm : SrcAt m i) (h0 : 0 < ts.length) (h1 : ts.length ≤ 1000) : ∃ x a b c, x ∈ ts ∧ callV 2 F_l_one [.c i, .v (.lst ts)] m = some (.ok (.v x), m.set i (srcC a b c)) := by
  obtain ⟨a, b, c, hm⟩ := hm
  obtain ⟨x, a', b', c', hx, e⟩ := one_ok (a := a) (b := b) (c := c) h0 h1
  refine ⟨x, a', b', c', hx, ?_⟩
  simp [callV, cellsOf, renum, ldM, hm, flatO, toT, e, stM]
theorem callV_letters {m : Mem} {i : Nat} (hm : SrcAt m i) : ∃ f a b c, f < 26 ∧ callV 1 F_l_letters [.c i] m = some (.ok (.v (.lst (lets f))), m.set i (srcC a b c)) := by
  obtain ⟨a, b, c, hm⟩ := hm
  obtain ⟨f, a', b', c', hf, e⟩ := letters_ok (a := a) (b := b) (c := c)
  refine ⟨f, a', b', c', hf, ?_⟩
  simp [callV, cellsOf, renum, ldM, hm, flatO, toT, e, stM]
end G

namespace G
open PySem L2
/-! ### letters in order -/
def stT (n : Nat) : T := .str (lt n)
theorem ltS_lt (a b : Nat) : ltS (lt a) (lt b) = decide (a < b) := by
  unfold ltS
  rw [Bool.eq_iff_iff]
  simp only [decide_eq_true_eq]
  exact lt_lt a b
theorem ltK_st (a b : Nat) : ltK (stT a) (stT b) = decide (a < b) := by
  show lexB ltA [.s (lt a)] [.s (lt b)] = _
  simp only [lexB, ltA, ltS_lt]
  by_cases h : a < b <;> simp [h]
def insN (x : Nat) : List Nat → List Nat
  | [] => [x]
  | y :: ys => if y < x then y :: insN x ys else x :: y :: ys
def srtN : List Nat → List Nat
  | [] => []
  | x :: xs => insN x (srtN xs)
theorem insK_st (x : Nat) : ∀ l : List Nat, insK (stT x) (l.map stT) = (insN x l).map stT
  | [] => rfl
  | y :: ys => by
    rw [List.map_cons, insK, insN, ltK_st]
    by_cases h : y < x
    · simp [h, insK_st x ys]
    · simp [h]
theorem srtK_st : ∀ l : List Nat, srtK (l.map stT) = (srtN l).map stT
  | [] => rfl
  | x :: xs => by rw [List.map_cons, srtK, srtK_st xs, insK_st]; rfl
theorem insN_perm (x : Nat) : ∀ l, (insN x l).Perm (x :: l)
  | [] => .refl _
  | y :: ys => by
    unfold insN
    split
    · exact ((insN_perm x ys).cons y).trans (.swap x y ys)
    · exact .refl _
theorem srtN_perm : ∀ l, (srtN l).Perm l
  | [] => .refl _
  | x :: xs => (insN_perm x _).trans ((srtN_perm xs).cons x)
theorem insN_srt (x : Nat) : ∀ l : List Nat, l.Pairwise (· ≤ ·) → (insN x l).Pairwise (· ≤ ·)
  | [], _ => List.pairwise_singleton _ _
  | y :: ys, h => by
    obtain ⟨h1, h2⟩ := List.pairwise_cons.mp h
    unfold insN
    split
    · refine List.pairwise_cons.mpr ⟨fun z hz => ?_, insN_srt x ys h2⟩
      rcases List.mem_cons.mp ((insN_perm x ys).mem_iff.mp hz) with rfl | hz
      · omega
      · exact h1 z hz
    · refine List.pairwise_cons.mpr ⟨fun z hz => ?_, h⟩
      rcases List.mem_cons.mp hz with rfl | hz
      · omega
      · have := h1 z hz; omega
theorem srtN_srt : ∀ l : List Nat, (srtN l).Pairwise (· ≤ ·)
  | [] => List.Pairwise.nil
  | x :: xs => insN_srt x _ (srtN_srt xs)
theorem srtN_strict {l : List Nat} (h : l.Nodup) : (srtN l).Pairwise (· < ·) := by
  have h1 := srtN_srt l
  have h2 : (srtN l).Nodup := (srtN_perm l).nodup_iff.mpr h
  exact (List.pairwise_and_iff.mpr ⟨h1, h2⟩).imp fun ⟨a, b⟩ => by omega
theorem allI_st {l : List Nat} (h : l ≠ []) : allI (l.map stT) = none := by
  cases l with
  | nil => exact absurd rfl h
  | cons x l => rfl
theorem allS_st : ∀ l : List Nat, allS (l.map stT) = some (l.map lt)
  | [] => rfl
  | x :: l => by rw [List.map_cons, List.map_cons, stT, allS, allS_st l]
theorem sortT_st {l : List Nat} (h : l.length < 64) : sortT (l.map stT) = some ((srtN l).map stT) := by
  cases l with
  | nil => rfl
  | cons x l =>
    unfold sortT
    rw [allI_st (by simp), allS_st, srtK_st]
    simp at h
    simp [h]
/-! ### the rows that are told -/
abbrev six : List T := [.int 0, .int 1, .int 1, .int 2, .int 3, .int 9]
theorem told_body {m : Mem} {lets : T} {R : List Row} {a b : Nat} {x3 : Option U} (hs : SrcAt m 0) (hf : m[1]? = some (some (.t (.lst (R.map rowT))))) (hl : R.length ≤ 100) :
    ∃ R' a' b' c', (R' = R ∨ ∃ p : Int, 0 ≤ p ∧ p ≤ 9 ∧ R' = R ++ [(a, b, p)]) ∧
      L_l_told_1 [some (.c 0), some (.v lets), some (.c 1), x3, some (.v (stT a)), some (.v (stT b))] m = some (.fl .nx [some (.c 0), some (.v lets), some (.c 1), x3, some (.v (stT a)), some (.v (stT b))], (m.set 0 (srcC a' b' c')).set 1 (some (.t (.lst (R'.map rowT))))) := by
  obtain ⟨r, a1, b1, c1, r0, r1, e⟩ := callV_take (m := m) (i := 0) (n := 4) hs (by decide) (by decide)
  have l0 : 0 < m.length := by obtain ⟨_, _, _, h⟩ := hs; exact (List.getElem?_eq_some_iff.mp h).1
  have hf1 : (m.set 0 (srcC a1 b1 c1))[1]? = some (some (.t (.lst (R.map rowT)))) := by rw [List.getElem?_set_ne (by decide), hf]
  by_cases h : 0 < r
  · obtain ⟨x, a2, b2, c2, hx, e2⟩ := callV_one (m := m.set 0 (srcC a1 b1 c1)) (i := 0) (ts := six) (.set l0) (by decide) (by decide)
    obtain ⟨p, hp, h0, h9⟩ : ∃ p : Int, x = .int p ∧ 0 ≤ p ∧ p ≤ 9 := by
      simp only [six, List.mem_cons, List.not_mem_nil, or_false] at hx
      rcases hx with rfl | rfl | rfl | rfl | rfl | rfl <;> exact ⟨_, rfl, by decide, by decide⟩
    subst hp
    refine ⟨R ++ [(a, b, p)], a2, b2, c2, .inr ⟨p, h0, h9, rfl⟩, ?_⟩
    have hf2 : (m.set 0 (srcC a2 b2 c2))[1]? = some (some (.t (.lst (R.map rowT)))) := by rw [List.getElem?_set_ne (by decide), hf]
    have hk : R.length < 16777216 := by omega
    rw [List.set_set] at e2
    simp [L_l_told_1, sIf, sBind, sExpr, sNext, mTst, mOp2, mBind, mVar, mC, mPure, mLift, mCons, mNil, mCall, e, pv2, deref, gtT, ltT, h, mMtL, isLst, hf1, toT, mTup, mFz, mLst, allV, e2, pAppend, hf2, sizeLine_eq, hk, rowT, stT]
  · refine ⟨R, a1, b1, c1, .inl rfl, ?_⟩
    have hs' : (m.set 0 (srcC a1 b1 c1)).set 1 (some (.t (.lst (R.map rowT)))) = m.set 0 (srcC a1 b1 c1) := set_same hf1
    rw [hs']
    simp [L_l_told_1, sIf, sBind, sNext, mTst, mOp2, mBind, mVar, mC, mPure, mLift, mCons, mNil, mCall, e, pv2, deref, gtT, ltT, h]
end G

namespace G
open PySem L2
theorem setmem {m : Mem} {x y x' y' : Option C} : ((((m.set 0 x).set 1 y).set 0 x').set 1 y') = (m.set 0 x').set 1 y' := by
  apply List.ext_getElem?
  intro i
  simp only [List.getElem?_set, List.length_set]
  by_cases i0 : 0 = i <;> by_cases i1 : 1 = i <;> simp [i0, i1]
theorem told_inner {lets : T} {x3 : Option U} (s : Nat) : ∀ (ts : List Nat) (R : List Row) (m : Mem) (x5 : Option U), ts.Pairwise (· < ·) → (∀ t ∈ ts, s ≤ t ∧ t < 26) → (∀ r ∈ R, okR r ∧ (r.1 < s ∨ r.1 = s ∧ ∀ t ∈ ts, r.2.1 < t)) → (R.map keyR).Nodup → R.length + ts.length ≤ 100 →
    SrcAt m 0 → m[1]? = some (some (.t (.lst (R.map rowT)))) →
    ∃ (R' : List Row) (a b c : Int) (y5 : Option U), sForL (gN 5) L_l_told_1 (ts.map stT) [some (.c 0), some (.v lets), some (.c 1), x3, some (.v (stT s)), x5] m = some (.fl .nx [some (.c 0), some (.v lets), some (.c 1), x3, some (.v (stT s)), y5], (m.set 0 (srcC a b c)).set 1 (some (.t (.lst (R'.map rowT))))) ∧
      (∀ r ∈ R', okR r ∧ r.1 ≤ s ∧ (r ∈ R ∨ (r.1 = s ∧ r.2.1 ∈ ts))) ∧ (R'.map keyR).Nodup ∧ R'.length ≤ R.length + ts.length
  | [], R, m, x5, _, _, hR, hn, hl, hs, hm => by
    obtain ⟨a, b, c, hs⟩ := hs
    refine ⟨R, a, b, c, x5, ?_, fun r hr => ⟨(hR r hr).1, ?_, .inl hr⟩, hn, by simp⟩
    · rw [set_same hs, set_same hm]; rfl
    · rcases (hR r hr).2 with h | h
      · omega
      · omega
  | t :: ts, R, m, x5, hp, ht, hR, hn, hl, hs, hm => by
    obtain ⟨p1, p2⟩ := List.pairwise_cons.mp hp
    obtain ⟨R1, a1, b1, c1, hR1, e1⟩ := told_body (lets := lets) (a := s) (b := t) (x3 := x3) hs hm (by simp at hl; omega)
    have l0 : 0 < m.length := by obtain ⟨_, _, _, h⟩ := hs; exact (List.getElem?_eq_some_iff.mp h).1
    have l1 : 1 < m.length := (List.getElem?_eq_some_iff.mp hm).1
    have ok1 : ∀ r ∈ R1, okR r ∧ (r.1 < s ∨ r.1 = s ∧ ∀ t ∈ ts, r.2.1 < t) ∧ (r ∈ R ∨ (r.1 = s ∧ r.2.1 = t)) := by
      have old : ∀ r ∈ R, okR r ∧ (r.1 < s ∨ r.1 = s ∧ ∀ t ∈ ts, r.2.1 < t) ∧ (r ∈ R ∨ (r.1 = s ∧ r.2.1 = t)) := fun r hr => by
        obtain ⟨h1, h2⟩ := hR r hr
        exact ⟨h1, h2.imp id fun h => ⟨h.1, fun z hz => h.2 z (List.mem_cons_of_mem _ hz)⟩, .inl hr⟩
      rcases hR1 with rfl | ⟨p, h0, h9, rfl⟩
      · exact old
      · intro r hr
        rcases List.mem_append.mp hr with hr | hr
        · exact old r hr
        · rw [List.mem_singleton.mp hr]
          obtain ⟨g1, g2⟩ := ht t List.mem_cons_self
          exact ⟨⟨g1, g2, h0, h9⟩, .inr ⟨rfl, p1⟩, .inr ⟨rfl, rfl⟩⟩
    have nd1 : (R1.map keyR).Nodup := by
      rcases hR1 with rfl | ⟨p, h0, h9, rfl⟩
      · exact hn
      · rw [List.map_append, List.nodup_append]
        refine ⟨hn, by simp, fun x hx y hy => ?_⟩
        obtain ⟨r, hr, rfl⟩ := List.mem_map.mp hx
        simp only [List.map_cons, List.map_nil, List.mem_singleton] at hy
        subst hy
        intro z
        simp only [keyR, List.cons.injEq, Sum.inr.injEq, and_true] at z
        have z1 := lt_inj z.1
        have z2 := lt_inj z.2
        rcases (hR r hr).2 with h | ⟨_, h⟩
        · omega
        · have := h t List.mem_cons_self; omega
    have ln1 : R1.length ≤ R.length + 1 := by
      rcases hR1 with rfl | ⟨p, h0, h9, rfl⟩ <;> simp
    obtain ⟨R', a, b, c, y5, e, k1, k2, k3⟩ := told_inner s ts R1 ((m.set 0 (srcC a1 b1 c1)).set 1 (some (.t (.lst (R1.map rowT))))) (some (.v (stT t))) p2 (fun z hz => ht z (List.mem_cons_of_mem _ hz)) (fun r hr => ⟨(ok1 r hr).1, (ok1 r hr).2.1⟩) nd1 (by simp at hl; omega)
      ⟨a1, b1, c1, by rw [List.getElem?_set_ne (by decide), List.getElem?_set_self l0]⟩ (by rw [List.getElem?_set_self (by simpa using l1)])
    refine ⟨R', a, b, c, y5, ?_, fun r hr => ?_, k2, by simp; omega⟩
    · rw [List.map_cons, sForL]
      simp only [gN, List.set_cons_succ, List.set_cons_zero, sTurn, e1]
      rw [e, setmem]
    · obtain ⟨g1, g2, g3⟩ := k1 r hr
      refine ⟨g1, g2, ?_⟩
      rcases g3 with g3 | ⟨g3, g4⟩
      · rcases (ok1 r g3).2.2 with h | ⟨h, h'⟩
        · exact .inl h
        · exact .inr ⟨h, by rw [h']; exact List.mem_cons_self⟩
      · exact .inr ⟨g3, List.mem_cons_of_mem _ g4⟩
theorem cut_from (xs : List T) (k : Nat) (h : k ≤ xs.length) : cutT xs (some (k : Int)) none = xs.drop k := by
  unfold cutT
  rw [HT.sIx_nat, HT.sIx_none, Nat.min_eq_left h]
  exact List.take_of_length_le (by simp)
theorem told_2 {L : List Nat} {k : Nat} {x4 x5 : Option U} {m : Mem} (hL : L.length < 64) (hk : k ≤ L.length) :
    L_l_told_2 [some (.c 0), some (.v (.lst (L.map stT))), some (.c 1), some (.v (.int (k : Int))), x4, x5] m = sForL (gN 5) L_l_told_1 (((srtN L).drop k).map stT) [some (.c 0), some (.v (.lst (L.map stT))), some (.c 1), some (.v (.int (k : Int))), x4, x5] m := by
  have e := sortT_st hL
  have e2 := cut_from ((srtN L).map stT) k (by rw [List.length_map, (srtN_perm L).length_eq]; exact hk)
  rw [← List.map_drop] at e2
  simp [L_l_told_2, sFor, sBind, mItL, mBind, mSl, mFz, mSorted, mCons, mNil, mVar, mPure, mPart, mNoPart, derefs, deref, toT, lstOf, e, slP, e2, srcL, isL]
theorem told_outer {L : List Nat} (hL : L.length < 10) (hb : ∀ t ∈ L, t < 26) (hn0 : L.Nodup) : ∀ (n k : Nat) (R : List Row) (m : Mem) (x3 x4 x5 : Option U), k + n = (srtN L).length → (∀ r ∈ R, okR r ∧ (∀ t ∈ (srtN L).drop k, r.1 < t) ∧ r.1 ∈ L ∧ r.2.1 ∈ L) → (R.map keyR).Nodup → R.length ≤ 10 * k →
    SrcAt m 0 → m[1]? = some (some (.t (.lst (R.map rowT)))) →
    ∃ (R' : List Row) (a b c : Int) (y3 y4 y5 : Option U), sForL (gT (gCons (gN 3) (gCons (gN 4) gNil))) L_l_told_2 (enumF k (((srtN L).drop k).map stT)) [some (.c 0), some (.v (.lst (L.map stT))), some (.c 1), x3, x4, x5] m = some (.fl .nx [some (.c 0), some (.v (.lst (L.map stT))), some (.c 1), y3, y4, y5], (m.set 0 (srcC a b c)).set 1 (some (.t (.lst (R'.map rowT))))) ∧
      (∀ r ∈ R', okR r ∧ r.1 ∈ L ∧ r.2.1 ∈ L) ∧ (R'.map keyR).Nodup ∧ R'.length ≤ 100
  | 0, k, R, m, x3, x4, x5, hk, hR, hn, hl, hs, hm => by
    obtain ⟨a, b, c, hs⟩ := hs
    have hlen : (srtN L).length = L.length := (srtN_perm L).length_eq
    have e : (srtN L).drop k = [] := List.drop_of_length_le (by omega)
    refine ⟨R, a, b, c, x3, x4, x5, ?_, fun r hr => ⟨(hR r hr).1, (hR r hr).2.2⟩, hn, by omega⟩
    rw [e, set_same hs, set_same hm]; rfl
  | n + 1, k, R, m, x3, x4, x5, hk, hR, hn, hl, hs, hm => by
    have hlen : (srtN L).length = L.length := (srtN_perm L).length_eq
    have hkl : k < (srtN L).length := by omega
    have hd : (srtN L).drop k = (srtN L)[k] :: (srtN L).drop (k + 1) := List.drop_eq_getElem_cons hkl
    have hsrt := srtN_strict hn0
    have hsd : ((srtN L).drop k).Pairwise (· < ·) := hsrt.sublist (List.drop_sublist _ _)
    have hmem : ∀ t ∈ (srtN L).drop k, t ∈ L := fun t h => (srtN_perm L).mem_iff.mp (List.mem_of_mem_drop h)
    have hge : ∀ t ∈ (srtN L).drop k, (srtN L)[k] ≤ t ∧ t < 26 := fun t h => by
      refine ⟨?_, hb t (hmem t h)⟩
      rw [hd] at h hsd
      rcases List.mem_cons.mp h with rfl | h
      · exact Nat.le_refl _
      · exact Nat.le_of_lt ((List.pairwise_cons.mp hsd).1 t h)
    have hin : (srtN L)[k] ∈ (srtN L).drop k := by rw [hd]; exact List.mem_cons_self
    obtain ⟨R1, a1, b1, c1, y5, e1, k1, k2, k3⟩ := told_inner (lets := .lst (L.map stT)) (x3 := some (.v (.int (k : Int)))) (srtN L)[k] ((srtN L).drop k) R m x5 hsd hge (fun r hr => ⟨(hR r hr).1, .inl ((hR r hr).2.1 _ hin)⟩) hn (by rw [List.length_drop]; omega) hs hm
    have l0 : 0 < m.length := by obtain ⟨_, _, _, h⟩ := hs; exact (List.getElem?_eq_some_iff.mp h).1
    have l1 : 1 < m.length := (List.getElem?_eq_some_iff.mp hm).1
    obtain ⟨R', a, b, c, z3, z4, z5, e, g1, g2, g3⟩ := told_outer hL hb hn0 n (k + 1) R1 ((m.set 0 (srcC a1 b1 c1)).set 1 (some (.t (.lst (R1.map rowT))))) (some (.v (.int (k : Int)))) (some (.v (stT (srtN L)[k]))) y5 (by omega) (fun r hr => by
        obtain ⟨h1, h2, h3⟩ := k1 r hr
        refine ⟨h1, fun t ht => ?_, ?_⟩
        · rw [hd] at hsd
          have := (List.pairwise_cons.mp hsd).1 t ht
          omega
        · rcases h3 with h3 | ⟨h3, h4⟩
          · exact (hR r h3).2.2
          · exact ⟨by rw [h3]; exact hmem _ hin, hmem _ h4⟩) k2 (by rw [List.length_drop] at k3; omega)
      ⟨a1, b1, c1, by rw [List.getElem?_set_ne (by decide), List.getElem?_set_self l0]⟩ (by rw [List.getElem?_set_self (by simpa using l1)])
    refine ⟨R', a, b, c, z3, z4, z5, ?_, g1, g2, g3⟩
    rw [hd, List.map_cons, enumF, sForL]
    simp only [gT, gCons, gN, gNil, List.set_cons_succ, List.set_cons_zero, sTurn]
    rw [told_2 (by omega) (by omega), e1]
    dsimp only
    rw [e, setmem]
end G

namespace G
open PySem L2
theorem perm_map_inv {α β : Type} {f : α → β} {l k : List β} (p : l.Perm k) : ∀ {R : List α}, k = R.map f → ∃ R' : List α, l = R'.map f ∧ R'.Perm R := by
  induction p with
  | nil => intro R h; exact ⟨[], rfl, by rw [List.map_eq_nil_iff.mp h.symm]⟩
  | cons x p ih =>
    intro R h
    match R, h with
    | r :: R, h =>
      rw [List.map_cons] at h
      injection h with h1 h2
      obtain ⟨R', e, q⟩ := ih h2
      exact ⟨r :: R', by rw [List.map_cons, ← e, h1], q.cons r⟩
  | swap x y l =>
    intro R h
    match R, h with
    | r :: s :: R, h =>
      simp only [List.map_cons, List.cons.injEq] at h
      obtain ⟨h1, h2, h3⟩ := h
      exact ⟨s :: r :: R, by simp only [List.map_cons, List.cons.injEq]; exact ⟨h2, h1, h3⟩, .swap r s R⟩
    | [_], h => simp at h
    | [], h => simp at h
  | trans p1 p2 ih1 ih2 =>
    intro R h
    obtain ⟨R2, e2, q2⟩ := ih2 h
    obtain ⟨R1, e1, q1⟩ := ih1 e2
    exact ⟨R1, e1, q1.trans q2⟩
theorem Good.perm {ps qs : List Row} (g : Good ps) (p : qs.Perm ps) : Good qs := ⟨fun r hr => g.ok r (p.mem_iff.mp hr), (p.map keyR).nodup_iff.mpr g.nd, by rw [p.length_eq]; exact g.ln⟩
theorem okD_rowsOf {R : List Row} (h : ∀ r ∈ R, okR r) : ∀ t ∈ R.map rowT, okD 63 t = true := fun t ht => by
  obtain ⟨r, hr, rfl⟩ := List.mem_map.mp ht
  obtain ⟨h1, h2, _⟩ := h r hr
  exact okD_row (by omega) h2 62
theorem told_all {L : List Nat} (hL : L.length < 10) (hb : ∀ t ∈ L, t < 26) (hn : L.Nodup) (a b c : Int) : ∃ (R : List Row) (a' b' c' : Int) (y : Option C), Good R ∧ R.length ≤ 100 ∧ (∀ r ∈ R, r.1 ∈ L ∧ r.2.1 ∈ L) ∧ F_l_told [.c 0, .v (.lst (L.map stT))] (sc a b c) = some (.ok (.v (.lst (R.map rowT))), [srcC a' b' c', y]) := by
  have hlen : (srtN L).length = L.length := (srtN_perm L).length_eq
  obtain ⟨R, a1, b1, c1, y3, y4, y5, e, g1, g2, g3⟩ := told_outer hL hb hn (srtN L).length 0 [] [srcC a b c, some (.t (.lst []))] none none none (by omega) (fun r h => by simp at h) (by simp) (by simp) ⟨a, b, c, rfl⟩ rfl
  simp only [srcC, List.drop_zero, List.set_cons_zero, List.set_cons_succ] at e
  obtain ⟨ts', a2, b2, c2, p, e2⟩ := callV_mixedC (m := [srcC a1 b1 c1, some (.t (.lst (R.map rowT)))]) (i := 0) (k := 1) ⟨a1, b1, c1, rfl⟩ rfl (by decide) (by rw [List.length_map]; omega) (okD_rowsOf fun r hr => (g1 r hr).1)
  obtain ⟨R', rfl, q⟩ := perm_map_inv p rfl
  have gR : Good R := ⟨fun r hr => (g1 r hr).1, g2, by omega⟩
  refine ⟨R', a2, b2, c2, some (.t (.lst (R.map rowT))), gR.perm q, by rw [q.length_eq]; exact g3, fun r hr => (g1 r (q.mem_iff.mp hr)).2, ?_⟩
  have es := sortT_st (l := L) (by omega)
  simp only [srcC, List.set_cons_zero] at e2
  rw [← enumT_eq] at e
  simp [F_l_told, B_l_told, runF, sSeq, sAsg, sRet, sBind, sFor, gN, mCl, mLst, mNil, allV, mBind, mPure, mItE, mCons, mFz, mSorted, mVar, derefs, deref, toT, lstOf, es, srcL, isL, sc, srcC, e, mCall, e2, sizeLine_eq]
theorem callV_told {m : Mem} {i : Nat} {L : List Nat} (hm : SrcAt m i) (hL : L.length < 10) (hb : ∀ t ∈ L, t < 26) (hn : L.Nodup) : ∃ (R : List Row) (a b c : Int), Good R ∧ (∀ r ∈ R, r.1 ∈ L ∧ r.2.1 ∈ L) ∧ callV 2 F_l_told [.c i, .v (.lst (L.map stT))] m = some (.ok (.v (.lst (R.map rowT))), m.set i (srcC a b c)) := by
  obtain ⟨a, b, c, hm⟩ := hm
  obtain ⟨R, a', b', c', y, g, _, h, e⟩ := told_all hL hb hn a b c
  refine ⟨R, a', b', c', g, h, ?_⟩
  simp [callV, cellsOf, renum, ldM, hm, flatO, toT, e, stM]
end G

namespace G
open PySem L2
@[simp] theorem sizeLine_eq' : sizeLine = 16777216 := sizeLine_eq
theorem wS_eq {f : MS} {fr : Fr} {m m' : Mem} {r : SR} {Q : QS} (e : f fr m = some (r, m')) (h : Q r m') : wS f fr m Q := ⟨_, _, e, h⟩
theorem wF_eq {F : Fn} {us : List U} {m m' : Mem} {r : Except Xc U} {Q : QE U} (e : F us m = some (r, m')) (h : Q r m') : wF F us m Q := ⟨_, _, e, h⟩
theorem wL_eq {g : Tg} {t : M Bool} {e : M U} {fr0 : Fr} {xs ys : List T} {m m' : Mem} {Q : List T → Mem → Prop} (h : compL g t e fr0 xs m = some (ys, m')) (hq : Q ys m') : wL g t e fr0 xs m Q := ⟨_, _, h, hq⟩
theorem w_take {a b c n : Int} {Q : QE U} (hn : 0 < n) (hb : n < 2 ^ 100) (h : ∀ r a' b' c', 0 ≤ r → r < n → Q (.ok (.v (.int r))) [srcC a' b' c']) : wF F_l_take [.c 0, .v (.int n)] [srcC a b c] Q := by
  obtain ⟨r, a', b', c', r0, r1, e⟩ := take_ok (a := a) (b := b) (c := c) hn hb
  exact wF_eq e (h r a' b' c' r0 r1)
theorem w_mixed {ts : List T} {a b c : Int} {Q : QE U} (hb : ts.length ≤ 1000) (hok : ∀ t ∈ ts, okD 63 t = true) (h : ∀ ts' a' b' c', ts'.Perm ts → Q (.ok (.c 2)) [srcC a' b' c', some (.t (.lst [])), some (.t (.lst ts'))]) : wF F_l_mixed [.c 0, .v (.lst ts)] [srcC a b c] Q := by
  obtain ⟨ts', a', b', c', p, e⟩ := mixedV a b c hb hok
  exact wF_eq e (h ts' a' b' c' p)
@[simp] theorem set_last {α : Type} {m : List α} {x y : α} : (m ++ [x]).set m.length y = m ++ [y] := by
  rw [List.set_append_right _ _ (Nat.le_refl _), Nat.sub_self]; rfl
def letsN (f : Nat) : List Nat := [f % 26, (f + 7) % 26, (f + 14) % 26, (f + 21) % 26]
theorem letsN_ok {f : Nat} (h : f < 26) : (letsN f).Nodup ∧ ∀ t ∈ letsN f, t < 26 := by
  have : ∀ f : Fin 26, (letsN f).Nodup ∧ ∀ t ∈ letsN f, t < 26 := by decide +kernel
  exact this ⟨f, h⟩
theorem mk_of {L : List Nat} (hb : ∀ t ∈ L, t < 26) {x : T} (h : x ∈ L.map stT ++ [.non]) : isMk x := by
  simp at h
  rcases h with ⟨n, hn, rfl⟩ | rfl
  · exact ⟨n, hb n hn, rfl⟩
  · trivial
theorem w_source {x : Int} {Q : QE U} (h : ∀ a b c, Q (.ok (.c 0)) [srcC a b c]) : wF F_l_source [.v (.int x)] [] Q := by
  obtain ⟨a, b, c, e⟩ := source_ok x
  exact wF_eq e (h a b c)
theorem w_letters {a b c : Int} {Q : QE U} (h : ∀ f a b c, f < 26 → Q (.ok (.v (.lst ((letsN f).map stT)))) [srcC a b c]) : wF F_l_letters [.c 0] [srcC a b c] Q := by
  obtain ⟨f, a', b', c', hf, e⟩ := letters_ok (a := a) (b := b) (c := c)
  exact wF_eq e (h f a' b' c' hf)
theorem w_told {L : List Nat} (hL : L.length < 10) (hb : ∀ t ∈ L, t < 26) (hn : L.Nodup) {a b c : Int} {Q : QE U} (h : ∀ (R : List Row) a b c y, Good R → R.length ≤ 100 → (∀ r ∈ R, r.1 ∈ L ∧ r.2.1 ∈ L) → Q (.ok (.v (.lst (R.map rowT)))) [srcC a b c, y]) : wF F_l_told [.c 0, .v (.lst (L.map stT))] [srcC a b c] Q := by
  obtain ⟨R, a', b', c', y, g1, g2, g3, e⟩ := told_all hL hb hn a b c
  exact wF_eq e (h R a' b' c' y g1 g2 g3)
theorem w_one {a b c : Int} {ts : List T} {Q : QE U} (h0 : 0 < ts.length) (h1 : ts.length ≤ 1000) (h : ∀ x a b c, x ∈ ts → Q (.ok (.v x)) [srcC a b c]) : wF F_l_one [.c 0, .v (.lst ts)] [srcC a b c] Q := by
  obtain ⟨x, a', b', c', hx, e⟩ := one_ok (a := a) (b := b) (c := c) h0 h1
  exact wF_eq e (h x a' b' c' hx)
end G

namespace G
open PySem L2
theorem eq_of_wF {F : Fn} {us : List U} {m m' : Mem} {r : Except Xc U} (h : wF F us m fun r' m'' => r' = r ∧ m'' = m') : F us m = some (r, m') := by
  obtain ⟨r1, m1, e, rfl, rfl⟩ := h
  exact e
theorem wF_by {F : Fn} {us : List U} {m m' : Mem} {r : Except Xc U} (e : F us m = some (r, m')) {Q : QE U} : wF F us m Q ↔ Q r m' := by
  unfold wF; rw [e]; exact wR_some
@[simp] theorem w_whole {p : Int} {Q : QE U} : wF F_is_whole [.v (.int p)] [] Q ↔ Q (.ok (.v (.bl true))) [] := wF_by (whole_ok p)
@[simp] theorem cut2 {a b c : T} : cutT [a, b, c] none (some 2) = [a, b] := rfl
end G

namespace G
open PySem L2
/-! KA: things that may be told as pulls. -/
@[simp] theorem ik_tuple_non  : isiT' "tuple" .non = some (.bl false) := rfl
@[simp] theorem ik_tuple_bl {b : Bool} : isiT' "tuple" (.bl b) = some (.bl false) := rfl
@[simp] theorem ik_tuple_int {i : Int} : isiT' "tuple" (.int i) = some (.bl false) := rfl
@[simp] theorem ik_tuple_str {s : Str} : isiT' "tuple" (.str s) = some (.bl false) := rfl
@[simp] theorem ik_tuple_tup {ts : List T} : isiT' "tuple" (.tup ts) = some (.bl true) := rfl
@[simp] theorem ik_tuple_lst {ts : List T} : isiT' "tuple" (.lst ts) = some (.bl false) := rfl
@[simp] theorem ik_str_non  : isiT' "str" .non = some (.bl false) := rfl
@[simp] theorem ik_str_bl {b : Bool} : isiT' "str" (.bl b) = some (.bl false) := rfl
@[simp] theorem ik_str_int {i : Int} : isiT' "str" (.int i) = some (.bl false) := rfl
@[simp] theorem ik_str_str {s : Str} : isiT' "str" (.str s) = some (.bl true) := rfl
@[simp] theorem ik_str_tup {ts : List T} : isiT' "str" (.tup ts) = some (.bl false) := rfl
@[simp] theorem ik_str_lst {ts : List T} : isiT' "str" (.lst ts) = some (.bl false) := rfl
@[simp] theorem ik_int_non  : isiT' "int" .non = some (.bl false) := rfl
@[simp] theorem ik_int_bl {b : Bool} : isiT' "int" (.bl b) = some (.bl true) := rfl
@[simp] theorem ik_int_int {i : Int} : isiT' "int" (.int i) = some (.bl true) := rfl
@[simp] theorem ik_int_str {s : Str} : isiT' "int" (.str s) = some (.bl false) := rfl
@[simp] theorem ik_int_tup {ts : List T} : isiT' "int" (.tup ts) = some (.bl false) := rfl
@[simp] theorem ik_int_lst {ts : List T} : isiT' "int" (.lst ts) = some (.bl false) := rfl
@[simp] theorem ik_bool_non  : isiT' "bool" .non = some (.bl false) := rfl
@[simp] theorem ik_bool_bl {b : Bool} : isiT' "bool" (.bl b) = some (.bl true) := rfl
@[simp] theorem ik_bool_int {i : Int} : isiT' "bool" (.int i) = some (.bl false) := rfl
@[simp] theorem ik_bool_str {s : Str} : isiT' "bool" (.str s) = some (.bl false) := rfl
@[simp] theorem ik_bool_tup {ts : List T} : isiT' "bool" (.tup ts) = some (.bl false) := rfl
@[simp] theorem ik_bool_lst {ts : List T} : isiT' "bool" (.lst ts) = some (.bl false) := rfl
@[simp] theorem ik_list_non  : isiT' "list" .non = some (.bl false) := rfl
@[simp] theorem ik_list_bl {b : Bool} : isiT' "list" (.bl b) = some (.bl false) := rfl
@[simp] theorem ik_list_int {i : Int} : isiT' "list" (.int i) = some (.bl false) := rfl
@[simp] theorem ik_list_str {s : Str} : isiT' "list" (.str s) = some (.bl false) := rfl
@[simp] theorem ik_list_tup {ts : List T} : isiT' "list" (.tup ts) = some (.bl false) := rfl
@[simp] theorem ik_list_lst {ts : List T} : isiT' "list" (.lst ts) = some (.bl true) := rfl
def th1 : T → Bool
  | .non => true
  | .bl _ => true
  | .int _ => true
  | .str s => PyData.strOk s && decide (s.cps.size ≤ 1000)
  | .tup _ => true
  | .lst _ => true
  | _ => false
def th : T → Bool
  | .tup xs => xs.all th1
  | t => th1 t
theorem th_1 {t : T} (h : th t = true) : th1 t = true := by
  cases t <;> first | rfl | exact h
def isLt : T → Bool
  | .str s => decide (s ∈ (List.range 26).map lt)
  | _ => false
theorem isLt_lt {x : T} (h : isLt x = true) : ∃ n, n < 26 ∧ x = .str (lt n) := by
  cases x <;> simp [isLt] at h
  obtain ⟨n, hn, rfl⟩ := h
  exact ⟨n, hn, rfl⟩
theorem isLt_of {n : Nat} (h : n < 26) : isLt (.str (lt n)) = true := by
  simp [isLt]
  exact ⟨n, h, rfl⟩
theorem abc_list : abc.cps.toList = (List.range 26).map (97 + ·) := by decide +kernel
theorem one_sign (s : Str) (h : s.cps.size = 1) : ∃ c, s = ⟨#[c]⟩ := by
  obtain ⟨⟨l⟩⟩ := s
  match l, h with
  | [c], _ => exact ⟨c, rfl⟩
theorem isLt_sign (c : Nat) : isLt (.str ⟨#[c]⟩) = decide (c ∈ abc.cps.toList) := by
  unfold isLt
  rw [decide_eq_decide, abc_list]
  simp only [List.mem_map]
  constructor
  · rintro ⟨n, hn, e⟩
    refine ⟨n, hn, ?_⟩
    have : (lt n).cps = #[c] := by rw [e]
    simpa [lt] using this
  · rintro ⟨n, hn, e⟩
    exact ⟨n, hn, by rw [← e]; rfl⟩
theorem isLt_size {s : Str} (h : s.cps.size ≠ 1) : isLt (.str s) = false := by
  unfold isLt
  rw [decide_eq_false_iff_not]
  intro z
  obtain ⟨n, _, rfl⟩ := List.mem_map.mp z
  exact h rfl
theorem mark_any {x : T} (h : th1 x = true) : F_is_mark [.v x] [] = some (.ok (.v (.bl (isLt x))), []) := by
  apply eq_of_wF
  unfold F_is_mark
  rw [wF_run]
  cases x <;> simp [th1] at h <;> simp [B_is_mark, isLt]
  rename_i s
  have hsz : s.length ≤ 16777216 := by have : s.length = s.cps.size := rfl; omega
  have hlen : lenP [.str s] = some (.int (s.length : Nat)) := by simp [lenP, sizeLine_eq, hsz]
  by_cases hs : s.cps.size = 1
  · obtain ⟨c, rfl⟩ := one_sign s hs
    have hl : (Str.length ⟨#[c]⟩ : Nat) = 1 := rfl
    have := isLt_sign c
    simp [isLt] at this
    simp [hlen, hl, inA, isDict, inP, this]
  · have hl : ¬ ((Str.length s : Nat) : Int) = 1 := by
      intro z
      exact hs (by have z' : (s.cps.size : Int) = 1 := z; omega)
    have := isLt_size hs
    simp [isLt] at this
    simp [hlen, hl]
    exact this
/-- a pull that may be told -/
def isPull : T → Bool
  | .tup [.str a, .str b, .int p] => isLt (.str a) && isLt (.str b) && !decide (b.cps.toList < a.cps.toList) && decide (0 ≤ p) && decide (p ≤ 9)
  | _ => false
theorem isPull_row {t : T} (h : isPull t = true) : ∃ r, okR r ∧ t = rowT r := by
  unfold isPull at h
  split at h
  · rename_i a b p
    simp only [Bool.and_eq_true, Bool.not_eq_true', decide_eq_true_eq, decide_eq_false_iff_not] at h
    obtain ⟨⟨⟨⟨h1, h2⟩, h3⟩, h4⟩, h5⟩ := h
    obtain ⟨m, hm, e1⟩ := isLt_lt h1
    obtain ⟨n, hn, e2⟩ := isLt_lt h2
    cases e1
    cases e2
    rw [lt_lt] at h3
    exact ⟨(m, n, p), ⟨by simp; omega, hn, h4, h5⟩, rfl⟩
  · cases h
theorem isPull_ok {r : Row} (h : okR r) : isPull (rowT r) = true := by
  obtain ⟨a, b, p⟩ := r
  obtain ⟨h1, h2, h3, h4⟩ := h
  simp at h1 h2 h3 h4
  have m1 := isLt_of (n := a) (by omega)
  have m2 := isLt_of h2
  have m3 : ¬ (lt b).cps.toList < (lt a).cps.toList := by rw [lt_lt]; omega
  simp [isPull, rowT, m1, m2, m3, h3, h4]
theorem whole_any {x : T} (h : th1 x = true) : F_is_whole [.v x] [] = some (.ok (.v (.bl (match x with | .int _ => true | _ => false))), []) := by
  apply eq_of_wF
  unfold F_is_whole
  rw [wF_run]
  cases x <;> simp [th1] at h <;> simp [B_is_whole]
theorem told_any {t : T} (h : th t = true) : F_is_told_pull [.v t] [] = some (.ok (.v (.bl (isPull t))), []) := by
  apply eq_of_wF
  unfold F_is_told_pull
  rw [wF_run]
  cases t with
  | tup xs =>
    by_cases h3 : xs.length = 3
    · match xs, h3 with
      | [x, y, z], _ =>
        simp [th] at h
        obtain ⟨hx, hy, hz⟩ := h
        have a0 : ixP (.tup [x, y, z]) (.int 0) = some x := rfl
        have a1 : ixP (.tup [x, y, z]) (.int 1) = some y := rfl
        have a2 : ixP (.tup [x, y, z]) (.int 2) = some z := rfl
        simp [B_is_told_pull, a0, a1, a2]
        rw [wF_by (mark_any hx)]
        by_cases mx : isLt x = true
        · simp [mx, a0, a1, a2]
          rw [wF_by (mark_any hy)]
          by_cases my : isLt y = true
          · obtain ⟨m, hm, rfl⟩ := isLt_lt mx
            obtain ⟨n, hn, rfl⟩ := isLt_lt my
            simp [my, a0, a1, a2, leT_lt]
            by_cases hl : m ≤ n
            · simp [hl, a0, a1, a2]
              rw [wF_by (whole_any hz)]
              have h4 : ¬ (lt n).cps.toList < (lt m).cps.toList := by rw [lt_lt]; omega
              cases z with
              | int p =>
                simp [a0, a1, a2, leT_int]
                by_cases h0 : 0 ≤ p
                · simp [h0, isPull, mx, my, h4, leT_int]
                · simp [h0, isPull]
              | _ => simp [isPull]
            · have h4 : (lt n).cps.toList < (lt m).cps.toList := by rw [lt_lt]; omega
              simp [hl]
              cases z <;> simp [isPull, h4]
          · have my' : isLt y = false := by simpa using my
            have : isPull (.tup [x, y, z]) = false := by
              cases x <;> cases y <;> cases z <;> simp [isPull, my']
            simp [my', this]
        · have mx' : isLt x = false := by simpa using mx
          have : isPull (.tup [x, y, z]) = false := by
            cases x <;> cases y <;> cases z <;> simp [isPull, mx']
          simp [mx', this]
    · have h3' : ¬ ((xs.length : Nat) : Int) = 3 := by omega
      have hp : isPull (.tup xs) = false := by
        match xs, h3 with
        | [], _ => simp [isPull]
        | [_], _ => simp [isPull]
        | [_, _], _ => simp [isPull]
        | [_, _, _], h3 => exact absurd rfl h3
        | _ :: _ :: _ :: _ :: _, _ => simp [isPull]
      simp [B_is_told_pull, h3', hp]
  | non => simp [B_is_told_pull, isPull]
  | bl b => simp [B_is_told_pull, isPull]
  | int i => simp [B_is_told_pull, isPull]
  | str s => simp [B_is_told_pull, isPull]
  | lst ts => simp [B_is_told_pull, isPull]
  | _ => simp [th, th1] at h
end G

namespace G
open PySem L2
/-! KB: the law's own view of a pull. -/
@[simp] theorem at3_0 {x y z : T} : L2.atI [x, y, z] 0 = some x := rfl
@[simp] theorem at3_1 {x y z : T} : L2.atI [x, y, z] 1 = some y := rfl
@[simp] theorem at3_2 {x y z : T} : L2.atI [x, y, z] 2 = some z := rfl
theorem sgn_abc : sgnT abc = (List.range 26).map fun n => T.str (lt n) := by
  have : abc.cps.toList.map (fun c => T.str ⟨#[c]⟩) = (List.range 26).map fun n => T.str (lt n) := by
    rw [abc_list, List.map_map]; rfl
  exact this
theorem okD_letters : okD 64 (.lst (sgnT abc)) = true := by
  rw [sgn_abc]
  simp only [okD, List.all_eq_true, List.mem_map, List.mem_range]
  rintro x ⟨n, hn, rfl⟩
  exact okD_lt n 63 hn
theorem eqT_str (a b : Str) : eqT (.str a) (.str b) = decide (a = b) := by
  simp [eqT, toD, PyData.eqv]
  by_cases h : a = b <;> simp [h]
theorem inA_abc {s : Str} (h : PyData.strOk s = true) : inA (.str s) (.lst (sgnT abc)) = some (.bl (isLt (.str s))) := by
  have h1 : okD 63 (.str s) = true := h
  have h2 : (sgnT abc).any (fun z => eqT z (.str s)) = isLt (.str s) := by
    rw [sgn_abc, Bool.eq_iff_iff, List.any_eq_true]
    simp only [List.mem_map, List.mem_range, isLt, decide_eq_true_eq]
    constructor
    · rintro ⟨x, ⟨n, hn, rfl⟩, e⟩
      rw [eqT_str, decide_eq_true_eq] at e
      exact ⟨n, hn, e⟩
    · rintro ⟨n, hn, e⟩
      exact ⟨_, ⟨n, hn, rfl⟩, by rw [eqT_str, decide_eq_true_eq]; exact e⟩
  show inP (.str s) (.lst (sgnT abc)) = _
  unfold inP
  simp only [h1, okD_letters, Bool.and_self, if_true, h2]
theorem neP_empty {s : Str} (h : PyData.strOk s = true) : neP (.str s) (.str "") = some (.bl (!decide (s = ""))) := by
  have h2 : PyData.strOk "" = true := by decide +kernel
  simp [neP, okD, h, h2, eqT_str]
theorem isLt_empty : isLt (.str "") = false := isLt_size (by decide +kernel)
theorem lmark_any {x : T} (h : th1 x = true) : F_l_is_mark [.v x] [] = some (.ok (.v (.bl (isLt x))), []) := by
  apply eq_of_wF
  unfold F_l_is_mark
  rw [wF_run]
  cases x <;> simp [th1] at h <;> simp [B_l_is_mark, isLt]
  rename_i s
  have hz : (abc.cps.size : Nat) ≤ 16777216 := by decide +kernel
  rw [show (Str.ofString "abcdefghijklmnopqrstuvwxyz") = abc from rfl]
  by_cases hs : s = ""
  · subst hs
    have := isLt_empty
    simp [isLt] at this
    simp [neP_empty h.1]
    exact this
  · have := inA_abc h.1
    simp [isLt] at this
    simp [neP_empty h.1, hs, hz, this]
theorem wL_fil {g : Tg} {t : M Bool} {e : M U} {fr0 : Fr} {m : Mem} {Q : List T → Mem → Prop} (p : T → Bool) : ∀ {xs : List T},
    (∀ x ∈ xs, wO (g (.v x) fr0) fun fr' => wE t fr' m (onC fun b m1 => (b = p x ∧ m1 = m) ∧ (b = true → wE e fr' m1 (onV fun y m2 => m2 = m ∧ y = x)))) → Q (xs.filter p) m → wL g t e fr0 xs m Q := by
  intro xs
  induction xs generalizing Q with
  | nil => intro _ hq; exact wL_nil.mpr hq
  | cons x xs ih =>
    intro hs hq
    rw [wL_cons]
    obtain ⟨fr', e1, h1⟩ := hs x (List.mem_cons_self ..)
    refine ⟨fr', e1, wE_mono h1 fun r m1 hr => ?_⟩
    match r, hr with
    | .ok b, ⟨⟨hb, hm⟩, he⟩ =>
      subst hm
      refine ⟨fun hb' => ?_, fun hb' => ?_⟩
      · rw [List.filter_cons_of_pos (by rw [← hb, hb'])] at hq
        refine wE_mono (he hb') fun r m2 hr => ?_
        match r, hr with
        | .ok (.v y), ⟨e2, e3⟩ =>
          subst e2 e3
          exact ih (fun y hy => hs y (List.mem_cons_of_mem _ hy)) hq
      · rw [List.filter_cons_of_neg (by rw [← hb, hb']; decide)] at hq
        exact ih (fun y hy => hs y (List.mem_cons_of_mem _ hy)) hq
/-- the same two letters -/
def pK (a b : Nat) : T → Bool
  | .tup (u :: v :: _) => eqT (.tup [u, v]) (.tup [.str (lt a), .str (lt b)])
  | _ => false
theorem eqT_strs (x y a b : Str) : eqT (.tup [.str x, .str y]) (.tup [.str a, .str b]) = (decide (x = a) && decide (y = b)) := by
  simp [eqT, toD, toDs, PyData.eqv, PyData.eqvAll]
  rw [Bool.eq_iff_iff]; simp
theorem pK_row (a b : Nat) (r : Row) (p : Int) : pK a b (rowT r) = decide (keyR r = keyR (a, b, p)) := by
  show eqT (.tup [.str (lt r.1), .str (lt r.2.1)]) _ = _
  rw [eqT_strs, Bool.eq_iff_iff]
  simp [keyR]
theorem eqP_two {x y a b : Str} (h1 : PyData.strOk x = true) (h2 : PyData.strOk y = true) (h3 : PyData.strOk a = true) (h4 : PyData.strOk b = true) : eqP (.tup [.str x, .str y]) (.tup [.str a, .str b]) = some (.bl (eqT (.tup [.str x, .str y]) (.tup [.str a, .str b]))) := by
  simp [eqP, okD, h1, h2, h3, h4]
theorem lt_ok {n : Nat} (h : n < 26) : PyData.strOk (lt n) = true := okD_lt n 1 h
theorem lpull_no {t : T} (h : th t = true) (hp : isPull t = false) (A : List T) : F_l_is_pull [.v t, .v (.lst A)] [] = some (.ok (.v (.bl false)), []) := by
  apply eq_of_wF
  unfold F_l_is_pull
  rw [wF_run]
  cases t with
  | tup xs =>
    by_cases h3 : xs.length = 3
    · match xs, h3 with
      | [x, y, z], _ =>
        simp [th] at h
        obtain ⟨hx, hy, hz⟩ := h
        have a0 : ixP (.tup [x, y, z]) (.int 0) = some x := rfl
        have a1 : ixP (.tup [x, y, z]) (.int 1) = some y := rfl
        have a2 : ixP (.tup [x, y, z]) (.int 2) = some z := rfl
        simp [B_l_is_pull, a0, a1, a2]
        rw [wF_by (lmark_any hx)]
        by_cases mx : isLt x = true
        · simp [mx, a0, a1, a2]
          rw [wF_by (lmark_any hy)]
          by_cases my : isLt y = true
          · obtain ⟨m, hm, rfl⟩ := isLt_lt mx
            obtain ⟨n, hn, rfl⟩ := isLt_lt my
            have gt : gtT (.str (lt m)) (.str (lt n)) = some (.bl (decide (n < m))) := by
              show some (T.bl (decide ((lt n).cps.toList < (lt m).cps.toList))) = _
              congr 2
              rw [decide_eq_decide, lt_lt]
            simp [my, a0, a1, a2, gt]
            by_cases hl : n < m
            · simp [hl]
            · have h4 : ¬ (lt n).cps.toList < (lt m).cps.toList := by rw [lt_lt]; omega
              simp [hl, a2]
              cases z with
              | int p =>
                simp [isPull, mx, my, h4] at hp
                simp [leT_int]
                by_cases h0 : 0 ≤ p
                · have := hp h0
                  have h9 : ¬ p ≤ 9 := by omega
                  simp [h0, h9, leT_int]
                · simp [h0, leT_int]
              | _ => first | (simp; done) | simp [th1] at hz
          · have my' : isLt y = false := by simpa using my
            simp [my']
        · have mx' : isLt x = false := by simpa using mx
          simp [mx']
    · have h3' : ¬ ((xs.length : Nat) : Int) = 3 := by omega
      simp [B_l_is_pull, h3']
  | non => simp [B_l_is_pull]
  | bl b => simp [B_l_is_pull]
  | int i => simp [B_l_is_pull]
  | str s => simp [B_l_is_pull]
  | lst ts => simp [B_l_is_pull]
  | _ => simp [th, th1] at h
theorem eqP_empty {ts : List T} (h : okD 64 (.lst ts) = true) : eqP (.lst ts) (.lst []) = some (.bl (decide (ts = []))) := by
  have h2 : okD 64 (.lst []) = true := rfl
  have h3 : eqT (.lst ts) (.lst []) = decide (ts = []) := by
    cases ts <;> simp [eqT, toD, toDs, PyData.eqv, PyData.eqvAll]
  unfold eqP
  simp [h, h2, h3]
theorem lpull_row {q : Row} (hq : okR q) {rs : List Row} (hr : ∀ r ∈ rs, okR r) : F_l_is_pull [.v (rowT q), .v (.lst (rs.map rowT))] [] = some (.ok (.v (.bl (decide (∀ r ∈ rs, keyR r ≠ keyR q)))), []) := by
  obtain ⟨a, b, p⟩ := q
  obtain ⟨h1, h2, h3, h4⟩ := hq
  simp only at h1 h2 h3 h4
  have ma := isLt_of (n := a) (by omega)
  have mb := isLt_of h2
  have ha : th1 (.str (lt a)) = true := by
    simp [th1]; exact ⟨by simpa [okD] using okD_lt a 1 (by omega), by show 1 ≤ 1000; decide⟩
  have hb : th1 (.str (lt b)) = true := by
    simp [th1]; exact ⟨by simpa [okD] using okD_lt b 1 (by omega), by show 1 ≤ 1000; decide⟩
  have gt : gtT (.str (lt a)) (.str (lt b)) = some (.bl false) := by
    show some (T.bl (decide ((lt b).cps.toList < (lt a).cps.toList))) = _
    congr 2
    rw [decide_eq_false_iff_not, lt_lt]; omega
  have a0 : ixP (.tup [.str (lt a), .str (lt b), .int p]) (.int 0) = some (.str (lt a)) := rfl
  have a1 : ixP (.tup [.str (lt a), .str (lt b), .int p]) (.int 1) = some (.str (lt b)) := rfl
  have a2 : ixP (.tup [.str (lt a), .str (lt b), .int p]) (.int 2) = some (.int p) := rfl
  apply eq_of_wF
  unfold F_l_is_pull
  rw [wF_run]
  simp [B_l_is_pull, rowT, a0, a1, a2]
  rw [wF_by (lmark_any ha)]
  simp [ma, a1]
  rw [wF_by (lmark_any hb)]
  simp [mb, a0, a1, a2, gt, h3, h4, leT_int]
  refine wL_fil (pK a b) (fun x hx => ?_) ?_
  · obtain ⟨r, hm, rfl⟩ := List.mem_map.mp hx
    obtain ⟨g1, g2, _, _⟩ := hr r hm
    have e := eqP_two (lt_ok (n := r.1) (by omega)) (lt_ok g2) (lt_ok (n := a) (by omega)) (lt_ok h2)
    rw [show eqT (.tup [.str (lt r.1), .str (lt r.2.1)]) (.tup [.str (lt a), .str (lt b)]) = pK a b (rowT r) from rfl] at e
    simp [K_l_is_pull_1, E_l_is_pull_2, wipeT, rowT] at e ⊢
    simp [e]
  · have e : (rs.map rowT).filter (pK a b) = (rs.filter fun r => decide (keyR r = keyR (a, b, p))).map rowT := by
      rw [List.filter_map]
      congr 1
      apply List.filter_congr
      intro r _
      exact pK_row a b r p
    have ho : okD 64 (.lst ((rs.filter fun r => decide (keyR r = keyR (a, b, p))).map rowT)) = true := by
      simp only [okD, List.all_eq_true, List.mem_map]
      rintro x ⟨r, hm, rfl⟩
      obtain ⟨g1, g2, _⟩ := hr r (List.mem_filter.mp hm).1
      exact okD_row (by omega) g2 62
    rw [e]
    simp [eqP_empty ho]
end G

namespace G
open PySem L2
/-! KC: up to the first that is no pull; what the law asks; how Pulls is made. -/
theorem atI_nat' {α : Type} {xs : List α} {k : Nat} (h : k < xs.length) : L2.atI xs (k : Int) = xs[k]? := by
  have h1 : (k : Int) < (xs.length : Int) := by omega
  simp [atI, ixN, h1]
theorem cut_to (xs : List T) (k : Nat) : cutT xs none (some (k : Int)) = xs.take k := by
  unfold cutT
  rw [HT.sIx_nat, HT.sIx_none]
  simp only [Nat.sub_zero, List.drop_zero]
  rcases Nat.le_total k xs.length with h | h
  · rw [Nat.min_eq_left h]
  · rw [Nat.min_eq_right h, List.take_of_length_le (Nat.le_refl _), List.take_of_length_le h]
theorem range_at {j : Nat} {i : Nat} {t : T} (h : (rangeT 0 j)[i]? = some t) : i < j ∧ t = .int (i : Nat) := by
  obtain ⟨hi, e⟩ := List.getElem?_eq_some_iff.mp h
  simp [rangeT] at hi e
  exact ⟨hi, e.symm⟩
theorem range_len (j : Nat) : (rangeT 0 j).length = j := by simp [rangeT]
def BadAt (rs : List Row) (t : T) : Prop := isPull t = false ∨ ∃ q, okR q ∧ t = rowT q ∧ ¬ ∀ r ∈ rs, keyR r ≠ keyR q
structure Told (ts : List T) (rs : List Row) (rest : List T) : Prop where
  e : ts = rs.map rowT ++ rest
  ok : ∀ r ∈ rs, okR r
  nd : (rs.map keyR).Nodup
  bad : rest = [] ∨ ∃ t tl, rest = t :: tl ∧ BadAt rs t
open Classical in
theorem split_from : ∀ (ts : List T) (pre : List Row), (∀ r ∈ pre, okR r) → (pre.map keyR).Nodup → ∃ rs rest, Told (pre.map rowT ++ ts) rs rest
  | [], pre, h1, h2 => ⟨pre, [], by simp, h1, h2, .inl rfl⟩
  | t :: ts, pre, h1, h2 => by
    by_cases hb : BadAt pre t
    · exact ⟨pre, t :: ts, rfl, h1, h2, .inr ⟨t, ts, rfl, hb⟩⟩
    · unfold BadAt at hb
      have hp : isPull t = true := by
        cases h : isPull t with
        | true => rfl
        | false => exact absurd (.inl h) hb
      obtain ⟨q, hq, rfl⟩ := isPull_row hp
      have hd : ∀ r ∈ pre, keyR r ≠ keyR q := Classical.byContradiction fun hc => hb (.inr ⟨q, hq, rfl, hc⟩)
      obtain ⟨rs, rest, g⟩ := split_from ts (pre ++ [q]) (fun r hr => by
        rcases List.mem_append.mp hr with hr | hr
        · exact h1 r hr
        · rw [List.mem_singleton.mp hr]; exact hq) (by
        rw [List.map_append, List.nodup_append]
        refine ⟨h2, by simp, fun a ha b hb => ?_⟩
        obtain ⟨r, hr, rfl⟩ := List.mem_map.mp ha
        rw [List.mem_singleton.mp hb]
        exact hd r hr)
      exact ⟨rs, rest, by simpa using g⟩
theorem split_told (ts : List T) : ∃ rs rest, Told ts rs rest := by
  simpa using split_from ts [] (by simp) (by simp)
/-- where the first stands that is no pull -/
def dueT (rs : List Row) (rest : List T) : T := if rest = [] then .non else .int (rs.length : Nat)
section
variable {ts rest : List T} {rs : List Row}
theorem bad_no {t : T} (ht : th t = true) (hr : ∀ r ∈ rs, okR r) (hb : BadAt rs t) : F_l_is_pull [.v t, .v (.lst (rs.map rowT))] [] = some (.ok (.v (.bl false)), []) := by
  rcases hb with h | ⟨q, hq, rfl, h⟩
  · exact lpull_no ht h _
  · rw [lpull_row hq hr, decide_eq_false h]
theorem due_eq (g : Told ts rs rest) (ht : ∀ t ∈ ts, th t = true) (hl : ts.length ≤ 1000) : F_l_due [.v (.lst ts)] [] = some (.ok (.v (dueT rs rest)), []) := by
  apply eq_of_wF
  unfold F_l_due
  rw [wF_run]
  have h62 : ((ts.length : Nat) : Int) < 4611686018427387904 := by omega
  have h0 : (-4611686018427387904 : Int) ≤ ((ts.length : Nat) : Int) := by omega
  simp [B_l_due, rng1, h62, h0]
  refine wS_forL (fun i fr m => i ≤ rs.length ∧ (∃ x, fr = [some (.v (.lst ts)), x]) ∧ m = []) ⟨by omega, ⟨_, rfl⟩, rfl⟩ ?_ ?_
  · rintro i t fr m hi ⟨hk, ⟨x, rfl⟩, rfl⟩
    obtain ⟨hlt, rfl⟩ := range_at hi
    have hcut : ts.take i = (rs.take i).map rowT := by
      rw [g.e, List.take_append_of_le_length (by simpa using hk), List.map_take]
    have hat := atI_nat' hlt
    have hsub : ∀ r ∈ rs.take i, okR r := fun r hr => g.ok r (List.mem_of_mem_take hr)
    simp [L_l_due_1, hat]
    rw [List.getElem?_eq_getElem hlt]
    simp [cut_to, hcut]
    rw [← List.map_take]
    by_cases hi : i < rs.length
    · have e : ts[i] = rowT rs[i] := by
        have : ts[i]? = some (rowT rs[i]) := by rw [g.e, List.getElem?_append_left (by simpa using hi)]; simp [hi]
        rw [List.getElem?_eq_getElem hlt] at this
        exact Option.some.inj this
      have hd : ∀ r ∈ rs.take i, keyR r ≠ keyR rs[i] := by
        intro r hr
        obtain ⟨j, hj, e2⟩ := List.mem_iff_getElem.mp hr
        rw [List.length_take] at hj
        rw [List.getElem_take] at e2
        have := List.pairwise_iff_getElem.mp g.nd j i (by simp; omega) (by simpa using hi) (by omega)
        simp only [List.getElem_map] at this
        rw [← e2]; exact this
      rw [e, wF_by (lpull_row (g.ok _ (List.getElem_mem hi)) hsub), decide_eq_true hd]
      simp
      omega
    · have hie : i = rs.length := by omega
      subst hie
      rcases g.bad with h | ⟨t, tl, h, hb⟩
      · rw [g.e, h] at hlt; simp at hlt
      · have e : ts[rs.length] = t := by
          have : ts[rs.length]? = some t := by rw [g.e, h, List.getElem?_append_right (by simp)]; simp
          rw [List.getElem?_eq_getElem hlt] at this
          exact Option.some.inj this
        have htt := ht _ (List.getElem_mem hlt)
        rw [e] at htt ⊢
        rw [List.take_length, wF_by (bad_no htt g.ok hb)]
        simp [dueT, h]
  · rintro fr m ⟨hk, ⟨x, rfl⟩, rfl⟩
    rw [range_len] at hk
    have : rest = [] := by
      have := congrArg List.length g.e
      simp at this
      exact List.length_eq_zero_iff.mp (by omega)
    simp [dueT, this]
theorem init_pre : ∀ (ps : List Row) (k : Nat) (D : List (List Key × T)) (o d : Nat) (m : Mem) (x1 x2 x3 : Option U) (rest : List T), (∀ r ∈ ps, okR r) → (ps.map keyR).Nodup → (∀ r ∈ ps, dk D (keyR r)) → D.length + ps.length ≤ 1000 →
    m[o]? = some (some (.ins "Pulls" [("known", .c d)])) → m[d]? = some (some (.t (.dT D))) → o ≠ d →
    ∃ y2 y3, sForL (gT (gCons (gN 2) (gCons (gN 3) gNil))) L_Pullsd_initd_1 (enumF k (ps.map rowT ++ rest)) [some (.c o), x1, x2, x3] m
      = sForL (gT (gCons (gN 2) (gCons (gN 3) gNil))) L_Pullsd_initd_1 (enumF (k + ps.length) rest) [some (.c o), x1, y2, y3] (m.set d (some (.t (.dT (D ++ ps.map entR)))))
  | [], k, D, o, d, m, x1, x2, x3, rest, _, _, _, _, ho, hd, hod => by
    refine ⟨x2, x3, ?_⟩
    have : m.set d (some (.t (.dT D))) = m := set_same hd
    simp [this]
  | r :: ps, k, D, o, d, m, x1, x2, x3, rest, hok, hnd, hdk, hl, ho, hd, hod => by
    rw [List.map_cons] at hnd
    obtain ⟨n1, n2⟩ := List.nodup_cons.mp hnd
    have hdl : d < m.length := (List.getElem?_eq_some_iff.mp hd).1
    obtain ⟨y2, y3, ih⟩ := init_pre ps (k + 1) (D ++ [entR r]) o d (m.set d (some (.t (.dT (D ++ [entR r]))))) x1 (some (.v (.int (k : Nat)))) (some (.v (rowT r))) rest
      (fun r' h => hok r' (List.mem_cons_of_mem _ h)) n2 (fun r' h e he => by
        rcases List.mem_append.mp he with he | he
        · exact hdk r' (List.mem_cons_of_mem _ h) e he
        · rw [List.mem_singleton.mp he]
          exact fun z => n1 (List.mem_map.mpr ⟨r', h, z.symm⟩)) (by simp at hl ⊢; omega) (by rw [List.getElem?_set_ne (Ne.symm hod), ho]) (by rw [List.getElem?_set_self hdl]) hod
    refine ⟨y2, y3, ?_⟩
    have hb := init_body (r := r) (x1 := x1) (x2 := some (.v (.int (k : Nat)))) (hok r List.mem_cons_self) (hdk r List.mem_cons_self) (by simp at hl; omega) ho hd
    rw [List.map_cons, List.cons_append, enumF, sForL]
    simp only [gT, gCons, gN, gNil, List.set_cons_succ, List.set_cons_zero, sTurn, hb]
    have e : k + 1 + ps.length = k + (r :: ps).length := by simp; omega
    rw [e] at ih
    rw [ih]
    simp [List.set_set]
end
end G

namespace G
open PySem L2
/-! KD: Pulls made of what is told; what is refused. -/
theorem valT_some {D : List (List Key × T)} {k : List Key} (h : ¬ dk D k) : ∃ t, valT D k = some t := by
  unfold valT
  cases hf : D.find? (fun e => e.1 = k) with
  | some e => exact ⟨e.2, rfl⟩
  | none =>
    exfalso
    apply h
    intro e he
    have := List.find?_eq_none.mp hf e he
    simpa using this
def noPulls (k : Int) : Xc := ⟨"NoPulls", [("at", .int k)]⟩
theorem bad_body {t : T} {rs : List Row} {k : Nat} {x1 : Option U} {D0 : List (List Key × T)} (ht : th t = true) (hb : BadAt rs t) (hl : rs.length ≤ 1000) (fr : Fr) (hfr : fr = [some (.c 0), x1, some (.v (.int (k : Nat))), some (.v t)]) (m : Mem) (hm : m = [some (.ins "Pulls" [("known", .c 1)]), some (.t (.dT (rs.map entR)))]) :
    L_Pullsd_initd_1 fr m = some (.ex (noPulls k) fr, m) := by
  suffices h : wS L_Pullsd_initd_1 fr m (fun r m' => r = .ex (noPulls k) fr ∧ m' = m) by
    obtain ⟨r, m', e, rfl, rfl⟩ := h
    exact e
  subst hfr
  subst hm
  simp [L_Pullsd_initd_1]
  rw [wF_by (told_any ht)]
  cases hp : isPull t with
  | false => simp [noPulls]
  | true =>
    obtain ⟨q, hq, rfl⟩ := isPull_row hp
    have hd : ¬ dk (rs.map entR) (keyR q) := by
      rcases hb with h | ⟨q', _, e, h⟩
      · rw [h] at hp; cases hp
      · intro hd
        apply h
        intro r hr
        have h1 := hd (entR r) (List.mem_map_of_mem hr)
        have h2 : keyR q' = keyR q := by
          obtain ⟨a, b, p⟩ := q
          obtain ⟨a', b', p'⟩ := q'
          simp [rowT] at e
          simp [keyR, e]
        rw [h2]
        exact h1
    obtain ⟨t, e⟩ := valT_some hd
    simp [keyR] at e
    simp [rowT, insOf, inA, isDict, inD, dGetT, keysT, keyT, e, noPulls]
theorem wMk_ok {rs : List Row} (g : Good rs) {m : Mem} {Q : QE C} (h : Q (.ok (.ins "Pulls" [("known", .v (.dT (rs.map entR)))])) m) : wMk "Pulls" 2 F_Pullsd_initd [.v (.lst (rs.map rowT))] m Q := wMk_of_eq (make_ok g) h
theorem init_no {ts rest : List T} {rs : List Row} (g : Told ts rs rest) (hne : rest ≠ []) (ht : ∀ t ∈ ts, th t = true) (hl : ts.length ≤ 500) :
    ∃ m', F_Pullsd_initd [.c 0, .v (.lst ts)] [some (.ins "Pulls" [])] = some (.error (noPulls rs.length), m') := by
  rcases g.bad with h | ⟨t, tl, h, hb⟩
  · exact absurd h hne
  · have hlen := congrArg List.length g.e
    simp [h] at hlen
    obtain ⟨y2, y3, e⟩ := init_pre rs 0 [] 0 1 [some (.ins "Pulls" [("known", .c 1)]), some (.t (.dT []))] (some (.v (.lst ts))) none none (t :: tl) g.ok g.nd (fun _ _ _ h => by simp at h) (by simp; omega) rfl rfl (by decide)
    have e1 : kitB "list" "list" = some true := by decide +kernel
    have ht' : th t = true := ht t (by rw [g.e, h]; simp)
    have hl' : ts.length ≤ 16777216 := by omega
    have e2 := bad_body (k := rs.length) (x1 := some (.v (.lst ts))) (D0 := []) ht' hb (by omega) _ rfl _ rfl
    rw [← h, ← g.e, ← enumT_eq] at e
    rw [h, enumF, sForL] at e
    simp only [gT, gCons, gN, gNil, List.set_cons_succ, List.set_cons_zero, sTurn, Nat.zero_add, List.nil_append, e2] at e
    simp [F_Pullsd_initd, B_Pullsd_initd, runF, sSeq, sIf, sBind, sNext, sFldT, sFor, mNotT, mTst, mUn, mBind, mVar, mPure, mLift, mCons, mNil, mCl, mDNewT, mItE, srcL, isL, pv1, deref, toT, isiT', isiT, noDT, tyName, e1, putU, frzF, vF, e, sizeLine_eq, hl']
end G

namespace G
open PySem L2
/-! KE: things that may be shown. -/
/-- a part of a thing -/
def lf (x : T) : Bool := th1 x && nxD 7 x && okD 58 x && PyData.showable (toD x) && PyData.leavesShort 60 (toD x) && decide (PyData.weight (toD x) ≤ 200)
/-- a thing -/
def fine (x : T) : Bool := th x && nxD 8 x && okD 59 x && PyData.showable (toD x) && PyData.leavesShort 60 (toD x) && decide (PyData.weight (toD x) ≤ 1000)
theorem lf_parts {xs : List T} (h : ∀ x ∈ xs, lf x = true) : xs.all th1 = true ∧ xs.all (nxD 7) = true ∧ xs.all (okD 58) = true ∧ PyData.showableAll (toDs xs) = true ∧ PyData.leavesShortAll 60 (toDs xs) = true ∧ PyData.weightAll (toDs xs) ≤ 201 * xs.length := by
  induction xs with
  | nil => simp [toDs, PyData.showableAll, PyData.leavesShortAll, PyData.weightAll]
  | cons x xs ih =>
    obtain ⟨a1, a2, a3, a4, a5, a6⟩ := ih fun y hy => h y (List.mem_cons_of_mem _ hy)
    have hx := h x List.mem_cons_self
    simp only [lf, Bool.and_eq_true, decide_eq_true_eq] at hx
    obtain ⟨⟨⟨⟨⟨b1, b2⟩, b3⟩, b4⟩, b5⟩, b6⟩ := hx
    simp only [List.all_cons, toDs, PyData.showableAll, PyData.leavesShortAll, PyData.weightAll, a1, a2, a3, a4, a5, b1, b2, b3, b4, b5, Bool.and_self, true_and, List.length_cons]
    omega
theorem fine_tup {xs : List T} (h : ∀ x ∈ xs, lf x = true) (hl : xs.length ≤ 4) : fine (.tup xs) = true := by
  obtain ⟨a1, a2, a3, a4, a5, a6⟩ := lf_parts h
  have e : toD (.tup xs) = .tuple (toDs xs) := by simp [toD]
  have w : PyData.weight (.tuple (toDs xs)) ≤ 1000 := by simp only [PyData.weight]; omega
  simp only [fine, th, nxD, okD, e, PyData.showable, PyData.leavesShort, a1, a2, a3, a4, a5, w, Bool.and_self, decide_true]
theorem fine_lst {xs : List T} (h : ∀ x ∈ xs, lf x = true) (hl : xs.length ≤ 4) : fine (.lst xs) = true := by
  obtain ⟨a1, a2, a3, a4, a5, a6⟩ := lf_parts h
  have e : toD (.lst xs) = .list (toDs xs) := by simp [toD]
  have w : PyData.weight (.list (toDs xs)) ≤ 1000 := by simp only [PyData.weight]; omega
  simp only [fine, th, th1, nxD, okD, e, PyData.showable, PyData.leavesShort, a1, a2, a3, a4, a5, w, Bool.and_self, decide_true]
theorem fine_non : fine .non = true := by decide +kernel
theorem fine_str {s : Str} (h : lf (.str s) = true) : fine (.str s) = true := by
  simp only [lf, Bool.and_eq_true, decide_eq_true_eq] at h
  obtain ⟨⟨⟨⟨⟨b1, b2⟩, b3⟩, b4⟩, b5⟩, b6⟩ := h
  have b3' : okD 59 (.str s) = true := b3
  have b1' : th (.str s) = true := b1
  have w : PyData.weight (toD (.str s)) ≤ 1000 := by omega
  simp only [fine, b1', b3', nxD, b4, b5, w, Bool.and_self, decide_true]
theorem lf_lt {n : Nat} (h : n < 26) : lf (.str (lt n)) = true := by
  have : ∀ n : Fin 26, lf (.str (lt n)) = true := by decide +kernel
  exact this ⟨n, h⟩
theorem lf_two {m n : Nat} (hm : m < 26) (hn : n < 26) : lf (.str (lt m ++ lt n)) = true := by
  have : ∀ m n : Fin 26, lf (.str (lt m ++ lt n)) = true := by decide +kernel
  exact this ⟨m, hm⟩ ⟨n, hn⟩
theorem lf_int {p : Int} (h0 : 0 ≤ p) (h9 : p ≤ 9) : lf (.int p) = true := by
  have : ∀ n : Fin 10, lf (.int (n : Nat)) = true := by decide +kernel
  obtain ⟨k, rfl⟩ := Int.eq_ofNat_of_zero_le h0
  exact this ⟨k, by omega⟩
theorem lf_shown {p : Int} (h0 : 0 ≤ p) (h9 : p ≤ 9) : lf (.str (toString p)) = true := by
  have : ∀ n : Fin 10, lf (.str (toString ((n : Nat) : Int))) = true := by decide +kernel
  obtain ⟨k, rfl⟩ := Int.eq_ofNat_of_zero_le h0
  exact this ⟨k, by omega⟩
theorem fine_row {r : Row} (h : okR r) : fine (rowT r) = true := by
  obtain ⟨a, b, p⟩ := r
  obtain ⟨h1, h2, h3, h4⟩ := h
  simp only at h1 h2 h3 h4
  refine fine_tup (fun x hx => ?_) (by simp)
  simp at hx
  rcases hx with rfl | rfl | rfl
  · exact lf_lt (by omega)
  · exact lf_lt h2
  · exact lf_int h3 h4
theorem fine_th {t : T} (h : fine t = true) : th t = true := by
  simp only [fine, Bool.and_eq_true] at h
  exact h.1.1.1.1.1
theorem fine_nx {t : T} (h : fine t = true) : nxD 8 t = true := by
  simp only [fine, Bool.and_eq_true] at h
  exact h.1.1.1.1.2
theorem fine_all {xs : List T} (h : ∀ x ∈ xs, fine x = true) : xs.all (okD 59) = true ∧ PyData.showableAll (toDs xs) = true ∧ PyData.leavesShortAll 60 (toDs xs) = true ∧ PyData.weightAll (toDs xs) ≤ 1001 * xs.length := by
  induction xs with
  | nil => simp [toDs, PyData.showableAll, PyData.leavesShortAll, PyData.weightAll]
  | cons x xs ih =>
    obtain ⟨a3, a4, a5, a6⟩ := ih fun y hy => h y (List.mem_cons_of_mem _ hy)
    have hx := h x List.mem_cons_self
    simp only [fine, Bool.and_eq_true, decide_eq_true_eq] at hx
    obtain ⟨⟨⟨⟨⟨b1, b2⟩, b3⟩, b4⟩, b5⟩, b6⟩ := hx
    simp only [List.all_cons, toDs, PyData.showableAll, PyData.leavesShortAll, PyData.weightAll, a3, a4, a5, b3, b4, b5, Bool.and_self, true_and, List.length_cons]
    omega
theorem repr_fine {ts : List T} (h : ∀ x ∈ ts, fine x = true) (hl : ts.length ≤ 200) : ∃ s, reprP [.lst ts] = some (.str s) := by
  obtain ⟨a3, a4, a5, a6⟩ := fine_all h
  have e : toD (.lst ts) = .list (toDs ts) := by simp [toD]
  have ls : PyData.leavesShort 60 (.list (toDs ts)) = true := by simp only [PyData.leavesShort, a5]
  have sh : PyData.showable (.list (toDs ts)) = true := by simp only [PyData.showable, a4]
  have ok : okD 60 (.lst ts) = true := a3
  have w : PyData.weight (.list (toDs ts)) ≤ 200200 := by simp only [PyData.weight]; omega
  have len := PyData.shown_le 60 (by decide) _ ls
  refine ⟨PyData.shown (.list (toDs ts)), ?_⟩
  show reprT (.lst ts) = _
  unfold reprT
  rw [e, if_pos]
  simp only [isSeqT, ok, sh, Bool.true_and, decide_eq_true_eq]
  omega
end G

namespace G
open PySem L2
/-! KF: what is refused. -/
theorem sub_pulls : subX NS "NoPulls" "ClingError" = some true := by decide +kernel
theorem is_pulls (fs : List (Str × T)) : isX NS "NoPulls" (.exc "NoPulls" fs) = some (.bl true) := by
  have : NS.contains "NoPulls" = true := by decide +kernel
  have h3 : isU "NoPulls" "NoPulls" = true := by decide +kernel
  simp only [isX, this, h3, if_true]
theorem is_value (fs : List (Str × T)) : isX NS "ValueError" (.exc "NoPulls" fs) = some (.bl true) := by
  have : NS.contains "NoPulls" = true := by decide +kernel
  have h3 : isU "NoPulls" "ValueError" = true := by decide +kernel
  simp only [isX, this, h3, if_true]
theorem is_other (fs : List (Str × T)) : isXT NS ["NoBlock", "NoPiece", "NoStand"] (.exc "NoPulls" fs) = some (.bl false) := by
  have : NS.contains "NoPulls" = true := by decide +kernel
  have h3 : (["NoBlock", "NoPiece", "NoStand"] : List Str).any (isU "NoPulls") = false := by decide +kernel
  simp only [isXT, this, h3, if_true]
theorem at_pulls (k : Int) : fX XF_at "at" (.exc "NoPulls" [("at", .int k)]) = some (.int k) := by
  have : XF_at.contains "NoPulls" = true := by decide +kernel
  simp only [fX, this, if_true]
  simp [List.lookup]
section
variable {ts rest : List T} {rs : List Row}
theorem init_odd {t : T} (ht : isiT' "list" t = some (.bl false)) : ∃ m', F_Pullsd_initd [.c 0, .v t] [some (.ins "Pulls" [])] = some (.error (noPulls (-1)), m') := by
  suffices h : wF F_Pullsd_initd [.c 0, .v t] [some (.ins "Pulls" [])] (fun r m' => r = .error (noPulls (-1))) by
    obtain ⟨r, m', e, rfl⟩ := h
    exact ⟨m', e⟩
  unfold F_Pullsd_initd
  rw [wF_run]
  simp [B_Pullsd_initd, ht, noPulls]
theorem wMk_no {t : T} {x : Xc} {m : Mem} {Q : QE C} (e : ∃ m', F_Pullsd_initd [.c 0, .v t] [some (.ins "Pulls" [])] = some (.error x, m')) (h : Q (.error x) m) : wMk "Pulls" 2 F_Pullsd_initd [.v t] m Q := by
  obtain ⟨m', e⟩ := e
  rw [wMk_iff]
  refine ⟨by simp [cellsOf], ?_⟩
  simp only [cellsOf, renum, ldM, List.filterMap_nil, List.nil_append, List.length_nil]
  refine wF_eq e ?_
  simp [mkQ, cellsOf, stM]
  exact h
theorem refused_at {t : T} {k : Int} (hx : nxD 9 t = true) (e : ∃ m', F_Pullsd_initd [.c 0, .v t] [some (.ins "Pulls" [])] = some (.error (noPulls k), m')) : F_l_refused [.v t] [] = some (.ok (.v (.int k)), []) := by
  apply eq_of_wF
  unfold F_l_refused
  rw [wF_run]
  simp [B_l_refused]
  refine wMk_no e ?_
  simp [noPulls, sub_pulls, is_pulls, is_value, is_other, at_pulls, nxO, nxU, hx, nxD]
theorem refused_eq (g : Told ts rs rest) (ht : ∀ t ∈ ts, fine t = true) (hl : ts.length ≤ 500) : F_l_refused [.v (.lst ts)] [] = some (.ok (.v (dueT rs rest)), []) := by
  by_cases h : rest = []
  · have e : ts = rs.map rowT := by rw [g.e, h, List.append_nil]
    have gd : Good rs := ⟨g.ok, g.nd, by rw [e, List.length_map] at hl; exact hl⟩
    apply eq_of_wF
    unfold F_l_refused
    rw [wF_run]
    simp [B_l_refused]
    rw [e]
    refine wMk_ok gd ?_
    simp [dueT, h, toT, toTs]
  · rw [refused_at (k := rs.length) ?_ (init_no g h (fun t ht' => fine_th (ht t ht')) hl)]
    · simp [dueT, h]
    · simp only [nxD, List.all_eq_true]
      exact fun t ht' => fine_nx (ht t ht')
theorem refused_odd {t : T} (hx : nxD 9 t = true) (ht : isiT' "list" t = some (.bl false)) : F_l_refused [.v t] [] = some (.ok (.v (.int (-1))), []) := refused_at hx (init_odd ht)
end
end G

namespace G
open PySem L2
/-! KG: a list spoilt. -/
theorem isPull_m : isPull (.tup [.str "m", .str "p", .int 4]) = true := by decide +kernel
theorem str_m : (Str.ofString "m") = lt 12 := by decide +kernel
theorem str_p : (Str.ofString "p") = lt 15 := by decide +kernel
theorem row_mp : T.tup [.str (Str.ofString "m"), .str (Str.ofString "p"), .int 4] = rowT (12, 15, 4) := by rw [str_m, str_p]; rfl
theorem row_qq : T.tup [.str (Str.ofString "q"), .str (Str.ofString "q"), .int 0] = rowT (16, 16, 0) := by rw [show Str.ofString "q" = lt 16 by decide +kernel]; rfl
theorem ok_mp : okR (12, 15, 4) := by unfold okR; decide
theorem ok_qq : okR (16, 16, 0) := by unfold okR; decide
def marks : List T := [.str (Str.ofString ""), .str (Str.ofString "ab"), .str (Str.ofString "A"), .non, .int 1, .str (Str.ofString "-"), .tup [.str (Str.ofString "a")]]
theorem marks_lf : ∀ x ∈ marks, lf x = true := by
  have : marks.all lf = true := by decide +kernel
  exact List.all_eq_true.mp this
theorem lf_m1 : lf (.int (-1)) = true := by decide +kernel
theorem lf_0 : lf (.int 0) = true := by decide +kernel
theorem lf_10 : lf (.int 10) = true := by decide +kernel
theorem lf_big : lf (.int (10 ^ 20)) = true := by decide +kernel
theorem lf_true : lf (.bl true) = true := by decide +kernel
theorem lf_non : lf .non = true := by decide +kernel
def spTail : MS := (sSeq (sAsg (mCall 2 F_l_one (mCons (mVar 0) (mCons (mFz (mLst (mCons (mC (.str "")) (mCons (mC (.str "ab")) (mCons (mC (.str "A")) (mCons (mC .non) (mCons (mC (.int 1)) (mCons (mC (.str "-")) (mCons (mTup (mCons (mC (.str "a")) mNil)) mNil))))))))) mNil))) (gN 7))
  (sSeq (sAsg (mFz (mLst (mCons (mFz (mLst (mCons (mVar 4) (mCons (mVar 5) (mCons (mVar 6) mNil))))) (mCons (mTup (mCons (mVar 4) (mCons (mVar 5) mNil))) (mCons (mTup (mCons (mVar 4) (mCons (mVar 5) (mCons (mVar 6) (mCons (mC (.int 0)) mNil))))) (mCons (mC .non) (mCons (mOp2 (pv2 catS) (mVar 4) (mVar 5)) (mCons (mTup (mCons (mVar 7) (mCons (mVar 5) (mCons (mVar 6) mNil)))) mNil)))))))) (gN 8))
  (sSeq (sAsg (mOp2 (pv2 addT) (mVar 8) (mFz (mLst (mCons (mTup (mCons (mVar 4) (mCons (mVar 7) (mCons (mVar 6) mNil)))) (mCons (mTup (mCons (mCallB (pvN max2P) (mCons (mVar 4) (mCons (mVar 5) mNil))) (mCons (mCallB (pvN min2P) (mCons (mVar 4) (mCons (mVar 5) mNil))) (mCons (mVar 6) mNil)))) (mCons (mTup (mCons (mVar 4) (mCons (mVar 5) (mCons (mUn (pv1 negT) (mC (.int 1))) mNil)))) (mCons (mTup (mCons (mVar 4) (mCons (mVar 5) (mCons (mC (.int 10)) mNil)))) mNil))))))) (gN 8))
  (sSeq (sAsg (mOp2 (pv2 addT) (mVar 8) (mFz (mLst (mCons (mTup (mCons (mVar 4) (mCons (mVar 5) (mCons (mC (.bl true)) mNil)))) (mCons (mTup (mCons (mVar 4) (mCons (mVar 5) (mCons (mC .non) mNil)))) (mCons (mTup (mCons (mVar 4) (mCons (mVar 5) (mCons (mCallB (pvN strP) (mCons (mVar 6) mNil)) mNil)))) (mCons (mTup (mCons (mVar 4) (mCons (mVar 5) (mCons (mOp2 (pv2 subT) (mC (.int 9)) (mVar 6)) mNil)))) mNil))))))) (gN 8))
  (sSeq (sAsg (mOp2 (pv2 addT) (mVar 8) (mFz (mLst (mCons (mOp2 (pv2 ixP) (mOp2 (pv2 addT) (mVar 1) (mFz (mLst (mCons (mTup (mCons (mC (.str "q")) (mCons (mC (.str "q")) (mCons (mC (.int 0)) mNil)))) mNil)))) (mC (.int 0))) (mCons (mTup (mCons (mVar 4) (mCons (mVar 5) (mCons (mOp2 (pv2 powT) (mC (.int 10)) (mC (.int 20))) mNil)))) mNil))))) (gN 8))
  (sRet (mOp2 (pv2 addT) (mOp2 (pv2 addT) (mSl (mVar 1) mNoPart (mPart (mVar 2))) (mFz (mLst (mCons (mCall 2 F_l_one (mCons (mVar 0) (mCons (mVar 8) mNil))) mNil)))) (mSl (mVar 1) (mPart (mOp2 (pv2 addT) (mVar 2) (mCall 2 F_l_take (mCons (mVar 0) (mCons (mC (.int 2)) mNil))))) mNoPart))))))))
theorem sp_eq : B_l_spoilt = (sSeq (sAsg (mCall 2 F_l_take (mCons (mVar 0) (mCons (mOp2 (pv2 addT) (mCallB (pvN lenP) (mCons (mVar 1) mNil)) (mC (.int 1))) mNil))) (gN 2))
  (sSeq (sAsg (mOp2 (pv2 ixP) (mOp2 (pv2 addT) (mVar 1) (mFz (mLst (mCons (mTup (mCons (mC (.str "m")) (mCons (mC (.str "p")) (mCons (mC (.int 4)) mNil)))) mNil)))) (mVar 2)) (gN 3))
  (sSeq (sAsg (mIf (mTst (mCall 2 F_l_is_pull (mCons (mVar 3) (mCons (mFz (mLst mNil)) mNil)))) (mVar 3) (mTup (mCons (mC (.str "m")) (mCons (mC (.str "p")) (mCons (mC (.int 4)) mNil))))) (gT (gCons (gN 4) (gCons (gN 5) (gCons (gN 6) gNil)))))
  spTail))) := rfl

theorem cat_lt (a b : Nat) : catS (.str (lt a)) (.str (lt b)) = some (.str (lt a ++ lt b)) := by
  have h : (lt a).length + (lt b).length ≤ 16777216 := by show 1 + 1 ≤ 16777216; decide
  simp [catS, h]
theorem strP_dig {p : Int} (h0 : 0 ≤ p) (h9 : p ≤ 9) : strP [.int p] = some (.str (toString p)) := by
  have h : p.natAbs.log2 < 1920 := by
    have : ∀ n : Fin 10, ((n : Nat) : Int).natAbs.log2 < 1920 := by decide +kernel
    obtain ⟨k, rfl⟩ := Int.eq_ofNat_of_zero_le h0
    exact this ⟨k, by omega⟩
  simp [strP, h]
theorem cut_from' (xs : List T) (k : Nat) : cutT xs (some (k : Int)) none = xs.drop k := by
  unfold cutT
  rw [HT.sIx_nat, HT.sIx_none]
  rcases Nat.le_total k xs.length with h | h
  · rw [Nat.min_eq_left h]; exact List.take_of_length_le (by simp)
  · rw [Nat.min_eq_right h, List.drop_of_length_le h, List.drop_of_length_le (Nat.le_refl _)]; simp
theorem first_fine {ts : List T} (ht : ∀ t ∈ ts, fine t = true) {y : T} (hy : fine y = true) : ∃ z, L2.atI (ts ++ [y]) 0 = some z ∧ fine z = true := by
  cases ts with
  | nil => exact ⟨y, rfl, hy⟩
  | cons t ts => exact ⟨t, atI_nat' (k := 0) (by simp), ht t List.mem_cons_self⟩
theorem w_tail {ts : List T} (ht : ∀ t ∈ ts, fine t = true) (hl : ts.length ≤ 150) {k : Nat} (hk : k ≤ ts.length) {A B : Nat} {p : Int} (hr : okR (A, B, p)) {x : T} {a b c : Int} {Q : QE U} (h : ∀ ts' a b c, (∀ t ∈ ts', fine t = true) → ts'.length ≤ ts.length + 1 → Q (.ok (.v (.lst ts'))) [srcC a b c]) :
    wS spTail [some (.c 0), some (.v (.lst ts)), some (.v (.int (k : Nat))), some (.v x), some (.v (.str (lt A))), some (.v (.str (lt B))), some (.v (.int p)), none, none] [srcC a b c] (onRt Q) := by
  simp [spTail]
  refine w_one (by decide) (by decide) fun mk a b c hmk => ?_
  have lmk : lf mk = true := marks_lf mk hmk
  obtain ⟨h1, h2, h3, h4⟩ := hr
  simp only at h1 h2 h3 h4
  obtain ⟨z, ez, fz⟩ := first_fine ht (fine_row ok_qq)
  rw [← row_qq] at ez
  have lA : lf (.str (lt A)) = true := lf_lt (by omega)
  have lB : lf (.str (lt B)) = true := lf_lt h2
  have lp : lf (.int p) = true := lf_int h3 h4
  have l9 : lf (.int (9 - p)) = true := lf_int (by omega) (by omega)
  obtain ⟨s, es, ls⟩ : ∃ s, strP [.int p] = some (.str s) ∧ lf (.str s) = true := ⟨_, strP_dig h3 h4, lf_shown h3 h4⟩
  have hsz : ts.length ≤ 16777215 := by omega
  have l2 : lf (.str (lt A ++ lt B)) = true := lf_two (by omega) h2
  simp [cat_lt, max_lt, min_lt, es, ez, hsz]
  refine w_one (by simp) (by simp) fun y a b c hy => ?_
  have lmx : lf (.str (lt (max A B))) = true := lf_lt (by omega)
  have lmn : lf (.str (lt (min A B))) = true := lf_lt (by omega)
  have fy : fine y = true := by
    have m1 := lf_m1
    have m0 := lf_0
    have m10 := lf_10
    have mb : lf (.int 100000000000000000000) = true := lf_big
    have mt := lf_true
    have mn := lf_non
    simp only [List.mem_cons, List.not_mem_nil, or_false] at hy
    rcases hy with rfl | rfl | rfl | rfl | rfl | rfl | rfl | rfl | rfl | rfl | rfl | rfl | rfl | rfl | rfl | rfl
    · exact fine_lst (by simp [*]) (by simp)
    · exact fine_tup (by simp [*]) (by simp)
    · exact fine_tup (by simp [*]) (by simp)
    · exact fine_non
    · exact fine_str l2
    · exact fine_tup (by simp [*]) (by simp)
    · exact fine_tup (by simp [*]) (by simp)
    · exact fine_tup (by simp [*]) (by simp)
    · exact fine_tup (by simp [*]) (by simp)
    · exact fine_tup (by simp [*]) (by simp)
    · exact fine_tup (by simp [*]) (by simp)
    · exact fine_tup (by simp [*]) (by simp)
    · exact fine_tup (by simp [*]) (by simp)
    · exact fine_tup (by simp [*]) (by simp)
    · exact fz
    · exact fine_tup (by simp [*]) (by simp)
  clear hy
  simp
  refine ⟨by rw [cut_to, List.length_take]; omega, ?_⟩
  refine w_take (by decide) (by decide) fun r a b c r0 r1 => ?_
  obtain ⟨j, rfl⟩ := Int.eq_ofNat_of_zero_le r0
  have ej : ((k : Nat) : Int) + ((j : Nat) : Int) = ((k + j : Nat) : Int) := by omega
  have e1 := cut_to ts k
  have e2 : cutT ts (some (((k : Nat) : Int) + ((j : Nat) : Int))) none = ts.drop (k + j) := by rw [ej]; exact cut_from' ts (k + j)
  have hj : j < 2 := by omega
  simp [e1, e2]
  refine ⟨by omega, h _ a b c (fun t ht' => ?_) ?_⟩
  · simp only [List.mem_append, List.mem_cons] at ht'
    rcases ht' with h | rfl | h
    · exact ht t (List.mem_of_mem_take h)
    · exact fy
    · exact ht t (List.mem_of_mem_drop h)
  · simp
    omega
theorem w_spoilt {ts : List T} (ht : ∀ t ∈ ts, fine t = true) (hl : ts.length ≤ 150) {a b c : Int} {Q : QE U} (h : ∀ ts' a b c, (∀ t ∈ ts', fine t = true) → ts'.length ≤ ts.length + 1 → Q (.ok (.v (.lst ts'))) [srcC a b c]) :
    wF F_l_spoilt [.c 0, .v (.lst ts)] [srcC a b c] Q := by
  unfold F_l_spoilt
  rw [wF_run]
  rw [sp_eq]
  simp
  refine w_take (by omega) (by omega) fun r a b c r0 r1 => ?_
  obtain ⟨k, rfl⟩ := Int.eq_ofNat_of_zero_le r0
  have hk : k ≤ ts.length := by omega
  have hsz : ts.length ≤ 16777215 := by omega
  have hlt : k < (ts ++ [rowT (12, 15, 4)]).length := by simp; omega
  have fa : ∀ t ∈ ts ++ [rowT (12, 15, 4)], fine t = true := fun t h => by
    rcases List.mem_append.mp h with h | h
    · exact ht t h
    · rw [List.mem_singleton.mp h]; exact fine_row ok_mp
  have hat := atI_nat' hlt
  rw [List.getElem?_eq_getElem hlt] at hat
  have fx := fa _ (List.getElem_mem hlt)
  generalize (ts ++ [rowT (12, 15, 4)])[k] = x at hat fx
  simp [row_mp, hat, hsz]
  cases hp : isPull x with
  | true =>
    obtain ⟨q, hq, rfl⟩ := isPull_row hp
    rw [wF_by (by simpa using lpull_row hq (rs := []) (by simp))]
    obtain ⟨A, B, p⟩ := q
    simp [rowT]
    exact w_tail ht hl hk hq h
  | false =>
    rw [wF_by (lpull_no (fine_th fx) hp [])]
    simp [rowT]
    exact w_tail ht hl hk ok_mp h
end G

namespace G
open PySem L2
/-! KH: the law. -/
theorem neP_due {rs : List Row} {rest : List T} : neP (dueT rs rest) (dueT rs rest) = some (.bl false) := by
  have h : okD 64 (dueT rs rest) = true := by unfold dueT; split <;> rfl
  have h2 : eqT (dueT rs rest) (dueT rs rest) = true := by unfold dueT; split <;> simp [eqT, toD, PyData.eqv]
  simp [neP, h, h2]
theorem due_bool {rs : List Row} {rest : List T} : isiT' "bool" (dueT rs rest) = some (.bl false) := by
  unfold dueT; split <;> rfl
theorem neS_same {s : Str} : neS (.str s) (.str s) = some (.bl false) := by simp [neS]
abbrev OT := Option U
theorem law_3 {v : Int} {s : OT} {x2 x3 x4 x5 x6 x7 x8 : OT} {m : Mem} {Q : QS} (h : ∀ x2 x3 x4 x5 x6 x7 x8 m', Q (.fl .nx [s, some (.v (.int v)), x2, x3, x4, x5, x6, x7, x8]) m') :
    wS L_law_3 [s, some (.v (.int v)), x2, x3, x4, x5, x6, x7, x8] m Q := by
  simp [L_law_3]
  refine w_source fun a b c => ?_
  simp
  refine w_letters fun f a b c hf => ?_
  obtain ⟨hn, hb⟩ := letsN_ok hf
  simp
  refine w_take (by decide) (by decide) fun r a b c r0 r1 => ?_
  obtain ⟨k, rfl⟩ := Int.eq_ofNat_of_zero_le r0
  simp
  have hcut := cut_to ((letsN f).map stT) (1 + k)
  rw [← List.map_take] at hcut
  have ek : (1 : Int) + ((k : Nat) : Int) = ((1 + k : Nat) : Int) := by omega
  rw [ek, hcut]
  have hL : ((letsN f).take (1 + k)).length < 10 := by rw [List.length_take]; have : (letsN f).length = 4 := rfl; omega
  refine w_told hL (fun t h => hb t (List.mem_of_mem_take h)) (hn.sublist (List.take_sublist _ _)) fun R a b c y g g1 _ => ?_
  have f0 : ∀ t ∈ R.map rowT, fine t = true := fun t h => by
    obtain ⟨r, hr, rfl⟩ := List.mem_map.mp h
    exact fine_row (g.ok r hr)
  simp
  refine w_take (by decide) (by decide) fun r a b c r0 r1 => ?_
  have q1 : 1 + r < 4611686018427387904 := by omega
  have q0 : -4611686018427387904 ≤ 1 + r := by omega
  obtain ⟨j, rfl⟩ := Int.eq_ofNat_of_zero_le r0
  simp [rng1, q1, q0]
  rw [show (1 + ((j : Nat) : Int)).toNat = 1 + j by omega]
  refine wS_forL (fun i fr m' => ∃ (ts : List T) (a b c : Int) (x4 : OT), (∀ t ∈ ts, fine t = true) ∧ ts.length ≤ 100 + i ∧ fr = [s, some (.v (.int v)), some (.c m.length), some (.v (.lst ts)), x4, x5, x6, x7, x8] ∧ m' = m ++ [srcC a b c]) ⟨_, _, _, _, _, f0, by simpa using g1, rfl, rfl⟩ ?_ ?_
  · rintro i t fr m' hi ⟨ts, a, b, c, x4, ft, hl, rfl, rfl⟩
    obtain ⟨hi, rfl⟩ := range_at hi
    simp [L_law_1]
    refine w_spoilt ft (by omega) fun ts' a b c ft' hl' => ?_
    simp
    exact ⟨ft', by omega⟩
  · rintro fr m' ⟨ts, a, b, c, x4, ft, hl, rfl, rfl⟩
    rw [range_len] at hl
    have hj : j < 2 := by omega
    have hl' : ts.length ≤ 110 := by omega
    obtain ⟨z, ez⟩ := repr_fine ft (by omega)
    obtain ⟨rs, rest, td⟩ := split_told ts
    have fth := fun t h => fine_th (ft t h)
    simp [ez, rng1]
    refine wS_forI (fun fr m' => ∃ (x6 x7 : OT), fr = [s, some (.v (.int v)), some (.c m.length), some (.v (.lst ts)), x4, some (.v (.str z)), x6, x7, x8] ∧ m' = m ++ [srcC a b c]) ⟨_, _, rfl, rfl⟩ ?_ ?_
    · rintro t fr m' ht ⟨x6, x7, rfl, rfl⟩
      simp [L_law_2]
      rw [wF_by (refused_eq td ft (by omega))]
      simp
      rw [wF_by (due_eq td fth (by omega))]
      simp [neP_due, due_bool, ez, neS_same]
    · rintro fr m' ⟨x6, x7, rfl, rfl⟩
      simp
      have hsz : ts.length ≤ 16777216 := by omega
      refine w_one (by simp) (by simp) fun y a b c hy => ?_
      have hnx : ts.all (nxD 8) = true := by
        rw [List.all_eq_true]
        exact fun t ht => fine_nx (ft t ht)
      have ho : nxD 9 y = true ∧ isiT' "list" y = some (.bl false) := by
        simp only [List.mem_cons, List.not_mem_nil, or_false] at hy
        rcases hy with rfl | rfl | rfl | rfl | rfl | rfl | rfl
        · exact ⟨rfl, rfl⟩
        · exact ⟨rfl, rfl⟩
        · exact ⟨rfl, rfl⟩
        · exact ⟨by simp only [nxD, hnx], rfl⟩
        · exact ⟨rfl, rfl⟩
        · exact ⟨rfl, rfl⟩
        · exact ⟨rfl, rfl⟩
      clear hy
      simp
      rw [wF_by (refused_odd ho.1 ho.2)]
      simp
      exact h _ _ _ _ _ _ _ _
theorem lawT : ∀ ns : List Int, ns.length ≤ 63 → ∃ m, F_law [.v (.rol (ns.map .int))] [] = some (.ok (.v (.bl true)), m) := by
  intro ns hns
  suffices h : wF F_law [.v (.rol (ns.map .int))] [] fun r _ => r = .ok (.v (.bl true)) by
    obtain ⟨r, m, e, rfl⟩ := h
    exact ⟨m, e⟩
  unfold F_law B_law
  rw [wF_run]
  have hc : ∃ v : Int, F_l_cell_at [.v (.rol (ns.map .int)), .v (.int 0)] [] = some (.ok (.v (.int v)), []) := by
    cases ns with
    | nil => exact ⟨0, by simp [F_l_cell_at, B_l_cell_at, runF, sSeq, sIf, sBind, sRet, sExpr, sAsg, sFor, sForL, sTurn, sNext, sSetL, sFldT, sDPutT, gN, gT, gCons, gNil, mTst, mBind, mOp2, mUn, mVar, mC, mPure, mLift, mCons, mNil, mCallB, mAndT, mOrT, mNotT, mAnd, mNot, mIf, mChain, pv1, pv2, pvN, deref, derefs, toT, mCall, callV, cellsOf, renum, ldM, stM, flatO, mFz, mCl, mLst, mTup, allV, mList, mSl, mNoPart, mPart, slP, ixP, seqOf, lstOf, isL, addT, subT, mulT, fdivT, modT, powT, ltT, leT, gtT, geT, lenP, intP, tupP, mItL, mItE, mItR, mItS, srcL, rng1, mSmall, mComp, compM, compL, wipeT, mMeth, insOf, pFld, mMake, makeV, atI, ixN]⟩
    | cons n ns =>
      refine ⟨n, ?_⟩
      simp [F_l_cell_at, B_l_cell_at, runF, sSeq, sIf, sBind, sRet, sExpr, sAsg, sFor, sForL, sTurn, sNext, sSetL, sFldT, sDPutT, gN, gT, gCons, gNil, mTst, mBind, mOp2, mUn, mVar, mC, mPure, mLift, mCons, mNil, mCallB, mAndT, mOrT, mNotT, mAnd, mNot, mIf, mChain, pv1, pv2, pvN, deref, derefs, toT, mCall, callV, cellsOf, renum, ldM, stM, flatO, mFz, mCl, mLst, mTup, allV, mList, mSl, mNoPart, mPart, slP, ixP, seqOf, lstOf, isL, addT, subT, mulT, fdivT, modT, powT, ltT, leT, gtT, geT, lenP, intP, tupP, mItL, mItE, mItR, mItS, srcL, rng1, mSmall, mComp, compM, compL, wipeT, mMeth, insOf, pFld, mMake, makeV, atI, ixN]
  obtain ⟨v, hc⟩ := hc
  simp
  refine wF_eq hc ?_
  simp
  have hcut : ∃ ks : List Int, cutT (ns.map T.int) (some 1) (some 10) = ks.map T.int ∧ ks.length ≤ 63 := by
    refine ⟨(ns.drop (HT.sIx (ns.map T.int).length 0 (some 1))).take (HT.sIx (ns.map T.int).length (ns.map T.int).length (some 10) - HT.sIx (ns.map T.int).length 0 (some 1)), ?_, ?_⟩
    · unfold cutT; rw [List.map_take, List.map_drop]
    · rw [List.length_take, List.length_drop]; omega
  obtain ⟨ks, hcut, hks⟩ := hcut
  have hk2 : ks.length + 1 ≤ 16777216 := by omega
  simp [hcut, Nat.add_comm 1, hk2]
  refine wS_forI (fun fr m' => ∃ x1 x2 x3 x4 x5 x6 x7 x8, fr = [some (.v (.rol (ns.map .int))), x1, x2, x3, x4, x5, x6, x7, x8]) ⟨_, _, _, _, _, _, _, _, rfl⟩ ?_ ?_
  · rintro t fr m' ht ⟨x1, x2, x3, x4, x5, x6, x7, x8, rfl⟩
    obtain ⟨k, rfl⟩ : ∃ k : Int, t = .int k := by
      simp at ht
      rcases ht with rfl | ⟨k, _, rfl⟩ <;> exact ⟨_, rfl⟩
    simp
    refine law_3 fun x2 x3 x4 x5 x6 x7 x8 m' => ?_
    simp
  rintro fr m' ⟨x1, x2, x3, x4, x5, x6, x7, x8, rfl⟩
  simp
end G

set_option maxHeartbeats 4000000
namespace G
open PySem PySem.Spec PyProof.Rows L2
def top (i : Nat) : Stmt := PySem.Challenge.pw_clinghold_k02_what_are_no_pulls.main.body.getD i (.Pass ⟨0, 0, 0, 0⟩)
abbrev s_is_whole : Stmt := top 9
abbrev s_is_mark : Stmt := top 10
abbrev s_is_told_pull : Stmt := top 11
abbrev s_Pullsd_initd : Stmt := inClass (top 12) 0
abbrev s_Pulls_pull : Stmt := inClass (top 12) 1
abbrev s_Pulls_told : Stmt := inClass (top 12) 2
abbrev s_Pullsd_eqd : Stmt := inClass (top 12) 3
abbrev s_l_cell_at : Stmt := top 14
abbrev s_l_source : Stmt := top 15
abbrev s_l_take : Stmt := top 16
abbrev s_l_one : Stmt := top 17
abbrev s_l_mixed : Stmt := top 18
abbrev s_l_letters : Stmt := top 19
abbrev s_l_told : Stmt := top 20
abbrev s_l_is_mark : Stmt := top 21
abbrev s_l_is_pull : Stmt := top 22
abbrev s_l_due : Stmt := top 23
abbrev s_l_spoilt : Stmt := top 24
abbrev s_l_refused : Stmt := top 25
abbrev s_law : Stmt := top 26
abbrev s_NoPullsI : Stmt := inClass (top 2) 0
structure Tx (K : PySem.W.Frag) (mg : Str → Option Value) where
  C_Pulls : Addr
  g_Pulls : mg "Pulls" = some (.ref C_Pulls)
  cl_Pulls : Cls K C_Pulls
  is_Pulls : IsC K C_Pulls
  n_Pulls_known : NoAttr K C_Pulls "known"
  a_is_whole : Addr
  d_is_whole : FuncData
  f_is_whole : Fun K "is_whole" "is_whole" s_is_whole a_is_whole d_is_whole
  b_is_whole : Binds K d_is_whole ["thing"] []
  g_is_whole : mg "is_whole" = some (.ref a_is_whole)
  a_is_mark : Addr
  d_is_mark : FuncData
  f_is_mark : Fun K "is_mark" "is_mark" s_is_mark a_is_mark d_is_mark
  b_is_mark : Binds K d_is_mark ["thing"] []
  g_is_mark : mg "is_mark" = some (.ref a_is_mark)
  a_is_told_pull : Addr
  d_is_told_pull : FuncData
  f_is_told_pull : Fun K "is_told_pull" "is_told_pull" s_is_told_pull a_is_told_pull d_is_told_pull
  b_is_told_pull : Binds K d_is_told_pull ["thing"] []
  g_is_told_pull : mg "is_told_pull" = some (.ref a_is_told_pull)
  a_Pullsd_initd : Addr
  d_Pullsd_initd : FuncData
  f_Pullsd_initd : Fun K "__init__" "Pulls.__init__" s_Pullsd_initd a_Pullsd_initd d_Pullsd_initd
  b_Pullsd_initd : Binds K d_Pullsd_initd ["self", "told"] []
  m_Pullsd_initd : Meth K C_Pulls "__init__" a_Pullsd_initd
  a_Pulls_pull : Addr
  d_Pulls_pull : FuncData
  f_Pulls_pull : Fun K "pull" "Pulls.pull" s_Pulls_pull a_Pulls_pull d_Pulls_pull
  b_Pulls_pull : Binds K d_Pulls_pull ["self", "one", "other"] []
  m_Pulls_pull : Meth K C_Pulls "pull" a_Pulls_pull
  a_Pulls_told : Addr
  d_Pulls_told : FuncData
  f_Pulls_told : Fun K "told" "Pulls.told" s_Pulls_told a_Pulls_told d_Pulls_told
  b_Pulls_told : Binds K d_Pulls_told ["self"] []
  m_Pulls_told : Meth K C_Pulls "told" a_Pulls_told
  a_Pullsd_eqd : Addr
  d_Pullsd_eqd : FuncData
  f_Pullsd_eqd : Fun K "__eq__" "Pulls.__eq__" s_Pullsd_eqd a_Pullsd_eqd d_Pullsd_eqd
  b_Pullsd_eqd : Binds K d_Pullsd_eqd ["self", "other"] []
  m_Pullsd_eqd : Meth K C_Pulls "__eq__" a_Pullsd_eqd
  a_l_cell_at : Addr
  d_l_cell_at : FuncData
  f_l_cell_at : Fun K "_law_cell_at" "_law_cell_at" s_l_cell_at a_l_cell_at d_l_cell_at
  b_l_cell_at : Binds K d_l_cell_at ["_law_script", "_law_k"] []
  g_l_cell_at : mg "_law_cell_at" = some (.ref a_l_cell_at)
  a_l_source : Addr
  d_l_source : FuncData
  f_l_source : Fun K "_law_source" "_law_source" s_l_source a_l_source d_l_source
  b_l_source : Binds K d_l_source ["_law_cell"] []
  g_l_source : mg "_law_source" = some (.ref a_l_source)
  a_l_take : Addr
  d_l_take : FuncData
  f_l_take : Fun K "_law_take" "_law_take" s_l_take a_l_take d_l_take
  b_l_take : Binds K d_l_take ["_law_source_here", "_law_many"] []
  g_l_take : mg "_law_take" = some (.ref a_l_take)
  a_l_one : Addr
  d_l_one : FuncData
  f_l_one : Fun K "_law_one" "_law_one" s_l_one a_l_one d_l_one
  b_l_one : Binds K d_l_one ["_law_source_here", "_law_some"] []
  g_l_one : mg "_law_one" = some (.ref a_l_one)
  a_l_mixed : Addr
  d_l_mixed : FuncData
  f_l_mixed : Fun K "_law_mixed" "_law_mixed" s_l_mixed a_l_mixed d_l_mixed
  b_l_mixed : Binds K d_l_mixed ["_law_source_here", "_law_some"] []
  g_l_mixed : mg "_law_mixed" = some (.ref a_l_mixed)
  a_l_letters : Addr
  d_l_letters : FuncData
  f_l_letters : Fun K "_law_letters" "_law_letters" s_l_letters a_l_letters d_l_letters
  b_l_letters : Binds K d_l_letters ["_law_source_here"] []
  g_l_letters : mg "_law_letters" = some (.ref a_l_letters)
  a_l_told : Addr
  d_l_told : FuncData
  f_l_told : Fun K "_law_told" "_law_told" s_l_told a_l_told d_l_told
  b_l_told : Binds K d_l_told ["_law_source_here", "_law_letters_here"] []
  g_l_told : mg "_law_told" = some (.ref a_l_told)
  a_l_is_mark : Addr
  d_l_is_mark : FuncData
  f_l_is_mark : Fun K "_law_is_mark" "_law_is_mark" s_l_is_mark a_l_is_mark d_l_is_mark
  b_l_is_mark : Binds K d_l_is_mark ["_law_thing"] []
  g_l_is_mark : mg "_law_is_mark" = some (.ref a_l_is_mark)
  a_l_is_pull : Addr
  d_l_is_pull : FuncData
  f_l_is_pull : Fun K "_law_is_pull" "_law_is_pull" s_l_is_pull a_l_is_pull d_l_is_pull
  b_l_is_pull : Binds K d_l_is_pull ["_law_thing", "_law_ahead"] []
  g_l_is_pull : mg "_law_is_pull" = some (.ref a_l_is_pull)
  a_l_due : Addr
  d_l_due : FuncData
  f_l_due : Fun K "_law_due" "_law_due" s_l_due a_l_due d_l_due
  b_l_due : Binds K d_l_due ["_law_told_here"] []
  g_l_due : mg "_law_due" = some (.ref a_l_due)
  a_l_spoilt : Addr
  d_l_spoilt : FuncData
  f_l_spoilt : Fun K "_law_spoilt" "_law_spoilt" s_l_spoilt a_l_spoilt d_l_spoilt
  b_l_spoilt : Binds K d_l_spoilt ["_law_source_here", "_law_told_here"] []
  g_l_spoilt : mg "_law_spoilt" = some (.ref a_l_spoilt)
  a_l_refused : Addr
  d_l_refused : FuncData
  f_l_refused : Fun K "_law_refused" "_law_refused" s_l_refused a_l_refused d_l_refused
  b_l_refused : Binds K d_l_refused ["_law_thing"] []
  g_l_refused : mg "_law_refused" = some (.ref a_l_refused)
  a_law : Addr
  d_law : FuncData
  f_law : Fun K "law" "law" s_law a_law d_law
  b_law : Binds K d_law ["_law_script"] []
  g_law : mg "law" = some (.ref a_law)
  mk_Pulls : Mk K C_Pulls a_Pullsd_initd
  eq_Pulls : OwnEqK K C_Pulls a_Pullsd_eqd
  z_list : mg "list" = none
  z_enumerate : mg "enumerate" = none
  z_range : mg "range" = none
  z_isinstance : mg "isinstance" = none
  z_int : mg "int" = none
  z_str : mg "str" = none
  z_sorted : mg "sorted" = none
  z_len : mg "len" = none
  z_bool : mg "bool" = none
  z_repr : mg "repr" = none
  z_tuple : mg "tuple" = none
  z_min : mg "min" = none
  z_max : mg "max" = none
  z_ValueError : mg "ValueError" = none
  c_LETTERS : ∃ t, mg "LETTERS" = some (.str "abcdefghijklmnopqrstuvwxyz" t)
  c_MOST_PULL : ∃ t, mg "MOST_PULL" = some (.int 9 t)
  C_ClingError : Addr
  g_ClingError : mg "ClingError" = some (.ref C_ClingError)
  C_NoPulls : Addr
  g_NoPulls : mg "NoPulls" = some (.ref C_NoPulls)
  C_NoStand : Addr
  g_NoStand : mg "NoStand" = some (.ref C_NoStand)
  C_NoBlock : Addr
  g_NoBlock : mg "NoBlock" = some (.ref C_NoBlock)
  C_NoPiece : Addr
  g_NoPiece : mg "NoPiece" = some (.ref C_NoPiece)
  bs : BaseI K mg "ClingError" C_ClingError
  ox_NoPulls : OexC K C_NoPulls
  no_NoPulls : PySem.W.findIn K (.ref C_NoPulls) "at" = some none
  a_NoPullsI : Addr
  d_NoPullsI : FuncData
  f_NoPullsI : Fun K "__init__" "NoPulls.__init__" s_NoPullsI a_NoPullsI d_NoPullsI
  bi_NoPulls : Binds K d_NoPullsI ["self", "at"] []
  in_NoPulls : PySem.W.findIn K (.ref C_NoPulls) "__init__" = some (some (.ref a_NoPullsI))
  ti_NoPulls : PySem.W.typeIn K (.ref a_NoPullsI) = some (.type "function")
  xb : ∀ n, NS.contains n = true → ∃ C, mg n = some (.ref C) ∧ ExC K C
  xo_NoBlock : ∀ n, NS.contains n = true → ∃ C, mg n = some (.ref C) ∧ ExC K C ∧ PySem.W.kitOne K (.ref C) (.ref C_NoBlock) = some (isU n "NoBlock")
  xo_NoPiece : ∀ n, NS.contains n = true → ∃ C, mg n = some (.ref C) ∧ ExC K C ∧ PySem.W.kitOne K (.ref C) (.ref C_NoPiece) = some (isU n "NoPiece")
  xo_NoPulls : ∀ n, NS.contains n = true → ∃ C, mg n = some (.ref C) ∧ ExC K C ∧ PySem.W.kitOne K (.ref C) (.ref C_NoPulls) = some (isU n "NoPulls")
  xo_NoStand : ∀ n, NS.contains n = true → ∃ C, mg n = some (.ref C) ∧ ExC K C ∧ PySem.W.kitOne K (.ref C) (.ref C_NoStand) = some (isU n "NoStand")
  xo_ValueError : ∀ n, NS.contains n = true → ∃ C, mg n = some (.ref C) ∧ ExC K C ∧ PySem.W.kitOne K (.ref C) (.type "ValueError") = some (isU n "ValueError")
  xm_ClingError : ∀ x v b, mg x = some v → subX NS x "ClingError" = some b → (∃ C, v = .ref C) ∧ PySem.W.exmOne K v (.ref C_ClingError) = some b
  xf_at : ∀ n, XF_at.contains n = true → ∃ C, mg n = some (.ref C) ∧ ExC K C ∧ PySem.W.findIn K (.ref C) "at" = some none
section
variable {P : Program} {w : World} {K : PySem.W.Frag} {mg : Str → Option Value} {base : Heap}
theorem sc_NoPullsI : FnScope ["self", "at"] ["self", "at"] (defScope s_NoPullsI) := ⟨rfl, rfl, rfl, by decide +kernel, rfl, by decide +kernel, by decide +kernel⟩
theorem ok_NoPullsI (T : Tx K mg) : FnOk P w K mg base (L2.CX P w) 1 T.a_NoPullsI T.d_NoPullsI ["self", "at"] (spI K "at" T.C_NoPulls) := init_okT T.f_NoPullsI sc_NoPullsI fun cdv A outer s H E => ini_walk T.ox_NoPulls T.no_NoPulls (pe_baseinit rfl T.bs (pa_cons (pe_var (i := 0) rfl (.inl rfl)) (pa_cons pe_str pa_nil))) (fun _ _ _ a e h => ⟨.ref a, e, h _⟩) (pe_var (i := 0) rfl (.inl rfl)) (pe_var (i := 1) rfl (.inl rfl))
theorem sc_is_whole : FnScope ["thing"] ["thing"] (defScope s_is_whole) := ⟨rfl, rfl, rfl, by decide +kernel, rfl, by decide +kernel, by decide +kernel⟩
theorem ok_is_whole (T : Tx K mg) : FnOk P w K mg base (L2.CX P w) 1 T.a_is_whole T.d_is_whole ["thing"] (spF ⟨K, mg, none⟩ 1 F_is_whole) := fn_okT T.f_is_whole sc_is_whole fun cdv A outer s H E hr tk po =>
  (ss_one (s_ret (e_and (e_isi (ty := "int") rfl T.z_isinstance rfl T.z_int bb_int (e_var (i := 0) rfl (.inl rfl))) (e_one (e_not (e_isi (ty := "bool") rfl T.z_isinstance rfl T.z_bool bb_bool (e_var (i := 0) rfl (.inl rfl))))))))
theorem sc_is_mark : FnScope ["thing"] ["thing"] (defScope s_is_mark) := ⟨rfl, rfl, rfl, by decide +kernel, rfl, by decide +kernel, by decide +kernel⟩
theorem ok_is_mark (T : Tx K mg) : FnOk P w K mg base (L2.CX P w) 1 T.a_is_mark T.d_is_mark ["thing"] (spF ⟨K, mg, none⟩ 1 F_is_mark) := fn_okT T.f_is_mark sc_is_mark fun cdv A outer s H E hr tk po =>
  (ss_one (s_ret (e_and (e_isi (ty := "str") rfl T.z_isinstance rfl T.z_str bb_str (e_var (i := 0) rfl (.inl rfl))) (e_and (e_cmp (op_eqT (u64 hr)) (e_callB cr_len rfl T.z_len bb_len (a_cons (e_var (i := 0) rfl (.inl rfl)) a_nil)) e_int (nobehind _ (by decide) (by decide))) (e_one (e_cmp (op_inA (u65 hr)) (e_var (i := 0) rfl (.inl rfl)) (e_globS rfl T.c_LETTERS) rfl))))))
theorem sc_is_told_pull : FnScope ["thing"] ["thing"] (defScope s_is_told_pull) := ⟨rfl, rfl, rfl, by decide +kernel, rfl, by decide +kernel, by decide +kernel⟩
theorem ok_is_told_pull (T : Tx K mg) : FnOk P w K mg base (L2.CX P w) 2 T.a_is_told_pull T.d_is_told_pull ["thing"] (spF ⟨K, mg, none⟩ 1 F_is_told_pull) := fn_okT T.f_is_told_pull sc_is_told_pull fun cdv A outer s H E hr tk po =>
  (ss_cons (s_if (PW.pt (w_or (t_not (t_val (e_isi (ty := "tuple") rfl T.z_isinstance rfl T.z_tuple bb_tuple (e_var (i := 0) rfl (.inl rfl))))) (w_or (t_cmp (op_neT (u64 hr)) (e_callB cr_len rfl T.z_len bb_len (a_cons (e_var (i := 0) rfl (.inl rfl)) a_nil)) e_int (nobehind _ (by decide) (by decide))) (w_or (t_not (t_val (e_call tk (ok_is_mark (P := P) (w := w) (base := base) T) (hr.mono (by decide)) rfl T.g_is_mark T.f_is_mark.kp T.b_is_mark (a_cons (e_ix (e_var (i := 0) rfl (.inl rfl)) e_int (fun _ _ => rfl)) a_nil)))) (w_or1 (t_not (t_val (e_call tk (ok_is_mark (P := P) (w := w) (base := base) T) (hr.mono (by decide)) rfl T.g_is_mark T.f_is_mark.kp T.b_is_mark (a_cons (e_ix (e_var (i := 0) rfl (.inl rfl)) e_int (fun _ _ => rfl)) a_nil))))))))) (ss_one (s_ret e_bl)) ss_nil)
  (ss_one (s_ret (e_and (e_cmp op_leT (e_ix (e_var (i := 0) rfl (.inl rfl)) e_int (fun _ _ => rfl)) (e_ix (e_var (i := 0) rfl (.inl rfl)) e_int (fun _ _ => rfl)) (nobehind _ (by decide) (by decide))) (e_and (e_call tk (ok_is_whole (P := P) (w := w) (base := base) T) (hr.mono (by decide)) rfl T.g_is_whole T.f_is_whole.kp T.b_is_whole (a_cons (e_ix (e_var (i := 0) rfl (.inl rfl)) e_int (fun _ _ => rfl)) a_nil)) (e_one (e_chain op_leT op_leT e_int (e_ix (e_var (i := 0) rfl (.inl rfl)) e_int (fun _ _ => rfl)) (e_globI rfl T.c_MOST_PULL))))))))
theorem sc_Pullsd_initd : FnScope ["self", "told", "at", "one"] ["self", "told"] (defScope s_Pullsd_initd) := ⟨rfl, rfl, rfl, by decide +kernel, rfl, by decide +kernel, by decide +kernel⟩
theorem ok_Pullsd_initd (T : Tx K mg) : FnOk P w K mg base (L2.CX P w) 3 T.a_Pullsd_initd T.d_Pullsd_initd ["self", "told"] (spF ⟨K, mg, none⟩ 2 F_Pullsd_initd) := fn_okT T.f_Pullsd_initd sc_Pullsd_initd fun cdv A outer s H E hr tk po =>
  (ss_cons (s_if (t_not (t_val (e_isi (ty := "list") rfl T.z_isinstance rfl T.z_list bb_list (e_var (i := 1) rfl (.inl rfl))))) (ss_one (s_raise1 rfl tk T.ox_NoPulls T.in_NoPulls T.ti_NoPulls (ok_NoPullsI (P := P) (w := w) (base := base) T) (hr.mono (by decide)) T.bi_NoPulls rfl T.g_NoPulls (e_un un_negT e_int))) ss_nil)
  (ss_cons (s_fld (e_var (i := 0) rfl (.inl rfl)) (e_cl e_dnewT) T.g_Pulls T.cl_Pulls T.n_Pulls_known)
  (ss_one (s_for po rfl (PI.z (i_enum rfl T.z_enumerate (a_cons (e_var (i := 1) rfl (.inl rfl)) a_nil))) (g_tup rfl (gs_cons (g_name (i := 2) sc_Pullsd_initd.nd rfl (.inl rfl)) (gs_cons (g_name (i := 3) sc_Pullsd_initd.nd rfl (.inl rfl)) gs_nil)) (gl_cons (gl_cons gl_nil))) (ss_cons (s_if (PW.pt (w_or (t_not (t_val (e_call tk (ok_is_told_pull (P := P) (w := w) (base := base) T) (hr.mono (by decide)) rfl T.g_is_told_pull T.f_is_told_pull.kp T.b_is_told_pull (a_cons (e_var (i := 3) rfl (.inl rfl)) a_nil)))) (w_or1 (t_cmp (op_inA (u65 hr)) (e_slice (e_var (i := 3) rfl (.inl rfl)) o_none (o_some e_int)) (e_fld (e_var (i := 0) rfl (.inl rfl)) T.g_Pulls T.cl_Pulls T.n_Pulls_known) rfl)))) (ss_one (s_raise1 rfl tk T.ox_NoPulls T.in_NoPulls T.ti_NoPulls (ok_NoPullsI (P := P) (w := w) (base := base) T) (hr.mono (by decide)) T.bi_NoPulls rfl T.g_NoPulls (e_var (i := 2) rfl (.inl rfl)))) ss_nil)
  (ss_one (s_dput (u1 hr) (e_fld (e_var (i := 0) rfl (.inl rfl)) T.g_Pulls T.cl_Pulls T.n_Pulls_known) (e_slice (e_var (i := 3) rfl (.inl rfl)) o_none (o_some e_int)) (e_ix (e_var (i := 3) rfl (.inl rfl)) e_int (fun _ _ => rfl)))))))))
theorem sc_Pulls_pull : FnScope ["self", "one", "other"] ["self", "one", "other"] (defScope s_Pulls_pull) := ⟨rfl, rfl, rfl, by decide +kernel, rfl, by decide +kernel, by decide +kernel⟩
theorem ok_Pulls_pull (T : Tx K mg) : FnOk P w K mg base (L2.CX P w) 1 T.a_Pulls_pull T.d_Pulls_pull ["self", "one", "other"] (spF ⟨K, mg, none⟩ 3 F_Pulls_pull) := fn_okT T.f_Pulls_pull sc_Pulls_pull fun cdv A outer s H E hr tk po =>
  (ss_cons (s_if (PW.pt (w_or (t_cmp op_isT (e_var (i := 1) rfl (.inl rfl)) e_non (nobehind _ (by decide) (by decide))) (w_or1 (t_cmp op_isT (e_var (i := 2) rfl (.inl rfl)) e_non (nobehind _ (by decide) (by decide)))))) (ss_one (s_ret e_int)) ss_nil)
  (ss_one (s_ret (e_dget2 (u1 hr) (e_fld (e_var (i := 0) rfl (.inl rfl)) T.g_Pulls T.cl_Pulls T.n_Pulls_known) (e_tup (a_cons (e_callB (cr_min2 rfl (u64 hr)) rfl T.z_min bb_min (a_cons (e_var (i := 1) rfl (.inl rfl)) (a_cons (e_var (i := 2) rfl (.inl rfl)) a_nil))) (a_cons (e_callB (cr_max2 rfl (u64 hr)) rfl T.z_max bb_max (a_cons (e_var (i := 1) rfl (.inl rfl)) (a_cons (e_var (i := 2) rfl (.inl rfl)) a_nil))) a_nil))) e_int ⟨rfl, rfl, rfl, rfl⟩))))
theorem sc_Pulls_told : FnScope ["self", "pair", "pull"] ["self"] (defScope s_Pulls_told) := ⟨rfl, rfl, rfl, by decide +kernel, rfl, by decide +kernel, by decide +kernel⟩
theorem ok_Pulls_told (T : Tx K mg) : FnOk P w K mg base (L2.CX P w) 1 T.a_Pulls_told T.d_Pulls_told ["self"] (spF ⟨K, mg, none⟩ 1 F_Pulls_told) := fn_okT T.f_Pulls_told sc_Pulls_told fun cdv A outer s H E hr tk po =>
  (ss_one (s_ret (e_fz (e_sorted rfl T.z_sorted (a_cons (e_fz (e_compI [1, 2] (pe_fld (pe_var (i := 0) rfl (.inl rfl) (by decide) (by decide)) rfl) (simp_fld T.g_Pulls T.cl_Pulls T.n_Pulls_known) rfl sc_Pulls_told.nd (blkOk_by (N := ["self", "pair", "pull"]) (sc := defScope s_Pulls_told) (own := [("pair", 1), ("pull", 2)]) (by decide +kernel)) (fun _ _ _ _ _ => (g_tup rfl (gs_cons (g_name (i := 1) sc_Pulls_told.nd rfl (.inl rfl)) (gs_cons (g_name (i := 2) sc_Pulls_told.nd rfl (.inl rfl)) gs_nil)) (gl_cons (gl_cons gl_nil)))) (fun _ _ _ _ _ => (ts_one (t_cmp op_gtT (e_var (i := 2) rfl (.inl rfl)) e_int (nobehind _ (by decide) (by decide))))) (fun _ _ _ _ _ => (e_op op_addT (e_var (i := 1) rfl (.inl rfl)) (e_tup (a_cons (e_var (i := 2) rfl (.inl rfl)) a_nil)))) rfl (by decide))) a_nil)))))
theorem sc_Pullsd_eqd : FnScope ["self", "other"] ["self", "other"] (defScope s_Pullsd_eqd) := ⟨rfl, rfl, rfl, by decide +kernel, rfl, by decide +kernel, by decide +kernel⟩
theorem ok_Pullsd_eqd (T : Tx K mg) : FnOk P w K mg base (L2.CX P w) 2 T.a_Pullsd_eqd T.d_Pullsd_eqd ["self", "other"] (spF ⟨K, mg, none⟩ 2 F_Pullsd_eqd) := fn_okT T.f_Pullsd_eqd sc_Pullsd_eqd fun cdv A outer s H E hr tk po =>
  (ss_one (s_ret (e_and (e_isiC rfl T.z_isinstance rfl T.g_Pulls T.is_Pulls (e_var (i := 1) rfl (.inl rfl))) (e_one (e_cmp (op_eqT (u64 hr)) (e_meth0 tk (e_var (i := 0) rfl (.inl rfl)) T.cl_Pulls T.g_Pulls T.m_Pulls_told (ok_Pulls_told (P := P) (w := w) (base := base) T) (hr.mono (by decide)) T.b_Pulls_told) (e_meth0 tk (e_var (i := 1) rfl (.inl rfl)) T.cl_Pulls T.g_Pulls T.m_Pulls_told (ok_Pulls_told (P := P) (w := w) (base := base) T) (hr.mono (by decide)) T.b_Pulls_told) (nobehind _ (by decide) (by decide)))))))
theorem sc_l_cell_at : FnScope ["_law_script", "_law_k"] ["_law_script", "_law_k"] (defScope s_l_cell_at) := ⟨rfl, rfl, rfl, by decide +kernel, rfl, by decide +kernel, by decide +kernel⟩
theorem ok_l_cell_at (T : Tx K mg) : FnOk P w K mg base (L2.CX P w) 1 T.a_l_cell_at T.d_l_cell_at ["_law_script", "_law_k"] (spF ⟨K, mg, none⟩ 2 F_l_cell_at) := fn_okT T.f_l_cell_at sc_l_cell_at fun cdv A outer s H E hr tk po =>
  (ss_cons (s_if (t_cmp op_ltT (e_var (i := 1) rfl (.inl rfl)) (e_callB cr_len rfl T.z_len bb_len (a_cons (e_var (i := 0) rfl (.inl rfl)) a_nil)) (nobehind _ (by decide) (by decide))) (ss_one (s_ret (e_ix (e_var (i := 0) rfl (.inl rfl)) (e_var (i := 1) rfl (.inl rfl)) (fun _ _ => rfl)))) ss_nil)
  (ss_one (s_ret e_int)))
theorem sc_l_source : FnScope ["_law_cell"] ["_law_cell"] (defScope s_l_source) := ⟨rfl, rfl, rfl, by decide +kernel, rfl, by decide +kernel, by decide +kernel⟩
theorem ok_l_source (T : Tx K mg) : FnOk P w K mg base (L2.CX P w) 1 T.a_l_source T.d_l_source ["_law_cell"] (spF ⟨K, mg, none⟩ 1 F_l_source) := fn_okT T.f_l_source sc_l_source fun cdv A outer s H E hr tk po =>
  (ss_one (s_ret (e_cl (e_lst (a_cons (e_op op_mulT (e_var (i := 0) rfl (.inl rfl)) (e_callTy cr_int rfl T.z_int bb_int (a_cons (e_cmp op_geT (e_var (i := 0) rfl (.inl rfl)) (e_op op_powT e_int e_int) (nobehind _ (by decide) (by decide))) a_nil))) (a_cons (e_op op_modT (e_var (i := 0) rfl (.inl rfl)) e_int) (a_cons e_int a_nil)))))))
theorem sc_l_take : FnScope ["_law_source_here", "_law_many", "_law_found", "_law_number"] ["_law_source_here", "_law_many"] (defScope s_l_take) := ⟨rfl, rfl, rfl, by decide +kernel, rfl, by decide +kernel, by decide +kernel⟩
theorem ok_l_take (T : Tx K mg) : FnOk P w K mg base (L2.CX P w) 1 T.a_l_take T.d_l_take ["_law_source_here", "_law_many"] (spF ⟨K, mg, none⟩ 2 F_l_take) := fn_okT T.f_l_take sc_l_take fun cdv A outer s H E hr tk po =>
  (ss_cons (s_if (t_cmp op_gtT (e_ix (e_var (i := 0) rfl (.inl rfl)) e_int (fun _ _ => rfl)) e_int (nobehind _ (by decide) (by decide))) (ss_cons (s_set (i := 2) sc_l_take.nd rfl (.inl rfl) (e_op op_modT (e_ix (e_var (i := 0) rfl (.inl rfl)) e_int (fun _ _ => rfl)) (e_var (i := 1) rfl (.inl rfl))))
  (ss_cons (s_setL (e_op op_fdivT (e_ix (e_var (i := 0) rfl (.inl rfl)) e_int (fun _ _ => rfl)) (e_var (i := 1) rfl (.inl rfl))) (e_var (i := 0) rfl (.inl rfl)) e_int)
  (ss_one (s_ret (e_var (i := 2) rfl (.inl rfl)))))) ss_nil)
  (ss_cons (s_setL (e_op op_addT (e_ix (e_var (i := 0) rfl (.inl rfl)) e_int (fun _ _ => rfl)) e_int) (e_var (i := 0) rfl (.inl rfl)) e_int)
  (ss_cons (s_set (i := 3) sc_l_take.nd rfl (.inl rfl) (e_op op_modT (e_op op_mulT (e_op op_addT (e_op op_addT (e_ix (e_var (i := 0) rfl (.inl rfl)) e_int (fun _ _ => rfl)) (e_op op_mulT e_int (e_ix (e_var (i := 0) rfl (.inl rfl)) e_int (fun _ _ => rfl)))) e_int) e_int) e_int))
  (ss_cons (s_set (i := 3) sc_l_take.nd rfl (.inl rfl) (e_op op_modT (e_op op_mulT (e_var (i := 3) rfl (.inl rfl)) (e_op op_addT (e_op op_fdivT (e_var (i := 3) rfl (.inl rfl)) e_int) e_int)) e_int))
  (ss_one (s_ret (e_op op_modT (e_op op_fdivT (e_op op_modT (e_op op_mulT (e_var (i := 3) rfl (.inl rfl)) (e_op op_addT (e_op op_fdivT (e_var (i := 3) rfl (.inl rfl)) e_int) e_int)) e_int) e_int) (e_var (i := 1) rfl (.inl rfl)))))))))
theorem sc_l_one : FnScope ["_law_source_here", "_law_some"] ["_law_source_here", "_law_some"] (defScope s_l_one) := ⟨rfl, rfl, rfl, by decide +kernel, rfl, by decide +kernel, by decide +kernel⟩
theorem ok_l_one (T : Tx K mg) : FnOk P w K mg base (L2.CX P w) 2 T.a_l_one T.d_l_one ["_law_source_here", "_law_some"] (spF ⟨K, mg, none⟩ 2 F_l_one) := fn_okT T.f_l_one sc_l_one fun cdv A outer s H E hr tk po =>
  (ss_one (s_ret (e_ix (e_var (i := 1) rfl (.inl rfl)) (e_call tk (ok_l_take (P := P) (w := w) (base := base) T) (hr.mono (by decide)) rfl T.g_l_take T.f_l_take.kp T.b_l_take (a_cons (e_var (i := 0) rfl (.inl rfl)) (a_cons (e_callB cr_len rfl T.z_len bb_len (a_cons (e_var (i := 1) rfl (.inl rfl)) a_nil)) a_nil))) (fun _ _ => rfl))))
theorem sc_l_mixed : FnScope ["_law_source_here", "_law_some", "_law_left", "_law_found"] ["_law_source_here", "_law_some"] (defScope s_l_mixed) := ⟨rfl, rfl, rfl, by decide +kernel, rfl, by decide +kernel, by decide +kernel⟩
theorem ok_l_mixed (T : Tx K mg) : FnOk P w K mg base (L2.CX P w) 2 T.a_l_mixed T.d_l_mixed ["_law_source_here", "_law_some"] (spF ⟨K, mg, none⟩ 2 F_l_mixed) := fn_okT T.f_l_mixed sc_l_mixed fun cdv A outer s H E hr tk po =>
  (ss_cons (s_set (i := 2) sc_l_mixed.nd rfl (.inl rfl) (e_cl (e_list rfl T.z_list (a_cons (e_var (i := 1) rfl (.inl rfl)) a_nil))))
  (ss_cons (s_set (i := 3) sc_l_mixed.nd rfl (.inl rfl) (e_cl (e_lst a_nil)))
  (ss_cons (s_while 10000 po (t_cmp (op_neT (u64 hr)) (e_var (i := 2) rfl (.inl rfl)) (e_fz (e_lst a_nil)) (nobehind _ (by decide) (by decide))) (ss_one (s_expr (e_mtL PySem.F.slot_list_append PySem.F.type_list_append mt_appendT (e_var (i := 3) rfl (.inl rfl)) (a_cons (e_mtL PySem.F.slot_list_pop PySem.F.type_list_pop mt_popAtT (e_var (i := 2) rfl (.inl rfl)) (a_cons (e_call tk (ok_l_take (P := P) (w := w) (base := base) T) (hr.mono (by decide)) rfl T.g_l_take T.f_l_take.kp T.b_l_take (a_cons (e_var (i := 0) rfl (.inl rfl)) (a_cons (e_callB cr_len rfl T.z_len bb_len (a_cons (e_var (i := 2) rfl (.inl rfl)) a_nil)) a_nil))) a_nil)) a_nil)))))
  (ss_one (s_ret (e_var (i := 3) rfl (.inl rfl)))))))
theorem sc_l_letters : FnScope ["_law_source_here", "_law_first", "_law_k"] ["_law_source_here"] (defScope s_l_letters) := ⟨rfl, rfl, rfl, by decide +kernel, rfl, by decide +kernel, by decide +kernel⟩
theorem ok_l_letters (T : Tx K mg) : FnOk P w K mg base (L2.CX P w) 2 T.a_l_letters T.d_l_letters ["_law_source_here"] (spF ⟨K, mg, none⟩ 1 F_l_letters) := fn_okT T.f_l_letters sc_l_letters fun cdv A outer s H E hr tk po =>
  (ss_cons (s_set (i := 1) sc_l_letters.nd rfl (.inr rfl) (e_call tk (ok_l_take (P := P) (w := w) (base := base) T) (hr.mono (by decide)) rfl T.g_l_take T.f_l_take.kp T.b_l_take (a_cons (e_var (i := 0) rfl (.inl rfl)) (a_cons e_int a_nil))))
  (ss_one (s_ret (e_fz (e_comp [2] rfl sc_l_letters.nd (i_small (i_range1 rfl T.z_range (a_cons e_int a_nil))) (blkOk_by (N := ["_law_source_here", "_law_first", "_law_k"]) (sc := defScope s_l_letters) (own := [("_law_k", 2)]) (by decide +kernel)) (fun _ _ _ _ _ => (g_name (i := 2) sc_l_letters.nd rfl (.inl rfl))) (fun _ _ _ _ _ => ts_nil) (fun _ _ _ _ _ => (e_ix e_str (e_op op_modT (e_op op_addT (e_var (i := 1) rfl (by first | exact .inl rfl | exact .inr (.inl rfl) | exact .inr (.inr rfl))) (e_op op_mulT e_int (e_var (i := 2) rfl (.inl rfl)))) e_int) (fun _ _ => rfl))) rfl (by decide))))))
theorem sc_l_told : FnScope ["_law_source_here", "_law_letters_here", "_law_found", "_law_k", "_law_one_here", "_law_other"] ["_law_source_here", "_law_letters_here"] (defScope s_l_told) := ⟨rfl, rfl, rfl, by decide +kernel, rfl, by decide +kernel, by decide +kernel⟩
theorem ok_l_told (T : Tx K mg) : FnOk P w K mg base (L2.CX P w) 3 T.a_l_told T.d_l_told ["_law_source_here", "_law_letters_here"] (spF ⟨K, mg, none⟩ 2 F_l_told) := fn_okT T.f_l_told sc_l_told fun cdv A outer s H E hr tk po =>
  (ss_cons (s_set (i := 2) sc_l_told.nd rfl (.inl rfl) (e_cl (e_lst a_nil)))
  (ss_cons (s_for po rfl (PI.z (i_enum rfl T.z_enumerate (a_cons (e_fz (e_sorted rfl T.z_sorted (a_cons (e_var (i := 1) rfl (.inl rfl)) a_nil))) a_nil))) (g_tup rfl (gs_cons (g_name (i := 3) sc_l_told.nd rfl (.inl rfl)) (gs_cons (g_name (i := 4) sc_l_told.nd rfl (.inl rfl)) gs_nil)) (gl_cons (gl_cons gl_nil))) (ss_one (s_for po rfl (PI.z (i_list (e_slice (e_fz (e_sorted rfl T.z_sorted (a_cons (e_var (i := 1) rfl (.inl rfl)) a_nil))) (o_some (e_var (i := 3) rfl (.inl rfl))) o_none))) (g_name (i := 5) sc_l_told.nd rfl (.inl rfl)) (ss_one (s_if (t_cmp op_gtT (e_call tk (ok_l_take (P := P) (w := w) (base := base) T) (hr.mono (by decide)) rfl T.g_l_take T.f_l_take.kp T.b_l_take (a_cons (e_var (i := 0) rfl (.inl rfl)) (a_cons e_int a_nil))) e_int (nobehind _ (by decide) (by decide))) (ss_one (s_expr (e_mtL PySem.F.slot_list_append PySem.F.type_list_append mt_appendT (e_var (i := 2) rfl (.inl rfl)) (a_cons (e_tup (a_cons (e_var (i := 4) rfl (.inl rfl)) (a_cons (e_var (i := 5) rfl (.inl rfl)) (a_cons (e_call tk (ok_l_one (P := P) (w := w) (base := base) T) (hr.mono (by decide)) rfl T.g_l_one T.f_l_one.kp T.b_l_one (a_cons (e_var (i := 0) rfl (.inl rfl)) (a_cons (e_fz (e_lst (a_cons e_int (a_cons e_int (a_cons e_int (a_cons e_int (a_cons e_int (a_cons e_int a_nil)))))))) a_nil))) a_nil)))) a_nil)))) ss_nil)))))
  (ss_one (s_ret (e_call tk (ok_l_mixed (P := P) (w := w) (base := base) T) (hr.mono (by decide)) rfl T.g_l_mixed T.f_l_mixed.kp T.b_l_mixed (a_cons (e_var (i := 0) rfl (.inl rfl)) (a_cons (e_var (i := 2) rfl (.inl rfl)) a_nil)))))))
theorem sc_l_is_mark : FnScope ["_law_thing"] ["_law_thing"] (defScope s_l_is_mark) := ⟨rfl, rfl, rfl, by decide +kernel, rfl, by decide +kernel, by decide +kernel⟩
theorem ok_l_is_mark (T : Tx K mg) : FnOk P w K mg base (L2.CX P w) 1 T.a_l_is_mark T.d_l_is_mark ["_law_thing"] (spF ⟨K, mg, none⟩ 1 F_l_is_mark) := fn_okT T.f_l_is_mark sc_l_is_mark fun cdv A outer s H E hr tk po =>
  (ss_one (s_ret (e_and (e_isi (ty := "str") rfl T.z_isinstance rfl T.z_str bb_str (e_var (i := 0) rfl (.inl rfl))) (e_and (e_cmp (op_neT (u64 hr)) (e_var (i := 0) rfl (.inl rfl)) e_str (nobehind _ (by decide) (by decide))) (e_one (e_cmp (op_inA (u65 hr)) (e_var (i := 0) rfl (.inl rfl)) (e_fz (e_listS rfl rfl T.z_list (a_cons e_str a_nil))) rfl))))))
theorem sc_l_is_pull : FnScope ["_law_thing", "_law_ahead", "_law_one_here"] ["_law_thing", "_law_ahead"] (defScope s_l_is_pull) := ⟨rfl, rfl, rfl, by decide +kernel, rfl, by decide +kernel, by decide +kernel⟩
theorem ok_l_is_pull (T : Tx K mg) : FnOk P w K mg base (L2.CX P w) 2 T.a_l_is_pull T.d_l_is_pull ["_law_thing", "_law_ahead"] (spF ⟨K, mg, none⟩ 2 F_l_is_pull) := fn_okT T.f_l_is_pull sc_l_is_pull fun cdv A outer s H E hr tk po =>
  (ss_cons (s_if (PW.pt (w_or (t_not (t_val (e_isi (ty := "tuple") rfl T.z_isinstance rfl T.z_tuple bb_tuple (e_var (i := 0) rfl (.inr (.inl rfl)))))) (w_or (t_cmp (op_neT (u64 hr)) (e_callB cr_len rfl T.z_len bb_len (a_cons (e_var (i := 0) rfl (.inr (.inl rfl))) a_nil)) e_int (nobehind _ (by decide) (by decide))) (w_or (t_not (t_val (e_call tk (ok_l_is_mark (P := P) (w := w) (base := base) T) (hr.mono (by decide)) rfl T.g_l_is_mark T.f_l_is_mark.kp T.b_l_is_mark (a_cons (e_ix (e_var (i := 0) rfl (.inr (.inl rfl))) e_int (fun _ _ => rfl)) a_nil)))) (w_or1 (t_not (t_val (e_call tk (ok_l_is_mark (P := P) (w := w) (base := base) T) (hr.mono (by decide)) rfl T.g_l_is_mark T.f_l_is_mark.kp T.b_l_is_mark (a_cons (e_ix (e_var (i := 0) rfl (.inr (.inl rfl))) e_int (fun _ _ => rfl)) a_nil))))))))) (ss_one (s_ret e_bl)) ss_nil)
  (ss_cons (s_if (PW.pt (w_or (t_cmp op_gtT (e_ix (e_var (i := 0) rfl (.inr (.inl rfl))) e_int (fun _ _ => rfl)) (e_ix (e_var (i := 0) rfl (.inr (.inl rfl))) e_int (fun _ _ => rfl)) (nobehind _ (by decide) (by decide))) (w_or (t_not (t_val (e_isi (ty := "int") rfl T.z_isinstance rfl T.z_int bb_int (e_ix (e_var (i := 0) rfl (.inr (.inl rfl))) e_int (fun _ _ => rfl))))) (w_or (t_val (e_isi (ty := "bool") rfl T.z_isinstance rfl T.z_bool bb_bool (e_ix (e_var (i := 0) rfl (.inr (.inl rfl))) e_int (fun _ _ => rfl)))) (w_or1 (t_not (t_chain op_leT op_leT e_int (e_ix (e_var (i := 0) rfl (.inr (.inl rfl))) e_int (fun _ _ => rfl)) e_int))))))) (ss_one (s_ret e_bl)) ss_nil)
  (ss_one (s_ret (e_cmp (op_eqT (u64 hr)) (e_fz (e_comp [2] rfl sc_l_is_pull.nd (i_list (e_var (i := 1) rfl (.inl rfl))) (blkOk_by (N := ["_law_thing", "_law_ahead", "_law_one_here"]) (sc := defScope s_l_is_pull) (own := [("_law_one_here", 2)]) (by decide +kernel)) (fun _ _ _ _ _ => (g_name (i := 2) sc_l_is_pull.nd rfl (.inl rfl))) (fun _ _ _ _ _ => (ts_one (t_cmp (op_eqT (u64 hr)) (e_slice (e_var (i := 2) rfl (.inl rfl)) o_none (o_some e_int)) (e_slice (e_var (i := 0) rfl (by first | exact .inl rfl | exact .inr (.inl rfl) | exact .inr (.inr rfl))) o_none (o_some e_int)) (nobehind _ (by decide) (by decide))))) (fun _ _ _ _ _ => (e_var (i := 2) rfl (.inl rfl))) rfl (by decide))) (e_fz (e_lst a_nil)) (nobehind _ (by decide) (by decide)))))))
theorem sc_l_due : FnScope ["_law_told_here", "_law_at"] ["_law_told_here"] (defScope s_l_due) := ⟨rfl, rfl, rfl, by decide +kernel, rfl, by decide +kernel, by decide +kernel⟩
theorem ok_l_due (T : Tx K mg) : FnOk P w K mg base (L2.CX P w) 3 T.a_l_due T.d_l_due ["_law_told_here"] (spF ⟨K, mg, none⟩ 1 F_l_due) := fn_okT T.f_l_due sc_l_due fun cdv A outer s H E hr tk po =>
  (ss_cons (s_for po rfl (i_range1 rfl T.z_range (a_cons (e_callB cr_len rfl T.z_len bb_len (a_cons (e_var (i := 0) rfl (.inl rfl)) a_nil)) a_nil)) (g_name (i := 1) sc_l_due.nd rfl (.inl rfl)) (ss_one (s_if (t_not (t_val (e_call tk (ok_l_is_pull (P := P) (w := w) (base := base) T) (hr.mono (by decide)) rfl T.g_l_is_pull T.f_l_is_pull.kp T.b_l_is_pull (a_cons (e_ix (e_var (i := 0) rfl (.inl rfl)) (e_var (i := 1) rfl (.inl rfl)) (fun _ _ => rfl)) (a_cons (e_slice (e_var (i := 0) rfl (.inl rfl)) o_none (o_some (e_var (i := 1) rfl (.inl rfl)))) a_nil))))) (ss_one (s_ret (e_var (i := 1) rfl (.inl rfl)))) ss_nil)))
  (ss_one (s_ret e_non)))
theorem sc_l_spoilt : FnScope ["_law_source_here", "_law_told_here", "_law_at", "_law_row", "_law_one_here", "_law_other", "_law_pull", "_law_mark", "_law_odd"] ["_law_source_here", "_law_told_here"] (defScope s_l_spoilt) := ⟨rfl, rfl, rfl, by decide +kernel, rfl, by decide +kernel, by decide +kernel⟩
theorem ok_l_spoilt (T : Tx K mg) : FnOk P w K mg base (L2.CX P w) 3 T.a_l_spoilt T.d_l_spoilt ["_law_source_here", "_law_told_here"] (spF ⟨K, mg, none⟩ 2 F_l_spoilt) := fn_okT T.f_l_spoilt sc_l_spoilt fun cdv A outer s H E hr tk po =>
  (ss_cons (s_set (i := 2) sc_l_spoilt.nd rfl (.inl rfl) (e_call tk (ok_l_take (P := P) (w := w) (base := base) T) (hr.mono (by decide)) rfl T.g_l_take T.f_l_take.kp T.b_l_take (a_cons (e_var (i := 0) rfl (.inl rfl)) (a_cons (e_op op_addT (e_callB cr_len rfl T.z_len bb_len (a_cons (e_var (i := 1) rfl (.inl rfl)) a_nil)) e_int) a_nil))))
  (ss_cons (s_set (i := 3) sc_l_spoilt.nd rfl (.inl rfl) (e_ix (e_op op_addT (e_var (i := 1) rfl (.inl rfl)) (e_fz (e_lst (a_cons (e_tup (a_cons e_str (a_cons e_str (a_cons e_int a_nil)))) a_nil)))) (e_var (i := 2) rfl (.inl rfl)) (fun _ _ => rfl)))
  (ss_cons (s_asg (e_ifExp (t_val (e_call tk (ok_l_is_pull (P := P) (w := w) (base := base) T) (hr.mono (by decide)) rfl T.g_l_is_pull T.f_l_is_pull.kp T.b_l_is_pull (a_cons (e_var (i := 3) rfl (.inl rfl)) (a_cons (e_fz (e_lst a_nil)) a_nil)))) (e_var (i := 3) rfl (.inl rfl)) (e_tup (a_cons e_str (a_cons e_str (a_cons e_int a_nil))))) (g_tup rfl (gs_cons (g_name (i := 4) sc_l_spoilt.nd rfl (.inl rfl)) (gs_cons (g_name (i := 5) sc_l_spoilt.nd rfl (.inl rfl)) (gs_cons (g_name (i := 6) sc_l_spoilt.nd rfl (.inl rfl)) gs_nil))) (gl_cons (gl_cons (gl_cons gl_nil)))))
  (ss_cons (s_set (i := 7) sc_l_spoilt.nd rfl (.inl rfl) (e_call tk (ok_l_one (P := P) (w := w) (base := base) T) (hr.mono (by decide)) rfl T.g_l_one T.f_l_one.kp T.b_l_one (a_cons (e_var (i := 0) rfl (.inl rfl)) (a_cons (e_fz (e_lst (a_cons e_str (a_cons e_str (a_cons e_str (a_cons e_non (a_cons e_int (a_cons e_str (a_cons (e_tup (a_cons e_str a_nil)) a_nil))))))))) a_nil))))
  (ss_cons (s_set (i := 8) sc_l_spoilt.nd rfl (.inl rfl) (e_fz (e_lst (a_cons (e_fz (e_lst (a_cons (e_var (i := 4) rfl (.inl rfl)) (a_cons (e_var (i := 5) rfl (.inl rfl)) (a_cons (e_var (i := 6) rfl (.inl rfl)) a_nil))))) (a_cons (e_tup (a_cons (e_var (i := 4) rfl (.inl rfl)) (a_cons (e_var (i := 5) rfl (.inl rfl)) a_nil))) (a_cons (e_tup (a_cons (e_var (i := 4) rfl (.inl rfl)) (a_cons (e_var (i := 5) rfl (.inl rfl)) (a_cons (e_var (i := 6) rfl (.inl rfl)) (a_cons e_int a_nil))))) (a_cons e_non (a_cons (e_op op_catS (e_var (i := 4) rfl (.inl rfl)) (e_var (i := 5) rfl (.inl rfl))) (a_cons (e_tup (a_cons (e_var (i := 7) rfl (.inl rfl)) (a_cons (e_var (i := 5) rfl (.inl rfl)) (a_cons (e_var (i := 6) rfl (.inl rfl)) a_nil)))) a_nil)))))))))
  (ss_cons (s_set (i := 8) sc_l_spoilt.nd rfl (.inl rfl) (e_op op_addT (e_var (i := 8) rfl (.inl rfl)) (e_fz (e_lst (a_cons (e_tup (a_cons (e_var (i := 4) rfl (.inl rfl)) (a_cons (e_var (i := 7) rfl (.inl rfl)) (a_cons (e_var (i := 6) rfl (.inl rfl)) a_nil)))) (a_cons (e_tup (a_cons (e_callB (cr_max2 rfl (u64 hr)) rfl T.z_max bb_max (a_cons (e_var (i := 4) rfl (.inl rfl)) (a_cons (e_var (i := 5) rfl (.inl rfl)) a_nil))) (a_cons (e_callB (cr_min2 rfl (u64 hr)) rfl T.z_min bb_min (a_cons (e_var (i := 4) rfl (.inl rfl)) (a_cons (e_var (i := 5) rfl (.inl rfl)) a_nil))) (a_cons (e_var (i := 6) rfl (.inl rfl)) a_nil)))) (a_cons (e_tup (a_cons (e_var (i := 4) rfl (.inl rfl)) (a_cons (e_var (i := 5) rfl (.inl rfl)) (a_cons (e_un un_negT e_int) a_nil)))) (a_cons (e_tup (a_cons (e_var (i := 4) rfl (.inl rfl)) (a_cons (e_var (i := 5) rfl (.inl rfl)) (a_cons e_int a_nil)))) a_nil))))))))
  (ss_cons (s_set (i := 8) sc_l_spoilt.nd rfl (.inl rfl) (e_op op_addT (e_var (i := 8) rfl (.inl rfl)) (e_fz (e_lst (a_cons (e_tup (a_cons (e_var (i := 4) rfl (.inl rfl)) (a_cons (e_var (i := 5) rfl (.inl rfl)) (a_cons e_bl a_nil)))) (a_cons (e_tup (a_cons (e_var (i := 4) rfl (.inl rfl)) (a_cons (e_var (i := 5) rfl (.inl rfl)) (a_cons e_non a_nil)))) (a_cons (e_tup (a_cons (e_var (i := 4) rfl (.inl rfl)) (a_cons (e_var (i := 5) rfl (.inl rfl)) (a_cons (e_callTy cr_strI rfl T.z_str bb_str (a_cons (e_var (i := 6) rfl (.inl rfl)) a_nil)) a_nil)))) (a_cons (e_tup (a_cons (e_var (i := 4) rfl (.inl rfl)) (a_cons (e_var (i := 5) rfl (.inl rfl)) (a_cons (e_op op_subT e_int (e_var (i := 6) rfl (.inl rfl))) a_nil)))) a_nil))))))))
  (ss_cons (s_set (i := 8) sc_l_spoilt.nd rfl (.inl rfl) (e_op op_addT (e_var (i := 8) rfl (.inl rfl)) (e_fz (e_lst (a_cons (e_ix (e_op op_addT (e_var (i := 1) rfl (.inl rfl)) (e_fz (e_lst (a_cons (e_tup (a_cons e_str (a_cons e_str (a_cons e_int a_nil)))) a_nil)))) e_int (fun _ _ => rfl)) (a_cons (e_tup (a_cons (e_var (i := 4) rfl (.inl rfl)) (a_cons (e_var (i := 5) rfl (.inl rfl)) (a_cons (e_op op_powT e_int e_int) a_nil)))) a_nil))))))
  (ss_one (s_ret (e_op op_addT (e_op op_addT (e_slice (e_var (i := 1) rfl (.inl rfl)) o_none (o_some (e_var (i := 2) rfl (.inl rfl)))) (e_fz (e_lst (a_cons (e_call tk (ok_l_one (P := P) (w := w) (base := base) T) (hr.mono (by decide)) rfl T.g_l_one T.f_l_one.kp T.b_l_one (a_cons (e_var (i := 0) rfl (.inl rfl)) (a_cons (e_var (i := 8) rfl (.inl rfl)) a_nil))) a_nil)))) (e_slice (e_var (i := 1) rfl (.inl rfl)) (o_some (e_op op_addT (e_var (i := 2) rfl (.inl rfl)) (e_call tk (ok_l_take (P := P) (w := w) (base := base) T) (hr.mono (by decide)) rfl T.g_l_take T.f_l_take.kp T.b_l_take (a_cons (e_var (i := 0) rfl (.inl rfl)) (a_cons e_int a_nil))))) o_none))))))))))))
theorem sc_l_refused : FnScope ["_law_thing", "_law_found", "e"] ["_law_thing"] (defScope s_l_refused) := ⟨rfl, rfl, rfl, by decide +kernel, rfl, by decide +kernel, by decide +kernel⟩
theorem ok_l_refused (T : Tx K mg) : FnOk P w K mg base (L2.CX P w) 5 T.a_l_refused T.d_l_refused ["_law_thing"] (spF ⟨K, mg, none⟩ 1 F_l_refused) := fn_okT T.f_l_refused sc_l_refused fun cdv A outer s H E hr tk po =>
  (ss_cons (s_set (i := 1) sc_l_refused.nd rfl (.inl rfl) e_non)
  (ss_cons (s_tryAs rfl rfl rfl sc_l_refused.nd rfl rfl ⟨rfl, by decide, .inl T.g_ClingError⟩ T.xm_ClingError tk (fun _ _ _ tk po => (ss_one (s_expr (e_fz (e_make tk T.mk_Pulls (ok_Pullsd_initd (P := P) (w := w) (base := base) T) (hr.mono (by decide)) rfl T.g_Pulls T.b_Pullsd_initd (a_cons (e_var (i := 0) rfl (.inl rfl)) a_nil)))))) (fun _ _ _ => (ss_cons (s_set (i := 1) sc_l_refused.nd rfl (.inl rfl) e_str)
  (ss_one (s_if (PW.pt (w_and (t_val (e_isX rfl T.z_isinstance (pe_glob (v := .ref T.C_NoPulls) rfl T.g_NoPulls rfl) (.own _) T.xo_NoPulls (e_var (i := 2) rfl (.inl rfl)))) (w_and (t_val (e_isX rfl T.z_isinstance (pe_bltn (v := .ty "ValueError") rfl T.z_ValueError bb_ValueError rfl) (.ty _) T.xo_ValueError (e_var (i := 2) rfl (.inl rfl)))) (w_and1 (t_not (t_val (e_isXT rfl T.z_isinstance (pa_cons (pe_glob (v := .ref T.C_NoBlock) rfl T.g_NoBlock rfl) (pa_cons (pe_glob (v := .ref T.C_NoPiece) rfl T.g_NoPiece rfl) (pa_cons (pe_glob (v := .ref T.C_NoStand) rfl T.g_NoStand rfl) pa_nil))) (fun _ _ _ h => h) (.cons (.own _) (.cons (.own _) (.cons (.own _) .nil))) (by simp) (xokT_cons T.xo_NoBlock (xokT_cons T.xo_NoPiece (xokT_cons T.xo_NoStand (xokT_nil T.xb)))) (e_var (i := 2) rfl (.inl rfl))))))))) (ss_one (s_set (i := 1) sc_l_refused.nd rfl (.inl rfl) (e_fX T.xf_at (e_var (i := 2) rfl (.inl rfl))))) ss_nil)))))
  (ss_one (s_ret (e_var (i := 1) rfl (.inl rfl))))))
theorem sc_law : FnScope ["_law_script", "_law_cell", "_law_source_here", "_law_told_here", "_law_k", "_law_kept", "_law_turn", "_law_found", "_law_odd"] ["_law_script"] (defScope s_law) := ⟨rfl, rfl, rfl, by decide +kernel, rfl, by decide +kernel, by decide +kernel⟩
theorem ok_law (T : Tx K mg) : FnG P w K mg base 6 T.a_law T.d_law ["_law_script"] (spF ⟨K, mg, none⟩ 1 F_law) := fnG_okT T.f_law sc_law fun cdv A outer s H E hg hr tk po =>
  (ss_cons (s_for po rfl (PI.z (i_list (e_op op_addT (e_fz (e_lst (a_cons (e_call tk (ok_l_cell_at (P := P) (w := w) (base := base) T) (hr.mono (by decide)) rfl T.g_l_cell_at T.f_l_cell_at.kp T.b_l_cell_at (a_cons (e_var (i := 0) rfl (.inl rfl)) (a_cons e_int a_nil))) a_nil))) (e_slice (e_var (i := 0) rfl (.inl rfl)) (o_some e_int) (o_some e_int))))) (g_name (i := 1) sc_law.nd rfl (.inl rfl)) (ss_cons (s_set (i := 2) sc_law.nd rfl (.inl rfl) (e_callC tk (ok_l_source (P := P) (w := w) (base := base) T) (hr.mono (by decide)) rfl T.g_l_source T.f_l_source.kp T.b_l_source (a_cons (e_var (i := 1) rfl (.inl rfl)) a_nil)))
  (ss_cons (s_set (i := 3) sc_law.nd rfl (.inl rfl) (e_call tk (ok_l_told (P := P) (w := w) (base := base) T) (hr.mono (by decide)) rfl T.g_l_told T.f_l_told.kp T.b_l_told (a_cons (e_var (i := 2) rfl (.inl rfl)) (a_cons (e_slice (e_call tk (ok_l_letters (P := P) (w := w) (base := base) T) (hr.mono (by decide)) rfl T.g_l_letters T.f_l_letters.kp T.b_l_letters (a_cons (e_var (i := 2) rfl (.inl rfl)) a_nil)) o_none (o_some (e_op op_addT e_int (e_call tk (ok_l_take (P := P) (w := w) (base := base) T) (hr.mono (by decide)) rfl T.g_l_take T.f_l_take.kp T.b_l_take (a_cons (e_var (i := 2) rfl (.inl rfl)) (a_cons e_int a_nil)))))) a_nil))))
  (ss_cons (s_for po rfl (i_range1 rfl T.z_range (a_cons (e_op op_addT e_int (e_call tk (ok_l_take (P := P) (w := w) (base := base) T) (hr.mono (by decide)) rfl T.g_l_take T.f_l_take.kp T.b_l_take (a_cons (e_var (i := 2) rfl (.inl rfl)) (a_cons e_int a_nil)))) a_nil)) (g_name (i := 4) sc_law.nd rfl (.inl rfl)) (ss_one (s_set (i := 3) sc_law.nd rfl (.inl rfl) (e_call tk (ok_l_spoilt (P := P) (w := w) (base := base) T) (hr.mono (by decide)) rfl T.g_l_spoilt T.f_l_spoilt.kp T.b_l_spoilt (a_cons (e_var (i := 2) rfl (.inl rfl)) (a_cons (e_var (i := 3) rfl (.inl rfl)) a_nil))))))
  (ss_cons (s_set (i := 5) sc_law.nd rfl (.inl rfl) (e_callB (cr_repr hg (u64 hr)) rfl T.z_repr bb_repr (a_cons (e_var (i := 3) rfl (.inl rfl)) a_nil)))
  (ss_cons (s_for po rfl (i_range1 rfl T.z_range (a_cons e_int a_nil)) (g_name (i := 6) sc_law.nd rfl (.inl rfl)) (ss_cons (s_set (i := 7) sc_law.nd rfl (.inl rfl) (e_call tk (ok_l_refused (P := P) (w := w) (base := base) T) (hr.mono (by decide)) rfl T.g_l_refused T.f_l_refused.kp T.b_l_refused (a_cons (e_var (i := 3) rfl (.inl rfl)) a_nil)))
  (ss_one (s_if (PW.pt (w_or (t_cmp (op_neT (u64 hr)) (e_var (i := 7) rfl (.inl rfl)) (e_call tk (ok_l_due (P := P) (w := w) (base := base) T) (hr.mono (by decide)) rfl T.g_l_due T.f_l_due.kp T.b_l_due (a_cons (e_var (i := 3) rfl (.inl rfl)) a_nil)) (nobehind _ (by decide) (by decide))) (w_or (t_val (e_isi (ty := "bool") rfl T.z_isinstance rfl T.z_bool bb_bool (e_var (i := 7) rfl (.inl rfl)))) (w_or1 (t_cmp op_neS (e_callB (cr_repr hg (u64 hr)) rfl T.z_repr bb_repr (a_cons (e_var (i := 3) rfl (.inl rfl)) a_nil)) (e_var (i := 5) rfl (.inl rfl)) (nobehind _ (by decide) (by decide))))))) (ss_one (s_ret e_bl)) ss_nil))))
  (ss_cons (s_set (i := 8) sc_law.nd rfl (.inl rfl) (e_call tk (ok_l_one (P := P) (w := w) (base := base) T) (hr.mono (by decide)) rfl T.g_l_one T.f_l_one.kp T.b_l_one (a_cons (e_var (i := 2) rfl (.inl rfl)) (a_cons (e_fz (e_lst (a_cons e_non (a_cons e_int (a_cons (e_tup a_nil) (a_cons (e_callTy cr_tuple rfl T.z_tuple bb_tuple (a_cons (e_var (i := 3) rfl (.inl rfl)) a_nil)) (a_cons (e_fz e_dnewK) (a_cons e_str (a_cons e_bl a_nil))))))))) a_nil))))
  (ss_one (s_if (t_cmp (op_neT (u64 hr)) (e_call tk (ok_l_refused (P := P) (w := w) (base := base) T) (hr.mono (by decide)) rfl T.g_l_refused T.f_l_refused.kp T.b_l_refused (a_cons (e_var (i := 8) rfl (.inl rfl)) a_nil)) (e_un un_negT e_int) (nobehind _ (by decide) (by decide))) (ss_one (s_ret e_bl)) ss_nil)))))))))
  (ss_one (s_ret e_bl)))
end
end G

set_option maxHeartbeats 8000000
namespace G
open PySem PySem.Spec PyProof.Rows L2
theorem all_mk {l : PySem.W.OpenLaw} {w : World} {K : PySem.W.Frag} {h : Heap} {mg : Str → Option Value} {fa C_Pulls f_is_whole f_is_mark f_is_told_pull f_Pullsd_initd f_Pulls_pull f_Pulls_told f_Pullsd_eqd f_l_cell_at f_l_source f_l_take f_l_one f_l_mixed f_l_letters f_l_told f_l_is_mark f_l_is_pull f_l_due f_l_spoilt f_l_refused f_law : Addr} (X : K.In h) (G : h.Ns mainGlobals mg) (hfa : mg "law" = some (.ref fa))
    {od_is_whole an_is_whole od_is_mark an_is_mark od_is_told_pull an_is_told_pull od_Pullsd_initd an_Pullsd_initd od_Pulls_pull an_Pulls_pull od_Pulls_told an_Pulls_told od_Pullsd_eqd an_Pullsd_eqd od_l_cell_at an_l_cell_at od_l_source an_l_source od_l_take an_l_take od_l_one an_l_one od_l_mixed an_l_mixed od_l_letters an_l_letters od_l_told an_l_told od_l_is_mark an_l_is_mark od_l_is_pull an_l_is_pull od_l_due an_l_due od_l_spoilt an_l_spoilt od_l_refused an_l_refused od_law an_law : Option Addr} {sl_is_whole sl_is_mark sl_is_told_pull sl_Pullsd_initd sl_Pulls_pull sl_Pulls_told sl_Pullsd_eqd sl_l_cell_at sl_l_source sl_l_take sl_l_one sl_l_mixed sl_l_letters sl_l_told sl_l_is_mark sl_l_is_pull sl_l_due sl_l_spoilt sl_l_refused sl_law : Array (Option Value)} {oc_is_whole kV_is_whole dc_is_whole pm_is_whole cd_is_whole ct_is_whole oc_is_mark kV_is_mark dc_is_mark pm_is_mark cd_is_mark ct_is_mark oc_is_told_pull kV_is_told_pull dc_is_told_pull pm_is_told_pull cd_is_told_pull ct_is_told_pull oc_Pullsd_initd kV_Pullsd_initd dc_Pullsd_initd pm_Pullsd_initd cd_Pullsd_initd ct_Pullsd_initd oc_Pulls_pull kV_Pulls_pull dc_Pulls_pull pm_Pulls_pull cd_Pulls_pull ct_Pulls_pull oc_Pulls_told kV_Pulls_told dc_Pulls_told pm_Pulls_told cd_Pulls_told ct_Pulls_told oc_Pullsd_eqd kV_Pullsd_eqd dc_Pullsd_eqd pm_Pullsd_eqd cd_Pullsd_eqd ct_Pullsd_eqd oc_l_cell_at kV_l_cell_at dc_l_cell_at pm_l_cell_at cd_l_cell_at ct_l_cell_at oc_l_source kV_l_source dc_l_source pm_l_source cd_l_source ct_l_source oc_l_take kV_l_take dc_l_take pm_l_take cd_l_take ct_l_take oc_l_one kV_l_one dc_l_one pm_l_one cd_l_one ct_l_one oc_l_mixed kV_l_mixed dc_l_mixed pm_l_mixed cd_l_mixed ct_l_mixed oc_l_letters kV_l_letters dc_l_letters pm_l_letters cd_l_letters ct_l_letters oc_l_told kV_l_told dc_l_told pm_l_told cd_l_told ct_l_told oc_l_is_mark kV_l_is_mark dc_l_is_mark pm_l_is_mark cd_l_is_mark ct_l_is_mark oc_l_is_pull kV_l_is_pull dc_l_is_pull pm_l_is_pull cd_l_is_pull ct_l_is_pull oc_l_due kV_l_due dc_l_due pm_l_due cd_l_due ct_l_due oc_l_spoilt kV_l_spoilt dc_l_spoilt pm_l_spoilt cd_l_spoilt ct_l_spoilt oc_l_refused kV_l_refused dc_l_refused pm_l_refused cd_l_refused ct_l_refused oc_law kV_law dc_law pm_law cd_law ct_law : Value} { tk_LETTERS tk_MOST_PULL : Tok} {C_ClingError : Addr} {C_NoPulls : Addr} {C_NoStand : Addr} {C_NoBlock : Addr} {C_NoPiece : Addr} {nm_NoPulls q_NoPulls : Str} {N_NoPulls : Addr} {bs_NoPulls : List Value} {sn_NoPulls : List Str} {sub_NoPulls : List Value} {ab_NoPulls : Bool} {col_NoPulls : Option Bool} {dd_NoPulls : Option Addr} {m0_NoPulls m1_NoPulls m2_NoPulls m3_NoPulls m5_NoPulls : Option Value} {f_NoPullsI : Addr} {od_NoPullsI an_NoPullsI : Option Addr} {sl_NoPullsI : Array (Option Value)} {oc_NoPullsI kV_NoPullsI dc_NoPullsI pm_NoPullsI cd_NoPullsI ct_NoPullsI : Value}
    (aC_Pulls : PySem.W.nsIn K mainGlobals "Pulls" = some (some (.ref C_Pulls)))
    (pg_Pulls : PySem.W.plainGet K C_Pulls Str.empty = true)
    (hd_Pulls : PySem.W.hasDictIn K C_Pulls = true)
    (po_Pulls : PySem.W.plainOver K C_Pulls = true)
    (sa_Pulls : PySem.W.findIn K (.ref C_Pulls) "__setattr__" = some (some (.builtin "object.__setattr__")))
    (ha_Pulls : PySem.W.findIn K (.ref C_Pulls) "__class__" = some (some (.builtin "object.__class__")))
    (hn_Pulls : PySem.W.specialIn K (.builtin "object.__class__") "__get__" = some (some (.builtin "getset_descriptor.__get__")))
    (ht_Pulls : PySem.W.takesIn K (.builtin "object.__class__") = some true)
    (hm_Pulls : PySem.W.mroIn K C_Pulls (.type "object") = some true)
    (ic_Pulls : PySem.W.isClsIn K C_Pulls = true)
    (tc_Pulls : PySem.W.typeIn K (.ref C_Pulls) = some (.type "type"))
    (n_Pulls_known : PySem.W.findIn K (.ref C_Pulls) "known" = some none)
    (mk_Pulls : PySem.W.makesIn K C_Pulls = true)
    (kc_Pulls : PySem.W.keepIn K (.ref C_Pulls) = true)
    (ne_Pulls : PySem.W.findIn K (.ref C_Pulls) "__ne__" = some (some (.builtin "object.__ne__")))
    (ob_Pulls : PySem.W.subIn K (.ref C_Pulls) (.type "object") = some true)
    (a_is_whole : PySem.W.nsIn K mainGlobals "is_whole" = some (some (.ref f_is_whole)))
    (l_is_whole : K.lookup f_is_whole = some ⟨oc_is_whole, od_is_whole, .func (PySem.W.fnOf "is_whole" "is_whole" (defArgs s_is_whole) (defBody s_is_whole) (defScope s_is_whole) .none kV_is_whole dc_is_whole pm_is_whole an_is_whole cd_is_whole ct_is_whole), sl_is_whole⟩)
    (c_is_whole : PySem.W.codeIn K cd_is_whole "is_whole" = true)
    (k_is_whole : PySem.W.keepIn K (.ref f_is_whole) = true)
    (a_is_mark : PySem.W.nsIn K mainGlobals "is_mark" = some (some (.ref f_is_mark)))
    (l_is_mark : K.lookup f_is_mark = some ⟨oc_is_mark, od_is_mark, .func (PySem.W.fnOf "is_mark" "is_mark" (defArgs s_is_mark) (defBody s_is_mark) (defScope s_is_mark) .none kV_is_mark dc_is_mark pm_is_mark an_is_mark cd_is_mark ct_is_mark), sl_is_mark⟩)
    (c_is_mark : PySem.W.codeIn K cd_is_mark "is_mark" = true)
    (k_is_mark : PySem.W.keepIn K (.ref f_is_mark) = true)
    (a_is_told_pull : PySem.W.nsIn K mainGlobals "is_told_pull" = some (some (.ref f_is_told_pull)))
    (l_is_told_pull : K.lookup f_is_told_pull = some ⟨oc_is_told_pull, od_is_told_pull, .func (PySem.W.fnOf "is_told_pull" "is_told_pull" (defArgs s_is_told_pull) (defBody s_is_told_pull) (defScope s_is_told_pull) .none kV_is_told_pull dc_is_told_pull pm_is_told_pull an_is_told_pull cd_is_told_pull ct_is_told_pull), sl_is_told_pull⟩)
    (c_is_told_pull : PySem.W.codeIn K cd_is_told_pull "is_told_pull" = true)
    (k_is_told_pull : PySem.W.keepIn K (.ref f_is_told_pull) = true)
    (a_Pullsd_initd : PySem.W.findIn K (.ref C_Pulls) "__init__" = some (some (.ref f_Pullsd_initd)))
    (i_Pullsd_initd : PySem.W.isFn K (.ref f_Pullsd_initd) = true)
    (l_Pullsd_initd : K.lookup f_Pullsd_initd = some ⟨oc_Pullsd_initd, od_Pullsd_initd, .func (PySem.W.fnOf "__init__" "Pulls.__init__" (defArgs s_Pullsd_initd) (defBody s_Pullsd_initd) (defScope s_Pullsd_initd) .none kV_Pullsd_initd dc_Pullsd_initd pm_Pullsd_initd an_Pullsd_initd cd_Pullsd_initd ct_Pullsd_initd), sl_Pullsd_initd⟩)
    (c_Pullsd_initd : PySem.W.codeIn K cd_Pullsd_initd "Pulls.__init__" = true)
    (k_Pullsd_initd : PySem.W.keepIn K (.ref f_Pullsd_initd) = true)
    (a_Pulls_pull : PySem.W.findIn K (.ref C_Pulls) "pull" = some (some (.ref f_Pulls_pull)))
    (i_Pulls_pull : PySem.W.isFn K (.ref f_Pulls_pull) = true)
    (l_Pulls_pull : K.lookup f_Pulls_pull = some ⟨oc_Pulls_pull, od_Pulls_pull, .func (PySem.W.fnOf "pull" "Pulls.pull" (defArgs s_Pulls_pull) (defBody s_Pulls_pull) (defScope s_Pulls_pull) .none kV_Pulls_pull dc_Pulls_pull pm_Pulls_pull an_Pulls_pull cd_Pulls_pull ct_Pulls_pull), sl_Pulls_pull⟩)
    (c_Pulls_pull : PySem.W.codeIn K cd_Pulls_pull "Pulls.pull" = true)
    (k_Pulls_pull : PySem.W.keepIn K (.ref f_Pulls_pull) = true)
    (a_Pulls_told : PySem.W.findIn K (.ref C_Pulls) "told" = some (some (.ref f_Pulls_told)))
    (i_Pulls_told : PySem.W.isFn K (.ref f_Pulls_told) = true)
    (l_Pulls_told : K.lookup f_Pulls_told = some ⟨oc_Pulls_told, od_Pulls_told, .func (PySem.W.fnOf "told" "Pulls.told" (defArgs s_Pulls_told) (defBody s_Pulls_told) (defScope s_Pulls_told) .none kV_Pulls_told dc_Pulls_told pm_Pulls_told an_Pulls_told cd_Pulls_told ct_Pulls_told), sl_Pulls_told⟩)
    (c_Pulls_told : PySem.W.codeIn K cd_Pulls_told "Pulls.told" = true)
    (k_Pulls_told : PySem.W.keepIn K (.ref f_Pulls_told) = true)
    (a_Pullsd_eqd : PySem.W.findIn K (.ref C_Pulls) "__eq__" = some (some (.ref f_Pullsd_eqd)))
    (i_Pullsd_eqd : PySem.W.isFn K (.ref f_Pullsd_eqd) = true)
    (l_Pullsd_eqd : K.lookup f_Pullsd_eqd = some ⟨oc_Pullsd_eqd, od_Pullsd_eqd, .func (PySem.W.fnOf "__eq__" "Pulls.__eq__" (defArgs s_Pullsd_eqd) (defBody s_Pullsd_eqd) (defScope s_Pullsd_eqd) .none kV_Pullsd_eqd dc_Pullsd_eqd pm_Pullsd_eqd an_Pullsd_eqd cd_Pullsd_eqd ct_Pullsd_eqd), sl_Pullsd_eqd⟩)
    (c_Pullsd_eqd : PySem.W.codeIn K cd_Pullsd_eqd "Pulls.__eq__" = true)
    (k_Pullsd_eqd : PySem.W.keepIn K (.ref f_Pullsd_eqd) = true)
    (a_l_cell_at : PySem.W.nsIn K mainGlobals "_law_cell_at" = some (some (.ref f_l_cell_at)))
    (l_l_cell_at : K.lookup f_l_cell_at = some ⟨oc_l_cell_at, od_l_cell_at, .func (PySem.W.fnOf "_law_cell_at" "_law_cell_at" (defArgs s_l_cell_at) (defBody s_l_cell_at) (defScope s_l_cell_at) .none kV_l_cell_at dc_l_cell_at pm_l_cell_at an_l_cell_at cd_l_cell_at ct_l_cell_at), sl_l_cell_at⟩)
    (c_l_cell_at : PySem.W.codeIn K cd_l_cell_at "_law_cell_at" = true)
    (k_l_cell_at : PySem.W.keepIn K (.ref f_l_cell_at) = true)
    (a_l_source : PySem.W.nsIn K mainGlobals "_law_source" = some (some (.ref f_l_source)))
    (l_l_source : K.lookup f_l_source = some ⟨oc_l_source, od_l_source, .func (PySem.W.fnOf "_law_source" "_law_source" (defArgs s_l_source) (defBody s_l_source) (defScope s_l_source) .none kV_l_source dc_l_source pm_l_source an_l_source cd_l_source ct_l_source), sl_l_source⟩)
    (c_l_source : PySem.W.codeIn K cd_l_source "_law_source" = true)
    (k_l_source : PySem.W.keepIn K (.ref f_l_source) = true)
    (a_l_take : PySem.W.nsIn K mainGlobals "_law_take" = some (some (.ref f_l_take)))
    (l_l_take : K.lookup f_l_take = some ⟨oc_l_take, od_l_take, .func (PySem.W.fnOf "_law_take" "_law_take" (defArgs s_l_take) (defBody s_l_take) (defScope s_l_take) .none kV_l_take dc_l_take pm_l_take an_l_take cd_l_take ct_l_take), sl_l_take⟩)
    (c_l_take : PySem.W.codeIn K cd_l_take "_law_take" = true)
    (k_l_take : PySem.W.keepIn K (.ref f_l_take) = true)
    (a_l_one : PySem.W.nsIn K mainGlobals "_law_one" = some (some (.ref f_l_one)))
    (l_l_one : K.lookup f_l_one = some ⟨oc_l_one, od_l_one, .func (PySem.W.fnOf "_law_one" "_law_one" (defArgs s_l_one) (defBody s_l_one) (defScope s_l_one) .none kV_l_one dc_l_one pm_l_one an_l_one cd_l_one ct_l_one), sl_l_one⟩)
    (c_l_one : PySem.W.codeIn K cd_l_one "_law_one" = true)
    (k_l_one : PySem.W.keepIn K (.ref f_l_one) = true)
    (a_l_mixed : PySem.W.nsIn K mainGlobals "_law_mixed" = some (some (.ref f_l_mixed)))
    (l_l_mixed : K.lookup f_l_mixed = some ⟨oc_l_mixed, od_l_mixed, .func (PySem.W.fnOf "_law_mixed" "_law_mixed" (defArgs s_l_mixed) (defBody s_l_mixed) (defScope s_l_mixed) .none kV_l_mixed dc_l_mixed pm_l_mixed an_l_mixed cd_l_mixed ct_l_mixed), sl_l_mixed⟩)
    (c_l_mixed : PySem.W.codeIn K cd_l_mixed "_law_mixed" = true)
    (k_l_mixed : PySem.W.keepIn K (.ref f_l_mixed) = true)
    (a_l_letters : PySem.W.nsIn K mainGlobals "_law_letters" = some (some (.ref f_l_letters)))
    (l_l_letters : K.lookup f_l_letters = some ⟨oc_l_letters, od_l_letters, .func (PySem.W.fnOf "_law_letters" "_law_letters" (defArgs s_l_letters) (defBody s_l_letters) (defScope s_l_letters) .none kV_l_letters dc_l_letters pm_l_letters an_l_letters cd_l_letters ct_l_letters), sl_l_letters⟩)
    (c_l_letters : PySem.W.codeIn K cd_l_letters "_law_letters" = true)
    (k_l_letters : PySem.W.keepIn K (.ref f_l_letters) = true)
    (a_l_told : PySem.W.nsIn K mainGlobals "_law_told" = some (some (.ref f_l_told)))
    (l_l_told : K.lookup f_l_told = some ⟨oc_l_told, od_l_told, .func (PySem.W.fnOf "_law_told" "_law_told" (defArgs s_l_told) (defBody s_l_told) (defScope s_l_told) .none kV_l_told dc_l_told pm_l_told an_l_told cd_l_told ct_l_told), sl_l_told⟩)
    (c_l_told : PySem.W.codeIn K cd_l_told "_law_told" = true)
    (k_l_told : PySem.W.keepIn K (.ref f_l_told) = true)
    (a_l_is_mark : PySem.W.nsIn K mainGlobals "_law_is_mark" = some (some (.ref f_l_is_mark)))
    (l_l_is_mark : K.lookup f_l_is_mark = some ⟨oc_l_is_mark, od_l_is_mark, .func (PySem.W.fnOf "_law_is_mark" "_law_is_mark" (defArgs s_l_is_mark) (defBody s_l_is_mark) (defScope s_l_is_mark) .none kV_l_is_mark dc_l_is_mark pm_l_is_mark an_l_is_mark cd_l_is_mark ct_l_is_mark), sl_l_is_mark⟩)
    (c_l_is_mark : PySem.W.codeIn K cd_l_is_mark "_law_is_mark" = true)
    (k_l_is_mark : PySem.W.keepIn K (.ref f_l_is_mark) = true)
    (a_l_is_pull : PySem.W.nsIn K mainGlobals "_law_is_pull" = some (some (.ref f_l_is_pull)))
    (l_l_is_pull : K.lookup f_l_is_pull = some ⟨oc_l_is_pull, od_l_is_pull, .func (PySem.W.fnOf "_law_is_pull" "_law_is_pull" (defArgs s_l_is_pull) (defBody s_l_is_pull) (defScope s_l_is_pull) .none kV_l_is_pull dc_l_is_pull pm_l_is_pull an_l_is_pull cd_l_is_pull ct_l_is_pull), sl_l_is_pull⟩)
    (c_l_is_pull : PySem.W.codeIn K cd_l_is_pull "_law_is_pull" = true)
    (k_l_is_pull : PySem.W.keepIn K (.ref f_l_is_pull) = true)
    (a_l_due : PySem.W.nsIn K mainGlobals "_law_due" = some (some (.ref f_l_due)))
    (l_l_due : K.lookup f_l_due = some ⟨oc_l_due, od_l_due, .func (PySem.W.fnOf "_law_due" "_law_due" (defArgs s_l_due) (defBody s_l_due) (defScope s_l_due) .none kV_l_due dc_l_due pm_l_due an_l_due cd_l_due ct_l_due), sl_l_due⟩)
    (c_l_due : PySem.W.codeIn K cd_l_due "_law_due" = true)
    (k_l_due : PySem.W.keepIn K (.ref f_l_due) = true)
    (a_l_spoilt : PySem.W.nsIn K mainGlobals "_law_spoilt" = some (some (.ref f_l_spoilt)))
    (l_l_spoilt : K.lookup f_l_spoilt = some ⟨oc_l_spoilt, od_l_spoilt, .func (PySem.W.fnOf "_law_spoilt" "_law_spoilt" (defArgs s_l_spoilt) (defBody s_l_spoilt) (defScope s_l_spoilt) .none kV_l_spoilt dc_l_spoilt pm_l_spoilt an_l_spoilt cd_l_spoilt ct_l_spoilt), sl_l_spoilt⟩)
    (c_l_spoilt : PySem.W.codeIn K cd_l_spoilt "_law_spoilt" = true)
    (k_l_spoilt : PySem.W.keepIn K (.ref f_l_spoilt) = true)
    (a_l_refused : PySem.W.nsIn K mainGlobals "_law_refused" = some (some (.ref f_l_refused)))
    (l_l_refused : K.lookup f_l_refused = some ⟨oc_l_refused, od_l_refused, .func (PySem.W.fnOf "_law_refused" "_law_refused" (defArgs s_l_refused) (defBody s_l_refused) (defScope s_l_refused) .none kV_l_refused dc_l_refused pm_l_refused an_l_refused cd_l_refused ct_l_refused), sl_l_refused⟩)
    (c_l_refused : PySem.W.codeIn K cd_l_refused "_law_refused" = true)
    (k_l_refused : PySem.W.keepIn K (.ref f_l_refused) = true)
    (a_law : PySem.W.nsIn K mainGlobals "law" = some (some (.ref f_law)))
    (l_law : K.lookup f_law = some ⟨oc_law, od_law, .func (PySem.W.fnOf "law" "law" (defArgs s_law) (defBody s_law) (defScope s_law) .none kV_law dc_law pm_law an_law cd_law ct_law), sl_law⟩)
    (c_law : PySem.W.codeIn K cd_law "law" = true)
    (k_law : PySem.W.keepIn K (.ref f_law) = true)
    (z_list : PySem.W.nsIn K mainGlobals "list" = some none)
    (z_enumerate : PySem.W.nsIn K mainGlobals "enumerate" = some none)
    (z_range : PySem.W.nsIn K mainGlobals "range" = some none)
    (z_isinstance : PySem.W.nsIn K mainGlobals "isinstance" = some none)
    (z_int : PySem.W.nsIn K mainGlobals "int" = some none)
    (z_str : PySem.W.nsIn K mainGlobals "str" = some none)
    (z_sorted : PySem.W.nsIn K mainGlobals "sorted" = some none)
    (z_len : PySem.W.nsIn K mainGlobals "len" = some none)
    (z_bool : PySem.W.nsIn K mainGlobals "bool" = some none)
    (z_repr : PySem.W.nsIn K mainGlobals "repr" = some none)
    (z_tuple : PySem.W.nsIn K mainGlobals "tuple" = some none)
    (z_min : PySem.W.nsIn K mainGlobals "min" = some none)
    (z_max : PySem.W.nsIn K mainGlobals "max" = some none)
    (z_ValueError : PySem.W.nsIn K mainGlobals "ValueError" = some none)
    (c_LETTERS : PySem.W.nsIn K mainGlobals "LETTERS" = some (some (.str "abcdefghijklmnopqrstuvwxyz" tk_LETTERS)))
    (c_MOST_PULL : PySem.W.nsIn K mainGlobals "MOST_PULL" = some (some (.int 9 tk_MOST_PULL)))
    (aC_ClingError : PySem.W.nsIn K mainGlobals "ClingError" = some (some (.ref C_ClingError)))
    (aC_NoPulls : PySem.W.nsIn K mainGlobals "NoPulls" = some (some (.ref C_NoPulls)))
    (aC_NoStand : PySem.W.nsIn K mainGlobals "NoStand" = some (some (.ref C_NoStand)))
    (aC_NoBlock : PySem.W.nsIn K mainGlobals "NoBlock" = some (some (.ref C_NoBlock)))
    (aC_NoPiece : PySem.W.nsIn K mainGlobals "NoPiece" = some (some (.ref C_NoPiece)))
    (bs_sp : PySem.W.specialIn K (.ref C_ClingError) "__getattribute__" = some (some (.builtin "type.__getattribute__")))
    (bs_rd : PySem.W.readsIn K C_ClingError (.type "type") = true)
    (bs_fc : PySem.W.findCls K (.ref C_ClingError) (.type "type") "__init__" = some (.val (.builtin "ValueError.__init__")))
    (xL_NoPulls : K.lookup C_NoPulls = some (excClassObj nm_NoPulls q_NoPulls C_NoPulls N_NoPulls bs_NoPulls [.ref C_ClingError, .type "ValueError", .type "Exception", .type "BaseException", .type "object"] true sn_NoPulls sub_NoPulls ab_NoPulls col_NoPulls dd_NoPulls m0_NoPulls m1_NoPulls m2_NoPulls m3_NoPulls m5_NoPulls "ValueError.__new__"))
    (xsa_NoPulls : PySem.W.findIn K (.ref C_NoPulls) "__setattr__" = some (some (.builtin "object.__setattr__")))
    (xex_NoPulls : PySem.W.subIn K (.ref C_NoPulls) (.type "BaseException") = some true)
    (xty_NoPulls : PySem.W.typeIn K (.ref C_NoPulls) = some (.type "type"))
    (xk_NoPulls : PySem.W.keepIn K (.ref C_NoPulls) = true)
    (no_NoPulls : PySem.W.findIn K (.ref C_NoPulls) "at" = some none)
    (in_NoPulls : PySem.W.findIn K (.ref C_NoPulls) "__init__" = some (some (.ref f_NoPullsI)))
    (ti_NoPulls : PySem.W.typeIn K (.ref f_NoPullsI) = some (.type "function"))
    (l_NoPullsI : K.lookup f_NoPullsI = some ⟨oc_NoPullsI, od_NoPullsI, .func (PySem.W.fnOf "__init__" "NoPulls.__init__" (defArgs s_NoPullsI) (defBody s_NoPullsI) (defScope s_NoPullsI) .none kV_NoPullsI dc_NoPullsI pm_NoPullsI an_NoPullsI cd_NoPullsI ct_NoPullsI), sl_NoPullsI⟩)
    (c_NoPullsI : PySem.W.codeIn K cd_NoPullsI "NoPulls.__init__" = true)
    (k_NoPullsI : PySem.W.keepIn K (.ref f_NoPullsI) = true)
    (eic_NoPulls : PySem.W.isClsIn K C_NoPulls = true)
    (ega_NoPulls : PySem.W.findIn K (.ref C_NoPulls) "__getattribute__" = some (some (.builtin "BaseException.__getattribute__")))
    (egg_NoPulls : PySem.W.findIn K (.ref C_NoPulls) "__getattr__" = some none)
    (esb_NoPulls : PySem.W.subIn K (.ref C_NoPulls) (.type "BaseException") = some true)
    (ehd_NoPulls : PySem.W.hasDictIn K C_NoPulls = true)
    (eha_NoPulls : PySem.W.findIn K (.ref C_NoPulls) "__class__" = some (some (.builtin "object.__class__")))
    (ehn_NoPulls : PySem.W.specialIn K (.builtin "object.__class__") "__get__" = some (some (.builtin "getset_descriptor.__get__")))
    (eht_NoPulls : PySem.W.takesIn K (.builtin "object.__class__") = some true)
    (ehm_NoPulls : PySem.W.mroIn K C_NoPulls (.type "object") = some true)
    (sS_NoPulls : PySem.W.subIn K (.ref C_NoPulls) (.ref C_NoPulls) = some true)
    (sU_ClingError_NoPulls : PySem.W.subIn K (.ref C_NoPulls) (.ref C_ClingError) = some (isU "NoPulls" "ClingError"))
    (sU_NoBlock_NoPulls : PySem.W.subIn K (.ref C_NoPulls) (.ref C_NoBlock) = some (isU "NoPulls" "NoBlock"))
    (sU_NoPiece_NoPulls : PySem.W.subIn K (.ref C_NoPulls) (.ref C_NoPiece) = some (isU "NoPulls" "NoPiece"))
    (sU_NoPulls_NoPulls : PySem.W.subIn K (.ref C_NoPulls) (.ref C_NoPulls) = some (isU "NoPulls" "NoPulls"))
    (sU_NoStand_NoPulls : PySem.W.subIn K (.ref C_NoPulls) (.ref C_NoStand) = some (isU "NoPulls" "NoStand"))
    (sU_ValueError_NoPulls : PySem.W.subIn K (.ref C_NoPulls) (.type "ValueError") = some (isU "NoPulls" "ValueError"))
    (kf_at_NoPulls : PySem.W.findIn K (.ref C_NoPulls) "at" = some none)
    (uB_ClingError : PySem.W.subIn K (.ref C_ClingError) (.type "BaseException") = some true)
    (uC_ClingError : PySem.W.isClsIn K C_ClingError = true)
    (uT_ClingError : PySem.W.typeIn K (.ref C_ClingError) = some (.type "type"))
    (uB_NoBlock : PySem.W.subIn K (.ref C_NoBlock) (.type "BaseException") = some true)
    (uC_NoBlock : PySem.W.isClsIn K C_NoBlock = true)
    (uT_NoBlock : PySem.W.typeIn K (.ref C_NoBlock) = some (.type "type"))
    (uB_NoPiece : PySem.W.subIn K (.ref C_NoPiece) (.type "BaseException") = some true)
    (uC_NoPiece : PySem.W.isClsIn K C_NoPiece = true)
    (uT_NoPiece : PySem.W.typeIn K (.ref C_NoPiece) = some (.type "type"))
    (uB_NoPulls : PySem.W.subIn K (.ref C_NoPulls) (.type "BaseException") = some true)
    (uC_NoPulls : PySem.W.isClsIn K C_NoPulls = true)
    (uT_NoPulls : PySem.W.typeIn K (.ref C_NoPulls) = some (.type "type"))
    (uB_NoStand : PySem.W.subIn K (.ref C_NoStand) (.type "BaseException") = some true)
    (uC_NoStand : PySem.W.isClsIn K C_NoStand = true)
    (uT_NoStand : PySem.W.typeIn K (.ref C_NoStand) = some (.type "type"))
    (hF : ∀ ns : List Int, ns.length ≤ 63 → ∃ m, F_law [.v (.rol (ns.map .int))] [] = some (.ok (.v (.bl true)), m)) :
    ∃ fd : FuncData, (∀ (s : Shared) (v : Value), BindsTo s fd ⟨[v], []⟩ [("_law_script", v)]) ∧ ∀ base : Heap, K.In base → base.Ns mainGlobals mg → FnG l.prog w K mg base 6 fa fd ["_law_script"] (spL K) := by
  have e := hfa.symm.trans (PySem.W.mg_of X G a_law)
  cases e
  have F_is_whole := fun_mk (st := s_is_whole) l_is_whole c_is_whole k_is_whole
  have b_is_whole := F_is_whole.binds (ps := ["thing"]) fun _ _ _ _ _ _ us hl => match us, hl with | [_], _ => rfl
  have F_is_mark := fun_mk (st := s_is_mark) l_is_mark c_is_mark k_is_mark
  have b_is_mark := F_is_mark.binds (ps := ["thing"]) fun _ _ _ _ _ _ us hl => match us, hl with | [_], _ => rfl
  have F_is_told_pull := fun_mk (st := s_is_told_pull) l_is_told_pull c_is_told_pull k_is_told_pull
  have b_is_told_pull := F_is_told_pull.binds (ps := ["thing"]) fun _ _ _ _ _ _ us hl => match us, hl with | [_], _ => rfl
  have F_Pullsd_initd := fun_mk (st := s_Pullsd_initd) l_Pullsd_initd c_Pullsd_initd k_Pullsd_initd
  have b_Pullsd_initd := F_Pullsd_initd.binds (ps := ["self", "told"]) fun _ _ _ _ _ _ us hl => match us, hl with | [_, _], _ => rfl
  have F_Pulls_pull := fun_mk (st := s_Pulls_pull) l_Pulls_pull c_Pulls_pull k_Pulls_pull
  have b_Pulls_pull := F_Pulls_pull.binds (ps := ["self", "one", "other"]) fun _ _ _ _ _ _ us hl => match us, hl with | [_, _, _], _ => rfl
  have F_Pulls_told := fun_mk (st := s_Pulls_told) l_Pulls_told c_Pulls_told k_Pulls_told
  have b_Pulls_told := F_Pulls_told.binds (ps := ["self"]) fun _ _ _ _ _ _ us hl => match us, hl with | [_], _ => rfl
  have F_Pullsd_eqd := fun_mk (st := s_Pullsd_eqd) l_Pullsd_eqd c_Pullsd_eqd k_Pullsd_eqd
  have b_Pullsd_eqd := F_Pullsd_eqd.binds (ps := ["self", "other"]) fun _ _ _ _ _ _ us hl => match us, hl with | [_, _], _ => rfl
  have F_l_cell_at := fun_mk (st := s_l_cell_at) l_l_cell_at c_l_cell_at k_l_cell_at
  have b_l_cell_at := F_l_cell_at.binds (ps := ["_law_script", "_law_k"]) fun _ _ _ _ _ _ us hl => match us, hl with | [_, _], _ => rfl
  have F_l_source := fun_mk (st := s_l_source) l_l_source c_l_source k_l_source
  have b_l_source := F_l_source.binds (ps := ["_law_cell"]) fun _ _ _ _ _ _ us hl => match us, hl with | [_], _ => rfl
  have F_l_take := fun_mk (st := s_l_take) l_l_take c_l_take k_l_take
  have b_l_take := F_l_take.binds (ps := ["_law_source_here", "_law_many"]) fun _ _ _ _ _ _ us hl => match us, hl with | [_, _], _ => rfl
  have F_l_one := fun_mk (st := s_l_one) l_l_one c_l_one k_l_one
  have b_l_one := F_l_one.binds (ps := ["_law_source_here", "_law_some"]) fun _ _ _ _ _ _ us hl => match us, hl with | [_, _], _ => rfl
  have F_l_mixed := fun_mk (st := s_l_mixed) l_l_mixed c_l_mixed k_l_mixed
  have b_l_mixed := F_l_mixed.binds (ps := ["_law_source_here", "_law_some"]) fun _ _ _ _ _ _ us hl => match us, hl with | [_, _], _ => rfl
  have F_l_letters := fun_mk (st := s_l_letters) l_l_letters c_l_letters k_l_letters
  have b_l_letters := F_l_letters.binds (ps := ["_law_source_here"]) fun _ _ _ _ _ _ us hl => match us, hl with | [_], _ => rfl
  have F_l_told := fun_mk (st := s_l_told) l_l_told c_l_told k_l_told
  have b_l_told := F_l_told.binds (ps := ["_law_source_here", "_law_letters_here"]) fun _ _ _ _ _ _ us hl => match us, hl with | [_, _], _ => rfl
  have F_l_is_mark := fun_mk (st := s_l_is_mark) l_l_is_mark c_l_is_mark k_l_is_mark
  have b_l_is_mark := F_l_is_mark.binds (ps := ["_law_thing"]) fun _ _ _ _ _ _ us hl => match us, hl with | [_], _ => rfl
  have F_l_is_pull := fun_mk (st := s_l_is_pull) l_l_is_pull c_l_is_pull k_l_is_pull
  have b_l_is_pull := F_l_is_pull.binds (ps := ["_law_thing", "_law_ahead"]) fun _ _ _ _ _ _ us hl => match us, hl with | [_, _], _ => rfl
  have F_l_due := fun_mk (st := s_l_due) l_l_due c_l_due k_l_due
  have b_l_due := F_l_due.binds (ps := ["_law_told_here"]) fun _ _ _ _ _ _ us hl => match us, hl with | [_], _ => rfl
  have F_l_spoilt := fun_mk (st := s_l_spoilt) l_l_spoilt c_l_spoilt k_l_spoilt
  have b_l_spoilt := F_l_spoilt.binds (ps := ["_law_source_here", "_law_told_here"]) fun _ _ _ _ _ _ us hl => match us, hl with | [_, _], _ => rfl
  have F_l_refused := fun_mk (st := s_l_refused) l_l_refused c_l_refused k_l_refused
  have b_l_refused := F_l_refused.binds (ps := ["_law_thing"]) fun _ _ _ _ _ _ us hl => match us, hl with | [_], _ => rfl
  have F_law := fun_mk (st := s_law) l_law c_law k_law
  have b_law := F_law.binds (ps := ["_law_script"]) fun _ _ _ _ _ _ us hl => match us, hl with | [_], _ => rfl
  have F_NoPullsI := fun_mk (st := s_NoPullsI) l_NoPullsI c_NoPullsI k_NoPullsI
  have bi_NoPulls := F_NoPullsI.binds (ps := ["self", "at"]) fun _ _ _ _ _ _ us hl => match us, hl with | [_, _], _ => rfl
  have ec_NoPulls : ExC K C_NoPulls := ⟨eic_NoPulls, ega_NoPulls, egg_NoPulls, esb_NoPulls, ehd_NoPulls, eha_NoPulls, ehn_NoPulls, eht_NoPulls, ehm_NoPulls⟩
  let T : Tx K mg := {
    C_Pulls := C_Pulls
    g_Pulls := PySem.W.mg_of X G aC_Pulls
    cl_Pulls := ⟨pg_Pulls, hd_Pulls, po_Pulls, sa_Pulls⟩
    is_Pulls := isC_mk ⟨pg_Pulls, hd_Pulls, po_Pulls, sa_Pulls⟩ ha_Pulls hn_Pulls ht_Pulls hm_Pulls ic_Pulls tc_Pulls
    n_Pulls_known := n_Pulls_known
    a_is_whole := f_is_whole
    d_is_whole := _
    f_is_whole := F_is_whole
    b_is_whole := b_is_whole
    g_is_whole := PySem.W.mg_of X G a_is_whole
    a_is_mark := f_is_mark
    d_is_mark := _
    f_is_mark := F_is_mark
    b_is_mark := b_is_mark
    g_is_mark := PySem.W.mg_of X G a_is_mark
    a_is_told_pull := f_is_told_pull
    d_is_told_pull := _
    f_is_told_pull := F_is_told_pull
    b_is_told_pull := b_is_told_pull
    g_is_told_pull := PySem.W.mg_of X G a_is_told_pull
    a_Pullsd_initd := f_Pullsd_initd
    d_Pullsd_initd := _
    f_Pullsd_initd := F_Pullsd_initd
    b_Pullsd_initd := b_Pullsd_initd
    m_Pullsd_initd := ⟨a_Pullsd_initd, i_Pullsd_initd, k_Pullsd_initd⟩
    a_Pulls_pull := f_Pulls_pull
    d_Pulls_pull := _
    f_Pulls_pull := F_Pulls_pull
    b_Pulls_pull := b_Pulls_pull
    m_Pulls_pull := ⟨a_Pulls_pull, i_Pulls_pull, k_Pulls_pull⟩
    a_Pulls_told := f_Pulls_told
    d_Pulls_told := _
    f_Pulls_told := F_Pulls_told
    b_Pulls_told := b_Pulls_told
    m_Pulls_told := ⟨a_Pulls_told, i_Pulls_told, k_Pulls_told⟩
    a_Pullsd_eqd := f_Pullsd_eqd
    d_Pullsd_eqd := _
    f_Pullsd_eqd := F_Pullsd_eqd
    b_Pullsd_eqd := b_Pullsd_eqd
    m_Pullsd_eqd := ⟨a_Pullsd_eqd, i_Pullsd_eqd, k_Pullsd_eqd⟩
    a_l_cell_at := f_l_cell_at
    d_l_cell_at := _
    f_l_cell_at := F_l_cell_at
    b_l_cell_at := b_l_cell_at
    g_l_cell_at := PySem.W.mg_of X G a_l_cell_at
    a_l_source := f_l_source
    d_l_source := _
    f_l_source := F_l_source
    b_l_source := b_l_source
    g_l_source := PySem.W.mg_of X G a_l_source
    a_l_take := f_l_take
    d_l_take := _
    f_l_take := F_l_take
    b_l_take := b_l_take
    g_l_take := PySem.W.mg_of X G a_l_take
    a_l_one := f_l_one
    d_l_one := _
    f_l_one := F_l_one
    b_l_one := b_l_one
    g_l_one := PySem.W.mg_of X G a_l_one
    a_l_mixed := f_l_mixed
    d_l_mixed := _
    f_l_mixed := F_l_mixed
    b_l_mixed := b_l_mixed
    g_l_mixed := PySem.W.mg_of X G a_l_mixed
    a_l_letters := f_l_letters
    d_l_letters := _
    f_l_letters := F_l_letters
    b_l_letters := b_l_letters
    g_l_letters := PySem.W.mg_of X G a_l_letters
    a_l_told := f_l_told
    d_l_told := _
    f_l_told := F_l_told
    b_l_told := b_l_told
    g_l_told := PySem.W.mg_of X G a_l_told
    a_l_is_mark := f_l_is_mark
    d_l_is_mark := _
    f_l_is_mark := F_l_is_mark
    b_l_is_mark := b_l_is_mark
    g_l_is_mark := PySem.W.mg_of X G a_l_is_mark
    a_l_is_pull := f_l_is_pull
    d_l_is_pull := _
    f_l_is_pull := F_l_is_pull
    b_l_is_pull := b_l_is_pull
    g_l_is_pull := PySem.W.mg_of X G a_l_is_pull
    a_l_due := f_l_due
    d_l_due := _
    f_l_due := F_l_due
    b_l_due := b_l_due
    g_l_due := PySem.W.mg_of X G a_l_due
    a_l_spoilt := f_l_spoilt
    d_l_spoilt := _
    f_l_spoilt := F_l_spoilt
    b_l_spoilt := b_l_spoilt
    g_l_spoilt := PySem.W.mg_of X G a_l_spoilt
    a_l_refused := f_l_refused
    d_l_refused := _
    f_l_refused := F_l_refused
    b_l_refused := b_l_refused
    g_l_refused := PySem.W.mg_of X G a_l_refused
    a_law := fa
    d_law := _
    f_law := F_law
    b_law := b_law
    g_law := PySem.W.mg_of X G a_law
    mk_Pulls := ⟨mk_Pulls, a_Pullsd_initd, i_Pullsd_initd, kc_Pulls⟩
    eq_Pulls := ⟨a_Pullsd_eqd, ne_Pulls, i_Pullsd_eqd, ob_Pulls⟩
    z_list := PySem.W.mg_none_of X G z_list
    z_enumerate := PySem.W.mg_none_of X G z_enumerate
    z_range := PySem.W.mg_none_of X G z_range
    z_isinstance := PySem.W.mg_none_of X G z_isinstance
    z_int := PySem.W.mg_none_of X G z_int
    z_str := PySem.W.mg_none_of X G z_str
    z_sorted := PySem.W.mg_none_of X G z_sorted
    z_len := PySem.W.mg_none_of X G z_len
    z_bool := PySem.W.mg_none_of X G z_bool
    z_repr := PySem.W.mg_none_of X G z_repr
    z_tuple := PySem.W.mg_none_of X G z_tuple
    z_min := PySem.W.mg_none_of X G z_min
    z_max := PySem.W.mg_none_of X G z_max
    z_ValueError := PySem.W.mg_none_of X G z_ValueError
    c_LETTERS := ⟨_, PySem.W.mg_of X G c_LETTERS⟩
    c_MOST_PULL := ⟨_, PySem.W.mg_of X G c_MOST_PULL⟩
    C_ClingError := C_ClingError
    g_ClingError := PySem.W.mg_of X G aC_ClingError
    C_NoPulls := C_NoPulls
    g_NoPulls := PySem.W.mg_of X G aC_NoPulls
    C_NoStand := C_NoStand
    g_NoStand := PySem.W.mg_of X G aC_NoStand
    C_NoBlock := C_NoBlock
    g_NoBlock := PySem.W.mg_of X G aC_NoBlock
    C_NoPiece := C_NoPiece
    g_NoPiece := PySem.W.mg_of X G aC_NoPiece
    bs := ⟨PySem.W.mg_of X G aC_ClingError, bs_sp, bs_rd, bs_fc⟩
    ox_NoPulls := ⟨⟨_, _, _, _, _, _, _, _, _, _, _, _, _, _, _, xL_NoPulls, refs1⟩, xsa_NoPulls, xex_NoPulls, xty_NoPulls, xk_NoPulls⟩
    no_NoPulls := no_NoPulls
    a_NoPullsI := f_NoPullsI
    d_NoPullsI := _
    f_NoPullsI := F_NoPullsI
    bi_NoPulls := bi_NoPulls
    in_NoPulls := in_NoPulls
    ti_NoPulls := ti_NoPulls
    xb := (all_cons (⟨_, PySem.W.mg_of X G aC_NoPulls, ec_NoPulls⟩) all_nil)
    xo_NoBlock := (all_cons (⟨_, PySem.W.mg_of X G aC_NoPulls, ec_NoPulls, kit_by sS_NoPulls uC_NoBlock uT_NoBlock sU_NoBlock_NoPulls⟩) all_nil)
    xo_NoPiece := (all_cons (⟨_, PySem.W.mg_of X G aC_NoPulls, ec_NoPulls, kit_by sS_NoPulls uC_NoPiece uT_NoPiece sU_NoPiece_NoPulls⟩) all_nil)
    xo_NoPulls := (all_cons (⟨_, PySem.W.mg_of X G aC_NoPulls, ec_NoPulls, kit_by sS_NoPulls uC_NoPulls uT_NoPulls sU_NoPulls_NoPulls⟩) all_nil)
    xo_NoStand := (all_cons (⟨_, PySem.W.mg_of X G aC_NoPulls, ec_NoPulls, kit_by sS_NoPulls uC_NoStand uT_NoStand sU_NoStand_NoPulls⟩) all_nil)
    xo_ValueError := (all_cons (⟨_, PySem.W.mg_of X G aC_NoPulls, ec_NoPulls, kit_ty (by decide) sU_ValueError_NoPulls⟩) all_nil)
    xm_ClingError := xm_of (all_cons (⟨_, PySem.W.mg_of X G aC_NoPulls, exm_by uB_ClingError uC_ClingError uT_ClingError sU_ClingError_NoPulls⟩) all_nil)
    xf_at := (all_cons (⟨_, PySem.W.mg_of X G aC_NoPulls, ec_NoPulls, kf_at_NoPulls⟩) all_nil)
  }
  exact ⟨T.d_law, fun s v => .of_eq rfl, fun base _ _ => (ok_law (P := l.prog) (w := w) (base := base) T).imp (spF_law hF)⟩
end G
open PySem PySem.W PyProof.Rows
set_option maxHeartbeats 0 in
theorem PySem.Challenge.cw_clinghold_k02_what_are_no_pulls_holds : PySem.Challenge.rw_clinghold_k02_what_are_no_pulls.Holds := by
  w_on; o_law; k_head; (case hw => w_witness2)
  k_fill
  refine G.walk_g (l := PySem.Challenge.rw_clinghold_k02_what_are_no_pulls) (n := 63) (k := 6) (x := "_law_script") rfl (by decide) rfl ⟨rfl, by decide, by decide⟩ (fun w h Y => PySem.W.kIn_of Y) ?F (by decide)
  case F =>
    intro w mg fa h KX GG hmg
    refine' G.all_mk KX GG hmg ?aC_Pulls ?pg_Pulls ?hd_Pulls ?po_Pulls ?sa_Pulls ?ha_Pulls ?hn_Pulls ?ht_Pulls ?hm_Pulls ?ic_Pulls ?tc_Pulls ?n_Pulls_known ?mk_Pulls ?kc_Pulls ?ne_Pulls ?ob_Pulls ?a_is_whole ?l_is_whole ?c_is_whole ?k_is_whole ?a_is_mark ?l_is_mark ?c_is_mark ?k_is_mark ?a_is_told_pull ?l_is_told_pull ?c_is_told_pull ?k_is_told_pull ?a_Pullsd_initd ?i_Pullsd_initd ?l_Pullsd_initd ?c_Pullsd_initd ?k_Pullsd_initd ?a_Pulls_pull ?i_Pulls_pull ?l_Pulls_pull ?c_Pulls_pull ?k_Pulls_pull ?a_Pulls_told ?i_Pulls_told ?l_Pulls_told ?c_Pulls_told ?k_Pulls_told ?a_Pullsd_eqd ?i_Pullsd_eqd ?l_Pullsd_eqd ?c_Pullsd_eqd ?k_Pullsd_eqd ?a_l_cell_at ?l_l_cell_at ?c_l_cell_at ?k_l_cell_at ?a_l_source ?l_l_source ?c_l_source ?k_l_source ?a_l_take ?l_l_take ?c_l_take ?k_l_take ?a_l_one ?l_l_one ?c_l_one ?k_l_one ?a_l_mixed ?l_l_mixed ?c_l_mixed ?k_l_mixed ?a_l_letters ?l_l_letters ?c_l_letters ?k_l_letters ?a_l_told ?l_l_told ?c_l_told ?k_l_told ?a_l_is_mark ?l_l_is_mark ?c_l_is_mark ?k_l_is_mark ?a_l_is_pull ?l_l_is_pull ?c_l_is_pull ?k_l_is_pull ?a_l_due ?l_l_due ?c_l_due ?k_l_due ?a_l_spoilt ?l_l_spoilt ?c_l_spoilt ?k_l_spoilt ?a_l_refused ?l_l_refused ?c_l_refused ?k_l_refused ?a_law ?l_law ?c_law ?k_law ?z_list ?z_enumerate ?z_range ?z_isinstance ?z_int ?z_str ?z_sorted ?z_len ?z_bool ?z_repr ?z_tuple ?z_min ?z_max ?z_ValueError ?c_LETTERS ?c_MOST_PULL ?aC_ClingError ?aC_NoPulls ?aC_NoStand ?aC_NoBlock ?aC_NoPiece ?bs_sp ?bs_rd ?bs_fc ?xL_NoPulls ?xsa_NoPulls ?xex_NoPulls ?xty_NoPulls ?xk_NoPulls ?no_NoPulls ?in_NoPulls ?ti_NoPulls ?l_NoPullsI ?c_NoPullsI ?k_NoPullsI ?eic_NoPulls ?ega_NoPulls ?egg_NoPulls ?esb_NoPulls ?ehd_NoPulls ?eha_NoPulls ?ehn_NoPulls ?eht_NoPulls ?ehm_NoPulls ?sS_NoPulls ?sU_ClingError_NoPulls ?sU_NoBlock_NoPulls ?sU_NoPiece_NoPulls ?sU_NoPulls_NoPulls ?sU_NoStand_NoPulls ?sU_ValueError_NoPulls ?kf_at_NoPulls ?uB_ClingError ?uC_ClingError ?uT_ClingError ?uB_NoBlock ?uC_NoBlock ?uT_NoBlock ?uB_NoPiece ?uC_NoPiece ?uT_NoPiece ?uB_NoPulls ?uC_NoPulls ?uT_NoPulls ?uB_NoStand ?uC_NoStand ?uT_NoStand G.lawT
    (case aC_Pulls => k_is)
    (case pg_Pulls => k_is)
    (case hd_Pulls => k_is)
    (case po_Pulls => k_is)
    (case sa_Pulls => k_is)
    (case ha_Pulls => k_is)
    (case hn_Pulls => k_is)
    (case ht_Pulls => k_is)
    (case hm_Pulls => k_is)
    (case ic_Pulls => k_is)
    (case tc_Pulls => k_is)
    (case n_Pulls_known => k_is)
    (case mk_Pulls => k_is)
    (case kc_Pulls => k_is)
    (case ne_Pulls => k_is)
    (case ob_Pulls => k_is)
    (case a_is_whole => k_is)
    (case l_is_whole => k_is)
    (case c_is_whole => k_is)
    (case k_is_whole => k_is)
    (case a_is_mark => k_is)
    (case l_is_mark => k_is)
    (case c_is_mark => k_is)
    (case k_is_mark => k_is)
    (case a_is_told_pull => k_is)
    (case l_is_told_pull => k_is)
    (case c_is_told_pull => k_is)
    (case k_is_told_pull => k_is)
    (case a_Pullsd_initd => k_is)
    (case i_Pullsd_initd => k_is)
    (case l_Pullsd_initd => k_is)
    (case c_Pullsd_initd => k_is)
    (case k_Pullsd_initd => k_is)
    (case a_Pulls_pull => k_is)
    (case i_Pulls_pull => k_is)
    (case l_Pulls_pull => k_is)
    (case c_Pulls_pull => k_is)
    (case k_Pulls_pull => k_is)
    (case a_Pulls_told => k_is)
    (case i_Pulls_told => k_is)
    (case l_Pulls_told => k_is)
    (case c_Pulls_told => k_is)
    (case k_Pulls_told => k_is)
    (case a_Pullsd_eqd => k_is)
    (case i_Pullsd_eqd => k_is)
    (case l_Pullsd_eqd => k_is)
    (case c_Pullsd_eqd => k_is)
    (case k_Pullsd_eqd => k_is)
    (case a_l_cell_at => k_is)
    (case l_l_cell_at => k_is)
    (case c_l_cell_at => k_is)
    (case k_l_cell_at => k_is)
    (case a_l_source => k_is)
    (case l_l_source => k_is)
    (case c_l_source => k_is)
    (case k_l_source => k_is)
    (case a_l_take => k_is)
    (case l_l_take => k_is)
    (case c_l_take => k_is)
    (case k_l_take => k_is)
    (case a_l_one => k_is)
    (case l_l_one => k_is)
    (case c_l_one => k_is)
    (case k_l_one => k_is)
    (case a_l_mixed => k_is)
    (case l_l_mixed => k_is)
    (case c_l_mixed => k_is)
    (case k_l_mixed => k_is)
    (case a_l_letters => k_is)
    (case l_l_letters => k_is)
    (case c_l_letters => k_is)
    (case k_l_letters => k_is)
    (case a_l_told => k_is)
    (case l_l_told => k_is)
    (case c_l_told => k_is)
    (case k_l_told => k_is)
    (case a_l_is_mark => k_is)
    (case l_l_is_mark => k_is)
    (case c_l_is_mark => k_is)
    (case k_l_is_mark => k_is)
    (case a_l_is_pull => k_is)
    (case l_l_is_pull => k_is)
    (case c_l_is_pull => k_is)
    (case k_l_is_pull => k_is)
    (case a_l_due => k_is)
    (case l_l_due => k_is)
    (case c_l_due => k_is)
    (case k_l_due => k_is)
    (case a_l_spoilt => k_is)
    (case l_l_spoilt => k_is)
    (case c_l_spoilt => k_is)
    (case k_l_spoilt => k_is)
    (case a_l_refused => k_is)
    (case l_l_refused => k_is)
    (case c_l_refused => k_is)
    (case k_l_refused => k_is)
    (case a_law => k_is)
    (case l_law => k_is)
    (case c_law => k_is)
    (case k_law => k_is)
    (case z_list => k_is)
    (case z_enumerate => k_is)
    (case z_range => k_is)
    (case z_isinstance => k_is)
    (case z_int => k_is)
    (case z_str => k_is)
    (case z_sorted => k_is)
    (case z_len => k_is)
    (case z_bool => k_is)
    (case z_repr => k_is)
    (case z_tuple => k_is)
    (case z_min => k_is)
    (case z_max => k_is)
    (case z_ValueError => k_is)
    (case c_LETTERS => k_is)
    (case c_MOST_PULL => k_is)
    (case aC_ClingError => k_is)
    (case aC_NoPulls => k_is)
    (case aC_NoStand => k_is)
    (case aC_NoBlock => k_is)
    (case aC_NoPiece => k_is)
    (case bs_sp => k_is)
    (case bs_rd => k_is)
    (case bs_fc => k_is)
    (case xL_NoPulls => k_is)
    (case xsa_NoPulls => k_is)
    (case xex_NoPulls => k_is)
    (case xty_NoPulls => k_is)
    (case xk_NoPulls => k_is)
    (case no_NoPulls => k_is)
    (case in_NoPulls => k_is)
    (case ti_NoPulls => k_is)
    (case l_NoPullsI => k_is)
    (case c_NoPullsI => k_is)
    (case k_NoPullsI => k_is)
    (case eic_NoPulls => k_is)
    (case ega_NoPulls => k_is)
    (case egg_NoPulls => k_is)
    (case esb_NoPulls => k_is)
    (case ehd_NoPulls => k_is)
    (case eha_NoPulls => k_is)
    (case ehn_NoPulls => k_is)
    (case eht_NoPulls => k_is)
    (case ehm_NoPulls => k_is)
    (case sS_NoPulls => k_is)
    (case sU_ClingError_NoPulls => k_is)
    (case sU_NoBlock_NoPulls => k_is)
    (case sU_NoPiece_NoPulls => k_is)
    (case sU_NoPulls_NoPulls => k_is)
    (case sU_NoStand_NoPulls => k_is)
    (case sU_ValueError_NoPulls => k_is)
    (case kf_at_NoPulls => k_is)
    (case uB_ClingError => k_is)
    (case uC_ClingError => k_is)
    (case uT_ClingError => k_is)
    (case uB_NoBlock => k_is)
    (case uC_NoBlock => k_is)
    (case uT_NoBlock => k_is)
    (case uB_NoPiece => k_is)
    (case uC_NoPiece => k_is)
    (case uT_NoPiece => k_is)
    (case uB_NoPulls => k_is)
    (case uC_NoPulls => k_is)
    (case uT_NoPulls => k_is)
    (case uB_NoStand => k_is)
    (case uC_NoStand => k_is)
    (case uT_NoStand => k_is)
