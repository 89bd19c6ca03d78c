import PyProof.Rows.All
import Wide.All
import OpenK.AllK
import Wide.FinOn
import HandS.ForMost
import HandS.ForExc
import HandS.ExcCtx
import HandS.Flow
import HandS.TupAny
import HandS.Zip
import HandS.Deep
import HandS.Walk
import HandS.IsInst
import HandS.Steps
import HandS.Defaults
import HandS.WordsExc
import HandS.Comp
import HandS.Style
import PyProof.RulesMatch
import HandS.Dict
import HandS.NoneIn
import PyProof.Draws
import HandS.HeadNt
import HandS.Words
import PySem.Challenge.RW_fairshown_k15_whole_rows_that_can_follow
import HandS.SetBool
import HandS.SetTxt0
import HandS.Strs
import HandS.SetFor
import KE.KStateDown
import HandS.Head0
import HandS.Head1
import HandS.Head2
import HandS.HeadEnd
import HandS.HeadHook1
import HandS.HeadHook2
import HandS.HeadHook3
import HandS.HeadHook4
import HandS.HeadWalk
import KE.KExcSuper
import KE.KExcInit
import KE.KTryMore
import HandS.ExcInit
import HandS.ExcIs
import HandS.Nested
import HandS.Property
import HandS.Star
import PyProof.Rows.TupAdd
import HandS.HotCalls
import HandS.ExcField
import HandS.Lambda
set_option Elab.async false
set_option linter.all false
set_option maxRecDepth 100000
set_option maxHeartbeats 4000000
/-! The data layer: values as plain data (PyData) over the abstract heap, data-level weakest preconditions, their readings. -/
namespace FK
open PySem PySem.Spec L2

abbrev D := PyData

mutual
/-- v is the data d in H; none of its lists and tuples stands at an address of A -/
inductive DX (A : List Addr) (H : Hp) : V → PyData → Prop
  | non : DX A H .non .none
  | bl (b : Bool) : DX A H (.bl b) (.bool b)
  | int (i : Int) : DX A H (.int i) (.int i)
  | str (x : Str) : DX A H (.str x) (.str x)
  | lst {a : Addr} {xs : List V} {ds : List PyData} : H a = some (.lst xs) → a ∉ A → DXs A H xs ds → DX A H (.ref a) (.list ds)
  | tup {a : Addr} {xs : List V} {ds : List PyData} : H a = some (.tup xs) → a ∉ A → DXs A H xs ds → DX A H (.ref a) (.tuple ds)
inductive DXs (A : List Addr) (H : Hp) : List V → List PyData → Prop
  | nil : DXs A H [] []
  | cons {v : V} {vs : List V} {d : PyData} {ds : List PyData} : DX A H v d → DXs A H vs ds → DXs A H (v :: vs) (d :: ds)
end

/-- all but the object at r stands as it stood -/
def Ext (r : Option Addr) (H H' : Hp) : Prop := ∀ b o, r ≠ some b → H b = some o → H' b = some o
theorem Ext.refl (r : Option Addr) (H : Hp) : Ext r H H := fun _ _ _ h => h
theorem Ext.trans {r : Option Addr} {H H1 H2 : Hp} (a : Ext r H H1) (b : Ext r H1 H2) : Ext r H H2 := fun c o n h => b c o n (a c o n h)
theorem Ext.of_same {r : Option Addr} {H H' : Hp} (s : Same H H') : Ext r H H' := fun b o _ h => s b o h
theorem Ext.same {H H' : Hp} (e : Ext none H H') : Same H H' := fun b o h => e b o (by simp) h
theorem same_new {H : Hp} {p : Addr} {o : HO} (h : H p = none) : Same H (upd H p o) := fun b x e => by
  rw [upd_ne (ne_of_none e h)]
  exact e

mutual
theorem DX.gen {A A' : List Addr} {H H' : Hp} (hl : ∀ a xs, H a = some (.lst xs) → a ∉ A → H' a = some (.lst xs) ∧ a ∉ A') (ht : ∀ a xs, H a = some (.tup xs) → a ∉ A → H' a = some (.tup xs) ∧ a ∉ A') : ∀ (d : PyData) (v : V), DX A H v d → DX A' H' v d
  | .none, _, h => by cases h; exact .non
  | .bool b, _, h => by cases h; exact .bl b
  | .int i, _, h => by cases h; exact .int i
  | .str x, _, h => by cases h; exact .str x
  | .list ds, _, h => by
    cases h with
    | lst h1 h2 h3 => exact .lst (hl _ _ h1 h2).1 (hl _ _ h1 h2).2 (DXs.gen hl ht ds _ h3)
  | .tuple ds, _, h => by
    cases h with
    | tup h1 h2 h3 => exact .tup (ht _ _ h1 h2).1 (ht _ _ h1 h2).2 (DXs.gen hl ht ds _ h3)
  | .dict _, _, h => by cases h
theorem DXs.gen {A A' : List Addr} {H H' : Hp} (hl : ∀ a xs, H a = some (.lst xs) → a ∉ A → H' a = some (.lst xs) ∧ a ∉ A') (ht : ∀ a xs, H a = some (.tup xs) → a ∉ A → H' a = some (.tup xs) ∧ a ∉ A') : ∀ (ds : List PyData) (vs : List V), DXs A H vs ds → DXs A' H' vs ds
  | [], _, h => by cases h; exact .nil
  | d :: ds, _, h => by
    cases h with
    | cons h1 h2 => exact .cons (DX.gen hl ht d _ h1) (DXs.gen hl ht ds _ h2)
end
theorem DX.ext {A : List Addr} {r : Option Addr} {H H' : Hp} {v : V} {d : PyData} (h : DX A H v d) (e : Ext r H H') (hr : ∀ a, r = some a → a ∈ A) : DX A H' v d :=
  h.gen (fun a xs q n => ⟨e a _ (fun z => n (hr a z)) q, n⟩) (fun a xs q n => ⟨e a _ (fun z => n (hr a z)) q, n⟩) _ _
theorem DXs.ext {A : List Addr} {r : Option Addr} {H H' : Hp} {v : List V} {d : List PyData} (h : DXs A H v d) (e : Ext r H H') (hr : ∀ a, r = some a → a ∈ A) : DXs A H' v d :=
  h.gen (fun a xs q n => ⟨e a _ (fun z => n (hr a z)) q, n⟩) (fun a xs q n => ⟨e a _ (fun z => n (hr a z)) q, n⟩) _ _
theorem DX.same {A : List Addr} {H H' : Hp} {v : V} {d : PyData} (h : DX A H v d) (e : Same H H') : DX A H' v d := h.gen (fun a xs q n => ⟨e a _ q, n⟩) (fun a xs q n => ⟨e a _ q, n⟩) _ _
theorem DXs.same {A : List Addr} {H H' : Hp} {v : List V} {d : List PyData} (h : DXs A H v d) (e : Same H H') : DXs A H' v d := h.gen (fun a xs q n => ⟨e a _ q, n⟩) (fun a xs q n => ⟨e a _ q, n⟩) _ _
theorem DX.anti {A A' : List Addr} {H : Hp} {v : V} {d : PyData} (h : DX A H v d) (s : ∀ a ∈ A', a ∈ A) : DX A' H v d := h.gen (fun a xs q n => ⟨q, fun z => n (s a z)⟩) (fun a xs q n => ⟨q, fun z => n (s a z)⟩) _ _
theorem DXs.anti {A A' : List Addr} {H : Hp} {v : List V} {d : List PyData} (h : DXs A H v d) (s : ∀ a ∈ A', a ∈ A) : DXs A' H v d := h.gen (fun a xs q n => ⟨q, fun z => n (s a z)⟩) (fun a xs q n => ⟨q, fun z => n (s a z)⟩) _ _
mutual
theorem DX.dp {K : PySem.W.Frag} {A : List Addr} {H : Hp} : ∀ (d : PyData) (v : V), DX A H v d → Dp K H v d
  | .none, _, h => by cases h; exact .non
  | .bool b, _, h => by cases h; exact .bl b
  | .int i, _, h => by cases h; exact .int i
  | .str x, _, h => by cases h; exact .str x
  | .list ds, _, h => by
    cases h with
    | lst h1 h2 h3 => exact .lst (SqL.of h1) (DXs.dp ds _ h3)
  | .tuple ds, _, h => by
    cases h with
    | tup h1 h2 h3 => exact .tup (SqT.of h1) (DXs.dp ds _ h3)
  | .dict _, _, h => by cases h
theorem DXs.dp {K : PySem.W.Frag} {A : List Addr} {H : Hp} : ∀ (ds : List PyData) (vs : List V), DXs A H vs ds → DpAll K H vs ds
  | [], _, h => by cases h; exact .nil
  | d :: ds, _, h => by
    cases h with
    | cons h1 h2 => exact .cons (DX.dp d _ h1) (DXs.dp ds _ h2)
end
section
variable {A : List Addr} {H : Hp} {v : V} {vs : List V} {d : PyData} {ds : List PyData}
theorem DXs.length : ∀ {vs : List V} {ds : List PyData}, DXs A H vs ds → vs.length = ds.length
  | _, _, .nil => rfl
  | _, _, .cons _ t => congrArg (· + 1) (DXs.length t)
theorem DXs.get : ∀ {vs : List V} {ds : List PyData} {i : Nat} {d : PyData}, DXs A H vs ds → ds[i]? = some d → ∃ v, vs[i]? = some v ∧ DX A H v d
  | _, _, _, _, .nil, e => by simp at e
  | _, _, 0, _, .cons h _, e => by
    have e' : _ = _ := Option.some.inj e
    subst e'
    exact ⟨_, rfl, h⟩
  | _, _, i + 1, d, .cons _ t, e => by
    obtain ⟨u, h1, h2⟩ := DXs.get (i := i) (d := d) t (by simpa using e)
    exact ⟨u, by simpa using h1, h2⟩
theorem DXs.get' : ∀ {vs : List V} {ds : List PyData} {i : Nat} {v : V}, DXs A H vs ds → vs[i]? = some v → ∃ d, ds[i]? = some d ∧ DX A H v d
  | _, _, _, _, .nil, e => by simp at e
  | _, _, 0, _, .cons h _, e => by
    have e' : _ = _ := Option.some.inj e
    subst e'
    exact ⟨_, rfl, h⟩
  | _, _, i + 1, d, .cons _ t, e => by
    obtain ⟨u, h1, h2⟩ := DXs.get' (i := i) t (by simpa using e)
    exact ⟨u, by simpa using h1, h2⟩
theorem DXs.app : ∀ {vs ws : List V} {ds es : List PyData}, DXs A H vs ds → DXs A H ws es → DXs A H (vs ++ ws) (ds ++ es)
  | _, _, _, _, .nil, s => s
  | _, _, _, _, .cons h t, s => .cons h (DXs.app t s)
theorem DXs.take : ∀ {vs : List V} {ds : List PyData} (n : Nat), DXs A H vs ds → DXs A H (vs.take n) (ds.take n)
  | _, _, 0, _ => by rw [List.take_zero, List.take_zero]; exact .nil
  | _, _, _ + 1, .nil => .nil
  | _, _, n + 1, .cons h t => .cons h (DXs.take n t)
theorem DXs.drop : ∀ {vs : List V} {ds : List PyData} (n : Nat), DXs A H vs ds → DXs A H (vs.drop n) (ds.drop n)
  | _, _, 0, h => h
  | _, _, _ + 1, .nil => .nil
  | _, _, n + 1, .cons _ t => DXs.drop n t
theorem DXs.ints : ∀ {vs : List V} {ns : List Int}, DXs A H vs (ns.map PyData.int) → vs = ns.map V.int
  | _, [], h => by cases h; rfl
  | _, n :: ns, h => by
    cases h with
    | cons h1 h2 =>
      cases h1
      rw [DXs.ints h2]; rfl
theorem DXs.bls : ∀ {vs : List V} {ns : List Bool}, DXs A H vs (ns.map PyData.bool) → vs = ns.map V.bl
  | _, [], h => by cases h; rfl
  | _, n :: ns, h => by
    cases h with
    | cons h1 h2 =>
      cases h1
      rw [DXs.bls h2]; rfl
theorem DXs.strs : ∀ {vs : List V} {ns : List Str}, DXs A H vs (ns.map PyData.str) → vs = ns.map V.str
  | _, [], h => by cases h; rfl
  | _, n :: ns, h => by
    cases h with
    | cons h1 h2 =>
      cases h1
      rw [DXs.strs h2]; rfl
theorem DXs.of_ints : ∀ (ns : List Int), DXs A H (ns.map V.int) (ns.map PyData.int)
  | [] => .nil
  | n :: ns => .cons (.int n) (DXs.of_ints ns)
theorem DXs.of_strs : ∀ (ns : List Str), DXs A H (ns.map V.str) (ns.map PyData.str)
  | [] => .nil
  | n :: ns => .cons (.str n) (DXs.of_strs ns)
end

mutual
/-- no list within -/
def flat : PyData → Bool
  | .list _ => false
  | .tuple ds => flats ds
  | _ => true
def flats : List PyData → Bool
  | [] => true
  | d :: ds => flat d && flats ds
end
mutual
theorem DX.flat {A A' : List Addr} {H : Hp} (ht : ∀ a ∈ A', ∀ xs, H a ≠ some (.tup xs)) : ∀ (d : PyData) (v : V), FK.flat d = true → DX A H v d → DX A' H v d
  | .none, _, _, h => by cases h; exact .non
  | .bool b, _, _, h => by cases h; exact .bl b
  | .int i, _, _, h => by cases h; exact .int i
  | .str x, _, _, h => by cases h; exact .str x
  | .list ds, _, f, h => by simp [FK.flat] at f
  | .tuple ds, _, f, h => by
    have f' : FK.flats ds = true := by simpa [FK.flat] using f
    cases h with
    | tup h1 h2 h3 => exact .tup h1 (fun z => ht _ z _ h1) (DXs.flat ht ds _ f' h3)
  | .dict _, _, _, h => by cases h
theorem DXs.flat {A A' : List Addr} {H : Hp} (ht : ∀ a ∈ A', ∀ xs, H a ≠ some (.tup xs)) : ∀ (ds : List PyData) (vs : List V), FK.flats ds = true → DXs A H vs ds → DXs A' H vs ds
  | [], _, _, h => by cases h; exact .nil
  | d :: ds, _, f, h => by
    have f' : (FK.flat d && FK.flats ds) = true := by simpa [FK.flats] using f
    rw [Bool.and_eq_true] at f'
    cases h with
    | cons h1 h2 => exact .cons (DX.flat ht d _ f'.1 h1) (DXs.flat ht ds _ f'.2 h2)
end

/-! ### the slots' data -/
/-- what a slot holds: nothing told; data; a list of the def's own (it grows); a dict of the def's own; the reader -/
inductive Sl where
  | no | dat (d : PyData) | lst (ds : List PyData) | dic (own : Bool) (kvs : List (Option Int × Int)) | rd
  | ob (a : Addr) (G : Hp) (us : List (V × PyData))
abbrev Rho := List Sl
/-- the object at r is the reader, behind c draws -/
def RdAt (H : Hp) (a : Addr) (c : Nat) : Prop := ∃ (L : Addr) (o : Obj) (xs : List Int) (sp rs : Int),
  H a = some (.dK [(.inr "cells", .ref L), (.inr "spot", .int sp), (.inr "rest", .int rs), (.inr "calls", .int (c : Int))]) ∧ H L = some (.frz o (.lst (xs.map V.int))) ∧ xs.length ≤ 63 ∧ 0 ≤ sp ∧ 0 ≤ rs
def RdO (r : Option Addr) (H : Hp) (c : Nat) : Prop := ∀ a, r = some a → RdAt H a c
/-- how a dict of ints under ints and None lies -/
abbrev DicL := Addr → List (Option Int × Int) → Heap → Prop

/-- what is told of an object: what stands at addresses outside of A; values' data -/
structure ObAt (A : List Addr) (H : Hp) (G : Hp) (us : List (V × PyData)) : Prop where
  os : ∀ b o, G b = some o → H b = some o ∧ b ∉ A
  us : ∀ q ∈ us, DX A H q.1 q.2
theorem ObAt.gen {A A' : List Addr} {H H' : Hp} {G : Hp} {us : List (V × PyData)} (h : ObAt A H G us) (k : ∀ b o, H b = some o → b ∉ A → H' b = some o ∧ b ∉ A') : ObAt A' H' G us :=
  ⟨fun b o q => k _ _ (h.os b o q).1 (h.os b o q).2, fun q hq => (h.us q hq).gen (fun a _ e n => k a _ e n) (fun a _ e n => k a _ e n) _ _⟩
theorem ObAt.anti {A A' : List Addr} {H : Hp} {G : Hp} {us : List (V × PyData)} (h : ObAt A H G us) (s : ∀ a ∈ A', a ∈ A) : ObAt A' H G us := h.gen fun b o q n => ⟨q, fun z => n (s b z)⟩
/-- the slots of a def: A0 the addresses that its callers own, B its own lists and dicts -/
structure Env1 (dl : DicL) (A0 B : List Addr) (r : Option Addr) (H : Hp) (σ : L2.St) (ρ : Rho) (c : Nat) : Prop where
  len : σ.length = ρ.length
  dat : ∀ (i : Nat) (d : PyData), ρ[i]? = some (.dat d) → ∃ v, σ[i]? = some (some v) ∧ DX (B ++ A0) H v d
  lst : ∀ (i : Nat) (ds : List PyData), ρ[i]? = some (.lst ds) → ∃ a vs, σ[i]? = some (some (.ref a)) ∧ a ∈ B ∧ H a = some (.lst vs) ∧ DXs (B ++ A0) H vs ds
  dic : ∀ (i : Nat) (w : Bool) (kvs : List (Option Int × Int)), ρ[i]? = some (.dic w kvs) → ∃ a, σ[i]? = some (some (.ref a)) ∧ (a ∈ B ∨ (w = false ∧ a ∈ A0)) ∧ r ≠ some a ∧ H a = some (.ext (dl a kvs))
  rd : ∀ (i : Nat), ρ[i]? = some .rd → ∃ a, σ[i]? = some (some (.ref a)) ∧ r = some a
  sep : ∀ (i j : Nat) (a : Addr), σ[i]? = some (some (.ref a)) → σ[j]? = some (some (.ref a)) → a ∈ B → i = j
  dis : ∀ b ∈ B, b ∉ A0
  rA : ∀ a, r = some a → a ∈ A0
  rok : RdO r H c
  trk : ∀ a ∈ B ++ A0, H a ≠ none
  ntp : ∀ a ∈ B ++ A0, ∀ xs, H a ≠ some (.tup xs)
  ref : ∀ (i : Nat) (a : Addr), σ[i]? = some (some (.ref a)) → H a ≠ none
  ob : ∀ (i : Nat) (a : Addr) (G : Hp) (us : List (V × PyData)), ρ[i]? = some (.ob a G us) → σ[i]? = some (some (.ref a)) ∧ ObAt (B ++ A0) H G us

/-! ### data-level weakest preconditions -/
abbrev W (α : Type) := Nat → (α → Nat → Prop) → Prop
def rW {α : Type} (a : α) : W α := fun c P => P a c
def bW {α β : Type} (m : W α) (k : α → W β) : W β := fun c P => m c fun a c1 => k a c1 P

def fW {α : Type} : W α := fun _ _ => False
def gW (p : Prop) : W Unit := fun c P => p ∧ P () c
/-- a pure def's meaning, lifted -/
def lW {α : Type} (m : (α → Prop) → Prop) : W α := fun c P => m fun a => P a c

/-- an expression's reading by data -/
def tW (dl : DicL) (r : Option Addr) (f : Rho → W D) : TE := fun σ H Q => ∃ A0 B ρ c P, Env1 dl A0 B r H σ ρ c ∧ f ρ c P ∧ ∀ d c' v H', P d c' → Ext r H H' → RdO r H' c' → DX (B ++ A0) H' v d → Q v H'
/-- a test's -/
def tWT (dl : DicL) (r : Option Addr) (f : Rho → W Bool) : TT := fun σ H Q => ∃ A0 B ρ c P, Env1 dl A0 B r H σ ρ c ∧ f ρ c P ∧ ∀ b c' H', P b c' → Ext r H H' → RdO r H' c' → Q b H'
/-- an argument list's -/
def tWA (dl : DicL) (r : Option Addr) (f : Rho → W (List D)) : TA := fun σ H Q => ∃ A0 B ρ c P, Env1 dl A0 B r H σ ρ c ∧ f ρ c P ∧ ∀ ds c' vs H', P ds c' → Ext r H H' → RdO r H' c' → DXs (B ++ A0) H' vs ds → Q vs H'
/-- a slice's part -/
def tWO (dl : DicL) (r : Option Addr) (f : Rho → W (Option Int)) : TO := fun σ H Q => ∃ A0 B ρ c P, Env1 dl A0 B r H σ ρ c ∧ f ρ c P ∧ ∀ o c' H', P o c' → Ext r H H' → RdO r H' c' → Q o H'

theorem Ext.trk {r : Option Addr} {H H' : Hp} {c : Nat} (e : Ext r H H') (rd : RdO r H' c) {a : Addr} (h : H a ≠ none) : H' a ≠ none := by
  cases q : H a with
  | none => exact absurd q h
  | some o =>
    by_cases hr : r = some a
    · obtain ⟨L, o, xs, sp, rs, h1, _⟩ := rd a hr
      rw [h1]; simp
    · rw [e a o hr q]; simp
theorem Ext.ntp {r : Option Addr} {H H' : Hp} {c : Nat} (e : Ext r H H') (rd : RdO r H' c) {a : Addr} (h : H a ≠ none) (n : ∀ xs, H a ≠ some (.tup xs)) : ∀ xs, H' a ≠ some (.tup xs) := fun xs q => by
  by_cases ha : r = some a
  · obtain ⟨L, o, xs', sp, rs, h1, _⟩ := rd a ha
    rw [h1] at q; cases q
  · cases z : H a with
    | none => exact absurd z h
    | some o =>
      have z' := e a o ha z
      rw [q] at z'
      cases z'
      exact n xs z
section
variable {dl : DicL} {A0 B : List Addr} {r : Option Addr} {H H' : Hp} {σ : L2.St} {ρ : Rho} {c c' : Nat}
theorem Env1.rAB (E : Env1 dl A0 B r H σ ρ c) : ∀ a, r = some a → a ∈ B ++ A0 := fun a h => List.mem_append_right _ (E.rA a h)
theorem Env1.nB (E : Env1 dl A0 B r H σ ρ c) : ∀ b ∈ B, r ≠ some b := fun b h q => E.dis b h (E.rA b q)
theorem Env1.ext (E : Env1 dl A0 B r H σ ρ c) (e : Ext r H H') (rd : RdO r H' c') : Env1 dl A0 B r H' σ ρ c' := by
  refine ⟨E.len, fun i d h => ?_, fun i ds h => ?_, fun i w kvs h => ?_, E.rd, E.sep, E.dis, E.rA, rd, fun a h => e.trk rd (E.trk a h), fun a h => e.ntp rd (E.trk a h) (E.ntp a h), fun i a h => e.trk rd (E.ref i a h), fun i a os us h => ⟨(E.ob i a os us h).1, (E.ob i a os us h).2.gen fun b o q n => ⟨e b o (fun z => n (E.rAB b z)) q, n⟩⟩⟩
  · obtain ⟨v, h1, h2⟩ := E.dat i d h
    exact ⟨v, h1, h2.ext e E.rAB⟩
  · obtain ⟨a, vs, h1, h2, h3, h4⟩ := E.lst i ds h
    exact ⟨a, vs, h1, h2, e a _ (E.nB a h2) h3, h4.ext e E.rAB⟩
  · obtain ⟨a, h1, h2, h3, h4⟩ := E.dic i w kvs h
    exact ⟨a, h1, h2, h3, e a _ h3 h4⟩
end
theorem RdAt.same {H H' : Hp} {a : Addr} {c : Nat} (h : RdAt H a c) (s : Same H H') : RdAt H' a c := by
  obtain ⟨L, o, xs, sp, rs, h1, h2, h3⟩ := h
  exact ⟨L, o, xs, sp, rs, s _ _ h1, s _ _ h2, h3⟩
theorem RdO.same {r : Option Addr} {H H' : Hp} {c : Nat} (h : RdO r H c) (s : Same H H') : RdO r H' c := fun a e => (h a e).same s
theorem rdO_none {H : Hp} {c : Nat} : RdO none H c := fun a e => by cases e
theorem PE.imp {X : Cx} {e : Expr} {t t' : TE} (h : PE X e t) (i : ∀ σ H Q, t' σ H Q → t σ H Q) : PE X e t' := ⟨fun pins s σ H Q I q => h.run pins s σ H Q I (i σ H Q q)⟩
theorem PT.imp {X : Cx} {e : Expr} {t t' : TT} (h : PT X e t) (i : ∀ σ H Q, t' σ H Q → t σ H Q) : PT X e t' := ⟨fun pins s σ H Q I q => h.run pins s σ H Q I (i σ H Q q)⟩
theorem PW.imp {X : Cx} {e : Expr} {t t' : TT} (h : PW X e t) (i : ∀ σ H Q, t' σ H Q → t σ H Q) : PW X e t' := ⟨fun wh pins s σ H Q I q => h.run wh pins s σ H Q I (i σ H Q q)⟩
theorem PA.imp {X : Cx} {e : List Expr} {t t' : TA} (h : PA X e t) (i : ∀ σ H Q, t' σ H Q → t σ H Q) : PA X e t' := ⟨fun pos pins s σ H Q I q => h.run pos pins s σ H Q I (i σ H Q q)⟩
theorem PS.imp {X : Cx} {e : Stmt} {t t' : TS} (h : PS X e t) (i : ∀ Dn σ H, t' Dn σ H → t Dn σ H) : PS X e t' := ⟨fun pins s σ H Dn I q => h.run pins s σ H Dn I (i Dn σ H q)⟩
theorem PSs.imp {X : Cx} {e : List Stmt} {t t' : TS} (h : PSs X e t) (i : ∀ Dn σ H, t' Dn σ H → t Dn σ H) : PSs X e t' := ⟨fun pins s σ H Dn I q => h.run pins s σ H Dn I (i Dn σ H q)⟩
end FK
set_option Elab.async false
set_option linter.all false
set_option maxRecDepth 100000
set_option maxHeartbeats 4000000
/-! Expression rules of the data layer. -/
namespace FK
open PySem PySem.Spec L2

/-! ### names, constants -/
def vW (i : Nat) : Rho → W D := fun ρ c P => ∃ d, ρ[i]? = some (.dat d) ∧ P d c
section
variable {X : Cx} {dl : DicL} {r : Option Addr}
theorem pw_var (i : Nat) {x : Str} {pos : Pos} (hN : X.N[i]? = some x := by rfl) (hv : Vis X.env.scope x := by first | exact Or.inl rfl | exact Or.inr (Or.inl rfl) | exact Or.inr (Or.inr rfl)) (hd : (x == ("__debug__" : Str)) = false := by decide)
    (hcd : (x == ("__classdict__" : Str)) = false := by decide) : PE X (.Name x pos) (tW dl r (vW i)) :=
  PE.imp (pe_var hN hv hd hcd) fun σ H Q ⟨A0, B, ρ, c, P, E, ⟨d, h1, h2⟩, q⟩ => by
    obtain ⟨v, e1, e2⟩ := E.dat i d h1
    exact ⟨v, e1, q d c v H h2 (Ext.refl r H) E.rok e2⟩
theorem pw_of {e : Expr} {v : V} {d : D} (h : PE X e (tC v)) (hd : ∀ A H, DX A H v d) : PE X e (tW dl r fun _ => rW d) :=
  PE.imp h fun σ H Q ⟨A0, B, ρ, c, P, E, h2, q⟩ => q d c v H h2 (Ext.refl r H) E.rok (hd _ _)
theorem pw_int {i j pos} : PE X (.Constant (.int i) j pos) (tW dl r fun _ => rW (.int i)) := pw_of pe_int fun _ _ => .int i
theorem pw_bl {b j pos} : PE X (.Constant (.bool b) j pos) (tW dl r fun _ => rW (.bool b)) := pw_of pe_bl fun _ _ => .bl b
theorem pw_str {x j pos} : PE X (.Constant (.str x) j pos) (tW dl r fun _ => rW (.str x)) := pw_of pe_str fun _ _ => .str x
theorem pw_non {j pos} : PE X (.Constant .none j pos) (tW dl r fun _ => rW .none) := pw_of pe_non fun _ _ => .non
theorem pw_gint {x : Str} {i : Int} {u : Value} {pos : Pos} (hg : Gl X x) (hm : X.mg x = some u) (ru : RelV (.int i) u) (hd : (x == ("__debug__" : Str)) = false := by decide) : PE X (.Name x pos) (tW dl r fun _ => rW (.int i)) := pw_of (pe_glob hg hm ru hd) fun _ _ => .int i
theorem pw_gstr {x y : Str} {u : Value} {pos : Pos} (hg : Gl X x) (hm : X.mg x = some u) (ru : RelV (.str y) u) (hd : (x == ("__debug__" : Str)) = false := by decide) : PE X (.Name x pos) (tW dl r fun _ => rW (.str y)) := pw_of (pe_glob hg hm ru hd) fun _ _ => .str y

/-! ### two operands -/
/-- a two-place operation by data -/
def OpW (r : Option Addr) (r2 : R2) (g : D → D → W D) : Prop := ∀ A H x y d e c P Q, DX A H x d → DX A H y e → RdO r H c → (∀ a ∈ A, H a ≠ none) → g d e c P →
  (∀ d' c' v H', P d' c' → Same H H' → c' = c → DX A H' v d' → Q v H') → r2 x y H Q
theorem tOp_of {r2 : R2} {g : D → D → W D} {fa fb : Rho → W D} (hg : OpW r r2 g) {σ : L2.St} {H : Hp} {Q : VK} (h : tW dl r (fun ρ => bW (fa ρ) fun d => bW (fb ρ) fun e => g d e) σ H Q) : tOp r2 (tW dl r fa) (tW dl r fb) σ H Q := by
  obtain ⟨A0, B, ρ, c, P, E, hp, q⟩ := h
  refine ⟨A0, B, ρ, c, _, E, hp, fun d c1 x H1 p1 e1 rd1 dx => ⟨A0, B, ρ, c1, _, E.ext e1 rd1, p1, fun e c2 y H2 p2 e2 rd2 dy => ?_⟩⟩
  have E2 := (E.ext e1 rd1).ext e2 rd2
  refine hg (B ++ A0) H2 x y d e c2 P Q (dx.ext e2 E.rAB) dy rd2 E2.trk p2 fun d' c' v H' p3 s3 ec dv => ?_
  subst ec
  exact q d' c' v H' p3 ((e1.trans e2).trans (.of_same s3)) (rd2.same s3) dv
theorem pw_op {op : Operator} {r2 : R2} {a b : Expr} {g : D → D → W D} {fa fb : Rho → W D} {pos : Pos} (hg : OpW r r2 g) (ho : OpR X (binaryOp op) r2) (ha : PE X a (tW dl r fa)) (hb : PE X b (tW dl r fb)) :
    PE X (.BinOp a op b pos) (tW dl r fun ρ => bW (fa ρ) fun d => bW (fb ρ) fun e => g d e) := PE.imp (pe_op ho ha hb) fun _ _ _ h => tOp_of hg h
theorem pw_cmp {op : CmpOp} {r2 : R2} {a b : Expr} {g : D → D → W D} {fa fb : Rho → W D} {pos : Pos} (hg : OpW r r2 g) (ho : OpR X (compareOp op) r2) (ha : PE X a (tW dl r fa)) (hb : PE X b (tW dl r fb)) (hm : behindInMarks op b = false) :
    PE X (.Compare a [op] [b] pos) (tW dl r fun ρ => bW (fa ρ) fun d => bW (fb ρ) fun e => g d e) := PE.imp (pe_cmpR ho ha hb hm) fun _ _ _ h => tOp_of hg h
def asB : D → W Bool
  | .bool b => rW b
  | _ => fW
theorem tTest_of {t : TE} {f : Rho → W D} (ht : ∀ σ H Q, tW dl r f σ H Q → t σ H Q) {σ : L2.St} {H : Hp} {Q : Bool → Hp → Prop} (h : tWT dl r (fun ρ => bW (f ρ) asB) σ H Q) : tTest t σ H Q := by
  obtain ⟨A0, B, ρ, c, P, E, hp, q⟩ := h
  refine ht _ _ _ ⟨A0, B, ρ, c, _, E, hp, fun d c1 x H1 p1 e1 rd1 dx => ?_⟩
  cases dx with
  | bl b => exact ⟨b, rfl, q b c1 H1 p1 e1 rd1⟩
  | _ => exact (show False from p1).elim
theorem pwt_cmp {op : CmpOp} {r2 : R2} {a b : Expr} {g : D → D → W D} {fa fb : Rho → W D} {pos : Pos} (hg : OpW r r2 g) (ho : OpR X (compareOp op) r2) (ha : PE X a (tW dl r fa)) (hb : PE X b (tW dl r fb)) (hm : behindInMarks op b = false) :
    PT X (.Compare a [op] [b] pos) (tWT dl r fun ρ => bW (bW (fa ρ) fun d => bW (fb ρ) fun e => g d e) asB) := PT.imp (pt_cmpR ho ha hb hm) fun _ _ _ h => tTest_of (t := tOp r2 (tW dl r fa) (tW dl r fb)) (fun _ _ _ h => tOp_of hg h) h

/-! ### tests -/
/-- a value's truth -/
def truW : D → W Bool
  | .none => rW false
  | .bool b => rW b
  | .int i => rW (i != 0)
  | .list xs => rW (!xs.isEmpty)
  | .tuple xs => rW (!xs.isEmpty)
  | _ => fW
theorem DXs.isEmpty {A : List Addr} {H : Hp} {vs : List V} {ds : List D} (h : DXs A H vs ds) : (!vs.isEmpty) = !ds.isEmpty := by
  cases h <;> rfl
theorem pwt_truth {a : Expr} {f : Rho → W D} (ha : PE X a (tW dl r f)) (he : ∀ whole, isTrue a X.env whole = (do let v ← whole; standAt a.pos; holding [v] (truthy v)) := by intro _; rfl) : PT X a (tWT dl r fun ρ => bW (f ρ) truW) :=
  PT.imp (pt_truth ha he) fun σ H Q ⟨A0, B, ρ, c, P, E, hp, q⟩ => ⟨A0, B, ρ, c, _, E, hp, fun d c1 x H1 p1 e1 rd1 dx => by
    cases dx with
    | non => exact ⟨false, rfl, q _ c1 H1 p1 e1 rd1⟩
    | bl b => exact ⟨b, rfl, q _ c1 H1 p1 e1 rd1⟩
    | int i => exact ⟨_, rfl, q _ c1 H1 p1 e1 rd1⟩
    | str x => exact (show False from p1).elim
    | lst h1 h2 h3 => exact ⟨_, .inl ⟨_, SqL.of h1, rfl⟩, by rw [h3.isEmpty]; exact q _ c1 H1 p1 e1 rd1⟩
    | tup h1 h2 h3 => exact ⟨_, .inr (.inl ⟨_, SqT.of h1, rfl⟩), by rw [h3.isEmpty]; exact q _ c1 H1 p1 e1 rd1⟩⟩
theorem pwt_not {a : Expr} {f : Rho → W Bool} {pos : Pos} (ha : PT X a (tWT dl r f)) : PT X (.UnaryOp .Not a pos) (tWT dl r fun ρ => bW (f ρ) fun b => rW (!b)) :=
  PT.imp (pt_not ha) fun σ H Q ⟨A0, B, ρ, c, P, E, hp, q⟩ => ⟨A0, B, ρ, c, _, E, hp, fun b c1 H1 p1 e1 rd1 => q _ c1 H1 p1 e1 rd1⟩
def andW (f g : Rho → W Bool) : Rho → W Bool := fun ρ => bW (f ρ) fun b => if b = true then g ρ else rW false
def orW (f g : Rho → W Bool) : Rho → W Bool := fun ρ => bW (f ρ) fun b => if b = true then rW true else g ρ
theorem tAnd_of {f g : Rho → W Bool} {σ : L2.St} {H : Hp} {Q : Bool → Hp → Prop} (h : tWT dl r (andW f g) σ H Q) : tAnd (tWT dl r f) (tWT dl r g) σ H Q := by
  obtain ⟨A0, B, ρ, c, P, E, hp, q⟩ := h
  refine ⟨A0, B, ρ, c, _, E, hp, fun b c1 H1 p1 e1 rd1 => ?_⟩
  cases b with
  | true => exact iteT ⟨A0, B, ρ, c1, P, E.ext e1 rd1, p1, fun b c2 H2 p2 e2 rd2 => q b c2 H2 p2 (e1.trans e2) rd2⟩
  | false => exact iteF (q false c1 H1 p1 e1 rd1)
theorem tOr_of {f g : Rho → W Bool} {σ : L2.St} {H : Hp} {Q : Bool → Hp → Prop} (h : tWT dl r (orW f g) σ H Q) : tOr (tWT dl r f) (tWT dl r g) σ H Q := by
  obtain ⟨A0, B, ρ, c, P, E, hp, q⟩ := h
  refine ⟨A0, B, ρ, c, _, E, hp, fun b c1 H1 p1 e1 rd1 => ?_⟩
  cases b with
  | true => exact iteT (q true c1 H1 p1 e1 rd1)
  | false => exact iteF ⟨A0, B, ρ, c1, P, E.ext e1 rd1, p1, fun b c2 H2 p2 e2 rd2 => q b c2 H2 p2 (e1.trans e2) rd2⟩
theorem pww_and1 {a : Expr} {f : Rho → W Bool} {pos : Pos} (ha : PT X a (tWT dl r f)) : PW X (.BoolOp .And [a] pos) (tWT dl r f) := pw_and1 ha
theorem pww_or1 {a : Expr} {f : Rho → W Bool} {pos : Pos} (ha : PT X a (tWT dl r f)) : PW X (.BoolOp .Or [a] pos) (tWT dl r f) := pw_or1 ha
theorem pww_and {a b : Expr} {rest : List Expr} {f g : Rho → W Bool} {pos : Pos} (ha : PT X a (tWT dl r f)) (hb : PW X (.BoolOp .And (b :: rest) pos) (tWT dl r g)) : PW X (.BoolOp .And (a :: b :: rest) pos) (tWT dl r (andW f g)) :=
  PW.imp (L2.pw_and ha hb) fun _ _ _ h => tAnd_of h
theorem pww_or {a b : Expr} {rest : List Expr} {f g : Rho → W Bool} {pos : Pos} (ha : PT X a (tWT dl r f)) (hb : PW X (.BoolOp .Or (b :: rest) pos) (tWT dl r g)) : PW X (.BoolOp .Or (a :: b :: rest) pos) (tWT dl r (orW f g)) :=
  PW.imp (L2.pw_or ha hb) fun _ _ _ h => tOr_of h
/-- and, or, not as values: the ones ahead are True or False -/
theorem pw_one {op} {a : Expr} {pos : Pos} {f : Rho → W D} (h : PE X a (tW dl r f)) : PE X (.BoolOp op [a] pos) (tW dl r f) := pe_one h
theorem pw_and {a b : Expr} {rest : List Expr} {f g : Rho → W D} {pos : Pos} (ha : PE X a (tW dl r f)) (hb : PE X (.BoolOp .And (b :: rest) pos) (tW dl r g)) :
    PE X (.BoolOp .And (a :: b :: rest) pos) (tW dl r fun ρ => bW (bW (f ρ) asB) fun b => if b = true then g ρ else rW (.bool false)) :=
  PE.imp (pe_and ha hb) fun σ H Q ⟨A0, B, ρ, c, P, E, hp, q⟩ => ⟨A0, B, ρ, c, _, E, hp, fun d c1 x H1 p1 e1 rd1 dx => by
    cases dx with
    | bl b =>
      refine ⟨b, rfl, ?_⟩
      cases b with
      | true => exact iteT ⟨A0, B, ρ, c1, P, E.ext e1 rd1, p1, fun d c2 v H2 p2 e2 rd2 dv => q d c2 v H2 p2 (e1.trans e2) rd2 dv⟩
      | false => exact iteF (q _ c1 _ H1 p1 e1 rd1 (.bl false))
    | _ => exact (show False from p1).elim⟩
theorem pw_or {a b : Expr} {rest : List Expr} {f g : Rho → W D} {pos : Pos} (ha : PE X a (tW dl r f)) (hb : PE X (.BoolOp .Or (b :: rest) pos) (tW dl r g)) :
    PE X (.BoolOp .Or (a :: b :: rest) pos) (tW dl r fun ρ => bW (bW (f ρ) asB) fun b => if b = true then rW (.bool true) else g ρ) :=
  PE.imp (pe_or ha hb) fun σ H Q ⟨A0, B, ρ, c, P, E, hp, q⟩ => ⟨A0, B, ρ, c, _, E, hp, fun d c1 x H1 p1 e1 rd1 dx => by
    cases dx with
    | bl b =>
      refine ⟨b, rfl, ?_⟩
      cases b with
      | true => exact iteT (q _ c1 _ H1 p1 e1 rd1 (.bl true))
      | false => exact iteF ⟨A0, B, ρ, c1, P, E.ext e1 rd1, p1, fun d c2 v H2 p2 e2 rd2 dv => q d c2 v H2 p2 (e1.trans e2) rd2 dv⟩
    | _ => exact (show False from p1).elim⟩
theorem pw_not {a : Expr} {f : Rho → W D} {pos : Pos} (ha : PE X a (tW dl r f)) : PE X (.UnaryOp .Not a pos) (tW dl r fun ρ => bW (bW (f ρ) asB) fun b => rW (.bool (!b))) :=
  PE.imp (pe_not ha) fun σ H Q ⟨A0, B, ρ, c, P, E, hp, q⟩ => ⟨A0, B, ρ, c, _, E, hp, fun d c1 x H1 p1 e1 rd1 dx => by
    cases dx with
    | bl b => exact ⟨b, rfl, q _ c1 _ H1 p1 e1 rd1 (.bl _)⟩
    | _ => exact (show False from p1).elim⟩
theorem pw_ite {c a b : Expr} {t : Rho → W Bool} {f g : Rho → W D} {pos : Pos} (hc : PT X c (tWT dl r t)) (ha : PE X a (tW dl r f)) (hb : PE X b (tW dl r g)) :
    PE X (.IfExp c a b pos) (tW dl r fun ρ => bW (t ρ) fun b => if b = true then f ρ else g ρ) :=
  PE.imp (pe_ifExp hc ha hb) fun σ H Q ⟨A0, B, ρ, c, P, E, hp, q⟩ => ⟨A0, B, ρ, c, _, E, hp, fun b c1 H1 p1 e1 rd1 => by
    cases b with
    | true => exact iteT ⟨A0, B, ρ, c1, P, E.ext e1 rd1, p1, fun d c2 v H2 p2 e2 rd2 dv => q d c2 v H2 p2 (e1.trans e2) rd2 dv⟩
    | false => exact iteF ⟨A0, B, ρ, c1, P, E.ext e1 rd1, p1, fun d c2 v H2 p2 e2 rd2 dv => q d c2 v H2 p2 (e1.trans e2) rd2 dv⟩⟩
end

/-! ### the operations -/
section
variable {X : Cx} {dl : DicL} {r : Option Addr}
def LIM : Nat := 100000
theorem lim_line : LIM < sizeLine := by rw [sizeLine_eq]; decide
theorem opW_int2 {p : Int → Int → D} {k : Int → Int → V} (hk : ∀ A H i j, DX A H (k i j) (p i j)) : OpW r (rI0 k) (fun d e => match d, e with | .int i, .int j => rW (p i j) | _, _ => fW) := by
  intro A H x y d e c P Q dx dy rd tr h q
  cases dx with
  | int i =>
    cases dy with
    | int j => exact ⟨i, j, rfl, rfl, q _ c _ H h (Same.refl H) rfl (hk A H i j)⟩
    | _ => exact (show False from h).elim
  | _ => exact (show False from h).elim
def subW (d e : D) : W D := match d, e with
  | .int i, .int j => rW (.int (i - j))
  | _, _ => fW
theorem opW_sub : OpW r (rI0 fun i j => .int (i - j)) subW := opW_int2 (p := fun i j => .int (i - j)) fun _ _ _ _ => .int _
/-- a comparison of ints -/
def cmpW (p : Int → Int → Bool) (d e : D) : W D := match d, e with
  | .int i, .int j => rW (.bool (p i j))
  | _, _ => fW
theorem opW_cmp {p : Int → Int → Bool} : OpW r (rI0 fun i j => .bl (p i j)) (cmpW p) := opW_int2 (p := fun i j => .bool (p i j)) fun _ _ _ _ => .bl _
abbrev ltW : D → D → W D := cmpW fun i j => decide (i < j)
abbrev leW : D → D → W D := cmpW fun i j => decide (i ≤ j)
abbrev gtW : D → D → W D := cmpW fun i j => decide (j < i)
abbrev geW : D → D → W D := cmpW fun i j => decide (j ≤ i)
/-- +, of ints, lists, tuples -/
def addW (d e : D) : W D := match d, e with
  | .int i, .int j => rW (.int (i + j))
  | .list xs, .list ys => bW (gW (xs.length + ys.length ≤ LIM)) fun _ => rW (.list (xs ++ ys))
  | .tuple xs, .tuple ys => bW (gW (xs.length + ys.length ≤ LIM)) fun _ => rW (.tuple (xs ++ ys))
  | _, _ => fW
def rAddA (K : PySem.W.Frag) : R2 := fun x y H Q => rI0 (fun i j => .int (i + j)) x y H Q ∨ rCat x y H Q ∨ rCatA K x y H Q
theorem op_addA : OpR X (binaryOp .Add) (rAddA X.K) := op_add.or (op_cat.or op_catA)
theorem opW_add {K : PySem.W.Frag} : OpW r (rAddA K) addW := by
  intro A H x y d e c P Q dx dy rd tr h q
  cases dx with
  | int i =>
    cases dy with
    | int j => exact .inl ⟨i, j, rfl, rfl, q _ c _ H h (Same.refl H) rfl (.int _)⟩
    | _ => exact (show False from h).elim
  | lst h1 h2 h3 =>
    cases dy with
    | lst k1 k2 k3 =>
      obtain ⟨hl, h⟩ := h
      have l1 := h3.length
      have l2 := k3.length
      have hz := lim_line
      refine .inr (.inl ⟨_, _, _, _, rfl, rfl, h1, k1, by omega, fun p hp => ?_⟩)
      exact q _ c _ _ h (same_new hp) rfl (.lst upd_same (fun z => tr p z hp) ((h3.same (same_new hp)).app (k3.same (same_new hp))))
    | _ => exact (show False from h).elim
  | tup h1 h2 h3 =>
    cases dy with
    | tup k1 k2 k3 =>
      obtain ⟨hl, h⟩ := h
      have l1 := h3.length
      have l2 := k3.length
      have hz := lim_line
      refine .inr (.inr ⟨_, _, _, _, rfl, rfl, SqT.of h1, SqT.of k1, by omega, fun e => ?_, fun e e2 => ?_, fun e e2 p hp => ?_⟩)
      · subst e
        cases h3
        exact q _ c _ H h (Same.refl H) rfl (.tup k1 k2 k3)
      · subst e2
        cases k3
        rw [List.append_nil] at h
        exact q _ c _ H h (Same.refl H) rfl (.tup h1 h2 h3)
      · exact q _ c _ _ h (same_new hp) rfl (.tup upd_same (fun z => tr p z hp) ((h3.same (same_new hp)).app (k3.same (same_new hp))))
    | _ => exact (show False from h).elim
  | _ => exact (show False from h).elim
def mulW (d e : D) : W D := match d, e with
  | .int i, .int j => bW (gW (CMul i j)) fun _ => rW (.int (i * j))
  | _, _ => fW
theorem opW_mul : OpW r (rI CMul fun i j => .int (i * j)) mulW := by
  intro A H x y d e c P Q dx dy rd tr h q
  cases dx with
  | int i =>
    cases dy with
    | int j => exact ⟨i, j, rfl, rfl, h.1, q _ c _ H h.2 (Same.refl H) rfl (.int _)⟩
    | _ => exact (show False from h).elim
  | _ => exact (show False from h).elim
/-- == and != : scalars as they are, structures where they can be laid -/
def eqW0 (neg : Bool) (d e : D) : W D := match d, e with
  | .str x, .str y => rW (.bool (if neg then !decide (x = y) else decide (x = y)))
  | .int x, .int y => rW (.bool (if neg then !decide (x = y) else decide (x = y)))
  | .bool x, .bool y => rW (.bool (if neg then !decide (x = y) else decide (x = y)))
  | .none, .int _ => rW (.bool neg)
  | .int _, .none => rW (.bool neg)
  | .none, .none => rW (.bool (!neg))
  | d, e => bW (gW (SeqAt.shaped d = true ∧ SeqAt.shaped e = true)) fun _ => rW (.bool (if neg then !PyData.eqv d e else PyData.eqv d e))
abbrev eqW : D → D → W D := eqW0 false
abbrev neW : D → D → W D := eqW0 true
def rEqA (K : PySem.W.Frag) : R2 := fun x y H Q => rEq x y H Q ∨ rEqD K x y H Q
def rNeA (K : PySem.W.Frag) : R2 := fun x y H Q => rNe x y H Q ∨ rNeD K x y H Q
theorem op_eqA (hu : X.A.units + 64 < cLine) : OpR X (compareOp .Eq) (rEqA X.K) := op_eq.or (op_eqD hu)
theorem op_neA (hu : X.A.units + 64 < cLine) : OpR X (compareOp .NotEq) (rNeA X.K) := op_ne.or (op_neD hu)
theorem opW_eq {K : PySem.W.Frag} : OpW r (rEqA K) eqW := by
  intro A H x y d e c P Q dx dy rd tr h q
  have gen : ∀ {d e : D}, DX A H x d → DX A H y e → (bW (gW (SeqAt.shaped d = true ∧ SeqAt.shaped e = true)) fun _ => rW (.bool (PyData.eqv d e))) c P → (rEqA K) x y H Q := fun {d e} dx dy h =>
    .inr ⟨d, e, dx.dp, dy.dp, h.1.1, h.1.2, q _ c _ H h.2 (Same.refl H) rfl (.bl _)⟩
  have fin : ∀ k : Bool, scal x y = true → decide (x = y) = k → P (.bool k) c → (rEqA K) x y H Q := fun k hs e h => .inl ⟨hs, by rw [e]; exact q _ c _ H h (Same.refl H) rfl (.bl _)⟩
  cases dx with
  | str a =>
    cases dy with
    | str b => exact fin _ rfl (by simp) h
    | non => exact gen (.str a) .non h
    | bl b => exact gen (.str a) (.bl b) h
    | int b => exact gen (.str a) (.int b) h
    | lst k1 k2 k3 => exact gen (.str a) (.lst k1 k2 k3) h
    | tup k1 k2 k3 => exact gen (.str a) (.tup k1 k2 k3) h
  | int a =>
    cases dy with
    | int b => exact fin _ rfl (by simp) h
    | non => exact fin _ rfl (by simp) h
    | str b => exact gen (.int a) (.str b) h
    | bl b => exact gen (.int a) (.bl b) h
    | lst k1 k2 k3 => exact gen (.int a) (.lst k1 k2 k3) h
    | tup k1 k2 k3 => exact gen (.int a) (.tup k1 k2 k3) h
  | bl a =>
    cases dy with
    | bl b => exact fin _ rfl (by simp) h
    | non => exact gen (.bl a) .non h
    | str b => exact gen (.bl a) (.str b) h
    | int b => exact gen (.bl a) (.int b) h
    | lst k1 k2 k3 => exact gen (.bl a) (.lst k1 k2 k3) h
    | tup k1 k2 k3 => exact gen (.bl a) (.tup k1 k2 k3) h
  | non =>
    cases dy with
    | int b => exact fin _ rfl (by simp) h
    | non => exact fin _ rfl (by simp) h
    | bl b => exact gen .non (.bl b) h
    | str b => exact gen .non (.str b) h
    | lst k1 k2 k3 => exact gen .non (.lst k1 k2 k3) h
    | tup k1 k2 k3 => exact gen .non (.tup k1 k2 k3) h
  | lst h1 h2 h3 =>
    cases dy with
    | int b => exact gen (.lst h1 h2 h3) (.int b) h
    | non => exact gen (.lst h1 h2 h3) .non h
    | bl b => exact gen (.lst h1 h2 h3) (.bl b) h
    | str b => exact gen (.lst h1 h2 h3) (.str b) h
    | lst k1 k2 k3 => exact gen (.lst h1 h2 h3) (.lst k1 k2 k3) h
    | tup k1 k2 k3 => exact gen (.lst h1 h2 h3) (.tup k1 k2 k3) h
  | tup h1 h2 h3 =>
    cases dy with
    | int b => exact gen (.tup h1 h2 h3) (.int b) h
    | non => exact gen (.tup h1 h2 h3) .non h
    | bl b => exact gen (.tup h1 h2 h3) (.bl b) h
    | str b => exact gen (.tup h1 h2 h3) (.str b) h
    | lst k1 k2 k3 => exact gen (.tup h1 h2 h3) (.lst k1 k2 k3) h
    | tup k1 k2 k3 => exact gen (.tup h1 h2 h3) (.tup k1 k2 k3) h
theorem opW_ne {K : PySem.W.Frag} : OpW r (rNeA K) neW := by
  intro A H x y d e c P Q dx dy rd tr h q
  have gen : ∀ {d e : D}, DX A H x d → DX A H y e → (bW (gW (SeqAt.shaped d = true ∧ SeqAt.shaped e = true)) fun _ => rW (.bool (!PyData.eqv d e))) c P → (rNeA K) x y H Q := fun {d e} dx dy h =>
    .inr ⟨d, e, dx.dp, dy.dp, h.1.1, h.1.2, q _ c _ H h.2 (Same.refl H) rfl (.bl _)⟩
  have fin : ∀ k : Bool, scal x y = true → (!decide (x = y)) = k → P (.bool k) c → (rNeA K) x y H Q := fun k hs e h => .inl ⟨hs, by rw [e]; exact q _ c _ H h (Same.refl H) rfl (.bl _)⟩
  cases dx with
  | str a =>
    cases dy with
    | str b => exact fin _ rfl (by simp) h
    | non => exact gen (.str a) .non h
    | bl b => exact gen (.str a) (.bl b) h
    | int b => exact gen (.str a) (.int b) h
    | lst k1 k2 k3 => exact gen (.str a) (.lst k1 k2 k3) h
    | tup k1 k2 k3 => exact gen (.str a) (.tup k1 k2 k3) h
  | int a =>
    cases dy with
    | int b => exact fin _ rfl (by simp) h
    | non => exact fin _ rfl (by simp) h
    | str b => exact gen (.int a) (.str b) h
    | bl b => exact gen (.int a) (.bl b) h
    | lst k1 k2 k3 => exact gen (.int a) (.lst k1 k2 k3) h
    | tup k1 k2 k3 => exact gen (.int a) (.tup k1 k2 k3) h
  | bl a =>
    cases dy with
    | bl b => exact fin _ rfl (by simp) h
    | non => exact gen (.bl a) .non h
    | str b => exact gen (.bl a) (.str b) h
    | int b => exact gen (.bl a) (.int b) h
    | lst k1 k2 k3 => exact gen (.bl a) (.lst k1 k2 k3) h
    | tup k1 k2 k3 => exact gen (.bl a) (.tup k1 k2 k3) h
  | non =>
    cases dy with
    | int b => exact fin _ rfl (by simp) h
    | non => exact fin _ rfl (by simp) h
    | bl b => exact gen .non (.bl b) h
    | str b => exact gen .non (.str b) h
    | lst k1 k2 k3 => exact gen .non (.lst k1 k2 k3) h
    | tup k1 k2 k3 => exact gen .non (.tup k1 k2 k3) h
  | lst h1 h2 h3 =>
    cases dy with
    | int b => exact gen (.lst h1 h2 h3) (.int b) h
    | non => exact gen (.lst h1 h2 h3) .non h
    | bl b => exact gen (.lst h1 h2 h3) (.bl b) h
    | str b => exact gen (.lst h1 h2 h3) (.str b) h
    | lst k1 k2 k3 => exact gen (.lst h1 h2 h3) (.lst k1 k2 k3) h
    | tup k1 k2 k3 => exact gen (.lst h1 h2 h3) (.tup k1 k2 k3) h
  | tup h1 h2 h3 =>
    cases dy with
    | int b => exact gen (.tup h1 h2 h3) (.int b) h
    | non => exact gen (.tup h1 h2 h3) .non h
    | bl b => exact gen (.tup h1 h2 h3) (.bl b) h
    | str b => exact gen (.tup h1 h2 h3) (.str b) h
    | lst k1 k2 k3 => exact gen (.tup h1 h2 h3) (.lst k1 k2 k3) h
    | tup k1 k2 k3 => exact gen (.tup h1 h2 h3) (.tup k1 k2 k3) h
end
end FK
set_option Elab.async false
set_option linter.all false
set_option maxRecDepth 100000
set_option maxHeartbeats 4000000
/-! More expression rules of the data layer. -/
namespace FK
open PySem PySem.Spec L2

section
variable {X : Cx} {dl : DicL} {r : Option Addr}
/-! ### arithmetic with a premise -/
def intC (C : Int → Int → Prop) (p : Int → Int → Int) (d e : D) : W D := match d, e with
  | .int i, .int j => bW (gW (C i j)) fun _ => rW (.int (p i j))
  | _, _ => fW
theorem opW_intC {C : Int → Int → Prop} {p : Int → Int → Int} : OpW r (rI C fun i j => .int (p i j)) (intC C p) := by
  intro A H x y d e c P Q dx dy rd tr h q
  cases dx with
  | int i =>
    cases dy with
    | int j => exact ⟨i, j, rfl, rfl, h.1, q _ c _ H h.2 (Same.refl H) rfl (.int _)⟩
    | _ => exact (show False from h).elim
  | _ => exact (show False from h).elim
abbrev modW : D → D → W D := intC (fun _ j => 0 < j) fun i j => i % j
abbrev fdivW : D → D → W D := intC CDiv fun i j => i / j
abbrev powW : D → D → W D := intC CPow fun i j => i ^ j.toNat
/-! ### is None -/
def isNon : D → Bool
  | .none => true
  | _ => false
def isW (neg : Bool) (d e : D) : W D := match e with
  | .none => rW (.bool (if neg then !isNon d else isNon d))
  | _ => fW
theorem isNon_dx {A : List Addr} {H : Hp} {x : V} {d : D} (h : DX A H x d) : decide (x = .non) = isNon d := by
  cases h <;> simp [isNon]
theorem opW_is : OpW r (fun x y H Q => y = .non ∧ Q (.bl (decide (x = .non))) H) (isW false) := by
  intro A H x y d e c P Q dx dy rd tr h q
  cases dy with
  | non =>
    refine ⟨rfl, ?_⟩
    rw [isNon_dx dx]
    exact q _ c _ H h (Same.refl H) rfl (.bl _)
  | _ => exact (show False from h).elim
theorem opW_isnot : OpW r (fun x y H Q => y = .non ∧ Q (.bl (!decide (x = .non))) H) (isW true) := by
  intro A H x y d e c P Q dx dy rd tr h q
  cases dy with
  | non =>
    refine ⟨rfl, ?_⟩
    rw [isNon_dx dx]
    exact q _ c _ H h (Same.refl H) rfl (.bl _)
  | _ => exact (show False from h).elim
/-! ### in -/
/-- in: among the items of a list or a tuple, by data; one sign in a text -/
def inW (neg : Bool) (d e : D) : W D := match e with
  | .list xs => bW (gW (SeqAt.shaped d = true ∧ SeqAt.shaped (.list xs) = true)) fun _ => rW (.bool (if neg then !xs.any (fun z => PyData.eqv z d) else xs.any fun z => PyData.eqv z d))
  | .tuple xs => bW (gW (SeqAt.shaped d = true ∧ SeqAt.shaped (.list xs) = true)) fun _ => rW (.bool (if neg then !xs.any (fun z => PyData.eqv z d) else xs.any fun z => PyData.eqv z d))
  | .str z => (match neg, d with
    | false, .str y => (match y.cps with
      | ⟨[k]⟩ => rW (.bool (decide (k ∈ z.cps.toList)))
      | _ => fW)
    | _, _ => fW)
  | _ => fW
def rInT (K : PySem.W.Frag) : R2 := fun x y H Q => ∃ d ds, Dp K H x d ∧ Dp K H y (.tuple ds) ∧ SeqAt.shaped d = true ∧ SeqAt.shaped (.list ds) = true ∧ Q (.bl (ds.any fun z => PyData.eqv z d)) H
def rNotInT (K : PySem.W.Frag) : R2 := fun x y H Q => ∃ d ds, Dp K H x d ∧ Dp K H y (.tuple ds) ∧ SeqAt.shaped d = true ∧ SeqAt.shaped (.list ds) = true ∧ Q (.bl (!ds.any fun z => PyData.eqv z d)) H
theorem op_inT (hu : X.A.units + 65 < cLine) : OpR X (compareOp .In) (rInT X.K) := by
  intro pins s σ H x y v u Q I rx ry h
  obtain ⟨d, ds, hd, he, sd, se, q⟩ := h
  obtain ⟨as, r1⟩ := Dp.reads I d x v hd rx
  obtain ⟨bs, r2⟩ := Dp.reads I (.tuple ds) y u he ry
  exact SeqAt.in_tuple_reads r2 r1 (SeqAt.canLay_of_shaped se) (SeqAt.canLay_of_shaped sd) (PyProof.Rows.room_in_shaped sd hu) ⟨.bl _, H, I, rfl, q⟩
theorem op_notInT (hu : X.A.units + 65 < cLine) : OpR X (compareOp .NotIn) (rNotInT X.K) := by
  intro pins s σ H x y v u Q I rx ry h
  obtain ⟨d, ds, hd, he, sd, se, q⟩ := h
  obtain ⟨as, r1⟩ := Dp.reads I d x v hd rx
  obtain ⟨bs, r2⟩ := Dp.reads I (.tuple ds) y u he ry
  exact SeqAt.notIn_tuple_reads r2 r1 (SeqAt.canLay_of_shaped se) (SeqAt.canLay_of_shaped sd) (PyProof.Rows.room_in_shaped sd hu) ⟨.bl _, H, I, rfl, q⟩
def rInA (K : PySem.W.Frag) : R2 := fun x y H Q => (rInD K x y H Q ∨ rInT K x y H Q) ∨ rInS x y H Q
def rNotInA (K : PySem.W.Frag) : R2 := fun x y H Q => rNotInD K x y H Q ∨ rNotInT K x y H Q
theorem op_inA (hu : X.A.units + 65 < cLine) : OpR X (compareOp .In) (rInA X.K) := ((op_inD hu).or (op_inT hu)).or op_inS
theorem op_notInA (hu : X.A.units + 65 < cLine) : OpR X (compareOp .NotIn) (rNotInA X.K) := (op_notInD hu).or (op_notInT hu)
theorem opW_in {K : PySem.W.Frag} : OpW r (rInA K) (inW false) := by
  intro A H x y d e c P Q dx dy rd tr h q
  cases dy with
  | lst h1 h2 h3 => exact .inl (.inl ⟨_, _, dx.dp, DX.dp _ _ (.lst h1 h2 h3), h.1.1, h.1.2, q _ c _ H h.2 (Same.refl H) rfl (.bl _)⟩)
  | tup h1 h2 h3 => exact .inl (.inr ⟨_, _, dx.dp, DX.dp _ _ (.tup h1 h2 h3), h.1.1, h.1.2, q _ c _ H h.2 (Same.refl H) rfl (.bl _)⟩)
  | str z =>
    cases dx with
    | str y =>
      obtain ⟨⟨l⟩⟩ := y
      match l, h with
      | [k], h => exact .inr ⟨k, z, rfl, rfl, q _ c _ H h (Same.refl H) rfl (.bl _)⟩
      | [], h => exact (show False from h).elim
      | _ :: _ :: _, h => exact (show False from h).elim
    | _ => exact (show False from h).elim
  | _ => exact (show False from h).elim
theorem opW_notIn {K : PySem.W.Frag} : OpW r (rNotInA K) (inW true) := by
  intro A H x y d e c P Q dx dy rd tr h q
  cases dy with
  | lst h1 h2 h3 => exact .inl ⟨_, _, dx.dp, DX.dp _ _ (.lst h1 h2 h3), h.1.1, h.1.2, q _ c _ H h.2 (Same.refl H) rfl (.bl _)⟩
  | tup h1 h2 h3 => exact .inr ⟨_, _, dx.dp, DX.dp _ _ (.tup h1 h2 h3), h.1.1, h.1.2, q _ c _ H h.2 (Same.refl H) rfl (.bl _)⟩
  | _ => exact (show False from h).elim
/-! ### a chain -/
theorem pw_chain {op op' : CmpOp} {r1 r2 : R2} {g1 g2 : D → D → W D} {a b e : Expr} {fa fb fc : Rho → W D} {pos : Pos} (hg1 : OpW r r1 g1) (hg2 : OpW r r2 g2) (ho : OpR X (compareOp op) r1) (ho' : OpR X (compareOp op') r2)
    (ha : PE X a (tW dl r fa)) (hb : PE X b (tW dl r fb)) (hc : PE X e (tW dl r fc)) (hm : lastMarks [op, op'] [b, e] = false := by with_unfolding_all rfl) :
    PE X (.Compare a [op, op'] [b, e] pos) (tW dl r fun ρ => bW (fa ρ) fun x => bW (fb ρ) fun y => bW (bW (g1 x y) asB) fun k => if k = true then bW (fc ρ) fun z => g2 y z else rW (.bool false)) :=
  PE.imp (pe_chain ho ho' ha hb hc hm) fun σ H Q ⟨A0, B, ρ, c, P, E, hp, q⟩ => ⟨A0, B, ρ, c, _, E, hp, fun d c1 x H1 p1 e1 rd1 dx => ⟨A0, B, ρ, c1, _, E.ext e1 rd1, p1, fun d2 c2 y H2 p2 e2 rd2 dy => by
    have E2 := (E.ext e1 rd1).ext e2 rd2
    refine hg1 (B ++ A0) H2 x y d d2 c2 _ _ (dx.ext e2 E.rAB) dy rd2 E2.trk p2 fun d3 c3 v H3 p3 s3 ec dv => ?_
    subst ec
    have rd3 := rd2.same s3
    have E3 := E2.ext (.of_same s3) rd3
    cases dv with
    | bl k =>
      refine ⟨k, rfl, ?_⟩
      cases k with
      | true =>
        refine iteT ⟨A0, B, ρ, c3, _, E3, p3, fun d4 c4 z H4 p4 e4 rd4 dz => ?_⟩
        have E4 := E3.ext e4 rd4
        refine hg2 (B ++ A0) H4 y z d2 d4 c4 P Q ((dy.same s3).ext e4 E.rAB) dz rd4 E4.trk p4 fun d5 c5 v5 H5 p5 s5 ec dv5 => ?_
        subst ec
        exact q d5 c5 v5 H5 p5 ((((e1.trans e2).trans (.of_same s3)).trans e4).trans (.of_same s5)) (rd4.same s5) dv5
      | false => exact iteF (q _ c3 _ H3 p3 ((e1.trans e2).trans (.of_same s3)) rd3 (.bl false))
    | _ => exact (show False from p3).elim⟩⟩
/-- a value that is a bool, as a test -/
theorem pwt_val {e : Expr} {f : Rho → W D} (h : PE X e (tW dl r f)) (he : ∀ whole, isTrue e X.env whole = (do let v ← whole; standAt e.pos; holding [v] (truthy v)) := by intro _; rfl) : PT X e (tWT dl r fun ρ => bW (f ρ) asB) :=
  PT.imp (pt_val h he) fun σ H Q hh => tTest_of (t := tW dl r f) (fun _ _ _ h => h) hh
theorem pwt_chain {op op' : CmpOp} {r1 r2 : R2} {g1 g2 : D → D → W D} {a b e : Expr} {fa fb fc : Rho → W D} {pos : Pos} (hg1 : OpW r r1 g1) (hg2 : OpW r r2 g2) (ho : OpR X (compareOp op) r1) (ho' : OpR X (compareOp op') r2)
    (ha : PE X a (tW dl r fa)) (hb : PE X b (tW dl r fb)) (hc : PE X e (tW dl r fc)) (hm : lastMarks [op, op'] [b, e] = false := by with_unfolding_all rfl) :
    PT X (.Compare a [op, op'] [b, e] pos) (tWT dl r fun ρ => bW (bW (fa ρ) fun x => bW (fb ρ) fun y => bW (bW (g1 x y) asB) fun k => if k = true then bW (fc ρ) fun z => g2 y z else rW (.bool false)) asB) := by
  refine PT.imp (pt_chain ho ho' ha hb hc hm) fun σ H Q h => ?_
  obtain ⟨A0, B, ρ, c, P, E, hp, q⟩ := h
  refine ⟨A0, B, ρ, c, _, E, hp, fun d c1 x H1 p1 e1 rd1 dx => ⟨A0, B, ρ, c1, _, E.ext e1 rd1, p1, fun d2 c2 y H2 p2 e2 rd2 dy => ?_⟩⟩
  have E2 := (E.ext e1 rd1).ext e2 rd2
  refine hg1 (B ++ A0) H2 x y d d2 c2 _ _ (dx.ext e2 E.rAB) dy rd2 E2.trk p2 fun d3 c3 v H3 p3 s3 ec dv => ?_
  subst ec
  have rd3 := rd2.same s3
  have E3 := E2.ext (.of_same s3) rd3
  cases dv with
  | bl k =>
    refine ⟨k, rfl, ?_⟩
    cases k with
    | true =>
      refine iteT ⟨A0, B, ρ, c3, _, E3, p3, fun d4 c4 z H4 p4 e4 rd4 dz => ?_⟩
      have E4 := E3.ext e4 rd4
      refine hg2 (B ++ A0) H4 y z d2 d4 c4 _ _ ((dy.same s3).ext e4 E.rAB) dz rd4 E4.trk p4 fun d5 c5 v5 H5 p5 s5 ec dv5 => ?_
      subst ec
      cases dv5 with
      | bl k => exact ⟨k, rfl, q k c5 H5 p5 ((((e1.trans e2).trans (.of_same s3)).trans e4).trans (.of_same s5)) (rd4.same s5)⟩
      | _ => exact (show False from p5).elim
    | false => exact iteF ⟨false, rfl, q false c3 H3 p3 ((e1.trans e2).trans (.of_same s3)) rd3⟩
  | _ => exact (show False from p3).elim
/-! ### subscripts -/
def ixW (d e : D) : W D := match d, e with
  | .list xs, .int i => (match atI xs i with
    | some v => rW v
    | none => fW)
  | .tuple xs, .int i => (match atI xs i with
    | some v => rW v
    | none => fW)
  | _, _ => fW
theorem DXs.atI {A : List Addr} {H : Hp} {vs : List V} {ds : List D} {i : Int} {d : D} (h : DXs A H vs ds) (e : L2.atI ds i = some d) : ∃ v, L2.atI vs i = some v ∧ DX A H v d := by
  unfold L2.atI at e ⊢
  rw [h.length]
  cases z : ixN ds.length i with
  | none => rw [z] at e; cases e
  | some j =>
    rw [z] at e
    obtain ⟨v, h1, h2⟩ := h.get (show ds[j]? = some d from e)
    exact ⟨v, h1, h2⟩
theorem opW_ix {K : PySem.W.Frag} : OpW r (rIx K) ixW := by
  intro A H x y d e c P Q dx dy rd tr h q
  cases dx with
  | lst h1 h2 h3 =>
    cases dy with
    | int i =>
      rename_i ds
      have h' : (match L2.atI ds i with | some v => rW v | none => fW) c P := h
      cases z : L2.atI ds i with
      | none => rw [z] at h'; exact (show False from h').elim
      | some v =>
        rw [z] at h'
        obtain ⟨u, e1, e2⟩ := h3.atI z
        exact .inl ⟨_, _, i, u, rfl, rfl, SqL.of h1, e1, q _ c _ H h' (Same.refl H) rfl e2⟩
    | _ => exact (show False from h).elim
  | tup h1 h2 h3 =>
    cases dy with
    | int i =>
      rename_i ds
      have h' : (match L2.atI ds i with | some v => rW v | none => fW) c P := h
      cases z : L2.atI ds i with
      | none => rw [z] at h'; exact (show False from h').elim
      | some v =>
        rw [z] at h'
        obtain ⟨u, e1, e2⟩ := h3.atI z
        exact .inr (.inl ⟨_, _, i, u, rfl, rfl, SqT.of h1, e1, q _ c _ H h' (Same.refl H) rfl e2⟩)
    | _ => exact (show False from h).elim
  | _ => cases dy <;> exact (show False from h).elim
theorem pw_ix {a b : Expr} {fa fb : Rho → W D} {pos : Pos} (ha : PE X a (tW dl r fa)) (hb : PE X b (tW dl r fb)) (hs : PlainIx b := by intro _ _; rfl) :
    PE X (.Subscript a b pos) (tW dl r fun ρ => bW (fa ρ) fun d => bW (fb ρ) fun e => ixW d e) := PE.imp (pe_ix ix_seq ha hb hs) fun _ _ _ h => tOp_of opW_ix h
/-! ### slices -/
def cutD (xs : List D) (lo hi : Option Int) : List D := (xs.drop (HT.sIx xs.length 0 lo)).take (HT.sIx xs.length xs.length hi - HT.sIx xs.length 0 lo)
theorem DXs.cut {A : List Addr} {H : Hp} {vs : List V} {ds : List D} (h : DXs A H vs ds) (lo hi : Option Int) : DXs A H (cutV vs lo hi) (cutD ds lo hi) := by
  unfold cutV cutD
  rw [h.length]
  exact (h.drop _).take _
theorem cutD_all {xs : List D} {lo hi : Option Int} (h : HT.sIx xs.length 0 lo = 0 ∧ HT.sIx xs.length xs.length hi = xs.length) : cutD xs lo hi = xs := by
  unfold cutD
  rw [h.1, h.2]
  simp
def slW (d : D) (lo hi : Option Int) : W D := match d with
  | .list xs => rW (.list (cutD xs lo hi))
  | .tuple xs => rW (.tuple (cutD xs lo hi))
  | _ => fW
theorem pwo_none : PO X none (tWO dl r fun _ => rW none) := ⟨fun pins s σ H Q I ⟨A0, B, ρ, c, P, E, hp, q⟩ => po_none.run pins s σ H Q I (q none c H hp (Ext.refl r H) E.rok)⟩
def asI : D → W Int
  | .int i => rW i
  | _ => fW
theorem pwo_some {e : Expr} {f : Rho → W D} (h : PE X e (tW dl r f)) : PO X (some e) (tWO dl r fun ρ => bW (f ρ) fun d => bW (asI d) fun i => rW (some i)) :=
  ⟨fun pins s σ H Q I ⟨A0, B, ρ, c, P, E, hp, q⟩ => (po_some h).run pins s σ H Q I ⟨A0, B, ρ, c, _, E, hp, fun d c1 x H1 p1 e1 rd1 dx => by
    cases dx with
    | int i => exact ⟨i, rfl, q (some i) c1 H1 p1 e1 rd1⟩
    | _ => exact (show False from p1).elim⟩⟩
theorem pw_slice {e : Expr} {lo hi : Option Expr} {f : Rho → W D} {fl fh : Rho → W (Option Int)} {pos p2 : Pos} (he : PE X e (tW dl r f)) (hl : PO X lo (tWO dl r fl)) (hh : PO X hi (tWO dl r fh)) :
    PE X (.Subscript e (.Slice lo hi none p2) pos) (tW dl r fun ρ => bW (f ρ) fun d => bW (fl ρ) fun l => bW (fh ρ) fun u => slW d l u) :=
  PE.imp (pe_slice (sl_list.or sl_tupA) he hl hh) fun σ H Q ⟨A0, B, ρ, c, P, E, hp, q⟩ => ⟨A0, B, ρ, c, _, E, hp, fun d c1 x H1 p1 e1 rd1 dx => ⟨A0, B, ρ, c1, _, E.ext e1 rd1, p1, fun l c2 H2 p2 e2 rd2 => ⟨A0, B, ρ, c2, _, (E.ext e1 rd1).ext e2 rd2, p2, fun u c3 H3 p3 e3 rd3 => by
    have E3 := ((E.ext e1 rd1).ext e2 rd2).ext e3 rd3
    have dx3 := (dx.ext e2 E.rAB).ext e3 E.rAB
    have ee := (e1.trans e2).trans e3
    cases dx3 with
    | lst h1 h2 h3 => exact .inl ⟨_, _, rfl, SqL.of h1, fun p hp => q _ c3 _ _ p3 (ee.trans (.of_same (same_new hp))) (rd3.same (same_new hp)) (.lst upd_same (fun z => E3.trk p z hp) ((h3.cut l u).same (same_new hp)))⟩
    | tup h1 h2 h3 =>
      refine .inr ⟨_, _, rfl, SqT.of h1, fun hw => ?_, fun hw p hp => ?_⟩
      · refine q _ c3 _ H3 p3 ee rd3 (.tup h1 h2 ?_)
        rw [cutD_all (by rw [← h3.length]; exact hw)]
        exact h3
      · exact q _ c3 _ _ p3 (ee.trans (.of_same (same_new hp))) (rd3.same (same_new hp)) (.tup upd_same (fun z => E3.trk p z hp) ((h3.cut l u).same (same_new hp)))
    | _ => exact (show False from p3).elim⟩⟩⟩
/-! ### written tuples, lists -/
theorem paw_nil : PA X [] (tWA dl r fun _ => rW []) := ⟨fun pos pins s σ H Q I ⟨A0, B, ρ, c, P, E, hp, q⟩ => pa_nil.run pos pins s σ H Q I (q [] c [] H hp (Ext.refl r H) E.rok .nil)⟩
theorem paw_cons {e : Expr} {es : List Expr} {f : Rho → W D} {g : Rho → W (List D)} (h : PE X e (tW dl r f)) (hr : PA X es (tWA dl r g)) (hs : starEach (e :: es) X.env = (false, eval e X.env) :: starEach es X.env := by rfl) :
    PA X (e :: es) (tWA dl r fun ρ => bW (f ρ) fun d => bW (g ρ) fun ds => rW (d :: ds)) :=
  PA.imp (pa_cons h hr hs) fun σ H Q ⟨A0, B, ρ, c, P, E, hp, q⟩ => ⟨A0, B, ρ, c, _, E, hp, fun d c1 x H1 p1 e1 rd1 dx => ⟨A0, B, ρ, c1, _, E.ext e1 rd1, p1, fun ds c2 vs H2 p2 e2 rd2 dv =>
    q (d :: ds) c2 (x :: vs) H2 p2 (e1.trans e2) rd2 (.cons (dx.ext e2 E.rAB) dv)⟩⟩
theorem pw_tup {es : List Expr} {k : Nat} {pos : Pos} {f : Rho → W (List D)} (h : PA X es (tWA dl r f)) : PE X (.Tuple es k pos) (tW dl r fun ρ => bW (f ρ) fun ds => bW (gW (ds.length ≤ LIM)) fun _ => rW (.tuple ds)) :=
  PE.imp (pe_tup h) fun σ H Q ⟨A0, B, ρ, c, P, E, hp, q⟩ => ⟨A0, B, ρ, c, _, E, hp, fun ds c1 vs H1 p1 e1 rd1 dv => by
    have hz := lim_line
    have hl := dv.length
    obtain ⟨p0, p1⟩ := p1
    exact ⟨by omega, fun p hp => q _ c1 _ _ p1 (e1.trans (.of_same (same_new hp))) (rd1.same (same_new hp)) (.tup upd_same (fun z => (E.ext e1 rd1).trk p z hp) (dv.same (same_new hp)))⟩⟩
theorem pw_lst {es : List Expr} {pos : Pos} {f : Rho → W (List D)} (h : PA X es (tWA dl r f)) : PE X (.List es pos) (tW dl r fun ρ => bW (f ρ) fun ds => bW (gW (ds.length ≤ LIM)) fun _ => rW (.list ds)) :=
  PE.imp (pe_lst h) fun σ H Q ⟨A0, B, ρ, c, P, E, hp, q⟩ => ⟨A0, B, ρ, c, _, E, hp, fun ds c1 vs H1 p1 e1 rd1 dv => by
    have hz := lim_line
    have hl := dv.length
    obtain ⟨p0, p1⟩ := p1
    exact ⟨by omega, fun p hp => q _ c1 _ _ p1 (e1.trans (.of_same (same_new hp))) (rd1.same (same_new hp)) (.lst upd_same (fun z => (E.ext e1 rd1).trk p z hp) (dv.same (same_new hp)))⟩⟩
end
end FK
set_option Elab.async false
set_option linter.all false
set_option maxRecDepth 100000
set_option maxHeartbeats 4000000
/-! Calls, walks, comprehensions of the data layer. -/
namespace FK
open PySem PySem.Spec L2

section
variable {X : Cx} {dl : DicL} {r : Option Addr}
/-! ### calls of built-ins -/
def CalW (rr : List V → Hp → VK → Prop) (g : List D → W D) : Prop := ∀ A H xs ds c P Q, DXs A H xs ds → (∀ a ∈ A, H a ≠ none) → g ds c P →
  (∀ d' c' v H', P d' c' → Same H H' → c' = c → DX A H' v d' → Q v H') → rr xs H Q
theorem tCB_of {rr : List V → Hp → VK → Prop} {g : List D → W D} {f : Rho → W (List D)} (hg : CalW rr g) {σ : L2.St} {H : Hp} {Q : VK} (h : tW dl r (fun ρ => bW (f ρ) g) σ H Q) : tCB rr (tWA dl r f) σ H Q := by
  obtain ⟨A0, B, ρ, c, P, E, hp, q⟩ := h
  refine ⟨A0, B, ρ, c, _, E, hp, fun ds c1 xs H1 p1 e1 rd1 dx => ?_⟩
  have E1 := E.ext e1 rd1
  refine hg (B ++ A0) H1 xs ds c1 P Q dx E1.trk p1 fun d' c' v H' p3 s3 ec dv => ?_
  subst ec
  exact q d' c' v H' p3 (e1.trans (.of_same s3)) (rd1.same s3) dv
theorem pw_callB {x : Str} {p pos : Pos} {e : Expr} {es : List Expr} {id : String} {rr : List V → Hp → VK → Prop} {g : List D → W D} {f : Rho → W (List D)} (hw : CalW rr g) (hc : CallR X (.builtin id) rr) (hm : X.mg x = none) (ha : PA X (e :: es) (tWA dl r f))
    (hg : Gl X x := by rfl) (hv : bootBuiltins x = some (.builtin id) := by kernel_rfl) (hn : x ≠ "__name__" := by decide) (hdb : (x == ("__debug__" : Str)) = false := by decide)
    (he : starEach (e :: es) X.env = (false, eval e X.env) :: starEach es X.env := by rfl) (hpl : (backTo pos (starEach es X.env)).any (·.1) = false := by rfl) :
    PE X (.Call (.Name x p) (e :: es) [] pos) (tW dl r fun ρ => bW (f ρ) g) := PE.imp (pe_callB hc hg hm hv ha hn hdb he hpl) fun _ _ _ h => tCB_of hw h
theorem pw_callTy {x : Str} {p pos : Pos} {e : Expr} {es : List Expr} {T : String} {rr : List V → Hp → VK → Prop} {g : List D → W D} {f : Rho → W (List D)} (hw : CalW rr g) (hc : CallR X (.type T) rr) (hm : X.mg x = none) (ha : PA X (e :: es) (tWA dl r f))
    (hg : Gl X x := by rfl) (hv : bootBuiltins x = some (.type T) := by kernel_rfl) (hn : x ≠ "__name__" := by decide) (hdb : (x == ("__debug__" : Str)) = false := by decide)
    (he : starEach (e :: es) X.env = (false, eval e X.env) :: starEach es X.env := by rfl) (hpl : (backTo pos (starEach es X.env)).any (·.1) = false := by rfl) :
    PE X (.Call (.Name x p) (e :: es) [] pos) (tW dl r fun ρ => bW (f ρ) g) := PE.imp (pe_callTy hc hg hm hv ha hn hdb he hpl) fun _ _ _ h => tCB_of hw h
def lenW : List D → W D
  | [.str x] => bW (gW (x.length ≤ LIM)) fun _ => rW (.int x.length)
  | [.list xs] => rW (.int xs.length)
  | [.tuple xs] => rW (.int xs.length)
  | _ => fW
theorem calW_len {K : PySem.W.Frag} : CalW (fun xs H Q => ∃ x n, xs = [x] ∧ LenV K x H n ∧ Q (.int n) H) lenW := by
  intro A H xs ds c P Q dx tr h q
  have hz := lim_line
  cases dx with
  | nil => exact (show False from h).elim
  | cons d1 d2 =>
    cases d2 with
    | cons _ _ =>
      cases d1 <;> exact (show False from h).elim
    | nil =>
      cases d1 with
      | str x => exact ⟨_, _, rfl, ⟨by have h1 := h.1; omega, rfl⟩, q _ c _ H h.2 (Same.refl H) rfl (.int _)⟩
      | lst h1 h2 h3 => exact ⟨_, _, rfl, .inl ⟨_, SqL.of h1, rfl⟩, by rw [h3.length]; exact q _ c _ H h (Same.refl H) rfl (.int _)⟩
      | tup h1 h2 h3 => exact ⟨_, _, rfl, .inr ⟨_, SqT.of h1, rfl⟩, by rw [h3.length]; exact q _ c _ H h (Same.refl H) rfl (.int _)⟩
      | _ => exact (show False from h).elim
def sumW : List D → W D
  | [.list xs] => fun c P => ∃ ns : List Int, xs = ns.map PyData.int ∧ P (.int ns.sum) c
  | _ => fW
theorem calW_sum {K : PySem.W.Frag} : CalW (rSum K) sumW := by
  intro A H xs ds c P Q dx tr h q
  cases dx with
  | nil => exact (show False from h).elim
  | cons d1 d2 =>
    cases d2 with
    | cons _ _ => cases d1 <;> exact (show False from h).elim
    | nil =>
      cases d1 with
      | lst h1 h2 h3 =>
        obtain ⟨ns, e, h⟩ := h
        subst e
        rw [DXs.ints h3] at h1
        exact ⟨_, ns, rfl, SqL.of h1, q _ c _ H h (Same.refl H) rfl (.int _)⟩
      | _ => exact (show False from h).elim
def allW : List D → W D
  | [.list xs] => fun c P => ∃ bs : List Bool, xs = bs.map PyData.bool ∧ P (.bool (bs.all id)) c
  | _ => fW
theorem calW_all {K : PySem.W.Frag} : CalW (rAll K) allW := by
  intro A H xs ds c P Q dx tr h q
  cases dx with
  | nil => exact (show False from h).elim
  | cons d1 d2 =>
    cases d2 with
    | cons _ _ => cases d1 <;> exact (show False from h).elim
    | nil =>
      cases d1 with
      | lst h1 h2 h3 =>
        obtain ⟨ns, e, h⟩ := h
        subst e
        rw [DXs.bls h3] at h1
        exact ⟨_, ns, rfl, SqL.of h1, q _ c _ H h (Same.refl H) rfl (.bl _)⟩
      | _ => exact (show False from h).elim
def tupleW : List D → W D
  | [.list xs] => rW (.tuple xs)
  | [.tuple xs] => rW (.tuple xs)
  | _ => fW
theorem calW_tuple {K : PySem.W.Frag} : CalW (fun xs H Q => ∃ p ys, xs = [.ref p] ∧ ((SqL K H p ys ∧ ∀ l, H l = none → Q (.ref l) (upd H l (.tup ys))) ∨ (SqT K H p ys ∧ Q (.ref p) H))) tupleW := by
  intro A H xs ds c P Q dx tr h q
  cases dx with
  | nil => exact (show False from h).elim
  | cons d1 d2 =>
    cases d2 with
    | cons _ _ => cases d1 <;> exact (show False from h).elim
    | nil =>
      cases d1 with
      | lst h1 h2 h3 => exact ⟨_, _, rfl, .inl ⟨SqL.of h1, fun p hp => q _ c _ _ h (same_new hp) rfl (.tup upd_same (fun z => tr p z hp) (h3.same (same_new hp)))⟩⟩
      | tup h1 h2 h3 => exact ⟨_, _, rfl, .inr ⟨SqT.of h1, q _ c _ H h (Same.refl H) rfl (.tup h1 h2 h3)⟩⟩
      | _ => exact (show False from h).elim
def listW : List D → W D
  | [.list xs] => rW (.list xs)
  | [.tuple xs] => rW (.list xs)
  | _ => fW
theorem calW_list {K : PySem.W.Frag} : CalW (fun xs H Q => ∃ p ys, xs = [.ref p] ∧ (SqL K H p ys ∨ SqT K H p ys) ∧ ∀ l, H l = none → Q (.ref l) (upd H l (.lst ys))) listW := by
  intro A H xs ds c P Q dx tr h q
  cases dx with
  | nil => exact (show False from h).elim
  | cons d1 d2 =>
    cases d2 with
    | cons _ _ => cases d1 <;> exact (show False from h).elim
    | nil =>
      cases d1 with
      | lst h1 h2 h3 => exact ⟨_, _, rfl, .inl (SqL.of h1), fun p hp => q _ c _ _ h (same_new hp) rfl (.lst upd_same (fun z => tr p z hp) (h3.same (same_new hp)))⟩
      | tup h1 h2 h3 => exact ⟨_, _, rfl, .inr (SqT.of h1), fun p hp => q _ c _ _ h (same_new hp) rfl (.lst upd_same (fun z => tr p z hp) (h3.same (same_new hp)))⟩
      | _ => exact (show False from h).elim
def min2W : List D → W D
  | [.int i, .int j] => rW (.int (if j < i then j else i))
  | _ => fW
theorem calW_min2 : CalW (fun xs H Q => ∃ i j, xs = [.int i, .int j] ∧ Q (.int (if j < i then j else i)) H) min2W := by
  intro A H xs ds c P Q dx tr h q
  match ds, xs, dx, h with
  | [.int i, .int j], _, .cons (.int _) (.cons (.int _) .nil), h => exact ⟨i, j, rfl, q _ c _ H h (Same.refl H) rfl (.int _)⟩
def intW : List D → W D
  | [.int i] => rW (.int i)
  | _ => fW
theorem calW_int : CalW (fun xs H Q => (∃ i, xs = [.int i] ∧ Q (.int i) H) ∨ ∃ k, xs = [.bl k] ∧ Q (.int (if k then 1 else 0)) H) intW := by
  intro A H xs ds c P Q dx tr h q
  match ds, xs, dx, h with
  | [.int i], _, .cons (.int _) .nil, h => exact .inl ⟨i, rfl, q _ c _ H h (Same.refl H) rfl (.int _)⟩
/-! ### isinstance(e, T), T a built-in type -/
def tyD : D → String
  | .none => "NoneType"
  | .bool _ => "bool"
  | .int _ => "int"
  | .str _ => "str"
  | .list _ => "list"
  | .tuple _ => "tuple"
  | .dict _ => "dict"
/-- what isinstance answers of the types that the program asks for -/
def isD (T : String) (d : D) : Bool := tyD d == T || (tyD d == "bool" && T == "int")
structure IsT (T : String) : Prop where
  ty : ∀ t ∈ ["NoneType", "bool", "int", "str", "list", "tuple"], kitB t T = some (t == T || (t == "bool" && T == "int"))
theorem isT_int : IsT "int" := ⟨by decide +kernel⟩
theorem isT_bool : IsT "bool" := ⟨by decide +kernel⟩
theorem isT_str : IsT "str" := ⟨by decide +kernel⟩
theorem isT_tuple : IsT "tuple" := ⟨by decide +kernel⟩
theorem DX.tyX {K : PySem.W.Frag} {A : List Addr} {H : Hp} {v : V} {d : D} (h : DX A H v d) : TyX K H v (.type (tyD d)) ∧ tyD d ∈ ["NoneType", "bool", "int", "str", "list", "tuple"] := by
  cases h with
  | non => exact ⟨.base .non, by simp [tyD]⟩
  | bl b => exact ⟨.base (.bl b), by simp [tyD]⟩
  | int i => exact ⟨.base (.int i), by simp [tyD]⟩
  | str i => exact ⟨.base (.str i), by simp [tyD]⟩
  | lst h1 h2 h3 => exact ⟨.base (.lst h1), by simp [tyD]⟩
  | tup h1 h2 h3 => exact ⟨.base (.tup h1), by simp [tyD]⟩
theorem pw_isa {x y : Str} {p p2 pos : Pos} {e : Expr} {T : String} {f : Rho → W D} (hT : IsT T) (hmx : X.mg x = none) (hmy : X.mg y = none) (h : PE X e (tW dl r f)) (hg : Gl X x := by rfl) (hgy : Gl X y := by rfl)
    (hv : bootBuiltins x = some (.builtin "isinstance") := by kernel_rfl) (hvy : bootBuiltins y = some (.type T) := by kernel_rfl) (hn : x ≠ "__name__" := by decide) (hny : y ≠ "__name__" := by decide) (hdb : (x == ("__debug__" : Str)) = false := by decide) (hdby : (y == ("__debug__" : Str)) = false := by decide)
    (he : starEach (e :: [.Name y p2]) X.env = (false, eval e X.env) :: starEach [.Name y p2] X.env := by rfl) (hpl : (backTo pos (starEach [.Name y p2] X.env)).any (·.1) = false := by rfl)
    (hs2 : starEach [.Name y p2] X.env = (false, eval (.Name y p2) X.env) :: starEach [] X.env := by rfl) :
    PE X (.Call (.Name x p) [e, .Name y p2] [] pos) (tW dl r fun ρ => bW (f ρ) fun d => rW (.bool (isD T d))) :=
  PE.imp (pe_callB call_isi hg hmx hv (pa_cons h (pa_cons (pe_bltn hgy hmy hvy (v := .ty T) rfl hny hdby) pa_nil hs2) he) hn hdb he hpl) fun σ H Q ⟨A0, B, ρ, c, P, E, hp, q⟩ =>
    ⟨A0, B, ρ, c, _, E, hp, fun d c1 v H1 p1 e1 rd1 dx => by
      obtain ⟨t1, t2⟩ := dx.tyX (K := X.K)
      exact ⟨v, .ty T, _, .type T, _, rfl, .ty T, t1, kit_ty (hT.ty _ t2), q _ c1 _ H1 p1 e1 rd1 (.bl _)⟩⟩

/-! ### calls of defs -/
inductive Out where
  | rt (d : D) | ex (w a : D)
/-- an argument -/
def ArX (dl : DicL) (A : List Addr) (r : Option Addr) (H : Hp) (v : V) : Sl → Prop
  | .dat d => DX A H v d
  | .dic w kvs => w = false ∧ ∃ a, v = .ref a ∧ a ∈ A ∧ r ≠ some a ∧ H a = some (.ext (dl a kvs))
  | .rd => ∃ a, v = .ref a ∧ r = some a
  | _ => False
inductive ArXs (dl : DicL) (A : List Addr) (r : Option Addr) (H : Hp) : List V → List Sl → Prop
  | nil : ArXs dl A r H [] []
  | cons {v vs s ss} : ArX dl A r H v s → ArXs dl A r H vs ss → ArXs dl A r H (v :: vs) (s :: ss)
theorem ArX.ext {A : List Addr} {H H' : Hp} {v : V} {s : Sl} (h : ArX dl A r H v s) (e : Ext r H H') (hr : ∀ a, r = some a → a ∈ A) : ArX dl A r H' v s := by
  cases s with
  | dat d => exact DX.ext h e hr
  | dic w kvs =>
    obtain ⟨h0, a, h1, h2, h3, h4⟩ := h
    exact ⟨h0, a, h1, h2, h3, e a _ h3 h4⟩
  | rd => exact h
  | _ => exact h
theorem ArXs.length {A : List Addr} {H : Hp} : ∀ {vs : List V} {ss : List Sl}, ArXs dl A r H vs ss → vs.length = ss.length
  | _, _, .nil => rfl
  | _, _, .cons _ t => congrArg (· + 1) (ArXs.length t)
theorem ArXs.app {A : List Addr} {H : Hp} : ∀ {vs ws : List V} {ss ts : List Sl}, ArXs dl A r H vs ss → ArXs dl A r H ws ts → ArXs dl A r H (vs ++ ws) (ss ++ ts)
  | _, _, _, _, .nil, s => s
  | _, _, _, _, .cons h t, s => .cons h (ArXs.app t s)
theorem ArXs.get {A : List Addr} {H : Hp} : ∀ {vs : List V} {ss : List Sl} {i : Nat} {s : Sl}, ArXs dl A r H vs ss → ss[i]? = some s → ∃ v, vs[i]? = some v ∧ ArX dl A r H v s
  | _, _, _, _, .nil, e => by simp at e
  | _, _, 0, _, .cons h _, e => by
    have e' : _ = _ := Option.some.inj e
    subst e'
    exact ⟨_, rfl, h⟩
  | _, _, i + 1, s, .cons _ t, e => by
    obtain ⟨u, h1, h2⟩ := ArXs.get (i := i) (s := s) t (by simpa using e)
    exact ⟨u, by simpa using h1, h2⟩
/-- what is told of an exception: the class at C, word and at in its dict -/
def XD (C : Addr) (A : List Addr) (H : Hp) (cls : Value) (d : Option Addr) (w a : D) : Prop :=
  cls = .ref C ∧ ∃ dd vw va, d = some dd ∧ H dd = some (.xd [("word", vw), ("at", va)]) ∧ DX A H vw w ∧ DX A H va a
/-- a def's promise, by data -/
def spG (dl : DicL) (C : Addr) (g : List Sl → Nat → (Out → Nat → Prop) → Prop) : Sp := fun vs H Q E => ∃ A r c sls P, (∀ a ∈ A, H a ≠ none) ∧ (∀ a ∈ A, ∀ xs, H a ≠ some (.tup xs)) ∧ (∀ a, r = some a → a ∈ A) ∧ RdO r H c ∧ ArXs dl A r H vs sls ∧
  g sls c P ∧ (∀ d c' v H', P (.rt d) c' → Ext r H H' → RdO r H' c' → DX A H' v d → Q v H') ∧ ∀ w a c' cls dd H', P (.ex w a) c' → Ext r H H' → RdO r H' c' → XD C A H' cls dd w a → E cls dd H'
/-- an argument list's reading -/
def tWR (dl : DicL) (r : Option Addr) (f : Rho → W (List Sl)) : TA := fun σ H Q => ∃ A0 B ρ c P, Env1 dl A0 B r H σ ρ c ∧ f ρ c P ∧ ∀ ds c' vs H', P ds c' → Ext r H H' → RdO r H' c' → ArXs dl (B ++ A0) r H' vs ds → Q vs H'
theorem par_nil : PA X [] (tWR dl r fun _ => rW []) := ⟨fun pos pins s σ H Q I ⟨A0, B, ρ, c, P, E, hp, q⟩ => pa_nil.run pos pins s σ H Q I (q [] c [] H hp (Ext.refl r H) E.rok .nil)⟩
theorem par_dat {e : Expr} {es : List Expr} {f : Rho → W D} {g : Rho → W (List Sl)} (h : PE X e (tW dl r f)) (hr : PA X es (tWR dl r g)) (hs : starEach (e :: es) X.env = (false, eval e X.env) :: starEach es X.env := by rfl) :
    PA X (e :: es) (tWR dl r fun ρ => bW (f ρ) fun d => bW (g ρ) fun ds => rW (.dat d :: ds)) :=
  PA.imp (pa_cons h hr hs) fun σ H Q ⟨A0, B, ρ, c, P, E, hp, q⟩ => ⟨A0, B, ρ, c, _, E, hp, fun d c1 x H1 p1 e1 rd1 dx => ⟨A0, B, ρ, c1, _, E.ext e1 rd1, p1, fun ds c2 vs H2 p2 e2 rd2 dv =>
    q (.dat d :: ds) c2 (x :: vs) H2 p2 (e1.trans e2) rd2 (.cons (DX.ext dx e2 E.rAB) dv)⟩⟩
def slW' (i : Nat) : Rho → W Sl := fun ρ c P => ∃ s, ρ[i]? = some s ∧ P s c
/-- the reader, a dict: a name -/
def nmW (i : Nat) : Rho → W Sl := fun ρ c P => (ρ[i]? = some .rd ∧ P .rd c) ∨ ∃ w kvs, ρ[i]? = some (.dic w kvs) ∧ P (.dic false kvs) c
theorem par_nm (i : Nat) {x : Str} {pos : Pos} {es : List Expr} {g : Rho → W (List Sl)} (hr : PA X es (tWR dl r g)) (hN : X.N[i]? = some x := by rfl) (hv : Vis X.env.scope x := by first | exact Or.inl rfl | exact Or.inr (Or.inl rfl) | exact Or.inr (Or.inr rfl)) (hd : (x == ("__debug__" : Str)) = false := by decide)
    (hcd : (x == ("__classdict__" : Str)) = false := by decide) (hs : starEach (.Name x pos :: es) X.env = (false, eval (.Name x pos) X.env) :: starEach es X.env := by rfl) :
    PA X (.Name x pos :: es) (tWR dl r fun ρ => bW (nmW i ρ) fun d => bW (g ρ) fun ds => rW (d :: ds)) :=
  PA.imp (pa_cons (pe_var hN hv hd hcd) hr hs) fun σ H Q ⟨A0, B, ρ, c, P, E, hp, q⟩ => by
    rcases hp with ⟨h1, h2⟩ | ⟨w, kvs, h1, h2⟩
    · obtain ⟨a, e1, e2⟩ := E.rd i h1
      exact ⟨_, e1, ⟨A0, B, ρ, c, _, E, h2, fun ds c2 vs H2 p2 ee rd2 dv => q (.rd :: ds) c2 (_ :: vs) H2 p2 ee rd2 (.cons ⟨a, rfl, e2⟩ dv)⟩⟩
    · obtain ⟨a, e1, e2, e3, e4⟩ := E.dic i w kvs h1
      refine ⟨_, e1, ⟨A0, B, ρ, c, _, E, h2, fun ds c2 vs H2 p2 ee rd2 dv => q (.dic false kvs :: ds) c2 (_ :: vs) H2 p2 ee rd2 (.cons ⟨rfl, a, rfl, ?_, e3, ee a _ e3 e4⟩ dv)⟩⟩
      rcases e2 with h | ⟨_, h⟩
      · exact List.mem_append_left _ h
      · exact List.mem_append_right _ h
def callW (g : List Sl → Nat → (Out → Nat → Prop) → Prop) (sls : List Sl) : W D := fun c P => g sls c fun o c' => match o with
  | .rt d => P d c'
  | .ex _ _ => False
theorem passN : Passes (L2N.CX X.prog X.w) X (fun _ _ _ => False) := fun _ _ _ _ _ _ _ h => by
  obtain ⟨_, _, _, _, _, _, _, _, _, _, _, _, z⟩ := h
  exact z.elim
theorem pw_call {C : Addr} {k : Nat} {f : Addr} {fd : FuncData} {ps : List Str} {g : List Sl → Nat → (Out → Nat → Prop) → Prop} {dvs : List V} {dsl : List Sl} {ds : List Value} {x : Str} {p pos : Pos} {e : Expr} {es : List Expr} {fa : Rho → W (List Sl)}
    (F : FnOk X.prog X.w X.K X.mg X.base (L2N.CX X.prog X.w) k f fd ps (spG dl C g)) (hr : Room k X.A) (hm : X.mg x = some (.ref f)) (hk : PySem.W.keepIn X.K (.ref f) = true) (hb : Binds X.K fd ps ds) (hd : Vals dvs ds) (hdx : ∀ A H, ArXs dl A r H dvs dsl)
    (ha : PA X (e :: es) (tWR dl r fa)) (hg : Gl X x := by rfl) (hdb : (x == ("__debug__" : Str)) = false := by decide) (he : starEach (e :: es) X.env = (false, eval e X.env) :: starEach es X.env := by rfl) (hpl : (backTo pos (starEach es X.env)).any (·.1) = false := by rfl) :
    PE X (.Call (.Name x p) (e :: es) [] pos) (tW dl r fun ρ => bW (fa ρ) fun sls => callW g (sls ++ dsl)) :=
  PE.imp (pe_call F hr hg hm hk hb hd passN ha hdb he hpl) fun σ H Q ⟨A0, B, ρ, c, P, E, hp, q⟩ => ⟨A0, B, ρ, c, _, E, hp, fun sls c1 vs H1 p1 e1 rd1 dx => by
    have E1 := E.ext e1 rd1
    exact ⟨B ++ A0, r, c1, sls ++ dsl, _, E1.trk, E1.ntp, E.rAB, rd1, dx.app (hdx _ _), p1, fun d c' v H' p3 e3 rd3 dv => q d c' v H' p3 (e1.trans e3) rd3 dv, fun w a c' cls dd H' p3 _ _ _ => (show False from p3).elim⟩⟩

/-! ### walks -/
def YD (A : List Addr) (H0 : Hp) (ds : List D) : Nat → Hp → V → Hp → Prop := fun i H x H' => Same H H' ∧ ∃ d, ds[i]? = some d ∧ ∀ A' : List Addr, (∀ a ∈ A', a ∈ A ∨ H0 a = none) → (∀ a ∈ A', H a ≠ none) → DX A' H' x d
/-- all but the objects at A is kept, these are still there -/
structure KpA (A : List Addr) (H H' : Hp) : Prop where
  kp : ∀ b o, b ∉ A → H b = some o → H' b = some o
  tr : ∀ a ∈ A, H' a ≠ none
def ItD (A : List Addr) (ds : List D) (J : It) (H : Hp) : Prop := Walk J ds.length (KpA A H) (YD A H ds)
def tWI (dl : DicL) (r : Option Addr) (f : Rho → W (List D)) : TI := fun σ H R => ∃ A0 B ρ c P, Env1 dl A0 B r H σ ρ c ∧ f ρ c P ∧ ∀ ds c' J H', P ds c' → Ext r H H' → RdO r H' c' → ItD (B ++ A0) ds J H' → R J H'
theorem PI.imp {tg iter : Expr} {t t' : TI} (h : PI X tg iter t) (i : ∀ σ H Q, t' σ H Q → t σ H Q) : PI X tg iter t' := ⟨fun pins s σ H Q I q => h.run pins s σ H Q I (i σ H Q q)⟩
theorem DX.kp {A A' : List Addr} {H H' : Hp} {v : V} {d : D} (h : DX A H v d) (k : KpA A H H') (s : ∀ a ∈ A', a ∈ A ∨ H a = none) : DX A' H' v d := by
  have no : ∀ a o, H a = some o → a ∉ A → a ∉ A' := fun a o q n z => by
    rcases s a z with y | y
    · exact n y
    · rw [q] at y; cases y
  exact h.gen (fun a xs q n => ⟨k.kp a _ n q, no a _ q n⟩) (fun a xs q n => ⟨k.kp a _ n q, no a _ q n⟩) _ _
def asL : D → W (List D)
  | .list xs => rW xs
  | _ => fW
def asT : D → W (List D)
  | .tuple xs => rW xs
  | _ => fW
theorem itD_of {A : List Addr} {J : It} {H : Hp} {vs : List V} {ds : List D} {G : Hp → Prop} (w : Walk J vs.length G (YAt vs)) (dv : DXs A H vs ds) (hG : ∀ H', KpA A H H' → G H') : ItD A ds J H := by
  unfold ItD
  rw [← dv.length]
  refine w.mono hG fun i H1 x H2 hi k y => ?_
  obtain ⟨rfl, y2⟩ := y
  obtain ⟨d, e1, e2⟩ := dv.get' y2
  exact ⟨Same.refl _, d, e1, fun A' s _ => e2.kp k s⟩
theorem pwi_lst {tg iter : Expr} {f : Rho → W D} (h : PE X iter (tW dl r f)) : PI X tg iter (tWI dl r fun ρ => bW (f ρ) asL) :=
  PI.imp (pi_list h) fun σ H Q ⟨A0, B, ρ, c, P, E, hp, q⟩ => ⟨A0, B, ρ, c, _, E, hp, fun d c1 x H1 p1 e1 rd1 dx => by
    cases dx with
    | lst h1 h2 h3 => exact ⟨_, rfl, ⟨_, SqL.of h1⟩, q _ c1 _ H1 p1 e1 rd1 (itD_of walk_list h3 fun H' k => SqL.of (k.kp _ _ h2 h1))⟩
    | _ => exact (show False from p1).elim⟩
theorem pwi_tup {tg iter : Expr} {f : Rho → W D} (h : PE X iter (tW dl r f)) : PI X tg iter (tWI dl r fun ρ => bW (f ρ) asT) :=
  PI.imp (pi_tup h) fun σ H Q ⟨A0, B, ρ, c, P, E, hp, q⟩ => ⟨A0, B, ρ, c, _, E, hp, fun d c1 x H1 p1 e1 rd1 dx => by
    cases dx with
    | tup h1 h2 h3 => exact ⟨_, rfl, ⟨_, SqT.of h1⟩, q _ c1 _ H1 p1 e1 rd1 (itD_of walk_tup h3 fun H' k => SqT.of (k.kp _ _ h2 h1))⟩
    | _ => exact (show False from p1).elim⟩
def rngD (n : Int) : List D := (List.range n.toNat).map fun i => PyData.int (i : Nat)
theorem rngD_length (n : Int) : (rngD n).length = n.toNat := by simp [rngD]
theorem pwi_range {tg a : Expr} {f : Rho → W D} {p pos : Pos} (hm : X.mg "range" = none) (ha : PE X a (tW dl r f)) (hg : Gl X "range" := by rfl) (hs : starEach [a] X.env = [(false, eval a X.env)] := by rfl) :
    PI X tg (.Call (.Name "range" p) [a] [] pos) (tWI dl r fun ρ => bW (f ρ) fun d => bW (asI d) fun n => bW (gW (-(2 ^ 62) ≤ n ∧ n < 2 ^ 62)) fun _ => rW (rngD n)) :=
  PI.imp (pi_range1 hg hm (pa_cons ha pa_nil hs) hs) fun σ H Q ⟨A0, B, ρ, c, P, E, hp, q⟩ => ⟨A0, B, ρ, c, _, E, hp, fun d c1 x H1 p1 e1 rd1 dx => by
    cases dx with
    | int n =>
      refine ⟨n, rfl, p1.1.1, p1.1.2, q _ c1 _ H1 p1.2 e1 rd1 ?_⟩
      unfold ItD
      rw [rngD_length]
      refine walk_range.mono (fun _ _ => trivial) fun i H1 x H2 hi _ y => ?_
      obtain ⟨rfl, y2⟩ := y
      subst y2
      refine ⟨Same.refl _, _, ?_, fun _ _ _ => .int _⟩
      simp [rngD, hi]
    | _ => exact (show False from p1).elim⟩
def chrD (x : Str) : List D := x.cps.toList.map fun k => PyData.str ⟨#[k]⟩
theorem pwi_str {tg iter : Expr} {f : Rho → W D} (h : PE X iter (tW dl r f)) : PI X tg iter (tWI dl r fun ρ => bW (f ρ) fun d => match d with
    | .str x => rW (chrD x)
    | _ => fW) :=
  PI.imp (pi_str h) fun σ H Q ⟨A0, B, ρ, c, P, E, hp, q⟩ => ⟨A0, B, ρ, c, _, E, hp, fun d c1 x H1 p1 e1 rd1 dx => by
    cases dx with
    | str x =>
      refine ⟨x, rfl, q _ c1 _ H1 p1 e1 rd1 ?_⟩
      unfold ItD
      rw [show (chrD x).length = x.cps.size by simp [chrD]]
      refine walk_str.mono (fun _ _ => trivial) fun i H1 v H2 hi _ y => ?_
      obtain ⟨rfl, k, e1, rfl⟩ := y
      refine ⟨Same.refl _, _, ?_, fun _ _ _ => .str _⟩
      simp [chrD, e1]
    | _ => exact (show False from p1).elim⟩
/-- two tuples, in pairs -/
def zipD : List D → List D → List D
  | x :: xs, y :: ys => .tuple [x, y] :: zipD xs ys
  | _, _ => []
theorem zipD_length : ∀ xs ys : List D, (zipD xs ys).length = min xs.length ys.length
  | [], _ => by simp [zipD]
  | _ :: _, [] => by simp [zipD]
  | x :: xs, y :: ys => by simp [zipD, zipD_length xs ys]
theorem zipD_get : ∀ (xs ys : List D) (i : Nat) (x y : D), xs[i]? = some x → ys[i]? = some y → (zipD xs ys)[i]? = some (.tuple [x, y])
  | [], _, _, _, _, h, _ => by simp at h
  | _ :: _, [], _, _, _, _, h => by simp at h
  | a :: xs, b :: ys, 0, x, y, h1, h2 => by
    simp at h1 h2
    subst h1 h2
    rfl
  | a :: xs, b :: ys, i + 1, x, y, h1, h2 => by
    simp at h1 h2
    simpa [zipD] using zipD_get xs ys i x y h1 h2
theorem walk_zipT {K : PySem.W.Frag} {a b : Addr} {xs ys : List V} {n : Nat} (hn : n = min xs.length ys.length) : Walk (RZ.ItzT K a b) n (fun H => SqT K H a xs ∧ SqT K H b ys) (YPair (fun i => xs[i]?) (fun i => ys[i]?)) := by
  subst hn
  refine ⟨fun i _ hi q => ?_, fun _ q => ⟨xs, ys, q.1, q.2, by omega⟩, fun i H v H' _ q y => ?_⟩
  · have h1 : i < xs.length := by omega
    have h2 : i < ys.length := by omega
    exact ⟨xs, ys, xs[i], ys[i], q.1, q.2, by simp [h1], by simp [h2]⟩
  · obtain ⟨T, x, z, h1, h2, h3, h4, h5⟩ := y
    exact ⟨T, x, z, h1, h2, h3, h4 xs q.1, h5 ys q.2⟩
def zipW : List D → W (List D)
  | [.tuple xs, .tuple ys] => rW (zipD xs ys)
  | _ => fW
theorem pwi_zip {e e2 : Expr} {f : Rho → W (List D)} {p pos tpos : Pos} {elts : List Expr} {kk : Nat} (hm : X.mg "zip" = none) (ha : PA X [e, e2] (tWA dl r f)) (hg : Gl X "zip" := by rfl)
    (hs : starEach [e, e2] X.env = (false, eval e X.env) :: starEach [e2] X.env := by rfl) (hpl : (backTo pos (starEach [e2] X.env)).any (·.1) = false := by rfl) :
    PI X (.Tuple elts kk tpos) (.Call (.Name "zip" p) [e, e2] [] pos) (tWI dl r fun ρ => bW (f ρ) zipW) :=
  PI.imp (RZ.pi_zipA hg hm ha hs hpl) fun σ H Q ⟨A0, B, ρ, c, P, E, hp, q⟩ => ⟨A0, B, ρ, c, _, E, hp, fun ds c1 vs H1 p1 e1 rd1 dx => by
    match ds, vs, dx, p1 with
    | [.tuple xs, .tuple ys], _, .cons (.tup (a := a) (xs := us) h1 h2 h3) (.cons (.tup (a := b) (xs := ws) k1 k2 k3) .nil), p1 =>
      refine ⟨a, b, us, ws, rfl, .inr ⟨SqT.of h1, SqT.of k1, q _ c1 _ H1 p1 e1 rd1 ?_⟩⟩
      unfold ItD
      rw [zipD_length, ← h3.length, ← k3.length]
      refine (walk_zipT (K := X.K) (xs := us) (ys := ws) rfl).mono (fun H' k => ⟨SqT.of (k.kp _ _ h2 h1), SqT.of (k.kp _ _ k2 k1)⟩) fun i H2 v H3 hi k y => ?_
      obtain ⟨T, x, z, rfl, hT, rfl, y1, y2⟩ := y
      obtain ⟨d1, g1, g2⟩ := h3.get' y1
      obtain ⟨d2, g3, g4⟩ := k3.get' y2
      exact ⟨same_new hT, _, zipD_get _ _ _ _ _ g1 g3, fun A' s t => .tup upd_same (fun z => t T z hT) (.cons ((g2.kp k s).same (same_new hT)) (.cons ((g4.kp k s).same (same_new hT)) .nil))⟩⟩

/-! ### targets -/
def tWG (dl : DicL) (r : Option Addr) (as : List Nat) (f : D → Rho → W Rho) : TG := fun v σ H Q => ∃ A0 B ρ c P d, Env1 dl A0 B r H σ ρ c ∧ DX (B ++ A0) H v d ∧ f d ρ c P ∧
  ∀ ρ' c' σ', P ρ' c' → c' = c → Env1 dl A0 B r H σ' ρ' c' → σ'.length = σ.length → (∀ i, i ∉ as → σ'[i]? = σ[i]?) → Q σ' H
theorem PG.imp {tg : Expr} {t t' : TG} (h : PG X tg t) (i : ∀ v σ H Q, t' v σ H Q → t v σ H Q) : PG X tg t' := ⟨fun pins s σ H v u Q I rv q => h.run pins s σ H v u Q I rv (i v σ H Q q)⟩
theorem getElem?_set_cases {α : Type} {l : List α} {i j : Nat} {x y : α} (h : (l.set i x)[j]? = some y) : (j = i ∧ y = x ∧ i < l.length) ∨ (j ≠ i ∧ l[j]? = some y) := by
  by_cases hj : j = i
  · subst hj
    rw [List.getElem?_set_self'] at h
    cases z : l[j]? with
    | none => rw [z] at h; cases h
    | some w =>
      rw [z] at h
      obtain ⟨hlt, _⟩ := List.getElem?_eq_some_iff.mp z
      exact .inl ⟨rfl, (Option.some.inj h).symm, hlt⟩
  · rw [List.getElem?_set_ne (Ne.symm hj)] at h
    exact .inr ⟨hj, h⟩
theorem Env1.set {A0 B : List Addr} {H : Hp} {σ : L2.St} {ρ : Rho} {c : Nat} {v : V} {d : D} (E : Env1 dl A0 B r H σ ρ c) (i : Nat) (dx : DX (B ++ A0) H v d) : Env1 dl A0 B r H (σ.set i (some v)) (ρ.set i (.dat d)) c := by
  refine ⟨by simp [E.len], fun j e h => ?_, fun j ds h => ?_, fun j w kvs h => ?_, fun j h => ?_, fun j k a h1 h2 hb => ?_, E.dis, E.rA, E.rok, E.trk, E.ntp, fun j a h => ?_, fun j a os us h => ?_⟩
  · rcases getElem?_set_cases h with ⟨rfl, h2, h3⟩ | ⟨h1, h2⟩
    · cases h2
      exact ⟨v, by rw [List.getElem?_set_self (by rw [E.len]; exact h3)], dx⟩
    · rw [List.getElem?_set_ne (Ne.symm h1)]
      exact E.dat j e h2
  · rcases getElem?_set_cases h with ⟨rfl, h2, h3⟩ | ⟨h1, h2⟩
    · cases h2
    · rw [List.getElem?_set_ne (Ne.symm h1)]
      exact E.lst j ds h2
  · rcases getElem?_set_cases h with ⟨rfl, h2, h3⟩ | ⟨h1, h2⟩
    · cases h2
    · rw [List.getElem?_set_ne (Ne.symm h1)]
      exact E.dic j w kvs h2
  · rcases getElem?_set_cases h with ⟨rfl, h2, h3⟩ | ⟨h1, h2⟩
    · cases h2
    · rw [List.getElem?_set_ne (Ne.symm h1)]
      exact E.rd j h2
  · have no : ∀ {j : Nat}, (σ.set i (some v))[j]? = some (some (.ref a)) → j ≠ i ∧ σ[j]? = some (some (.ref a)) := fun {j} h => by
      rcases getElem?_set_cases h with ⟨rfl, h2, h3⟩ | h
      · have e : v = .ref a := (Option.some.inj h2).symm
        subst e
        cases dx with
        | lst _ n _ => exact absurd (List.mem_append_left _ hb) n
        | tup _ n _ => exact absurd (List.mem_append_left _ hb) n
      · exact h
    exact E.sep j k a (no h1).2 (no h2).2 hb
  · rcases getElem?_set_cases h with ⟨rfl, h2, h3⟩ | ⟨h1, h2⟩
    · have e : v = .ref a := (Option.some.inj h2).symm
      subst e
      cases dx with
      | lst q _ _ => rw [q]; simp
      | tup q _ _ => rw [q]; simp
    · exact E.ref j a h2
  · rcases getElem?_set_cases h with ⟨rfl, h2, h3⟩ | ⟨h1, h2⟩
    · cases h2
    · rw [List.getElem?_set_ne (Ne.symm h1)]
      exact E.ob j a os us h2
def gNm (i : Nat) (d : D) : Rho → W Rho := fun ρ => rW (ρ.set i (.dat d))
theorem pwg_name (i : Nat) {x : Str} {pos : Pos} (hN : X.N.Nodup) (hi : X.N[i]? = some x := by rfl) (hx : Loc X.env.scope x := by first | exact Or.inl rfl | exact Or.inr rfl) (hf : X.fn x = true ∨ X.env.scope.names.lookup x = some .local := by first | exact .inl rfl | exact .inr rfl) : PG X (.Name x pos) (tWG dl r [i] (gNm i)) :=
  PG.imp (pg_name hN hi hx hf) fun v σ H Q ⟨A0, B, ρ, c, P, d, E, dx, hp, q⟩ => q _ c _ hp rfl (E.set i dx) (by simp) fun j hj => by
    rw [List.getElem?_set_ne (fun z => hj (by simp [z]))]
def tWGs (dl : DicL) (r : Option Addr) (as : List Nat) (f : List D → Rho → W Rho) : TGs := fun vs σ H Q => ∃ A0 B ρ c P ds, Env1 dl A0 B r H σ ρ c ∧ DXs (B ++ A0) H vs ds ∧ f ds ρ c P ∧
  ∀ ρ' c' σ', P ρ' c' → c' = c → Env1 dl A0 B r H σ' ρ' c' → σ'.length = σ.length → (∀ i, i ∉ as → σ'[i]? = σ[i]?) → Q σ' H
theorem PGs.imp {tg : List Expr} {t t' : TGs} (h : PGs X tg t) (i : ∀ v σ H Q, t' v σ H Q → t v σ H Q) : PGs X tg t' := ⟨fun pins s σ H v u Q I rv q => h.run pins s σ H v u Q I rv (i v σ H Q q)⟩
def gN : List D → Rho → W Rho
  | [], ρ => rW ρ
  | _, _ => fW
def gC (g : D → Rho → W Rho) (h : List D → Rho → W Rho) : List D → Rho → W Rho
  | d :: ds, ρ => bW (g d ρ) fun ρ' => h ds ρ'
  | _, _ => fW
theorem pwgs_nil : PGs X [] (tWGs dl r [] gN) := PGs.imp pgs_nil fun v σ H Q ⟨A0, B, ρ, c, P, ds, E, dx, hp, q⟩ => by
  cases dx with
  | nil => exact ⟨rfl, q _ c σ hp rfl E rfl fun _ _ => rfl⟩
  | cons _ _ => exact (show False from hp).elim
theorem pwgs_cons {e : Expr} {es : List Expr} {as bs : List Nat} {g : D → Rho → W Rho} {h : List D → Rho → W Rho} (h1 : PG X e (tWG dl r as g)) (h2 : PGs X es (tWGs dl r bs h)) (hs : (assignEach (e :: es) X.env).map (·.2) = assign e X.env :: (assignEach es X.env).map (·.2) := by rfl) :
    PGs X (e :: es) (tWGs dl r (as ++ bs) (gC g h)) := PGs.imp (pgs_cons h1 h2 hs) fun v σ H Q ⟨A0, B, ρ, c, P, ds, E, dx, hp, q⟩ => by
  cases dx with
  | nil => exact (show False from hp).elim
  | cons d1 d2 =>
    refine ⟨_, _, rfl, A0, B, ρ, c, _, _, E, d1, hp, fun ρ1 c1 σ1 p1 ec E1 l1 f1 => ?_⟩
    subst ec
    exact ⟨A0, B, ρ1, c1, _, _, E1, d2, p1, fun ρ2 c2 σ2 p2 ec E2 l2 f2 => q ρ2 c2 σ2 p2 ec E2 (l2.trans l1) fun i hi => by
      rw [f2 i (fun z => hi (List.mem_append_right _ z)), f1 i (fun z => hi (List.mem_append_left _ z))]⟩
def gT (n : Nat) (h : List D → Rho → W Rho) (d : D) (ρ : Rho) : W Rho := match d with
  | .tuple ds => bW (gW (ds.length = n)) fun _ => h ds ρ
  | _ => fW
theorem pwg_tup {es : List Expr} {k : Nat} {pos : Pos} (n : Nat) {as : List Nat} {h : List D → Rho → W Rho} (hc : X.calm = true) (hg : PGs X es (tWGs dl r as h)) (hn : (assignEach es X.env).length = n := by rfl) (hst : (assignEach es X.env).findIdx? (·.1) = none := by rfl) :
    PG X (.Tuple es k pos) (tWG dl r as (gT n h)) := PG.imp (pg_tup hc hg hn hst) fun v σ H Q ⟨A0, B, ρ, c, P, d, E, dx, hp, q⟩ => by
  cases dx with
  | tup h1 h2 h3 => exact ⟨_, _, rfl, SqT.of h1, by rw [h3.length]; exact hp.1, A0, B, ρ, c, P, _, E, h3, hp.2, q⟩
  | _ => exact (show False from hp).elim
end
end FK
set_option Elab.async false
set_option linter.all false
set_option maxRecDepth 100000
set_option maxHeartbeats 4000000
/-! Comprehensions of the data layer. -/
namespace FK
open PySem PySem.Spec L2

section
variable {X : Cx} {dl : DicL} {r : Option Addr}
def wipeR (ρ : Rho) : List Nat → Rho
  | [] => ρ
  | v :: vs => (wipeR ρ vs).set v .no
theorem wipeR_length (ρ : Rho) : ∀ vs : List Nat, (wipeR ρ vs).length = ρ.length
  | [] => rfl
  | v :: vs => by simp [wipeR, wipeR_length ρ vs]
theorem wipeR_get {ρ : Rho} {i : Nat} {s : Sl} : ∀ {vs : List Nat}, (wipeR ρ vs)[i]? = some s → s = .no ∨ (i ∉ vs ∧ ρ[i]? = some s)
  | [], h => .inr ⟨by simp, h⟩
  | v :: vs, h => by
    rcases getElem?_set_cases (show ((wipeR ρ vs).set v .no)[i]? = some s from h) with ⟨_, h2, _⟩ | ⟨h1, h2⟩
    · exact .inl h2
    · rcases wipeR_get h2 with e | ⟨e1, e2⟩
      · exact .inl e
      · exact .inr ⟨by simp [h1, e1], e2⟩
theorem wipe_out {σ : L2.St} {i : Nat} : ∀ {vs : List Nat}, i ∉ vs → (L2.wipe σ vs)[i]? = σ[i]?
  | [], _ => rfl
  | v :: vs, h => by
    have h1 : i ≠ v := fun e => h (by simp [e])
    have h2 : i ∉ vs := fun e => h (by simp [e])
    show ((L2.wipe σ vs).set v none)[i]? = _
    rw [List.getElem?_set_ne (Ne.symm h1)]
    exact wipe_out h2
theorem wipe_in {σ : L2.St} {i : Nat} : ∀ {vs : List Nat}, i ∈ vs → (L2.wipe σ vs)[i]? = if i < σ.length then some none else none
  | [], h => by cases h
  | v :: vs, h => by
    show ((L2.wipe σ vs).set v none)[i]? = _
    by_cases hv : i = v
    · subst hv
      by_cases hl : i < σ.length
      · rw [List.getElem?_set_self (by rw [L2.wipe_length]; exact hl), if_pos hl]
      · rw [if_neg hl]
        refine List.getElem?_eq_none ?_
        rw [List.length_set, L2.wipe_length]
        omega
    · rw [List.getElem?_set_ne (Ne.symm hv)]
      exact wipe_in (List.mem_of_ne_of_mem hv h)
theorem wipe_back {σ σ2 : L2.St} {vs as : List Nat} (hl : σ2.length = (L2.wipe σ vs).length) (hf : ∀ i, i ∉ as → σ2[i]? = (L2.wipe σ vs)[i]?) (ha : ∀ i ∈ as, i ∈ vs) : L2.wipe σ2 vs = L2.wipe σ vs := by
  rw [L2.wipe_length] at hl
  refine List.ext_getElem? fun i => ?_
  by_cases hv : i ∈ vs
  · rw [wipe_in hv, wipe_in hv, hl]
  · rw [wipe_out hv, hf i fun z => hv (ha i z)]
theorem Env1.wipe {A0 B : List Addr} {H : Hp} {σ : L2.St} {ρ : Rho} {c : Nat} (E : Env1 dl A0 B r H σ ρ c) (vs : List Nat) : Env1 dl A0 B r H (L2.wipe σ vs) (wipeR ρ vs) c := by
  refine ⟨by rw [L2.wipe_length, wipeR_length]; exact E.len, fun j e h => ?_, fun j ds h => ?_, fun j w kvs h => ?_, fun j h => ?_, fun j k a h1 h2 hb => E.sep j k a (L2.wipe_some h1).1 (L2.wipe_some h2).1 hb, E.dis, E.rA, E.rok, E.trk, E.ntp, fun j a h => E.ref j a (L2.wipe_some h).1, fun j a os us h => ?_⟩
  · rcases wipeR_get h with e | ⟨e1, e2⟩
    · cases e
    · rw [wipe_out e1]; exact E.dat j _ e2
  · rcases wipeR_get h with e | ⟨e1, e2⟩
    · cases e
    · rw [wipe_out e1]; exact E.lst j _ e2
  · rcases wipeR_get h with e | ⟨e1, e2⟩
    · cases e
    · rw [wipe_out e1]; exact E.dic j _ _ e2
  · rcases wipeR_get h with e | ⟨e1, e2⟩
    · cases e
    · rw [wipe_out e1]; exact E.rd j e2
  · rcases wipeR_get h with e | ⟨e1, e2⟩
    · cases e
    · rw [wipe_out e1]; exact E.ob j _ _ _ e2
/-- values known before D was laid do not reach it -/
theorem DX.past {A A' : List Addr} {H H' : Hp} {v : V} {d : D} (h : DX A H v d) (k : ∀ b o, b ∉ A → H b = some o → H' b = some o) (s : ∀ a ∈ A', a ∈ A ∨ H a = none) : DX A' H' v d := by
  have no : ∀ a o, H a = some o → a ∉ A → a ∉ A' := fun a o q n z => by
    rcases s a z with y | y
    · exact n y
    · rw [q] at y; cases y
  exact h.gen (fun a xs q n => ⟨k a _ n q, no a _ q n⟩) (fun a xs q n => ⟨k a _ n q, no a _ q n⟩) _ _
theorem DXs.past {A A' : List Addr} {H H' : Hp} {v : List V} {d : List D} (h : DXs A H v d) (k : ∀ b o, b ∉ A → H b = some o → H' b = some o) (s : ∀ a ∈ A', a ∈ A ∨ H a = none) : DXs A' H' v d := by
  have no : ∀ a o, H a = some o → a ∉ A → a ∉ A' := fun a o q n z => by
    rcases s a z with y | y
    · exact n y
    · rw [q] at y; cases y
  exact h.gen (fun a xs q n => ⟨k a _ n q, no a _ q n⟩) (fun a xs q n => ⟨k a _ n q, no a _ q n⟩) _ _
theorem ObAt.past {A A' : List Addr} {H H' : Hp} {G : Hp} {us : List (V × PyData)} (h : ObAt A H G us) (k : ∀ b o, b ∉ A → H b = some o → H' b = some o) (s : ∀ a ∈ A', a ∈ A ∨ H a = none) : ObAt A' H' G us :=
  h.gen fun b o q n => ⟨k b o n q, fun z => by
    rcases s b z with y | y
    · exact n y
    · rw [q] at y; cases y⟩
theorem Env1.addD {A0 B : List Addr} {H : Hp} {σ : L2.St} {ρ : Rho} {c : Nat} {D : Addr} (E : Env1 dl A0 B r H σ ρ c) (hD : H D = none) (xs : List V) : Env1 dl (D :: A0) B r (upd H D (.lst xs)) σ ρ c := by
  have sn := same_new (o := HO.lst xs) hD
  have sub : ∀ a ∈ B ++ D :: A0, a ∈ B ++ A0 ∨ H a = none := fun a h => by
    rcases List.mem_append.mp h with h | h
    · exact .inl (List.mem_append_left _ h)
    · rcases List.mem_cons.mp h with rfl | h
      · exact .inr hD
      · exact .inl (List.mem_append_right _ h)
  refine ⟨E.len, fun i d h => ?_, fun i ds h => ?_, fun i w kvs h => ?_, E.rd, E.sep, fun b hb z => ?_, fun a h => List.mem_cons_of_mem _ (E.rA a h), E.rok.same sn, fun a h => ?_, fun a h zs => ?_, fun j a h q => ?_, fun j a os us h => ⟨(E.ob j a os us h).1, (E.ob j a os us h).2.past (fun b o _ q => sn b o q) sub⟩⟩
  · obtain ⟨v, h1, h2⟩ := E.dat i d h
    exact ⟨v, h1, h2.past (fun b o _ q => sn b o q) sub⟩
  · obtain ⟨a, vs, h1, h2, h3, h4⟩ := E.lst i ds h
    exact ⟨a, vs, h1, h2, sn _ _ h3, h4.past (fun b o _ q => sn b o q) sub⟩
  · obtain ⟨a, h1, h2, h3, h4⟩ := E.dic i w kvs h
    exact ⟨a, h1, h2.imp id (fun z => ⟨z.1, List.mem_cons_of_mem _ z.2⟩), h3, sn _ _ h4⟩
  · rcases List.mem_cons.mp z with rfl | z
    · exact E.trk b (List.mem_append_left _ hb) hD
    · exact E.dis b hb z
  · rcases sub a h with z | z
    · intro q
      have := E.trk a z
      cases y : H a with
      | none => exact this y
      | some o => rw [sn a o y] at q; cases q
    · have e : a = D := by
        rcases List.mem_append.mp h with h | h
        · exact absurd z (E.trk a (List.mem_append_left _ h))
        · rcases List.mem_cons.mp h with h | h
          · exact h
          · exact absurd z (E.trk a (List.mem_append_right _ h))
      subst e
      rw [upd_same]; simp
  · intro q
    by_cases e : a = D
    · subst e
      rw [upd_same] at q; cases q
    · rw [upd_ne e] at q
      rcases sub a h with z | z
      · exact E.ntp a z zs q
      · rw [z] at q; cases q
  · cases y : H a with
    | none => exact E.ref j a h y
    | some o => rw [sn a o y] at q; cases q
/-- the list at D grows -/
theorem RdO.grow {H : Hp} {c : Nat} {D : Addr} {xs ys : List V} (h : RdO r H c) (hl : H D = some (.lst xs)) : RdO r (upd H D (.lst ys)) c := fun a e => by
  obtain ⟨L, o, zs, sp, rs, h1, h2, h3⟩ := h a e
  refine ⟨L, o, zs, sp, rs, ?_, ?_, h3⟩
  · rw [upd_ne (fun z => by rw [z, hl] at h1; cases h1)]
    exact h1
  · rw [upd_ne (fun z => by rw [z, hl] at h2; cases h2)]
    exact h2
theorem rd_ne {H : Hp} {c : Nat} {D : Addr} {xs : List V} (h : RdO r H c) (hl : H D = some (.lst xs)) : r ≠ some D := fun e => by
  obtain ⟨L, o, zs, sp, rs, h1, _⟩ := h D e
  rw [hl] at h1; cases h1
theorem Env1.grow {A0 B : List Addr} {H : Hp} {σ : L2.St} {ρ : Rho} {c : Nat} {D : Addr} {xs : List V} (E : Env1 dl A0 B r H σ ρ c) (hD : D ∈ A0) (hl : H D = some (.lst xs)) (ys : List V) :
    Env1 dl A0 B r (upd H D (.lst ys)) σ ρ c := by
  have kp : ∀ b o, b ∉ B ++ A0 → H b = some o → upd H D (.lst ys) b = some o := fun b o n q => by
    rw [upd_ne (fun e => n (by rw [e]; exact List.mem_append_right _ hD))]
    exact q
  refine ⟨E.len, fun i d h => ?_, fun i ds h => ?_, fun i w kvs h => ?_, E.rd, E.sep, E.dis, E.rA, E.rok.grow hl, fun a h => ?_, fun a h zs => ?_, fun j a h => ?_, fun j a os us h => ⟨(E.ob j a os us h).1, (E.ob j a os us h).2.past kp fun a h => .inl h⟩⟩
  · obtain ⟨v, h1, h2⟩ := E.dat i d h
    exact ⟨v, h1, h2.past kp fun a h => .inl h⟩
  · obtain ⟨a, vs, h1, h2, h3, h4⟩ := E.lst i ds h
    refine ⟨a, vs, h1, h2, ?_, h4.past kp fun a h => .inl h⟩
    rw [upd_ne (fun e => E.dis a h2 (by rw [e]; exact hD))]
    exact h3
  · obtain ⟨a, h1, h2, h3, h4⟩ := E.dic i w kvs h
    refine ⟨a, h1, h2, h3, ?_⟩
    rw [upd_ne (fun e => by rw [e, hl] at h4; cases h4)]
    exact h4
  · by_cases e : a = D
    · subst e
      rw [upd_same]; simp
    · rw [upd_ne e]; exact E.trk a h
  · by_cases e : a = D
    · subst e
      rw [upd_same]
      intro q; cases q
    · rw [upd_ne e]; exact E.ntp a h zs
  · by_cases e : a = D
    · subst e
      rw [upd_same]; simp
    · rw [upd_ne e]; exact E.ref j a h
/-! ### the comprehension -/
def lcG (g : D → Rho → W Rho) (t : Rho → W Bool) (f : Rho → W D) (ρ : Rho) : List D → List D → W (List D)
  | [], acc => rW acc
  | d :: ds, acc => bW (g d ρ) fun ρ1 => bW (t ρ1) fun b => if b = true then bW (f ρ1) fun y => lcG g t f ρ ds (acc ++ [y]) else lcG g t f ρ ds acc
def lcD (fi : Rho → W (List D)) (g : D → Rho → W Rho) (t : Rho → W Bool) (f : Rho → W D) (vs : List Nat) : Rho → W D := fun ρ => bW (fi ρ) fun ds => bW (gW (ds.length ≤ LIM)) fun _ => bW (lcG g t f (wipeR ρ vs) ds []) fun ys => rW (.list ys)
theorem lc_of {fi : Rho → W (List D)} {g : D → Rho → W Rho} {t : Rho → W Bool} {f : Rho → W D} {vs as : List Nat} (has : ∀ i ∈ as, i ∈ vs) {σ : L2.St} {H : Hp} {Q : VK} (h : tW dl r (lcD fi g t f vs) σ H Q) :
    tLc (tWI dl r fi) (tWG dl r as g) (tWT dl r t) (tW dl r f) vs σ H Q := by
  obtain ⟨A0, B, ρ, c, P, E, hp, q⟩ := h
  refine ⟨A0, B, ρ, c, _, E, hp, fun ds c1 J H1 p1 e1 rd1 it D hD => ?_⟩
  obtain ⟨hlim, p1⟩ := p1
  have E1 := E.ext e1 rd1
  have hz := lim_line
  have hrD : r ≠ some D := fun e => E1.trk D (E.rAB D e) hD
  refine lc_it it (fun i H => ∃ c acc accV, Env1 dl (D :: A0) B r H (L2.wipe σ vs) (wipeR ρ vs) c ∧ H D = some (.lst accV) ∧ DXs (B ++ D :: A0) H accV acc ∧ acc.length ≤ i ∧ lcG g t f (wipeR ρ vs) (ds.drop i) acc c (fun ys c => P (.list ys) c) ∧ Ext r H1 H) ?_ ?_ ?_ ?_
  · exact ⟨c1, [], [], (E1.wipe vs).addD hD [], upd_same, .nil, Nat.le_refl _, p1, Ext.of_same (same_new hD)⟩
  · intro i H2 hi p
    obtain ⟨c2, acc, accV, E2, _, _, _, _, x2⟩ := p
    exact ⟨fun b o n z => x2 b o (fun y => n (E.rAB b y)) z, fun a ha => E2.trk a (by
      rcases List.mem_append.mp ha with h | h
      · exact List.mem_append_left _ h
      · exact List.mem_append_right _ (List.mem_cons_of_mem _ h))⟩
  · intro i x H2 H3 hi p y
    obtain ⟨c2, acc, accV, E2, hl, dacc, hai, pp, x2⟩ := p
    obtain ⟨s3, d, ed, dx⟩ := y
    have rd3 := E2.rok.same s3
    have E3 := E2.ext (.of_same s3) rd3
    have dx3 : DX (B ++ D :: A0) H3 x d := dx _ (fun a ha => by
      rcases List.mem_append.mp ha with h | h
      · exact .inl (List.mem_append_left _ h)
      · rcases List.mem_cons.mp h with rfl | h
        · exact .inr hD
        · exact .inl (List.mem_append_right _ h)) E2.trk
    have hdrop : ds.drop i = d :: ds.drop (i + 1) := by
      obtain ⟨hlt, e⟩ := List.getElem?_eq_some_iff.mp ed
      rw [List.drop_eq_getElem_cons hlt, e]
    rw [hdrop] at pp
    refine ⟨D :: A0, B, wipeR ρ vs, c2, _, d, E3, dx3, pp, fun ρ4 c4 σ4 p4 ec E4 l4 f4 => ⟨wipe_back l4 f4 has, ?_⟩⟩
    subst ec
    refine ⟨D :: A0, B, ρ4, c4, _, E4, p4, fun b c5 H5 p5 e5 rd5 => ?_⟩
    have l5 : H5 D = some (.lst accV) := e5 D _ hrD (s3 D _ hl)
    have E5w : Env1 dl (D :: A0) B r H5 (L2.wipe σ vs) (wipeR ρ vs) c5 := E3.ext e5 rd5
    have d5 : DXs (B ++ D :: A0) H5 accV acc := (dacc.same s3).ext e5 E4.rAB
    cases b with
    | false => exact iteF ⟨c5, acc, accV, E5w, l5, d5, by omega, p5, (x2.trans (.of_same s3)).trans e5⟩
    | true =>
      refine iteT ⟨D :: A0, B, ρ4, c5, _, E4.ext e5 rd5, p5, fun y c6 v H6 p6 e6 rd6 dv => ?_⟩
      have l6 : H6 D = some (.lst accV) := e6 D _ hrD l5
      have d6 : DXs (B ++ D :: A0) H6 accV acc := d5.ext e6 E4.rAB
      have hlen := d6.length
      refine ⟨accV, l6, by omega, c6, acc ++ [y], accV ++ [v], (E5w.ext e6 rd6).grow List.mem_cons_self l6 _, upd_same, ?_, by simp; omega, p6, ?_⟩
      · refine (d6.app (.cons dv .nil)).past (fun b o n z => ?_) fun a h => .inl h
        rw [upd_ne (fun e => n (by rw [e]; exact List.mem_append_right _ List.mem_cons_self))]
        exact z
      · intro b o n z
        have z6 := e6 b o n (e5 b o n (s3 b o (x2 b o n z)))
        rw [upd_ne (fun e => by rw [e, hD] at z; cases z)]
        exact z6
  · intro H2 p
    obtain ⟨c2, acc, accV, E2, hl, dacc, hai, pp, x2⟩ := p
    rw [List.drop_length] at pp
    refine q (.list acc) c2 (.ref D) H2 pp (e1.trans x2) E2.rok (.lst hl (fun z => E1.trk D z hD) (dacc.anti fun a ha => ?_))
    rcases List.mem_append.mp ha with h | h
    · exact List.mem_append_left _ h
    · exact List.mem_append_right _ (List.mem_cons_of_mem _ h)
theorem PTs.imp {e : List Expr} {t t' : TT} (h : PTs X e t) (i : ∀ σ H Q, t' σ H Q → t σ H Q) : PTs X e t' := ⟨fun pins s σ H Q I q => h.run pins s σ H Q I (i σ H Q q)⟩
theorem pwts_nil : PTs X [] (tWT dl r fun _ => rW true) := PTs.imp pts_nil fun σ H Q ⟨A0, B, ρ, c, P, E, hp, q⟩ => q true c H hp (Ext.refl r H) E.rok
theorem pw_lc {elt tg iter : Expr} {ifs : List Expr} {scope : Scope} {pos : Pos} {fi : Rho → W (List D)} {fg : D → Rho → W Rho} {ft : Rho → W Bool} {fe : Rho → W D} {as : List Nat} (own' : List (Str × Nat)) (hc : X.calm = true) (hN : X.N.Nodup) (hi : PI X tg iter (tWI dl r fi))
    (ok : BlkOk X.N X.env.scope scope own') (hg : ∀ (s : Shared) (H : Hp) (C : Addr) (cl : List (Str × Addr)) (fp : List Addr), PG (X.blk s H scope (compEnvC scope cl C X.env) fp) tg (tWG dl r as fg)) (ht : ∀ (s : Shared) (H : Hp) (C : Addr) (cl : List (Str × Addr)) (fp : List Addr), PTs (X.blk s H scope (compEnvC scope cl C X.env) fp) ifs (tWT dl r ft))
    (he : ∀ (s : Shared) (H : Hp) (C : Addr) (cl : List (Str × Addr)) (fp : List Addr), PE (X.blk s H scope (compEnvC scope cl C X.env) fp) elt (tW dl r fe)) (has : ∀ i ∈ as, i ∈ own'.map (·.2) := by decide) (hs : ∀ x, foldedSetIterable iter X.env x = pure x := by intro _; rfl) :
    PE X (.ListComp elt [⟨tg, iter, ifs, 0⟩] scope pos) (tW dl r (lcD fi fg ft fe (own'.map (·.2)))) := PE.imp (pe_lc hc hN hi ok hg ht he hs) fun _ _ _ h => lc_of has h
/-- a comprehension stored in a name, on one line -/
theorem lc_setOf {i : Nat} {elt tg iter : Expr} : True := trivial
end
end FK
set_option Elab.async false
set_option linter.all false
set_option maxRecDepth 100000
set_option maxHeartbeats 4000000
/-! Statements of the data layer; defs. -/
namespace FK
open PySem PySem.Spec L2

inductive Fl where
  | nx (ρ : Rho) | rt (d : D) | ex (w a : D)
/-- what a statement may change: its def's own objects B, the reader, new ones -/
structure Stp (r : Option Addr) (B B' : List Addr) (H H' : Hp) : Prop where
  kp : ∀ b o, b ∉ B → r ≠ some b → H b = some o → H' b = some o
  new : ∀ b ∈ B', b ∈ B ∨ H b = none
  sub : ∀ b ∈ B, b ∈ B'
  rk : ∀ a, r = some a → H' a ≠ none
theorem RdO.there {r : Option Addr} {H : Hp} {c : Nat} (h : RdO r H c) : ∀ a, r = some a → H a ≠ none := fun a e q => by
  obtain ⟨L, o, zs, sp, rs, h1, _⟩ := h a e
  rw [q] at h1; cases h1
theorem Stp.of_ext {r : Option Addr} {B : List Addr} {H H' : Hp} {c : Nat} (e : Ext r H H') (rd : RdO r H' c) : Stp r B B H H' := ⟨fun b o _ n q => e b o n q, fun b h => .inl h, fun b h => h, rd.there⟩
theorem Stp.trans {r : Option Addr} {B B1 B2 : List Addr} {H H1 H2 : Hp} (x : Stp r B B1 H H1) (y : Stp r B1 B2 H1 H2) : Stp r B B2 H H2 := by
  refine ⟨fun b o n m q => y.kp b o (fun z => ?_) m (x.kp b o n m q), fun b h => ?_, fun b h => y.sub b (x.sub b h), y.rk⟩
  · rcases x.new b z with z | z
    · exact n z
    · rw [z] at q; cases q
  · rcases y.new b h with z | z
    · exact x.new b z
    · by_cases hb : b ∈ B
      · exact .inl hb
      · refine .inr ?_
        cases q : H b with
        | none => rfl
        | some o =>
          by_cases hr : r = some b
          · exact absurd z (x.rk b hr)
          · rw [x.kp b o hb hr q] at z; cases z
section
variable {X : Cx} {dl : DicL} {C : Addr} {r : Option Addr} {Ex : XK}
def tWS (dl : DicL) (C : Addr) (r : Option Addr) (Ex : XK) (f : Rho → W Fl) : TS := fun Dn σ H => ∃ A0 B ρ c P, Env1 dl A0 B r H σ ρ c ∧ f ρ c P ∧
  (∀ ρ' c' σ' B' H', P (.nx ρ') c' → Env1 dl A0 B' r H' σ' ρ' c' → Stp r B B' H H' → Dn.nx σ' H') ∧
  (∀ d c' v B' H', P (.rt d) c' → Stp r B B' H H' → RdO r H' c' → DX A0 H' v d → Dn.rt v H') ∧
  ∀ w a c' cls dd B' H', P (.ex w a) c' → Stp r B B' H H' → RdO r H' c' → XD C A0 H' cls dd w a → Ex cls dd H'
def seqW (f g : Rho → W Fl) : Rho → W Fl := fun ρ => bW (f ρ) fun fl => match fl with
  | .nx ρ' => g ρ'
  | .rt d => rW (.rt d)
  | .ex w a => rW (.ex w a)
theorem pwss_nil : PSs X [] (tWS dl C r Ex fun ρ => rW (.nx ρ)) := PSs.imp pss_nil fun Dn σ H ⟨A0, B, ρ, c, P, E, hp, k1, k2, k3⟩ => k1 ρ c σ B H hp E (.of_ext (Ext.refl r H) E.rok)
theorem pwss_cons {st : Stmt} {rest : List Stmt} {f g : Rho → W Fl} (h1 : PS X st (tWS dl C r Ex f)) (h2 : PSs X rest (tWS dl C r Ex g)) : PSs X (st :: rest) (tWS dl C r Ex (seqW f g)) :=
  PSs.imp (pss_cons h1 h2) fun Dn σ H ⟨A0, B, ρ, c, P, E, hp, k1, k2, k3⟩ => ⟨A0, B, ρ, c, _, E, hp, fun ρ' c' σ' B' H' p E' s => ⟨A0, B', ρ', c', P, E', p, fun ρ2 c2 σ2 B2 H2 p2 E2 s2 => k1 ρ2 c2 σ2 B2 H2 p2 E2 (s.trans s2),
    fun d c2 v B2 H2 p2 s2 rd2 dv => k2 d c2 v B2 H2 p2 (s.trans s2) rd2 dv, fun w a c2 cls dd B2 H2 p2 s2 rd2 x => k3 w a c2 cls dd B2 H2 p2 (s.trans s2) rd2 x⟩,
    fun d c' v B' H' p s rd dv => k2 d c' v B' H' p s rd dv, fun w a c' cls dd B' H' p s rd x => k3 w a c' cls dd B' H' p s rd x⟩
theorem pwss_one {st : Stmt} {f : Rho → W Fl} (h1 : PS X st (tWS dl C r Ex f)) : PSs X [st] (tWS dl C r Ex f) := PSs.imp (pss_one h1) fun _ _ _ h => h
theorem pws_never {st : Stmt} : PS X st (tWS dl C r Ex fun _ => fW) := PS.imp ps_never fun _ _ _ ⟨_, _, _, _, _, _, h, _⟩ => h
theorem pwss_never {st : List Stmt} : PSs X st (tWS dl C r Ex fun _ => fW) := PSs.imp pss_never fun _ _ _ ⟨_, _, _, _, _, _, h, _⟩ => h
theorem pws_ret {e : Expr} {pos : Pos} {f : Rho → W D} (h : PE X e (tW dl r f)) : PS X (.Return (some e) pos) (tWS dl C r Ex fun ρ => bW (f ρ) fun d => rW (.rt d)) :=
  PS.imp (ps_ret h) fun Dn σ H ⟨A0, B, ρ, c, P, E, hp, k1, k2, k3⟩ => ⟨A0, B, ρ, c, _, E, hp, fun d c' v H' p e rd dv => k2 d c' v B H' p (.of_ext e rd) rd (dv.anti fun a h => List.mem_append_right _ h)⟩
/-- the def's own list is handed out -/
def ownW (i : Nat) : Rho → W (List D) := fun ρ c P => ∃ ds, ρ[i]? = some (.lst ds) ∧ P ds c
theorem pws_retOwn (i : Nat) {x : Str} {p pos : Pos} (hN : X.N[i]? = some x := by rfl) (hv : Vis X.env.scope x := by first | exact Or.inl rfl | exact Or.inr (Or.inl rfl) | exact Or.inr (Or.inr rfl)) (hd : (x == ("__debug__" : Str)) = false := by decide)
    (hcd : (x == ("__classdict__" : Str)) = false := by decide) : PS X (.Return (some (.Name x p)) pos) (tWS dl C r Ex fun ρ => bW (ownW i ρ) fun ds => rW (.rt (.list ds))) :=
  PS.imp (ps_ret (pe_var hN hv hd hcd)) fun Dn σ H ⟨A0, B, ρ, c, P, E, ⟨ds, h1, h2⟩, k1, k2, k3⟩ => by
    obtain ⟨a, vs, e1, e2, e3, e4⟩ := E.lst i ds h1
    exact ⟨_, e1, k2 _ c _ B H h2 (.of_ext (Ext.refl r H) E.rok) E.rok (.lst e3 (E.dis a e2) (e4.anti fun a h => List.mem_append_right _ h))⟩
theorem pws_if {t : Expr} {a b : List Stmt} {pos : Pos} {ft : Rho → W Bool} {fa fb : Rho → W Fl} (ht : PT X t (tWT dl r ft)) (ha : PSs X a (tWS dl C r Ex fa)) (hb : PSs X b (tWS dl C r Ex fb)) :
    PS X (.If t a b pos) (tWS dl C r Ex fun ρ => bW (ft ρ) fun k => if k = true then fa ρ else fb ρ) :=
  PS.imp (ps_if ht ha hb) fun Dn σ H ⟨A0, B, ρ, c, P, E, hp, k1, k2, k3⟩ => ⟨A0, B, ρ, c, _, E, hp, fun k c1 H1 p1 e1 rd1 => by
    have s1 : Stp r B B H H1 := .of_ext e1 rd1
    have go : ∀ f : Rho → W Fl, f ρ c1 P → tWS dl C r Ex f Dn σ H1 := fun f hf => ⟨A0, B, ρ, c1, P, E.ext e1 rd1, hf, fun ρ2 c2 σ2 B2 H2 p2 E2 s2 => k1 ρ2 c2 σ2 B2 H2 p2 E2 (s1.trans s2),
      fun d c2 v B2 H2 p2 s2 rd2 dv => k2 d c2 v B2 H2 p2 (s1.trans s2) rd2 dv, fun w a c2 cls dd B2 H2 p2 s2 rd2 x => k3 w a c2 cls dd B2 H2 p2 (s1.trans s2) rd2 x⟩
    cases k with
    | true => exact iteT (go fa p1)
    | false => exact iteF (go fb p1)⟩
/-- name = value -/
theorem pws_set (i : Nat) {x : Str} {e : Expr} {pos pos' : Pos} {f : Rho → W D} (hN : X.N.Nodup) (he : PE X e (tW dl r f)) (hi : X.N[i]? = some x := by rfl) (hx : Loc X.env.scope x := by first | exact Or.inl rfl | exact Or.inr rfl)
    (hs : swapsWith e (some (.Name x pos')) pos.line X.env = pure false := by rfl) (hf : X.fn x = true ∨ X.env.scope.names.lookup x = some .local := by first | exact .inl rfl | exact .inr rfl) :
    PS X (.Assign [.Name x pos'] e pos) (tWS dl C r Ex fun ρ => bW (f ρ) fun d => rW (.nx (ρ.set i (.dat d)))) :=
  PS.imp (ps_set hN hi hx he hs hf) fun Dn σ H ⟨A0, B, ρ, c, P, E, hp, k1, k2, k3⟩ => ⟨A0, B, ρ, c, _, E, hp, fun d c1 v H1 p1 e1 rd1 dv => k1 _ c1 _ B H1 p1 ((E.ext e1 rd1).set i dv) (.of_ext e1 rd1)⟩
/-- name = [..] on one line -/
theorem pws_setLc (i : Nat) {y : Str} {py : Pos} {elt tg iter : Expr} {ifs : List Expr} {scope : Scope} {pos spos : Pos} {fi : Rho → W (List D)} {fg : D → Rho → W Rho} {ft : Rho → W Bool} {fe : Rho → W D} {as : List Nat} (own' : List (Str × Nat)) (hc : X.calm = true) (hN : X.N.Nodup)
    (hsw : swapsWith (.ListComp elt [⟨tg, iter, ifs, 0⟩] scope pos) (some (.Name y py)) spos.line X.env = pure true) (hi : PI X tg iter (tWI dl r fi)) (ok : BlkOk X.N X.env.scope scope own')
    (hg : ∀ (s : Shared) (H : Hp) (C : Addr) (cl : List (Str × Addr)) (fp : List Addr), PG (X.blk s H scope (compEnvC scope cl C X.env) fp) tg (tWG dl r as fg)) (ht : ∀ (s : Shared) (H : Hp) (C : Addr) (cl : List (Str × Addr)) (fp : List Addr), PTs (X.blk s H scope (compEnvC scope cl C X.env) fp) ifs (tWT dl r ft))
    (he : ∀ (s : Shared) (H : Hp) (C : Addr) (cl : List (Str × Addr)) (fp : List Addr), PE (X.blk s H scope (compEnvC scope cl C X.env) fp) elt (tW dl r fe)) (hy : X.N[i]? = some y := by rfl) (hyl : X.env.scope.names.lookup y = some .local := by rfl)
    (has : ∀ i ∈ as, i ∈ own'.map (·.2) := by decide) (hs : ∀ x, foldedSetIterable iter X.env x = pure x := by intro _; rfl) :
    PS X (.Assign [.Name y py] (.ListComp elt [⟨tg, iter, ifs, 0⟩] scope pos) spos) (tWS dl C r Ex fun ρ => bW (lcD fi fg ft fe (own'.map (·.2)) ρ) fun d => rW (.nx (ρ.set i (.dat d)))) :=
  PS.imp (ps_setLc hc hN hy hyl hsw hi ok hg ht he hs) fun Dn σ H ⟨A0, B, ρ, c, P, E, hp, k1, k2, k3⟩ => lc_of has ⟨A0, B, ρ, c, _, E, hp, fun d c1 v H1 p1 e1 rd1 dv => k1 _ c1 _ B H1 p1 ((E.ext e1 rd1).set i dv) (.of_ext e1 rd1)⟩
/-- a target of any form -/
theorem pws_asg {tg e : Expr} {pos : Pos} {as : List Nat} {f : Rho → W D} {g : D → Rho → W Rho} (he : PE X e (tW dl r f)) (hg : PG X tg (tWG dl r as g)) (hs : swapsWithSole [tg] e pos.line X.env = pure false := by rfl) (hw : swappedStores [tg] e X.env = pure none := by rfl) (h1 : (assignEach [tg] X.env).map (·.2) = [assign tg X.env] := by rfl) :
    PS X (.Assign [tg] e pos) (tWS dl C r Ex fun ρ => bW (f ρ) fun d => bW (g d ρ) fun ρ' => rW (.nx ρ')) :=
  PS.imp (ps_asg he hg hs hw h1) fun Dn σ H ⟨A0, B, ρ, c, P, E, hp, k1, k2, k3⟩ => ⟨A0, B, ρ, c, _, E, hp, fun d c1 v H1 p1 e1 rd1 dv => ⟨A0, B, ρ, c1, _, d, E.ext e1 rd1, dv, p1, fun ρ2 c2 σ2 p2 ec E2 _ _ => by
    subst ec
    exact k1 ρ2 c2 σ2 B H1 p2 E2 (.of_ext e1 rd1)⟩⟩
/-- a, b = x, y -/
def par2W (i j : Nat) (ρ : Rho) : List D → W Fl
  | [d, e] => rW (.nx ((ρ.set i (.dat d)).set j (.dat e)))
  | _ => fW
theorem pws_par {x y : Str} {a b : Expr} (i j : Nat) {f : Rho → W (List D)} {px py pt pos : Pos} {kt k2 pt2} (hc : X.calm = true) (hN : X.N.Nodup) (ha : PA X [a, b] (tWA dl r f)) (hij : i ≠ j := by decide) (hi : X.N[i]? = some x := by rfl) (hj : X.N[j]? = some y := by rfl)
    (hx : X.env.scope.names.lookup x = some .local := by rfl) (hy : X.env.scope.names.lookup y = some .local := by rfl) (hw : swappedStores [.Tuple [.Name x px, .Name y py] kt pt] (.Tuple [a, b] k2 pt2) X.env = pure (some [x, y]) := by rfl)
    (hs : swapsWithSole [.Tuple [.Name x px, .Name y py] kt pt] (.Tuple [a, b] k2 pt2) pos.line X.env = pure false := by rfl) :
    PS X (.Assign [.Tuple [.Name x px, .Name y py] kt pt] (.Tuple [a, b] k2 pt2) pos) (tWS dl C r Ex fun ρ => bW (f ρ) (par2W i j ρ)) :=
  PS.imp (ps_par hc hN hi hj hij hx hy ha hw hs) fun Dn σ H ⟨A0, B, ρ, c, P, E, hp, k1, k2, k3⟩ => ⟨A0, B, ρ, c, _, E, hp, fun ds c1 vs H1 p1 e1 rd1 dv => by
    match ds, vs, dv, p1 with
    | [d, e], [v, w], .cons d1 (.cons d2 .nil), p1 => exact ⟨v, w, rfl, k1 _ c1 _ B H1 p1 (((E.ext e1 rd1).set i d1).set j d2) (.of_ext e1 rd1)⟩⟩
def par3W (i j l : Nat) (ρ : Rho) : List D → W Fl
  | [d, e, g] => rW (.nx (((ρ.set i (.dat d)).set j (.dat e)).set l (.dat g)))
  | _ => fW
theorem pws_par3 {x y z : Str} {a b e : Expr} (i j l : Nat) {f : Rho → W (List D)} {px py pz pt pos : Pos} {kt k2 pt2} (hc : X.calm = true) (hN : X.N.Nodup) (ha : PA X [a, b, e] (tWA dl r f)) (hij : i ≠ j := by decide) (hil : i ≠ l := by decide) (hjl : j ≠ l := by decide) (hi : X.N[i]? = some x := by rfl) (hj : X.N[j]? = some y := by rfl) (hl : X.N[l]? = some z := by rfl)
    (hx : X.env.scope.names.lookup x = some .local := by rfl) (hy : X.env.scope.names.lookup y = some .local := by rfl) (hz : X.env.scope.names.lookup z = some .local := by rfl)
    (hw : swappedStores [.Tuple [.Name x px, .Name y py, .Name z pz] kt pt] (.Tuple [a, b, e] k2 pt2) X.env = pure (some [x, y, z]) := by rfl)
    (hs : swapsWithSole [.Tuple [.Name x px, .Name y py, .Name z pz] kt pt] (.Tuple [a, b, e] k2 pt2) pos.line X.env = pure false := by rfl) :
    PS X (.Assign [.Tuple [.Name x px, .Name y py, .Name z pz] kt pt] (.Tuple [a, b, e] k2 pt2) pos) (tWS dl C r Ex fun ρ => bW (f ρ) (par3W i j l ρ)) :=
  PS.imp (ps_par3 hc hN hi hj hl hij hil hjl hx hy hz ha hw hs) fun Dn σ H ⟨A0, B, ρ, c, P, E, hp, k1, k2, k3⟩ => ⟨A0, B, ρ, c, _, E, hp, fun ds c1 vs H1 p1 e1 rd1 dv => by
    match ds, vs, dv, p1 with
    | [d, e, g], [v, w, u], .cons d1 (.cons d2 (.cons d3 .nil)), p1 => exact ⟨v, w, u, rfl, k1 _ c1 _ B H1 p1 ((((E.ext e1 rd1).set i d1).set j d2).set l d3) (.of_ext e1 rd1)⟩⟩
/-- an expression whose value is dropped -/
theorem pws_expr {e : Expr} {pos : Pos} {f : Rho → W D} (he : PE X e (tW dl r f)) (hs : swapsWith e none pos.line X.env = pure false := by rfl) : PS X (.Expr e pos) (tWS dl C r Ex fun ρ => bW (f ρ) fun _ => rW (.nx ρ)) :=
  PS.imp (ps_expr he hs) fun Dn σ H ⟨A0, B, ρ, c, P, E, hp, k1, k2, k3⟩ => ⟨A0, B, ρ, c, _, E, hp, fun d c1 v H1 p1 e1 rd1 dv => k1 ρ c1 σ B H1 p1 (E.ext e1 rd1) (.of_ext e1 rd1)⟩
theorem XD.anti {A A' : List Addr} {H : Hp} {cls : Value} {d : Option Addr} {w a : D} (h : XD C A H cls d w a) (s : ∀ a ∈ A', a ∈ A) : XD C A' H cls d w a := by
  obtain ⟨h1, dd, vw, va, h2, h3, h4, h5⟩ := h
  exact ⟨h1, dd, vw, va, h2, h3, h4.anti s, h5.anti s⟩
/-- a call that may raise, as a statement -/
def callS (g : List Sl → Nat → (Out → Nat → Prop) → Prop) (ρ : Rho) (sls : List Sl) : W Fl := fun c P => g sls c fun o c' => match o with
  | .rt _ => P (.nx ρ) c'
  | .ex w a => P (.ex w a) c'
theorem pws_call {k : Nat} {f : Addr} {fd : FuncData} {ps : List Str} {g : List Sl → Nat → (Out → Nat → Prop) → Prop} {dvs : List V} {dsl : List Sl} {ds : List Value} {x : Str} {p pos pos2 : Pos} {e : Expr} {es : List Expr} {fa : Rho → W (List Sl)}
    (F : FnOk X.prog X.w X.K X.mg X.base (L2N.CX X.prog X.w) k f fd ps (spG dl C g)) (hr : Room k X.A) (hm : X.mg x = some (.ref f)) (hk : PySem.W.keepIn X.K (.ref f) = true) (hb : Binds X.K fd ps ds) (hd : Vals dvs ds) (hdx : ∀ A H, ArXs dl A r H dvs dsl)
    (hx : Passes (L2N.CX X.prog X.w) X Ex) (ha : PA X (e :: es) (tWR dl r fa)) (hg : Gl X x := by rfl) (hdb : (x == ("__debug__" : Str)) = false := by decide) (he : starEach (e :: es) X.env = (false, eval e X.env) :: starEach es X.env := by rfl) (hpl : (backTo pos (starEach es X.env)).any (·.1) = false := by rfl)
    (hs : swapsWith (.Call (.Name x p) (e :: es) [] pos) none pos2.line X.env = pure false := by rfl) :
    PS X (.Expr (.Call (.Name x p) (e :: es) [] pos) pos2) (tWS dl C r Ex fun ρ => bW (fa ρ) fun sls => callS g ρ (sls ++ dsl)) :=
  PS.imp (ps_expr (pe_call F hr hg hm hk hb hd hx ha hdb he hpl) hs) fun Dn σ H ⟨A0, B, ρ, c, P, E, hp, k1, k2, k3⟩ => ⟨A0, B, ρ, c, _, E, hp, fun sls c1 vs H1 p1 e1 rd1 dx => by
    have E1 := E.ext e1 rd1
    exact ⟨B ++ A0, r, c1, sls ++ dsl, _, E1.trk, E1.ntp, E.rAB, rd1, dx.app (hdx _ _), p1, fun d c' v H' p3 e3 rd3 dv => k1 ρ c' σ B H' p3 (E1.ext e3 rd3) (.of_ext (e1.trans e3) rd3),
      fun w a c' cls dd H' p3 e3 rd3 x => k3 w a c' cls dd B H' p3 (.of_ext (e1.trans e3) rd3) rd3 (x.anti fun a h => List.mem_append_right _ h)⟩⟩
/-- return f(..), f may raise -/
def callR (g : List Sl → Nat → (Out → Nat → Prop) → Prop) (sls : List Sl) : W Fl := fun c P => g sls c fun o c' => match o with
  | .rt d => P (.rt d) c'
  | .ex w a => P (.ex w a) c'
/-! ### own lists -/
theorem Env1.newL {A0 B : List Addr} {H : Hp} {σ : L2.St} {ρ : Rho} {c c' : Nat} {p : Addr} {vs : List V} {ds : List D} (E : Env1 dl A0 B r H σ ρ c) (hf : H p = none) (i : Nat) {H' : Hp} (E' : Env1 dl (p :: A0) B r H' σ ρ c') (hp : H' p = some (.lst vs)) (hd : DXs (B ++ p :: A0) H' vs ds) :
    Env1 dl A0 (p :: B) r H' (σ.set i (some (.ref p))) (ρ.set i (.lst ds)) c' := by
  have per : ∀ a, a ∈ p :: B ++ A0 ↔ a ∈ B ++ p :: A0 := fun a => by simp [or_left_comm]
  have hn : ∀ j : Nat, σ[j]? ≠ some (some (.ref p)) := fun j h => E.ref j p h hf
  refine ⟨by simp [E.len], fun j e h => ?_, fun j es h => ?_, fun j w kvs h => ?_, fun j h => ?_, fun j k a h1 h2 hb => ?_, fun b hb => ?_, E.rA, E'.rok, fun a h => E'.trk a ((per a).mp h), fun a h => E'.ntp a ((per a).mp h), fun j a h => ?_, fun j a os us h => ?_⟩
  · rcases getElem?_set_cases h with ⟨rfl, h2, h3⟩ | ⟨h1, h2⟩
    · cases h2
    · rw [List.getElem?_set_ne (Ne.symm h1)]
      obtain ⟨v, e1, e2⟩ := E'.dat j e h2
      exact ⟨v, e1, e2.anti fun a h => (per a).mp h⟩
  · rcases getElem?_set_cases h with ⟨rfl, h2, h3⟩ | ⟨h1, h2⟩
    · cases h2
      exact ⟨p, vs, by rw [List.getElem?_set_self (by rw [E.len]; exact h3)], List.mem_cons_self, hp, hd.anti fun a h => (per a).mp h⟩
    · rw [List.getElem?_set_ne (Ne.symm h1)]
      obtain ⟨a, ws, e1, e2, e3, e4⟩ := E'.lst j es h2
      exact ⟨a, ws, e1, List.mem_cons_of_mem _ e2, e3, e4.anti fun a h => (per a).mp h⟩
  · rcases getElem?_set_cases h with ⟨rfl, h2, h3⟩ | ⟨h1, h2⟩
    · cases h2
    · rw [List.getElem?_set_ne (Ne.symm h1)]
      obtain ⟨a, e1, e2, e3, e4⟩ := E'.dic j w kvs h2
      refine ⟨a, e1, ?_, e3, e4⟩
      rcases e2 with z | z
      · exact .inl (List.mem_cons_of_mem _ z)
      · rcases List.mem_cons.mp z.2 with y | y
        · exact .inl (by rw [y]; exact List.mem_cons_self)
        · exact .inr ⟨z.1, y⟩
  · rcases getElem?_set_cases h with ⟨rfl, h2, h3⟩ | ⟨h1, h2⟩
    · cases h2
    · rw [List.getElem?_set_ne (Ne.symm h1)]
      exact E'.rd j h2
  · rcases getElem?_set_cases h1 with ⟨e1, h3, h4⟩ | ⟨e1, h3⟩
    · rcases getElem?_set_cases h2 with ⟨e2, h5, h6⟩ | ⟨e2, h5⟩
      · rw [e1, e2]
      · cases h3
        exact absurd h5 (hn k)
    · rcases getElem?_set_cases h2 with ⟨e2, h5, h6⟩ | ⟨e2, h5⟩
      · cases h5
        exact absurd h3 (hn j)
      · rcases List.mem_cons.mp hb with e | hb
        · subst e
          exact absurd h3 (hn j)
        · exact E'.sep j k a h3 h5 hb
  · rcases List.mem_cons.mp hb with e | hb
    · rw [e]; exact fun z => E.trk p (List.mem_append_right _ z) hf
    · exact E.dis b hb
  · rcases getElem?_set_cases h with ⟨rfl, h2, h3⟩ | ⟨h1, h2⟩
    · cases h2
      rw [hp]; simp
    · exact E'.ref j a h2
  · rcases getElem?_set_cases h with ⟨rfl, h2, h3⟩ | ⟨h1, h2⟩
    · cases h2
    · rw [List.getElem?_set_ne (Ne.symm h1)]
      obtain ⟨e1, e2⟩ := E'.ob j a os us h2
      exact ⟨e1, e2.anti fun a h => (per a).mp h⟩
theorem Stp.new1 {B : List Addr} {H H' : Hp} {p : Addr} (hf : H p = none) (e : ∀ b o, r ≠ some b → H b = some o → H' b = some o) (rk : ∀ a, r = some a → H' a ≠ none) : Stp r B (p :: B) H H' :=
  ⟨fun b o _ n q => e b o n q, fun b h => by
    rcases List.mem_cons.mp h with z | z
    · exact .inr (by rw [z]; exact hf)
    · exact .inl z, fun b h => List.mem_cons_of_mem _ h, rk⟩
/-- a newly made list: only the one who made it knows it -/
def tWN (dl : DicL) (r : Option Addr) (f : Rho → W (List D)) : TE := fun σ H Q => ∃ A0 B ρ c P, Env1 dl A0 B r H σ ρ c ∧ f ρ c P ∧ ∀ ds c' p vs H', P ds c' → Ext r H H' → Env1 dl (p :: A0) B r H' σ ρ c' → H p = none → H' p = some (.lst vs) → DXs (B ++ p :: A0) H' vs ds → Q (.ref p) H'
theorem pwn_lst {es : List Expr} {pos : Pos} {f : Rho → W (List D)} (h : PA X es (tWA dl r f)) : PE X (.List es pos) (tWN dl r fun ρ => bW (f ρ) fun ds => bW (gW (ds.length ≤ LIM)) fun _ => rW ds) :=
  PE.imp (pe_lst h) fun σ H Q ⟨A0, B, ρ, c, P, E, hp, q⟩ => ⟨A0, B, ρ, c, _, E, hp, fun ds c1 vs H1 p1 e1 rd1 dv => by
    have hz := lim_line
    have hl := dv.length
    obtain ⟨p0, p1⟩ := p1
    refine ⟨by omega, fun p hp => ?_⟩
    have E1 := E.ext e1 rd1
    have hf : H p = none := by
      cases z : H p with
      | none => rfl
      | some o => exact absurd hp (e1.trk rd1 (by rw [z]; simp))
    refine q _ c1 p vs _ p1 (e1.trans (.of_same (same_new hp))) (E1.addD hp _) hf upd_same (dv.past (fun b o _ z => same_new hp b o z) fun a ha => ?_)
    rcases List.mem_append.mp ha with h | h
    · exact .inl (List.mem_append_left _ h)
    · rcases List.mem_cons.mp h with h | h
      · exact .inr (by rw [h]; exact hp)
      · exact .inl (List.mem_append_right _ h)⟩
theorem pwn_ite {t a b : Expr} {pos : Pos} {ft : Rho → W Bool} {fa fb : Rho → W (List D)} (ht : PT X t (tWT dl r ft)) (ha : PE X a (tWN dl r fa)) (hb : PE X b (tWN dl r fb)) : PE X (.IfExp t a b pos) (tWN dl r fun ρ => bW (ft ρ) fun k => if k = true then fa ρ else fb ρ) :=
  PE.imp (pe_ifExp ht ha hb) fun σ H Q ⟨A0, B, ρ, c, P, E, hp, q⟩ => ⟨A0, B, ρ, c, _, E, hp, fun k c1 H1 p1 e1 rd1 => by
    have go : ∀ f : Rho → W (List D), f ρ c1 P → tWN dl r f σ H1 Q := fun f hf => ⟨A0, B, ρ, c1, P, E.ext e1 rd1, hf, fun ds c2 p vs H2 p2 e2 E2 hn hl hd => q ds c2 p vs H2 p2 (e1.trans e2) E2 (by
      cases z : H p with
      | none => rfl
      | some o => exact absurd hn (e1.trk rd1 (by rw [z]; simp))) hl hd⟩
    cases k with
    | true => exact iteT (go fa p1)
    | false => exact iteF (go fb p1)⟩
/-- name = a new list, the def's own -/
theorem pws_own (i : Nat) {x : Str} {e : Expr} {pos pos' : Pos} {f : Rho → W (List D)} (hN : X.N.Nodup) (he : PE X e (tWN dl r f)) (hi : X.N[i]? = some x := by rfl) (hx : Loc X.env.scope x := by first | exact Or.inl rfl | exact Or.inr rfl)
    (hs : swapsWith e (some (.Name x pos')) pos.line X.env = pure false := by rfl) (hf : X.fn x = true ∨ X.env.scope.names.lookup x = some .local := by first | exact .inl rfl | exact .inr rfl) :
    PS X (.Assign [.Name x pos'] e pos) (tWS dl C r Ex fun ρ => bW (f ρ) fun ds => rW (.nx (ρ.set i (.lst ds)))) :=
  PS.imp (ps_set hN hi hx he hs hf) fun Dn σ H ⟨A0, B, ρ, c, P, E, hp, k1, k2, k3⟩ => ⟨A0, B, ρ, c, _, E, hp, fun ds c1 p vs H1 p1 e1 E1 hf hl hd => k1 _ c1 _ (p :: B) H1 p1 (E.newL hf i E1 hl hd) (.new1 hf e1 E1.rok.there)⟩
/-- a, b = [..], e -/
theorem pws_parL {x y : Str} {a b : Expr} (i j : Nat) {f : Rho → W (List D)} {g : Rho → W D} {px py pt pos : Pos} {kt k2 pt2} (hc : X.calm = true) (hN : X.N.Nodup) (ha : PE X a (tWN dl r f)) (hb : PE X b (tW dl r g)) (hij : i ≠ j := by decide) (hi : X.N[i]? = some x := by rfl) (hj : X.N[j]? = some y := by rfl)
    (hx : X.env.scope.names.lookup x = some .local := by rfl) (hy : X.env.scope.names.lookup y = some .local := by rfl) (hw : swappedStores [.Tuple [.Name x px, .Name y py] kt pt] (.Tuple [a, b] k2 pt2) X.env = pure (some [x, y]) := by rfl)
    (hs : swapsWithSole [.Tuple [.Name x px, .Name y py] kt pt] (.Tuple [a, b] k2 pt2) pos.line X.env = pure false := by rfl)
    (hs1 : starEach [a, b] X.env = (false, eval a X.env) :: starEach [b] X.env := by rfl) (hs2 : starEach [b] X.env = (false, eval b X.env) :: starEach [] X.env := by rfl) :
    PS X (.Assign [.Tuple [.Name x px, .Name y py] kt pt] (.Tuple [a, b] k2 pt2) pos) (tWS dl C r Ex fun ρ => bW (f ρ) fun ds => bW (g ρ) fun d => rW (.nx ((ρ.set i (.lst ds)).set j (.dat d)))) :=
  PS.imp (ps_par hc hN hi hj hij hx hy (pa_cons ha (pa_cons hb pa_nil hs2) hs1) hw hs) fun Dn σ H ⟨A0, B, ρ, c, P, E, hp, k1, k2, k3⟩ => ⟨A0, B, ρ, c, _, E, hp, fun ds c1 p vs H1 p1 e1 E1 hf hl hd =>
    ⟨p :: A0, B, ρ, c1, _, E1, p1, fun d c2 v H2 p2 e2 rd2 dv => by
      have hl2 : H2 p = some (.lst vs) := e2 p _ (fun z => E.trk p (E.rAB p z) hf) hl
      have E2 := E1.ext e2 rd2
      have per : ∀ a, a ∈ p :: B ++ A0 ↔ a ∈ B ++ p :: A0 := fun a => by simp [or_left_comm]
      exact ⟨_, v, rfl, k1 _ c2 _ (p :: B) H2 p2 ((E.newL hf i E2 hl2 (hd.ext e2 E1.rAB)).set j (dv.anti fun a h => (per a).mp h)) (.new1 hf (e1.trans e2) rd2.there)⟩⟩⟩
/-- an own list grows -/
theorem Env1.growB {A0 B : List Addr} {H : Hp} {σ : L2.St} {ρ : Rho} {c : Nat} {p : Addr} {vs ws : List V} {ds es : List D} {i : Nat} (E : Env1 dl A0 B r H σ ρ c) (hi : ρ[i]? = some (.lst ds)) (hs : σ[i]? = some (some (.ref p))) (hp : p ∈ B) (hl : H p = some (.lst vs)) (hw : DXs (B ++ A0) H ws es) :
    Env1 dl A0 B r (upd H p (.lst ws)) σ (ρ.set i (.lst es)) c := by
  have kp : ∀ b o, b ∉ B ++ A0 → H b = some o → upd H p (.lst ws) b = some o := fun b o n q => by
    rw [upd_ne (fun e => n (by rw [e]; exact List.mem_append_left _ hp))]
    exact q
  refine ⟨by simp [E.len], fun j d h => ?_, fun j gs h => ?_, fun j w kvs h => ?_, fun j h => ?_, E.sep, E.dis, E.rA, E.rok.grow hl, fun a h => ?_, fun a h zs => ?_, fun j a h => ?_, fun j a os us h => ?_⟩
  · rcases getElem?_set_cases h with ⟨rfl, h2, h3⟩ | ⟨h1, h2⟩
    · cases h2
    · obtain ⟨v, e1, e2⟩ := E.dat j d h2
      exact ⟨v, e1, e2.past kp fun a h => .inl h⟩
  · rcases getElem?_set_cases h with ⟨rfl, h2, h3⟩ | ⟨h1, h2⟩
    · cases h2
      exact ⟨p, ws, hs, hp, upd_same, hw.past kp fun a h => .inl h⟩
    · obtain ⟨a, us, e1, e2, e3, e4⟩ := E.lst j gs h2
      refine ⟨a, us, e1, e2, ?_, e4.past kp fun a h => .inl h⟩
      rw [upd_ne (fun e => h1 (E.sep j i p (by rw [e1, e]) hs hp))]
      exact e3
  · rcases getElem?_set_cases h with ⟨rfl, h2, h3⟩ | ⟨h1, h2⟩
    · cases h2
    · obtain ⟨a, e1, e2, e3, e4⟩ := E.dic j w kvs h2
      refine ⟨a, e1, e2, e3, ?_⟩
      rw [upd_ne (fun e => by rw [e, hl] at e4; cases e4)]
      exact e4
  · rcases getElem?_set_cases h with ⟨rfl, h2, h3⟩ | ⟨h1, h2⟩
    · cases h2
    · exact E.rd j h2
  · by_cases e : a = p
    · subst e; rw [upd_same]; simp
    · rw [upd_ne e]; exact E.trk a h
  · by_cases e : a = p
    · subst e; rw [upd_same]; intro q; cases q
    · rw [upd_ne e]; exact E.ntp a h zs
  · by_cases e : a = p
    · subst e; rw [upd_same]; simp
    · rw [upd_ne e]; exact E.ref j a h
  · rcases getElem?_set_cases h with ⟨rfl, h2, h3⟩ | ⟨h1, h2⟩
    · cases h2
    · obtain ⟨e1, e2⟩ := E.ob j a os us h2
      exact ⟨e1, e2.past kp fun a h => .inl h⟩
theorem Stp.grow {A0 B : List Addr} {H : Hp} {σ : L2.St} {ρ : Rho} {c : Nat} {p : Addr} {vs ws : List V} (E : Env1 dl A0 B r H σ ρ c) (hp : p ∈ B) (hl : H p = some (.lst vs)) : Stp r B B H (upd H p (.lst ws)) := by
  refine ⟨fun b o n _ q => ?_, fun b h => .inl h, fun b h => h, (E.rok.grow hl).there⟩
  rw [upd_ne (fun e => n (by rw [e]; exact hp))]
  exact q
/-- x.append(e) -/
theorem pws_append (i : Nat) {x : Str} {e : Expr} {px apos cpos spos : Pos} {f : Rho → W D} (he : PE X e (tW dl r f)) (hN : X.N[i]? = some x := by rfl) (hv : Vis X.env.scope x := by first | exact Or.inl rfl | exact Or.inr (Or.inl rfl) | exact Or.inr (Or.inr rfl)) (hd : (x == ("__debug__" : Str)) = false := by decide)
    (hcd : (x == ("__classdict__" : Str)) = false := by decide) (hbase : attributeBase (.Name x px) "append" X.env (eval (.Name x px) X.env) = eval (.Name x px) X.env := by rfl)
    (hfew : ((backTo cpos (starEach (e :: []) X.env)).all (fun x => !x.1) && (backToKw cpos (keywordEach [] X.env)).all (fun x => x.1.isSome)
      && decide ((e :: []).length + ([] : List Keyword).length + (if ([] : List Keyword).isEmpty then 0 else 1) < 30)) = true := by rfl)
    (hline : (apos.endLine == cpos.line) = true := by rfl) (hs : starEach (e :: []) X.env = (false, eval e X.env) :: starEach [] X.env := by rfl) (hplain : (backTo cpos (starEach [] X.env)).any (·.1) = false := by rfl)
    (hsw : swapsWith (.Call (.Attribute (.Name x px) "append" apos) (e :: []) [] cpos) none spos.line X.env = pure false := by rfl) :
    PS X (.Expr (.Call (.Attribute (.Name x px) "append" apos) [e] [] cpos) spos) (tWS dl C r Ex fun ρ => bW (ownW i ρ) fun ds => bW (f ρ) fun d => bW (gW (ds.length < LIM)) fun _ => rW (.nx (ρ.set i (.lst (ds ++ [d]))))) :=
  PS.imp (ps_expr (pe_bm PySem.F.plainAttrs_list PySem.F.slot_list_append PySem.F.type_list_append mt_append (pe_var hN hv hd hcd) (pa_cons he pa_nil hs) hbase hfew hline hs hplain) hsw) fun Dn σ H ⟨A0, B, ρ, c, P, E, hp, k1, k2, k3⟩ => by
    obtain ⟨ds, hi, hp⟩ := hp
    obtain ⟨a, vs, e1, e2, e3, e4⟩ := E.lst i ds hi
    refine ⟨_, e1, .inl ⟨rfl, _, SqL.of e3⟩, A0, B, ρ, c, _, E, hp, fun d c1 v H1 p1 x1 rd1 dv => ?_⟩
    obtain ⟨hl, p1⟩ := p1
    have hz := lim_line
    have E1 := E.ext x1 rd1
    have e3' := x1 a _ (E.nB a e2) e3
    have e4' := e4.ext x1 E.rAB
    have hlen := e4'.length
    exact ⟨a, vs, v, rfl, rfl, e3', by omega, k1 _ c1 _ B _ p1 (E1.growB hi e1 e2 e3' (e4'.app (.cons dv .nil))) (Stp.trans (.of_ext x1 rd1) (Stp.grow E1 e2 e3'))⟩
/-- x.extend(e), e a tuple -/
theorem list_extend_tupA (l : Addr) (items : Array Value) (n : Nat) (b : Addr) (items2 : Array Value) (n2 : Nat) (dd : Option Addr) (sl : Array (Option Value)) (hs0 : ¬(!items.isEmpty && Builtin.List.listTooLong (items.size + items2.size)) = true) (hs1 : items.size ≤ sizeLine) (hs2 : items.size + items2.size ≤ sizeLine + 1) :
    Meets (Builtin.«list.extend» ⟨[.ref l, .ref b], []⟩) (fun _ R s => s.heap.get? l = some { cls := .type "list", dict := none, data := .seq items n, slots := #[] } ∧ s.heap.get? b = some { cls := .type "tuple", dict := dd, data := .seq items2 n2, slots := sl } ∧ R (.ok (.ret Value.none)) { s with heap := s.heap.update l (Obj.mapSeq fun x => x ++ items2), toks := s.toks }) :=
  .of_wp fun prog w A R s h => by
    obtain ⟨hp, g, d, tk, os⟩ := s; obtain ⟨hl, hb, h⟩ := h; have f1 := AutoSeq1.idx_int; have f2 := AutoSeq1.sub_tuple_tuple; have f3 := AutoSeq1.sub_list_list; have f4 := AutoSeq1.sub_tuple_list; have f5 := AutoSeq1.sub_list_tuple;
    have hz' : (items ++ items2).size ≤ sizeLine + 1 := by rw [Array.size_append]; exact hs2
    wp_walk using (wpAny_updateSeq hl rfl (hz := hs1) (_hz' := hz')), AutoSeq1.wpAny_loadPart' hl, AutoSeq1.wpAny_loadPart' hb; exact ⟨_, rfl, h⟩
def rExtT (K : PySem.W.Frag) : V → List V → Hp → VK → Prop := fun x vs H Q => ∃ l b xs zs, x = .ref l ∧ vs = [.ref b] ∧ H l = some (.lst xs) ∧ SqT K H b zs ∧ xs.length + zs.length ≤ sizeLine ∧ Q .non (upd H l (.lst (xs ++ zs)))
theorem mt_extT : MtM X "list.extend" (rExtT X.K) := by
  intro pins s σ H x vs v us Q I rx rv h
  obtain ⟨l, b, xs, zs, rfl, rfl, hH, hB, hz, q⟩ := h
  cases rx
  obtain ⟨u, rfl, ru⟩ := rv.one
  cases ru
  obtain ⟨z, its, n, r, hl, e⟩ := I.lstM hH
  obtain ⟨its2, r2, ⟨⟨oc, od, dt, sl⟩, e2, hc, n2, hd⟩, hz2⟩ := I.tuple hB
  simp only at hc hd
  subst hc hd
  have hl2 := r2.length
  have hsz : its.toArray.size + its2.toArray.size ≤ sizeLine := by rw [List.size_toArray, List.size_toArray]; omega
  have hlong : ¬ (!its.toArray.isEmpty && Builtin.List.listTooLong (its.toArray.size + its2.toArray.size)) = true := by
    rw [notLongL hsz, Bool.and_false]
    exact Bool.false_ne_true
  refine call_meets F.slot_list_extend ⟨_, e, rfl⟩ F.entry_list_extend (F.args_list_extend_2 _ _)
    (list_extend_tupA l its.toArray n b its2.toArray n2 od sl hlong (by rw [List.size_toArray]; omega) (by omega)) ⟨e, e2, ?_⟩
  refine ⟨.non, _, I.lset (its' := its ++ its2) hH e (by simp) (r.append r2) ?_, rfl, q⟩
  rw [List.length_append]
  omega
theorem pws_extend (i : Nat) {x : Str} {e : Expr} {px apos cpos spos : Pos} {f : Rho → W D} (he : PE X e (tW dl r f)) (hN : X.N[i]? = some x := by rfl) (hv : Vis X.env.scope x := by first | exact Or.inl rfl | exact Or.inr (Or.inl rfl) | exact Or.inr (Or.inr rfl)) (hd : (x == ("__debug__" : Str)) = false := by decide)
    (hcd : (x == ("__classdict__" : Str)) = false := by decide) (hbase : attributeBase (.Name x px) "extend" X.env (eval (.Name x px) X.env) = eval (.Name x px) X.env := by rfl)
    (hfew : ((backTo cpos (starEach (e :: []) X.env)).all (fun x => !x.1) && (backToKw cpos (keywordEach [] X.env)).all (fun x => x.1.isSome)
      && decide ((e :: []).length + ([] : List Keyword).length + (if ([] : List Keyword).isEmpty then 0 else 1) < 30)) = true := by rfl)
    (hline : (apos.endLine == cpos.line) = true := by rfl) (hs : starEach (e :: []) X.env = (false, eval e X.env) :: starEach [] X.env := by rfl) (hplain : (backTo cpos (starEach [] X.env)).any (·.1) = false := by rfl)
    (hsw : swapsWith (.Call (.Attribute (.Name x px) "extend" apos) (e :: []) [] cpos) none spos.line X.env = pure false := by rfl) :
    PS X (.Expr (.Call (.Attribute (.Name x px) "extend" apos) [e] [] cpos) spos) (tWS dl C r Ex fun ρ => bW (ownW i ρ) fun ds => bW (f ρ) fun d => bW (asT d) fun es => bW (gW (ds.length + es.length < LIM)) fun _ => rW (.nx (ρ.set i (.lst (ds ++ es))))) :=
  PS.imp (ps_expr (pe_bm PySem.F.plainAttrs_list PySem.F.slot_list_extend PySem.F.type_list_extend mt_extT (pe_var hN hv hd hcd) (pa_cons he pa_nil hs) hbase hfew hline hs hplain) hsw) fun Dn σ H ⟨A0, B, ρ, c, P, E, hp, k1, k2, k3⟩ => by
    obtain ⟨ds, hi, hp⟩ := hp
    obtain ⟨a, vs, e1, e2, e3, e4⟩ := E.lst i ds hi
    refine ⟨_, e1, .inl ⟨rfl, _, SqL.of e3⟩, A0, B, ρ, c, _, E, hp, fun d c1 v H1 p1 x1 rd1 dv => ?_⟩
    have hz := lim_line
    have E1 := E.ext x1 rd1
    have e3' := x1 a _ (E.nB a e2) e3
    have e4' := e4.ext x1 E.rAB
    have hlen := e4'.length
    cases dv with
    | tup h1 h2 h3 =>
      obtain ⟨hl, p1⟩ := p1
      have hlen2 := h3.length
      exact ⟨a, _, vs, _, rfl, rfl, e3', SqT.of h1, by omega, k1 _ c1 _ B _ p1 (E1.growB hi e1 e2 e3' (e4'.app h3)) (Stp.trans (.of_ext x1 rd1) (Stp.grow E1 e2 e3'))⟩
    | _ => exact (show False from p1).elim
/-! ### loops -/
def forG (g : D → Rho → W Rho) (f : Rho → W Fl) : List D → Rho → W Fl
  | [], ρ => rW (.nx ρ)
  | d :: ds, ρ => bW (g d ρ) fun ρ1 => bW (f ρ1) fun fl => match fl with
    | .nx ρ2 => forG g f ds ρ2
    | .rt d => rW (.rt d)
    | .ex w a => rW (.ex w a)
theorem pws_for {tg iter : Expr} {body : List Stmt} {pos : Pos} {fi : Rho → W (List D)} {as : List Nat} {g : D → Rho → W Rho} {f : Rho → W Fl} (hp : PassesOwn (model X.prog X.w) X.A X.env X.xe) (hc : X.calm = true) (hi : PI X tg iter (tWI dl r fi)) (hg : PG X tg (tWG dl r as g)) (hb : PSs X body (tWS dl C r Ex f))
    (hs : ∀ x, foldedSetIterable iter X.env x = pure x := by intro _; rfl) : PS X (.For tg iter body [] pos) (tWS dl C r Ex fun ρ => bW (fi ρ) fun ds => forG g f ds ρ) :=
  PS.imp (ps_for hp hc hi hg hb hs) fun Dn σ H ⟨A0, B, ρ, c, P, E, hp, k1, k2, k3⟩ => by
    refine ⟨A0, B, ρ, c, _, E, hp, fun ds c1 J H1 p1 e1 rd1 it => ?_⟩
    have E1 := E.ext e1 rd1
    have s1 : Stp r B B H H1 := .of_ext e1 rd1
    refine for_it it (fun i σ' H' => ∃ B' ρ' c', Env1 dl A0 B' r H' σ' ρ' c' ∧ forG g f (ds.drop i) ρ' c' P ∧ Stp r B B' H1 H') ⟨B, ρ, c1, E1, p1, .of_ext (Ext.refl r H1) rd1⟩ ?_ ?_ ?_
    · intro i σ' H' hi p
      obtain ⟨B', ρ', c', E', _, s'⟩ := p
      refine ⟨fun b o n z => s'.kp b o (fun y => n (List.mem_append_left _ y)) (fun y => n (E.rAB b y)) z, fun a ha => E'.trk a ?_⟩
      rcases List.mem_append.mp ha with h | h
      · exact List.mem_append_left _ (s'.sub a h)
      · exact List.mem_append_right _ h
    · intro i x σ' H' H2 hi p y
      obtain ⟨B', ρ', c', E', pp, s'⟩ := p
      obtain ⟨s2, d, ed, dx⟩ := y
      have rd2 := E'.rok.same s2
      have E2 := E'.ext (.of_same s2) rd2
      have s12 : Stp r B B' H1 H2 := s'.trans (.of_ext (.of_same s2) rd2)
      have dx2 : DX (B' ++ A0) H2 x d := dx _ (fun a ha => by
        rcases List.mem_append.mp ha with h | h
        · exact (s'.new a h).imp (List.mem_append_left _) id
        · exact .inl (List.mem_append_right _ h)) E'.trk
      have hdrop : ds.drop i = d :: ds.drop (i + 1) := by
        obtain ⟨hlt, e⟩ := List.getElem?_eq_some_iff.mp ed
        rw [List.drop_eq_getElem_cons hlt, e]
      rw [hdrop] at pp
      refine ⟨A0, B', ρ', c', _, d, E2, dx2, pp, fun ρ4 c4 σ4 p4 ec E4 _ _ => ?_⟩
      subst ec
      exact ⟨A0, B', ρ4, c4, _, E4, p4, fun ρ5 c5 σ5 B5 H5 p5 E5 s5 => ⟨B5, ρ5, c5, E5, p5, s12.trans s5⟩, fun d5 c5 v B5 H5 p5 s5 rd5 dv => k2 d5 c5 v B5 H5 p5 ((s1.trans s12).trans s5) rd5 dv,
        fun w a c5 cls dd B5 H5 p5 s5 rd5 x => k3 w a c5 cls dd B5 H5 p5 ((s1.trans s12).trans s5) rd5 x⟩
    · intro σ' H' p
      obtain ⟨B', ρ', c', E', pp, s'⟩ := p
      rw [List.drop_length] at pp
      exact k1 ρ' c' σ' B' H' pp E' (s1.trans s')
/-! ### match over texts -/
/-- the cases from the one at hand on, the subject's text known -/
structure PM (X : Cx) (cs : List MatchCase) (x : Str) (t : TS) : Prop where
  run : ∀ (first : Bool) (v : Value), RelV (.str x) v → ∀ (pins : List (Addr × Obj)) (s : Shared) (σ : L2.St) (H : Hp) (Dn : Ends), Inv X pins σ H s → t Dn σ H → wpAny (model X.prog X.w) X.A (matchCases cs X.env v first) (SP X pins Dn) X.xe s
theorem pm_nil {x : Str} : PM X [] x tNext := ⟨fun first v rv pins s σ H Dn I q => wpAny_matchCases_nil ⟨σ, H, I, q⟩⟩
theorem pm_str {x z : Str} {j : Nat} {p1 p2 : Pos} {body : List Stmt} {rest : List MatchCase} {t u : TS} (hb : PSs X body t) (hr : PM X rest x u) : PM X (⟨.MatchValue (.Constant (.str z) j p1) p2, none, body⟩ :: rest) x (fun Dn σ H => if decide (x = z) = true then t Dn σ H else u Dn σ H) := by
  refine ⟨fun first v rv pins s σ H Dn I q => wpAny_matchCases_cons (wpAny_matchPattern_Value ?_)⟩
  refine thn (pe_str.run pins s σ H (fun y H' => y = .str z ∧ H' = H) I ⟨rfl, rfl⟩) fun u1 s1 hh => ?_
  obtain ⟨y, H1, I1, r1, e1, e2⟩ := hh
  subst e1 e2
  refine thn (op_eq pins s1 σ _ (.str x) (.str z) v u1 (fun y H' => y = .bl (decide (V.str x = V.str z)) ∧ H' = H1) I1 rv r1 ⟨rfl, rfl, rfl⟩) fun u2 s2 hh => ?_
  obtain ⟨y, H2, I2, r2, e1, e2⟩ := hh
  subst e1 e2
  refine thn (tru_ok pins s2 σ _ _ u2 (fun b H' => b = decide (V.str x = V.str z) ∧ H' = H2) I2 r2 ⟨_, rfl, rfl, rfl⟩) fun b s3 hh => ?_
  obtain ⟨H3, I3, e1, e2⟩ := hh
  subst e1 e2
  have ed : decide (V.str x = V.str z) = decide (x = z) := by
    by_cases h : x = z
    · subst h; simp
    · have h2 : V.str x ≠ V.str z := fun e => h (V.str.inj e)
      rw [decide_eq_false h, decide_eq_false h2]
  rw [ed]
  cases hd : decide (x = z) with
  | true =>
    rw [hd] at q
    exact wpAny_assignInOrder_none (hb.run pins s3 σ _ Dn I3 q)
  | false =>
    rw [hd] at q
    exact hr.run false v rv pins s3 σ _ Dn I3 q
theorem pm_any {x : Str} {p : Pos} {body : List Stmt} {rest : List MatchCase} {t : TS} (hb : PSs X body t) : PM X (⟨.MatchAs none none p, none, body⟩ :: rest) x t := by
  refine ⟨fun first v rv pins s σ H Dn I q => wpAny_matchCases_cons (wpAny_matchPattern_Capture ?_)⟩
  exact wpAny_assignInOrder_none (hb.run pins s σ H Dn I q)
/-- by data -/
structure PMW (X : Cx) (dl : DicL) (C : Addr) (r : Option Addr) (Ex : XK) (cs : List MatchCase) (f : Str → Rho → W Fl) : Prop where
  pm : ∀ x, PM X cs x (tWS dl C r Ex (f x))
theorem PM.imp {cs : List MatchCase} {x : Str} {t t' : TS} (h : PM X cs x t) (i : ∀ Dn σ H, t' Dn σ H → t Dn σ H) : PM X cs x t' := ⟨fun first v rv pins s σ H Dn I q => h.run first v rv pins s σ H Dn I (i _ _ _ q)⟩
theorem pmw_nil : PMW X dl C r Ex [] (fun _ ρ => rW (.nx ρ)) := ⟨fun x => PM.imp pm_nil fun Dn σ H ⟨A0, B, ρ, c, P, E, hp, k1, k2, k3⟩ => k1 ρ c σ B H hp E (.of_ext (Ext.refl r H) E.rok)⟩
theorem pmw_str {z : Str} {j : Nat} {p1 p2 : Pos} {body : List Stmt} {rest : List MatchCase} {f : Rho → W Fl} {g : Str → Rho → W Fl} (hb : PSs X body (tWS dl C r Ex f)) (hr : PMW X dl C r Ex rest g) :
    PMW X dl C r Ex (⟨.MatchValue (.Constant (.str z) j p1) p2, none, body⟩ :: rest) (fun x ρ => if decide (x = z) = true then f ρ else g x ρ) := ⟨fun x => PM.imp (pm_str hb (hr.pm x)) fun Dn σ H ⟨A0, B, ρ, c, P, E, hp, k⟩ => by
    have hp' : (if decide (x = z) = true then f ρ else g x ρ) c P := hp
    by_cases h : decide (x = z) = true
    · rw [if_pos h] at hp' ⊢
      exact ⟨A0, B, ρ, c, P, E, hp', k⟩
    · rw [if_neg h] at hp' ⊢
      exact ⟨A0, B, ρ, c, P, E, hp', k⟩⟩
theorem pmw_any {p : Pos} {body : List Stmt} {rest : List MatchCase} {f : Rho → W Fl} (hb : PSs X body (tWS dl C r Ex f)) : PMW X dl C r Ex (⟨.MatchAs none none p, none, body⟩ :: rest) (fun _ => f) := ⟨fun x => pm_any hb⟩
def asS : D → W Str
  | .str x => rW x
  | _ => fW
theorem pws_match {e : Expr} {cs : List MatchCase} {pos : Pos} {f : Rho → W D} {g : Str → Rho → W Fl} (he : PE X e (tW dl r f)) (hm : PMW X dl C r Ex cs g) : PS X (.Match e cs pos) (tWS dl C r Ex fun ρ => bW (f ρ) fun d => bW (asS d) fun x => g x ρ) := by
  refine ⟨fun pins s σ H Dn I q => ?_⟩
  obtain ⟨A0, B, ρ, c, P, E, hp, k1, k2, k3⟩ := q
  refine wpAny_Match (thn (he.run pins s σ H (fun v H1 => ∃ x c1, v = .str x ∧ Ext r H H1 ∧ RdO r H1 c1 ∧ g x ρ c1 P) I ⟨A0, B, ρ, c, _, E, hp, fun d c1 v H1 p1 e1 rd1 dv => ?_⟩) fun u s1 hh => ?_)
  · cases dv with
    | str x => exact ⟨x, c1, rfl, e1, rd1, p1⟩
    | _ => exact (show False from p1).elim
  · obtain ⟨v, H1, I1, r1, x, c1, e, e1, rd1, p1⟩ := hh
    subst e
    have s1 : Stp r B B H H1 := .of_ext e1 rd1
    exact (hm.pm x).run true u r1 pins _ σ H1 Dn I1 ⟨A0, B, ρ, c1, P, E.ext e1 rd1, p1, fun ρ2 c2 σ2 B2 H2 p2 E2 s2 => k1 ρ2 c2 σ2 B2 H2 p2 E2 (s1.trans s2),
      fun d c2 v B2 H2 p2 s2 rd2 dv => k2 d c2 v B2 H2 p2 (s1.trans s2) rd2 dv, fun w a c2 cls dd B2 H2 p2 s2 rd2 x => k3 w a c2 cls dd B2 H2 p2 (s1.trans s2) rd2 x⟩
end
/-! ### defs -/
section
variable {P : Program} {w : World} {K : PySem.W.Frag} {mg : Str → Option Value} {base : Heap} {x qual : Str} {params : Arguments} {body : List Stmt} {scope : Scope} {dvs : List V} {kws : List (Str × V)} {f : Addr} {fd : FuncData} {dl : DicL} {C : Addr}
def rho0 (N : List Str) (sls : List Sl) : Rho := sls ++ List.replicate (N.length - sls.length) .no
theorem rho0_get {N : List Str} {sls : List Sl} {i : Nat} {s : Sl} (h : (rho0 N sls)[i]? = some s) : s = .no ∨ sls[i]? = some s := by
  unfold rho0 at h
  by_cases hi : i < sls.length
  · rw [List.getElem?_append_left hi] at h
    exact .inr h
  · rw [List.getElem?_append_right (by omega)] at h
    obtain ⟨hlt, e⟩ := List.getElem?_eq_some_iff.mp h
    simp at e
    exact .inl e.symm
theorem start_get {N : List Str} {vs : List V} {i : Nat} {v : V} (h : vs[i]? = some v) : (L2.start N vs)[i]? = some (some v) := by
  unfold L2.start
  obtain ⟨hlt, e⟩ := List.getElem?_eq_some_iff.mp h
  rw [List.getElem?_append_left (by simpa using hlt), List.getElem?_map, h]
  rfl
theorem start_some {N : List Str} {vs : List V} {i : Nat} {v : V} (h : (L2.start N vs)[i]? = some (some v)) : vs[i]? = some v := by
  unfold L2.start at h
  by_cases hi : i < vs.length
  · rw [List.getElem?_append_left (by simpa using hi), List.getElem?_map] at h
    cases z : vs[i]? with
    | none => rw [z] at h; cases h
    | some u => rw [z] at h; exact Option.some.inj h
  · rw [List.getElem?_append_right (by simp; omega)] at h
    obtain ⟨hlt, e⟩ := List.getElem?_eq_some_iff.mp h
    simp at e
theorem ArX.ref {dl : DicL} {A : List Addr} {r : Option Addr} {H : Hp} {a : Addr} {s : Sl} (h : ArX dl A r H (.ref a) s) (tr : ∀ a ∈ A, H a ≠ none) (hr : ∀ a, r = some a → a ∈ A) : H a ≠ none := by
  cases s with
  | dat d =>
    have h' : DX A H (.ref a) d := h
    cases h' with
    | lst q _ _ => rw [q]; simp
    | tup q _ _ => rw [q]; simp
  | dic w kvs =>
    obtain ⟨_, b, e, h1, _⟩ := h
    cases e
    exact tr a h1
  | rd =>
    obtain ⟨b, e, h1⟩ := h
    cases e
    exact tr a (hr a h1)
  | _ => exact (show False from h).elim
theorem ArXs.get' {dl : DicL} {A : List Addr} {r : Option Addr} {H : Hp} : ∀ {vs : List V} {ss : List Sl} {i : Nat} {v : V}, ArXs dl A r H vs ss → vs[i]? = some v → ∃ s, ss[i]? = some s ∧ ArX dl A r H v s
  | _, _, _, _, .nil, e => by simp at e
  | _, _, 0, _, .cons h _, e => by
    have e' : _ = _ := Option.some.inj e
    subst e'
    exact ⟨_, rfl, h⟩
  | _, _, i + 1, v, .cons _ t, e => by
    obtain ⟨u, h1, h2⟩ := ArXs.get' (i := i) (v := v) t (by simpa using e)
    exact ⟨u, by simpa using h1, h2⟩
/-- THE RULE for a def: its body as a term of rules (what it does, by data), and what that does -/
theorem fn_w {N ps : List Str} {k : Nat} {g : List Sl → Nat → (Out → Nat → Prop) → Prop} {fb : Rho → W Fl} (F : FunD K x qual params body scope dvs kws f fd) (S : FnScope N ps scope) (hlen : ∀ sls c P, g sls c P → sls.length = ps.length)
    (hb : ∀ (cdv : Value) (A : Around) (outer : List Env) (s : Shared) (H : Hp) (E : XK) (r : Option Addr), Room k (A.deeper (PyProof.Rows.envOfC qual scope s.heap.objs.size f cdv)) → PSs (cxOf (L2N.CX P w) P w K mg base N qual scope f cdv A outer s H E) body (tWS dl C r E fb))
    (hg : ∀ sls c P, g sls c P → fb (rho0 N sls) c fun fl c' => match fl with
      | .nx _ => P (.rt .none) c'
      | .rt d => P (.rt d) c'
      | .ex w a => P (.ex w a) c') : FnOk P w K mg base (L2N.CX P w) (k + 1) f fd ps (spG dl C g) := by
  have hps : ps.length ≤ N.length := by
    have := congrArg List.length S.pre
    rw [List.length_take] at this
    omega
  refine F.ok S (fun vs H Q E h => ?_) fun cdv A outer s H vs Q E hr h => ?_
  · obtain ⟨A, r, c, sls, P', _, _, _, _, da, hgg, _⟩ := h
    rw [da.length]
    exact hlen _ _ _ hgg
  · obtain ⟨A', r, c, sls, P', h1, h2, h3, h4, da, hgg, q1, q2⟩ := h
    have hl := hlen _ _ _ hgg
    have hl2 := da.length
    refine ⟨_, hb cdv A outer s H E r hr, A', [], rho0 N sls, c, _, ⟨?_, fun i d e => ?_, fun i ds e => ?_, fun i w kvs e => ?_, fun i e => ?_, fun i j a _ _ z => (by cases z), fun b z => (by cases z), h3, h4, h1, h2, fun i a e => ?_, fun i a os us e => ?_⟩, hg sls c P' hgg, fun ρ' c' σ' B' H' p E' s' => ?_, fun d c' v B' H' p s' rd dv => ?_, fun w a c' cls dd B' H' p s' rd x => ?_⟩
    · simp [rho0, L2.start, hl2]
    · rcases rho0_get e with e | e
      · cases e
      · obtain ⟨v, e1, e2⟩ := da.get e
        exact ⟨v, start_get e1, e2⟩
    · rcases rho0_get e with e | e
      · cases e
      · obtain ⟨v, e1, e2⟩ := da.get e
        exact (show False from e2).elim
    · rcases rho0_get e with e | e
      · cases e
      · obtain ⟨v, e1, e0, a, e2, e3, e4, e5⟩ := da.get e
        subst e2
        exact ⟨a, start_get e1, .inr ⟨e0, e3⟩, e4, e5⟩
    · rcases rho0_get e with e | e
      · cases e
      · obtain ⟨v, e1, a, e2, e3⟩ := da.get e
        subst e2
        exact ⟨a, start_get e1, e3⟩
    · obtain ⟨s, e1, e2⟩ := da.get' (start_some e)
      exact e2.ref h1 h3
    · rcases rho0_get e with e | e
      · cases e
      · obtain ⟨v, e1, e2⟩ := da.get e
        exact (show False from e2).elim
    · exact q1 .none c' .non H' p (fun b o n z => s'.kp b o (by simp) n z) E'.rok .non
    · exact q1 d c' v H' p (fun b o n z => s'.kp b o (by simp) n z) rd dv
    · exact q2 w a c' cls dd H' p (fun b o n z => s'.kp b o (by simp) n z) rd x
end
end FK
set_option Elab.async false
set_option linter.all false
set_option maxRecDepth 100000
set_option maxHeartbeats 4000000
/-! enumerate over a tuple, own lists read, constants' tuples, dicts. -/
namespace FK
open PySem PySem.Spec L2

section
variable {prog : Program} {w : World} {A : Around} {E : Value → Shared → Prop} {s : Shared}
theorem draws_tuple (hh : A.handled = none) (it l : Addr) (hne : l ≠ it) (items : Array Value) :
    Draws prog w A it [it, l] items.size (fun i v => items[i]? = some v) (fun i h => h.IsTupleIter it l i ∧ h.IsTuple l items) where
  live := fun _ _ st => let ⟨o, ho, _⟩ := st.1; ⟨o, ho⟩
  frame := fun _ _ _ st hk => ⟨st.1.at fun o e => hk it (by simp) o e, let ⟨o, ho, r⟩ := st.2; ⟨o, hk l (by simp) o ho, r⟩⟩
  item := fun i s Q E hi st hQ => by
    refine RZ.nextOf_tuple_item st.1 st.2 (x := items[i]) (by simp [hi]) fun h' hit' hs' => ?_
    refine hQ _ h' s.toks (by simp [hi]) ⟨hit', ?_⟩ hs'
    obtain ⟨o, ho, r⟩ := st.2
    exact ⟨o, (hs'.2 l hne).trans ho, r⟩
  done := fun s Q E st hE => RZ.nextOf_tuple_end hh st.1 st.2 (by simp) hE
theorem meets_enumerate_newT (l : Addr) (items : Array Value) (n : Nat) (dct : Option Addr) (sl : Array (Option Value)) :
    Meets (Builtin.«enumerate.__new__» ⟨[.type "enumerate", .ref l], []⟩) (fun _ R s => s.heap.get? l = some { cls := .type "tuple", dict := dct, data := .seq items n, slots := sl } ∧
      R (.ok (.ret (.ref (s.heap.push { cls := .type "tuple_iterator", data := .fields #[.ref l, .int 0 0] }).objs.size)))
        { s with heap := (s.heap.push { cls := .type "tuple_iterator", data := .fields #[.ref l, .int 0 0] }).push { cls := .type "enumerate", data := .fields #[.none, .bool false, .ref s.heap.objs.size, rawInt 0, .none, .none] } }) :=
  .of_wp fun prog w A R s h => by
    obtain ⟨hp, g, d, tk, os⟩ := s; obtain ⟨hl, h⟩ := h
    have hsub := sub_enumerate
    have hL : Heap.IsTuple (Shared.heap ⟨hp, g, d, tk, os⟩) l items := ⟨_, hl, rfl, n, rfl⟩
    wp_walk using AutoSeq1.wpAny_loadPart' hl
    refine wpAny_stack_any fun st => wpAny_pure ?_
    split
    · rename_i c _ _ _ _ _
      cases (c == Value.type "enumerate")
      · wp_walk using AutoSeq1.wpAny_loadPart' hl, wpAny_pyIter_tuple hL
        exact ⟨_, rfl, h⟩
      · wp_walk using AutoSeq1.wpAny_loadPart' hl, wpAny_pyIter_tuple hL
        exact ⟨_, rfl, h⟩
    · wp_walk using AutoSeq1.wpAny_loadPart' hl, wpAny_pyIter_tuple hL
      exact ⟨_, rfl, h⟩
theorem call_enumerate_tuple {l : Addr} {items : Array Value} {Q : Value → Shared → Prop} (hL : s.heap.IsTuple l items)
    (h : ∀ h', IsEnum h' (s.heap.objs.size + 1) s.heap.objs.size 0 .none → h'.IsTupleIter s.heap.objs.size l 0 → h'.objs.size = s.heap.objs.size + 2 →
      (∀ b o, s.heap.get? b = some o → h'.get? b = some o) → Q (.ref (s.heap.objs.size + 1)) { s with heap := h' }) :
    wpAny (model prog w) A (call (.type "enumerate") [.ref l]) Q E s := by
  obtain ⟨⟨c, dct, dt, sl⟩, hl, hc, n, hd⟩ := hL
  replace hc : c = .type "tuple" := hc
  replace hd : dt = .seq items n := hd
  subst hc hd
  refine callType_new F.called_enumerate (by decide) (F.typeCall_enumerate_1 _) (F.newCall_enumerate_1 _) (fun obj => F.args_object_init_2 obj _) F.entry_enumerate_new
    (meets_enumerate_newT l items n dct sl) ⟨hl, ?_⟩
  have hz : (s.heap.push { cls := .type "tuple_iterator", data := .fields #[.ref l, .int 0 0] }).objs.size = s.heap.objs.size + 1 := Heap.size_push ..
  show _ ∧ _
  rw [hz]
  have he : IsEnum ((s.heap.push { cls := .type "tuple_iterator", data := .fields #[.ref l, .int 0 0] }).push
      { cls := .type "enumerate", data := .fields #[.none, .bool false, .ref s.heap.objs.size, rawInt 0, .none, .none] }) (s.heap.objs.size + 1) s.heap.objs.size 0 .none := by
    have := Heap.get?_push_size (s.heap.push { cls := .type "tuple_iterator", data := .fields #[.ref l, .int 0 0] })
      (o := { cls := .type "enumerate", data := .fields #[.none, .bool false, .ref s.heap.objs.size, rawInt 0, .none, .none] }) rfl
    rw [hz] at this; exact this
  refine ⟨⟨_, he, rfl⟩, h _ he ⟨_, Heap.get?_push_of_some _ (Heap.get?_push_size _ rfl), rfl, rfl⟩ (by rw [Heap.size_push, hz]) fun b o x => Heap.get?_push_of_some _ (Heap.get?_push_of_some _ x)⟩
end
/-- the tuple at a, each item in a new pair -/
def IteT (K : PySem.W.Frag) (a : Addr) : It :=
  ⟨fun i H => ∃ (xs : List V) (x : V), SqT K H a xs ∧ xs[i]? = some x, fun i H v H' => ∃ T x, v = .ref T ∧ H T = none ∧ H' = upd H T (.tup [.int (i : Nat), x]) ∧ ∀ xs, SqT K H a xs → xs[i]? = some x, fun i H => ∃ xs : List V, SqT K H a xs ∧ xs.length ≤ i⟩
theorem turn_enumT {P : Program} {w : World} {K : PySem.W.Frag} {elts : List Expr} {kk : Nat} {tpos : Pos} (a e it : Addr) :
    Turn P w K (.Tuple elts kk tpos) (IteT K a) [e, it] e (fun i h => (∃ old, IsEnum h e it ((i : Nat) : Int) old) ∧ h.IsTupleIter it a i ∧ e ≠ it ∧ a ≠ it ∧ a ≠ e) where
  mem := by simp
  obj := fun i h st b hb => by
    obtain ⟨⟨old, he⟩, ⟨o, ho, hc, hd⟩, _⟩ := st
    have e' : b = e ∨ b = it := by simpa using hb
    rcases e' with z | z
    · rw [z]; exact ⟨_, he, fun v q => nomatch q⟩
    · rw [z]; exact ⟨o, ho, fun v q => by rw [hd] at q; cases q⟩
  keep := fun i h h' st k => let ⟨⟨old, he⟩, hi, hne⟩ := st; ⟨⟨old, k e (by simp) _ he⟩, hi.at fun o q => k it (by simp) o q, hne⟩
  item := by
    intro X hP hw hK hc i pins s σ H E I hf st hg
    subst hP hw hK
    obtain ⟨⟨old, he⟩, hit, hne, hai, hae⟩ := st
    obtain ⟨xs, x, hq, hx⟩ := hg
    obtain ⟨its, rv, p, hz⟩ := I.tuple hq
    obtain ⟨u, hu, ru⟩ := rv.get hx
    have hel : e < s.heap.objs.size := Heap.lt_size he
    have hil : it < s.heap.objs.size := by obtain ⟨_, q, _⟩ := hit; exact Heap.lt_size q
    have hilt : i < its.toArray.size := by
      obtain ⟨z, _⟩ := List.getElem?_eq_some_iff.mp hu
      simpa using z
    refine wpAny_pyNext_enum_itemD (draws_tuple (A := X.A.in1) (I.ok.hd hc) it a hai its.toArray) he ⟨hit, p⟩ hilt hne (by simp [hne, Ne.symm hae]) fun y h' tk hy ho hst hT hsz hk => ?_
    obtain ⟨hit', _⟩ := hst
    have ey : y = u := by
      have h1 : its[i]? = some y := by simpa using hy
      rw [hu] at h1
      exact (Option.some.inj h1).symm
    subst ey
    refine ⟨_, rfl, wpAny_letOwnedTupleGo_enum (s := { s with heap := h', toks := tk + 1 }) ho fun h'' he' sb => ?_⟩
    have hT2 : h''.get? s.heap.objs.size = some { cls := .type "tuple", data := .seq #[.int i tk, y] } := (sb.2 _ (Nat.ne_of_gt hel)).trans hT
    have new : ObjOk X.prog X.w (upd H s.heap.objs.size (.tup [.int (i : Nat), x])) h'' s.heap.objs.size (.tup [.int (i : Nat), x]) :=
      ⟨by show 2 ≤ sizeLine; decide, [.int i tk, y], .cons ⟨_, rfl⟩ (.cons ru .nil), ⟨_, hT2, rfl, _, rfl⟩⟩
    have I1 : Inv X pins σ (upd H s.heap.objs.size (.tup [.int (i : Nat), x])) { s with heap := h'', toks := tk + 1 } :=
      I.turnedNew (ch := [e, it]) (fun b ob hb q => (sb.2 b (fun z => hb (by simp [z]))).trans (hk b ob (fun z => hb (by simp [z])) (fun z => hb (by simp [z])) q)) hf (Nat.le_refl _) new
    refine ⟨.ref s.heap.objs.size, _, I1, rfl, ⟨_, x, rfl, I.hok.fresh (Nat.le_refl _), rfl, fun ys hy => by rw [I.tuple_inj hy hq]; exact hx⟩, ⟨⟨y, ?_⟩, hit'.at fun o q => (sb.2 it (Ne.symm hne)).trans q, hne, hai, hae⟩, fun b hb => ?_⟩
    · have e1 : ((i + 1 : Nat) : Int) = (i : Int) + 1 := by omega
      rw [e1]; exact he'
    · have hb' : b < s.heap.objs.size := by
        have e' : b = e ∨ b = it := by simpa using hb
        rcases e' with z | z
        · rw [z]; exact hel
        · rw [z]; exact hil
      rw [upd_ne (Nat.ne_of_lt hb')]
      exact (hf b hb).1
  done := by
    intro X hP hw hK hc i pins s σ H E I hf st hg
    subst hP hw hK
    obtain ⟨⟨old, he⟩, hit, hne, hai, hae⟩ := st
    obtain ⟨xs, hq, hx⟩ := hg
    obtain ⟨its, rv, p, hz⟩ := I.tuple hq
    obtain ⟨f0, f1, f2, f3, f4, f5⟩ := hf it (by simp)
    have hl := rv.length
    have hT : s.TypeIs (.ref e) "enumerate" := ⟨_, he, rfl⟩
    unfold pyNext
    refine wpAny_bind (wpAny_attempt (wpAny_callSpecial?_slot (name := Str.ofString "__next__") hT F.slot_enumerate_next
      (wpAny_call_entry F.slot_enumerate_next hT F.entry_enumerate_next ?_ (F.args_enumerate_next_1 _))))
    show wpAny _ _ (field (.ref e) 2 >>= _) _ _ _
    refine wpAny_bind (wpAny_field he rfl (x := .ref it) rfl ?_)
    refine wpAny_bind (RZ.nextOf_tuple_end (A := X.A.in1) (I.ok.hd hc) hit p (by simp; omega) fun h' x he' hx' => ?_)
    obtain ⟨o, ho, hcs⟩ := hx'
    refine wpAny_bind (wpAny_isInstance (T := "StopIteration") (b := true) ⟨o, ho, hcs⟩ isSubtype_stop ?_)
    exact wpAny_pure ⟨rfl, I.turned (t' := s.toks) (fun b o hb e => he' b o hb e) f0 f1 f3 f4 f5⟩
  self := fun A i s Q E st h => let ⟨⟨_, he⟩, _⟩ := st; wpAny_pyIter_enum he h
def iEnumT (K : PySem.W.Frag) (ta : TA) : TI := fun σ H R => ta σ H fun vs H1 => ∃ a xs, vs = [.ref a] ∧ H1 a = some (.tup xs) ∧ R (IteT K a) H1
theorem pi_enumT {X : Cx} {e : Expr} {ta : TA} {p pos tpos : Pos} {elts : List Expr} {kk : Nat} (hg : Gl X "enumerate") (hm : X.mg "enumerate" = none) (ha : PA X [e] ta) (hs : starEach [e] X.env = [(false, eval e X.env)] := by rfl) :
    PI X (.Tuple elts kk tpos) (.Call (.Name "enumerate" p) [e] [] pos) (iEnumT X.K ta) := by
  refine ⟨fun pins s σ H R I h => ?_⟩
  refine PyProof.Rows.Call_ (ld_blt I hg hm PyProof.Rows.boot_enumerate (PyProof.Rows.callWith_type1 (thn (ha.run pos pins s σ H _ I h) fun us s1 ⟨vs, H1, I1, r1, q1⟩ => ?_) hs rfl))
  obtain ⟨a, xs, ex, hq, q⟩ := q1
  subst ex
  cases r1 with
  | cons r rr =>
    cases rr
    cases r
    obtain ⟨its, rv, p', hz⟩ := I1.tuple (SqT.of hq)
    have hal : a < s1.heap.objs.size := I1.hok.lt hq
    refine call_enumerate_tuple p' fun h' he hit hsz hk => wpAny_pyIter_enum he ?_
    have I2 : Inv X pins σ H1 { s1 with heap := h' } := I1.kept (t' := s1.toks) hk
    refine ⟨s1.heap.objs.size + 1, [s1.heap.objs.size + 1, s1.heap.objs.size], _, _, H1, rfl, I2, turn_enumT a (s1.heap.objs.size + 1) s1.heap.objs.size, ⟨⟨.none, he⟩, hit, Nat.succ_ne_self _, Nat.ne_of_lt hal, Nat.ne_of_lt (Nat.lt_succ_of_lt hal)⟩, fun b hb => ?_, q⟩
    have e' : b = s1.heap.objs.size + 1 ∨ b = s1.heap.objs.size := by simpa using hb
    have hle : s1.heap.objs.size ≤ b := by
      rcases e' with z | z
      · rw [z]; exact Nat.le_add_right _ _
      · rw [z]; exact Nat.le_refl _
    exact I1.fpOk hle (I1.hok.fresh hle)
section
variable {X : Cx} {dl : DicL} {C : Addr} {r : Option Addr} {Ex : XK}
def enumD : Nat → List D → List D
  | _, [] => []
  | n, d :: ds => .tuple [.int (n : Nat), d] :: enumD (n + 1) ds
theorem enumD_length : ∀ (n : Nat) (ds : List D), (enumD n ds).length = ds.length
  | _, [] => rfl
  | n, d :: ds => congrArg (· + 1) (enumD_length (n + 1) ds)
theorem enumD_get : ∀ (n : Nat) (ds : List D) (i : Nat) (d : D), ds[i]? = some d → (enumD n ds)[i]? = some (.tuple [.int ((n + i : Nat) : Int), d])
  | n, [], i, d, h => by simp at h
  | n, d :: ds, 0, e, h => by
    simp at h
    subst h
    rfl
  | n, d :: ds, i + 1, e, h => by
    have := enumD_get (n + 1) ds i e (by simpa using h)
    simpa [enumD, Nat.add_assoc, Nat.add_comm 1 i] using this
theorem walk_enumT {K : PySem.W.Frag} {a : Addr} {xs : List V} : Walk (IteT K a) xs.length (fun H => SqT K H a xs) (YPair (fun i => some (.int (i : Nat))) (fun i => xs[i]?)) := by
  refine ⟨fun i _ hi q => ⟨xs, xs[i], q, by simp [hi]⟩, fun _ q => ⟨xs, q, Nat.le_refl _⟩, fun i H v H' _ q y => ?_⟩
  obtain ⟨T, x, h1, h2, h3, h4⟩ := y
  exact ⟨T, .int (i : Nat), x, h1, h2, h3, rfl, h4 xs q⟩
theorem pwi_enum {e : Expr} {f : Rho → W D} {p pos tpos : Pos} {elts : List Expr} {kk : Nat} (hm : X.mg "enumerate" = none) (ha : PE X e (tW dl r f)) (hg : Gl X "enumerate" := by rfl) (hs : starEach [e] X.env = [(false, eval e X.env)] := by rfl) :
    PI X (.Tuple elts kk tpos) (.Call (.Name "enumerate" p) [e] [] pos) (tWI dl r fun ρ => bW (f ρ) fun d => bW (asT d) fun ds => rW (enumD 0 ds)) :=
  PI.imp (pi_enumT hg hm (pa_cons ha pa_nil hs) hs) fun σ H Q ⟨A0, B, ρ, c, P, E, hp, q⟩ => ⟨A0, B, ρ, c, _, E, hp, fun d c1 x H1 p1 e1 rd1 dx => by
    cases dx with
    | tup h1 h2 h3 =>
      rename_i us ds
      refine ⟨_, us, rfl, h1, q _ c1 _ H1 p1 e1 rd1 ?_⟩
      unfold ItD
      rw [enumD_length, ← h3.length]
      refine walk_enumT.mono (fun H' k => SqT.of (k.kp _ _ h2 h1)) fun i H2 v H3 hi k y => ?_
      obtain ⟨T, x, z, rfl, hT, rfl, y1, y2⟩ := y
      cases y1
      obtain ⟨d2, g3, g4⟩ := h3.get' y2
      have g := enumD_get 0 ds i d2 g3
      rw [Nat.zero_add] at g
      exact ⟨same_new hT, _, g, fun A' s t => .tup upd_same (fun z => t T z hT) (.cons (.int _) (.cons ((g4.kp k s).same (same_new hT)) .nil))⟩
    | _ => exact (show False from p1).elim⟩
/-! ### minus -/
theorem pw_neg {a : Expr} {f : Rho → W D} {pos : Pos} (ha : PE X a (tW dl r f)) : PE X (.UnaryOp .USub a pos) (tW dl r fun ρ => bW (f ρ) fun d => bW (asI d) fun i => rW (.int (-i))) :=
  PE.imp (pe_un un_neg ha) fun σ H Q ⟨A0, B, ρ, c, P, E, hp, q⟩ => ⟨A0, B, ρ, c, _, E, hp, fun d c1 x H1 p1 e1 rd1 dx => by
    cases dx with
    | int i => exact ⟨i, rfl, q _ c1 _ H1 p1 e1 rd1 (.int _)⟩
    | _ => exact (show False from p1).elim⟩
/-! ### own lists, read as data -/
def unS : Sl → Sl
  | .lst ds => .dat (.list ds)
  | .dic _ k => .dic false k
  | s => s
def unR (ρ : Rho) : Rho := ρ.map unS
open Classical in
theorem Env1.unA {A0 B : List Addr} {H : Hp} {σ : L2.St} {ρ : Rho} {c : Nat} (E : Env1 dl A0 B r H σ ρ c) : ∃ A1, ((∀ a ∈ A0, a ∈ A1) ∧ ∀ a ∈ A1, a ∈ B ++ A0) ∧ Env1 dl A1 [] r H σ (unR ρ) c := by
  refine ⟨B.filter (fun a => decide (¬ ∃ xs, H a = some (.lst xs))) ++ A0, ⟨fun a h => List.mem_append_right _ h, fun a h => ?_⟩, ?_⟩
  · rcases List.mem_append.mp h with h | h
    · exact List.mem_append_left _ (List.mem_filter.mp h).1
    · exact List.mem_append_right _ h
  have sub : ∀ a ∈ [] ++ (B.filter (fun a => decide (¬ ∃ xs, H a = some (.lst xs))) ++ A0), a ∈ B ++ A0 := fun a h => by
    rw [List.nil_append] at h
    rcases List.mem_append.mp h with h | h
    · exact List.mem_append_left _ (List.mem_filter.mp h).1
    · exact List.mem_append_right _ h
  have back : ∀ {i : Nat} {s : Sl}, (unR ρ)[i]? = some s → ∃ s0, ρ[i]? = some s0 ∧ s = unS s0 := fun {i s} h => by
    unfold unR at h
    rw [List.getElem?_map] at h
    cases z : ρ[i]? with
    | none => rw [z] at h; cases h
    | some s0 => rw [z] at h; exact ⟨s0, rfl, (Option.some.inj h).symm⟩
  refine ⟨by simp [unR, E.len], fun i d h => ?_, fun i ds h => ?_, fun i w kvs h => ?_, fun i h => ?_, fun i j a _ _ z => (by cases z), fun b z => (by cases z), fun a h => List.mem_append_right _ (E.rA a h), E.rok, fun a h => E.trk a (sub a h), fun a h => E.ntp a (sub a h), E.ref, fun i a os us h => ?_⟩
  · obtain ⟨s0, e1, e2⟩ := back h
    cases s0 with
    | dat d0 =>
      cases e2
      obtain ⟨v, h1, h2⟩ := E.dat i _ e1
      exact ⟨v, h1, h2.anti sub⟩
    | lst ds =>
      cases e2
      obtain ⟨a, vs, h1, h2, h3, h4⟩ := E.lst i _ e1
      refine ⟨_, h1, .lst h3 (fun z => ?_) (h4.anti sub)⟩
      rw [List.nil_append] at z
      rcases List.mem_append.mp z with z | z
      · exact of_decide_eq_true (List.mem_filter.mp z).2 ⟨vs, h3⟩
      · exact E.dis a h2 z
    | _ => cases e2
  · obtain ⟨s0, e1, e2⟩ := back h
    cases s0 <;> cases e2
  · obtain ⟨s0, e1, e2⟩ := back h
    cases s0 with
    | dic w k =>
      cases e2
      obtain ⟨a, h1, h2, h3, h4⟩ := E.dic i _ _ e1
      refine ⟨a, h1, .inr ⟨rfl, ?_⟩, h3, h4⟩
      rcases h2 with h2 | ⟨_, h2⟩
      · exact List.mem_append_left _ (List.mem_filter.mpr ⟨h2, decide_eq_true fun ⟨xs, e⟩ => by rw [e] at h4; cases h4⟩)
      · exact List.mem_append_right _ h2
    | _ => cases e2
  · obtain ⟨s0, e1, e2⟩ := back h
    cases s0 with
    | rd => exact E.rd i e1
    | _ => cases e2
  · obtain ⟨s0, e1, e2⟩ := back h
    cases s0 with
    | ob a0 os0 us0 =>
      cases e2
      obtain ⟨h1, h2⟩ := E.ob i _ _ _ e1
      exact ⟨h1, h2.anti sub⟩
    | _ => cases e2
theorem Env1.un {A0 B : List Addr} {H : Hp} {σ : L2.St} {ρ : Rho} {c : Nat} (E : Env1 dl A0 B r H σ ρ c) : ∃ A1, Env1 dl A1 [] r H σ (unR ρ) c := let ⟨A1, _, E1⟩ := E.unA; ⟨A1, E1⟩
theorem pw_un {e : Expr} {f : Rho → W D} (h : PE X e (tW dl r f)) : PE X e (tW dl r fun ρ => bW (f (unR ρ)) fun d => bW (gW (flat d = true)) fun _ => rW d) :=
  PE.imp h fun σ H Q ⟨A0, B, ρ, c, P, E, hp, q⟩ => by
    obtain ⟨A1, E1⟩ := E.un
    exact ⟨A1, [], unR ρ, c, _, E1, hp, fun d c1 v H1 p1 e1 rd1 dv => q d c1 v H1 p1.2 e1 rd1 (dv.flat (fun a ha => (E.ext e1 rd1).ntp a ha) _ _ p1.1)⟩
/-! ### e in a tuple of texts of the module -/
def inKW (zs : List Str) (d : D) : W D := match d with
  | .str y => rW (.bool (zs.contains y))
  | _ => fW
theorem inV_strs (y : Str) (zs : List Str) : inV (.str y) (zs.map V.str) = zs.contains y := by
  unfold inV
  induction zs with
  | nil => rfl
  | cons z zs ih =>
    rw [List.map_cons, List.any_cons, ih, List.contains_cons]
    have e : eqV (.str z) (.str y) = (z == y) := rfl
    rw [e, Bool.beq_comm]
theorem pw_inK {a : Expr} {x : Str} {p2 pos : Pos} {b : Addr} {zs : List Str} {f : Rho → W D} (ha : PE X a (tW dl r f)) (hm : X.mg x = some (.ref b)) (ht : ∀ H, SqT X.K H b (zs.map V.str)) (hg : Gl X x := by rfl) (hd : (x == ("__debug__" : Str)) = false := by decide)
    (hmk : behindInMarks .In (.Name x p2) = false := by with_unfolding_all rfl) : PE X (.Compare a [.In] [.Name x p2] pos) (tW dl r fun ρ => bW (f ρ) (inKW zs)) :=
  PE.imp (pe_cmpR op_in_seq ha (pe_glob (v := .ref b) hg hm rfl hd) hmk) fun σ H Q ⟨A0, B, ρ, c, P, E, hp, q⟩ => ⟨A0, B, ρ, c, _, E, hp, fun d c1 x H1 p1 e1 rd1 dx => by
    cases dx with
    | str y =>
      refine ⟨b, _, rfl, .inr (ht H1), rfl, by simp [flatV], ?_⟩
      simp only [Bool.false_eq_true, if_false]
      rw [inV_strs]
      exact q _ c1 _ H1 p1 e1 rd1 (.bl _)
    | _ => exact (show False from p1).elim⟩
end
end FK
set_option Elab.async false
set_option linter.all false
set_option maxRecDepth 100000
set_option maxHeartbeats 4000000
/-! Dicts of ints under None and ints; slices by two. -/
namespace FK
open PySem PySem.Spec L2

def oK : Option Int → Option Key := Option.map Sum.inl
theorem oK_inj {a b : Option Int} (h : oK a = oK b) : a = b := by
  cases a with
  | none => cases b with
    | none => rfl
    | some j => cases h
  | some i => cases b with
    | none => cases h
    | some j =>
      have e : (Sum.inl i : Key) = Sum.inl j := Option.some.inj h
      rw [Sum.inl.inj e]
theorem oK_dec (a b : Option Int) : decide (oK a = oK b) = decide (a = b) := by
  by_cases h : a = b
  · rw [h]; simp
  · rw [decide_eq_false h, decide_eq_false fun e => h (oK_inj e)]
def toKV (p : Option Int × Int) : Option Key × V := (oK p.1, .int p.2)
/-- how such a dict lies at a -/
def dlH (P : Program) (w : World) : DicL := fun a kvs h => kvs.length ≤ sizeLine ∧ (a == sysModules) = false ∧ ∃ vs, KV (kvs.map toKV) vs ∧ h.DictOf (noneKind P w) a vs
def getOI (kvs : List (Option Int × Int)) (k : Option Int) : Option Int := (kvs.find? fun kv => decide (kv.1 = k)).map (·.2)
def putOI (kvs : List (Option Int × Int)) (k : Option Int) (v : Int) : List (Option Int × Int) :=
  if (kvs.any fun kv => decide (kv.1 = k)) = true then kvs.map (fun kv => if kv.1 = k then (kv.1, v) else kv) else kvs ++ [(k, v)]
theorem valV_toKV (k : Option Int) : ∀ kvs : List (Option Int × Int), valV (kvs.map toKV) (oK k) = (getOI kvs k).map V.int
  | [] => rfl
  | p :: r => by
    rw [List.map_cons]
    unfold valV getOI
    rw [List.find?_cons, List.find?_cons]
    have e : decide ((toKV p).1 = oK k) = decide (p.1 = k) := oK_dec _ _
    rw [e]
    cases h : decide (p.1 = k) with
    | true => rfl
    | false => exact valV_toKV k r
theorem any_toKV (k : Option Int) : ∀ kvs : List (Option Int × Int), ((kvs.map toKV).any fun kv => decide (kv.1 = oK k)) = kvs.any fun kv => decide (kv.1 = k)
  | [] => rfl
  | p :: r => by
    rw [List.map_cons, List.any_cons, List.any_cons, any_toKV k r]
    have e : decide ((toKV p).1 = oK k) = decide (p.1 = k) := oK_dec _ _
    rw [e]
theorem putK_toKV (kvs : List (Option Int × Int)) (k : Option Int) (v : Int) : putK (kvs.map toKV) (oK k) (.int v) = (putOI kvs k v).map toKV := by
  unfold putK putOI
  rw [any_toKV]
  by_cases h : (kvs.any fun kv => decide (kv.1 = k)) = true
  · rw [if_pos h, if_pos h, List.map_map, List.map_map]
    refine List.map_congr_left fun p _ => ?_
    show (if oK p.1 = oK k then (oK p.1, V.int v) else toKV p) = toKV (if p.1 = k then (p.1, v) else p)
    by_cases e : p.1 = k
    · rw [if_pos e, if_pos (by rw [e])]; rfl
    · rw [if_neg e, if_neg fun z => e (oK_inj z)]
  · rw [if_neg h, if_neg h, List.map_append]; rfl
theorem putOI_length (kvs : List (Option Int × Int)) (k : Option Int) (v : Int) : (putOI kvs k v).length ≤ kvs.length + 1 := by
  unfold putOI
  split <;> simp
theorem nk_is {P : Program} {w : World} {A : List Addr} {H : Hp} {y : V} {u : Value} {k : Option Int} (r : RelV y u) (h : (k = none ∧ y = .non) ∨ ∃ i, k = some i ∧ y = .int i) : (noneKind P w).is (oK k) u = true := by
  rcases h with ⟨rfl, rfl⟩ | ⟨i, rfl, rfl⟩
  · obtain rfl : u = .none := r
    rfl
  · obtain ⟨t, rfl⟩ := r
    exact keyIs_int i t
def asK : D → W (Option Int)
  | .none => rW none
  | .int i => rW (some i)
  | _ => fW
section
variable {X : Cx} {C : Addr} {r : Option Addr} {Ex : XK}
theorem dl_at {P : Program} {w : World} {H : Hp} {h : Heap} {a : Addr} {kvs : List (Option Int × Int)} (hok : HOk P w H h) (e : H a = some (.ext (dlH P w a kvs))) : dlH P w a kvs h := by
  have x : ObjOk P w H h a (.ext (dlH P w a kvs)) := hok a _ e
  exact x.1
theorem dl_ok {P : Program} {w : World} {H : Hp} {h : Heap} {a : Addr} {kvs : List (Option Int × Int)} (d : dlH P w a kvs h) : ObjOk P w H h a (.ext (dlH P w a kvs)) := by
  obtain ⟨z, hd, vs, rel, dd⟩ := d
  obtain ⟨o, es, ep, ho, hr⟩ := id dd
  exact ⟨⟨z, hd, vs, rel, dd⟩, ⟨o, ho⟩, fun h1 h2 y k => by
    obtain ⟨z1, hd1, vs1, rel1, o1, es1, ep1, ho1, hr1⟩ := y
    exact ⟨z1, hd1, vs1, rel1, o1, es1, ep1, k _ ho1, hr1⟩⟩
def dicW (i : Nat) : Rho → W (List (Option Int × Int)) := fun ρ c P => ∃ w kvs, ρ[i]? = some (.dic w kvs) ∧ P kvs c
def dicoW (i : Nat) : Rho → W (List (Option Int × Int)) := fun ρ c P => ∃ kvs, ρ[i]? = some (.dic true kvs) ∧ P kvs c
def KeyV (k : Option Int) (y : V) : Prop := (k = none ∧ y = .non) ∨ ∃ j, k = some j ∧ y = .int j
theorem KeyV.is {P : Program} {w : World} {y : V} {u : Value} {k : Option Int} (h : KeyV k y) (r : RelV y u) : (noneKind P w).is (oK k) u = true := by
  rcases h with ⟨rfl, rfl⟩ | ⟨i, rfl, rfl⟩
  · obtain rfl : u = .none := r
    rfl
  · obtain ⟨t, rfl⟩ := r
    exact keyIs_int i t
theorem asK_of {A : List Addr} {H : Hp} {v : V} {d : D} {c : Nat} {P : Option Int → Nat → Prop} (dv : DX A H v d) (h : asK d c P) : ∃ k, KeyV k v ∧ P k c := by
  cases dv with
  | non => exact ⟨none, .inl ⟨rfl, rfl⟩, h⟩
  | int j => exact ⟨some j, .inr ⟨j, rfl, rfl⟩, h⟩
  | _ => exact (show False from h).elim
/-- x.get(e, f) -/
theorem pw_dget (i : Nat) {x : Str} {e f : Expr} {px apos cpos : Pos} {fe ff : Rho → W D} (he : PE X e (tW (dlH X.prog X.w) r fe)) (hf : PE X f (tW (dlH X.prog X.w) r ff)) (hN : X.N[i]? = some x := by rfl) (hv : Vis X.env.scope x := by first | exact Or.inl rfl | exact Or.inr (Or.inl rfl) | exact Or.inr (Or.inr rfl))
    (hd : (x == ("__debug__" : Str)) = false := by decide) (hcd : (x == ("__classdict__" : Str)) = false := by decide) (m : M2 X (.Name x px) "get" apos e f cpos := by exact ⟨by rfl, by rfl, by rfl, by rfl⟩) :
    PE X (.Call (.Attribute (.Name x px) "get" apos) [e, f] [] cpos) (tW (dlH X.prog X.w) r fun ρ => bW (dicW i ρ) fun kvs => bW (fe ρ) fun d => bW (asK d) fun k => bW (ff ρ) fun z => bW (asI z) fun n => rW (.int ((getOI kvs k).getD n))) := by
  refine ⟨fun pins s σ H Q I h => ?_⟩
  obtain ⟨A0, B, ρ, c, P, E, ⟨w, kvs, hi, hp⟩, q⟩ := h
  obtain ⟨a, e1, e2, e3, e4⟩ := E.dic i w kvs hi
  refine wpAny_Call_method m.base m.few m.line PySem.F.plainAttrs_dict PySem.F.slot_dict_get PySem.F.type_dict_get (thn ((pe_var hN hv hd hcd).run pins s σ H (fun y H1 => y = .ref a ∧ H1 = H) I ⟨_, e1, rfl, rfl⟩) fun u s1 hh => ?_)
  obtain ⟨y, H1, I1, rx, ey, eh⟩ := hh
  subst ey eh
  obtain rfl : u = Value.ref a := rx
  obtain ⟨_, hsm, vs, rel, dd⟩ := dl_at I1.hok e4
  obtain ⟨ob, es, ep, h1, h2, h3⟩ := id dd
  refine ⟨dd.typeIs, fun b z => (by cases z; exact ⟨ob, h1, h2.2.1⟩), ?_⟩
  rw [m.trees]
  refine Calls.callWith_builtin rfl (Calls.evalArgs_plain (Calls.spliced_cons (thn (he.run pins s1 σ H1 (fun y H2 => ∃ k c2, KeyV k y ∧ Ext r H1 H2 ∧ RdO r H2 c2 ∧ (bW (ff ρ) fun z => bW (asI z) fun n => rW (.int ((getOI kvs k).getD n))) c2 P) I1 ⟨A0, B, ρ, c, _, E, hp, fun d c2 v H2 p2 x2 rd2 dv => ?_⟩) fun iv s2 hh => ?_)))
  · obtain ⟨k, hk, p3⟩ := asK_of dv p2
    exact ⟨k, c2, hk, x2, rd2, p3⟩
  · obtain ⟨y, H2, I2, ry, k, c2, hk, x2, rd2, p2⟩ := hh
    refine Calls.spliced_cons (thn (hf.run pins s2 σ H2 (fun z H3 => ∃ n c3, z = .int n ∧ Ext r H2 H3 ∧ RdO r H3 c3 ∧ P (.int ((getOI kvs k).getD n)) c3) I2 ⟨A0, B, ρ, c2, _, E.ext x2 rd2, p2, fun d c3 v H3 p3 x3 rd3 dv => ?_⟩) fun fv s3 hh => Calls.spliced_nil ?_)
    · cases dv with
      | int n => exact ⟨n, c3, rfl, x3, rd3, p3⟩
      | _ => exact (show False from p3).elim
    · obtain ⟨z, H3, I3, rz, n, c3, ez, x3, rd3, p3⟩ := hh
      subst ez
      have e5 : H3 a = some (.ext (dlH X.prog X.w a kvs)) := x3 a _ e3 (x2 a _ e3 e4)
      obtain ⟨_, hsm, vs, rel, dd⟩ := dl_at I3.hok e5
      refine call_meetsIn PySem.F.slot_dict_get dd.typeIs PySem.F.entry_dict_get (PySem.F.args_dict_get_3 _ _ _) (meets_dict_get_default (noneKind X.prog X.w) a (hk.is ry) hsm fv) ⟨_, dd.mapOf, ?_⟩
      have rr := (rel.val (oK k)).getD rz
      rw [valV_toKV] at rr
      refine ⟨_, H3, I3.tok _, rr, ?_⟩
      have eo : ((getOI kvs k).map V.int).getD (.int n) = .int ((getOI kvs k).getD n) := by cases getOI kvs k <;> rfl
      rw [eo]
      exact q _ c3 _ H3 p3 (x2.trans x3) rd3 (.int _)
/-- an own dict changes -/
theorem Env1.putD {A0 B : List Addr} {H : Hp} {σ : L2.St} {ρ : Rho} {c : Nat} {p : Addr} {kvs kvs' : List (Option Int × Int)} {i : Nat} {dl : DicL} (E : Env1 dl A0 B r H σ ρ c) (hi : ρ[i]? = some (.dic true kvs)) (hs : σ[i]? = some (some (.ref p))) (hp : p ∈ B) (hl : H p = some (.ext (dl p kvs))) :
    Env1 dl A0 B r (upd H p (.ext (dl p kvs'))) σ (ρ.set i (.dic true kvs')) c := by
  have kp : ∀ b o, b ∉ B ++ A0 → H b = some o → upd H p (.ext (dl p kvs')) b = some o := fun b o n q => by
    rw [upd_ne (fun e => n (by rw [e]; exact List.mem_append_left _ hp))]
    exact q
  refine ⟨by simp [E.len], fun j d h => ?_, fun j gs h => ?_, fun j w kv h => ?_, fun j h => ?_, E.sep, E.dis, E.rA, fun a e => ?_, fun a h => ?_, fun a h zs => ?_, fun j a h => ?_, fun j a os us h => ?_⟩
  · rcases getElem?_set_cases h with ⟨rfl, h2, h3⟩ | ⟨h1, h2⟩
    · cases h2
    · obtain ⟨v, e1, e2⟩ := E.dat j d h2
      exact ⟨v, e1, e2.past kp fun a h => .inl h⟩
  · rcases getElem?_set_cases h with ⟨rfl, h2, h3⟩ | ⟨h1, h2⟩
    · cases h2
    · obtain ⟨a, us, e1, e2, e3, e4⟩ := E.lst j gs h2
      refine ⟨a, us, e1, e2, ?_, e4.past kp fun a h => .inl h⟩
      rw [upd_ne (fun e => by rw [e, hl] at e3; cases e3)]
      exact e3
  · rcases getElem?_set_cases h with ⟨rfl, h2, h3⟩ | ⟨h1, h2⟩
    · cases h2
      exact ⟨p, hs, .inl hp, E.nB p hp, upd_same⟩
    · obtain ⟨a, e1, e2, e3, e4⟩ := E.dic j w kv h2
      refine ⟨a, e1, e2, e3, ?_⟩
      rw [upd_ne (fun e => h1 (E.sep j i p (by rw [e1, e]) hs hp))]
      exact e4
  · rcases getElem?_set_cases h with ⟨rfl, h2, h3⟩ | ⟨h1, h2⟩
    · cases h2
    · exact E.rd j h2
  · obtain ⟨L, o, zs, sp, rs, h1, h2, h3⟩ := E.rok a e
    refine ⟨L, o, zs, sp, rs, ?_, ?_, h3⟩
    · rw [upd_ne (fun z => by rw [z, hl] at h1; cases h1)]
      exact h1
    · rw [upd_ne (fun z => by rw [z, hl] at h2; cases h2)]
      exact h2
  · by_cases e : a = p
    · subst e; rw [upd_same]; simp
    · rw [upd_ne e]; exact E.trk a h
  · by_cases e : a = p
    · subst e; rw [upd_same]; intro q; cases q
    · rw [upd_ne e]; exact E.ntp a h zs
  · by_cases e : a = p
    · subst e; rw [upd_same]; simp
    · rw [upd_ne e]; exact E.ref j a h
  · rcases getElem?_set_cases h with ⟨rfl, h2, h3⟩ | ⟨h1, h2⟩
    · cases h2
    · obtain ⟨e1, e2⟩ := E.ob j a os us h2
      exact ⟨e1, e2.past kp fun a h => .inl h⟩
/-- x[e] = value, x an own dict -/
theorem pws_dput (i : Nat) {x : Str} {e value : Expr} {px pos pos' : Pos} {fe fv : Rho → W D} (hv : PE X value (tW (dlH X.prog X.w) r fv)) (he : PE X e (tW (dlH X.prog X.w) r fe)) (hN : X.N[i]? = some x := by rfl) (hvx : Vis X.env.scope x := by first | exact Or.inl rfl | exact Or.inr (Or.inl rfl) | exact Or.inr (Or.inr rfl))
    (hd : (x == ("__debug__" : Str)) = false := by decide) (hcd : (x == ("__classdict__" : Str)) = false := by decide) (hs : swapsWith value (some (.Subscript (.Name x px) e pos')) pos.line X.env = pure false := by rfl) :
    PS X (.Assign [.Subscript (.Name x px) e pos'] value pos) (tWS (dlH X.prog X.w) C r Ex fun ρ => bW (fv ρ) fun d => bW (asI d) fun n => bW (dicoW i ρ) fun kvs => bW (fe ρ) fun k => bW (asK k) fun k => bW (gW (kvs.length < LIM)) fun _ => rW (.nx (ρ.set i (.dic true (putOI kvs k n))))) := by
  refine ⟨fun pins s σ H Dn I h => ?_⟩
  obtain ⟨A0, B, ρ, c, P, E, hp, k1, k2, k3⟩ := h
  refine wpAny_Assign_Subscript (thn (hv.run pins s σ H (fun v H1 => ∃ n c1, v = .int n ∧ Ext r H H1 ∧ RdO r H1 c1 ∧ (bW (dicoW i ρ) fun kvs => bW (fe ρ) fun k => bW (asK k) fun k => bW (gW (kvs.length < LIM)) fun _ => rW (.nx (ρ.set i (.dic true (putOI kvs k n))))) c1 P) I ⟨A0, B, ρ, c, _, E, hp, fun d c1 v H1 p1 x1 rd1 dv => ?_⟩) fun rv s1 hh => ?_) hs
  · cases dv with
    | int n => exact ⟨n, c1, rfl, x1, rd1, p1⟩
    | _ => exact (show False from p1).elim
  · obtain ⟨v, H1, I1, rr, n, c1, ev, x1, rd1, kvs, hi, p1⟩ := hh
    subst ev
    have E1 := E.ext x1 rd1
    obtain ⟨a, e1, e2, e3, e4⟩ := E1.dic i true kvs hi
    have haB : a ∈ B := e2.elim id fun z => nomatch z.1
    refine thn ((pe_var hN hvx hd hcd).run pins s1 σ H1 (fun y H2 => y = .ref a ∧ H2 = H1) I1 ⟨_, e1, rfl, rfl⟩) fun u s2 hh => ?_
    obtain ⟨y, H2, I2, rx, ey, eh⟩ := hh
    subst ey eh
    obtain rfl : u = Value.ref a := rx
    refine thn (he.run pins s2 σ H2 (fun y H3 => ∃ k c3, KeyV k y ∧ Ext r H2 H3 ∧ RdO r H3 c3 ∧ (bW (gW (kvs.length < LIM)) fun _ => rW (.nx (ρ.set i (.dic true (putOI kvs k n))))) c3 P) I2 ⟨A0, B, ρ, c1, _, E1, p1, fun d c3 v H3 p3 x3 rd3 dv => ?_⟩) fun iv s3 hh => ?_
    · obtain ⟨k, hk, p4⟩ := asK_of dv p3
      exact ⟨k, c3, hk, x3, rd3, p4⟩
    · obtain ⟨y, H3, I3, ry, k, c3, hk, x3, rd3, hl, p3⟩ := hh
      have e5 : H3 a = some (.ext (dlH X.prog X.w a kvs)) := x3 a _ e3 e4
      obtain ⟨hz, hsm, vs, rel, dd⟩ := dl_at I3.hok e5
      have hll := lim_line
      have hvl : vs.length ≤ sizeLine := by rw [← rel.length, List.length_map]; exact hz
      refine wpAny_setItem_pairs (hsz := hvl) (hk.is ry) dd fun h' dd' hs => ?_
      have hen : ∃ q, h'.get? a = some q := let ⟨q, _, _, hq, _⟩ := dd'; ⟨q, hq⟩
      have hrel := rel.put (oK k) rr
      rw [putK_toKV] at hrel
      have hlen := putOI_length kvs k n
      have I4 := d_write (t' := s3.toks + 1) I3 (by rw [e5]; exact True.intro) hs hen (dl_ok (H := upd H3 a (.ext (dlH X.prog X.w a (putOI kvs k n)))) ⟨by omega, hsm, _, hrel, dd'⟩)
      have E3 := E1.ext x3 rd3
      refine ⟨σ, _, I4, k1 _ c3 σ B _ p3 (E3.putD hi e1 haB e5) (Stp.trans (.of_ext (x1.trans x3) rd3) ⟨fun b o nb _ z => ?_, fun b h => .inl h, fun b h => h, (E3.putD (kvs' := putOI kvs k n) hi e1 haB e5).rok.there⟩)⟩
      rw [upd_ne (fun e => nb (by rw [e]; exact haB))]
      exact z
/-- {} -/
theorem dl_empty {P : Program} {w : World} (h : Heap) (hb : sysModules < h.objs.size) : dlH P w h.objs.size [] (h.push { cls := .type "dict", data := .dict #[] }) :=
  ⟨Nat.zero_le _, beq_eq_false_iff_ne.mpr (Ne.symm (Nat.ne_of_lt hb)), [], .nil, Heap.DictOf.new h⟩
theorem pe_dnewO {pos : Pos} : PE X (.Dict [] [] pos) (fun _ H Q => ∀ p, H p = none → Q (.ref p) (upd H p (.ext (dlH X.prog X.w p [])))) := ⟨fun pins s σ H Q I h =>
  wpAny_Dict_empty ⟨.ref s.heap.objs.size, _, I.laid (a := s.heap.objs.size) (o := .ext (dlH X.prog X.w s.heap.objs.size [])) (t' := s.toks) (fun _ _ q => Heap.get?_push_of_some _ q) (Nat.le_refl _) (dl_ok (dl_empty s.heap I.big)), rfl, h _ (I.hok.fresh (Nat.le_refl _))⟩⟩
theorem Env1.newD {A0 B : List Addr} {H : Hp} {σ : L2.St} {ρ : Rho} {c : Nat} {p : Addr} {kvs : List (Option Int × Int)} {dl : DicL} (E : Env1 dl A0 B r H σ ρ c) (hf : H p = none) (i : Nat) :
    Env1 dl A0 (p :: B) r (upd H p (.ext (dl p kvs))) (σ.set i (some (.ref p))) (ρ.set i (.dic true kvs)) c := by
  have sn := same_new (o := HO.ext (dl p kvs)) hf
  have hn : ∀ j : Nat, σ[j]? ≠ some (some (.ref p)) := fun j h => E.ref j p h hf
  have sub : ∀ a ∈ p :: B ++ A0, a ∈ B ++ A0 ∨ H a = none := fun a h => by
    rcases List.mem_cons.mp (show a ∈ p :: (B ++ A0) from h) with h | h
    · exact .inr (by rw [h]; exact hf)
    · exact .inl h
  refine ⟨by simp [E.len], fun j e h => ?_, fun j es h => ?_, fun j w kv h => ?_, fun j h => ?_, fun j k a h1 h2 hb => ?_, fun b hb => ?_, E.rA, E.rok.same sn, fun a h => ?_, fun a h zs q => ?_, fun j a h => ?_, fun j a os us h => ?_⟩
  · rcases getElem?_set_cases h with ⟨rfl, h2, h3⟩ | ⟨h1, h2⟩
    · cases h2
    · rw [List.getElem?_set_ne (Ne.symm h1)]
      obtain ⟨v, e1, e2⟩ := E.dat j e h2
      exact ⟨v, e1, e2.past (fun b o _ q => sn b o q) sub⟩
  · rcases getElem?_set_cases h with ⟨rfl, h2, h3⟩ | ⟨h1, h2⟩
    · cases h2
    · rw [List.getElem?_set_ne (Ne.symm h1)]
      obtain ⟨a, ws, e1, e2, e3, e4⟩ := E.lst j es h2
      exact ⟨a, ws, e1, List.mem_cons_of_mem _ e2, sn _ _ e3, e4.past (fun b o _ q => sn b o q) sub⟩
  · rcases getElem?_set_cases h with ⟨rfl, h2, h3⟩ | ⟨h1, h2⟩
    · cases h2
      exact ⟨p, by rw [List.getElem?_set_self (by rw [E.len]; exact h3)], .inl List.mem_cons_self, fun z => E.trk p (E.rAB p z) hf, upd_same⟩
    · rw [List.getElem?_set_ne (Ne.symm h1)]
      obtain ⟨a, e1, e2, e3, e4⟩ := E.dic j w kv h2
      exact ⟨a, e1, e2.imp (List.mem_cons_of_mem _) id, e3, sn _ _ e4⟩
  · rcases getElem?_set_cases h with ⟨rfl, h2, h3⟩ | ⟨h1, h2⟩
    · cases h2
    · rw [List.getElem?_set_ne (Ne.symm h1)]
      exact E.rd j h2
  · rcases getElem?_set_cases h1 with ⟨e1, h3, h4⟩ | ⟨e1, h3⟩
    · rcases getElem?_set_cases h2 with ⟨e2, h5, h6⟩ | ⟨e2, h5⟩
      · rw [e1, e2]
      · cases h3
        exact absurd h5 (hn k)
    · rcases getElem?_set_cases h2 with ⟨e2, h5, h6⟩ | ⟨e2, h5⟩
      · cases h5
        exact absurd h3 (hn j)
      · rcases List.mem_cons.mp hb with e | hb
        · subst e
          exact absurd h3 (hn j)
        · exact E.sep j k a h3 h5 hb
  · rcases List.mem_cons.mp hb with e | hb
    · rw [e]; exact fun z => E.trk p (List.mem_append_right _ z) hf
    · exact E.dis b hb
  · by_cases e : a = p
    · subst e; rw [upd_same]; simp
    · rw [upd_ne e]
      rcases sub a h with z | z
      · exact E.trk a z
      · rcases List.mem_cons.mp (show a ∈ p :: (B ++ A0) from h) with y | y
        · exact absurd y e
        · exact E.trk a y
  · by_cases e : a = p
    · subst e; rw [upd_same] at q; cases q
    · rw [upd_ne e] at q
      rcases List.mem_cons.mp (show a ∈ p :: (B ++ A0) from h) with y | y
      · exact e y
      · exact E.ntp a y zs q
  · rcases getElem?_set_cases h with ⟨rfl, h2, h3⟩ | ⟨h1, h2⟩
    · cases h2
      rw [upd_same]; simp
    · have := E.ref j a h2
      cases z : H a with
      | none => exact absurd z this
      | some o => rw [sn a o z]; simp
  · rcases getElem?_set_cases h with ⟨rfl, h2, h3⟩ | ⟨h1, h2⟩
    · cases h2
    · rw [List.getElem?_set_ne (Ne.symm h1)]
      obtain ⟨e1, e2⟩ := E.ob j a os us h2
      exact ⟨e1, e2.past (fun b o _ q => sn b o q) sub⟩
theorem pws_dnew (i : Nat) {x : Str} {pos pos' p3 : Pos} (hN : X.N.Nodup) (hi : X.N[i]? = some x := by rfl) (hx : Loc X.env.scope x := by first | exact Or.inl rfl | exact Or.inr rfl) (hs : swapsWith (.Dict [] [] p3) (some (.Name x pos')) pos.line X.env = pure false := by rfl)
    (hf : X.fn x = true ∨ X.env.scope.names.lookup x = some .local := by first | exact .inl rfl | exact .inr rfl) : PS X (.Assign [.Name x pos'] (.Dict [] [] p3) pos) (tWS (dlH X.prog X.w) C r Ex fun ρ => rW (.nx (ρ.set i (.dic true [])))) :=
  PS.imp (ps_set hN hi hx pe_dnewO hs hf) fun Dn σ H ⟨A0, B, ρ, c, P, E, hp, k1, k2, k3⟩ p hf => k1 _ c _ (p :: B) _ hp (E.newD hf i) (.new1 hf (fun b o _ z => same_new hf b o z) (E.rok.same (same_new hf)).there)
/-- a, b, c = e, f, {} -/
theorem pws_par3D {x y z : Str} {a b : Expr} (i j l : Nat) {fa fb : Rho → W D} {px py pz pt pos p4 : Pos} {kt k2 pt2} (hc : X.calm = true) (hN : X.N.Nodup) (ha : PE X a (tW (dlH X.prog X.w) r fa)) (hb : PE X b (tW (dlH X.prog X.w) r fb)) (hij : i ≠ j := by decide) (hil : i ≠ l := by decide) (hjl : j ≠ l := by decide) (hi : X.N[i]? = some x := by rfl) (hj : X.N[j]? = some y := by rfl) (hl : X.N[l]? = some z := by rfl)
    (hx : X.env.scope.names.lookup x = some .local := by rfl) (hy : X.env.scope.names.lookup y = some .local := by rfl) (hz : X.env.scope.names.lookup z = some .local := by rfl)
    (hw : swappedStores [.Tuple [.Name x px, .Name y py, .Name z pz] kt pt] (.Tuple [a, b, .Dict [] [] p4] k2 pt2) X.env = pure (some [x, y, z]) := by rfl)
    (hs : swapsWithSole [.Tuple [.Name x px, .Name y py, .Name z pz] kt pt] (.Tuple [a, b, .Dict [] [] p4] k2 pt2) pos.line X.env = pure false := by rfl)
    (hs1 : starEach [a, b, .Dict [] [] p4] X.env = (false, eval a X.env) :: starEach [b, .Dict [] [] p4] X.env := by rfl) (hs2 : starEach [b, .Dict [] [] p4] X.env = (false, eval b X.env) :: starEach [.Dict [] [] p4] X.env := by rfl) (hs3 : starEach [.Dict [] [] p4] X.env = (false, eval (.Dict [] [] p4) X.env) :: starEach [] X.env := by rfl) :
    PS X (.Assign [.Tuple [.Name x px, .Name y py, .Name z pz] kt pt] (.Tuple [a, b, .Dict [] [] p4] k2 pt2) pos) (tWS (dlH X.prog X.w) C r Ex fun ρ => bW (fa ρ) fun d => bW (fb ρ) fun e => rW (.nx (((ρ.set i (.dat d)).set j (.dat e)).set l (.dic true [])))) :=
  PS.imp (ps_par3 hc hN hi hj hl hij hil hjl hx hy hz (pa_cons ha (pa_cons hb (pa_cons pe_dnewO pa_nil hs3) hs2) hs1) hw hs) fun Dn σ H ⟨A0, B, ρ, c, P, E, hp, k1, k2, k3⟩ => ⟨A0, B, ρ, c, _, E, hp, fun d c1 v H1 p1 e1 rd1 dv => ⟨A0, B, ρ, c1, _, E.ext e1 rd1, p1, fun e c2 u H2 p2 e2 rd2 du p hf => by
    have E2 := (E.ext e1 rd1).ext e2 rd2
    have E3 := ((E2.set i (dv.ext e2 E.rAB)).set j du).newD (kvs := []) hf l
    exact ⟨v, u, .ref p, rfl, k1 _ c2 _ (p :: B) _ p2 E3 (Stp.trans (.of_ext (e1.trans e2) rd2) (.new1 hf (fun b o _ z => same_new hf b o z) (rd2.same (same_new hf)).there))⟩⟩⟩
/-! ### xs[k::2] -/
theorem pick_sub : ∀ (xs : List D) (idx : List Nat), idx.Pairwise (· < ·) → (idx.filterMap (xs[·]?)).Sublist xs
  | [], idx, _ => by
    have : idx.filterMap (fun i => ([] : List D)[i]?) = [] := by
      rw [List.filterMap_eq_nil_iff]
      intro i _
      rfl
    rw [this]
    exact List.Sublist.slnil
  | x :: xs, idx, h => by
    have low : ∀ l : List Nat, (∀ i ∈ l, 0 < i) → l.filterMap (fun i => (x :: xs)[i]?) = (l.map (· - 1)).filterMap (fun i => xs[i]?) := fun l hl => by
      induction l with
      | nil => rfl
      | cons i l ih =>
        have h0 := hl i List.mem_cons_self
        have ih' := ih fun j hj => hl j (List.mem_cons_of_mem _ hj)
        obtain ⟨j, rfl⟩ : ∃ j, i = j + 1 := ⟨i - 1, by omega⟩
        rw [List.map_cons, List.filterMap_cons, List.filterMap_cons, ih']
        simp
    have pw : ∀ l : List Nat, (∀ i ∈ l, 0 < i) → l.Pairwise (· < ·) → (l.map (· - 1)).Pairwise (· < ·) := fun l hl hp => by
      rw [List.pairwise_map]
      exact hp.imp_of_mem fun {a b} ha hb hab => by
        have := hl a ha
        have := hl b hb
        omega
    cases idx with
    | nil => exact List.nil_sublist _
    | cons i idx =>
      obtain ⟨h1, h2⟩ := List.pairwise_cons.mp h
      by_cases hi : i = 0
      · subst hi
        rw [List.filterMap_cons_some (show (x :: xs)[0]? = some x from rfl), low idx (fun j hj => h1 j hj)]
        exact (pick_sub xs _ (pw idx (fun j hj => h1 j hj) h2)).cons₂ x
      · have hall : ∀ j ∈ i :: idx, 0 < j := fun j hj => by
          rcases List.mem_cons.mp hj with rfl | hj
          · omega
          · have := h1 j hj; omega
        rw [low (i :: idx) hall]
        exact (pick_sub xs _ (pw _ hall h)).cons x
theorem range2_pw (a b : Int) (ha : 0 ≤ a) : (sliceRange a b 2).Pairwise (· < ·) := by
  unfold sliceRange
  rw [List.pairwise_map]
  refine List.pairwise_lt_range.imp fun {i j} h => ?_
  omega
def pickV {α : Type} (xs : List α) (idx : List Nat) : List α := idx.filterMap (xs[·]?)
theorem Vals.pick {xs : List V} {us : List Value} (h : Vals xs us) : ∀ idx : List Nat, Vals (pickV xs idx) (pickV us idx)
  | [] => .nil
  | i :: idx => by
    have ih := Vals.pick h idx
    unfold pickV at ih ⊢
    cases z : xs[i]? with
    | none => rw [List.filterMap_cons_none z, List.filterMap_cons_none (h.none_of z)]; exact ih
    | some v =>
      obtain ⟨u, e1, e2⟩ := h.get z
      rw [List.filterMap_cons_some z, List.filterMap_cons_some e1]
      exact .cons e2 ih
theorem DXs.pick {A : List Addr} {H : Hp} {xs : List V} {ds : List D} (h : DXs A H xs ds) : ∀ idx : List Nat, DXs A H (pickV xs idx) (pickV ds idx)
  | [] => .nil
  | i :: idx => by
    have ih := DXs.pick h idx
    unfold pickV at ih ⊢
    cases z : xs[i]? with
    | none =>
      have z2 : ds[i]? = none := by
        rw [List.getElem?_eq_none_iff] at z ⊢
        rw [← h.length]; exact z
      rw [List.filterMap_cons_none z, List.filterMap_cons_none z2]; exact ih
    | some v =>
      obtain ⟨u, e1, e2⟩ := h.get' z
      rw [List.filterMap_cons_some z, List.filterMap_cons_some e1]
      exact .cons e2 ih
theorem pickV_length {α : Type} (xs : List α) (idx : List Nat) : (pickV xs idx).length ≤ idx.length := List.length_filterMap_le _ _
/-- a list's every second item from a place on -/
def sl2W (d : D) (k : Int) : W D := match d with
  | .list xs => fun c P => 0 ≤ k ∧ xs.length ≤ LIM ∧ ∀ ys, ys.Sublist xs → P (.list ys) c
  | _ => fW
theorem pw_slice2 {e lo : Expr} {k : Nat} {q1 q2 pos : Pos} {dl : DicL} {f g : Rho → W D} (he : PE X e (tW dl r f)) (hl : PE X lo (tW dl r g)) :
    PE X (.Subscript e (.Slice (some lo) none (some (.Constant (.int 2) k q1)) q2) pos) (tW dl r fun ρ => bW (f ρ) fun d => bW (g ρ) fun j => bW (asI j) fun j => sl2W d j) := by
  refine ⟨fun pins s σ H Q I h => ?_⟩
  obtain ⟨A0, B, ρ, c, P, E, hp, q⟩ := h
  refine PyProof.Rows.Subscript_ (thn (he.run pins s σ H (fun x H1 => ∃ d c1, DX (B ++ A0) H1 x d ∧ Ext r H H1 ∧ RdO r H1 c1 ∧ (bW (g ρ) fun j => bW (asI j) fun j => sl2W d j) c1 P) I ⟨A0, B, ρ, c, _, E, hp, fun d c1 v H1 p1 x1 rd1 dv => ⟨d, c1, dv, x1, rd1, p1⟩⟩) fun v s1 hh => ?_)
  obtain ⟨x, H1, I1, r1, d, c1, dx, x1, rd1, p1⟩ := hh
  have E1 := E.ext x1 rd1
  refine wpAny_Slice (thn ((po_some hl).run pins s1 σ H1 (fun o H2 => ∃ j c2, o = some j ∧ Ext r H1 H2 ∧ RdO r H2 c2 ∧ sl2W d j c2 P) I1 ⟨A0, B, ρ, c1, _, E1, p1, fun e c2 u H2 p2 x2 rd2 du => ?_⟩) fun vl s2 hh => ?_)
  · cases du with
    | int j => exact ⟨j, rfl, j, c2, rfl, x2, rd2, p2⟩
    | _ => exact (show False from p2).elim
  obtain ⟨l, H2, I2, pl, j, c2, el, x2, rd2, p2⟩ := hh
  subst el
  have E2 := E1.ext x2 rd2
  refine thn (po_none.run pins s2 σ H2 (fun o H3 => o = none ∧ H3 = H2) I2 ⟨rfl, rfl⟩) fun vu s3 ⟨u, H3, I3, pu, eu, e3⟩ => ?_
  subst eu e3
  refine thn ((po_some (pe_int (i := 2))).run pins s3 σ H3 (fun o H4 => o = some 2 ∧ H4 = H3) I3 ⟨2, rfl, rfl, rfl⟩) fun vs s4 ⟨o, H4, I4, ps, eo, e4⟩ => ?_
  subst eo e4
  have I5 : Inv X pins σ H4 { s4 with heap := s4.heap.push { cls := .type "slice", data := .fields #[vl, vu, vs] } } := I4.kept (t' := s4.toks) fun b ob q => Heap.get?_push_of_some _ q
  have dx2 := dx.ext x2 E.rAB
  cases dx2 with
  | lst h1 h2 h3 =>
    rename_i a us ds
    cases r1
    obtain ⟨hj, hlim, p2⟩ := p2
    obtain ⟨its, rr, ht, hz⟩ := I5.list (SqL.of h1)
    have hlen := rr.length
    have hll := lim_line
    have hdl := h3.length
    show wpAny (model X.prog X.w) X.A (PyProof.Rows.subscriptTail e (.Slice (some lo) none (some (.Constant (.int 2) k q1)) q2) (.ref a) (.ref s4.heap.objs.size)) (EP X pins σ Q) X.xe { s4 with heap := s4.heap.push { cls := .type "slice", data := .fields #[vl, vu, vs] } }
    refine PyProof.Rows.tail_any (ops := [.ref a, .ref s4.heap.objs.size]) ht.isList.typeIs (PySem.slot_list_getitem.lookup) ?_ (by with_unfolding_all rfl)
    refine wpAny_getItem_list_slice ht.isList (Heap.IsSliceOf.new _ vl vu vs) pl pu ps (by decide) ?_ (by rw [List.size_toArray]; omega)
    have hpk : slicePick its.toArray (some j) none (some 2) = (pickV its (sliceRange (sliceBounds (some j) none (some 2) its.toArray.size).1 (sliceBounds (some j) none (some 2) its.toArray.size).2.1 2)).toArray := by
      unfold slicePick pickV
      have e : (fun i : Nat => its.toArray[i]?) = fun i : Nat => its[i]? := funext fun i => List.getElem?_toArray ..
      rw [e]
      rfl
    rw [hpk]
    have h0 : 0 ≤ (sliceBounds (some j) none (some 2) its.toArray.size).1 := by
      show 0 ≤ (if (2 : Int) > 0 then max 0 (min (if j < 0 then j + (its.toArray.size : Int) else j) its.toArray.size) else max (-1) (min (if j < 0 then j + (its.toArray.size : Int) else j) ((its.toArray.size : Int) - 1)))
      rw [if_pos (by decide)]
      omega
    generalize hix : sliceRange (sliceBounds (some j) none (some 2) its.toArray.size).1 (sliceBounds (some j) none (some 2) its.toArray.size).2.1 2 = idx
    have hpw : idx.Pairwise (· < ·) := by
      rw [← hix]
      exact range2_pw _ _ h0
    have hsub := pick_sub ds idx hpw
    have hd3 := h3.pick idx
    have hl3 := hsub.length_le
    have hl4 : (pickV us idx).length = (pickV ds idx).length := hd3.length
    refine ⟨.ref _, _, I5.laid (t' := s4.toks) (o := .lst (pickV us idx)) (fun b ob q => Heap.get?_push_of_some _ q) (Nat.le_refl _) ?_, rfl, ?_⟩
    · refine ⟨?_, _, 0, Vals.pick rr idx, Heap.get?_push_size _ rfl⟩
      have : (pickV ds idx).length ≤ ds.length := hl3
      omega
    · have hf := I5.hok.fresh (Nat.le_refl _)
      exact q _ c2 _ _ (p2 _ hsub) ((x1.trans x2).trans (.of_same (same_new hf))) (rd2.same (same_new hf)) (.lst upd_same (fun z => E2.trk _ z hf) (hd3.same (same_new hf)))
  | _ => exact (show False from p2).elim
end
end FK
set_option Elab.async false
set_option linter.all false
set_option maxRecDepth 100000
set_option maxHeartbeats 4000000
/-! Rows as plain data, and their shapes. -/
namespace FK
open PySem PySem.Spec L2

structure Fill where
  p : Int
  s : Int
  n : Option Nat
  deriving DecidableEq
inductive Row where
  | order (m : Str) (b : Bool) (p s : Int) (fs : List Fill)
  | cancel (n : Nat)
  | prints (fs : List Fill)
  | closed
  | call (p : Option Int) (ps : List (Nat × Int))
  deriving DecidableEq
def nD : Option Nat → D
  | none => .none
  | some n => .int (n : Int)
def fillD (f : Fill) : D := .tuple [.int f.p, .int f.s, nD f.n]
def fillsD (fs : List Fill) : D := .tuple (fs.map fillD)
def sideS (b : Bool) : Str := if b then "buy" else "sell"
def sideD (b : Bool) : D := .str (sideS b)
def pairD (q : Nat × Int) : D := .tuple [.int (q.1 : Int), .int q.2]
def pairsD (ps : List (Nat × Int)) : D := .tuple (ps.map pairD)
def priceD : Option Int → D
  | none => .none
  | some p => .int p
def rowD : Row → D
  | .order m b p s fs => .tuple [.str "order", .str m, sideD b, .int p, .int s, fillsD fs]
  | .cancel n => .tuple [.str "cancel", .int (n : Int)]
  | .prints fs => .tuple [.str "prints", fillsD fs]
  | .closed => .tuple [.str "closed"]
  | .call p ps => .tuple [.str "call", priceD p, pairsD ps]
def rowsT (rows : List Row) : D := .tuple (rows.map rowD)
def rowsL (rows : List Row) : D := .list (rows.map rowD)
def recD (rule : Str) (rows : List Row) : D := .tuple [.str rule, rowsT rows]
def kindS : Row → Str
  | .order .. => "order"
  | .cancel _ => "cancel"
  | .prints _ => "prints"
  | .closed => "closed"
  | .call .. => "call"
/-! ### data that == tells apart -/
mutual
def nb : D → Bool
  | .bool _ => false
  | .list xs => nbs xs
  | .tuple xs => nbs xs
  | .dict _ => false
  | _ => true
def nbs : List D → Bool
  | [] => true
  | x :: xs => nb x && nbs xs
end
mutual
theorem eqv_iff : ∀ a b : D, nb a = true → nb b = true → (PyData.eqv a b = true ↔ a = b)
  | .none, b, _, hb => by cases b <;> simp_all [PyData.eqv, nb]
  | .bool _, _, ha, _ => by simp [nb] at ha
  | .int i, b, _, hb => by cases b <;> simp_all [PyData.eqv, nb]
  | .str i, b, _, hb => by cases b <;> simp_all [PyData.eqv, nb]
  | .list xs, b, ha, hb => by
    cases b with
    | list ys =>
      have := eqvs_iff xs ys (by simpa [nb] using ha) (by simpa [nb] using hb)
      simp [PyData.eqv, this]
    | _ => simp_all [PyData.eqv, nb]
  | .tuple xs, b, ha, hb => by
    cases b with
    | tuple ys =>
      have := eqvs_iff xs ys (by simpa [nb] using ha) (by simpa [nb] using hb)
      simp [PyData.eqv, this]
    | _ => simp_all [PyData.eqv, nb]
  | .dict _, _, ha, _ => by simp [nb] at ha
theorem eqvs_iff : ∀ a b : List D, nbs a = true → nbs b = true → (PyData.eqvAll a b = true ↔ a = b)
  | [], b, _, _ => by cases b <;> simp [PyData.eqvAll]
  | x :: xs, b, ha, hb => by
    cases b with
    | nil => simp [PyData.eqvAll]
    | cons y ys =>
      have ha' : nb x = true ∧ nbs xs = true := by simpa [nbs] using ha
      have hb' : nb y = true ∧ nbs ys = true := by simpa [nbs] using hb
      simp [PyData.eqvAll, eqv_iff x y ha'.1 hb'.1, eqvs_iff xs ys ha'.2 hb'.2]
end
/-- plain, of so many storeys -/
structure PL (n : Nat) (d : D) : Prop where
  lay : d.canLay0 = true
  dep : d.depth ≤ n
  nb : FK.nb d = true
theorem PL.mono {n m : Nat} {d : D} (h : PL n d) (l : n ≤ m) : PL m d := ⟨h.lay, Nat.le_trans h.dep l, h.nb⟩
theorem PL.shaped {n : Nat} {d : D} (h : PL n d) (l : n ≤ 64) : SeqAt.shaped d = true := by
  unfold SeqAt.shaped
  rw [h.lay, decide_eq_true (Nat.le_trans h.dep l)]
  rfl
theorem PL.eqv {n m : Nat} {a b : D} (ha : PL n a) (hb : PL m b) : PyData.eqv a b = true ↔ a = b := eqv_iff a b ha.nb hb.nb
theorem PL.none : PL 0 .none := ⟨rfl, Nat.le_refl _, rfl⟩
theorem PL.int (i : Int) : PL 0 (.int i) := ⟨rfl, Nat.le_refl _, rfl⟩
theorem PL.str {x : Str} (h : PyData.strOk x = true) : PL 0 (.str x) := ⟨by simp [PyData.canLay0, h], Nat.le_refl _, rfl⟩
theorem lay_all {xs : List D} (h : ∀ x ∈ xs, x.canLay0 = true) : PyData.canLayAll0 xs = true := by
  induction xs with
  | nil => rfl
  | cons x xs ih =>
    simp only [PyData.canLayAll0, h x List.mem_cons_self, Bool.true_and]
    exact ih fun y hy => h y (List.mem_cons_of_mem _ hy)
theorem dep_all {n : Nat} {xs : List D} (h : ∀ x ∈ xs, x.depth ≤ n) : PyData.depthAll xs ≤ n := by
  induction xs with
  | nil => exact Nat.zero_le _
  | cons x xs ih =>
    have h1 := h x List.mem_cons_self
    have h2 := ih fun y hy => h y (List.mem_cons_of_mem _ hy)
    simp only [PyData.depthAll]
    omega
theorem nb_all {xs : List D} (h : ∀ x ∈ xs, nb x = true) : nbs xs = true := by
  induction xs with
  | nil => rfl
  | cons x xs ih =>
    simp only [nbs, h x List.mem_cons_self, Bool.true_and]
    exact ih fun y hy => h y (List.mem_cons_of_mem _ hy)
theorem PL.tuple {n : Nat} {xs : List D} (h : ∀ x ∈ xs, PL n x) : PL (n + 1) (.tuple xs) := by
  refine ⟨?_, ?_, ?_⟩
  · simp only [PyData.canLay0]
    exact lay_all fun x hx => (h x hx).lay
  · simp only [PyData.depth]
    have := dep_all fun x hx => (h x hx).dep
    omega
  · simp only [FK.nb]
    exact nb_all fun x hx => (h x hx).nb
theorem PL.list {n : Nat} {xs : List D} (h : ∀ x ∈ xs, PL n x) : PL (n + 1) (.list xs) := by
  refine ⟨?_, ?_, ?_⟩
  · simp only [PyData.canLay0]
    exact lay_all fun x hx => (h x hx).lay
  · simp only [PyData.depth]
    have := dep_all fun x hx => (h x hx).dep
    omega
  · simp only [FK.nb]
    exact nb_all fun x hx => (h x hx).nb
/-- a name of a member that the model can lay -/
def nmOk (m : Str) : Prop := PyData.strOk m = true
theorem PL.nD (n : Option Nat) : PL 0 (FK.nD n) := by cases n; exact .none; exact .int _
theorem PL.price (n : Option Int) : PL 0 (priceD n) := by cases n; exact .none; exact .int _
theorem PL.fill (f : Fill) : PL 1 (fillD f) := .tuple fun x hx => by
  simp at hx
  rcases hx with rfl | rfl | rfl
  · exact .int _
  · exact .int _
  · exact .nD _
theorem PL.fills (fs : List Fill) : PL 2 (fillsD fs) := .tuple fun x hx => by
  obtain ⟨f, _, rfl⟩ := List.mem_map.mp hx
  exact .fill f
theorem PL.pair (q : Nat × Int) : PL 1 (pairD q) := .tuple fun x hx => by
  simp at hx
  rcases hx with rfl | rfl <;> exact .int _
theorem PL.pairs (ps : List (Nat × Int)) : PL 2 (pairsD ps) := .tuple fun x hx => by
  obtain ⟨f, _, rfl⟩ := List.mem_map.mp hx
  exact .pair f
theorem PL.side (b : Bool) : PL 0 (sideD b) := by
  cases b
  · exact .str (by decide +kernel)
  · exact .str (by decide +kernel)
def rowNm : Row → Prop
  | .order m .. => nmOk m
  | _ => True
theorem PL.row {r : Row} (h : rowNm r) : PL 3 (rowD r) := by
  cases r with
  | order m b p s fs =>
    refine .tuple fun x hx => ?_
    simp at hx
    rcases hx with rfl | rfl | rfl | rfl | rfl | rfl
    · exact (PL.str (by decide +kernel)).mono (by decide)
    · exact (PL.str h).mono (by decide)
    · exact (PL.side b).mono (by decide)
    · exact (PL.int _).mono (by decide)
    · exact (PL.int _).mono (by decide)
    · exact PL.fills fs
  | cancel n =>
    refine .tuple fun x hx => ?_
    simp at hx
    rcases hx with rfl | rfl
    · exact (PL.str (by decide +kernel)).mono (by decide)
    · exact (PL.int _).mono (by decide)
  | prints fs =>
    refine .tuple fun x hx => ?_
    simp at hx
    rcases hx with rfl | rfl
    · exact (PL.str (by decide +kernel)).mono (by decide)
    · exact PL.fills fs
  | closed =>
    refine .tuple fun x hx => ?_
    simp at hx
    subst hx
    exact (PL.str (by decide +kernel)).mono (by decide)
  | call p ps =>
    refine .tuple fun x hx => ?_
    simp at hx
    rcases hx with rfl | rfl | rfl
    · exact (PL.str (by decide +kernel)).mono (by decide)
    · exact (PL.price p).mono (by decide)
    · exact PL.pairs ps
theorem PL.rows {rows : List Row} (h : ∀ r ∈ rows, rowNm r) : PL 4 (rowsT rows) := .tuple fun x hx => by
  obtain ⟨r, hr, rfl⟩ := List.mem_map.mp hx
  exact .row (h r hr)
theorem PL.rowsL {rows : List Row} (h : ∀ r ∈ rows, rowNm r) : PL 4 (.list (rows.map rowD)) := .list fun x hx => by
  obtain ⟨r, hr, rfl⟩ := List.mem_map.mp hx
  exact .row (h r hr)
/-! ### injectivity -/
theorem map_inj {α β : Type} {f : α → β} (hf : ∀ a b, f a = f b → a = b) : ∀ {xs ys : List α}, xs.map f = ys.map f → xs = ys
  | [], [], _ => rfl
  | [], _ :: _, h => by simp at h
  | _ :: _, [], h => by simp at h
  | x :: xs, y :: ys, h => by
    simp only [List.map_cons, List.cons.injEq] at h
    rw [hf x y h.1, map_inj hf h.2]
theorem nD_inj {a b : Option Nat} (h : nD a = nD b) : a = b := by
  cases a <;> cases b <;> simp_all [nD]
  omega
theorem priceD_inj {a b : Option Int} (h : priceD a = priceD b) : a = b := by
  cases a <;> cases b <;> simp_all [priceD]
theorem fillD_inj {a b : Fill} (h : fillD a = fillD b) : a = b := by
  obtain ⟨p, s, n⟩ := a
  obtain ⟨p', s', n'⟩ := b
  simp [fillD] at h
  rw [h.1, h.2.1, nD_inj h.2.2]
theorem fillsD_inj {a b : List Fill} (h : fillsD a = fillsD b) : a = b := map_inj (fun _ _ => fillD_inj) (PyData.tuple.inj h)
theorem pairD_inj {a b : Nat × Int} (h : pairD a = pairD b) : a = b := by
  obtain ⟨p, s⟩ := a
  obtain ⟨p', s'⟩ := b
  simp [pairD] at h
  rw [h.2]
  congr 1
  omega
theorem sideD_inj {a b : Bool} (h : sideD a = sideD b) : a = b := by
  have h1 : sideS a = sideS b := PyData.str.inj h
  revert h1
  cases a <;> cases b <;> decide +kernel
theorem rowD_inj {a b : Row} (h : rowD a = rowD b) : a = b := by
  cases a <;> cases b <;> simp [rowD] at h <;> first
    | rfl
    | exact absurd h.1 (by decide +kernel)
    | exact absurd h (by decide +kernel)
    | (obtain ⟨h1, h2, h3, h4, h5⟩ := h; rw [h1, sideD_inj h2, h3, h4, fillsD_inj h5])
    | (rw [fillsD_inj h])
    | (rw [priceD_inj h.1, map_inj (fun _ _ => pairD_inj) (PyData.tuple.inj h.2)])
    | (congr 1; omega)
/-! ### what the rows tell -/
def fillsOf : Row → List Fill
  | .order _ _ _ _ fs => fs
  | .prints fs => fs
  | _ => []
def isCall : Row → Bool
  | .call .. => true
  | _ => false
def isOrd : Row → Bool
  | .order .. => true
  | _ => false
/-- lots of the order n in the fills of the row at place t -/
def fillSum (t n : Nat) (fs : List Fill) : Int := ((fs.filter fun f => decide (f.n = some n) || decide (t = n)).map (·.s)).sum
def pairSum (n : Nat) (ps : List (Nat × Int)) : Int := ((ps.filter fun q => decide (q.1 = n)).map (·.2)).sum
def lotsIn (row : Row) (n t : Nat) (fs : List Fill) : Int := match row with
  | .call _ ps => pairSum n ps
  | _ => fillSum t n fs
/-- lots of the order n in the rows from place k on -/
def soldFrom (n : Nat) : Nat → List Row → Int
  | _, [] => 0
  | k, row :: rows => lotsIn row n k (fillsOf row) + soldFrom n (k + 1) rows
def sold (rows : List Row) (n : Nat) : Int := soldFrom n 0 rows
def sizeAt (rows : List Row) (n : Nat) : Int := match rows[n]? with
  | some (.order _ _ _ s _) => s
  | _ => 0
def sideAt (rows : List Row) (n : Nat) : Bool := match rows[n]? with
  | some (.order _ b _ _ _) => b
  | _ => false
def priceAt (rows : List Row) (n : Nat) : Int := match rows[n]? with
  | some (.order _ _ p _ _) => p
  | _ => 0
def ordAt (rows : List Row) (n : Nat) : Bool := match rows[n]? with
  | some (.order ..) => true
  | _ => false
/-- behind the rows pre, and the fills fs of the next one -/
def restP (pre : List Row) (fs : List Fill) (n : Nat) : Int := sizeAt pre n - (sold pre n + fillSum pre.length n fs)
def openP (pre : List Row) (fs : List Fill) (n : Nat) : Bool := ordAt pre n && !(pre.contains (.cancel n)) && decide (0 < restP pre fs n)
def shutP (pre : List Row) : Bool := match pre with
  | .closed :: _ => pre.all fun r => !isCall r
  | _ => false
def withinP (b : Bool) (lim p : Int) : Bool := if b then decide (p ≤ lim) else decide (lim ≤ p)
theorem soldFrom_append (n : Nat) : ∀ (k : Nat) (a b : List Row), soldFrom n k (a ++ b) = soldFrom n k a + soldFrom n (k + a.length) b
  | k, [], b => by simp [soldFrom]
  | k, x :: a, b => by
    simp only [List.cons_append, soldFrom, soldFrom_append n (k + 1) a b, List.length_cons]
    rw [show k + 1 + a.length = k + (a.length + 1) by omega]
    omega
theorem sold_snoc (pre : List Row) (row : Row) (n : Nat) : sold (pre ++ [row]) n = sold pre n + lotsIn row n pre.length (fillsOf row) := by
  unfold sold
  rw [soldFrom_append]
  simp [soldFrom]
end FK
set_option Elab.async false
set_option linter.all false
set_option maxRecDepth 1000000
/-! The text by places. -/
namespace FK
open PySem PySem.Spec L2
def topS (i : Nat) : Stmt := PySem.Challenge.pw_fairshown_k15_whole_rows_that_can_follow.main.body.getD i (.Pass ⟨0, 0, 0, 0⟩)
abbrev s_is_integer : Stmt := topS 20
def d_is_integer : He.DefD := ⟨("is_integer", none), "is_integer", "is_integer", defArgs s_is_integer, defBody s_is_integer, defScope s_is_integer, [], []⟩
abbrev s_is_number : Stmt := topS 21
def d_is_number : He.DefD := ⟨("is_number", none), "is_number", "is_number", defArgs s_is_number, defBody s_is_number, defScope s_is_number, [], []⟩
abbrev s_is_size : Stmt := topS 22
def d_is_size : He.DefD := ⟨("is_size", none), "is_size", "is_size", defArgs s_is_size, defBody s_is_size, defScope s_is_size, [], []⟩
abbrev s_is_name : Stmt := topS 23
def d_is_name : He.DefD := ⟨("is_name", none), "is_name", "is_name", defArgs s_is_name, defBody s_is_name, defScope s_is_name, [], []⟩
abbrev s_is_side : Stmt := topS 24
def d_is_side : He.DefD := ⟨("is_side", none), "is_side", "is_side", defArgs s_is_side, defBody s_is_side, defScope s_is_side, [], []⟩
abbrev s_is_rule : Stmt := topS 25
def d_is_rule : He.DefD := ⟨("is_rule", none), "is_rule", "is_rule", defArgs s_is_rule, defBody s_is_rule, defScope s_is_rule, [], []⟩
abbrev s_is_fill : Stmt := topS 26
def d_is_fill : He.DefD := ⟨("is_fill", none), "is_fill", "is_fill", defArgs s_is_fill, defBody s_is_fill, defScope s_is_fill, [], []⟩
abbrev s_are_fills : Stmt := topS 27
def d_are_fills : He.DefD := ⟨("are_fills", none), "are_fills", "are_fills", defArgs s_are_fills, defBody s_are_fills, defScope s_are_fills, [], []⟩
abbrev s_is_pair : Stmt := topS 28
def d_is_pair : He.DefD := ⟨("is_pair", none), "is_pair", "is_pair", defArgs s_is_pair, defBody s_is_pair, defScope s_is_pair, [], []⟩
abbrev s_are_pairs : Stmt := topS 29
def d_are_pairs : He.DefD := ⟨("are_pairs", none), "are_pairs", "are_pairs", defArgs s_are_pairs, defBody s_are_pairs, defScope s_are_pairs, [], []⟩
abbrev s_is_order_row : Stmt := topS 30
def d_is_order_row : He.DefD := ⟨("is_order_row", none), "is_order_row", "is_order_row", defArgs s_is_order_row, defBody s_is_order_row, defScope s_is_order_row, [], []⟩
abbrev s_is_call_row : Stmt := topS 31
def d_is_call_row : He.DefD := ⟨("is_call_row", none), "is_call_row", "is_call_row", defArgs s_is_call_row, defBody s_is_call_row, defScope s_is_call_row, [], []⟩
abbrev s_is_row : Stmt := topS 32
def d_is_row : He.DefD := ⟨("is_row", none), "is_row", "is_row", defArgs s_is_row, defBody s_is_row, defScope s_is_row, [], []⟩
abbrev s_fills_in : Stmt := topS 34
def d_fills_in : He.DefD := ⟨("fills_in", none), "fills_in", "fills_in", defArgs s_fills_in, defBody s_fills_in, defScope s_fills_in, [], []⟩
abbrev s_lots_in : Stmt := topS 35
def d_lots_in : He.DefD := ⟨("lots_in", none), "lots_in", "lots_in", defArgs s_lots_in, defBody s_lots_in, defScope s_lots_in, [], []⟩
abbrev s_lots_before : Stmt := topS 36
def d_lots_before : He.DefD := ⟨("lots_before", none), "lots_before", "lots_before", defArgs s_lots_before, defBody s_lots_before, defScope s_lots_before, [], []⟩
abbrev s_rest_of : Stmt := topS 37
def d_rest_of : He.DefD := ⟨("rest_of", none), "rest_of", "rest_of", defArgs s_rest_of, defBody s_rest_of, defScope s_rest_of, [], []⟩
abbrev s_is_open : Stmt := topS 38
def d_is_open : He.DefD := ⟨("is_open", none), "is_open", "is_open", defArgs s_is_open, defBody s_is_open, defScope s_is_open, [], []⟩
abbrev s_is_shut : Stmt := topS 39
def d_is_shut : He.DefD := ⟨("is_shut", none), "is_shut", "is_shut", defArgs s_is_shut, defBody s_is_shut, defScope s_is_shut, [], []⟩
abbrev s_require : Stmt := topS 42
def d_require : He.DefD := ⟨("require", none), "require", "require", defArgs s_require, defBody s_require, defScope s_require, [], []⟩
abbrev s_has_shape : Stmt := topS 43
def d_has_shape : He.DefD := ⟨("has_shape", none), "has_shape", "has_shape", defArgs s_has_shape, defBody s_has_shape, defScope s_has_shape, [], []⟩
abbrev s_is_within : Stmt := topS 44
def d_is_within : He.DefD := ⟨("is_within", none), "is_within", "is_within", defArgs s_is_within, defBody s_is_within, defScope s_is_within, [], []⟩
abbrev s_check_closed : Stmt := topS 45
def d_check_closed : He.DefD := ⟨("check_closed", none), "check_closed", "check_closed", defArgs s_check_closed, defBody s_check_closed, defScope s_check_closed, [], []⟩
abbrev s_check_resting : Stmt := topS 46
def d_check_resting : He.DefD := ⟨("check_resting", none), "check_resting", "check_resting", defArgs s_check_resting, defBody s_check_resting, defScope s_check_resting, [], []⟩
abbrev s_check_own : Stmt := topS 47
def d_check_own : He.DefD := ⟨("check_own", none), "check_own", "check_own", defArgs s_check_own, defBody s_check_own, defScope s_check_own, [], []⟩
abbrev s_check_print : Stmt := topS 48
def d_check_print : He.DefD := ⟨("check_print", none), "check_print", "check_print", defArgs s_check_print, defBody s_check_print, defScope s_check_print, [], []⟩
abbrev s_check_call : Stmt := topS 49
def d_check_call : He.DefD := ⟨("check_call", none), "check_call", "check_call", defArgs s_check_call, defBody s_check_call, defScope s_check_call, [], []⟩
abbrev s_check_row : Stmt := topS 50
def d_check_row : He.DefD := ⟨("check_row", none), "check_row", "check_row", defArgs s_check_row, defBody s_check_row, defScope s_check_row, [], []⟩
abbrev s_lets_record : Stmt := topS 51
def d_lets_record : He.DefD := ⟨("lets_record", none), "lets_record", "lets_record", defArgs s_lets_record, defBody s_lets_record, defScope s_lets_record, [], []⟩
abbrev s_members_of : Stmt := topS 60
def d_members_of : He.DefD := ⟨("members_of", none), "members_of", "members_of", defArgs s_members_of, defBody s_members_of, defScope s_members_of, [], []⟩
abbrev s_orders_of : Stmt := topS 61
def d_orders_of : He.DefD := ⟨("orders_of", none), "orders_of", "orders_of", defArgs s_orders_of, defBody s_orders_of, defScope s_orders_of, [], []⟩
abbrev s_require_order : Stmt := topS 62
def d_require_order : He.DefD := ⟨("require_order", none), "require_order", "require_order", defArgs s_require_order, defBody s_require_order, defScope s_require_order, [], []⟩
abbrev s_is_place : Stmt := topS 63
def d_is_place : He.DefD := ⟨("is_place", none), "is_place", "is_place", defArgs s_is_place, defBody s_is_place, defScope s_is_place, [], []⟩
abbrev s_require_place : Stmt := topS 64
def d_require_place : He.DefD := ⟨("require_place", none), "require_place", "require_place", defArgs s_require_place, defBody s_require_place, defScope s_require_place, [], []⟩
abbrev s_order_at : Stmt := topS 65
def d_order_at : He.DefD := ⟨("order_at", none), "order_at", "order_at", defArgs s_order_at, defBody s_order_at, defScope s_order_at, [], []⟩
abbrev s_rest_at : Stmt := topS 66
def d_rest_at : He.DefD := ⟨("rest_at", none), "rest_at", "rest_at", defArgs s_rest_at, defBody s_rest_at, defScope s_rest_at, [.int 0], []⟩
abbrev s_open_at : Stmt := topS 67
def d_open_at : He.DefD := ⟨("open_at", none), "open_at", "open_at", defArgs s_open_at, defBody s_open_at, defScope s_open_at, [.int 0], []⟩
abbrev s_is_closed_at : Stmt := topS 68
def d_is_closed_at : He.DefD := ⟨("is_closed_at", none), "is_closed_at", "is_closed_at", defArgs s_is_closed_at, defBody s_is_closed_at, defScope s_is_closed_at, [], []⟩
abbrev s_traded : Stmt := topS 69
def d_traded : He.DefD := ⟨("traded", none), "traded", "traded", defArgs s_traded, defBody s_traded, defScope s_traded, [], []⟩
abbrev s__law_reader : Stmt := topS 77
def d__law_reader : He.DefD := ⟨("_law_reader", none), "_law_reader", "_law_reader", defArgs s__law_reader, defBody s__law_reader, defScope s__law_reader, [], []⟩
abbrev s__law_draw : Stmt := topS 78
def d__law_draw : He.DefD := ⟨("_law_draw", none), "_law_draw", "_law_draw", defArgs s__law_draw, defBody s__law_draw, defScope s__law_draw, [], []⟩
abbrev s__law_class_flags : Stmt := topS 79
def d__law_class_flags : He.DefD := ⟨("_law_class_flags", none), "_law_class_flags", "_law_class_flags", defArgs s__law_class_flags, defBody s__law_class_flags, defScope s__law_class_flags, [], []⟩
abbrev s__law_own_flags : Stmt := topS 80
def d__law_own_flags : He.DefD := ⟨("_law_own_flags", none), "_law_own_flags", "_law_own_flags", defArgs s__law_own_flags, defBody s__law_own_flags, defScope s__law_own_flags, [], []⟩
abbrev s__law_fields : Stmt := topS 81
def d__law_fields : He.DefD := ⟨("_law_fields", none), "_law_fields", "_law_fields", defArgs s__law_fields, defBody s__law_fields, defScope s__law_fields, [], []⟩
abbrev s__law_outcome : Stmt := topS 82
def d__law_outcome : He.DefD := ⟨("_law_outcome", none), "_law_outcome", "_law_outcome", defArgs s__law_outcome, defBody s__law_outcome, defScope s__law_outcome, [], []⟩
abbrev s__law_fills : Stmt := topS 83
def d__law_fills : He.DefD := ⟨("_law_fills", none), "_law_fills", "_law_fills", defArgs s__law_fills, defBody s__law_fills, defScope s__law_fills, [], []⟩
abbrev s__law_trades : Stmt := topS 84
def d__law_trades : He.DefD := ⟨("_law_trades", none), "_law_trades", "_law_trades", defArgs s__law_trades, defBody s__law_trades, defScope s__law_trades, [], []⟩
abbrev s__law_rest : Stmt := topS 85
def d__law_rest : He.DefD := ⟨("_law_rest", none), "_law_rest", "_law_rest", defArgs s__law_rest, defBody s__law_rest, defScope s__law_rest, [], []⟩
abbrev s__law_orders : Stmt := topS 86
def d__law_orders : He.DefD := ⟨("_law_orders", none), "_law_orders", "_law_orders", defArgs s__law_orders, defBody s__law_orders, defScope s__law_orders, [], []⟩
abbrev s__law_open : Stmt := topS 87
def d__law_open : He.DefD := ⟨("_law_open", none), "_law_open", "_law_open", defArgs s__law_open, defBody s__law_open, defScope s__law_open, [], []⟩
abbrev s__law_is_shut : Stmt := topS 88
def d__law_is_shut : He.DefD := ⟨("_law_is_shut", none), "_law_is_shut", "_law_is_shut", defArgs s__law_is_shut, defBody s__law_is_shut, defScope s__law_is_shut, [], []⟩
abbrev s__law_new_fills : Stmt := topS 89
def d__law_new_fills : He.DefD := ⟨("_law_new_fills", none), "_law_new_fills", "_law_new_fills", defArgs s__law_new_fills, defBody s__law_new_fills, defScope s__law_new_fills, [], []⟩
abbrev s__law_new_row : Stmt := topS 90
def d__law_new_row : He.DefD := ⟨("_law_new_row", none), "_law_new_row", "_law_new_row", defArgs s__law_new_row, defBody s__law_new_row, defScope s__law_new_row, [], []⟩
abbrev s__law_random_rows : Stmt := topS 91
def d__law_random_rows : He.DefD := ⟨("_law_random_rows", none), "_law_random_rows", "_law_random_rows", defArgs s__law_random_rows, defBody s__law_random_rows, defScope s__law_random_rows, [], []⟩
abbrev s__law_random_record : Stmt := topS 92
def d__law_random_record : He.DefD := ⟨("_law_random_record", none), "_law_random_record", "_law_random_record", defArgs s__law_random_record, defBody s__law_random_record, defScope s__law_random_record, [], []⟩
abbrev s__law_fixed_records : Stmt := topS 93
def d__law_fixed_records : He.DefD := ⟨("_law_fixed_records", none), "_law_fixed_records", "_law_fixed_records", defArgs s__law_fixed_records, defBody s__law_fixed_records, defScope s__law_fixed_records, [], []⟩
abbrev s__law_can_fill : Stmt := topS 94
def d__law_can_fill : He.DefD := ⟨("_law_can_fill", none), "_law_can_fill", "_law_can_fill", defArgs s__law_can_fill, defBody s__law_can_fill, defScope s__law_can_fill, [], []⟩
abbrev s__law_can_follow : Stmt := topS 95
def d__law_can_follow : He.DefD := ⟨("_law_can_follow", none), "_law_can_follow", "_law_can_follow", defArgs s__law_can_follow, defBody s__law_can_follow, defScope s__law_can_follow, [], []⟩
abbrev s__law_check_behind : Stmt := topS 96
def d__law_check_behind : He.DefD := ⟨("_law_check_behind", none), "_law_check_behind", "_law_check_behind", defArgs s__law_check_behind, defBody s__law_check_behind, defScope s__law_check_behind, [], []⟩
abbrev s__law_candidates : Stmt := topS 97
def d__law_candidates : He.DefD := ⟨("_law_candidates", none), "_law_candidates", "_law_candidates", defArgs s__law_candidates, defBody s__law_candidates, defScope s__law_candidates, [], []⟩
abbrev s_law : Stmt := topS 98
def d_law : He.DefD := ⟨("law", none), "law", "law", defArgs s_law, defBody s_law, defScope s_law, [], []⟩
abbrev s_InvalidPaper_init : Stmt := inClass (topS 7) 0
def d_InvalidPaper_init : He.DefD := ⟨("InvalidPaper", some "__init__"), "__init__", "InvalidPaper.__init__", defArgs s_InvalidPaper_init, defBody s_InvalidPaper_init, defScope s_InvalidPaper_init, [], []⟩
abbrev s_Record_init : Stmt := inClass (topS 75) 0
def d_Record_init : He.DefD := ⟨("Record", some "__init__"), "__init__", "Record.__init__", defArgs s_Record_init, defBody s_Record_init, defScope s_Record_init, [], []⟩
abbrev s_Record_add : Stmt := inClass (topS 75) 16
def d_Record_add : He.DefD := ⟨("Record", some "__add__"), "__add__", "Record.__add__", defArgs s_Record_add, defBody s_Record_add, defScope s_Record_add, [], []⟩
abbrev s_Record_form : Stmt := inClass (topS 75) 6
def fn0 : List He.DefD := [d_is_integer, d_is_number, d_is_size, d_is_name, d_is_side, d_is_rule, d_is_fill, d_are_fills, d_is_pair, d_are_pairs, d_is_order_row, d_is_call_row, d_is_row, d_fills_in, d_lots_in, d_lots_before, d_rest_of, d_is_open, d_is_shut, d_require, d_has_shape, d_is_within, d_check_closed, d_check_resting, d_check_own, d_check_print, d_check_call, d_check_row, d_lets_record, d_members_of]
def fn1 : List He.DefD := [d_orders_of, d_require_order, d_is_place, d_require_place, d_order_at, d_rest_at, d_open_at, d_is_closed_at, d_traded, d__law_reader, d__law_draw, d__law_class_flags, d__law_own_flags, d__law_fields, d__law_outcome, d__law_fills, d__law_trades, d__law_rest, d__law_orders, d__law_open, d__law_is_shut, d__law_new_fills, d__law_new_row, d__law_random_rows, d__law_random_record, d__law_fixed_records, d__law_can_fill, d__law_can_follow, d__law_check_behind, d__law_candidates]
def fn2 : List He.DefD := [d_law, d_Record_init, d_Record_add]
def fn : List He.DefD := fn0 ++ fn1 ++ fn2
def d_form : He5.DefA := ⟨fun K => He5.wf K (He.ga K "Record") "property" "form", "form", "Record.form", defArgs s_Record_form, defBody s_Record_form, defScope s_Record_form, [], []⟩
end FK
set_option Elab.async false
set_option linter.all false
set_option maxRecDepth 100000
set_option maxHeartbeats 4000000
/-! Defs as promises: the words, the shapes of things. -/
namespace FK
open PySem PySem.Spec L2
abbrev Gs : Type := List Sl → Nat → (Out → Nat → Prop) → Prop
/-- a def of the module that keeps a promise -/
def Has (P : Program) (w : World) (K : PySem.W.Frag) (mg : Str → Option Value) (base : Heap) (C : Addr) (x : Str) (k : Nat) (ps : List Str) (g : Gs) : Prop :=
  ∃ f fd, FnOk P w K mg base (L2N.CX P w) k f fd ps (spG (dlH P w) C g) ∧ mg x = some (.ref f) ∧ PySem.W.keepIn K (.ref f) = true ∧ Binds K fd ps []
/-- its last parameter has the default 0 -/
def HasD (P : Program) (w : World) (K : PySem.W.Frag) (mg : Str → Option Value) (base : Heap) (C : Addr) (x : Str) (k : Nat) (ps : List Str) (g : Gs) : Prop :=
  ∃ f fd ds, FnOk P w K mg base (L2N.CX P w) k f fd ps (spG (dlH P w) C g) ∧ mg x = some (.ref f) ∧ PySem.W.keepIn K (.ref f) = true ∧ Binds K fd ps [] ∧ Vals [V.int 0] ds ∧ Binds K fd ps ds
structure Bl (mg : Str → Option Value) : Prop where
  len : mg "len" = none
  sum : mg "sum" = none
  all : mg "all" = none
  tuple : mg "tuple" = none
  list : mg "list" = none
  min : mg "min" = none
  int : mg "int" = none
  isinstance : mg "isinstance" = none
  sorted : mg "sorted" = none
  set : mg "set" = none
  range : mg "range" = none
  zip : mg "zip" = none
  enumerate : mg "enumerate" = none
  str : mg "str" = none
  bool : mg "bool" = none
structure Cn (K : PySem.W.Frag) (mg : Str → Option Value) : Prop where
  LETTERS : ∃ t, mg "LETTERS" = some (.str "abcdefghijklmnopqrstuvwxyz" t)
  BUY : ∃ t, mg "BUY" = some (.str "buy" t)
  LONGEST_NAME : ∃ t, mg "LONGEST_NAME" = some (.int 8 t)
  SIDES : ∃ a, mg "SIDES" = some (.ref a) ∧ ∀ H, SqT K H a ((["buy", "sell"] : List Str).map V.str)
  RULES : ∃ a, mg "RULES" = some (.ref a) ∧ ∀ H, SqT K H a ((["time", "late", "price"] : List Str).map V.str)
theorem hu_of' {k : Nat} {A : Around} (hr : Room k A) : A.units + 65 < cLine := by
  have := hr.un
  omega
section
variable {α β : Type}
@[simp] theorem bW_def (m : W α) (k : α → W β) (c : Nat) (P : β → Nat → Prop) : bW m k c P = m c fun a c1 => k a c1 P := rfl
@[simp] theorem rW_def (a : α) (c : Nat) (P : α → Nat → Prop) : rW a c P = P a c := rfl
@[simp] theorem gW_def (p : Prop) (c : Nat) (P : Unit → Nat → Prop) : gW p c P = (p ∧ P () c) := rfl
@[simp] theorem fW_def (c : Nat) (P : α → Nat → Prop) : (fW : W α) c P = False := rfl
@[simp] theorem vW_def (i : Nat) (ρ : Rho) (c : Nat) (P : D → Nat → Prop) : vW i ρ c P = ∃ d, ρ[i]? = some (.dat d) ∧ P d c := rfl
@[simp] theorem asB_bool (b : Bool) : asB (.bool b) = rW b := rfl
@[simp] theorem asI_int (i : Int) : asI (.int i) = rW i := rfl
@[simp] theorem asT_tuple (xs : List D) : asT (.tuple xs) = rW xs := rfl
@[simp] theorem asL_list (xs : List D) : asL (.list xs) = rW xs := rfl
@[simp] theorem asS_str (x : Str) : asS (.str x) = rW x := rfl
@[simp] theorem cmpW_int (p : Int → Int → Bool) (i j : Int) : cmpW p (.int i) (.int j) = rW (.bool (p i j)) := rfl
@[simp] theorem subW_int (i j : Int) : subW (.int i) (.int j) = rW (.int (i - j)) := rfl
@[simp] theorem addW_int (i j : Int) : addW (.int i) (.int j) = rW (.int (i + j)) := rfl
@[simp] theorem mulW_int (i j : Int) : mulW (.int i) (.int j) = bW (gW (CMul i j)) fun _ => rW (.int (i * j)) := rfl
@[simp] theorem eqW_int (i j : Int) : eqW0 false (.int i) (.int j) = rW (.bool (decide (i = j))) := rfl
@[simp] theorem neW_int (i j : Int) : eqW0 true (.int i) (.int j) = rW (.bool (!decide (i = j))) := rfl
@[simp] theorem eqW_str (i j : Str) : eqW0 false (.str i) (.str j) = rW (.bool (decide (i = j))) := rfl
@[simp] theorem neW_str (i j : Str) : eqW0 true (.str i) (.str j) = rW (.bool (!decide (i = j))) := rfl
@[simp] theorem eqW_ni (j : Int) : eqW0 false .none (.int j) = rW (.bool false) := rfl
@[simp] theorem neW_ni (j : Int) : eqW0 true .none (.int j) = rW (.bool true) := rfl
@[simp] theorem lenW_tup (xs : List D) : lenW [.tuple xs] = rW (.int xs.length) := rfl
@[simp] theorem lenW_lst (xs : List D) : lenW [.list xs] = rW (.int xs.length) := rfl
@[simp] theorem lenW_str (x : Str) : lenW [.str x] = bW (gW (x.length ≤ LIM)) fun _ => rW (.int x.length) := rfl
@[simp] theorem isW_none (b : Bool) (d : D) : isW b d .none = rW (.bool (if b then !isNon d else isNon d)) := rfl
@[simp] theorem isNon_none : isNon .none = true := rfl
@[simp] theorem isNon_int (i : Int) : isNon (.int i) = false := rfl
@[simp] theorem tupleW_list (xs : List D) : tupleW [.list xs] = rW (.tuple xs) := rfl
@[simp] theorem tupleW_tuple (xs : List D) : tupleW [.tuple xs] = rW (.tuple xs) := rfl
@[simp] theorem slW_tuple (xs : List D) (l h : Option Int) : slW (.tuple xs) l h = rW (.tuple (cutD xs l h)) := rfl
@[simp] theorem slW_list (xs : List D) (l h : Option Int) : slW (.list xs) l h = rW (.list (cutD xs l h)) := rfl
@[simp] theorem callW_def (g : Gs) (sls : List Sl) (c : Nat) (P : D → Nat → Prop) : callW g sls c P = g sls c fun o c' => match o with
  | .rt d => P d c'
  | .ex _ _ => False := rfl
@[simp] theorem andW_def (f g : Rho → W Bool) (ρ : Rho) (c : Nat) (P : Bool → Nat → Prop) : andW f g ρ c P = f ρ c fun b c1 => (if b = true then g ρ else rW false) c1 P := rfl
@[simp] theorem orW_def (f g : Rho → W Bool) (ρ : Rho) (c : Nat) (P : Bool → Nat → Prop) : orW f g ρ c P = f ρ c fun b c1 => (if b = true then rW true else g ρ) c1 P := rfl
@[simp] theorem seqW_def (f g : Rho → W Fl) (ρ : Rho) (c : Nat) (P : Fl → Nat → Prop) : seqW f g ρ c P = f ρ c fun fl c1 => (match fl with
  | .nx ρ' => g ρ'
  | .rt d => rW (.rt d)
  | .ex w a => rW (.ex w a)) c1 P := rfl
@[simp] theorem iteW {p : Prop} [Decidable p] (f g : W α) (c : Nat) (P : α → Nat → Prop) : (if p then f else g) c P = if p then f c P else g c P := by split <;> rfl
end
/-- the items of a literal list by place -/
theorem atI_lit {α : Type} (xs : List α) (j : Nat) (v : α) (h : xs[j]? = some v) (i : Int) (e : i = (j : Nat)) : atI xs i = some v := by
  subst e
  exact atI_nat h
@[simp] theorem ixW_t (xs : List D) (i : Int) : ixW (.tuple xs) (.int i) = (match atI xs i with
  | some v => rW v
  | none => fW) := rfl
@[simp] theorem ixW_l (xs : List D) (i : Int) : ixW (.list xs) (.int i) = (match atI xs i with
  | some v => rW v
  | none => fW) := rfl
@[simp] theorem atI_0 {α : Type} (x : α) (xs : List α) : atI (x :: xs) 0 = some x := atI_lit _ 0 _ rfl _ rfl
@[simp] theorem atI_1 {α : Type} (x y : α) (xs : List α) : atI (x :: y :: xs) 1 = some y := atI_lit _ 1 _ rfl _ rfl
@[simp] theorem atI_2 {α : Type} (x y z : α) (xs : List α) : atI (x :: y :: z :: xs) 2 = some z := atI_lit _ 2 _ rfl _ rfl
@[simp] theorem atI_3 {α : Type} (x y z u : α) (xs : List α) : atI (x :: y :: z :: u :: xs) 3 = some u := atI_lit _ 3 _ rfl _ rfl
@[simp] theorem atI_4 {α : Type} (x y z u v : α) (xs : List α) : atI (x :: y :: z :: u :: v :: xs) 4 = some v := atI_lit _ 4 _ rfl _ rfl
@[simp] theorem atI_5 {α : Type} (x y z u v w : α) (xs : List α) : atI (x :: y :: z :: u :: v :: w :: xs) 5 = some w := atI_lit _ 5 _ rfl _ rfl
/-! ### comprehensions over typed items -/
theorem lcG_fm {α : Type} (enc : α → D) (v : α → Option D) {g : D → Rho → W Rho} {t : Rho → W Bool} {f : Rho → W D} {ρ : Rho} : ∀ (xs : List α) {acc : List D} {c : Nat} {P : List D → Nat → Prop},
    (∀ x ∈ xs, ∀ (c : Nat) (Q : Option D → Nat → Prop), Q (v x) c → g (enc x) ρ c fun ρ1 c1 => t ρ1 c1 fun b c2 => if b = true then f ρ1 c2 fun y c3 => Q (some y) c3 else Q none c2) →
    P (acc ++ xs.filterMap v) c → lcG g t f ρ (xs.map enc) acc c P
  | [], acc, c, P, _, h => by simpa [lcG] using h
  | x :: xs, acc, c, P, hv, h => by
    have h1 := hv x List.mem_cons_self c (fun o c1 => match o with
      | some y => lcG g t f ρ (xs.map enc) (acc ++ [y]) c1 P
      | none => lcG g t f ρ (xs.map enc) acc c1 P)
    have ih := fun acc => lcG_fm enc v xs (acc := acc) (c := c) (P := P) fun y hy => hv y (List.mem_cons_of_mem _ hy)
    have h2 : (match v x with
      | some y => lcG g t f ρ (xs.map enc) (acc ++ [y]) c P
      | none => lcG g t f ρ (xs.map enc) acc c P) := by
      cases e : v x with
      | some y =>
        rw [List.filterMap_cons_some e] at h
        exact ih _ (by simpa using h)
      | none =>
        rw [List.filterMap_cons_none e] at h
        exact ih _ h
    have h3 := h1 h2
    show lcG g t f ρ (enc x :: xs.map enc) acc c P
    unfold lcG
    simp only [bW_def]
    have e : ∀ ρ1 : Rho, (fun (b : Bool) (c2 : Nat) => if b = true then f ρ1 c2 fun y c3 => lcG g t f ρ (xs.map enc) (acc ++ [y]) c3 P else lcG g t f ρ (xs.map enc) acc c2 P) =
      fun (b : Bool) (c2 : Nat) => (if b = true then bW (f ρ1) fun y => lcG g t f ρ (xs.map enc) (acc ++ [y]) else lcG g t f ρ (xs.map enc) acc) c2 P := fun ρ1 => by
      funext b c2
      cases b <;> rfl
    simp only [e] at h3
    exact h3
theorem filterMap_some {α β : Type} (w : α → β) (xs : List α) : xs.filterMap (fun x => some (w x)) = xs.map w := by
  rw [← List.filterMap_eq_map]; rfl
theorem lcG_mp {α : Type} (enc : α → D) (w : α → D) {g : D → Rho → W Rho} {t : Rho → W Bool} {f : Rho → W D} {ρ : Rho} (xs : List α) {acc : List D} {c : Nat} {P : List D → Nat → Prop}
    (hv : ∀ x ∈ xs, ∀ (c : Nat) (Q : Option D → Nat → Prop), Q (some (w x)) c → g (enc x) ρ c fun ρ1 c1 => t ρ1 c1 fun b c2 => if b = true then f ρ1 c2 fun y c3 => Q (some y) c3 else Q none c2)
    (h : P (acc ++ xs.map w) c) : lcG g t f ρ (xs.map enc) acc c P :=
  lcG_fm enc (fun x => some (w x)) xs hv (by rw [filterMap_some]; exact h)
/-- a filter of typed items -/
theorem lcG_fl {α : Type} (enc : α → D) (p : α → Bool) (w : α → D) {g : D → Rho → W Rho} {t : Rho → W Bool} {f : Rho → W D} {ρ : Rho} (xs : List α) {acc : List D} {c : Nat} {P : List D → Nat → Prop}
    (hv : ∀ x ∈ xs, ∀ (c : Nat) (Q : Option D → Nat → Prop), Q (if p x = true then some (w x) else none) c → g (enc x) ρ c fun ρ1 c1 => t ρ1 c1 fun b c2 => if b = true then f ρ1 c2 fun y c3 => Q (some y) c3 else Q none c2)
    (h : P (acc ++ (xs.filter p).map w) c) : lcG g t f ρ (xs.map enc) acc c P := by
  refine lcG_fm enc (fun x => if p x = true then some (w x) else none) xs hv ?_
  have e : xs.filterMap (fun x => if p x = true then some (w x) else none) = (xs.filter p).map w := by
    clear h hv
    induction xs with
    | nil => rfl
    | cons x xs ih =>
      cases hp : p x with
      | true => simp [List.filterMap_cons, hp, ih]
      | false => simp [List.filterMap_cons, hp, ih]
  rw [e]
  exact h
@[simp] theorem allW_def (xs : List D) (c : Nat) (P : D → Nat → Prop) : allW [.list xs] c P = ∃ bs : List Bool, xs = bs.map PyData.bool ∧ P (.bool (bs.all id)) c := rfl
@[simp] theorem sumW_def (xs : List D) (c : Nat) (P : D → Nat → Prop) : sumW [.list xs] c P = ∃ ns : List Int, xs = ns.map PyData.int ∧ P (.int ns.sum) c := rfl
@[simp] theorem gNm_def (i : Nat) (d : D) (ρ : Rho) : gNm i d ρ = rW (ρ.set i (.dat d)) := rfl
@[simp] theorem gT_tup (n : Nat) (h : List D → Rho → W Rho) (ds : List D) (ρ : Rho) : gT n h (.tuple ds) ρ = bW (gW (ds.length = n)) fun _ => h ds ρ := rfl
@[simp] theorem gC_cons (g : D → Rho → W Rho) (h : List D → Rho → W Rho) (d : D) (ds : List D) (ρ : Rho) : gC g h (d :: ds) ρ = bW (g d ρ) fun ρ' => h ds ρ' := rfl
@[simp] theorem gN_nil (ρ : Rho) : gN [] ρ = rW ρ := rfl
@[simp] theorem zipW_def (xs ys : List D) : zipW [.tuple xs, .tuple ys] = rW (zipD xs ys) := rfl
@[simp] theorem wipeR_nil (ρ : Rho) : wipeR ρ [] = ρ := rfl
@[simp] theorem wipeR_cons (ρ : Rho) (v : Nat) (vs : List Nat) : wipeR ρ (v :: vs) = (wipeR ρ vs).set v .no := rfl
theorem allW_true {xs : List D} {c : Nat} {P : D → Nat → Prop} (n : Nat) (e : xs = (List.replicate n true).map PyData.bool) (h : P (.bool true) c) : allW [.list xs] c P := by
  refine ⟨_, e, ?_⟩
  have : (List.replicate n true).all id = true := by simp
  rw [this]; exact h
theorem map_true {α : Type} (xs : List α) : xs.map (fun _ => PyData.bool true) = (List.replicate xs.length true).map PyData.bool := by
  induction xs with
  | nil => rfl
  | cons x xs ih => simp [List.replicate_succ, ih]
/-- one of xs is equal to d -/
def anyE (xs : List D) (d : D) : Bool := xs.any fun z => PyData.eqv z d
@[simp] theorem inW_tup (b : Bool) (d : D) (xs : List D) : inW b d (.tuple xs) = bW (gW (SeqAt.shaped d = true ∧ SeqAt.shaped (.list xs) = true)) fun _ => rW (.bool (if b then !anyE xs d else anyE xs d)) := rfl
@[simp] theorem inW_lst (b : Bool) (d : D) (xs : List D) : inW b d (.list xs) = bW (gW (SeqAt.shaped d = true ∧ SeqAt.shaped (.list xs) = true)) fun _ => rW (.bool (if b then !anyE xs d else anyE xs d)) := rfl
@[simp] theorem castN (a b : Nat) : ((a : Int) = (b : Int)) = (a = b) := propext ⟨fun h => by omega, fun h => by omega⟩
theorem any_row {rows : List Row} {r : Row} (h : ∀ x ∈ rows, rowNm x) (hr : rowNm r) : anyE (rows.map rowD) (rowD r) = rows.contains r := by
  unfold anyE
  induction rows with
  | nil => rfl
  | cons x xs ih =>
    rw [List.map_cons, List.any_cons, ih (fun y hy => h y (List.mem_cons_of_mem _ hy)), List.contains_cons]
    congr 1
    have e := (PL.row (h x List.mem_cons_self)).eqv (PL.row hr)
    by_cases hx : r = x
    · subst hx
      rw [e.mpr rfl]; simp
    · have h1 : PyData.eqv (rowD x) (rowD r) = false := by
        cases q : PyData.eqv (rowD x) (rowD r) with
        | false => rfl
        | true => exact absurd (rowD_inj (e.mp q)).symm hx
      rw [h1]
      simpa using hx
theorem all_map_id {α : Type} (p : α → Bool) (xs : List α) : (xs.map p).all id = xs.all p := by
  induction xs with
  | nil => rfl
  | cons x xs ih => simp [ih]
/-! ### words -/
@[simp] theorem ne_order_cancel : (Str.ofString "order" = Str.ofString "cancel") = False := eq_false (by decide +kernel)
@[simp] theorem ne_order_prints : (Str.ofString "order" = Str.ofString "prints") = False := eq_false (by decide +kernel)
@[simp] theorem ne_order_closed : (Str.ofString "order" = Str.ofString "closed") = False := eq_false (by decide +kernel)
@[simp] theorem ne_order_call : (Str.ofString "order" = Str.ofString "call") = False := eq_false (by decide +kernel)
@[simp] theorem ne_cancel_order : (Str.ofString "cancel" = Str.ofString "order") = False := eq_false (by decide +kernel)
@[simp] theorem ne_cancel_prints : (Str.ofString "cancel" = Str.ofString "prints") = False := eq_false (by decide +kernel)
@[simp] theorem ne_cancel_closed : (Str.ofString "cancel" = Str.ofString "closed") = False := eq_false (by decide +kernel)
@[simp] theorem ne_cancel_call : (Str.ofString "cancel" = Str.ofString "call") = False := eq_false (by decide +kernel)
@[simp] theorem ne_prints_order : (Str.ofString "prints" = Str.ofString "order") = False := eq_false (by decide +kernel)
@[simp] theorem ne_prints_cancel : (Str.ofString "prints" = Str.ofString "cancel") = False := eq_false (by decide +kernel)
@[simp] theorem ne_prints_closed : (Str.ofString "prints" = Str.ofString "closed") = False := eq_false (by decide +kernel)
@[simp] theorem ne_prints_call : (Str.ofString "prints" = Str.ofString "call") = False := eq_false (by decide +kernel)
@[simp] theorem ne_closed_order : (Str.ofString "closed" = Str.ofString "order") = False := eq_false (by decide +kernel)
@[simp] theorem ne_closed_cancel : (Str.ofString "closed" = Str.ofString "cancel") = False := eq_false (by decide +kernel)
@[simp] theorem ne_closed_prints : (Str.ofString "closed" = Str.ofString "prints") = False := eq_false (by decide +kernel)
@[simp] theorem ne_closed_call : (Str.ofString "closed" = Str.ofString "call") = False := eq_false (by decide +kernel)
@[simp] theorem ne_call_order : (Str.ofString "call" = Str.ofString "order") = False := eq_false (by decide +kernel)
@[simp] theorem ne_call_cancel : (Str.ofString "call" = Str.ofString "cancel") = False := eq_false (by decide +kernel)
@[simp] theorem ne_call_prints : (Str.ofString "call" = Str.ofString "prints") = False := eq_false (by decide +kernel)
@[simp] theorem ne_call_closed : (Str.ofString "call" = Str.ofString "closed") = False := eq_false (by decide +kernel)
@[simp] theorem ne_buy_sell : (Str.ofString "buy" = Str.ofString "sell") = False := eq_false (by decide +kernel)
@[simp] theorem ne_sell_buy : (Str.ofString "sell" = Str.ofString "buy") = False := eq_false (by decide +kernel)
/-! ### cuts -/
theorem cut_to (xs : List D) (k : Nat) (i : Int) (e : i = (k : Nat)) : cutD xs none (some i) = xs.take k := by
  subst e
  unfold cutD
  rw [HT.sIx_none, HT.sIx_nat, List.drop_zero, Nat.sub_zero]
  by_cases h : k ≤ xs.length
  · rw [Nat.min_eq_left h]
  · rw [Nat.min_eq_right (by omega), List.take_length, List.take_of_length_le (by omega)]
theorem cut_from (xs : List D) (k : Nat) (i : Int) (e : i = (k : Nat)) : cutD xs (some i) none = xs.drop k := by
  subst e
  unfold cutD
  rw [HT.sIx_none, HT.sIx_nat]
  by_cases h : k ≤ xs.length
  · rw [Nat.min_eq_left h, List.take_of_length_le (by simp)]
  · rw [Nat.min_eq_right (by omega), List.drop_length, List.drop_of_length_le (by omega)]
    simp
/-! ### promises -/
def isInt : D → Bool
  | .int _ => true
  | _ => false
theorem isInt_eq (d : D) : (isD "int" d && !isD "bool" d) = isInt d := by cases d <;> rfl
def numD : D → Bool
  | .int i => decide (0 ≤ i)
  | _ => false
def sizD : D → Bool
  | .int i => decide (1 ≤ i)
  | _ => false
abbrev g_is_integer : Gs := fun sls c P => ∃ d, sls = [.dat d] ∧ P (.rt (.bool (isInt d))) c
abbrev g_is_number : Gs := fun sls c P => ∃ d, sls = [.dat d] ∧ P (.rt (.bool (numD d))) c
abbrev g_is_size : Gs := fun sls c P => ∃ d, sls = [.dat d] ∧ P (.rt (.bool (sizD d))) c
def nameOk (x : Str) : Prop := 1 ≤ x.length ∧ x.length ≤ 8 ∧ PyData.strOk x = true ∧ ∀ k ∈ x.cps.toList, k ∈ ("abcdefghijklmnopqrstuvwxyz" : Str).cps.toList
abbrev g_is_name : Gs := fun sls c P => ∃ x, sls = [.dat (.str x)] ∧ nameOk x ∧ P (.rt (.bool true)) c
abbrev g_is_side : Gs := fun sls c P => ∃ b, sls = [.dat (sideD b)] ∧ P (.rt (.bool true)) c
abbrev g_is_rule : Gs := fun sls c P => ∃ x, sls = [.dat (.str x)] ∧ x ∈ (["time", "late", "price"] : List Str) ∧ P (.rt (.bool true)) c
structure fillOk (f : Fill) : Prop where
  p : 1 ≤ f.p
  s : 1 ≤ f.s
def fillsOk (fs : List Fill) : Prop := fs.length ≤ 50 ∧ ∀ f ∈ fs, fillOk f
abbrev g_is_fill : Gs := fun sls c P => ∃ f, sls = [.dat (fillD f)] ∧ fillOk f ∧ P (.rt (.bool true)) c
abbrev g_are_fills : Gs := fun sls c P => ∃ fs, sls = [.dat (fillsD fs)] ∧ fillsOk fs ∧ P (.rt (.bool true)) c
abbrev g_is_pair : Gs := fun sls c P => ∃ q : Nat × Int, sls = [.dat (pairD q)] ∧ 1 ≤ q.2 ∧ P (.rt (.bool true)) c
structure pairsOk (ps : List (Nat × Int)) : Prop where
  len : ps.length ≤ 50
  pos : ∀ q ∈ ps, 1 ≤ q.2
  inc : ps.Pairwise fun a b => a.1 < b.1
abbrev g_are_pairs : Gs := fun sls c P => ∃ ps, sls = [.dat (pairsD ps)] ∧ pairsOk ps ∧ P (.rt (.bool true)) c
/-- a row of the right shape -/
def rowOk : Row → Prop
  | .order m _ p s fs => nameOk m ∧ 1 ≤ p ∧ 1 ≤ s ∧ fillsOk fs
  | .cancel _ => True
  | .prints fs => fillsOk fs
  | .closed => True
  | .call p ps => pairsOk ps ∧ match p with
    | some q => 1 ≤ q
    | none => ps = []
theorem rowOk.nm {r : Row} (h : rowOk r) : rowNm r := by
  cases r with
  | order m b p s fs => exact h.1.2.2.1
  | _ => trivial
def rowsOk (rows : List Row) : Prop := rows.length ≤ 50 ∧ ∀ r ∈ rows, rowOk r
def ruleOk (x : Str) : Prop := x ∈ (["time", "late", "price"] : List Str)
abbrev g_is_order_row : Gs := fun sls c P => ∃ m b p s fs, sls = [.dat (rowD (.order m b p s fs))] ∧ rowOk (.order m b p s fs) ∧ P (.rt (.bool true)) c
abbrev g_is_call_row : Gs := fun sls c P => ∃ p ps, sls = [.dat (rowD (.call p ps))] ∧ rowOk (.call p ps) ∧ P (.rt (.bool true)) c
abbrev g_is_row : Gs := fun sls c P => ∃ r, sls = [.dat (rowD r)] ∧ rowOk r ∧ P (.rt (.bool true)) c
abbrev g_has_shape : Gs := fun sls c P => ∃ x rows, sls = [.dat (recD x rows)] ∧ ruleOk x ∧ rowsOk rows ∧ P (.rt (.bool true)) c
end FK
set_option Elab.async false
set_option linter.all false
set_option maxRecDepth 100000
set_option maxHeartbeats 4000000
/-! Defs as promises: the shapes of things. (Printed by gen2.py from specK.py.) -/
namespace FK
open PySem PySem.Spec L2
section
variable {P : Program} {w : World} {K : PySem.W.Frag} {mg : Str → Option Value} {base : Heap} {C : Addr} {f : Addr} {fd : FuncData}
theorem ok_is_integer (bl : Bl mg) (cn : Cn K mg)  (F : FunD K "is_integer" "is_integer" (defArgs s_is_integer) (defBody s_is_integer) (defScope s_is_integer) [] [] f fd) (hm : mg "is_integer" = some (.ref f)) : Has P w K mg base C "is_integer" 1 ["thing"] g_is_integer := by
  have S : FnScope ["thing"] ["thing"] (defScope s_is_integer) := ⟨rfl, rfl, rfl, by decide +kernel, rfl, by decide +kernel, by decide +kernel⟩
  refine ⟨f, fd, fn_w F S (fun sls c P h => ?len) (fun cdv A outer s H E r hr => ((pwss_one (pws_ret (pw_and (pw_isa isT_int bl.isinstance bl.int (pw_var 0)) (pw_one (pw_not (pw_isa isT_bool bl.isinstance bl.bool (pw_var 0))))))))) (fun sls c P h => ?data), hm, F.kp, F.bindsN fun _ _ _ _ _ _ us hl => match us, hl with | [_], _ => rfl⟩
  case len =>
    obtain ⟨d, rfl, h⟩ := h
    rfl
  case data =>
    obtain ⟨d, rfl, h⟩ := h
    rw [← isInt_eq] at h
    simp [rho0]
    cases e : isD "int" d <;> simp_all
theorem ok_is_number (bl : Bl mg) (cn : Cn K mg) (h_is_integer : Has P w K mg base C "is_integer" 1 ["thing"] g_is_integer) (F : FunD K "is_number" "is_number" (defArgs s_is_number) (defBody s_is_number) (defScope s_is_number) [] [] f fd) (hm : mg "is_number" = some (.ref f)) : Has P w K mg base C "is_number" 2 ["thing"] g_is_number := by
  obtain ⟨f_is_integer, fd_is_integer, F_is_integer, m_is_integer, k_is_integer, b_is_integer⟩ := h_is_integer
  have S : FnScope ["thing"] ["thing"] (defScope s_is_number) := ⟨rfl, rfl, rfl, by decide +kernel, rfl, by decide +kernel, by decide +kernel⟩
  refine ⟨f, fd, fn_w F S (fun sls c P h => ?len) (fun cdv A outer s H E r hr => ((pwss_one (pws_ret (pw_and (pw_call F_is_integer (hr.mono (by decide)) m_is_integer k_is_integer b_is_integer .nil (fun _ _ => .nil) (par_dat (pw_var 0) par_nil)) (pw_one (pw_cmp opW_cmp op_ge (pw_var 0) pw_int (nomark _)))))))) (fun sls c P h => ?data), hm, F.kp, F.bindsN fun _ _ _ _ _ _ us hl => match us, hl with | [_], _ => rfl⟩
  case len =>
    obtain ⟨d, rfl, h⟩ := h
    rfl
  case data =>
    obtain ⟨d, rfl, h⟩ := h
    simp [rho0, g_is_integer]
    cases d <;> simp_all [isInt, numD]
theorem ok_is_size (bl : Bl mg) (cn : Cn K mg) (h_is_integer : Has P w K mg base C "is_integer" 1 ["thing"] g_is_integer) (F : FunD K "is_size" "is_size" (defArgs s_is_size) (defBody s_is_size) (defScope s_is_size) [] [] f fd) (hm : mg "is_size" = some (.ref f)) : Has P w K mg base C "is_size" 2 ["thing"] g_is_size := by
  obtain ⟨f_is_integer, fd_is_integer, F_is_integer, m_is_integer, k_is_integer, b_is_integer⟩ := h_is_integer
  have S : FnScope ["thing"] ["thing"] (defScope s_is_size) := ⟨rfl, rfl, rfl, by decide +kernel, rfl, by decide +kernel, by decide +kernel⟩
  refine ⟨f, fd, fn_w F S (fun sls c P h => ?len) (fun cdv A outer s H E r hr => ((pwss_one (pws_ret (pw_and (pw_call F_is_integer (hr.mono (by decide)) m_is_integer k_is_integer b_is_integer .nil (fun _ _ => .nil) (par_dat (pw_var 0) par_nil)) (pw_one (pw_cmp opW_cmp op_ge (pw_var 0) pw_int (nomark _)))))))) (fun sls c P h => ?data), hm, F.kp, F.bindsN fun _ _ _ _ _ _ us hl => match us, hl with | [_], _ => rfl⟩
  case len =>
    obtain ⟨d, rfl, h⟩ := h
    rfl
  case data =>
    obtain ⟨d, rfl, h⟩ := h
    simp [rho0, g_is_integer]
    cases d <;> simp_all [isInt, sizD]
theorem ok_is_name (bl : Bl mg) (cn : Cn K mg)  (F : FunD K "is_name" "is_name" (defArgs s_is_name) (defBody s_is_name) (defScope s_is_name) [] [] f fd) (hm : mg "is_name" = some (.ref f)) : Has P w K mg base C "is_name" 1 ["thing"] g_is_name := by
  obtain ⟨t_LONGEST_NAME, g_LONGEST_NAME⟩ := cn.LONGEST_NAME
  obtain ⟨t_LETTERS, g_LETTERS⟩ := cn.LETTERS
  have S : FnScope ["thing", "char"] ["thing"] (defScope s_is_name) := ⟨rfl, rfl, rfl, by decide +kernel, rfl, by decide +kernel, by decide +kernel⟩
  refine ⟨f, fd, fn_w F S (fun sls c P h => ?len) (fun cdv A outer s H E r hr => have hu := hu_of' hr; ((pwss_cons (pws_if (PW.pt (pww_or (pwt_not (pwt_val (pw_isa isT_str bl.isinstance bl.str (pw_var 0)))) (pww_or1 (pwt_not (pwt_chain opW_cmp opW_cmp op_le op_le pw_int (pw_callB calW_len call_len bl.len (paw_cons (pw_var 0) paw_nil)) (pw_gint rfl g_LONGEST_NAME ⟨_, rfl⟩)))))) (pwss_one (pws_ret pw_bl)) pwss_nil)
      (pwss_one (pws_ret (pw_callB calW_all (cr_all rfl) bl.all (paw_cons (pw_lc [("char", 1)] rfl S.nd (pwi_str (pw_var 0)) (blkOk_by (by kernel_rfl)) (fun _ _ _ _ _ => (pwg_name 1 S.nd)) (fun _ _ _ _ _ => pwts_nil) (fun _ _ _ _ _ => (pw_cmp opW_in (op_inA hu) (pw_var 1) (pw_gstr rfl g_LETTERS ⟨_, rfl⟩) (by with_unfolding_all rfl)))) paw_nil))))))) (fun sls c P h => ?data), hm, F.kp, F.bindsN fun _ _ _ _ _ _ us hl => match us, hl with | [_], _ => rfl⟩
  case len =>
    obtain ⟨x, rfl, h⟩ := h
    rfl
  case data =>
    obtain ⟨x, rfl, h⟩ := h
    obtain ⟨⟨h1, h2, h3, h4⟩, h⟩ := h
    have hl : x.length ≤ LIM := by unfold LIM; omega
    have e1 : (1 : Int) ≤ x.length := by omega
    have e2 : (x.length : Int) ≤ 8 := by omega
    simp [rho0, isD, tyD, hl, e1, e2, lcD]
    refine ⟨by simp [chrD]; unfold LIM; have : x.length = x.cps.size := rfl; omega, ?_⟩
    refine lcG_mp (fun k => PyData.str ⟨#[k]⟩) (fun _ => PyData.bool true) x.cps.toList (fun k hk c Q hQ => ?_) ⟨_, map_true x.cps.toList, by simpa using h⟩
    have hm := h4 k hk
    simp at hm
    simp [inW, hm, hQ]
theorem ok_is_side (bl : Bl mg) (cn : Cn K mg)  (F : FunD K "is_side" "is_side" (defArgs s_is_side) (defBody s_is_side) (defScope s_is_side) [] [] f fd) (hm : mg "is_side" = some (.ref f)) : Has P w K mg base C "is_side" 1 ["thing"] g_is_side := by
  obtain ⟨a_SIDES, g_SIDES, t_SIDES⟩ := cn.SIDES
  have S : FnScope ["thing"] ["thing"] (defScope s_is_side) := ⟨rfl, rfl, rfl, by decide +kernel, rfl, by decide +kernel, by decide +kernel⟩
  refine ⟨f, fd, fn_w F S (fun sls c P h => ?len) (fun cdv A outer s H E r hr => ((pwss_one (pws_ret (pw_and (pw_isa isT_str bl.isinstance bl.str (pw_var 0)) (pw_one (pw_inK (pw_var 0) g_SIDES t_SIDES))))))) (fun sls c P h => ?data), hm, F.kp, F.bindsN fun _ _ _ _ _ _ us hl => match us, hl with | [_], _ => rfl⟩
  case len =>
    obtain ⟨b, rfl, h⟩ := h
    rfl
  case data =>
    obtain ⟨b, rfl, h⟩ := h
    cases b <;> simp [rho0, sideD, sideS, isD, tyD, inKW, h]
theorem ok_is_rule (bl : Bl mg) (cn : Cn K mg)  (F : FunD K "is_rule" "is_rule" (defArgs s_is_rule) (defBody s_is_rule) (defScope s_is_rule) [] [] f fd) (hm : mg "is_rule" = some (.ref f)) : Has P w K mg base C "is_rule" 1 ["thing"] g_is_rule := by
  obtain ⟨a_RULES, g_RULES, t_RULES⟩ := cn.RULES
  have S : FnScope ["thing"] ["thing"] (defScope s_is_rule) := ⟨rfl, rfl, rfl, by decide +kernel, rfl, by decide +kernel, by decide +kernel⟩
  refine ⟨f, fd, fn_w F S (fun sls c P h => ?len) (fun cdv A outer s H E r hr => ((pwss_one (pws_ret (pw_and (pw_isa isT_str bl.isinstance bl.str (pw_var 0)) (pw_one (pw_inK (pw_var 0) g_RULES t_RULES))))))) (fun sls c P h => ?data), hm, F.kp, F.bindsN fun _ _ _ _ _ _ us hl => match us, hl with | [_], _ => rfl⟩
  case len =>
    obtain ⟨x, rfl, h⟩ := h
    rfl
  case data =>
    obtain ⟨x, rfl, h⟩ := h
    obtain ⟨hx, h⟩ := h
    simp [rho0, isD, tyD, inKW]
    simp at hx
    rcases hx with rfl | rfl | rfl <;> simpa using h
theorem ok_is_fill (bl : Bl mg) (cn : Cn K mg) (h_is_number : Has P w K mg base C "is_number" 2 ["thing"] g_is_number) (h_is_size : Has P w K mg base C "is_size" 2 ["thing"] g_is_size) (F : FunD K "is_fill" "is_fill" (defArgs s_is_fill) (defBody s_is_fill) (defScope s_is_fill) [] [] f fd) (hm : mg "is_fill" = some (.ref f)) : Has P w K mg base C "is_fill" 3 ["thing"] g_is_fill := by
  obtain ⟨f_is_number, fd_is_number, F_is_number, m_is_number, k_is_number, b_is_number⟩ := h_is_number
  obtain ⟨f_is_size, fd_is_size, F_is_size, m_is_size, k_is_size, b_is_size⟩ := h_is_size
  have S : FnScope ["thing"] ["thing"] (defScope s_is_fill) := ⟨rfl, rfl, rfl, by decide +kernel, rfl, by decide +kernel, by decide +kernel⟩
  refine ⟨f, fd, fn_w F S (fun sls c P h => ?len) (fun cdv A outer s H E r hr => ((pwss_cons (pws_if (PW.pt (pww_or (pwt_not (pwt_val (pw_isa isT_tuple bl.isinstance bl.tuple (pw_var 0)))) (pww_or (pwt_cmp opW_ne (op_neA hr.units) (pw_callB calW_len call_len bl.len (paw_cons (pw_var 0) paw_nil)) pw_int (nomark _)) (pww_or (pwt_not (pwt_val (pw_call F_is_size (hr.mono (by decide)) m_is_size k_is_size b_is_size .nil (fun _ _ => .nil) (par_dat (pw_ix (pw_var 0) pw_int) par_nil)))) (pww_or1 (pwt_not (pwt_val (pw_call F_is_size (hr.mono (by decide)) m_is_size k_is_size b_is_size .nil (fun _ _ => .nil) (par_dat (pw_ix (pw_var 0) pw_int) par_nil))))))))) (pwss_one (pws_ret pw_bl)) pwss_nil)
      (pwss_one (pws_ret (pw_or (pw_cmp opW_is op_isN (pw_ix (pw_var 0) pw_int) pw_non (nomark _)) (pw_one (pw_call F_is_number (hr.mono (by decide)) m_is_number k_is_number b_is_number .nil (fun _ _ => .nil) (par_dat (pw_ix (pw_var 0) pw_int) par_nil))))))))) (fun sls c P h => ?data), hm, F.kp, F.bindsN fun _ _ _ _ _ _ us hl => match us, hl with | [_], _ => rfl⟩
  case len =>
    obtain ⟨f, rfl, h⟩ := h
    rfl
  case data =>
    obtain ⟨f, rfl, h⟩ := h
    obtain ⟨hf, h⟩ := h
    have h1 := hf.p
    have h2 := hf.s
    obtain ⟨p, s, n⟩ := f
    simp at h1 h2
    cases n <;> simp [rho0, fillD, nD, isD, tyD, g_is_size, g_is_number, sizD, numD, h1, h2, h]
theorem ok_are_fills (bl : Bl mg) (cn : Cn K mg) (h_is_fill : Has P w K mg base C "is_fill" 3 ["thing"] g_is_fill) (F : FunD K "are_fills" "are_fills" (defArgs s_are_fills) (defBody s_are_fills) (defScope s_are_fills) [] [] f fd) (hm : mg "are_fills" = some (.ref f)) : Has P w K mg base C "are_fills" 4 ["thing"] g_are_fills := by
  obtain ⟨f_is_fill, fd_is_fill, F_is_fill, m_is_fill, k_is_fill, b_is_fill⟩ := h_is_fill
  have S : FnScope ["thing", "one"] ["thing"] (defScope s_are_fills) := ⟨rfl, rfl, rfl, by decide +kernel, rfl, by decide +kernel, by decide +kernel⟩
  refine ⟨f, fd, fn_w F S (fun sls c P h => ?len) (fun cdv A outer s H E r hr => ((pwss_one (pws_ret (pw_and (pw_isa isT_tuple bl.isinstance bl.tuple (pw_var 0)) (pw_one (pw_callB calW_all (cr_all rfl) bl.all (paw_cons (pw_lc [("one", 1)] rfl S.nd (pwi_tup (pw_var 0)) (blkOk_by (by kernel_rfl)) (fun _ _ _ _ _ => (pwg_name 1 S.nd)) (fun _ _ _ _ _ => pwts_nil) (fun _ _ _ _ _ => (pw_call F_is_fill (hr.mono (by decide)) m_is_fill k_is_fill b_is_fill .nil (fun _ _ => .nil) (par_dat (pw_var 1) par_nil)))) paw_nil)))))))) (fun sls c P h => ?data), hm, F.kp, F.bindsN fun _ _ _ _ _ _ us hl => match us, hl with | [_], _ => rfl⟩
  case len =>
    obtain ⟨fs, rfl, h⟩ := h
    rfl
  case data =>
    obtain ⟨fs, rfl, h⟩ := h
    obtain ⟨⟨hl, hf⟩, h⟩ := h
    have hz : fs.length ≤ LIM := by unfold LIM; omega
    simp [rho0, fillsD, isD, tyD, lcD, hz]
    refine lcG_mp fillD (fun _ => PyData.bool true) fs (fun f hf' c Q hQ => ?_) ⟨_, map_true fs, by simpa using h⟩
    simp [g_is_fill]
    exact ⟨f, rfl, hf f hf', hQ⟩
theorem ok_is_pair (bl : Bl mg) (cn : Cn K mg) (h_is_number : Has P w K mg base C "is_number" 2 ["thing"] g_is_number) (h_is_size : Has P w K mg base C "is_size" 2 ["thing"] g_is_size) (F : FunD K "is_pair" "is_pair" (defArgs s_is_pair) (defBody s_is_pair) (defScope s_is_pair) [] [] f fd) (hm : mg "is_pair" = some (.ref f)) : Has P w K mg base C "is_pair" 3 ["thing"] g_is_pair := by
  obtain ⟨f_is_number, fd_is_number, F_is_number, m_is_number, k_is_number, b_is_number⟩ := h_is_number
  obtain ⟨f_is_size, fd_is_size, F_is_size, m_is_size, k_is_size, b_is_size⟩ := h_is_size
  have S : FnScope ["thing"] ["thing"] (defScope s_is_pair) := ⟨rfl, rfl, rfl, by decide +kernel, rfl, by decide +kernel, by decide +kernel⟩
  refine ⟨f, fd, fn_w F S (fun sls c P h => ?len) (fun cdv A outer s H E r hr => ((pwss_one (pws_ret (pw_and (pw_isa isT_tuple bl.isinstance bl.tuple (pw_var 0)) (pw_and (pw_cmp opW_eq (op_eqA hr.units) (pw_callB calW_len call_len bl.len (paw_cons (pw_var 0) paw_nil)) pw_int (nomark _)) (pw_and (pw_call F_is_number (hr.mono (by decide)) m_is_number k_is_number b_is_number .nil (fun _ _ => .nil) (par_dat (pw_ix (pw_var 0) pw_int) par_nil)) (pw_one (pw_call F_is_size (hr.mono (by decide)) m_is_size k_is_size b_is_size .nil (fun _ _ => .nil) (par_dat (pw_ix (pw_var 0) pw_int) par_nil)))))))))) (fun sls c P h => ?data), hm, F.kp, F.bindsN fun _ _ _ _ _ _ us hl => match us, hl with | [_], _ => rfl⟩
  case len =>
    obtain ⟨q, rfl, h⟩ := h
    rfl
  case data =>
    obtain ⟨q, rfl, h⟩ := h
    obtain ⟨hq, h⟩ := h
    simp [rho0, pairD, isD, tyD, g_is_size, g_is_number, sizD, numD, hq, h]
theorem zip_adj : ∀ ps : List (Nat × Int), zipD (ps.map pairD) ((ps.map pairD).drop 1) = (ps.zip (ps.drop 1)).map fun q => PyData.tuple [pairD q.1, pairD q.2]
  | [] => rfl
  | [a] => rfl
  | a :: b :: ps => by
    have ih := zip_adj (b :: ps)
    simp [zipD] at ih ⊢
    exact ih
theorem adj_lt : ∀ ps : List (Nat × Int), (ps.Pairwise fun a b => a.1 < b.1) → ∀ q ∈ ps.zip (ps.drop 1), q.1.1 < q.2.1
  | [], _, q, hq => by simp at hq
  | [a], _, q, hq => by simp at hq
  | a :: b :: ps, h, q, hq => by
    obtain ⟨h1, h2⟩ := List.pairwise_cons.mp h
    simp at hq
    rcases hq with rfl | hq
    · exact h1 b List.mem_cons_self
    · exact adj_lt (b :: ps) h2 q (by simpa using hq)
theorem ok_are_pairs (bl : Bl mg) (cn : Cn K mg) (h_is_pair : Has P w K mg base C "is_pair" 3 ["thing"] g_is_pair) (F : FunD K "are_pairs" "are_pairs" (defArgs s_are_pairs) (defBody s_are_pairs) (defScope s_are_pairs) [] [] f fd) (hm : mg "are_pairs" = some (.ref f)) : Has P w K mg base C "are_pairs" 4 ["thing"] g_are_pairs := by
  obtain ⟨f_is_pair, fd_is_pair, F_is_pair, m_is_pair, k_is_pair, b_is_pair⟩ := h_is_pair
  have S : FnScope ["thing", "one", "other"] ["thing"] (defScope s_are_pairs) := ⟨rfl, rfl, rfl, by decide +kernel, rfl, by decide +kernel, by decide +kernel⟩
  refine ⟨f, fd, fn_w F S (fun sls c P h => ?len) (fun cdv A outer s H E r hr => ((pwss_cons (pws_if (PW.pt (pww_or (pwt_not (pwt_val (pw_isa isT_tuple bl.isinstance bl.tuple (pw_var 0)))) (pww_or1 (pwt_not (pwt_val (pw_callB calW_all (cr_all rfl) bl.all (paw_cons (pw_lc [("one", 1)] rfl S.nd (pwi_tup (pw_var 0)) (blkOk_by (by kernel_rfl)) (fun _ _ _ _ _ => (pwg_name 1 S.nd)) (fun _ _ _ _ _ => pwts_nil) (fun _ _ _ _ _ => (pw_call F_is_pair (hr.mono (by decide)) m_is_pair k_is_pair b_is_pair .nil (fun _ _ => .nil) (par_dat (pw_var 1) par_nil)))) paw_nil))))))) (pwss_one (pws_ret pw_bl)) pwss_nil)
      (pwss_one (pws_ret (pw_callB calW_all (cr_all rfl) bl.all (paw_cons (pw_lc [("one", 1), ("other", 2)] rfl S.nd (pwi_zip bl.zip (paw_cons (pw_var 0) (paw_cons (pw_slice (pw_var 0) (pwo_some pw_int) pwo_none) paw_nil))) (blkOk_by (by kernel_rfl)) (fun _ _ _ _ _ => (pwg_tup 2 rfl (pwgs_cons (pwg_name 1 S.nd) (pwgs_cons (pwg_name 2 S.nd) pwgs_nil)))) (fun _ _ _ _ _ => pwts_nil) (fun _ _ _ _ _ => (pw_cmp opW_cmp op_lt (pw_ix (pw_var 1) pw_int) (pw_ix (pw_var 2) pw_int) (nomark _)))) paw_nil))))))) (fun sls c P h => ?data), hm, F.kp, F.bindsN fun _ _ _ _ _ _ us hl => match us, hl with | [_], _ => rfl⟩
  case len =>
    obtain ⟨ps, rfl, h⟩ := h
    rfl
  case data =>
    obtain ⟨ps, rfl, h⟩ := h
    obtain ⟨⟨hl, hp, hi⟩, h⟩ := h
    have hz : ps.length ≤ LIM := by unfold LIM; omega
    simp [rho0, pairsD, isD, tyD, lcD, hz]
    refine lcG_mp pairD (fun _ => PyData.bool true) ps (fun q hq c Q hQ => ?_) ⟨_, map_true ps, ?_⟩
    · simp [g_is_pair]
      exact ⟨q.1, q.2, rfl, hp q hq, hQ⟩
    · simp
      rw [cut_from _ 1 1 rfl, zip_adj]
      refine ⟨?_, ?_⟩
      · simp
        unfold LIM
        omega
      · refine lcG_mp (fun q : (Nat × Int) × (Nat × Int) => PyData.tuple [pairD q.1, pairD q.2]) (fun _ => PyData.bool true) _ (fun q hq c Q hQ => ?_) ⟨_, map_true _, by simpa using h⟩
        have hlt := adj_lt ps hi q hq
        have hlt2 : (q.1.1 : Int) < q.2.1 := by omega
        simp [pairD, hlt2, hQ]
theorem ok_is_order_row (bl : Bl mg) (cn : Cn K mg) (h_are_fills : Has P w K mg base C "are_fills" 4 ["thing"] g_are_fills) (h_is_name : Has P w K mg base C "is_name" 1 ["thing"] g_is_name) (h_is_side : Has P w K mg base C "is_side" 1 ["thing"] g_is_side) (h_is_size : Has P w K mg base C "is_size" 2 ["thing"] g_is_size) (F : FunD K "is_order_row" "is_order_row" (defArgs s_is_order_row) (defBody s_is_order_row) (defScope s_is_order_row) [] [] f fd) (hm : mg "is_order_row" = some (.ref f)) : Has P w K mg base C "is_order_row" 5 ["thing"] g_is_order_row := by
  obtain ⟨f_are_fills, fd_are_fills, F_are_fills, m_are_fills, k_are_fills, b_are_fills⟩ := h_are_fills
  obtain ⟨f_is_name, fd_is_name, F_is_name, m_is_name, k_is_name, b_is_name⟩ := h_is_name
  obtain ⟨f_is_side, fd_is_side, F_is_side, m_is_side, k_is_side, b_is_side⟩ := h_is_side
  obtain ⟨f_is_size, fd_is_size, F_is_size, m_is_size, k_is_size, b_is_size⟩ := h_is_size
  have S : FnScope ["thing"] ["thing"] (defScope s_is_order_row) := ⟨rfl, rfl, rfl, by decide +kernel, rfl, by decide +kernel, by decide +kernel⟩
  refine ⟨f, fd, fn_w F S (fun sls c P h => ?len) (fun cdv A outer s H E r hr => ((pwss_cons (pws_if (PW.pt (pww_or (pwt_cmp opW_ne (op_neA hr.units) (pw_callB calW_len call_len bl.len (paw_cons (pw_var 0) paw_nil)) pw_int (nomark _)) (pww_or (pwt_not (pwt_val (pw_call F_is_name (hr.mono (by decide)) m_is_name k_is_name b_is_name .nil (fun _ _ => .nil) (par_dat (pw_ix (pw_var 0) pw_int) par_nil)))) (pww_or1 (pwt_not (pwt_val (pw_call F_is_side (hr.mono (by decide)) m_is_side k_is_side b_is_side .nil (fun _ _ => .nil) (par_dat (pw_ix (pw_var 0) pw_int) par_nil)))))))) (pwss_one (pws_ret pw_bl)) pwss_nil)
      (pwss_one (pws_ret (pw_and (pw_call F_is_size (hr.mono (by decide)) m_is_size k_is_size b_is_size .nil (fun _ _ => .nil) (par_dat (pw_ix (pw_var 0) pw_int) par_nil)) (pw_and (pw_call F_is_size (hr.mono (by decide)) m_is_size k_is_size b_is_size .nil (fun _ _ => .nil) (par_dat (pw_ix (pw_var 0) pw_int) par_nil)) (pw_one (pw_call F_are_fills (hr.mono (by decide)) m_are_fills k_are_fills b_are_fills .nil (fun _ _ => .nil) (par_dat (pw_ix (pw_var 0) pw_int) par_nil)))))))))) (fun sls c P h => ?data), hm, F.kp, F.bindsN fun _ _ _ _ _ _ us hl => match us, hl with | [_], _ => rfl⟩
  case len =>
    obtain ⟨m, b, p, s, fs, rfl, h⟩ := h
    rfl
  case data =>
    obtain ⟨m, b, p, s, fs, rfl, h⟩ := h
    obtain ⟨⟨h1, h2, h3, h4⟩, h⟩ := h
    simp [rho0, rowD, g_is_name, g_is_side, g_is_size, g_are_fills, sizD, h2, h3]
    exact ⟨h1, by cases b <;> simp, fs, rfl, h4, h⟩
theorem ok_is_call_row (bl : Bl mg) (cn : Cn K mg) (h_are_pairs : Has P w K mg base C "are_pairs" 4 ["thing"] g_are_pairs) (h_is_size : Has P w K mg base C "is_size" 2 ["thing"] g_is_size) (F : FunD K "is_call_row" "is_call_row" (defArgs s_is_call_row) (defBody s_is_call_row) (defScope s_is_call_row) [] [] f fd) (hm : mg "is_call_row" = some (.ref f)) : Has P w K mg base C "is_call_row" 5 ["thing"] g_is_call_row := by
  obtain ⟨f_are_pairs, fd_are_pairs, F_are_pairs, m_are_pairs, k_are_pairs, b_are_pairs⟩ := h_are_pairs
  obtain ⟨f_is_size, fd_is_size, F_is_size, m_is_size, k_is_size, b_is_size⟩ := h_is_size
  have S : FnScope ["thing"] ["thing"] (defScope s_is_call_row) := ⟨rfl, rfl, rfl, by decide +kernel, rfl, by decide +kernel, by decide +kernel⟩
  refine ⟨f, fd, fn_w F S (fun sls c P h => ?len) (fun cdv A outer s H E r hr => ((pwss_cons (pws_if (PW.pt (pww_or (pwt_cmp opW_ne (op_neA hr.units) (pw_callB calW_len call_len bl.len (paw_cons (pw_var 0) paw_nil)) pw_int (nomark _)) (pww_or1 (pwt_not (pwt_val (pw_call F_are_pairs (hr.mono (by decide)) m_are_pairs k_are_pairs b_are_pairs .nil (fun _ _ => .nil) (par_dat (pw_ix (pw_var 0) pw_int) par_nil))))))) (pwss_one (pws_ret pw_bl)) pwss_nil)
      (pwss_one (pws_ret (pw_or (pw_call F_is_size (hr.mono (by decide)) m_is_size k_is_size b_is_size .nil (fun _ _ => .nil) (par_dat (pw_ix (pw_var 0) pw_int) par_nil)) (pw_one (pw_and (pw_cmp opW_is op_isN (pw_ix (pw_var 0) pw_int) pw_non (nomark _)) (pw_one (pw_cmp opW_eq (op_eqA hr.units) (pw_ix (pw_var 0) pw_int) (pw_tup paw_nil) (nomark _))))))))))) (fun sls c P h => ?data), hm, F.kp, F.bindsN fun _ _ _ _ _ _ us hl => match us, hl with | [_], _ => rfl⟩
  case len =>
    obtain ⟨p, ps, rfl, h⟩ := h
    rfl
  case data =>
    obtain ⟨p, ps, rfl, h⟩ := h
    obtain ⟨⟨h1, h2⟩, h⟩ := h
    cases p with
    | none =>
      simp at h2
      subst h2
      simp [rho0, rowD, g_are_pairs, g_is_size, sizD, priceD, eqW0]
      have e : PyData.eqv (pairsD []) (.tuple []) = true := by simp [pairsD, PyData.eqv, PyData.eqvAll]
      refine ⟨[], rfl, h1, ⟨(PL.pairs []).shaped (by decide), (PL.pairs []).shaped (by decide)⟩, ?_⟩
      rw [e]
      exact h
    | some q =>
      simp at h2
      simp [rho0, rowD, g_are_pairs, g_is_size, sizD, priceD, h2]
      exact ⟨ps, rfl, h1, h⟩
theorem ok_is_row (bl : Bl mg) (cn : Cn K mg) (h_are_fills : Has P w K mg base C "are_fills" 4 ["thing"] g_are_fills) (h_is_call_row : Has P w K mg base C "is_call_row" 5 ["thing"] g_is_call_row) (h_is_number : Has P w K mg base C "is_number" 2 ["thing"] g_is_number) (h_is_order_row : Has P w K mg base C "is_order_row" 5 ["thing"] g_is_order_row) (F : FunD K "is_row" "is_row" (defArgs s_is_row) (defBody s_is_row) (defScope s_is_row) [] [] f fd) (hm : mg "is_row" = some (.ref f)) : Has P w K mg base C "is_row" 6 ["thing"] g_is_row := by
  obtain ⟨f_are_fills, fd_are_fills, F_are_fills, m_are_fills, k_are_fills, b_are_fills⟩ := h_are_fills
  obtain ⟨f_is_call_row, fd_is_call_row, F_is_call_row, m_is_call_row, k_is_call_row, b_is_call_row⟩ := h_is_call_row
  obtain ⟨f_is_number, fd_is_number, F_is_number, m_is_number, k_is_number, b_is_number⟩ := h_is_number
  obtain ⟨f_is_order_row, fd_is_order_row, F_is_order_row, m_is_order_row, k_is_order_row, b_is_order_row⟩ := h_is_order_row
  have S : FnScope ["thing"] ["thing"] (defScope s_is_row) := ⟨rfl, rfl, rfl, by decide +kernel, rfl, by decide +kernel, by decide +kernel⟩
  refine ⟨f, fd, fn_w F S (fun sls c P h => ?len) (fun cdv A outer s H E r hr => ((pwss_cons (pws_if (PW.pt (pww_or (pwt_not (pwt_val (pw_isa isT_tuple bl.isinstance bl.tuple (pw_var 0)))) (pww_or (pwt_cmp opW_eq (op_eqA hr.units) (pw_callB calW_len call_len bl.len (paw_cons (pw_var 0) paw_nil)) pw_int (nomark _)) (pww_or1 (pwt_not (pwt_val (pw_isa isT_str bl.isinstance bl.str (pw_ix (pw_var 0) pw_int)))))))) (pwss_one (pws_ret pw_bl)) pwss_nil)
      (pwss_one (pws_match (pw_ix (pw_var 0) pw_int) (pmw_str (pwss_one (pws_ret (pw_call F_is_order_row (hr.mono (by decide)) m_is_order_row k_is_order_row b_is_order_row .nil (fun _ _ => .nil) (par_dat (pw_var 0) par_nil)))) (pmw_str (pwss_one (pws_ret (pw_and (pw_cmp opW_eq (op_eqA hr.units) (pw_callB calW_len call_len bl.len (paw_cons (pw_var 0) paw_nil)) pw_int (nomark _)) (pw_one (pw_call F_is_number (hr.mono (by decide)) m_is_number k_is_number b_is_number .nil (fun _ _ => .nil) (par_dat (pw_ix (pw_var 0) pw_int) par_nil)))))) (pmw_str (pwss_one (pws_ret (pw_and (pw_cmp opW_eq (op_eqA hr.units) (pw_callB calW_len call_len bl.len (paw_cons (pw_var 0) paw_nil)) pw_int (nomark _)) (pw_one (pw_call F_are_fills (hr.mono (by decide)) m_are_fills k_are_fills b_are_fills .nil (fun _ _ => .nil) (par_dat (pw_ix (pw_var 0) pw_int) par_nil)))))) (pmw_str (pwss_one (pws_ret (pw_cmp opW_eq (op_eqA hr.units) (pw_callB calW_len call_len bl.len (paw_cons (pw_var 0) paw_nil)) pw_int (nomark _)))) (pmw_str (pwss_one (pws_ret (pw_call F_is_call_row (hr.mono (by decide)) m_is_call_row k_is_call_row b_is_call_row .nil (fun _ _ => .nil) (par_dat (pw_var 0) par_nil)))) (pmw_any (pwss_one (pws_ret pw_bl))))))))))))) (fun sls c P h => ?data), hm, F.kp, F.bindsN fun _ _ _ _ _ _ us hl => match us, hl with | [_], _ => rfl⟩
  case len =>
    obtain ⟨r, rfl, h⟩ := h
    rfl
  case data =>
    obtain ⟨r, rfl, h⟩ := h
    obtain ⟨h1, h⟩ := h
    cases r with
    | order m b p s fs =>
      simp [rho0, rowD, isD, tyD]
      exact ⟨m, b, p, s, fs, rfl, h1, h⟩
    | cancel n =>
      simp [rho0, rowD, isD, tyD, g_is_number, numD, h]
    | prints fs =>
      simp [rho0, rowD, isD, tyD, g_are_fills]
      exact ⟨fs, rfl, h1, h⟩
    | closed =>
      simp [rho0, rowD, isD, tyD, h]
    | call p ps =>
      simp [rho0, rowD, isD, tyD, g_is_call_row]
      exact ⟨p, ps, ⟨rfl, rfl⟩, h1, h⟩
theorem ok_has_shape (bl : Bl mg) (cn : Cn K mg) (h_is_row : Has P w K mg base C "is_row" 6 ["thing"] g_is_row) (h_is_rule : Has P w K mg base C "is_rule" 1 ["thing"] g_is_rule) (F : FunD K "has_shape" "has_shape" (defArgs s_has_shape) (defBody s_has_shape) (defScope s_has_shape) [] [] f fd) (hm : mg "has_shape" = some (.ref f)) : Has P w K mg base C "has_shape" 7 ["thing"] g_has_shape := by
  obtain ⟨f_is_row, fd_is_row, F_is_row, m_is_row, k_is_row, b_is_row⟩ := h_is_row
  obtain ⟨f_is_rule, fd_is_rule, F_is_rule, m_is_rule, k_is_rule, b_is_rule⟩ := h_is_rule
  have S : FnScope ["thing", "row"] ["thing"] (defScope s_has_shape) := ⟨rfl, rfl, rfl, by decide +kernel, rfl, by decide +kernel, by decide +kernel⟩
  refine ⟨f, fd, fn_w F S (fun sls c P h => ?len) (fun cdv A outer s H E r hr => ((pwss_cons (pws_if (PW.pt (pww_or (pwt_not (pwt_val (pw_isa isT_tuple bl.isinstance bl.tuple (pw_var 0)))) (pww_or (pwt_cmp opW_ne (op_neA hr.units) (pw_callB calW_len call_len bl.len (paw_cons (pw_var 0) paw_nil)) pw_int (nomark _)) (pww_or (pwt_not (pwt_val (pw_call F_is_rule (hr.mono (by decide)) m_is_rule k_is_rule b_is_rule .nil (fun _ _ => .nil) (par_dat (pw_ix (pw_var 0) pw_int) par_nil)))) (pww_or1 (pwt_not (pwt_val (pw_isa isT_tuple bl.isinstance bl.tuple (pw_ix (pw_var 0) pw_int))))))))) (pwss_one (pws_ret pw_bl)) pwss_nil)
      (pwss_one (pws_ret (pw_callB calW_all (cr_all rfl) bl.all (paw_cons (pw_lc [("row", 1)] rfl S.nd (pwi_tup (pw_ix (pw_var 0) pw_int)) (blkOk_by (by kernel_rfl)) (fun _ _ _ _ _ => (pwg_name 1 S.nd)) (fun _ _ _ _ _ => pwts_nil) (fun _ _ _ _ _ => (pw_call F_is_row (hr.mono (by decide)) m_is_row k_is_row b_is_row .nil (fun _ _ => .nil) (par_dat (pw_var 1) par_nil)))) paw_nil))))))) (fun sls c P h => ?data), hm, F.kp, F.bindsN fun _ _ _ _ _ _ us hl => match us, hl with | [_], _ => rfl⟩
  case len =>
    obtain ⟨x, rows, rfl, h⟩ := h
    rfl
  case data =>
    obtain ⟨x, rows, rfl, h⟩ := h
    obtain ⟨h1, ⟨h2, h3⟩, h⟩ := h
    have hz : rows.length ≤ LIM := by unfold LIM; omega
    simp [rho0, recD, rowsT, isD, tyD, lcD, hz]
    refine ⟨x, rfl, h1, ?_⟩
    simp
    refine lcG_mp rowD (fun _ => PyData.bool true) rows (fun r hr c Q hQ => ?_) ⟨_, map_true rows, by simpa using h⟩
    simp [g_is_row]
    exact ⟨r, rfl, h3 r hr, hQ⟩
end
end FK
set_option Elab.async false
set_option linter.all false
set_option maxRecDepth 100000
set_option maxHeartbeats 4000000
/-! Defs as promises: the reckoning. (Printed by gen2.py from specN.py.) -/
namespace FK
open PySem PySem.Spec L2
theorem atI_map {α : Type} {enc : α → D} {xs : List α} {t : Nat} {x : α} (h : xs[t]? = some x) : atI (xs.map enc) (t : Int) = some (enc x) := atI_nat (by rw [List.getElem?_map, h]; rfl)
theorem ixW_row0 (r : Row) : ixW (rowD r) (.int 0) = rW (.str (kindS r)) := by cases r <;> simp [rowD, kindS]
@[simp] theorem kind_call (r : Row) : (kindS r = Str.ofString "call") = (isCall r = true) := by cases r <;> simp [kindS, isCall]
@[simp] theorem kind_ord (r : Row) : (kindS r = Str.ofString "order") = (isOrd r = true) := by cases r <;> simp [kindS, isOrd]
theorem rowOk.fl {r : Row} (h : rowOk r) : (fillsOf r).length ≤ 50 := by
  cases r with
  | order m b p s fs => exact h.2.2.2.1
  | prints fs => exact h.1
  | _ => exact Nat.zero_le _
theorem call_fills {r : Row} (h : isCall r = true) : fillsOf r = [] := by cases r <;> simp_all [isCall, fillsOf]
theorem call_lots {r : Row} (h : isCall r = false) (n t : Nat) (fs : List Fill) : lotsIn r n t fs = fillSum t n fs := by cases r <;> simp_all [isCall, lotsIn]
@[simp] theorem fillSum_nil (t n : Nat) : fillSum t n [] = 0 := rfl
abbrev g_fills_in : Gs := fun sls c P => ∃ r : Row, sls = [.dat (rowD r)] ∧ P (.rt (fillsD (fillsOf r))) c
abbrev g_lots_in : Gs := fun sls c P => ∃ (rows : List Row) (n t : Nat) (fs : List Fill) (row : Row), sls = [.dat (rowsT rows), .dat (.int n), .dat (.int t), .dat (fillsD fs)] ∧ rows[t]? = some row ∧ rowOk row ∧ fs.length ≤ 50 ∧ P (.rt (.int (lotsIn row n t fs))) c
/-- the fills of the row at t ahead of place i -/
def exF (rows : List Row) (t i : Nat) : List Fill := match rows[t]? with
  | some row => (fillsOf row).take i
  | none => []
abbrev g_lots_before : Gs := fun sls c P => ∃ (rows : List Row) (n t i : Nat), sls = [.dat (rowsT rows), .dat (.int n), .dat (.int t), .dat (.int i)] ∧ rowsOk rows ∧ t ≤ rows.length ∧ P (.rt (.int (sold (rows.take t) n + fillSum t n (exF rows t i)))) c
abbrev g_rest_of : Gs := fun sls c P => ∃ (rows : List Row) (n t i : Nat), sls = [.dat (rowsT rows), .dat (.int n), .dat (.int t), .dat (.int i)] ∧ rowsOk rows ∧ t ≤ rows.length ∧ ordAt rows n = true ∧ P (.rt (.int (sizeAt rows n - (sold (rows.take t) n + fillSum t n (exF rows t i))))) c
abbrev g_is_open : Gs := fun sls c P => ∃ (rows : List Row) (n t i : Nat), sls = [.dat (rowsT rows), .dat (.int n), .dat (.int t), .dat (.int i)] ∧ rowsOk rows ∧ t ≤ rows.length ∧ P (.rt (.bool (openP (rows.take t) (exF rows t i) n))) c
abbrev g_is_shut : Gs := fun sls c P => ∃ (rows : List Row) (t : Nat), sls = [.dat (rowsT rows), .dat (.int t)] ∧ rowsOk rows ∧ t ≤ rows.length ∧ P (.rt (.bool (shutP (rows.take t)))) c
section
variable {P : Program} {w : World} {K : PySem.W.Frag} {mg : Str → Option Value} {base : Heap} {C : Addr} {f : Addr} {fd : FuncData}
theorem ok_fills_in (bl : Bl mg) (cn : Cn K mg)  (F : FunD K "fills_in" "fills_in" (defArgs s_fills_in) (defBody s_fills_in) (defScope s_fills_in) [] [] f fd) (hm : mg "fills_in" = some (.ref f)) : Has P w K mg base C "fills_in" 1 ["row"] g_fills_in := by
  have S : FnScope ["row"] ["row"] (defScope s_fills_in) := ⟨rfl, rfl, rfl, by decide +kernel, rfl, by decide +kernel, by decide +kernel⟩
  refine ⟨f, fd, fn_w F S (fun sls c P h => ?len) (fun cdv A outer s H E r hr => ((pwss_cons (pws_if (pwt_cmp opW_eq (op_eqA hr.units) (pw_ix (pw_var 0) pw_int) pw_str (nomark _)) (pwss_one (pws_ret (pw_ix (pw_var 0) pw_int))) pwss_nil)
      (pwss_one (pws_ret (pw_ite (pwt_cmp opW_eq (op_eqA hr.units) (pw_ix (pw_var 0) pw_int) pw_str (nomark _)) (pw_ix (pw_var 0) pw_int) (pw_tup paw_nil))))))) (fun sls c P h => ?data), hm, F.kp, F.bindsN fun _ _ _ _ _ _ us hl => match us, hl with | [_], _ => rfl⟩
  case len =>
    obtain ⟨r, rfl, h⟩ := h
    rfl
  case data =>
    obtain ⟨r, rfl, h⟩ := h
    cases r <;> simp [rho0, rowD, fillsOf, LIM] <;> exact h
theorem ok_lots_in (bl : Bl mg) (cn : Cn K mg)  (F : FunD K "lots_in" "lots_in" (defArgs s_lots_in) (defBody s_lots_in) (defScope s_lots_in) [] [] f fd) (hm : mg "lots_in" = some (.ref f)) : Has P w K mg base C "lots_in" 1 ["rows", "n", "t", "fills"] g_lots_in := by
  have S : FnScope ["rows", "n", "t", "fills", "own", "size", "price"] ["rows", "n", "t", "fills"] (defScope s_lots_in) := ⟨rfl, rfl, rfl, by decide +kernel, rfl, by decide +kernel, by decide +kernel⟩
  refine ⟨f, fd, fn_w F S (fun sls c P h => ?len) (fun cdv A outer s H E r hr => ((pwss_cons (pws_if (pwt_cmp opW_eq (op_eqA hr.units) (pw_ix (pw_ix (pw_var 0) (pw_var 2)) pw_int) pw_str (nomark _)) (pwss_one (pws_ret (pw_callB calW_sum (cr_sum rfl) bl.sum (paw_cons (pw_lc [("own", 4), ("size", 5)] rfl S.nd (pwi_tup (pw_ix (pw_ix (pw_var 0) (pw_var 2)) pw_int)) (blkOk_by (by kernel_rfl)) (fun _ _ _ _ _ => (pwg_tup 2 rfl (pwgs_cons (pwg_name 4 S.nd) (pwgs_cons (pwg_name 5 S.nd) pwgs_nil)))) (fun _ _ _ _ _ => (pts_one (pwt_cmp opW_eq (op_eqA hr.units) (pw_var 4) (pw_var 1) (nomark _)))) (fun _ _ _ _ _ => (pw_var 5))) paw_nil)))) pwss_nil)
      (pwss_one (pws_ret (pw_callB calW_sum (cr_sum rfl) bl.sum (paw_cons (pw_lc [("price", 6), ("size", 5), ("own", 4)] rfl S.nd (pwi_tup (pw_var 3)) (blkOk_by (by kernel_rfl)) (fun _ _ _ _ _ => (pwg_tup 3 rfl (pwgs_cons (pwg_name 6 S.nd) (pwgs_cons (pwg_name 5 S.nd) (pwgs_cons (pwg_name 4 S.nd) pwgs_nil))))) (fun _ _ _ _ _ => (pts_one (PW.pt (pww_or (pwt_cmp opW_eq (op_eqA hr.units) (pw_var 4) (pw_var 1) (nomark _)) (pww_or1 (pwt_cmp opW_eq (op_eqA hr.units) (pw_var 2) (pw_var 1) (nomark _))))))) (fun _ _ _ _ _ => (pw_var 5))) paw_nil))))))) (fun sls c P h => ?data), hm, F.kp, F.bindsN fun _ _ _ _ _ _ us hl => match us, hl with | [_, _, _, _], _ => rfl⟩
  case len =>
    obtain ⟨rows, n, t, fs, row, rfl, h⟩ := h
    rfl
  case data =>
    obtain ⟨rows, n, t, fs, row, rfl, h⟩ := h
    obtain ⟨hr, hok, hl, h⟩ := h
    have ha := atI_map (enc := rowD) hr
    have hz : fs.length ≤ LIM := by unfold LIM; omega
    simp [rho0, rowsT, ha, ixW_row0]
    have other : isCall row = false → (lotsIn row n t fs = fillSum t n fs) := fun e => by cases row <;> simp_all [lotsIn, isCall]
    cases hc : isCall row with
    | true =>
      cases row with
      | call p ps =>
        have hz2 : ps.length ≤ LIM := by have := hok.1.len; unfold LIM; omega
        simp [ha, rowD, pairsD, lcD, hz2]
        refine lcG_fl pairD (fun q => decide (q.1 = n)) (fun q => PyData.int q.2) ps (fun q hq c Q hQ => ?_) ?_
        · simp [pairD]
          by_cases e : q.1 = n
          · simpa [e] using hQ
          · simpa [e] using hQ
        · exact ⟨(ps.filter fun q => decide (q.1 = n)).map (·.2), by simp, by simpa [lotsIn, pairSum] using h⟩
      | _ => simp [isCall] at hc
    | false =>
      rw [other hc] at h
      simp [fillsD, lcD, hz]
      refine lcG_fl fillD (fun f => decide (f.n = some n) || decide (t = n)) (fun f => PyData.int f.s) fs (fun q hq c Q hQ => ?_) ?_
      · obtain ⟨p, s, m⟩ := q
        cases m with
        | none => by_cases e : t = n <;> simpa [fillD, nD, e] using hQ
        | some m => by_cases e1 : m = n <;> by_cases e : t = n <;> simpa [fillD, nD, e1, e] using hQ
      · exact ⟨(fs.filter fun f => decide (f.n = some n) || decide (t = n)).map (·.s), by simp, by simpa [fillSum] using h⟩
end
theorem soldFrom_range (n : Nat) : ∀ (rows : List Row) (k t : Nat), t ≤ rows.length → ((List.range t).map fun r => match rows[r]? with
    | some row => lotsIn row n (k + r) (fillsOf row)
    | none => 0).sum = soldFrom n k (rows.take t)
  | _, k, 0, _ => by simp [soldFrom]
  | [], k, t + 1, h => by simp at h
  | x :: rows, k, t + 1, h => by
    have ih := soldFrom_range n rows (k + 1) t (by simpa using h)
    rw [List.range_succ_eq_map, List.map_cons, List.sum_cons, List.map_map, List.take_succ_cons]
    simp only [soldFrom, ← ih]
    congr 1
    refine congrArg List.sum (List.map_congr_left fun r _ => ?_)
    simp [Nat.add_assoc, Nat.add_comm 1 r]
section
variable {P : Program} {w : World} {K : PySem.W.Frag} {mg : Str → Option Value} {base : Heap} {C : Addr} {f : Addr} {fd : FuncData}
theorem ok_lots_before (bl : Bl mg) (cn : Cn K mg) (h_fills_in : Has P w K mg base C "fills_in" 1 ["row"] g_fills_in) (h_lots_in : Has P w K mg base C "lots_in" 1 ["rows", "n", "t", "fills"] g_lots_in) (F : FunD K "lots_before" "lots_before" (defArgs s_lots_before) (defBody s_lots_before) (defScope s_lots_before) [] [] f fd) (hm : mg "lots_before" = some (.ref f)) : Has P w K mg base C "lots_before" 2 ["rows", "n", "t", "i"] g_lots_before := by
  obtain ⟨f_fills_in, fd_fills_in, F_fills_in, m_fills_in, k_fills_in, b_fills_in⟩ := h_fills_in
  obtain ⟨f_lots_in, fd_lots_in, F_lots_in, m_lots_in, k_lots_in, b_lots_in⟩ := h_lots_in
  have S : FnScope ["rows", "n", "t", "i", "found", "r"] ["rows", "n", "t", "i"] (defScope s_lots_before) := ⟨rfl, rfl, rfl, by decide +kernel, rfl, by decide +kernel, by decide +kernel⟩
  refine ⟨f, fd, fn_w F S (fun sls c P h => ?len) (fun cdv A outer s H E r hr => ((pwss_cons (pws_set 4 S.nd (pw_callB calW_sum (cr_sum rfl) bl.sum (paw_cons (pw_lc [("r", 5)] rfl S.nd (pwi_range bl.range (pw_var 2)) (blkOk_by (by kernel_rfl)) (fun _ _ _ _ _ => (pwg_name 5 S.nd)) (fun _ _ _ _ _ => pwts_nil) (fun _ _ _ _ _ => (pw_call F_lots_in (hr.mono (by decide)) m_lots_in k_lots_in b_lots_in .nil (fun _ _ => .nil) (par_dat (pw_var 0) (par_dat (pw_var 1) (par_dat (pw_var 5) (par_dat (pw_call F_fills_in (hr.mono (by decide)) m_fills_in k_fills_in b_fills_in .nil (fun _ _ => .nil) (par_dat (pw_ix (pw_var 0) (pw_var 5)) par_nil)) par_nil))))))) paw_nil)))
      (pwss_cons (pws_if (PW.pt (pww_and (pwt_cmp opW_cmp op_lt (pw_var 2) (pw_callB calW_len call_len bl.len (paw_cons (pw_var 0) paw_nil)) (nomark _)) (pww_and1 (pwt_cmp opW_ne (op_neA hr.units) (pw_ix (pw_ix (pw_var 0) (pw_var 2)) pw_int) pw_str (nomark _))))) (pwss_one (pws_set 4 S.nd (pw_op opW_add op_addA (pw_var 4) (pw_call F_lots_in (hr.mono (by decide)) m_lots_in k_lots_in b_lots_in .nil (fun _ _ => .nil) (par_dat (pw_var 0) (par_dat (pw_var 1) (par_dat (pw_var 2) (par_dat (pw_slice (pw_call F_fills_in (hr.mono (by decide)) m_fills_in k_fills_in b_fills_in .nil (fun _ _ => .nil) (par_dat (pw_ix (pw_var 0) (pw_var 2)) par_nil)) pwo_none (pwo_some (pw_var 3))) par_nil)))))))) pwss_nil)
      (pwss_one (pws_ret (pw_var 4))))))) (fun sls c P h => ?data), hm, F.kp, F.bindsN fun _ _ _ _ _ _ us hl => match us, hl with | [_, _, _, _], _ => rfl⟩
  case len =>
    obtain ⟨rows, n, t, i, rfl, h⟩ := h
    rfl
  case data =>
    obtain ⟨rows, n, t, i, rfl, h⟩ := h
    obtain ⟨hok, ht, h⟩ := h
    have hz : t ≤ LIM := by have := hok.1; unfold LIM; omega
    have hz2 : (-(2 ^ 62) : Int) ≤ t ∧ (t : Int) < 2 ^ 62 := by have := hok.1; omega
    have e := soldFrom_range n rows 0 t ht
    simp [rho0, lcD, rngD, hz, hz2]
    refine ⟨by omega, ?_⟩
    refine lcG_mp (fun r : Nat => PyData.int (r : Int)) (fun r => PyData.int (match rows[r]? with
      | some row => lotsIn row n (0 + r) (fillsOf row)
      | none => 0)) (List.range t) (fun r hr c Q hQ => ?_) ?_
    · have hrt : r < rows.length := by have := List.mem_range.mp hr; omega
      have hrow : rows[r]? = some rows[r] := List.getElem?_eq_getElem hrt
      have hro := hok.2 _ (List.getElem_mem hrt)
      have ha := atI_map (enc := rowD) hrow
      simp [rowsT, ha]
      refine ⟨rows[r], rfl, ?_⟩
      simp
      refine ⟨rows, n, r, fillsOf rows[r], rows[r], rfl, hrow, hro, hro.fl, ?_⟩
      simpa [hrow] using hQ
    · refine ⟨_, (List.map_map ..).symm, ?_⟩
      rw [e]
      unfold sold at h
      by_cases hlt : t < rows.length
      · have hrow : rows[t]? = some rows[t] := List.getElem?_eq_getElem hlt
        have hro := hok.2 _ (List.getElem_mem hlt)
        have ha := atI_map (enc := rowD) hrow
        have hlt2 : (t : Int) < rows.length := by omega
        simp [rowsT, ha, hlt2, ixW_row0]
        cases hc : isCall rows[t] with
        | true =>
          simp
          simpa [exF, hrow, call_fills hc] using h
        | false =>
          simp [ha]
          refine ⟨rows[t], rfl, ?_⟩
          simp [fillsD]
          rw [cut_to _ i i rfl, ← List.map_take]
          refine ⟨rows, n, t, (fillsOf rows[t]).take i, rows[t], rfl, hrow, hro, ?_, ?_⟩
          · rw [List.length_take]
            have := hro.fl
            omega
          · rw [call_lots hc]
            simpa [exF, hrow] using h
      · have hn : rows[t]? = none := List.getElem?_eq_none (by omega)
        have hlt2 : ¬ (t : Int) < rows.length := by omega
        simp [rowsT, hlt2]
        simpa [exF, hn] using h
theorem ok_rest_of (bl : Bl mg) (cn : Cn K mg) (h_lots_before : Has P w K mg base C "lots_before" 2 ["rows", "n", "t", "i"] g_lots_before) (F : FunD K "rest_of" "rest_of" (defArgs s_rest_of) (defBody s_rest_of) (defScope s_rest_of) [] [] f fd) (hm : mg "rest_of" = some (.ref f)) : Has P w K mg base C "rest_of" 3 ["rows", "n", "t", "i"] g_rest_of := by
  obtain ⟨f_lots_before, fd_lots_before, F_lots_before, m_lots_before, k_lots_before, b_lots_before⟩ := h_lots_before
  have S : FnScope ["rows", "n", "t", "i"] ["rows", "n", "t", "i"] (defScope s_rest_of) := ⟨rfl, rfl, rfl, by decide +kernel, rfl, by decide +kernel, by decide +kernel⟩
  refine ⟨f, fd, fn_w F S (fun sls c P h => ?len) (fun cdv A outer s H E r hr => ((pwss_one (pws_ret (pw_op opW_sub op_sub (pw_ix (pw_ix (pw_var 0) (pw_var 1)) pw_int) (pw_call F_lots_before (hr.mono (by decide)) m_lots_before k_lots_before b_lots_before .nil (fun _ _ => .nil) (par_dat (pw_var 0) (par_dat (pw_var 1) (par_dat (pw_var 2) (par_dat (pw_var 3) par_nil)))))))))) (fun sls c P h => ?data), hm, F.kp, F.bindsN fun _ _ _ _ _ _ us hl => match us, hl with | [_, _, _, _], _ => rfl⟩
  case len =>
    obtain ⟨rows, n, t, i, rfl, h⟩ := h
    rfl
  case data =>
    obtain ⟨rows, n, t, i, rfl, h⟩ := h
    obtain ⟨hok, ht, ho, h⟩ := h
    cases hn : rows[n]? with
    | none => simp [ordAt, hn] at ho
    | some row =>
      cases row with
      | order m b p s fs =>
        have ha := atI_map (enc := rowD) hn
        simp [rho0, rowsT, ha, rowD]
        refine ⟨rows, n, t, i, rfl, hok, ht, ?_⟩
        simpa [sizeAt, hn] using h
      | _ => simp [ordAt, hn] at ho
end
def isClosed : Row → Bool
  | .closed => true
  | _ => false
@[simp] theorem kind_closed (r : Row) : (kindS r = Str.ofString "closed") = (isClosed r = true) := by cases r <;> simp [kindS, isClosed]
theorem take_at {α : Type} {xs : List α} {n t : Nat} (h : n < t) : (xs.take t)[n]? = xs[n]? := by
  rw [List.getElem?_take, if_pos h]
theorem rowsOk.nm {rows : List Row} (h : rowsOk rows) : ∀ r ∈ rows, rowNm r := fun r hr => (h.2 r hr).nm
theorem rowsOk.take {rows : List Row} (h : rowsOk rows) (t : Nat) : rowsOk (rows.take t) := ⟨by rw [List.length_take]; have := h.1; omega, fun r hr => h.2 r (List.mem_of_mem_take hr)⟩
section
variable {P : Program} {w : World} {K : PySem.W.Frag} {mg : Str → Option Value} {base : Heap} {C : Addr} {f : Addr} {fd : FuncData}
theorem ok_is_open (bl : Bl mg) (cn : Cn K mg) (h_rest_of : Has P w K mg base C "rest_of" 3 ["rows", "n", "t", "i"] g_rest_of) (F : FunD K "is_open" "is_open" (defArgs s_is_open) (defBody s_is_open) (defScope s_is_open) [] [] f fd) (hm : mg "is_open" = some (.ref f)) : Has P w K mg base C "is_open" 4 ["rows", "n", "t", "i"] g_is_open := by
  obtain ⟨f_rest_of, fd_rest_of, F_rest_of, m_rest_of, k_rest_of, b_rest_of⟩ := h_rest_of
  have S : FnScope ["rows", "n", "t", "i"] ["rows", "n", "t", "i"] (defScope s_is_open) := ⟨rfl, rfl, rfl, by decide +kernel, rfl, by decide +kernel, by decide +kernel⟩
  refine ⟨f, fd, fn_w F S (fun sls c P h => ?len) (fun cdv A outer s H E r hr => have hu := hu_of' hr; ((pwss_cons (pws_if (PW.pt (pww_or (pwt_cmp opW_cmp op_ge (pw_var 1) (pw_var 2) (nomark _)) (pww_or (pwt_cmp opW_ne (op_neA hr.units) (pw_ix (pw_ix (pw_var 0) (pw_var 1)) pw_int) pw_str (nomark _)) (pww_or1 (pwt_cmp opW_in (op_inA hu) (pw_tup (paw_cons pw_str (paw_cons (pw_var 1) paw_nil))) (pw_slice (pw_var 0) pwo_none (pwo_some (pw_var 2))) (by with_unfolding_all rfl)))))) (pwss_one (pws_ret pw_bl)) pwss_nil)
      (pwss_one (pws_ret (pw_cmp opW_cmp op_gt (pw_call F_rest_of (hr.mono (by decide)) m_rest_of k_rest_of b_rest_of .nil (fun _ _ => .nil) (par_dat (pw_var 0) (par_dat (pw_var 1) (par_dat (pw_var 2) (par_dat (pw_var 3) par_nil))))) pw_int (nomark _))))))) (fun sls c P h => ?data), hm, F.kp, F.bindsN fun _ _ _ _ _ _ us hl => match us, hl with | [_, _, _, _], _ => rfl⟩
  case len =>
    obtain ⟨rows, n, t, i, rfl, h⟩ := h
    rfl
  case data =>
    obtain ⟨rows, n, t, i, rfl, h⟩ := h
    obtain ⟨hok, ht, h⟩ := h
    simp [rho0]
    by_cases hnt : t ≤ n
    · have hn : (rows.take t)[n]? = none := List.getElem?_eq_none (by rw [List.length_take]; omega)
      simp [hnt]
      simpa [openP, ordAt, hn] using h
    · have hlt : n < rows.length := by omega
      have hrow : rows[n]? = some rows[n] := List.getElem?_eq_getElem hlt
      have hrow2 : (rows.take t)[n]? = some rows[n] := by rw [take_at (by omega), hrow]
      have ha := atI_map (enc := rowD) hrow
      simp [hnt, rowsT, ha, ixW_row0]
      cases ho : isOrd rows[n] with
      | false =>
        have ho2 : ordAt (rows.take t) n = false := by
          unfold ordAt
          rw [hrow2]
          cases hr : rows[n] <;> simp_all [isOrd]
        simpa [openP, ho2] using h
      | true =>
        have ho2 : ordAt (rows.take t) n = true := by
          unfold ordAt
          rw [hrow2]
          cases hr : rows[n] <;> simp_all [isOrd]
        have ho3 : ordAt rows n = true := by
          unfold ordAt at ho2 ⊢
          rw [hrow]
          rw [hrow2] at ho2
          exact ho2
        have hs : sizeAt rows n = sizeAt (rows.take t) n := by
          unfold sizeAt
          rw [hrow, hrow2]
        simp [LIM]
        rw [cut_to _ t t rfl, ← List.map_take]
        have hct := any_row (rows := rows.take t) (r := .cancel n) (hok.take t).nm trivial
        simp only [rowD] at hct
        refine ⟨⟨(PL.row (r := .cancel n) trivial).shaped (by decide), (PL.rowsL (hok.take t).nm).shaped (by decide)⟩, ?_⟩
        rw [hct]
        cases hcc : (rows.take t).contains (.cancel n) with
        | true =>
          have e : openP (rows.take t) (exF rows t i) n = false := by
            unfold openP
            rw [ho2, hcc]
            rfl
          rw [e] at h
          simpa using h
        | false =>
          simp
          refine ⟨rows, n, t, i, rfl, hok, ht, ho3, ?_⟩
          simp
          have hl : (rows.take t).length = t := by rw [List.length_take]; omega
          unfold openP restP at h
          rw [ho2, hcc, hl, ← hs] at h
          simpa using h
theorem ok_is_shut (bl : Bl mg) (cn : Cn K mg)  (F : FunD K "is_shut" "is_shut" (defArgs s_is_shut) (defBody s_is_shut) (defScope s_is_shut) [] [] f fd) (hm : mg "is_shut" = some (.ref f)) : Has P w K mg base C "is_shut" 1 ["rows", "t"] g_is_shut := by
  have S : FnScope ["rows", "t", "row"] ["rows", "t"] (defScope s_is_shut) := ⟨rfl, rfl, rfl, by decide +kernel, rfl, by decide +kernel, by decide +kernel⟩
  refine ⟨f, fd, fn_w F S (fun sls c P h => ?len) (fun cdv A outer s H E r hr => ((pwss_cons (pws_if (PW.pt (pww_or (pwt_cmp opW_eq (op_eqA hr.units) (pw_var 1) pw_int (nomark _)) (pww_or1 (pwt_cmp opW_ne (op_neA hr.units) (pw_ix (pw_ix (pw_var 0) pw_int) pw_int) pw_str (nomark _))))) (pwss_one (pws_ret pw_bl)) pwss_nil)
      (pwss_one (pws_ret (pw_callB calW_all (cr_all rfl) bl.all (paw_cons (pw_lc [("row", 2)] rfl S.nd (pwi_tup (pw_slice (pw_var 0) pwo_none (pwo_some (pw_var 1)))) (blkOk_by (by kernel_rfl)) (fun _ _ _ _ _ => (pwg_name 2 S.nd)) (fun _ _ _ _ _ => pwts_nil) (fun _ _ _ _ _ => (pw_cmp opW_ne (op_neA hr.units) (pw_ix (pw_var 2) pw_int) pw_str (nomark _)))) paw_nil))))))) (fun sls c P h => ?data), hm, F.kp, F.bindsN fun _ _ _ _ _ _ us hl => match us, hl with | [_, _], _ => rfl⟩
  case len =>
    obtain ⟨rows, t, rfl, h⟩ := h
    rfl
  case data =>
    obtain ⟨rows, t, rfl, h⟩ := h
    obtain ⟨hok, ht, h⟩ := h
    simp [rho0]
    by_cases h0 : t = 0
    · subst h0
      simpa [shutP] using h
    · cases rows with
      | nil => simp at ht; omega
      | cons r rows =>
        have hz : t ≤ LIM := by have := hok.1; unfold LIM; omega
        simp [h0, rowsT, ixW_row0]
        obtain ⟨t, rfl⟩ : ∃ j, t = j + 1 := ⟨t - 1, by omega⟩
        cases hc : isClosed r with
        | false =>
          simp
          have e : shutP ((r :: rows).take (t + 1)) = false := by cases r <;> simp_all [isClosed, shutP]
          rw [e] at h
          exact h
        | true =>
          have e : shutP ((r :: rows).take (t + 1)) = ((r :: rows).take (t + 1)).all fun r => !isCall r := by cases r <;> simp_all [isClosed, shutP]
          rw [e] at h
          simp [lcD]
          rw [← List.map_cons, cut_to _ (t + 1) _ (by simp), ← List.map_take]
          refine ⟨by simp; omega, ?_⟩
          refine lcG_mp rowD (fun r => PyData.bool (!isCall r)) _ (fun r hr c Q hQ => ?_) ⟨_, (List.map_map ..).symm, ?_⟩
          · simp [ixW_row0]
            simpa using hQ
          · rw [all_map_id]
            exact h
end
theorem rowsT_inj {a b : List Row} (h : rowsT a = rowsT b) : a = b := map_inj (fun _ _ => rowD_inj) (PyData.tuple.inj h)
@[simp] theorem use_fills_in (r : Row) (c : Nat) (P : Out → Nat → Prop) : g_fills_in [.dat (rowD r)] c P = P (.rt (fillsD (fillsOf r))) c := by
  refine propext ⟨fun h => ?_, fun h => ⟨r, rfl, h⟩⟩
  obtain ⟨r', e, h⟩ := h
  simp at e
  have := rowD_inj e
  subst this
  exact h
theorem use_rest_of {rows : List Row} {n t i : Nat} (hok : rowsOk rows) (ht : t ≤ rows.length) (ho : ordAt rows n = true) (c : Nat) (P : Out → Nat → Prop) : g_rest_of [.dat (rowsT rows), .dat (.int n), .dat (.int t), .dat (.int i)] c P = P (.rt (.int (sizeAt rows n - (sold (rows.take t) n + fillSum t n (exF rows t i))))) c := by
  refine propext ⟨fun h => ?_, fun h => ⟨rows, n, t, i, rfl, hok, ht, ho, h⟩⟩
  obtain ⟨r', n', t', i', e, _, _, _, h⟩ := h
  simp at e
  obtain ⟨e1, rfl, rfl, rfl⟩ := e
  have := rowsT_inj e1
  subst this
  exact h
theorem use_is_open {rows : List Row} {n t i : Nat} (hok : rowsOk rows) (ht : t ≤ rows.length) (c : Nat) (P : Out → Nat → Prop) : g_is_open [.dat (rowsT rows), .dat (.int n), .dat (.int t), .dat (.int i)] c P = P (.rt (.bool (openP (rows.take t) (exF rows t i) n))) c := by
  refine propext ⟨fun h => ?_, fun h => ⟨rows, n, t, i, rfl, hok, ht, h⟩⟩
  obtain ⟨r', n', t', i', e, _, _, h⟩ := h
  simp at e
  obtain ⟨e1, rfl, rfl, rfl⟩ := e
  have := rowsT_inj e1
  subst this
  exact h
theorem use_is_shut {rows : List Row} {t : Nat} (hok : rowsOk rows) (ht : t ≤ rows.length) (c : Nat) (P : Out → Nat → Prop) : g_is_shut [.dat (rowsT rows), .dat (.int t)] c P = P (.rt (.bool (shutP (rows.take t)))) c := by
  refine propext ⟨fun h => ?_, fun h => ⟨rows, t, rfl, hok, ht, h⟩⟩
  obtain ⟨r', t', e, _, _, h⟩ := h
  simp at e
  obtain ⟨e1, rfl⟩ := e
  have := rowsT_inj e1
  subst this
  exact h
theorem ixW_rowsT {rows : List Row} {t : Nat} {r : Row} (h : rows[t]? = some r) : ixW (rowsT rows) (.int t) = rW (rowD r) := by
  unfold rowsT
  rw [ixW_t, atI_map h]
@[simp] theorem lenW_rowsT (rows : List Row) : lenW [rowsT rows] = rW (.int rows.length) := by
  unfold rowsT
  rw [lenW_tup, List.length_map]
@[simp] theorem lenW_fillsD (fs : List Fill) : lenW [fillsD fs] = rW (.int fs.length) := by
  unfold fillsD
  rw [lenW_tup, List.length_map]
theorem ixW_fillsD {fs : List Fill} {t : Nat} {f : Fill} (h : fs[t]? = some f) : ixW (fillsD fs) (.int t) = rW (fillD f) := by
  unfold fillsD
  rw [ixW_t, atI_map h]
@[simp] theorem slW_fillsD (fs : List Fill) (i : Nat) : slW (fillsD fs) none (some (i : Int)) = rW (fillsD (fs.take i)) := by
  unfold fillsD
  rw [slW_tuple, cut_to _ i i rfl, List.map_take]
@[simp] theorem slW_rowsT (rows : List Row) (i : Nat) : slW (rowsT rows) none (some (i : Int)) = rW (rowsT (rows.take i)) := by
  unfold rowsT
  rw [slW_tuple, cut_to _ i i rfl, List.map_take]
@[simp] theorem asT_fillsD (fs : List Fill) : asT (fillsD fs) = rW (fs.map fillD) := rfl
@[simp] theorem asT_rowsT (rows : List Row) : asT (rowsT rows) = rW (rows.map rowD) := rfl
end FK
set_option Elab.async false
set_option linter.all false
set_option maxRecDepth 100000
set_option maxHeartbeats 4000000
/-! Defs as promises: the checker. (Printed by gen2.py from specO.py.) -/
namespace FK
open PySem PySem.Spec L2
/-! ### what the checker asks -/
def nOk (n : Option Nat) (p : Nat → Bool) : Bool := match n with
  | none => true
  | some n => p n
def closedOk (pre : List Row) (row : Row) : Bool := (!isClosed row || pre.isEmpty) && ((!isCall row || shutP pre) && (!shutP pre || (fillsOf row).isEmpty))
def restingOk (pre : List Row) (prior : List Fill) (f : Fill) : Bool := nOk f.n fun n => openP pre prior n
def ownOk (pre : List Row) (b : Bool) (p s : Int) (prior : List Fill) (f : Fill) : Bool :=
  restingOk pre prior f && ((nOk f.n fun n => !decide (sideAt pre n = b)) && (((nOk f.n fun n => decide (priceAt pre n = f.p)) && withinP b p f.p) && (decide (f.s ≤ s - (prior.map (·.s)).sum) && nOk f.n fun n => decide (f.s ≤ restP pre prior n))))
def printOk (pre : List Row) (prior : List Fill) (f : Fill) : Bool :=
  restingOk pre prior f && ((nOk f.n fun n => decide (priceAt pre n = f.p)) && nOk f.n fun n => decide (f.s ≤ restP pre prior n))
def pairStep (pre : List Row) (p : Int) (q : Nat × Int) : Bool := openP pre [] q.1 && (withinP (sideAt pre q.1) (priceAt pre q.1) p && decide (q.2 ≤ restP pre [] q.1))
def atF (ok : List Fill → Fill → Bool) (fs : List Fill) (i : Nat) : Bool := match fs[i]? with
  | some f => ok (fs.take i) f
  | none => true
def atAll (ok : List Fill → Fill → Bool) (fs : List Fill) : Bool := (List.range fs.length).all (atF ok fs)
def bodyOk (pre : List Row) (row : Row) : Bool := match row with
  | .order _ b p s fs => atAll (ownOk pre b p s) fs
  | .prints fs => atAll (printOk pre) fs
  | .cancel n => openP pre [] n
  | .call (some p) ps => ps.all (pairStep pre p)
  | .call none _ => true
  | .closed => true
def stepOk (pre : List Row) (row : Row) : Bool := closedOk pre row && bodyOk pre row
/-- where an error of the row t says that it stands -/
def ExAt (t : Nat) (a : D) : Prop := a = .int (t : Int) ∨ ∃ i : Nat, a = .tuple [.int (t : Int), .int (i : Int)]
/-- done, or an error of the row t -/
def Chk (b : Bool) (t : Nat) (P : Out → Nat → Prop) (c : Nat) : Prop := (b = true → P (.rt .none) c) ∧ (b = false → ∀ (w : Str) a, ExAt t a → P (.ex (.str w) a) c)
def g_require : Gs := fun sls c P => ∃ (b : Bool) (w a : D), sls = [.dat (.bool b), .dat w, .dat a] ∧ (b = true → P (.rt .none) c) ∧ (b = false → P (.ex w a) c)
def g_is_within : Gs := fun sls c P => ∃ (b : Bool) (l p : Int), sls = [.dat (sideD b), .dat (.int l), .dat (.int p)] ∧ P (.rt (.bool (withinP b l p))) c
@[simp] theorem use_require (b : Bool) (w a : D) (c : Nat) (P : Out → Nat → Prop) : g_require [.dat (.bool b), .dat w, .dat a] c P = ((b = true → P (.rt .none) c) ∧ (b = false → P (.ex w a) c)) := by
  refine propext ⟨fun h => ?_, fun h => ⟨b, w, a, rfl, h⟩⟩
  obtain ⟨b', w', a', e, h⟩ := h
  simp at e
  obtain ⟨rfl, rfl, rfl⟩ := e
  exact h
@[simp] theorem use_within (b : Bool) (l p : Int) (c : Nat) (P : Out → Nat → Prop) : g_is_within [.dat (sideD b), .dat (.int l), .dat (.int p)] c P = P (.rt (.bool (withinP b l p))) c := by
  refine propext ⟨fun h => ?_, fun h => ⟨b, l, p, rfl, h⟩⟩
  obtain ⟨b', l', p', e, h⟩ := h
  simp at e
  obtain ⟨e1, rfl, rfl⟩ := e
  have := sideD_inj e1
  subst this
  exact h
abbrev g_check_closed : Gs := fun sls c P => ∃ (rows : List Row) (t : Nat) (row : Row), sls = [.dat (rowsT rows), .dat (.int t)] ∧ rowsOk rows ∧ rows[t]? = some row ∧ Chk (closedOk (rows.take t) row) t P c
abbrev g_check_resting : Gs := fun sls c P => ∃ (rows : List Row) (t i : Nat) (row : Row) (f : Fill), sls = [.dat (rowsT rows), .dat (.int t), .dat (.int i)] ∧ rowsOk rows ∧ rows[t]? = some row ∧ (fillsOf row)[i]? = some f ∧ Chk (restingOk (rows.take t) ((fillsOf row).take i) f) t P c
def g_check_own : Gs := fun sls c P => ∃ (rows : List Row) (t i : Nat) (m : Str) (b : Bool) (p s : Int) (fs : List Fill) (f : Fill), sls = [.dat (rowsT rows), .dat (.int t), .dat (.int i)] ∧ rowsOk rows ∧ rows[t]? = some (.order m b p s fs) ∧ fs[i]? = some f ∧
  Chk (ownOk (rows.take t) b p s (fs.take i) f) t P c
abbrev g_check_print : Gs := fun sls c P => ∃ (rows : List Row) (t i : Nat) (fs : List Fill) (f : Fill), sls = [.dat (rowsT rows), .dat (.int t), .dat (.int i)] ∧ rowsOk rows ∧ rows[t]? = some (.prints fs) ∧ fs[i]? = some f ∧ Chk (printOk (rows.take t) (fs.take i) f) t P c
abbrev g_check_call : Gs := fun sls c P => ∃ (rows : List Row) (t : Nat) (p : Option Int) (ps : List (Nat × Int)), sls = [.dat (rowsT rows), .dat (.int t)] ∧ rowsOk rows ∧ rows[t]? = some (.call p ps) ∧ Chk (bodyOk (rows.take t) (.call p ps)) t P c
abbrev g_check_row : Gs := fun sls c P => ∃ (rows : List Row) (t : Nat) (row : Row), sls = [.dat (rowsT rows), .dat (.int t)] ∧ rowsOk rows ∧ rows[t]? = some row ∧ Chk (stepOk (rows.take t) row) t P c
/-- all rows from the k-th on hold; the first that does not -/
def allOk (rows : List Row) : Bool := (List.range rows.length).all fun t => match rows[t]? with
  | some row => stepOk (rows.take t) row
  | none => true
abbrev g_lets_record : Gs := fun sls c P => ∃ (x : Str) (rows : List Row), sls = [.dat (recD x rows)] ∧ ruleOk x ∧ rowsOk rows ∧ (allOk rows = true → P (.rt (.int rows.length)) c) ∧
  ∀ t row, rows[t]? = some row → (∀ j < t, ∀ r, rows[j]? = some r → stepOk (rows.take j) r = true) → stepOk (rows.take t) row = false → ∀ (w : Str) a, ExAt t a → P (.ex (.str w) a) c
@[simp] theorem callS_def (g : Gs) (ρ : Rho) (sls : List Sl) (c : Nat) (P : Fl → Nat → Prop) : callS g ρ sls c P = g sls c fun o c' => match o with
  | .rt _ => P (.nx ρ) c'
  | .ex w a => P (.ex w a) c' := rfl
theorem sizeAt_take {rows : List Row} {n t : Nat} (h : n < t) : sizeAt (rows.take t) n = sizeAt rows n := by unfold sizeAt; rw [take_at h]
@[simp] theorem exF_0 (rows : List Row) (t : Nat) : exF rows t 0 = [] := by
  unfold exF
  cases rows[t]? <;> simp
theorem use_is_open0 {rows : List Row} {n t : Nat} (hok : rowsOk rows) (ht : t ≤ rows.length) (c : Nat) (P : Out → Nat → Prop) : g_is_open [.dat (rowsT rows), .dat (.int n), .dat (.int t), .dat (.int 0)] c P = P (.rt (.bool (openP (rows.take t) [] n))) c := by
  have h := use_is_open (n := n) (i := 0) hok ht c P
  rw [exF_0] at h
  exact h
theorem use_rest_of0 {rows : List Row} {n t : Nat} (hok : rowsOk rows) (ht : t ≤ rows.length) (ho : ordAt rows n = true) (c : Nat) (P : Out → Nat → Prop) : g_rest_of [.dat (rowsT rows), .dat (.int n), .dat (.int t), .dat (.int 0)] c P = P (.rt (.int (sizeAt rows n - sold (rows.take t) n))) c := by
  have h := use_rest_of (i := 0) hok ht ho c P
  rw [exF_0, fillSum_nil, Int.add_zero] at h
  exact h
theorem enum_map {α : Type} (enc : α → D) : ∀ (xs : List α) (k : Nat), enumD k (xs.map enc) = (xs.zipIdx k).map fun x => PyData.tuple [.int (x.2 : Nat), enc x.1]
  | [], k => rfl
  | x :: xs, k => by
    have ih := enum_map enc xs (k + 1)
    simp [enumD, ih]
theorem all_idx {α : Type} (p : α → Bool) : ∀ (xs : List α) (k : Nat), ((xs.zipIdx k).all fun x => p x.1) = xs.all p
  | [], k => rfl
  | x :: xs, k => by
    have ih := all_idx p xs (k + 1)
    simp only [List.zipIdx_cons, List.all_cons, ih]
theorem restP_take {rows : List Row} {n t : Nat} (h : n < t) (ht : t ≤ rows.length) (fs : List Fill) : restP (rows.take t) fs n = sizeAt rows n - (sold (rows.take t) n + fillSum t n fs) := by
  unfold restP
  rw [sizeAt_take h, List.length_take, Nat.min_eq_left ht]
theorem sideAt_take {rows : List Row} {n t : Nat} (h : n < t) : sideAt (rows.take t) n = sideAt rows n := by unfold sideAt; rw [take_at h]
theorem priceAt_take {rows : List Row} {n t : Nat} (h : n < t) : priceAt (rows.take t) n = priceAt rows n := by unfold priceAt; rw [take_at h]
theorem ordAt_take {rows : List Row} {n t : Nat} (h : n < t) : ordAt (rows.take t) n = ordAt rows n := by unfold ordAt; rw [take_at h]
theorem ordAt_lt {rows : List Row} {n : Nat} (h : ordAt rows n = true) : n < rows.length := by
  unfold ordAt at h
  by_cases hn : n < rows.length
  · exact hn
  · rw [List.getElem?_eq_none (by omega)] at h
    cases h
theorem ordAt_get {rows : List Row} {n : Nat} (h : ordAt rows n = true) : ∃ m b p s fs, rows[n]? = some (.order m b p s fs) := by
  unfold ordAt at h
  cases e : rows[n]? with
  | none => rw [e] at h; cases h
  | some r =>
    rw [e] at h
    cases r with
    | order m b p s fs => exact ⟨m, b, p, s, fs, rfl⟩
    | _ => cases h
theorem openP_ord {pre : List Row} {fs : List Fill} {n : Nat} (h : openP pre fs n = true) : ordAt pre n = true := by
  unfold openP at h
  simp at h
  exact h.1.1
/-- a loop that asks of each item -/
theorem forG_chk {α : Type} (enc : α → D) (I : Rho → Prop) (ok : α → Bool) (bad : Fl → Prop) {g : D → Rho → W Rho} {f : Rho → W Fl} (hbad : ∀ fl, bad fl → ∃ w a, fl = .ex w a) : ∀ (xs : List α) {ρ : Rho} {c : Nat} {P : Fl → Nat → Prop},
    (∀ x ∈ xs, ∀ (ρ : Rho) (c : Nat) (Q : Fl → Nat → Prop), I ρ → (ok x = true → ∀ ρ', I ρ' → Q (.nx ρ') c) → (ok x = false → ∀ fl, bad fl → Q fl c) → g (enc x) ρ c fun ρ1 c1 => f ρ1 c1 Q) →
    I ρ → (xs.all ok = true → ∀ ρ', I ρ' → P (.nx ρ') c) → (xs.all ok = false → ∀ fl, bad fl → P fl c) → forG g f (xs.map enc) ρ c P
  | [], ρ, c, P, _, hI, h1, _ => h1 rfl ρ hI
  | x :: xs, ρ, c, P, h, hI, h1, h2 => by
    show forG g f (enc x :: xs.map enc) ρ c P
    unfold forG
    simp only [bW_def]
    refine h x List.mem_cons_self ρ c _ hI (fun hx ρ' hI' => ?_) (fun hx fl hb => ?_)
    · refine forG_chk enc I ok bad hbad xs (fun y hy => h y (List.mem_cons_of_mem _ hy)) hI' (fun ha => h1 (by simp only [List.all_cons, hx, ha, Bool.and_self])) (fun ha => h2 (by simp only [List.all_cons, hx, ha, Bool.and_false]))
    · obtain ⟨w, a, rfl⟩ := hbad fl hb
      exact h2 (by simp only [List.all_cons, hx, Bool.false_and]) _ hb
section
variable {P : Program} {w : World} {K : PySem.W.Frag} {mg : Str → Option Value} {base : Heap} {C : Addr} {f : Addr} {fd : FuncData}
theorem ok_is_within (bl : Bl mg) (cn : Cn K mg)  (F : FunD K "is_within" "is_within" (defArgs s_is_within) (defBody s_is_within) (defScope s_is_within) [] [] f fd) (hm : mg "is_within" = some (.ref f)) : Has P w K mg base C "is_within" 1 ["side", "limit", "price"] g_is_within := by
  obtain ⟨t_BUY, g_BUY⟩ := cn.BUY
  have S : FnScope ["side", "limit", "price"] ["side", "limit", "price"] (defScope s_is_within) := ⟨rfl, rfl, rfl, by decide +kernel, rfl, by decide +kernel, by decide +kernel⟩
  refine ⟨f, fd, fn_w F S (fun sls c P h => ?len) (fun cdv A outer s H E r hr => ((pwss_one (pws_ret (pw_ite (pwt_cmp opW_eq (op_eqA hr.units) (pw_var 0) (pw_gstr rfl g_BUY ⟨_, rfl⟩) (nomark _)) (pw_cmp opW_cmp op_le (pw_var 2) (pw_var 1) (nomark _)) (pw_cmp opW_cmp op_ge (pw_var 2) (pw_var 1) (nomark _))))))) (fun sls c P h => ?data), hm, F.kp, F.bindsN fun _ _ _ _ _ _ us hl => match us, hl with | [_, _, _], _ => rfl⟩
  case len =>
    obtain ⟨b, l, p, rfl, h⟩ := h
    rfl
  case data =>
    obtain ⟨b, l, p, rfl, h⟩ := h
    cases b <;> simp [rho0, sideD, sideS] <;> simpa [withinP] using h
theorem ok_check_closed (bl : Bl mg) (cn : Cn K mg) (h_fills_in : Has P w K mg base C "fills_in" 1 ["row"] g_fills_in) (h_is_shut : Has P w K mg base C "is_shut" 1 ["rows", "t"] g_is_shut) (h_require : Has P w K mg base C "require" 3 ["condition", "word", "at"] g_require) (F : FunD K "check_closed" "check_closed" (defArgs s_check_closed) (defBody s_check_closed) (defScope s_check_closed) [] [] f fd) (hm : mg "check_closed" = some (.ref f)) : Has P w K mg base C "check_closed" 4 ["rows", "t"] g_check_closed := by
  obtain ⟨f_fills_in, fd_fills_in, F_fills_in, m_fills_in, k_fills_in, b_fills_in⟩ := h_fills_in
  obtain ⟨f_is_shut, fd_is_shut, F_is_shut, m_is_shut, k_is_shut, b_is_shut⟩ := h_is_shut
  obtain ⟨f_require, fd_require, F_require, m_require, k_require, b_require⟩ := h_require
  have S : FnScope ["rows", "t", "word"] ["rows", "t"] (defScope s_check_closed) := ⟨rfl, rfl, rfl, by decide +kernel, rfl, by decide +kernel, by decide +kernel⟩
  refine ⟨f, fd, fn_w F S (fun sls c P h => ?len) (fun cdv A outer s H E r hr => have hx := L2N.passes_call (L2N.takes_of rfl rfl rfl rfl) fun _ _ _ _ h => h; ((pwss_cons (pws_set 2 S.nd (pw_ix (pw_ix (pw_var 0) (pw_var 1)) pw_int))
      (pwss_cons (pws_if (pwt_cmp opW_eq (op_eqA hr.units) (pw_var 2) pw_str (nomark _)) (pwss_one (pws_call F_require (hr.mono (by decide)) m_require k_require b_require .nil (fun _ _ => .nil) hx (par_dat (pw_cmp opW_eq (op_eqA hr.units) (pw_var 1) pw_int (nomark _)) (par_dat pw_str (par_dat (pw_var 1) par_nil))))) pwss_nil)
      (pwss_cons (pws_if (pwt_cmp opW_eq (op_eqA hr.units) (pw_var 2) pw_str (nomark _)) (pwss_one (pws_call F_require (hr.mono (by decide)) m_require k_require b_require .nil (fun _ _ => .nil) hx (par_dat (pw_call F_is_shut (hr.mono (by decide)) m_is_shut k_is_shut b_is_shut .nil (fun _ _ => .nil) (par_dat (pw_var 0) (par_dat (pw_var 1) par_nil))) (par_dat pw_str (par_dat (pw_var 1) par_nil))))) pwss_nil)
      (pwss_one (pws_if (pwt_val (pw_call F_is_shut (hr.mono (by decide)) m_is_shut k_is_shut b_is_shut .nil (fun _ _ => .nil) (par_dat (pw_var 0) (par_dat (pw_var 1) par_nil)))) (pwss_one (pws_call F_require (hr.mono (by decide)) m_require k_require b_require .nil (fun _ _ => .nil) hx (par_dat (pw_cmp opW_eq (op_eqA hr.units) (pw_callB calW_len call_len bl.len (paw_cons (pw_call F_fills_in (hr.mono (by decide)) m_fills_in k_fills_in b_fills_in .nil (fun _ _ => .nil) (par_dat (pw_ix (pw_var 0) (pw_var 1)) par_nil)) paw_nil)) pw_int (nomark _)) (par_dat pw_str (par_dat (pw_var 1) par_nil))))) pwss_nil))))))) (fun sls c P h => ?data), hm, F.kp, F.bindsN fun _ _ _ _ _ _ us hl => match us, hl with | [_, _], _ => rfl⟩
  case len =>
    obtain ⟨rows, t, row, rfl, h⟩ := h
    rfl
  case data =>
    obtain ⟨rows, t, row, rfl, h⟩ := h
    obtain ⟨hok, hr, h1, h2⟩ := h
    have ht : t < rows.length := (List.getElem?_eq_some_iff.mp hr).1
    have hl : (rows.take t).length = t := by rw [List.length_take]; omega
    have ha := atI_map (enc := rowD) hr
    have hlim : (fillsOf row).length ≤ LIM := by
      have := (hok.2 row (List.mem_of_getElem? hr)).fl
      unfold LIM
      omega
    have hem : (rows.take t).isEmpty = decide (t = 0) := by
      cases e : rows.take t with
      | nil => rw [e] at hl; simp at hl; simp [← hl]
      | cons x xs => rw [e] at hl; simp at hl; simp; omega
    have hx : ExAt t (.int t) := .inl rfl
    unfold closedOk at h1 h2
    rw [hem] at h1 h2
    have hfe : ((fillsOf row).length = 0) = ((fillsOf row).isEmpty = true) := by cases fillsOf row <;> simp
    have hz : ((fillsOf row).length : Int) = 0 ↔ (fillsOf row).isEmpty = true := by rw [← hfe]; omega
    simp [rho0, ixW_rowsT hr, ixW_row0, use_is_shut hok (Nat.le_of_lt ht)]
    have e1 := h2
    cases hc : isClosed row <;> cases hk : isCall row <;> cases hs : shutP (rows.take t) <;> cases hf : (fillsOf row).isEmpty <;> by_cases h0 : t = 0 <;> simp_all
theorem ok_check_resting (bl : Bl mg) (cn : Cn K mg) (h_fills_in : Has P w K mg base C "fills_in" 1 ["row"] g_fills_in) (h_is_open : Has P w K mg base C "is_open" 4 ["rows", "n", "t", "i"] g_is_open) (h_require : Has P w K mg base C "require" 3 ["condition", "word", "at"] g_require) (F : FunD K "check_resting" "check_resting" (defArgs s_check_resting) (defBody s_check_resting) (defScope s_check_resting) [] [] f fd) (hm : mg "check_resting" = some (.ref f)) : Has P w K mg base C "check_resting" 5 ["rows", "t", "i"] g_check_resting := by
  obtain ⟨f_fills_in, fd_fills_in, F_fills_in, m_fills_in, k_fills_in, b_fills_in⟩ := h_fills_in
  obtain ⟨f_is_open, fd_is_open, F_is_open, m_is_open, k_is_open, b_is_open⟩ := h_is_open
  obtain ⟨f_require, fd_require, F_require, m_require, k_require, b_require⟩ := h_require
  have S : FnScope ["rows", "t", "i", "n"] ["rows", "t", "i"] (defScope s_check_resting) := ⟨rfl, rfl, rfl, by decide +kernel, rfl, by decide +kernel, by decide +kernel⟩
  refine ⟨f, fd, fn_w F S (fun sls c P h => ?len) (fun cdv A outer s H E r hr => have hx := L2N.passes_call (L2N.takes_of rfl rfl rfl rfl) fun _ _ _ _ h => h; ((pwss_cons (pws_set 3 S.nd (pw_ix (pw_ix (pw_call F_fills_in (hr.mono (by decide)) m_fills_in k_fills_in b_fills_in .nil (fun _ _ => .nil) (par_dat (pw_ix (pw_var 0) (pw_var 1)) par_nil)) (pw_var 2)) pw_int))
      (pwss_one (pws_call F_require (hr.mono (by decide)) m_require k_require b_require .nil (fun _ _ => .nil) hx (par_dat (pw_or (pw_cmp opW_is op_isN (pw_var 3) pw_non (nomark _)) (pw_one (pw_call F_is_open (hr.mono (by decide)) m_is_open k_is_open b_is_open .nil (fun _ _ => .nil) (par_dat (pw_var 0) (par_dat (pw_var 3) (par_dat (pw_var 1) (par_dat (pw_var 2) par_nil))))))) (par_dat pw_str (par_dat (pw_tup (paw_cons (pw_var 1) (paw_cons (pw_var 2) paw_nil))) par_nil)))))))) (fun sls c P h => ?data), hm, F.kp, F.bindsN fun _ _ _ _ _ _ us hl => match us, hl with | [_, _, _], _ => rfl⟩
  case len =>
    obtain ⟨rows, t, i, row, f, rfl, h⟩ := h
    rfl
  case data =>
    obtain ⟨rows, t, i, row, f, rfl, h⟩ := h
    obtain ⟨hok, hr, hf, h1, h2⟩ := h
    have ht : t < rows.length := (List.getElem?_eq_some_iff.mp hr).1
    have hx : ExAt t (.tuple [.int t, .int i]) := .inr ⟨i, rfl⟩
    have he : exF rows t i = (fillsOf row).take i := by unfold exF; rw [hr]
    obtain ⟨p, s, n⟩ := f
    cases n with
    | none =>
      simp [rho0, ixW_rowsT hr, ixW_fillsD hf, fillD, nD, LIM]
      simpa [restingOk, nOk] using h1
    | some n =>
      simp [rho0, ixW_rowsT hr, ixW_fillsD hf, fillD, nD, use_is_open hok (Nat.le_of_lt ht), LIM, he]
      simp [restingOk, nOk] at h1 h2
      exact ⟨h1, fun q => h2 q _ _ hx⟩
end
theorem use_check_resting {rows : List Row} {t i : Nat} {row : Row} {f : Fill} (hok : rowsOk rows) (hr : rows[t]? = some row) (hf : (fillsOf row)[i]? = some f) (c : Nat) (P : Out → Nat → Prop) (h : Chk (restingOk (rows.take t) ((fillsOf row).take i) f) t P c) :
    g_check_resting [.dat (rowsT rows), .dat (.int t), .dat (.int i)] c P := ⟨rows, t, i, row, f, rfl, hok, hr, hf, h⟩
theorem sideS_eq (a b : Bool) : (sideS a = sideS b) = (a = b) := propext ⟨fun h => sideD_inj (congrArg PyData.str h), fun h => by rw [h]⟩
@[simp] theorem neW_side (a b : Bool) : eqW0 true (sideD a) (sideD b) = rW (.bool (!decide (a = b))) := by
  show eqW0 true (.str (sideS a)) (.str (sideS b)) = _
  rw [neW_str]
  simp only [sideS_eq]
@[simp] theorem eqW_side (a b : Bool) : eqW0 false (sideD a) (sideD b) = rW (.bool (decide (a = b))) := by
  show eqW0 false (.str (sideS a)) (.str (sideS b)) = _
  rw [eqW_str]
  simp only [sideS_eq]
/-- the sum of the sizes of some fills -/
theorem lc_sizes {g : D → Rho → W Rho} {t : Rho → W Bool} {f : Rho → W D} {ρ : Rho} {c : Nat} {P : List D → Nat → Prop} (fs : List Fill) (hv : ∀ x : Fill, ∀ (c : Nat) (Q : Option D → Nat → Prop), Q (some (.int x.s)) c → g (fillD x) ρ c fun ρ1 c1 => t ρ1 c1 fun b c2 => if b = true then f ρ1 c2 fun y c3 => Q (some y) c3 else Q none c2)
    (h : P ((fs.map (·.s)).map PyData.int) c) : lcG g t f ρ (fs.map fillD) [] c P := lcG_mp fillD (fun x => PyData.int x.s) fs (fun x _ => hv x) (by rw [List.map_map] at h; exact h)
@[simp] theorem nOk_none (p : Nat → Bool) : nOk none p = true := rfl
@[simp] theorem nOk_some (n : Nat) (p : Nat → Bool) : nOk (some n) p = p n := rfl
section
variable {P : Program} {w : World} {K : PySem.W.Frag} {mg : Str → Option Value} {base : Heap} {C : Addr} {f : Addr} {fd : FuncData}
theorem ok_check_own (bl : Bl mg) (cn : Cn K mg) (h_check_resting : Has P w K mg base C "check_resting" 5 ["rows", "t", "i"] g_check_resting) (h_is_within : Has P w K mg base C "is_within" 1 ["side", "limit", "price"] g_is_within) (h_require : Has P w K mg base C "require" 3 ["condition", "word", "at"] g_require) (h_rest_of : Has P w K mg base C "rest_of" 3 ["rows", "n", "t", "i"] g_rest_of) (F : FunD K "check_own" "check_own" (defArgs s_check_own) (defBody s_check_own) (defScope s_check_own) [] [] f fd) (hm : mg "check_own" = some (.ref f)) : Has P w K mg base C "check_own" 6 ["rows", "t", "i"] g_check_own := by
  obtain ⟨f_check_resting, fd_check_resting, F_check_resting, m_check_resting, k_check_resting, b_check_resting⟩ := h_check_resting
  obtain ⟨f_is_within, fd_is_within, F_is_within, m_is_within, k_is_within, b_is_within⟩ := h_is_within
  obtain ⟨f_require, fd_require, F_require, m_require, k_require, b_require⟩ := h_require
  obtain ⟨f_rest_of, fd_rest_of, F_rest_of, m_rest_of, k_rest_of, b_rest_of⟩ := h_rest_of
  have S : FnScope ["rows", "t", "i", "word", "member", "side", "limit", "size", "fills", "price", "lots", "n", "left", "fill"] ["rows", "t", "i"] (defScope s_check_own) := ⟨rfl, rfl, rfl, by decide +kernel, rfl, by decide +kernel, by decide +kernel⟩
  refine ⟨f, fd, fn_w F S (fun sls c P h => ?len) (fun cdv A outer s H E r hr => have hx := L2N.passes_call (L2N.takes_of rfl rfl rfl rfl) fun _ _ _ _ h => h; ((pwss_cons (pws_asg (pw_ix (pw_var 0) (pw_var 1)) (pwg_tup 6 rfl (pwgs_cons (pwg_name 3 S.nd) (pwgs_cons (pwg_name 4 S.nd) (pwgs_cons (pwg_name 5 S.nd) (pwgs_cons (pwg_name 6 S.nd) (pwgs_cons (pwg_name 7 S.nd) (pwgs_cons (pwg_name 8 S.nd) pwgs_nil))))))))
      (pwss_cons (pws_asg (pw_ix (pw_var 8) (pw_var 2)) (pwg_tup 3 rfl (pwgs_cons (pwg_name 9 S.nd) (pwgs_cons (pwg_name 10 S.nd) (pwgs_cons (pwg_name 11 S.nd) pwgs_nil)))))
      (pwss_cons (pws_call F_check_resting (hr.mono (by decide)) m_check_resting k_check_resting b_check_resting .nil (fun _ _ => .nil) hx (par_dat (pw_var 0) (par_dat (pw_var 1) (par_dat (pw_var 2) par_nil))))
      (pwss_cons (pws_call F_require (hr.mono (by decide)) m_require k_require b_require .nil (fun _ _ => .nil) hx (par_dat (pw_or (pw_cmp opW_is op_isN (pw_var 11) pw_non (nomark _)) (pw_one (pw_cmp opW_ne (op_neA hr.units) (pw_ix (pw_ix (pw_var 0) (pw_var 11)) pw_int) (pw_var 5) (nomark _)))) (par_dat pw_str (par_dat (pw_tup (paw_cons (pw_var 1) (paw_cons (pw_var 2) paw_nil))) par_nil))))
      (pwss_cons (pws_call F_require (hr.mono (by decide)) m_require k_require b_require .nil (fun _ _ => .nil) hx (par_dat (pw_and (pw_or (pw_cmp opW_is op_isN (pw_var 11) pw_non (nomark _)) (pw_one (pw_cmp opW_eq (op_eqA hr.units) (pw_ix (pw_ix (pw_var 0) (pw_var 11)) pw_int) (pw_var 9) (nomark _)))) (pw_one (pw_call F_is_within (hr.mono (by decide)) m_is_within k_is_within b_is_within .nil (fun _ _ => .nil) (par_dat (pw_var 5) (par_dat (pw_var 6) (par_dat (pw_var 9) par_nil)))))) (par_dat pw_str (par_dat (pw_tup (paw_cons (pw_var 1) (paw_cons (pw_var 2) paw_nil))) par_nil))))
      (pwss_cons (pws_set 12 S.nd (pw_op opW_sub op_sub (pw_var 7) (pw_callB calW_sum (cr_sum rfl) bl.sum (paw_cons (pw_lc [("fill", 13)] rfl S.nd (pwi_tup (pw_slice (pw_var 8) pwo_none (pwo_some (pw_var 2)))) (blkOk_by (by kernel_rfl)) (fun _ _ _ _ _ => (pwg_name 13 S.nd)) (fun _ _ _ _ _ => pwts_nil) (fun _ _ _ _ _ => (pw_ix (pw_var 13) pw_int))) paw_nil))))
      (pwss_one (pws_call F_require (hr.mono (by decide)) m_require k_require b_require .nil (fun _ _ => .nil) hx (par_dat (pw_and (pw_cmp opW_cmp op_le (pw_var 10) (pw_var 12) (nomark _)) (pw_one (pw_or (pw_cmp opW_is op_isN (pw_var 11) pw_non (nomark _)) (pw_one (pw_cmp opW_cmp op_le (pw_var 10) (pw_call F_rest_of (hr.mono (by decide)) m_rest_of k_rest_of b_rest_of .nil (fun _ _ => .nil) (par_dat (pw_var 0) (par_dat (pw_var 11) (par_dat (pw_var 1) (par_dat (pw_var 2) par_nil))))) (nomark _)))))) (par_dat pw_str (par_dat (pw_tup (paw_cons (pw_var 1) (paw_cons (pw_var 2) paw_nil))) par_nil))))))))))))) (fun sls c P h => ?data), hm, F.kp, F.bindsN fun _ _ _ _ _ _ us hl => match us, hl with | [_, _, _], _ => rfl⟩
  case len =>
    obtain ⟨rows, t, i, m, b, p, s, fs, f, rfl, h⟩ := h
    rfl
  case data =>
    obtain ⟨rows, t, i, m, b, p, s, fs, f, rfl, h⟩ := h
    obtain ⟨hok, hr, hf, h⟩ := h
    have ht : t < rows.length := (List.getElem?_eq_some_iff.mp hr).1
    have hx : ExAt t (.tuple [.int t, .int i]) := .inr ⟨i, rfl⟩
    have he : exF rows t i = fs.take i := by unfold exF; rw [hr]; rfl
    have hl : (fs.take i).length ≤ LIM := by
      have := (hok.2 _ (List.mem_of_getElem? hr)).fl
      simp [fillsOf] at this
      rw [List.length_take]
      unfold LIM
      omega
    obtain ⟨q, z, n⟩ := f
    simp [rho0, ixW_rowsT hr, rowD, ixW_fillsD hf, fillD]
    refine use_check_resting hok hr hf _ _ ⟨fun hro => ?_, fun hro w a ha => ?_⟩
    rotate_left
    · exact h.2 (by unfold ownOk; rw [show fillsOf (Row.order m b p s fs) = fs from rfl] at hro; rw [hro]; rfl) w a ha
    have hro : restingOk (rows.take t) (fs.take i) ⟨q, z, n⟩ = true := hro
    obtain ⟨h1, h2⟩ := h
    unfold ownOk at h1 h2
    rw [hro] at h1 h2
    have key : ∀ (B1 B2 B3 : Prop) (k : Prop), True := fun _ _ _ _ => trivial
    cases n with
    | none =>
      simp [nD]
      simp only [nOk_none, Bool.true_and, Bool.and_true] at h1 h2
      have hL : 2 ≤ LIM := by decide
      refine ⟨hL, fun hw => ?_, fun hw => h2 (by simp [hw]) _ _ hx⟩
      simp [lcD]
      refine ⟨by simpa using hl, ?_⟩
      rw [← List.map_take]
      refine lc_sizes (fs.take i) (fun x c Q hQ => by simpa [fillD] using hQ) ?_
      refine ⟨_, rfl, ?_⟩
      rw [hw] at h1 h2
      generalize ((fs.take i).map (·.s)).sum = S at h1 h2 ⊢
      by_cases hz : z ≤ s - S
      · simp only [hz, decide_true, Bool.and_self] at h1
        simp [hz, hL, h1]
      · simp only [hz, decide_false, Bool.and_false] at h2
        simp [hz, hL, h2 trivial _ _ hx]
    | some n =>
      have hopen : openP (rows.take t) (fs.take i) n = true := hro
      have hord := openP_ord hopen
      have hnt : n < t := by have := ordAt_lt hord; rw [List.length_take] at this; omega
      rw [ordAt_take hnt] at hord
      obtain ⟨m', b', p', s', fs', hrn⟩ := ordAt_get hord
      have hL : 2 ≤ LIM := by decide
      simp only [nOk_some, Bool.true_and, sideAt_take hnt, priceAt_take hnt] at h1 h2
      have e1 : sideAt rows n = b' := by unfold sideAt; rw [hrn]
      have e2 : priceAt rows n = p' := by unfold priceAt; rw [hrn]
      rw [e1, e2] at h1 h2
      simp [nD, ixW_rowsT hrn, rowD, hL]
      refine ⟨fun hb => ?_, fun hb => h2 (by simp [hb]) _ _ hx⟩
      have hB : (!decide (b' = b)) = true := by simp [hb]
      rw [hB] at h1 h2
      by_cases hpq : p' = q
      · cases hw : withinP b p q with
        | false => simp [hpq, h2 (by simp [hw]) _ _ hx]
        | true =>
          rw [hw, decide_eq_true hpq] at h1 h2
          rw [if_pos hpq]
          refine ⟨fun _ => ?_, fun q => by cases q⟩
          simp [lcD]
          refine ⟨by simpa using hl, ?_⟩
          rw [← List.map_take]
          refine lc_sizes (fs.take i) (fun x c Q hQ => by simpa [fillD] using hQ) ?_
          refine ⟨_, rfl, ?_⟩
          rw [restP_take hnt (Nat.le_of_lt ht)] at h1 h2
          generalize ((fs.take i).map (·.s)).sum = S at h1 h2 ⊢
          simp [use_rest_of hok (Nat.le_of_lt ht) hord, he]
          by_cases hz : z ≤ s - S
          · by_cases hz2 : z ≤ sizeAt rows n - (sold (rows.take t) n + fillSum t n (fs.take i))
            · simp only [hz, hz2, decide_true, Bool.and_self] at h1
              simp [hz, hz2, h1]
              intro q'
              omega
            · simp only [hz2, decide_false, Bool.and_false] at h2
              simp [hz, hz2, h2 trivial _ _ hx]
          · simp only [hz, decide_false, Bool.false_and, Bool.and_false] at h2
            simp [hz, h2 trivial _ _ hx]
      · simp [hpq, h2 (by simp [hpq]) _ _ hx]
theorem ok_check_print (bl : Bl mg) (cn : Cn K mg) (h_check_resting : Has P w K mg base C "check_resting" 5 ["rows", "t", "i"] g_check_resting) (h_require : Has P w K mg base C "require" 3 ["condition", "word", "at"] g_require) (h_rest_of : Has P w K mg base C "rest_of" 3 ["rows", "n", "t", "i"] g_rest_of) (F : FunD K "check_print" "check_print" (defArgs s_check_print) (defBody s_check_print) (defScope s_check_print) [] [] f fd) (hm : mg "check_print" = some (.ref f)) : Has P w K mg base C "check_print" 6 ["rows", "t", "i"] g_check_print := by
  obtain ⟨f_check_resting, fd_check_resting, F_check_resting, m_check_resting, k_check_resting, b_check_resting⟩ := h_check_resting
  obtain ⟨f_require, fd_require, F_require, m_require, k_require, b_require⟩ := h_require
  obtain ⟨f_rest_of, fd_rest_of, F_rest_of, m_rest_of, k_rest_of, b_rest_of⟩ := h_rest_of
  have S : FnScope ["rows", "t", "i", "price", "lots", "n"] ["rows", "t", "i"] (defScope s_check_print) := ⟨rfl, rfl, rfl, by decide +kernel, rfl, by decide +kernel, by decide +kernel⟩
  refine ⟨f, fd, fn_w F S (fun sls c P h => ?len) (fun cdv A outer s H E r hr => have hx := L2N.passes_call (L2N.takes_of rfl rfl rfl rfl) fun _ _ _ _ h => h; ((pwss_cons (pws_asg (pw_ix (pw_ix (pw_ix (pw_var 0) (pw_var 1)) pw_int) (pw_var 2)) (pwg_tup 3 rfl (pwgs_cons (pwg_name 3 S.nd) (pwgs_cons (pwg_name 4 S.nd) (pwgs_cons (pwg_name 5 S.nd) pwgs_nil)))))
      (pwss_cons (pws_call F_check_resting (hr.mono (by decide)) m_check_resting k_check_resting b_check_resting .nil (fun _ _ => .nil) hx (par_dat (pw_var 0) (par_dat (pw_var 1) (par_dat (pw_var 2) par_nil))))
      (pwss_cons (pws_call F_require (hr.mono (by decide)) m_require k_require b_require .nil (fun _ _ => .nil) hx (par_dat (pw_or (pw_cmp opW_is op_isN (pw_var 5) pw_non (nomark _)) (pw_one (pw_cmp opW_eq (op_eqA hr.units) (pw_ix (pw_ix (pw_var 0) (pw_var 5)) pw_int) (pw_var 3) (nomark _)))) (par_dat pw_str (par_dat (pw_tup (paw_cons (pw_var 1) (paw_cons (pw_var 2) paw_nil))) par_nil))))
      (pwss_one (pws_call F_require (hr.mono (by decide)) m_require k_require b_require .nil (fun _ _ => .nil) hx (par_dat (pw_or (pw_cmp opW_is op_isN (pw_var 5) pw_non (nomark _)) (pw_one (pw_cmp opW_cmp op_le (pw_var 4) (pw_call F_rest_of (hr.mono (by decide)) m_rest_of k_rest_of b_rest_of .nil (fun _ _ => .nil) (par_dat (pw_var 0) (par_dat (pw_var 5) (par_dat (pw_var 1) (par_dat (pw_var 2) par_nil))))) (nomark _)))) (par_dat pw_str (par_dat (pw_tup (paw_cons (pw_var 1) (paw_cons (pw_var 2) paw_nil))) par_nil)))))))))) (fun sls c P h => ?data), hm, F.kp, F.bindsN fun _ _ _ _ _ _ us hl => match us, hl with | [_, _, _], _ => rfl⟩
  case len =>
    obtain ⟨rows, t, i, fs, f, rfl, h⟩ := h
    rfl
  case data =>
    obtain ⟨rows, t, i, fs, f, rfl, h⟩ := h
    obtain ⟨hok, hr, hf, h⟩ := h
    have ht : t < rows.length := (List.getElem?_eq_some_iff.mp hr).1
    have hx : ExAt t (.tuple [.int t, .int i]) := .inr ⟨i, rfl⟩
    have he : exF rows t i = fs.take i := by unfold exF; rw [hr]; rfl
    have hL : 2 ≤ LIM := by decide
    obtain ⟨q, z, n⟩ := f
    simp [rho0, ixW_rowsT hr, rowD, ixW_fillsD hf, fillD]
    refine use_check_resting hok hr hf _ _ ⟨fun hro => ?_, fun hro w a ha => ?_⟩
    rotate_left
    · exact h.2 (by unfold printOk; rw [show fillsOf (Row.prints fs) = fs from rfl] at hro; rw [hro]; rfl) w a ha
    have hro : restingOk (rows.take t) (fs.take i) ⟨q, z, n⟩ = true := hro
    obtain ⟨h1, h2⟩ := h
    unfold printOk at h1 h2
    rw [hro] at h1 h2
    cases n with
    | none => simpa [nD, hL] using h1
    | some n =>
      have hopen : openP (rows.take t) (fs.take i) n = true := hro
      have hord := openP_ord hopen
      have hnt : n < t := by have := ordAt_lt hord; rw [List.length_take] at this; omega
      rw [ordAt_take hnt] at hord
      obtain ⟨m', b', p', s', fs', hrn⟩ := ordAt_get hord
      simp only [nOk_some, Bool.true_and, priceAt_take hnt] at h1 h2
      have e2 : priceAt rows n = p' := by unfold priceAt; rw [hrn]
      rw [e2, restP_take hnt (Nat.le_of_lt ht)] at h1 h2
      simp [nD, ixW_rowsT hrn, rowD, hL, use_rest_of hok (Nat.le_of_lt ht) hord, he]
      generalize sizeAt rows n - (sold (rows.take t) n + fillSum t n (fs.take i)) = R at h1 h2 ⊢
      by_cases hpq : p' = q
      · by_cases hz : z ≤ R
        · simp only [hpq, hz, decide_true, Bool.and_self] at h1
          simp [hpq, hz, h1]
          intro q'
          omega
        · simp only [hpq, hz, decide_true, decide_false, Bool.and_false] at h2
          simp [hpq, hz, h2 trivial _ _ hx]
      · simp [hpq, h2 (by simp [hpq]) _ _ hx]
theorem ok_check_call (bl : Bl mg) (cn : Cn K mg) (h_is_open : Has P w K mg base C "is_open" 4 ["rows", "n", "t", "i"] g_is_open) (h_is_within : Has P w K mg base C "is_within" 1 ["side", "limit", "price"] g_is_within) (h_require : Has P w K mg base C "require" 3 ["condition", "word", "at"] g_require) (h_rest_of : Has P w K mg base C "rest_of" 3 ["rows", "n", "t", "i"] g_rest_of) (F : FunD K "check_call" "check_call" (defArgs s_check_call) (defBody s_check_call) (defScope s_check_call) [] [] f fd) (hm : mg "check_call" = some (.ref f)) : Has P w K mg base C "check_call" 5 ["rows", "t"] g_check_call := by
  obtain ⟨f_is_open, fd_is_open, F_is_open, m_is_open, k_is_open, b_is_open⟩ := h_is_open
  obtain ⟨f_is_within, fd_is_within, F_is_within, m_is_within, k_is_within, b_is_within⟩ := h_is_within
  obtain ⟨f_require, fd_require, F_require, m_require, k_require, b_require⟩ := h_require
  obtain ⟨f_rest_of, fd_rest_of, F_rest_of, m_rest_of, k_rest_of, b_rest_of⟩ := h_rest_of
  have S : FnScope ["rows", "t", "i", "n", "lots"] ["rows", "t"] (defScope s_check_call) := ⟨rfl, rfl, rfl, by decide +kernel, rfl, by decide +kernel, by decide +kernel⟩
  refine ⟨f, fd, fn_w F S (fun sls c P h => ?len) (fun cdv A outer s H E r hr => have hx := L2N.passes_call (L2N.takes_of rfl rfl rfl rfl) fun _ _ _ _ h => h; have hp := passes_of rfl; ((pwss_one (pws_for hp rfl (pwi_enum bl.enumerate (pw_ix (pw_ix (pw_var 0) (pw_var 1)) pw_int)) (pwg_tup 2 rfl (pwgs_cons (pwg_name 2 S.nd) (pwgs_cons (pwg_tup 2 rfl (pwgs_cons (pwg_name 3 S.nd) (pwgs_cons (pwg_name 4 S.nd) pwgs_nil))) pwgs_nil))) (pwss_cons (pws_call F_require (hr.mono (by decide)) m_require k_require b_require .nil (fun _ _ => .nil) hx (par_dat (pw_call F_is_open (hr.mono (by decide)) m_is_open k_is_open b_is_open .nil (fun _ _ => .nil) (par_dat (pw_var 0) (par_dat (pw_var 3) (par_dat (pw_var 1) (par_dat pw_int par_nil))))) (par_dat pw_str (par_dat (pw_tup (paw_cons (pw_var 1) (paw_cons (pw_var 2) paw_nil))) par_nil))))
      (pwss_cons (pws_call F_require (hr.mono (by decide)) m_require k_require b_require .nil (fun _ _ => .nil) hx (par_dat (pw_call F_is_within (hr.mono (by decide)) m_is_within k_is_within b_is_within .nil (fun _ _ => .nil) (par_dat (pw_ix (pw_ix (pw_var 0) (pw_var 3)) pw_int) (par_dat (pw_ix (pw_ix (pw_var 0) (pw_var 3)) pw_int) (par_dat (pw_ix (pw_ix (pw_var 0) (pw_var 1)) pw_int) par_nil)))) (par_dat pw_str (par_dat (pw_tup (paw_cons (pw_var 1) (paw_cons (pw_var 2) paw_nil))) par_nil))))
      (pwss_one (pws_call F_require (hr.mono (by decide)) m_require k_require b_require .nil (fun _ _ => .nil) hx (par_dat (pw_cmp opW_cmp op_le (pw_var 4) (pw_call F_rest_of (hr.mono (by decide)) m_rest_of k_rest_of b_rest_of .nil (fun _ _ => .nil) (par_dat (pw_var 0) (par_dat (pw_var 3) (par_dat (pw_var 1) (par_dat pw_int par_nil))))) (nomark _)) (par_dat pw_str (par_dat (pw_tup (paw_cons (pw_var 1) (paw_cons (pw_var 2) paw_nil))) par_nil))))))))))) (fun sls c P h => ?data), hm, F.kp, F.bindsN fun _ _ _ _ _ _ us hl => match us, hl with | [_, _], _ => rfl⟩
  case len =>
    obtain ⟨rows, t, p, ps, rfl, h⟩ := h
    rfl
  case data =>
    obtain ⟨rows, t, p, ps, rfl, h⟩ := h
    obtain ⟨hok, hr, h⟩ := h
    have ht : t < rows.length := (List.getElem?_eq_some_iff.mp hr).1
    have hrow := hok.2 _ (List.mem_of_getElem? hr)
    simp [rho0, ixW_rowsT hr, rowD, pairsD]
    cases p with
    | none =>
      have e : ps = [] := hrow.2
      subst e
      simp [enumD, forG]
      exact h.1 rfl
    | some p =>
      rw [enum_map]
      have hL : 2 ≤ LIM := by decide
      refine forG_chk (fun x : (Nat × Int) × Nat => PyData.tuple [.int (x.2 : Nat), pairD x.1]) (fun ρ => ∃ a b d, ρ = [.dat (rowsT rows), .dat (.int t), a, b, d]) (fun x => pairStep (rows.take t) p x.1) (fun fl => ∃ (w : Str) (a : D), fl = .ex (.str w) a ∧ ExAt t a) (fun fl ⟨w, a, e, _⟩ => ⟨.str w, a, e⟩) (ps.zipIdx 0) (fun x hx ρ c Q hI q1 q2 => ?_) ⟨_, _, _, rfl⟩ (fun ha ρ' hI => ?_) (fun ha fl hb => ?_)
      · obtain ⟨a, b, d, rfl⟩ := hI
        obtain ⟨⟨n, z⟩, i⟩ := x
        have hxx : ExAt t (.tuple [.int t, .int i]) := .inr ⟨i, rfl⟩
        simp only [pairStep] at q1 q2
        simp [pairD, use_is_open0 hok (Nat.le_of_lt ht), hL]
        cases ho : openP (rows.take t) [] n with
        | false => 
          rw [ho] at q2
          exact ⟨fun q => (by cases q), fun _ => q2 rfl _ ⟨_, _, rfl, hxx⟩⟩
        | true =>
          have hord := openP_ord ho
          have hnt : n < t := by have := ordAt_lt hord; rw [List.length_take] at this; omega
          rw [ordAt_take hnt] at hord
          obtain ⟨m', b', p', s', fs', hrn⟩ := ordAt_get hord
          have e1 : sideAt rows n = b' := by unfold sideAt; rw [hrn]
          have e2 : priceAt rows n = p' := by unfold priceAt; rw [hrn]
          rw [ho, sideAt_take hnt, priceAt_take hnt, e1, e2, restP_take hnt (Nat.le_of_lt ht), fillSum_nil, Int.add_zero] at q1 q2
          simp [ixW_rowsT hrn, ixW_rowsT hr, rowD, priceD, use_rest_of0 hok (Nat.le_of_lt ht) hord]
          generalize sizeAt rows n - sold (rows.take t) n = R at q1 q2 ⊢
          cases hw : withinP b' p' p with
          | false =>
            rw [hw] at q2
            exact ⟨fun q => (by cases q), fun _ => q2 rfl _ ⟨_, _, rfl, hxx⟩⟩
          | true =>
            rw [hw] at q1 q2
            refine ⟨fun _ => ⟨fun hz => ?_, fun hz => ?_⟩, fun q => by cases q⟩
            · exact q1 (by simp [hz]) _ ⟨_, _, _, rfl⟩
            · exact q2 (by simp; omega) _ ⟨_, _, rfl, hxx⟩
      · rw [all_idx] at ha
        exact h.1 ha
      · rw [all_idx] at ha
        obtain ⟨w, a, rfl, hxa⟩ := hb
        exact h.2 ha w a hxa
end
theorem use_check_own {rows : List Row} {t i : Nat} {m : Str} {b : Bool} {p s : Int} {fs : List Fill} {f : Fill} (hok : rowsOk rows) (hr : rows[t]? = some (.order m b p s fs)) (hf : fs[i]? = some f) (c : Nat) (P : Out → Nat → Prop) (h : Chk (ownOk (rows.take t) b p s (fs.take i) f) t P c) :
    g_check_own [.dat (rowsT rows), .dat (.int t), .dat (.int i)] c P := ⟨rows, t, i, m, b, p, s, fs, f, rfl, hok, hr, hf, h⟩
@[simp] theorem rngD_nat (n : Nat) : rngD (n : Int) = (List.range n).map fun i => PyData.int (i : Nat) := by simp [rngD]
section
variable {P : Program} {w : World} {K : PySem.W.Frag} {mg : Str → Option Value} {base : Heap} {C : Addr} {f : Addr} {fd : FuncData}
theorem ok_check_row (bl : Bl mg) (cn : Cn K mg) (h_check_call : Has P w K mg base C "check_call" 5 ["rows", "t"] g_check_call) (h_check_closed : Has P w K mg base C "check_closed" 4 ["rows", "t"] g_check_closed) (h_check_own : Has P w K mg base C "check_own" 6 ["rows", "t", "i"] g_check_own) (h_check_print : Has P w K mg base C "check_print" 6 ["rows", "t", "i"] g_check_print) (h_is_open : Has P w K mg base C "is_open" 4 ["rows", "n", "t", "i"] g_is_open) (h_require : Has P w K mg base C "require" 3 ["condition", "word", "at"] g_require) (F : FunD K "check_row" "check_row" (defArgs s_check_row) (defBody s_check_row) (defScope s_check_row) [] [] f fd) (hm : mg "check_row" = some (.ref f)) : Has P w K mg base C "check_row" 7 ["rows", "t"] g_check_row := by
  obtain ⟨f_check_call, fd_check_call, F_check_call, m_check_call, k_check_call, b_check_call⟩ := h_check_call
  obtain ⟨f_check_closed, fd_check_closed, F_check_closed, m_check_closed, k_check_closed, b_check_closed⟩ := h_check_closed
  obtain ⟨f_check_own, fd_check_own, F_check_own, m_check_own, k_check_own, b_check_own⟩ := h_check_own
  obtain ⟨f_check_print, fd_check_print, F_check_print, m_check_print, k_check_print, b_check_print⟩ := h_check_print
  obtain ⟨f_is_open, fd_is_open, F_is_open, m_is_open, k_is_open, b_is_open⟩ := h_is_open
  obtain ⟨f_require, fd_require, F_require, m_require, k_require, b_require⟩ := h_require
  have S : FnScope ["rows", "t", "i"] ["rows", "t"] (defScope s_check_row) := ⟨rfl, rfl, rfl, by decide +kernel, rfl, by decide +kernel, by decide +kernel⟩
  refine ⟨f, fd, fn_w F S (fun sls c P h => ?len) (fun cdv A outer s H E r hr => have hx := L2N.passes_call (L2N.takes_of rfl rfl rfl rfl) fun _ _ _ _ h => h; have hp := passes_of rfl; ((pwss_cons (pws_call F_check_closed (hr.mono (by decide)) m_check_closed k_check_closed b_check_closed .nil (fun _ _ => .nil) hx (par_dat (pw_var 0) (par_dat (pw_var 1) par_nil)))
      (pwss_one (pws_match (pw_ix (pw_ix (pw_var 0) (pw_var 1)) pw_int) (pmw_str (pwss_one (pws_call F_require (hr.mono (by decide)) m_require k_require b_require .nil (fun _ _ => .nil) hx (par_dat (pw_call F_is_open (hr.mono (by decide)) m_is_open k_is_open b_is_open .nil (fun _ _ => .nil) (par_dat (pw_var 0) (par_dat (pw_ix (pw_ix (pw_var 0) (pw_var 1)) pw_int) (par_dat (pw_var 1) (par_dat pw_int par_nil))))) (par_dat pw_str (par_dat (pw_var 1) par_nil))))) (pmw_str (pwss_one (pws_call F_check_call (hr.mono (by decide)) m_check_call k_check_call b_check_call .nil (fun _ _ => .nil) hx (par_dat (pw_var 0) (par_dat (pw_var 1) par_nil)))) (pmw_str (pwss_one (pws_for hp rfl (pwi_range bl.range (pw_callB calW_len call_len bl.len (paw_cons (pw_ix (pw_ix (pw_var 0) (pw_var 1)) pw_int) paw_nil))) (pwg_name 2 S.nd) (pwss_one (pws_call F_check_own (hr.mono (by decide)) m_check_own k_check_own b_check_own .nil (fun _ _ => .nil) hx (par_dat (pw_var 0) (par_dat (pw_var 1) (par_dat (pw_var 2) par_nil))))))) (pmw_str (pwss_one (pws_for hp rfl (pwi_range bl.range (pw_callB calW_len call_len bl.len (paw_cons (pw_ix (pw_ix (pw_var 0) (pw_var 1)) pw_int) paw_nil))) (pwg_name 2 S.nd) (pwss_one (pws_call F_check_print (hr.mono (by decide)) m_check_print k_check_print b_check_print .nil (fun _ _ => .nil) hx (par_dat (pw_var 0) (par_dat (pw_var 1) (par_dat (pw_var 2) par_nil))))))) pmw_nil))))))))) (fun sls c P h => ?data), hm, F.kp, F.bindsN fun _ _ _ _ _ _ us hl => match us, hl with | [_, _], _ => rfl⟩
  case len =>
    obtain ⟨rows, t, row, rfl, h⟩ := h
    rfl
  case data =>
    obtain ⟨rows, t, row, rfl, h⟩ := h
    obtain ⟨hok, hr, h⟩ := h
    have ht : t < rows.length := (List.getElem?_eq_some_iff.mp hr).1
    have hrow := hok.2 _ (List.mem_of_getElem? hr)
    simp [rho0, ixW_rowsT hr]
    refine ⟨rows, t, row, rfl, hok, hr, fun hc => ?_, fun hc w a ha => h.2 (by unfold stepOk; rw [hc]; rfl) w a ha⟩
    obtain ⟨h1, h2⟩ := h
    unfold stepOk at h1 h2
    rw [hc, Bool.true_and] at h1 h2
    have hx : ExAt t (.int t) := .inl rfl
    have hfl := hrow.fl
    simp [ixW_row0]
    cases row with
    | order m b p s fs =>
      simp [fillsOf] at hfl
      simp [kindS, rowD]
      refine ⟨by omega, ?_⟩
      refine forG_chk (fun i : Nat => PyData.int (i : Nat)) (fun ρ => ∃ a, ρ = [.dat (rowsT rows), .dat (.int t), a]) (atF (ownOk (rows.take t) b p s) fs) (fun fl => ∃ (w : Str) (a : D), fl = .ex (.str w) a ∧ ExAt t a) (fun fl ⟨w, a, e, _⟩ => ⟨.str w, a, e⟩) (List.range fs.length) (fun i hi ρ c Q hI q1 q2 => ?_) ⟨_, rfl⟩ (fun ha ρ' hI => h1 ha) (fun ha fl hb => ?_)
      · obtain ⟨a, rfl⟩ := hI
        have hil := List.mem_range.mp hi
        have hf : fs[i]? = some fs[i] := List.getElem?_eq_getElem hil
        unfold atF at q1 q2
        rw [hf] at q1 q2
        simp
        exact use_check_own hok hr hf _ _ ⟨fun hk => q1 hk _ ⟨_, rfl⟩, fun hk w a ha => q2 hk _ ⟨w, a, rfl, ha⟩⟩
      · obtain ⟨w, a, rfl, hxa⟩ := hb
        exact h2 ha w a hxa
    | prints fs =>
      simp [fillsOf] at hfl
      simp [kindS, rowD]
      refine ⟨by omega, ?_⟩
      refine forG_chk (fun i : Nat => PyData.int (i : Nat)) (fun ρ => ∃ a, ρ = [.dat (rowsT rows), .dat (.int t), a]) (atF (printOk (rows.take t)) fs) (fun fl => ∃ (w : Str) (a : D), fl = .ex (.str w) a ∧ ExAt t a) (fun fl ⟨w, a, e, _⟩ => ⟨.str w, a, e⟩) (List.range fs.length) (fun i hi ρ c Q hI q1 q2 => ?_) ⟨_, rfl⟩ (fun ha ρ' hI => h1 ha) (fun ha fl hb => ?_)
      · obtain ⟨a, rfl⟩ := hI
        have hil := List.mem_range.mp hi
        have hf : fs[i]? = some fs[i] := List.getElem?_eq_getElem hil
        unfold atF at q1 q2
        rw [hf] at q1 q2
        simp
        exact ⟨rows, t, i, fs, fs[i], rfl, hok, hr, hf, fun hk => q1 hk _ ⟨_, rfl⟩, fun hk w a ha => q2 hk _ ⟨w, a, rfl, ha⟩⟩
      · obtain ⟨w, a, rfl, hxa⟩ := hb
        exact h2 ha w a hxa
    | cancel n =>
      simp [kindS, rowD, use_is_open0 hok (Nat.le_of_lt ht)]
      exact ⟨fun q => h1 q, fun q => h2 q _ _ hx⟩
    | closed =>
      simp [kindS, rowD]
      exact h1 rfl
    | call p ps =>
      simp [kindS, rowD]
      exact ⟨rows, t, p, ps, rfl, hok, hr, fun hk => h1 hk, fun hk w a ha => h2 hk w a ha⟩
end
theorem forG_inv {g : D → Rho → W Rho} {f : Rho → W Fl} {P : Fl → Nat → Prop} (I : Nat → Rho → Nat → Prop) : ∀ (xs : List D) (k : Nat) (ρ : Rho) (c : Nat),
    (∀ i x, xs[i]? = some x → ∀ ρ c Q, I (k + i) ρ c → (∀ ρ' c', I (k + i + 1) ρ' c' → Q (.nx ρ') c') → (∀ o c', (∀ ρ, o ≠ .nx ρ) → P o c' → Q o c') → g x ρ c fun ρ1 c1 => f ρ1 c1 Q) →
    I k ρ c → (∀ ρ c, I (k + xs.length) ρ c → P (.nx ρ) c) → forG g f xs ρ c P
  | [], k, ρ, c, _, h0, h1 => h1 ρ c h0
  | x :: xs, k, ρ, c, h, h0, h1 => by
    unfold forG
    simp only [bW_def]
    refine h 0 x rfl ρ c _ h0 (fun ρ' c' hI => ?_) (fun o c' ho hp => ?_)
    · refine forG_inv I xs (k + 1) ρ' c' (fun i y hy ρ c Q hi q1 q2 => ?_) hI (fun ρ c hl => h1 ρ c ?_)
      · have e : k + 1 + i = k + (i + 1) := by omega
        rw [e] at hi q1
        exact h (i + 1) y (by rw [List.getElem?_cons_succ]; exact hy) ρ c Q hi q1 q2
      · have e : k + 1 + xs.length = k + (x :: xs).length := by rw [List.length_cons]; omega
        rw [e] at hl
        exact hl
    · cases o with
      | nx ρ => exact absurd rfl (ho ρ)
      | rt d => exact hp
      | ex w a => exact hp
section
variable {P : Program} {w : World} {K : PySem.W.Frag} {mg : Str → Option Value} {base : Heap} {C : Addr} {f : Addr} {fd : FuncData}
theorem ok_lets_record (bl : Bl mg) (cn : Cn K mg) (h_check_row : Has P w K mg base C "check_row" 7 ["rows", "t"] g_check_row) (h_has_shape : Has P w K mg base C "has_shape" 7 ["thing"] g_has_shape) (h_require : Has P w K mg base C "require" 3 ["condition", "word", "at"] g_require) (F : FunD K "lets_record" "lets_record" (defArgs s_lets_record) (defBody s_lets_record) (defScope s_lets_record) [] [] f fd) (hm : mg "lets_record" = some (.ref f)) : Has P w K mg base C "lets_record" 8 ["thing"] g_lets_record := by
  obtain ⟨f_check_row, fd_check_row, F_check_row, m_check_row, k_check_row, b_check_row⟩ := h_check_row
  obtain ⟨f_has_shape, fd_has_shape, F_has_shape, m_has_shape, k_has_shape, b_has_shape⟩ := h_has_shape
  obtain ⟨f_require, fd_require, F_require, m_require, k_require, b_require⟩ := h_require
  have S : FnScope ["thing", "rule", "rows", "t"] ["thing"] (defScope s_lets_record) := ⟨rfl, rfl, rfl, by decide +kernel, rfl, by decide +kernel, by decide +kernel⟩
  refine ⟨f, fd, fn_w F S (fun sls c P h => ?len) (fun cdv A outer s H E r hr => have hx := L2N.passes_call (L2N.takes_of rfl rfl rfl rfl) fun _ _ _ _ h => h; have hp := passes_of rfl; ((pwss_cons (pws_call F_require (hr.mono (by decide)) m_require k_require b_require .nil (fun _ _ => .nil) hx (par_dat (pw_call F_has_shape (hr.mono (by decide)) m_has_shape k_has_shape b_has_shape .nil (fun _ _ => .nil) (par_dat (pw_var 0) par_nil)) (par_dat pw_str (par_dat (pw_neg pw_int) par_nil))))
      (pwss_cons (pws_asg (pw_var 0) (pwg_tup 2 rfl (pwgs_cons (pwg_name 1 S.nd) (pwgs_cons (pwg_name 2 S.nd) pwgs_nil))))
      (pwss_cons (pws_for hp rfl (pwi_range bl.range (pw_callB calW_len call_len bl.len (paw_cons (pw_var 2) paw_nil))) (pwg_name 3 S.nd) (pwss_one (pws_call F_check_row (hr.mono (by decide)) m_check_row k_check_row b_check_row .nil (fun _ _ => .nil) hx (par_dat (pw_var 2) (par_dat (pw_var 3) par_nil)))))
      (pwss_one (pws_ret (pw_callB calW_len call_len bl.len (paw_cons (pw_var 2) paw_nil))))))))) (fun sls c P h => ?data), hm, F.kp, F.bindsN fun _ _ _ _ _ _ us hl => match us, hl with | [_], _ => rfl⟩
  case len =>
    obtain ⟨x, rows, rfl, h⟩ := h
    rfl
  case data =>
    obtain ⟨x, rows, rfl, h⟩ := h
    obtain ⟨hx, hok, h1, h2⟩ := h
    have hz := hok.1
    simp [rho0]
    refine ⟨x, rows, rfl, hx, hok, ?_⟩
    simp [recD]
    refine ⟨by omega, forG_inv (fun k ρ c' => c' = c ∧ (∃ a, ρ = [.dat (.tuple [.str x, rowsT rows]), .dat (.str x), .dat (rowsT rows), a]) ∧ ∀ j < k, ∀ r, rows[j]? = some r → stepOk (rows.take j) r = true) _ 0 _ _ (fun i d hi ρ c Q hI q1 q2 => ?_) ⟨rfl, ⟨_, rfl⟩, fun j hj => absurd hj (Nat.not_lt_zero j)⟩ (fun ρ c' hI => ?_)⟩
    · obtain ⟨rfl, ⟨a, rfl⟩, hpre⟩ := hI
      rw [Nat.zero_add] at hpre q1
      rw [List.getElem?_map, Option.map_eq_some_iff] at hi
      obtain ⟨t, ht, rfl⟩ := hi
      obtain ⟨ht1, ht2⟩ := List.getElem?_eq_some_iff.mp ht
      rw [List.getElem_range] at ht2
      subst ht2
      rw [List.length_range] at ht1
      have hr : rows[i]? = some rows[i] := List.getElem?_eq_getElem ht1
      simp
      refine ⟨rows, i, rows[i], rfl, hok, hr, fun hs => q1 _ _ ⟨rfl, ⟨_, rfl⟩, fun j hj r hr' => ?_⟩, fun hs w a ha => q2 _ _ (by intro ρ; simp) (h2 i _ hr hpre hs w a ha)⟩
      by_cases hji : j = i
      · subst hji
        rw [hr] at hr'
        cases hr'
        exact hs
      · exact hpre j (by omega) r hr'
    · obtain ⟨rfl, ⟨a, rfl⟩, hpre⟩ := hI
      simp
      refine h1 ?_
      unfold allOk
      rw [List.all_eq_true]
      intro t ht
      have htl := List.mem_range.mp ht
      rw [List.getElem?_eq_getElem htl]
      exact hpre t (by simp; exact htl) _ (List.getElem?_eq_getElem htl)
end
end FK
set_option Elab.async false
set_option linter.all false
set_option maxRecDepth 100000
set_option maxHeartbeats 4000000
/-! Defs as promises: asking a record. (Printed by gen2.py from specQ.py.) -/
namespace FK
open PySem PySem.Spec L2
/-- the numbers of the orders -/
def ordersP (rows : List Row) : List Nat := ((rows.zipIdx 0).filter fun x => isOrd x.1).map (·.2)
def natsD (ns : List Nat) : List D := ns.map fun n : Nat => PyData.int (n : Int)
theorem ordAt_iff {rows : List Row} {n : Nat} : ordAt rows n = true ↔ ∃ r, rows[n]? = some r ∧ isOrd r = true := by
  unfold ordAt
  cases rows[n]? with
  | none => simp
  | some r => cases r <;> simp [isOrd]
theorem mem_orders {rows : List Row} {n : Nat} : n ∈ ordersP rows ↔ ordAt rows n = true := by
  unfold ordersP
  rw [ordAt_iff, List.mem_map]
  constructor
  · rintro ⟨⟨r, i⟩, h, rfl⟩
    rw [List.mem_filter] at h
    exact ⟨r, by have := List.mem_zipIdx h.1; simp at this; obtain ⟨h1, h2⟩ := this; rw [h2]; exact List.getElem?_eq_getElem h1, h.2⟩
  · rintro ⟨r, hr, ho⟩
    refine ⟨(r, n), List.mem_filter.mpr ⟨?_, ho⟩, rfl⟩
    rw [List.mem_iff_getElem?]
    exact ⟨n, by simp [hr]⟩
theorem orders_len (rows : List Row) : (ordersP rows).length ≤ rows.length := by
  unfold ordersP
  rw [List.length_map]
  exact Nat.le_trans (List.length_filter_le _ _) (by simp)
theorem orders_lt {rows : List Row} {n : Nat} (h : n ∈ ordersP rows) : n < rows.length := by
  obtain ⟨r, hr, _⟩ := ordAt_iff.mp (mem_orders.mp h)
  exact (List.getElem?_eq_some_iff.mp hr).1
theorem orders_snoc (rows : List Row) (r : Row) : ordersP (rows ++ [r]) = ordersP rows ++ if isOrd r = true then [rows.length] else [] := by
  unfold ordersP
  rw [List.zipIdx_append, List.filter_append, List.map_append]
  congr 1
  cases h : isOrd r <;> simp [h]
theorem PL.nats (ns : List Nat) : PL 1 (.tuple (natsD ns)) := .tuple fun x hx => by
  obtain ⟨n, _, rfl⟩ := List.mem_map.mp hx
  exact .int _
theorem PL.natsL (ns : List Nat) : PL 1 (.list (natsD ns)) := .list fun x hx => by
  obtain ⟨n, _, rfl⟩ := List.mem_map.mp hx
  exact .int _
theorem any_nat (ns : List Nat) (n : Nat) : anyE (natsD ns) (.int (n : Int)) = decide (n ∈ ns) := by
  unfold anyE natsD
  induction ns with
  | nil => rfl
  | cons m ms ih =>
    rw [List.map_cons, List.any_cons, ih]
    have e := (PL.int (m : Int)).eqv (PL.int (n : Int))
    by_cases hx : m = n
    · subst hx
      rw [e.mpr rfl]; simp
    · have h1 : PyData.eqv (.int (m : Int)) (.int (n : Int)) = false := by
        cases q : PyData.eqv (.int (m : Int)) (.int (n : Int)) with
        | false => rfl
        | true => exact absurd (by have := PyData.int.inj (e.mp q); omega) hx
      rw [h1]
      simp; simp [show (n = m) = False from eq_false fun h => hx h.symm]
theorem cutD_15 (a b c d e f : D) : cutD [a, b, c, d, e, f] (some 1) (some 5) = [b, c, d, e] := rfl
abbrev g_orders_of : Gs := fun sls c P => ∃ (x : Str) (rows : List Row), sls = [.dat (recD x rows)] ∧ rowsOk rows ∧ P (.rt (.tuple (natsD (ordersP rows)))) c
abbrev g_require_order : Gs := fun sls c P => ∃ (x : Str) (rows : List Row) (n : Nat), sls = [.dat (recD x rows), .dat (.int n)] ∧ rowsOk rows ∧ ordAt rows n = true ∧ P (.rt .none) c
abbrev g_is_place : Gs := fun sls c P => ∃ (x : Str) (rows : List Row) (t : Nat), sls = [.dat (recD x rows), .dat (.int t), .dat (.int 0)] ∧ rowsOk rows ∧ t ≤ rows.length ∧ P (.rt (.bool true)) c
abbrev g_require_place : Gs := fun sls c P => ∃ (x : Str) (rows : List Row) (t : Nat), sls = [.dat (recD x rows), .dat (.int t), .dat (.int 0)] ∧ rowsOk rows ∧ t ≤ rows.length ∧ P (.rt .none) c
abbrev g_order_at : Gs := fun sls c P => ∃ (x : Str) (rows : List Row) (n : Nat) (m : Str) (b : Bool) (p s : Int) (fs : List Fill), sls = [.dat (recD x rows), .dat (.int n)] ∧ rowsOk rows ∧ rows[n]? = some (.order m b p s fs) ∧ P (.rt (.tuple [.str m, sideD b, .int p, .int s])) c
abbrev g_rest_at : Gs := fun sls c P => ∃ (x : Str) (rows : List Row) (n t : Nat), sls = [.dat (recD x rows), .dat (.int n), .dat (.int t), .dat (.int 0)] ∧ rowsOk rows ∧ t ≤ rows.length ∧ ordAt rows n = true ∧ P (.rt (.int (sizeAt rows n - sold (rows.take t) n))) c
abbrev g_open_at : Gs := fun sls c P => ∃ (x : Str) (rows : List Row) (t : Nat), sls = [.dat (recD x rows), .dat (.int t), .dat (.int 0)] ∧ rowsOk rows ∧ t ≤ rows.length ∧ P (.rt (.tuple (natsD ((ordersP rows).filter fun n => openP (rows.take t) [] n)))) c
abbrev g_is_closed_at : Gs := fun sls c P => ∃ (x : Str) (rows : List Row) (t : Nat), sls = [.dat (recD x rows), .dat (.int t)] ∧ rowsOk rows ∧ t ≤ rows.length ∧ P (.rt (.bool (shutP (rows.take t)))) c
abbrev g_traded : Gs := fun sls c P => ∃ (x : Str) (rows : List Row) (n : Nat), sls = [.dat (recD x rows), .dat (.int n)] ∧ rowsOk rows ∧ ordAt rows n = true ∧ P (.rt (.int (sold rows n))) c
section
variable {P : Program} {w : World} {K : PySem.W.Frag} {mg : Str → Option Value} {base : Heap} {C : Addr} {f : Addr} {fd : FuncData}
theorem ok_orders_of (bl : Bl mg) (cn : Cn K mg)  (F : FunD K "orders_of" "orders_of" (defArgs s_orders_of) (defBody s_orders_of) (defScope s_orders_of) [] [] f fd) (hm : mg "orders_of" = some (.ref f)) : Has P w K mg base C "orders_of" 1 ["record"] g_orders_of := by
  have S : FnScope ["record", "n", "row"] ["record"] (defScope s_orders_of) := ⟨rfl, rfl, rfl, by decide +kernel, rfl, by decide +kernel, by decide +kernel⟩
  refine ⟨f, fd, fn_w F S (fun sls c P h => ?len) (fun cdv A outer s H E r hr => ((pwss_one (pws_ret (pw_callTy calW_tuple call_tuple_of bl.tuple (paw_cons (pw_lc [("n", 1), ("row", 2)] rfl S.nd (pwi_enum bl.enumerate (pw_ix (pw_var 0) pw_int)) (blkOk_by (by kernel_rfl)) (fun _ _ _ _ _ => (pwg_tup 2 rfl (pwgs_cons (pwg_name 1 S.nd) (pwgs_cons (pwg_name 2 S.nd) pwgs_nil)))) (fun _ _ _ _ _ => (pts_one (pwt_cmp opW_eq (op_eqA hr.units) (pw_ix (pw_var 2) pw_int) pw_str (nomark _)))) (fun _ _ _ _ _ => (pw_var 1))) paw_nil)))))) (fun sls c P h => ?data), hm, F.kp, F.bindsN fun _ _ _ _ _ _ us hl => match us, hl with | [_], _ => rfl⟩
  case len =>
    obtain ⟨x, rows, rfl, h⟩ := h
    rfl
  case data =>
    obtain ⟨x, rows, rfl, h⟩ := h
    obtain ⟨hok, h⟩ := h
    have hz : rows.length ≤ LIM := by have := hok.1; unfold LIM; omega
    simp [rho0, recD, rowsT, lcD]
    rw [enum_map]
    refine ⟨by simpa using hz, ?_⟩
    refine lcG_fl (fun x : Row × Nat => PyData.tuple [.int (x.2 : Nat), rowD x.1]) (fun x => isOrd x.1) (fun x => PyData.int (x.2 : Nat)) _ (fun q hq c Q hQ => ?_) ?_
    · obtain ⟨r, i⟩ := q
      simp [ixW_row0]
      cases ho : isOrd r <;> simp [ho] at hQ ⊢ <;> exact hQ
    · simp
      simpa [natsD, ordersP, Function.comp_def] using h
theorem ok_require_order (bl : Bl mg) (cn : Cn K mg) (h_is_number : Has P w K mg base C "is_number" 2 ["thing"] g_is_number) (h_orders_of : Has P w K mg base C "orders_of" 1 ["record"] g_orders_of) (F : FunD K "require_order" "require_order" (defArgs s_require_order) (defBody s_require_order) (defScope s_require_order) [] [] f fd) (hm : mg "require_order" = some (.ref f)) : Has P w K mg base C "require_order" 3 ["record", "n"] g_require_order := by
  obtain ⟨f_is_number, fd_is_number, F_is_number, m_is_number, k_is_number, b_is_number⟩ := h_is_number
  obtain ⟨f_orders_of, fd_orders_of, F_orders_of, m_orders_of, k_orders_of, b_orders_of⟩ := h_orders_of
  have S : FnScope ["record", "n"] ["record", "n"] (defScope s_require_order) := ⟨rfl, rfl, rfl, by decide +kernel, rfl, by decide +kernel, by decide +kernel⟩
  refine ⟨f, fd, fn_w F S (fun sls c P h => ?len) (fun cdv A outer s H E r hr => have hu := hu_of' hr; ((pwss_one (pws_if (PW.pt (pww_or (pwt_not (pwt_val (pw_call F_is_number (hr.mono (by decide)) m_is_number k_is_number b_is_number .nil (fun _ _ => .nil) (par_dat (pw_var 1) par_nil)))) (pww_or1 (pwt_cmp opW_notIn (op_notInA hu) (pw_var 1) (pw_call F_orders_of (hr.mono (by decide)) m_orders_of k_orders_of b_orders_of .nil (fun _ _ => .nil) (par_dat (pw_var 0) par_nil)) (by with_unfolding_all rfl))))) (pwss_one pws_never) pwss_nil)))) (fun sls c P h => ?data), hm, F.kp, F.bindsN fun _ _ _ _ _ _ us hl => match us, hl with | [_, _], _ => rfl⟩
  case len =>
    obtain ⟨x, rows, n, rfl, h⟩ := h
    rfl
  case data =>
    obtain ⟨x, rows, n, rfl, h⟩ := h
    obtain ⟨hok, ho, h⟩ := h
    simp [rho0]
    refine ⟨_, rfl, ?_⟩
    simp [numD]
    refine ⟨x, rows, rfl, hok, ?_⟩
    simp
    refine ⟨⟨(PL.int _).shaped (by decide), (PL.natsL _).shaped (by decide)⟩, ?_⟩
    rw [any_nat]
    simp [mem_orders.mpr ho, h]
theorem ok_is_place (bl : Bl mg) (cn : Cn K mg) (h_fills_in : Has P w K mg base C "fills_in" 1 ["row"] g_fills_in) (h_is_number : Has P w K mg base C "is_number" 2 ["thing"] g_is_number) (F : FunD K "is_place" "is_place" (defArgs s_is_place) (defBody s_is_place) (defScope s_is_place) [] [] f fd) (hm : mg "is_place" = some (.ref f)) : Has P w K mg base C "is_place" 3 ["record", "t", "i"] g_is_place := by
  obtain ⟨f_fills_in, fd_fills_in, F_fills_in, m_fills_in, k_fills_in, b_fills_in⟩ := h_fills_in
  obtain ⟨f_is_number, fd_is_number, F_is_number, m_is_number, k_is_number, b_is_number⟩ := h_is_number
  have S : FnScope ["record", "t", "i", "rows"] ["record", "t", "i"] (defScope s_is_place) := ⟨rfl, rfl, rfl, by decide +kernel, rfl, by decide +kernel, by decide +kernel⟩
  refine ⟨f, fd, fn_w F S (fun sls c P h => ?len) (fun cdv A outer s H E r hr => ((pwss_cons (pws_set 3 S.nd (pw_ix (pw_var 0) pw_int))
      (pwss_cons (pws_if (PW.pt (pww_or (pwt_not (pwt_val (pw_call F_is_number (hr.mono (by decide)) m_is_number k_is_number b_is_number .nil (fun _ _ => .nil) (par_dat (pw_var 1) par_nil)))) (pww_or (pwt_not (pwt_val (pw_call F_is_number (hr.mono (by decide)) m_is_number k_is_number b_is_number .nil (fun _ _ => .nil) (par_dat (pw_var 2) par_nil)))) (pww_or1 (pwt_cmp opW_cmp op_gt (pw_var 1) (pw_callB calW_len call_len bl.len (paw_cons (pw_var 3) paw_nil)) (nomark _)))))) (pwss_one (pws_ret pw_bl)) pwss_nil)
      (pwss_one (pws_ret (pw_or (pw_cmp opW_eq (op_eqA hr.units) (pw_var 2) pw_int (nomark _)) (pw_one (pw_and (pw_cmp opW_cmp op_lt (pw_var 1) (pw_callB calW_len call_len bl.len (paw_cons (pw_var 3) paw_nil)) (nomark _)) (pw_one (pw_cmp opW_cmp op_lt (pw_var 2) (pw_callB calW_len call_len bl.len (paw_cons (pw_call F_fills_in (hr.mono (by decide)) m_fills_in k_fills_in b_fills_in .nil (fun _ _ => .nil) (par_dat (pw_ix (pw_var 3) (pw_var 1)) par_nil)) paw_nil)) (nomark _)))))))))))) (fun sls c P h => ?data), hm, F.kp, F.bindsN fun _ _ _ _ _ _ us hl => match us, hl with | [_, _, _], _ => rfl⟩
  case len =>
    obtain ⟨x, rows, t, rfl, h⟩ := h
    rfl
  case data =>
    obtain ⟨x, rows, t, rfl, h⟩ := h
    obtain ⟨hok, ht, h⟩ := h
    simp [rho0, recD]
    refine ⟨_, rfl, ?_⟩
    simp [numD]
    refine ⟨_, rfl, ?_⟩
    simp [numD, rowsT]
    rw [if_neg (by omega)]
    exact h
theorem ok_require_place (bl : Bl mg) (cn : Cn K mg) (h_is_place : Has P w K mg base C "is_place" 3 ["record", "t", "i"] g_is_place) (F : FunD K "require_place" "require_place" (defArgs s_require_place) (defBody s_require_place) (defScope s_require_place) [] [] f fd) (hm : mg "require_place" = some (.ref f)) : Has P w K mg base C "require_place" 4 ["record", "t", "i"] g_require_place := by
  obtain ⟨f_is_place, fd_is_place, F_is_place, m_is_place, k_is_place, b_is_place⟩ := h_is_place
  have S : FnScope ["record", "t", "i"] ["record", "t", "i"] (defScope s_require_place) := ⟨rfl, rfl, rfl, by decide +kernel, rfl, by decide +kernel, by decide +kernel⟩
  refine ⟨f, fd, fn_w F S (fun sls c P h => ?len) (fun cdv A outer s H E r hr => ((pwss_one (pws_if (pwt_not (pwt_val (pw_call F_is_place (hr.mono (by decide)) m_is_place k_is_place b_is_place .nil (fun _ _ => .nil) (par_dat (pw_var 0) (par_dat (pw_var 1) (par_dat (pw_var 2) par_nil)))))) (pwss_one pws_never) pwss_nil)))) (fun sls c P h => ?data), hm, F.kp, F.bindsN fun _ _ _ _ _ _ us hl => match us, hl with | [_, _, _], _ => rfl⟩
  case len =>
    obtain ⟨x, rows, t, rfl, h⟩ := h
    rfl
  case data =>
    obtain ⟨x, rows, t, rfl, h⟩ := h
    obtain ⟨hok, ht, h⟩ := h
    simp [rho0]
    refine ⟨x, rows, t, rfl, hok, ht, ?_⟩
    simpa using h
theorem ok_order_at (bl : Bl mg) (cn : Cn K mg) (h_require_order : Has P w K mg base C "require_order" 3 ["record", "n"] g_require_order) (F : FunD K "order_at" "order_at" (defArgs s_order_at) (defBody s_order_at) (defScope s_order_at) [] [] f fd) (hm : mg "order_at" = some (.ref f)) : Has P w K mg base C "order_at" 4 ["record", "n"] g_order_at := by
  obtain ⟨f_require_order, fd_require_order, F_require_order, m_require_order, k_require_order, b_require_order⟩ := h_require_order
  have S : FnScope ["record", "n"] ["record", "n"] (defScope s_order_at) := ⟨rfl, rfl, rfl, by decide +kernel, rfl, by decide +kernel, by decide +kernel⟩
  refine ⟨f, fd, fn_w F S (fun sls c P h => ?len) (fun cdv A outer s H E r hr => have hx := L2N.passes_call (L2N.takes_of rfl rfl rfl rfl) fun _ _ _ _ h => h; ((pwss_cons (pws_call F_require_order (hr.mono (by decide)) m_require_order k_require_order b_require_order .nil (fun _ _ => .nil) hx (par_dat (pw_var 0) (par_dat (pw_var 1) par_nil)))
      (pwss_one (pws_ret (pw_slice (pw_ix (pw_ix (pw_var 0) pw_int) (pw_var 1)) (pwo_some pw_int) (pwo_some pw_int))))))) (fun sls c P h => ?data), hm, F.kp, F.bindsN fun _ _ _ _ _ _ us hl => match us, hl with | [_, _], _ => rfl⟩
  case len =>
    obtain ⟨x, rows, n, m, b, p, s, fs, rfl, h⟩ := h
    rfl
  case data =>
    obtain ⟨x, rows, n, m, b, p, s, fs, rfl, h⟩ := h
    obtain ⟨hok, hr, h⟩ := h
    simp [rho0]
    refine ⟨x, rows, n, rfl, hok, ordAt_iff.mpr ⟨_, hr, rfl⟩, ?_⟩
    simp [recD, ixW_rowsT hr, rowD, cutD_15]
    exact h
theorem ok_rest_at (bl : Bl mg) (cn : Cn K mg) (h_require_order : Has P w K mg base C "require_order" 3 ["record", "n"] g_require_order) (h_require_place : Has P w K mg base C "require_place" 4 ["record", "t", "i"] g_require_place) (h_rest_of : Has P w K mg base C "rest_of" 3 ["rows", "n", "t", "i"] g_rest_of) (F : FunD K "rest_at" "rest_at" (defArgs s_rest_at) (defBody s_rest_at) (defScope s_rest_at) [.int 0] [] f fd) (hm : mg "rest_at" = some (.ref f)) : HasD P w K mg base C "rest_at" 5 ["record", "n", "t", "i"] g_rest_at := by
  obtain ⟨f_require_order, fd_require_order, F_require_order, m_require_order, k_require_order, b_require_order⟩ := h_require_order
  obtain ⟨f_require_place, fd_require_place, F_require_place, m_require_place, k_require_place, b_require_place⟩ := h_require_place
  obtain ⟨f_rest_of, fd_rest_of, F_rest_of, m_rest_of, k_rest_of, b_rest_of⟩ := h_rest_of
  have S : FnScope ["record", "n", "t", "i"] ["record", "n", "t", "i"] (defScope s_rest_at) := ⟨rfl, rfl, rfl, by decide +kernel, rfl, by decide +kernel, by decide +kernel⟩
  obtain ⟨ds, v1, b1⟩ := F.binds1 (ps := ["record", "n", "t", "i"]) 3 0 (by simp) rfl (fun T kV doc pm an cdv ct us its hl hi => match us, its, hl, hi with | [_, _, _], [_], _, _ => ⟨_, rfl, rfl⟩)
  obtain ⟨ds0, v0, b0⟩ := F.binds1 (ps := ["record", "n", "t", "i"]) 4 1 (by simp) rfl (fun T kV doc pm an cdv ct us its hl hi => match us, its, hl, hi with | [_, _, _, _], [_], _, _ => ⟨_, rfl, rfl⟩)
  cases v0
  refine ⟨f, fd, ds, fn_w F S (fun sls c P h => ?len) (fun cdv A outer s H E r hr => have hx := L2N.passes_call (L2N.takes_of rfl rfl rfl rfl) fun _ _ _ _ h => h; ((pwss_cons (pws_call F_require_order (hr.mono (by decide)) m_require_order k_require_order b_require_order .nil (fun _ _ => .nil) hx (par_dat (pw_var 0) (par_dat (pw_var 1) par_nil)))
      (pwss_cons (pws_call F_require_place (hr.mono (by decide)) m_require_place k_require_place b_require_place .nil (fun _ _ => .nil) hx (par_dat (pw_var 0) (par_dat (pw_var 2) (par_dat (pw_var 3) par_nil))))
      (pwss_one (pws_ret (pw_call F_rest_of (hr.mono (by decide)) m_rest_of k_rest_of b_rest_of .nil (fun _ _ => .nil) (par_dat (pw_ix (pw_var 0) pw_int) (par_dat (pw_var 1) (par_dat (pw_var 2) (par_dat (pw_var 3) par_nil))))))))))) (fun sls c P h => ?data), hm, F.kp, b0, v1, b1⟩
  case len =>
    obtain ⟨x, rows, n, t, rfl, h⟩ := h
    rfl
  case data =>
    obtain ⟨x, rows, n, t, rfl, h⟩ := h
    obtain ⟨hok, ht, ho, h⟩ := h
    simp [rho0]
    refine ⟨x, rows, n, rfl, hok, ho, x, rows, t, rfl, hok, ht, ?_⟩
    simp [recD, use_rest_of0 hok ht ho]
    exact h
theorem ok_open_at (bl : Bl mg) (cn : Cn K mg) (h_is_open : Has P w K mg base C "is_open" 4 ["rows", "n", "t", "i"] g_is_open) (h_orders_of : Has P w K mg base C "orders_of" 1 ["record"] g_orders_of) (h_require_place : Has P w K mg base C "require_place" 4 ["record", "t", "i"] g_require_place) (F : FunD K "open_at" "open_at" (defArgs s_open_at) (defBody s_open_at) (defScope s_open_at) [.int 0] [] f fd) (hm : mg "open_at" = some (.ref f)) : HasD P w K mg base C "open_at" 5 ["record", "t", "i"] g_open_at := by
  obtain ⟨f_is_open, fd_is_open, F_is_open, m_is_open, k_is_open, b_is_open⟩ := h_is_open
  obtain ⟨f_orders_of, fd_orders_of, F_orders_of, m_orders_of, k_orders_of, b_orders_of⟩ := h_orders_of
  obtain ⟨f_require_place, fd_require_place, F_require_place, m_require_place, k_require_place, b_require_place⟩ := h_require_place
  have S : FnScope ["record", "t", "i", "n"] ["record", "t", "i"] (defScope s_open_at) := ⟨rfl, rfl, rfl, by decide +kernel, rfl, by decide +kernel, by decide +kernel⟩
  obtain ⟨ds, v1, b1⟩ := F.binds1 (ps := ["record", "t", "i"]) 2 0 (by simp) rfl (fun T kV doc pm an cdv ct us its hl hi => match us, its, hl, hi with | [_, _], [_], _, _ => ⟨_, rfl, rfl⟩)
  obtain ⟨ds0, v0, b0⟩ := F.binds1 (ps := ["record", "t", "i"]) 3 1 (by simp) rfl (fun T kV doc pm an cdv ct us its hl hi => match us, its, hl, hi with | [_, _, _], [_], _, _ => ⟨_, rfl, rfl⟩)
  cases v0
  refine ⟨f, fd, ds, fn_w F S (fun sls c P h => ?len) (fun cdv A outer s H E r hr => have hx := L2N.passes_call (L2N.takes_of rfl rfl rfl rfl) fun _ _ _ _ h => h; ((pwss_cons (pws_call F_require_place (hr.mono (by decide)) m_require_place k_require_place b_require_place .nil (fun _ _ => .nil) hx (par_dat (pw_var 0) (par_dat (pw_var 1) (par_dat (pw_var 2) par_nil))))
      (pwss_one (pws_ret (pw_callTy calW_tuple call_tuple_of bl.tuple (paw_cons (pw_lc [("n", 3)] rfl S.nd (pwi_tup (pw_call F_orders_of (hr.mono (by decide)) m_orders_of k_orders_of b_orders_of .nil (fun _ _ => .nil) (par_dat (pw_var 0) par_nil))) (blkOk_by (by kernel_rfl)) (fun _ _ _ _ _ => (pwg_name 3 S.nd)) (fun _ _ _ _ _ => (pts_one (pwt_val (pw_call F_is_open (hr.mono (by decide)) m_is_open k_is_open b_is_open .nil (fun _ _ => .nil) (par_dat (pw_ix (pw_var 0) pw_int) (par_dat (pw_var 3) (par_dat (pw_var 1) (par_dat (pw_var 2) par_nil)))))))) (fun _ _ _ _ _ => (pw_var 3))) paw_nil))))))) (fun sls c P h => ?data), hm, F.kp, b0, v1, b1⟩
  case len =>
    obtain ⟨x, rows, t, rfl, h⟩ := h
    rfl
  case data =>
    obtain ⟨x, rows, t, rfl, h⟩ := h
    obtain ⟨hok, ht, h⟩ := h
    have hz : (ordersP rows).length ≤ LIM := by have := hok.1; have := orders_len rows; unfold LIM; omega
    simp [rho0]
    refine ⟨x, rows, t, rfl, hok, ht, ?_⟩
    simp [lcD]
    refine ⟨x, rows, rfl, hok, ?_⟩
    simp
    refine ⟨by simpa [natsD] using hz, ?_⟩
    refine lcG_fl (fun n : Nat => PyData.int (n : Int)) (fun n => openP (rows.take t) [] n) (fun n => PyData.int (n : Int)) _ (fun n hn c Q hQ => ?_) ?_
    · simp [recD, use_is_open0 hok ht]
      cases ho : openP (rows.take t) [] n <;> simp [ho] at hQ ⊢ <;> exact hQ
    · simp
      exact h
theorem ok_is_closed_at (bl : Bl mg) (cn : Cn K mg) (h_is_shut : Has P w K mg base C "is_shut" 1 ["rows", "t"] g_is_shut) (h_require_place : Has P w K mg base C "require_place" 4 ["record", "t", "i"] g_require_place) (F : FunD K "is_closed_at" "is_closed_at" (defArgs s_is_closed_at) (defBody s_is_closed_at) (defScope s_is_closed_at) [] [] f fd) (hm : mg "is_closed_at" = some (.ref f)) : Has P w K mg base C "is_closed_at" 5 ["record", "t"] g_is_closed_at := by
  obtain ⟨f_is_shut, fd_is_shut, F_is_shut, m_is_shut, k_is_shut, b_is_shut⟩ := h_is_shut
  obtain ⟨f_require_place, fd_require_place, F_require_place, m_require_place, k_require_place, b_require_place⟩ := h_require_place
  have S : FnScope ["record", "t"] ["record", "t"] (defScope s_is_closed_at) := ⟨rfl, rfl, rfl, by decide +kernel, rfl, by decide +kernel, by decide +kernel⟩
  refine ⟨f, fd, fn_w F S (fun sls c P h => ?len) (fun cdv A outer s H E r hr => have hx := L2N.passes_call (L2N.takes_of rfl rfl rfl rfl) fun _ _ _ _ h => h; ((pwss_cons (pws_call F_require_place (hr.mono (by decide)) m_require_place k_require_place b_require_place .nil (fun _ _ => .nil) hx (par_dat (pw_var 0) (par_dat (pw_var 1) (par_dat pw_int par_nil))))
      (pwss_one (pws_ret (pw_call F_is_shut (hr.mono (by decide)) m_is_shut k_is_shut b_is_shut .nil (fun _ _ => .nil) (par_dat (pw_ix (pw_var 0) pw_int) (par_dat (pw_var 1) par_nil)))))))) (fun sls c P h => ?data), hm, F.kp, F.bindsN fun _ _ _ _ _ _ us hl => match us, hl with | [_, _], _ => rfl⟩
  case len =>
    obtain ⟨x, rows, t, rfl, h⟩ := h
    rfl
  case data =>
    obtain ⟨x, rows, t, rfl, h⟩ := h
    obtain ⟨hok, ht, h⟩ := h
    simp [rho0]
    refine ⟨x, rows, t, rfl, hok, ht, ?_⟩
    simp [recD, use_is_shut hok ht]
    exact h
theorem ok_traded (bl : Bl mg) (cn : Cn K mg) (h_require_order : Has P w K mg base C "require_order" 3 ["record", "n"] g_require_order) (h_rest_of : Has P w K mg base C "rest_of" 3 ["rows", "n", "t", "i"] g_rest_of) (F : FunD K "traded" "traded" (defArgs s_traded) (defBody s_traded) (defScope s_traded) [] [] f fd) (hm : mg "traded" = some (.ref f)) : Has P w K mg base C "traded" 4 ["record", "n"] g_traded := by
  obtain ⟨f_require_order, fd_require_order, F_require_order, m_require_order, k_require_order, b_require_order⟩ := h_require_order
  obtain ⟨f_rest_of, fd_rest_of, F_rest_of, m_rest_of, k_rest_of, b_rest_of⟩ := h_rest_of
  have S : FnScope ["record", "n"] ["record", "n"] (defScope s_traded) := ⟨rfl, rfl, rfl, by decide +kernel, rfl, by decide +kernel, by decide +kernel⟩
  refine ⟨f, fd, fn_w F S (fun sls c P h => ?len) (fun cdv A outer s H E r hr => have hx := L2N.passes_call (L2N.takes_of rfl rfl rfl rfl) fun _ _ _ _ h => h; ((pwss_cons (pws_call F_require_order (hr.mono (by decide)) m_require_order k_require_order b_require_order .nil (fun _ _ => .nil) hx (par_dat (pw_var 0) (par_dat (pw_var 1) par_nil)))
      (pwss_one (pws_ret (pw_op opW_sub op_sub (pw_ix (pw_ix (pw_ix (pw_var 0) pw_int) (pw_var 1)) pw_int) (pw_call F_rest_of (hr.mono (by decide)) m_rest_of k_rest_of b_rest_of .nil (fun _ _ => .nil) (par_dat (pw_ix (pw_var 0) pw_int) (par_dat (pw_var 1) (par_dat (pw_callB calW_len call_len bl.len (paw_cons (pw_ix (pw_var 0) pw_int) paw_nil)) (par_dat pw_int par_nil))))))))))) (fun sls c P h => ?data), hm, F.kp, F.bindsN fun _ _ _ _ _ _ us hl => match us, hl with | [_, _], _ => rfl⟩
  case len =>
    obtain ⟨x, rows, n, rfl, h⟩ := h
    rfl
  case data =>
    obtain ⟨x, rows, n, rfl, h⟩ := h
    obtain ⟨hok, ho, h⟩ := h
    obtain ⟨m, b, p, s, fs, hr⟩ := ordAt_get ho
    simp [rho0]
    refine ⟨x, rows, n, rfl, hok, ho, ?_⟩
    simp [recD, ixW_rowsT hr, rowD]
    simp only [rowsT, lenW_tup, rW_def, List.length_map]
    rw [← rowsT, use_rest_of0 hok (Nat.le_refl _) ho]
    simp
    have e : sizeAt rows n = s := by unfold sizeAt; rw [hr]
    rw [e, show s - (s - sold rows n) = sold rows n by omega]
    exact h
end
end FK
set_option Elab.async false
set_option linter.all false
set_option maxRecDepth 100000
set_option maxHeartbeats 4000000
/-! Sets of texts: comprehension, set(xs), sorted. (The shape of the proofs is that of the library's sets of truth values and of ints.) -/
namespace FK
open PySem PySem.Spec L2 PyProof.Rows PySem.Froz
open PySem (strKind)
def keyS (e : Int × Value) : Str := match e.2 with | .str k _ => k | _ => Str.empty
def GoodS (w : World) (e : Int × Value) : Prop := ∃ k tk, e.2 = Value.str k tk ∧ e.1 = hashStr w k
/-- the set of texts at a: S its members, n their number; its table rises and can be walked -/
def SetS (w : World) (h : Heap) (a : Addr) (S : Str → Bool) (n : Nat) : Prop :=
  ∃ o es ep t, h.get? a = some o ∧ o.ExactSet ∧ o.data = .set es ep t ∧ (∀ e ∈ es.toList, GoodS w e) ∧ (es.toList.map keyS).Nodup ∧ (∀ k, S k = true ↔ k ∈ es.toList.map keyS) ∧
    es.size < scanBound ∧ t.fits es.size = true ∧ es.size = n ∧ Ris t.place.toList ∧ (w.params.followText "set-order" = true ∨ t.led = true)
section
variable {P : Program} {w : World} {h h' : Heap} {a : Addr} {S : Str → Bool} {n : Nat}

theorem SetS.at (R : SetS w h a S n) (k : ∀ o, h.get? a = some o → h'.get? a = some o) : SetS w h' a S n := by
  obtain ⟨o, es, ep, t, ho, r⟩ := R
  exact ⟨o, es, ep, t, k o ho, r⟩
theorem SetS.lt (R : SetS w h a S n) : a < h.objs.size := by
  obtain ⟨o, es, ep, t, ho, r⟩ := R
  exact Heap.lt_size ho
theorem SetS.congr {S' : Str → Bool} (R : SetS w h a S n) (e : ∀ k, S' k = S k) : SetS w h a S' n := by
  have q : S' = S := funext e
  rw [q]; exact R
theorem goodS_elems {l : List (Int × Value)} (g : ∀ e ∈ l, GoodS w e) : ElemsOf (strKind P w) l := fun e he => by
  obtain ⟨k, tk, h1, h2⟩ := g e he
  exact ⟨⟨k, by rw [h1]; exact is_str k tk, h2⟩, by rw [h1] <;> rfl⟩
theorem goodS_is {e : Int × Value} (g : GoodS w e) (k : Str) : (strKind P w).is k e.2 = true ↔ keyS e = k := by
  obtain ⟨k0, tk, h1, _⟩ := g
  unfold keyS
  rw [h1]
  exact ⟨fun z => (strKind P w).inj (.str k0 tk) k0 k (is_str k0 tk) z, fun z => by rw [← z]; exact is_str k0 tk⟩
theorem goodS_mem {l : List (Int × Value)} (g : ∀ e ∈ l, GoodS w e) (k : Str) : k ∈ l.map keyS ↔ ∃ e ∈ l, (strKind P w).is k e.2 = true := by
  rw [List.mem_map]
  constructor
  · rintro ⟨e, he, q⟩
    exact ⟨e, he, (goodS_is (g e he) k).2 q⟩
  · rintro ⟨e, he, q⟩
    exact ⟨e, he, (goodS_is (g e he) k).1 q⟩
theorem SetS.setOf (R : SetS w h a S n) : h.SetOf (strKind P w) a S n := by
  obtain ⟨o, es, ep, t, ho, hx, hd, g, nd, hm, hb, hf, hn, _⟩ := R
  exact ⟨o, es, ep, t, ho, hx, hd, goodS_elems g, fun k => (hm k).trans (goodS_mem g k), hb, hf, hn⟩
end
section
variable {P : Program} {w : World} {A : Around} {E : Value → Shared → Prop} {s : Shared} {a : Addr} {S : Str → Bool} {n : Nat}

/-! ### add -/
theorem storeS_at {h : Heap} {a : Addr} {o : Obj} {es es' : Array (Int × Value)} {ep : Nat} {t t' : SetTable} (ho : h.get? a = some o) (hd : o.data = .set es ep t) :
    (h.update a (Obj.putSet es' t')).get? a = some { o with data := .set es' (ep + 1) t' } := by
  have q := Heap.get?_update_self (Obj.putSet es' t') ho (by rw [putSet_of es' t' hd]; rfl)
  rw [putSet_of es' t' hd] at q
  exact q

theorem setS_add_tail {g : Bool → Sem Unit} (hg : ∀ (b : Bool) (s₁ : Shared) (Q' : Unit → Shared → Prop), Q' () s₁ → wpAny (model P w) A (g b) Q' E s₁)
    {o : Obj} {es : Array (Int × Value)} {ep : Nat} {t : SetTable} (ho : s.heap.get? a = some o) (hex : o.ExactSet) (hd : o.data = .set es ep t)
    {es1 : Array (Int × Value)} {t2 : SetTable} {S' : Str → Bool} (g1 : ∀ e ∈ es1.toList, GoodS w e) (nd1 : (es1.toList.map keyS).Nodup) (m1 : ∀ k, S' k = true ↔ k ∈ es1.toList.map keyS)
    (hb1 : es1.size < scanBound) (hf2 : t2.fits es1.size = true) (hr : Ris t2.place.toList) (hl : w.params.followText "set-order" = true ∨ t2.led = true) {wasDummy : Bool} {R : Option Bool → Shared → Prop}
    (hR : ∀ h', Heap.SameBut a s.heap h' → SetS w h' a S' es1.size → R (some true) { s with heap := h' }) :
    wpAny (model P w) A (do
        storeSet a es1 t2
        if (!wasDummy && t2.tooFull) = true then do
            g (relayAll t2 es1 (SetTable.grown es1.size)).2.2
            storeSet a (relayAll t2 es1 (SetTable.grown es1.size)).1 (relayAll t2 es1 (SetTable.grown es1.size)).2.1
            pure (some true)
          else pure (some true)) R E s := by
  refine wpAny_bind (wpAny_storeSet_of ho hd ?_ (fits_of_scanBound hb1))
  have ho1 := storeS_at (es' := es1) (t' := t2) ho hd
  have sb1 := Heap.SameBut.update s.heap a (Obj.putSet es1 t2)
  split
  · have pm := relayAll_perm t2 es1 (SetTable.grown es1.size)
    have hf3 := relayAll_fits t2 es1 (SetTable.grown es1.size)
    have hr3 := relayAll_ris t2 es1 (SetTable.grown es1.size)
    have hl3 := relayAll_led t2 es1 (SetTable.grown es1.size)
    generalize relayAll t2 es1 (SetTable.grown es1.size) = Z at pm hf3 hr3 hl3 ⊢
    obtain ⟨es2, t3, gave⟩ := Z
    dsimp only at pm hf3 hr3 hl3 ⊢
    have hsz : es2.size = es1.size := by rw [← Array.length_toList, pm.length_eq, Array.length_toList]
    have hb2 : es2.size < scanBound := by rw [hsz]; exact hb1
    refine wpAny_bind (hg _ _ _ ?_)
    refine wpAny_bind (wpAny_storeSet_of ho1 rfl ?_ (fits_of_scanBound hb2))
    have ho2 := storeS_at (es' := es2) (t' := t3) ho1 rfl
    refine wpAny_pure (hR _ (sb1.trans (Heap.SameBut.update _ a _)) ?_)
    exact ⟨_, es2, _, t3, ho2, hex, rfl, fun e he => g1 e (pm.mem_iff.mp he), (pm.map keyS).nodup_iff.mpr nd1, fun k => (m1 k).trans (pm.map keyS).mem_iff.symm, hb2, hf3, hsz, hr3,
      hl.imp id fun z => by rw [hl3]; exact z⟩
  · exact wpAny_pure (hR _ sb1 ⟨_, es1, _, t2, ho1, hex, rfl, g1, nd1, m1, hb1, hf2, rfl, hr, hl⟩)

theorem setS_add_hashed {k : Str} {tk : Tok} {Q : Bool → Shared → Prop} (R : SetS w s.heap a S n) (room : n + 1 < scanBound)
    (hQ : ∀ h', Heap.SameBut a s.heap h' → SetS w h' a (fun j => S j || decide (j = k)) (if S k = true then n else n + 1) → Q (!S k) { s with heap := h' }) :
    wpAny (model P w) A (setAddHashed a (.str k tk) ((strKind P w).hash k)) Q E s := by
  obtain ⟨o, es, ep, t, ho, hex, hd, g, nd, hm, hb, hf, hn, hr, hl⟩ := R
  have hkey : (strKind P w).is k (.str k tk) = true := is_str k tk
  have hsc : (Value.str k tk).scannable = true := rfl
  have hel : ElemsOf (strKind P w) es.toList := goodS_elems g
  unfold setAddHashed setAddHashedIn
  refine wpAny_holding (wpAny_bind (wpAny_setState_of ho hd hf ?_))
  dsimp only
  rw [byScan_of hsc hb hel]
  simp only [↓reduceIte]
  unfold setAddByScan
  refine wpAny_bind ?_
  refine wpAny_bind (wpAny_rule ?_)
  refine wpAny_bind (wpAny_setScan_of hkey ho hd hf hel ?_)
  cases hfi : List.findIdx? (fun e => (strKind P w).is k e.2) es.toList with
  | some j =>
    dsimp only
    obtain ⟨hj, pj, _⟩ := List.findIdx?_eq_some_iff_getElem.mp hfi
    have hSk : S k = true := (hm k).2 ((goodS_mem (P := P) (w := w) g k).2 ⟨es.toList[j], List.getElem_mem hj, pj⟩)
    refine wpAny_pure (wpAny_pure ?_)
    have q := hQ s.heap (Heap.SameBut.refl a s.heap) ⟨o, es, ep, t, ho, hex, hd, g, nd, fun i => by
      rw [Bool.or_eq_true, decide_eq_true_eq, ← hm i]
      exact ⟨fun z => z.elim id (fun e => e ▸ hSk), .inl⟩, hb, hf, by rw [if_pos hSk]; exact hn, hr, hl⟩
    rw [hSk] at q
    exact q
  | none =>
    dsimp only
    have hnk : k ∉ es.toList.map keyS := fun z => by
      obtain ⟨e, he, q⟩ := (goodS_mem (P := P) (w := w) g k).1 z
      have c := List.findIdx?_eq_none_iff.mp hfi e he
      rw [q] at c
      cases c
    have hSk : S k = false := by
      cases q : S k with
      | false => rfl
      | true => exact absurd ((hm k).1 q) hnk
    have hgw : ∀ (b : Bool) {s₁ : Shared} {Q' : Unit → Shared → Prop}, Q' () s₁ → wpAny (model P w) A (match b with | true => rule "set.scan.the-table-gave-way" | false => pure ()) Q' E s₁ :=
      fun b s₁ Q' q => by cases b <;> first | exact wpAny_pure q | exact wpAny_rule q
    have pm := layNew_perm t es ((strKind P w).hash k) (.str k tk)
    have hf1 := layNew_fits t es ((strKind P w).hash k) (.str k tk)
    have hr1 := layNew_ris t es ((strKind P w).hash k) (.str k tk) hr
    have hl1 := layNew_led t es ((strKind P w).hash k) (.str k tk)
    generalize layNew t es ((strKind P w).hash k) (.str k tk) = Z at pm hf1 hr1 hl1 ⊢
    obtain ⟨es1, t1, wasDummy, gave⟩ := Z
    dsimp only at pm hf1 hr1 hl1 ⊢
    rw [Array.toList_push] at pm
    have pc : es1.toList.Perm (((strKind P w).hash k, Value.str k tk) :: es.toList) := pm.trans (List.perm_append_singleton _ _)
    have pk : (es1.toList.map keyS).Perm (k :: es.toList.map keyS) := pc.map keyS
    have g1 : ∀ e ∈ es1.toList, GoodS w e := fun e he => by
      rcases List.mem_cons.mp (pc.mem_iff.mp he) with z | z
      · rw [z]; exact ⟨k, tk, rfl, rfl⟩
      · exact g e z
    have nd1 : (es1.toList.map keyS).Nodup := pk.nodup_iff.mpr (List.nodup_cons.mpr ⟨hnk, nd⟩)
    have m1 : ∀ i, (S i || decide (i = k)) = true ↔ i ∈ es1.toList.map keyS := fun i => by
      rw [Bool.or_eq_true, decide_eq_true_eq, hm i, pk.mem_iff, List.mem_cons]
      exact Or.comm
    have hsz : es1.size = n + 1 := by rw [← Array.length_toList, pc.length_eq, List.length_cons, Array.length_toList, hn]
    have hb1 : es1.size < scanBound := by rw [hsz]; exact room
    have hled : w.params.followText "set-order" = true ∨ t1.led = true := hl.imp id fun z => by rw [hl1]; exact z
    have fin : ∀ h', Heap.SameBut a s.heap h' → SetS w h' a (fun j => S j || decide (j = k)) es1.size → Q true { s with heap := h' } := fun h' sb r => by
      have q := hQ h' sb
      rw [hSk] at q
      rw [hsz] at r
      exact q r
    refine wpAny_bind (hgw _ ?_)
    split
    · refine wpAny_bind ?_
      rw [hashByValue_scannable 8 hsc]
      refine wpAny_pure ?_
      refine setS_add_tail ?_ ho hex hd g1 nd1 m1 hb1 ?_ ?_ ?_ ?_
      · intro b s₁ Q' q; cases b <;> first | exact wpAny_pure q | exact wpAny_rule q
      · first | (split <;> first | exact hf1 | exact SetTable.fits_plain_off hf1) | exact hf1
      · first | (split <;> exact hr1) | exact hr1
      · first | (split <;> exact hled) | exact hled
      · intro h' sb r; dsimp only; exact wpAny_pure (fin h' sb r)
    · refine wpAny_bind (wpAny_pure ?_)
      simp only [↓reduceIte]
      refine setS_add_tail ?_ ho hex hd g1 nd1 m1 hb1 hf1 hr1 hled ?_
      · intro b s₁ Q' q; cases b <;> first | exact wpAny_pure q | exact wpAny_rule q
      · intro h' sb r; dsimp only; exact wpAny_pure (fin h' sb r)

/-- found.add(k) -/
theorem setS_add {k : Str} {tk : Tok} {Q : Value → Shared → Prop} (R : SetS w s.heap a S n) (room : n + 1 < scanBound)
    (hQ : ∀ h', Heap.SameBut a s.heap h' → SetS w h' a (fun j => S j || decide (j = k)) (if S k = true then n else n + 1) → Q .none { s with heap := h', toks := s.toks + 1 }) :
    wpAny (model P w) A (call (.builtin "set.add") [.ref a, .str k tk]) Q E s := by
  have hS : s.heap.SetOf (strKind P w) a S n := R.setOf
  refine wpAny_call_entry F.slot_set_add hS.typeIs F.entry_set_add ?_ (F.args_set_add_2 _ _)
  unfold Builtin.«set.add» Builtin.Frozenset.oneOther
  simp only [List.isEmpty_nil, bind_assoc]
  unfold Builtin.Frozenset.addrOf setAdd
  refine wpAny_bind (wpAny_pure ?_)
  try dsimp only
  refine wpAny_bind (wpAny_pure ?_)
  try dsimp only
  refine wpAny_bind ?_
  refine wpAny_holding ?_
  refine wpAny_bind ((strKind P w).pyHash (is_str k tk) ?_)
  refine setS_add_hashed (s := { s with toks := s.toks + 1 }) R room fun h' sb r => ?_
  show wpAny _ _ (ret Value.none) _ _ _
  exact wpAny_pure ⟨_, rfl, hQ h' sb r⟩

end
section
variable {P : Program} {w : World} {A : Around} {E : Value → Shared → Prop} {s : Shared}
/-! ### a new set -/
theorem setS_fresh {h : Heap} (w : World) : SetS w (h.push { cls := .type "set", dict := none, data := .set #[] 0 (.fresh 0 0 (!w.params.followText "set-order")) }) h.objs.size (fun _ => false) 0 :=
  ⟨_, #[], 0, _, Heap.get?_push_size _ rfl, ⟨rfl, rfl, rfl⟩, rfl, (fun e he => by simp at he), (by simp), (fun k => by simp), (by decide), (by rfl), rfl, List.Pairwise.nil, by
    show _ ∨ (!w.params.followText "set-order") = true
    cases w.params.followText "set-order"
    · exact .inr rfl
    · exact .inl rfl⟩
end
def SetSO (w : World) (a : Addr) (S : Str → Bool) (n : Nat) : HO := .ext fun h => SetS w h a S n
theorem setSO_new {w : World} {P : Program} {H : Hp} {h : Heap} {a : Addr} {S : Str → Bool} {n : Nat} (R : SetS w h a S n) : ObjOk P w H h a (SetSO w a S n) := by
  have ⟨o, _, _, _, ho, _⟩ := R
  exact ⟨R, ⟨o, ho⟩, fun h1 h2 p k => SetS.at p k⟩
section
variable {X : Cx}
theorem setSO_get {pins : List (Addr × Obj)} {σ : L2.St} {H : Hp} {s : Shared} {a : Addr} {S : Str → Bool} {n : Nat} (I : Inv X pins σ H s) (ha : H a = some (SetSO X.w a S n)) : SetS X.w s.heap a S n := (I.hok a _ ha).1
/-- set.add of a truth value -/
theorem addS_ok {pins : List (Addr × Obj)} {σ : L2.St} {H : Hp} {s : Shared} {E : Value → Shared → Prop} {D : Addr} {S : Str → Bool} {n : Nat} {y : Str} {tk : Tok} {Q : Value → Shared → Prop} (I : Inv X pins σ H s) (hD : H D = some (SetSO X.w D S n)) (room : n + 1 < scanBound)
    (h : ∀ s', Inv X pins σ (upd H D (SetSO X.w D (fun j => S j || decide (j = y)) (if S y = true then n else n + 1))) s' → Q .none s') : wpAny (model X.prog X.w) X.A (call (.builtin "set.add") [.ref D, .str y tk]) Q E s := by
  have R := setSO_get I hD
  refine setS_add R room fun h' sb new => ?_
  have he : ∃ u, h'.get? D = some u := by
    have ⟨o, _, _, _, ho, _⟩ := new
    exact ⟨o, ho⟩
  exact h _ (I.write (e := D) (t' := s.toks + 1) (by rw [hD]; trivial) (.inl rfl) (fun b u hb hu => (sb.2 b hb).trans hu) he (setSO_new new))
end
section
variable {X : Cx}
/-- {elt for target in iter if ..}, elt a truth value: D the new set -/
def tScS (w : World) (wi : TI) (g : TG) (tt : TT) (te : TE) (vs : List Nat) : TE := fun σ H Q => wi σ H fun J H1 => ∀ D, H1 D = none → ∃ W : Nat → Nat → Hp → Prop, (∃ m, W 0 m (upd H1 D (SetSO w D (fun _ => false) 0))) ∧ ∀ i m H, W i m H →
  (J.stop i H ∧ Q (.ref D) H) ∨ (J.go i H ∧ ∃ Nx : Hp → Prop, (∀ H', Nx H' → ∃ m', m' < m ∧ W (i + 1) m' H') ∧ ∀ x H', J.yld i H x H' → g x (wipe σ vs) H' fun σ2 H2 => wipe σ2 vs = wipe σ vs ∧ tt σ2 H2 fun b H3 =>
    if b = true then te σ2 H3 fun y H4 => ∃ (c : Str) (S : Str → Bool) (n : Nat), y = .str c ∧ H4 D = some (SetSO w D S n) ∧ n + 1 < scanBound ∧ Nx (upd H4 D (SetSO w D (fun j => S j || decide (j = c)) (if S c = true then n else n + 1))) else Nx H3)
theorem scS_core {pins : List (Addr × Obj)} {s : Shared} {σ : L2.St} {H : Hp} {Q : VK} {elt tg iter : Expr} {ifs : List Expr} {scope : Scope} {own : List (PySem.Str × Nat)} {pos pos' : Pos} {wi : TI} {g : TG} {tt : TT} {te : TE} {use : Option (Value → Sem Unit)} {Qf : Value → Shared → Prop}
    (hc : X.calm = true) (hN : X.N.Nodup) (I : Inv X pins σ H s) (hi : PI X tg iter wi) (ok : BlkOk X.N X.env.scope scope own)
    (hg : ∀ (s : Shared) (H : Hp) (C : Addr) (cl : List (PySem.Str × Addr)) (fp : List Addr), PG (X.blk s H scope (compEnvC scope cl C X.env) fp) tg g) (ht : ∀ (s : Shared) (H : Hp) (C : Addr) (cl : List (PySem.Str × Addr)) (fp : List Addr), PTs (X.blk s H scope (compEnvC scope cl C X.env) fp) ifs tt)
    (he : ∀ (s : Shared) (H : Hp) (C : Addr) (cl : List (PySem.Str × Addr)) (fp : List Addr), PE (X.blk s H scope (compEnvC scope cl C X.env) fp) elt te) (hs : ∀ x, foldedSetIterable iter X.env x = pure x)
    (h : tScS X.w wi g tt te (own.map (·.2)) σ H Q)
    (hRR : ∀ D C s' m H', Inv X pins σ H' s' → Q (.ref D) H' → s'.heap.Ns C m → FpOk X pins H' C → compPost (model X.prog X.w) X.A X.xe use Qf (.ref D) C (.ok .next) s') :
    wpAny (model X.prog X.w) X.A (comprehension (.SetComp elt [⟨tg, iter, ifs, 0⟩] scope pos) scope X.env pos' (newSet (.type "set")) false (eval iter X.env) use) Qf X.xe s := by
  have hfree : ∀ y ∈ scope.names, y.2 = .free → ∃ c, X.env.cells.lookup y.1 = some c := fun y hy e => by
    rcases ok.free y hy e with k | k
    · exact I.ok.has _ (.inl k)
    · exact I.ok.has _ (.inr k)
  refine wpAny_comprehension_free (use := use) rfl hs (closure_ok hfree) ok.kind (fun y hy e => by rw [ok.uniq y hy, e])
    (thn (hi.run pins s σ H _ I h) fun xv s1 hx => thn hx fun itv s2 h2 => ?_)
  obtain ⟨it, fp, tn, J, H2, e, I2, T, st2, f2, q⟩ := h2
  subst e
  refine PpSet.newSet_ok (newEnv_comp ?_)
  generalize hD : s2.heap.objs.size = D
  have hDn : H2 D = none := I2.hok.fresh (Nat.le_of_eq hD)
  obtain ⟨W, ⟨m0, w0⟩, turn⟩ := q D hDn
  -- the new list
  generalize hs3 : ({ s2 with heap := s2.heap.push { cls := .type "set", dict := none, data := .set #[] 0 (.fresh 0 0 (!X.w.params.followText "set-order")) } } : Shared) = s3
  have I3 : Inv X pins σ (upd H2 D (SetSO X.w D (fun _ => false) 0)) s3 := by
    rw [← hs3]
    refine I2.laid (t' := s2.toks) (fun b o e => Heap.get?_push_of_some _ e) (Nat.le_of_eq hD) ?_
    rw [← hD]
    exact setSO_new (setS_fresh X.w)
  have h3 : s3.heap = s2.heap.push { cls := .type "set", dict := none, data := .set #[] 0 (.fresh 0 0 (!X.w.params.followText "set-order")) } := by rw [← hs3]
  have sz : ∀ b ∈ fp, b < s2.heap.objs.size := fun b hb => by
    obtain ⟨o, e, _⟩ := T.obj _ _ st2 b hb
    exact Heap.lt_size e
  have f3 : ∀ b ∈ fp, FpOk X pins (upd H2 D (SetSO X.w D (fun _ => false) 0)) b ∧ b < s3.heap.objs.size := fun b hb => by
    have hlt := sz b hb
    refine ⟨⟨?_, (f2 b hb).2⟩, by rw [h3, Heap.size_push]; exact Nat.lt_succ_of_lt hlt⟩
    rw [upd_ne (by rw [← hD]; exact Nat.ne_of_lt hlt)]
    exact (f2 b hb).1
  have st3 : tn 0 s3.heap := T.keep _ _ _ st2 fun b _ o e => by rw [h3]; exact Heap.get?_push_of_some _ e
  have I4 := block_start I3 ok hN f3
  have pg := hg s3 (upd H2 D (SetSO X.w D (fun _ => false) 0)) s3.heap.objs.size (cellsFrom (s3.heap.objs.size + 1) scope.names (cloFrom X.env.cells scope.names [])) fp
  have pt := ht s3 (upd H2 D (SetSO X.w D (fun _ => false) 0)) s3.heap.objs.size (cellsFrom (s3.heap.objs.size + 1) scope.names (cloFrom X.env.cells scope.names [])) fp
  have pe := he s3 (upd H2 D (SetSO X.w D (fun _ => false) 0)) s3.heap.objs.size (cellsFrom (s3.heap.objs.size + 1) scope.names (cloFrom X.env.cells scope.names [])) fp
  show codeAny _ _ (.compStart (.SetComp elt [⟨tg, iter, ifs, 0⟩] scope pos) 0 (.ref it) (.ref D) (compEnvC scope (cellsFrom (s3.heap.objs.size + 1) scope.names (cloFrom X.env.cells scope.names [])) s3.heap.objs.size X.env)) (compPost (model X.prog X.w) X.A X.xe use Qf (.ref D) s3.heap.objs.size) { s3 with heap := pushCells (s3.heap.push { cls := .type "dict", data := .dict #[] }) scope.names }
  have nfp : ∀ b ∈ fp, (upd H2 D (SetSO X.w D (fun _ => false) 0)) b = none := fun b hb => (f3 b hb).1.1
  generalize hce : compEnvC scope (cellsFrom (s3.heap.objs.size + 1) scope.names (cloFrom X.env.cells scope.names [])) s3.heap.objs.size X.env = ce at I4 pg pt pe ⊢
  have cL : ce.locals = s3.heap.objs.size := by subst hce; rfl
  generalize hH3 : upd H2 D (SetSO X.w D (fun _ => false) 0) = H3 at I3 I4 pg pt pe w0 nfp f3
  generalize hs4 : ({ s3 with heap := pushCells (s3.heap.push { cls := .type "dict", data := .dict #[] }) scope.names } : Shared) = s4 at I4 ⊢
  have st4 : tn 0 s4.heap := T.keep _ _ _ st3 fun b _ o e => by rw [← hs4]; exact pushCells_keeps _ _ _ _ (Heap.get?_push_of_some _ e)
  have stat : ∀ {σ' : L2.St} {H' : Hp} {s' : Shared}, Inv (X.blk s3 H3 scope ce fp) [] σ' H' s' → (∀ b ∈ fp, H' b = none) → ∀ b ∈ fp, FpOk (X.blk s3 H3 scope ce fp) [] H' b := fun {σ' H' s'} I' hn b hb =>
    ⟨hn b hb, (I'.ok.exf b hb).1, I'.ok.exfs b hb, .inl hb, fun x c e => (I'.ok.exf b hb).2 x c e, fun p hp => absurd (show p ∈ ([] : List (Addr × Obj)) ++ [] from hp) (by simp)⟩
  have loop : codeAny (model X.prog X.w) X.A (.compLoop (.SetComp elt [⟨tg, iter, ifs, 0⟩] scope pos) 0 (.ref it) (.ref D) ce) (compPost (model X.prog X.w) X.A X.xe use Qf (.ref D) s3.heap.objs.size) s4 := by
    refine PpSet.compLoopS_any (fun n s' => ∃ i H', Inv (X.blk s3 H3 scope ce fp) [] (wipe σ (own.map (·.2))) H' s' ∧ tn i s'.heap ∧ (∀ b ∈ fp, H' b = none) ∧ W i n H') ?_ m0 ⟨0, H3, I4, st4, nfp, w0⟩
    rintro n s5 ⟨i, H5, I5, st5, n5, w5⟩
    rcases turn i n H5 w5 with ⟨stop, qq⟩ | ⟨go, Nx, hNx, step⟩
    · have td := T.done (X.blk s3 H3 scope ce fp) rfl rfl rfl hc i [] s5 _ H5 (fun _ _ => False) I5 (stat I5 n5) st5 stop
      refine thnF td fun r s6 ⟨hr, I6⟩ => ?_
      subst hr
      -- back in the def's context
      have I7 : Inv X pins σ H5 s6 := I3.call' (ch := fp) I6.os I6.base I6.hok I6.bare fun b hb => ⟨(f3 b hb).1.2.2.2.1, (f3 b hb).1.2.1, (f3 b hb).1.2.2.2.2.1, (f3 b hb).1.2.2.2.2.2⟩
      have nC : H5 s3.heap.objs.size = none := by
        have z : H5 ce.locals = none := I6.free
        rw [cL] at z
        exact z
      obtain ⟨m, hn, _⟩ := I6.loc
      have hn : s6.heap.Ns ce.locals m := hn
      rw [cL] at hn
      exact hRR D s3.heap.objs.size s6 m H5 I7 qq hn (I3.fpOk (Nat.le_refl _) nC)
    · have ti := T.item (X.blk s3 H3 scope ce fp) rfl rfl rfl hc i [] s5 _ H5 (fun _ _ => False) I5 (stat I5 n5) st5 go
      refine thnF ti fun r s6 ⟨u, hr, h6⟩ => ?_
      subst hr
      refine thnF h6 fun _ s7 ⟨x, H7, I7, r7, y7, st7, n7⟩ => ?_
      have I7' := I7.pinned (stat I7 n7) (T.obj _ _ st7)
      refine thnF (pg.run _ s7 _ H7 x u _ I7' r7 (step x H7 y7)) fun _ s8 ⟨σ8, H8, I8, hw8, q8⟩ => ?_
      refine thnF (pt.run _ s8 σ8 H8 _ I8 q8) fun b s9 ⟨H9, I9, q9⟩ => ?_
      -- the turn's end
      have fin : ∀ {s' : Shared} {H' : Hp}, Inv (X.blk s3 H3 scope ce fp) ([] ++ pinsAt fp s7.heap) σ8 H' s' → Nx H' → ∃ m, m < n ∧ ∃ i H', Inv (X.blk s3 H3 scope ce fp) [] (wipe σ (own.map (·.2))) H' s' ∧ tn i s'.heap ∧ (∀ b ∈ fp, H' b = none) ∧ W i m H' := fun {s' H'} I' nx => by
        obtain ⟨m', hm, w'⟩ := hNx H' nx
        have pin' : ∀ b ∈ fp, ∀ o, s7.heap.get? b = some o → s'.heap.get? b = some o ∧ H' b = none := fun b hb o e =>
          let z := I'.pin (b, o) (List.mem_append_right _ (List.mem_append_right _ (mem_pinsAt hb e)))
          ⟨z.1, z.2.1⟩
        have hl : (wipe σ (own.map (·.2))).length = σ8.length := by rw [← hw8, wipe_length]
        refine ⟨m', hm, i + 1, H', (I'.unpinned (pins := [])).weak hl (fun j v e => ?_), T.keep _ _ _ st7 fun b hb o e => (pin' b hb o e).1, fun b hb => ?_, w'⟩
        · rw [← hw8] at e
          exact (wipe_some e).1
        · obtain ⟨o, e, _⟩ := T.obj _ _ st7 b hb
          exact (pin' b hb o e).2
      cases b with
      | false =>
        simp only [Bool.false_eq_true, if_false] at q9 ⊢
        exact fin I9 q9
      | true =>
        simp only [if_true] at q9 ⊢
        refine thnF (pe.run _ s9 σ8 H9 _ I9 q9) fun z s10 ⟨yv, H10, I10, r10, cb, S0, n0, ey, hD10, hz10, nx⟩ => ?_
        subst ey
        obtain ⟨tk, rfl⟩ := (show ∃ tk, z = Value.str cb tk from r10)
        exact addS_ok (X := X.blk s3 H3 scope ce fp) I10 hD10 hz10 fun s11 I11 => fin I11 nx
  exact PpSet.codeAny_compStart_set loop (T.self X.A 0 _ _ _ st4 loop)
/-- as a value -/
theorem pe_scS {elt tg iter : Expr} {ifs : List Expr} {scope : Scope} {own : List (PySem.Str × Nat)} {pos : Pos} {wi : TI} {g : TG} {tt : TT} {te : TE} (hc : X.calm = true) (hN : X.N.Nodup) (hi : PI X tg iter wi) (ok : BlkOk X.N X.env.scope scope own)
    (hg : ∀ (s : Shared) (H : Hp) (C : Addr) (cl : List (PySem.Str × Addr)) (fp : List Addr), PG (X.blk s H scope (compEnvC scope cl C X.env) fp) tg g) (ht : ∀ (s : Shared) (H : Hp) (C : Addr) (cl : List (PySem.Str × Addr)) (fp : List Addr), PTs (X.blk s H scope (compEnvC scope cl C X.env) fp) ifs tt)
    (he : ∀ (s : Shared) (H : Hp) (C : Addr) (cl : List (PySem.Str × Addr)) (fp : List Addr), PE (X.blk s H scope (compEnvC scope cl C X.env) fp) elt te) (hs : ∀ x, foldedSetIterable iter X.env x = pure x := by intro _; rfl) :
    PE X (.SetComp elt [⟨tg, iter, ifs, 0⟩] scope pos) (tScS X.w wi g tt te (own.map (·.2))) := by
  refine ⟨fun pins s σ H Q I h => ?_⟩
  rw [PpSet.eval_SetComp]
  refine scS_core hc hN I hi ok hg ht he hs h fun D C s' m H' I' q hn f => ⟨m, hn, fun h'' sb => ?_⟩
  obtain ⟨f0, f1, f2, f3, f4, f5⟩ := f
  exact ⟨.ref D, H', I'.turned (t' := s'.toks) (fun b o hb e => (sb.2 b hb).trans e) f0 f1 f3 f4 f5, rfl, q⟩
end
/-- over a tuple that the block leaves as it is -/
theorem scS_tup {w : World} {K : PySem.W.Frag} {a : Addr} {xs : List V} {g : TG} {tt : TT} {te : TE} {vs : List Nat} {σ : L2.St} {H1 : Hp} {D : Addr} {Qd : Hp → Prop} (Pv : Nat → Hp → Prop) (h0 : Pv 0 (upd H1 D (SetSO w D (fun _ => false) 0))) (hl : ∀ i H, i ≤ xs.length → Pv i H → SqT K H a xs)
    (hs : ∀ i x H, xs[i]? = some x → Pv i H → g x (wipe σ vs) H fun σ2 H2 => wipe σ2 vs = wipe σ vs ∧ tt σ2 H2 fun b H3 =>
      if b = true then te σ2 H3 fun y H4 => ∃ (c : Str) (S : Str → Bool) (n : Nat), y = .str c ∧ H4 D = some (SetSO w D S n) ∧ n + 1 < scanBound ∧ Pv (i + 1) (upd H4 D (SetSO w D (fun j => S j || decide (j = c)) (if S c = true then n else n + 1))) else Pv (i + 1) H3) (hd : ∀ H, Pv xs.length H → Qd H) :
    ∃ W : Nat → Nat → Hp → Prop, (∃ m, W 0 m (upd H1 D (SetSO w D (fun _ => false) 0))) ∧ ∀ i m H, W i m H →
      ((Itt K a).stop i H ∧ Qd H) ∨ ((Itt K a).go i H ∧ ∃ Nx : Hp → Prop, (∀ H', Nx H' → ∃ m', m' < m ∧ W (i + 1) m' H') ∧ ∀ x H', (Itt K a).yld i H x H' → g x (wipe σ vs) H' fun σ2 H2 => wipe σ2 vs = wipe σ vs ∧ tt σ2 H2 fun b H3 =>
        if b = true then te σ2 H3 fun y H4 => ∃ (c : Str) (S : Str → Bool) (n : Nat), y = .str c ∧ H4 D = some (SetSO w D S n) ∧ n + 1 < scanBound ∧ Nx (upd H4 D (SetSO w D (fun j => S j || decide (j = c)) (if S c = true then n else n + 1))) else Nx H3) := by
  refine ⟨fun i m H => m = xs.length - i ∧ i ≤ xs.length ∧ Pv i H, ⟨xs.length, by simp, Nat.zero_le _, h0⟩, ?_⟩
  rintro i m H ⟨rfl, hi, p⟩
  have q := hl i H hi p
  by_cases hlt : i < xs.length
  · refine .inr ⟨⟨xs, xs[i], q, by simp [hlt]⟩, Pv (i + 1), fun H' p' => ⟨xs.length - (i + 1), by omega, rfl, hlt, p'⟩, fun x H' y => ?_⟩
    obtain ⟨e, y⟩ := y
    subst e
    exact hs i x _ (y xs q) p
  · have e : i = xs.length := by omega
    subst e
    exact .inl ⟨⟨xs, q, Nat.le_refl _⟩, hd H p⟩

section
variable {P : Program} {w : World} {A : Around} {E : Value → Shared → Prop} {s : Shared}
theorem setS_new_at {w : World} {h : Heap} {a : Addr} {ns : List Str} (ho : h.get? a = some { cls := .type "set", dict := none, data := .set #[] 0 (.fresh 0 0 (!w.params.followText "set-order")) }) : SetS w h a (fun j => decide (j ∈ ns.take 0)) 0 :=
  ⟨_, #[], 0, _, ho, ⟨rfl, rfl, rfl⟩, rfl, (fun e he => by simp at he), (by simp), (fun k => by simp), (by decide), (by rfl), rfl, List.Pairwise.nil, by
    show _ ∨ (!w.params.followText "set-order") = true
    cases w.params.followText "set-order"
    · exact .inr rfl
    · exact .inl rfl⟩
theorem set_update_txts {I : Addr} {fp wr : List Addr} {G : Array GenState → Array GenState → Prop} {n : Nat} {Pv : Nat → Value → Prop} {St : Nat → Shared → Prop} {R : Result → Shared → Prop}
    (W : WalksS P w A.in1 I fp wr G n Pv St) (S : Addr) (hSf : S ∉ fp) (ns : List Str) (hn : n = ns.length) (hb : ns.length + 1 < scanBound) (hval : ∀ i v, Pv i v → ∃ k t, ns[i]? = some k ∧ v = .str k t) :
    ∀ (k i : Nat) (s : Shared), n - i = k → i ≤ n → St i s → (∃ c, c ≤ i ∧ SetS w s.heap S (fun j => decide (j ∈ ns.take i)) c) →
      (∀ s' c, Moved (S :: wr) G s s' → c ≤ n → SetS w s'.heap S (fun j => decide (j ∈ ns)) c → R (.ok (.ret .none)) s') →
      codeAny (model P w) A (.builtin "set.update.loop" ⟨[.ref S, .ref I], []⟩) R s := by
  have hSw : S ∉ wr := fun h => hSf (W.sub _ h)
  have hsub : ∀ b ∈ wr, b ∈ S :: wr := fun b hb => List.mem_cons_of_mem _ hb
  intro k
  induction k with
  | zero =>
    intro i s hk' hi hst ⟨c, hc, hS⟩ hR
    have hin : i = n := by omega
    subst hin
    refine codeAny_builtin F.entry_set_update_loop ?_
    rw [Around.under_plainId F.plain_set_update_loop _]
    show wpAny _ A.in1 (pyNext (.ref I) >>= _) _ _ s
    refine wpAny_bind (W.done s _ _ hst fun s' hm => ?_)
    show wpAny _ A.in1 (ret Value.none) _ _ s'
    have e : ns.take i = ns := List.take_of_length_le (by omega)
    rw [e] at hS
    exact wpAny_pure (hR s' c (hm.mono hsub) hc (hS.at fun o e => hm.heap S o hSw e))
  | succ k ih =>
    intro i s hk' hi hst ⟨c, hc, hS⟩ hR
    have hlt : i < n := by omega
    refine codeAny_builtin F.entry_set_update_loop ?_
    rw [Around.under_plainId F.plain_set_update_loop _]
    show wpAny _ A.in1 (pyNext (.ref I) >>= _) _ _ s
    refine wpAny_bind (W.item i s _ _ hlt hst fun v s' hP hst' hm => ?_)
    obtain ⟨z, t, hz, rfl⟩ := hval i v hP
    have hS' : SetS w s'.heap S (fun j => decide (j ∈ ns.take i)) c := hS.at fun o e => hm.heap S o hSw e
    show wpAny _ A.in1 (holding [Value.str z t] (setAdd S (.str z t)) >>= _) _ _ s'
    refine wpAny_bind (wpAny_holding ?_)
    unfold setAdd
    refine wpAny_holding ?_
    refine wpAny_bind ((strKind P w).pyHash (k := z) (is_str _ _) ?_)
    refine setS_add_hashed (s := { s' with toks := s'.toks + 1 }) hS' (by omega) fun h' hsb hS2 => ?_
    have hS3 : SetS w h' S (fun j => decide (j ∈ ns.take (i + 1))) (if decide (z ∈ ns.take i) = true then c else c + 1) := hS2.congr fun j => by
      rw [List.take_add_one, hz]
      simp [List.mem_append]
    have hc3 : (if decide (z ∈ ns.take i) = true then c else c + 1) ≤ i + 1 := by
      split <;> omega
    refine wpAny_pure ⟨plainId_quiet F.plain_set_update_loop _, ih (i + 1) _ (by omega) hlt (W.frame _ s' _ _ hst' (Nat.le_succ _) fun b hb o e => ?_) ⟨_, hc3, hS3⟩ fun s'' c2 hm'' hc'' hS'' => ?_⟩
    · rw [hsb.2 b (fun h : b = S => hSf (by rw [← h]; exact hb))]; exact e
    · refine hR s'' c2 (Moved.trans W.gtrans ((hm.mono hsub).then_heap (Nat.le_succ _) fun b o hb e => ?_) hm'') hc'' hS''
      rw [hsb.2 b (fun h : b = S => hb (by rw [h]; exact List.mem_cons_self))]; exact e

set_option maxRecDepth 100000 in
set_option maxHeartbeats 3200000 in
theorem call_set_tupTx {l : Addr} {items : Array Value} (ns : List Str) {Q : Value → Shared → Prop} (hh : A.handled = none) (hl : s.heap.IsTuple l items) (hit : StrsAre items.toList ns) (hb : ns.length + 1 < scanBound)
    (h : ∀ (h' : Heap) (tk c : Nat), SetS w h' s.heap.objs.size (fun j => decide (j ∈ ns)) c → c ≤ ns.length → (∀ b o, s.heap.get? b = some o → h'.get? b = some o) → Q (.ref s.heap.objs.size) { s with heap := h', toks := tk }) :
    wpAny (model P w) A (call (.type "set") [.ref l]) Q E s := by
  have hisz : items.size = ns.length := by
    have q := StrsAre.len_eq hit
    rw [Array.length_toList] at q
    exact q
  obtain ⟨c, tl, hmro⟩ := F.called_set.mro
  have hmade := F.called_set.made
  have hsub := F.called_set.sub
  refine wpAny_call (codeAny_of_tree ?_)
  show wpAny _ _ (callAny (.type "set") _) _ _ _
  refine wpAny_pure ⟨Code.quiet_builtin _ (by decide +kernel), codeAny_builtin F.entry_type_call ?_⟩
  rw [Around.under_plain (weight_type_call_type "set" [.ref l] []) rfl]
  have h1 := F.called_set.notType
  have h2 := F.called_set.canCreate
  have hct := F.typeCall_set_1 (.ref l)
  repeat (any_goals (first | assumption | wp_step))

  refine codeAny_mono (code_set_led1 (.ref l) (E := E) (Q₁ := fun obj s₁ => obj = .ref s.heap.objs.size ∧ s₁ = { s with heap := s.heap.push { cls := .type "set", dict := none, data := .set #[] 0 (.fresh 0 0 (!w.params.followText "set-order")) } }) ⟨rfl, rfl⟩) fun r s₁ hr => ?_
  cases r with
  | error e => exact hr
  | ok fl =>
    cases fl with
    | ret obj =>
      obtain ⟨rfl, rfl⟩ := hr
      have hS : (s.heap.push { cls := .type "set", dict := none, data := .set #[] 0 (.fresh 0 0 (!w.params.followText "set-order")) }).get? s.heap.objs.size = some { cls := .type "set", dict := none, data := .set #[] 0 (.fresh 0 0 (!w.params.followText "set-order")) } := Heap.get?_push_size _ rfl
      have hT : Shared.TypeIs { s with heap := s.heap.push { cls := .type "set", dict := none, data := .set #[] 0 (.fresh 0 0 (!w.params.followText "set-order")) } } (.ref s.heap.objs.size) "set" := ⟨_, hS, rfl⟩
      have hli := F.called_set.init.lookup
      have hbi := F.called_set.init.bind (.ref s.heap.objs.size)
      repeat (any_goals (first | assumption | wp_step))

      refine codeAny_mono (codeAny_call_builtin (R := wants (fun r s₂ => r = .none ∧ ∃ h' tk c, s₂ = { s with heap := h', toks := tk } ∧ SetS w h' s.heap.objs.size (fun j => decide (j ∈ ns)) c ∧ c ≤ ns.length ∧
          (∀ b o, s.heap.get? b = some o → h'.get? b = some o)) E) F.called_set.init.plain F.entry_set_init (check_set_init_1 hT ?_)) fun r₂ s₂ hr₂ => ?_
      · obtain ⟨ol, hol, hcl, nl, hdl⟩ := hl
        obtain ⟨ocls, odict, odata, oslots⟩ := ol
        simp only at hcl hdl
        subst hcl; subst hdl
        have hol' : (s.heap.push { cls := .type "set", dict := none, data := .set #[] 0 (.fresh 0 0 (!w.params.followText "set-order")) }).get? l = some { cls := .type "tuple", dict := odict, data := .seq items nl, slots := oslots } := Heap.get?_push_of_some _ hol
        have hsls := F.sub_tuple_set
        have hslf := F.sub_tuple_frozenset
        have hne : (Value.type "tuple" == Value.type "dict") = false := by decide
        have hl1 : (s.heap.push { cls := .type "set", dict := none, data := .set #[] 0 (.fresh 0 0 (!w.params.followText "set-order")) }).IsTuple l items := ⟨_, hol', rfl, nl, rfl⟩
        unfold Builtin.«set.__init__» noKeywords Builtin.Frozenset.updateFrom
        generalize hPI : pyIter = PI
        wp_walk
        subst hPI

        refine wpAny_pyIter_tuple hl1 ?_
        refine wpAny_bind (wpAny_runValue ?_)
        have hlS : l < s.heap.objs.size := Heap.lt_size hol
        have hh3 : A.in1.in1.in1.handled = none := by simp [hh]
        have hz1 : (s.heap.push { cls := .type "set", dict := none, data := .set #[] 0 (.fresh 0 0 (!w.params.followText "set-order")) }).objs.size = s.heap.objs.size + 1 := Heap.size_push ..
        have hneI : l ≠ (s.heap.push { cls := .type "set", dict := none, data := .set #[] 0 (.fresh 0 0 (!w.params.followText "set-order")) }).objs.size := by
          rw [Heap.size_push]; exact Nat.ne_of_lt (Nat.lt_succ_of_lt hlS)
        have hSf : s.heap.objs.size ∉ [(s.heap.push { cls := .type "set", dict := none, data := .set #[] 0 (.fresh 0 0 (!w.params.followText "set-order")) }).objs.size, l] := by
          rw [Heap.size_push]; simp only [List.mem_cons, List.mem_singleton, List.not_mem_nil, or_false, not_or]
          exact ⟨Nat.ne_of_lt (Nat.lt_succ_self _), Nat.ne_of_gt hlS⟩
        have hval : ∀ (i : Nat) (v : Value), items[i]? = some v → ∃ k t, ns[i]? = some k ∧ v = .str k t := fun i v hv => by
          have hi : i < ns.length := by rw [← hisz]; exact (Array.getElem?_eq_some_iff.mp hv).1
          obtain ⟨t, e⟩ := SS.strs_at hit i v (by rw [Array.getElem?_toList]; exact hv)
          refine ⟨ns[i], t, List.getElem?_eq_getElem hi, ?_⟩
          rw [e, List.getD_eq_getElem?_getD, List.getElem?_eq_getElem hi] <;> rfl
        refine set_update_txts ((Walks.tuple hh3 _ l hneI items).toS) s.heap.objs.size
          hSf ns hisz hb hval (items.size - 0) 0 _ (by omega) (Nat.zero_le _)
          ⟨⟨_, Heap.get?_push_size _ rfl, rfl, rfl⟩, (hl1.push _)⟩ ?hS0 ?hR
        case hS0 =>
          have hget : ((s.heap.push { cls := .type "set", dict := none, data := .set #[] 0 (.fresh 0 0 (!w.params.followText "set-order")) }).push { cls := .type "tuple_iterator", data := .fields #[.ref l, .int 0 0] }).get? s.heap.objs.size
              = some { cls := .type "set", dict := none, data := .set #[] 0 (.fresh 0 0 (!w.params.followText "set-order")) } := Heap.get?_push_of_some _ hS
          exact ⟨0, Nat.le_refl 0, setS_new_at hget⟩
        case hR =>
          intro s' c' hm hc' hS'
          obtain ⟨h', g2, d', tk', os'⟩ := s'
          have eg : g2 = s.gens := hm.gens
          have ed : d' = s.drawn := hm.drawn
          have eo : os' = s.os := hm.os
          subst eg; subst ed; subst eo
          show wpAny _ _ _ _ _ _
          refine wpAny_pure ?_
          show wpAny _ _ (ret Value.none) _ _ _
          rw [hisz] at hc'
          refine wpAny_pure ⟨rfl, h', tk', c', rfl, hS', hc', fun b o e => ?_⟩
          have hb0 : b < s.heap.objs.size := Heap.lt_size e
          have hb1 : b ≠ s.heap.objs.size := Nat.ne_of_lt hb0
          have hb2 : b ≠ (s.heap.push { cls := .type "set", dict := none, data := .set #[] 0 (.fresh 0 0 (!w.params.followText "set-order")) }).objs.size := by
            rw [Heap.size_push]; exact Nat.ne_of_lt (Nat.lt_succ_of_lt hb0)
          exact hm.heap b o (by simp only [List.mem_cons, List.mem_singleton, List.not_mem_nil, or_false, not_or]; exact ⟨hb1, hb2⟩) (Heap.get?_push_of_some _ (Heap.get?_push_of_some _ e))

      · cases r₂ with
        | error e => exact hr₂
        | ok fl₂ =>
          cases fl₂ with
          | ret r =>
            obtain ⟨rfl, h', tk, c', rfl, hS', hc', hk'⟩ := hr₂
            repeat (any_goals (first | assumption | wp_step))
            exact h _ _ _ hS' hc' hk'
          | _ => exact hr₂.elim
    | _ => exact hr.elim

end
section
variable {P : Program} {w : World} {A : Around} {E : Value → Shared → Prop} {s : Shared} {a : Addr}
theorem txts_of : ∀ (l : List Value), (∀ v ∈ l, ∃ k tk, v = Value.str k tk) → StrsAre l (l.map strOf) := fun l h => strsAre_map l h
theorem sorted_setS {S : Str → Bool} {n : Nat} {Q : Value → Shared → Prop} (R : SetS w s.heap a S n) (hh : A.handled = none) (h64 : n < 64)
    (hQ : ∀ s' p (out : Array Value) (c : Nat) (ns : List Str), (∀ b o, s.heap.get? b = some o → s'.heap.get? b = some o) → s'.gens = s.gens → s'.os = s.os → s.heap.objs.size ≤ p →
      s'.heap.get? p = some (seqObj "list" out c) → StrsAre out.toList ns → ns.Nodup → sortedS ns = true → (∀ k, k ∈ ns ↔ S k = true) → ns.length = n → Q (.ref p) s') :
    wpAny (model P w) A (call (.builtin "sorted") [.ref a]) Q E s := by
  obtain ⟨o, es, ep, t, ho, hex, hd, g, nd, hm, hb, hf, hn, hr, hl⟩ := R
  refine Calls.call_function_entry kind_sorted plain_sorted entry_sorted (args_sorted1 _) ?_
  unfold Builtin.«sorted»
  refine wpAny_bind (m := checkCount "sorted" 1 1 _) (wpAny_pure ?_)
  refine wpAny_bind (collect_set (A := A.in1) hh ⟨o, ho, hex.1, hd⟩ hf hb hr hl fun s1 vs k1 hz g1 o1 pm => ?_)
  have hvl : vs.length = n := by rw [pm.length_eq, List.length_map, Array.length_toList]; exact hn
  have hI : StrsAre vs (vs.map strOf) := txts_of vs fun v hv => by
    obtain ⟨e, he, q⟩ := List.mem_map.mp (pm.mem_iff.mp hv)
    obtain ⟨k, tk, h1, _⟩ := g e he
    exact ⟨k, tk, by rw [← q]; exact h1⟩
  have pk : (vs.map strOf).Perm (es.toList.map keyS) := by
    have q := pm.map strOf
    rw [List.map_map] at q
    exact q
  refine wpAny_bind (wpAny_newList ?_ (by rw [hvl, sizeLine_eq]; omega))
  have hoL : (s1.heap.push (seqObj "list" vs.toArray 0)).get? s1.heap.objs.size = some (seqObj "list" vs.toArray 0) := Heap.get?_push_size _ rfl
  refine wpAny_bind (wpAny_holding (wpAny_call_entry slot_list_sort ⟨_, hoL, rfl⟩ entry_list_sort (list_sort_treeK strKind_oneLt hoL hI.keysOf (fun v₁ v₂ rest e => keyKind_strs (by rw [← e]; exact hI)) (by rw [hvl]; exact h64) fun st' b1 b2 => ⟨_, rfl, ?_⟩) (args_list_sort _)))
  obtain ⟨ns', a1, a2, a3⟩ := sorted_out_str hI b1 b2
  generalize (arrOf st').map (·.2) = out at a1 ⊢
  obtain ⟨c, hc⟩ := sortedHeap_at (vs := vs) (out := out) hoL
  have pn : ns'.Perm (es.toList.map keyS) := a2.trans pk
  refine wpAny_pure ⟨_, rfl, hQ _ s1.heap.objs.size out c ns' (fun b u e => ?_) g1 o1 hz hc a1 (pn.nodup_iff.mpr nd) a3 (fun k => by rw [pn.mem_iff, ← hm k]) ?_⟩
  · have q := k1 b u e
    have hlt := Heap.lt_size q
    show (sortedHeap (s1.heap.push (seqObj "list" vs.toArray 0)) s1.heap.objs.size vs out).get? b = some u
    rw [sortedHeap_old (Nat.ne_of_lt hlt) (by rw [size_push']; exact Nat.lt_succ_of_lt hlt)]
    exact Heap.get?_push_of_some _ q
  · rw [pn.length_eq, List.length_map, Array.length_toList]; exact hn
end
end FK
set_option Elab.async false
set_option linter.all false
set_option maxRecDepth 100000
set_option maxHeartbeats 4000000
/-! sorted(set(xs)) and sorted({.. for ..}) of texts, by data. -/
namespace FK
open PySem PySem.Spec L2
/-- the texts zs in order, each once -/
structure Canon (ns zs : List Str) : Prop where
  nd : ns.Nodup
  so : PyProof.Rows.sortedS ns = true
  mem : ∀ k, k ∈ ns ↔ k ∈ zs
theorem le_of_not {x y : Str} (h : PySem.Spec.ltCps x.cps.toList y.cps.toList = false) : y.cps.toList ≤ x.cps.toList := by
  rw [PyProof.Rows.ltCps_eq] at h
  exact List.not_lt.mp (of_decide_eq_false h)
theorem rising_le : ∀ (l : List Str) (p : Str), PyProof.Rows.risingS p l = true → ∀ y ∈ l, p.cps.toList ≤ y.cps.toList
  | [], _, _, _, hy => by cases hy
  | x :: r, p, h, y, hy => by
    have h2 : (!PySem.Spec.ltCps x.cps.toList p.cps.toList && PyProof.Rows.risingS x r) = true := h
    rw [Bool.and_eq_true, Bool.not_eq_true'] at h2
    have h3 := le_of_not h2.1
    rcases List.mem_cons.mp hy with rfl | hy
    · exact h3
    · exact List.le_trans h3 (rising_le r x h2.2 y hy)
theorem rising_sorted : ∀ (l : List Str) (p : Str), PyProof.Rows.risingS p l = true → PyProof.Rows.sortedS l = true
  | [], _, _ => rfl
  | x :: r, p, h => by
    have h2 : (!PySem.Spec.ltCps x.cps.toList p.cps.toList && PyProof.Rows.risingS x r) = true := h
    rw [Bool.and_eq_true] at h2
    exact h2.2
theorem str_ext {x y : Str} (h : x.cps.toList = y.cps.toList) : x = y := by
  cases x; cases y
  simp only [Str.mk.injEq]
  exact Array.toList_inj.mp h
theorem sorted_uniq : ∀ (a b : List Str), a.Nodup → b.Nodup → PyProof.Rows.sortedS a = true → PyProof.Rows.sortedS b = true → (∀ k, k ∈ a ↔ k ∈ b) → a = b
  | [], [], _, _, _, _, _ => rfl
  | [], y :: t, _, _, _, _, h => absurd ((h y).mpr List.mem_cons_self) (by simp)
  | x :: r, [], _, _, _, _, h => absurd ((h x).mp List.mem_cons_self) (by simp)
  | x :: r, y :: t, na, nb, sa, sb, h => by
    have e : x = y := by
      have h1 : y.cps.toList ≤ x.cps.toList := by
        rcases List.mem_cons.mp ((h x).mp List.mem_cons_self) with e | e
        · rw [e]; exact List.le_refl _
        · exact rising_le t y sb x e
      have h2 : x.cps.toList ≤ y.cps.toList := by
        rcases List.mem_cons.mp ((h y).mpr List.mem_cons_self) with e | e
        · rw [e]; exact List.le_refl _
        · exact rising_le r x sa y e
      exact str_ext (List.le_antisymm h2 h1)
    subst e
    rw [List.nodup_cons] at na nb
    congr 1
    refine sorted_uniq r t na.2 nb.2 (rising_sorted r x sa) (rising_sorted t x sb) fun k => ?_
    have hk := h k
    rw [List.mem_cons, List.mem_cons] at hk
    constructor
    · intro z
      rcases hk.mp (.inr z) with e | e
      · subst e; exact absurd z na.1
      · exact e
    · intro z
      rcases hk.mpr (.inr z) with e | e
      · subst e; exact absurd z nb.1
      · exact e
theorem Canon.uniq {a b z z' : List Str} (ha : Canon a z) (hb : Canon b z') (h : ∀ k, k ∈ z ↔ k ∈ z') : a = b :=
  sorted_uniq a b ha.nd hb.nd ha.so hb.so fun k => by rw [ha.mem, hb.mem]; exact h k
theorem vals_strs : ∀ {ys : List Str} {us : List Value}, PyProof.Rows.StrsAre us ys → Vals (ys.map V.str) us
  | _, _, .nil => .nil
  | _, _, .cons x t h => .cons ⟨t, rfl⟩ (vals_strs h)
section
variable {X : Cx} {dl : DicL} {r : Option Addr}
def rSetTx (K : PySem.W.Frag) (w : World) : List V → Hp → VK → Prop := fun vs H Q => ∃ (p : Addr) (ns : List Str), vs = [V.ref p] ∧ SqT K H p (ns.map V.str) ∧ ns.length < 64 ∧
  ∀ a S c, H a = none → (∀ k, S k = decide (k ∈ ns)) → c ≤ ns.length → Q (.ref a) (upd H a (SetSO w a S c))
theorem cr_setTx (hc : X.calm = true) : CallR X (.type "set") (rSetTx X.K X.w) := by
  intro pins s σ H xs us Q I rr h
  obtain ⟨p, ns, rfl, hp, hl, q⟩ := h
  rw [Vals.ref1 rr]
  obtain ⟨its, rv, pt, hz⟩ := I.tuple hp
  have hn : H s.heap.objs.size = none := I.hok.fresh (Nat.le_refl _)
  refine call_set_tupTx ns (I.ok.hd hc) (show s.heap.IsTuple p its.toArray from pt) (strsAre_of rv) (by unfold scanBound; omega) fun h' tk c R1 hcn k => ?_
  exact ⟨.ref s.heap.objs.size, upd H s.heap.objs.size (SetSO X.w s.heap.objs.size _ c), I.laid (t' := tk) k (Nat.le_refl _) (setSO_new R1), rfl, q _ _ c hn (fun k => rfl) hcn⟩
def rSortedTx (w : World) : List V → Hp → VK → Prop := fun vs H Q => ∃ (a : Addr) (S : Str → Bool) (n : Nat) (zs : List Str), vs = [V.ref a] ∧ H a = some (SetSO w a S n) ∧ n < 64 ∧ (∀ k, S k = decide (k ∈ zs)) ∧
  ∀ ns p, Canon ns zs → H p = none → Q (.ref p) (upd H p (.lst (ns.map V.str)))
theorem cr_sortedTx (hc : X.calm = true) : CallR X (.builtin "sorted") (rSortedTx X.w) := by
  intro pins s σ H vs us Q I rr h
  obtain ⟨a, S, n, zs, rfl, ha, h64, hS, q⟩ := h
  have R := setSO_get I ha
  rw [Vals.ref1 rr]
  refine sorted_setS R (I.ok.hd hc) h64 fun s' p out c ns k g o hp hg hi hnd hs hm hl => ?_
  have hlen : (ns.map V.str).length ≤ sizeLine := by rw [List.length_map, hl, sizeLine_eq]; omega
  have hn : H p = none := I.hok.fresh hp
  have J : Inv X pins σ (upd H p (.lst (ns.map V.str))) { s with heap := s'.heap, gens := s'.gens, drawn := s'.drawn, toks := s'.toks } :=
    I.call (ch := []) (Un.laid k hp hn) (I.hok.laid k hp ⟨hlen, out.toList, c, vals_strs hi, hg⟩) (by rw [g]; exact I.bare) (fun _ z => nomatch z)
  have e : s' = { s with heap := s'.heap, gens := s'.gens, drawn := s'.drawn, toks := s'.toks } := by
    cases s'
    cases s
    cases o
    rfl
  rw [e]
  exact ⟨.ref p, _, J, rfl, q ns p ⟨hnd, hs, fun k => by rw [hm k, hS k, decide_eq_true_eq]⟩ hn⟩
/-- the texts ds, sorted, each once -/
def srtW (ds : List D) : W D := fun c P => ∃ zs : List Str, ds = zs.map PyData.str ∧ zs.length < 64 ∧ ∀ ns, Canon ns zs → P (.list (ns.map PyData.str)) c
theorem pw_sortedSet {e : Expr} {p p2 pos pos2 : Pos} {f : Rho → W D} (hc : X.calm = true) (hm : X.mg "sorted" = none) (hm2 : X.mg "set" = none) (he : PE X e (tW dl r f)) (hg : Gl X "sorted" := by rfl) (hg2 : Gl X "set" := by rfl)
    (h1 : starEach [Expr.Call (.Name "set" p2) [e] [] pos2] X.env = (false, eval (Expr.Call (.Name "set" p2) [e] [] pos2) X.env) :: starEach [] X.env := by rfl) (h2 : starEach [e] X.env = (false, eval e X.env) :: starEach [] X.env := by rfl) :
    PE X (.Call (.Name "sorted" p) [.Call (.Name "set" p2) [e] [] pos2] [] pos) (tW dl r fun ρ => bW (f ρ) fun d => bW (asT d) srtW) :=
  PE.imp (pe_callB (cr_sortedTx hc) hg hm (by kernel_rfl) (pa_cons (pe_callTy (cr_setTx hc) hg2 hm2 (by kernel_rfl) (pa_cons he pa_nil h2) (he := h2) (hpl := rfl)) pa_nil h1) (he := h1) (hpl := rfl)) fun σ H Q ⟨A0, B, ρ, c, P, E, hp, q⟩ => ⟨A0, B, ρ, c, _, E, hp, fun d c1 x H1 p1 e1 rd1 dx => by
    cases dx with
    | tup h1 h2 h3 =>
      obtain ⟨zs, rfl, hz, p1⟩ := p1
      have ev := h3.strs
      subst ev
      refine ⟨_, zs, rfl, SqT.of h1, hz, fun a S c' hn hS hc' => ⟨a, S, c', zs, rfl, upd_same, by omega, hS, fun ns p hcn hp0 => ?_⟩⟩
      have s1 := same_new (o := SetSO X.w a S c') hn
      have s2 := same_new (o := HO.lst (ns.map V.str)) hp0
      have hr := (rd1.same s1).same s2
      have E1 := (E.ext e1 rd1)
      refine q (.list (ns.map PyData.str)) c1 (.ref p) _ (p1 ns hcn) ((e1.trans (.of_same s1)).trans (.of_same s2)) hr (.lst upd_same (fun z => ?_) (DXs.of_strs ns))
      have t := E1.trk p z
      cases y : H1 p with
      | none => exact t y
      | some o => rw [s1 p o y] at hp0; cases hp0
    | _ => exact (show False from p1).elim⟩
theorem scS_it {J : It} {n : Nat} {G : Hp → Prop} {Y : Nat → Hp → V → Hp → Prop} {w : World} (wk : Walk J n G Y) {g : TG} {tt : TT} {te : TE} {vs : List Nat} {σ : L2.St} {H1 : Hp} {D : Addr} {Qd : Hp → Prop} (Pv : Nat → Hp → Prop) (h0 : Pv 0 (upd H1 D (SetSO w D (fun _ => false) 0))) (hG : ∀ i H, i ≤ n → Pv i H → G H)
    (hs : ∀ i x H H', i < n → Pv i H → Y i H x H' → g x (L2.wipe σ vs) H' fun σ2 H2 => L2.wipe σ2 vs = L2.wipe σ vs ∧ tt σ2 H2 fun b H3 =>
      if b = true then te σ2 H3 fun y H4 => ∃ (c : Str) (S : Str → Bool) (n : Nat), y = .str c ∧ H4 D = some (SetSO w D S n) ∧ n + 1 < scanBound ∧ Pv (i + 1) (upd H4 D (SetSO w D (fun j => S j || decide (j = c)) (if S c = true then n else n + 1))) else Pv (i + 1) H3) (hd : ∀ H, Pv n H → Qd H) :
    ∃ W : Nat → Nat → Hp → Prop, (∃ m, W 0 m (upd H1 D (SetSO w D (fun _ => false) 0))) ∧ ∀ i m H, W i m H →
      (J.stop i H ∧ Qd H) ∨ (J.go i H ∧ ∃ Nx : Hp → Prop, (∀ H', Nx H' → ∃ m', m' < m ∧ W (i + 1) m' H') ∧ ∀ x H', J.yld i H x H' → g x (L2.wipe σ vs) H' fun σ2 H2 => L2.wipe σ2 vs = L2.wipe σ vs ∧ tt σ2 H2 fun b H3 =>
        if b = true then te σ2 H3 fun y H4 => ∃ (c : Str) (S : Str → Bool) (n : Nat), y = .str c ∧ H4 D = some (SetSO w D S n) ∧ n + 1 < scanBound ∧ Nx (upd H4 D (SetSO w D (fun j => S j || decide (j = c)) (if S c = true then n else n + 1))) else Nx H3) := by
  refine ⟨fun i m H => m = n - i ∧ i ≤ n ∧ Pv i H, ⟨n, by simp, Nat.zero_le _, h0⟩, ?_⟩
  rintro i m H ⟨rfl, hi, p⟩
  have q := hG i H hi p
  by_cases hlt : i < n
  · refine .inr ⟨wk.goes i H hlt q, Pv (i + 1), fun H' p' => ⟨n - (i + 1), by omega, rfl, hlt, p'⟩, fun x H' y => hs i x H H' hlt p (wk.yields i H x H' hlt q y)⟩
  · have e : i = n := by omega
    subst e
    exact .inl ⟨wk.stops H q, hd H p⟩
def isDic : Sl → Bool
  | .dic _ _ => true
  | _ => false
theorem wipeR_nodic {ρ : Rho} (h : ∀ s ∈ ρ, isDic s = false) : ∀ vs : List Nat, ∀ s ∈ wipeR ρ vs, isDic s = false
  | [], s, hs => h s hs
  | v :: vs, s, hs => by
    rcases List.mem_or_eq_of_mem_set hs with z | z
    · exact wipeR_nodic h vs s z
    · rw [z]; rfl
theorem Env1.addO {A0 B : List Addr} {H : Hp} {σ : L2.St} {ρ : Rho} {c : Nat} {D : Addr} (E : Env1 dl A0 B r H σ ρ c) (hD : H D = none) {o : HO} (ho : ∀ xs, o ≠ .tup xs) : Env1 dl (D :: A0) B r (upd H D o) σ ρ c := by
  have sn := same_new (o := o) hD
  have sub : ∀ a ∈ B ++ D :: A0, a ∈ B ++ A0 ∨ H a = none := fun a h => by
    rcases List.mem_append.mp h with h | h
    · exact .inl (List.mem_append_left _ h)
    · rcases List.mem_cons.mp h with rfl | h
      · exact .inr hD
      · exact .inl (List.mem_append_right _ h)
  refine ⟨E.len, fun i d h => ?_, fun i ds h => ?_, fun i w kvs h => ?_, E.rd, E.sep, fun b hb z => ?_, fun a h => List.mem_cons_of_mem _ (E.rA a h), E.rok.same sn, fun a h => ?_, fun a h zs => ?_, fun j a h q => ?_, fun j a os us h => ⟨(E.ob j a os us h).1, (E.ob j a os us h).2.past (fun b o _ q => sn b o q) sub⟩⟩
  · obtain ⟨v, h1, h2⟩ := E.dat i d h
    exact ⟨v, h1, h2.past (fun b o _ q => sn b o q) sub⟩
  · obtain ⟨a, vs, h1, h2, h3, h4⟩ := E.lst i ds h
    exact ⟨a, vs, h1, h2, sn _ _ h3, h4.past (fun b o _ q => sn b o q) sub⟩
  · obtain ⟨a, h1, h2, h3, h4⟩ := E.dic i w kvs h
    exact ⟨a, h1, h2.imp id (fun z => ⟨z.1, List.mem_cons_of_mem _ z.2⟩), h3, sn _ _ h4⟩
  · rcases List.mem_cons.mp z with rfl | z
    · exact E.trk b (List.mem_append_left _ hb) hD
    · exact E.dis b hb z
  · rcases sub a h with z | z
    · intro q
      have := E.trk a z
      cases y : H a with
      | none => exact this y
      | some o => rw [sn a o y] at q; cases q
    · have e : a = D := by
        rcases List.mem_append.mp h with h | h
        · exact absurd z (E.trk a (List.mem_append_left _ h))
        · rcases List.mem_cons.mp h with h | h
          · exact h
          · exact absurd z (E.trk a (List.mem_append_right _ h))
      subst e
      rw [upd_same]; simp
  · intro q
    by_cases e : a = D
    · subst e
      rw [upd_same] at q
      exact ho zs (Option.some.inj q)
    · rw [upd_ne e] at q
      rcases sub a h with z | z
      · exact E.ntp a z zs q
      · rw [z] at q; cases q
  · cases y : H a with
    | none => exact E.ref j a h y
    | some o => rw [sn a o y] at q; cases q
theorem RdO.growO {H : Hp} {c : Nat} {D : Addr} {φ : Heap → Prop} {o2 : HO} (h : RdO r H c) (hl : H D = some (.ext φ)) : RdO r (upd H D o2) c := fun a e => by
  obtain ⟨L, o, zs, sp, rs, h1, h2, h3⟩ := h a e
  refine ⟨L, o, zs, sp, rs, ?_, ?_, h3⟩
  · rw [upd_ne (fun z => by rw [z, hl] at h1; cases h1)]
    exact h1
  · rw [upd_ne (fun z => by rw [z, hl] at h2; cases h2)]
    exact h2
theorem Env1.growO {A0 B : List Addr} {H : Hp} {σ : L2.St} {ρ : Rho} {c : Nat} {D : Addr} {φ ψ : Heap → Prop} (E : Env1 dl A0 B r H σ ρ c) (hD : D ∈ A0) (hl : H D = some (.ext φ)) (nd : ∀ s ∈ ρ, isDic s = false) :
    Env1 dl A0 B r (upd H D (.ext ψ)) σ ρ c := by
  have kp : ∀ b o, b ∉ B ++ A0 → H b = some o → upd H D (.ext ψ) b = some o := fun b o n q => by
    rw [upd_ne (fun e => n (by rw [e]; exact List.mem_append_right _ hD))]
    exact q
  refine ⟨E.len, fun i d h => ?_, fun i ds h => ?_, fun i w kvs h => ?_, E.rd, E.sep, E.dis, E.rA, E.rok.growO hl, fun a h => ?_, fun a h zs => ?_, fun j a h => ?_, fun j a os us h => ⟨(E.ob j a os us h).1, (E.ob j a os us h).2.past kp fun a h => .inl h⟩⟩
  · obtain ⟨v, h1, h2⟩ := E.dat i d h
    exact ⟨v, h1, h2.past kp fun a h => .inl h⟩
  · obtain ⟨a, vs, h1, h2, h3, h4⟩ := E.lst i ds h
    refine ⟨a, vs, h1, h2, ?_, h4.past kp fun a h => .inl h⟩
    rw [upd_ne (fun e => E.dis a h2 (by rw [e]; exact hD))]
    exact h3
  · have z := nd _ (List.mem_of_getElem? h)
    cases z
  · by_cases e : a = D
    · subst e
      rw [upd_same]; simp
    · rw [upd_ne e]; exact E.trk a h
  · by_cases e : a = D
    · subst e
      rw [upd_same]
      intro q; cases q
    · rw [upd_ne e]; exact E.ntp a h zs
  · by_cases e : a = D
    · subst e
      rw [upd_same]; simp
    · rw [upd_ne e]; exact E.ref j a h
/-- sorted({f for g in fi if t}) -/
def scD (fi : Rho → W (List D)) (g : D → Rho → W Rho) (t : Rho → W Bool) (f : Rho → W D) (vs : List Nat) : Rho → W D := fun ρ => bW (fi ρ) fun ds => bW (gW (ds.length < 64 ∧ ∀ s ∈ ρ, isDic s = false)) fun _ =>
  bW (lcG g t (fun ρ1 => bW (f ρ1) fun d => bW (asS d) fun x => rW (.str x)) (wipeR ρ vs) ds []) fun ys => srtW ys
theorem scS_of {w : World} {fi : Rho → W (List D)} {g : D → Rho → W Rho} {t : Rho → W Bool} {f : Rho → W D} {vs as : List Nat} (has : ∀ i ∈ as, i ∈ vs) {σ : L2.St} {H : Hp} {Q : VK} (h : tW dl r (scD fi g t f vs) σ H Q) :
    tScS w (tWI dl r fi) (tWG dl r as g) (tWT dl r t) (tW dl r f) vs σ H (fun x H1 => rSortedTx w [x] H1 Q) := by
  obtain ⟨A0, B, ρ, c, P, E, hp, q⟩ := h
  refine ⟨A0, B, ρ, c, _, E, hp, fun ds c1 J H1 p1 e1 rd1 it D hD => ?_⟩
  obtain ⟨⟨hlim, nd⟩, p1⟩ := p1
  have ndw := wipeR_nodic nd vs
  have E1 := E.ext e1 rd1
  have hrD : r ≠ some D := fun e => E1.trk D (E.rAB D e) hD
  have hsb : 64 < scanBound := by unfold scanBound; omega
  refine scS_it it (fun i H => ∃ (c : Nat) (zs : List Str) (S : Str → Bool) (n : Nat), Env1 dl (D :: A0) B r H (L2.wipe σ vs) (wipeR ρ vs) c ∧ H D = some (SetSO w D S n) ∧ (∀ k, S k = decide (k ∈ zs)) ∧ n ≤ i ∧ zs.length ≤ i ∧
    lcG g t (fun ρ1 => bW (f ρ1) fun d => bW (asS d) fun x => rW (.str x)) (wipeR ρ vs) (ds.drop i) (zs.map PyData.str) c (fun ys c => srtW ys c P) ∧ Ext r H1 H) ?_ ?_ ?_ ?_
  · exact ⟨c1, [], fun _ => false, 0, (E1.wipe vs).addO hD (by intro xs; unfold SetSO; simp), upd_same, by simp, Nat.le_refl _, Nat.le_refl _, p1, Ext.of_same (same_new hD)⟩
  · intro i H2 hi p
    obtain ⟨c2, zs, S, n, E2, _, _, _, _, _, x2⟩ := p
    exact ⟨fun b o n z => x2 b o (fun y => n (E.rAB b y)) z, fun a ha => E2.trk a (by
      rcases List.mem_append.mp ha with h | h
      · exact List.mem_append_left _ h
      · exact List.mem_append_right _ (List.mem_cons_of_mem _ h))⟩
  · intro i x H2 H3 hi p y
    obtain ⟨c2, zs, S, n, E2, hl, hS, hni, hzi, pp, x2⟩ := p
    obtain ⟨s3, d, ed, dx⟩ := y
    have rd3 := E2.rok.same s3
    have E3 := E2.ext (.of_same s3) rd3
    have dx3 : DX (B ++ D :: A0) H3 x d := dx _ (fun a ha => by
      rcases List.mem_append.mp ha with h | h
      · exact .inl (List.mem_append_left _ h)
      · rcases List.mem_cons.mp h with rfl | h
        · exact .inr hD
        · exact .inl (List.mem_append_right _ h)) E2.trk
    have hdrop : ds.drop i = d :: ds.drop (i + 1) := by
      obtain ⟨hlt, e⟩ := List.getElem?_eq_some_iff.mp ed
      rw [List.drop_eq_getElem_cons hlt, e]
    rw [hdrop] at pp
    refine ⟨D :: A0, B, wipeR ρ vs, c2, _, d, E3, dx3, pp, fun ρ4 c4 σ4 p4 ec E4 l4 f4 => ⟨wipe_back l4 f4 has, ?_⟩⟩
    subst ec
    refine ⟨D :: A0, B, ρ4, c4, _, E4, p4, fun b c5 H5 p5 e5 rd5 => ?_⟩
    have l5 : H5 D = some (SetSO w D S n) := e5 D _ hrD (s3 D _ hl)
    have E5w : Env1 dl (D :: A0) B r H5 (L2.wipe σ vs) (wipeR ρ vs) c5 := E3.ext e5 rd5
    cases b with
    | false => exact iteF ⟨c5, zs, S, n, E5w, l5, hS, by omega, by omega, p5, (x2.trans (.of_same s3)).trans e5⟩
    | true =>
      refine iteT ⟨D :: A0, B, ρ4, c5, _, E4.ext e5 rd5, p5, fun y c6 v H6 p6 e6 rd6 dv => ?_⟩
      have l6 : H6 D = some (SetSO w D S n) := e6 D _ hrD l5
      cases dv with
      | str z =>
        refine ⟨z, S, n, rfl, l6, by omega, c6, zs ++ [z], _, _, (E5w.ext e6 rd6).growO List.mem_cons_self l6 ndw, upd_same, fun k => ?_, ?_, by simp; omega, ?_, ?_⟩
        · rw [hS k]
          simp [List.mem_append]
        · split <;> omega
        · rw [List.map_append]
          exact p6
        · intro b o n z
          have z6 := e6 b o n (e5 b o n (s3 b o (x2 b o n z)))
          rw [upd_ne (fun e => by rw [e, hD] at z; cases z)]
          exact z6
      | _ => exact (show False from p6).elim
  · intro H2 p
    obtain ⟨c2, zs, S, n, E2, hl, hS, hni, hzi, pp, x2⟩ := p
    rw [List.drop_length] at pp
    obtain ⟨zs', ez, hz64, pp⟩ := (show srtW (zs.map PyData.str) c2 P from pp)
    have ez2 : zs = zs' := map_inj (fun a b h => PyData.str.inj h) ez
    subst ez2
    refine ⟨D, S, n, zs, rfl, hl, by omega, hS, fun ns p hcn hp0 => ?_⟩
    have s2 := same_new (o := HO.lst (ns.map V.str)) hp0
    refine q (.list (ns.map PyData.str)) c2 (.ref p) _ (pp ns hcn) ((e1.trans x2).trans (.of_same s2)) (E2.rok.same s2) (.lst upd_same (fun z => ?_) (DXs.of_strs ns))
    refine E2.trk p ?_ hp0
    rcases List.mem_append.mp z with h | h
    · exact List.mem_append_left _ h
    · exact List.mem_append_right _ (List.mem_cons_of_mem _ h)
theorem pw_sortedSc {elt tg iter : Expr} {ifs : List Expr} {scope : Scope} {p pos pos2 : Pos} {fi : Rho → W (List D)} {fg : D → Rho → W Rho} {ft : Rho → W Bool} {fe : Rho → W D} {as : List Nat} (own' : List (Str × Nat)) (hc : X.calm = true) (hN : X.N.Nodup) (hm : X.mg "sorted" = none) (hi : PI X tg iter (tWI dl r fi))
    (ok : BlkOk X.N X.env.scope scope own') (hg : ∀ (s : Shared) (H : Hp) (C : Addr) (cl : List (Str × Addr)) (fp : List Addr), PG (X.blk s H scope (compEnvC scope cl C X.env) fp) tg (tWG dl r as fg)) (ht : ∀ (s : Shared) (H : Hp) (C : Addr) (cl : List (Str × Addr)) (fp : List Addr), PTs (X.blk s H scope (compEnvC scope cl C X.env) fp) ifs (tWT dl r ft))
    (he : ∀ (s : Shared) (H : Hp) (C : Addr) (cl : List (Str × Addr)) (fp : List Addr), PE (X.blk s H scope (compEnvC scope cl C X.env) fp) elt (tW dl r fe)) (has : ∀ i ∈ as, i ∈ own'.map (·.2) := by decide) (hs : ∀ x, foldedSetIterable iter X.env x = pure x := by intro _; rfl) (hgl : Gl X "sorted" := by rfl)
    (h1 : starEach [Expr.SetComp elt [⟨tg, iter, ifs, 0⟩] scope pos2] X.env = (false, eval (Expr.SetComp elt [⟨tg, iter, ifs, 0⟩] scope pos2) X.env) :: starEach [] X.env := by rfl) :
    PE X (.Call (.Name "sorted" p) [.SetComp elt [⟨tg, iter, ifs, 0⟩] scope pos2] [] pos) (tW dl r (scD fi fg ft fe (own'.map (·.2)))) :=
  PE.imp (pe_callB (cr_sortedTx hc) hgl hm (by kernel_rfl) (pa_cons (pe_scS hc hN hi ok hg ht he hs) pa_nil h1) (he := h1) (hpl := rfl)) fun _ _ _ h => scS_of has h
end
end FK
set_option Elab.async false
set_option linter.all false
set_option maxRecDepth 100000
set_option maxHeartbeats 4000000
/-! Defs as promises: members_of. (Printed by gen2.py from specR.py.) -/
namespace FK
open PySem PySem.Spec L2
def memOf : Row → Option Str
  | .order m _ _ _ _ => some m
  | _ => none
def memsP (rows : List Row) : List Str := rows.filterMap memOf
theorem memsP_snoc (rows : List Row) (r : Row) : memsP (rows ++ [r]) = memsP rows ++ (memOf r).toList := by
  unfold memsP
  rw [List.filterMap_append]
  cases h : memOf r <;> simp [h]
theorem memsP_len (rows : List Row) : (memsP rows).length ≤ rows.length := List.length_filterMap_le _ _
def txtsD (ns : List Str) : List D := ns.map PyData.str
abbrev g_members_of : Gs := fun sls c P => ∃ (x : Str) (rows : List Row), sls = [.dat (recD x rows)] ∧ rowsOk rows ∧ ∀ ns, Canon ns (memsP rows) → P (.rt (.tuple (txtsD ns))) c
section
variable {P : Program} {w : World} {K : PySem.W.Frag} {mg : Str → Option Value} {base : Heap} {C : Addr} {f : Addr} {fd : FuncData}
theorem ok_members_of (bl : Bl mg) (cn : Cn K mg)  (F : FunD K "members_of" "members_of" (defArgs s_members_of) (defBody s_members_of) (defScope s_members_of) [] [] f fd) (hm : mg "members_of" = some (.ref f)) : Has P w K mg base C "members_of" 1 ["record"] g_members_of := by
  have S : FnScope ["record", "row"] ["record"] (defScope s_members_of) := ⟨rfl, rfl, rfl, by decide +kernel, rfl, by decide +kernel, by decide +kernel⟩
  refine ⟨f, fd, fn_w F S (fun sls c P h => ?len) (fun cdv A outer s H E r hr => ((pwss_one (pws_ret (pw_callTy calW_tuple call_tuple_of bl.tuple (paw_cons (pw_sortedSc [("row", 1)] rfl S.nd bl.sorted (pwi_tup (pw_ix (pw_var 0) pw_int)) (blkOk_by (by kernel_rfl)) (fun _ _ _ _ _ => (pwg_name 1 S.nd)) (fun _ _ _ _ _ => (pts_one (pwt_cmp opW_eq (op_eqA hr.units) (pw_ix (pw_var 1) pw_int) pw_str (nomark _)))) (fun _ _ _ _ _ => (pw_ix (pw_var 1) pw_int))) paw_nil)))))) (fun sls c P h => ?data), hm, F.kp, F.bindsN fun _ _ _ _ _ _ us hl => match us, hl with | [_], _ => rfl⟩
  case len =>
    obtain ⟨x, rows, rfl, h⟩ := h
    rfl
  case data =>
    obtain ⟨x, rows, rfl, h⟩ := h
    obtain ⟨hok, h⟩ := h
    have hz := hok.1
    simp [rho0, recD, rowsT, scD]
    refine ⟨⟨by omega, rfl, rfl⟩, ?_⟩
    refine lcG_fm rowD (fun r => (memOf r).map PyData.str) rows (fun q hq c Q hQ => ?_) ?_
    · simp [ixW_row0]
      cases q with
      | order m b p s fs => simpa [isOrd, rowD, memOf] using hQ
      | _ => simpa [isOrd, memOf] using hQ
    · refine ⟨memsP rows, ?_, by have := memsP_len rows; omega, fun ns hns => ?_⟩
      · simp [memsP, List.map_filterMap]
      · simpa [txtsD] using h ns hns
end
end FK
set_option Elab.async false
set_option linter.all false
set_option maxRecDepth 100000
set_option maxHeartbeats 4000000
/-! Defs as promises: the law's own reckoning. (Printed by gen2.py from specP.py.) -/
namespace FK
open PySem PySem.Spec L2
theorem forG_map {α : Type} (enc : α → D) {g : D → Rho → W Rho} {f : Rho → W Fl} {P : Fl → Nat → Prop} (I : Nat → Rho → Nat → Prop) (xs : List α) {ρ : Rho} {c : Nat}
    (step : ∀ i x, xs[i]? = some x → ∀ ρ c Q, I i ρ c → (∀ ρ' c', I (i + 1) ρ' c' → Q (.nx ρ') c') → (∀ o c', (∀ ρ, o ≠ .nx ρ) → P o c' → Q o c') → g (enc x) ρ c fun ρ1 c1 => f ρ1 c1 Q)
    (h0 : I 0 ρ c) (h1 : ∀ ρ c, I xs.length ρ c → P (.nx ρ) c) : forG g f (xs.map enc) ρ c P := by
  refine forG_inv I (xs.map enc) 0 ρ c (fun i d hd ρ c Q hI q1 q2 => ?_) h0 (fun ρ c hI => h1 ρ c (by rw [Nat.zero_add, List.length_map] at hI; exact hI))
  rw [List.getElem?_map, Option.map_eq_some_iff] at hd
  obtain ⟨x, hx, rfl⟩ := hd
  rw [Nat.zero_add] at hI q1
  exact step i x hx ρ c Q hI q1 q2
theorem flatMap_next {α β : Type} (F : α → List β) {xs : List α} {i : Nat} {x : α} (h : xs[i]? = some x) : (xs.take (i + 1)).flatMap F = (xs.take i).flatMap F ++ F x := by
  rw [List.take_add_one, h, List.flatMap_append]
  simp
/-! ### the trades, one by one -/
def tradesF (s : Nat) (o : Bool) (f : Fill) : List (Nat × Int) := (if o = true then [(s, f.s)] else []) ++ (match f.n with
  | some n => [(n, f.s)]
  | none => [])
def tradesR (t i s : Nat) (row : Row) : List (Nat × Int) := ((if s < t then fillsOf row else (fillsOf row).take i).flatMap (tradesF s (isOrd row))) ++ (match row with
  | .call _ ps => if s < t then ps else []
  | _ => [])
def tradesAt (rows : List Row) (t i s : Nat) : List (Nat × Int) := match rows[s]? with
  | some r => tradesR t i s r
  | none => []
def tradesP (rows : List Row) (t i : Nat) : List (Nat × Int) := (List.range (min (t + 1) rows.length)).flatMap (tradesAt rows t i)
theorem tradesF_len (s : Nat) (o : Bool) (f : Fill) : (tradesF s o f).length ≤ 2 := by
  unfold tradesF
  cases o <;> cases f.n <;> simp
theorem flatMap_len {α β : Type} {F : α → List β} {k : Nat} : ∀ {xs : List α}, (∀ x ∈ xs, (F x).length ≤ k) → (xs.flatMap F).length ≤ xs.length * k
  | [], _ => by simp
  | x :: xs, h => by
    have := flatMap_len (xs := xs) (fun y hy => h y (List.mem_cons_of_mem _ hy))
    have h1 := h x List.mem_cons_self
    rw [List.flatMap_cons, List.length_append, List.length_cons, Nat.add_mul]
    omega
theorem tradesR_len {t i s : Nat} {row : Row} (h : rowOk row) : (tradesR t i s row).length ≤ 150 := by
  have hf := h.fl
  unfold tradesR
  rw [List.length_append]
  have h1 : ((if s < t then fillsOf row else (fillsOf row).take i).flatMap (tradesF s (isOrd row))).length ≤ 100 := by
    refine Nat.le_trans (flatMap_len (k := 2) fun f _ => tradesF_len s _ f) ?_
    split
    · omega
    · rw [List.length_take]; omega
  have h2 : (match row with | .call _ ps => if s < t then ps else [] | _ => []).length ≤ 50 := by
    cases row with
    | call p ps =>
      have := h.1.len
      dsimp only
      split
      · exact this
      · exact Nat.zero_le _
    | _ => exact Nat.zero_le _
  omega
theorem tradesAt_len {rows : List Row} (h : rowsOk rows) (t i s : Nat) : (tradesAt rows t i s).length ≤ 150 := by
  unfold tradesAt
  cases hr : rows[s]? with
  | none => exact Nat.zero_le _
  | some r => exact tradesR_len (h.2 r (List.mem_of_getElem? hr))
theorem trades_len {rows : List Row} (h : rowsOk rows) (t i k : Nat) (hk : k ≤ rows.length) : ((List.range k).flatMap (tradesAt rows t i)).length ≤ 7500 := by
  refine Nat.le_trans (flatMap_len (k := 150) fun s _ => tradesAt_len h t i s) ?_
  rw [List.length_range]
  have := h.1
  omega
abbrev g__law_fills : Gs := fun sls c P => ∃ r : Row, sls = [.dat (rowD r)] ∧ P (.rt (fillsD (fillsOf r))) c
abbrev g__law_trades : Gs := fun sls c P => ∃ (rows : List Row) (t i : Nat), sls = [.dat (rowsL rows), .dat (.int t), .dat (.int i)] ∧ rowsOk rows ∧ P (.rt (.list ((tradesP rows t i).map pairD))) c
@[simp] theorem min2W_def (i j : Int) : min2W [.int i, .int j] = rW (.int (if j < i then j else i)) := rfl
@[simp] theorem ownW_def (i : Nat) (ρ : Rho) (c : Nat) (P : List D → Nat → Prop) : ownW i ρ c P = ∃ ds, ρ[i]? = some (.lst ds) ∧ P ds c := rfl
@[simp] theorem use_law_fills (r : Row) (c : Nat) (P : Out → Nat → Prop) : g__law_fills [.dat (rowD r)] c P = P (.rt (fillsD (fillsOf r))) c := by
  refine propext ⟨fun h => ?_, fun h => ⟨r, rfl, h⟩⟩
  obtain ⟨r', e, h⟩ := h
  simp at e
  rw [rowD_inj e]
  exact h
theorem ixW_rowsL {rows : List Row} {n : Nat} {r : Row} (h : rows[n]? = some r) : ixW (.list (rows.map rowD)) (.int (n : Int)) = rW (rowD r) := by
  simp [atI_map h]
theorem take_if {α : Type} (fs : List α) (p : Prop) [Decidable p] (i : Nat) : (if p then fs else fs.take i) = fs.take (if p then fs.length else i) := by split <;> simp
section
variable {P : Program} {w : World} {K : PySem.W.Frag} {mg : Str → Option Value} {base : Heap} {C : Addr} {f : Addr} {fd : FuncData}
theorem ok__law_fills (bl : Bl mg) (cn : Cn K mg)  (F : FunD K "_law_fills" "_law_fills" (defArgs s__law_fills) (defBody s__law_fills) (defScope s__law_fills) [] [] f fd) (hm : mg "_law_fills" = some (.ref f)) : Has P w K mg base C "_law_fills" 1 ["_law_row"] g__law_fills := by
  have S : FnScope ["_law_row"] ["_law_row"] (defScope s__law_fills) := ⟨rfl, rfl, rfl, by decide +kernel, rfl, by decide +kernel, by decide +kernel⟩
  refine ⟨f, fd, fn_w F S (fun sls c P h => ?len) (fun cdv A outer s H E r hr => ((pwss_one (pws_ret (pw_ite (pwt_cmp opW_eq (op_eqA hr.units) (pw_ix (pw_var 0) pw_int) pw_str (nomark _)) (pw_ix (pw_var 0) pw_int) (pw_ite (pwt_cmp opW_eq (op_eqA hr.units) (pw_ix (pw_var 0) pw_int) pw_str (nomark _)) (pw_ix (pw_var 0) pw_int) (pw_tup paw_nil))))))) (fun sls c P h => ?data), hm, F.kp, F.bindsN fun _ _ _ _ _ _ us hl => match us, hl with | [_], _ => rfl⟩
  case len =>
    obtain ⟨r, rfl, h⟩ := h
    rfl
  case data =>
    obtain ⟨r, rfl, h⟩ := h
    cases r <;> simp [rho0, rowD, fillsOf, LIM] <;> exact h
theorem ok__law_trades (bl : Bl mg) (cn : Cn K mg) (h__law_fills : Has P w K mg base C "_law_fills" 1 ["_law_row"] g__law_fills) (F : FunD K "_law_trades" "_law_trades" (defArgs s__law_trades) (defBody s__law_trades) (defScope s__law_trades) [] [] f fd) (hm : mg "_law_trades" = some (.ref f)) : Has P w K mg base C "_law_trades" 2 ["_law_rows", "_law_t", "_law_i"] g__law_trades := by
  obtain ⟨f__law_fills, fd__law_fills, F__law_fills, m__law_fills, k__law_fills, b__law_fills⟩ := h__law_fills
  have S : FnScope ["_law_rows", "_law_t", "_law_i", "_law_found", "_law_s", "_law_row", "_law_price", "_law_size", "_law_n"] ["_law_rows", "_law_t", "_law_i"] (defScope s__law_trades) := ⟨rfl, rfl, rfl, by decide +kernel, rfl, by decide +kernel, by decide +kernel⟩
  refine ⟨f, fd, fn_w F S (fun sls c P h => ?len) (fun cdv A outer s H E r hr => have hp := passes_of rfl; ((pwss_cons (pws_own 3 S.nd (pwn_lst paw_nil))
      (pwss_cons (pws_for hp rfl (pwi_range bl.range (pw_callB calW_min2 (call_min2 rfl) bl.min (paw_cons (pw_op opW_add op_addA (pw_var 1) pw_int) (paw_cons (pw_callB calW_len call_len bl.len (paw_cons (pw_var 0) paw_nil)) paw_nil)))) (pwg_name 4 S.nd) (pwss_cons (pws_set 5 S.nd (pw_ix (pw_var 0) (pw_var 4)))
      (pwss_cons (pws_for hp rfl (pwi_tup (pw_slice (pw_call F__law_fills (hr.mono (by decide)) m__law_fills k__law_fills b__law_fills .nil (fun _ _ => .nil) (par_dat (pw_var 5) par_nil)) pwo_none (pwo_some (pw_ite (pwt_cmp opW_cmp op_lt (pw_var 4) (pw_var 1) (nomark _)) (pw_callB calW_len call_len bl.len (paw_cons (pw_call F__law_fills (hr.mono (by decide)) m__law_fills k__law_fills b__law_fills .nil (fun _ _ => .nil) (par_dat (pw_var 5) par_nil)) paw_nil)) (pw_var 2))))) (pwg_tup 3 rfl (pwgs_cons (pwg_name 6 S.nd) (pwgs_cons (pwg_name 7 S.nd) (pwgs_cons (pwg_name 8 S.nd) pwgs_nil)))) (pwss_cons (pws_if (pwt_cmp opW_eq (op_eqA hr.units) (pw_ix (pw_var 5) pw_int) pw_str (nomark _)) (pwss_one (pws_append 3 (pw_tup (paw_cons (pw_var 4) (paw_cons (pw_var 7) paw_nil))))) pwss_nil)
      (pwss_one (pws_if (pwt_cmp opW_isnot op_notN (pw_var 8) pw_non (nomark _)) (pwss_one (pws_append 3 (pw_tup (paw_cons (pw_var 8) (paw_cons (pw_var 7) paw_nil))))) pwss_nil))))
      (pwss_one (pws_if (PW.pt (pww_and (pwt_cmp opW_eq (op_eqA hr.units) (pw_ix (pw_var 5) pw_int) pw_str (nomark _)) (pww_and1 (pwt_cmp opW_cmp op_lt (pw_var 4) (pw_var 1) (nomark _))))) (pwss_one (pws_extend 3 (pw_ix (pw_var 5) pw_int))) pwss_nil)))))
      (pwss_one (pws_retOwn 3)))))) (fun sls c P h => ?data), hm, F.kp, F.bindsN fun _ _ _ _ _ _ us hl => match us, hl with | [_, _, _], _ => rfl⟩
  case len =>
    obtain ⟨rows, t, i, rfl, h⟩ := h
    rfl
  case data =>
    obtain ⟨rows, t, i, rfl, h⟩ := h
    obtain ⟨hok, h⟩ := h
    have hz := hok.1
    have hL : 2 ≤ LIM := by decide
    have hL2 : LIM = 100000 := rfl
    simp [rho0, rowsL]
    have hm : (if (rows.length : Int) < (t : Int) + 1 then (rows.length : Int) else (t : Int) + 1) = ((min (t + 1) rows.length : Nat) : Int) := by split <;> omega
    rw [hm, rngD_nat]
    refine ⟨by omega, ?_⟩
    refine forG_map (fun s : Nat => PyData.int (s : Int)) (fun k ρ c' => c' = c ∧ ∃ a b d e g, ρ = [.dat (.list (rows.map rowD)), .dat (.int t), .dat (.int i), .lst (((List.range k).flatMap (tradesAt rows t i)).map pairD), a, b, d, e, g]) _ (fun k s hs ρ c' Q hI q1 q2 => ?_) ⟨rfl, _, _, _, _, _, rfl⟩ (fun ρ c' hI => ?_)
    · obtain ⟨rfl, a, b, d, e, g, rfl⟩ := hI
      obtain ⟨hk, hs'⟩ := List.getElem?_eq_some_iff.mp hs
      rw [List.getElem_range] at hs'
      subst hs'
      rw [List.length_range] at hk
      have hkr : k < rows.length := by omega
      have hr : rows[k]? = some rows[k] := List.getElem?_eq_getElem hkr
      have hrow := hok.2 _ (List.getElem_mem hkr)
      have htl := trades_len hok t i k (by omega)
      have hnx : (List.range (k + 1)).flatMap (tradesAt rows t i) = (List.range k).flatMap (tradesAt rows t i) ++ tradesR t i k rows[k] := by
        rw [List.range_succ, List.flatMap_append]
        simp [tradesAt, hr]
      have htn := trades_len hok t i (k + 1) (by omega)
      rw [hnx] at q1 htn
      generalize (List.range k).flatMap (tradesAt rows t i) = acc at q1 htl htn ⊢
      generalize rows[k] = row at hr hrow q1 htn
      have hfl := hrow.fl
      simp [ixW_rowsL hr]
      split <;> rename_i hkt
      · refine forG_map fillD (fun j ρ c2 => c2 = c' ∧ ∃ x y z, ρ = [.dat (.list (rows.map rowD)), .dat (.int t), .dat (.int i), .lst ((acc ++ ((fillsOf row).take j).flatMap (tradesF k (isOrd row))).map pairD), .dat (.int k), .dat (rowD row), x, y, z]) (fillsOf row) (fun j f hj ρ c2 Q2 hI2 r1 r2 => ?_) ⟨rfl, d, e, g, by simp⟩ (fun ρ c2 hI2 => ?_)
        · obtain ⟨rfl, x, y, z, rfl⟩ := hI2
          rw [flatMap_next _ hj, ← List.append_assoc] at r1
          have hb : (((fillsOf row).take j).flatMap (tradesF k (isOrd row))).length ≤ 100 := by
            refine Nat.le_trans (flatMap_len (k := 2) fun f _ => tradesF_len k _ f) ?_
            simp only [List.length_take]
            omega
          have hal : (acc ++ ((fillsOf row).take j).flatMap (tradesF k (isOrd row))).length ≤ 7600 := by rw [List.length_append]; omega
          generalize acc ++ ((fillsOf row).take j).flatMap (tradesF k (isOrd row)) = ac2 at r1 hal ⊢
          obtain ⟨p, sz, n⟩ := f
          simp [fillD, ixW_row0, hL]
          cases ho : isOrd row with
          | true =>
            cases n with
            | none =>
              simp [nD]
              refine ⟨by omega, r1 _ _ ⟨rfl, .dat (.int p), .dat (.int sz), .dat .none, ?_⟩⟩
              simp [tradesF, ho, pairD]
            | some n =>
              simp [nD, hL]
              refine ⟨by omega, by omega, r1 _ _ ⟨rfl, .dat (.int p), .dat (.int sz), .dat (.int n), ?_⟩⟩
              simp [tradesF, ho, pairD, nD]
          | false =>
            cases n with
            | none =>
              simp [nD]
              refine r1 _ _ ⟨rfl, .dat (.int p), .dat (.int sz), .dat .none, ?_⟩
              simp [tradesF, ho]
            | some n =>
              simp [nD, hL]
              refine ⟨by omega, r1 _ _ ⟨rfl, .dat (.int p), .dat (.int sz), .dat (.int n), ?_⟩⟩
              simp [tradesF, ho, pairD, nD]
        · obtain ⟨rfl, x, y, z, rfl⟩ := hI2
          rw [List.take_length]
          simp [ixW_row0, hkt]
          cases row with
          | call p ps =>
            simp [isCall, rowD, pairsD]
            have hpl := hrow.1.len
            simp [tradesR, hkt, fillsOf] at htn
            simp [tradesR, hkt, fillsOf, isOrd] at q1 ⊢
            refine ⟨by omega, ?_⟩
            exact q1 _ _ _ _ _ _ rfl
          | _ =>
            try simp [isCall]
            simp [tradesR, hkt, fillsOf, isOrd] at q1 ⊢
            exact q1 _ _ _ _ _ _ rfl
      · rw [← List.map_take]
        refine forG_map fillD (fun j ρ c2 => c2 = c' ∧ ∃ x y z, ρ = [.dat (.list (rows.map rowD)), .dat (.int t), .dat (.int i), .lst ((acc ++ (((fillsOf row).take i).take j).flatMap (tradesF k (isOrd row))).map pairD), .dat (.int k), .dat (rowD row), x, y, z]) ((fillsOf row).take i) (fun j f hj ρ c2 Q2 hI2 r1 r2 => ?_) ⟨rfl, d, e, g, by simp⟩ (fun ρ c2 hI2 => ?_)
        · obtain ⟨rfl, x, y, z, rfl⟩ := hI2
          rw [flatMap_next _ hj, ← List.append_assoc] at r1
          have hb : ((((fillsOf row).take i).take j).flatMap (tradesF k (isOrd row))).length ≤ 100 := by
            refine Nat.le_trans (flatMap_len (k := 2) fun f _ => tradesF_len k _ f) ?_
            simp only [List.length_take]
            omega
          have hal : (acc ++ (((fillsOf row).take i).take j).flatMap (tradesF k (isOrd row))).length ≤ 7600 := by rw [List.length_append]; omega
          generalize acc ++ (((fillsOf row).take i).take j).flatMap (tradesF k (isOrd row)) = ac2 at r1 hal ⊢
          obtain ⟨p, sz, n⟩ := f
          simp [fillD, ixW_row0, hL]
          cases ho : isOrd row with
          | true =>
            cases n with
            | none =>
              simp [nD]
              refine ⟨by omega, r1 _ _ ⟨rfl, .dat (.int p), .dat (.int sz), .dat .none, ?_⟩⟩
              simp [tradesF, ho, pairD]
            | some n =>
              simp [nD, hL]
              refine ⟨by omega, by omega, r1 _ _ ⟨rfl, .dat (.int p), .dat (.int sz), .dat (.int n), ?_⟩⟩
              simp [tradesF, ho, pairD, nD]
          | false =>
            cases n with
            | none =>
              simp [nD]
              refine r1 _ _ ⟨rfl, .dat (.int p), .dat (.int sz), .dat .none, ?_⟩
              simp [tradesF, ho]
            | some n =>
              simp [nD, hL]
              refine ⟨by omega, r1 _ _ ⟨rfl, .dat (.int p), .dat (.int sz), .dat (.int n), ?_⟩⟩
              simp [tradesF, ho, pairD, nD]
        · obtain ⟨rfl, x, y, z, rfl⟩ := hI2
          rw [List.take_length]
          simp [ixW_row0, hkt]
          cases row with
          | call p ps =>
            simp [isCall, rowD, pairsD]
            simp [tradesR, hkt, fillsOf, isOrd] at q1 ⊢
            exact q1 _ _ _ _ _ _ rfl
          | _ =>
            try simp [isCall]
            simp [tradesR, hkt, fillsOf, isOrd] at q1 ⊢
            exact q1 _ _ _ _ _ _ rfl
    · obtain ⟨rfl, a, b, d, e, g, rfl⟩ := hI
      simp at h ⊢
      exact h
end
theorem eqW_by {neg : Bool} {d e : D} {n m : Nat} {b : Bool} {c : Nat} {P : D → Nat → Prop} (hd : PL n d) (he : PL m e) (nsc : (∃ xs, d = .tuple xs) ∨ ∃ xs, d = .list xs) (hb : b = true ↔ d = e) (h : P (.bool (if neg then !b else b)) c) (hn : n ≤ 64 := by decide) (hm : m ≤ 64 := by decide) : eqW0 neg d e c P := by
  have e1 : eqW0 neg d e = bW (gW (SeqAt.shaped d = true ∧ SeqAt.shaped e = true)) fun _ => rW (.bool (if neg then !PyData.eqv d e else PyData.eqv d e)) := by
    rcases nsc with ⟨xs, rfl⟩ | ⟨xs, rfl⟩ <;> cases e <;> rfl
  rw [e1]
  refine ⟨⟨hd.shaped hn, he.shaped hm⟩, ?_⟩
  have e2 : PyData.eqv d e = b := by
    have h1 := hd.eqv he
    cases b with
    | true => exact h1.mpr (hb.mp rfl)
    | false =>
      cases q : PyData.eqv d e with
      | false => rfl
      | true => exact absurd (hb.mpr (h1.mp q)) (by simp)
  rw [e2]
  exact h
theorem cut_1t {xs : List D} {t : Nat} (h1 : 1 ≤ xs.length) (ht : t ≤ xs.length) : cutD xs (some 1) (some (t : Int)) = (xs.take t).drop 1 := by
  unfold cutD
  rw [show (1 : Int) = ((1 : Nat) : Int) from rfl, HT.sIx_nat, HT.sIx_nat, Nat.min_eq_left h1, Nat.min_eq_left ht, List.drop_take]
theorem getOI_ne {k k' : Option Int} {v : Int} (h : k' ≠ k) : ∀ kvs : List (Option Int × Int), getOI (kvs.map fun kv => if kv.1 = k then (kv.1, v) else kv) k' = getOI kvs k'
  | [] => rfl
  | (a, b) :: l => by
    have ih := getOI_ne (v := v) h l
    unfold getOI at ih ⊢
    by_cases ha : a = k
    · have h2 : ¬ a = k' := fun z => h (by rw [← z, ha])
      simp [ha, show ¬ k = k' from fun z => h z.symm]
      simpa using ih
    · by_cases hb : a = k'
      · simp [ha, hb, h]
      · simp [ha, hb]
        simpa using ih
theorem getOI_eq {k : Option Int} {v : Int} : ∀ kvs : List (Option Int × Int), (kvs.any fun kv => decide (kv.1 = k)) = true → getOI (kvs.map fun kv => if kv.1 = k then (kv.1, v) else kv) k = some v
  | [], h => by simp at h
  | (a, b) :: l, h => by
    by_cases ha : a = k
    · simp [getOI, ha]
    · have h2 : (l.any fun kv => decide (kv.1 = k)) = true := by simpa [ha] using h
      have ih := getOI_eq (v := v) l h2
      unfold getOI at ih ⊢
      simp [ha]
      simpa using ih
theorem get_put (kvs : List (Option Int × Int)) (k k' : Option Int) (v : Int) : getOI (putOI kvs k v) k' = if k' = k then some v else getOI kvs k' := by
  unfold putOI
  split
  · rename_i h
    split
    · rename_i e
      subst e
      exact getOI_eq kvs h
    · rename_i e
      exact getOI_ne e kvs
  · rename_i h
    have hn : getOI kvs k = none := by
      unfold getOI
      rw [Option.map_eq_none_iff, List.find?_eq_none]
      intro x hx
      simp only [Bool.not_eq_true, List.any_eq_false] at h
      exact by simpa using h x hx
    unfold getOI at hn ⊢
    rw [List.find?_append]
    split
    · rename_i e
      subst e
      rw [Option.map_eq_none_iff] at hn
      simp [hn]
    · rename_i e
      have e2 : ¬ k = k' := fun z => e z.symm
      simp [e2]
@[simp] theorem dicW_def (i : Nat) (ρ : Rho) (c : Nat) (P : List (Option Int × Int) → Nat → Prop) : dicW i ρ c P = ∃ w kvs, ρ[i]? = some (.dic w kvs) ∧ P kvs c := rfl
@[simp] theorem dicoW_def (i : Nat) (ρ : Rho) (c : Nat) (P : List (Option Int × Int) → Nat → Prop) : dicoW i ρ c P = ∃ kvs, ρ[i]? = some (.dic true kvs) ∧ P kvs c := rfl
@[simp] theorem asK_int (i : Int) : asK (.int i) = rW (some i) := rfl
@[simp] theorem asK_none : asK .none = rW none := rfl
def canOf : Row → Option Nat
  | .cancel n => some n
  | _ => none
def ordersL (rows : List Row) : List Nat := (List.range rows.length).filter (ordAt rows)
/-- the law's open orders -/
def openL (rows : List Row) (t i : Nat) : List Nat := (ordersL rows).filter fun n => (decide (n < t) && !decide (n ∈ (rows.take t).filterMap canOf)) && decide (pairSum n (tradesP rows t i) < sizeAt rows n)
abbrev g__law_rest : Gs := fun sls c P => ∃ (rows : List Row) (n t i : Nat), sls = [.dat (rowsL rows), .dat (.int n), .dat (.int t), .dat (.int i)] ∧ rowsOk rows ∧ ordAt rows n = true ∧ P (.rt (.int (sizeAt rows n - pairSum n (tradesP rows t i)))) c
abbrev g__law_orders : Gs := fun sls c P => ∃ (rows : List Row), sls = [.dat (rowsL rows)] ∧ rowsOk rows ∧ P (.rt (.list (natsD (ordersL rows)))) c
abbrev g__law_open : Gs := fun sls c P => ∃ (rows : List Row) (t i : Nat), sls = [.dat (rowsL rows), .dat (.int t), .dat (.int i)] ∧ rowsOk rows ∧ P (.rt (.list (natsD (openL rows t i)))) c
abbrev g__law_is_shut : Gs := fun sls c P => ∃ (rows : List Row) (t : Nat), sls = [.dat (rowsL rows), .dat (.int t)] ∧ rowsOk rows ∧ t ≤ rows.length ∧ P (.rt (.bool (shutP (rows.take t)))) c
theorem trades_all {rows : List Row} (h : rowsOk rows) (t i : Nat) : (tradesP rows t i).length ≤ 7500 := trades_len h t i _ (by omega)
section
variable {P : Program} {w : World} {K : PySem.W.Frag} {mg : Str → Option Value} {base : Heap} {C : Addr} {f : Addr} {fd : FuncData}
theorem ok__law_rest (bl : Bl mg) (cn : Cn K mg) (h__law_trades : Has P w K mg base C "_law_trades" 2 ["_law_rows", "_law_t", "_law_i"] g__law_trades) (F : FunD K "_law_rest" "_law_rest" (defArgs s__law_rest) (defBody s__law_rest) (defScope s__law_rest) [] [] f fd) (hm : mg "_law_rest" = some (.ref f)) : Has P w K mg base C "_law_rest" 3 ["_law_rows", "_law_n", "_law_t", "_law_i"] g__law_rest := by
  obtain ⟨f__law_trades, fd__law_trades, F__law_trades, m__law_trades, k__law_trades, b__law_trades⟩ := h__law_trades
  have S : FnScope ["_law_rows", "_law_n", "_law_t", "_law_i", "_law_m", "_law_size"] ["_law_rows", "_law_n", "_law_t", "_law_i"] (defScope s__law_rest) := ⟨rfl, rfl, rfl, by decide +kernel, rfl, by decide +kernel, by decide +kernel⟩
  refine ⟨f, fd, fn_w F S (fun sls c P h => ?len) (fun cdv A outer s H E r hr => ((pwss_one (pws_ret (pw_op opW_sub op_sub (pw_ix (pw_ix (pw_var 0) (pw_var 1)) pw_int) (pw_callB calW_sum (cr_sum rfl) bl.sum (paw_cons (pw_lc [("_law_m", 4), ("_law_size", 5)] rfl S.nd (pwi_lst (pw_call F__law_trades (hr.mono (by decide)) m__law_trades k__law_trades b__law_trades .nil (fun _ _ => .nil) (par_dat (pw_var 0) (par_dat (pw_var 2) (par_dat (pw_var 3) par_nil))))) (blkOk_by (by kernel_rfl)) (fun _ _ _ _ _ => (pwg_tup 2 rfl (pwgs_cons (pwg_name 4 S.nd) (pwgs_cons (pwg_name 5 S.nd) pwgs_nil)))) (fun _ _ _ _ _ => (pts_one (pwt_cmp opW_eq (op_eqA hr.units) (pw_var 4) (pw_var 1) (nomark _)))) (fun _ _ _ _ _ => (pw_var 5))) paw_nil))))))) (fun sls c P h => ?data), hm, F.kp, F.bindsN fun _ _ _ _ _ _ us hl => match us, hl with | [_, _, _, _], _ => rfl⟩
  case len =>
    obtain ⟨rows, n, t, i, rfl, h⟩ := h
    rfl
  case data =>
    obtain ⟨rows, n, t, i, rfl, h⟩ := h
    obtain ⟨hok, ho, h⟩ := h
    obtain ⟨m, b, p, s, fs, hr⟩ := ordAt_get ho
    have hL2 : LIM = 100000 := rfl
    have htl := trades_all hok t i
    have hs : sizeAt rows n = s := by unfold sizeAt; rw [hr]
    simp [rho0, rowsL, ixW_rowsL hr, rowD, lcD]
    refine ⟨rows, t, i, rfl, hok, ?_⟩
    simp
    refine ⟨by omega, ?_⟩
    refine lcG_fl pairD (fun q => decide (q.1 = n)) (fun q => PyData.int q.2) _ (fun q hq c Q hQ => ?_) ?_
    · simp [pairD]
      by_cases e : q.1 = n
      · simpa [e] using hQ
      · simpa [e] using hQ
    · refine ⟨((tradesP rows t i).filter fun q => decide (q.1 = n)).map (·.2), by simp, ?_⟩
      rw [hs] at h
      simpa [pairSum] using h
theorem ok__law_orders (bl : Bl mg) (cn : Cn K mg)  (F : FunD K "_law_orders" "_law_orders" (defArgs s__law_orders) (defBody s__law_orders) (defScope s__law_orders) [] [] f fd) (hm : mg "_law_orders" = some (.ref f)) : Has P w K mg base C "_law_orders" 1 ["_law_rows"] g__law_orders := by
  have S : FnScope ["_law_rows", "_law_k"] ["_law_rows"] (defScope s__law_orders) := ⟨rfl, rfl, rfl, by decide +kernel, rfl, by decide +kernel, by decide +kernel⟩
  refine ⟨f, fd, fn_w F S (fun sls c P h => ?len) (fun cdv A outer s H E r hr => ((pwss_one (pws_ret (pw_lc [("_law_k", 1)] rfl S.nd (pwi_range bl.range (pw_callB calW_len call_len bl.len (paw_cons (pw_var 0) paw_nil))) (blkOk_by (by kernel_rfl)) (fun _ _ _ _ _ => (pwg_name 1 S.nd)) (fun _ _ _ _ _ => (pts_one (pwt_cmp opW_eq (op_eqA hr.units) (pw_ix (pw_ix (pw_var 0) (pw_var 1)) pw_int) pw_str (nomark _)))) (fun _ _ _ _ _ => (pw_var 1))))))) (fun sls c P h => ?data), hm, F.kp, F.bindsN fun _ _ _ _ _ _ us hl => match us, hl with | [_], _ => rfl⟩
  case len =>
    obtain ⟨rows, rfl, h⟩ := h
    rfl
  case data =>
    obtain ⟨rows, rfl, h⟩ := h
    obtain ⟨hok, h⟩ := h
    have hz := hok.1
    have hL2 : LIM = 100000 := rfl
    simp [rho0, rowsL, lcD]
    refine ⟨by omega, by omega, ?_⟩
    refine lcG_fl (fun n : Nat => PyData.int (n : Int)) (ordAt rows) (fun n => PyData.int (n : Int)) _ (fun k hk c Q hQ => ?_) ?_
    · have hkl := List.mem_range.mp hk
      have hr : rows[k]? = some rows[k] := List.getElem?_eq_getElem hkl
      simp [ixW_rowsL hr, ixW_row0]
      have e : ordAt rows k = isOrd rows[k] := by
        unfold ordAt
        rw [hr]
        cases rows[k] <;> rfl
      rw [e] at hQ
      cases ho : isOrd rows[k] <;> simp [ho] at hQ ⊢ <;> exact hQ
    · simpa [natsD, ordersL] using h
theorem ok__law_open (bl : Bl mg) (cn : Cn K mg) (h__law_orders : Has P w K mg base C "_law_orders" 1 ["_law_rows"] g__law_orders) (h__law_trades : Has P w K mg base C "_law_trades" 2 ["_law_rows", "_law_t", "_law_i"] g__law_trades) (F : FunD K "_law_open" "_law_open" (defArgs s__law_open) (defBody s__law_open) (defScope s__law_open) [] [] f fd) (hm : mg "_law_open" = some (.ref f)) : Has P w K mg base C "_law_open" 3 ["_law_rows", "_law_t", "_law_i"] g__law_open := by
  obtain ⟨f__law_orders, fd__law_orders, F__law_orders, m__law_orders, k__law_orders, b__law_orders⟩ := h__law_orders
  obtain ⟨f__law_trades, fd__law_trades, F__law_trades, m__law_trades, k__law_trades, b__law_trades⟩ := h__law_trades
  have S : FnScope ["_law_rows", "_law_t", "_law_i", "_law_gone", "_law_row", "_law_traded_now", "_law_n", "_law_size", "_law_found"] ["_law_rows", "_law_t", "_law_i"] (defScope s__law_open) := ⟨rfl, rfl, rfl, by decide +kernel, rfl, by decide +kernel, by decide +kernel⟩
  refine ⟨f, fd, fn_w F S (fun sls c P h => ?len) (fun cdv A outer s H E r hr => have hu := hu_of' hr; have hp := passes_of rfl; ((pwss_cons (pws_set 3 S.nd (pw_lc [("_law_row", 4)] rfl S.nd (pwi_lst (pw_slice (pw_var 0) pwo_none (pwo_some (pw_var 1)))) (blkOk_by (by kernel_rfl)) (fun _ _ _ _ _ => (pwg_name 4 S.nd)) (fun _ _ _ _ _ => (pts_one (pwt_cmp opW_eq (op_eqA hr.units) (pw_ix (pw_var 4) pw_int) pw_str (nomark _)))) (fun _ _ _ _ _ => (pw_ix (pw_var 4) pw_int))))
      (pwss_cons (pws_dnew 5 S.nd)
      (pwss_cons (pws_for hp rfl (pwi_lst (pw_call F__law_trades (hr.mono (by decide)) m__law_trades k__law_trades b__law_trades .nil (fun _ _ => .nil) (par_dat (pw_var 0) (par_dat (pw_var 1) (par_dat (pw_var 2) par_nil))))) (pwg_tup 2 rfl (pwgs_cons (pwg_name 6 S.nd) (pwgs_cons (pwg_name 7 S.nd) pwgs_nil))) (pwss_one (pws_dput 5 (pw_op opW_add op_addA (pw_dget 5 (pw_var 6) pw_int) (pw_var 7)) (pw_var 6))))
      (pwss_cons (pws_setLc 8 [("_law_n", 6)] rfl S.nd (sw_true rfl rfl rfl rfl) (pwi_lst (pw_call F__law_orders (hr.mono (by decide)) m__law_orders k__law_orders b__law_orders .nil (fun _ _ => .nil) (par_dat (pw_var 0) par_nil))) (blkOk_by (by kernel_rfl)) (fun _ _ _ _ _ => (pwg_name 6 S.nd)) (fun _ _ _ _ _ => (pts_one (PW.pt (pww_and (pwt_cmp opW_cmp op_lt (pw_var 6) (pw_var 1) (nomark _)) (pww_and1 (pwt_cmp opW_notIn (op_notInA hu) (pw_var 6) (pw_var 3) (by with_unfolding_all rfl))))))) (fun _ _ _ _ _ => (pw_var 6)))
      (pwss_one (pws_ret (pw_lc [("_law_n", 6)] rfl S.nd (pwi_lst (pw_var 8)) (blkOk_by (by kernel_rfl)) (fun _ _ _ _ _ => (pwg_name 6 S.nd)) (fun _ _ _ _ _ => (pts_one (pwt_cmp opW_cmp op_gt (pw_ix (pw_ix (pw_var 0) (pw_var 6)) pw_int) (pw_dget 5 (pw_var 6) pw_int) (nomark _)))) (fun _ _ _ _ _ => (pw_var 6))))))))))) (fun sls c P h => ?data), hm, F.kp, F.bindsN fun _ _ _ _ _ _ us hl => match us, hl with | [_, _, _], _ => rfl⟩
  case len =>
    obtain ⟨rows, t, i, rfl, h⟩ := h
    rfl
  case data =>
    obtain ⟨rows, t, i, rfl, h⟩ := h
    obtain ⟨hok, h⟩ := h
    have hz := hok.1
    have hL2 : LIM = 100000 := rfl
    have htl := trades_all hok t i
    simp [rho0, rowsL, lcD]
    rw [cut_to _ t t rfl, ← List.map_take]
    refine ⟨by simp; omega, ?_⟩
    refine lcG_fm rowD (fun r => (canOf r).map fun n : Nat => PyData.int (n : Int)) _ (fun q hq c Q hQ => ?_) ?_
    · simp [ixW_row0]
      cases q with
      | cancel n => simpa [kindS, rowD, canOf] using hQ
      | _ => simpa [kindS, canOf] using hQ
    · have hgone : ((rows.take t).filterMap fun r => (canOf r).map fun n : Nat => PyData.int (n : Int)) = natsD ((rows.take t).filterMap canOf) := by simp [natsD, List.map_filterMap]
      rw [List.nil_append, hgone]
      have hgl : ((rows.take t).filterMap canOf).length ≤ 50 := Nat.le_trans (List.length_filterMap_le _ _) (by simp; omega)
      have hop : openL rows t i = (ordersL rows).filter fun n => (decide (n < t) && !decide (n ∈ (rows.take t).filterMap canOf)) && decide (pairSum n (tradesP rows t i) < sizeAt rows n) := rfl
      generalize (rows.take t).filterMap canOf = gone at hgl hop ⊢
      refine ⟨rows, t, i, rfl, hok, ?_⟩
      simp
      refine forG_map pairD (fun k ρ c' => c' = c ∧ ∃ kvs a b, ρ = [.dat (.list (rows.map rowD)), .dat (.int t), .dat (.int i), .dat (.list (natsD gone)), .no, .dic true kvs, a, b, .no] ∧ kvs.length ≤ k ∧ ∀ n : Nat, (getOI kvs (some (n : Int))).getD 0 = pairSum n ((tradesP rows t i).take k)) _ (fun k q hq ρ c' Q hI q1 q2 => ?_) ⟨rfl, [], _, _, rfl, Nat.zero_le _, fun n => rfl⟩ (fun ρ c' hI => ?_)
      · obtain ⟨rfl, kvs, a, b, rfl, hl, hS⟩ := hI
        have hkl : k < (tradesP rows t i).length := (List.getElem?_eq_some_iff.mp hq).1
        obtain ⟨m, z⟩ := q
        simp [pairD]
        refine ⟨by omega, q1 _ _ ⟨rfl, _, _, _, rfl, Nat.le_trans (putOI_length _ _ _) (by omega), fun n => ?_⟩⟩
        rw [get_put, List.take_add_one, hq]
        have h1 := hS n
        unfold pairSum at h1 ⊢
        rw [List.filter_append, List.map_append, List.sum_append]
        by_cases e : n = m
        · subst e
          simp
          omega
        · have e2 : ¬ ((n : Int) = (m : Int)) := by omega
          have e3 : ¬ m = n := fun z => e z.symm
          simp [e2, e3]
          omega
      · obtain ⟨rfl, kvs, a, b, rfl, hl, hS⟩ := hI
        rw [List.take_length] at hS
        simp [lcD]
        refine ⟨rows, rfl, hok, ?_⟩
        have hol : (ordersL rows).length ≤ 50 := Nat.le_trans (List.length_filter_le _ _) (by simp; omega)
        simp
        refine ⟨by simp [natsD]; omega, ?_⟩
        refine lcG_fl (fun n : Nat => PyData.int (n : Int)) (fun n => decide (n < t) && !decide (n ∈ gone)) (fun n => PyData.int (n : Int)) _ (fun n hn c Q hQ => ?_) ?_
        · simp
          by_cases e : n < t
          · simp [e] at hQ ⊢
            refine ⟨⟨(PL.int _).shaped (by decide), (PL.natsL _).shaped (by decide)⟩, ?_⟩
            rw [any_nat]
            by_cases e2 : n ∈ gone <;> simp [e2] at hQ ⊢ <;> exact hQ
          · simp [e] at hQ ⊢
            exact hQ
        · have hf2 : (((ordersL rows).filter fun n => decide (n < t) && !decide (n ∈ gone)).length) ≤ 50 := Nat.le_trans (List.length_filter_le _ _) hol
          simp
          refine ⟨by simpa using (by omega : ((ordersL rows).filter fun n => decide (n < t) && !decide (n ∈ gone)).length ≤ LIM), ?_⟩
          refine lcG_fl (fun n : Nat => PyData.int (n : Int)) (fun n => decide (pairSum n (tradesP rows t i) < sizeAt rows n)) (fun n => PyData.int (n : Int)) _ (fun n hn c Q hQ => ?_) ?_
          · have ho : ordAt rows n = true := (List.mem_filter.mp (List.mem_filter.mp hn).1).2
            obtain ⟨m, b, p, s, fs, hr⟩ := ordAt_get ho
            have hs : sizeAt rows n = s := by unfold sizeAt; rw [hr]
            simp [ixW_rowsL hr, rowD, hS n]
            rw [hs] at hQ
            by_cases e : pairSum n (tradesP rows t i) < s <;> simp [e] at hQ ⊢ <;> exact hQ
          · rw [hop] at h
            rw [List.nil_append, List.filter_filter]
            have ee : ((ordersL rows).filter fun n => decide (pairSum n (tradesP rows t i) < sizeAt rows n) && (decide (n < t) && !decide (n ∈ gone))) = (ordersL rows).filter fun n => (decide (n < t) && !decide (n ∈ gone)) && decide (pairSum n (tradesP rows t i) < sizeAt rows n) := by
              congr 1
              funext n
              exact Bool.and_comm _ _
            rw [ee]
            exact h
theorem ok__law_is_shut (bl : Bl mg) (cn : Cn K mg)  (F : FunD K "_law_is_shut" "_law_is_shut" (defArgs s__law_is_shut) (defBody s__law_is_shut) (defScope s__law_is_shut) [] [] f fd) (hm : mg "_law_is_shut" = some (.ref f)) : Has P w K mg base C "_law_is_shut" 1 ["_law_rows", "_law_t"] g__law_is_shut := by
  have S : FnScope ["_law_rows", "_law_t", "_law_row"] ["_law_rows", "_law_t"] (defScope s__law_is_shut) := ⟨rfl, rfl, rfl, by decide +kernel, rfl, by decide +kernel, by decide +kernel⟩
  refine ⟨f, fd, fn_w F S (fun sls c P h => ?len) (fun cdv A outer s H E r hr => ((pwss_one (pws_ret (pw_and (pw_cmp opW_cmp op_gt (pw_var 1) pw_int (nomark _)) (pw_and (pw_cmp opW_eq (op_eqA hr.units) (pw_ix (pw_var 0) pw_int) (pw_tup (paw_cons pw_str paw_nil)) (nomark _)) (pw_one (pw_cmp opW_eq (op_eqA hr.units) (pw_lc [("_law_row", 2)] rfl S.nd (pwi_lst (pw_slice (pw_var 0) (pwo_some pw_int) (pwo_some (pw_var 1)))) (blkOk_by (by kernel_rfl)) (fun _ _ _ _ _ => (pwg_name 2 S.nd)) (fun _ _ _ _ _ => (pts_one (pwt_cmp opW_eq (op_eqA hr.units) (pw_ix (pw_var 2) pw_int) pw_str (nomark _)))) (fun _ _ _ _ _ => (pw_var 2))) (pw_lst paw_nil) (nomark _))))))))) (fun sls c P h => ?data), hm, F.kp, F.bindsN fun _ _ _ _ _ _ us hl => match us, hl with | [_, _], _ => rfl⟩
  case len =>
    obtain ⟨rows, t, rfl, h⟩ := h
    rfl
  case data =>
    obtain ⟨rows, t, rfl, h⟩ := h
    obtain ⟨hok, ht, h⟩ := h
    have hz := hok.1
    have hL2 : LIM = 100000 := rfl
    simp [rho0, rowsL]
    by_cases h0 : 0 < t
    · cases rows with
      | nil => simp at ht; omega
      | cons r rows =>
        simp [h0, LIM]
        have hrn := hok.nm r List.mem_cons_self
        refine eqW_by (b := decide (r = .closed)) (PL.row hrn) (PL.row (r := .closed) trivial) (.inl (by cases r <;> exact ⟨_, rfl⟩)) ?_ ?_
        · rw [decide_eq_true_eq]
          exact ⟨fun e => by rw [e]; rfl, fun e => rowD_inj (b := .closed) e⟩
        · cases hcl : decide (r = Row.closed) with
          | false =>
            have hne : r ≠ .closed := of_decide_eq_false hcl
            have e : shutP ((r :: rows).take t) = false := by
              obtain ⟨j, rfl⟩ : ∃ j, t = j + 1 := ⟨t - 1, by omega⟩
              cases r <;> simp_all [shutP]
            rw [e] at h
            simpa using h
          | true =>
            have heq : r = .closed := of_decide_eq_true hcl
            subst heq
            simp [lcD]
            rw [cut_1t (by simp) (by simpa using ht), ← List.map_cons, ← List.map_take, ← List.map_drop]
            refine ⟨by simp at hz ⊢; omega, ?_⟩
            obtain ⟨j, rfl⟩ : ∃ j, t = j + 1 := ⟨t - 1, by omega⟩
            simp only [List.take_succ_cons, List.drop_succ_cons, List.drop_zero]
            refine lcG_fl rowD isCall rowD _ (fun q hq c Q hQ => ?_) ?_
            · simp [ixW_row0]
              cases hq2 : isCall q <;> simp [hq2] at hQ ⊢ <;> exact hQ
            · have hnm : ∀ x ∈ (rows.take j).filter isCall, rowNm x := fun x hx => hok.nm x (List.mem_cons_of_mem _ (List.mem_of_mem_take (List.mem_filter.mp hx).1))
              refine eqW_by (b := shutP ((Row.closed :: rows).take (j + 1))) (PL.rowsL hnm) (PL.rowsL (rows := []) (by simp)) (.inr ⟨_, rfl⟩) ?_ h
              simp [shutP, isCall, List.filter_eq_nil_iff]
    · have e : t = 0 := by omega
      subst e
      simpa [shutP] using h
end
end FK
set_option Elab.async false
set_option linter.all false
set_option maxRecDepth 100000
set_option maxHeartbeats 4000000
/-! Plain law: the law's reckoning and the program's agree on rows whose fills name no row itself. -/
namespace FK
open PySem PySem.Spec L2
def NoSelf (rows : List Row) : Prop := ∀ s r, rows[s]? = some r → ∀ f ∈ fillsOf r, f.n ≠ some s
@[simp] theorem pairSum_nil (n : Nat) : pairSum n [] = 0 := rfl
theorem pairSum_append (n : Nat) (a b : List (Nat × Int)) : pairSum n (a ++ b) = pairSum n a + pairSum n b := by
  unfold pairSum
  rw [List.filter_append, List.map_append, List.sum_append]
theorem pairSum_cons (n : Nat) (q : Nat × Int) (l : List (Nat × Int)) : pairSum n (q :: l) = (if q.1 = n then q.2 else 0) + pairSum n l := by
  unfold pairSum
  by_cases h : q.1 = n <;> simp [h]
theorem fillSum_cons (t n : Nat) (f : Fill) (fs : List Fill) : fillSum t n (f :: fs) = (if f.n = some n ∨ t = n then f.s else 0) + fillSum t n fs := by
  unfold fillSum
  by_cases h : f.n = some n <;> by_cases h2 : t = n <;> simp [h, h2]
theorem fillSum_append (t n : Nat) (a b : List Fill) : fillSum t n (a ++ b) = fillSum t n a + fillSum t n b := by
  unfold fillSum
  rw [List.filter_append, List.map_append, List.sum_append]
theorem trades_fills {s n : Nat} {o : Bool} : ∀ {fs : List Fill}, (s = n → o = true ∧ ∀ f ∈ fs, f.n ≠ some n) → pairSum n (fs.flatMap (tradesF s o)) = fillSum s n fs
  | [], _ => rfl
  | f :: fs, h => by
    have ih := trades_fills (o := o) (fs := fs) fun e => ⟨(h e).1, fun g hg => (h e).2 g (List.mem_cons_of_mem _ hg)⟩
    rw [List.flatMap_cons, pairSum_append, fillSum_cons, ih]
    congr 1
    unfold tradesF
    rw [pairSum_append]
    obtain ⟨p, z, m⟩ := f
    by_cases e : s = n
    · obtain ⟨h1, h2⟩ := h e
      have h3 := h2 _ List.mem_cons_self
      cases m with
      | none => simp [h1, e, pairSum_cons]
      | some m =>
        have h4 : ¬ m = n := fun q => h3 (by rw [q])
        simp [h1, e, pairSum_cons, h4]
    · cases m with
      | none => cases o <;> simp [e, pairSum_cons]
      | some m => cases o <;> simp [e, pairSum_cons]
theorem tradesR_before {rows : List Row} {t i s n : Nat} {row : Row} (hr : rows[s]? = some row) (ns : NoSelf rows) (ho : ordAt rows n = true) (hs : s < t) : pairSum n (tradesR t i s row) = lotsIn row n s (fillsOf row) := by
  have hc : s = n → isOrd row = true ∧ ∀ f ∈ fillsOf row, f.n ≠ some n := fun e => by
    subst e
    refine ⟨?_, ns s row hr⟩
    unfold ordAt at ho
    rw [hr] at ho
    cases row <;> simp_all [isOrd]
  unfold tradesR
  rw [pairSum_append, if_pos hs, trades_fills hc]
  cases row with
  | call p ps => simp [fillsOf, lotsIn, hs]
  | _ => simp [lotsIn]
theorem tradesR_at {rows : List Row} {t i n : Nat} {row : Row} (hr : rows[t]? = some row) (ns : NoSelf rows) (ho : ordAt rows n = true) : pairSum n (tradesR t i t row) = fillSum t n (exF rows t i) := by
  have hc : t = n → isOrd row = true ∧ ∀ f ∈ (fillsOf row).take i, f.n ≠ some n := fun e => by
    subst e
    refine ⟨?_, fun f hf => ns t row hr f (List.mem_of_mem_take hf)⟩
    unfold ordAt at ho
    rw [hr] at ho
    cases row <;> simp_all [isOrd]
  unfold tradesR exF
  rw [pairSum_append, if_neg (Nat.lt_irrefl t), trades_fills hc, hr]
  cases row with
  | call p ps => simp [fillsOf]
  | _ => simp
theorem trades_to {rows : List Row} {t i n : Nat} (ns : NoSelf rows) (ho : ordAt rows n = true) : ∀ k, k ≤ t → k ≤ rows.length → pairSum n ((List.range k).flatMap (tradesAt rows t i)) = sold (rows.take k) n
  | 0, _, _ => by simp [sold, soldFrom]
  | k + 1, h1, h2 => by
    have ih := trades_to (t := t) (i := i) ns ho k (by omega) (by omega)
    have hr : rows[k]? = some rows[k] := List.getElem?_eq_getElem (by omega)
    rw [List.range_succ, List.flatMap_append, pairSum_append, ih, List.take_add_one, hr]
    show _ = sold (rows.take k ++ [rows[k]]) n
    rw [sold_snoc, List.length_take, Nat.min_eq_left (by omega)]
    simp only [List.flatMap_cons, List.flatMap_nil, List.append_nil, tradesAt, hr]
    rw [tradesR_before hr ns ho (by omega)]
/-- what the trades sum up to -/
theorem trades_sum {rows : List Row} {t i n : Nat} (ns : NoSelf rows) (ho : ordAt rows n = true) (ht : t ≤ rows.length) : pairSum n (tradesP rows t i) = sold (rows.take t) n + fillSum t n (exF rows t i) := by
  unfold tradesP
  by_cases h : t < rows.length
  · have hr : rows[t]? = some rows[t] := List.getElem?_eq_getElem h
    rw [Nat.min_eq_left (by omega), List.range_succ, List.flatMap_append, pairSum_append, trades_to ns ho t (Nat.le_refl _) ht]
    simp only [List.flatMap_cons, List.flatMap_nil, List.append_nil, tradesAt, hr]
    rw [tradesR_at hr ns ho]
  · have e : t = rows.length := by omega
    rw [Nat.min_eq_right (by omega), trades_to ns ho rows.length (by omega) (Nat.le_refl _), e]
    have : exF rows rows.length i = [] := by unfold exF; rw [List.getElem?_eq_none (Nat.le_refl _)]
    rw [this, fillSum_nil, Int.add_zero]
theorem mem_gone {rows : List Row} {n : Nat} : n ∈ rows.filterMap canOf ↔ rows.contains (.cancel n) = true := by
  rw [List.mem_filterMap, List.contains_iff_mem]
  constructor
  · rintro ⟨r, hr, e⟩
    cases r <;> simp [canOf] at e
    subst e; exact hr
  · intro h
    exact ⟨_, h, rfl⟩
/-- the law's open orders are the program's -/
theorem openL_eq {rows : List Row} {t i : Nat} (ns : NoSelf rows) (ht : t ≤ rows.length) : openL rows t i = (ordersL rows).filter fun n => openP (rows.take t) (exF rows t i) n := by
  unfold openL
  refine List.filter_congr fun n hn => ?_
  have ho : ordAt rows n = true := (List.mem_filter.mp hn).2
  unfold openP restP
  rw [trades_sum ns ho ht, List.length_take, Nat.min_eq_left ht]
  by_cases hnt : n < t
  · rw [ordAt_take hnt, sizeAt_take hnt, ho]
    have e : decide (n ∈ (rows.take t).filterMap canOf) = (rows.take t).contains (.cancel n) := by
      cases q : (rows.take t).contains (.cancel n) with
      | true => exact decide_eq_true (mem_gone.mpr q)
      | false => exact decide_eq_false fun z => by rw [mem_gone.mp z] at q; cases q
    rw [e]
    simp only [hnt, decide_true, Bool.true_and]
    congr 1
    by_cases z : sold (rows.take t) n + fillSum t n (exF rows t i) < sizeAt rows n
    · rw [decide_eq_true z, decide_eq_true (by omega)]
    · rw [decide_eq_false z, decide_eq_false (by omega)]
  · have e : ordAt (rows.take t) n = false := by
      unfold ordAt
      rw [List.getElem?_eq_none (by rw [List.length_take]; omega)]
    simp [hnt, e]
/-- rows that hold one by one -/
def Valid (rows : List Row) : Prop := ∀ s r, rows[s]? = some r → stepOk (rows.take s) r = true
theorem atAll_iff {ok : List Fill → Fill → Bool} {fs : List Fill} : atAll ok fs = true ↔ ∀ j f, fs[j]? = some f → ok (fs.take j) f = true := by
  unfold atAll
  rw [List.all_eq_true]
  constructor
  · intro h j f hj
    have := h j (List.mem_range.mpr (List.getElem?_eq_some_iff.mp hj).1)
    unfold atF at this
    rw [hj] at this
    exact this
  · intro h j hj
    have hl := List.mem_range.mp hj
    unfold atF
    rw [List.getElem?_eq_getElem hl]
    exact h j _ (List.getElem?_eq_getElem hl)
theorem openP_lt {pre : List Row} {fs : List Fill} {n : Nat} (h : openP pre fs n = true) : n < pre.length := by
  unfold openP at h
  simp only [Bool.and_eq_true] at h
  exact ordAt_lt h.1.1
theorem resting_lt {pre : List Row} {prior : List Fill} {f : Fill} {n : Nat} (h : restingOk pre prior f = true) (hn : f.n = some n) : n < pre.length := by
  unfold restingOk at h
  rw [hn] at h
  exact openP_lt h
theorem Valid.noSelf {rows : List Row} (h : Valid rows) : NoSelf rows := fun s r hr f hf hn => by
  have hs := h s r hr
  have hsl : s < rows.length := (List.getElem?_eq_some_iff.mp hr).1
  have hl : (rows.take s).length = s := by rw [List.length_take]; omega
  unfold stepOk at hs
  rw [Bool.and_eq_true] at hs
  obtain ⟨j, hj, e⟩ := List.getElem_of_mem hf
  have hjf : (fillsOf r)[j]? = some f := by rw [← e]; exact List.getElem?_eq_getElem hj
  have : ∃ prior, restingOk (rows.take s) prior f = true := by
    cases r with
    | order m b p z fs =>
      have := atAll_iff.mp hs.2 j f hjf
      unfold ownOk at this
      rw [Bool.and_eq_true] at this
      exact ⟨_, this.1⟩
    | prints fs =>
      have := atAll_iff.mp hs.2 j f hjf
      unfold printOk at this
      rw [Bool.and_eq_true] at this
      exact ⟨_, this.1⟩
    | _ => simp [fillsOf] at hf
  obtain ⟨prior, hp⟩ := this
  have := resting_lt hp hn
  omega
theorem Valid.snoc {rows : List Row} {r : Row} (h : Valid rows) (hr : stepOk rows r = true) : Valid (rows ++ [r]) := fun s x hx => by
  by_cases hs : s < rows.length
  · rw [List.getElem?_append_left hs] at hx
    rw [List.take_append_of_le_length (by omega)]
    exact h s x hx
  · rw [List.getElem?_append_right (by omega)] at hx
    have e : s - rows.length = 0 := by
      have := (List.getElem?_eq_some_iff.mp hx).1
      simp at this
      omega
    rw [e] at hx
    simp at hx
    have e2 : s = rows.length := by omega
    subst e2 hx
    rw [List.take_append_of_le_length (Nat.le_refl _), List.take_length]
    exact hr
theorem Valid.nil : Valid [] := fun s r h => by simp at h
theorem Valid.all {rows : List Row} (h : Valid rows) : allOk rows = true := by
  unfold allOk
  rw [List.all_eq_true]
  intro t ht
  have htl := List.mem_range.mp ht
  rw [List.getElem?_eq_getElem htl]
  exact h t _ (List.getElem?_eq_getElem htl)
end FK
set_option Elab.async false
set_option linter.all false
set_option maxRecDepth 100000
set_option maxHeartbeats 4000000
/-! Defs as promises: the law's drawn rows. (Printed by gen2.py from specY.py.) -/
namespace FK
open PySem PySem.Spec L2
def g__law_draw : Gs := fun sls c P => ∃ m : Nat, sls = [.rd, .dat (.int m)] ∧ 0 < m ∧ m < 2 ^ 30 ∧ c < 10 ^ 6 ∧ ∀ r : Nat, r < m → P (.rt (.int r)) (c + 1)
theorem use_draw {i : Int} {c : Nat} {P : Out → Nat → Prop} (h0 : 0 < i) (h1 : i < 2 ^ 30) (hc : c < 10 ^ 6) (h : ∀ r : Nat, (r : Int) < i → P (.rt (.int r)) (c + 1)) : g__law_draw [.rd, .dat (.int i)] c P := by
  refine ⟨i.toNat, by simp; omega, by omega, by omega, hc, fun r hr => h r (by omega)⟩
@[simp] theorem nmW_def (i : Nat) (ρ : Rho) (c : Nat) (P : Sl → Nat → Prop) : nmW i ρ c P = ((ρ[i]? = some .rd ∧ P .rd c) ∨ ∃ w kvs, ρ[i]? = some (.dic w kvs) ∧ P (.dic false kvs) c) := rfl
@[simp] theorem addW_lst (xs ys : List D) : addW (.list xs) (.list ys) = bW (gW (xs.length + ys.length ≤ LIM)) fun _ => rW (.list (xs ++ ys)) := rfl
@[simp] theorem addW_tup (xs ys : List D) : addW (.tuple xs) (.tuple ys) = bW (gW (xs.length + ys.length ≤ LIM)) fun _ => rW (.tuple (xs ++ ys)) := rfl
def sideN : Option Bool → D
  | none => .none
  | some b => sideD b
def fillChk (rows : List Row) (side : Option Bool) (lim left : Int) : List Fill → Fill → Bool := match side with
  | none => printOk rows
  | some b => ownOk rows b lim left
structure GenRows (rows : List Row) : Prop where
  ok : rowsOk rows
  va : Valid rows
  len : rows.length ≤ 20
abbrev g__law_new_fills : Gs := fun sls c P => ∃ (rows : List Row) (side : Option Bool) (lim left : Int), sls = [.rd, .dat (rowsL rows), .dat (.int 2), .dat (.int left), .dat (sideN side), .dat (.int lim)] ∧ GenRows rows ∧ (side ≠ none → 8 ≤ lim ∧ lim ≤ 12) ∧ c + 20 ≤ 10 ^ 6 ∧
  ∀ fs c', c' ≤ c + 20 → fs.length ≤ 2 → (∀ f ∈ fs, fillOk f) → atAll (fillChk rows side lim left) fs = true → P (.rt (fillsD fs)) c'
theorem flats_all {xs : List D} (h : ∀ x ∈ xs, flat x = true) : flats xs = true := by
  induction xs with
  | nil => rfl
  | cons x xs ih => simp [flats, h x List.mem_cons_self, ih fun y hy => h y (List.mem_cons_of_mem _ hy)]
theorem flat_fill (f : Fill) : flat (fillD f) = true := by
  obtain ⟨p, s, n⟩ := f
  cases n <;> rfl
theorem flat_fills (fs : List Fill) : flat (.tuple (fs.map fillD)) = true := flats_all fun x hx => by
  obtain ⟨f, _, rfl⟩ := List.mem_map.mp hx
  exact flat_fill f
theorem late_map (rows : List Row) (fs : List Fill) : rows.map rowD ++ [PyData.tuple [.str "prints", .tuple (fs.map fillD)]] = (rows ++ [Row.prints fs]).map rowD := by simp [rowD, fillsD]
theorem late_ns {rows : List Row} {fs : List Fill} (hv : Valid rows) (hn : ∀ f ∈ fs, ∀ n, f.n = some n → n < rows.length) : NoSelf (rows ++ [Row.prints fs]) := fun s r hr f hf e => by
  by_cases hs : s < rows.length
  · rw [List.getElem?_append_left hs] at hr
    exact hv.noSelf s r hr f hf e
  · rw [List.getElem?_append_right (by omega)] at hr
    have e2 : s - rows.length = 0 := by
      have := (List.getElem?_eq_some_iff.mp hr).1
      simp at this
      omega
    rw [e2] at hr
    simp at hr
    subst hr
    have := hn f hf s e
    omega
theorem late_exF (rows : List Row) (fs : List Fill) : exF (rows ++ [Row.prints fs]) rows.length fs.length = fs := by
  unfold exF
  rw [List.getElem?_append_right (Nat.le_refl _)]
  simp [fillsOf]
theorem late_take (rows : List Row) (fs : List Fill) : (rows ++ [Row.prints fs]).take rows.length = rows := by simp
theorem late_open {rows : List Row} {fs : List Fill} (hv : Valid rows) (hn : ∀ f ∈ fs, ∀ n, f.n = some n → n < rows.length) : openL (rows ++ [Row.prints fs]) rows.length fs.length = (ordersL (rows ++ [Row.prints fs])).filter fun n => openP rows fs n := by
  rw [openL_eq (late_ns hv hn) (by simp), late_take, late_exF]
theorem late_at {rows : List Row} {fs : List Fill} {n : Nat} (h : n < rows.length) : (rows ++ [Row.prints fs])[n]? = rows[n]? := List.getElem?_append_left h
theorem late_rest {rows : List Row} {fs : List Fill} {n : Nat} (hv : Valid rows) (hn : ∀ f ∈ fs, ∀ n, f.n = some n → n < rows.length) (ho : ordAt rows n = true) : sizeAt (rows ++ [Row.prints fs]) n - pairSum n (tradesP (rows ++ [Row.prints fs]) rows.length fs.length) = restP rows fs n := by
  have hl := ordAt_lt ho
  have h2 : ordAt (rows ++ [Row.prints fs]) n = true := by unfold ordAt at ho ⊢; rw [late_at hl]; exact ho
  rw [trades_sum (late_ns hv hn) h2 (by simp), late_take, late_exF]
  unfold restP sizeAt
  rw [late_at hl]
theorem late_ok {rows : List Row} {fs : List Fill} (hg : GenRows rows) (h2 : fs.length ≤ 2) (hf : ∀ f ∈ fs, fillOk f) : rowsOk (rows ++ [Row.prints fs]) := by
  refine ⟨by have := hg.len; simp; omega, fun r hr => ?_⟩
  rcases List.mem_append.mp hr with h | h
  · exact hg.ok.2 r h
  · rw [List.mem_singleton.mp h]
    exact ⟨by omega, hf⟩
theorem chk_lt {rows : List Row} {side : Option Bool} {lim left : Int} {fs : List Fill} (h : atAll (fillChk rows side lim left) fs = true) : ∀ f ∈ fs, ∀ n, f.n = some n → n < rows.length := fun f hf n hn => by
  obtain ⟨j, hj, e⟩ := List.getElem_of_mem hf
  have hjf : fs[j]? = some f := by rw [← e]; exact List.getElem?_eq_getElem hj
  have := atAll_iff.mp h j f hjf
  cases side with
  | none =>
    simp only [fillChk, printOk] at this
    rw [Bool.and_eq_true] at this
    exact resting_lt this.1 hn
  | some b =>
    simp only [fillChk, ownOk] at this
    rw [Bool.and_eq_true] at this
    exact resting_lt this.1 hn
theorem atAll_snoc {ok : List Fill → Fill → Bool} {fs : List Fill} {f : Fill} (h : atAll ok fs = true) (hf : ok fs f = true) : atAll ok (fs ++ [f]) = true := by
  rw [atAll_iff] at h ⊢
  intro j g hj
  by_cases hl : j < fs.length
  · rw [List.getElem?_append_left hl] at hj
    rw [List.take_append_of_le_length (by omega)]
    exact h j g hj
  · rw [List.getElem?_append_right (by omega)] at hj
    have e : j - fs.length = 0 := by
      have := (List.getElem?_eq_some_iff.mp hj).1
      simp at this
      omega
    rw [e] at hj
    simp at hj
    have e2 : j = fs.length := by omega
    subst e2 hj
    rw [List.take_append_of_le_length (Nat.le_refl _), List.take_length]
    exact hf
theorem seqW_gen {f g : Rho → W Fl} {ρ : Rho} {c : Nat} {P : Fl → Nat → Prop} (h : ∀ K : Fl → Nat → Prop, (∀ ρ' c', g ρ' c' P → K (.nx ρ') c') → (∀ o c', (∀ ρ, o ≠ .nx ρ) → P o c' → K o c') → f ρ c K) : seqW f g ρ c P :=
  h _ (fun _ _ h => h) fun o c' ho h => by
    cases o with
    | nx ρ => exact absurd rfl (ho ρ)
    | rt d => exact h
    | ex w a => exact h
@[simp] theorem isNon_side (b : Bool) : isNon (sideD b) = false := rfl
theorem rowAt {rows : List Row} {n : Nat} (h : ordAt rows n = true) : ∃ m fs, rows[n]? = some (.order m (sideAt rows n) (priceAt rows n) (sizeAt rows n) fs) := by
  obtain ⟨m, b, p, s, fs, hr⟩ := ordAt_get h
  refine ⟨m, fs, ?_⟩
  have e1 : sideAt rows n = b := by unfold sideAt; rw [hr]
  have e2 : priceAt rows n = p := by unfold priceAt; rw [hr]
  have e3 : sizeAt rows n = s := by unfold sizeAt; rw [hr]
  rw [e1, e2, e3, hr]
theorem openP_ord' {pre : List Row} {fs : List Fill} {n : Nat} (h : openP pre fs n = true) : ordAt pre n = true := by
  unfold openP at h
  simp only [Bool.and_eq_true] at h
  exact h.1.1
theorem chk_new {rows : List Row} {side : Option Bool} {lim left : Int} {fs : List Fill} {f : Fill} (hn : ∀ n, f.n = some n → openP rows fs n = true ∧ (∀ b, side = some b → sideAt rows n ≠ b) ∧ priceAt rows n = f.p ∧ f.s ≤ restP rows fs n)
    (hs : f.s ≤ left - (fs.map (·.s)).sum) (hw : ∀ b, side = some b → withinP b lim f.p = true) : fillChk rows side lim left fs f = true := by
  obtain ⟨p, s, m⟩ := f
  cases m with
  | none =>
    cases side with
    | none => rfl
    | some b =>
      have h1 := hw b rfl
      dsimp only at hs h1
      simp [fillChk, ownOk, restingOk, nOk, h1, hs]
  | some n =>
    obtain ⟨h1, h2, h3, h4⟩ := hn n rfl
    dsimp only at hs h3 h4
    cases side with
    | none => simp [fillChk, printOk, restingOk, nOk, h1, h3, h4]
    | some b =>
      have h5 := hw b rfl
      have h6 := h2 b rfl
      dsimp only at h5
      simp [fillChk, ownOk, restingOk, nOk, h1, h3, h4, h5, h6, hs]
def sideIs (rows : List Row) (side : Option Bool) (n : Nat) : Bool := match side with
  | none => true
  | some b => !decide (sideAt rows n = b)
theorem sideS_buy (b : Bool) : (sideS b = Str.ofString "buy") = (b = true) := by
  have h : Str.ofString "buy" = sideS true := rfl
  rw [h, sideS_eq]
@[simp] theorem eqW_buy (b : Bool) : eqW0 false (sideD b) (.str (Str.ofString "buy")) = rW (.bool b) := by
  unfold sideD
  rw [eqW_str]
  congr 2
  cases b <;> simp [sideS]
/-- an order that the law takes to be there -/
def there (rows : List Row) (side : Option Bool) (lim : Int) (n : Nat) : Bool := match side with
  | none => true
  | some b => !decide (sideAt rows n = b) && withinP b lim (priceAt rows n)
section
variable {P : Program} {w : World} {K : PySem.W.Frag} {mg : Str → Option Value} {base : Heap} {C : Addr} {f : Addr} {fd : FuncData}
theorem ok__law_new_fills (bl : Bl mg) (cn : Cn K mg) (h__law_draw : Has P w K mg base C "_law_draw" 1 ["_law_reader_here", "_law_many"] g__law_draw) (h__law_open : Has P w K mg base C "_law_open" 3 ["_law_rows", "_law_t", "_law_i"] g__law_open) (h__law_rest : Has P w K mg base C "_law_rest" 3 ["_law_rows", "_law_n", "_law_t", "_law_i"] g__law_rest) (F : FunD K "_law_new_fills" "_law_new_fills" (defArgs s__law_new_fills) (defBody s__law_new_fills) (defScope s__law_new_fills) [] [] f fd) (hm : mg "_law_new_fills" = some (.ref f)) : Has P w K mg base C "_law_new_fills" 4 ["_law_reader_here", "_law_rows", "_law_most", "_law_left", "_law_side", "_law_limit"] g__law_new_fills := by
  obtain ⟨f__law_draw, fd__law_draw, F__law_draw, m__law_draw, k__law_draw, b__law_draw⟩ := h__law_draw
  obtain ⟨f__law_open, fd__law_open, F__law_open, m__law_open, k__law_open, b__law_open⟩ := h__law_open
  obtain ⟨f__law_rest, fd__law_rest, F__law_rest, m__law_rest, k__law_rest, b__law_rest⟩ := h__law_rest
  have S : FnScope ["_law_reader_here", "_law_rows", "_law_most", "_law_left", "_law_side", "_law_limit", "_law_found", "_law_t", "_law_k", "_law_late", "_law_there", "_law_n", "_law_used", "_law_one", "_law_room", "_law_price"] ["_law_reader_here", "_law_rows", "_law_most", "_law_left", "_law_side", "_law_limit"] (defScope s__law_new_fills) := ⟨rfl, rfl, rfl, by decide +kernel, rfl, by decide +kernel, by decide +kernel⟩
  refine ⟨f, fd, fn_w F S (fun sls c P h => ?len) (fun cdv A outer s H E r hr => have hp := passes_of rfl; ((pwss_cons (pws_parL 6 7 rfl S.nd (pwn_lst paw_nil) (pw_callB calW_len call_len bl.len (paw_cons (pw_var 1) paw_nil)))
      (pwss_cons (pws_for hp rfl (pwi_range bl.range (pw_call F__law_draw (hr.mono (by decide)) m__law_draw k__law_draw b__law_draw .nil (fun _ _ => .nil) (par_nm 0 (par_dat (pw_op opW_add op_addA (pw_var 2) pw_int) par_nil)))) (pwg_name 8 S.nd) (pwss_cons (pws_set 9 S.nd (pw_op opW_add op_addA (pw_var 1) (pw_lst (paw_cons (pw_tup (paw_cons pw_str (paw_cons (pw_un (pw_callTy calW_tuple call_tuple_of bl.tuple (paw_cons (pw_var 6) paw_nil))) paw_nil))) paw_nil))))
      (pwss_cons (pws_setLc 10 [("_law_n", 11)] rfl S.nd (sw_true rfl rfl rfl rfl) (pwi_lst (pw_call F__law_open (hr.mono (by decide)) m__law_open k__law_open b__law_open .nil (fun _ _ => .nil) (par_dat (pw_var 9) (par_dat (pw_var 7) (par_dat (pw_un (pw_callB calW_len call_len bl.len (paw_cons (pw_var 6) paw_nil))) par_nil))))) (blkOk_by (by kernel_rfl)) (fun _ _ _ _ _ => (pwg_name 11 S.nd)) (fun _ _ _ _ _ => (pts_one (PW.pt (pww_or (pwt_cmp opW_is op_isN (pw_var 4) pw_non (nomark _)) (pww_or1 (pwt_cmp opW_ne (op_neA hr.units) (pw_ix (pw_ix (pw_var 1) (pw_var 11)) pw_int) (pw_var 4) (nomark _))))))) (fun _ _ _ _ _ => (pw_var 11)))
      (pwss_cons (pws_if (pwt_cmp opW_isnot op_notN (pw_var 4) pw_non (nomark _)) (pwss_one (pws_setLc 10 [("_law_n", 11)] rfl S.nd (sw_true rfl rfl rfl rfl) (pwi_lst (pw_var 10)) (blkOk_by (by kernel_rfl)) (fun _ _ _ _ _ => (pwg_name 11 S.nd)) (fun _ _ _ _ _ => (pts_one (pwt_cmp opW_cmp op_le (pw_op opW_mul op_mul (pw_op opW_sub op_sub (pw_ix (pw_ix (pw_var 1) (pw_var 11)) pw_int) (pw_var 5)) (pw_ite (pwt_cmp opW_eq (op_eqA hr.units) (pw_var 4) pw_str (nomark _)) pw_int (pw_neg pw_int))) pw_int (nomark _)))) (fun _ _ _ _ _ => (pw_var 11)))) pwss_nil)
      (pwss_cons (pws_set 12 S.nd (pw_op opW_sub op_sub (pw_var 3) (pw_un (pw_callB calW_sum (cr_sum rfl) bl.sum (paw_cons (pw_lc [("_law_one", 13)] rfl S.nd (pwi_lst (pw_var 6)) (blkOk_by (by kernel_rfl)) (fun _ _ _ _ _ => (pwg_name 13 S.nd)) (fun _ _ _ _ _ => pwts_nil) (fun _ _ _ _ _ => (pw_ix (pw_var 13) pw_int))) paw_nil)))))
      (pwss_cons (pws_set 11 S.nd (pw_ite (PW.pt (pww_and (pwt_cmp opW_ne (op_neA hr.units) (pw_var 10) (pw_lst paw_nil) (nomark _)) (pww_and1 (pwt_cmp opW_cmp op_gt (pw_call F__law_draw (hr.mono (by decide)) m__law_draw k__law_draw b__law_draw .nil (fun _ _ => .nil) (par_nm 0 (par_dat pw_int par_nil))) pw_int (nomark _))))) (pw_ix (pw_var 10) (pw_call F__law_draw (hr.mono (by decide)) m__law_draw k__law_draw b__law_draw .nil (fun _ _ => .nil) (par_nm 0 (par_dat (pw_callB calW_len call_len bl.len (paw_cons (pw_var 10) paw_nil)) par_nil)))) pw_non))
      (pwss_cons (pws_set 14 S.nd (pw_ite (pwt_cmp opW_isnot op_notN (pw_var 11) pw_non (nomark _)) (pw_callB calW_min2 (call_min2 rfl) bl.min (paw_cons (pw_var 12) (paw_cons (pw_call F__law_rest (hr.mono (by decide)) m__law_rest k__law_rest b__law_rest .nil (fun _ _ => .nil) (par_dat (pw_var 9) (par_dat (pw_var 11) (par_dat (pw_var 7) (par_dat (pw_un (pw_callB calW_len call_len bl.len (paw_cons (pw_var 6) paw_nil))) par_nil))))) paw_nil))) (pw_var 12)))
      (pwss_one (pws_if (pwt_cmp opW_cmp op_gt (pw_var 14) pw_int (nomark _)) (pwss_cons (pws_set 15 S.nd (pw_ite (pwt_cmp opW_isnot op_notN (pw_var 11) pw_non (nomark _)) (pw_ix (pw_ix (pw_var 1) (pw_var 11)) pw_int) (pw_op opW_add op_addA pw_int (pw_call F__law_draw (hr.mono (by decide)) m__law_draw k__law_draw b__law_draw .nil (fun _ _ => .nil) (par_nm 0 (par_dat pw_int par_nil))))))
      (pwss_cons (pws_if (PW.pt (pww_and (pwt_cmp opW_is op_isN (pw_var 11) pw_non (nomark _)) (pww_and1 (pwt_cmp opW_isnot op_notN (pw_var 4) pw_non (nomark _))))) (pwss_one (pws_set 15 S.nd (pw_op opW_add op_addA (pw_var 5) (pw_op opW_mul op_mul (pw_call F__law_draw (hr.mono (by decide)) m__law_draw k__law_draw b__law_draw .nil (fun _ _ => .nil) (par_nm 0 (par_dat pw_int par_nil))) (pw_ite (pwt_cmp opW_eq (op_eqA hr.units) (pw_var 4) pw_str (nomark _)) (pw_neg pw_int) pw_int))))) pwss_nil)
      (pwss_one (pws_append 6 (pw_tup (paw_cons (pw_var 15) (paw_cons (pw_op opW_add op_addA pw_int (pw_call F__law_draw (hr.mono (by decide)) m__law_draw k__law_draw b__law_draw .nil (fun _ _ => .nil) (par_nm 0 (par_dat (pw_callB calW_min2 (call_min2 rfl) bl.min (paw_cons (pw_var 14) (paw_cons pw_int paw_nil))) par_nil)))) (paw_cons (pw_var 11) paw_nil)))))))) pwss_nil)))))))))
      (pwss_one (pws_ret (pw_un (pw_callTy calW_tuple call_tuple_of bl.tuple (paw_cons (pw_var 6) paw_nil))))))))) (fun sls c P h => ?data), hm, F.kp, F.bindsN fun _ _ _ _ _ _ us hl => match us, hl with | [_, _, _, _, _, _], _ => rfl⟩
  case len =>
    obtain ⟨rows, side, lim, left, rfl, h⟩ := h
    rfl
  case data =>
    obtain ⟨rows, side, lim, left, rfl, h⟩ := h
    obtain ⟨hg, hlim, hc, h⟩ := h
    have hz := hg.len
    have hL : LIM = 100000 := rfl
    refine seqW_gen fun K k1 k2 => ?_
    simp [rho0, rowsL]
    refine k1 _ _ ?_
    clear k1 k2
    refine seqW_gen fun K k1 k2 => ?_
    simp
    refine use_draw (by omega) (by omega) (by omega) fun r hr => ?_
    simp
    refine ⟨by omega, ?_⟩
    refine forG_map (fun s : Nat => PyData.int (s : Int)) (fun k ρ c1 => c1 ≤ c + 1 + 6 * k ∧ ∃ fs a8 a9 a10 a11 a12 a13 a14 a15, ρ = [.rd, .dat (.list (rows.map rowD)), .dat (.int 2), .dat (.int left), .dat (sideN side), .dat (.int lim), .lst (List.map fillD fs), .dat (.int rows.length), a8, a9, a10, a11, a12, a13, a14, a15] ∧
        fs.length ≤ k ∧ (∀ f ∈ fs, fillOk f) ∧ atAll (fillChk rows side lim left) fs = true) _ (fun k x hk ρ c1 Q hI q1 q2 => ?_) ⟨by omega, [], _, _, _, _, _, _, _, _, rfl, Nat.zero_le _, by simp, rfl⟩ (fun ρ c1 hI => ?_)
    · clear k1 k2
      obtain ⟨hc1, fs, a8, a9, a10, a11, a12, a13, a14, a15, rfl, hfl, hfo, hfa⟩ := hI
      have hkr : k < r := by have := (List.getElem?_eq_some_iff.mp hk).1; simpa using this
      have hlt := chk_lt hfa
      have hok2 := late_ok hg (by omega) hfo
      simp only [gNm_def, rW_def]
      -- late
      refine seqW_gen fun K k1 k2 => ?_
      simp [unR, unS, hL]
      refine ⟨flat_fills fs, by omega, ?_⟩
      rw [late_map]
      refine k1 _ _ ?_
      clear k1 k2
      -- there
      refine seqW_gen fun K k1 k2 => ?_
      simp [lcD, unR, unS, flat]
      refine ⟨rows ++ [Row.prints fs], rows.length, fs.length, by simp [rowsL, rowD, fillsD], hok2, ?_⟩
      rw [late_open hg.va hlt]
      have hop : ∀ n ∈ (ordersL (rows ++ [Row.prints fs])).filter fun n => openP rows fs n, openP rows fs n = true := fun n hn => (List.mem_filter.mp hn).2
      have hol : ((ordersL (rows ++ [Row.prints fs])).filter fun n => openP rows fs n).length ≤ 50 := Nat.le_trans (List.length_filter_le _ _) (Nat.le_trans (List.length_filter_le _ _) (by simp; omega))
      generalize (ordersL (rows ++ [Row.prints fs])).filter (fun n => openP rows fs n) = OP at hop hol ⊢
      simp
      refine ⟨by simp [natsD]; omega, ?_⟩
      refine lcG_fl (fun n : Nat => PyData.int (n : Int)) (sideIs rows side) (fun n => PyData.int (n : Int)) _ (fun n hn c Q hQ => ?_) ?_
      · obtain ⟨m, fs', hr⟩ := rowAt (openP_ord' (hop n hn))
        cases side with
        | none =>
          simp [sideN]
          simpa [sideIs] using hQ
        | some b =>
          simp [sideN, ixW_rowsL hr, rowD]
          unfold sideIs at hQ
          by_cases e : sideAt rows n = b <;> simp [e] at hQ ⊢ <;> exact hQ
      refine k1 _ _ ?_
      clear k1 k2
      -- there, of a side
      refine seqW_gen fun K k1 k2 => ?_
      have tail : ∀ TH : List Nat, (∀ n ∈ TH, openP rows fs n = true ∧ there rows side lim n = true) → TH.length ≤ 50 → ∀ a11, K (.nx [.rd, .dat (.list (rows.map rowD)), .dat (.int 2), .dat (.int left), .dat (sideN side), .dat (.int lim), .lst (List.map fillD fs), .dat (.int rows.length), .dat (.int x), .dat (.list (rows.map rowD ++ [rowD (Row.prints fs)])), .dat (.list (natsD TH)), a11, a12, a13, a14, a15]) c1 := fun TH hTH hTl a11 => by
        refine k1 _ _ ?_
        clear k1 k2
        -- used
        refine seqW_gen fun K k1 k2 => ?_
        simp [lcD, unR, unS]
        refine ⟨by omega, ?_⟩
        refine lcG_mp fillD (fun f => PyData.int f.s) fs (fun f hf c Q hQ => ?_) ?_
        · obtain ⟨p, z, n⟩ := f
          simpa [fillD] using hQ
        simp
        refine ⟨fs.map (·.s), by simp, rfl, ?_⟩
        refine k1 _ _ ?_
        clear k1 k2
        generalize hu : left - (fs.map (·.s)).sum = u
        -- n
        refine seqW_gen fun K k1 k2 => ?_
        have tail2 : ∀ (m : Option Nat) (c2 : Nat), (∀ n, m = some n → n ∈ TH) → c2 ≤ c1 + 2 → ∀ a13, K (.nx [.rd, .dat (.list (rows.map rowD)), .dat (.int 2), .dat (.int left), .dat (sideN side), .dat (.int lim), .lst (List.map fillD fs), .dat (.int rows.length), .dat (.int x), .dat (.list (rows.map rowD ++ [rowD (Row.prints fs)])), .dat (.list (natsD TH)), .dat (nD m), .dat (.int u), a13, a14, a15]) c2 := fun m c2 hm hc2 a13 => by
          refine k1 _ _ ?_
          clear k1 k2
          -- room
          refine seqW_gen fun K k1 k2 => ?_
          have tail3 : ∀ room : Int, room ≤ u → (∀ n, m = some n → room ≤ restP rows fs n) → ∀ a13, K (.nx [.rd, .dat (.list (rows.map rowD)), .dat (.int 2), .dat (.int left), .dat (sideN side), .dat (.int lim), .lst (List.map fillD fs), .dat (.int rows.length), .dat (.int x), .dat (.list (rows.map rowD ++ [rowD (Row.prints fs)])), .dat (.list (natsD TH)), .dat (nD m), .dat (.int u), a13, .dat (.int room), a15]) c2 := fun room hr1 hr2 a13 => by
            refine k1 _ _ ?_
            clear k1 k2
            simp
            by_cases hrm : 0 < room
            · simp only [hrm, decide_true, if_true]
              have fin : ∀ (p : Int) (r2 : Nat) (c3 : Nat), (r2 : Int) < (if 3 < room then 3 else room) → 1 ≤ p → (∀ n, m = some n → p = priceAt rows n) → (m = none → ∀ b, side = some b → withinP b lim p = true) → c3 ≤ c2 + 3 → fs.length < LIM ∧
                  Q (.nx [.rd, .dat (.list (rows.map rowD)), .dat (.int 2), .dat (.int left), .dat (sideN side), .dat (.int lim), .lst (List.map fillD fs ++ [.tuple [.int p, .int (1 + (r2 : Int)), nD m]]), .dat (.int rows.length), .dat (.int x), .dat (.list (rows.map rowD ++ [rowD (Row.prints fs)])), .dat (.list (natsD TH)), .dat (nD m), .dat (.int u), a13, .dat (.int room), .dat (.int p)]) c3 := fun p r2 c3 hr3 hp hpn hpw hc3 => by
                refine ⟨by omega, q1 _ _ ⟨by omega, fs ++ [⟨p, 1 + (r2 : Int), m⟩], _, _, _, _, _, _, _, _, by rw [List.map_append]; rfl, by simp; omega, fun f hf => ?_, atAll_snoc hfa (chk_new (fun n hn => ?_) ?_ fun b hb => ?_)⟩⟩
                · rcases List.mem_append.mp hf with h | h
                  · exact hfo f h
                  · rw [List.mem_singleton.mp h]
                    exact ⟨hp, by dsimp only; omega⟩
                · obtain ⟨h1, h2⟩ := hTH n (hm n hn)
                  refine ⟨h1, fun b hb => ?_, (hpn n hn).symm, ?_⟩
                  · rw [hb] at h2
                    simp only [there, Bool.and_eq_true, Bool.not_eq_true', decide_eq_false_iff_not] at h2
                    exact h2.1
                  · have := hr2 n hn
                    dsimp only
                    split at hr3 <;> omega
                · dsimp only
                  split at hr3 <;> omega
                · cases hmm : m with
                  | none => exact hpw hmm b hb
                  | some n =>
                    obtain ⟨h1, h2⟩ := hTH n (hm n hmm)
                    rw [hb] at h2
                    simp only [there, Bool.and_eq_true] at h2
                    dsimp only
                    rw [hpn n hmm]
                    exact h2.2
              have hroom : (0 : Int) < (if 3 < room then 3 else room) ∧ (if 3 < room then 3 else room) < (2 ^ 30 : Int) := by split <;> omega
              cases m with
              | some n =>
                have hn := hTH n (hm n rfl)
                have hno := openP_ord' hn.1
                obtain ⟨m', fs', hr⟩ := rowAt hno
                have hpo := (hg.ok.2 _ (List.mem_of_getElem? hr)).2.1
                simp [nD, ixW_rowsL hr, rowD] at fin ⊢
                refine use_draw hroom.1 hroom.2 (by omega) fun r2 hr2' => ?_
                simp
                exact ⟨by omega, fin _ r2 _ hr2' hpo rfl (by omega)⟩
              | none =>
                simp [nD] at fin ⊢
                refine use_draw (by omega) (by omega) (by omega) fun r1 hr1' => ?_
                cases side with
                | none =>
                  simp [sideN] at fin ⊢
                  refine use_draw hroom.1 hroom.2 (by omega) fun r2 hr2' => ?_
                  simp
                  exact ⟨by omega, fin _ r2 _ hr2' (by omega) (by omega)⟩
                | some b =>
                  have hl := hlim (by simp)
                  simp [sideN] at fin ⊢
                  refine use_draw (by omega) (by omega) (by omega) fun r3 hr3' => ?_
                  cases b with
                  | true =>
                    simp
                    refine ⟨.inr ⟨by decide, by decide⟩, ?_⟩
                    refine use_draw hroom.1 hroom.2 (by omega) fun r2 hr2' => ?_
                    simp
                    exact ⟨by omega, fin (lim + -(r3 : Int)) r2 (c2 + 1 + 1 + 1) hr2' (by omega) (by simp [withinP] <;> omega) (by simp [withinP] <;> omega) (by omega)⟩
                  | false =>
                    simp
                    refine ⟨.inr ⟨by decide, by decide⟩, ?_⟩
                    refine use_draw hroom.1 hroom.2 (by omega) fun r2 hr2' => ?_
                    simp
                    exact ⟨by omega, fin (lim + (r3 : Int)) r2 (c2 + 1 + 1 + 1) hr2' (by omega) (by simp [withinP] <;> omega) (by simp [withinP] <;> omega) (by omega)⟩
            · simp [hrm]
              refine q1 _ _ ⟨by omega, fs, _, _, _, _, _, _, _, _, rfl, by omega, hfo, hfa⟩
          cases m with
          | none =>
            simp [nD] at tail3 ⊢
            exact tail3 u (Int.le_refl u) _
          | some n =>
            have hn := hTH n (hm n rfl)
            have hno := openP_ord' hn.1
            have hnl := openP_lt hn.1
            have hno2 : ordAt (rows ++ [Row.prints fs]) n = true := by unfold ordAt at hno ⊢; rw [late_at hnl]; exact hno
            simp [nD, unR, unS, flat] at tail3 ⊢
            refine ⟨rows ++ [Row.prints fs], n, rows.length, fs.length, by simp [rowsL], hok2, hno2, ?_⟩
            rw [late_rest hg.va hlt hno]
            simp
            refine tail3 _ ?_ ?_ _
            · split <;> omega
            · split <;> omega
        simp
        refine eqW_by (b := decide (TH = [])) (PL.natsL TH) (PL.natsL []) (.inr ⟨_, rfl⟩) ?_ ?_
        · cases TH <;> simp [natsD]
        · cases TH with
          | nil =>
            simp
            exact tail2 none c1 (by simp) (by omega) _
          | cons t0 TH' =>
            simp
            refine use_draw (by omega) (by omega) (by omega) fun r1 hr1 => ?_
            simp
            by_cases h1 : 0 < r1
            · simp [h1]
              refine use_draw (by simp [natsD] <;> omega) (by simp at hTl; simp [natsD] <;> omega) (by omega) fun r2 hr2 => ?_
              simp
              have hr3 : r2 < (t0 :: TH').length := by simp [natsD] at hr2 ⊢; omega
              have ha : (natsD (t0 :: TH'))[r2]? = some (.int ((t0 :: TH')[r2] : Nat)) := by
                unfold natsD
                rw [List.getElem?_map, List.getElem?_eq_getElem hr3]
                rfl
              rw [atI_nat ha]
              exact tail2 (some (t0 :: TH')[r2]) (c1 + 1 + 1) (fun n hn => by cases hn; exact List.getElem_mem hr3) (by omega) _
            · simp [h1]
              exact tail2 none (c1 + 1) (by simp) (by omega) _
      cases side with
      | none =>
        simp [sideN] at tail ⊢
        refine tail _ (fun n hn => ?_) (Nat.le_trans (List.length_filter_le _ _) hol) _
        exact ⟨hop n (List.mem_filter.mp hn).1, rfl⟩
      | some b =>
        simp [sideN, lcD] at tail ⊢
        have hol2 := Nat.le_trans (List.length_filter_le (sideIs rows (some b)) OP) hol
        refine ⟨by omega, ?_⟩
        refine lcG_fl (fun n : Nat => PyData.int (n : Int)) (fun n => withinP b lim (priceAt rows n)) (fun n => PyData.int (n : Int)) _ (fun n hn c Q hQ => ?_) ?_
        · obtain ⟨m, fs', hr⟩ := rowAt (openP_ord' (hop n (List.mem_filter.mp hn).1))
          simp [ixW_rowsL hr, rowD]
          have hcm : CMul (priceAt rows n - lim) (if b = true then 1 else -1) := .inr (by split <;> exact ⟨by decide, by decide⟩)
          cases b with
          | true =>
            simp at hcm ⊢
            refine ⟨hcm, ?_⟩
            unfold withinP at hQ
            by_cases e : priceAt rows n ≤ lim
            · simp [e] at hQ ⊢
              simp [show priceAt rows n - lim ≤ 0 by omega]
              exact hQ
            · simp [e] at hQ ⊢
              simp [show ¬ (priceAt rows n - lim ≤ 0) by omega]
              exact hQ
          | false =>
            simp at hcm ⊢
            refine ⟨hcm, ?_⟩
            unfold withinP at hQ
            by_cases e : lim ≤ priceAt rows n
            · simp [e] at hQ ⊢
              exact hQ
            · simp [e] at hQ ⊢
              exact hQ
        · rw [List.nil_append]
          refine tail _ (fun n hn => ?_) (Nat.le_trans (List.length_filter_le _ _) hol2) _
          obtain ⟨h1, h2⟩ := List.mem_filter.mp hn
          obtain ⟨h3, h4⟩ := List.mem_filter.mp h1
          refine ⟨hop n h3, ?_⟩
          unfold there
          unfold sideIs at h4
          simp only [h2, Bool.and_true]
          exact h4
    · obtain ⟨hc1, fs, a8, a9, a10, a11, a12, a13, a14, a15, rfl, hfl, hfo, hfa⟩ := hI
      refine k1 _ _ ?_
      simp at hfl hc1
      simp [unR, unS, flat_fills]
      exact h fs c1 (by omega) (by omega) hfo hfa
end
end FK
set_option Elab.async false
set_option linter.all false
set_option maxRecDepth 100000
set_option maxHeartbeats 4000000
/-! Defs as promises: the law's drawn rows and records. (Printed by gen2.py from specT.py.) -/
namespace FK
open PySem PySem.Spec L2
def smallRow : Row → Prop
  | .order _ _ _ s _ => s ≤ 1000
  | _ => True
def Small (rows : List Row) : Prop := ∀ r ∈ rows, smallRow r
theorem sum_nn {xs : List Int} (h : ∀ x ∈ xs, 0 ≤ x) : 0 ≤ xs.sum := by
  induction xs with
  | nil => simp
  | cons x xs ih =>
    rw [List.sum_cons]
    have h1 := h x List.mem_cons_self
    have h2 := ih fun y hy => h y (List.mem_cons_of_mem _ hy)
    omega
theorem fillSum_nn {t n : Nat} {fs : List Fill} (h : ∀ f ∈ fs, fillOk f) : 0 ≤ fillSum t n fs := sum_nn fun x hx => by
  obtain ⟨f, hf, rfl⟩ := List.mem_map.mp hx
  have := (h f (List.mem_filter.mp hf).1).s
  omega
theorem pairSum_nn {n : Nat} {ps : List (Nat × Int)} (h : ∀ q ∈ ps, 1 ≤ q.2) : 0 ≤ pairSum n ps := sum_nn fun x hx => by
  obtain ⟨q, hq, rfl⟩ := List.mem_map.mp hx
  have := h q (List.mem_filter.mp hq).1
  omega
theorem rowOk.fills {r : Row} (h : rowOk r) : ∀ f ∈ fillsOf r, fillOk f := by
  cases r with
  | order m b p s fs => exact h.2.2.2.2
  | prints fs => exact h.2
  | _ => intro f hf; simp [fillsOf] at hf
theorem lotsIn_nn {r : Row} (h : rowOk r) (n t : Nat) : 0 ≤ lotsIn r n t (fillsOf r) := by
  cases r with
  | call p ps => exact pairSum_nn h.1.pos
  | order m b p s fs => exact fillSum_nn (rowOk.fills h)
  | prints fs => exact fillSum_nn (rowOk.fills h)
  | cancel n => exact fillSum_nn (by simp [fillsOf])
  | closed => exact fillSum_nn (by simp [fillsOf])
theorem soldFrom_nn {n : Nat} : ∀ (k : Nat) (rows : List Row), (∀ r ∈ rows, rowOk r) → 0 ≤ soldFrom n k rows
  | _, [], _ => by simp [soldFrom]
  | k, r :: rows, h => by
    have h1 := lotsIn_nn (h r List.mem_cons_self) n k
    have h2 := soldFrom_nn (n := n) (k + 1) rows fun x hx => h x (List.mem_cons_of_mem _ hx)
    simp only [soldFrom]
    omega
theorem restP_le {rows : List Row} {n : Nat} (hok : rowsOk rows) : restP rows [] n ≤ sizeAt rows n := by
  have h := soldFrom_nn (n := n) 0 rows hok.2
  unfold restP sold
  rw [fillSum_nil]
  omega
theorem sizeAt_small {rows : List Row} {n : Nat} (h : Small rows) : sizeAt rows n ≤ 1000 := by
  unfold sizeAt
  split
  · rename_i hr
    exact h _ (List.mem_of_getElem? hr)
  · omega
theorem lcG_inv {g : D → Rho → W Rho} {t : Rho → W Bool} {f : Rho → W D} {ρ : Rho} {P : List D → Nat → Prop} (I : Nat → List D → Nat → Prop) : ∀ (xs : List D) (k : Nat) (acc : List D) (c : Nat),
    (∀ i x, xs[i]? = some x → ∀ acc c (Q : Option D → Nat → Prop), I (k + i) acc c → (∀ y c', I (k + i + 1) (acc ++ [y]) c' → Q (some y) c') → (∀ c', I (k + i + 1) acc c' → Q none c') → g x ρ c fun ρ1 c1 => t ρ1 c1 fun b c2 => if b = true then f ρ1 c2 fun y c3 => Q (some y) c3 else Q none c2) →
    I k acc c → (∀ acc c, I (k + xs.length) acc c → P acc c) → lcG g t f ρ xs acc c P
  | [], k, acc, c, _, h0, h1 => h1 acc c h0
  | x :: xs, k, acc, c, h, h0, h1 => by
    have h2 := h 0 x rfl acc c (fun o c1 => match o with
      | some y => lcG g t f ρ xs (acc ++ [y]) c1 P
      | none => lcG g t f ρ xs acc c1 P) h0
    have ih := fun acc' c' hI => lcG_inv I xs (k + 1) acc' c' (fun i y hy acc c Q hi q1 q2 => by
      have e : k + 1 + i = k + (i + 1) := by omega
      rw [e] at hi q1 q2
      exact h (i + 1) y (by rw [List.getElem?_cons_succ]; exact hy) acc c Q hi q1 q2) hI (fun acc c hl => h1 acc c (by
      have e : k + 1 + xs.length = k + (x :: xs).length := by rw [List.length_cons]; omega
      rw [e] at hl
      exact hl))
    have h3 := h2 (fun y c' hI => ih _ _ hI) (fun c' hI => ih _ _ hI)
    unfold lcG
    simp only [bW_def]
    have e : ∀ ρ1 : Rho, (fun (b : Bool) (c2 : Nat) => if b = true then f ρ1 c2 fun y c3 => lcG g t f ρ xs (acc ++ [y]) c3 P else lcG g t f ρ xs acc c2 P) =
      fun (b : Bool) (c2 : Nat) => (if b = true then bW (f ρ1) fun y => lcG g t f ρ xs (acc ++ [y]) else lcG g t f ρ xs acc) c2 P := fun ρ1 => by
      funext b c2
      cases b <;> rfl
    simp only [e] at h3
    exact h3
theorem lcG_mapI {α : Type} (enc : α → D) {g : D → Rho → W Rho} {t : Rho → W Bool} {f : Rho → W D} {ρ : Rho} {c : Nat} {P : List D → Nat → Prop} (I : Nat → List D → Nat → Prop) (xs : List α)
    (h : ∀ i x, xs[i]? = some x → ∀ acc c (Q : Option D → Nat → Prop), I i acc c → (∀ y c', I (i + 1) (acc ++ [y]) c' → Q (some y) c') → (∀ c', I (i + 1) acc c' → Q none c') → g (enc x) ρ c fun ρ1 c1 => t ρ1 c1 fun b c2 => if b = true then f ρ1 c2 fun y c3 => Q (some y) c3 else Q none c2)
    (h0 : I 0 [] c) (h1 : ∀ acc c, I xs.length acc c → P acc c) : lcG g t f ρ (xs.map enc) [] c P := by
  refine lcG_inv I (xs.map enc) 0 [] c (fun i d hd acc c Q hI q1 q2 => ?_) h0 (fun acc c hI => h1 acc c (by rw [Nat.zero_add, List.length_map] at hI; exact hI))
  rw [List.getElem?_map, Option.map_eq_some_iff] at hd
  obtain ⟨x, hx, rfl⟩ := hd
  rw [Nat.zero_add] at hI q1 q2
  exact h i x hx acc c Q hI q1 q2
theorem name_of (x : Str) (h1 : 1 ≤ x.length) (h2 : x.length ≤ 8) (h3 : PyData.strOk x = true) (h4 : x.cps.toList.all (fun k => ("abcdefghijklmnopqrstuvwxyz" : Str).cps.toList.contains k) = true) : nameOk x :=
  ⟨h1, h2, h3, fun k hk => by
    have := List.all_eq_true.mp h4 k hk
    simpa using this⟩
theorem name_ann : nameOk "ann" := name_of _ (by decide +kernel) (by decide +kernel) (by decide +kernel) (by decide +kernel)
theorem name_bob : nameOk "bob" := name_of _ (by decide +kernel) (by decide +kernel) (by decide +kernel) (by decide +kernel)
theorem name_cy : nameOk "cy" := name_of _ (by decide +kernel) (by decide +kernel) (by decide +kernel) (by decide +kernel)
theorem name_dee : nameOk "dee" := name_of _ (by decide +kernel) (by decide +kernel) (by decide +kernel) (by decide +kernel)
@[simp] theorem eqW_bool (i j : Bool) : eqW0 false (.bool i) (.bool j) = rW (.bool (decide (i = j))) := rfl
theorem PL.pairsL (ps : List (Nat × Int)) : PL 2 (.list (ps.map pairD)) := .list fun x hx => by
  obtain ⟨q, _, rfl⟩ := List.mem_map.mp hx
  exact .pair q
theorem ifW_gen {ft : W Bool} {fa fb : W Fl} {c : Nat} {P : Fl → Nat → Prop} (h : ∀ T : Bool → Nat → Prop, (∀ c', fa c' P → T true c') → (∀ c', fb c' P → T false c') → ft c T) : bW ft (fun k => if k = true then fa else fb) c P :=
  h (fun b c' => (if b = true then fa else fb) c' P) (fun _ h => h) (fun _ h => h)
theorem mem_pos {rows : List Row} {n : Nat} (h : openP rows [] n = true) : 0 < restP rows [] n := by
  unfold openP at h
  simp only [Bool.and_eq_true, decide_eq_true_eq] at h
  exact h.2
theorem step_cancel {rows : List Row} {n : Nat} (h : openP rows [] n = true) : stepOk rows (.cancel n) = true := by
  simp [stepOk, closedOk, isClosed, isCall, fillsOf, bodyOk, h]
theorem step_prints {rows : List Row} {fs : List Fill} (hs : shutP rows = true → fs = []) (h : atAll (printOk rows) fs = true) : stepOk rows (.prints fs) = true := by
  cases hq : shutP rows with
  | true =>
    rw [hs hq] at h ⊢
    simp [stepOk, closedOk, isClosed, isCall, fillsOf, bodyOk, h]
  | false => simp [stepOk, closedOk, isClosed, isCall, fillsOf, bodyOk, h, hq]
theorem step_order {rows : List Row} {m : Str} {b : Bool} {p z : Int} {fs : List Fill} (hs : shutP rows = true → fs = []) (h : atAll (ownOk rows b p z) fs = true) : stepOk rows (.order m b p z fs) = true := by
  cases hq : shutP rows with
  | true =>
    rw [hs hq] at h ⊢
    simp [stepOk, closedOk, isClosed, isCall, fillsOf, bodyOk, h]
  | false => simp [stepOk, closedOk, isClosed, isCall, fillsOf, bodyOk, h, hq]
theorem step_call {rows : List Row} {p : Option Int} {ps : List (Nat × Int)} (hs : shutP rows = true) (h : ∀ q, p = some q → ∀ x ∈ ps, pairStep rows q x = true) : stepOk rows (.call p ps) = true := by
  cases p with
  | none => simp [stepOk, closedOk, isClosed, isCall, fillsOf, bodyOk, hs]
  | some q =>
    have := h q rfl
    simp [stepOk, closedOk, isClosed, isCall, fillsOf, bodyOk, hs]
    exact fun a b hab => this (a, b) hab
abbrev g__law_new_row : Gs := fun sls c P => ∃ (rows : List Row), sls = [.rd, .dat (rowsL rows)] ∧ GenRows rows ∧ Small rows ∧ c + 100 ≤ 10 ^ 6 ∧ ∀ row c', c' ≤ c + 100 → rowOk row → smallRow row → stepOk rows row = true → P (.rt (rowD row)) c'
section
variable {P : Program} {w : World} {K : PySem.W.Frag} {mg : Str → Option Value} {base : Heap} {C : Addr} {f : Addr} {fd : FuncData}
theorem ok__law_new_row (bl : Bl mg) (cn : Cn K mg) (h__law_draw : Has P w K mg base C "_law_draw" 1 ["_law_reader_here", "_law_many"] g__law_draw) (h__law_is_shut : Has P w K mg base C "_law_is_shut" 1 ["_law_rows", "_law_t"] g__law_is_shut) (h__law_new_fills : Has P w K mg base C "_law_new_fills" 4 ["_law_reader_here", "_law_rows", "_law_most", "_law_left", "_law_side", "_law_limit"] g__law_new_fills) (h__law_open : Has P w K mg base C "_law_open" 3 ["_law_rows", "_law_t", "_law_i"] g__law_open) (h__law_rest : Has P w K mg base C "_law_rest" 3 ["_law_rows", "_law_n", "_law_t", "_law_i"] g__law_rest) (F : FunD K "_law_new_row" "_law_new_row" (defArgs s__law_new_row) (defBody s__law_new_row) (defScope s__law_new_row) [] [] f fd) (hm : mg "_law_new_row" = some (.ref f)) : Has P w K mg base C "_law_new_row" 5 ["_law_reader_here", "_law_rows"] g__law_new_row := by
  obtain ⟨f__law_draw, fd__law_draw, F__law_draw, m__law_draw, k__law_draw, b__law_draw⟩ := h__law_draw
  obtain ⟨f__law_is_shut, fd__law_is_shut, F__law_is_shut, m__law_is_shut, k__law_is_shut, b__law_is_shut⟩ := h__law_is_shut
  obtain ⟨f__law_new_fills, fd__law_new_fills, F__law_new_fills, m__law_new_fills, k__law_new_fills, b__law_new_fills⟩ := h__law_new_fills
  obtain ⟨f__law_open, fd__law_open, F__law_open, m__law_open, k__law_open, b__law_open⟩ := h__law_open
  obtain ⟨f__law_rest, fd__law_rest, F__law_rest, m__law_rest, k__law_rest, b__law_rest⟩ := h__law_rest
  have S : FnScope ["_law_reader_here", "_law_rows", "_law_t", "_law_shut_now", "_law_there", "_law_way", "_law_price", "_law_good", "_law_n", "_law_pairs", "_law_side", "_law_size", "_law_member", "_law_taken"] ["_law_reader_here", "_law_rows"] (defScope s__law_new_row) := ⟨rfl, rfl, rfl, by decide +kernel, rfl, by decide +kernel, by decide +kernel⟩
  refine ⟨f, fd, fn_w F S (fun sls c P h => ?len) (fun cdv A outer s H E r hr => ((pwss_cons (pws_asg (pw_tup (paw_cons (pw_callB calW_len call_len bl.len (paw_cons (pw_var 1) paw_nil)) (paw_cons (pw_call F__law_is_shut (hr.mono (by decide)) m__law_is_shut k__law_is_shut b__law_is_shut .nil (fun _ _ => .nil) (par_dat (pw_var 1) (par_dat (pw_callB calW_len call_len bl.len (paw_cons (pw_var 1) paw_nil)) par_nil))) paw_nil))) (pwg_tup 2 rfl (pwgs_cons (pwg_name 2 S.nd) (pwgs_cons (pwg_name 3 S.nd) pwgs_nil))))
      (pwss_cons (pws_par 4 5 rfl S.nd (paw_cons (pw_call F__law_open (hr.mono (by decide)) m__law_open k__law_open b__law_open .nil (fun _ _ => .nil) (par_dat (pw_var 1) (par_dat (pw_var 2) (par_dat pw_int par_nil)))) (paw_cons (pw_call F__law_draw (hr.mono (by decide)) m__law_draw k__law_draw b__law_draw .nil (fun _ _ => .nil) (par_nm 0 (par_dat pw_int par_nil))) paw_nil)))
      (pwss_cons (pws_if (PW.pt (pww_and (pwt_val (pw_var 3)) (pww_and1 (pwt_cmp opW_eq (op_eqA hr.units) (pw_var 5) pw_int (nomark _))))) (pwss_cons (pws_set 6 S.nd (pw_op opW_add op_addA pw_int (pw_call F__law_draw (hr.mono (by decide)) m__law_draw k__law_draw b__law_draw .nil (fun _ _ => .nil) (par_nm 0 (par_dat pw_int par_nil)))))
      (pwss_cons (pws_setLc 7 [("_law_n", 8)] rfl S.nd (sw_true rfl rfl rfl rfl) (pwi_lst (pw_var 4)) (blkOk_by (by kernel_rfl)) (fun _ _ _ _ _ => (pwg_name 8 S.nd)) (fun _ _ _ _ _ => (pts_one (PW.pt (pww_or (pwt_cmp opW_eq (op_eqA hr.units) (pw_cmp opW_cmp op_ge (pw_ix (pw_ix (pw_var 1) (pw_var 8)) pw_int) (pw_var 6) (nomark _)) (pw_cmp opW_eq (op_eqA hr.units) (pw_ix (pw_ix (pw_var 1) (pw_var 8)) pw_int) pw_str (nomark _)) (nomark _)) (pww_or1 (pwt_cmp opW_eq (op_eqA hr.units) (pw_ix (pw_ix (pw_var 1) (pw_var 8)) pw_int) (pw_var 6) (nomark _))))))) (fun _ _ _ _ _ => (pw_var 8)))
      (pwss_cons (pws_setLc 9 [("_law_n", 8)] rfl S.nd (sw_true rfl rfl rfl rfl) (pwi_lst (pw_slice2 (pw_var 7) (pw_call F__law_draw (hr.mono (by decide)) m__law_draw k__law_draw b__law_draw .nil (fun _ _ => .nil) (par_nm 0 (par_dat pw_int par_nil))))) (blkOk_by (by kernel_rfl)) (fun _ _ _ _ _ => (pwg_name 8 S.nd)) (fun _ _ _ _ _ => pwts_nil) (fun _ _ _ _ _ => (pw_tup (paw_cons (pw_var 8) (paw_cons (pw_op opW_add op_addA pw_int (pw_call F__law_draw (hr.mono (by decide)) m__law_draw k__law_draw b__law_draw .nil (fun _ _ => .nil) (par_nm 0 (par_dat (pw_call F__law_rest (hr.mono (by decide)) m__law_rest k__law_rest b__law_rest .nil (fun _ _ => .nil) (par_dat (pw_var 1) (par_dat (pw_var 8) (par_dat (pw_var 2) (par_dat pw_int par_nil))))) par_nil)))) paw_nil)))))
      (pwss_one (pws_ret (pw_ite (PW.pt (pww_or (pwt_cmp opW_ne (op_neA hr.units) (pw_var 9) (pw_lst paw_nil) (nomark _)) (pww_or1 (pwt_cmp opW_eq (op_eqA hr.units) (pw_call F__law_draw (hr.mono (by decide)) m__law_draw k__law_draw b__law_draw .nil (fun _ _ => .nil) (par_nm 0 (par_dat pw_int par_nil))) pw_int (nomark _))))) (pw_tup (paw_cons pw_str (paw_cons (pw_var 6) (paw_cons (pw_callTy calW_tuple call_tuple_of bl.tuple (paw_cons (pw_var 9) paw_nil)) paw_nil)))) (pw_tup (paw_cons pw_str (paw_cons pw_non (paw_cons (pw_tup paw_nil) paw_nil)))))))))) pwss_nil)
      (pwss_cons (pws_if (PW.pt (pww_and (pwt_cmp opW_eq (op_eqA hr.units) (pw_var 5) pw_int (nomark _)) (pww_and1 (pwt_cmp opW_ne (op_neA hr.units) (pw_var 4) (pw_lst paw_nil) (nomark _))))) (pwss_one (pws_ret (pw_tup (paw_cons pw_str (paw_cons (pw_ix (pw_var 4) (pw_call F__law_draw (hr.mono (by decide)) m__law_draw k__law_draw b__law_draw .nil (fun _ _ => .nil) (par_nm 0 (par_dat (pw_callB calW_len call_len bl.len (paw_cons (pw_var 4) paw_nil)) par_nil)))) paw_nil))))) pwss_nil)
      (pwss_cons (pws_if (pwt_cmp opW_cmp op_gt (pw_var 5) pw_int (nomark _)) (pwss_one (pws_ret (pw_tup (paw_cons pw_str (paw_cons (pw_ite (pwt_val (pw_var 3)) (pw_tup paw_nil) (pw_call F__law_new_fills (hr.mono (by decide)) m__law_new_fills k__law_new_fills b__law_new_fills .nil (fun _ _ => .nil) (par_nm 0 (par_dat (pw_var 1) (par_dat pw_int (par_dat pw_int (par_dat pw_non (par_dat pw_int par_nil)))))))) paw_nil))))) pwss_nil)
      (pwss_cons (pws_asg (pw_tup (paw_cons (pw_ix (pw_lst (paw_cons pw_str (paw_cons pw_str paw_nil))) (pw_call F__law_draw (hr.mono (by decide)) m__law_draw k__law_draw b__law_draw .nil (fun _ _ => .nil) (par_nm 0 (par_dat pw_int par_nil)))) (paw_cons (pw_op opW_add op_addA pw_int (pw_call F__law_draw (hr.mono (by decide)) m__law_draw k__law_draw b__law_draw .nil (fun _ _ => .nil) (par_nm 0 (par_dat pw_int par_nil)))) paw_nil))) (pwg_tup 2 rfl (pwgs_cons (pwg_name 10 S.nd) (pwgs_cons (pwg_name 6 S.nd) pwgs_nil))))
      (pwss_cons (pws_par 11 12 rfl S.nd (paw_cons (pw_op opW_add op_addA pw_int (pw_call F__law_draw (hr.mono (by decide)) m__law_draw k__law_draw b__law_draw .nil (fun _ _ => .nil) (par_nm 0 (par_dat pw_int par_nil)))) (paw_cons (pw_ix (pw_lst (paw_cons pw_str (paw_cons pw_str (paw_cons pw_str paw_nil)))) (pw_call F__law_draw (hr.mono (by decide)) m__law_draw k__law_draw b__law_draw .nil (fun _ _ => .nil) (par_nm 0 (par_dat pw_int par_nil)))) paw_nil)))
      (pwss_cons (pws_set 13 S.nd (pw_ite (pwt_val (pw_var 3)) (pw_tup paw_nil) (pw_call F__law_new_fills (hr.mono (by decide)) m__law_new_fills k__law_new_fills b__law_new_fills .nil (fun _ _ => .nil) (par_nm 0 (par_dat (pw_var 1) (par_dat pw_int (par_dat (pw_var 11) (par_dat (pw_var 10) (par_dat (pw_var 6) par_nil)))))))))
      (pwss_one (pws_ret (pw_tup (paw_cons pw_str (paw_cons (pw_var 12) (paw_cons (pw_var 10) (paw_cons (pw_var 6) (paw_cons (pw_var 11) (paw_cons (pw_var 13) paw_nil))))))))))))))))))) (fun sls c P h => ?data), hm, F.kp, F.bindsN fun _ _ _ _ _ _ us hl => match us, hl with | [_, _], _ => rfl⟩
  case len =>
    obtain ⟨rows, rfl, h⟩ := h
    rfl
  case data =>
    obtain ⟨rows, rfl, h⟩ := h
    obtain ⟨hg, hsm, hc, h⟩ := h
    have hz := hg.len
    have hL : LIM = 100000 := rfl
    have hns := hg.va.noSelf
    have hex : exF rows rows.length 0 = [] := by simp
    have hol : (ordersL rows).length ≤ 50 := Nat.le_trans (List.length_filter_le _ _) (by simp; omega)
    have hinc : (ordersL rows).Pairwise (· < ·) := List.Pairwise.filter _ List.pairwise_lt_range
    refine seqW_gen fun K k1 k2 => ?_
    simp [rho0, rowsL, hL]
    refine ⟨rows, rows.length, rfl, hg.ok, Nat.le_refl _, ?_⟩
    simp
    refine k1 _ _ ?_
    clear k1 k2
    refine seqW_gen fun K k1 k2 => ?_
    simp
    refine ⟨rows, rows.length, 0, rfl, hg.ok, ?_⟩
    rw [openL_eq hns (Nat.le_refl _), List.take_length, hex]
    simp
    refine use_draw (by omega) (by omega) (by omega) fun way hway => ?_
    simp
    refine k1 _ _ ?_
    clear k1 k2
    have hop : ∀ n ∈ (ordersL rows).filter fun n => openP rows [] n, openP rows [] n = true := fun n hn => (List.mem_filter.mp hn).2
    have hopl : ((ordersL rows).filter fun n => openP rows [] n).length ≤ 50 := Nat.le_trans (List.length_filter_le _ _) hol
    have hopi := hinc.filter fun n => openP rows [] n
    generalize (ordersL rows).filter (fun n => openP rows [] n) = OP at hop hopl hopi ⊢
    generalize hsh : shutP rows = shut
    refine seqW_gen fun K k1 k2 => ?_
    have rest : K (.nx [.rd, .dat (.list (rows.map rowD)), .dat (.int rows.length), .dat (.bool shut), .dat (.list (natsD OP)), .dat (.int way), .no, .no, .no, .no, .no, .no, .no, .no]) (c + 1) := by
      refine k1 _ _ ?_
      clear k1 k2
      refine seqW_gen fun K k1 k2 => ?_
      have rest4 : K (.nx [.rd, .dat (.list (rows.map rowD)), .dat (.int rows.length), .dat (.bool shut), .dat (.list (natsD OP)), .dat (.int way), .no, .no, .no, .no, .no, .no, .no, .no]) (c + 1) := by
        refine k1 _ _ ?_
        clear k1 k2
        refine seqW_gen fun K k1 k2 => ?_
        have rest5 : K (.nx [.rd, .dat (.list (rows.map rowD)), .dat (.int rows.length), .dat (.bool shut), .dat (.list (natsD OP)), .dat (.int way), .no, .no, .no, .no, .no, .no, .no, .no]) (c + 1) := by
          refine k1 _ _ ?_
          clear k1 k2
          refine seqW_gen fun K k1 k2 => ?_
          simp [hL]
          refine use_draw (by omega) (by omega) (by omega) fun r1 hr1 => ?_
          have hb : ∃ b, atI [PyData.str (Str.ofString "buy"), PyData.str (Str.ofString "sell")] (r1 : Int) = some (sideD b) := by
            have : r1 = 0 ∨ r1 = 1 := by omega
            rcases this with rfl | rfl
            · exact ⟨true, rfl⟩
            · exact ⟨false, rfl⟩
          obtain ⟨b, hb⟩ := hb
          simp [hb]
          refine use_draw (by omega) (by omega) (by omega) fun r2 hr2 => ?_
          simp [hL]
          refine k1 _ _ ?_
          clear k1 k2
          refine seqW_gen fun K k1 k2 => ?_
          simp [hL]
          refine use_draw (by omega) (by omega) (by omega) fun r3 hr3 => ?_
          simp [hL]
          refine use_draw (by omega) (by omega) (by omega) fun r4 hr4 => ?_
          have hm : ∃ m, nameOk m ∧ atI [PyData.str (Str.ofString "ann"), PyData.str (Str.ofString "bob"), PyData.str (Str.ofString "cy")] (r4 : Int) = some (.str m) := by
            have : r4 = 0 ∨ r4 = 1 ∨ r4 = 2 := by omega
            rcases this with rfl | rfl | rfl
            · exact ⟨_, name_ann, rfl⟩
            · exact ⟨_, name_bob, rfl⟩
            · exact ⟨_, name_cy, rfl⟩
          obtain ⟨m, hm1, hm⟩ := hm
          simp [hm]
          refine k1 _ _ ?_
          clear k1 k2
          refine seqW_gen fun K k1 k2 => ?_
          have rest8 : ∀ fs c', c' ≤ c + 25 → fillsOk fs → (shut = true → fs = []) → atAll (ownOk rows b (8 + (r2 : Int)) (1 + (r3 : Int))) fs = true → K (.nx [.rd, .dat (.list (rows.map rowD)), .dat (.int rows.length), .dat (.bool shut), .dat (.list (natsD OP)), .dat (.int way), .dat (.int (8 + (r2 : Int))), .no, .no, .no, .dat (sideD b), .dat (.int (1 + (r3 : Int))), .dat (.str m), .dat (fillsD fs)]) c' := fun fs c' hc' hfs hs hat => by
            refine k1 _ _ ?_
            clear k1 k2
            simp [hL]
            refine h (.order m b (8 + (r2 : Int)) (1 + (r3 : Int)) fs) c' (by omega) ⟨hm1, by omega, by omega, hfs⟩ ?_ (step_order (by rw [hsh]; exact hs) hat)
            show (1 : Int) + r3 ≤ 1000
            omega
          cases shut with
          | true =>
            simp [hL]
            exact rest8 [] (c + 1 + 1 + 1 + 1 + 1) (by omega) ⟨by simp, by simp⟩ (fun _ => rfl) rfl
          | false =>
            simp
            refine ⟨rows, some b, 8 + (r2 : Int), 1 + (r3 : Int), rfl, hg, fun _ => ⟨by omega, by omega⟩, by omega, fun fs c' hc' h2 hf hat => ?_⟩
            exact rest8 fs c' (by omega) ⟨by omega, hf⟩ (by simp) hat
        simp
        by_cases hw : (3 : Int) < (way : Int)
        · simp [hw, hL]
          cases shut with
          | true =>
            simp [hL]
            refine k2 (.rt _) _ (by simp) ?_
            exact h (.prints []) _ (by omega) ⟨by simp, by simp⟩ trivial (step_prints (by simp) rfl)
          | false =>
            simp
            refine ⟨rows, none, 0, 9, rfl, hg, by simp, by omega, fun fs c' hc' h2 hf hat => ?_⟩
            simp
            refine k2 (.rt _) _ (by simp) ?_
            exact h (.prints fs) _ (by omega) ⟨by omega, hf⟩ trivial (step_prints (by rw [hsh]; simp) hat)
        · simp [hw]
          exact rest5
      simp
      by_cases hw : (way : Int) = 6
      · simp [hw, hL]
        refine eqW_by (b := decide (OP = [])) (PL.natsL OP) (PL.natsL []) (.inr ⟨_, rfl⟩) ?_ ?_
        · cases OP <;> simp [natsD]
        · cases OP with
          | nil =>
            rw [hw] at rest4
            simp
            exact rest4
          | cons o0 OP' =>
            simp
            refine use_draw (by simp [natsD] <;> omega) (by simp at hopl; simp [natsD] <;> omega) (by omega) fun r2 hr2 => ?_
            have hr3 : r2 < (o0 :: OP').length := by simp [natsD] at hr2 ⊢; omega
            have ha : (natsD (o0 :: OP'))[r2]? = some (.int ((o0 :: OP')[r2] : Nat)) := by
              unfold natsD
              rw [List.getElem?_map, List.getElem?_eq_getElem hr3]
              rfl
            simp
            rw [atI_nat ha]
            simp
            refine k2 (.rt _) _ (by simp) ?_
            exact h (.cancel (o0 :: OP')[r2]) _ (by omega) trivial trivial (step_cancel (hop _ (List.getElem_mem hr3)))
      · simp [hw]
        exact rest4
    refine ifW_gen fun T t1 t2 => ?_
    cases shut with
    | false =>
      simp
      exact t2 _ rest
    | true =>
      simp
      by_cases hw : (way : Int) = 7
      · simp [hw]
        refine t1 _ ?_
        clear t1 t2 rest
        refine seqW_gen fun K k3 k4 => ?_
        simp
        refine use_draw (by omega) (by omega) (by omega) fun r1 hr1 => ?_
        simp
        refine k3 _ _ ?_
        clear k3
        refine seqW_gen fun K k3 k5 => ?_
        simp [lcD, hL]
        refine ⟨by simp [natsD]; omega, ?_⟩
        refine lcG_fl (fun n : Nat => PyData.int (n : Int)) (fun n => withinP (sideAt rows n) (priceAt rows n) (8 + (r1 : Int))) (fun n => PyData.int (n : Int)) _ (fun n hn c Q hQ => ?_) ?_
        · obtain ⟨m, fs', hr⟩ := rowAt (openP_ord' (hop n hn))
          simp [ixW_rowsL hr, rowD]
          generalize priceAt rows n = q at hQ ⊢
          cases hb : sideAt rows n with
          | true =>
            rw [hb] at hQ
            by_cases e : 8 + (r1 : Int) ≤ q
            · simpa [e, withinP] using hQ
            · have e2 : ¬ q = 8 + (r1 : Int) := by omega
              simpa [e, e2, withinP] using hQ
          | false =>
            rw [hb] at hQ
            by_cases e : 8 + (r1 : Int) ≤ q
            · by_cases e2 : q = 8 + (r1 : Int)
              · have e3 : q ≤ 8 + (r1 : Int) := by omega
                simpa [e, e2, e3, withinP] using hQ
              · have e3 : ¬ q ≤ 8 + (r1 : Int) := by omega
                simpa [e, e2, e3, withinP] using hQ
            · have e3 : q ≤ 8 + (r1 : Int) := by omega
              simpa [e, e3, withinP] using hQ
        rw [List.nil_append]
        refine k3 _ _ ?_
        clear k3
        have hgd : ∀ n ∈ OP.filter fun n => withinP (sideAt rows n) (priceAt rows n) (8 + (r1 : Int)), openP rows [] n = true ∧ withinP (sideAt rows n) (priceAt rows n) (8 + (r1 : Int)) = true := fun n hn => ⟨hop n (List.mem_filter.mp hn).1, (List.mem_filter.mp hn).2⟩
        have hgl : (OP.filter fun n => withinP (sideAt rows n) (priceAt rows n) (8 + (r1 : Int))).length ≤ 50 := Nat.le_trans (List.length_filter_le _ _) hopl
        have hgi := hopi.filter fun n => withinP (sideAt rows n) (priceAt rows n) (8 + (r1 : Int))
        generalize OP.filter (fun n => withinP (sideAt rows n) (priceAt rows n) (8 + (r1 : Int))) = GD at hgd hgl hgi ⊢
        refine seqW_gen fun K k3 k5 => ?_
        simp [lcD, hL]
        refine use_draw (by omega) (by omega) (by omega) fun r2 hr2 => ?_
        simp [sl2W]
        refine ⟨by omega, fun ys hys => ?_⟩
        obtain ⟨ys', hs, rfl⟩ := List.sublist_map_iff.mp hys
        have hyl := hs.length_le
        have hyi := hgi.sublist hs
        refine ⟨by simp; omega, ?_⟩
        refine lcG_mapI (fun n : Nat => PyData.int (n : Int)) (fun i acc c' => c' ≤ c + 3 + i ∧ ∃ ps : List (Nat × Int), acc = ps.map pairD ∧ ps.map (·.1) = ys'.take i ∧ ∀ q ∈ ps, 1 ≤ q.2 ∧ pairStep rows (8 + (r1 : Int)) q = true) ys' (fun i n hn acc c' Q hI q1 q2 => ?_) ⟨by omega, [], rfl, by simp, by simp⟩ (fun acc c' hI => ?_)
        · obtain ⟨hc', ps, rfl, hps, hpa⟩ := hI
          have hil : i < ys'.length := (List.getElem?_eq_some_iff.mp hn).1
          obtain ⟨hn1, hn2⟩ := hgd n (hs.subset (List.mem_of_getElem? hn))
          have ho := openP_ord' hn1
          have hrp := mem_pos hn1
          have hrl : restP rows [] n ≤ 1000 := Int.le_trans (restP_le hg.ok) (sizeAt_small hsm)
          have hre : sizeAt rows n - pairSum n (tradesP rows rows.length 0) = restP rows [] n := by
            rw [trades_sum hns ho (Nat.le_refl _), List.take_length, hex]
            rfl
          simp
          refine ⟨rows, n, rows.length, 0, rfl, hg.ok, ho, ?_⟩
          rw [hre]
          simp
          refine use_draw (by omega) (by omega) (by omega) fun r3 hr3 => ?_
          simp
          refine q1 _ _ ⟨by omega, ps ++ [(n, 1 + (r3 : Int))], by simp [pairD], ?_, fun q hq => ?_⟩
          · rw [List.map_append, hps, List.take_add_one, hn]
            rfl
          · rcases List.mem_append.mp hq with h | h
            · exact hpa q h
            · rw [List.mem_singleton.mp h]
              refine ⟨by dsimp only; omega, ?_⟩
              unfold pairStep
              simp only [hn1, hn2, Bool.true_and, decide_eq_true_eq]
              omega
        · obtain ⟨hc', ps, rfl, hps, hpa⟩ := hI
          rw [List.take_length] at hps
          refine k3 _ _ ?_
          clear k3 k5
          have hpl : ps.length = ys'.length := by rw [← hps, List.length_map]
          have hpo : pairsOk ps := ⟨by omega, fun q hq => (hpa q hq).1, by rw [← hps, List.pairwise_map] at hyi; exact hyi⟩
          have hst := step_call (p := some (8 + (r1 : Int))) hsh fun q hq x hx => by cases hq; exact (hpa x hx).2
          simp [hL]
          refine eqW_by (b := decide (ps = [])) (PL.pairsL ps) (PL.pairsL []) (.inr ⟨_, rfl⟩) ?_ ?_
          · cases ps <;> simp
          · cases ps with
            | nil =>
              simp
              refine use_draw (by omega) (by omega) (by omega) fun r4 hr4 => ?_
              by_cases e : r4 = 0
              · simp [e]
                refine k2 (.rt _) _ (by simp) ?_
                exact h (.call (some (8 + (r1 : Int))) []) _ (by omega) ⟨hpo, by dsimp only; omega⟩ trivial hst
              · simp [e]
                refine k2 (.rt _) _ (by simp) ?_
                exact h (.call none []) _ (by omega) ⟨hpo, rfl⟩ trivial (step_call hsh (by simp))
            | cons q0 ps' =>
              simp
              refine k2 (.rt _) _ (by simp) ?_
              exact h (.call (some (8 + (r1 : Int))) (q0 :: ps')) _ (by omega) ⟨hpo, by dsimp only; omega⟩ trivial hst
      · simp [hw]
        exact t2 _ rest
end
end FK
set_option Elab.async false
set_option linter.all false
set_option maxRecDepth 100000
set_option maxHeartbeats 4000000
/-! Defs as promises: the law's drawn and fixed records. (Printed by gen2.py from specZ.py.) -/
namespace FK
open PySem PySem.Spec L2
theorem flat_row (r : Row) : flat (rowD r) = true := by
  cases r with
  | order m b p s fs => simp [rowD, flat, flats, sideD, fillsD]; exact flat_fills fs
  | cancel n => rfl
  | prints fs => simp [rowD, flat, flats, fillsD]; exact flat_fills fs
  | closed => rfl
  | call p ps =>
    have h : flats (ps.map pairD) = true := flats_all fun x hx => by
      obtain ⟨q, _, rfl⟩ := List.mem_map.mp hx
      rfl
    cases p <;> simp [rowD, flat, flats, priceD, pairsD, h]
/-- a record that the law goes through -/
structure Good (rows : List Row) : Prop where
  ok : rowsOk rows
  va : Valid rows
  len : rows.length ≤ 8
  sm : Small rows
theorem Good.gen {rows : List Row} (h : Good rows) : GenRows rows := ⟨h.ok, h.va, by have := h.len; omega⟩
theorem snoc_ok {rows : List Row} {r : Row} (h : rowsOk rows) (hr : rowOk r) (hl : rows.length ≤ 40) : rowsOk (rows ++ [r]) := ⟨by simp; omega, fun x hx => by
  rcases List.mem_append.mp hx with h1 | h1
  · exact h.2 x h1
  · rw [List.mem_singleton.mp h1]; exact hr⟩
theorem Small.snoc {rows : List Row} {r : Row} (h : Small rows) (hr : smallRow r) : Small (rows ++ [r]) := fun x hx => by
  rcases List.mem_append.mp hx with h1 | h1
  · exact h x h1
  · rw [List.mem_singleton.mp h1]; exact hr
theorem Good.nil : Good [] := ⟨⟨by simp, by simp⟩, Valid.nil, by simp, by intro r h; cases h⟩
theorem Good.one : Good [.closed] := ⟨⟨by simp, by intro r h; rw [List.mem_singleton.mp h]; trivial⟩, Valid.nil.snoc (by decide), by simp, by intro r h; rw [List.mem_singleton.mp h]; trivial⟩
abbrev g__law_random_rows : Gs := fun sls c P => ∃ m : Nat, sls = [.rd, .dat (.int m)] ∧ m = 7 ∧ c + 1000 ≤ 10 ^ 6 ∧ ∀ rows c', c' ≤ c + 1000 → Good rows → P (.rt (rowsL rows)) c'
abbrev g__law_random_record : Gs := fun sls c P => ∃ m : Nat, sls = [.rd, .dat (.int m)] ∧ m = 7 ∧ c + 1001 ≤ 10 ^ 6 ∧ ∀ x rows c', c' ≤ c + 1001 → ruleOk x → Good rows → P (.rt (recD x rows)) c'
def nameB (m : Str) : Bool := decide (m = Str.ofString "ann") || (decide (m = Str.ofString "bob") || (decide (m = Str.ofString "cy") || decide (m = Str.ofString "dee")))
theorem nameB_ok {m : Str} (h : nameB m = true) : nameOk m := by
  unfold nameB at h
  simp only [Bool.or_eq_true, decide_eq_true_eq] at h
  rcases h with rfl | rfl | rfl | rfl
  · exact name_ann
  · exact name_bob
  · exact name_cy
  · exact name_dee
def fillsB (fs : List Fill) : Bool := decide (fs.length ≤ 50) && fs.all fun f => decide (1 ≤ f.p) && decide (1 ≤ f.s)
theorem fillsB_ok {fs : List Fill} (h : fillsB fs = true) : fillsOk fs := by
  unfold fillsB at h
  simp only [Bool.and_eq_true, decide_eq_true_eq, List.all_eq_true] at h
  exact ⟨h.1, fun f hf => ⟨(h.2 f hf).1, (h.2 f hf).2⟩⟩
def pairsB (ps : List (Nat × Int)) : Bool := decide (ps.length ≤ 50) && ((ps.all fun q => decide (1 ≤ q.2)) && decide (ps.Pairwise fun a b => a.1 < b.1))
theorem pairsB_ok {ps : List (Nat × Int)} (h : pairsB ps = true) : pairsOk ps := by
  unfold pairsB at h
  simp only [Bool.and_eq_true, decide_eq_true_eq, List.all_eq_true] at h
  exact ⟨h.1, h.2.1, h.2.2⟩
def rowB : Row → Bool
  | .order m _ p s fs => nameB m && (decide (1 ≤ p) && (decide (1 ≤ s) && fillsB fs))
  | .cancel _ => true
  | .prints fs => fillsB fs
  | .closed => true
  | .call p ps => pairsB ps && match p with
    | some q => decide (1 ≤ q)
    | none => ps.isEmpty
theorem rowB_ok {r : Row} (h : rowB r = true) : rowOk r := by
  cases r with
  | order m b p s fs =>
    simp only [rowB, Bool.and_eq_true, decide_eq_true_eq] at h
    exact ⟨nameB_ok h.1, h.2.1, h.2.2.1, fillsB_ok h.2.2.2⟩
  | cancel n => trivial
  | prints fs => exact fillsB_ok h
  | closed => trivial
  | call p ps =>
    simp only [rowB, Bool.and_eq_true] at h
    refine ⟨pairsB_ok h.1, ?_⟩
    cases p with
    | none => simpa using h.2
    | some q => simpa using h.2
def smallB : Row → Bool
  | .order _ _ _ s _ => decide (s ≤ 1000)
  | _ => true
theorem Valid.of_all {rows : List Row} (h : allOk rows = true) : Valid rows := fun s r hr => by
  unfold allOk at h
  rw [List.all_eq_true] at h
  have hl := (List.getElem?_eq_some_iff.mp hr).1
  have := h s (List.mem_range.mpr hl)
  rw [hr] at this
  exact this
def goodB (rows : List Row) : Bool := rows.all rowB && (allOk rows && (decide (rows.length ≤ 8) && rows.all smallB))
theorem Good.of {rows : List Row} (h : goodB rows = true) : Good rows := by
  unfold goodB at h
  simp only [Bool.and_eq_true, decide_eq_true_eq, List.all_eq_true] at h
  refine ⟨⟨by have := h.2.2.1; omega, fun r hr => rowB_ok (h.1 r hr)⟩, Valid.of_all h.2.1, h.2.2.1, fun r hr => ?_⟩
  have := h.2.2.2 r hr
  cases r <;> simp [smallB, smallRow] at this ⊢
  exact this
/-- the law's fixed records -/
def fixedP : List (Str × List Row) := [
  (Str.ofString "time", [.order "ann" true 10 3 [], .order "bob" true 10 2 [], .prints [⟨10, 1, none⟩, ⟨10, 1, some 0⟩], .prints [⟨10, 1, none⟩]]),
  (Str.ofString "late", [.closed, .order "ann" false 9 4 [], .order "cy" true 11 2 [], .prints [], .order "bob" false 9 1 [], .call (some 10) [(1, 1), (2, 2)], .cancel 1, .prints [⟨9, 1, some 4⟩, ⟨12, 3, none⟩]]),
  (Str.ofString "price", [.order "ann" false 9 2 [], .order "bob" true 9 5 [⟨8, 1, none⟩, ⟨9, 2, some 0⟩], .order "ann" false 9 1 [⟨9, 1, some 1⟩], .cancel 1, .prints [⟨7, 1000, none⟩]]),
  (Str.ofString "time", []), (Str.ofString "late", [.closed])]
theorem fixed_good : ∀ x ∈ fixedP, ruleOk x.1 ∧ Good x.2 := by
  have h : fixedP.all (fun x => (decide (x.1 = Str.ofString "time") || (decide (x.1 = Str.ofString "late") || decide (x.1 = Str.ofString "price"))) && goodB x.2) = true := by decide +kernel
  rw [List.all_eq_true] at h
  intro x hx
  have := h x hx
  simp only [Bool.and_eq_true, Bool.or_eq_true, decide_eq_true_eq] at this
  refine ⟨?_, Good.of this.2⟩
  unfold ruleOk
  rcases this.1 with e | e | e <;> rw [e] <;> simp
abbrev g__law_fixed_records : Gs := fun sls c P => ∃ m : Nat, sls = [] ∧ m = 0 ∧ P (.rt (.list (fixedP.map fun x => recD x.1 x.2))) c
section
variable {P : Program} {w : World} {K : PySem.W.Frag} {mg : Str → Option Value} {base : Heap} {C : Addr} {f : Addr} {fd : FuncData}
theorem ok__law_random_rows (bl : Bl mg) (cn : Cn K mg) (h__law_draw : Has P w K mg base C "_law_draw" 1 ["_law_reader_here", "_law_many"] g__law_draw) (h__law_new_row : Has P w K mg base C "_law_new_row" 5 ["_law_reader_here", "_law_rows"] g__law_new_row) (F : FunD K "_law_random_rows" "_law_random_rows" (defArgs s__law_random_rows) (defBody s__law_random_rows) (defScope s__law_random_rows) [] [] f fd) (hm : mg "_law_random_rows" = some (.ref f)) : Has P w K mg base C "_law_random_rows" 6 ["_law_reader_here", "_law_most"] g__law_random_rows := by
  obtain ⟨f__law_draw, fd__law_draw, F__law_draw, m__law_draw, k__law_draw, b__law_draw⟩ := h__law_draw
  obtain ⟨f__law_new_row, fd__law_new_row, F__law_new_row, m__law_new_row, k__law_new_row, b__law_new_row⟩ := h__law_new_row
  have S : FnScope ["_law_reader_here", "_law_most", "_law_rows", "_law_k"] ["_law_reader_here", "_law_most"] (defScope s__law_random_rows) := ⟨rfl, rfl, rfl, by decide +kernel, rfl, by decide +kernel, by decide +kernel⟩
  refine ⟨f, fd, fn_w F S (fun sls c P h => ?len) (fun cdv A outer s H E r hr => have hp := passes_of rfl; ((pwss_cons (pws_own 2 S.nd (pwn_ite (pwt_cmp opW_eq (op_eqA hr.units) (pw_call F__law_draw (hr.mono (by decide)) m__law_draw k__law_draw b__law_draw .nil (fun _ _ => .nil) (par_nm 0 (par_dat pw_int par_nil))) pw_int (nomark _)) (pwn_lst (paw_cons (pw_tup (paw_cons pw_str paw_nil)) paw_nil)) (pwn_lst paw_nil)))
      (pwss_cons (pws_for hp rfl (pwi_range bl.range (pw_call F__law_draw (hr.mono (by decide)) m__law_draw k__law_draw b__law_draw .nil (fun _ _ => .nil) (par_nm 0 (par_dat (pw_op opW_add op_addA (pw_var 1) pw_int) par_nil)))) (pwg_name 3 S.nd) (pwss_one (pws_append 2 (pw_un (pw_call F__law_new_row (hr.mono (by decide)) m__law_new_row k__law_new_row b__law_new_row .nil (fun _ _ => .nil) (par_nm 0 (par_dat (pw_var 2) par_nil)))))))
      (pwss_one (pws_retOwn 2)))))) (fun sls c P h => ?data), hm, F.kp, F.bindsN fun _ _ _ _ _ _ us hl => match us, hl with | [_, _], _ => rfl⟩
  case len =>
    obtain ⟨m, rfl, h⟩ := h
    rfl
  case data =>
    obtain ⟨m, rfl, h⟩ := h
    obtain ⟨rfl, hc, h⟩ := h
    have hL : LIM = 100000 := rfl
    refine seqW_gen fun K k1 k2 => ?_
    have tail : ∀ rows0 : List Row, Good rows0 → rows0.length ≤ 1 → K (.nx [.rd, .dat (.int 7), .lst (rows0.map rowD), .no]) (c + 1) := fun rows0 hg0 hl0 => by
      refine k1 _ _ ?_
      clear k1 k2
      refine seqW_gen fun K k1 k2 => ?_
      simp
      refine use_draw (by omega) (by omega) (by omega) fun r hr => ?_
      simp
      refine ⟨by omega, ?_⟩
      refine forG_map (fun s : Nat => PyData.int (s : Int)) (fun k ρ c1 => c1 ≤ c + 2 + 100 * k ∧ ∃ rows a, ρ = [.rd, .dat (.int 7), .lst (List.map rowD rows), a] ∧ rows.length ≤ 1 + k ∧ rowsOk rows ∧ Valid rows ∧ Small rows) _ (fun k x hk ρ c1 Q hI q1 q2 => ?_) ⟨by omega, rows0, _, rfl, by omega, hg0.ok, hg0.va, hg0.sm⟩ (fun ρ c1 hI => ?_)
      · obtain ⟨hc1, rows, a, rfl, hl, hok, hv, hs⟩ := hI
        have hkr : k < r := by have := (List.getElem?_eq_some_iff.mp hk).1; simpa using this
        simp [unR, unS]
        refine ⟨rows, rfl, ⟨hok, hv, by omega⟩, hs, by omega, fun row c' hc' hro hrs hst => ?_⟩
        simp [flat_row]
        refine ⟨by omega, q1 _ _ ⟨by omega, rows ++ [row], _, by simp; rfl, by simp; omega, snoc_ok hok hro (by omega), hv.snoc hst, hs.snoc hrs⟩⟩
      · obtain ⟨hc1, rows, a, rfl, hl, hok, hv, hs⟩ := hI
        simp at hl hc1
        refine k1 _ _ ?_
        simp
        exact h rows c1 (by omega) ⟨hok, hv, by omega, hs⟩
    simp [rho0]
    refine use_draw (by omega) (by omega) (by omega) fun r hr => ?_
    simp
    by_cases e : r = 0
    · simp [e, hL]
      exact tail [.closed] Good.one (by simp)
    · simp [e, hL]
      exact tail [] Good.nil (by simp)
theorem ok__law_random_record (bl : Bl mg) (cn : Cn K mg) (h__law_draw : Has P w K mg base C "_law_draw" 1 ["_law_reader_here", "_law_many"] g__law_draw) (h__law_random_rows : Has P w K mg base C "_law_random_rows" 6 ["_law_reader_here", "_law_most"] g__law_random_rows) (F : FunD K "_law_random_record" "_law_random_record" (defArgs s__law_random_record) (defBody s__law_random_record) (defScope s__law_random_record) [] [] f fd) (hm : mg "_law_random_record" = some (.ref f)) : Has P w K mg base C "_law_random_record" 7 ["_law_reader_here", "_law_most"] g__law_random_record := by
  obtain ⟨f__law_draw, fd__law_draw, F__law_draw, m__law_draw, k__law_draw, b__law_draw⟩ := h__law_draw
  obtain ⟨f__law_random_rows, fd__law_random_rows, F__law_random_rows, m__law_random_rows, k__law_random_rows, b__law_random_rows⟩ := h__law_random_rows
  have S : FnScope ["_law_reader_here", "_law_most"] ["_law_reader_here", "_law_most"] (defScope s__law_random_record) := ⟨rfl, rfl, rfl, by decide +kernel, rfl, by decide +kernel, by decide +kernel⟩
  refine ⟨f, fd, fn_w F S (fun sls c P h => ?len) (fun cdv A outer s H E r hr => ((pwss_one (pws_ret (pw_tup (paw_cons (pw_ix (pw_lst (paw_cons pw_str (paw_cons pw_str (paw_cons pw_str paw_nil)))) (pw_call F__law_draw (hr.mono (by decide)) m__law_draw k__law_draw b__law_draw .nil (fun _ _ => .nil) (par_nm 0 (par_dat pw_int par_nil)))) (paw_cons (pw_callTy calW_tuple call_tuple_of bl.tuple (paw_cons (pw_call F__law_random_rows (hr.mono (by decide)) m__law_random_rows k__law_random_rows b__law_random_rows .nil (fun _ _ => .nil) (par_nm 0 (par_dat (pw_var 1) par_nil))) paw_nil)) paw_nil))))))) (fun sls c P h => ?data), hm, F.kp, F.bindsN fun _ _ _ _ _ _ us hl => match us, hl with | [_, _], _ => rfl⟩
  case len =>
    obtain ⟨m, rfl, h⟩ := h
    rfl
  case data =>
    obtain ⟨m, rfl, h⟩ := h
    obtain ⟨rfl, hc, h⟩ := h
    have hL : LIM = 100000 := rfl
    simp [rho0, hL]
    refine use_draw (by omega) (by omega) (by omega) fun r hr => ?_
    have hx : ∃ x, ruleOk x ∧ atI [PyData.str (Str.ofString "time"), PyData.str (Str.ofString "late"), PyData.str (Str.ofString "price")] (r : Int) = some (.str x) := by
      have : r = 0 ∨ r = 1 ∨ r = 2 := by omega
      rcases this with rfl | rfl | rfl
      · exact ⟨Str.ofString "time", by simp [ruleOk], rfl⟩
      · exact ⟨Str.ofString "late", by simp [ruleOk], rfl⟩
      · exact ⟨Str.ofString "price", by simp [ruleOk], rfl⟩
    obtain ⟨x, hx1, hx⟩ := hx
    simp [hx]
    refine ⟨7, rfl, rfl, by omega, fun rows c' hc' hg => ?_⟩
    simp [rowsL]
    exact h x rows c' (by omega) hx1 hg
end
end FK
set_option Elab.async false
set_option linter.all false
set_option maxRecDepth 100000
set_option maxHeartbeats 4000000
/-! Def as promise: the law's fixed records. (Printed by gen2.py from spec1.py.) -/
namespace FK
open PySem PySem.Spec L2
section
variable {X : Cx} {dl : DicL} {r : Option Addr}
theorem pwc_nil : PA X [] (tWA dl r fun _ => rW []) := paw_nil
theorem pwc_cons {e : Expr} {es : List Expr} {d : D} {ds : List D} (he : PE X e (tW dl r fun _ => rW d)) (h : PA X es (tWA dl r fun _ => rW ds)) (hs : starEach (e :: es) X.env = (false, eval e X.env) :: starEach es X.env := by rfl) : PA X (e :: es) (tWA dl r fun _ => rW (d :: ds)) := paw_cons he h hs
theorem pw_tupC {es : List Expr} {k : Nat} {pos : Pos} {ds : List D} (h : PA X es (tWA dl r fun _ => rW ds)) (hl : decide (ds.length ≤ 100) = true := by rfl) : PE X (.Tuple es k pos) (tW dl r fun _ => rW (.tuple ds)) :=
  PE.imp (pw_tup h) fun σ H Q ⟨A0, B, ρ, c, P, E, hp, q⟩ => ⟨A0, B, ρ, c, P, E, ⟨Nat.le_trans (of_decide_eq_true hl) (by decide), hp⟩, q⟩
end
section
variable {P : Program} {w : World} {K : PySem.W.Frag} {mg : Str → Option Value} {base : Heap} {C : Addr} {f : Addr} {fd : FuncData}
theorem ok__law_fixed_records (bl : Bl mg) (cn : Cn K mg)  (F : FunD K "_law_fixed_records" "_law_fixed_records" (defArgs s__law_fixed_records) (defBody s__law_fixed_records) (defScope s__law_fixed_records) [] [] f fd) (hm : mg "_law_fixed_records" = some (.ref f)) : Has P w K mg base C "_law_fixed_records" 1 [] g__law_fixed_records := by
  have S : FnScope ["_law_first", "_law_shut", "_law_late"] [] (defScope s__law_fixed_records) := ⟨rfl, rfl, rfl, by decide +kernel, rfl, by decide +kernel, by decide +kernel⟩
  refine ⟨f, fd, fn_w F S (fun sls c P h => ?len) (fun cdv A outer s H E r hr => ((pwss_cons (pws_set 0 S.nd (pw_tupC (pwc_cons (pw_tupC (pwc_cons pw_str (pwc_cons pw_str (pwc_cons pw_str (pwc_cons pw_int (pwc_cons pw_int (pwc_cons (pw_tupC pwc_nil) pwc_nil))))))) (pwc_cons (pw_tupC (pwc_cons pw_str (pwc_cons pw_str (pwc_cons pw_str (pwc_cons pw_int (pwc_cons pw_int (pwc_cons (pw_tupC pwc_nil) pwc_nil))))))) pwc_nil))))
      (pwss_cons (pws_set 0 S.nd (pw_op opW_add op_addA (pw_var 0) (pw_tupC (pwc_cons (pw_tupC (pwc_cons pw_str (pwc_cons (pw_tupC (pwc_cons (pw_tupC (pwc_cons pw_int (pwc_cons pw_int (pwc_cons pw_non pwc_nil)))) (pwc_cons (pw_tupC (pwc_cons pw_int (pwc_cons pw_int (pwc_cons pw_int pwc_nil)))) pwc_nil))) pwc_nil))) (pwc_cons (pw_tupC (pwc_cons pw_str (pwc_cons (pw_tupC (pwc_cons (pw_tupC (pwc_cons pw_int (pwc_cons pw_int (pwc_cons pw_non pwc_nil)))) pwc_nil)) pwc_nil))) pwc_nil)))))
      (pwss_cons (pws_set 1 S.nd (pw_tupC (pwc_cons (pw_tupC (pwc_cons pw_str pwc_nil)) (pwc_cons (pw_tupC (pwc_cons pw_str (pwc_cons pw_str (pwc_cons pw_str (pwc_cons pw_int (pwc_cons pw_int (pwc_cons (pw_tupC pwc_nil) pwc_nil))))))) (pwc_cons (pw_tupC (pwc_cons pw_str (pwc_cons pw_str (pwc_cons pw_str (pwc_cons pw_int (pwc_cons pw_int (pwc_cons (pw_tupC pwc_nil) pwc_nil))))))) (pwc_cons (pw_tupC (pwc_cons pw_str (pwc_cons (pw_tupC pwc_nil) pwc_nil))) pwc_nil))))))
      (pwss_cons (pws_set 1 S.nd (pw_op opW_add op_addA (pw_var 1) (pw_tupC (pwc_cons (pw_tupC (pwc_cons pw_str (pwc_cons pw_str (pwc_cons pw_str (pwc_cons pw_int (pwc_cons pw_int (pwc_cons (pw_tupC pwc_nil) pwc_nil))))))) (pwc_cons (pw_tupC (pwc_cons pw_str (pwc_cons pw_int (pwc_cons (pw_tupC (pwc_cons (pw_tupC (pwc_cons pw_int (pwc_cons pw_int pwc_nil))) (pwc_cons (pw_tupC (pwc_cons pw_int (pwc_cons pw_int pwc_nil))) pwc_nil))) pwc_nil)))) (pwc_cons (pw_tupC (pwc_cons pw_str (pwc_cons pw_int pwc_nil))) pwc_nil))))))
      (pwss_cons (pws_set 1 S.nd (pw_op opW_add op_addA (pw_var 1) (pw_tupC (pwc_cons (pw_tupC (pwc_cons pw_str (pwc_cons (pw_tupC (pwc_cons (pw_tupC (pwc_cons pw_int (pwc_cons pw_int (pwc_cons pw_int pwc_nil)))) (pwc_cons (pw_tupC (pwc_cons pw_int (pwc_cons pw_int (pwc_cons pw_non pwc_nil)))) pwc_nil))) pwc_nil))) pwc_nil))))
      (pwss_cons (pws_set 2 S.nd (pw_tupC (pwc_cons (pw_tupC (pwc_cons pw_str (pwc_cons pw_str (pwc_cons pw_str (pwc_cons pw_int (pwc_cons pw_int (pwc_cons (pw_tupC pwc_nil) pwc_nil))))))) (pwc_cons (pw_tupC (pwc_cons pw_str (pwc_cons pw_str (pwc_cons pw_str (pwc_cons pw_int (pwc_cons pw_int (pwc_cons (pw_tupC (pwc_cons (pw_tupC (pwc_cons pw_int (pwc_cons pw_int (pwc_cons pw_non pwc_nil)))) (pwc_cons (pw_tupC (pwc_cons pw_int (pwc_cons pw_int (pwc_cons pw_int pwc_nil)))) pwc_nil))) pwc_nil))))))) pwc_nil))))
      (pwss_cons (pws_set 2 S.nd (pw_op opW_add op_addA (pw_var 2) (pw_tupC (pwc_cons (pw_tupC (pwc_cons pw_str (pwc_cons pw_str (pwc_cons pw_str (pwc_cons pw_int (pwc_cons pw_int (pwc_cons (pw_tupC (pwc_cons (pw_tupC (pwc_cons pw_int (pwc_cons pw_int (pwc_cons pw_int pwc_nil)))) pwc_nil)) pwc_nil))))))) (pwc_cons (pw_tupC (pwc_cons pw_str (pwc_cons pw_int pwc_nil))) (pwc_cons (pw_tupC (pwc_cons pw_str (pwc_cons (pw_tupC (pwc_cons (pw_tupC (pwc_cons pw_int (pwc_cons pw_int (pwc_cons pw_non pwc_nil)))) pwc_nil)) pwc_nil))) pwc_nil))))))
      (pwss_one (pws_ret (pw_lst (paw_cons (pw_tup (paw_cons pw_str (paw_cons (pw_var 0) paw_nil))) (paw_cons (pw_tup (paw_cons pw_str (paw_cons (pw_var 1) paw_nil))) (paw_cons (pw_tup (paw_cons pw_str (paw_cons (pw_var 2) paw_nil))) (paw_cons (pw_tupC (pwc_cons pw_str (pwc_cons (pw_tupC pwc_nil) pwc_nil))) (paw_cons (pw_tupC (pwc_cons pw_str (pwc_cons (pw_tupC (pwc_cons (pw_tupC (pwc_cons pw_str pwc_nil)) pwc_nil)) pwc_nil))) paw_nil))))))))))))))))) (fun sls c P h => ?data), hm, F.kp, F.bindsN fun _ _ _ _ _ _ us hl => match us, hl with | [], _ => rfl⟩
  case len =>
    obtain ⟨m, rfl, h⟩ := h
    rfl
  case data =>
    obtain ⟨m, rfl, h⟩ := h
    obtain ⟨rfl, h⟩ := h
    have hL : LIM = 100000 := rfl
    simp [rho0, hL]
    simp [fixedP, recD, rowsT, rowD, fillsD, fillD, nD, sideD, sideS, pairsD, pairD, priceD] at h
    exact h
end
end FK
set_option Elab.async false
set_option linter.all false
set_option maxRecDepth 100000
set_option maxHeartbeats 4000000
/-! Def as promise: the law's candidates. (Printed by gen2.py from spec2.py.) -/
namespace FK
open PySem PySem.Spec L2
structure Cs (N : Nat) (cs : List Row) : Prop where
  ok : ∀ r ∈ cs, rowOk r
  len : cs.length ≤ N
theorem Cs.add {N : Nat} {cs new : List Row} (h : Cs N cs) (hn : ∀ r ∈ new, rowOk r) (M : Nat) (hM : N + new.length ≤ M) : Cs M (cs ++ new) := ⟨fun r hr => by
  rcases List.mem_append.mp hr with h1 | h1
  · exact h.ok r h1
  · exact hn r h1, by have := h.len; rw [List.length_append]; omega⟩
theorem one_fill {p s : Int} {n : Option Nat} (hp : 1 ≤ p) (hs : 1 ≤ s) : fillsOk [⟨p, s, n⟩] := ⟨by simp, fun f hf => by rw [List.mem_singleton.mp hf]; exact ⟨hp, hs⟩⟩
theorem no_fill : fillsOk [] := ⟨by simp, by simp⟩
theorem orders_inc (rows : List Row) : (ordersP rows).Pairwise (· < ·) := by
  unfold ordersP
  rw [List.pairwise_map]
  refine List.Pairwise.filter _ ?_
  rw [List.pairwise_iff_getElem]
  intro i j hi hj hij
  simpa using hij
abbrev g__law_candidates : Gs := fun sls c P => ∃ (x : Str) (rows : List Row), sls = [.rd, .dat (recD x rows)] ∧ Good rows ∧ c + 400 ≤ 10 ^ 6 ∧ ∀ cs c', c' ≤ c + 400 → Cs 50 cs → P (.rt (.list (cs.map rowD))) c'
section
variable {P : Program} {w : World} {K : PySem.W.Frag} {mg : Str → Option Value} {base : Heap} {C : Addr} {f : Addr} {fd : FuncData}
theorem ok__law_candidates (bl : Bl mg) (cn : Cn K mg) (h__law_draw : Has P w K mg base C "_law_draw" 1 ["_law_reader_here", "_law_many"] g__law_draw) (h__law_new_row : Has P w K mg base C "_law_new_row" 5 ["_law_reader_here", "_law_rows"] g__law_new_row) (h_orders_of : Has P w K mg base C "orders_of" 1 ["record"] g_orders_of) (F : FunD K "_law_candidates" "_law_candidates" (defArgs s__law_candidates) (defBody s__law_candidates) (defScope s__law_candidates) [] [] f fd) (hm : mg "_law_candidates" = some (.ref f)) : Has P w K mg base C "_law_candidates" 6 ["_law_reader_here", "_law_good"] g__law_candidates := by
  obtain ⟨f__law_draw, fd__law_draw, F__law_draw, m__law_draw, k__law_draw, b__law_draw⟩ := h__law_draw
  obtain ⟨f__law_new_row, fd__law_new_row, F__law_new_row, m__law_new_row, k__law_new_row, b__law_new_row⟩ := h__law_new_row
  obtain ⟨f_orders_of, fd_orders_of, F_orders_of, m_orders_of, k_orders_of, b_orders_of⟩ := h_orders_of
  have S : FnScope ["_law_reader_here", "_law_good", "_law_many", "_law_rows", "_law_found", "_law_n", "_law_price", "_law_size", "_law_side", "_law_m"] ["_law_reader_here", "_law_good"] (defScope s__law_candidates) := ⟨rfl, rfl, rfl, by decide +kernel, rfl, by decide +kernel, by decide +kernel⟩
  refine ⟨f, fd, fn_w F S (fun sls c P h => ?len) (fun cdv A outer s H E r hr => have hp := passes_of rfl; ((pwss_cons (pws_par 2 3 rfl S.nd (paw_cons (pw_callB calW_len call_len bl.len (paw_cons (pw_ix (pw_var 1) pw_int) paw_nil)) (paw_cons (pw_callTy calW_list call_list_of bl.list (paw_cons (pw_ix (pw_var 1) pw_int) paw_nil)) paw_nil)))
      (pwss_cons (pws_set 4 S.nd (pw_lst (paw_cons (pw_call F__law_new_row (hr.mono (by decide)) m__law_new_row k__law_new_row b__law_new_row .nil (fun _ _ => .nil) (par_nm 0 (par_dat (pw_var 3) par_nil))) (paw_cons (pw_call F__law_new_row (hr.mono (by decide)) m__law_new_row k__law_new_row b__law_new_row .nil (fun _ _ => .nil) (par_nm 0 (par_dat (pw_var 3) par_nil))) (paw_cons (pw_tupC (pwc_cons pw_str pwc_nil)) paw_nil)))))
      (pwss_cons (pws_set 4 S.nd (pw_op opW_add op_addA (pw_var 4) (pw_lst (paw_cons (pw_tupC (pwc_cons pw_str (pwc_cons pw_non (pwc_cons (pw_tupC pwc_nil) pwc_nil)))) (paw_cons (pw_tupC (pwc_cons pw_str (pwc_cons (pw_tupC pwc_nil) pwc_nil))) paw_nil)))))
      (pwss_cons (pws_par3 5 6 7 rfl S.nd (paw_cons (pw_call F__law_draw (hr.mono (by decide)) m__law_draw k__law_draw b__law_draw .nil (fun _ _ => .nil) (par_nm 0 (par_dat (pw_op opW_add op_addA (pw_var 2) pw_int) par_nil))) (paw_cons (pw_op opW_add op_addA pw_int (pw_call F__law_draw (hr.mono (by decide)) m__law_draw k__law_draw b__law_draw .nil (fun _ _ => .nil) (par_nm 0 (par_dat pw_int par_nil)))) (paw_cons (pw_op opW_add op_addA pw_int (pw_call F__law_draw (hr.mono (by decide)) m__law_draw k__law_draw b__law_draw .nil (fun _ _ => .nil) (par_nm 0 (par_dat pw_int par_nil)))) paw_nil))))
      (pwss_cons (pws_if (PW.pt (pww_and (pwt_cmp opW_cmp op_gt (pw_var 2) pw_int (nomark _)) (pww_and (pwt_cmp opW_eq (op_eqA hr.units) (pw_ix (pw_ix (pw_var 3) (pw_callB calW_min2 (call_min2 rfl) bl.min (paw_cons (pw_var 5) (paw_cons (pw_op opW_sub op_sub (pw_var 2) pw_int) paw_nil)))) pw_int) pw_str (nomark _)) (pww_and1 (pwt_cmp opW_cmp op_gt (pw_call F__law_draw (hr.mono (by decide)) m__law_draw k__law_draw b__law_draw .nil (fun _ _ => .nil) (par_nm 0 (par_dat pw_int par_nil))) pw_int (nomark _)))))) (pwss_one (pws_set 6 S.nd (pw_ix (pw_ix (pw_var 3) (pw_callB calW_min2 (call_min2 rfl) bl.min (paw_cons (pw_var 5) (paw_cons (pw_op opW_sub op_sub (pw_var 2) pw_int) paw_nil)))) pw_int))) pwss_nil)
      (pwss_cons (pws_set 4 S.nd (pw_op opW_add op_addA (pw_var 4) (pw_lst (paw_cons (pw_tup (paw_cons pw_str (paw_cons (pw_var 5) paw_nil))) (paw_cons (pw_tup (paw_cons pw_str (paw_cons (pw_tup (paw_cons (pw_tup (paw_cons (pw_var 6) (paw_cons (pw_var 7) (paw_cons (pw_var 5) paw_nil)))) paw_nil)) paw_nil))) paw_nil)))))
      (pwss_cons (pws_set 4 S.nd (pw_op opW_add op_addA (pw_var 4) (pw_lst (paw_cons (pw_tup (paw_cons pw_str (paw_cons (pw_tup (paw_cons (pw_tup (paw_cons (pw_var 6) (paw_cons pw_int (paw_cons (pw_var 5) paw_nil)))) (paw_cons (pw_tup (paw_cons (pw_var 6) (paw_cons (pw_var 7) (paw_cons (pw_var 5) paw_nil)))) (paw_cons (pw_tupC (pwc_cons pw_int (pwc_cons pw_int (pwc_cons pw_non pwc_nil)))) paw_nil)))) paw_nil))) paw_nil))))
      (pwss_cons (pws_for hp rfl (pwi_tup (pw_tupC (pwc_cons pw_str (pwc_cons pw_str pwc_nil)))) (pwg_name 8 S.nd) (pwss_cons (pws_set 4 S.nd (pw_op opW_add op_addA (pw_var 4) (pw_lst (paw_cons (pw_tup (paw_cons pw_str (paw_cons pw_str (paw_cons (pw_var 8) (paw_cons (pw_var 6) (paw_cons (pw_var 7) (paw_cons (pw_tup (paw_cons (pw_tup (paw_cons (pw_var 6) (paw_cons (pw_var 7) (paw_cons (pw_var 5) paw_nil)))) paw_nil)) paw_nil))))))) paw_nil))))
      (pwss_cons (pws_set 4 S.nd (pw_op opW_add op_addA (pw_var 4) (pw_lst (paw_cons (pw_tup (paw_cons pw_str (paw_cons pw_str (paw_cons (pw_var 8) (paw_cons pw_int (paw_cons pw_int (paw_cons (pw_tup (paw_cons (pw_tup (paw_cons (pw_var 6) (paw_cons pw_int (paw_cons (pw_var 5) paw_nil)))) paw_nil)) paw_nil))))))) paw_nil))))
      (pwss_cons (pws_set 4 S.nd (pw_op opW_add op_addA (pw_var 4) (pw_lst (paw_cons (pw_tup (paw_cons pw_str (paw_cons pw_str (paw_cons (pw_var 8) (paw_cons pw_int (paw_cons (pw_var 7) (paw_cons (pw_tupC (pwc_cons (pw_tupC (pwc_cons pw_int (pwc_cons pw_int (pwc_cons pw_non pwc_nil)))) (pwc_cons (pw_tupC (pwc_cons pw_int (pwc_cons pw_int (pwc_cons pw_non pwc_nil)))) pwc_nil))) paw_nil))))))) paw_nil))))
      (pwss_one (pws_set 4 S.nd (pw_op opW_add op_addA (pw_var 4) (pw_lst (paw_cons (pw_tup (paw_cons pw_str (paw_cons pw_str (paw_cons (pw_var 8) (paw_cons pw_int (paw_cons pw_int (paw_cons (pw_tupC pwc_nil) paw_nil))))))) paw_nil)))))))))
      (pwss_cons (pws_set 4 S.nd (pw_op opW_add op_addA (pw_var 4) (pw_lst (paw_cons (pw_tup (paw_cons pw_str (paw_cons (pw_var 6) (paw_cons (pw_tup (paw_cons (pw_tup (paw_cons (pw_var 5) (paw_cons (pw_var 7) paw_nil))) paw_nil)) paw_nil)))) (paw_cons (pw_tup (paw_cons pw_str (paw_cons (pw_var 6) (paw_cons (pw_tupC pwc_nil) paw_nil)))) paw_nil)))))
      (pwss_one (pws_ret (pw_op opW_add op_addA (pw_var 4) (pw_lst (paw_cons (pw_tup (paw_cons pw_str (paw_cons pw_int (paw_cons (pw_callTy calW_tuple call_tuple_of bl.tuple (paw_cons (pw_lc [("_law_m", 9)] rfl S.nd (pwi_tup (pw_call F_orders_of (hr.mono (by decide)) m_orders_of k_orders_of b_orders_of .nil (fun _ _ => .nil) (par_dat (pw_var 1) par_nil))) (blkOk_by (by kernel_rfl)) (fun _ _ _ _ _ => (pwg_name 9 S.nd)) (fun _ _ _ _ _ => pwts_nil) (fun _ _ _ _ _ => (pw_tup (paw_cons (pw_var 9) (paw_cons pw_int paw_nil))))) paw_nil)) paw_nil)))) paw_nil)))))))))))))))) (fun sls c P h => ?data), hm, F.kp, F.bindsN fun _ _ _ _ _ _ us hl => match us, hl with | [_, _], _ => rfl⟩
  case len =>
    obtain ⟨x, rows, rfl, h⟩ := h
    rfl
  case data =>
    obtain ⟨x, rows, rfl, h⟩ := h
    obtain ⟨hg, hc, h⟩ := h
    have hz := hg.len
    have hL : LIM = 100000 := rfl
    refine seqW_gen fun K k1 k2 => ?_
    simp [rho0, recD, rowsT, listW]
    refine k1 _ _ ?_
    clear k1 k2
    refine seqW_gen fun K k1 k2 => ?_
    simp [↓bW_def, ↓rW_def, ↓gW_def, hL]
    refine ⟨rows, rfl, hg.gen, hg.sm, by omega, fun r1 c1 hc1 ho1 _ _ => ?_⟩
    simp [↓bW_def, ↓rW_def, ↓gW_def, hL]
    refine ⟨rows, rfl, hg.gen, hg.sm, by omega, fun r2 c2 hc2 ho2 _ _ => ?_⟩
    simp [↓bW_def, ↓rW_def, ↓gW_def, hL]
    refine k1 _ _ ?_
    clear k1 k2
    refine seqW_gen fun K k1 k2 => ?_
    simp [↓bW_def, ↓rW_def, ↓gW_def, hL]
    refine k1 _ _ ?_
    clear k1 k2
    refine seqW_gen fun K k1 k2 => ?_
    simp [↓bW_def, ↓rW_def, ↓gW_def, hL]
    refine use_draw (by omega) (by omega) (by omega) fun n hn => ?_
    simp
    refine use_draw (by omega) (by omega) (by omega) fun r3 hr3 => ?_
    simp
    refine use_draw (by omega) (by omega) (by omega) fun r4 hr4 => ?_
    simp
    refine k1 _ _ ?_
    clear k1 k2
    refine seqW_gen fun K k1 k2 => ?_
    have tail : ∀ (price : Int) (c' : Nat), 1 ≤ price → c' ≤ c2 + 4 → K (.nx [.rd, .dat (.tuple [.str x, .tuple (rows.map rowD)]), .dat (.int rows.length), .dat (.list (rows.map rowD)), .dat (.list (List.map rowD [r1, r2, .closed, .call none [], .prints []])), .dat (.int n), .dat (.int price), .dat (.int (1 + (r4 : Int))), .no, .no]) c' := fun price c' hp hc' => by
      refine k1 _ _ ?_
      clear k1 k2
      have hcs : Cs 5 [r1, r2, .closed, .call none [], .prints []] := ⟨fun r hr => by
        simp at hr
        rcases hr with rfl | rfl | rfl | rfl | rfl
        · exact ho1
        · exact ho2
        · trivial
        · exact ⟨⟨by simp, by simp, List.Pairwise.nil⟩, rfl⟩
        · exact no_fill, by simp⟩
      generalize ([r1, r2, .closed, .call none [], .prints []] : List Row) = cs at hcs ⊢
      have hz4 : (1 : Int) ≤ 1 + (r4 : Int) := by omega
      refine seqW_gen fun K k1 k2 => ?_
      simp [↓bW_def, ↓rW_def, ↓gW_def, hL]
      refine ⟨by have := hcs.len; omega, k1 _ _ ?_⟩
      clear k1 k2
      have e : List.map rowD cs ++ [PyData.tuple [.str (Str.ofString "cancel"), .int (n : Int)], PyData.tuple [.str (Str.ofString "prints"), PyData.tuple [PyData.tuple [.int price, .int (1 + (r4 : Int)), .int (n : Int)]]]] = List.map rowD (cs ++ [.cancel n, .prints [⟨price, 1 + (r4 : Int), some n⟩]]) := by simp [rowD, fillsD, fillD, nD, pairsD, pairD, priceD]
      rw [e]
      have hcs := hcs.add (new := [.cancel n, .prints [⟨price, 1 + (r4 : Int), some n⟩]]) (by intro r hr; simp at hr; rcases hr with rfl | rfl <;> first | trivial | exact one_fill hp hz4) (7) (by simp)
      clear e
      generalize cs ++ [.cancel n, .prints [⟨price, 1 + (r4 : Int), some n⟩]] = cs at hcs ⊢
      refine seqW_gen fun K k1 k2 => ?_
      simp [↓bW_def, ↓rW_def, ↓gW_def, hL]
      refine ⟨by have := hcs.len; omega, k1 _ _ ?_⟩
      clear k1 k2
      have e : List.map rowD cs ++ [PyData.tuple [.str (Str.ofString "prints"), PyData.tuple [PyData.tuple [.int price, .int 1, .int (n : Int)], PyData.tuple [.int price, .int (1 + (r4 : Int)), .int (n : Int)], PyData.tuple [.int 7, .int 9, .none]]]] = List.map rowD (cs ++ [.prints [⟨price, 1, some n⟩, ⟨price, 1 + (r4 : Int), some n⟩, ⟨7, 9, none⟩]]) := by simp [rowD, fillsD, fillD, nD, pairsD, pairD, priceD]
      rw [e]
      have hcs := hcs.add (new := [.prints [⟨price, 1, some n⟩, ⟨price, 1 + (r4 : Int), some n⟩, ⟨7, 9, none⟩]]) (by intro r hr; simp at hr; subst hr; exact ⟨by simp, fun f hf => by simp at hf; rcases hf with rfl | rfl | rfl <;> exact ⟨by dsimp only; omega, by dsimp only; omega⟩⟩) (8) (by simp)
      clear e
      generalize cs ++ [.prints [⟨price, 1, some n⟩, ⟨price, 1 + (r4 : Int), some n⟩, ⟨7, 9, none⟩]] = cs at hcs ⊢
      refine seqW_gen fun K k1 k2 => ?_
      simp
      have eb : [PyData.str (Str.ofString "buy"), PyData.str (Str.ofString "sell")] = [true, false].map sideD := rfl
      rw [eb]
      refine forG_map sideD (fun k ρ c1 => c1 = c' ∧ ∃ cs a, ρ = [.rd, .dat (.tuple [.str x, .tuple (rows.map rowD)]), .dat (.int rows.length), .dat (.list (rows.map rowD)), .dat (.list (List.map rowD cs)), .dat (.int n), .dat (.int price), .dat (.int (1 + (r4 : Int))), a, .no] ∧ Cs (8 + 4 * k) cs) [true, false] (fun k b hk ρ c1 Q hI q1 q2 => ?_) ⟨rfl, cs, _, rfl, hcs⟩ (fun ρ c1 hI => ?_)
      · clear k1 k2
        obtain ⟨rfl, cs, a, rfl, hcs⟩ := hI
        have hk2 : k < 2 := by have := (List.getElem?_eq_some_iff.mp hk).1; simpa using this
        simp only [gNm_def, rW_def]
        refine seqW_gen fun K k1 k2 => ?_
        simp [↓bW_def, ↓rW_def, ↓gW_def, hL]
        refine ⟨by have := hcs.len; omega, k1 _ _ ?_⟩
        clear k1 k2
        have e : List.map rowD cs ++ [PyData.tuple [.str (Str.ofString "order"), .str (Str.ofString "bob"), sideD b, .int price, .int (1 + (r4 : Int)), PyData.tuple [PyData.tuple [.int price, .int (1 + (r4 : Int)), .int (n : Int)]]]] = List.map rowD (cs ++ [.order (Str.ofString "bob") b price (1 + (r4 : Int)) [⟨price, 1 + (r4 : Int), some n⟩]]) := by simp [rowD, fillsD, fillD, nD, pairsD, pairD, priceD]
        rw [e]
        have hcs := hcs.add (new := [.order (Str.ofString "bob") b price (1 + (r4 : Int)) [⟨price, 1 + (r4 : Int), some n⟩]]) (by intro r hr; simp at hr; subst hr; exact ⟨name_bob, hp, hz4, one_fill hp hz4⟩) (8 + 4 * k + 1) (by simp)
        clear e
        generalize cs ++ [.order (Str.ofString "bob") b price (1 + (r4 : Int)) [⟨price, 1 + (r4 : Int), some n⟩]] = cs at hcs ⊢
        refine seqW_gen fun K k1 k2 => ?_
        simp [↓bW_def, ↓rW_def, ↓gW_def, hL]
        refine ⟨by have := hcs.len; omega, k1 _ _ ?_⟩
        clear k1 k2
        have e : List.map rowD cs ++ [PyData.tuple [.str (Str.ofString "order"), .str (Str.ofString "dee"), sideD b, .int 10, .int 3, PyData.tuple [PyData.tuple [.int price, .int 1, .int (n : Int)]]]] = List.map rowD (cs ++ [.order (Str.ofString "dee") b 10 3 [⟨price, 1, some n⟩]]) := by simp [rowD, fillsD, fillD, nD, pairsD, pairD, priceD]
        rw [e]
        have hcs := hcs.add (new := [.order (Str.ofString "dee") b 10 3 [⟨price, 1, some n⟩]]) (by intro r hr; simp at hr; subst hr; exact ⟨name_dee, by omega, by omega, one_fill hp (by omega)⟩) (8 + 4 * k + 1 + 1) (by simp)
        clear e
        generalize cs ++ [.order (Str.ofString "dee") b 10 3 [⟨price, 1, some n⟩]] = cs at hcs ⊢
        refine seqW_gen fun K k1 k2 => ?_
        simp [↓bW_def, ↓rW_def, ↓gW_def, hL]
        refine ⟨by have := hcs.len; omega, k1 _ _ ?_⟩
        clear k1 k2
        have e : List.map rowD cs ++ [PyData.tuple [.str (Str.ofString "order"), .str (Str.ofString "ann"), sideD b, .int 10, .int (1 + (r4 : Int)), PyData.tuple [PyData.tuple [.int 10, .int 1, .none], PyData.tuple [.int 10, .int 2, .none]]]] = List.map rowD (cs ++ [.order (Str.ofString "ann") b 10 (1 + (r4 : Int)) [⟨10, 1, none⟩, ⟨10, 2, none⟩]]) := by simp [rowD, fillsD, fillD, nD, pairsD, pairD, priceD]
        rw [e]
        have hcs := hcs.add (new := [.order (Str.ofString "ann") b 10 (1 + (r4 : Int)) [⟨10, 1, none⟩, ⟨10, 2, none⟩]]) (by intro r hr; simp at hr; subst hr; exact ⟨name_ann, by omega, hz4, by simp, fun f hf => by simp at hf; rcases hf with rfl | rfl <;> exact ⟨by dsimp only; omega, by dsimp only; omega⟩⟩) (8 + 4 * k + 1 + 1 + 1) (by simp)
        clear e
        generalize cs ++ [.order (Str.ofString "ann") b 10 (1 + (r4 : Int)) [⟨10, 1, none⟩, ⟨10, 2, none⟩]] = cs at hcs ⊢
        simp [↓bW_def, ↓rW_def, ↓gW_def, hL]
        refine ⟨by have := hcs.len; omega, q1 _ _ ⟨rfl, cs ++ [.order (Str.ofString "ann") b 9 2 []], _, by simp [rowD, fillsD]; rfl, hcs.add (by intro r hr; simp at hr; subst hr; exact ⟨name_ann, by omega, by omega, no_fill⟩) _ (by simp; omega)⟩⟩
      · obtain ⟨rfl, cs, a, rfl, hcs⟩ := hI
        refine k1 _ _ ?_
        clear k1 k2
        have hcs : Cs 16 cs := hcs
        refine seqW_gen fun K k1 k2 => ?_
        simp [↓bW_def, ↓rW_def, ↓gW_def, hL]
        refine ⟨by have := hcs.len; omega, k1 _ _ ?_⟩
        clear k1 k2
        have e : List.map rowD cs ++ [PyData.tuple [.str (Str.ofString "call"), .int price, PyData.tuple [PyData.tuple [.int (n : Int), .int (1 + (r4 : Int))]]], PyData.tuple [.str (Str.ofString "call"), .int price, PyData.tuple []]] = List.map rowD (cs ++ [.call (some price) [(n, 1 + (r4 : Int))], .call (some price) []]) := by simp [rowD, fillsD, fillD, nD, pairsD, pairD, priceD]
        rw [e]
        have hcs := hcs.add (new := [.call (some price) [(n, 1 + (r4 : Int))], .call (some price) []]) (by intro r hr; simp at hr; rcases hr with rfl | rfl <;> exact ⟨⟨by simp, by simp <;> omega, by simp⟩, hp⟩) (18) (by simp)
        clear e
        generalize cs ++ [.call (some price) [(n, 1 + (r4 : Int))], .call (some price) []] = cs at hcs ⊢
        have hol := orders_len rows
        simp [↓bW_def, ↓rW_def, ↓gW_def, lcD, hL]
        refine ⟨x, rows, rfl, hg.ok, ?_⟩
        simp [natsD]
        refine ⟨by omega, ?_⟩
        refine lcG_mp (fun m : Nat => PyData.int (m : Int)) (fun m : Nat => pairD (m, 1)) (ordersP rows) (fun m hm c Q hQ => ?_) ?_
        · simpa [pairD] using hQ
        have hinc := orders_inc rows
        simp
        refine ⟨by have := hcs.len; omega, ?_⟩
        have hf := h (cs ++ [.call (some 10) ((ordersP rows).map fun m => (m, 1))]) c1 (by omega) (hcs.add (by
          intro r hr
          simp at hr
          subst hr
          exact ⟨⟨by simp; omega, by simp, by rw [List.pairwise_map]; exact hinc⟩, by dsimp only; omega⟩) _ (by simp))
        simpa [rowD, pairsD, priceD, Function.comp_def] using hf
    simp
    have done : ∀ (price : Int) (c' : Nat), 1 ≤ price → c' ≤ c2 + 4 → K (.nx [.rd, .dat (.tuple [.str x, .tuple (rows.map rowD)]), .dat (.int rows.length), .dat (.list (rows.map rowD)), .dat (.list [rowD r1, rowD r2, .tuple [.str (Str.ofString "closed")], .tuple [.str (Str.ofString "call"), .none, .tuple []], .tuple [.str (Str.ofString "prints"), .tuple []]]), .dat (.int n), .dat (.int price), .dat (.int (1 + (r4 : Int))), .no, .no]) c' := fun price c' h1 h2 => by
      have t := tail price c' h1 h2
      simpa [rowD, fillsD, pairsD, priceD] using t
    clear tail
    by_cases hm : 0 < rows.length
    · have hj : ∃ j : Nat, (if (rows.length : Int) - 1 < (n : Int) then (rows.length : Int) - 1 else (n : Int)) = (j : Int) ∧ j < rows.length := by
        split
        · exact ⟨rows.length - 1, by omega, by omega⟩
        · exact ⟨n, rfl, by omega⟩
      obtain ⟨j, ej, hj⟩ := hj
      rw [if_pos hm, ej]
      have hr : rows[j]? = some rows[j] := List.getElem?_eq_getElem hj
      have hro := hg.ok.2 _ (List.getElem_mem hj)
      generalize rows[j] = row at hr hro
      simp [atI_map (enc := rowD) hr, ixW_row0]
      cases row with
      | order m b p s fs =>
        simp [isOrd, rowD]
        refine use_draw (by omega) (by omega) (by omega) fun r5 hr5 => ?_
        simp
        by_cases h5 : 0 < r5
        · simp [h5]
          exact done p _ hro.2.1 (by omega)
        · simp [h5]
          exact done _ _ (by omega) (by omega)
      | _ =>
        simp [isOrd]
        exact done _ _ (by omega) (by omega)
    · rw [if_neg hm]
      exact done _ _ (by omega) (by omega)
end
end FK
set_option Elab.async false
set_option linter.all false
set_option maxRecDepth 100000
set_option maxHeartbeats 4000000
/-! Defs as promises: what the law takes to follow. (Printed by gen2.py from spec4.py.) -/
namespace FK
open PySem PySem.Spec L2
/-- u: lots of the order n used by the fills ahead -/
def canFillP (rows : List Row) (u : Nat → Int) (f : Fill) : Bool := match f.n with
  | none => true
  | some n => (openP rows [] n && !decide (restP rows [] n ≤ u n)) && (decide (priceAt rows n = f.p) && decide (f.s ≤ restP rows [] n - u n))
def useOf (kvs : List (Option Int × Int)) (n : Nat) : Int := (getOI kvs (some (n : Int))).getD 0
abbrev g__law_can_fill : Gs := fun sls c P => ∃ (x : Str) (rows : List Row) (f : Fill) (kvs : List (Option Int × Int)), sls = [.dat (recD x rows), .dat (fillD f), .dic false kvs] ∧ Good rows ∧ P (.rt (.bool (canFillP rows (useOf kvs) f))) c
theorem use_open {x : Str} {rows : List Row} (hok : rowsOk rows) {c : Nat} {P : Out → Nat → Prop} {t : Nat} (ht : t ≤ rows.length) (h : P (.rt (.tuple (natsD ((ordersP rows).filter fun n => openP (rows.take t) [] n)))) c) : g_open_at [.dat (recD x rows), .dat (.int t), .dat (.int 0)] c P := ⟨x, rows, t, rfl, hok, ht, h⟩
theorem mem_open {rows : List Row} {n : Nat} : n ∈ (ordersP rows).filter (fun n => openP rows [] n) ↔ openP rows [] n = true := by
  rw [List.mem_filter]
  exact ⟨fun h => h.2, fun h => ⟨mem_orders.mpr (openP_ord' h), h⟩⟩
theorem restP_nil (rows : List Row) (n : Nat) : sizeAt rows n - sold rows n = restP rows [] n := by
  unfold restP
  rw [fillSum_nil, Int.add_zero]
section
variable {P : Program} {w : World} {K : PySem.W.Frag} {mg : Str → Option Value} {base : Heap} {C : Addr} {f : Addr} {fd : FuncData}
theorem ok__law_can_fill (bl : Bl mg) (cn : Cn K mg) (h_open_at : HasD P w K mg base C "open_at" 5 ["record", "t", "i"] g_open_at) (h_order_at : Has P w K mg base C "order_at" 4 ["record", "n"] g_order_at) (h_rest_at : HasD P w K mg base C "rest_at" 5 ["record", "n", "t", "i"] g_rest_at) (F : FunD K "_law_can_fill" "_law_can_fill" (defArgs s__law_can_fill) (defBody s__law_can_fill) (defScope s__law_can_fill) [] [] f fd) (hm : mg "_law_can_fill" = some (.ref f)) : Has P w K mg base C "_law_can_fill" 6 ["_law_good", "_law_fill", "_law_used"] g__law_can_fill := by
  obtain ⟨f_open_at, fd_open_at, d_x, F_open_at, m_open_at, k_open_at, b_open_at, d_open_at, v_open_at⟩ := h_open_at
  obtain ⟨f_order_at, fd_order_at, F_order_at, m_order_at, k_order_at, b_order_at⟩ := h_order_at
  obtain ⟨f_rest_at, fd_rest_at, d_x, F_rest_at, m_rest_at, k_rest_at, b_rest_at, d_rest_at, v_rest_at⟩ := h_rest_at
  have S : FnScope ["_law_good", "_law_fill", "_law_used", "_law_price", "_law_size", "_law_n", "_law_many"] ["_law_good", "_law_fill", "_law_used"] (defScope s__law_can_fill) := ⟨rfl, rfl, rfl, by decide +kernel, rfl, by decide +kernel, by decide +kernel⟩
  refine ⟨f, fd, fn_w F S (fun sls c P h => ?len) (fun cdv A outer s H E r hr => have hu := hu_of' hr; ((pwss_cons (pws_asg (pw_var 1) (pwg_tup 3 rfl (pwgs_cons (pwg_name 3 S.nd) (pwgs_cons (pwg_name 4 S.nd) (pwgs_cons (pwg_name 5 S.nd) pwgs_nil)))))
      (pwss_cons (pws_if (pwt_cmp opW_is op_isN (pw_var 5) pw_non (nomark _)) (pwss_one (pws_ret pw_bl)) pwss_nil)
      (pwss_cons (pws_set 6 S.nd (pw_callB calW_len call_len bl.len (paw_cons (pw_ix (pw_var 0) pw_int) paw_nil)))
      (pwss_cons (pws_if (PW.pt (pww_or (pwt_cmp opW_notIn (op_notInA hu) (pw_var 5) (pw_call (dsl := [.dat (.int 0)]) F_open_at (hr.mono (by decide)) m_open_at k_open_at v_open_at d_open_at (fun _ _ => .cons (DX.int 0) .nil) (par_dat (pw_var 0) (par_dat (pw_var 6) par_nil))) (by with_unfolding_all rfl)) (pww_or1 (pwt_cmp opW_cmp op_ge (pw_dget 2 (pw_var 5) pw_int) (pw_call (dsl := [.dat (.int 0)]) F_rest_at (hr.mono (by decide)) m_rest_at k_rest_at v_rest_at d_rest_at (fun _ _ => .cons (DX.int 0) .nil) (par_dat (pw_var 0) (par_dat (pw_var 5) (par_dat (pw_var 6) par_nil)))) (nomark _))))) (pwss_one (pws_ret pw_bl)) pwss_nil)
      (pwss_one (pws_ret (pw_and (pw_cmp opW_eq (op_eqA hr.units) (pw_ix (pw_call F_order_at (hr.mono (by decide)) m_order_at k_order_at b_order_at .nil (fun _ _ => .nil) (par_dat (pw_var 0) (par_dat (pw_var 5) par_nil))) pw_int) (pw_var 3) (nomark _)) (pw_one (pw_cmp opW_cmp op_le (pw_var 4) (pw_op opW_sub op_sub (pw_call (dsl := [.dat (.int 0)]) F_rest_at (hr.mono (by decide)) m_rest_at k_rest_at v_rest_at d_rest_at (fun _ _ => .cons (DX.int 0) .nil) (par_dat (pw_var 0) (par_dat (pw_var 5) (par_dat (pw_var 6) par_nil)))) (pw_dget 2 (pw_var 5) pw_int)) (nomark _)))))))))))) (fun sls c P h => ?data), hm, F.kp, F.bindsN fun _ _ _ _ _ _ us hl => match us, hl with | [_, _, _], _ => rfl⟩
  case len =>
    obtain ⟨x, rows, f, kvs, rfl, h⟩ := h
    rfl
  case data =>
    obtain ⟨x, rows, f, kvs, rfl, h⟩ := h
    obtain ⟨hg, h⟩ := h
    have hL : LIM = 100000 := rfl
    obtain ⟨p, z, m⟩ := f
    refine seqW_gen fun K k1 k2 => ?_
    simp [rho0, fillD]
    refine k1 _ _ ?_
    clear k1 k2
    refine seqW_gen fun K k1 k2 => ?_
    cases m with
    | none =>
      simp [nD]
      exact k2 (.rt _) _ (by simp) h
    | some n =>
      simp [nD]
      refine k1 _ _ ?_
      clear k1 k2
      refine seqW_gen fun K k1 k2 => ?_
      simp [recD, rowsT]
      refine k1 _ _ ?_
      clear k1 k2
      refine seqW_gen fun K k1 k2 => ?_
      refine ifW_gen fun T t1 t2 => ?_
      simp
      refine ⟨x, rows, rows.length, rfl, hg.ok, Nat.le_refl _, ?_⟩
      rw [List.take_length]
      simp
      refine ⟨⟨(PL.int _).shaped (by decide), (PL.nats _).shaped (by decide)⟩, ?_⟩
      rw [any_nat]
      cases ho : openP rows [] n with
      | false =>
        rw [decide_eq_false (fun z => by rw [mem_open.mp z] at ho; cases ho)]
        simp
        refine t1 _ ?_
        simp
        refine k2 (.rt _) _ (by simp) ?_
        have e : canFillP rows (useOf kvs) ⟨p, z, some n⟩ = false := by simp [canFillP, ho]
        rw [e] at h
        exact h
      | true =>
        have hord := openP_ord' ho
        obtain ⟨m', fs', hr⟩ := rowAt hord
        rw [decide_eq_true (mem_open.mpr ho)]
        simp
        refine ⟨x, rows, n, rows.length, rfl, hg.ok, Nat.le_refl _, hord, ?_⟩
        rw [List.take_length, restP_nil]
        simp
        have eu : (getOI kvs (some (n : Int))).getD 0 = useOf kvs n := rfl
        rw [eu]
        by_cases e : restP rows [] n ≤ useOf kvs n
        · simp [e]
          refine t1 _ ?_
          simp
          refine k2 (.rt _) _ (by simp) ?_
          have e : canFillP rows (useOf kvs) ⟨p, z, some n⟩ = false := by simp [canFillP, e]
          rw [e] at h
          exact h
        · simp [e]
          refine t2 _ ?_
          simp
          refine k1 _ _ ?_
          clear k1 k2 t1 t2
          have ec : canFillP rows (useOf kvs) ⟨p, z, some n⟩ = (decide (priceAt rows n = p) && decide (z ≤ restP rows [] n - useOf kvs n)) := by simp [canFillP, ho, e]
          rw [ec] at h
          simp
          refine ⟨x, rows, n, m', sideAt rows n, priceAt rows n, sizeAt rows n, fs', rfl, hg.ok, hr, ?_⟩
          simp
          by_cases e2 : priceAt rows n = p
          · simp [e2]
            refine ⟨x, rows, n, rows.length, rfl, hg.ok, Nat.le_refl _, hord, ?_⟩
            rw [List.take_length, restP_nil]
            simp
            rw [eu]
            simpa [e2] using h
          · simp [e2]
            simpa [e2] using h
end
end FK
set_option Elab.async false
set_option linter.all false
set_option maxRecDepth 100000
set_option maxHeartbeats 4000000
/-! Def as promise: _law_can_follow. (Printed by gen2.py from spec5.py.) -/
namespace FK
open PySem PySem.Spec L2
section
variable {X : Cx} {dl : DicL} {r : Option Addr}
theorem pt_ite {t a b : Expr} {pos : Pos} {tt ta tb : TT} (ht : PT X t tt) (ha : PT X a ta) (hb : PT X b tb) : PT X (.IfExp t a b pos) (fun σ H Q => tt σ H fun k H1 => if k = true then ta σ H1 Q else tb σ H1 Q) := by
  refine ⟨fun pins s σ H Q I h => ?_⟩
  show wpAny _ _ (do if ← isTrue t X.env (eval t X.env) then isTrue a X.env (eval a X.env) else isTrue b X.env (eval b X.env)) _ _ s
  refine wpAny_bind (thn (ht.run pins s σ H _ I h) fun k s1 ⟨H1, I1, q1⟩ => ?_)
  cases k with
  | true => exact ha.run pins s1 σ H1 Q I1 q1
  | false => exact hb.run pins s1 σ H1 Q I1 q1
theorem pwt_ite {t a b : Expr} {pos : Pos} {ft fa fb : Rho → W Bool} (ht : PT X t (tWT dl r ft)) (ha : PT X a (tWT dl r fa)) (hb : PT X b (tWT dl r fb)) : PT X (.IfExp t a b pos) (tWT dl r fun ρ => bW (ft ρ) fun k => if k = true then fa ρ else fb ρ) :=
  PT.imp (pt_ite ht ha hb) fun σ H Q ⟨A0, B, ρ, c, P, E, hp, q⟩ => ⟨A0, B, ρ, c, _, E, hp, fun k c1 H1 p1 e1 rd1 => by
    have go : ∀ f : Rho → W Bool, f ρ c1 P → tWT dl r f σ H1 Q := fun f hf => ⟨A0, B, ρ, c1, P, E.ext e1 rd1, hf, fun b c2 H2 p2 e2 rd2 => q b c2 H2 p2 (e1.trans e2) rd2⟩
    cases k with
    | true => exact iteT (go fa p1)
    | false => exact iteF (go fb p1)⟩
end
theorem fillSum_snoc {t n : Nat} {fs : List Fill} {f : Fill} (h : t ≠ n) : fillSum t n (fs ++ [f]) = fillSum t n fs + if f.n = some n then f.s else 0 := by
  rw [fillSum_append, fillSum_cons, fillSum_nil]
  simp [h]
/-- what the law asks of a fill behind the fills prior -/
def lawFill (rows : List Row) (row : Row) (prior : List Fill) (f : Fill) : Bool := canFillP rows (fun n => fillSum rows.length n prior) f && match row with
  | .order _ b p _ _ => withinP b p f.p && nOk f.n fun n => !decide (sideAt rows n = b)
  | _ => true
abbrev g__law_can_follow : Gs := fun sls c P => ∃ (x : Str) (rows : List Row) (row : Row), sls = [.dat (recD x rows), .dat (rowD row)] ∧ Good rows ∧ rowOk row ∧ P (.rt (.bool (stepOk rows row))) c
theorem prior_fill {rows : List Row} {prior : List Fill} {n : Nat} (hp : ∀ f ∈ prior, fillOk f) : openP rows prior n = (openP rows [] n && !decide (restP rows [] n ≤ fillSum rows.length n prior)) := by
  have h0 := fillSum_nn (t := rows.length) (n := n) hp
  have e : restP rows prior n = restP rows [] n - fillSum rows.length n prior := by
    unfold restP
    rw [fillSum_nil]
    omega
  unfold openP
  rw [e]
  cases ordAt rows n <;> cases rows.contains (.cancel n) <;> simp
  by_cases h : restP rows [] n ≤ fillSum rows.length n prior
  · have h2 : ¬ 0 < restP rows [] n - fillSum rows.length n prior := by omega
    have h3 : ¬ fillSum rows.length n prior < restP rows [] n := by omega
    simp [h2, h3, h]
  · have h2 : 0 < restP rows [] n - fillSum rows.length n prior := by omega
    have h3 : fillSum rows.length n prior < restP rows [] n := by omega
    have h4 : 0 < restP rows [] n := by omega
    simp [h2, h3, h4]
theorem prior_rest {rows : List Row} {prior : List Fill} {n : Nat} : restP rows prior n = restP rows [] n - fillSum rows.length n prior := by
  unfold restP
  rw [fillSum_nil]
  omega
theorem lawFill_print {rows : List Row} {gs prior : List Fill} {f : Fill} (hp : ∀ f ∈ prior, fillOk f) : lawFill rows (.prints gs) prior f = printOk rows prior f := by
  obtain ⟨p, s, m⟩ := f
  cases m with
  | none => rfl
  | some n =>
    simp only [lawFill, canFillP, printOk, restingOk, nOk]
    rw [prior_fill hp, prior_rest (prior := prior)]
    simp
theorem lawFill_own {rows : List Row} {m : Str} {b : Bool} {p s : Int} {gs prior : List Fill} {f : Fill} (hp : ∀ f ∈ prior, fillOk f) : ownOk rows b p s prior f = (lawFill rows (.order m b p s gs) prior f && decide (f.s ≤ s - (prior.map (·.s)).sum)) := by
  obtain ⟨q, z, m⟩ := f
  cases m with
  | none => simp [lawFill, canFillP, ownOk, restingOk, nOk]
  | some n =>
    simp only [lawFill, canFillP, ownOk, restingOk, nOk]
    rw [prior_fill hp, prior_rest (prior := prior)]
    generalize decide (z ≤ restP rows [] n - fillSum rows.length n prior) = zz
    cases openP rows [] n <;> cases decide (restP rows [] n ≤ fillSum rows.length n prior) <;> cases decide (sideAt rows n = b) <;> cases decide (priceAt rows n = q) <;> cases withinP b p q <;> cases decide (z ≤ s - (prior.map (·.s)).sum) <;> cases zz <;> rfl
theorem take_sum {fs : List Fill} (h : ∀ f ∈ fs, fillOk f) (k : Nat) : ((fs.take k).map (·.s)).sum ≤ (fs.map (·.s)).sum := by
  have e : (fs.map (·.s)).sum = ((fs.take k).map (·.s)).sum + ((fs.drop k).map (·.s)).sum := by
    rw [← List.sum_append, ← List.map_append, List.take_append_drop]
  have h0 : 0 ≤ ((fs.drop k).map (·.s)).sum := sum_nn fun x hx => by
    obtain ⟨f, hf, rfl⟩ := List.mem_map.mp hx
    have := (h f (List.mem_of_mem_drop hf)).s
    omega
  omega
theorem own_all {rows : List Row} {m : Str} {b : Bool} {p s : Int} {gs fs : List Fill} (h : ∀ f ∈ fs, fillOk f) (hs : 1 ≤ s) : atAll (ownOk rows b p s) fs = (atAll (lawFill rows (.order m b p s gs)) fs && decide ((fs.map (·.s)).sum ≤ s)) := by
  rw [Bool.eq_iff_iff, Bool.and_eq_true, decide_eq_true_eq, atAll_iff, atAll_iff]
  constructor
  · intro q
    refine ⟨fun j f hj => ?_, ?_⟩
    · have := q j f hj
      rw [lawFill_own (m := m) (gs := gs) fun g hg => h g (List.mem_of_mem_take hg), Bool.and_eq_true] at this
      exact this.1
    · by_cases e : fs.length = 0
      · rw [List.length_eq_zero_iff.mp e]
        simp
        omega
      · have hj : fs[fs.length - 1]? = some fs[fs.length - 1] := List.getElem?_eq_getElem (by omega)
        have := q _ _ hj
        rw [lawFill_own (m := m) (gs := gs) fun g hg => h g (List.mem_of_mem_take hg), Bool.and_eq_true, decide_eq_true_eq] at this
        have e2 : fs.map (·.s) = (fs.take (fs.length - 1)).map (·.s) ++ [fs[fs.length - 1].s] := by
          have e3 : fs = fs.take (fs.length - 1) ++ [fs[fs.length - 1]] := by
            have := List.take_add_one (l := fs) (i := fs.length - 1)
            rw [hj, show fs.length - 1 + 1 = fs.length by omega, List.take_length] at this
            exact this
          conv => lhs; rw [e3]
          rw [List.map_append]
          rfl
        rw [e2, List.sum_append, List.sum_singleton]
        omega
  · rintro ⟨q, hsum⟩ j f hj
    rw [lawFill_own (m := m) (gs := gs) fun g hg => h g (List.mem_of_mem_take hg), Bool.and_eq_true, decide_eq_true_eq]
    refine ⟨q j f hj, ?_⟩
    have := take_sum h (j + 1)
    rw [List.take_add_one, hj, List.map_append, List.sum_append, Option.toList_some, List.map_singleton, List.sum_singleton] at this
    omega
theorem canFill_congr {rows : List Row} {u v : Nat → Int} {f : Fill} (h : ∀ n < rows.length, u n = v n) : canFillP rows u f = canFillP rows v f := by
  obtain ⟨p, s, m⟩ := f
  cases m with
  | none => rfl
  | some n =>
    by_cases hn : n < rows.length
    · simp [canFillP, h n hn]
    · have ho : openP rows [] n = false := by
        cases q : openP rows [] n with
        | false => rfl
        | true => exact absurd (openP_lt q) hn
      simp [canFillP, ho]
theorem bad_all {ok : List Fill → Fill → Bool} {fs : List Fill} {j : Nat} {f : Fill} (hj : fs[j]? = some f) (h : ok (fs.take j) f = false) : atAll ok fs = false := by
  cases q : atAll ok fs with
  | false => rfl
  | true =>
    have := atAll_iff.mp q j f hj
    rw [h] at this
    cases this
theorem bad_prints {rows : List Row} {fs : List Fill} {j : Nat} {f : Fill} (hf : ∀ f ∈ fs, fillOk f) (hj : fs[j]? = some f) (h : lawFill rows (.prints fs) (fs.take j) f = false) : stepOk rows (.prints fs) = false := by
  rw [lawFill_print fun g hg => hf g (List.mem_of_mem_take hg)] at h
  simp [stepOk, bodyOk, bad_all hj h]
theorem bad_order {rows : List Row} {m : Str} {b : Bool} {p s : Int} {fs : List Fill} {j : Nat} {f : Fill} (hs : 1 ≤ s) (hf : ∀ f ∈ fs, fillOk f) (hj : fs[j]? = some f) (h : lawFill rows (.order m b p s fs) (fs.take j) f = false) : stepOk rows (.order m b p s fs) = false := by
  simp [stepOk, bodyOk, own_all (m := m) (gs := fs) hf hs, bad_all hj h]
@[simp] theorem asK_nD (n : Option Nat) : asK (nD n) = rW (n.map fun m => (m : Int)) := by cases n <;> rfl
@[simp] theorem isNon_nD (n : Option Nat) : isNon (nD n) = n.isNone := by cases n <;> rfl
theorem use_put {rows : List Row} {kvs : List (Option Int × Int)} {prior : List Fill} {f : Fill} (hu : ∀ n < rows.length, useOf kvs n = fillSum rows.length n prior) :
    ∀ n < rows.length, useOf (putOI kvs (f.n.map fun m => (m : Int)) ((getOI kvs (f.n.map fun m => (m : Int))).getD 0 + f.s)) n = fillSum rows.length n (prior ++ [f]) := fun n hn => by
  have h := hu n hn
  unfold useOf at h ⊢
  rw [get_put, fillSum_snoc (by omega), ← h]
  obtain ⟨p, s, m⟩ := f
  cases m with
  | none => simp
  | some m =>
    by_cases e : n = m
    · subst e
      simp
    · have e2 : ¬ ((n : Int) = (m : Int)) := by omega
      have e3 : ¬ m = n := fun z => e z.symm
      simp [e2, e3]
theorem step_nocall {rows : List Row} {row : Row} (h1 : isClosed row = false) (h2 : isCall row = false) : stepOk rows row = ((!shutP rows || (fillsOf row).isEmpty) && bodyOk rows row) := by
  simp [stepOk, closedOk, h1, h2]
section
variable {P : Program} {w : World} {K : PySem.W.Frag} {mg : Str → Option Value} {base : Heap} {C : Addr} {f : Addr} {fd : FuncData}
theorem ok__law_can_follow (bl : Bl mg) (cn : Cn K mg) (h__law_can_fill : Has P w K mg base C "_law_can_fill" 6 ["_law_good", "_law_fill", "_law_used"] g__law_can_fill) (h__law_fills : Has P w K mg base C "_law_fills" 1 ["_law_row"] g__law_fills) (h_is_closed_at : Has P w K mg base C "is_closed_at" 5 ["record", "t"] g_is_closed_at) (h_open_at : HasD P w K mg base C "open_at" 5 ["record", "t", "i"] g_open_at) (h_order_at : Has P w K mg base C "order_at" 4 ["record", "n"] g_order_at) (h_rest_at : HasD P w K mg base C "rest_at" 5 ["record", "n", "t", "i"] g_rest_at) (F : FunD K "_law_can_follow" "_law_can_follow" (defArgs s__law_can_follow) (defBody s__law_can_follow) (defScope s__law_can_follow) [] [] f fd) (hm : mg "_law_can_follow" = some (.ref f)) : Has P w K mg base C "_law_can_follow" 7 ["_law_good", "_law_row"] g__law_can_follow := by
  obtain ⟨f__law_can_fill, fd__law_can_fill, F__law_can_fill, m__law_can_fill, k__law_can_fill, b__law_can_fill⟩ := h__law_can_fill
  obtain ⟨f__law_fills, fd__law_fills, F__law_fills, m__law_fills, k__law_fills, b__law_fills⟩ := h__law_fills
  obtain ⟨f_is_closed_at, fd_is_closed_at, F_is_closed_at, m_is_closed_at, k_is_closed_at, b_is_closed_at⟩ := h_is_closed_at
  obtain ⟨f_open_at, fd_open_at, d_x, F_open_at, m_open_at, k_open_at, b_open_at, d_open_at, v_open_at⟩ := h_open_at
  obtain ⟨f_order_at, fd_order_at, F_order_at, m_order_at, k_order_at, b_order_at⟩ := h_order_at
  obtain ⟨f_rest_at, fd_rest_at, d_x, F_rest_at, m_rest_at, k_rest_at, b_rest_at, d_rest_at, v_rest_at⟩ := h_rest_at
  have S : FnScope ["_law_good", "_law_row", "_law_many", "_law_shut_now", "_law_used", "_law_n", "_law_size", "_law_own", "_law_fill"] ["_law_good", "_law_row"] (defScope s__law_can_follow) := ⟨rfl, rfl, rfl, by decide +kernel, rfl, by decide +kernel, by decide +kernel⟩
  refine ⟨f, fd, fn_w F S (fun sls c P h => ?len) (fun cdv A outer s H E r hr => have hu := hu_of' hr; have hp := passes_of rfl; ((pwss_cons (pws_par3D 2 3 4 rfl S.nd (pw_callB calW_len call_len bl.len (paw_cons (pw_ix (pw_var 0) pw_int) paw_nil)) (pw_call F_is_closed_at (hr.mono (by decide)) m_is_closed_at k_is_closed_at b_is_closed_at .nil (fun _ _ => .nil) (par_dat (pw_var 0) (par_dat (pw_callB calW_len call_len bl.len (paw_cons (pw_ix (pw_var 0) pw_int) paw_nil)) par_nil))))
      (pwss_cons (pws_if (pwt_cmp opW_eq (op_eqA hr.units) (pw_ix (pw_var 1) pw_int) pw_str (nomark _)) (pwss_one (pws_ret (pw_cmp opW_eq (op_eqA hr.units) (pw_var 2) pw_int (nomark _)))) pwss_nil)
      (pwss_cons (pws_if (pwt_cmp opW_eq (op_eqA hr.units) (pw_ix (pw_var 1) pw_int) pw_str (nomark _)) (pwss_one (pws_ret (pw_cmp opW_in (op_inA hu) (pw_ix (pw_var 1) pw_int) (pw_call (dsl := [.dat (.int 0)]) F_open_at (hr.mono (by decide)) m_open_at k_open_at v_open_at d_open_at (fun _ _ => .cons (DX.int 0) .nil) (par_dat (pw_var 0) (par_dat (pw_var 2) par_nil))) (by with_unfolding_all rfl)))) pwss_nil)
      (pwss_cons (pws_if (pwt_cmp opW_eq (op_eqA hr.units) (pw_ix (pw_var 1) pw_int) pw_str (nomark _)) (pwss_cons (pws_for hp rfl (pwi_tup (pw_ix (pw_var 1) pw_int)) (pwg_tup 2 rfl (pwgs_cons (pwg_name 5 S.nd) (pwgs_cons (pwg_name 6 S.nd) pwgs_nil))) (pwss_cons (pws_if (PW.pt (pww_or (pwt_cmp opW_notIn (op_notInA hu) (pw_var 5) (pw_call (dsl := [.dat (.int 0)]) F_open_at (hr.mono (by decide)) m_open_at k_open_at v_open_at d_open_at (fun _ _ => .cons (DX.int 0) .nil) (par_dat (pw_var 0) (par_dat (pw_var 2) par_nil))) (by with_unfolding_all rfl)) (pww_or1 (pwt_cmp opW_cmp op_gt (pw_var 6) (pw_call (dsl := [.dat (.int 0)]) F_rest_at (hr.mono (by decide)) m_rest_at k_rest_at v_rest_at d_rest_at (fun _ _ => .cons (DX.int 0) .nil) (par_dat (pw_var 0) (par_dat (pw_var 5) (par_dat (pw_var 2) par_nil)))) (nomark _))))) (pwss_one (pws_ret pw_bl)) pwss_nil)
      (pwss_one (pws_if (pwt_ite (pwt_cmp opW_eq (op_eqA hr.units) (pw_ix (pw_call F_order_at (hr.mono (by decide)) m_order_at k_order_at b_order_at .nil (fun _ _ => .nil) (par_dat (pw_var 0) (par_dat (pw_var 5) par_nil))) pw_int) pw_str (nomark _)) (pwt_cmp opW_cmp op_lt (pw_ix (pw_call F_order_at (hr.mono (by decide)) m_order_at k_order_at b_order_at .nil (fun _ _ => .nil) (par_dat (pw_var 0) (par_dat (pw_var 5) par_nil))) pw_int) (pw_ix (pw_var 1) pw_int) (nomark _)) (pwt_cmp opW_cmp op_gt (pw_ix (pw_call F_order_at (hr.mono (by decide)) m_order_at k_order_at b_order_at .nil (fun _ _ => .nil) (par_dat (pw_var 0) (par_dat (pw_var 5) par_nil))) pw_int) (pw_ix (pw_var 1) pw_int) (nomark _))) (pwss_one (pws_ret pw_bl)) pwss_nil))))
      (pwss_one (pws_ret (pw_var 3)))) pwss_nil)
      (pwss_cons (pws_set 7 S.nd pw_int)
      (pwss_cons (pws_for hp rfl (pwi_tup (pw_call F__law_fills (hr.mono (by decide)) m__law_fills k__law_fills b__law_fills .nil (fun _ _ => .nil) (par_dat (pw_var 1) par_nil))) (pwg_name 8 S.nd) (pwss_cons (pws_if (pwt_not (pwt_val (pw_call F__law_can_fill (hr.mono (by decide)) m__law_can_fill k__law_can_fill b__law_can_fill .nil (fun _ _ => .nil) (par_dat (pw_var 0) (par_dat (pw_var 8) (par_nm 4 par_nil)))))) (pwss_one (pws_ret pw_bl)) pwss_nil)
      (pwss_cons (pws_dput 4 (pw_op opW_add op_addA (pw_dget 4 (pw_ix (pw_var 8) pw_int) pw_int) (pw_ix (pw_var 8) pw_int)) (pw_ix (pw_var 8) pw_int))
      (pwss_cons (pws_set 7 S.nd (pw_op opW_add op_addA (pw_var 7) (pw_ix (pw_var 8) pw_int)))
      (pwss_cons (pws_if (PW.pt (pww_and (pwt_cmp opW_eq (op_eqA hr.units) (pw_ix (pw_var 1) pw_int) pw_str (nomark _)) (pww_and1 (pwt_ite (pwt_cmp opW_eq (op_eqA hr.units) (pw_ix (pw_var 1) pw_int) pw_str (nomark _)) (pwt_cmp opW_cmp op_gt (pw_ix (pw_var 8) pw_int) (pw_ix (pw_var 1) pw_int) (nomark _)) (pwt_cmp opW_cmp op_lt (pw_ix (pw_var 8) pw_int) (pw_ix (pw_var 1) pw_int) (nomark _)))))) (pwss_one (pws_ret pw_bl)) pwss_nil)
      (pwss_one (pws_if (PW.pt (pww_and (pwt_cmp opW_eq (op_eqA hr.units) (pw_ix (pw_var 1) pw_int) pw_str (nomark _)) (pww_and (pwt_cmp opW_isnot op_notN (pw_ix (pw_var 8) pw_int) pw_non (nomark _)) (pww_and1 (pwt_cmp opW_eq (op_eqA hr.units) (pw_ix (pw_call F_order_at (hr.mono (by decide)) m_order_at k_order_at b_order_at .nil (fun _ _ => .nil) (par_dat (pw_var 0) (par_dat (pw_ix (pw_var 8) pw_int) par_nil))) pw_int) (pw_ix (pw_var 1) pw_int) (nomark _)))))) (pwss_one (pws_ret pw_bl)) pwss_nil)))))))
      (pwss_cons (pws_if (PW.pt (pww_and (pwt_val (pw_var 3)) (pww_and1 (pwt_cmp opW_ne (op_neA hr.units) (pw_call F__law_fills (hr.mono (by decide)) m__law_fills k__law_fills b__law_fills .nil (fun _ _ => .nil) (par_dat (pw_var 1) par_nil)) (pw_tup paw_nil) (nomark _))))) (pwss_one (pws_ret pw_bl)) pwss_nil)
      (pwss_one (pws_ret (pw_or (pw_cmp opW_eq (op_eqA hr.units) (pw_ix (pw_var 1) pw_int) pw_str (nomark _)) (pw_one (pw_cmp opW_cmp op_le (pw_var 7) (pw_ix (pw_var 1) pw_int) (nomark _))))))))))))))) (fun sls c P h => ?data), hm, F.kp, F.bindsN fun _ _ _ _ _ _ us hl => match us, hl with | [_, _], _ => rfl⟩
  case len =>
    obtain ⟨x, rows, row, rfl, h⟩ := h
    rfl
  case data =>
    obtain ⟨x, rows, row, rfl, h⟩ := h
    obtain ⟨hg, hro, h⟩ := h
    have hz := hg.len
    have hL : LIM = 100000 := rfl
    refine seqW_gen fun K k1 k2 => ?_
    simp [rho0, recD, rowsT]
    refine ⟨x, rows, rows.length, rfl, hg.ok, Nat.le_refl _, ?_⟩
    rw [List.take_length]
    simp
    refine k1 _ _ ?_
    clear k1 k2
    cases row with
    | closed =>
      refine seqW_gen fun K k1 k2 => ?_
      refine ifW_gen fun T t1 t2 => ?_
      simp [rowD]
      refine t1 _ ?_
      simp
      refine k2 (.rt _) _ (by simp) ?_
      have e : stepOk rows .closed = decide (rows = []) := by
        cases rows <;> simp [stepOk, closedOk, isClosed, isCall, fillsOf, bodyOk]
      rw [e] at h
      exact h
    | cancel n =>
      refine seqW_gen fun K k1 k2 => ?_
      refine ifW_gen fun T t1 t2 => ?_
      simp [rowD]
      refine t2 _ ?_
      simp
      refine k1 _ _ ?_
      clear k1 k2 t1 t2
      refine seqW_gen fun K k1 k2 => ?_
      refine ifW_gen fun T t1 t2 => ?_
      simp [rowD]
      refine t1 _ ?_
      simp
      refine ⟨x, rows, rows.length, rfl, hg.ok, Nat.le_refl _, ?_⟩
      rw [List.take_length]
      simp
      refine ⟨⟨(PL.int _).shaped (by decide), (PL.nats _).shaped (by decide)⟩, ?_⟩
      rw [any_nat]
      refine k2 (.rt _) _ (by simp) ?_
      have e : stepOk rows (.cancel n) = decide (n ∈ (ordersP rows).filter fun n => openP rows [] n) := by
        cases ho : openP rows [] n with
        | true => rw [step_cancel ho, decide_eq_true (mem_open.mpr ho)]
        | false =>
          rw [decide_eq_false (fun z => by rw [mem_open.mp z] at ho; cases ho)]
          simp [stepOk, bodyOk, ho]
      rw [e] at h
      exact h
    | call p ps =>
      refine seqW_gen fun K k1 k2 => ?_
      refine ifW_gen fun T t1 t2 => ?_
      simp [rowD]
      refine t2 _ ?_
      simp
      refine k1 _ _ ?_
      clear k1 k2 t1 t2
      refine seqW_gen fun K k1 k2 => ?_
      refine ifW_gen fun T t1 t2 => ?_
      simp [rowD]
      refine t2 _ ?_
      simp
      refine k1 _ _ ?_
      clear k1 k2 t1 t2
      refine seqW_gen fun K k1 k2 => ?_
      refine ifW_gen fun T t1 t2 => ?_
      simp [rowD]
      refine t1 _ ?_
      clear t1 t2 k1
      refine seqW_gen fun K k3 k4 => ?_
      simp [pairsD]
      have hno : stepOk rows (.call p ps) = false → K (.rt (.bool false)) c := fun e => by
        refine k4 (.rt _) _ (by simp) (k2 (.rt _) _ (by simp) ?_)
        rw [e] at h
        exact h
      refine forG_map pairD (fun k ρ c' => c' = c ∧ (∃ a b, ρ = [.dat (recD x rows), .dat (rowD (.call p ps)), .dat (.int rows.length), .dat (.bool (shutP rows)), .dic true [], a, b, .no, .no]) ∧ ∀ q, p = some q → ∀ y ∈ ps.take k, pairStep rows q y = true) ps (fun k y hk ρ c' Q hI q1 q2 => ?_) ⟨rfl, ⟨_, _, rfl⟩, by simp⟩ (fun ρ c' hI => ?_)
      · obtain ⟨rfl, ⟨a, b, rfl⟩, hpre⟩ := hI
        obtain ⟨n, z⟩ := y
        have hq : ∃ q, p = some q := by
          cases p with
          | some q => exact ⟨q, rfl⟩
          | none =>
            have e : ps = [] := hro.2
            rw [e] at hk
            simp at hk
        obtain ⟨q, rfl⟩ := hq
        have hbad : pairStep rows q (n, z) = false → K (.rt (.bool false)) c' := fun e => hno (by
          have e2 : ps.all (pairStep rows q) = false := by
            rw [List.all_eq_false]
            exact ⟨(n, z), List.mem_of_getElem? hk, by rw [e]; simp⟩
          simp [stepOk, bodyOk, e2])
        simp only [pairD, gT_tup, gC_cons, gN_nil, gNm_def, bW_def, rW_def, gW_def, List.length_cons, List.length_nil]
        refine ⟨trivial, ?_⟩
        refine seqW_gen fun K5 k5 k6 => ?_
        refine ifW_gen fun T t1 t2 => ?_
        simp
        refine ⟨x, rows, rows.length, rfl, hg.ok, Nat.le_refl _, ?_⟩
        rw [List.take_length]
        simp
        refine ⟨⟨(PL.int _).shaped (by decide), (PL.nats _).shaped (by decide)⟩, ?_⟩
        rw [any_nat]
        cases ho : openP rows [] n with
        | false =>
          rw [decide_eq_false (fun z => by rw [mem_open.mp z] at ho; cases ho)]
          simp
          refine t1 _ ?_
          simp
          exact k6 (.rt _) _ (by simp) (q2 (.rt _) _ (by simp) (hbad (by simp [pairStep, ho])))
        | true =>
          have hord := openP_ord' ho
          obtain ⟨m', fs', hr⟩ := rowAt hord
          rw [decide_eq_true (mem_open.mpr ho)]
          simp
          refine ⟨x, rows, n, rows.length, rfl, hg.ok, Nat.le_refl _, hord, ?_⟩
          rw [List.take_length, restP_nil]
          simp
          by_cases e : restP rows [] n < z
          · simp [e]
            refine t1 _ ?_
            simp
            exact k6 (.rt _) _ (by simp) (q2 (.rt _) _ (by simp) (hbad (by simp [pairStep, ho]; intro _; exact e)))
          · simp [e]
            refine t2 _ ?_
            simp
            refine k5 _ _ ?_
            clear k5 k6 t1 t2
            refine ifW_gen fun T t1 t2 => ?_
            simp
            refine ⟨x, rows, n, m', sideAt rows n, priceAt rows n, sizeAt rows n, fs', rfl, hg.ok, hr, ?_⟩
            simp
            have hgood : withinP (sideAt rows n) (priceAt rows n) q = true → T false c' := fun hw => t2 _ (by
              simp
              refine q1 _ _ ⟨rfl, ⟨_, _, rfl⟩, fun q' hq' y hy => ?_⟩
              cases hq'
              rw [List.take_add_one, hk] at hy
              rcases List.mem_append.mp hy with h1 | h1
              · exact hpre q rfl y h1
              · simp at h1
                subst h1
                unfold pairStep
                simp only [ho, hw, Bool.true_and, decide_eq_true_eq]
                omega)
            have hbd : withinP (sideAt rows n) (priceAt rows n) q = false → T true c' := fun hw => t1 _ (by
              simp
              exact q2 (.rt _) _ (by simp) (hbad (by simp [pairStep, hw])))
            cases hb : sideAt rows n with
            | true =>
              rw [hb] at hgood hbd
              simp
              refine ⟨x, rows, n, m', sideAt rows n, priceAt rows n, sizeAt rows n, fs', rfl, hg.ok, hr, ?_⟩
              simp [rowD, priceD]
              by_cases e3 : priceAt rows n < q
              · simp [e3]
                exact hbd (by simp [withinP]; omega)
              · simp [e3]
                exact hgood (by simp [withinP]; omega)
            | false =>
              rw [hb] at hgood hbd
              simp
              refine ⟨x, rows, n, m', sideAt rows n, priceAt rows n, sizeAt rows n, fs', rfl, hg.ok, hr, ?_⟩
              simp [rowD, priceD]
              by_cases e3 : q < priceAt rows n
              · simp [e3]
                exact hbd (by simp [withinP]; omega)
              · simp [e3]
                exact hgood (by simp [withinP]; omega)
      · obtain ⟨rfl, ⟨a, b, rfl⟩, hpre⟩ := hI
        rw [List.take_length] at hpre
        refine k3 _ _ ?_
        simp
        refine k2 (.rt _) _ (by simp) ?_
        cases hs : shutP rows with
        | true =>
          rw [step_call hs hpre] at h
          exact h
        | false =>
          have e : stepOk rows (.call p ps) = false := by simp [stepOk, closedOk, isCall, hs]
          rw [e] at h
          exact h
    | prints fs =>
      refine seqW_gen fun K k1 k2 => ?_
      refine ifW_gen fun T t1 t2 => ?_
      simp [rowD]
      refine t2 _ ?_
      simp
      refine k1 _ _ ?_
      clear k1 k2 t1 t2
      refine seqW_gen fun K k1 k2 => ?_
      refine ifW_gen fun T t1 t2 => ?_
      simp [rowD]
      refine t2 _ ?_
      simp
      refine k1 _ _ ?_
      clear k1 k2 t1 t2
      refine seqW_gen fun K k1 k2 => ?_
      refine ifW_gen fun T t1 t2 => ?_
      simp [rowD]
      refine t2 _ ?_
      simp
      refine k1 _ _ ?_
      clear k1 k2 t1 t2
      refine seqW_gen fun K k1 k2 => ?_
      simp
      refine k1 _ _ ?_
      clear k1 k2
      refine seqW_gen fun K k1 k2 => ?_
      simp [fillsD, fillsOf]
      have hbad : ∀ j f, fs[j]? = some f → lawFill rows (.prints fs) (fs.take j) f = false → K (.rt (.bool false)) c := fun j f hj e => by
        refine k2 (.rt _) _ (by simp) ?_
        rw [bad_prints hro.2 hj e] at h
        exact h
      refine forG_map fillD (fun k ρ c' => c' = c ∧ (∃ kvs a, ρ = [.dat (recD x rows), .dat (rowD (.prints fs)), .dat (.int rows.length), .dat (.bool (shutP rows)), .dic true kvs, .no, .no, .dat (.int ((fs.take k).map (·.s)).sum), a] ∧ kvs.length ≤ k ∧ ∀ n < rows.length, useOf kvs n = fillSum rows.length n (fs.take k)) ∧ ∀ j < k, ∀ f, fs[j]? = some f → lawFill rows (.prints fs) (fs.take j) f = true) fs (fun k f hk ρ c' Q hI q1 q2 => ?_) ⟨rfl, ⟨[], _, rfl, Nat.le_refl _, fun n _ => rfl⟩, by simp⟩ (fun ρ c' hI => ?_)
      · obtain ⟨rfl, ⟨kvs, a, rfl, hkl, hu⟩, hpre⟩ := hI
        have hkf : k < fs.length := (List.getElem?_eq_some_iff.mp hk).1
        have hf50 : fs.length ≤ 50 := hro.1
        have hnx : fs.take (k + 1) = fs.take k ++ [f] := by rw [List.take_add_one, hk]; rfl
        have hcg := canFill_congr (f := f) hu
        simp only [gNm_def, rW_def]
        refine seqW_gen fun K5 k5 k6 => ?_
        refine ifW_gen fun T t1 t2 => ?_
        simp
        refine ⟨x, rows, f, kvs, rfl, hg, ?_⟩
        rw [hcg]
        cases hcf : canFillP rows (fun n => fillSum rows.length n (fs.take k)) f with
        | false =>
          simp
          refine t1 _ ?_
          simp
          exact k6 (.rt _) _ (by simp) (q2 (.rt _) _ (by simp) (hbad k f hk (by simp [lawFill, hcf])))
        | true =>
          simp
          refine t2 _ ?_
          simp
          refine k5 _ _ ?_
          clear k5 k6 t1 t2
          have hup := use_put (f := f) hu
          rw [← hnx] at hup
          obtain ⟨pp, zz, m⟩ := f
          dsimp only at hup
          refine seqW_gen fun K5 k5 k6 => ?_
          simp [fillD]
          refine ⟨by omega, k5 _ _ ?_⟩
          clear k5 k6
          have hpl := putOI_length kvs (m.map fun m => (m : Int)) ((getOI kvs (m.map fun m => (m : Int))).getD 0 + zz)
          rw [show (m.bind fun a => some (a : Int)) = m.map fun m => (m : Int) from by cases m <;> rfl]
          generalize putOI kvs (m.map fun m => (m : Int)) ((getOI kvs (m.map fun m => (m : Int))).getD 0 + zz) = kvs2 at hup hpl ⊢
          refine seqW_gen fun K5 k5 k6 => ?_
          simp [fillD]
          refine k5 _ _ ?_
          clear k5 k6
          have hsum : ((fs.take (k + 1)).map (·.s)).sum = ((fs.take k).map (·.s)).sum + zz := by
            rw [hnx, List.map_append, List.sum_append, List.map_singleton, List.sum_singleton]
          rw [List.map_take, List.map_take] at hsum
          have hq : lawFill rows (.prints fs) (fs.take k) ⟨pp, zz, m⟩ = true → ∀ a, Q (.nx [.dat (recD x rows), .dat (rowD (.prints fs)), .dat (.int rows.length), .dat (.bool (shutP rows)), .dic true kvs2, .no, .no, .dat (.int (((fs.map (·.s)).take k).sum + zz)), a]) c' := fun hl a => by
            refine q1 _ _ ⟨rfl, ⟨kvs2, a, by rw [List.map_take, hsum], by omega, hup⟩, fun j hj f' hf' => ?_⟩
            by_cases e : j = k
            · subst e
              rw [hk] at hf'
              cases hf'
              exact hl
            · exact hpre j (by omega) f' hf'
          have hb2 : lawFill rows (.prints fs) (fs.take k) ⟨pp, zz, m⟩ = false → Q (.rt (.bool false)) c' := fun hl => q2 (.rt _) _ (by simp) (hbad k _ hk hl)
          refine seqW_gen fun K5 k5 k6 => ?_
          refine ifW_gen fun T t1 t2 => ?_
          simp [rowD]
          refine t2 _ ?_
          simp
          refine k5 _ _ ?_
          clear k5 k6 t1 t2
          refine ifW_gen fun T t1 t2 => ?_
          simp [rowD]
          refine t2 _ ?_
          simp
          exact hq (by simp [lawFill, hcf]) _
      · obtain ⟨rfl, ⟨kvs, a, rfl, hkl, hu⟩, hpre⟩ := hI
        rw [List.take_length] at hu
        have hall : atAll (lawFill rows (.prints fs)) fs = true := atAll_iff.mpr fun j f hj => hpre j (List.getElem?_eq_some_iff.mp hj).1 f hj
        refine k1 _ _ ?_
        clear k1 k2 hbad
        refine seqW_gen fun K k1 k2 => ?_
        refine ifW_gen fun T t1 t2 => ?_
        simp
        have hgo : (shutP rows = true → fs = []) → T false c' := fun e => t2 _ (by
          simp
          refine k1 _ _ ?_
          simp [rowD]
          have e : stepOk rows (.prints fs) = true := by
            rw [step_nocall rfl rfl]
            have e1 : bodyOk rows (.prints fs) = true := by
              show atAll (printOk rows) fs = true
              rw [atAll_iff]
              intro j f hj
              have q := atAll_iff.mp hall j f hj
              rw [lawFill_print fun g hg => hro.2 g (List.mem_of_mem_take hg)] at q
              exact q
            rw [e1]
            cases hs : shutP rows with
            | false => rfl
            | true => rw [e hs]; rfl
          rw [e] at h
          exact h)
        cases hs : shutP rows with
        | false =>
          simp
          exact hgo (by simp [hs])
        | true =>
          simp
          refine eqW_by (PL.fills _) (PL.tuple (n := 0) (xs := []) (fun _ z => by cases z)) (.inl ⟨_, rfl⟩) (b := decide (fs = [])) ?_ ?_
          · rw [decide_eq_true_eq]
            constructor
            · intro z
              rw [show fillsOf (.prints fs) = fs from rfl, z]
              rfl
            · intro z
              exact fillsD_inj (b := []) z
          · simp
            by_cases z : fs = []
            · rw [z]
              simpa [z] using hgo fun _ => z
            · simp [z]
              refine t1 _ ?_
              simp
              refine k2 (.rt _) _ (by simp) ?_
              have e : stepOk rows (.prints fs) = false := by
                rw [step_nocall rfl rfl, hs]
                cases fs with
                | nil => exact absurd rfl z
                | cons f fs => simp [fillsOf]
              rw [e] at h
              exact h
    | order m b p s fs =>
      refine seqW_gen fun K k1 k2 => ?_
      refine ifW_gen fun T t1 t2 => ?_
      simp [rowD]
      refine t2 _ ?_
      simp
      refine k1 _ _ ?_
      clear k1 k2 t1 t2
      refine seqW_gen fun K k1 k2 => ?_
      refine ifW_gen fun T t1 t2 => ?_
      simp [rowD]
      refine t2 _ ?_
      simp
      refine k1 _ _ ?_
      clear k1 k2 t1 t2
      refine seqW_gen fun K k1 k2 => ?_
      refine ifW_gen fun T t1 t2 => ?_
      simp [rowD]
      refine t2 _ ?_
      simp
      refine k1 _ _ ?_
      clear k1 k2 t1 t2
      refine seqW_gen fun K k1 k2 => ?_
      simp
      refine k1 _ _ ?_
      clear k1 k2
      refine seqW_gen fun K k1 k2 => ?_
      simp [fillsD, fillsOf]
      have hbad : ∀ j f, fs[j]? = some f → lawFill rows (.order m b p s fs) (fs.take j) f = false → K (.rt (.bool false)) c := fun j f hj e => by
        refine k2 (.rt _) _ (by simp) ?_
        rw [bad_order hro.2.2.1 hro.2.2.2.2 hj e] at h
        exact h
      refine forG_map fillD (fun k ρ c' => c' = c ∧ (∃ kvs a, ρ = [.dat (recD x rows), .dat (rowD (.order m b p s fs)), .dat (.int rows.length), .dat (.bool (shutP rows)), .dic true kvs, .no, .no, .dat (.int ((fs.take k).map (·.s)).sum), a] ∧ kvs.length ≤ k ∧ ∀ n < rows.length, useOf kvs n = fillSum rows.length n (fs.take k)) ∧ ∀ j < k, ∀ f, fs[j]? = some f → lawFill rows (.order m b p s fs) (fs.take j) f = true) fs (fun k f hk ρ c' Q hI q1 q2 => ?_) ⟨rfl, ⟨[], _, rfl, Nat.le_refl _, fun n _ => rfl⟩, by simp⟩ (fun ρ c' hI => ?_)
      · obtain ⟨rfl, ⟨kvs, a, rfl, hkl, hu⟩, hpre⟩ := hI
        have hkf : k < fs.length := (List.getElem?_eq_some_iff.mp hk).1
        have hf50 : fs.length ≤ 50 := hro.2.2.2.1
        have hnx : fs.take (k + 1) = fs.take k ++ [f] := by rw [List.take_add_one, hk]; rfl
        have hcg := canFill_congr (f := f) hu
        simp only [gNm_def, rW_def]
        refine seqW_gen fun K5 k5 k6 => ?_
        refine ifW_gen fun T t1 t2 => ?_
        simp
        refine ⟨x, rows, f, kvs, rfl, hg, ?_⟩
        rw [hcg]
        cases hcf : canFillP rows (fun n => fillSum rows.length n (fs.take k)) f with
        | false =>
          simp
          refine t1 _ ?_
          simp
          exact k6 (.rt _) _ (by simp) (q2 (.rt _) _ (by simp) (hbad k f hk (by simp [lawFill, hcf])))
        | true =>
          simp
          refine t2 _ ?_
          simp
          refine k5 _ _ ?_
          clear k5 k6 t1 t2
          have hup := use_put (f := f) hu
          rw [← hnx] at hup
          obtain ⟨pp, zz, nn⟩ := f
          dsimp only at hup
          refine seqW_gen fun K5 k5 k6 => ?_
          simp [fillD]
          refine ⟨by omega, k5 _ _ ?_⟩
          clear k5 k6
          have hpl := putOI_length kvs (nn.map fun m => (m : Int)) ((getOI kvs (nn.map fun m => (m : Int))).getD 0 + zz)
          rw [show (nn.bind fun a => some (a : Int)) = nn.map fun m => (m : Int) from by cases nn <;> rfl]
          generalize putOI kvs (nn.map fun m => (m : Int)) ((getOI kvs (nn.map fun m => (m : Int))).getD 0 + zz) = kvs2 at hup hpl ⊢
          refine seqW_gen fun K5 k5 k6 => ?_
          simp [fillD]
          refine k5 _ _ ?_
          clear k5 k6
          have hsum : ((fs.take (k + 1)).map (·.s)).sum = ((fs.take k).map (·.s)).sum + zz := by
            rw [hnx, List.map_append, List.sum_append, List.map_singleton, List.sum_singleton]
          rw [List.map_take, List.map_take] at hsum
          have hq : lawFill rows (.order m b p s fs) (fs.take k) ⟨pp, zz, nn⟩ = true → ∀ a, Q (.nx [.dat (recD x rows), .dat (rowD (.order m b p s fs)), .dat (.int rows.length), .dat (.bool (shutP rows)), .dic true kvs2, .no, .no, .dat (.int (((fs.map (·.s)).take k).sum + zz)), a]) c' := fun hl a => by
            refine q1 _ _ ⟨rfl, ⟨kvs2, a, by rw [List.map_take, hsum], by omega, hup⟩, fun j hj f' hf' => ?_⟩
            by_cases e : j = k
            · subst e
              rw [hk] at hf'
              cases hf'
              exact hl
            · exact hpre j (by omega) f' hf'
          have hb2 : lawFill rows (.order m b p s fs) (fs.take k) ⟨pp, zz, nn⟩ = false → Q (.rt (.bool false)) c' := fun hl => q2 (.rt _) _ (by simp) (hbad k _ hk hl)
          have hlf : lawFill rows (.order m b p s fs) (fs.take k) ⟨pp, zz, nn⟩ = (withinP b p pp && nOk nn fun n => !decide (sideAt rows n = b)) := by simp [lawFill, hcf]
          refine seqW_gen fun K5 k5 k6 => ?_
          have hk5 : withinP b p pp = true → K5 (.nx [.dat (recD x rows), .dat (rowD (.order m b p s fs)), .dat (.int rows.length), .dat (.bool (shutP rows)), .dic true kvs2, .no, .no, .dat (.int (((fs.map (·.s)).take k).sum + zz)), .dat (.tuple [.int pp, .int zz, nD nn])]) c' := fun hw => k5 _ _ (by
            refine ifW_gen fun T t1 t2 => ?_
            simp [rowD]
            cases nn with
            | none =>
              simp [nD]
              refine t2 _ ?_
              simp
              exact hq (by rw [hlf, hw]; rfl) _
            | some n =>
              have ho : openP rows [] n = true := by
                cases z : openP rows [] n with
                | true => rfl
                | false => simp [canFillP, z] at hcf
              obtain ⟨m', fs', hr⟩ := rowAt (openP_ord' ho)
              simp [nD]
              refine ⟨x, rows, n, m', sideAt rows n, priceAt rows n, sizeAt rows n, fs', rfl, hg.ok, hr, ?_⟩
              simp
              by_cases e : sideAt rows n = b
              · rw [decide_eq_true e]
                refine t1 _ ?_
                simp
                exact hb2 (by rw [hlf]; simp [nOk, e])
              · rw [decide_eq_false e]
                refine t2 _ ?_
                simp
                exact hq (by rw [hlf, hw]; simp [nOk, e]) _)
          have hgood : ∀ T : Bool → Nat → Prop, (∀ c1, K5 (.nx [.dat (recD x rows), .dat (rowD (.order m b p s fs)), .dat (.int rows.length), .dat (.bool (shutP rows)), .dic true kvs2, .no, .no, .dat (.int (((fs.map (·.s)).take k).sum + zz)), .dat (.tuple [.int pp, .int zz, nD nn])]) c1 → T false c1) → (∀ c1, K5 (.rt (.bool false)) c1 → T true c1) → T (!withinP b p pp) c' := fun T h1 h2 => by
            cases hw : withinP b p pp with
            | true => exact h1 _ (hk5 hw)
            | false => exact h2 _ (k6 (.rt _) _ (by simp) (hb2 (by rw [hlf, hw]; rfl)))
          refine ifW_gen fun T t1 t2 => ?_
          have hT := hgood T (fun c1 z => t2 _ (by simpa using z)) (fun c1 z => t1 _ (by simpa using z))
          have ew : (!withinP b p pp) = if b = true then decide (p < pp) else decide (pp < p) := by
            unfold withinP
            cases b
            · by_cases e : p ≤ pp
              · have e2 : ¬ pp < p := by omega
                simp [e, e2]
              · have e2 : pp < p := by omega
                simp [e, e2]
            · by_cases e : pp ≤ p
              · have e2 : ¬ p < pp := by omega
                simp [e, e2]
              · have e2 : p < pp := by omega
                simp [e, e2]
          rw [ew] at hT
          clear hgood hk5 hq hb2 hlf t1 t2 k5 k6
          cases b with
          | true =>
            simp [rowD, sideD, sideS]
            simpa using hT
          | false =>
            simp [rowD, sideD, sideS]
            simpa using hT
      · obtain ⟨rfl, ⟨kvs, a, rfl, hkl, hu⟩, hpre⟩ := hI
        rw [List.take_length] at hu
        have hall : atAll (lawFill rows (.order m b p s fs)) fs = true := atAll_iff.mpr fun j f hj => hpre j (List.getElem?_eq_some_iff.mp hj).1 f hj
        refine k1 _ _ ?_
        clear k1 k2 hbad
        refine seqW_gen fun K k1 k2 => ?_
        refine ifW_gen fun T t1 t2 => ?_
        simp
        have hgo : (shutP rows = true → fs = []) → T false c' := fun e => t2 _ (by
          simp
          refine k1 _ _ ?_
          simp [rowD]
          have e : stepOk rows (.order m b p s fs) = decide ((fs.map (·.s)).sum ≤ s) := by
            rw [step_nocall rfl rfl]
            have e1 : bodyOk rows (.order m b p s fs) = decide ((fs.map (·.s)).sum ≤ s) := by
              show atAll (ownOk rows b p s) fs = _
              rw [own_all (m := m) (gs := fs) hro.2.2.2.2 hro.2.2.1, hall, Bool.true_and]
            rw [e1]
            cases hs : shutP rows with
            | false => rfl
            | true => rw [e hs]; rfl
          rw [e] at h
          exact h)
        cases hs : shutP rows with
        | false =>
          simp
          exact hgo (by simp [hs])
        | true =>
          simp
          refine eqW_by (PL.fills _) (PL.tuple (n := 0) (xs := []) (fun _ z => by cases z)) (.inl ⟨_, rfl⟩) (b := decide (fs = [])) ?_ ?_
          · rw [decide_eq_true_eq]
            constructor
            · intro z
              rw [show fillsOf (.order m b p s fs) = fs from rfl, z]
              rfl
            · intro z
              exact fillsD_inj (b := []) z
          · simp
            by_cases z : fs = []
            · rw [z]
              simpa [z] using hgo fun _ => z
            · simp [z]
              refine t1 _ ?_
              simp
              refine k2 (.rt _) _ (by simp) ?_
              have e : stepOk rows (.order m b p s fs) = false := by
                rw [step_nocall rfl rfl, hs]
                cases fs with
                | nil => exact absurd rfl z
                | cons f fs => simp [fillsOf]
              rw [e] at h
              exact h
end
end FK
set_option Elab.async false
set_option linter.all false
set_option maxRecDepth 100000
set_option maxHeartbeats 4000000
/-! Def as promise: _law_check_behind. (Printed by gen2.py from spec6.py.) -/
namespace FK
open PySem PySem.Spec L2
abbrev g__law_check_behind : Gs := fun sls c P => ∃ (x : Str) (rows : List Row) (row : Row), sls = [.dat (recD x rows), .dat (rowD row)] ∧ ruleOk x ∧ Good rows ∧ rowOk row ∧ stepOk rows row = true ∧ P (.rt (.bool true)) c
theorem behind_ok {rows : List Row} {row : Row} (hg : Good rows) (hr : rowOk row) : rowsOk (rows ++ [row]) := snoc_ok hg.ok hr (by have := hg.len; omega)
theorem PL.txts {ns : List Str} (h : ∀ y ∈ ns, nmOk y) : PL 1 (.tuple (txtsD ns)) := .tuple fun x hx => by
  obtain ⟨y, hy, rfl⟩ := List.mem_map.mp hx
  exact .str (h y hy)
theorem mems_nm {rows : List Row} (h : rowsOk rows) : ∀ y ∈ memsP rows, nmOk y := fun y hy => by
  obtain ⟨r, hr, e⟩ := List.mem_filterMap.mp hy
  cases r with
  | order m b p s fs =>
    have e : some m = some y := e
    cases e
    exact (h.2 _ hr).nm
  | _ => cases e
theorem txtsD_inj {a b : List Str} (h : PyData.tuple (txtsD a) = .tuple (txtsD b)) : a = b := map_inj (fun _ _ h => PyData.str.inj h) (PyData.tuple.inj h)
theorem cutD_12 (a b c d e f : D) : cutD [a, b, c, d, e, f] (some 1) (some 2) = [b] := rfl
theorem nodup_len : ∀ (a b : List Str), a.Nodup → (∀ k ∈ a, k ∈ b) → a.length ≤ b.length
  | [], _, _, _ => Nat.zero_le _
  | x :: xs, b, nd, h => by
    have hx := h x List.mem_cons_self
    have nd' := List.nodup_cons.mp nd
    have ih := nodup_len xs (b.erase x) nd'.2 fun k hk => (List.mem_erase_of_ne (fun e => nd'.1 (by rw [← e]; exact hk))).mpr (h k (List.mem_cons_of_mem _ hk))
    rw [List.length_erase_of_mem hx] at ih
    have := List.length_pos_of_mem hx
    simp only [List.length_cons]
    omega
theorem ordersP_snoc (rows : List Row) (row : Row) : ordersP (rows ++ [row]) = ordersP rows ++ (if isOrd row = true then [rows.length] else []) := by
  unfold ordersP
  rw [List.zipIdx_append, List.filter_append, List.map_append]
  congr 1
  cases h : isOrd row <;> simp [h]
theorem ordAt_snoc {rows : List Row} {row : Row} {n : Nat} (h : n < rows.length) : ordAt (rows ++ [row]) n = ordAt rows n := by unfold ordAt; rw [List.getElem?_append_left h]
theorem sizeAt_snoc {rows : List Row} {row : Row} {n : Nat} (h : n < rows.length) : sizeAt (rows ++ [row]) n = sizeAt rows n := by unfold sizeAt; rw [List.getElem?_append_left h]
theorem openP_len (rows : List Row) (fs : List Fill) : openP rows fs rows.length = false := by
  cases h : openP rows fs rows.length with
  | false => rfl
  | true => exact absurd (openP_lt h) (Nat.lt_irrefl _)
theorem open_snoc (rows : List Row) (row : Row) : (ordersP (rows ++ [row])).filter (fun n => openP rows [] n) = (ordersP rows).filter fun n => openP rows [] n := by
  rw [ordersP_snoc, List.filter_append]
  cases isOrd row <;> simp [openP_len]
def pairsOf : Row → List (Nat × Int)
  | .call _ ps => ps
  | _ => []
def fall2 (row : Row) (n : Nat) : Int := (((fillsOf row).filter fun f => decide (f.n = some n)).map (·.s)).sum + pairSum n (pairsOf row)
theorem fall2_eq {row : Row} {n t : Nat} (h : n < t) : lotsIn row n t (fillsOf row) = fall2 row n := by
  have e : ∀ fs : List Fill, fillSum t n fs = ((fs.filter fun f => decide (f.n = some n)).map (·.s)).sum := fun fs => by
    unfold fillSum
    have z : ¬ t = n := by omega
    simp [z]
  cases row with
  | call p ps => simp [lotsIn, fall2, fillsOf, pairsOf]
  | _ => simp [lotsIn, fall2, fillsOf, pairsOf, e]
theorem fall2_nn {row : Row} {n : Nat} (h : rowOk row) : 0 ≤ fall2 row n := by
  unfold fall2
  have hf : 0 ≤ (((fillsOf row).filter fun f => decide (f.n = some n)).map (·.s)).sum := sum_nn fun x hx => by
    obtain ⟨f, hf, rfl⟩ := List.mem_map.mp hx
    have hm := (List.mem_filter.mp hf).1
    cases row with
    | order m b p s fs => have := (h.2.2.2.2 f hm).s; omega
    | prints fs => have := (h.2 f hm).s; omega
    | _ => simp [fillsOf] at hm
  have hp : 0 ≤ pairSum n (pairsOf row) := by
    cases row with
    | call p ps => exact pairSum_nn h.1.pos
    | _ => simp [pairsOf]
  omega
theorem rest_snoc {rows : List Row} {row : Row} {n : Nat} (h : n < rows.length) : sizeAt (rows ++ [row]) n - sold (rows ++ [row]) n = restP rows [] n - fall2 row n := by
  rw [sold_snoc, sizeAt_snoc h, ← restP_nil, fall2_eq h]
  omega
theorem openP_snoc {rows : List Row} {row : Row} {n : Nat} (hr : rowOk row) (h : ordAt rows n = true) : openP (rows ++ [row]) [] n = (openP rows [] n && (decide (0 < restP rows [] n - fall2 row n) && !decide (row = .cancel n))) := by
  have hl := ordAt_lt h
  have hn := fall2_nn (n := n) hr
  unfold openP
  rw [ordAt_snoc hl, h]
  have e : restP (rows ++ [row]) [] n = restP rows [] n - fall2 row n := by rw [← restP_nil, rest_snoc hl]
  rw [e]
  have ec : (rows ++ [row]).contains (.cancel n) = (rows.contains (.cancel n) || decide (row = .cancel n)) := by
    rw [Bool.eq_iff_iff, List.contains_iff_mem, Bool.or_eq_true, List.contains_iff_mem, decide_eq_true_eq, List.mem_append, List.mem_singleton]
    constructor
    · rintro (z | z)
      · exact .inl z
      · exact .inr z.symm
    · rintro (z | z)
      · exact .inl z
      · exact .inr z.symm
  rw [ec]
  by_cases e1 : 0 < restP rows [] n - fall2 row n
  · have e2 : 0 < restP rows [] n := by omega
    rw [decide_eq_true e1, decide_eq_true e2]
    generalize rows.contains (.cancel n) = u1
    generalize decide (row = .cancel n) = u2
    cases u1 <;> cases u2 <;> rfl
  · rw [decide_eq_false e1]
    simp
theorem lots_none {pre : List Row} {r : Row} {n : Nat} (hst : stepOk pre r = true) (hro : rowOk r) (hs : pre.length < n) : lotsIn r n pre.length (fillsOf r) = 0 := by
  have nof : ∀ fs : List Fill, (∀ f ∈ fs, ∃ prior, restingOk pre prior f = true) → fillSum pre.length n fs = 0 := fun fs h => by
    unfold fillSum
    have e : (fs.filter fun f => decide (f.n = some n) || decide (pre.length = n)) = [] := by
      rw [List.filter_eq_nil_iff]
      intro f hf
      have z : ¬ pre.length = n := by omega
      simp only [z, decide_false, Bool.or_false, decide_eq_true_eq]
      intro hn
      obtain ⟨prior, hp⟩ := h f hf
      have := resting_lt hp hn
      omega
    rw [e]
    rfl
  unfold stepOk at hst
  rw [Bool.and_eq_true] at hst
  cases r with
  | order m b p z fs =>
    refine nof fs fun f hf => ?_
    obtain ⟨j, hj, e⟩ := List.getElem_of_mem hf
    have := atAll_iff.mp hst.2 j f (by rw [← e]; exact List.getElem?_eq_getElem hj)
    unfold ownOk at this
    rw [Bool.and_eq_true] at this
    exact ⟨_, this.1⟩
  | prints fs =>
    refine nof fs fun f hf => ?_
    obtain ⟨j, hj, e⟩ := List.getElem_of_mem hf
    have := atAll_iff.mp hst.2 j f (by rw [← e]; exact List.getElem?_eq_getElem hj)
    unfold printOk at this
    rw [Bool.and_eq_true] at this
    exact ⟨_, this.1⟩
  | call p ps =>
    show pairSum n ps = 0
    have e : (ps.filter fun q => decide (q.1 = n)) = [] := by
      rw [List.filter_eq_nil_iff]
      intro q hq
      simp only [decide_eq_true_eq]
      intro hn
      cases p with
      | none =>
        have z : ps = [] := hro.2
        rw [z] at hq
        cases hq
      | some p =>
        have z := List.all_eq_true.mp (show ps.all (pairStep pre p) = true from hst.2) q hq
        unfold pairStep at z
        rw [Bool.and_eq_true] at z
        have := openP_lt z.1
        omega
    unfold pairSum
    rw [e]
    rfl
  | _ => rfl
theorem soldFrom_zero {n : Nat} : ∀ (k : Nat) (rs : List Row), (∀ j r, rs[j]? = some r → lotsIn r n (k + j) (fillsOf r) = 0) → soldFrom n k rs = 0
  | _, [], _ => rfl
  | k, r :: rs, h => by
    have h0 := h 0 r rfl
    have h1 := soldFrom_zero (k + 1) rs fun j r hj => by
      have := h (j + 1) r (by simpa using hj)
      rw [show k + 1 + j = k + (j + 1) by omega]
      exact this
    unfold soldFrom
    rw [h1]
    simpa using h0
theorem sold_new {rows : List Row} (va : Valid rows) (ok : rowsOk rows) : sold rows rows.length = 0 := by
  refine soldFrom_zero 0 rows fun j r hj => ?_
  have hl : j < rows.length := (List.getElem?_eq_some_iff.mp hj).1
  have e : (rows.take j).length = j := by rw [List.length_take]; omega
  have := lots_none (n := rows.length) (va j r hj) (ok.2 r (List.mem_of_getElem? hj)) (by rw [e]; exact hl)
  rw [e] at this
  rw [Nat.zero_add]
  exact this
theorem no_cancel {rows : List Row} (va : Valid rows) : rows.contains (.cancel rows.length) = false := by
  cases h : rows.contains (.cancel rows.length) with
  | false => rfl
  | true =>
    have hm := List.contains_iff_mem.mp h
    obtain ⟨s, hs, e⟩ := List.getElem_of_mem hm
    have z := va s _ (List.getElem?_eq_getElem hs)
    rw [e] at z
    unfold stepOk at z
    rw [Bool.and_eq_true] at z
    have := openP_lt (show openP (rows.take s) [] rows.length = true from z.2)
    rw [List.length_take] at this
    omega
theorem fillSum_self (t : Nat) (fs : List Fill) : fillSum t t fs = (fs.map (·.s)).sum := by
  unfold fillSum
  congr 2
  rw [List.filter_eq_self]
  intro f _
  simp
/-- the new order's rest behind its row -/
theorem rest_new {rows : List Row} {m : Str} {b : Bool} {p s : Int} {fs : List Fill} (va : Valid rows) (ok : rowsOk rows) : sizeAt (rows ++ [Row.order m b p s fs]) rows.length - sold (rows ++ [Row.order m b p s fs]) rows.length = s - (fs.map (·.s)).sum := by
  rw [sold_snoc, sold_new va ok]
  have e : sizeAt (rows ++ [Row.order m b p s fs]) rows.length = s := by simp [sizeAt]
  rw [e]
  simp [lotsIn, fillsOf, fillSum_self]
theorem open_new {rows : List Row} {m : Str} {b : Bool} {p s : Int} {fs : List Fill} (va : Valid rows) (ok : rowsOk rows) : openP (rows ++ [Row.order m b p s fs]) [] rows.length = decide (0 < s - (fs.map (·.s)).sum) := by
  unfold openP
  have e1 : ordAt (rows ++ [Row.order m b p s fs]) rows.length = true := by simp [ordAt]
  have e2 : (rows ++ [Row.order m b p s fs]).contains (.cancel rows.length) = false := by
    cases h : (rows ++ [Row.order m b p s fs]).contains (.cancel rows.length) with
    | false => rfl
    | true =>
      have hm := List.contains_iff_mem.mp h
      rcases List.mem_append.mp hm with z | z
      · have := no_cancel va
        rw [List.contains_iff_mem.mpr z] at this
        cases this
      · simp at z
  rw [e1, e2, ← restP_nil, rest_new va ok]
  rfl
section
variable {P : Program} {w : World} {K : PySem.W.Frag} {mg : Str → Option Value} {base : Heap} {C : Addr} {f : Addr} {fd : FuncData}
theorem ok__law_check_behind (bl : Bl mg) (cn : Cn K mg) (h__law_fills : Has P w K mg base C "_law_fills" 1 ["_law_row"] g__law_fills) (h_lets_record : Has P w K mg base C "lets_record" 8 ["thing"] g_lets_record) (h_members_of : Has P w K mg base C "members_of" 1 ["record"] g_members_of) (h_open_at : HasD P w K mg base C "open_at" 5 ["record", "t", "i"] g_open_at) (h_order_at : Has P w K mg base C "order_at" 4 ["record", "n"] g_order_at) (h_orders_of : Has P w K mg base C "orders_of" 1 ["record"] g_orders_of) (h_rest_at : HasD P w K mg base C "rest_at" 5 ["record", "n", "t", "i"] g_rest_at) (h_traded : Has P w K mg base C "traded" 4 ["record", "n"] g_traded) (F : FunD K "_law_check_behind" "_law_check_behind" (defArgs s__law_check_behind) (defBody s__law_check_behind) (defScope s__law_check_behind) [] [] f fd) (hm : mg "_law_check_behind" = some (.ref f)) : Has P w K mg base C "_law_check_behind" 9 ["_law_good", "_law_row"] g__law_check_behind := by
  obtain ⟨f__law_fills, fd__law_fills, F__law_fills, m__law_fills, k__law_fills, b__law_fills⟩ := h__law_fills
  obtain ⟨f_lets_record, fd_lets_record, F_lets_record, m_lets_record, k_lets_record, b_lets_record⟩ := h_lets_record
  obtain ⟨f_members_of, fd_members_of, F_members_of, m_members_of, k_members_of, b_members_of⟩ := h_members_of
  obtain ⟨f_open_at, fd_open_at, d_x, F_open_at, m_open_at, k_open_at, b_open_at, d_open_at, v_open_at⟩ := h_open_at
  obtain ⟨f_order_at, fd_order_at, F_order_at, m_order_at, k_order_at, b_order_at⟩ := h_order_at
  obtain ⟨f_orders_of, fd_orders_of, F_orders_of, m_orders_of, k_orders_of, b_orders_of⟩ := h_orders_of
  obtain ⟨f_rest_at, fd_rest_at, d_x, F_rest_at, m_rest_at, k_rest_at, b_rest_at, d_rest_at, v_rest_at⟩ := h_rest_at
  obtain ⟨f_traded, fd_traded, F_traded, m_traded, k_traded, b_traded⟩ := h_traded
  have S : FnScope ["_law_good", "_law_row", "_law_many", "_law_late", "_law_n", "_law_fall", "_law_price", "_law_size", "_law_m", "_law_pair", "_law_there", "_law_left", "_law_some"] ["_law_good", "_law_row"] (defScope s__law_check_behind) := ⟨rfl, rfl, rfl, by decide +kernel, rfl, by decide +kernel, by decide +kernel⟩
  refine ⟨f, fd, fn_w F S (fun sls c P h => ?len) (fun cdv A outer s H E r hr => have hu := hu_of' hr; have hp := passes_of rfl; ((pwss_cons (pws_par 2 3 rfl S.nd (paw_cons (pw_callB calW_len call_len bl.len (paw_cons (pw_ix (pw_var 0) pw_int) paw_nil)) (paw_cons (pw_tup (paw_cons (pw_ix (pw_var 0) pw_int) (paw_cons (pw_op opW_add op_addA (pw_ix (pw_var 0) pw_int) (pw_tup (paw_cons (pw_var 1) paw_nil))) paw_nil))) paw_nil)))
      (pwss_cons (pws_if (PW.pt (pww_or (pwt_cmp opW_ne (op_neA hr.units) (pw_call F_lets_record (hr.mono (by decide)) m_lets_record k_lets_record b_lets_record .nil (fun _ _ => .nil) (par_dat (pw_var 3) par_nil)) (pw_op opW_add op_addA (pw_var 2) pw_int) (nomark _)) (pww_or1 (pwt_cmp opW_ne (op_neA hr.units) (pw_call (dsl := [.dat (.int 0)]) F_open_at (hr.mono (by decide)) m_open_at k_open_at v_open_at d_open_at (fun _ _ => .cons (DX.int 0) .nil) (par_dat (pw_var 3) (par_dat (pw_var 2) par_nil))) (pw_call (dsl := [.dat (.int 0)]) F_open_at (hr.mono (by decide)) m_open_at k_open_at v_open_at d_open_at (fun _ _ => .cons (DX.int 0) .nil) (par_dat (pw_var 0) (par_dat (pw_var 2) par_nil))) (nomark _))))) (pwss_one (pws_ret pw_bl)) pwss_nil)
      (pwss_cons (pws_for hp rfl (pwi_tup (pw_call F_orders_of (hr.mono (by decide)) m_orders_of k_orders_of b_orders_of .nil (fun _ _ => .nil) (par_dat (pw_var 0) par_nil))) (pwg_name 4 S.nd) (pwss_cons (pws_set 5 S.nd (pw_callB calW_sum (cr_sum rfl) bl.sum (paw_cons (pw_lc [("_law_price", 6), ("_law_size", 7), ("_law_m", 8)] rfl S.nd (pwi_tup (pw_call F__law_fills (hr.mono (by decide)) m__law_fills k__law_fills b__law_fills .nil (fun _ _ => .nil) (par_dat (pw_var 1) par_nil))) (blkOk_by (by kernel_rfl)) (fun _ _ _ _ _ => (pwg_tup 3 rfl (pwgs_cons (pwg_name 6 S.nd) (pwgs_cons (pwg_name 7 S.nd) (pwgs_cons (pwg_name 8 S.nd) pwgs_nil))))) (fun _ _ _ _ _ => (pts_one (pwt_cmp opW_eq (op_eqA hr.units) (pw_var 8) (pw_var 4) (nomark _)))) (fun _ _ _ _ _ => (pw_var 7))) paw_nil)))
      (pwss_cons (pws_set 5 S.nd (pw_op opW_add op_addA (pw_var 5) (pw_callB calW_sum (cr_sum rfl) bl.sum (paw_cons (pw_lc [("_law_pair", 9)] rfl S.nd (pwi_tup (pw_ite (pwt_cmp opW_eq (op_eqA hr.units) (pw_ix (pw_var 1) pw_int) pw_str (nomark _)) (pw_ix (pw_var 1) pw_int) (pw_tup paw_nil))) (blkOk_by (by kernel_rfl)) (fun _ _ _ _ _ => (pwg_name 9 S.nd)) (fun _ _ _ _ _ => (pts_one (pwt_cmp opW_eq (op_eqA hr.units) (pw_ix (pw_var 9) pw_int) (pw_var 4) (nomark _)))) (fun _ _ _ _ _ => (pw_ix (pw_var 9) pw_int))) paw_nil))))
      (pwss_cons (pws_if (pwt_cmp opW_ne (op_neA hr.units) (pw_call (dsl := [.dat (.int 0)]) F_rest_at (hr.mono (by decide)) m_rest_at k_rest_at v_rest_at d_rest_at (fun _ _ => .cons (DX.int 0) .nil) (par_dat (pw_var 3) (par_dat (pw_var 4) (par_dat (pw_op opW_add op_addA (pw_var 2) pw_int) par_nil)))) (pw_op opW_sub op_sub (pw_call (dsl := [.dat (.int 0)]) F_rest_at (hr.mono (by decide)) m_rest_at k_rest_at v_rest_at d_rest_at (fun _ _ => .cons (DX.int 0) .nil) (par_dat (pw_var 0) (par_dat (pw_var 4) (par_dat (pw_var 2) par_nil)))) (pw_var 5)) (nomark _)) (pwss_one (pws_ret pw_bl)) pwss_nil)
      (pwss_cons (pws_if (pwt_cmp opW_ne (op_neA hr.units) (pw_call F_traded (hr.mono (by decide)) m_traded k_traded b_traded .nil (fun _ _ => .nil) (par_dat (pw_var 3) (par_dat (pw_var 4) par_nil))) (pw_op opW_add op_addA (pw_call F_traded (hr.mono (by decide)) m_traded k_traded b_traded .nil (fun _ _ => .nil) (par_dat (pw_var 0) (par_dat (pw_var 4) par_nil))) (pw_var 5)) (nomark _)) (pwss_one (pws_ret pw_bl)) pwss_nil)
      (pwss_cons (pws_set 10 S.nd (pw_and (pw_cmp opW_in (op_inA hu) (pw_var 4) (pw_call (dsl := [.dat (.int 0)]) F_open_at (hr.mono (by decide)) m_open_at k_open_at v_open_at d_open_at (fun _ _ => .cons (DX.int 0) .nil) (par_dat (pw_var 0) (par_dat (pw_var 2) par_nil))) (by with_unfolding_all rfl)) (pw_and (pw_cmp opW_cmp op_gt (pw_call (dsl := [.dat (.int 0)]) F_rest_at (hr.mono (by decide)) m_rest_at k_rest_at v_rest_at d_rest_at (fun _ _ => .cons (DX.int 0) .nil) (par_dat (pw_var 3) (par_dat (pw_var 4) (par_dat (pw_op opW_add op_addA (pw_var 2) pw_int) par_nil)))) pw_int (nomark _)) (pw_one (pw_cmp opW_ne (op_neA hr.units) (pw_var 1) (pw_tup (paw_cons pw_str (paw_cons (pw_var 4) paw_nil))) (nomark _))))))
      (pwss_one (pws_if (pwt_cmp opW_ne (op_neA hr.units) (pw_cmp opW_in (op_inA hu) (pw_var 4) (pw_call (dsl := [.dat (.int 0)]) F_open_at (hr.mono (by decide)) m_open_at k_open_at v_open_at d_open_at (fun _ _ => .cons (DX.int 0) .nil) (par_dat (pw_var 3) (par_dat (pw_op opW_add op_addA (pw_var 2) pw_int) par_nil))) (by with_unfolding_all rfl)) (pw_var 10) (nomark _)) (pwss_one (pws_ret pw_bl)) pwss_nil))))))))
      (pwss_cons (pws_if (pwt_cmp opW_ne (op_neA hr.units) (pw_ix (pw_var 1) pw_int) pw_str (nomark _)) (pwss_one (pws_ret (pw_and (pw_cmp opW_eq (op_eqA hr.units) (pw_call F_orders_of (hr.mono (by decide)) m_orders_of k_orders_of b_orders_of .nil (fun _ _ => .nil) (par_dat (pw_var 3) par_nil)) (pw_call F_orders_of (hr.mono (by decide)) m_orders_of k_orders_of b_orders_of .nil (fun _ _ => .nil) (par_dat (pw_var 0) par_nil)) (nomark _)) (pw_one (pw_cmp opW_eq (op_eqA hr.units) (pw_call F_members_of (hr.mono (by decide)) m_members_of k_members_of b_members_of .nil (fun _ _ => .nil) (par_dat (pw_var 3) par_nil)) (pw_call F_members_of (hr.mono (by decide)) m_members_of k_members_of b_members_of .nil (fun _ _ => .nil) (par_dat (pw_var 0) par_nil)) (nomark _)))))) pwss_nil)
      (pwss_cons (pws_set 11 S.nd (pw_op opW_sub op_sub (pw_ix (pw_var 1) pw_int) (pw_callB calW_sum (cr_sum rfl) bl.sum (paw_cons (pw_lc [("_law_price", 6), ("_law_size", 7), ("_law_m", 8)] rfl S.nd (pwi_tup (pw_ix (pw_var 1) pw_int)) (blkOk_by (by kernel_rfl)) (fun _ _ _ _ _ => (pwg_tup 3 rfl (pwgs_cons (pwg_name 6 S.nd) (pwgs_cons (pwg_name 7 S.nd) (pwgs_cons (pwg_name 8 S.nd) pwgs_nil))))) (fun _ _ _ _ _ => pwts_nil) (fun _ _ _ _ _ => (pw_var 7))) paw_nil))))
      (pwss_cons (pws_if (PW.pt (pww_or (pwt_cmp opW_ne (op_neA hr.units) (pw_call F_order_at (hr.mono (by decide)) m_order_at k_order_at b_order_at .nil (fun _ _ => .nil) (par_dat (pw_var 3) (par_dat (pw_var 2) par_nil))) (pw_slice (pw_var 1) (pwo_some pw_int) (pwo_some pw_int)) (nomark _)) (pww_or1 (pwt_cmp opW_ne (op_neA hr.units) (pw_call (dsl := [.dat (.int 0)]) F_rest_at (hr.mono (by decide)) m_rest_at k_rest_at v_rest_at d_rest_at (fun _ _ => .cons (DX.int 0) .nil) (par_dat (pw_var 3) (par_dat (pw_var 2) (par_dat (pw_op opW_add op_addA (pw_var 2) pw_int) par_nil)))) (pw_var 11) (nomark _))))) (pwss_one (pws_ret pw_bl)) pwss_nil)
      (pwss_cons (pws_set 12 S.nd (pw_callTy calW_tuple call_tuple_of bl.tuple (paw_cons (pw_sortedSet rfl bl.sorted bl.set (pw_op opW_add op_addA (pw_call F_members_of (hr.mono (by decide)) m_members_of k_members_of b_members_of .nil (fun _ _ => .nil) (par_dat (pw_var 0) par_nil)) (pw_slice (pw_var 1) (pwo_some pw_int) (pwo_some pw_int)))) paw_nil)))
      (pwss_one (pws_ret (pw_and (pw_cmp opW_eq (op_eqA hr.units) (pw_cmp opW_in (op_inA hu) (pw_var 2) (pw_call (dsl := [.dat (.int 0)]) F_open_at (hr.mono (by decide)) m_open_at k_open_at v_open_at d_open_at (fun _ _ => .cons (DX.int 0) .nil) (par_dat (pw_var 3) (par_dat (pw_op opW_add op_addA (pw_var 2) pw_int) par_nil))) (by with_unfolding_all rfl)) (pw_cmp opW_cmp op_gt (pw_var 11) pw_int (nomark _)) (nomark _)) (pw_one (pw_cmp opW_eq (op_eqA hr.units) (pw_call F_members_of (hr.mono (by decide)) m_members_of k_members_of b_members_of .nil (fun _ _ => .nil) (par_dat (pw_var 3) par_nil)) (pw_var 12) (nomark _))))))))))))))) (fun sls c P h => ?data), hm, F.kp, F.bindsN fun _ _ _ _ _ _ us hl => match us, hl with | [_, _], _ => rfl⟩
  case len =>
    obtain ⟨x, rows, row, rfl, h⟩ := h
    rfl
  case data =>
    obtain ⟨x, rows, row, rfl, h⟩ := h
    obtain ⟨hru, hg, hro, hst, h⟩ := h
    have hz := hg.len
    have hL : LIM = 100000 := rfl
    have hlo := behind_ok hg hro
    refine seqW_gen fun K k1 k2 => ?_
    simp [rho0, recD, rowsT]
    refine ⟨by omega, by omega, ?_⟩
    have elate : PyData.tuple [.str x, .tuple (rows.map rowD ++ [rowD row])] = recD x (rows ++ [row]) := by simp [recD, rowsT]
    rw [elate]
    rw [show PyData.tuple [.str x, .tuple (rows.map rowD)] = recD x rows from rfl]
    simp [par2W]
    refine ⟨by omega, k1 _ _ ?_⟩
    clear k1 k2
    refine seqW_gen fun K k1 k2 => ?_
    refine ifW_gen fun T t1 t2 => ?_
    simp
    have hva := hg.va.snoc hst
    have hall := hva.all
    refine ⟨x, rows ++ [row], rfl, hru, hlo, fun _ => ?_, fun t r ht _ hs => ?_⟩
    rotate_left
    · rw [hva t r ht] at hs
      cases hs
    simp
    refine ⟨x, rows ++ [row], rows.length, rfl, hlo, by simp, ?_⟩
    simp
    refine ⟨x, rows, rows.length, rfl, hg.ok, Nat.le_refl _, ?_⟩
    simp
    rw [open_snoc]
    refine eqW_by (PL.nats _) (PL.nats _) (.inl ⟨_, rfl⟩) (b := true) (by simp) ?_
    simp
    refine t2 _ ?_
    simp
    refine k1 _ _ ?_
    clear k1 k2 t1 t2
    refine seqW_gen fun K k1 k2 => ?_
    simp
    refine ⟨x, rows, rfl, hg.ok, ?_⟩
    simp [natsD]
    refine forG_map (fun n : Nat => PyData.int (n : Int)) (fun k ρ c' => c' = c ∧ ∃ s4 s5 s10, ρ = [.dat (recD x rows), .dat (rowD row), .dat (.int rows.length), .dat (recD x (rows ++ [row])), s4, s5, .no, .no, .no, .no, s10, .no, .no]) (ordersP rows) (fun k n hk ρ c' Q hI q1 q2 => ?_) ⟨rfl, _, _, _, rfl⟩ (fun ρ c' hI => ?_)
    · obtain ⟨rfl, s4, s5, s10, rfl⟩ := hI
      have hord : ordAt rows n = true := mem_orders.mp (List.mem_of_getElem? hk)
      have hlt := ordAt_lt hord
      simp only [gNm_def, rW_def]
      refine seqW_gen fun K5 k5 k6 => ?_
      have hfl : (fillsOf row).length ≤ 50 := by
        cases row with
        | order m b p s fs => exact hro.2.2.2.1
        | prints fs => exact hro.1
        | _ => simp [fillsOf]
      simp [lcD]
      refine ⟨by omega, ?_⟩
      refine lcG_fl fillD (fun f => decide (f.n = some n)) (fun f => PyData.int f.s) (fillsOf row) (fun q hq c Q hQ => ?_) ?_
      · obtain ⟨p, z, m⟩ := q
        simp [fillD, wipeR]
        cases m with
        | none => simpa [nD] using hQ
        | some m => by_cases e : m = n <;> simpa [nD, e] using hQ
      simp
      refine ⟨((fillsOf row).filter fun f => decide (f.n = some n)).map (·.s), by simp, k5 _ _ ?_⟩
      clear k5 k6
      refine seqW_gen fun K5 k5 k6 => ?_
      have hps : (pairsOf row).length ≤ 50 := by
        cases row with
        | call p ps => exact hro.1.len
        | _ => simp [pairsOf]
      simp [lcD]
      have hite : ∀ G : List D → Nat → Prop, G ((pairsOf row).map pairD) c' → (ixW (rowD row) (.int 0) c' fun a c1 => eqW a (.str "call") c1 fun a c1 => asB a c1 fun a c1 => if a = true then ixW (rowD row) (.int 2) c1 fun a c1 => asT a c1 fun a c1 => a.length ≤ LIM ∧ G a c1 else G [] c1) := fun G hG => by
        cases row with
        | call p ps => simpa [rowD, pairsD, pairsOf] using ⟨by simpa [pairsOf] using (show (pairsOf (.call p ps)).length ≤ LIM by omega), by simpa [pairsOf] using hG⟩
        | _ => simpa [rowD, pairsOf] using hG
      refine hite _ ?_
      refine lcG_fl pairD (fun q => decide (q.1 = n)) (fun q => PyData.int q.2) (pairsOf row) (fun q hq c Q hQ => ?_) ?_
      · simp [pairD]
        by_cases e : q.1 = n
        · simpa [e] using hQ
        · simpa [e] using hQ
      simp
      refine ⟨((pairsOf row).filter fun q => decide (q.1 = n)).map (·.2), by simp, k5 _ _ ?_⟩
      clear k5 k6 hite
      have efall : (List.map (fun x => x.s) (List.filter (fun f => decide (f.n = some n)) (fillsOf row))).sum + (((pairsOf row).filter fun q => decide (q.1 = n)).map (·.2)).sum = fall2 row n := rfl
      rw [efall]
      refine seqW_gen fun K5 k5 k6 => ?_
      refine ifW_gen fun T t1 t2 => ?_
      simp
      have et : (rows ++ [row]).take (rows.length + 1) = rows ++ [row] := List.take_of_length_le (by simp)
      have hord2 : ordAt (rows ++ [row]) n = true := by rw [ordAt_snoc hlt]; exact hord
      refine ⟨x, rows ++ [row], n, rows.length + 1, by simp, hlo, by simp, hord2, ?_⟩
      rw [et, rest_snoc hlt]
      simp
      refine ⟨x, rows, n, rows.length, rfl, hg.ok, Nat.le_refl _, hord, ?_⟩
      rw [List.take_length, restP_nil]
      simp
      refine t2 _ ?_
      simp
      refine k5 _ _ ?_
      clear k5 k6 t1 t2
      refine seqW_gen fun K5 k5 k6 => ?_
      refine ifW_gen fun T t1 t2 => ?_
      simp
      refine ⟨x, rows ++ [row], n, rfl, hlo, hord2, ?_⟩
      simp
      refine ⟨x, rows, n, rfl, hg.ok, hord, ?_⟩
      have esd : sold (rows ++ [row]) n = sold rows n + fall2 row n := by rw [sold_snoc, fall2_eq hlt]
      rw [esd]
      simp
      refine t2 _ ?_
      simp
      refine k5 _ _ ?_
      clear k5 k6 t1 t2
      refine seqW_gen fun K5 k5 k6 => ?_
      simp
      refine ⟨x, rows, rows.length, rfl, hg.ok, Nat.le_refl _, ?_⟩
      rw [List.take_length]
      simp
      have hk5 : K5 (.nx [.dat (recD x rows), .dat (rowD row), .dat (.int rows.length), .dat (recD x (rows ++ [row])), .dat (.int n), .dat (.int (fall2 row n)), .no, .no, .no, .no, .dat (.bool (openP (rows ++ [row]) [] n)), .no, .no]) c' := k5 _ _ (by
        refine ifW_gen fun T t1 t2 => ?_
        simp
        refine ⟨x, rows ++ [row], rows.length + 1, by simp, hlo, by simp, ?_⟩
        rw [et]
        simp
        refine ⟨⟨(PL.int _).shaped (by decide), (PL.natsL _).shaped (by decide)⟩, ?_⟩
        rw [any_nat]
        have e : decide (n ∈ (ordersP (rows ++ [row])).filter fun n => openP (rows ++ [row]) [] n) = openP (rows ++ [row]) [] n := by
          rw [Bool.eq_iff_iff, decide_eq_true_eq]
          exact mem_open
        rw [e]
        show T (!decide (openP (rows ++ [row]) [] n = openP (rows ++ [row]) [] n)) c'
        simp
        exact t2 _ (by simp; exact q1 _ _ ⟨rfl, _, _, _, rfl⟩))
      clear k5 k6
      rw [openP_snoc hro hord] at hk5
      refine ⟨⟨(PL.int _).shaped (by decide), (PL.natsL _).shaped (by decide)⟩, ?_⟩
      rw [any_nat]
      have e : decide (n ∈ (ordersP rows).filter fun n => openP rows [] n) = openP rows [] n := by
        rw [Bool.eq_iff_iff, decide_eq_true_eq]
        exact mem_open
      rw [e]
      cases ho : openP rows [] n with
      | false =>
        rw [ho] at hk5
        simpa using hk5
      | true =>
        rw [ho] at hk5
        simp
        refine ⟨x, rows ++ [row], n, rows.length + 1, by simp, hlo, by simp, hord2, ?_⟩
        rw [et, rest_snoc hlt]
        simp
        by_cases e1 : 0 < restP rows [] n - fall2 row n
        · have e2 : fall2 row n < restP rows [] n := by omega
          simp [e2]
          refine ⟨by omega, ?_⟩
          refine eqW_by (n := 3) (m := 1) (PL.row hro.nm) ?_ (.inl ?_) (b := decide (row = .cancel n)) ?_ ?_
          · exact .tuple fun y hy => by
              simp at hy
              rcases hy with rfl | rfl
              · exact PL.str (by decide +kernel)
              · exact .int _
          · cases row <;> exact ⟨_, rfl⟩
          · rw [decide_eq_true_eq]
            exact ⟨fun z => by rw [z]; rfl, fun z => rowD_inj (b := .cancel n) z⟩
          · simpa [e2] using hk5
        · have e2 : ¬ fall2 row n < restP rows [] n := by omega
          simpa [e2] using hk5
    · obtain ⟨rfl, s4, s5, s10, rfl⟩ := hI
      refine k1 _ _ ?_
      clear k1 k2
      refine seqW_gen fun K k1 k2 => ?_
      refine ifW_gen fun T t1 t2 => ?_
      have hkind : ∀ T : Bool → Nat → Prop, T (!isOrd row) c' → (ixW (rowD row) (.int 0) c' fun a c1 => neW a (.str "order") c1 fun a c1 => asB a c1 T) := fun T hT => by
        cases row <;> simpa [rowD, isOrd] using hT
      simp
      refine hkind _ ?_
      clear hkind
      cases hio : isOrd row with
      | false =>
        refine t1 _ ?_
        simp
        refine ⟨x, rows ++ [row], rfl, hlo, ?_⟩
        simp
        refine ⟨x, rows, rfl, hg.ok, ?_⟩
        rw [ordersP_snoc, hio]
        refine eqW_by (PL.nats _) (PL.nats _) (.inl ⟨_, rfl⟩) (b := true) (by simp) ?_
        simp
        refine ⟨x, rows ++ [row], rfl, hlo, fun ns hns => ?_⟩
        simp
        refine ⟨x, rows, rfl, hg.ok, fun ns2 hns2 => ?_⟩
        have ems : memsP (rows ++ [row]) = memsP rows := by
          rw [memsP_snoc]
          cases row <;> simp [memOf, isOrd] at hio ⊢
        rw [ems] at hns
        have en := hns.uniq hns2 fun k => Iff.rfl
        subst en
        have hpl : PL 1 (.tuple (txtsD ns)) := .txts fun y hy => mems_nm hg.ok y ((hns.mem y).mp hy)
        refine eqW_by hpl hpl (.inl ⟨_, rfl⟩) (b := true) (by simp) ?_
        simp
        exact k2 (.rt _) _ (by simp) h
      | true =>
        cases row with
        | order m b p s fs =>
          refine t2 _ ?_
          simp
          refine k1 _ _ ?_
          clear k1 k2 t1 t2
          refine seqW_gen fun K k1 k2 => ?_
          have hf50 : fs.length ≤ 50 := hro.2.2.2.1
          simp [rowD, fillsD, lcD]
          refine ⟨by omega, ?_⟩
          refine lcG_fl fillD (fun _ => true) (fun f => PyData.int f.s) fs (fun q hq c Q hQ => ?_) ?_
          · simpa [fillD] using hQ
          simp
          refine ⟨fs.map (·.s), by rw [List.filter_eq_self.mpr (fun _ _ => rfl), List.map_map]; rfl, k1 _ _ ?_⟩
          clear k1 k2
          refine seqW_gen fun K k1 k2 => ?_
          refine ifW_gen fun T t1 t2 => ?_
          simp
          refine ⟨x, rows ++ [.order m b p s fs], rows.length, m, b, p, s, fs, rfl, hlo, by simp, ?_⟩
          simp [cutD_15]
          have hnm : nmOk m := (show rowNm (.order m b p s fs) from hro.nm)
          have hpl4 : PL 1 (.tuple [.str m, sideD b, .int p, .int s]) := .tuple fun y hy => by
            simp at hy
            rcases hy with rfl | rfl | rfl | rfl
            · exact .str hnm
            · exact .side b
            · exact .int _
            · exact .int _
          refine eqW_by hpl4 hpl4 (.inl ⟨_, rfl⟩) (b := true) (by simp) ?_
          simp
          have et : (rows ++ [Row.order m b p s fs]).take (rows.length + 1) = rows ++ [Row.order m b p s fs] := List.take_of_length_le (by simp)
          refine ⟨x, rows ++ [.order m b p s fs], rows.length, rows.length + 1, by simp, hlo, by simp, by simp [ordAt], ?_⟩
          rw [et, rest_new hg.va hg.ok]
          simp
          refine t2 _ ?_
          simp
          refine k1 _ _ ?_
          clear k1 k2 t1 t2
          refine seqW_gen fun K k1 k2 => ?_
          simp
          refine ⟨x, rows, rfl, hg.ok, fun ns hns => ?_⟩
          have hnl : ns.length ≤ rows.length := Nat.le_trans (nodup_len ns (memsP rows) hns.nd fun k hk => (hns.mem k).mp hk) (memsP_len rows)
          have etx : (txtsD ns).length = ns.length := by simp [txtsD]
          simp [cutD_12]
          refine ⟨by omega, ns ++ [m], by simp [txtsD], by simp; omega, fun ns2 hns2 => ?_⟩
          simp
          refine k1 _ _ ?_
          clear k1 k2
          simp
          refine ⟨x, rows ++ [.order m b p s fs], rows.length + 1, by simp, hlo, by simp, ?_⟩
          rw [et]
          simp
          refine ⟨⟨(PL.int _).shaped (by decide), (PL.natsL _).shaped (by decide)⟩, ?_⟩
          rw [any_nat]
          have eo : decide (rows.length ∈ (ordersP (rows ++ [Row.order m b p s fs])).filter fun n => openP (rows ++ [Row.order m b p s fs]) [] n) = openP (rows ++ [Row.order m b p s fs]) [] rows.length := by
            rw [Bool.eq_iff_iff, decide_eq_true_eq]
            exact mem_open
          rw [eo, open_new hg.va hg.ok]
          have ed : decide (0 < s - (fs.map (·.s)).sum) = decide ((fs.map (·.s)).sum < s) := by
            by_cases e : (fs.map (·.s)).sum < s
            · have e2 : 0 < s - (fs.map (·.s)).sum := by omega
              rw [decide_eq_true e, decide_eq_true e2]
            · have e2 : ¬ 0 < s - (fs.map (·.s)).sum := by omega
              rw [decide_eq_false e, decide_eq_false e2]
          rw [if_pos ed]
          refine ⟨x, rows ++ [.order m b p s fs], rfl, hlo, fun ns3 hns3 => ?_⟩
          simp
          have ems : memsP (rows ++ [Row.order m b p s fs]) = memsP rows ++ [m] := by rw [memsP_snoc]; rfl
          rw [ems] at hns3
          have en : ns3 = ns2 := hns3.uniq hns2 fun k => by
            rw [List.mem_append, List.mem_append, hns.mem]
          subst en
          have hpl : PL 1 (.tuple (txtsD ns3)) := .txts fun y hy => by
            have := (hns3.mem y).mp hy
            rcases List.mem_append.mp this with z | z
            · exact mems_nm hg.ok y z
            · rw [List.mem_singleton.mp z]
              exact hnm
          refine eqW_by hpl hpl (.inl ⟨_, rfl⟩) (b := true) (by simp [txtsD]) ?_
          simpa using h
        | _ => simp [isOrd] at hio
end
end FK
set_option Elab.async false
set_option linter.all false
set_option maxRecDepth 1000000
set_option maxHeartbeats 0
namespace FK
open PySem PySem.Spec L2
def loose0 : List Str := ["_wall", "ShownError", "PaperError", "RecordError", "AuditError", "TextError", "InvalidPaper", "UnknownOrder", "UnknownMember", "NotUsable", "InvalidEvent", "NothingToUndo", "InvalidText", "InvalidRow", "LETTERS", "LONGEST_NAME", "SIDES", "RULES", "is_integer", "is_number", "is_size", "is_name", "is_side", "is_rule", "is_fill", "are_fills", "is_pair", "are_pairs", "is_order_row", "is_call_row"]
def loose1 : List Str := ["is_row", "fills_in", "lots_in", "lots_before", "rest_of", "is_open", "is_shut", "BUY", "require", "has_shape", "is_within", "check_closed", "check_resting", "check_own", "check_print", "check_call", "check_row", "lets_record", "NOBODY", "order_word", "fill_words", "row_words", "row_text", "record_text", "members_of", "orders_of", "require_order", "is_place", "require_place", "order_at"]
def loose2 : List Str := ["rest_at", "open_at", "is_closed_at", "traded", "strange_fills", "seen_row", "seen", "with_rule", "Record", "_law_reader", "_law_draw", "_law_class_flags", "_law_own_flags", "_law_fields", "_law_outcome", "_law_fills", "_law_trades", "_law_rest", "_law_orders", "_law_open", "_law_is_shut", "_law_new_fills", "_law_new_row", "_law_random_rows", "_law_random_record", "_law_fixed_records", "_law_can_fill", "_law_can_follow", "_law_check_behind", "_law_candidates"]
def loose : List Str := loose0 ++ loose1 ++ loose2
/-! ### a part of the heap, found quickly -/
def selO (o : Obj) : List Addr := match o.data with
  | .dict es _ => es.toList.flatMap fun e => He.refV e.val
  | .func fd => He.refV fd.code ++ (He.refV fd.defaults ++ fd.closure.map (·.2))
  | .cls cd => [cd.ns]
  | .fields vs => (match o.cls with
    | .type "property" => vs.toList.flatMap He.refV
    | _ => [])
  | _ => []
def nxt (g : Addr → Option Obj) (as : List Addr) : List Addr := as.flatMap fun a => match g a with
  | some o => selO o
  | none => []
def fcL {α : Type} : List Addr → (List Addr → α) → α
  | [], k => k []
  | a :: r, k => HandSHeadRun.frNat a fun a => fcL r fun r => k (a :: r)
theorem fcL_eq {α : Type} : ∀ (l : List Addr) (k : List Addr → α), fcL l k = k l
  | [], _ => rfl
  | a :: r, k => by
    show (HandSHeadRun.frNat a fun a => fcL r fun r => k (a :: r)) = _
    rw [HandSHeadRun.frNat_eq, fcL_eq r]
def fcK {α : Type} (g : Addr → Option Obj) : List Addr → (PySem.W.Frag → α) → α
  | [], k => k []
  | a :: r, k => match g a with
    | none => fcK g r k
    | some o => match He.emptyTab o with
      | true => fcK g r k
      | false => fcK g r fun K => k ((a, o) :: K)
def frK (g : Addr → Option Obj) : List Addr → PySem.W.Frag
  | [] => []
  | a :: r => match g a with
    | none => frK g r
    | some o => match He.emptyTab o with
      | true => frK g r
      | false => (a, o) :: frK g r
theorem fcK_eq {α : Type} (g : Addr → Option Obj) : ∀ (l : List Addr) (k : PySem.W.Frag → α), fcK g l k = k (frK g l)
  | [], _ => rfl
  | a :: r, k => by
    unfold fcK frK
    cases e : g a with
    | none => exact fcK_eq g r k
    | some o =>
      cases e2 : He.emptyTab o with
      | true => simp only [e2]; exact fcK_eq g r k
      | false => simp only [e2]; rw [fcK_eq g r]
theorem frK_mem {g : Addr → Option Obj} {p : Addr × Obj} : ∀ {l : List Addr}, p ∈ frK g l → g p.1 = some p.2 ∧ He.emptyTab p.2 = false
  | [], h => by cases h
  | a :: r, h => by
    unfold frK at h
    cases e : g a with
    | none => rw [e] at h; exact frK_mem h
    | some o =>
      rw [e] at h
      cases e2 : He.emptyTab o with
      | true => simp only [e2] at h; exact frK_mem h
      | false =>
        simp only [e2] at h
        rcases List.mem_cons.mp h with rfl | h
        · exact ⟨e, e2⟩
        · exact frK_mem h
theorem frK_at {g : Addr → Option Obj} {l : List Addr} {a : Addr} {o : Obj} (h : (frK g l).lookup a = some o) : g a = some o ∧ He.emptyTab o = false := frK_mem (p := (a, o)) (He.lookup_mem h)
theorem frK_in {l : List Addr} {h : Heap} : (frK h.get? l).In h := fun _ _ e => (frK_at e).1
/-! ### what is told -/
structure Hk where
  fa : List He.Fa
  fn : List He.DefD
  tf : List He.Defn
  ex : PySem.W.Frag → Bool
  da : List He5.DefA
  dc : List He.DefD
abbrev FnC : Type := Option (Str × Str × Arguments × FuncBody × Scope × Addr × List Str × Addr)
/-- a def with captured names -/
def fnC (K : PySem.W.Frag) (p : Str × Option Str) : FnC := match K.lookup (He.fAd K p) with
  | some ⟨_, _, .func fd, _⟩ => some (fd.name, fd.qualname, fd.params, fd.body, fd.scope, fd.globals, fd.closure.map (·.1), fd.builtins)
  | _ => none
def valC (d : He.DefD) : FnC := some (d.name, d.qual, d.params, .stmts d.body, d.scope, mainGlobals, ["__class__"], builtinsNs)
structure SaysY (k : Hk) (h : Heap) (K : PySem.W.Frag) : Prop where
  d : He.SaysD k.fa k.fn K
  more : k.ex K = true
  hd : ∀ p ∈ k.tf, PySem.W.codeHdIn K (He.cT K p).1 (He.cT K p).2 = true
  out : ∀ p ∈ k.tf, K.lookup (He.cT K p).2 = none
  empty : ∀ p ∈ k.tf, h.get? (He.cT K p).2 = some { cls := .none, data := .fields #[] }
  a : (k.da.map fun d => He5.fnA K (d.at_ K)) = k.da.map He5.DefA.val
  ok : (k.da.all fun d => d.ok K) = true
  c : (k.dc.map fun d => fnC K d.at_) = k.dc.map valC
abbrev AlY : Type := He.AlD × (Bool × (List He.FnW × List FnC))
def obsK (k : Hk) (g : Addr → Option Obj) (K : PySem.W.Frag) : AlY :=
  (He.obsD k.fa k.fn K, ((k.ex K && (He.tabsB g k.tf K && k.da.all fun d => d.ok K)), (k.da.map fun d => He5.fnA K (d.at_ K), k.dc.map fun d => fnC K d.at_)))
/-- five steps from the module's names -/
def obsY (k : Hk) (g : Addr → Option Obj) : AlY :=
  fcL (nxt g [mainGlobals]) fun l1 => fcL (nxt g l1) fun l2 => fcL (nxt g l2) fun l3 => fcL (nxt g l3) fun l4 => fcL (nxt g l4) fun l5 =>
    fcK g (mainGlobals :: cStatics :: (l1 ++ (l2 ++ (l3 ++ (l4 ++ l5))))) fun K => obsK k g K
def asY (g : Addr → Option Obj) : List Addr := mainGlobals :: cStatics :: (nxt g [mainGlobals] ++ (nxt g (nxt g [mainGlobals]) ++ (nxt g (nxt g (nxt g [mainGlobals])) ++ (nxt g (nxt g (nxt g (nxt g [mainGlobals]))) ++ nxt g (nxt g (nxt g (nxt g (nxt g [mainGlobals]))))))))
theorem obsY_is (k : Hk) (g : Addr → Option Obj) : obsY k g = obsK k g (frK g (asY g)) := by
  unfold obsY asY
  simp only [fcL_eq, fcK_eq]
def valY (k : Hk) : AlY := (He.valD k.fn, (true, (k.da.map He5.DefA.val, k.dc.map valC)))
theorem saysY_of {k : Hk} {h : Heap} (e : obsY k h.get? = valY k) : SaysY k h (frK h.get? (asY h.get?)) := by
  rw [obsY_is] at e
  generalize hK : frK h.get? (asY h.get?) = K at e ⊢
  have e1 : He.obsD k.fa k.fn K = He.valD k.fn := congrArg (fun z : AlY => z.1) e
  have e2 : ((k.ex K && (He.tabsB h.get? k.tf K && k.da.all fun d => d.ok K)), (k.da.map fun d => He5.fnA K (d.at_ K), k.dc.map fun d => fnC K d.at_)) = (true, (k.da.map He5.DefA.val, k.dc.map valC)) := congrArg (fun z : AlY => z.2) e
  obtain ⟨h1, h2⟩ := Prod.mk.inj e2
  obtain ⟨h2, hc⟩ := Prod.mk.inj h2
  obtain ⟨h3, h4⟩ := He.ba h1
  obtain ⟨h5, h6⟩ := He.ba h4
  have key : ∀ p ∈ k.tf, PySem.W.codeHdIn K (He.cT K p).1 (He.cT K p).2 = true ∧ ∃ o, h.get? (He.cT K p).2 = some o ∧ He.emptyTab o = true := fun p hp => by
    obtain ⟨h3, h4⟩ := He.ba (List.all_eq_true.mp h5 p hp)
    refine ⟨h3, ?_⟩
    cases q : h.get? (He.cT K p).2 with
    | none =>
      rw [q] at h4
      cases h4
    | some o =>
      rw [q] at h4
      exact ⟨o, rfl, h4⟩
  refine ⟨e1, h3, fun p hp => (key p hp).1, fun p hp => ?_, fun p hp => ?_, h2, h6, hc⟩
  · obtain ⟨_, o, q, z⟩ := key p hp
    cases e : K.lookup (He.cT K p).2 with
    | none => rfl
    | some u =>
      rw [← hK] at e
      obtain ⟨u1, u2⟩ := frK_at e
      rw [hK] at u1
      rw [q] at u1
      rw [← Option.some.inj u1, z] at u2
      cases u2
  · obtain ⟨_, o, q, z⟩ := key p hp
    rw [q, He.emptyTab_eq z]
def hookY (k : Hk) : PySem.W.Hook where
  α := AlY
  obs := fun s => obsY k s.heap.get?
  val := fun _ => valY k
  says := fun _ h => ∃ K : PySem.W.Frag, K.In h ∧ SaysY k h K
  of := fun _ _ e => ⟨_, frK_in, saysY_of e⟩
  keeps := fun _ _ _ ⟨K, hK, c⟩ k => ⟨K, PySem.W.Frag.In.keeps hK k, ⟨c.d, c.more, c.hd, c.out, fun p hp => k _ _ (c.empty p hp), c.a, c.ok, c.c⟩⟩
theorem obsY_eq {k : Hk} {g : Addr → Option Obj} {s : Shared} (h : ∀ a, g a = s.heap.get? a) : obsY k g = (hookY k).obs s := by
  have e : g = s.heap.get? := funext h
  rw [e] <;> rfl
def fa0 : List He.Fa := [.glo "is_integer", .glo "is_number", .glo "is_size", .glo "is_name", .glo "is_side", .glo "is_rule", .glo "is_fill", .glo "are_fills", .glo "is_pair", .glo "are_pairs", .glo "is_order_row", .glo "is_call_row", .glo "is_row", .glo "fills_in", .glo "lots_in", .glo "lots_before", .glo "rest_of", .glo "is_open", .glo "is_shut", .glo "require", .glo "has_shape", .glo "is_within", .glo "check_closed", .glo "check_resting", .glo "check_own", .glo "check_print", .glo "check_call", .glo "check_row", .glo "lets_record", .glo "members_of"]
def fa1 : List He.Fa := [.glo "orders_of", .glo "require_order", .glo "is_place", .glo "require_place", .glo "order_at", .glo "rest_at", .glo "open_at", .glo "is_closed_at", .glo "traded", .glo "_law_reader", .glo "_law_draw", .glo "_law_class_flags", .glo "_law_own_flags", .glo "_law_fields", .glo "_law_outcome", .glo "_law_fills", .glo "_law_trades", .glo "_law_rest", .glo "_law_orders", .glo "_law_open", .glo "_law_is_shut", .glo "_law_new_fills", .glo "_law_new_row", .glo "_law_random_rows", .glo "_law_random_record", .glo "_law_fixed_records", .glo "_law_can_fill", .glo "_law_can_follow", .glo "_law_check_behind", .glo "_law_candidates"]
def fa2 : List He.Fa := [.glo "law", .glo "Record", .glo "InvalidPaper", .glo "ShownError", .glo "SIDES", .glo "RULES", .free "len", .free "sum", .free "all", .free "tuple", .free "list", .free "min", .free "int", .free "isinstance", .free "sorted", .free "set", .free "range", .free "zip", .free "enumerate", .free "str", .free "bool", .free "super", .free "ValueError", .int "LONGEST_NAME" 8, .str "LETTERS" "abcdefghijklmnopqrstuvwxyz", .str "BUY" "buy", .cls "Record", .noat "Record" "own_rule", .noat "Record" "own_rows", .meth "Record" "__init__"]
def fa3 : List He.Fa := [.meth "Record" "__add__", .mkr "Record", .exm "InvalidPaper" "ShownError" true, .meth "InvalidPaper" "__init__", .noat "InvalidPaper" "word", .noat "InvalidPaper" "at"]
def fa9 : List He.Fa := [.glo "UnknownOrder", .glo "UnknownMember", .glo "NotUsable", .glo "InvalidEvent", .glo "NothingToUndo", .glo "InvalidText", .glo "InvalidRow", .glo "RecordError", .glo "AuditError", .glo "TextError", .glo "PaperError"]
def fa : List He.Fa := fa9 ++ fa0 ++ fa1 ++ fa2 ++ fa3
def propB (K : PySem.W.Frag) (x f : Str) : Bool := He.eqO (PySem.W.findIn K (.ref (He.ga K x)) f) (some (some (.ref (He.ma K (He.ga K x) f)))) && (He.eqO (PySem.W.specialIn K (.ref (He.ma K (He.ga K x) f)) "__get__") (some (some (.builtin "property.__get__"))) &&
  (decide (PySem.W.takesIn K (.ref (He.ma K (He.ga K x) f)) = some true) && (match PySem.W.recIn K (He.ma K (He.ga K x) f) "property" with
    | some (.ref _ :: _) => true
    | _ => false)))
def veB : List Value := [.type "ValueError", .type "Exception", .type "BaseException", .type "object"]
abbrev cI (K : PySem.W.Frag) : Addr := He.ga K "InvalidPaper"
abbrev fI (K : PySem.W.Frag) : Addr := He.ma K (He.ga K "InvalidPaper") "__init__"
/-- its one captured name's cell holds the class; its code tells its name and the file -/
def cellB (K : PySem.W.Frag) (fl : Str) : Bool := match K.lookup (fI K) with
  | some ⟨_, _, .func fd, _⟩ => (match fd.closure, fd.code, fd.defaults with
    | [(_, c)], .ref cd, .none => (match K.lookup c with
      | some ⟨_, _, .cell (some (.ref D)), _⟩ => decide (D = cI K)
      | _ => false) && (PySem.W.codeIn K (.ref cd) "InvalidPaper.__init__" && (match K.lookup cd with
      | some ⟨_, _, .fields vs, _⟩ => (match (vs[2]? : Option Value) with
        | some (.str f _) => fl == f
        | _ => false)
      | _ => false))
    | _, _, _ => false)
  | _ => false
def kit (K : PySem.W.Frag) (c : Value) (b : Bool) : Bool := decide (PySem.W.kitOne K (.ref (cI K)) c = some b)
def exL0 (K : PySem.W.Frag) : List Bool := [He.tupB K "SIDES" [.str "buy", .str "sell"], He.tupB K "RULES" [.str "time", .str "late", .str "price"], propB K "Record" "form",
  PySem.W.excInitIn K (cI K) veB "ValueError.__new__", He.eqO (PySem.W.findIn K (.ref (cI K)) "__setattr__") (some (some (.builtin "object.__setattr__"))),
  He.eqO (PySem.W.findIn K (.ref (cI K)) "__getattribute__") (some (some (.builtin "BaseException.__getattribute__"))), He.eqO (PySem.W.findIn K (.ref (cI K)) "__getattr__") (some none),
  PySem.W.keepIn K (.ref (cI K)), decide (PySem.W.subIn K (.ref (cI K)) (.type "BaseException") = some true), decide (PySem.W.subIn K (.ref (cI K)) (.type "ValueError") = some true),
  decide (PySem.W.typeIn K (.ref (cI K)) = some (.type "type")), PySem.W.hasDictIn K (cI K)]
def exL1 (K : PySem.W.Frag) : List Bool := [He.eqO (PySem.W.findIn K (.ref (cI K)) "__class__") (some (some (.builtin "object.__class__"))),
  He.eqO (PySem.W.specialIn K (.builtin "object.__class__") "__get__") (some (some (.builtin "getset_descriptor.__get__"))), decide (PySem.W.takesIn K (.builtin "object.__class__") = some true),
  decide (PySem.W.mroIn K (cI K) (.type "object") = some true), He.eqO (PySem.W.ks_superIn K (cI K) (cI K) "__init__") (some (some (.builtin "ValueError.__init__"))),
  He.eqO (PySem.W.nsIn K cStatics "thirdparty.any") (some none), decide (PySem.W.mroIn K (cI K) (.ref (cI K)) = some true), cellB K PySem.Challenge.pw_fairshown_k15_whole_rows_that_can_follow.main.file,
  (PySem.W.clsIn K (cI K)).any fun cd => PySem.HandSPX.refsVE cd.mro, PySem.W.selfFirst K (He.ga K "Record"), He.eqO (PySem.W.findIn K (.ref (He.ga K "Record")) "__add__") (some (some (.ref (He.ma K (He.ga K "Record") "__add__"))))]
def exL2 (K : PySem.W.Frag) : List Bool := [kit K (.ref (cI K)) true, kit K (.ref (He.ga K "PaperError")) true, kit K (.ref (He.ga K "ShownError")) true, kit K (.type "ValueError") true, kit K (.ref (He.ga K "UnknownOrder")) false, kit K (.ref (He.ga K "UnknownMember")) false, kit K (.ref (He.ga K "NotUsable")) false, kit K (.ref (He.ga K "InvalidEvent")) false, kit K (.ref (He.ga K "NothingToUndo")) false, kit K (.ref (He.ga K "InvalidText")) false, kit K (.ref (He.ga K "InvalidRow")) false, kit K (.ref (He.ga K "RecordError")) false, kit K (.ref (He.ga K "AuditError")) false, kit K (.ref (He.ga K "TextError")) false]
def ex (K : PySem.W.Frag) : Bool := (exL0 K).all id && ((exL1 K).all id && (exL2 K).all id)
def kk : Hk := ⟨fa, fn, [("law", none)], ex, [d_form], [d_InvalidPaper_init]⟩
abbrev R : PySem.W.OpenRow := PySem.W.OpenLaw.row PySem.Challenge.rw_fairshown_k15_whole_rows_that_can_follow
abbrev hk : PySem.W.Hook := hookY kk
def ob (s : PySem.W.SharedT) : AlY := obsY kk (HandSHeadRun.getT s)
theorem ob_eq (s : PySem.W.SharedT) : ob s = hk.obs s.abs := obsY_eq (HandSHeadRun.getT_eq s)
theorem run (w : World) : HandSHeadRun.RunEq R (PySem.W.view R.prog [98]) hk ob 7500 loose w := by
  intro os
  kernel_rfl
end FK
set_option Elab.async false
set_option linter.all false
set_option maxRecDepth 100000
set_option maxHeartbeats 4000000
/-! InvalidPaper.__init__: a def with the captured name __class__ that says super().__init__(word, at). -/
namespace FK
open PySem PySem.Spec L2 PySem.W PyProof.Rows

/-- what a def's scope says, whose only captured name is __class__ -/
structure SupS (N ps : List Str) (sc : Scope) : Prop where
  co : sc.isCoroutine = false
  gen : sc.isGenerator = false
  kind : sc.kind = .function
  nd : N.Nodup
  pre : N.take ps.length = ps
  par : ∀ p ∈ ps, sc.names.lookup p = some .local
  free : ∀ y ∈ sc.names, y.2 = .free → y.1 = "__class__"
  cell : ∀ y ∈ sc.names, y.2 ≠ .cell
abbrev supEnv (qual : Str) (scope : Scope) (L f : Addr) (cd : Value) (cc : Addr) : Env := envX qual scope L f cd [("__class__", cc)]
def cxS (P : Program) (w : World) (K : PySem.W.Frag) (mg : Str → Option Value) (base : Heap) (N : List Str) (qual : Str) (scope : Scope) (f : Addr) (cd : Value) (cc : Addr) (A : Around) (outer : List Env) (s : Shared) (H : Hp) : Cx where
  prog := P
  w := w
  K := K
  mg := mg
  base := base
  A := A.deeper (supEnv qual scope s.heap.objs.size f cd cc)
  N := N
  s_0 := s
  H_0 := H
  env := supEnv qual scope s.heap.objs.size f cd cc
  outer := outer
  stack := supEnv qual scope s.heap.objs.size f cd cc :: outer
  ex := []
  calm := true
  fn := fun _ => false
  pn := []
  xe := fun _ _ => False
section
variable {P : Program} {w : World} {K : PySem.W.Frag} {mg : Str → Option Value} {base : Heap} {N ps : List Str} {qual : Str} {scope : Scope} {f cc : Addr} {cd : Value} {A : Around} {outer : List Env} {s s1 : Shared} {H : Hp} {us : List Value} {vs : List V}
theorem inv_startS {h₁ : Heap} {tk : Nat} (S : SupS N ps scope) (hd : A.handled = none) (e0 : Env0 P w K mg base A outer s H) (hl : vs.length = ps.length) (r : Vals vs us) (hc : ∃ v o, base.get? cc = some o ∧ o.data = .cell v)
    (hns : h₁.Ns s.heap.objs.size fun x => (ps.zip us).reverse.lookup x) (kp : ∀ b o, s.heap.get? b = some o → h₁.get? b = some o) :
    Inv (cxS P w K mg base N qual scope f cd cc A outer s H) [] (L2.start N vs) H { s with heap := h₁, toks := tk } := by
  have hpl : ps.length ≤ N.length := by have := congrArg List.length S.pre; rw [List.length_take] at this; omega
  have noA : ∀ b : Addr, b ∉ (cxS P w K mg base N qual scope f cd cc A outer s H).ex := fun b z => absurd (show b ∈ ([] : List Addr) from z) (by simp)
  have one : ∀ {y : Str} {c : Addr}, ([("__class__", cc)] : List (Str × Addr)).lookup y = some c → y = "__class__" ∧ c = cc := fun {y c} h => by
    rw [List.lookup_cons] at h
    split at h
    · rename_i q
      exact ⟨by simpa using q, (Option.some.inj h).symm⟩
    · cases h
  obtain ⟨v, o, ho, hv⟩ := hc
  refine ⟨⟨e0.mod, S.kind, rfl, rfl, Nat.le_refl _, fun y z c e1 e2 => (one e1).1.trans (one e2).1.symm, fun y hy => ?_, fun y c z _ => ?_, fun _ => hd, Around.frames_deeper e0.frames, .inr ⟨rfl, rfl⟩, fun b z => absurd z (noA b), e0.bs, e0.bsz, fun b _ _ => noA b,
      fun b z => absurd z (noA b), e0.funs, e0.frf⟩,
    rfl, e0.bare, Un.kept kp, ⟨_, hns, fun i y v e1 e2 e3 => ?_⟩, fun y c e => ?_, e0.hok.fresh (Nat.le_refl _), fun y c e => ?_, fun q hq => absurd (show q ∈ ([] : List (Addr × Obj)) ++ [] from hq) (by simp), e0.hok.kept kp, ?_⟩
  · have hy : scope.names.lookup y = some .cell ∨ scope.names.lookup y = some .free := hy
    rcases hy with hy | hy
    · exact absurd rfl (S.cell _ (PySem.mem_of_lookup hy))
    · refine ⟨cc, ?_⟩
      have e : y = "__class__" := S.free _ (PySem.mem_of_lookup hy) rfl
      subst e
      rfl
  · have z : false = true := z
    cases z
  · have hi : i < vs.length := by
      unfold L2.start at e2
      by_cases hi : i < vs.length
      · exact hi
      · rw [List.getElem?_append_right (by simpa using hi)] at e2
        rw [List.getElem?_replicate] at e2
        split at e2 <;> cases e2
    have ha : vs[i]? = some v := by
      unfold L2.start at e2
      rw [List.getElem?_append_left (by simpa using hi), List.getElem?_map] at e2
      cases e : vs[i]? with
      | none => rw [e] at e2; cases e2
      | some a => rw [e] at e2; cases e2; rfl
    obtain ⟨u, hu, rv⟩ := r.get ha
    have hp : ps[i]? = some y := by
      rw [← S.pre, List.getElem?_take_of_lt (by omega)]; exact e1
    have ndP : ps.Nodup := by rw [← S.pre]; exact S.nd.sublist (List.take_sublist _ _)
    refine ⟨u, rv, .inl ⟨S.par y (List.mem_of_getElem? hp), ?_⟩⟩
    exact NdefX.zip_look ndP hp hu
  · have e : ([("__class__", cc)] : List (Str × Addr)).lookup y = some c := e
    obtain ⟨_, rfl⟩ := one e
    exact ⟨v, o, kp _ _ (e0.bs _ _ ho).1, hv⟩
  · have e : ([("__class__", cc)] : List (Str × Addr)).lookup y = some c := e
    obtain ⟨_, rfl⟩ := one e
    exact (e0.bs _ _ ho).2
  · unfold L2.start
    show _ = N.length
    rw [List.length_append, List.length_map, List.length_replicate]
    omega
end
section
variable {X : Cx} {pins : List (Addr × Obj)} {σ : L2.St} {H : Hp} {s : Shared} {a C fI cc cda : Addr}
/-- super().__init__(e, ..), in the __init__ of an exception being made: nothing of it is told -/
theorem sup_mid {body : List Stmt} {p0 p1 pos : Pos} {e : Expr} {es : List Expr} {ta : TA} {pl : Sem Bool} {whole : Sem Value} {fd : FuncData} {ar : Arg} {xs : Array Value} {file : Str} {tf : Tok} {oc ccl cl : Value} {od cdd cld : Option Addr} {osl ccs csl : Array (Option Value)} {Q : Value → Shared → Prop}
    (I : Inv X pins σ H s) (T : OexC X.K C) (ea : H a = some (exo a C none)) (ha : PA X (e :: es) ta) (hta : ta σ H fun vs H1 => vs.length ≤ 1000 ∧ H1 = H)
    (hks : X.env.kindOf "super" = some .globalImplicit) (hkc : X.env.kindOf "__class__" = some .free) (hfu : X.env.func = some fI) (hco : X.env.code = .ref cda) (hcl : X.env.cells.lookup ("__class__" : Str) = some cc)
    (hN : X.N[0]? = some ar.arg) (hσ : σ[0]? = some (some (.ref a))) (hka : X.env.kindOf ar.arg = some .local)
    (lkf : X.K.lookup fI = some ⟨oc, od, .func fd, osl⟩) (hp : (fd.params.posonlyargs ++ fd.params.args).head? = some ar) (lkc : X.K.lookup cda = some ⟨ccl, cdd, .fields xs, ccs⟩) (hvs : xs[2]? = some (.str file tf)) (hfile : ((X.prog.main.file : Str) == file) = true)
    (lkl : X.K.lookup cc = some ⟨cl, cld, .cell (some (.ref C)), csl⟩) (hsub : mroIn X.K C (.ref C) = some true) (hm : X.mg "super" = none) (htop : (X.prog.main.scope.names.lookup ("super" : Str)).isSome = false)
    (hno : nsIn X.K cStatics "thirdparty.any" = some none) (hsup : ks_superIn X.K C C "__init__" = some (some (.builtin "ValueError.__init__"))) (hB : subIn X.K (.ref C) (.type "ValueError") = some true)
    (he : starEach (e :: es) X.env = (false, eval e X.env) :: starEach es X.env) (hpl : (backTo pos (starEach es X.env)).any (·.1) = false)
    (hq : ∀ s', Inv X pins σ H s' → Q .none s') :
    _root_.PySem.wpAt (model X.prog X.w) X.A (.func body X.env) (attributeBase (.Call (.Name "super" p0) [] [] p1) "__init__" X.env whole) (fun ov s₁ => wpAny (model X.prog X.w) X.A (getMethod ov "__init__" pl) (fun fx s₂ => wpAny (model X.prog X.w) X.A (callWith pos fx.1 fx.2 (backTo pos (starEach (e :: es) X.env)) []) Q X.xe s₂) X.xe s₁) X.xe s := by
  obtain ⟨nm, q, N, bs, bm, sn, sub, ab, col, dd, k0, k1, k2, k3, k5, hCK, hbm⟩ := T.cls
  have hcd : PySem.W.clsIn X.K C = some { name := nm, bases := bs, mro := .ref C :: bm, ns := N, qualname := q, hasDict := true, slotNames := sn, subclasses := sub, abstract := ab, collection := col, hasDel := false } := by unfold PySem.W.clsIn; rw [hCK] <;> rfl
  obtain ⟨t1, ho⟩ := exo_at I.hok ea
  obtain ⟨m, hn, hl⟩ := id I.loc
  obtain ⟨u0, ru, l⟩ := hl 0 ar.arg (.ref a) hN hσ (.inl hka)
  obtain rfl : u0 = Value.ref a := ru
  have hma : m ar.arg = some (.ref a) := by
    rcases l with ⟨_, h⟩ | ⟨h | h, _⟩
    · exact h
    · rw [hka] at h; cases h
    · rw [hka] at h; cases h
  obtain ⟨mb, hb1, hb2⟩ := I.mod.blt
  have Xk := I.kIn
  obtain ⟨hp0, g, d, t, os⟩ := s
  have hC := Xk _ _ hCK
  refine ks_wpAt_super_base hks hkc (by decide) hfu (Xk _ _ lkf) rfl hp hco (Xk _ _ lkc) rfl hvs hfile htop ?_
  refine ks_loadName_global I.ok.kind hks (Calls.loadGlobal_builtin (by rw [I.ok.glob]; exact I.mod.glob.keeps I.bk) hm (by rw [I.ok.blt]; exact hb1.keeps I.bk) ((hb2 "super" (by decide)).trans (by first | rfl | kernel_rfl)) ⟨rfl, ?_⟩)
  refine wpAny_loadName_free I.ok.kind hkc hcl ⟨_, Xk _ _ lkl, rfl⟩ ?_
  refine wpAny_loadName_local I.ok.kind hka hn hma ?_
  refine ks_wpAny_isType_cls hC rfl ⟨rfl, ?_⟩
  refine ks_wpAny_call_super hC rfl ho rfl (fun c z => nomatch z) (looks_mroIn Xk hsub) (fun h' hso k => ?_)
  have I1 : Inv X pins σ H ⟨h', g, d, t, os⟩ := I.kept (t' := t) k
  have hIa : PySem.W.InstAt h' a { cls := .ref C, dict := none, data := .fields #[.ref t1, .none, .none, .none, .bool false, .none] } C none := ⟨k _ _ ho, rfl, rfl, trivial⟩
  have hI : Looks (model X.prog X.w) h' (isInstance (.ref a) (.type "ValueError")) true := hIa.type.andThen (looks_subIn I1.kIn hB)
  have hf : alongIn X.K "__init__" (((Value.ref C :: bm).dropWhile (· != .ref C)).drop 1) = some (some (.builtin "ValueError.__init__")) := by
    unfold ks_superIn at hsup
    rw [hcd] at hsup
    exact hsup
  refine kxs_getMethod kxs_ValueError hso (looks_opaque I1.kIn hno) (l₀ := .ref C :: bm) (fun A Q E s k q => wpAny_bind ((looks_clsIn I1.kIn hcd) A _ E s k (wpAny_pure q))) rfl I1.kIn hf hI (ks_ne I1.kIn hIa hcd) (by decide) ?_
  have hsz : h'.objs.size ≤ h'.objs.size := Nat.le_refl _
  have I2 : Inv X pins σ H ⟨h'.push (kxs_mw "ValueError.__init__" a), g, d, t + 1, os⟩ := I1.kept (t' := t + 1) fun b o z => Heap.get?_push_of_some _ z
  have I2p : Inv X ((h'.objs.size, kxs_mw "ValueError.__init__" a) :: pins) σ H ⟨h'.push (kxs_mw "ValueError.__init__" a), g, d, t + 1, os⟩ := I2.pins_of fun p hp => by
    rcases List.mem_cons.mp hp with rfl | hp
    · exact ⟨Heap.get?_push_at rfl rfl, I1.hok.fresh hsz, Nat.ne_of_gt I1.lt, I1.nofs hsz, fun v z => nomatch z⟩
    · exact I2.pin p (List.mem_append_right _ hp)
  show wpAny _ _ (callWith pos (.ref h'.objs.size) [] (backTo pos (starEach (e :: es) X.env)) []) _ _ _
  have hh := ha.run pos _ _ σ H _ I2p hta
  rw [he] at hh ⊢
  refine kxs_callWith (i := "ValueError.__init__") (x := a) (by show (false || (backTo pos (starEach es X.env)).any (·.1)) = false; rw [hpl]; rfl) (Calls.evalArgs_plain (thn hh fun us s3 hs3 => ?_))
  obtain ⟨vs, H3, I3, r3, hz, eH⟩ := hs3
  subst eH
  have hu := (I3.pin _ (List.mem_append_right _ List.mem_cons_self)).1
  refine ⟨hu, ?_⟩
  obtain ⟨t3, ho3⟩ := exo_at I3.hok ea
  have I4 : Inv X pins σ H3 s3 := I3.pins_of fun p hp => I3.pin p (List.mem_append_right _ (List.mem_cons_of_mem _ hp))
  have hC3 := I3.kIn _ _ hCK
  have hus : us.length ≤ sizeLine := by
    rw [← Paired.length r3, sizeLine_eq]
    omega
  obtain ⟨h3, g3, d3, tk3, os3⟩ := s3
  refine wpAny_call (codeAny_of_tree ?_)
  show wpAny _ X.A.in1 (callAny (.ref h'.objs.size) ⟨us, []⟩) _ _ _
  simp only [callAny]
  refine wpAny_bind (wpAny_load hu ?_)
  simp only [kxs_mw, show (Value.type "method-wrapper" == Value.type "method" || Value.type "method-wrapper" == Value.type "builtin_function_or_method" || Value.type "method-wrapper" == Value.type "method-wrapper") = true by decide, if_true]
  refine KFB.if_so (by decide) ?_
  refine wpAny_bind (check_bound_init F.excBase_ValueError.toExcCallFacts hC3 ho3 rfl ?_)
  refine wpAny_bind (wpAny_pure (wpAny_pure ?_))
  refine ⟨plainId_quiet F.excBase_ValueError.init.plain _, codeAny_builtin F.excBase_ValueError.initEntry ?_⟩
  refine exc_init_tree (cls := .ref C) (t0 := t3) (dv := none) (c2 := .none) (c3 := .none) (b4 := .bool false) ho3 hus fun h4 k4 hx _ => ?_
  have J := I4.write (t' := tk3) (x := a) (e := a) (o := exo a C none) (by rw [ea]; exact True.intro) (.inl rfl) k4 ⟨_, hx⟩ (exo_ok hx)
  have eu : upd H3 a (exo a C none) = H3 := by
    funext b
    by_cases hb : b = a
    · rw [hb, upd_same, ea]
    · rw [upd_ne hb]
  rw [eu] at J
  exact hq _ J
end
end FK
set_option Elab.async false
set_option linter.all false
set_option maxRecDepth 100000
set_option maxHeartbeats 4000000
/-! InvalidPaper.__init__ as a promise; require. -/
namespace FK
open PySem PySem.Spec L2 PySem.W PyProof.Rows
/-- what the written part says of InvalidPaper and its __init__ at fI -/
structure InitF (P : Program) (K : PySem.W.Frag) (mg : Str → Option Value) (C fI : Addr) : Prop where
  T : OexC K C
  lk : ∃ (oc : Value) (od : Option Addr) (osl : Array (Option Value)) (kV doc pm ct : Value) (an : Option Addr) (cda cc : Addr),
    K.lookup fI = some ⟨oc, od, .func (fnX "__init__" "InvalidPaper.__init__" (defArgs s_InvalidPaper_init) (defBody s_InvalidPaper_init) (defScope s_InvalidPaper_init) [("__class__", cc)] .none kV doc pm an (.ref cda) ct), osl⟩ ∧
    codeIn K (.ref cda) "InvalidPaper.__init__" = true ∧ (∃ cl cld csl, K.lookup cc = some ⟨cl, cld, .cell (some (.ref C)), csl⟩) ∧
    ∃ ccl cdd xs ccs file tf, K.lookup cda = some ⟨ccl, cdd, .fields xs, ccs⟩ ∧ xs[2]? = some (.str file tf) ∧ ((P.main.file : Str) == file) = true
  ty : typeIn K (.ref fI) = some (.type "function")
  find : findIn K (.ref C) "__init__" = some (some (.ref fI))
  sub : mroIn K C (.ref C) = some true
  no3 : nsIn K cStatics "thirdparty.any" = some none
  sup : ks_superIn K C C "__init__" = some (some (.builtin "ValueError.__init__"))
  ve : subIn K (.ref C) (.type "ValueError") = some true
  noW : findIn K (.ref C) "word" = some none
  noA : findIn K (.ref C) "at" = some none
  mS : mg "super" = none
  top : (P.main.scope.names.lookup ("super" : Str)).isSome = false
def spInit (C : Addr) : Sp := fun vs H Q _ => ∃ a vw va, vs = [.ref a, vw, va] ∧ H a = some (exo a C none) ∧ ∀ d, H d = none → d ≠ a → Q .non (upd (upd (upd H d (exd d [("word", vw)])) a (exo a C (some d))) d (exd d [("at", va), ("word", vw)]))
theorem supS_init : SupS ["self", "word", "at"] ["self", "word", "at"] (defScope s_InvalidPaper_init) := ⟨rfl, rfl, rfl, by decide +kernel, rfl, by decide +kernel, by decide +kernel, by decide +kernel⟩
section
variable {P : Program} {w : World} {K : PySem.W.Frag} {mg : Str → Option Value} {base : Heap} {C fI : Addr}
theorem ok_init (F : InitF P K mg C fI) (hK : K.In base) : ∃ fd, FnOk P w K mg base C8.CX0 1 fI fd ["self", "word", "at"] (spInit C) ∧ L2.Binds K fd ["self", "word", "at"] [] := by
  obtain ⟨oc, od, osl, kV, doc, pm, ct, an, cda, cc, lk, hcd, ⟨cl, cld, csl, lkl⟩, ccl, cdd, xs, ccs, file, tf, lkc, hvs, hfile⟩ := F.lk
  refine ⟨fnX "__init__" "InvalidPaper.__init__" (defArgs s_InvalidPaper_init) (defBody s_InvalidPaper_init) (defScope s_InvalidPaper_init) [("__class__", cc)] .none kV doc pm an (.ref cda) ct, ⟨fun vs H Q E h => ?_, fun A outer s H args us vs Q E hr e0 hb r hsp => ?_⟩, .all fun us hl => match us, hl with | [_, _, _], _ => rfl⟩
  · obtain ⟨a, vw, va, rfl, _⟩ := h
    rfl
  obtain ⟨a, vw, va, rfl, ea, q⟩ := hsp
  have KX : K.In s.heap := e0.mod.kin.keeps fun b o e => (e0.bs b o e).1
  have lim : s.heap.NoLimit := e0.mod.nolimit.keeps fun b o e => (e0.bs b o e).1
  have S := supS_init
  refine ks_codeAny_call_defAt hr.depth (KX _ _ lk) rfl lim (codeRec_of KX hcd) rfl hb S.cell (fun ⟨n, v⟩ hy => S.par n (List.of_mem_zip hy).1) (fun h₁ hns kp => ?_) S.co S.gen S.kind
  have I := inv_startS (w := w) (N := ["self", "word", "at"]) (qual := "InvalidPaper.__init__") (f := fI) (cd := .ref cda) (tk := s.toks + ((["self", "word", "at"] : List Str).zip us).length) S hr.hd e0 rfl r ⟨_, _, hK _ _ lkl, rfl⟩ hns kp
  refine ks_wpAt_mono (Q := fun fl s' => CE outer P w H s Q (match fl with | .ret v => v | _ => .none) s') (E := fun _ _ => False) ?_ (fun fl s' h => by cases fl <;> exact h) fun _ _ z => z.elim
  refine ks_wpAt_execs_cons ?_
  refine ks_wpAt_Expr_any ?_
  refine ks_wpAt_MethodCall ?_
  refine sup_mid (X := cxS P w K mg base ["self", "word", "at"] "InvalidPaper.__init__" (defScope s_InvalidPaper_init) fI (.ref cda) cc A outer s H) (σ := L2.start ["self", "word", "at"] [.ref a, vw, va]) (C := C) I F.T ea (pa_cons (pe_var (i := 1) rfl (.inl rfl)) (pa_cons (pe_var (i := 2) rfl (.inl rfl)) pa_nil)) ?hta rfl rfl rfl rfl rfl rfl rfl rfl lk rfl lkc hvs hfile lkl F.sub F.mS F.top F.no3 F.sup F.ve rfl rfl fun s' J => ?go
  case hta => exact ⟨_, rfl, _, rfl, by simp, rfl⟩
  case go =>
    dsimp only
    refine wpAt_of_wpAny ?_
    have ps2 : PSs (cxS P w K mg base ["self", "word", "at"] "InvalidPaper.__init__" (defScope s_InvalidPaper_init) fI (.ref cda) cc A outer s H) ((defBody s_InvalidPaper_init).drop 1) _ :=
      pss_cons (ps_ost (pe_var (i := 0) rfl (.inl rfl)) (pe_var (i := 1) rfl (.inl rfl))) (pss_one (ps_ost (pe_var (i := 0) rfl (.inl rfl)) (pe_var (i := 2) rfl (.inl rfl))))
    refine wpAny_mono (ps2.run [] s' _ H { nx := fun _ H' => Q .non H', rt := Q } J ?rd) (fun fl s2 hs => ?fin) fun _ _ z => z
    case rd =>
      refine ⟨_, rfl, _, rfl, a, C, rfl, F.T, F.noW, .inl ⟨ea, fun d n ne => ?_⟩⟩
      have e1 : (upd (upd H d (exd d [("word", vw)])) a (exo a C (some d))) d = some (exd d [("word", vw)]) := by rw [upd_ne ne, upd_same]
      exact ⟨_, rfl, _, rfl, a, C, rfl, F.T, F.noA, .inr ⟨d, _, upd_same, e1, by simp, q d n ne⟩⟩
    case fin =>
      cases fl with
      | ret u =>
        obtain ⟨v, σ', H', J, rv, q⟩ := hs
        exact ⟨v, H', J.os, J.bare, J.base, J.hok, rv, q⟩
      | next =>
        obtain ⟨σ', H', J, q⟩ := hs
        exact ⟨.non, H', J.os, J.bare, J.base, J.hok, rfl, q⟩
      | brk =>
        obtain ⟨_, _, _, q⟩ := hs
        exact False.elim q
      | cont =>
        obtain ⟨_, _, _, q⟩ := hs
        exact False.elim q
end
end FK
set_option Elab.async false
set_option linter.all false
set_option maxRecDepth 100000
set_option maxHeartbeats 4000000
/-! require. -/
namespace FK
open PySem PySem.Spec L2 PyProof.Rows
theorem exd_congr {d : Addr} {fs gs : List (Str × V)} (h : ∀ f, fs.lookup f = gs.lookup f) : exd d fs = exd d gs := by
  unfold exd
  congr 1
  funext hp
  apply propext
  constructor
  · rintro ⟨m, h1, h2⟩
    exact ⟨m, h1, fun f => by rw [← h f]; exact h2 f⟩
  · rintro ⟨m, h1, h2⟩
    exact ⟨m, h1, fun f => by rw [h f]; exact h2 f⟩
theorem look_wa (vw va : V) (f : Str) : List.lookup f [(("at" : Str), va), ("word", vw)] = List.lookup f [(("word" : Str), vw), ("at", va)] := by
  rw [lookup_put, lookup_put, lookup_put, lookup_put]
  by_cases h1 : f = "at"
  · subst h1
    rw [if_pos rfl, if_neg (by decide), if_pos rfl]
  · rw [if_neg h1, if_neg h1]
/-- InvalidPaper(e, ..): the exception made, its context None -/
theorem pmk_new {X : Cx} {C fI : Addr} {fd : FuncData} {x : Str} {p pos : Pos} {e : Expr} {es : List Expr} {ta : TA} (F : InitF X.prog X.K X.mg C fI) (F1 : FnOk X.prog X.w X.K X.mg X.base C8.CX0 1 fI fd ["self", "word", "at"] (spInit C)) (hb : L2.Binds X.K fd ["self", "word", "at"] [])
    (hr : Room 2 X.A) (hm : X.mg x = some (.ref C)) (ha : PA X (e :: es) ta) (hg : Gl X x) (hdb : (x == ("__debug__" : Str)) = false) (he : starEach (e :: es) X.env = (false, eval e X.env) :: starEach es X.env) (hpl : (backTo pos (starEach es X.env)).any (·.1) = false) :
    L2N.PMk X (.Call (.Name x p) (e :: es) [] pos) (tMkO C (spInit C) [] ta) := by
  intro pins s σ H Q I h
  obtain ⟨nm, q, N, bs, bm, sn, sub, ab, col, dd, k0, k1, k2, k3, k5, hC, hbm⟩ := F.T.cls
  refine wpAny_Call_Name_kw (ld_glob I hg hm ?_ hdb)
  refine PySem.W.callWith_K (h₀ := X.base) I.ok.mod.kin F.T.kC (thn (ha.run pos pins s σ H _ I h) fun us s1 ⟨vs, H1, I1, r1, hz, q1⟩ => ⟨I1.kIn, ?_⟩) he hpl
  show wpAny _ _ (call (.ref C) us) _ _ _
  rw [List.append_nil] at q1
  obtain ⟨hp, g, dr, tk, os⟩ := s1
  have fresh : H1 (hp.objs.size + 1) = none := I1.hok.fresh (Nat.le_succ _)
  have up : ∀ b o, hp.get? b = some o → ((hp.push (PySem.W.kdv_tup us)).push (PySem.HandSPX.excO C hp.objs.size)).get? b = some o := fun b o z => Heap.get?_push_of_some _ (Heap.get?_push_of_some _ z)
  have there : ((hp.push (PySem.W.kdv_tup us)).push (PySem.HandSPX.excO C hp.objs.size)).get? (hp.objs.size + 1) = some (PySem.HandSPX.excO C hp.objs.size) := by heap_get
  have I2 := I1.laid (t' := tk) (o := exo (hp.objs.size + 1) C none) up (Nat.le_succ _) (exo_ok there)
  have sp := q1 _ fresh
  have len3 : (V.ref (hp.objs.size + 1) :: vs).length = 3 := F1.len _ _ _ _ sp
  have lus : us.length = vs.length := (Paired.length r1).symm
  have hl : ((Value.ref (hp.objs.size + 1) :: us) ++ ([] : List Value)).length = 3 := by simp at len3 ⊢; omega
  have bd := hb _ (Value.ref (hp.objs.size + 1) :: us) I2.kIn hl
  rw [List.append_nil] at bd
  refine wpAny_call (PySem.HandSPX.call_own PySem.F.excBase_ValueError (fun Y => PySem.HandSPX.refsVE_contains Y bm hbm) (I1.kIn _ _ hC) (PySem.W.looks_findIn I1.kIn F.find) (fun self => PySem.W.bind_fn I1.kIn self F.ty) (by rw [lus, sizeLine_eq]; omega) (codeAny_mono (F1.run _ X.stack _ _ ⟨Value.ref (hp.objs.size + 1) :: us, []⟩ (Value.ref (hp.objs.size + 1) :: us) (V.ref (hp.objs.size + 1) :: vs) _ (fun _ _ _ => False) (hr.make C us []) (I2.env0.make C us []) bd (.cons rfl r1) sp) fun r s' hq' => ?_))
  cases r with
  | error er => exact (show False from hq').elim
  | ok fl =>
    cases fl with
    | ret u =>
      obtain ⟨v, H2, os2, bare2, un2, hok2, rv, ev, d, fs, ea, ed, hd1, q2⟩ := hq'
      subst ev
      obtain ⟨h2, g2, d2, t2, os'⟩ := s'
      refine ⟨rv, ?_⟩
      obtain ⟨t0, G, J, kG, ge, hoe, na⟩ := mk_end0 (d2 := d2) (t2 := t2) I1 (Nat.le_succ _) up un2 hok2 os2 bare2 ea ed hd1
      exact ⟨_, _, _, ⟨G, g2, d2, t2, os'⟩, _, .ref C, some d, rfl, J, kG, ge, hoe, ⟨rfl, rfl, fun vs z => by cases z; rfl⟩, rfl, rfl, na, rfl, bare2, raises_own F.T.exC F.T.tyC, q2⟩
    | next => exact False.elim hq'
    | brk => exact False.elim hq'
    | cont => exact False.elim hq'
def exW : List D → W Fl
  | [w, a] => rW (.ex w a)
  | _ => fW
section
variable {X : Cx} {dl : DicL} {C fI : Addr} {r : Option Addr} {Ex : XK}
theorem pws_raiseP {x : Str} {fd : FuncData} {p p2 pos : Pos} {e : Expr} {es : List Expr} {f : Rho → W (List D)} (F : InitF X.prog X.K X.mg C fI) (F1 : FnOk X.prog X.w X.K X.mg X.base C8.CX0 1 fI fd ["self", "word", "at"] (spInit C)) (hb : L2.Binds X.K fd ["self", "word", "at"] [])
    (hr : Room 2 X.A) (hc : X.calm = true) (tk : L2N.Takes X (fun cls d _ H => Ex cls d H)) (hm : X.mg x = some (.ref C)) (ha : PA X (e :: es) (tWA dl r f)) (hg : Gl X x := by rfl) (hdb : (x == ("__debug__" : Str)) = false := by decide) (he : starEach (e :: es) X.env = (false, eval e X.env) :: starEach es X.env := by rfl) (hpl : (backTo pos (starEach es X.env)).any (·.1) = false := by rfl) :
    PS X (.Raise (some (.Call (.Name x p) (e :: es) [] pos)) none p2) (tWS dl C r Ex fun ρ => bW (f ρ) exW) :=
  PS.imp (L2N.ps_raise hc tk (pmk_new F F1 hb hr hm ha hg hdb he hpl)) fun Dn σ H ⟨A0, B, ρ, c, P, E, hp, k1, k2, k3⟩ => ⟨A0, B, ρ, c, _, E, hp, fun ds c1 vs H1 p1 e1 rd1 dv => by
    match ds, p1, dv with
    | [w, a], p1, .cons dw (.cons da .nil) =>
      rename_i vw va
      have E1 := E.ext e1 rd1
      refine ⟨by simp, fun o no => ⟨o, vw, va, rfl, upd_same, fun d nd ne => ?_⟩⟩
      have nd1 : H1 d = none := by rw [upd_ne ne] at nd; exact nd
      have eo : (upd (upd (upd (upd H1 o (exo o C none)) d (exd d [("word", vw)])) o (exo o C (some d))) d (exd d [("at", va), ("word", vw)])) o = some (exo o C (some d)) := by
        rw [upd_ne (Ne.symm ne), upd_same]
      refine ⟨rfl, d, [("word", vw), ("at", va)], eo, ?_, nd1, ?_⟩
      · rw [upd_same, exd_congr (look_wa vw va)]
      · have kp : ∀ b q, H1 b = some q → (upd (del (upd (upd (upd (upd H1 o (exo o C none)) d (exd d [("word", vw)])) o (exo o C (some d))) d (exd d [("at", va), ("word", vw)])) o) d (.xd [("word", vw), ("at", va)])) b = some q := fun b q h => by
          have n1 : b ≠ o := ne_of_none h no
          have n2 : b ≠ d := ne_of_none h nd1
          rw [upd_ne n2, del_ne n1, upd_ne n2, upd_ne n1, upd_ne n2, upd_ne n1]
          exact h
        have sm : Same H1 _ := kp
        refine k3 w a c1 (.ref C) (some d) B _ p1 (.of_ext (e1.trans (.of_same sm)) (rd1.same sm)) (rd1.same sm) ⟨rfl, d, vw, va, rfl, upd_same, (dw.same sm).anti fun a h => List.mem_append_right _ h, (da.same sm).anti fun a h => List.mem_append_right _ h⟩
    | [], p1, _ => exact (show False from p1).elim
    | [_], p1, _ => exact (show False from p1).elim
    | _ :: _ :: _ :: _, p1, _ => exact (show False from p1).elim⟩
end
section
variable {P : Program} {w : World} {K : PySem.W.Frag} {mg : Str → Option Value} {base : Heap} {C fI : Addr} {f : Addr} {fd : FuncData}
theorem ok_require (I : InitF P K mg C fI) (hK : K.In base) (hmI : mg "InvalidPaper" = some (.ref C)) (F : FunD K "require" "require" (defArgs s_require) (defBody s_require) (defScope s_require) [] [] f fd) (hm : mg "require" = some (.ref f)) : Has P w K mg base C "require" 3 ["condition", "word", "at"] g_require := by
  obtain ⟨fdI, F1, hb⟩ := ok_init (w := w) I hK
  have S : FnScope ["condition", "word", "at"] ["condition", "word", "at"] (defScope s_require) := ⟨rfl, rfl, rfl, by decide +kernel, rfl, by decide +kernel, by decide +kernel⟩
  refine ⟨f, fd, fn_w F S (fun sls c P h => ?len) (fun cdv A outer s H E r hr => (pwss_one (pws_if (pwt_not (pwt_val (pw_var 0))) (pwss_one (pws_raiseP I F1 hb hr rfl (L2N.takes_of rfl rfl rfl rfl) hmI (paw_cons (pw_var 1) (paw_cons (pw_var 2) paw_nil)))) pwss_nil))) (fun sls c P h => ?data), hm, F.kp, F.bindsN fun _ _ _ _ _ _ us hl => match us, hl with | [_, _, _], _ => rfl⟩
  case len =>
    obtain ⟨b, w, a, rfl, h⟩ := h
    rfl
  case data =>
    obtain ⟨b, w, a, rfl, h1, h2⟩ := h
    cases b with
    | true =>
      simp [rho0]
      exact h1 rfl
    | false =>
      simp [rho0, exW]
      exact h2 rfl
end
end FK
set_option Elab.async false
set_option linter.all false
set_option maxRecDepth 100000
set_option maxHeartbeats 4000000
/-! The law's reader: made, drawn from. -/
namespace FK
open PySem PySem.Spec L2 PyProof.Rows
/-- a new list is frozen behind the call -/
theorem FnOk.freeze {P : Program} {w : World} {K : PySem.W.Frag} {mg : Str → Option Value} {base : Heap} {CX : CXT} {k : Nat} {f : Addr} {fd : FuncData} {ps : List Str} {sp sp' : Sp} (F : FnOk P w K mg base CX k f fd ps sp) (len : ∀ vs H Q E, sp' vs H Q E → vs.length = ps.length)
    (h : ∀ vs H Q E, sp' vs H Q E → sp vs H (fun v H' => ∃ L xs, H L = none ∧ H' L = some (.lst xs) ∧ ∀ o, Q v (upd H' L (.frz o (.lst xs)))) E) : FnOk P w K mg base CX k f fd ps sp' := by
  refine ⟨len, fun A outer s H args us vs Q E hr e0 hb r hsp => codeAny_mono (F.run A outer s H args us vs _ E hr e0 hb r (h _ _ _ _ hsp)) fun res s' hq => ?_⟩
  cases res with
  | error e => exact hq
  | ok fl =>
    cases fl with
    | ret u =>
      obtain ⟨v, H', os, bare, un, hok, rv, L, xs, hn, hl, q⟩ := hq
      have hx : ObjOk P w H' s'.heap L (.lst xs) := hok L _ hl
      obtain ⟨z, its, n, rl, ho⟩ := hx
      have hLn : s.heap.get? L = none := by
        cases e : s.heap.get? L with
        | none => rfl
        | some o =>
          have := un.free L o e hn (by simp)
          rw [hl] at this
          cases this
      have ne : ∀ {b : Addr} {o : Obj}, s.heap.get? b = some o → b ≠ L := fun {b o} e z => by rw [z, hLn] at e; cases e
      refine ⟨v, upd H' L (.frz _ (.lst xs)), os, bare, ⟨un.keep, un.slot, fun b o e n hx => ?_, un.there, fun b ys e => ?_, fun b o u e => ?_, fun b ps e => ?_⟩, fun b u e => ?_, rv, q { cls := .type "list", data := .seq its.toArray n }⟩
      · rw [upd_ne (ne e)]
        exact un.free b o e n hx
      · rw [upd_ne (ne_of_none e hn)]
        exact un.tups b ys e
      · rw [upd_ne (ne_of_none e hn)]
        exact un.frzs b o u e
      · rw [upd_ne (ne_of_none e hn)]
        exact un.tbls b ps e
      · by_cases hb : b = L
        · subst hb
          rw [upd_same] at e
          cases e
          exact ⟨ho, z, its, n, rl, ho⟩
        · rw [upd_ne hb] at e
          exact (hok b u e).stay (fun c v _ q => q) (fun c hc => by rw [upd_ne (ne_of hc hl (by intro z; cases z))]; exact hc) fun c ys hc => by rw [upd_ne (ne_of hc hl (by intro z; cases z))]; exact hc
    | next => exact hq
    | brk => exact hq
    | cont => exact hq
/-- a script at a -/
theorem sql_same {K : PySem.W.Frag} {H H' : Hp} {a : Addr} {xs : List V} (h : SqL K H a xs) (s : Same H H') : SqL K H' a xs := by
  rcases h with (h | ⟨o, h⟩) | h
  · exact .inl (.inl (s _ _ h))
  · exact .inl (.inr ⟨o, s _ _ h⟩)
  · exact .inr h
def spReader0 (K : PySem.W.Frag) : Sp := fun vs H Q _ => ∃ (a : Addr) (ns : List Int), vs = [.ref a] ∧ SqL K H a (ns.map V.int) ∧ ns.length ≤ 63 ∧
  ∀ p L H', H p = none → H L = none → p ≠ L → Same H H' → H' L = some (.lst (ns.map V.int)) → H' p = some (.dK [(.inr "cells", .ref L), (.inr "spot", .int 0), (.inr "rest", .int 0), (.inr "calls", .int 0)]) → Q (.ref p) H'
def spReader (K : PySem.W.Frag) : Sp := fun vs H Q _ => ∃ (a : Addr) (ns : List Int), vs = [.ref a] ∧ SqL K H a (ns.map V.int) ∧ ns.length ≤ 63 ∧
  ∀ p H', H p = none → Same H H' → RdAt H' p 0 → Q (.ref p) H'
section
variable {P : Program} {w : World} {K : PySem.W.Frag} {mg : Str → Option Value} {base : Heap} {f : Addr} {fd : FuncData}
theorem ok_reader0 (bl : Bl mg) (F : FunD K "_law_reader" "_law_reader" (defArgs s__law_reader) (defBody s__law_reader) (defScope s__law_reader) [] [] f fd) : FnOk P w K mg base (L2N.CX P w) 1 f fd ["_law_script"] (spReader0 K) := by
  have S : FnScope ["_law_script"] ["_law_script"] (defScope s__law_reader) := ⟨rfl, rfl, rfl, by decide +kernel, rfl, by decide +kernel, by decide +kernel⟩
  refine F.ok S (fun vs H Q E h => ?_) fun cdv A outer s H vs Q E hr h => ?_
  · obtain ⟨a, ns, rfl, _⟩ := h
    rfl
  obtain ⟨a, ns, rfl, ha, hl, q⟩ := h
  refine ⟨_, pss_one (ps_ret (pe_disp (pps_cons pe_str (pe_callTy call_list_of rfl bl.list (by kernel_rfl) (pa_cons (pe_slice sl_list (pe_var (i := 0) rfl (.inl rfl)) po_none (po_some pe_int)) pa_nil)) (pps_cons pe_str pe_int (pps_cons pe_str pe_int (pps_cons pe_str pe_int pps_nil)))) rfl rfl (by simp) (by decide))), ?_⟩
  refine fun p hp => ?_
  have s1 := same_new (o := HO.dK []) hp
  refine ⟨_, rfl, ?_⟩
  have ha1 : SqL K (upd H p (.dK [])) a (ns.map V.int) := sql_same ha s1
  have ecut : cutV (ns.map V.int) none (some 63) = ns.map V.int := by
    have e1 : HT.sIx (ns.map V.int).length 0 none = 0 := rfl
    have e2 : HT.sIx (ns.map V.int).length (ns.map V.int).length (some 63) = (ns.map V.int).length := by
      simp [HT.sIx]
      omega
    unfold cutV
    rw [e1, e2]
    simp
    exact List.take_of_length_le (by simp)
  refine ⟨63, rfl, a, _, rfl, ha1, fun l hl => ⟨l, _, rfl, .inl (.inl (.inl upd_same)), fun L hL => ?_⟩⟩
  have hlp : l ≠ p := fun z => by rw [z, upd_same] at hl; cases hl
  have hLl : L ≠ l := fun z => by rw [z, upd_same] at hL; cases hL
  have hLp : L ≠ p := fun z => by rw [z, upd_ne (Ne.symm hlp), upd_same] at hL; cases hL
  have hLn : H L = none := by rw [upd_ne hLl, upd_ne hLp] at hL; exact hL
  have hln : H l = none := by rw [upd_ne hlp] at hl; exact hl
  rw [ecut]
  refine ⟨by rw [upd_ne (Ne.symm hLp), upd_ne (Ne.symm hlp), upd_same], [(.inr "cells", .ref L), (.inr "spot", .int 0), (.inr "rest", .int 0), (.inr "calls", .int 0)], rfl, by simp, ?_⟩
  refine q p L _ hp hLn (Ne.symm hLp) (fun b u hb => ?_) ?_ ?_
  · rw [upd_ne (ne_of_none hb hp), upd_ne (ne_of_none hb hLn), upd_ne (ne_of_none hb hln), upd_ne (ne_of_none hb hp)]
    exact hb
  · rw [upd_ne hLp, upd_same]
  · rw [upd_same]
    rfl
theorem ok_reader (bl : Bl mg) (F : FunD K "_law_reader" "_law_reader" (defArgs s__law_reader) (defBody s__law_reader) (defScope s__law_reader) [] [] f fd) : FnOk P w K mg base (L2N.CX P w) 1 f fd ["_law_script"] (spReader K) :=
  FnOk.freeze (ok_reader0 bl F) (fun vs H Q E ⟨_, _, h, _⟩ => by rw [h]; rfl) fun vs H Q E ⟨a, ns, h1, h2, h3, q⟩ => ⟨a, ns, h1, h2, h3, fun p L H' hp hL hpl s hl hd => ⟨L, _, hL, hl, fun o2 => q p _ hp (fun b u hb => by
      rw [upd_ne (ne_of_none hb hL)]
      exact s b u hb) ⟨L, o2, ns, 0, 0, by rw [upd_ne hpl]; exact hd, upd_same, h3, Int.le_refl _, Int.le_refl _⟩⟩⟩
/-- the reader's dict -/
def rdK (L : Addr) (sp rs c : Int) : List (Key × V) := [(.inr "cells", .ref L), (.inr "spot", .int sp), (.inr "rest", .int rs), (.inr "calls", .int c)]
section
variable {H : Hp} {a L : Addr} {sp rs c : Int}
theorem rdg_cells (h : H a = some (.dK (rdK L sp rs c))) : DGet H a (.str "cells") (some (.ref L)) := DGet.k (k := Sum.inr "cells") h
theorem rdg_spot (h : H a = some (.dK (rdK L sp rs c))) : DGet H a (.str "spot") (some (.int sp)) := DGet.k (k := Sum.inr "spot") h
theorem rdg_rest (h : H a = some (.dK (rdK L sp rs c))) : DGet H a (.str "rest") (some (.int rs)) := DGet.k (k := Sum.inr "rest") h
theorem rdg_calls (h : H a = some (.dK (rdK L sp rs c))) : DGet H a (.str "calls") (some (.int c)) := DGet.k (k := Sum.inr "calls") h
theorem rdp_spot (h : H a = some (.dK (rdK L sp rs c))) (v : Int) : DPut H a (.str "spot") (.int v) (upd H a (.dK (rdK L v rs c))) := DPut.k (k := Sum.inr "spot") h (by show 4 < sizeLine; decide)
theorem rdp_rest (h : H a = some (.dK (rdK L sp rs c))) (v : Int) : DPut H a (.str "rest") (.int v) (upd H a (.dK (rdK L sp v c))) := DPut.k (k := Sum.inr "rest") h (by show 4 < sizeLine; decide)
theorem rdp_calls (h : H a = some (.dK (rdK L sp rs c))) (v : Int) : DPut H a (.str "calls") (.int v) (upd H a (.dK (rdK L sp rs v))) := DPut.k (k := Sum.inr "calls") h (by show 4 < sizeLine; decide)
end
theorem seq_asg {te : TE} {i : Nat} {u : TS} {Dn : Ends} {σ : L2.St} {H : Hp} (h : te σ H fun v H1 => u Dn (σ.set i (some v)) H1) : tSeq (tAsg te (gName i)) u Dn σ H := h
theorem seq_if {q : Prop} {c : TT} {t v : TS} {Dn : Ends} {σ : L2.St} {H : Hp} (h : ∀ R : Bool → Hp → Prop, (q → R true H) → R false H → c σ H R) (ht : q → t { Dn with nx := v Dn } σ H) (hu : v Dn σ H) : tSeq (tIfS c t tNext) v Dn σ H :=
  h (fun b H1 => if b = true then t { Dn with nx := v Dn } σ H1 else tNext { Dn with nx := v Dn } σ H1) ht hu
/-- draw, told of the reader alone -/
def spDraw : Sp := fun vs H Q _ => ∃ (a L : Addr) (o : Obj) (xs : List Int) (sp rs : Int) (c m : Nat), vs = [.ref a, .int m] ∧ H a = some (.dK (rdK L sp rs c)) ∧ H L = some (.frz o (.lst (xs.map V.int))) ∧ xs.length ≤ 63 ∧ 0 ≤ sp ∧ 0 ≤ rs ∧ 0 < m ∧ m < 2 ^ 30 ∧ c < 10 ^ 6 ∧
  ∀ (r : Nat) (sp' rs' : Int) (H' : Hp), r < m → 0 ≤ sp' → 0 ≤ rs' → (∀ b o, b ≠ a → H b = some o → H' b = some o) → H' a = some (.dK (rdK L sp' rs' (c + 1 : Nat))) → Q (.int r) H'
theorem ok_draw0 (bl : Bl mg) (F : FunD K "_law_draw" "_law_draw" (defArgs s__law_draw) (defBody s__law_draw) (defScope s__law_draw) [] [] f fd) : FnOk P w K mg base (L2N.CX P w) 1 f fd ["_law_reader_here", "_law_many"] spDraw := by
  have S : FnScope ["_law_reader_here", "_law_many", "_law_calls", "_law_figure", "_law_spot", "_law_cells", "_law_cell", "_law_once"] ["_law_reader_here", "_law_many"] (defScope s__law_draw) := ⟨rfl, rfl, rfl, by decide +kernel, rfl, by decide +kernel, by decide +kernel⟩
  refine F.ok S (fun vs H Q E h => ?_) fun cdv A outer s H vs Q E hr h => ?_
  · obtain ⟨a, L, o, xs, sp, rs, c, m, rfl, _⟩ := h
    rfl
  obtain ⟨a, L, o, xs, sp, rs, c, m, rfl, ha, hL, hxs, hsp, hrs, hm, hm2, hc, q⟩ := h
  have hu := hu_of' hr
  have hu1 : (cxOf (L2N.CX P w) P w K mg base ["_law_reader_here", "_law_many", "_law_calls", "_law_figure", "_law_spot", "_law_cells", "_law_cell", "_law_once"] "_law_draw" (defScope s__law_draw) f cdv A outer s H E).A.units + 1 < cLine := by
    show (A.deeper _).units + 1 < cLine
    omega
  refine ⟨_, pss_cons (ps_set (i := 2) S.nd rfl (.inl rfl) (pe_op op_add (pe_dget hu1 (pe_var (i := 0) rfl (.inl rfl)) pe_str (fun _ _ => rfl)) pe_int))
    (pss_cons (ps_dput hu1 (pe_var (i := 0) rfl (.inl rfl)) pe_str (pe_var (i := 2) rfl (.inl rfl)) rfl)
    (pss_cons (ps_if (pt_cmpR op_gt (pe_dget hu1 (pe_var (i := 0) rfl (.inl rfl)) pe_str (fun _ _ => rfl)) pe_int (nomark _)) 
        (pss_cons (ps_set (i := 3) S.nd rfl (.inl rfl) (pe_op op_mod (pe_callTy call_int1 (by rfl) bl.int (by kernel_rfl) (pa_cons (pe_dget hu1 (pe_var (i := 0) rfl (.inl rfl)) pe_str (fun _ _ => rfl)) pa_nil)) (pe_var (i := 1) rfl (.inl rfl))))
        (pss_cons (ps_dput hu1 (pe_var (i := 0) rfl (.inl rfl)) pe_str (pe_op op_fdiv (pe_dget hu1 (pe_var (i := 0) rfl (.inl rfl)) pe_str (fun _ _ => rfl)) (pe_var (i := 1) rfl (.inl rfl))) rfl)
        (pss_one (ps_ret (pe_var (i := 3) rfl (.inl rfl)))))) pss_nil)
    (pss_cons (ps_set (i := 4) S.nd rfl (.inl rfl) (pe_dget hu1 (pe_var (i := 0) rfl (.inl rfl)) pe_str (fun _ _ => rfl)))
    (pss_cons (ps_dput hu1 (pe_var (i := 0) rfl (.inl rfl)) pe_str (pe_op op_add (pe_var (i := 4) rfl (.inl rfl)) pe_int) rfl)
    (pss_cons (ps_set (i := 5) S.nd rfl (.inl rfl) (pe_dget hu1 (pe_var (i := 0) rfl (.inl rfl)) pe_str (fun _ _ => rfl)))
    (pss_cons (ps_set (i := 6) S.nd rfl (.inl rfl) (pe_ifExp (pt_cmpR op_gt (pe_callB call_len_seq (by rfl) bl.len PySem.boot_len (pa_cons (pe_var (i := 5) rfl (.inl rfl)) pa_nil)) pe_int (nomark _))
        (pe_ix ix_list (pe_var (i := 5) rfl (.inl rfl)) (pe_op op_mod (pe_callTy call_int1 (by rfl) bl.int (by kernel_rfl) (pa_cons (pe_var (i := 4) rfl (.inl rfl)) pa_nil)) (pe_callB call_len_seq (by rfl) bl.len PySem.boot_len (pa_cons (pe_var (i := 5) rfl (.inl rfl)) pa_nil))) (fun _ _ => rfl)) pe_int))
    (pss_cons (ps_if (PW.pt (L2.pw_and (pt_cmpR op_lt (pe_var (i := 4) rfl (.inl rfl)) (pe_callB call_len_seq (by rfl) bl.len PySem.boot_len (pa_cons (pe_var (i := 5) rfl (.inl rfl)) pa_nil)) (nomark _)) (L2.pw_and1 (pt_cmpR op_ge (pe_var (i := 6) rfl (.inl rfl)) (pe_op op_pow pe_int pe_int) (nomark _)))))
        (pss_cons (ps_dput hu1 (pe_var (i := 0) rfl (.inl rfl)) pe_str (pe_op op_fdiv (pe_var (i := 6) rfl (.inl rfl)) (pe_var (i := 1) rfl (.inl rfl))) rfl)
        (pss_one (ps_ret (pe_op op_mod (pe_callTy call_int1 (by rfl) bl.int (by kernel_rfl) (pa_cons (pe_var (i := 6) rfl (.inl rfl)) pa_nil)) (pe_var (i := 1) rfl (.inl rfl)))))) pss_nil)
    (pss_cons (ps_set (i := 7) S.nd rfl (.inl rfl) (pe_op op_mod (pe_callTy call_int1 (by rfl) bl.int (by kernel_rfl) (pa_cons (pe_op op_pow (pe_op op_add (pe_op op_add (pe_op op_mod (pe_callTy call_int1 (by rfl) bl.int (by kernel_rfl) (pa_cons (pe_var (i := 6) rfl (.inl rfl)) pa_nil)) pe_int) (pe_op op_mul pe_int (pe_var (i := 2) rfl (.inl rfl)))) pe_int) pe_int) pa_nil)) pe_int))
    (pss_one (ps_ret (pe_op op_mod (pe_callTy call_int1 (by rfl) bl.int (by kernel_rfl) (pa_cons (pe_op op_fdiv (pe_op op_mod (pe_callTy call_int1 (by rfl) bl.int (by kernel_rfl) (pa_cons (pe_op op_pow (pe_op op_add (pe_var (i := 7) rfl (.inl rfl)) (pe_op op_mul (pe_op op_mul pe_int (pe_var (i := 2) rfl (.inl rfl))) (pe_var (i := 2) rfl (.inl rfl)))) pe_int) pa_nil)) pe_int) pe_int) pa_nil)) (pe_var (i := 1) rfl (.inl rfl))))))))))))), ?_⟩
  have haL : L ≠ a := ne_of hL ha (by intro z; cases z)
  refine ⟨_, rfl, a, _, rfl, rdg_calls ha, c, 1, rfl, rfl, ?_⟩
  have kp1 : ∀ b o, b ≠ a → H b = some o → upd H a (.dK (rdK L sp rs (c + 1 : Int))) b = some o := fun b o n e => by rw [upd_ne n]; exact e
  have hc1 : ((c : Int) + 1) = ((c + 1 : Nat) : Int) := by omega
  refine ⟨_, rfl, _, rfl, a, _, rfl, rdp_calls ha _, ?_⟩
  have ha1 : upd H a (.dK (rdK L sp rs ((c : Int) + 1))) a = some (.dK (rdK L sp rs ((c : Int) + 1))) := upd_same
  have hL1 := kp1 L _ haL hL
  generalize upd H a (.dK (rdK L sp rs ((c : Int) + 1))) = H1 at kp1 ha1 hL1 ⊢
  -- if rest > 0
  refine ⟨_, rfl, a, _, rfl, rdg_rest ha1, rs, 0, rfl, rfl, _, rfl, ?_⟩
  by_cases hr0 : 0 < rs
  · rw [decide_eq_true hr0]
    refine iteT ?_
    have hmI : (0 : Int) < m := by omega
    refine ⟨_, rfl, a, _, rfl, rdg_rest ha1, .inl ⟨rs, rfl, _, rfl, rs, (m : Int), rfl, rfl, hmI, ?_⟩⟩
    refine ⟨_, rfl, a, _, rfl, rdg_rest ha1, _, rfl, rs, (m : Int), rfl, rfl, ⟨hmI, by show (m : Int) < 1073741824; omega⟩, _, rfl, a, _, rfl, rdp_rest ha1 _, _, rfl, ?_⟩
    have h0 : 0 ≤ rs % m := Int.emod_nonneg _ (by omega)
    have h1 : rs % m < m := Int.emod_lt_of_pos _ hmI
    obtain ⟨r, er⟩ := Int.eq_ofNat_of_zero_le h0
    show Q (.int (rs % m)) _
    rw [er]
    refine q r sp (rs / m) _ (by omega) hsp (Int.ediv_nonneg hrs (by omega)) (fun b o n e => ?_) ?_
    · rw [upd_ne n]
      exact kp1 b o n e
    · rw [upd_same, hc1]
  · rw [decide_eq_false hr0]
    refine iteF ?_
    show tSeq _ _ _ _ _
    refine ⟨_, rfl, a, _, rfl, rdg_spot ha1, ?_⟩
    refine ⟨_, rfl, sp, 1, rfl, rfl, _, rfl, a, _, rfl, rdp_spot ha1 _, ?_⟩
    have kp2 : ∀ b o, b ≠ a → H b = some o → upd H1 a (.dK (rdK L (sp + 1) rs (c + 1 : Int))) b = some o := fun b o n e => by rw [upd_ne n]; exact kp1 b o n e
    have ha2 : upd H1 a (.dK (rdK L (sp + 1) rs ((c : Int) + 1))) a = some (.dK (rdK L (sp + 1) rs ((c : Int) + 1))) := upd_same
    have hL2 := kp2 L _ haL hL
    generalize upd H1 a (.dK (rdK L (sp + 1) rs ((c : Int) + 1))) = H2 at kp2 ha2 hL2 ⊢
    show tSeq _ _ _ _ _
    refine ⟨_, rfl, a, _, rfl, rdg_cells ha2, ?_⟩
    have hsq : SqL K H2 L (xs.map V.int) := .inl (.inr ⟨o, hL2⟩)
    dsimp only [gName]
    refine seq_asg ?_
    refine (?_ : ∀ Q' : V → Hp → Prop, (∀ cell : Int, Q' (.int cell) H2) → tIf _ _ _ _ H2 Q') _ (fun cell => ?_)
    · intro Q' hQ
      refine ⟨_, rfl, L, _, rfl, .inl hsq, (xs.map V.int).length, 0, rfl, rfl, _, rfl, ?_⟩
      by_cases hx : (0 : Int) < ((xs.map V.int).length : Int)
      · rw [decide_eq_true hx]
        refine iteT ?_
        have h0 : 0 ≤ sp % ((xs.map V.int).length : Int) := Int.emod_nonneg _ (by omega)
        have h1 : sp % ((xs.map V.int).length : Int) < (xs.map V.int).length := Int.emod_lt_of_pos _ hx
        obtain ⟨j, ej⟩ := Int.eq_ofNat_of_zero_le h0
        have hj : j < xs.length := by rw [ej] at h1; simp at h1; exact h1
        refine ⟨_, rfl, _, rfl, .inl ⟨sp, rfl, _, rfl, L, _, rfl, .inl hsq, sp, _, rfl, rfl, hx, ?_⟩⟩
        dsimp only
        rw [ej]
        have e2 : (xs.map V.int)[j]? = some (.int xs[j]) := by simp [hj]
        exact ⟨L, _, _, _, rfl, rfl, hsq, atI_nat e2, hQ _⟩
      · rw [decide_eq_false hx]
        exact iteF (hQ 23)
    · have hmI : (0 : Int) < m := by omega
      have hdivm : CDiv cell (m : Int) := ⟨hmI, by show (m : Int) < 1073741824; omega⟩
      have hc1p : (0 : Int) ≤ (c : Int) + 1 ∧ (c : Int) + 1 ≤ 1000000 := by omega
      refine seq_if (q := (10 : Int) ^ 18 ≤ cell) (fun R h1 h2 => ?_) (fun hbig => ?_) ?_
      · refine ⟨_, rfl, _, rfl, L, _, rfl, .inl hsq, sp, _, rfl, rfl, _, rfl, ?_⟩
        have hsec : ∀ σ : L2.St, σ[6]? = some (some (.int cell)) → tTest (tOp (rI0 fun i j => .bl (decide (j ≤ i))) (tVar 6) (tOp (rI CPow fun i j => .int (i ^ j.toNat)) (tC (.int 10)) (tC (.int 18)))) σ H2 R := fun σ hσ => by
          refine ⟨_, hσ, 10, 18, rfl, rfl, ⟨by decide, by decide, by decide⟩, cell, _, rfl, rfl, _, rfl, ?_⟩
          by_cases e : (10 : Int) ^ (18 : Int).toNat ≤ cell
          · rw [decide_eq_true e]
            exact h1 e
          · rw [decide_eq_false e]
            exact h2
        dsimp only
        by_cases e : sp < ((xs.map V.int).length : Int)
        · rw [decide_eq_true e]
          exact iteT (hsec _ rfl)
        · rw [decide_eq_false e]
          exact iteF h2
      · refine ⟨_, rfl, _, rfl, cell, (m : Int), rfl, rfl, hdivm, _, rfl, a, _, rfl, rdp_rest ha2 _, _, rfl, .inl ⟨cell, rfl, _, rfl, cell, (m : Int), rfl, rfl, hmI, ?_⟩⟩
        have h0 : 0 ≤ cell % m := Int.emod_nonneg _ (by omega)
        have h1 : cell % m < m := Int.emod_lt_of_pos _ hmI
        obtain ⟨r, er⟩ := Int.eq_ofNat_of_zero_le h0
        show Q (.int (cell % m)) _
        rw [er]
        have hc0 : 0 ≤ cell := by
          have : (0 : Int) ≤ 10 ^ 18 := by decide
          omega
        refine q r (sp + 1) (cell / m) _ (by omega) (by omega) (Int.ediv_nonneg hc0 (by omega)) (fun b o n e => ?_) ?_
        · rw [upd_ne n]
          exact kp2 b o n e
        · rw [upd_same, hc1]
      · refine seq_asg ?_
        have hz0 : 0 ≤ cell % 2147483629 := Int.emod_nonneg _ (by decide)
        have hz1 : cell % 2147483629 < 2147483629 := Int.emod_lt_of_pos _ (by decide)
        have hpw : CPow (cell % 2147483629 + 6131 * ((c : Int) + 1) + 37) 5 := ⟨by decide, by decide, by omega⟩
        refine ⟨_, rfl, .inl ⟨cell, rfl, cell, 2147483629, rfl, rfl, (by show (0 : Int) < 2147483629; decide), _, rfl, 6131, (c : Int) + 1, rfl, rfl, .inl ⟨by decide, by decide⟩, _, _, rfl, rfl, _, 37, rfl, rfl, _, 5, rfl, rfl, hpw, .inl ⟨_, rfl, _, 2147483647, rfl, rfl, (by show (0 : Int) < 2147483647; decide), ?_⟩⟩⟩
        have hu0 : 0 ≤ ((cell % 2147483629 + 6131 * ((c : Int) + 1) + 37) ^ (5 : Int).toNat) % 2147483647 := Int.emod_nonneg _ (by decide)
        have hu1 : ((cell % 2147483629 + 6131 * ((c : Int) + 1) + 37) ^ (5 : Int).toNat) % 2147483647 < 2147483647 := Int.emod_lt_of_pos _ (by decide)
        dsimp only
        generalize ((cell % 2147483629 + 6131 * ((c : Int) + 1) + 37) ^ (5 : Int).toNat) % 2147483647 = u at hu0 hu1 ⊢
        have hsq1 : 4177 * ((c : Int) + 1) ≤ 4177 * 1000000 := by omega
        have hsq2 : 0 ≤ 4177 * ((c : Int) + 1) * ((c : Int) + 1) := Int.mul_nonneg (by omega) (by omega)
        have hsq3 : 4177 * ((c : Int) + 1) * ((c : Int) + 1) ≤ 4177 * 1000000 * 1000000 := Int.mul_le_mul hsq1 hc1p.2 hc1p.1 (by decide)
        have hpw2 : CPow (u + 4177 * ((c : Int) + 1) * ((c : Int) + 1)) 5 := ⟨by decide, by decide, by omega⟩
        refine ⟨_, rfl, _, rfl, 4177, (c : Int) + 1, rfl, rfl, .inl ⟨by decide, by decide⟩, _, rfl, _, (c : Int) + 1, rfl, rfl, .inr ⟨by omega, by omega⟩, _, _, rfl, rfl, _, 5, rfl, rfl, hpw2, .inl ⟨_, rfl, _, 2147483587, rfl, rfl, (by show (0 : Int) < 2147483587; decide), _, 32, rfl, rfl, ⟨by decide, by decide⟩, .inl ⟨_, rfl, _, rfl, _, (m : Int), rfl, rfl, hmI, ?_⟩⟩⟩
        dsimp only
        generalize (u + 4177 * ((c : Int) + 1) * ((c : Int) + 1)) ^ (5 : Int).toNat % 2147483587 / 32 = y
        have h0 : 0 ≤ y % m := Int.emod_nonneg _ (by omega)
        have h1 : y % m < m := Int.emod_lt_of_pos _ hmI
        obtain ⟨r, er⟩ := Int.eq_ofNat_of_zero_le h0
        rw [er]
        exact q r (sp + 1) rs _ (by omega) (by omega) hrs (fun b o n e => kp2 b o n e) (by rw [ha2, hc1])
theorem ok__law_draw {C : Addr} (bl : Bl mg) (F : FunD K "_law_draw" "_law_draw" (defArgs s__law_draw) (defBody s__law_draw) (defScope s__law_draw) [] [] f fd) (hm : mg "_law_draw" = some (.ref f)) : Has P w K mg base C "_law_draw" 1 ["_law_reader_here", "_law_many"] g__law_draw := by
  refine ⟨f, fd, (ok_draw0 bl F).imp fun vs H Q E h => ?_, hm, F.kp, F.bindsN fun _ _ _ _ _ _ us hl => match us, hl with | [_, _], _ => rfl⟩
  obtain ⟨A, r, c, sls, P', h1, h2, h3, h4, da, ⟨m, rfl, m0, m1, hc, hP⟩, q1, q2⟩ := h
  cases da with
  | cons a0 da =>
    cases da with
    | cons a1 da =>
      cases da
      obtain ⟨a, rfl, hr⟩ := a0
      have a1 : DX A H _ (.int m) := a1
      cases a1
      obtain ⟨L, o, xs, sp, rs, g1, g2, g3, g4, g5⟩ := h4 a hr
      refine ⟨a, L, o, xs, sp, rs, c, m, rfl, g1, g2, g3, g4, g5, m0, m1, hc, fun r' sp' rs' H' hr' hs' hq' kp ha' => ?_⟩
      have ne : L ≠ a := ne_of g2 g1 (by intro z; cases z)
      refine q1 (.int r') (c + 1) _ H' (hP r' hr') (fun b u n e => kp b u (fun z => n (by rw [z]; exact hr)) e) (fun b e => ?_) (.int _)
      rw [hr] at e
      cases e
      exact ⟨L, o, xs, sp', rs', ha', kp L _ ne g2, g3, hs', hq'⟩
end
end FK
set_option Elab.async false
set_option linter.all false
set_option maxRecDepth 100000
set_option maxHeartbeats 4000000
/-! Record: made, its form, one row more. -/
namespace FK
open PySem PySem.Spec L2 PyProof.Rows
/-- what the written part says of Record -/
structure RecF (K : PySem.W.Frag) (mg : Str → Option Value) (CR fI fA pF gF : Addr) : Prop where
  cls : Cls K CR
  mkr : Mk K CR fI
  addAt : PySem.W.findIn K (.ref CR) "__add__" = some (some (.ref fA))
  addFn : PySem.W.isFn K (.ref fA) = true
  first : PySem.W.selfFirst K CR = true
  prop : PropOf K CR "form" pF gF
  noR : NoAttr K CR "own_rule"
  noS : NoAttr K CR "own_rows"
  mR : mg "Record" = some (.ref CR)
/-- an error tells of row t -/
def BadE (CI : Addr) (E : XK) (H : Hp) (t : Nat) : Prop := ∀ (w : Str) a, ExAt t a → ∀ cls dd H', Same H H' → XD CI [] H' cls dd (.str w) a → E cls dd H'
def recO (CR dx : Addr) (v0 v1 : V) : HO := .ins CR dx [("own_rule", v0), ("own_rows", v1)]
def spRecInit (CR CI : Addr) : Sp := fun vs H Q E => ∃ x dx v0 v1 x0 rows, vs = [.ref x, v0, v1] ∧ H x = some (.ins CR dx []) ∧ DX [] H v0 (.str x0) ∧ DX [] H v1 (rowsT rows) ∧ ruleOk x0 ∧ rowsOk rows ∧
  (allOk rows = true → ∀ H', Same H H' → Q .non (upd H' x (recO CR dx v0 v1))) ∧ ∀ t row, rows[t]? = some row → (∀ j < t, ∀ r, rows[j]? = some r → stepOk (rows.take j) r = true) → stepOk (rows.take t) row = false → BadE CI E H t
section
variable {P : Program} {w : World} {K : PySem.W.Frag} {mg : Str → Option Value} {base : Heap} {CI CR fI fA pF gF : Addr} {f : Addr} {fd : FuncData} {kl : Nat}
theorem ok_rec_init (R : RecF K mg CR fI fA pF gF) (h : Has P w K mg base CI "lets_record" kl ["thing"] g_lets_record) (F : FunD K "__init__" "Record.__init__" (defArgs s_Record_init) (defBody s_Record_init) (defScope s_Record_init) [] [] f fd) :
    FnOk P w K mg base (L2N.CX P w) (kl + 1) f fd ["self", "rule", "rows"] (spRecInit CR CI) := by
  obtain ⟨fl, fdl, Fl, ml, kpl, bl⟩ := h
  have S : FnScope ["self", "rule", "rows"] ["self", "rule", "rows"] (defScope s_Record_init) := ⟨rfl, rfl, rfl, by decide +kernel, rfl, by decide +kernel, by decide +kernel⟩
  refine F.ok S (fun vs H Q E h => ?_) fun cdv A outer s H vs Q E hr h => ?_
  · obtain ⟨x, dx, v0, v1, x0, rows, rfl, _⟩ := h
    rfl
  obtain ⟨x, dx, v0, v1, x0, rows, rfl, hx, d0, d1, hru, hok, h1, h2⟩ := h
  have hpass := L2N.passes_call (X := cxOf (L2N.CX P w) P w K mg base ["self", "rule", "rows"] "Record.__init__" (defScope s_Record_init) f cdv A outer s H E) (L2N.takes_of rfl rfl rfl rfl) fun _ _ _ _ h => h
  refine ⟨_, pss_cons (ps_expr (pe_call Fl hr rfl ml kpl bl .nil hpass (pa_cons (pe_tup (pa_cons (pe_var (i := 1) rfl (.inl rfl)) (pa_cons (pe_var (i := 2) rfl (.inl rfl)) pa_nil))) pa_nil)))
    (pss_cons (ps_fld (pe_var (i := 0) rfl (.inl rfl)) (pe_var (i := 1) rfl (.inl rfl)) rfl) (pss_one (ps_fld (pe_var (i := 0) rfl (.inl rfl)) (pe_var (i := 2) rfl (.inl rfl)) rfl))), ?_⟩
  refine ⟨_, rfl, _, rfl, by show 2 ≤ sizeLine; decide, fun p hp => ?_⟩
  have s1 := same_new (o := HO.tup [v0, v1]) hp
  refine ⟨[], none, 0, [.dat (recD x0 rows)], fun o c' => match o with
    | .rt d => allOk rows = true
    | .ex w a => ∃ t x, w = .str x ∧ ExAt t a ∧ BadE CI E H t, by simp, by simp, by simp, rdO_none, .cons (.tup upd_same (by simp) (.cons (d0.same s1) (.cons (d1.same s1) .nil))) .nil, ⟨x0, rows, rfl, hru, hok, fun e => e, fun t row ht hj hb w a hw => ⟨t, w, rfl, hw, h2 t row ht hj hb⟩⟩, ?_, ?_⟩
  · intro d c' v H' e1 ex rd dv
    have s2 : Same H H' := s1.trans ex.same
    refine ⟨_, rfl, _, rfl, x, CR, dx, [], rfl, s2 _ _ hx, R.cls, R.noR, by simp, ?_⟩
    refine ⟨_, rfl, _, rfl, x, CR, dx, [("own_rule", v0)], rfl, upd_same, R.cls, R.noS, by simp, ?_⟩
    have e := h1 e1 H' s2
    show Q .non (upd (upd H' x _) x _)
    rw [upd_upd]
    exact e
  · intro w a c' cls dd H' ⟨t, x1, ew, ht, hb⟩ ex rd xd
    subst ew
    exact hb x1 a ht cls dd H' (s1.trans ex.same) xd
/-- its form, in a new pair -/
def spForm (CR : Addr) : Sp := fun vs H Q _ => ∃ a dx v0 v1, vs = [.ref a] ∧ H a = some (recO CR dx v0 v1) ∧ ∀ p, H p = none → Q (.ref p) (upd H p (.tup [v0, v1]))
theorem ok_form (R : RecF K mg CR fI fA pF gF) (F : FunD K "form" "Record.form" (defArgs s_Record_form) (defBody s_Record_form) (defScope s_Record_form) [] [] f fd) : FnOk P w K mg base (L2N.CX P w) 1 f fd ["self"] (spForm CR) := by
  have S : FnScope ["self"] ["self"] (defScope s_Record_form) := ⟨rfl, rfl, rfl, by decide +kernel, rfl, by decide +kernel, by decide +kernel⟩
  refine F.ok S (fun vs H Q E h => ?_) fun cdv A outer s H vs Q E hr h => ?_
  · obtain ⟨a, dx, v0, v1, rfl, _⟩ := h
    rfl
  obtain ⟨a, dx, v0, v1, rfl, ha, q⟩ := h
  refine ⟨_, pss_one (ps_ret (pe_tup (pa_cons (pe_fld (pe_var (i := 0) rfl (.inl rfl)) rfl) (pa_cons (pe_fld (pe_var (i := 0) rfl (.inl rfl)) rfl) pa_nil)))), ?_⟩
  exact ⟨_, rfl, a, CR, dx, _, _, rfl, ha, R.cls, R.noR, rfl, _, rfl, a, CR, dx, _, _, rfl, ha, R.cls, R.noS, rfl, by show 2 ≤ sizeLine; decide, q⟩
/-- a record with a row more -/
def spAdd (CR CI : Addr) : Sp := fun vs H Q E => ∃ a dx v0 v1 vr x0 rows row, vs = [.ref a, vr] ∧ H a = some (recO CR dx v0 v1) ∧ DX [] H v0 (.str x0) ∧ DX [] H v1 (rowsT rows) ∧ DX [] H vr (rowD row) ∧ ruleOk x0 ∧ rowsOk (rows ++ [row]) ∧
  (allOk (rows ++ [row]) = true → ∀ x dx2 v2 H', Same H H' → H' x = some (recO CR dx2 v0 v2) → DX [] H' v2 (rowsT (rows ++ [row])) → Q (.ref x) H') ∧ ∀ t r, (rows ++ [row])[t]? = some r → (∀ j < t, ∀ r, (rows ++ [row])[j]? = some r → stepOk ((rows ++ [row]).take j) r = true) → stepOk ((rows ++ [row]).take t) r = false → BadE CI E H t
theorem ok_add (R : RecF K mg CR fI fA pF gF) (h : Has P w K mg base CI "lets_record" kl ["thing"] g_lets_record) {fdI : FuncData} (FI : FunD K "__init__" "Record.__init__" (defArgs s_Record_init) (defBody s_Record_init) (defScope s_Record_init) [] [] fI fdI)
    (F : FunD K "__add__" "Record.__add__" (defArgs s_Record_add) (defBody s_Record_add) (defScope s_Record_add) [] [] f fd) : FnOk P w K mg base (L2N.CX P w) (kl + 3) f fd ["self", "row"] (spAdd CR CI) := by
  have G := ok_rec_init (fI := fI) (P := P) (w := w) (base := base) (CI := CI) R h FI
  have bI : L2.Binds K fdI ["self", "rule", "rows"] [] := FI.bindsN fun _ _ _ _ _ _ us hl => match us, hl with | [_, _, _], _ => rfl
  have S : FnScope ["self", "row"] ["self", "row"] (defScope s_Record_add) := ⟨rfl, rfl, rfl, by decide +kernel, rfl, by decide +kernel, by decide +kernel⟩
  refine F.ok S (fun vs H Q E h => ?_) fun cdv A outer s H vs Q E hr h => ?_
  · obtain ⟨a, dx, v0, v1, vr, x0, rows, row, rfl, _⟩ := h
    rfl
  obtain ⟨a, dx, v0, v1, vr, x0, rows, row, rfl, ha, d0, d1, dr, hru, hok, h1, h2⟩ := h
  have hpass := L2N.passes_call (X := cxOf (L2N.CX P w) P w K mg base ["self", "row"] "Record.__add__" (defScope s_Record_add) f cdv A outer s H E) (L2N.takes_of rfl rfl rfl rfl) fun _ _ _ _ h => h
  refine ⟨_, pss_one (ps_ret (pe_make R.mkr G hr rfl R.mR bI .nil hpass (pa_cons (pe_fld (pe_var (i := 0) rfl (.inl rfl)) rfl) (pa_cons (pe_tup (StX.pa_star (pe_fld (pe_var (i := 0) rfl (.inl rfl)) rfl) (pa_cons (pe_var (i := 1) rfl (.inl rfl)) pa_nil))) pa_nil)))), ?_⟩
  cases d1 with
  | tup g1 g2 g3 =>
    rename_i b1 xs
    refine ⟨_, rfl, a, CR, dx, _, _, rfl, ha, R.cls, R.noR, rfl, _, rfl, a, CR, dx, _, _, rfl, ha, R.cls, R.noS, rfl, b1, xs, rfl, .inl (SqT.of g1), _, rfl, ?_, fun p hp => fun x dxx hx hdx hne => ?_⟩
    · have e1 := g3.length
      have e2 := hok.1
      rw [sizeLine_eq]
      simp at e1 e2 ⊢
      omega
    · have hx2 : (upd (upd H p (.tup (xs ++ [vr]))) dxx (.own x)) x = none := by rw [upd_ne (Ne.symm hne)]; exact hx
      have s0 := same_new (o := HO.tup (xs ++ [vr])) hp
      have sm : Same H (upd (upd (upd H p (.tup (xs ++ [vr]))) dxx (.own x)) x (.ins CR dxx [])) := (s0.trans (same_new hdx)).trans (same_new hx2)
      have sp : Same (upd H p (.tup (xs ++ [vr]))) (upd (upd (upd H p (.tup (xs ++ [vr]))) dxx (.own x)) x (.ins CR dxx [])) := (same_new hdx).trans (same_new hx2)
      have ev : rowsT (rows ++ [row]) = .tuple (rows.map rowD ++ [rowD row]) := by simp [rowsT]
      have dn : DX [] (upd (upd (upd H p (.tup (xs ++ [vr]))) dxx (.own x)) x (.ins CR dxx [])) (.ref p) (rowsT (rows ++ [row])) := by
        rw [ev]
        exact .tup (sp _ _ upd_same) (by simp) ((g3.same sm).app (.cons (dr.same sm) .nil))
      refine ⟨x, dxx, v0, .ref p, x0, rows ++ [row], rfl, upd_same, d0.same sm, dn, hru, hok, fun e H' s => ⟨rfl, ?_⟩, fun t r hr hj hb w a hw cls dd H' s xd => h2 t r hr hj hb w a hw cls dd H' (sm.trans s) xd⟩
      have hxn : H x = none := by
        by_cases z : x = p
        · rw [z, upd_same] at hx; cases hx
        · rw [upd_ne z] at hx; exact hx
      have sx : Same H (upd H' x (recO CR dxx v0 (.ref p))) := fun b u hb => by
        rw [upd_ne (ne_of_none hb hxn)]
        exact s _ _ (sm b u hb)
      refine h1 e x dxx (.ref p) _ sx upd_same ?_
      have hpx : p ≠ x := fun z => by rw [← z, upd_same] at hx; cases hx
      refine (dn.same s).gen (A := []) (fun c us hc _ => ⟨?_, by simp⟩) (fun c us hc _ => ⟨?_, by simp⟩) _ _
      · rw [upd_ne (fun z => by rw [z, s _ _ upd_same] at hc; cases hc)]
        exact hc
      · rw [upd_ne (fun z => by rw [z, s _ _ upd_same] at hc; cases hc)]
        exact hc
end
/-- r + row -/
def rAddO (CR CI : Addr) (E : XK) : R2 := fun x y H Q => ∃ a b us dx v0 v1, x = .ref a ∧ y = .ref b ∧ H a = some (recO CR dx v0 v1) ∧ H b = some (.tup us) ∧ spAdd CR CI [x, y] H Q E
section
open PySem.W
variable {X : Cx} {CI CR fI fA pF gF : Addr} {fd : FuncData} {k : Nat} {E : XK}
theorem back_of {pins : List (Addr × Obj)} {σ : L2.St} {Q : VK} {u : Value} {s : Shared} (h : EP X pins σ Q u s) : PySem.W.CmpBack (EP X pins σ Q) u s := by
  obtain ⟨v, H', I, r, q⟩ := id h
  cases u with
  | notImplemented =>
    cases v <;> first | exact (nomatch r) | (obtain ⟨t, z⟩ := r; exact (nomatch z))
  | _ => exact h
theorem op_addO (R : RecF X.K X.mg CR fI fA pF gF) (F : FnOk X.prog X.w X.K X.mg X.base (L2N.CX X.prog X.w) k fA fd ["self", "row"] (spAdd CR CI)) (hr : Room k X.A) (hb : L2.Binds X.K fd ["self", "row"] []) (hx : Passes (L2N.CX X.prog X.w) X E) :
    OpR X (binaryOp .Add) (rAddO CR CI E) := by
  intro pins s σ H x y v u Q I rx ry h
  obtain ⟨a, b, us, dx, v0, v1, rfl, rfl, ha, hbt, hsp⟩ := h
  obtain rfl : v = Value.ref a := rx
  obtain rfl : u = Value.ref b := ry
  obtain ⟨mA, O, _, _, _, _⟩ := ins_get I.hok ha
  obtain ⟨od, J, _⟩ := O.look
  have hb2 : ObjOk X.prog X.w H s.heap b (.tup us) := I.hok b _ hbt
  obtain ⟨_, its, _, ob, hob, hc, _⟩ := hb2
  have LT : Looks (model X.prog X.w) s.heap (typeOf (.ref b)) (.type "tuple") := by
    rw [← hc]
    exact (Looks.ld hob).andThen .now
  have go := run_fn (us := [.ref a, .ref b]) (vs := [.ref a, .ref b]) F hr hb .nil hx I (.cons rfl (.cons rfl .nil)) hsp
  have X' := I.kIn
  obtain ⟨cd, rest, hcd, hm⟩ := ksp_first R.first
  have hs : findIn X.K (.ref CR) (PySem.dunder "add") = some (some (.ref fA)) := R.addAt
  have one := ksp_try X' J hs R.addFn (wpAny_mono go (fun u s' h => back_of h) fun _ _ e => e)
  obtain ⟨hh, g, d, tt, os⟩ := s
  have L1 : Looks (model X.prog X.w) hh (typeOf (.ref a)) (.ref CR) := J.type
  have L3 : Looks (model X.prog X.w) hh (fillsNumberSlot (.ref CR) "add") true := fills_K X' hcd hm hs
  have L4 : Looks (model X.prog X.w) hh (fillsNumberSlot (.type "tuple") "add") false := Looks.of_pure noFill_tuple_add
  have hne : (Value.ref CR == Value.type "tuple") = false := Bool.eq_false_iff.mpr fun q => by cases beq_iff_eq.mp q
  have hi : Operator.info .Add = ("+", "add") := rfl
  simp only [binaryOp, hi]
  refine wpAny_holding (wpAny_bind ?_)
  unfold binaryOp1
  refine wpAny_bind (L1.at (wpAny_bind (LT.at (wpAny_bind (L3.at ?_)))))
  simp only [hne, Bool.false_eq_true, if_false]
  ksp_lk
  refine wpAny_mono one (fun r s' hr' => ?_) fun _ _ e => e
  obtain ⟨v, rfl, hq⟩ := hr'
  ksp_lk
  exact hq
end
end FK
set_option Elab.async false
set_option linter.all false
set_option maxRecDepth 100000
set_option maxHeartbeats 4000000
/-! Within an except suite: list comprehensions over a range, defs by data. -/
namespace FK
open PySem PySem.Spec L2 L2H PyProof.Rows
/-- a block that keeps its maker's pins -/
abbrev blkH (X : Cx) (s : Shared) (H : Hp) (scope : Scope) (ce : Env) (fp : List Addr) : Cx := { X.blk s H scope ce fp with pn := X.pn }
section
variable {X : Cx}
/-- the block's start, pins kept -/
theorem blkH_start {pins : List (Addr × Obj)} {σ σ' : L2.St} {H : Hp} {s s' : Shared} {scope : Scope} {ce : Env} {fp : List Addr} (I : Inv X pins σ H s) (J : Inv (X.blk s H scope ce fp) [] σ' H s') (k : ∀ b o, s.heap.get? b = some o → s'.heap.get? b = some o) (hL : s.heap.objs.size ≤ ce.locals) : Inv (blkH X s H scope ce fp) [] σ' H s' :=
  ⟨⟨J.ok.mod, J.ok.kind, J.ok.glob, J.ok.blt, J.ok.above, J.ok.inj, J.ok.has, J.ok.cab, J.ok.hd, J.ok.frames, J.ok.stk, J.ok.exf, J.ok.bs, J.ok.bsz, J.ok.noex, J.ok.exfs, J.ok.funs, J.ok.frf⟩, J.os, J.bare, J.base, J.loc, J.cell, J.free, J.freeC, fun p hp => by
    have hp : p ∈ X.pn := by simpa using hp
    obtain ⟨p1, p2, p3, p4, p5⟩ := I.pin p (List.mem_append_left _ hp)
    refine ⟨k _ _ p1, p2, Nat.ne_of_lt (Nat.lt_of_lt_of_le (Heap.lt_size p1) hL), fun hm => ?_, p5⟩
    exact (List.mem_cons.mp (I.stkSub p.1 hm)).elim p3 p4, J.hok, J.len⟩
/-- the block of a comprehension, run -/
theorem lcH_loop {pins : List (Addr × Obj)} {σ : L2.St} {H3 : Hp} {s3 : Shared} {R : Result → Shared → Prop} {elt tg iter : Expr} {ifs : List Expr} {scope : Scope} {own : List (Str × Nat)} {pos : Pos} {g : TG} {tt : TT} {te : TE} {D it : Addr} {fp : List Addr} {tn : Nat → Heap → Prop} {J : It} {W : Nat → Nat → Hp → Prop} {m0 : Nat} {Qd : Hp → Prop}
    (hc : HotC X) (hN : X.N.Nodup) (ok : BlkOk X.N X.env.scope scope own)
    (hg : ∀ (s : Shared) (H : Hp) (C : Addr) (cl : List (Str × Addr)) (fp : List Addr), PG (blkH X s H scope (compEnvC scope cl C X.env) fp) tg g) (ht : ∀ (s : Shared) (H : Hp) (C : Addr) (cl : List (Str × Addr)) (fp : List Addr), PTs (blkH X s H scope (compEnvC scope cl C X.env) fp) ifs tt)
    (he : ∀ (s : Shared) (H : Hp) (C : Addr) (cl : List (Str × Addr)) (fp : List Addr), PE (blkH X s H scope (compEnvC scope cl C X.env) fp) elt te)
    (I3 : Inv X pins σ H3 s3) (T : TurnH X.prog X.w X.K tg J fp it tn) (t3 : tn 0 s3.heap) (f3 : ∀ b ∈ fp, FpOk X pins H3 b ∧ b < s3.heap.objs.size) (w0 : W 0 m0 H3)
    (turn : ∀ i m H, W i m H → (J.stop i H ∧ Qd H) ∨ (J.go i H ∧ ∃ Nx : Hp → Prop, (∀ H', Nx H' → ∃ m', m' < m ∧ W (i + 1) m' H') ∧ ∀ x H', J.yld i H x H' → g x (wipe σ (own.map (·.2))) H' fun σ2 H2 => wipe σ2 (own.map (·.2)) = wipe σ (own.map (·.2)) ∧ tt σ2 H2 fun b H3 =>
      if b = true then te σ2 H3 fun y H4 => ∃ acc, H4 D = some (.lst acc) ∧ acc.length < sizeLine ∧ Nx (upd H4 D (.lst (acc ++ [y]))) else Nx H3))
    (fin : ∀ s' m H', Inv X pins σ H' s' → Qd H' → s'.heap.Ns s3.heap.objs.size m → FpOk X pins H' s3.heap.objs.size → R (.ok .next) s') :
    codeAny (model X.prog X.w) X.A (.compStart (.ListComp elt [⟨tg, iter, ifs, 0⟩] scope pos) 0 (.ref it) (.ref D) (compEnvC scope (cellsFrom (s3.heap.objs.size + 1) scope.names (cloFrom X.env.cells scope.names [])) s3.heap.objs.size X.env)) R { s3 with heap := pushCells (s3.heap.push { cls := .type "dict", data := .dict #[] }) scope.names } := by
  have up : ∀ b o, s3.heap.get? b = some o → (pushCells (s3.heap.push { cls := .type "dict", data := .dict #[] }) scope.names).get? b = some o := fun b o e => pushCells_keeps _ _ _ _ (Heap.get?_push_of_some _ e)
  have B4 := block_start I3 ok hN f3
  have I4 := blkH_start I3 B4 up (Nat.le_refl s3.heap.objs.size)
  have t4 : tn 0 ({ s3 with heap := pushCells (s3.heap.push { cls := .type "dict", data := .dict #[] }) scope.names } : Shared).heap := T.keep _ _ _ t3 fun b _ o e => up b o e
  -- the block's parts
  have pg := hg s3 H3 s3.heap.objs.size (cellsFrom (s3.heap.objs.size + 1) scope.names (cloFrom X.env.cells scope.names [])) fp
  have pt := ht s3 H3 s3.heap.objs.size (cellsFrom (s3.heap.objs.size + 1) scope.names (cloFrom X.env.cells scope.names [])) fp
  have pe := he s3 H3 s3.heap.objs.size (cellsFrom (s3.heap.objs.size + 1) scope.names (cloFrom X.env.cells scope.names [])) fp
  have hL : (compEnvC scope (cellsFrom (s3.heap.objs.size + 1) scope.names (cloFrom X.env.cells scope.names [])) s3.heap.objs.size X.env).locals = s3.heap.objs.size := rfl
  generalize compEnvC scope (cellsFrom (s3.heap.objs.size + 1) scope.names (cloFrom X.env.cells scope.names [])) s3.heap.objs.size X.env = ce at I4 pg pt pe hL ⊢
  have hcB : HotC (blkH X s3 H3 scope ce fp) := hc
  have fpB : ∀ {σ' : L2.St} {H' : Hp} {s' : Shared}, Inv (blkH X s3 H3 scope ce fp) [] σ' H' s' → (∀ b ∈ fp, H' b = none) → ∀ b ∈ fp, FpOk (blkH X s3 H3 scope ce fp) [] H' b := fun {σ' H' s'} K hn b hb => by
    refine ⟨hn b hb, (K.ok.exf b hb).1, K.ok.exfs b hb, .inl hb, fun x c e => (K.ok.exf b hb).2 x c e, fun p hp => ?_⟩
    have hp : p ∈ X.pn := by simpa using hp
    exact (f3 b hb).1.2.2.2.2.2 p (List.mem_append_left _ hp)
  generalize ({ s3 with heap := pushCells (s3.heap.push { cls := .type "dict", data := .dict #[] }) scope.names } : Shared) = s4 at I4 t4 ⊢
  let Iv : Nat → Shared → Prop := fun n s' => ∃ i H', Inv (blkH X s3 H3 scope ce fp) [] (wipe σ (own.map (·.2))) H' s' ∧ tn i s'.heap ∧ (∀ b ∈ fp, H' b = none) ∧ W i n H'
  have loop : codeAny (model X.prog X.w) X.A (.compLoop (.ListComp elt [⟨tg, iter, ifs, 0⟩] scope pos) 0 (.ref it) (.ref D) ce) R s4 := by
    refine compLoop_any Iv (fun n s5 hIv => ?_) m0 ⟨0, H3, I4, t4, fun b hb => (f3 b hb).1.1, w0⟩
    obtain ⟨i, H5, I5, t5, n5, w5⟩ := hIv
    rcases turn i n H5 w5 with ⟨hstop, qd⟩ | ⟨hgo, Nx, hNx, step⟩
    · refine thnF (T.done (blkH X s3 H3 scope ce fp) rfl rfl rfl hcB i [] s5 _ H5 (fun _ _ => False) I5 (fpB I5 n5) t5 hstop) fun r s6 ⟨er, I6⟩ => ?_
      subst er
      have I7 := I3.call' (ch := fp) I6.os I6.base I6.hok I6.bare fun b hb => ⟨(f3 b hb).1.2.2.2.1, (f3 b hb).1.2.1, (f3 b hb).1.2.2.2.2.1, (f3 b hb).1.2.2.2.2.2⟩
      have nL : H5 s3.heap.objs.size = none := hL ▸ I6.free
      obtain ⟨m, hm, _⟩ := I6.loc
      exact fin s6 m H5 I7 qd (hL ▸ hm) (I3.fpOk (Nat.le_refl _) nL)
    · refine thnF (T.item (blkH X s3 H3 scope ce fp) rfl rfl rfl hcB i [] s5 _ H5 (fun _ _ => False) I5 (fpB I5 n5) t5 hgo) fun r s6 ⟨u, er, h6⟩ => ?_
      subst er
      refine thnF h6 fun _ s7 ⟨x, H7, I7, r7, y7, t7, n7⟩ => ?_
      have J7 := I7.pinned (fpB I7 n7) (T.obj _ _ t7)
      refine thnF (pg.run _ s7 _ H7 x u _ J7 r7 (step x H7 y7)) fun _ s8 ⟨σ8, H8, I8, hw, q8⟩ => thnF (pt.run _ s8 σ8 H8 _ I8 q8) fun b s9 ⟨H9, I9, q9⟩ => ?_
      have next : ∀ {s' : Shared} {H' : Hp}, Inv (blkH X s3 H3 scope ce fp) ([] ++ pinsAt fp s7.heap) σ8 H' s' → Nx H' → ∃ m, m < n ∧ Iv m s' := fun {s' H'} K nx => by
        obtain ⟨m', hm, w'⟩ := hNx H' nx
        have at_ : ∀ b ∈ fp, ∀ o, s7.heap.get? b = some o → s'.heap.get? b = some o ∧ H' b = none := fun b hb o e => by
          have z := K.pin (b, o) (List.mem_append_right _ (List.mem_append_right _ (mem_pinsAt hb e)))
          exact ⟨z.1, z.2.1⟩
        have K' : Inv (blkH X s3 H3 scope ce fp) [] (wipe σ (own.map (·.2))) H' s' := (K.unpinned (pins := [])).weak (by rw [← hw, wipe_length]) fun j v e => (wipe_some (by rw [hw]; exact e)).1
        exact ⟨m', hm, i + 1, H', K', T.keep _ _ _ t7 fun b hb o e => (at_ b hb o e).1, fun b hb => let ⟨o, e, _⟩ := T.obj _ _ t7 b hb; (at_ b hb o e).2, w'⟩
      cases b with
      | false => exact next I9 q9
      | true => exact thnF (pe.run _ s9 σ8 H9 _ I9 q9) fun z s10 ⟨yv, H10, I10, r10, acc, hD, hz, nx⟩ => app_ok (X := blkH X s3 H3 scope ce fp) I10 hD hz r10 fun s11 I11 => next I11 nx
  exact codeAny_compStart_list loop (T.self X.A 0 _ _ _ t4 loop)
/-- [elt for tg in iter if ..] within an except suite -/
theorem pe_lcH {elt tg iter : Expr} {ifs : List Expr} {scope : Scope} {own : List (Str × Nat)} {pos : Pos} {wi : TI} {g : TG} {tt : TT} {te : TE} (hc : HotC X) (hN : X.N.Nodup) (hi : PIH X tg iter wi) (ok : BlkOk X.N X.env.scope scope own)
    (hg : ∀ (s : Shared) (H : Hp) (C : Addr) (cl : List (Str × Addr)) (fp : List Addr), PG (blkH X s H scope (compEnvC scope cl C X.env) fp) tg g) (ht : ∀ (s : Shared) (H : Hp) (C : Addr) (cl : List (Str × Addr)) (fp : List Addr), PTs (blkH X s H scope (compEnvC scope cl C X.env) fp) ifs tt)
    (he : ∀ (s : Shared) (H : Hp) (C : Addr) (cl : List (Str × Addr)) (fp : List Addr), PE (blkH X s H scope (compEnvC scope cl C X.env) fp) elt te) (hs : ∀ x, foldedSetIterable iter X.env x = pure x := by intro _; rfl) :
    PE X (.ListComp elt [⟨tg, iter, ifs, 0⟩] scope pos) (tLc wi g tt te (own.map (·.2))) := by
  refine ⟨fun pins s σ H Q I h => ?_⟩
  rw [eval_ListComp]
  have hfr : ∀ y ∈ scope.names, y.2 = .free → ∃ c, X.env.cells.lookup y.1 = some c := fun y hy e => (ok.free y hy e).elim (fun k => I.ok.has _ (.inl k)) fun k => I.ok.has _ (.inr k)
  refine wpAny_comprehension_free (use := none) rfl hs (closure_ok hfr) ok.kind (fun y hy e => by rw [ok.uniq y hy, e]) (thn (hi.run pins s σ H _ I h) fun xv s1 hx => thn hx fun itv s2 h2 => ?_)
  obtain ⟨it, fp, tn, J, H2, rfl, I2, T, t0, f0, q⟩ := h2
  refine wpAny_newObj_type (newEnv_comp ?_) (by show 0 ≤ sizeLine; decide)
  obtain ⟨W, ⟨m0, w0⟩, turn⟩ := q s2.heap.objs.size (I2.hok.fresh (Nat.le_refl _))
  have I3 : Inv X pins σ (upd H2 s2.heap.objs.size (.lst [])) { s2 with heap := s2.heap.push { cls := .type "list", data := .seq ([] : List Value).toArray } } :=
    I2.laid (t' := s2.toks) (fun b o e => Heap.get?_push_of_some _ e) (Nat.le_refl _) ⟨Nat.zero_le _, [], 0, .nil, Heap.get?_push_size _ rfl⟩
  have lt2 : ∀ b ∈ fp, b < s2.heap.objs.size := fun b hb => by
    obtain ⟨o, e, _⟩ := T.obj _ _ t0 b hb
    exact Heap.lt_size e
  have H3n : ∀ b ∈ fp, upd H2 s2.heap.objs.size (.lst []) b = none := fun b hb => by
    rw [upd_ne (Nat.ne_of_lt (lt2 b hb))]
    exact (f0 b hb).1
  refine lcH_loop hc hN ok hg ht he I3 T (T.keep _ _ _ t0 fun b _ o e => Heap.get?_push_of_some _ e) (fun b hb => ⟨⟨H3n b hb, (f0 b hb).2⟩, ?_⟩) w0 turn fun s' m H' I' q' hn f => ⟨m, hn, fun h'' sb => ?_⟩
  · show b < (s2.heap.push _).objs.size
    rw [Heap.size_push]
    exact Nat.lt_succ_of_lt (lt2 b hb)
  · exact ⟨.ref s2.heap.objs.size, H', I'.turned (t' := s'.toks) (fun b o hb e => (sb.2 b hb).trans e) f.1 f.2.1 f.2.2.2.1 f.2.2.2.2.1 f.2.2.2.2.2, rfl, q'⟩
/-- name = [..] on one line, the name a local, within an except suite -/
theorem ps_setLcH {i : Nat} {y : Str} {py : Pos} {elt tg iter : Expr} {ifs : List Expr} {scope : Scope} {own : List (Str × Nat)} {pos spos : Pos} {wi : TI} {g : TG} {tt : TT} {te : TE} (hc : HotC X) (hN : X.N.Nodup) (hy : X.N[i]? = some y) (hyl : X.env.scope.names.lookup y = some .local)
    (hsw : swapsWith (.ListComp elt [⟨tg, iter, ifs, 0⟩] scope pos) (some (.Name y py)) spos.line X.env = pure true) (hi : PIH X tg iter wi) (ok : BlkOk X.N X.env.scope scope own)
    (hg : ∀ (s : Shared) (H : Hp) (C : Addr) (cl : List (Str × Addr)) (fp : List Addr), PG (blkH X s H scope (compEnvC scope cl C X.env) fp) tg g) (ht : ∀ (s : Shared) (H : Hp) (C : Addr) (cl : List (Str × Addr)) (fp : List Addr), PTs (blkH X s H scope (compEnvC scope cl C X.env) fp) ifs tt)
    (he : ∀ (s : Shared) (H : Hp) (C : Addr) (cl : List (Str × Addr)) (fp : List Addr), PE (blkH X s H scope (compEnvC scope cl C X.env) fp) elt te) (hs : ∀ x, foldedSetIterable iter X.env x = pure x := by intro _; rfl) :
    PS X (.Assign [.Name y py] (.ListComp elt [⟨tg, iter, ifs, 0⟩] scope pos) spos) (tAsg (tLc wi g tt te (own.map (·.2))) (gName i)) := by
  refine ⟨fun pins s σ H Dn I h => ?_⟩
  rw [exec_Assign_Name_used _ _ _ _ hsw]
  refine wpAny_bind (wpAny_standAt (wpAny_bind ?_))
  have h : wi σ H _ := h
  have hfr : ∀ y ∈ scope.names, y.2 = .free → ∃ c, X.env.cells.lookup y.1 = some c := fun y hy e => (ok.free y hy e).elim (fun k => I.ok.has _ (.inl k)) fun k => I.ok.has _ (.inr k)
  show wpAny _ X.A (do let _ ← comprehension (.ListComp elt [⟨tg, iter, ifs, 0⟩] scope pos) scope X.env (firstIterPos [⟨tg, iter, ifs, 0⟩] pos) (newList []) false (eval iter X.env) (some (assign (.Name y py) X.env))) _ _ s
  refine wpAny_bind (thn (Q := fun _ s' => SP X pins Dn .next s') (wpAny_comprehension_free (use := some (assign (.Name y py) X.env)) rfl hs (closure_ok hfr) ok.kind (fun y hy e => by rw [ok.uniq y hy, e]) (thn (hi.run pins s σ H _ I h) fun xv s1 hx => thn hx fun itv s2 h2 => ?_)) fun _ s' hq => wpAny_pure (wpAny_pure hq))
  obtain ⟨it, fp, tn, J, H2, rfl, I2, T, t0, f0, q⟩ := h2
  refine wpAny_newObj_type (newEnv_comp ?_) (by show 0 ≤ sizeLine; decide)
  obtain ⟨W, ⟨m0, w0⟩, turn⟩ := q s2.heap.objs.size (I2.hok.fresh (Nat.le_refl _))
  have I3 : Inv X pins σ (upd H2 s2.heap.objs.size (.lst [])) { s2 with heap := s2.heap.push { cls := .type "list", data := .seq ([] : List Value).toArray } } :=
    I2.laid (t' := s2.toks) (fun b o e => Heap.get?_push_of_some _ e) (Nat.le_refl _) ⟨Nat.zero_le _, [], 0, .nil, Heap.get?_push_size _ rfl⟩
  have lt2 : ∀ b ∈ fp, b < s2.heap.objs.size := fun b hb => by
    obtain ⟨o, e, _⟩ := T.obj _ _ t0 b hb
    exact Heap.lt_size e
  have H3n : ∀ b ∈ fp, upd H2 s2.heap.objs.size (.lst []) b = none := fun b hb => by
    rw [upd_ne (Nat.ne_of_lt (lt2 b hb))]
    exact (f0 b hb).1
  refine lcH_loop hc hN ok hg ht he I3 T (T.keep _ _ _ t0 fun b _ o e => Heap.get?_push_of_some _ e) (fun b hb => ⟨⟨H3n b hb, (f0 b hb).2⟩, ?_⟩) w0 turn fun s' m H' I' q' hn f => ?_
  · show b < (s2.heap.push _).objs.size
    rw [Heap.size_push]
    exact Nat.lt_succ_of_lt (lt2 b hb)
  · show wpAny _ _ (assign (.Name y py) X.env (.ref s2.heap.objs.size)) _ _ _
    refine wpAny_assign_Name (store_ok2 (v := V.ref s2.heap.objs.size) I' hN hy (.inl hyl) rfl (fun s4 I4 ⟨a, sb, ha⟩ => ?_) (.inr hyl))
    have ne : (({ s2 with heap := s2.heap.push { cls := .type "list", data := .seq ([] : List Value).toArray } } : Shared).heap.objs.size) ≠ a := ha.elim (fun z => by rw [z]; exact f.2.1) fun z e => f.2.2.2.2.1 y a z e.symm
    exact ⟨m, hn.sameBut sb ne, fun h5 sb5 => ⟨_, H', I4.turned (t' := s4.toks) (fun b o hb e => (sb5.2 b hb).trans e) f.1 f.2.1 f.2.2.2.1 f.2.2.2.2.1 f.2.2.2.2.2, q'⟩⟩
end
end FK
set_option Elab.async false
set_option linter.all false
set_option maxRecDepth 100000
set_option maxHeartbeats 4000000
/-! Defs called within an except suite: promises told of the handled exception; isinstance and fields of it; the law's three such defs. -/
namespace FK
open PySem PySem.Spec L2 L2H PyProof.Rows
abbrev CXn : CXT := fun _ _ _ _ _ _ => False
/-- a def that keeps a promise while p is handled -/
structure FnP (P : Program) (w : World) (K : PySem.W.Frag) (mg : Str → Option Value) (base : Heap) (k : Nat) (f : Addr) (fd : FuncData) (ps : List Str) (sp : Addr × Obj → Sp) : Prop where
  len : ∀ p vs H Q E, sp p vs H Q E → vs.length = ps.length
  run : ∀ (A : Around) (outer : List Env) (s : Shared) (H : Hp) (args : Args) (us : List Value) (vs : List V) (Q : VK) (p : Addr × Obj), RoomH k A → Hot1 A p → PinOk outer H s p → Env0 P w K mg base A outer s H → BindsTo s fd args (ps.zip us) → Vals vs us → sp p vs H Q (fun _ _ _ => False) →
    codeAny (model P w) A (.call (.ref f) args) (CR CXn outer P w H s Q (fun _ _ _ => False)) s
section
variable {P : Program} {w : World} {K : PySem.W.Frag} {mg : Str → Option Value} {base : Heap} {x qual : Str} {params : Arguments} {body : List Stmt} {scope : Scope} {f : Addr} {fd : FuncData} {N ps : List Str} {k : Nat} {sp : Addr × Obj → Sp}
theorem okP {dvs : List V} {kws : List (Str × V)} (F : FunD K x qual params body scope dvs kws f fd) (S : FnScope N ps scope) (len : ∀ p vs H Q E, sp p vs H Q E → vs.length = ps.length)
    (hbody : ∀ (cdv : Value) (A : Around) (outer : List Env) (s : Shared) (H : Hp) (vs : List V) (Q : VK) (p : Addr × Obj), Hot1 A p → RoomH k (A.deeper (envOfC qual scope s.heap.objs.size f cdv)) → sp p vs H Q (fun _ _ _ => False) →
      ∃ t, PSs (cxH CXn P w K mg base N qual scope f cdv A outer s H (fun _ _ _ => False) p) body t ∧ t { nx := fun _ H' => Q .non H', rt := Q } (L2.start N vs) H) : FnP P w K mg base (k + 1) f fd ps sp := by
  obtain ⟨oc, od, dV, kV, doc, pm, an, cdv, ct, osl, rfl, lk, hcd, _, _⟩ := F.ex
  refine ⟨len, fun A outer s H args us vs Q p hr hot hpin e0 hb r hsp => ?_⟩
  have up : ∀ b o, base.get? b = some o → s.heap.get? b = some o := fun b o e => (e0.bs b o e).1
  have KX := e0.mod.kin.keeps up
  have par : ∀ y ∈ ps.zip us, scope.names.lookup y.1 = some .local ∨ (scope.names.lookup y.1 = some .cell ∧ ((cellsFrom (s.heap.objs.size + 1) scope.names []).lookup y.1).isSome = true) := fun y hy =>
    (S.par y.1 (List.of_mem_zip (a := y.1) (b := y.2) hy).1).imp id fun q => ⟨q, PySem.W.cellsFrom_some _ _ _ (.inl q)⟩
  refine codeAny_call_function hr.depth (KX _ _ lk) rfl S.co S.gen rfl (PySem.W.codeRec_of KX hcd) (hb _ _ _ _ (wpAny_newFunctionEnv_cells S.kind par fun env he s1 y => ?_))
  subst he
  refine ⟨(e0.mod.nolimit.keeps up).keeps y.toInCall.keep, codeAny_func ?_⟩
  obtain ⟨t, ht, hq⟩ := hbody cdv A outer s H vs Q p hot (hr.deeper _) hsp
  have I := inv_startH (CX := CXn) (w := w) (E := fun _ _ _ => False) (qual := qual) (f := f) (cd := cdv) S hpin e0 (len _ _ _ _ _ hsp) r y
  refine wpAny_mono (ht.run [] s1 (L2.start N vs) H _ I hq) (fun fl s' hs => ?_) fun e s' hs => hs
  cases fl with
  | ret u =>
    obtain ⟨v, σ', H', J, rv, q⟩ := hs
    exact ⟨v, H', J.os, J.bare, J.base, J.hok, rv, q⟩
  | next =>
    obtain ⟨σ', H', J, q⟩ := hs
    exact ⟨.non, H', J.os, J.bare, J.base, J.hok, rfl, q⟩
  | brk => exact (show False from hs.choose_spec.choose_spec.2).elim
  | cont => exact (show False from hs.choose_spec.choose_spec.2).elim
end
/-- f(e, ..) while p is handled -/
def tCallP (p : Addr × Obj) (sp : Addr × Obj → Sp) (t : TA) : TE := fun σ H Q => t σ H fun vs H1 => sp p vs H1 Q (fun _ _ _ => False)
section
variable {X : Cx} {p : Addr × Obj}
theorem pe_callP {k : Nat} {f : Addr} {fd : FuncData} {ps : List Str} {sp : Addr × Obj → Sp} {x : Str} {q pos : Pos} {e : Expr} {es : List Expr} {t : TA} (F : FnP X.prog X.w X.K X.mg X.base k f fd ps sp) (hr : RoomH k X.A) (hot : Hot1 X.A p) (hp : p ∈ X.pn) (hm : X.mg x = some (.ref f)) (hk : PySem.W.keepIn X.K (.ref f) = true) (hb : Binds X.K fd ps [])
    (ha : PA X (e :: es) t) (hg : Gl X x := by rfl) (hdb : (x == ("__debug__" : Str)) = false := by decide) (he : starEach (e :: es) X.env = (false, eval e X.env) :: starEach es X.env := by rfl) (hpl : (backTo pos (starEach es X.env)).any (·.1) = false := by rfl) :
    PE X (.Call (.Name x q) (e :: es) [] pos) (tCallP p sp t) := by
  refine ⟨fun pins s σ H Q I h => ?_⟩
  refine wpAny_Call_Name_kw (ld_glob I hg hm ?_ hdb)
  refine PySem.W.callWith_K (h₀ := X.base) I.ok.mod.kin hk (thn (ha.run pos pins s σ H _ I h) fun us s1 ⟨vs, H1, I1, r, q⟩ => ⟨I1.kIn, ?_⟩) he hpl
  obtain ⟨p1, p2, p3, p4, p5⟩ := I1.pin p (List.mem_append_left _ hp)
  have hpin : PinOk X.stack H1 s1 p := ⟨p1, p2, fun hm => (List.mem_cons.mp (I1.stkSub p.1 hm)).elim p3 p4, p5⟩
  have hl : us.length = ps.length := r.length.symm.trans (F.len _ _ _ _ _ q)
  have b := hb s1 us I1.kIn (by rw [List.append_nil]; exact hl)
  rw [List.append_nil] at b
  refine wpAny_call (codeAny_mono (F.run X.A X.stack s1 H1 ⟨us, []⟩ us vs Q p hr hot hpin I1.env0 b r q) fun r s' hq => ?_)
  cases r with
  | error e => exact (show False from hq).elim
  | ok fl =>
    cases fl with
    | ret u => exact I1.after hq
    | next => exact False.elim hq
    | brk => exact False.elim hq
    | cont => exact False.elim hq
end
end FK
namespace PySem.W
open PySem PySem.Spec PySem.Calls PyProof.Rows
section
variable {prog : Program} {w : World} {A : Around} {E : Value → Shared → Prop} {s : Shared} {K : Frag} {x D : Addr} {ox : Obj} {od : Obj}
/-- e.__class__ of an own exception, whatever its dict -/
theorem fk_class {Q : Option Value → Shared → Prop} (C : L2.ExcC K D) (X : K.In s.heap) (I : InstAt s.heap x ox D (some od)) (h : Q (some (.ref D)) { s with toks := s.toks + 1 }) : wpAny (model prog w) A (getAttr? (.ref x) "__class__") Q E s := by
  have hcD : (clsIn K D).isSome = true := by
    obtain ⟨cd, hc, _⟩ := any_some C.hd
    rw [hc]
    rfl
  have hf : findObj K D (some od) "__class__" = some (.bind (.builtin "getset_descriptor.__get__") (.builtin "object.__class__")) := findObj_data hcD C.ha C.hn C.ht
  obtain ⟨hp, g, d, t, os⟩ := s
  have LT := I.type (M := model prog w)
  have sub : Looks (model prog w) hp (isInstance (.ref x) (.type "BaseException")) true := LT.andThen (looks_subIn X C.hs)
  have q2 : (Value.builtin "BaseException.__getattribute__" == Value.builtin "object.__getattribute__") = false := by decide +kernel
  have q1 : (onTheHeap (Value.ref D) && Value.builtin "BaseException.__getattribute__" == Value.builtin "object.__getattribute__") = false := by rw [q2]; rfl
  unfold getAttr? getAttrBy? getAttrBy
  refine wpAny_bind (wpAny_mkText (wpAny_bind (wpAny_attempt (wpAny_holding (wpAny_bind (LT.at (wpAny_bind ((looks_findIn X C.hg).at ?_))))))))
  show wpAny _ _ (if (onTheHeap (Value.ref D) && Value.builtin "BaseException.__getattribute__" == Value.builtin "object.__getattribute__") = true then _ else _) _ _ _
  rw [q1, if_neg Bool.false_ne_true]
  unfold getAttrByItsOwn hookBefore
  refine wpAny_bind ?_
  rw [if_pos (show onTheHeap (Value.ref D) = true from rfl)]
  refine (looks_findIn X C.hk).at (wpAny_bind (wpAny_attempt (wpAny_holding ?_)))
  unfold callGetattribute
  rw [show (false && onTheHeap (Value.builtin "BaseException.__getattribute__")) = false from rfl, if_neg Bool.false_ne_true]
  unfold boundAndCalled
  rw [PySem.F.excAttr_ValueError.ga.bind (.ref x)]
  refine wpAny_bind (wpAny_pure ?_)
  show wpAny _ _ (call (.builtin "BaseException.__getattribute__") [.ref x, .str "__class__" t]) _ _ _
  refine wpAny_call (codeAny_call_builtin PySem.F.excAttr_ValueError.ga.plain PySem.F.entry_bexc_ga (@check_slot (model prog w) _ _ ⟨hp, g, d, t + 1, os⟩ "BaseException.__getattribute__" "BaseException" "__getattribute__" (.ref x) [.str "__class__" t] [] _ (by decide +kernel) (by decide +kernel) sub (PySem.F.args_bexc_ga (.ref x) (.str "__class__" t)) ?_))
  unfold Builtin.«object.__getattribute__»
  refine wpAny_bind (wpAny_of_eq (a := ((Value.ref x : Value), [Value.str "__class__" t])) (by first | rfl | (simp only [slotArgs]; rfl)) (wpAny_bind (wpAny_pure (wpAny_bind (LT.at (wpAny_bind ((looks_find X I hf).at ?_)))))))
  show wpAny _ _ (holding [Value.builtin "object.__class__"] (call (.builtin "getset_descriptor.__get__") [.builtin "object.__class__", .ref x, .ref D]) >>= ret) _ _ _
  refine wpAny_bind (wpAny_holding (wpAny_call (class_get (s := ⟨hp, g, d, t + 1, os⟩) X I C.hm (wpAny_pure ?_))))
  show wpAny _ _ (handedOut (.ref D)) _ _ _
  rw [handedOut_of (v := .ref D) rfl]
  first
    | exact wpAny_pure (wpAny_pure h)
    | exact wpAny_pure h
    | exact wpAny_pure (wpAny_bind (wpAny_pure (wpAny_pure h)))
theorem fk_kitx (C : L2.ExcC K D) : KitX K (.ref x) (.ref D) (fun h => ∃ od, InstAt h x ox D (some od)) where
  ty := fun _ _ _ ⟨_, I⟩ => I.type
  it := fun M h X _ => by
    obtain ⟨cd, hcd, _⟩ := any_some C.hd
    unfold clsIn at hcd
    split at hcd
    · rename_i ho
      exact fun A' Q' E' s' k q => wpAny_bind (wpAny_loadPart (k _ _ (X _ _ ho)) (wpAny_pure q))
    · cases hcd
  ne := fun h tp dd its n sl X htp => by
    obtain ⟨cd, hcd, _⟩ := any_some C.hd
    refine Bool.eq_false_iff.mpr fun q => ?_
    obtain rfl : D = tp := Value.ref.inj (beq_iff_eq.mp q)
    unfold clsIn at hcd
    split at hcd
    · rename_i ho
      cases (X _ _ ho).symm.trans htp
    · cases hcd
  ca := fun X ⟨_, I⟩ k => fk_class C X I k
end
end PySem.W
namespace FK
open PySem PySem.Spec L2 L2H PyProof.Rows
section
variable {X : Cx} {p : Addr × Obj}
/-- the pinned exception of the class at D, its dict at d -/
structure PinE (K : PySem.W.Frag) (D : Addr) (d : Addr) (p : Addr × Obj) : Prop where
  z : Zc (.ref D) (some d) p.2
  f : ∃ vs, p.2.data = .fields vs
/-- isinstance of the exception that is pinned -/
theorem call_isP {D d : Addr} (C : ExcC X.K D) (hp : p ∈ X.pn) (hz : PinE X.K D d p) : CallR X (.builtin "isinstance") (fun xs H Q => (∃ fs, H d = some (.xd fs)) ∧ rIsE X.K D p.1 xs H Q) := by
  intro pins s σ H xs us Q I r h
  obtain ⟨⟨fs, hd⟩, c, cv, b, rfl, hcv, e, q⟩ := h
  cases r with
  | cons rx rr =>
    cases rr with
    | cons rt rr =>
      cases rr
      cases rx
      have ec := hcv _ rt
      subst ec
      have hget := (I.pin p (List.mem_append_left _ hp)).1
      obtain ⟨vs, hv⟩ := hz.f
      have hx : ObjOk X.prog X.w H s.heap d (.xd fs) := I.hok d _ hd
      obtain ⟨mA, ⟨o, es, ep, ho, _⟩, _⟩ := hx
      have J : PySem.W.InstAt s.heap p.1 p.2 D (some o) := ⟨hget, hz.z.1, by unfold PySem.W.notCls; rw [hv] <;> rfl, by rw [hz.z.2]; exact ho⟩
      exact PySem.W.kia_one (PySem.W.fk_kitx C) I.kIn ⟨_, J⟩ e (fun z => nomatch z) fun tk => ⟨.bl b, H, I.kept (t' := tk) fun _ _ z => z, rfl, q⟩
/-- e.f of the exception that is pinned -/
theorem pe_fldP {D d : Addr} {e : Expr} {te : TE} {pos : Pos} {n : Str} (T : XfC X.K D) (hno : PySem.W.findIn X.K (.ref D) n = some none) (hp : p ∈ X.pn) (hz : PinE X.K D d p) (he : PE X e te) (hb : attributeBase e n X.env (eval e X.env) = eval e X.env := by rfl) :
    PE X (.Attribute e n pos) (fun σ H Q => te σ H fun x H1 => x = .ref p.1 ∧ ∃ (fs : List (Str × V)) (v : V), H1 d = some (.xd fs) ∧ fs.lookup n = some v ∧ Q v H1) := by
  refine ⟨fun pins s σ H Q I h => attr_of hb (thn (he.run pins s σ H _ I h) fun u s1 hh => ?_)⟩
  obtain ⟨x, H1, I1, rx, ex, fs, v, ea, l, q⟩ := hh
  subst ex
  obtain rfl : u = Value.ref p.1 := rx
  have ha := (I1.pin p (List.mem_append_left _ hp)).1
  obtain ⟨vs, hd⟩ := hz.f
  have hx : ObjOk X.prog X.w H1 s1.heap d (.xd fs) := I1.hok d _ ea
  obtain ⟨mA, hns, hr⟩ := hx
  obtain ⟨od, ho, hl⟩ := lookIn_ns hns
  obtain ⟨u, hu, ru⟩ := RelO.some_of (v := v) (o := mA n) (by rw [← l]; exact hr n)
  have J : PySem.W.InstAt s1.heap p.1 p.2 D (some od) := ⟨ha, hz.z.1, by unfold PySem.W.notCls; rw [hd] <;> rfl, by rw [hz.z.2]; exact ho⟩
  exact HandSPX.exc_get I1.kIn J T.ga T.gg T.exC (PySem.W.findObj_own T.hdC hno rfl (by rw [hl, hu])) (handed_of ru) ⟨v, H1, I1.tok _, ru, q⟩
end
end FK
set_option Elab.async false
set_option linter.all false
set_option maxRecDepth 100000
set_option maxHeartbeats 4000000
/-! _law_class_flags, _law_own_flags, _law_fields: promises told of the handled exception. -/
namespace FK
open PySem PySem.Spec L2 L2H PyProof.Rows
/-- what the written part says of the classes that the law asks for -/
structure KitF (K : PySem.W.Frag) (mg : Str → Option Value) (CI : Addr) : Prop where
  exc : ExcC K CI
  InvalidPaper : mg "InvalidPaper" = some (.ref CI) ∧ PySem.W.kitOne K (.ref CI) (.ref CI) = some true
  UnknownOrder : ∃ A, mg "UnknownOrder" = some (.ref A) ∧ PySem.W.kitOne K (.ref CI) (.ref A) = some false
  UnknownMember : ∃ A, mg "UnknownMember" = some (.ref A) ∧ PySem.W.kitOne K (.ref CI) (.ref A) = some false
  NotUsable : ∃ A, mg "NotUsable" = some (.ref A) ∧ PySem.W.kitOne K (.ref CI) (.ref A) = some false
  InvalidEvent : ∃ A, mg "InvalidEvent" = some (.ref A) ∧ PySem.W.kitOne K (.ref CI) (.ref A) = some false
  NothingToUndo : ∃ A, mg "NothingToUndo" = some (.ref A) ∧ PySem.W.kitOne K (.ref CI) (.ref A) = some false
  InvalidText : ∃ A, mg "InvalidText" = some (.ref A) ∧ PySem.W.kitOne K (.ref CI) (.ref A) = some false
  InvalidRow : ∃ A, mg "InvalidRow" = some (.ref A) ∧ PySem.W.kitOne K (.ref CI) (.ref A) = some false
  PaperError : ∃ A, mg "PaperError" = some (.ref A) ∧ PySem.W.kitOne K (.ref CI) (.ref A) = some true
  RecordError : ∃ A, mg "RecordError" = some (.ref A) ∧ PySem.W.kitOne K (.ref CI) (.ref A) = some false
  AuditError : ∃ A, mg "AuditError" = some (.ref A) ∧ PySem.W.kitOne K (.ref CI) (.ref A) = some false
  TextError : ∃ A, mg "TextError" = some (.ref A) ∧ PySem.W.kitOne K (.ref CI) (.ref A) = some false
  ShownError : ∃ A, mg "ShownError" = some (.ref A) ∧ PySem.W.kitOne K (.ref CI) (.ref A) = some true
  ve : mg "ValueError" = none ∧ PySem.W.kitOne K (.ref CI) (.type "ValueError") = some true
def flagsB : List Bool := [true, false, false, false, false, false, false, false, true, false, false, false, true, true]
def spCF (K : PySem.W.Frag) (CI : Addr) : Addr × Obj → Sp := fun p vs H Q _ => ∃ d fs, vs = [.ref p.1] ∧ PinE K CI d p ∧ H d = some (.xd fs) ∧ ∀ L H', Same H H' → H L = none → H' L = some (.lst (flagsB.map V.bl)) → Q (.ref L) H'
section
variable {X : Cx} {p : Addr × Obj} {D d : Addr}
/-- isinstance(e, C), e the first slot: the answer b -/
def tIsP (d a : Addr) (b : Bool) : TE := fun σ H Q => σ[0]? = some (some (.ref a)) ∧ (∃ fs, H d = some (.xd fs)) ∧ Q (.bl b) H
theorem pe_isP {x y : Str} {A : Addr} {b : Bool} {q0 q1 q2 pos : Pos} (C : ExcC X.K D) (hp : p ∈ X.pn) (hz : PinE X.K D d p) (hN : X.N[0]? = some y) (hv : Vis X.env.scope y) (hmi : X.mg "isinstance" = none) (h : X.mg x = some (.ref A) ∧ PySem.W.kitOne X.K (.ref D) (.ref A) = some b) (hgi : Gl X "isinstance" := by rfl) (hg : Gl X x := by rfl) (hd : (x == ("__debug__" : Str)) = false := by decide)
    (hy : (y == ("__debug__" : Str)) = false := by decide) (hy2 : (y == ("__classdict__" : Str)) = false := by decide) (hs : starEach [.Name y q0, .Name x q2] X.env = (false, eval (.Name y q0) X.env) :: starEach [.Name x q2] X.env := by rfl) (hs2 : starEach [.Name x q2] X.env = (false, eval (.Name x q2) X.env) :: starEach [] X.env := by rfl) (hpl : (backTo pos (starEach [.Name x q2] X.env)).any (·.1) = false := by rfl) :
    PE X (.Call (.Name "isinstance" q1) [.Name y q0, .Name x q2] [] pos) (tIsP d p.1 b) :=
  PE.imp (pe_callB (call_isP C hp hz) hgi hmi (by kernel_rfl) (pa_cons (pe_var (i := 0) hN hv hy hy2) (pa_cons (pe_glob (v := .ref A) hg h.1 rfl hd) pa_nil hs2) hs) (by decide) (by decide) hs hpl) fun σ H Q ⟨h1, h2, h3⟩ => ⟨_, h1, h2, .ref A, .ref A, b, rfl, fun u hu => hu, h.2, h3⟩
theorem pe_isB {y : Str} {T : String} {x : Str} {b : Bool} {q0 q1 q2 pos : Pos} (C : ExcC X.K D) (hp : p ∈ X.pn) (hz : PinE X.K D d p) (hN : X.N[0]? = some y) (hv : Vis X.env.scope y) (hmi : X.mg "isinstance" = none) (h : X.mg x = none ∧ PySem.W.kitOne X.K (.ref D) (.type T) = some b) (hbt : bootBuiltins x = some (.type T)) (hxn : x ≠ "__name__" := by decide) (hgi : Gl X "isinstance" := by rfl) (hg : Gl X x := by rfl) (hd : (x == ("__debug__" : Str)) = false := by decide)
    (hy : (y == ("__debug__" : Str)) = false := by decide) (hy2 : (y == ("__classdict__" : Str)) = false := by decide) (hs : starEach [.Name y q0, .Name x q2] X.env = (false, eval (.Name y q0) X.env) :: starEach [.Name x q2] X.env := by rfl) (hs2 : starEach [.Name x q2] X.env = (false, eval (.Name x q2) X.env) :: starEach [] X.env := by rfl) (hpl : (backTo pos (starEach [.Name x q2] X.env)).any (·.1) = false := by rfl) :
    PE X (.Call (.Name "isinstance" q1) [.Name y q0, .Name x q2] [] pos) (tIsP d p.1 b) :=
  PE.imp (pe_callB (call_isP C hp hz) hgi hmi (by kernel_rfl) (pa_cons (pe_var (i := 0) hN hv hy hy2) (pa_cons (pe_bltn (v := .ty T) hg h.1 hbt rfl hxn hd) pa_nil hs2) hs) (by decide) (by decide) hs hpl) fun σ H Q ⟨h1, h2, h3⟩ => ⟨_, h1, h2, .ty T, .type T, b, rfl, fun u hu => hu, h.2, h3⟩
end
section
variable {P : Program} {w : World} {K : PySem.W.Frag} {mg : Str → Option Value} {base : Heap} {CI : Addr} {f : Addr} {fd : FuncData}
theorem ok_class_flags (bl : Bl mg) (T : KitF K mg CI) (F : FunD K "_law_class_flags" "_law_class_flags" (defArgs s__law_class_flags) (defBody s__law_class_flags) (defScope s__law_class_flags) [] [] f fd) : FnP P w K mg base 1 f fd ["_law_e"] (spCF K CI) := by
  have S : FnScope ["_law_e", "_law_found"] ["_law_e"] (defScope s__law_class_flags) := ⟨rfl, rfl, rfl, by decide +kernel, rfl, by decide +kernel, by decide +kernel⟩
  obtain ⟨a1, m1⟩ := T.UnknownOrder
  obtain ⟨a2, m2⟩ := T.UnknownMember
  obtain ⟨a3, m3⟩ := T.NotUsable
  obtain ⟨a4, m4⟩ := T.InvalidEvent
  obtain ⟨a5, m5⟩ := T.NothingToUndo
  obtain ⟨a6, m6⟩ := T.InvalidText
  obtain ⟨a7, m7⟩ := T.InvalidRow
  obtain ⟨a8, m8⟩ := T.PaperError
  obtain ⟨a9, m9⟩ := T.RecordError
  obtain ⟨a10, m10⟩ := T.AuditError
  obtain ⟨a11, m11⟩ := T.TextError
  obtain ⟨a12, m12⟩ := T.ShownError
  refine okP F S (fun p vs H Q E h => ?_) fun cdv A outer s H vs Q p hot hr h => ?_
  · obtain ⟨d, fs, rfl, _⟩ := h
    rfl
  obtain ⟨d, fs, rfl, hz, hd, q⟩ := h
  have hp : p ∈ (cxH CXn P w K mg base ["_law_e", "_law_found"] "_law_class_flags" (defScope s__law_class_flags) f cdv A outer s H (fun _ _ _ => False) p).pn := List.mem_cons_self
  have i0 := fun {x : Str} {A' : Addr} {b : Bool} (m : mg x = some (.ref A') ∧ PySem.W.kitOne K (.ref CI) (.ref A') = some b) => m
  refine ⟨_, pss_cons (ps_set (i := 1) S.nd rfl (.inl rfl) (pe_lst (pa_cons (pe_isP T.exc hp hz rfl (.inl rfl) bl.isinstance T.InvalidPaper) (pa_cons (pe_isP T.exc hp hz rfl (.inl rfl) bl.isinstance m1) (pa_cons (pe_isP T.exc hp hz rfl (.inl rfl) bl.isinstance m2) pa_nil)))))
    (pss_cons (ps_set (i := 1) S.nd rfl (.inl rfl) (pe_op op_addA (pe_var (i := 1) rfl (.inl rfl)) (pe_lst (pa_cons (pe_isP T.exc hp hz rfl (.inl rfl) bl.isinstance m3) (pa_cons (pe_isP T.exc hp hz rfl (.inl rfl) bl.isinstance m4) (pa_cons (pe_isP T.exc hp hz rfl (.inl rfl) bl.isinstance m5) pa_nil))))))
    (pss_cons (ps_set (i := 1) S.nd rfl (.inl rfl) (pe_op op_addA (pe_var (i := 1) rfl (.inl rfl)) (pe_lst (pa_cons (pe_isP T.exc hp hz rfl (.inl rfl) bl.isinstance m6) (pa_cons (pe_isP T.exc hp hz rfl (.inl rfl) bl.isinstance m7) pa_nil)))))
    (pss_cons (ps_set (i := 1) S.nd rfl (.inl rfl) (pe_op op_addA (pe_var (i := 1) rfl (.inl rfl)) (pe_lst (pa_cons (pe_isP T.exc hp hz rfl (.inl rfl) bl.isinstance m8) (pa_cons (pe_isP T.exc hp hz rfl (.inl rfl) bl.isinstance m9) (pa_cons (pe_isP T.exc hp hz rfl (.inl rfl) bl.isinstance m10) pa_nil))))))
    (pss_one (ps_ret (pe_op op_addA (pe_var (i := 1) rfl (.inl rfl)) (pe_lst (pa_cons (pe_isP T.exc hp hz rfl (.inl rfl) bl.isinstance m11) (pa_cons (pe_isP T.exc hp hz rfl (.inl rfl) bl.isinstance m12) (pa_cons (pe_isB T.exc hp hz rfl (.inl rfl) bl.isinstance T.ve (by kernel_rfl)) pa_nil)))))))))), ?_⟩
  refine ⟨rfl, ⟨fs, hd⟩, rfl, ⟨fs, hd⟩, rfl, ⟨fs, hd⟩, by show 3 ≤ sizeLine; decide, fun l1 n1 => ?_⟩
  have sz : ∀ n : Nat, n ≤ 100 → n ≤ sizeLine := fun n h => by rw [sizeLine_eq]; omega
  have step : ∀ {H1 : Hp} {l1 : Addr} {xs ys : List V} {R : VK}, Same H H1 → H1 l1 = some (.lst xs) → xs.length + ys.length ≤ 100 → (∀ l H', Same H H' → H l = none → H' l = some (.lst (xs ++ ys)) → R (.ref l) H') → ∀ l, H1 l = none → rAddA K (.ref l1) (.ref l) (upd H1 l (.lst ys)) R := fun {H1 l1 xs ys R} s e hl hR l nl => by
    have s2 := same_new (o := HO.lst ys) nl
    refine .inr (.inl ⟨l1, l, xs, ys, rfl, rfl, s2 _ _ e, upd_same, sz _ hl, fun q nq => ?_⟩)
    have s3 := same_new (o := HO.lst (xs ++ ys)) nq
    refine hR q _ ((s.trans s2).trans s3) ?_ upd_same
    cases z : H q with
    | none => rfl
    | some o => rw [(s.trans s2) _ _ z] at nq; cases nq
  have s1 := same_new (o := HO.lst [.bl true, .bl false, .bl false]) n1
  show tSeq _ _ _ _ _
  refine ⟨_, rfl, rfl, ⟨fs, s1 _ _ hd⟩, rfl, ⟨fs, s1 _ _ hd⟩, rfl, ⟨fs, s1 _ _ hd⟩, by show 3 ≤ sizeLine; decide, step s1 upd_same (by decide) fun l2 H2 s2 n2 e2 => ?_⟩
  show tSeq _ _ _ _ _
  refine ⟨_, rfl, rfl, ⟨fs, s2 _ _ hd⟩, rfl, ⟨fs, s2 _ _ hd⟩, by show 2 ≤ sizeLine; decide, step s2 e2 (by decide) fun l3 H3 s3 n3 e3 => ?_⟩
  show tSeq _ _ _ _ _
  refine ⟨_, rfl, rfl, ⟨fs, s3 _ _ hd⟩, rfl, ⟨fs, s3 _ _ hd⟩, rfl, ⟨fs, s3 _ _ hd⟩, by show 3 ≤ sizeLine; decide, step s3 e3 (by decide) fun l4 H4 s4 n4 e4 => ?_⟩
  exact ⟨_, rfl, rfl, ⟨fs, s4 _ _ hd⟩, rfl, ⟨fs, s4 _ _ hd⟩, rfl, ⟨fs, s4 _ _ hd⟩, by show 3 ≤ sizeLine; decide, step s4 e4 (by decide) fun l5 H5 s5 n5 e5 => q l5 H5 s5 n5 e5⟩
end
end FK
set_option Elab.async false
set_option linter.all false
set_option maxRecDepth 100000
set_option maxHeartbeats 4000000
/-! _law_own_flags, _law_fields. -/
namespace FK
open PySem PySem.Spec L2 L2H PyProof.Rows
def spOF : Addr × Obj → Sp := fun p vs H Q _ => vs = [.int 0] ∧ ∀ L H', Same H H' → H L = none → H' L = some (.lst (flagsB.map V.bl)) → Q (.ref L) H'
def spFL (K : PySem.W.Frag) (CI : Addr) : Addr × Obj → Sp := fun p vs H Q _ => ∃ d fs vw va, vs = [.ref p.1, .int 0] ∧ PinE K CI d p ∧ H d = some (.xd fs) ∧ fs.lookup ("word" : Str) = some vw ∧ fs.lookup ("at" : Str) = some va ∧ ∀ t H', Same H H' → H t = none → H' t = some (.tup [.str "paper", vw, va]) → Q (.ref t) H'
section
variable {P : Program} {w : World} {K : PySem.W.Frag} {mg : Str → Option Value} {base : Heap} {CI : Addr} {f : Addr} {fd : FuncData}
theorem ok_fields (T : XfC K CI) (nW : PySem.W.findIn K (.ref CI) "word" = some none) (nA : PySem.W.findIn K (.ref CI) "at" = some none) (F : FunD K "_law_fields" "_law_fields" (defArgs s__law_fields) (defBody s__law_fields) (defScope s__law_fields) [] [] f fd) : FnP P w K mg base 1 f fd ["_law_e", "_law_number"] (spFL K CI) := by
  have S : FnScope ["_law_e", "_law_number"] ["_law_e", "_law_number"] (defScope s__law_fields) := ⟨rfl, rfl, rfl, by decide +kernel, rfl, by decide +kernel, by decide +kernel⟩
  refine okP F S (fun p vs H Q E h => ?_) fun cdv A outer s H vs Q p hot hr h => ?_
  · obtain ⟨d, fs, vw, va, rfl, _⟩ := h
    rfl
  obtain ⟨d, fs, vw, va, rfl, hz, hd, l1, l2, q⟩ := h
  have hp : p ∈ (cxH CXn P w K mg base ["_law_e", "_law_number"] "_law_fields" (defScope s__law_fields) f cdv A outer s H (fun _ _ _ => False) p).pn := List.mem_cons_self
  refine ⟨_, pss_cons (ps_if (pt_cmpR op_eq (pe_var (i := 1) rfl (.inl rfl)) pe_int (nomark _)) (pss_one (ps_ret (pe_tup (pa_cons pe_str (pa_cons (pe_fldP T nW hp hz (pe_var (i := 0) rfl (.inl rfl))) (pa_cons (pe_fldP T nA hp hz (pe_var (i := 0) rfl (.inl rfl))) pa_nil)))))) pss_nil) pss_never, ?_⟩
  refine ⟨_, rfl, rfl, _, rfl, ?_⟩
  refine iteT ⟨_, rfl, rfl, fs, vw, hd, l1, _, rfl, rfl, fs, va, hd, l2, by show 3 ≤ sizeLine; decide, fun t nt => ?_⟩
  exact q t _ (same_new nt) nt upd_same
theorem ok_own_flags (bl : Bl mg) (F : FunD K "_law_own_flags" "_law_own_flags" (defArgs s__law_own_flags) (defBody s__law_own_flags) (defScope s__law_own_flags) [] [] f fd) : FnP P w K mg base 1 f fd ["_law_number"] spOF := by
  have S : FnScope ["_law_number", "_law_own", "_law_k"] ["_law_number"] (defScope s__law_own_flags) := ⟨rfl, rfl, rfl, by decide +kernel, rfl, by decide +kernel, by decide +kernel⟩
  refine okP F S (fun p vs H Q E h => ?_) fun cdv A outer s H vs Q p hot hr h => ?_
  · obtain ⟨rfl, _⟩ := h
    rfl
  obtain ⟨rfl, q⟩ := h
  have hc : HotC (cxH CXn P w K mg base ["_law_number", "_law_own", "_law_k"] "_law_own_flags" (defScope s__law_own_flags) f cdv A outer s H (fun _ _ _ => False) p) := ⟨p, hot, List.mem_cons_self⟩
  refine ⟨_, pss_cons (ps_setLcH (i := 1) (own := [("_law_k", 2)]) (g := gName 2) hc S.nd rfl rfl (sw_true rfl rfl rfl rfl) (pi_range1H (by rfl) bl.range (pa_cons pe_int pa_nil)) (blkOk_by (by kernel_rfl)) (fun _ _ _ _ _ => pg_name (i := 2) S.nd rfl (.inl rfl)) (fun _ _ _ _ _ => pts_nil) (fun _ _ _ _ _ => pe_cmpR op_eq (pe_var (i := 2) rfl (.inl rfl)) (pe_var (i := 0) rfl (.inr (.inl rfl))) (nomark _)))
    (pss_one (ps_ret (pe_op op_addA (pe_var (i := 1) rfl (.inl rfl)) (pe_lst (pa_cons (pe_cmpR op_eq (pe_var (i := 0) rfl (.inr (.inl rfl))) pe_int (nomark _)) (pa_cons (pe_chain op_lt op_lt pe_int (pe_var (i := 0) rfl (.inr (.inl rfl))) pe_int) (pa_cons (pe_chain op_lt op_lt pe_int (pe_var (i := 0) rfl (.inr (.inl rfl))) pe_int) (pa_cons (pe_cmpR op_gt (pe_var (i := 0) rfl (.inr (.inl rfl))) pe_int (nomark _)) (pa_cons pe_bl (pa_cons pe_bl pa_nil)))))))))), ?_⟩
  have sz : ∀ n : Nat, n ≤ 100 → n ≤ sizeLine := fun n h => by rw [sizeLine_eq]; omega
  refine ⟨8, rfl, by decide, by decide, fun D hD => ?_⟩
  refine lc_range (lo := 0) (n := 8) (fun i H2 => Same H H2 ∧ H2 D = some (.lst ((List.range i).map fun k : Nat => V.bl (decide ((k : Int) = 0))))) ⟨same_new hD, upd_same⟩ (fun i H2 hi ⟨s, e⟩ => ?_) (fun H2 ⟨s, e⟩ => ?_)
  · refine ⟨rfl, ?_⟩
    unfold tYes
    dsimp only
    rw [if_pos rfl]
    refine ⟨_, rfl, _, rfl, rfl, _, e, ?_, fun b o hb => ?_, ?_⟩
    · rw [List.length_map, List.length_range, sizeLine_eq]
      omega
    · rw [upd_ne (ne_of_none hb hD)]
      exact s b o hb
    · rw [upd_same, List.range_succ, List.map_append]
      congr 3
      simp
  · have nc : decide ((0 : Int) < 0) = false := rfl
    have n3 : decide ((3 : Int) < 0) = false := rfl
    refine ⟨_, rfl, _, rfl, rfl, _, rfl, 0, 0, rfl, rfl, _, rfl, ?_⟩
    rw [nc]
    refine iteF ⟨_, rfl, 3, 0, rfl, rfl, _, rfl, ?_⟩
    rw [n3]
    refine iteF ⟨_, rfl, 0, 5, rfl, rfl, by show 6 ≤ sizeLine; decide, fun l nl => ?_⟩
    have s2 := same_new (o := HO.lst [.bl true, .bl false, .bl false, .bl false, .bl true, .bl true]) nl
    refine .inr (.inl ⟨D, l, _, _, rfl, rfl, s2 _ _ e, upd_same, sz _ (by decide), fun r nr => ?_⟩)
    have s3 := same_new (o := HO.lst (flagsB.map V.bl)) nr
    have nr : (upd H2 l (HO.lst [.bl true, .bl false, .bl false, .bl false, .bl true, .bl true])) r = none := nr
    refine q r _ ((s.trans s2).trans s3) ?_ upd_same
    cases z : H r with
    | none => rfl
    | some o => rw [(s.trans s2) _ _ z] at nr; cases nr
end
end FK
set_option Elab.async false
set_option linter.all false
set_option maxRecDepth 100000
set_option maxHeartbeats 4000000
/-! A lambda whose exceptions bear no context, handed to a def and called there. -/
namespace FK
open PySem PySem.Spec L2 L2H LamX PyProof.Rows
/-- the lambda's body, exceptions told with their context None -/
abbrev lamN (X : Cx) (A : Around) (outer : List Env) (s : Shared) (H : Hp) (E : XK) (scope : Scope) (f c' : Addr) : Cx := (lamCx X A outer s H E scope f c').wish fun e s' => wpAny (model X.prog X.w) (A.deeper (lamEnv X scope s.heap.objs.size f c')) (leaving (lamEnv X scope s.heap.objs.size f c') e) (fun _ s'' => L2N.CX X.prog X.w outer H s E e s'') (fun e' s'' => L2N.CX X.prog X.w outer H s E e' s'') s'
section
variable {X : Cx} {pins : List (Addr × Obj)} {σ : L2.St} {H : Hp} {s : Shared}
/-- the context of the def that got the lambda, around its try -/
abbrev cxGot (X : Cx) (CXg : CXT) (Ng : List Str) (qg : Str) (sg : Scope) (g : Addr) (cdg : Value) (s : Shared) (H : Hp) (Eg : XK) (pn : List (Addr × Obj)) (xe : Value → Shared → Prop) : Cx := (cxOf CXg X.prog X.w X.K X.mg X.base Ng qg sg g cdg X.A X.stack s H Eg).tr pn xe
theorem pe_actN {CXg : CXT} {Eg : XK} {Ng : List Str} {qg : Str} {sg : Scope} {g f c' : Addr} {cdg pm ctv : Value} {params : Arguments} {body : Expr} {scope : Scope} {k i : Nat} {a : Str} {pn : List (Addr × Obj)} {xe : Value → Shared → Prop} {W : WX} {E : XK} {tb : TE} {p1 p2 : Pos}
    (I : Inv X pins σ H s) (L : LamS X.env.scope scope) (hf : s.heap.get? f = some (PySem.W.kla_obj "<lambda>" (X.env.qual ++ "<lambda>") params body scope (cloFrom X.env.cells scope.names []) pm c' ctv)) (hfn : H f = none) (hfr : f ∉ frs X.stack)
    (hbind : bindArgs (PySem.W.kla_fn "<lambda>" (X.env.qual ++ "<lambda>") params body scope (cloFrom X.env.cells scope.names []) pm (.ref c') ctv) ⟨[], []⟩ = pure [])
    (tk : L2N.Takes (cxGot X CXg Ng qg sg g cdg s H Eg pn xe) W) (hW : ∀ cls d (σ' : L2.St) H', σ'.length = Ng.length → E cls d H' → W cls d σ' H') (hr : Room (k + 1) (X.A.deeper (envOfC qg sg s.heap.objs.size g cdg)))
    (hbody : ∀ (A : Around) (outer : List Env) (s : Shared) (H : Hp), Room k (A.deeper (lamEnv X scope s.heap.objs.size f c')) → PE (lamN X A outer s H E scope f c') body tb)
    (hN : Ng[i]? = some a) (hv : Vis sg a) (hd : (a == ("__debug__" : Str)) = false := by decide) (hcd : (a == ("__classdict__" : Str)) = false := by decide) :
    PE (cxGot X CXg Ng qg sg g cdg s H Eg pn xe) (.Call (.Name a p1) [] [] p2) (fun σZ HZ Q => σZ[i]? = some (some (.ref f)) ∧ HZ c' = some (CodeO c' (X.env.qual ++ "<lambda>")) ∧ tb σ HZ Q) := by
  refine ⟨fun pinsZ sZ σZ HZ Q IZ ⟨hs, hc, ht⟩ => ?_⟩
  refine wpAny_Call_Name_kw (thn ((pe_var (pos := p1) (i := i) hN hv hd hcd).run pinsZ sZ σZ HZ (fun v H1 => v = .ref f ∧ H1 = HZ) IZ ⟨.ref f, hs, rfl, rfl⟩) fun u s1 ⟨v, H1, I1, r1, ev, eH⟩ => ?_)
  subst ev eH
  obtain rfl : u = Value.ref f := r1
  have of1 : s1.heap.get? f = some (PySem.W.kla_obj "<lambda>" (X.env.qual ++ "<lambda>") params body scope (cloFrom X.env.cells scope.names []) pm c' ctv) := I1.base.keep f _ hf hfn hfr (fun z => nomatch (show f ∈ ([] : List Addr) from z))
  have un : Un (frs X.stack) [] H H1 s.heap s1.heap := I1.base
  obtain ⟨⟨oc, vs, t, hoc, hdc, hvc⟩, _, _⟩ := I1.hok c' _ hc
  have run : codeAny (model X.prog X.w) (X.A.deeper (envOfC qg sg s.heap.objs.size g cdg)) (.call (.ref f) ⟨[], []⟩) (CR (L2N.CX X.prog X.w) (envOfC qg sg s.heap.objs.size g cdg :: X.stack) X.prog X.w H1 s1 Q E) s1 := by
    refine PySem.W.kla_callFunE hr.depth of1 rfl L.co L.gen rfl ⟨c', oc, vs, t, rfl, hoc, hdc, hvc⟩ ?_
    rw [hbind]
    refine wpAny_pure (wpAny_newFunctionEnv (fun y hy => (L.own y hy).2) (fun y hy => absurd hy (by simp)) (fun h₁ hns hsb => ⟨I1.nolimit.fresh _ hsb, ?_⟩) L.kind)
    have up : ∀ b o, s1.heap.get? b = some o → h₁.get? b = some o := fun b o e => hsb.extBut b o (Nat.ne_of_lt (Heap.lt_size e)) (Heap.get?_push_of_some _ e)
    have J0 : Inv (lamCx X (X.A.deeper (envOfC qg sg s.heap.objs.size g cdg)) (envOfC qg sg s.heap.objs.size g cdg :: X.stack) s1 H1 E scope f c') [] σ H1 { s1 with heap := h₁, toks := s1.toks + ([] : List (Str × Value)).length } :=
      lam_start2 I L I1.env0 hr.hd un hns up
    refine PySem.W.kla_codeExpr (wpAny_mono ((hbody _ _ s1 H1 (hr.deeper _)).run [] _ _ H1 Q (J0.wish _) ht) (fun v s' hq => ?_) fun e s' hq => hq)
    obtain ⟨w', H', J', rv, q⟩ := hq
    exact ⟨w', H', J'.os, J'.bare, J'.base, J'.hok, rv, q⟩
  refine PySem.W.callWith_F0 ⟨_, _, _, _, of1⟩ (wpAny_call (codeAny_mono run fun r s' hq => ?_))
  cases r with
  | error e => exact tk e s' (L2N.XE.of_call I1 (fun cls d H' h => hW cls d σZ H' I1.len h) hq)
  | ok fl =>
    cases fl with
    | ret u => exact I1.after hq
    | next => exact False.elim hq
    | brk => exact False.elim hq
    | cont => exact False.elim hq
end
end FK
set_option Elab.async false
set_option linter.all false
set_option maxRecDepth 100000
set_option maxHeartbeats 4000000
/-! _law_outcome(lambda: ..). -/
namespace FK
open PySem PySem.Spec L2 L2H LamX PyProof.Rows
theorem takes0N {X : Cx} : L2N.Takes X (fun _ _ _ _ => False) := fun _ _ x => by
  obtain ⟨_, _, _, _, _, _, _, _, _, _, _, _, _, _, _, _, z⟩ := x
  exact z.elim
/-- an InvalidPaper of which Q would take the told fields -/
def outE (CI : Addr) (Q : VK) : XK := fun cls d H' => cls = .ref CI ∧ ∃ dd fs vw va, d = some dd ∧ H' dd = some (.xd fs) ∧ fs.lookup ("word" : Str) = some vw ∧ fs.lookup ("at" : Str) = some va ∧ ∀ t H'', Same H' H'' → H' t = none → H'' t = some (.tup [.str "paper", vw, va]) → Q (.ref t) H''
/-- what _law_outcome makes of the reading tl of what it got -/
def TTout (CI : Addr) : (XK → Hp → VK → Prop) → Hp → VK → Prop := fun tl H Q => ∀ H1, Same H H1 → tl (outE CI Q) H1 fun x H' => ∀ t H'', Same H' H'' → H' t = none → H'' t = some (.tup [.str "result", x]) → Q (.ref t) H''
def GivesN (X : Cx) (Ng : List Str) (x : Str) (sg : Scope) (g : Addr) (cdg : Value) (bg : List Stmt) (a : Str) (q : Str) (TT : (XK → Hp → VK → Prop) → Hp → VK → Prop) : Prop :=
  ∀ (f c' : Addr) (s : Shared) (H : Hp) (Q : VK) (tl : XK → Hp → VK → Prop),
    (∀ (W : WX) (pn : List (Addr × Obj)) (xe : Value → Shared → Prop) (E : XK) (p1 p2 : Pos), L2N.Takes (cxGot X CXn Ng x sg g cdg s H (fun _ _ _ => False) pn xe) W → (∀ cls d (σ' : L2.St) H', σ'.length = Ng.length → E cls d H' → W cls d σ' H') →
      PE (cxGot X CXn Ng x sg g cdg s H (fun _ _ _ => False) pn xe) (.Call (.Name a p1) [] [] p2) (fun σZ HZ Q => σZ[0]? = some (some (.ref f)) ∧ HZ c' = some (CodeO c' q) ∧ tl E HZ Q)) →
    H c' = some (CodeO c' q) → TT tl H Q →
    ∃ t, PSs (cxOf CXn X.prog X.w X.K X.mg X.base Ng x sg g cdg X.A X.stack s H (fun _ _ _ => False)) bg t ∧ t { nx := fun _ H' => Q .non H', rt := Q } (L2.start Ng [.ref f]) H
/-- a def that is called while an exception is handled, by its name -/
def HasP (P : Program) (w : World) (K : PySem.W.Frag) (mg : Str → Option Value) (base : Heap) (x : Str) (k : Nat) (ps : List Str) (sp : Addr × Obj → Sp) : Prop :=
  ∃ f fd, FnP P w K mg base k f fd ps sp ∧ mg x = some (.ref f) ∧ PySem.W.keepIn K (.ref f) = true ∧ L2.Binds K fd ps []
theorem pe_up {X : Cx} {e : Expr} {t : TE} (h : PE X e t) : PE X e (fun σ H Q => ∃ R : VK, (∀ x H, R x H → Q x H) ∧ t σ H R) := by
  refine ⟨fun pins s σ H Q I ⟨R, hR, h'⟩ => wpAny_mono (h.run pins s σ H R I h') (fun v s' hq => ?_) fun _ _ z => z⟩
  obtain ⟨x, H1, I1, r, q⟩ := hq
  exact ⟨x, H1, I1, r, hR _ _ q⟩
theorem ixB {X : Cx} {K : PySem.W.Frag} (h : X.K = K) : IxR X (rIxL K) := h ▸ ix_list
section
variable {X : Cx} {CI CS : Addr}
abbrev Nout : List Str := ["_law_ask", "_law_found", "_law_e", "_law_flags", "_law_numbers", "_law_k"]
/-- what the suite does, told without the object -/
def tsOut (CI : Addr) : Addr → Value → Option Addr → TS := fun a cls d D σ H => σ.length = 6 ∧ σ[2]? = some (some (.ref a)) ∧ cls = .ref CI ∧ ∃ dd fs vw va, d = some dd ∧ H dd = some (.xd fs) ∧ fs.lookup ("word" : Str) = some vw ∧ fs.lookup ("at" : Str) = some va ∧
  ∀ t H'' σ', Same H H'' → H t = none → H'' t = some (.tup [.str "paper", vw, va]) → σ'[1]? = some (some (.ref t)) → D.nx σ' H''
theorem out_gives {g : Addr} {cdg : Value} {q : Str} {k : Nat} (bl : Bl X.mg) (T : KitF X.K X.mg CI) (hS : X.mg "ShownError" = some (.ref CS)) (hex : PySem.W.exmOne X.K (.ref CI) (.ref CS) = some true) (hr : ∀ s : Shared, Room 2 (X.A.deeper (envOfC "_law_outcome" (defScope s__law_outcome) s.heap.objs.size g cdg)))
    (FC : HasP X.prog X.w X.K X.mg X.base "_law_class_flags" 1 ["_law_e"] (spCF X.K CI)) (FO : HasP X.prog X.w X.K X.mg X.base "_law_own_flags" 1 ["_law_number"] spOF) (FL : HasP X.prog X.w X.K X.mg X.base "_law_fields" 1 ["_law_e", "_law_number"] (spFL X.K CI)) :
    GivesN X Nout "_law_outcome" (defScope s__law_outcome) g cdg (defBody s__law_outcome) "_law_ask" q (TTout CI) := by
  have S : FnScope Nout ["_law_ask"] (defScope s__law_outcome) := ⟨rfl, rfl, rfl, by decide +kernel, rfl, by decide +kernel, by decide +kernel⟩
  intro f c' s H Q tl act hc h
  obtain ⟨fC, fdC, GC, mC, kC, bC⟩ := FC
  obtain ⟨fO, fdO, GO, mO, kO, bO⟩ := FO
  obtain ⟨fL, fdL, GL, mL, kL, bL⟩ := FL
  have hr := hr s
  refine ⟨_, pss_cons (ps_set (i := 1) S.nd rfl (.inl rfl) (pe_tup (pa_cons pe_str pa_nil)))
    (pss_cons (L2N.ps_try_as (i := 2) (c := .ref CS) (ts := tsOut CI)
      (tb := fun W D σ H => ∃ Ech : XK, (∀ cls d (σ' : L2.St) H', σ'.length = 6 → Ech cls d H' → W cls d σ' H') ∧ σ[0]? = some (some (.ref f)) ∧ σ.length = 6 ∧ H c' = some (CodeO c' q) ∧ ∃ R, tl Ech H R ∧ ∀ x H', R x H' → ∀ t, H' t = none → D.nx (σ.set 1 (some (.ref t))) (upd H' t (.tup [.str "result", x])))
      rfl rfl S.nd rfl rfl ⟨rfl, by decide, .inl hS⟩ takes0N (fun W pn xe tk _ => ?_) (fun a oe cls d pn hz hf => ?_))
    (pss_one (ps_ret (pe_var (i := 1) rfl (.inl rfl))))), ?_⟩
  · refine ⟨fun pins s' σ H' D I h' => ?_⟩
    obtain ⟨Ech, hW, h1, h2, h3, R, h4, h5⟩ := h'
    refine PSs.run (pss_one (ps_set (i := 1) S.nd rfl (.inl rfl) (pe_tup (pa_cons pe_str (pa_cons (pe_up (act W pn xe Ech _ _ tk hW)) pa_nil))))) pins s' σ H' D I ?_
    refine ⟨R, fun x H1 hx => ?_, h1, h3, h4⟩
    refine ⟨by show 2 ≤ sizeLine; decide, fun t nt => ?_⟩
    exact h5 x H1 hx t nt
  · obtain ⟨of, hof⟩ := hf
    have hp : (a, oe) ∈ (a, oe) :: pn := List.mem_cons_self
    have hot : Hot1 (X.A.mark (some (.ref a))) (a, oe) := ⟨rfl, of, hof, hz.2.2 of hof⟩
    have h1r : RoomH 1 (X.A.deeper (envOfC "_law_outcome" (defScope s__law_outcome) s.heap.objs.size g cdg)) := (roomH_of hr).mono (by decide)
    have hrH : RoomH 1 ((X.A.deeper (envOfC "_law_outcome" (defScope s__law_outcome) s.heap.objs.size g cdg)).mark (some (.ref a))) := ⟨h1r.dp, h1r.un⟩
    have hu : ((X.A.deeper (envOfC "_law_outcome" (defScope s__law_outcome) s.heap.objs.size g cdg)).mark (some (.ref a))).units + 64 < cLine := by
      have := h1r.un
      show (X.A.deeper (envOfC "_law_outcome" (defScope s__law_outcome) s.heap.objs.size g cdg)).units + 64 < cLine
      omega
    have hcc : HotC ((cxOf CXn X.prog X.w X.K X.mg X.base Nout "_law_outcome" (defScope s__law_outcome) g cdg X.A X.stack s H (fun _ _ _ => False)).suite a ((a, oe) :: pn)) := ⟨(a, oe), hot, hp⟩
    refine PSs.imp (pss_cons (ps_set (i := 3) S.nd rfl (.inr rfl) (pe_callP GC hrH hot hp mC kC bC (pa_cons (pe_var (i := 2) rfl (.inl rfl)) pa_nil)))
      (pss_cons (ps_setLcH (i := 4) (own := [("_law_k", 5)]) (g := gName 5) hcc S.nd rfl rfl (sw_true rfl rfl rfl rfl) (pi_range1H (by rfl) bl.range (pa_cons pe_int pa_nil)) (blkOk_by (by kernel_rfl)) (fun _ _ _ _ _ => pg_name (i := 5) S.nd rfl (.inl rfl)) (fun _ _ _ _ _ => pts_one (pt_val (pe_ix (ixB (K := X.K) rfl) (pe_var (i := 3) rfl (.inr (.inl rfl))) (pe_var (i := 5) rfl (.inl rfl)) fun _ _ => rfl))) (fun _ _ _ _ _ => pe_var (i := 5) rfl (.inl rfl)))
      (pss_one (ps_if (PW.pt (L2.pw_and (pt_cmpR op_eq (pe_callB call_len_seq (by rfl) bl.len PySem.boot_len (pa_cons (pe_var (i := 4) rfl (.inl rfl)) pa_nil)) pe_int (nomark _)) (L2.pw_and1 (pt_cmpR (op_eqA hu) (pe_var (i := 3) rfl (.inr (.inl rfl))) (pe_callP GO hrH hot hp mO kO bO (pa_cons (pe_ix ix_list (pe_var (i := 4) rfl (.inl rfl)) pe_int fun _ _ => rfl) pa_nil)) (nomark _)))))
        (pss_one (ps_set (i := 1) S.nd rfl (.inl rfl) (pe_callP GL hrH hot hp mL kL bL (pa_cons (pe_var (i := 2) rfl (.inl rfl)) (pa_cons (pe_ix ix_list (pe_var (i := 4) rfl (.inl rfl)) pe_int fun _ _ => rfl) pa_nil))))) pss_nil)))) ?_
    rintro D σ H' ⟨hl, h2, rfl, dd, fs, vw, va, rfl, hd, l1, l2, q⟩
    match σ, hl with
    | [x0, x1, x2, x3, x4, x5], _ =>
    obtain rfl : x2 = some (.ref a) := Option.some.inj h2
    refine ⟨_, rfl, dd, fs, rfl, ⟨hz.zc, of, hof⟩, hd, fun L H1 s1 nL eL => ?_⟩
    show tSeq _ _ _ _ _
    refine ⟨8, rfl, by decide, by decide, fun D1 hD1 => ?_⟩
    refine lc_range (lo := 0) (n := 8) (fun i H2 => Same H1 H2 ∧ H2 D1 = some (.lst (if i = 0 then [] else [.int 0]))) ⟨same_new hD1, upd_same⟩ (fun i H2 hi ⟨s, e⟩ => ?_) (fun H2 ⟨s2, e2⟩ => ?_)
    · refine ⟨rfl, ?_⟩
      have at_ : ∀ i < 8, atI (flagsB.map V.bl) ((0 : Int) + (i : Nat)) = some (V.bl (decide (i = 0))) := by decide
      refine ⟨_, rfl, _, rfl, L, flagsB.map V.bl, _, _, rfl, rfl, SqL.of (s _ _ eL), at_ i hi, decide (i = 0), rfl, ?_⟩
      by_cases hi0 : i = 0
      · subst hi0
        rw [if_pos (by decide : decide ((0 : Nat) = 0) = true)]
        refine ⟨_, rfl, _, e, by show 0 < sizeLine; decide, fun b o hb => ?_, ?_⟩
        · rw [upd_ne (ne_of_none hb hD1)]
          exact s b o hb
        · rw [upd_same] <;> rfl
      · rw [show decide (i = 0) = false from by simp [hi0]]
        dsimp only
        rw [if_neg (by decide : ¬ (false = true))]
        refine ⟨s, ?_⟩
        rw [e, if_neg hi0, if_neg (by omega)]
    · rw [if_neg (by decide)] at e2
      have s02 : Same H' H2 := s1.trans s2
      refine ⟨_, rfl, D1, [.int 0], rfl, .inl (SqL.of e2), rfl, _, rfl, ?_⟩
      refine iteT ⟨_, rfl, _, rfl, D1, [.int 0], 0, _, rfl, rfl, SqL.of e2, rfl, rfl, fun L2 H3 s3 n3 e3 => ?_⟩
      have dp : ∀ {H : Hp} {L : Addr}, H L = some (.lst (flagsB.map V.bl)) → Dp X.K H (.ref L) (.list (flagsB.map PyData.bool)) := fun {H L} e => .lst (SqL.of e) (.cons (.bl _) (.cons (.bl _) (.cons (.bl _) (.cons (.bl _) (.cons (.bl _) (.cons (.bl _) (.cons (.bl _) (.cons (.bl _) (.cons (.bl _) (.cons (.bl _) (.cons (.bl _) (.cons (.bl _) (.cons (.bl _) (.cons (.bl _) .nil))))))))))))))
      refine .inr ⟨_, _, dp (s3 _ _ (s2 _ _ eL)), dp e3, rfl, rfl, true, ?_, ?_⟩
      · rfl
      · refine iteT ⟨_, rfl, _, rfl, D1, [.int 0], 0, _, rfl, rfl, SqL.of (s3 _ _ e2), rfl, ?_⟩
        refine ⟨dd, fs, vw, va, rfl, ⟨hz.zc, of, hof⟩, s3 _ _ (s02 _ _ hd), l1, l2, fun t H4 s4 n4 e4 => q t H4 _ ((s02.trans s3).trans s4) ?_ e4 rfl⟩
        cases z : H' t with
        | none => rfl
        | some o => rw [s3 _ _ (s02 _ _ z)] at n4; cases n4
  · refine ⟨by show 1 ≤ sizeLine; decide, fun t0 n0 => ?_⟩
    refine ⟨outE CI Q, fun cls d σ' H' hl ⟨e0, dd, fs, vw, va, e1, e2, e3, e4, e5⟩ => ?_, rfl, rfl, same_new n0 _ _ hc, _, h _ (same_new n0), fun x H' hx t nt => ?_⟩
    · refine ⟨true, by rw [e0]; exact hex, fun _ a na => ⟨by rw [List.length_set, hl], by rw [List.getElem?_set_self (by omega)], e0, dd, fs, vw, va, e1, e2, e3, e4, fun t H'' σ2 s2 n2 et es => ?_⟩, fun z => by cases z⟩
      refine ⟨.ref t, ?_, e5 t H'' s2 n2 et⟩
      rw [List.getElem?_set_ne (by decide)]
      exact es
    · exact ⟨_, rfl, hx t _ (same_new nt) nt upd_same⟩
end
end FK
set_option Elab.async false
set_option linter.all false
set_option maxRecDepth 100000
set_option maxHeartbeats 4000000
/-! Statements by data in a def that makes lambdas: its table of code objects at P is told along. -/
namespace FK
open PySem PySem.Spec L2 LamX PyProof.Rows
/-- the table at P tells code objects of the name q, none at an address of A -/
def TabO (P : Addr) (q : Str) (A : List Addr) (H : Hp) : Prop := ∃ ps : Array Value, H P = some (.tbl ps) ∧ TriplesOk ps.toList ∧ ∀ (pos : Pos) (cv : Value), codeAmong pos ps.toList = some cv → ∃ c, cv = .ref c ∧ H c = some (CodeO c q) ∧ c ∉ A
theorem TabO.keep {P : Addr} {q : Str} {A A' : List Addr} {H H' : Hp} (t : TabO P q A H) (k : ∀ b o, b = P ∨ b ∉ A → H b = some o → H' b = some o) (s : ∀ a ∈ A', a ∈ A ∨ H a = none) : TabO P q A' H' := by
  obtain ⟨ps, h1, h2, h3⟩ := t
  refine ⟨ps, k _ _ (.inl rfl) h1, h2, fun pos cv hc => ?_⟩
  obtain ⟨c, e1, e2, e3⟩ := h3 pos cv hc
  refine ⟨c, e1, k _ _ (.inr e3) e2, fun z => ?_⟩
  rcases s c z with y | y
  · exact e3 y
  · rw [e2] at y; cases y
theorem TabO.same {P : Addr} {q : Str} {A : List Addr} {H H' : Hp} (t : TabO P q A H) (s : Same H H') : TabO P q A H' := t.keep (fun b o _ e => s b o e) fun a h => .inl h
/-- the lambda's making: nothing, or its code object noted -/
def LamH (P : Addr) (q : Str) (H H1 : Hp) : Prop := H1 = H ∨ ∃ (ps more : Array Value) (c : Addr), H P = some (.tbl ps) ∧ H c = none ∧ H1 = upd (upd H P (.tbl (ps ++ more))) c (CodeO c q)
section
variable {P : Addr} {q : Str} {H H1 : Hp}
theorem LamH.keep (h : LamH P q H H1) {b : Addr} {o : HO} (n : b ≠ P) (e : H b = some o) : H1 b = some o := by
  rcases h with rfl | ⟨ps, more, c, h1, h2, rfl⟩
  · exact e
  · rw [upd_ne (ne_of_none e h2), upd_ne n]
    exact e
theorem LamH.at_ (h : LamH P q H H1) {ps : Array Value} (e : H P = some (.tbl ps)) : ∃ ps, H1 P = some (.tbl ps) := by
  rcases h with rfl | ⟨ps, more, c, h1, h2, rfl⟩
  · exact ⟨_, e⟩
  · exact ⟨_, by rw [upd_ne (ne_of_none h1 h2), upd_same]⟩
theorem Env1.lam {dl : DicL} {A0 B : List Addr} {r : Option Addr} {σ : L2.St} {ρ : Rho} {c : Nat} {ps : Array Value} (E : Env1 dl A0 B r H σ ρ c) (hP : P ∈ A0) (ht : H P = some (.tbl ps)) (h : LamH P q H H1) : Env1 dl A0 B r H1 σ ρ c := by
  have mem : P ∈ B ++ A0 := List.mem_append_right _ hP
  have nP : ∀ {b : Addr} {o : HO}, H b = some o → (∀ ps, o ≠ .tbl ps) → b ≠ P := fun {b o} e n z => by
    rw [z, ht] at e
    exact n ps (Option.some.inj e).symm
  have out : ∀ {b : Addr}, b ∉ B ++ A0 → b ≠ P := fun n z => n (by rw [z]; exact mem)
  obtain ⟨ps1, h1⟩ := h.at_ ht
  have there : ∀ {a : Addr}, H a ≠ none → H1 a ≠ none := fun {a} n => by
    by_cases e : a = P
    · rw [e, h1]; simp
    · cases z : H a with
      | none => exact absurd z n
      | some o => rw [h.keep e z]; simp
  refine ⟨E.len, fun i d e => ?_, fun i ds e => ?_, fun i w kvs e => ?_, E.rd, E.sep, E.dis, E.rA, fun a e => ?_, fun a ha => there (E.trk a ha), fun a ha xs z => ?_, fun i a e => there (E.ref i a e), fun i a G us e => ⟨(E.ob i a G us e).1, (E.ob i a G us e).2.gen fun b o e n => ⟨h.keep (out n) e, n⟩⟩⟩
  · obtain ⟨v, e1, e2⟩ := E.dat i d e
    exact ⟨v, e1, e2.gen (fun a xs e n => ⟨h.keep (out n) e, n⟩) (fun a xs e n => ⟨h.keep (out n) e, n⟩) _ _⟩
  · obtain ⟨a, vs, e1, e2, e3, e4⟩ := E.lst i ds e
    exact ⟨a, vs, e1, e2, h.keep (nP e3 fun _ z => by cases z) e3, e4.gen (fun a xs e n => ⟨h.keep (out n) e, n⟩) (fun a xs e n => ⟨h.keep (out n) e, n⟩) _ _⟩
  · obtain ⟨a, e1, e2, e3, e4⟩ := E.dic i w kvs e
    exact ⟨a, e1, e2, e3, h.keep (nP e4 fun _ z => by cases z) e4⟩
  · obtain ⟨L, o, xs, sp, rs, r1, r2, r3⟩ := E.rok a e
    exact ⟨L, o, xs, sp, rs, h.keep (nP r1 fun _ z => by cases z) r1, h.keep (nP r2 fun _ z => by cases z) r2, r3⟩
  · by_cases e : a = P
    · rw [e, h1] at z; cases z
    · cases y : H a with
      | none => exact E.trk a ha y
      | some o =>
        rw [h.keep e y] at z
        rw [Option.some.inj z] at y
        exact E.ntp a ha xs y
end
/-- a lambda is made; its code object is new, or found in the table -/
theorem lam_make1 {X : Cx} {pins : List (Addr × Obj)} {σ : L2.St} {H : Hp} {s : Shared} {A : List Addr} {c P : Addr} {params : Arguments} {body : Expr} {scope : Scope} {pos : Pos} {E : Value → Shared → Prop} {Q : Value → Shared → Prop} (I : Inv X pins σ H s) (TB : TabB X.base X.mg c P) (hcode : X.env.code = .ref c)
    (hT : TabO P (X.env.qual ++ "<lambda>") A H) (hA : ∀ a ∈ A, H a ≠ none) (hdef : defaultsOf params X.env = ([], [])) (hfree : ∀ y ∈ scope.names, y.2 = .free → ∃ c, X.env.cells.lookup y.1 = some c)
    (h : ∀ (f c' : Addr) (pm ctv : Value) (H1 : Hp) (s' : Shared), Inv X pins σ H1 s' → LamH P (X.env.qual ++ "<lambda>") H H1 → TabO P (X.env.qual ++ "<lambda>") A H1 →
      s'.heap.get? f = some (PySem.W.kla_obj "<lambda>" (X.env.qual ++ "<lambda>") params body scope (cloFrom X.env.cells scope.names []) pm c' ctv) → H1 f = none → f ∉ frs X.stack → H1 c' = some (CodeO c' (X.env.qual ++ "<lambda>")) → Q (.ref f) s') :
    wpAny (model X.prog X.w) X.A (eval (.Lambda params body scope pos) X.env) Q E s := by
  obtain ⟨ps, hP, ht, ha⟩ := hT
  have real : s.heap.get? P = some { cls := .none, data := .fields ps } := I.hok P _ hP
  have far : ∀ f, s.heap.objs.size ≤ f → f ∉ frs X.stack := fun f hf z => (List.mem_cons.mp (I.stkSub _ z)).elim (fun e => by
    have h1 := I.lt
    rw [← e] at h1
    exact absurd (Nat.lt_of_lt_of_le h1 hf) (Nat.lt_irrefl _)) fun e => I.nofs hf e
  apply PySem.W.kla_eval hdef
  rcases hc : codeAmong pos ps.toList with _ | cv
  · refine PySem.W.kla_makeFunction (mg := X.mg) (c := c) (P := P) (ps := ps) (closure_ok hfree) I.ok.glob (I.mod.glob.keeps I.bk) hcode (TB.code.keeps I.bk) real ht hc TB.gP (TB.bm.keeps I.bk) ?_
    intro c' ctv h' tk hx hge hlt ⟨c2, oc, vs, t, e2, hoc, hd, hv⟩ htb
    cases e2
    have new : H c' = none := I.hok.fresh hge
    have big : s.heap.objs.size ≤ h'.objs.size := Nat.le_of_lt (Nat.lt_of_le_of_lt hge hlt)
    have kept : ∀ b o, b ≠ P → s.heap.get? b = some o → (h'.push (PySem.W.kla_obj "<lambda>" (X.env.qual ++ "<lambda>") params body scope (cloFrom X.env.cells scope.names []) ((X.mg "__name__").getD .none) c' ctv)).get? b = some o := fun b o hb e => Heap.get?_push_of_some _ (hx b o hb e)
    have J := inv_table (t' := tk) (more := #[rawInt pos.line, rawInt pos.col, .ref c']) I hP kept (Heap.get?_push_of_some _ htb) hge ⟨oc, vs, t, Heap.get?_push_of_some _ hoc, hd, hv⟩
    have LH : LamH P (X.env.qual ++ "<lambda>") H (upd (upd H P (.tbl (ps ++ #[rawInt pos.line, rawInt pos.col, .ref c']))) c' (CodeO c' (X.env.qual ++ "<lambda>"))) := .inr ⟨ps, _, c', hP, new, rfl⟩
    refine h h'.objs.size c' _ ctv _ _ J LH ⟨_, by rw [upd_ne (ne_of_none hP new), upd_same], ?_, fun p' cv hcv => ?_⟩ (Heap.get?_push_size _ rfl) ?_ (far _ big) upd_same
    · rw [Array.toList_append]
      exact PySem.TriplesOk_snoc _ _ _ _ ht
    · rw [Array.toList_append] at hcv
      rcases among_app _ ht hcv with z | z
      · obtain ⟨c0, e1, e2, e3⟩ := ha p' cv z
        exact ⟨c0, e1, LH.keep (fun e => by rw [e, hP] at e2; exact codeO_ne _ (Option.some.inj e2).symm) e2, e3⟩
      · exact ⟨c', z, upd_same, fun y => hA c' y new⟩
    · rw [upd_ne (Nat.ne_of_gt hlt), upd_ne (Nat.ne_of_gt (Nat.lt_of_lt_of_le (Heap.lt_size real) big))]
      exact I.hok.fresh big
  · obtain ⟨c', rfl, hco, _⟩ := ha pos cv hc
    refine PySem.W.kla_makeFunctionHit (mg := X.mg) (c := c) (P := P) (ps := ps) (closure_ok hfree) I.ok.glob (I.mod.glob.keeps I.bk) hcode (TB.code.keeps I.bk) real ht hc (TB.bm.keeps I.bk) ?_
    intro ctv h' tk hx hsz
    have J : Inv X pins σ H { s with heap := h'.push (PySem.W.kla_obj "<lambda>" (X.env.qual ++ "<lambda>") params body scope (cloFrom X.env.cells scope.names []) ((X.mg "__name__").getD .none) c' ctv), toks := tk } := I.kept fun b o e => Heap.get?_push_of_some _ (hx b o e)
    exact h h'.objs.size c' _ ctv H _ J (.inl rfl) ⟨ps, hP, ht, ha⟩ (Heap.get?_push_size _ rfl) (I.hok.fresh hsz) (far _ hsz) hco
/-! ### statements -/
def tWL (dl : DicL) (C : Addr) (r : Option Addr) (Ex : XK) (P : Addr) (q : Str) (f : Rho → W Fl) : TS := fun Dn σ H => ∃ A0 B ρ c Pp, Env1 dl A0 B r H σ ρ c ∧ P ∈ A0 ∧ TabO P q (B ++ A0) H ∧ f ρ c Pp ∧
  (∀ ρ' c' σ' B' H', Pp (.nx ρ') c' → Env1 dl A0 B' r H' σ' ρ' c' → TabO P q (B' ++ A0) H' → Stp r (P :: B) (P :: B') H H' → Dn.nx σ' H') ∧
  (∀ d c' v B' H', Pp (.rt d) c' → Stp r (P :: B) (P :: B') H H' → RdO r H' c' → DX A0 H' v d → Dn.rt v H') ∧
  ∀ w a c' cls dd B' H', Pp (.ex w a) c' → Stp r (P :: B) (P :: B') H H' → RdO r H' c' → XD C A0 H' cls dd w a → Ex cls dd H'
section
variable {X : Cx} {dl : DicL} {C : Addr} {r : Option Addr} {Ex : XK} {P : Addr} {q : Str}
theorem Stp.up {B B' : List Addr} {H H' : Hp} (s : Stp r B B' H H') (P : Addr) : Stp r (P :: B) (P :: B') H H' := ⟨fun b o n m e => s.kp b o (fun z => n (List.mem_cons_of_mem _ z)) m e, fun b h => (List.mem_cons.mp h).elim (fun z => .inl (by rw [z]; exact List.mem_cons_self)) fun z => (s.new b z).imp (List.mem_cons_of_mem _) id,
  fun b h => (List.mem_cons.mp h).elim (fun z => by rw [z]; exact List.mem_cons_self) fun z => List.mem_cons_of_mem _ (s.sub b z), s.rk⟩
theorem rd_ne_tbl {H : Hp} {c : Nat} {ps : Array Value} (rd : RdO r H c) (h : H P = some (.tbl ps)) : r ≠ some P := fun e => by
  obtain ⟨L, o, xs, sp, rs, h1, _⟩ := rd P e
  rw [h] at h1; cases h1
theorem TabO.stp {A0 B B' : List Addr} {H H' : Hp} {σ : L2.St} {ρ : Rho} {c : Nat} (t : TabO P q (B ++ A0) H) (E : Env1 dl A0 B r H σ ρ c) (hP : P ∈ A0) (s : Stp r B B' H H') : TabO P q (B' ++ A0) H' := by
  have h1 := t
  obtain ⟨ps, hp, _, _⟩ := h1
  have nr := rd_ne_tbl E.rok hp
  refine t.keep (fun b o hb e => s.kp b o (fun z => ?_) (fun z => ?_) e) fun a ha => ?_
  · rcases hb with rfl | hb
    · exact E.dis _ z hP
    · exact hb (List.mem_append_left _ z)
  · rcases hb with rfl | hb
    · exact nr z
    · exact hb (E.rAB b z)
  · rcases List.mem_append.mp ha with z | z
    · exact (s.new a z).imp (List.mem_append_left _) id
    · exact .inl (List.mem_append_right _ z)
theorem pwl_up {st : Stmt} {f : Rho → W Fl} (h : PS X st (tWS dl C r Ex f)) : PS X st (tWL dl C r Ex P q f) :=
  PS.imp h fun Dn σ H ⟨A0, B, ρ, c, Pp, E, hP, T, hf, k1, k2, k3⟩ => ⟨A0, B, ρ, c, Pp, E, hf, fun ρ' c' σ' B' H' p E' s => k1 ρ' c' σ' B' H' p E' (T.stp E hP s) (s.up P), fun d c' v B' H' p s rd dv => k2 d c' v B' H' p (s.up P) rd dv, fun w a c' cls dd B' H' p s rd x => k3 w a c' cls dd B' H' p (s.up P) rd x⟩
theorem pwls_up {st : List Stmt} {f : Rho → W Fl} (h : PSs X st (tWS dl C r Ex f)) : PSs X st (tWL dl C r Ex P q f) :=
  PSs.imp h fun Dn σ H ⟨A0, B, ρ, c, Pp, E, hP, T, hf, k1, k2, k3⟩ => ⟨A0, B, ρ, c, Pp, E, hf, fun ρ' c' σ' B' H' p E' s => k1 ρ' c' σ' B' H' p E' (T.stp E hP s) (s.up P), fun d c' v B' H' p s rd dv => k2 d c' v B' H' p (s.up P) rd dv, fun w a c' cls dd B' H' p s rd x => k3 w a c' cls dd B' H' p (s.up P) rd x⟩
theorem pwls_cons {st : Stmt} {rest : List Stmt} {f g : Rho → W Fl} (h1 : PS X st (tWL dl C r Ex P q f)) (h2 : PSs X rest (tWL dl C r Ex P q g)) : PSs X (st :: rest) (tWL dl C r Ex P q (seqW f g)) :=
  PSs.imp (pss_cons h1 h2) fun Dn σ H ⟨A0, B, ρ, c, Pp, E, hP, T, hp, k1, k2, k3⟩ => ⟨A0, B, ρ, c, _, E, hP, T, hp, fun ρ' c' σ' B' H' p E' T' s => ⟨A0, B', ρ', c', Pp, E', hP, T', p, fun ρ2 c2 σ2 B2 H2 p2 E2 T2 s2 => k1 ρ2 c2 σ2 B2 H2 p2 E2 T2 (s.trans s2),
    fun d c2 v B2 H2 p2 s2 rd2 dv => k2 d c2 v B2 H2 p2 (s.trans s2) rd2 dv, fun w a c2 cls dd B2 H2 p2 s2 rd2 x => k3 w a c2 cls dd B2 H2 p2 (s.trans s2) rd2 x⟩,
    fun d c' v B' H' p s rd dv => k2 d c' v B' H' p s rd dv, fun w a c' cls dd B' H' p s rd x => k3 w a c' cls dd B' H' p s rd x⟩
theorem pwls_one {st : Stmt} {f : Rho → W Fl} (h1 : PS X st (tWL dl C r Ex P q f)) : PSs X [st] (tWL dl C r Ex P q f) := PSs.imp (pss_one h1) fun _ _ _ h => h
theorem pwl_for {tg iter : Expr} {body : List Stmt} {pos : Pos} {fi : Rho → W (List D)} {as : List Nat} {g : D → Rho → W Rho} {f : Rho → W Fl} (hp : PassesOwn (model X.prog X.w) X.A X.env X.xe) (hc : X.calm = true) (hi : PI X tg iter (tWI dl r fi)) (hg : PG X tg (tWG dl r as g)) (hb : PSs X body (tWL dl C r Ex P q f))
    (hs : ∀ x, foldedSetIterable iter X.env x = pure x := by intro _; rfl) : PS X (.For tg iter body [] pos) (tWL dl C r Ex P q fun ρ => bW (fi ρ) fun ds => forG g f ds ρ) :=
  PS.imp (ps_for hp hc hi hg hb hs) fun Dn σ H ⟨A0, B, ρ, c, Pp, E, hP, T, hp, k1, k2, k3⟩ => by
    refine ⟨A0, B, ρ, c, _, E, hp, fun ds c1 J H1 p1 e1 rd1 it => ?_⟩
    have E1 := E.ext e1 rd1
    have s1 : Stp r B B H H1 := .of_ext e1 rd1
    have T1 := T.stp E hP s1
    refine for_it it (fun i σ' H' => ∃ B' ρ' c', Env1 dl A0 B' r H' σ' ρ' c' ∧ TabO P q (B' ++ A0) H' ∧ forG g f (ds.drop i) ρ' c' Pp ∧ Stp r (P :: B) (P :: B') H1 H') ⟨B, ρ, c1, E1, T1, p1, (Stp.of_ext (Ext.refl r H1) rd1).up P⟩ ?_ ?_ ?_
    · intro i σ' H' hi p
      obtain ⟨B', ρ', c', E', _, _, s'⟩ := p
      refine ⟨fun b o n z => s'.kp b o (fun y => ?_) (fun y => n (E.rAB b y)) z, fun a ha => E'.trk a ?_⟩
      · rcases List.mem_cons.mp y with rfl | y
        · exact n (List.mem_append_right _ hP)
        · exact n (List.mem_append_left _ y)
      · rcases List.mem_append.mp ha with h | h
        · rcases List.mem_cons.mp (s'.sub a (List.mem_cons_of_mem _ h)) with y | y
          · rw [y]; exact List.mem_append_right _ hP
          · exact List.mem_append_left _ y
        · exact List.mem_append_right _ h
    · intro i x σ' H' H2 hi p y
      obtain ⟨B', ρ', c', E', T', pp, s'⟩ := p
      obtain ⟨s2, d, ed, dx⟩ := y
      have rd2 := E'.rok.same s2
      have E2 := E'.ext (.of_same s2) rd2
      have s12 : Stp r (P :: B) (P :: B') H1 H2 := s'.trans ((Stp.of_ext (.of_same s2) rd2).up P)
      have dx2 : DX (B' ++ A0) H2 x d := dx _ (fun a ha => by
        rcases List.mem_append.mp ha with h | h
        · rcases s'.new a (List.mem_cons_of_mem _ h) with y | y
          · rcases List.mem_cons.mp y with rfl | y
            · exact .inl (List.mem_append_right _ hP)
            · exact .inl (List.mem_append_left _ y)
          · exact .inr y
        · exact .inl (List.mem_append_right _ h)) E'.trk
      have hdrop : ds.drop i = d :: ds.drop (i + 1) := by
        obtain ⟨hlt, e⟩ := List.getElem?_eq_some_iff.mp ed
        rw [List.drop_eq_getElem_cons hlt, e]
      rw [hdrop] at pp
      refine ⟨A0, B', ρ', c', _, d, E2, dx2, pp, fun ρ4 c4 σ4 p4 ec E4 _ _ => ?_⟩
      subst ec
      exact ⟨A0, B', ρ4, c4, _, E4, hP, T'.same s2, p4, fun ρ5 c5 σ5 B5 H5 p5 E5 T5 s5 => ⟨B5, ρ5, c5, E5, T5, p5, s12.trans s5⟩, fun d5 c5 v B5 H5 p5 s5 rd5 dv => k2 d5 c5 v B5 H5 p5 (((s1.up P).trans s12).trans s5) rd5 dv,
        fun w a c5 cls dd B5 H5 p5 s5 rd5 x => k3 w a c5 cls dd B5 H5 p5 (((s1.up P).trans s12).trans s5) rd5 x⟩
    · intro σ' H' p
      obtain ⟨B', ρ', c', E', T', pp, s'⟩ := p
      rw [List.drop_length] at pp
      exact k1 ρ' c' σ' B' H' pp E' T' ((s1.up P).trans s')
end
end FK
set_option Elab.async false
set_option linter.all false
set_option maxRecDepth 100000
set_option maxHeartbeats 4000000
/-! _law_outcome(lambda: ..) called; (_law_rec + _law_row).form within. -/
namespace FK
open PySem PySem.Spec L2 LamX PyProof.Rows
def tLamN (P : Addr) (q : Str) (TT : (XK → Hp → VK → Prop) → Hp → VK → Prop) (t : XK → TE) : TE := fun σ H Q => ∃ A : List Addr, (∀ a ∈ A, H a ≠ none) ∧ TabO P q A H ∧ ∀ H1, LamH P q H H1 → TabO P q A H1 → TT (fun E H' Q' => t E σ H' Q') H1 Q
section
variable {X : Cx}
theorem pe_lamcallN {TT : (XK → Hp → VK → Prop) → Hp → VK → Prop} {g c P : Addr} {fd : FuncData} {k : Nat} {params : Arguments} {body : Expr} {scope : Scope} {t : XK → TE} {p lpos pos : Pos} (hg : Gl X "_law_outcome") (hm : X.mg "_law_outcome" = some (.ref g))
    (F : FunD X.K "_law_outcome" "_law_outcome" (defArgs s__law_outcome) (defBody s__law_outcome) (defScope s__law_outcome) [] [] g fd)
    (hG : ∀ cdg, GivesN X Nout "_law_outcome" (defScope s__law_outcome) g cdg (defBody s__law_outcome) "_law_ask" (X.env.qual ++ "<lambda>") TT)
    (TB : TabB X.base X.mg c P) (hcode : X.env.code = .ref c) (hr : Room (k + 2) X.A) (L : LamS X.env.scope scope) (hdef : defaultsOf params X.env = ([], []))
    (hbind : ∀ (q : Str) (cl : List (Str × Addr)) (pm cv ctv : Value), bindArgs (PySem.W.kla_fn "<lambda>" q params body scope cl pm cv ctv) ⟨[], []⟩ = pure [])
    (hbody : ∀ (A : Around) (outer : List Env) (s : Shared) (H : Hp) (E : XK) (f c' : Addr), Room k (A.deeper (lamEnv X scope s.heap.objs.size f c')) → PE (lamN X A outer s H E scope f c') body (t E)) :
    PE X (.Call (.Name "_law_outcome" p) [.Lambda params body scope lpos] [] pos) (tLamN P (X.env.qual ++ "<lambda>") TT t) := by
  have S : FnScope Nout ["_law_ask"] (defScope s__law_outcome) := ⟨rfl, rfl, rfl, by decide +kernel, rfl, by decide +kernel, by decide +kernel⟩
  have hb : L2.Binds X.K fd ["_law_ask"] [] := F.bindsN fun _ _ _ _ _ _ us hl => match us, hl with | [_], _ => rfl
  have hkp := F.kp
  obtain ⟨oc, od, dV, kV, doc, pm, an, cdv, ct, osl, rfl, lk, hcd, _, _⟩ := F.ex
  refine ⟨fun pins s σ H Q I ⟨A, hA, hT, h⟩ => ?_⟩
  refine wpAny_Call_Name_kw (ld_glob I hg hm ?_ (by decide))
  refine PySem.W.callWith_K (h₀ := X.base) I.ok.mod.kin hkp ?_ (by rfl) (by rfl)
  show wpAny _ _ (spliced ((false, eval (.Lambda params body scope lpos) X.env) :: backTo pos (starEach [] X.env))) _ _ s
  refine Calls.spliced_cons (lam_make1 I TB hcode hT hA hdef (L.has I.ok) fun f c' pm' ctv H1 s' I1 lh T1 hf hfn hfr hco => ?_)
  refine Calls.spliced_nil ⟨I1.kIn, ?_⟩
  have bt := hb s' [.ref f] I1.kIn rfl
  rw [List.append_nil] at bt
  have go : codeAny (model X.prog X.w) X.A (.call (.ref g) ⟨[.ref f], []⟩) (CR CXn X.stack X.prog X.w H1 s' Q (fun _ _ _ => False)) s' := by
    refine run_ofS (N := Nout) (ps := ["_law_ask"]) (us := [.ref f]) (vs := [.ref f]) lk hcd S hr I1.env0 bt (.cons rfl .nil) rfl fun hr' => ?_
    exact hG cdv f c' s' H1 Q (fun E H' Q' => t E σ H' Q') (fun W pn xe E p1 p2 tk hW => pe_actN (i := 0) I1 L hf hfn hfr (hbind _ _ _ _ _) tk hW hr' (fun A outer s H hr2 => hbody A outer s H E f c' hr2) rfl (.inl rfl)) hco (h H1 lh T1)
  refine wpAny_call (codeAny_mono go fun r s2 hq => ?_)
  cases r with
  | error e => exact (show False from hq).elim
  | ok fl =>
    cases fl with
    | ret u => exact I1.after hq
    | next => exact False.elim hq
    | brk => exact False.elim hq
    | cont => exact False.elim hq
end
end FK
set_option Elab.async false
set_option linter.all false
set_option maxRecDepth 100000
set_option maxHeartbeats 4000000
/-! _law_got = _law_outcome(lambda: (_law_rec + _law_row).form) by data. -/
namespace FK
open PySem PySem.Spec L2 LamX PyProof.Rows
/-- (_law_rec + _law_row).form, slots 5 and 6 -/
def tBody (CR CI : Addr) (E : XK) : TE := tProp CR (spForm CR) [] (fun _ _ _ => False) (tOp (rAddO CR CI E) (tVar 5) (tVar 6))
theorem flat_rowsT (rows : List Row) : flat (rowsT rows) = true := flats_all fun x hx => by
  obtain ⟨r, _, rfl⟩ := List.mem_map.mp hx
  exact flat_row r
section
variable {X : Cx} {CI CS CR fI fA pF gF : Addr} {kl : Nat}
theorem pe_lambody {fdA fdF : FuncData} {A : Around} {outer : List Env} {s : Shared} {H : Hp} {E : XK} {scope : Scope} {f c' : Addr} {p1 p2 p3 p4 : Pos} (R : RecF X.K X.mg CR fI fA pF gF) (FA : FnOk X.prog X.w X.K X.mg X.base (L2N.CX X.prog X.w) (kl + 3) fA fdA ["self", "row"] (spAdd CR CI)) (bA : L2.Binds X.K fdA ["self", "row"] [])
    (FF : FnOk X.prog X.w X.K X.mg X.base (L2N.CX X.prog X.w) 1 gF fdF ["self"] (spForm CR)) (bF : L2.Binds X.K fdF ["self"] []) (hr : Room (kl + 3) (A.deeper (lamEnv X scope s.heap.objs.size f c')))
    (h5 : X.N[5]? = some ("_law_rec" : Str)) (h6 : X.N[6]? = some ("_law_row" : Str)) (v5 : Vis scope ("_law_rec" : Str)) (v6 : Vis scope ("_law_row" : Str)) :
    PE (lamN X A outer s H E scope f c') (.Attribute (.BinOp (.Name "_law_rec" p1) .Add (.Name "_law_row" p2) p3) "form" p4) (tBody CR CI E) := by
  have R' : RecF (lamN X A outer s H E scope f c').K (lamN X A outer s H E scope f c').mg CR fI fA pF gF := R
  have hpass := L2N.passes_call (X := lamN X A outer s H E scope f c') (L2N.takes_of rfl rfl rfl rfl) fun _ _ _ _ h => h
  exact pe_prop (pe_op (op_addO R' FA hr bA hpass) (pe_var (i := 5) h5 v5) (pe_var (i := 6) h6 v6)) R'.cls R'.prop FF (hr.mono (by omega)) bF .nil passN (by rfl)
/-- what _law_got is told as -/
def outW (CR : Addr) : Rho → W D := fun ρ c P => ∃ a G us dx v0 v1 x0 rows row, ρ[5]? = some (.ob a G us) ∧ G a = some (recO CR dx v0 v1) ∧ (v0, PyData.str x0) ∈ us ∧ (v1, rowsT rows) ∈ us ∧ ρ[6]? = some (.dat (rowD row)) ∧ ruleOk x0 ∧ rowsOk (rows ++ [row]) ∧
  (allOk (rows ++ [row]) = true → P (.tuple [.str "result", recD x0 (rows ++ [row])]) c) ∧ ∀ t r, (rows ++ [row])[t]? = some r → (∀ j < t, ∀ r, (rows ++ [row])[j]? = some r → stepOk ((rows ++ [row]).take j) r = true) → stepOk ((rows ++ [row]).take t) r = false →
    ∀ (w : Str) a, ExAt t a → P (.tuple [.str "paper", .str w, a]) c
theorem pwl_outcome {r : Option Addr} {Ex : XK} {C g c P : Addr} {fd fdA fdF : FuncData} {params : Arguments} {scope : Scope} {p1 p2 p3 p4 p5 p6 p7 p8 lpos : Pos} (hN : X.N.Nodup) (h7 : X.N[7]? = some ("_law_got" : Str)) (hx : Loc X.env.scope ("_law_got" : Str)) (hf : X.fn ("_law_got" : Str) = true ∨ X.env.scope.names.lookup ("_law_got" : Str) = some NameKind.local)
    (hg : Gl X "_law_outcome") (hm : X.mg "_law_outcome" = some (.ref g))
    (F : FunD X.K "_law_outcome" "_law_outcome" (defArgs s__law_outcome) (defBody s__law_outcome) (defScope s__law_outcome) [] [] g fd)
    (hG : ∀ cdg, GivesN X Nout "_law_outcome" (defScope s__law_outcome) g cdg (defBody s__law_outcome) "_law_ask" (X.env.qual ++ "<lambda>") (TTout CI))
    (TB : TabB X.base X.mg c P) (hcode : X.env.code = .ref c) (hr : Room (kl + 5) X.A) (L : LamS X.env.scope scope) (hdef : defaultsOf params X.env = ([], []))
    (hbind : ∀ (q : Str) (cl : List (Str × Addr)) (pm cv ctv : Value), bindArgs (PySem.W.kla_fn "<lambda>" q params (.Attribute (.BinOp (.Name "_law_rec" p1) .Add (.Name "_law_row" p2) p3) "form" p4) scope cl pm cv ctv) ⟨[], []⟩ = pure [])
    (R : RecF X.K X.mg CR fI fA pF gF) (FA : FnOk X.prog X.w X.K X.mg X.base (L2N.CX X.prog X.w) (kl + 3) fA fdA ["self", "row"] (spAdd CR CI)) (bA : L2.Binds X.K fdA ["self", "row"] [])
    (FF : FnOk X.prog X.w X.K X.mg X.base (L2N.CX X.prog X.w) 1 gF fdF ["self"] (spForm CR)) (bF : L2.Binds X.K fdF ["self"] [])
    (h5 : X.N[5]? = some ("_law_rec" : Str)) (h6 : X.N[6]? = some ("_law_row" : Str)) (v5 : Vis scope ("_law_rec" : Str)) (v6 : Vis scope ("_law_row" : Str)) :
    PS X (.Assign [.Name "_law_got" p5] (.Call (.Name "_law_outcome" p6) [.Lambda params (.Attribute (.BinOp (.Name "_law_rec" p1) .Add (.Name "_law_row" p2) p3) "form" p4) scope lpos] [] p7) p8)
      (tWL (dlH X.prog X.w) C r Ex P (X.env.qual ++ "<lambda>") fun ρ => bW (outW CR ρ) fun d => rW (.nx (ρ.set 7 (.dat d)))) := by
  refine PS.imp (ps_set (i := 7) hN h7 hx (pe_lamcallN (k := kl + 3) hg hm F hG TB hcode hr L hdef hbind fun A outer s H E f c' hr' => pe_lambody R FA bA FF bF hr' h5 h6 v5 v6) (by rfl) hf) fun Dn σ H ⟨A0, B, ρ, cc, Pp, E, hP, T, hf, k1, k2, k3⟩ => ?_
  obtain ⟨a, G, us, dx, v0, v1, x0, rows, row, e5, hGa, m0, m1, e6, hru, hok, good, bad⟩ := hf
  refine ⟨B ++ A0, E.trk, T, fun H1 lh T1 H2 s12 => ?_⟩
  obtain ⟨ps, hps, _, _⟩ := T
  have E1 := E.lam hP hps lh
  have E2 := E1.ext (.of_same s12) (E1.rok.same s12)
  obtain ⟨s5, ob⟩ := E2.ob 5 a G us e5
  obtain ⟨v6, s6, d6⟩ := E2.dat 6 _ e6
  have ha := (ob.os _ _ hGa).1
  have dv0 := ob.us _ m0
  have dv1 := ob.us _ m1
  have ht : ∃ ds, rowD row = .tuple ds := by cases row <;> exact ⟨_, rfl⟩
  obtain ⟨ds, eds⟩ := ht
  have hv6 : ∃ b xs, v6 = .ref b ∧ H2 b = some (.tup xs) := by
    rw [eds] at d6
    cases d6 with
    | tup g1 g2 g3 => exact ⟨_, _, rfl, g1⟩
  obtain ⟨b, xs, eb, hb⟩ := hv6
  -- how the end is told
  have fin : ∀ (d : D) (t : Addr) (H3 H4 : Hp) (w1 w2 : List V), Same H2 H3 → Same H3 H4 → H3 t = none → H4 t = some (.tup w1) → (∀ A', (∀ a ∈ A', H3 a ≠ none) → (∀ a ∈ A', ∀ xs, H3 a ≠ some (.tup xs)) → (∀ a ∈ A', a ∈ B ++ A0) → (∀ a ∈ B ++ A0, a ∈ A') → DX A' H4 (.ref t) d) → Pp (.nx (ρ.set 7 (.dat d))) cc → Dn.nx (σ.set 7 (some (.ref t))) H4 := fun d t H3 H4 w1 w2 s23 s34 nt et hd hp => by
    have E3 := E2.ext (.of_same s23) (E2.rok.same s23)
    have E4 := E3.ext (.of_same s34) (E3.rok.same s34)
    have st : Stp r (P :: B) (P :: B) H H4 := ⟨fun b o n m e => s34 _ _ (s23 _ _ (s12 _ _ (lh.keep (fun z => n (by rw [z]; exact List.mem_cons_self)) e))), fun b h => .inl h, fun b h => h, E4.rok.there⟩
    exact k1 _ cc _ B H4 hp (E4.set 7 (hd _ E3.trk E3.ntp (fun _ h => h) fun _ h => h)) (((T1.same s12).same s23).same s34) st
  refine ⟨.ref a, s5, v6, s6, a, b, xs, dx, v0, v1, rfl, eb, ha, hb, ?_⟩
  have nil : ∀ {v : V} {d : D}, DX (B ++ A0) H2 v d → DX [] H2 v d := fun h => h.anti fun _ z => nomatch z
  refine ⟨a, dx, v0, v1, v6, x0, rows, row, rfl, ha, nil dv0, nil dv1, nil d6, hru, hok, fun e x dx2 v2 H3 s3 hx3 dv2 => ?_, fun t r ht hj hb w a hw cls dd H3 s3 xd => ?_⟩
  · refine ⟨x, dx2, _, rfl, hx3, x, dx2, v0, v2, rfl, hx3, fun p np => ?_⟩
    intro t H4 s4 nt et
    have sp := same_new (o := HO.tup [v0, v2]) np
    refine fin _ t _ H4 _ [] (s3.trans sp) s4 nt et (fun A' trk ntp sub sup => ?_) (good e)
    have out : ∀ {z : Addr} {H' : Hp}, (∀ a ∈ A', H' a ≠ none) → H' z = none → z ∉ A' := fun h e z => h _ z e
    have trk3 : ∀ a ∈ A', H3 a ≠ none := fun a ha => by
      have E3 := E2.ext (.of_same s3) (E2.rok.same s3)
      exact E3.trk a (sub a ha)
    have ntp3 : ∀ a ∈ A', ∀ xs, H3 a ≠ some (.tup xs) := fun a ha => by
      have E3 := E2.ext (.of_same s3) (E2.rok.same s3)
      exact E3.ntp a (sub a ha)
    have dv0' : DX A' H4 v0 (.str x0) := (((dv0.anti sub).same s3).same sp).same s4
    have dv2' : DX A' H4 v2 (rowsT (rows ++ [row])) := ((dv2.flat ntp3 _ _ (flat_rowsT _)).same sp).same s4
    exact .tup et (out trk nt) (.cons (.str _) (.cons (.tup (s4 _ _ upd_same) (out trk3 np) (.cons dv0' (.cons dv2' .nil))) .nil))
  · obtain ⟨rfl, dd', vw, va, rfl, hdd, dw, da⟩ := xd
    refine ⟨rfl, dd', _, vw, va, rfl, hdd, rfl, rfl, fun t' H4 s4 nt et => ?_⟩
    cases dw
    refine fin _ t' _ H4 _ [] s3 s4 nt et (fun A' trk ntp sub sup => ?_) (bad t r ht hj hb w a hw)
    have fl : flat a = true := by
      rcases hw with rfl | ⟨i, rfl⟩ <;> rfl
    exact .tup et (fun z => trk _ z nt) (.cons (.str _) (.cons (.str _) (.cons ((da.flat ntp _ _ fl).same s4) .nil)))
end
end FK
set_option Elab.async false
set_option linter.all false
set_option maxRecDepth 100000
set_option maxHeartbeats 4000000
/-! The law's own rules: a record in a slot, its form; a list that a def hands out, owned; own lists read as data to the end. -/
namespace FK
open PySem PySem.Spec L2 LamX PyProof.Rows
theorem Env1.setOb {dl : DicL} {r : Option Addr} {A0 B : List Addr} {H : Hp} {σ : L2.St} {ρ : Rho} {c : Nat} {a : Addr} {G : Hp} {us : List (V × PyData)} (E : Env1 dl A0 B r H σ ρ c) (i : Nat) (o : ObAt (B ++ A0) H G us) (hH : H a ≠ none) (hB : a ∉ B) : Env1 dl A0 B r H (σ.set i (some (.ref a))) (ρ.set i (.ob a G us)) c := by
  have get : ∀ {j : Nat} {s : Sl}, (ρ.set i (.ob a G us))[j]? = some s → (j = i ∧ s = .ob a G us ∧ i < ρ.length) ∨ (ρ[j]? = some s ∧ (σ.set i (some (.ref a)))[j]? = σ[j]?) := fun {j s} h => by
    rcases getElem?_set_cases h with ⟨h1, h2, h3⟩ | ⟨h1, h2⟩
    · exact .inl ⟨h1, h2, h3⟩
    · exact .inr ⟨h2, by rw [List.getElem?_set_ne (Ne.symm h1)]⟩
  refine ⟨by simp [E.len], fun j e h => ?_, fun j ds h => ?_, fun j w kvs h => ?_, fun j h => ?_, fun j k b h1 h2 hb => ?_, E.dis, E.rA, E.rok, E.trk, E.ntp, fun j b h => ?_, fun j b G' us' h => ?_⟩
  · rcases get h with ⟨_, e, _⟩ | ⟨e1, e2⟩
    · cases e
    · rw [e2]; exact E.dat j _ e1
  · rcases get h with ⟨_, e, _⟩ | ⟨e1, e2⟩
    · cases e
    · rw [e2]; exact E.lst j _ e1
  · rcases get h with ⟨_, e, _⟩ | ⟨e1, e2⟩
    · cases e
    · rw [e2]; exact E.dic j _ _ e1
  · rcases get h with ⟨_, e, _⟩ | ⟨e1, e2⟩
    · cases e
    · rw [e2]; exact E.rd j e1
  · have no : ∀ {j : Nat}, (σ.set i (some (V.ref a)))[j]? = some (some (.ref b)) → σ[j]? = some (some (.ref b)) := fun {j} h => by
      rcases getElem?_set_cases h with ⟨_, h2, _⟩ | h
      · cases h2
        exact absurd hb hB
      · exact h.2
    exact E.sep j k b (no h1) (no h2) hb
  · rcases getElem?_set_cases h with ⟨_, h2, _⟩ | h
    · cases h2
      exact hH
    · exact E.ref j b h.2
  · rcases get h with ⟨e0, e, hl⟩ | ⟨e1, e2⟩
    · cases e
      rw [e0]
      exact ⟨by rw [List.getElem?_set_self (by rw [E.len]; exact hl)], o⟩
    · rw [e2]; exact E.ob j _ _ _ e1
def recG (CR a dx : Addr) (v0 v1 : V) : Hp := fun b => if b = a then some (recO CR dx v0 v1) else none
/-- Record(rule, rows) into slot 5 -/
def recW (CR : Addr) (ρ : Rho) (ds : List D) : W Fl := fun c P => ∃ (x0 : Str) (rows : List Row), ds = [.str x0, rowsT rows] ∧ ruleOk x0 ∧ rowsOk rows ∧ Valid rows ∧ ∀ a dx v0 v1, P (.nx (ρ.set 5 (.ob a (recG CR a dx v0 v1) [(v0, .str x0), (v1, rowsT rows)]))) c
/-- .form of slot 5 -/
def formW (CR : Addr) : Rho → W D := fun ρ c P => ∃ a G us dx v0 v1 x0 rows, ρ[5]? = some (.ob a G us) ∧ G a = some (recO CR dx v0 v1) ∧ (v0, PyData.str x0) ∈ us ∧ (v1, rowsT rows) ∈ us ∧ P (recD x0 rows) c
section
variable {X : Cx} {CI CR fI fA pF gF C : Addr} {k : Nat} {r : Option Addr} {Ex : XK} {dl : DicL}
theorem pws_rec {fd : FuncData} {e1 e2 : Expr} {fa : Rho → W (List D)} {p1 p2 p3 p4 : Pos} (R : RecF X.K X.mg CR fI fA pF gF) (F : FnOk X.prog X.w X.K X.mg X.base (L2N.CX X.prog X.w) k fI fd ["self", "rule", "rows"] (spRecInit CR CI)) (hb : L2.Binds X.K fd ["self", "rule", "rows"] []) (hr : Room (k + 1) X.A)
    (hN : X.N.Nodup) (h5 : X.N[5]? = some ("_law_rec" : Str)) (hx : Loc X.env.scope ("_law_rec" : Str)) (hf : X.fn ("_law_rec" : Str) = true ∨ X.env.scope.names.lookup ("_law_rec" : Str) = some NameKind.local) (hg : Gl X "Record") (ha : PA X [e1, e2] (tWA dl r fa))
    (he : starEach [e1, e2] X.env = (false, eval e1 X.env) :: starEach [e2] X.env := by rfl) (hpl : (backTo p3 (starEach [e2] X.env)).any (·.1) = false := by rfl) :
    PS X (.Assign [.Name "_law_rec" p1] (.Call (.Name "Record" p2) [e1, e2] [] p3) p4) (tWS dl C r Ex fun ρ => bW (fa ρ) fun ds => recW CR ρ ds) := by
  refine PS.imp (ps_set (i := 5) hN h5 hx (pe_make R.mkr F hr hg R.mR hb .nil passN ha (by decide) he hpl) (by rfl) hf) fun Dn σ H ⟨A0, B, ρ, c, P, E, hp, k1, k2, k3⟩ => ⟨A0, B, ρ, c, _, E, hp, fun ds c1 vs H1 p1 e1 rd1 dv => fun x dx hx hdx hne => ?_⟩
  obtain ⟨x0, rows, rfl, hru, hok, hva, q⟩ := p1
  have E1 := E.ext e1 rd1
  cases dv with
  | cons d0 dv =>
    cases dv with
    | cons d1 dv =>
      cases dv
      rename_i v0 v1
      have nx : (upd H1 dx (.own x)) x = none := by rw [upd_ne (Ne.symm hne)]; exact hx
      have s1 : Same H1 (upd (upd H1 dx (.own x)) x (.ins CR dx [])) := (same_new hdx).trans (same_new nx)
      have nil : ∀ {v : V} {d : D}, DX (B ++ A0) H1 v d → DX [] (upd (upd H1 dx (.own x)) x (.ins CR dx [])) v d := fun h => (DX.anti (A' := []) h fun _ z => nomatch z).same s1
      refine ⟨x, dx, v0, v1, x0, rows, rfl, upd_same, nil d0, nil d1, hru, hok, fun e H' s => ⟨rfl, ?_⟩, fun t row ht hj hbad => ?_⟩
      · have s2 : Same H1 (upd H' x (recO CR dx v0 v1)) := fun b o hb => by
          rw [upd_ne (ne_of_none hb hx)]
          exact s _ _ (s1 _ _ hb)
        have rd2 := rd1.same s2
        have E2 := E1.ext (.of_same s2) rd2
        have xA : x ∉ B ++ A0 := fun z => E1.trk x z hx
        refine k1 _ c1 _ B _ (q x dx v0 v1) (E2.setOb 5 ⟨fun b o hb => ?_, fun z hz => ?_⟩ (by rw [upd_same]; simp) fun z => xA (List.mem_append_left _ z)) (.of_ext (e1.trans (.of_same s2)) rd2)
        · unfold recG at hb
          by_cases hbx : b = x
          · rw [if_pos hbx] at hb
            rw [hbx, upd_same]
            exact ⟨hb, xA⟩
          · rw [if_neg hbx] at hb; cases hb
        · rcases List.mem_cons.mp hz with rfl | hz
          · exact d0.same s2
          · rw [List.mem_singleton.mp hz]
            exact d1.same s2
      · rw [hva t row ht] at hbad
        cases hbad
theorem pw_form {fdF : FuncData} {p1 p2 : Pos} (R : RecF X.K X.mg CR fI fA pF gF) (FF : FnOk X.prog X.w X.K X.mg X.base (L2N.CX X.prog X.w) 1 gF fdF ["self"] (spForm CR)) (bF : L2.Binds X.K fdF ["self"] []) (hr : Room 2 X.A) (h5 : X.N[5]? = some ("_law_rec" : Str)) (v5 : Vis X.env.scope ("_law_rec" : Str)) :
    PE X (.Attribute (.Name "_law_rec" p1) "form" p2) (tW dl r (formW CR)) := by
  refine PE.imp (pe_prop (pe_var (i := 5) h5 v5) R.cls R.prop FF hr bF .nil passN (by rfl)) fun σ H Q ⟨A0, B, ρ, c, P, E, hf, q⟩ => ?_
  obtain ⟨a, G, us, dx, v0, v1, x0, rows, e5, hGa, m0, m1, p⟩ := hf
  obtain ⟨s5, ob⟩ := E.ob 5 a G us e5
  have ha := (ob.os _ _ hGa).1
  refine ⟨.ref a, s5, a, dx, _, rfl, ha, a, dx, v0, v1, rfl, ha, fun t nt => ?_⟩
  have s := same_new (o := HO.tup [v0, v1]) nt
  exact q _ c _ _ p (.of_same s) (E.rok.same s) (.tup upd_same (fun z => E.trk t z nt) (.cons ((ob.us _ m0).same s) (.cons ((ob.us _ m1).same s) .nil)))
theorem PE.impH {e : Expr} {t t' : TE} (h : PE X e t) (i : ∀ σ H Q, (∃ n : Nat, ∀ a, n ≤ a → H a = none) → t' σ H Q → t σ H Q) : PE X e t' := ⟨fun pins s σ H Q I q => h.run pins s σ H Q I (i σ H Q ⟨s.heap.objs.size, fun _ ha => I.hok.fresh ha⟩ q)⟩
/-- f(), a list without lists within: owned -/
def newLW (g : List Sl → Nat → (Out → Nat → Prop) → Prop) : W (List D) := fun c P => g [] c fun o c' => ∃ ds, o = .rt (.list ds) ∧ flats ds = true ∧ P ds c'
open Classical in
theorem pwn_call0 {f : Addr} {fd : FuncData} {x : Str} {p pos : Pos} {g : List Sl → Nat → (Out → Nat → Prop) → Prop} (F : FnOk X.prog X.w X.K X.mg X.base (L2N.CX X.prog X.w) k f fd [] (spG dl C g)) (hr : Room k X.A) (hm : X.mg x = some (.ref f)) (hk : PySem.W.keepIn X.K (.ref f) = true) (hb : Binds X.K fd [] [])
    (hg : Gl X x := by rfl) (hdb : (x == ("__debug__" : Str)) = false := by decide) : PE X (.Call (.Name x p) [] [] pos) (tWN dl r fun _ => newLW g) :=
  PE.impH (pe_call0 F hr hg hm hk hb .nil passN hdb) fun σ H Q ⟨n, hn⟩ ⟨A0, B, ρ, c, P, E, hp, q⟩ => by
    let A1 : List Addr := (B ++ A0) ++ (List.range n).filter fun b => decide (∃ xs, H b = some (.lst xs))
    have old : ∀ a xs, H a = some (.lst xs) → a ∈ A1 := fun a xs h => by
      refine List.mem_append_right _ (List.mem_filter.mpr ⟨List.mem_range.mpr ?_, decide_eq_true ⟨xs, h⟩⟩)
      rcases Nat.lt_or_ge a n with z | z
      · exact z
      · rw [hn a z] at h; cases h
    refine ⟨A1, r, c, [], _, fun a ha => ?_, fun a ha xs z => ?_, fun a h => List.mem_append_left _ (E.rAB a h), E.rok, .nil, hp, fun d c' v H' p3 e3 rd3 dv => ?_, fun w a c' cls dd H' p3 _ _ _ => ?_⟩
    · rcases List.mem_append.mp ha with h | h
      · exact E.trk a h
      · obtain ⟨xs, h⟩ := of_decide_eq_true (List.mem_filter.mp h).2
        rw [h]; simp
    · rcases List.mem_append.mp ha with h | h
      · exact E.ntp a h xs z
      · obtain ⟨ys, h⟩ := of_decide_eq_true (List.mem_filter.mp h).2
        rw [h] at z; cases z
    · obtain ⟨ds, ed, fl, hP⟩ := p3
      cases ed
      cases dv with
      | lst h1 h2 h3 =>
        rename_i a vs
        have na : H a = none := by
          cases z : H a with
          | none => rfl
          | some o =>
            have z' := e3 a o (fun e => h2 (List.mem_append_left _ (E.rAB a e))) z
            rw [h1] at z'
            cases z'
            exact absurd (old a _ z) h2
        have ex : Ext r (upd H a (.lst vs)) H' := fun b o nr hb => by
          by_cases hba : b = a
          · rw [hba, upd_same] at hb
            rw [hba, h1]; exact hb
          · rw [upd_ne hba] at hb
            exact e3 b o nr hb
        have E2 := (E.addD na vs).ext ex rd3
        exact q ds c' a vs H' hP e3 E2 na h1 (h3.flat (fun b hb xs z => E2.ntp b hb xs z) _ _ fl)
    · obtain ⟨ds, ed, _⟩ := p3
      cases ed
end
section
variable {X : Cx} {dl : DicL} {C : Addr} {r : Option Addr} {Ex : XK} {P : Addr} {q : Str}
/-- from here on the own lists are data; the end is a truth value -/
theorem pwls_unEnd {st : List Stmt} {f : Rho → W Fl} (h : PSs X st (tWL dl C r Ex P q f)) : PSs X st (tWL dl C r Ex P q fun ρ c Pp => f (unR ρ) c fun fl c' => ∃ b, fl = .rt (.bool b) ∧ Pp (.rt (.bool b)) c') :=
  PSs.imp h fun Dn σ H ⟨A0, B, ρ, c, Pp, E, hP, T, hf, k1, k2, k3⟩ => by
    obtain ⟨A1, ⟨up, dn⟩, E1⟩ := E.unA
    have T1 : TabO P q ([] ++ A1) H := T.keep (fun _ _ _ e => e) fun a ha => .inl (dn a ha)
    refine ⟨A1, [], unR ρ, c, _, E1, up P hP, T1, hf, fun ρ' c' σ' B' H' p _ _ _ => ?_, fun d c' v B' H' p s rd dv => ?_, fun w a c' cls dd B' H' p _ _ _ => ?_⟩
    · obtain ⟨b, e, _⟩ := p
      cases e
    · obtain ⟨b, e, p⟩ := p
      cases e
      cases dv
      exact k2 (.bool b) c' (.bl b) B H' p ⟨fun x o n m z => s.kp x o (fun y => n (by rw [List.mem_singleton.mp y]; exact List.mem_cons_self)) m z, fun _ h => .inl h, fun _ h => h, rd.there⟩ rd (.bl b)
    · obtain ⟨b, e, _⟩ := p
      cases e
end
end FK
set_option Elab.async false
set_option linter.all false
set_option maxRecDepth 100000
set_option maxHeartbeats 4000000
/-! The law's walk. -/
namespace FK
open PySem PySem.Spec L2 LamX PyProof.Rows
theorem pss_forget {X : Cx} {st : List Stmt} {t : TS} (h : PSs X st t) (i : Nat) : PSs X st (fun Dn σ H => t Dn (σ.set i none) H) := ⟨fun pins s σ H D I q => h.run pins s (σ.set i none) H D (I.weak (by simp) fun j v e => by
  rcases getElem?_set_cases e with ⟨_, z, _⟩ | ⟨_, z⟩
  · cases z
  · exact z) q⟩
theorem law_end {X : Cx} {dl : DicL} {C T : Addr} {Ex : XK} {q : Str} {st : Stmt} {rest : List Stmt} {t1 : TS} {fb : Rho → W Fl} {Dn : Ends} {σ0 : L2.St} {H0 : Hp} (h1 : PS X st t1) (h2 : ∀ r : Option Addr, PSs X rest (tWL dl C r Ex T q fb)) (h : t1 { Dn with nx := fun σ H => ∃ r, tWL dl C r Ex T q fb Dn (σ.set 0 none) H } σ0 H0) : ∃ t, PSs X (st :: rest) t ∧ t Dn σ0 H0 :=
  ⟨tSeq t1 fun Dn σ H => ∃ r, tWL dl C r Ex T q fb Dn (σ.set 0 none) H, pss_cons h1 ⟨fun pins s σ H D I ⟨r, h⟩ => (pss_forget (h2 r) 0).run pins s σ H D I h⟩, h⟩
theorem flat_recD (x : Str) (rows : List Row) : flat (recD x rows) = true := by
  show (flat (.str x) && (flat (rowsT rows) && true)) = true
  rw [flat_rowsT]
  rfl
theorem flat_recs (L : List (Str × List Row)) : flats (L.map fun y => recD y.1 y.2) = true := flats_all fun d hd => by
  obtain ⟨y, _, rfl⟩ := List.mem_map.mp hd
  exact flat_recD _ _
theorem step_of_all {rows : List Row} {row : Row} (h : allOk (rows ++ [row]) = true) : stepOk rows row = true := by
  have v := Valid.of_all h rows.length row (by simp)
  simpa using v
theorem step_last {rows : List Row} {row r : Row} {t : Nat} (hv : Valid rows) (ht : (rows ++ [row])[t]? = some r) (h : stepOk ((rows ++ [row]).take t) r = false) : t = rows.length ∧ stepOk rows row = false := by
  rcases Nat.lt_or_ge t rows.length with z | z
  · rw [List.getElem?_append_left z] at ht
    rw [List.take_append_of_le_length (Nat.le_of_lt z), hv t r ht] at h
    cases h
  · have hlt := (List.getElem?_eq_some_iff.mp ht).1
    rw [List.length_append, List.length_singleton] at hlt
    have e : t = rows.length := by omega
    subst e
    refine ⟨rfl, ?_⟩
    rw [List.getElem?_append_right (Nat.le_refl _)] at ht
    simp at ht
    subst ht
    simpa using h
theorem PL.recD {x : Str} {rows : List Row} (hx : ruleOk x) (h : rowsOk rows) : PL 5 (FK.recD x rows) := .tuple fun y hy => by
  have hs : PyData.strOk x = true := by
    have hx : x ∈ (["time", "late", "price"] : List Str) := hx
    simp at hx
    rcases hx with rfl | rfl | rfl <;> decide +kernel
  simp at hy
  rcases hy with rfl | rfl
  · exact (PL.str hs).mono (by decide)
  · exact PL.rows fun r hr => (h.2 r hr).nm
def spLaw (K : PySem.W.Frag) (P : Addr) : Sp := fun vs H Q _ => ∃ (a : Addr) (ns : List Int), vs = [.ref a] ∧ SqL K H a (ns.map V.int) ∧ ns.length ≤ 63 ∧ H P = some (.tbl #[]) ∧ ∀ H', Q (.bl true) H'
abbrev Nlaw : List Str := ["_law_script", "_law_reader_here", "_law_lots", "_law_turn", "_law_good", "_law_rec", "_law_row", "_law_got"]
section
variable {P : Program} {w : World} {K : PySem.W.Frag} {mg : Str → Option Value} {base : Heap} {CI CS CR fI fA pF gF : Addr} {f fR : Addr} {fdR : FuncData}
theorem ok_law {c T : Addr} {oc dV kV doc pm ct : Value} {od an : Option Addr} {osl : Array (Option Value)} (bl : Bl mg) (cn : Cn K mg)
    (lk : K.lookup f = some ⟨oc, od, .func (PySem.W.fnOf "law" "law" (defArgs s_law) (defBody s_law) (defScope s_law) dV kV doc pm an (.ref c) ct), osl⟩) (hcd : PySem.W.codeIn K (.ref c) "law" = true) (TB : TabB base mg c T)
    (TK : KitF K mg CI) (hS : mg "ShownError" = some (.ref CS)) (hex : PySem.W.exmOne K (.ref CI) (.ref CS) = some true) (R : RecF K mg CR fI fA pF gF)
    (FR : FnOk P w K mg base (L2N.CX P w) 1 fR fdR ["_law_script"] (spReader K)) (mR : mg "_law_reader" = some (.ref fR)) (kR : PySem.W.keepIn K (.ref fR) = true) (bR : Binds K fdR ["_law_script"] [])
    (FC : HasP P w K mg base "_law_class_flags" 1 ["_law_e"] (spCF K CI)) (FO : HasP P w K mg base "_law_own_flags" 1 ["_law_number"] spOF) (FL : HasP P w K mg base "_law_fields" 1 ["_law_e", "_law_number"] (spFL K CI))
    {fdI fdA fdF : FuncData} (FI : FnOk P w K mg base (L2N.CX P w) 9 fI fdI ["self", "rule", "rows"] (spRecInit CR CI)) (bI : L2.Binds K fdI ["self", "rule", "rows"] [])
    (FA : FnOk P w K mg base (L2N.CX P w) 11 fA fdA ["self", "row"] (spAdd CR CI)) (bA : L2.Binds K fdA ["self", "row"] []) (FF : FnOk P w K mg base (L2N.CX P w) 1 gF fdF ["self"] (spForm CR)) (bF : L2.Binds K fdF ["self"] [])
    {g : Addr} {fdg : FuncData} (mg_ : mg "_law_outcome" = some (.ref g)) (FG : FunD K "_law_outcome" "_law_outcome" (defArgs s__law_outcome) (defBody s__law_outcome) (defScope s__law_outcome) [] [] g fdg)
    (h_fixed : Has P w K mg base CI "_law_fixed_records" 1 [] g__law_fixed_records) (h_rr : Has P w K mg base CI "_law_random_record" 7 ["_law_reader_here", "_law_most"] g__law_random_record)
    (h_cand : Has P w K mg base CI "_law_candidates" 6 ["_law_reader_here", "_law_good"] g__law_candidates) (h_draw : Has P w K mg base CI "_law_draw" 1 ["_law_reader_here", "_law_many"] g__law_draw)
    (h_cf : Has P w K mg base CI "_law_can_follow" 7 ["_law_good", "_law_row"] g__law_can_follow) (h_cb : Has P w K mg base CI "_law_check_behind" 9 ["_law_good", "_law_row"] g__law_check_behind) :
    FnOk P w K mg base (L2N.CX P w) 14 f (PySem.W.fnOf "law" "law" (defArgs s_law) (defBody s_law) (defScope s_law) dV kV doc pm an (.ref c) ct) ["_law_script"] (spLaw K T) := by
  obtain ⟨f_fx, fd_fx, F_fx, m_fx, k_fx, b_fx⟩ := h_fixed
  obtain ⟨f_rr, fd_rr, F_rr, m_rr, k_rr, b_rr⟩ := h_rr
  obtain ⟨f_ca, fd_ca, F_ca, m_ca, k_ca, b_ca⟩ := h_cand
  obtain ⟨f_dr, fd_dr, F_dr, m_dr, k_dr, b_dr⟩ := h_draw
  obtain ⟨f_cf, fd_cf, F_cf, m_cf, k_cf, b_cf⟩ := h_cf
  obtain ⟨f_cb, fd_cb, F_cb, m_cb, k_cb, b_cb⟩ := h_cb
  have S : FnScope Nlaw ["_law_script"] (defScope s_law) := ⟨rfl, rfl, rfl, by decide +kernel, rfl, by decide +kernel, by decide +kernel⟩
  refine fn_of lk hcd S (fun vs H Q E h => ?_) fun A outer s H vs Q E hr h => ?_
  · obtain ⟨a, ns, rfl, _⟩ := h
    rfl
  obtain ⟨a, ns, rfl, hS_, hn, hT, q⟩ := h
  have hu := hu_of' hr
  have hp := passes_of (X := cxOf (L2N.CX P w) P w K mg base Nlaw "law" (defScope s_law) f (.ref c) A outer s H E) rfl
  have hG : ∀ cdg, GivesN (cxOf (L2N.CX P w) P w K mg base Nlaw "law" (defScope s_law) f (.ref c) A outer s H E) Nout "_law_outcome" (defScope s__law_outcome) g cdg (defBody s__law_outcome) "_law_ask" ((cxOf (L2N.CX P w) P w K mg base Nlaw "law" (defScope s_law) f (.ref c) A outer s H E).env.qual ++ "<lambda>") (TTout CI) :=
    fun cdg => out_gives (k := 0) (X := cxOf (L2N.CX P w) P w K mg base Nlaw "law" (defScope s_law) f (.ref c) A outer s H E) bl TK hS hex (fun s' => Room.deeper (hr.mono (by decide)) _) FC FO FL
  refine law_end (dl := dlH P w) (C := CI) (T := T) (Ex := E) (ps_set (i := 1) S.nd rfl (.inl rfl) (pe_call FR (hr.mono (by decide)) rfl mR kR bR .nil passN (pa_cons (pe_var (i := 0) rfl (.inl rfl)) pa_nil))) (fun r =>
    pwls_cons (pwl_up (pws_own 2 S.nd (pwn_call0 F_fx (hr.mono (by decide)) m_fx k_fx b_fx)))
    (pwls_cons (pwl_up (pws_for hp rfl (pwi_range bl.range pw_int) (pwg_name 3 S.nd) (pwss_one (pws_append 2 (pw_call F_rr (hr.mono (by decide)) m_rr k_rr b_rr .nil (fun _ _ => .nil) (par_nm 1 (par_dat pw_int par_nil)))))))
    (pwls_unEnd (pwls_cons (pwl_for hp rfl (pwi_lst (pw_var 2)) (pwg_name 4 S.nd)
        (pwls_cons (pwl_up (pws_rec R FI bI (hr.mono (by decide)) S.nd rfl (.inr rfl) (.inl rfl) rfl (paw_cons (pw_ix (pw_var 4) pw_int) (paw_cons (pw_ix (pw_var 4) pw_int) paw_nil))))
        (pwls_cons (pwl_for hp rfl (pwi_lst (pw_slice2 (pw_call F_ca (hr.mono (by decide)) m_ca k_ca b_ca .nil (fun _ _ => .nil) (par_nm 1 (par_dat (pw_var 4) par_nil))) (pw_call F_dr (hr.mono (by decide)) m_dr k_dr b_dr .nil (fun _ _ => .nil) (par_nm 1 (par_dat pw_int par_nil))))) (pwg_name 6 S.nd)
          (pwls_cons (pwl_outcome (kl := 8) S.nd rfl (.inl rfl) (.inl rfl) rfl mg_ FG hG TB rfl hr (lamS_by (by kernel_rfl)) rfl (fun _ _ _ _ _ => rfl) R FA bA FF bF rfl rfl (.inr (.inr rfl)) (.inr (.inr rfl)))
          (pwls_one (pwl_up (pws_if (pwt_val (pw_call F_cf (hr.mono (by decide)) m_cf k_cf b_cf .nil (fun _ _ => .nil) (par_dat (pw_var 4) (par_dat (pw_var 6) par_nil))))
            (pwss_cons (pws_if (pwt_cmp opW_ne (op_neA hr.units) (pw_var 7) (pw_tup (paw_cons pw_str (paw_cons (pw_tup (paw_cons (pw_ix (pw_var 4) pw_int) (paw_cons (pw_op opW_add op_addA (pw_ix (pw_var 4) pw_int) (pw_tup (paw_cons (pw_var 6) paw_nil))) paw_nil))) paw_nil))) (nomark _)) (pwss_one (pws_ret pw_bl)) pwss_nil)
              (pwss_one (pws_if (pwt_not (pwt_val (pw_call F_cb (hr.mono (by decide)) m_cb k_cb b_cb .nil (fun _ _ => .nil) (par_dat (pw_var 4) (par_dat (pw_var 6) par_nil))))) (pwss_one (pws_ret pw_bl)) pwss_nil)))
            (pwss_one (pws_if (PW.pt (pww_or (pwt_cmp opW_ne (op_neA hr.units) (pw_ix (pw_var 7) pw_int) pw_str (nomark _)) (pww_or1 (pwt_cmp opW_ne (op_neA hr.units) (pw_ite (pwt_val (pw_isa isT_int bl.isinstance bl.int (pw_ix (pw_var 7) pw_int))) (pw_ix (pw_var 7) pw_int) (pw_ix (pw_ix (pw_var 7) pw_int) pw_int)) (pw_callB calW_len call_len bl.len (paw_cons (pw_ix (pw_var 4) pw_int) paw_nil)) (nomark _))))) (pwss_one (pws_ret pw_bl)) pwss_nil)))))))
        (pwls_one (pwl_up (pws_if (pwt_cmp opW_ne (op_neA hr.units) (pw_form R FF bF (hr.mono (by decide)) rfl (.inr (.inl rfl))) (pw_var 4) (nomark _)) (pwss_one (pws_ret pw_bl)) pwss_nil))))))
      (pwls_one (pwl_up (pws_ret pw_bl))))))) ?_
  refine ⟨_, rfl, a, ns, rfl, hS_, hn, fun p H1 hp s1 hrd => ?_⟩
  have hT1 := s1 _ _ hT
  have hrd1 := hrd
  obtain ⟨L, o, xs, sp, rs, r1, _⟩ := hrd1
  refine ⟨some p, [p, T], [], [.no, .rd, .no, .no, .no, .no, .no, .no], 0, fun fl _ => fl = .rt (.bool true), ⟨rfl, fun i d e => ?_, fun i ds e => ?_, fun i w kvs e => ?_, fun i e => ?_, fun i j a _ _ z => (nomatch z), fun b z => (nomatch z), fun a e => by cases e; exact List.mem_cons_self, fun a e => by cases e; exact hrd, fun a ha => ?_, fun a ha xs z => ?_, fun i a e => ?_, fun i a G us e => ?_⟩, List.mem_cons_of_mem _ List.mem_cons_self, ⟨#[], hT1, True.intro, fun pos cv hcv => ?_⟩, ?_, ?_, ?_, ?_⟩
  · match i, e with
    | 0, e | 1, e | 2, e | 3, e | 4, e | 5, e | 6, e | 7, e => cases e
    | n + 8, e => cases e
  · match i, e with
    | 0, e | 1, e | 2, e | 3, e | 4, e | 5, e | 6, e | 7, e => cases e
    | n + 8, e => cases e
  · match i, e with
    | 0, e | 1, e | 2, e | 3, e | 4, e | 5, e | 6, e | 7, e => cases e
    | n + 8, e => cases e
  · match i, e with
    | 1, e => exact ⟨p, rfl, rfl⟩
    | 0, e | 2, e | 3, e | 4, e | 5, e | 6, e | 7, e => cases e
    | n + 8, e => cases e
  · simp at ha
    rcases ha with rfl | rfl
    · rw [r1]; simp
    · rw [hT1]; simp
  · simp at ha
    rcases ha with rfl | rfl
    · rw [r1] at z; cases z
    · rw [hT1] at z; cases z
  · match i, e with
    | 1, e =>
      cases e
      rw [r1]; simp
    | 0, e | 2, e | 3, e | 4, e | 5, e | 6, e | 7, e => cases e
    | n + 8, e => cases e
  · match i, e with
    | 0, e | 1, e | 2, e | 3, e | 4, e | 5, e | 6, e | 7, e => cases e
    | n + 8, e => cases e
  · have z : codeAmong pos [] = some cv := hcv
    simp [codeAmong] at z
  rotate_left
  · intro ρ' c' σ' B' H' e
    cases e
  · intro d c' v B' H' e _ _ dv
    cases e
    cases dv
    exact q H'
  · intro w a c' cls dd B' H' e
    cases e
  refine seqW_gen fun K k1 k2 => ?_
  refine ⟨0, rfl, rfl, _, rfl, flat_recs fixedP, ?_⟩
  refine k1 _ _ ?_
  clear k1 k2
  refine seqW_gen fun K k1 k2 => ?_
  simp only [bW_def, rW_def, asI_int, gW_def]
  refine ⟨by decide, ?_⟩
  refine forG_inv (fun i ρ c => ∃ (L : List (Str × List Row)) (s3 : Sl), ρ = [.no, .rd, .lst (L.map fun y => recD y.1 y.2), s3, .no, .no, .no, .no] ∧ (∀ y ∈ L, ruleOk y.1 ∧ Good y.2) ∧ L.length = 5 + i ∧ c ≤ 1001 * i) (rngD 3) 0 _ 0 (fun i xi hx ρ c Q hI q1 q2 => ?_) ⟨fixedP, .no, rfl, fixed_good, rfl, by simp⟩ (fun ρ c hI => ?_)
  · obtain ⟨L, s3, rfl, hL, hlen, hc⟩ := hI
    simp
    refine ⟨7, by simp, rfl, by have := (List.getElem?_eq_some_iff.mp hx).1; rw [rngD_length] at this; have e3 : (3 : Int).toNat = 3 := rfl; omega, fun x rows c' hc' hru hg => ?_⟩
    simp
    refine ⟨by have hL : LIM = 100000 := rfl; have := (List.getElem?_eq_some_iff.mp hx).1; rw [rngD_length] at this; have e3 : (3 : Int).toNat = 3 := rfl; omega, ?_⟩
    refine q1 _ _ ⟨L ++ [(x, rows)], .dat xi, by simp, fun y hy => ?_, by simp; omega, by omega⟩
    rcases List.mem_append.mp hy with h | h
    · exact hL y h
    · rw [List.mem_singleton.mp h]
      exact ⟨hru, hg⟩
  · obtain ⟨L, s3, rfl, hL, hlen, hc⟩ := hI
    have hlen : L.length = 8 := hlen
    have hc : c ≤ 3003 := hc
    refine k1 _ _ ?_
    clear k1 k2
    show seqW _ _ _ _ _
    refine seqW_gen fun K k1 k2 => ?_
    simp only [unR, List.map_cons, List.map_nil, unS]
    refine ⟨_, rfl, ?_⟩
    show forG _ _ (L.map fun y => recD y.1 y.2) _ _ _
    generalize PyData.list (L.map fun y => recD y.1 y.2) = lots
    refine forG_map (fun y : Str × List Row => recD y.1 y.2) (fun k ρ c => ∃ s3 s4 s5 s6 s7, ρ = [.no, .rd, .dat lots, s3, s4, s5, s6, s7] ∧ c ≤ 3003 + 401 * k) L (fun k y hk ρ c Q hI q1 q2 => ?_) ⟨_, _, _, _, _, rfl, by omega⟩ (fun ρ c hI => ?_)
    · obtain ⟨s3, s4, s5, s6, s7, rfl, hc⟩ := hI
      obtain ⟨hru, hg⟩ := hL y (List.mem_of_getElem? hk)
      have hk8 : k < 8 := by have := (List.getElem?_eq_some_iff.mp hk).1; omega
      obtain ⟨x, rows⟩ := y
      have hru : ruleOk x := hru
      have hg : Good rows := hg
      simp only [gNm_def, rW_def]
      refine seqW_gen fun K k1 k2 => ?_
      simp [recD]
      refine ⟨x, rows, rfl, hru, hg.ok, hg.va, fun a dx v0 v1 => ?_⟩
      refine k1 _ _ ?_
      clear k1 k2
      refine seqW_gen fun K k1 k2 => ?_
      simp
      refine ⟨x, rows, rfl, hg, by omega, fun cs c1 hc1 hcs => ?_⟩
      simp
      refine use_draw (by omega) (by omega) (by omega) fun r hr => ?_
      simp [sl2W]
      refine ⟨by have := hcs.len; have hL : LIM = 100000 := rfl; omega, fun ys hys => ?_⟩
      obtain ⟨cs2, hsub, rfl⟩ := List.sublist_map_iff.mp hys
      have hok2 : rowsOk (rows ++ [.closed]) := snoc_ok hg.ok trivial (by have := hg.len; omega)
      refine forG_map rowD (fun k ρ c' => c' = c1 + 1 ∧ ∃ s6 s7, ρ = [.no, .rd, .dat lots, s3, .dat (.tuple [.str x, rowsT rows]), .ob a (recG CR a dx v0 v1) [(v0, .str x), (v1, rowsT rows)], s6, s7]) cs2 (fun k row hk ρ c2 Q2 hI p1 p2 => ?_) ⟨rfl, _, _, rfl⟩ (fun ρ c2 hI => ?_)
      · obtain ⟨rfl, s6, s7, rfl⟩ := hI
        have hro : rowOk row := hcs.ok row (hsub.subset (List.mem_of_getElem? hk))
        simp only [gNm_def, rW_def]
        refine seqW_gen fun K k1 k2 => ?_
        simp
        have after : ∀ d : D, (stepOk rows row = true → d = .tuple [.str "result", recD x (rows ++ [row])]) → (stepOk rows row = false → ∃ (w : Str) (a : D), ExAt rows.length a ∧ d = .tuple [.str "paper", .str w, a]) →
            K (.nx [.no, .rd, .dat lots, s3, .dat (.tuple [.str x, rowsT rows]), .ob a (recG CR a dx v0 v1) [(v0, .str x), (v1, rowsT rows)], .dat (rowD row), .dat d]) (c1 + 1) := fun d h1 h2 => by
          refine k1 _ _ ?_
          clear k1 k2
          simp
          refine ⟨x, rows, row, rfl, hg, hro, ?_⟩
          have hL : LIM = 100000 := rfl
          have hz := hg.len
          cases hst : stepOk rows row with
          | true =>
            have ed := h1 hst
            subst ed
            simp
            refine ⟨by omega, ?_⟩
            refine ⟨?_, ?_⟩
            · simp
              omega
            simp
            refine ⟨by omega, ?_⟩
            have hok3 : rowsOk (rows ++ [row]) := snoc_ok hg.ok hro (by omega)
            have pl : PL 6 (.tuple [.str "result", recD x (rows ++ [row])]) := .tuple fun y hy => by
              simp at hy
              rcases hy with rfl | rfl
              · exact (PL.str (by decide +kernel)).mono (by decide)
              · exact .recD hru hok3
            have ee : (PyData.tuple [PyData.str (Str.ofString "result"), PyData.tuple [PyData.str x, PyData.tuple (List.map rowD rows ++ [rowD row])]]) = .tuple [.str "result", recD x (rows ++ [row])] := by simp [recD, rowsT]
            rw [ee]
            refine eqW_by (neg := true) pl pl (.inl ⟨_, rfl⟩) (b := true) (by simp) ?_
            simp
            refine ⟨x, rows, row, rfl, hru, hg, hro, hst, ?_⟩
            simp
            exact p1 _ _ ⟨rfl, _, _, rfl⟩
          | false =>
            obtain ⟨w, a', ha, ed⟩ := h2 hst
            subst ed
            simp
            rcases ha with rfl | ⟨i, rfl⟩
            · simp [isD, tyD]
              exact p1 _ _ ⟨rfl, _, _, rfl⟩
            · simp [isD, tyD]
              exact p1 _ _ ⟨rfl, _, _, rfl⟩
        refine ⟨a, _, _, dx, v0, v1, x, rows, row, rfl, if_pos rfl, by simp, by simp, rfl, hru, snoc_ok hg.ok hro (by have := hg.len; omega), fun e => after _ (fun _ => rfl) (fun z => by rw [step_of_all e] at z; cases z), fun t r ht hj hb w a' ha => ?_⟩
        obtain ⟨rfl, hs⟩ := step_last hg.va ht hb
        exact after _ (fun z => by rw [hs] at z; cases z) fun _ => ⟨w, a', ha, rfl⟩
      · obtain ⟨rfl, s6, s7, rfl⟩ := hI
        refine k1 _ _ ?_
        clear k1 k2
        refine ⟨a, _, _, dx, v0, v1, x, rows, rfl, if_pos rfl, by simp, by simp, ?_⟩
        refine ⟨_, rfl, ?_⟩
        refine eqW_by (neg := true) (PL.recD hru hg.ok) (PL.recD hru hg.ok) (.inl ⟨_, rfl⟩) (b := true) (by simp [recD]) ?_
        simp
        exact q1 _ _ ⟨_, _, _, _, _, rfl, by omega⟩
    · obtain ⟨s3, s4, s5, s6, s7, rfl, hc⟩ := hI
      refine k1 _ _ ?_
      clear k1 k2
      exact ⟨true, rfl, rfl⟩
end
end FK
set_option Elab.async false
set_option linter.all false
set_option maxRecDepth 100000
set_option maxHeartbeats 4000000
/-! From the head's facts to what the walk asks: InvalidPaper, Record, the classes. -/
namespace FK
open PySem PySem.Spec L2 LamX PyProof.Rows
theorem all_at {l : List Bool} (h : l.all id = true) (i : Nat) {b : Bool} (e : l[i]? = some b) : b = true := List.all_eq_true.mp h b (List.mem_of_getElem? e)
abbrev PW0 : Program := PySem.Challenge.pw_fairshown_k15_whole_rows_that_can_follow
section
variable {K : PySem.W.Frag} {h : Heap} {mg : Str → Option Value}
theorem ex_split (e : ex K = true) : (exL0 K).all id = true ∧ (exL1 K).all id = true ∧ (exL2 K).all id = true := by
  obtain ⟨h1, h2⟩ := He.ba e
  obtain ⟨h2, h3⟩ := He.ba h2
  exact ⟨h1, h2, h3⟩
theorem oexc_of (C : Addr) (h3 : PySem.W.excInitIn K C veB "ValueError.__new__" = true) (hd : PySem.W.hasDictIn K C = true) (hv : (PySem.W.clsIn K C).any (fun cd => PySem.HandSPX.refsVE cd.mro) = true) (sa : PySem.W.findIn K (.ref C) "__setattr__" = some (some (.builtin "object.__setattr__")))
    (exC : PySem.W.subIn K (.ref C) (.type "BaseException") = some true) (tyC : PySem.W.typeIn K (.ref C) = some (.type "type")) (kC : PySem.W.keepIn K (.ref C) = true) : OexC K C := by
  refine ⟨?_, sa, exC, tyC, kC⟩
  unfold PySem.W.excInitIn at h3
  split at h3
  · rename_i dd cd sl ho
    split at h3
    · rename_i C' bm k0 k1 k2 k3 n k5 hm hs
      simp only [Bool.and_eq_true, beq_iff_eq, Bool.not_eq_true'] at h3
      obtain ⟨⟨⟨rfl, rfl⟩, hdel⟩, ht⟩ := h3
      obtain ⟨nm, bs, mro, ns, qn, hdct, sn, sub, ab, col, del⟩ := cd
      dsimp only at hm hdel
      subst hm hdel
      have hsl : sl = #[k0, k1, k2, k3, some (.builtin "ValueError.__new__"), k5] := by
        obtain ⟨l⟩ := sl
        simp only at hs
        rw [hs]
      subst hsl
      have hc : PySem.W.clsIn K C' = some ⟨nm, bs, .ref C' :: bm, ns, qn, hdct, sn, sub, ab, col, false⟩ := by
        unfold PySem.W.clsIn
        rw [ho]
      have hd2 : hdct = true := by
        unfold PySem.W.hasDictIn at hd
        rw [hc] at hd
        exact hd
      rw [hc] at hv
      subst hd2
      exact ⟨nm, qn, ns, bs, bm, sn, sub, ab, col, dd, k0, k1, k2, k3, k5, ho, hv⟩
    · cases h3
  · cases h3
theorem init_lk (e : fnC K ("InvalidPaper", some "__init__") = valC d_InvalidPaper_init) (hc : cellB K PW0.main.file = true) : ∃ (oc : Value) (od : Option Addr) (osl : Array (Option Value)) (kV doc pm ct : Value) (an : Option Addr) (cda cc : Addr),
    K.lookup (fI K) = some ⟨oc, od, .func (PySem.W.fnX "__init__" "InvalidPaper.__init__" (defArgs s_InvalidPaper_init) (defBody s_InvalidPaper_init) (defScope s_InvalidPaper_init) [("__class__", cc)] .none kV doc pm an (.ref cda) ct), osl⟩ ∧
    PySem.W.codeIn K (.ref cda) "InvalidPaper.__init__" = true ∧ (∃ cl cld csl, K.lookup cc = some ⟨cl, cld, .cell (some (.ref (cI K))), csl⟩) ∧
    ∃ ccl cdd xs ccs file tf, K.lookup cda = some ⟨ccl, cdd, .fields xs, ccs⟩ ∧ xs[2]? = some (.str file tf) ∧ ((PW0.main.file : Str) == file) = true := by
  have e1 : (match K.lookup (fI K) with
    | some ⟨_, _, .func fd, _⟩ => some (fd.name, fd.qualname, fd.params, fd.body, fd.scope, fd.globals, fd.closure.map (·.1), fd.builtins)
    | _ => (none : FnC)) = valC d_InvalidPaper_init := e
  unfold cellB at hc
  cases q : K.lookup (fI K) with
  | none =>
    rw [q] at hc
    cases hc
  | some o =>
    obtain ⟨oc, od, dt, osl⟩ := o
    rw [q] at hc e1
    cases dt with
    | func fd =>
      obtain ⟨n1, n2, n3, n4, n5, n6, n7, n8, n9, n10, n11, n12, n13, n14, n15⟩ := fd
      dsimp only at hc e1
      have e2 : (some (n1, n2, n3, n4, n5, n6, n7.map (·.1), n15) : FnC) = some ((("__init__" : Str), (("InvalidPaper.__init__" : Str), defArgs s_InvalidPaper_init, FuncBody.stmts (defBody s_InvalidPaper_init), defScope s_InvalidPaper_init, mainGlobals, (["__class__"] : List Str), builtinsNs)) : Str × Str × Arguments × FuncBody × Scope × Addr × List Str × Addr) := e1
      simp only [Option.some.injEq, Prod.mk.injEq] at e2
      obtain ⟨h1, h2, h3, h4, h5, h6, h7, h8⟩ := e2
      subst h1 h2 h3 h4 h5 h6 h8
      match n7, n13, n8, hc, h7 with
      | [(x, c)], .ref cd, .none, hc, h7 =>
        have hx : x = "__class__" := by
          have h7 : [x] = ([("__class__" : Str)] : List Str) := h7
          cases h7
          rfl
        subst hx
        dsimp only at hc
        obtain ⟨g1, g2⟩ := He.ba hc
        obtain ⟨g2, g3⟩ := He.ba g2
        refine ⟨oc, od, osl, n9, n10, n11, n14, n12, cd, c, rfl, g2, ?_, ?_⟩
        · split at g1
          · rename_i o1 o2 D o3 hq
            have eD := of_decide_eq_true g1
            subst eD
            exact ⟨_, _, _, hq⟩
          · cases g1
        · split at g3
          · rename_i o1 o2 vs o3 hq
            split at g3
            · rename_i fl tf hv
              exact ⟨_, _, vs, _, fl, tf, hq, hv, g3⟩
            · cases g3
          · cases g3
    | _ => cases hc
end
end FK
set_option Elab.async false
set_option linter.all false
set_option maxRecDepth 100000
set_option maxHeartbeats 0
/-! All promises from the head's facts. (Printed by specXI.gen.py.) -/
namespace FK
open PySem PySem.Spec L2 LamX PyProof.Rows
abbrev LW : PySem.W.OpenLaw := PySem.Challenge.rw_fairshown_k15_whole_rows_that_can_follow
section
variable {K : PySem.W.Frag} {h : Heap} {mg : Str → Option Value}
theorem bl_of (X : K.In h) (G : h.Ns mainGlobals mg) (c : SaysY kk h K) : Bl mg := ⟨He.free_ok X G (c.d.fact 77 (f := .free "len") rfl), He.free_ok X G (c.d.fact 78 (f := .free "sum") rfl), He.free_ok X G (c.d.fact 79 (f := .free "all") rfl), He.free_ok X G (c.d.fact 80 (f := .free "tuple") rfl), He.free_ok X G (c.d.fact 81 (f := .free "list") rfl), He.free_ok X G (c.d.fact 82 (f := .free "min") rfl), He.free_ok X G (c.d.fact 83 (f := .free "int") rfl), He.free_ok X G (c.d.fact 84 (f := .free "isinstance") rfl), He.free_ok X G (c.d.fact 85 (f := .free "sorted") rfl), He.free_ok X G (c.d.fact 86 (f := .free "set") rfl), He.free_ok X G (c.d.fact 87 (f := .free "range") rfl), He.free_ok X G (c.d.fact 88 (f := .free "zip") rfl), He.free_ok X G (c.d.fact 89 (f := .free "enumerate") rfl), He.free_ok X G (c.d.fact 90 (f := .free "str") rfl), He.free_ok X G (c.d.fact 91 (f := .free "bool") rfl)⟩
theorem cn_of (X : K.In h) (G : h.Ns mainGlobals mg) (c : SaysY kk h K) : Cn K mg := by
  obtain ⟨e0, e1, e2⟩ := ex_split c.more
  exact ⟨He.str_ok X G (c.d.fact 95 (f := .str "LETTERS" "abcdefghijklmnopqrstuvwxyz") rfl), He.str_ok X G (c.d.fact 96 (f := .str "BUY" "buy") rfl), He.int_ok X G (c.d.fact 94 (f := .int "LONGEST_NAME" 8) rfl), ⟨_, He.glo_ok X G (c.d.fact 75 (f := .glo "SIDES") rfl), fun H => He.tupB_ok (all_at e0 0 rfl) H⟩, ⟨_, He.glo_ok X G (c.d.fact 76 (f := .glo "RULES") rfl), fun H => He.tupB_ok (all_at e0 1 rfl) H⟩⟩
theorem excC_of (c : SaysY kk h K) : ExcC K (cI K) := by
  obtain ⟨e0, e1, e2⟩ := ex_split c.more
  exact ⟨(He.eqO_ok (all_at e0 5 rfl)), (He.eqO_ok (all_at e0 6 rfl)), (of_decide_eq_true (all_at e0 8 rfl)), (all_at e0 11 rfl), (He.eqO_ok (all_at e1 0 rfl)), (He.eqO_ok (all_at e1 1 rfl)), (of_decide_eq_true (all_at e1 2 rfl)), (of_decide_eq_true (all_at e1 3 rfl))⟩
theorem xfC_of (c : SaysY kk h K) : XfC K (cI K) := by
  obtain ⟨e0, e1, e2⟩ := ex_split c.more
  exact ⟨(He.eqO_ok (all_at e0 5 rfl)), (He.eqO_ok (all_at e0 6 rfl)), (of_decide_eq_true (all_at e0 8 rfl)), (all_at e0 11 rfl)⟩
theorem kit_of (X : K.In h) (G : h.Ns mainGlobals mg) (c : SaysY kk h K) : KitF K mg (cI K) := by
  have ec := excC_of c
  obtain ⟨e0, e1, e2⟩ := ex_split c.more
  exact ⟨ec, ⟨He.glo_ok X G (c.d.fact 73 (f := .glo "InvalidPaper") rfl), (of_decide_eq_true (all_at e2 0 rfl))⟩, ⟨_, He.glo_ok X G (c.d.fact 0 (f := .glo "UnknownOrder") rfl), (of_decide_eq_true (all_at e2 4 rfl))⟩, ⟨_, He.glo_ok X G (c.d.fact 1 (f := .glo "UnknownMember") rfl), (of_decide_eq_true (all_at e2 5 rfl))⟩, ⟨_, He.glo_ok X G (c.d.fact 2 (f := .glo "NotUsable") rfl), (of_decide_eq_true (all_at e2 6 rfl))⟩, ⟨_, He.glo_ok X G (c.d.fact 3 (f := .glo "InvalidEvent") rfl), (of_decide_eq_true (all_at e2 7 rfl))⟩, ⟨_, He.glo_ok X G (c.d.fact 4 (f := .glo "NothingToUndo") rfl), (of_decide_eq_true (all_at e2 8 rfl))⟩, ⟨_, He.glo_ok X G (c.d.fact 5 (f := .glo "InvalidText") rfl), (of_decide_eq_true (all_at e2 9 rfl))⟩, ⟨_, He.glo_ok X G (c.d.fact 6 (f := .glo "InvalidRow") rfl), (of_decide_eq_true (all_at e2 10 rfl))⟩, ⟨_, He.glo_ok X G (c.d.fact 10 (f := .glo "PaperError") rfl), (of_decide_eq_true (all_at e2 1 rfl))⟩, ⟨_, He.glo_ok X G (c.d.fact 7 (f := .glo "RecordError") rfl), (of_decide_eq_true (all_at e2 11 rfl))⟩, ⟨_, He.glo_ok X G (c.d.fact 8 (f := .glo "AuditError") rfl), (of_decide_eq_true (all_at e2 12 rfl))⟩, ⟨_, He.glo_ok X G (c.d.fact 9 (f := .glo "TextError") rfl), (of_decide_eq_true (all_at e2 13 rfl))⟩, ⟨_, He.glo_ok X G (c.d.fact 74 (f := .glo "ShownError") rfl), (of_decide_eq_true (all_at e2 2 rfl))⟩, ⟨He.free_ok X G (c.d.fact 93 (f := .free "ValueError") rfl), (of_decide_eq_true (all_at e2 3 rfl))⟩⟩
theorem oexC_of (c : SaysY kk h K) : OexC K (cI K) := by
  obtain ⟨e0, e1, e2⟩ := ex_split c.more
  exact oexc_of (cI K) (all_at e0 3 rfl) (all_at e0 11 rfl) (all_at e1 8 rfl) (He.eqO_ok (all_at e0 4 rfl)) (of_decide_eq_true (all_at e0 8 rfl)) (of_decide_eq_true (all_at e0 10 rfl)) (all_at e0 7 rfl)
theorem fnC_of (c : SaysY kk h K) : fnC K ("InvalidPaper", some "__init__") = valC d_InvalidPaper_init := by
  have e : [fnC K ("InvalidPaper", some "__init__")] = [valC d_InvalidPaper_init] := c.c
  exact (List.cons.inj e).1
theorem init_of (X : K.In h) (G : h.Ns mainGlobals mg) (c : SaysY kk h K) : InitF LW.prog K mg (cI K) (fI K) := by
  have eo := oexC_of c
  have ef := fnC_of c
  obtain ⟨e0, e1, e2⟩ := ex_split c.more
  have m := He.meth_ok (c.d.fact 104 (f := .meth "InvalidPaper" "__init__") rfl)
  exact ⟨eo, init_lk ef (all_at e1 7 rfl), beq_iff_eq.mp m.fn, m.at_, (of_decide_eq_true (all_at e1 6 rfl)), (He.eqO_ok (all_at e1 5 rfl)), (He.eqO_ok (all_at e1 4 rfl)), (of_decide_eq_true (all_at e0 9 rfl)), He.noat_ok (c.d.fact 105 (f := .noat "InvalidPaper" "word") rfl), He.noat_ok (c.d.fact 106 (f := .noat "InvalidPaper" "at") rfl), He.free_ok X G (c.d.fact 92 (f := .free "super") rfl), by kernel_rfl⟩
theorem prop_of (c : SaysY kk h K) : PropOf K (He.ga K "Record") "form" (He.ma K (He.ga K "Record") "form") (He5.wf K (He.ga K "Record") "property" "form") := by
  obtain ⟨e0, e1, e2⟩ := ex_split c.more
  have hp : propB K "Record" "form" = true := (all_at e0 2 rfl)
  obtain ⟨h1, hp⟩ := He.ba hp
  obtain ⟨h2, hp⟩ := He.ba hp
  obtain ⟨h3, hp⟩ := He.ba hp
  refine ⟨He.eqO_ok h1, He.eqO_ok h2, of_decide_eq_true h3, ?_⟩
  unfold He5.wf
  split at hp
  · rename_i a rest hq
    exact ⟨rest, by rw [hq]⟩
  · cases hp
theorem rec_of (X : K.In h) (G : h.Ns mainGlobals mg) (c : SaysY kk h K) : RecF K mg (He.ga K "Record") (He.ma K (He.ga K "Record") "__init__") (He.ma K (He.ga K "Record") "__add__") (He.ma K (He.ga K "Record") "form") (He5.wf K (He.ga K "Record") "property" "form") := by
  have ep := prop_of c
  obtain ⟨e0, e1, e2⟩ := ex_split c.more
  exact ⟨He.cls_ok (c.d.fact 97 (f := .cls "Record") rfl), He.mkr_ok (c.d.fact 102 (f := .mkr "Record") rfl), (He.eqO_ok (all_at e1 10 rfl)), (He.meth_ok (c.d.fact 101 (f := .meth "Record" "__add__") rfl)).fn, (all_at e1 9 rfl), ep, He.noat_ok (c.d.fact 98 (f := .noat "Record" "own_rule") rfl), He.noat_ok (c.d.fact 99 (f := .noat "Record" "own_rows") rfl), He.glo_ok X G (c.d.fact 72 (f := .glo "Record") rfl)⟩
end
end FK
set_option Elab.async false
set_option linter.all false
set_option maxRecDepth 100000
set_option maxHeartbeats 0
/-! The law's promise from the head's facts; the theorem. (Printed by specXI.gen.py.) -/
namespace FK
open PySem PySem.Spec L2 LamX PyProof.Rows
section
variable {K : PySem.W.Frag} {h : Heap} {mg : Str → Option Value}
theorem law_at (w : World) {fa : Addr} (X : K.In h) (G : h.Ns mainGlobals mg) (hfa : mg ("law" : Str) = some (.ref fa)) (c : SaysY kk h K) : LawAtS LW w K (L2N.CX LW.prog w) 14 63 "_law_script" mg fa h := by
  have bl := bl_of X G c
  have cn := cn_of X G c
  have TK := kit_of X G c
  have R := rec_of X G c
  have I := init_of X G c
  have e := hfa.symm.trans (He.glo_ok X G (c.d.fact 71 (f := .glo "law") rfl))
  cases e
  obtain ⟨fd_is_integer, F_is_integer⟩ := c.d.def_ 0 (d := d_is_integer) rfl
  obtain ⟨fd_is_number, F_is_number⟩ := c.d.def_ 1 (d := d_is_number) rfl
  obtain ⟨fd_is_size, F_is_size⟩ := c.d.def_ 2 (d := d_is_size) rfl
  obtain ⟨fd_is_name, F_is_name⟩ := c.d.def_ 3 (d := d_is_name) rfl
  obtain ⟨fd_is_side, F_is_side⟩ := c.d.def_ 4 (d := d_is_side) rfl
  obtain ⟨fd_is_rule, F_is_rule⟩ := c.d.def_ 5 (d := d_is_rule) rfl
  obtain ⟨fd_is_fill, F_is_fill⟩ := c.d.def_ 6 (d := d_is_fill) rfl
  obtain ⟨fd_are_fills, F_are_fills⟩ := c.d.def_ 7 (d := d_are_fills) rfl
  obtain ⟨fd_is_pair, F_is_pair⟩ := c.d.def_ 8 (d := d_is_pair) rfl
  obtain ⟨fd_are_pairs, F_are_pairs⟩ := c.d.def_ 9 (d := d_are_pairs) rfl
  obtain ⟨fd_is_order_row, F_is_order_row⟩ := c.d.def_ 10 (d := d_is_order_row) rfl
  obtain ⟨fd_is_call_row, F_is_call_row⟩ := c.d.def_ 11 (d := d_is_call_row) rfl
  obtain ⟨fd_is_row, F_is_row⟩ := c.d.def_ 12 (d := d_is_row) rfl
  obtain ⟨fd_fills_in, F_fills_in⟩ := c.d.def_ 13 (d := d_fills_in) rfl
  obtain ⟨fd_lots_in, F_lots_in⟩ := c.d.def_ 14 (d := d_lots_in) rfl
  obtain ⟨fd_lots_before, F_lots_before⟩ := c.d.def_ 15 (d := d_lots_before) rfl
  obtain ⟨fd_rest_of, F_rest_of⟩ := c.d.def_ 16 (d := d_rest_of) rfl
  obtain ⟨fd_is_open, F_is_open⟩ := c.d.def_ 17 (d := d_is_open) rfl
  obtain ⟨fd_is_shut, F_is_shut⟩ := c.d.def_ 18 (d := d_is_shut) rfl
  obtain ⟨fd_require, F_require⟩ := c.d.def_ 19 (d := d_require) rfl
  obtain ⟨fd_has_shape, F_has_shape⟩ := c.d.def_ 20 (d := d_has_shape) rfl
  obtain ⟨fd_is_within, F_is_within⟩ := c.d.def_ 21 (d := d_is_within) rfl
  obtain ⟨fd_check_closed, F_check_closed⟩ := c.d.def_ 22 (d := d_check_closed) rfl
  obtain ⟨fd_check_resting, F_check_resting⟩ := c.d.def_ 23 (d := d_check_resting) rfl
  obtain ⟨fd_check_own, F_check_own⟩ := c.d.def_ 24 (d := d_check_own) rfl
  obtain ⟨fd_check_print, F_check_print⟩ := c.d.def_ 25 (d := d_check_print) rfl
  obtain ⟨fd_check_call, F_check_call⟩ := c.d.def_ 26 (d := d_check_call) rfl
  obtain ⟨fd_check_row, F_check_row⟩ := c.d.def_ 27 (d := d_check_row) rfl
  obtain ⟨fd_lets_record, F_lets_record⟩ := c.d.def_ 28 (d := d_lets_record) rfl
  obtain ⟨fd_members_of, F_members_of⟩ := c.d.def_ 29 (d := d_members_of) rfl
  obtain ⟨fd_orders_of, F_orders_of⟩ := c.d.def_ 30 (d := d_orders_of) rfl
  obtain ⟨fd_require_order, F_require_order⟩ := c.d.def_ 31 (d := d_require_order) rfl
  obtain ⟨fd_is_place, F_is_place⟩ := c.d.def_ 32 (d := d_is_place) rfl
  obtain ⟨fd_require_place, F_require_place⟩ := c.d.def_ 33 (d := d_require_place) rfl
  obtain ⟨fd_order_at, F_order_at⟩ := c.d.def_ 34 (d := d_order_at) rfl
  obtain ⟨fd_rest_at, F_rest_at⟩ := c.d.def_ 35 (d := d_rest_at) rfl
  obtain ⟨fd_open_at, F_open_at⟩ := c.d.def_ 36 (d := d_open_at) rfl
  obtain ⟨fd_is_closed_at, F_is_closed_at⟩ := c.d.def_ 37 (d := d_is_closed_at) rfl
  obtain ⟨fd_traded, F_traded⟩ := c.d.def_ 38 (d := d_traded) rfl
  obtain ⟨fd__law_reader, F__law_reader⟩ := c.d.def_ 39 (d := d__law_reader) rfl
  obtain ⟨fd__law_draw, F__law_draw⟩ := c.d.def_ 40 (d := d__law_draw) rfl
  obtain ⟨fd__law_class_flags, F__law_class_flags⟩ := c.d.def_ 41 (d := d__law_class_flags) rfl
  obtain ⟨fd__law_own_flags, F__law_own_flags⟩ := c.d.def_ 42 (d := d__law_own_flags) rfl
  obtain ⟨fd__law_fields, F__law_fields⟩ := c.d.def_ 43 (d := d__law_fields) rfl
  obtain ⟨fd__law_outcome, F__law_outcome⟩ := c.d.def_ 44 (d := d__law_outcome) rfl
  obtain ⟨fd__law_fills, F__law_fills⟩ := c.d.def_ 45 (d := d__law_fills) rfl
  obtain ⟨fd__law_trades, F__law_trades⟩ := c.d.def_ 46 (d := d__law_trades) rfl
  obtain ⟨fd__law_rest, F__law_rest⟩ := c.d.def_ 47 (d := d__law_rest) rfl
  obtain ⟨fd__law_orders, F__law_orders⟩ := c.d.def_ 48 (d := d__law_orders) rfl
  obtain ⟨fd__law_open, F__law_open⟩ := c.d.def_ 49 (d := d__law_open) rfl
  obtain ⟨fd__law_is_shut, F__law_is_shut⟩ := c.d.def_ 50 (d := d__law_is_shut) rfl
  obtain ⟨fd__law_new_fills, F__law_new_fills⟩ := c.d.def_ 51 (d := d__law_new_fills) rfl
  obtain ⟨fd__law_new_row, F__law_new_row⟩ := c.d.def_ 52 (d := d__law_new_row) rfl
  obtain ⟨fd__law_random_rows, F__law_random_rows⟩ := c.d.def_ 53 (d := d__law_random_rows) rfl
  obtain ⟨fd__law_random_record, F__law_random_record⟩ := c.d.def_ 54 (d := d__law_random_record) rfl
  obtain ⟨fd__law_fixed_records, F__law_fixed_records⟩ := c.d.def_ 55 (d := d__law_fixed_records) rfl
  obtain ⟨fd__law_can_fill, F__law_can_fill⟩ := c.d.def_ 56 (d := d__law_can_fill) rfl
  obtain ⟨fd__law_can_follow, F__law_can_follow⟩ := c.d.def_ 57 (d := d__law_can_follow) rfl
  obtain ⟨fd__law_check_behind, F__law_check_behind⟩ := c.d.def_ 58 (d := d__law_check_behind) rfl
  obtain ⟨fd__law_candidates, F__law_candidates⟩ := c.d.def_ 59 (d := d__law_candidates) rfl
  obtain ⟨fd_law, F_law⟩ := c.d.def_ 60 (d := d_law) rfl
  obtain ⟨fd_Record_init, F_Record_init⟩ := c.d.def_ 61 (d := d_Record_init) rfl
  obtain ⟨fd_Record_add, F_Record_add⟩ := c.d.def_ 62 (d := d_Record_add) rfl
  have hform : ∃ fd, FunD K "form" "Record.form" (defArgs s_Record_form) (defBody s_Record_form) (defScope s_Record_form) [] [] (He5.wf K (He.ga K "Record") "property" "form") fd := by
    have e : [He5.fnA K (d_form.at_ K)] = [d_form.val] := c.a
    have k : (([d_form] : List He5.DefA).all fun d => d.ok K) = true := c.ok
    exact He5.DefA.funD (d := d_form) (List.cons.inj e).1 (List.all_eq_true.mp k d_form List.mem_cons_self)
  obtain ⟨fd_form, F_form⟩ := hform
  have bA := FunD.bindsA (ps := ["_law_script"]) F_law fun _ _ _ _ _ _ us hl => match us, hl with | [_], _ => rfl
  obtain ⟨oc, od, dV, kV, doc, pm, an, cdv, ct, osl, efd, lk, hcd, hD, hK⟩ := F_law.ex
  obtain ⟨cL, ecd⟩ := He.codeIn_ref hcd
  subst ecd
  have eC : He.codeOf K ("law", none) = cL := He.codeOf_eq lk (by rw [efd])
  have hmem : (("law", none) : Str × Option Str) ∈ kk.tf := List.mem_cons_self
  have hT := c.empty _ hmem
  have nT := c.out _ hmem
  have hH := c.hd _ hmem
  have one : ∀ {Q : Addr × Addr → Prop}, Q (He.cT K ("law", none)) → ∀ p ∈ [He.cT K ("law", none)], Q p := fun hq p hp => by
    rw [List.mem_singleton.mp hp]
    exact hq
  refine ⟨fd_law, [He.cT K ("law", none)], spLaw K (He.cT K ("law", none)).2, one hT, one nT, one (PySem.W.codeHd_of_K X hH), fun s u => bA s [u] rfl, fun H a ns hn _ hTb hS => ⟨a, ns, rfl, hS, hn, hTb _ List.mem_cons_self, fun _ => rfl⟩, fun base KB GB TB => ?_⟩
  have TB1 : TabB base mg cL (He.cT K ("law", none)).2 := by
    have z := TB _ List.mem_cons_self
    have e1 : (He.cT K ("law", none)).1 = cL := eC
    rw [e1] at z
    exact z
  have h_require := ok_require (w := w) I KB (He.glo_ok X G (c.d.fact 73 (f := .glo "InvalidPaper") rfl)) F_require (He.glo_ok X G (c.d.fact 30 (f := .glo "require") rfl))
  have h__law_draw := ok__law_draw (P := LW.prog) (w := w) (base := base) (C := cI K) bl F__law_draw (He.glo_ok X G (c.d.fact 51 (f := .glo "_law_draw") rfl))
  have h_is_integer := ok_is_integer (P := LW.prog) (w := w) (base := base) (C := cI K) bl cn  F_is_integer (He.glo_ok X G (c.d.fact 11 (f := .glo "is_integer") rfl))
  have h_is_number := ok_is_number (P := LW.prog) (w := w) (base := base) (C := cI K) bl cn h_is_integer F_is_number (He.glo_ok X G (c.d.fact 12 (f := .glo "is_number") rfl))
  have h_is_size := ok_is_size (P := LW.prog) (w := w) (base := base) (C := cI K) bl cn h_is_integer F_is_size (He.glo_ok X G (c.d.fact 13 (f := .glo "is_size") rfl))
  have h_is_name := ok_is_name (P := LW.prog) (w := w) (base := base) (C := cI K) bl cn  F_is_name (He.glo_ok X G (c.d.fact 14 (f := .glo "is_name") rfl))
  have h_is_side := ok_is_side (P := LW.prog) (w := w) (base := base) (C := cI K) bl cn  F_is_side (He.glo_ok X G (c.d.fact 15 (f := .glo "is_side") rfl))
  have h_is_rule := ok_is_rule (P := LW.prog) (w := w) (base := base) (C := cI K) bl cn  F_is_rule (He.glo_ok X G (c.d.fact 16 (f := .glo "is_rule") rfl))
  have h_is_fill := ok_is_fill (P := LW.prog) (w := w) (base := base) (C := cI K) bl cn h_is_number h_is_size F_is_fill (He.glo_ok X G (c.d.fact 17 (f := .glo "is_fill") rfl))
  have h_are_fills := ok_are_fills (P := LW.prog) (w := w) (base := base) (C := cI K) bl cn h_is_fill F_are_fills (He.glo_ok X G (c.d.fact 18 (f := .glo "are_fills") rfl))
  have h_is_pair := ok_is_pair (P := LW.prog) (w := w) (base := base) (C := cI K) bl cn h_is_number h_is_size F_is_pair (He.glo_ok X G (c.d.fact 19 (f := .glo "is_pair") rfl))
  have h_are_pairs := ok_are_pairs (P := LW.prog) (w := w) (base := base) (C := cI K) bl cn h_is_pair F_are_pairs (He.glo_ok X G (c.d.fact 20 (f := .glo "are_pairs") rfl))
  have h_is_order_row := ok_is_order_row (P := LW.prog) (w := w) (base := base) (C := cI K) bl cn h_are_fills h_is_name h_is_side h_is_size F_is_order_row (He.glo_ok X G (c.d.fact 21 (f := .glo "is_order_row") rfl))
  have h_is_call_row := ok_is_call_row (P := LW.prog) (w := w) (base := base) (C := cI K) bl cn h_are_pairs h_is_size F_is_call_row (He.glo_ok X G (c.d.fact 22 (f := .glo "is_call_row") rfl))
  have h_is_row := ok_is_row (P := LW.prog) (w := w) (base := base) (C := cI K) bl cn h_are_fills h_is_call_row h_is_number h_is_order_row F_is_row (He.glo_ok X G (c.d.fact 23 (f := .glo "is_row") rfl))
  have h_has_shape := ok_has_shape (P := LW.prog) (w := w) (base := base) (C := cI K) bl cn h_is_row h_is_rule F_has_shape (He.glo_ok X G (c.d.fact 31 (f := .glo "has_shape") rfl))
  have h_fills_in := ok_fills_in (P := LW.prog) (w := w) (base := base) (C := cI K) bl cn  F_fills_in (He.glo_ok X G (c.d.fact 24 (f := .glo "fills_in") rfl))
  have h_lots_in := ok_lots_in (P := LW.prog) (w := w) (base := base) (C := cI K) bl cn  F_lots_in (He.glo_ok X G (c.d.fact 25 (f := .glo "lots_in") rfl))
  have h_lots_before := ok_lots_before (P := LW.prog) (w := w) (base := base) (C := cI K) bl cn h_fills_in h_lots_in F_lots_before (He.glo_ok X G (c.d.fact 26 (f := .glo "lots_before") rfl))
  have h_rest_of := ok_rest_of (P := LW.prog) (w := w) (base := base) (C := cI K) bl cn h_lots_before F_rest_of (He.glo_ok X G (c.d.fact 27 (f := .glo "rest_of") rfl))
  have h_is_open := ok_is_open (P := LW.prog) (w := w) (base := base) (C := cI K) bl cn h_rest_of F_is_open (He.glo_ok X G (c.d.fact 28 (f := .glo "is_open") rfl))
  have h_is_shut := ok_is_shut (P := LW.prog) (w := w) (base := base) (C := cI K) bl cn  F_is_shut (He.glo_ok X G (c.d.fact 29 (f := .glo "is_shut") rfl))
  have h_is_within := ok_is_within (P := LW.prog) (w := w) (base := base) (C := cI K) bl cn  F_is_within (He.glo_ok X G (c.d.fact 32 (f := .glo "is_within") rfl))
  have h_check_closed := ok_check_closed (P := LW.prog) (w := w) (base := base) (C := cI K) bl cn h_fills_in h_is_shut h_require F_check_closed (He.glo_ok X G (c.d.fact 33 (f := .glo "check_closed") rfl))
  have h_check_resting := ok_check_resting (P := LW.prog) (w := w) (base := base) (C := cI K) bl cn h_fills_in h_is_open h_require F_check_resting (He.glo_ok X G (c.d.fact 34 (f := .glo "check_resting") rfl))
  have h_check_own := ok_check_own (P := LW.prog) (w := w) (base := base) (C := cI K) bl cn h_check_resting h_is_within h_require h_rest_of F_check_own (He.glo_ok X G (c.d.fact 35 (f := .glo "check_own") rfl))
  have h_check_print := ok_check_print (P := LW.prog) (w := w) (base := base) (C := cI K) bl cn h_check_resting h_require h_rest_of F_check_print (He.glo_ok X G (c.d.fact 36 (f := .glo "check_print") rfl))
  have h_check_call := ok_check_call (P := LW.prog) (w := w) (base := base) (C := cI K) bl cn h_is_open h_is_within h_require h_rest_of F_check_call (He.glo_ok X G (c.d.fact 37 (f := .glo "check_call") rfl))
  have h_check_row := ok_check_row (P := LW.prog) (w := w) (base := base) (C := cI K) bl cn h_check_call h_check_closed h_check_own h_check_print h_is_open h_require F_check_row (He.glo_ok X G (c.d.fact 38 (f := .glo "check_row") rfl))
  have h_lets_record := ok_lets_record (P := LW.prog) (w := w) (base := base) (C := cI K) bl cn h_check_row h_has_shape h_require F_lets_record (He.glo_ok X G (c.d.fact 39 (f := .glo "lets_record") rfl))
  have h_orders_of := ok_orders_of (P := LW.prog) (w := w) (base := base) (C := cI K) bl cn  F_orders_of (He.glo_ok X G (c.d.fact 41 (f := .glo "orders_of") rfl))
  have h_require_order := ok_require_order (P := LW.prog) (w := w) (base := base) (C := cI K) bl cn h_is_number h_orders_of F_require_order (He.glo_ok X G (c.d.fact 42 (f := .glo "require_order") rfl))
  have h_is_place := ok_is_place (P := LW.prog) (w := w) (base := base) (C := cI K) bl cn h_fills_in h_is_number F_is_place (He.glo_ok X G (c.d.fact 43 (f := .glo "is_place") rfl))
  have h_require_place := ok_require_place (P := LW.prog) (w := w) (base := base) (C := cI K) bl cn h_is_place F_require_place (He.glo_ok X G (c.d.fact 44 (f := .glo "require_place") rfl))
  have h_order_at := ok_order_at (P := LW.prog) (w := w) (base := base) (C := cI K) bl cn h_require_order F_order_at (He.glo_ok X G (c.d.fact 45 (f := .glo "order_at") rfl))
  have h_rest_at := ok_rest_at (P := LW.prog) (w := w) (base := base) (C := cI K) bl cn h_require_order h_require_place h_rest_of F_rest_at (He.glo_ok X G (c.d.fact 46 (f := .glo "rest_at") rfl))
  have h_open_at := ok_open_at (P := LW.prog) (w := w) (base := base) (C := cI K) bl cn h_is_open h_orders_of h_require_place F_open_at (He.glo_ok X G (c.d.fact 47 (f := .glo "open_at") rfl))
  have h_is_closed_at := ok_is_closed_at (P := LW.prog) (w := w) (base := base) (C := cI K) bl cn h_is_shut h_require_place F_is_closed_at (He.glo_ok X G (c.d.fact 48 (f := .glo "is_closed_at") rfl))
  have h_traded := ok_traded (P := LW.prog) (w := w) (base := base) (C := cI K) bl cn h_require_order h_rest_of F_traded (He.glo_ok X G (c.d.fact 49 (f := .glo "traded") rfl))
  have h_members_of := ok_members_of (P := LW.prog) (w := w) (base := base) (C := cI K) bl cn  F_members_of (He.glo_ok X G (c.d.fact 40 (f := .glo "members_of") rfl))
  have h__law_fills := ok__law_fills (P := LW.prog) (w := w) (base := base) (C := cI K) bl cn  F__law_fills (He.glo_ok X G (c.d.fact 56 (f := .glo "_law_fills") rfl))
  have h__law_trades := ok__law_trades (P := LW.prog) (w := w) (base := base) (C := cI K) bl cn h__law_fills F__law_trades (He.glo_ok X G (c.d.fact 57 (f := .glo "_law_trades") rfl))
  have h__law_rest := ok__law_rest (P := LW.prog) (w := w) (base := base) (C := cI K) bl cn h__law_trades F__law_rest (He.glo_ok X G (c.d.fact 58 (f := .glo "_law_rest") rfl))
  have h__law_orders := ok__law_orders (P := LW.prog) (w := w) (base := base) (C := cI K) bl cn  F__law_orders (He.glo_ok X G (c.d.fact 59 (f := .glo "_law_orders") rfl))
  have h__law_open := ok__law_open (P := LW.prog) (w := w) (base := base) (C := cI K) bl cn h__law_orders h__law_trades F__law_open (He.glo_ok X G (c.d.fact 60 (f := .glo "_law_open") rfl))
  have h__law_is_shut := ok__law_is_shut (P := LW.prog) (w := w) (base := base) (C := cI K) bl cn  F__law_is_shut (He.glo_ok X G (c.d.fact 61 (f := .glo "_law_is_shut") rfl))
  have h__law_new_fills := ok__law_new_fills (P := LW.prog) (w := w) (base := base) (C := cI K) bl cn h__law_draw h__law_open h__law_rest F__law_new_fills (He.glo_ok X G (c.d.fact 62 (f := .glo "_law_new_fills") rfl))
  have h__law_new_row := ok__law_new_row (P := LW.prog) (w := w) (base := base) (C := cI K) bl cn h__law_draw h__law_is_shut h__law_new_fills h__law_open h__law_rest F__law_new_row (He.glo_ok X G (c.d.fact 63 (f := .glo "_law_new_row") rfl))
  have h__law_random_rows := ok__law_random_rows (P := LW.prog) (w := w) (base := base) (C := cI K) bl cn h__law_draw h__law_new_row F__law_random_rows (He.glo_ok X G (c.d.fact 64 (f := .glo "_law_random_rows") rfl))
  have h__law_random_record := ok__law_random_record (P := LW.prog) (w := w) (base := base) (C := cI K) bl cn h__law_draw h__law_random_rows F__law_random_record (He.glo_ok X G (c.d.fact 65 (f := .glo "_law_random_record") rfl))
  have h__law_fixed_records := ok__law_fixed_records (P := LW.prog) (w := w) (base := base) (C := cI K) bl cn  F__law_fixed_records (He.glo_ok X G (c.d.fact 66 (f := .glo "_law_fixed_records") rfl))
  have h__law_candidates := ok__law_candidates (P := LW.prog) (w := w) (base := base) (C := cI K) bl cn h__law_draw h__law_new_row h_orders_of F__law_candidates (He.glo_ok X G (c.d.fact 70 (f := .glo "_law_candidates") rfl))
  have h__law_can_fill := ok__law_can_fill (P := LW.prog) (w := w) (base := base) (C := cI K) bl cn h_open_at h_order_at h_rest_at F__law_can_fill (He.glo_ok X G (c.d.fact 67 (f := .glo "_law_can_fill") rfl))
  have h__law_can_follow := ok__law_can_follow (P := LW.prog) (w := w) (base := base) (C := cI K) bl cn h__law_can_fill h__law_fills h_is_closed_at h_open_at h_order_at h_rest_at F__law_can_follow (He.glo_ok X G (c.d.fact 68 (f := .glo "_law_can_follow") rfl))
  have h__law_check_behind := ok__law_check_behind (P := LW.prog) (w := w) (base := base) (C := cI K) bl cn h__law_fills h_lets_record h_members_of h_open_at h_order_at h_orders_of h_rest_at h_traded F__law_check_behind (He.glo_ok X G (c.d.fact 69 (f := .glo "_law_check_behind") rfl))
  have b1 : ∀ {x y : Str} {q : Str} {a : Arguments} {b : List Stmt} {sc : Scope} {f : Addr} {fd : FuncData} (F : FunD K x q a b sc [] [] f fd) (hb : ∀ (kV doc pm : Value) (an : Option Addr) (cdv ct : Value) (us : List Value), us.length = ([y] : List Str).length → bindArgs (PySem.W.fnOf x q a b sc .none kV doc pm an cdv ct) ⟨us, []⟩ = pure (([y] : List Str).zip us)), Binds K fd [y] [] := fun F hb => F.bindsN hb
  have GR := ok_reader (P := LW.prog) (w := w) (base := base) bl F__law_reader
  have bR : Binds K fd__law_reader ["_law_script"] [] := F__law_reader.bindsN fun _ _ _ _ _ _ us hl => match us, hl with | [_], _ => rfl
  have FC : HasP LW.prog w K mg base "_law_class_flags" 1 ["_law_e"] (spCF K (cI K)) := ⟨_, _, ok_class_flags bl TK F__law_class_flags, He.glo_ok X G (c.d.fact 52 (f := .glo "_law_class_flags") rfl), F__law_class_flags.kp, F__law_class_flags.bindsN fun _ _ _ _ _ _ us hl => match us, hl with | [_], _ => rfl⟩
  have FO : HasP LW.prog w K mg base "_law_own_flags" 1 ["_law_number"] spOF := ⟨_, _, ok_own_flags bl F__law_own_flags, He.glo_ok X G (c.d.fact 53 (f := .glo "_law_own_flags") rfl), F__law_own_flags.kp, F__law_own_flags.bindsN fun _ _ _ _ _ _ us hl => match us, hl with | [_], _ => rfl⟩
  have FL : HasP LW.prog w K mg base "_law_fields" 1 ["_law_e", "_law_number"] (spFL K (cI K)) := ⟨_, _, ok_fields (xfC_of c) (He.noat_ok (c.d.fact 105 (f := .noat "InvalidPaper" "word") rfl)) (He.noat_ok (c.d.fact 106 (f := .noat "InvalidPaper" "at") rfl)) F__law_fields, He.glo_ok X G (c.d.fact 54 (f := .glo "_law_fields") rfl), F__law_fields.kp, F__law_fields.bindsN fun _ _ _ _ _ _ us hl => match us, hl with | [_, _], _ => rfl⟩
  have FI := ok_rec_init (P := LW.prog) (w := w) (base := base) (CI := cI K) R h_lets_record F_Record_init
  have bI : L2.Binds K fd_Record_init ["self", "rule", "rows"] [] := F_Record_init.bindsN fun _ _ _ _ _ _ us hl => match us, hl with | [_, _, _], _ => rfl
  have FA := ok_add (P := LW.prog) (w := w) (base := base) (CI := cI K) R h_lets_record F_Record_init F_Record_add
  have bA2 : L2.Binds K fd_Record_add ["self", "row"] [] := F_Record_add.bindsN fun _ _ _ _ _ _ us hl => match us, hl with | [_, _], _ => rfl
  have FF := ok_form (P := LW.prog) (w := w) (base := base) R F_form
  have bF : L2.Binds K fd_form ["self"] [] := F_form.bindsN fun _ _ _ _ _ _ us hl => match us, hl with | [_], _ => rfl
  have hex := He.exm_ok (c.d.fact 103 (f := .exm "InvalidPaper" "ShownError" true) rfl)
  subst efd
  exact ok_law bl cn lk hcd TB1 TK (He.glo_ok X G (c.d.fact 74 (f := .glo "ShownError") rfl)) hex R GR (He.glo_ok X G (c.d.fact 50 (f := .glo "_law_reader") rfl)) F__law_reader.kp bR FC FO FL FI bI FA bA2 FF bF (He.glo_ok X G (c.d.fact 55 (f := .glo "_law_outcome") rfl)) F__law_outcome h__law_fixed_records h__law_random_record h__law_candidates h__law_draw h__law_can_follow h__law_check_behind
end
end FK
set_option Elab.async false
set_option linter.all false
set_option maxRecDepth 1000000
set_option maxHeartbeats 0
/-! The theorem. -/
open PySem PySem.W PySem.Calls PyProof.Rows
theorem PySem.Challenge.cw_fairshown_k15_whole_rows_that_can_follow_holds : PySem.Challenge.rw_fairshown_k15_whole_rows_that_can_follow.Holds := by
  w_on; o_law
  refine HandSHeadRun.head_any (r := OpenLaw.row PySem.Challenge.rw_fairshown_k15_whole_rows_that_can_follow) (q := view (OpenLaw.row PySem.Challenge.rw_fairshown_k15_whole_rows_that_can_follow).prog [98]) (H := FK.hk) (ob := FK.ob) (M := 7500) (loose := FK.loose) (d := HandSHeadRun.topDef (OpenLaw.row PySem.Challenge.rw_fairshown_k15_whole_rows_that_can_follow).prog 98) (kwd := []) FK.ob_eq
    (by kernel_rfl) (fun s => by kernel_rfl) FK.run (by kernel_rfl) (by kernel_rfl) (by kernel_rfl) (by rfl) (by first | assumption | decide +kernel) (by decide +kernel) ⟨rfl, rfl, rfl, rfl, rfl, by decide +kernel⟩ ?hw ?hc
  case hw => w_witness2
  case hc =>
    refine LamX.walk_ofTsE (l := PySem.Challenge.rw_fairshown_k15_whole_rows_that_can_follow) (n := 63) (k := 14) (x := "_law_script") (CX := fun w => L2N.CX FK.LW.prog w) rfl (by decide) (by kernel_rfl) ⟨rfl, by decide, by decide⟩ ?F (fun _ _ _ _ _ z => ?X)
    case X =>
      obtain ⟨_, _, _, _, _, _, _, _, _, _, _, _, z⟩ := z
      exact z
    intro w mg fa h Y G hmg0
    obtain ⟨K, KX, c⟩ := Y
    have hmg : mg ("law" : PySem.Str) = some (.ref fa) := by
      have e : (HandSHeadRun.topDef (OpenLaw.row PySem.Challenge.rw_fairshown_k15_whole_rows_that_can_follow).prog 98).name = ("law" : PySem.Str) := by kernel_rfl
      rw [← e]
      exact hmg0
    exact ⟨K, KX, FK.law_at w KX G hmg c⟩
