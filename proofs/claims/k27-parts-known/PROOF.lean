import PyProof.Rows.All
import HandS.ForMost
import HandS.Lambda
import HandS.ExcOwn
import HandS.Zip
import HandS.NoneIn
import HandS.TupAny
import HandS.TupMul
import HandS.Deep
import HandS.IsInst
import HandS.Conv
import HandS.SortKw
import HandS.SortInts
import HandS.Iter
import KE.KTupSum
import KE.SortData
import HandS.Style
import HandS.Defaults
import HandS.WordsExc
import KE.KExcSuper
import HandS.ExcInit
import HandS.RaiseMore
import HandS.TryMany
import HandS.ExcField
import HandS.ExcIs
import HandS.EndTab
import HandS.Words
import KE.GoesMore
import PyProof.Draws
import PyProof.StrOps2
import KE.KDictZip
import HandS.SlotsOwn
import HandS.OwnEq
import PyProof.EqKinds
import KE.DatumOrd
import HandS.Codes
import HandS.TupSets
import HandS.Text
import PyProof.ListStr
import HandS.Sort
import KE.KDictDisplayH
import KE.KDictCopyH
import KE.DataMinMax
import PySem.Challenge.RW_sizerooms_k27_whole_parts_known_by_hand
set_option Elab.async false
set_option linter.all false
set_option maxRecDepth 100000
set_option maxHeartbeats 4000000
/-! EL: values as trees over the layer HandS; local lists and dicts that one slot owns; the law's pen; exceptions -/
namespace DL
open PySem PySem.Spec PyProof.Rows L2

/-- a Python value as a tree -/
inductive D where
  | non | bl (b : Bool) | int (i : Int) | str (x : Str) | lst (xs : List D) | tup (xs : List D) | ty (n : String) | obj (a : Addr)
  | dK (ks : List Key) (ds : List D) | dT (ks : List (List Key)) (ds : List D) | ins (C : Addr) (ns : List Str) (ds : List D)

mutual
/-- v stands for d in H, and leans on nothing of B -/
inductive Rep (B : Addr → Prop) (H : Hp) : V → D → Prop
  | non : Rep B H .non .non
  | bl (b : Bool) : Rep B H (.bl b) (.bl b)
  | int (i : Int) : Rep B H (.int i) (.int i)
  | str (x : Str) : Rep B H (.str x) (.str x)
  | ty (n : String) : Rep B H (.ty n) (.ty n)
  | obj (a : Addr) : Rep B H (.ref a) (.obj a)
  | lst {a : Addr} {vs : List V} {ds : List D} : ¬ B a → H a = some (.lst vs) → RepL B H vs ds → Rep B H (.ref a) (.lst ds)
  | tup {a : Addr} {vs : List V} {ds : List D} : ¬ B a → H a = some (.tup vs) → RepL B H vs ds → Rep B H (.ref a) (.tup ds)
  | dK {a : Addr} {kvs : List (Key × V)} {ks : List Key} {vs : List V} {ds : List D} : ¬ B a → H a = some (.dK kvs) → kvs = ks.zip vs → ks.length = vs.length → RepL B H vs ds → Rep B H (.ref a) (.dK ks ds)
  | dT {a : Addr} {kvs : List (List Key × V)} {ks : List (List Key)} {vs : List V} {ds : List D} : ¬ B a → Rd H a (.dT kvs) → kvs = ks.zip vs → ks.length = vs.length → RepL B H vs ds → Rep B H (.ref a) (.dT ks ds)
  | ins {a C dx : Addr} {fs : List (Str × V)} {ns : List Str} {vs : List V} {ds : List D} : ¬ B a → H a = some (.ins C dx fs) → fs = ns.zip vs → ns.length = vs.length → RepL B H vs ds → Rep B H (.ref a) (.ins C ns ds)
inductive RepL (B : Addr → Prop) (H : Hp) : List V → List D → Prop
  | nil : RepL B H [] []
  | cons {v : V} {vs : List V} {d : D} {ds : List D} : Rep B H v d → RepL B H vs ds → RepL B H (v :: vs) (d :: ds)
end

theorem rd_none {H : Hp} {a : Addr} {u : HO} (h : Rd H a u) (e : H a = none) : False := by
  rcases h with h | ⟨o, h⟩ <;> rw [e] at h <;> cases h
mutual
theorem Rep.mono {B B' : Addr → Prop} {H H' : Hp} (hp : ∀ a o, H a = some o → ¬ B a → H' a = some o) (hb : ∀ a, B' a → B a ∨ H a = none) :
    ∀ {v : V} {d : D}, Rep B H v d → Rep B' H' v d
  | _, _, .non => .non
  | _, _, .bl b => .bl b
  | _, _, .int i => .int i
  | _, _, .str x => .str x
  | _, _, .ty n => .ty n
  | _, _, .obj a => .obj a
  | _, _, .lst h1 h2 h3 => .lst (fun z => (hb _ z).elim h1 fun e => by rw [e] at h2; cases h2) (hp _ _ h2 h1) (RepL.mono hp hb h3)
  | _, _, .tup h1 h2 h3 => .tup (fun z => (hb _ z).elim h1 fun e => by rw [e] at h2; cases h2) (hp _ _ h2 h1) (RepL.mono hp hb h3)
  | _, _, .dK h1 h2 e1 e2 h3 => .dK (fun z => (hb _ z).elim h1 fun e => by rw [e] at h2; cases h2) (hp _ _ h2 h1) e1 e2 (RepL.mono hp hb h3)
  | _, _, .dT h1 h2 e1 e2 h3 => .dT (fun z => (hb _ z).elim h1 fun e => rd_none h2 e) (h2.elim (fun q => .inl (hp _ _ q h1)) fun ⟨o, q⟩ => .inr ⟨o, hp _ _ q h1⟩) e1 e2 (RepL.mono hp hb h3)
  | _, _, .ins h1 h2 e1 e2 h3 => .ins (fun z => (hb _ z).elim h1 fun e => by rw [e] at h2; cases h2) (hp _ _ h2 h1) e1 e2 (RepL.mono hp hb h3)
theorem RepL.mono {B B' : Addr → Prop} {H H' : Hp} (hp : ∀ a o, H a = some o → ¬ B a → H' a = some o) (hb : ∀ a, B' a → B a ∨ H a = none) :
    ∀ {vs : List V} {ds : List D}, RepL B H vs ds → RepL B' H' vs ds
  | _, _, .nil => .nil
  | _, _, .cons h t => .cons (Rep.mono hp hb h) (RepL.mono hp hb t)
end

section
variable {B B' : Addr → Prop} {H H' : Hp} {vs ws : List V} {ds es : List D}
theorem RepL.length : ∀ {vs : List V} {ds : List D}, RepL B H vs ds → vs.length = ds.length
  | _, _, .nil => rfl
  | _, _, .cons _ t => by rw [List.length_cons, List.length_cons, RepL.length t]
theorem RepL.append : ∀ {vs : List V} {ds : List D}, RepL B H vs ds → RepL B H ws es → RepL B H (vs ++ ws) (ds ++ es)
  | _, _, .nil, k => k
  | _, _, .cons h t, k => .cons h (RepL.append t k)
theorem RepL.get : ∀ {vs : List V} {ds : List D} {i : Nat} {d : D}, RepL B H vs ds → ds[i]? = some d → ∃ v, vs[i]? = some v ∧ Rep B H v d
  | _, _, _, _, .nil, e => by simp at e
  | _, _, 0, _, .cons h _, e => by simp at e; subst e; exact ⟨_, rfl, h⟩
  | _, _, i + 1, _, .cons _ t, e => by
    obtain ⟨v, h1, h2⟩ := RepL.get (i := i) t (by simpa using e)
    exact ⟨v, by simpa using h1, h2⟩
theorem RepL.take : ∀ {vs : List V} {ds : List D} (n : Nat), RepL B H vs ds → RepL B H (vs.take n) (ds.take n)
  | _, _, 0, _ => .nil
  | _, _, _ + 1, .nil => .nil
  | _, _, n + 1, .cons h t => .cons h (RepL.take n t)
theorem RepL.drop : ∀ {vs : List V} {ds : List D} (n : Nat), RepL B H vs ds → RepL B H (vs.drop n) (ds.drop n)
  | _, _, 0, h => h
  | _, _, _ + 1, .nil => .nil
  | _, _, n + 1, .cons _ t => RepL.drop n t
theorem RepL.reverse : ∀ {vs : List V} {ds : List D}, RepL B H vs ds → RepL B H vs.reverse ds.reverse
  | _, _, .nil => .nil
  | _, _, .cons h t => by
    rw [List.reverse_cons, List.reverse_cons]
    exact RepL.append (RepL.reverse t) (.cons h .nil)
theorem RepL.eraseIdx : ∀ {vs : List V} {ds : List D} (n : Nat), RepL B H vs ds → RepL B H (vs.eraseIdx n) (ds.eraseIdx n)
  | _, _, _, .nil => .nil
  | _, _, 0, .cons _ t => t
  | _, _, n + 1, .cons h t => .cons h (RepL.eraseIdx n t)
theorem RepL.set {x : V} {y : D} (r : Rep B H x y) : ∀ {vs : List V} {ds : List D} (n : Nat), RepL B H vs ds → RepL B H (vs.set n x) (ds.set n y)
  | _, _, _, .nil => .nil
  | _, _, 0, .cons _ t => .cons r t
  | _, _, n + 1, .cons h t => .cons h (RepL.set r n t)
theorem RepL.ints : ∀ {ns : List Int} {vs : List V}, RepL B H vs (ns.map D.int) → vs = ns.map V.int
  | [], _, .nil => rfl
  | n :: r, _, .cons h t => by cases h; rw [RepL.ints t]; rfl
theorem RepL.bls : ∀ {ns : List Bool} {vs : List V}, RepL B H vs (ns.map D.bl) → vs = ns.map V.bl
  | [], _, .nil => rfl
  | n :: r, _, .cons h t => by cases h; rw [RepL.bls t]; rfl
end

/-- all that is tracked is kept -/
def AExt (H H' : Hp) : Prop := ∀ a o, H a = some o → H' a = some o
theorem AExt.refl (H : Hp) : AExt H H := fun _ _ h => h
theorem AExt.trans {H H1 H2 : Hp} (a : AExt H H1) (b : AExt H1 H2) : AExt H H2 := fun c o h => b c o (a c o h)
theorem AExt.upd {H : Hp} {p : Addr} {o : HO} (h : H p = none) : AExt H (upd H p o) := fun b x e => by rw [upd_ne (ne_of_none e h)]; exact e
theorem Rep.ext {B : Addr → Prop} {H H' : Hp} {v : V} {d : D} (x : AExt H H') (r : Rep B H v d) : Rep B H' v d := r.mono (fun a o h _ => x a o h) fun a h => .inl h
theorem RepL.ext {B : Addr → Prop} {H H' : Hp} {v : List V} {d : List D} (x : AExt H H') (r : RepL B H v d) : RepL B H' v d := r.mono (fun a o h _ => x a o h) fun a h => .inl h
theorem fresh_not {B : Addr → Prop} {H : Hp} {p : Addr} (hb : ∀ b, B b → H b ≠ none) (h : H p = none) : ¬ B p := fun z => hb p z h

/-! ### slots -/
/-- an object that one slot owns -/
inductive OD where
  | l (ds : List D) | k (ks : List Key) (ds : List D) | t (ks : List (List Key)) (ds : List D) | i (C : Addr) (ns : List Str) (ds : List D)
def OD.toD : OD → D
  | .l ds => .lst ds
  | .k ks ds => .dK ks ds
  | .t ks ds => .dT ks ds
  | .i C ns ds => .ins C ns ds
inductive RepO (B : Addr → Prop) (H : Hp) : HO → OD → Prop
  | l {vs : List V} {ds : List D} : RepL B H vs ds → RepO B H (.lst vs) (.l ds)
  | k {ks : List Key} {vs : List V} {ds : List D} : ks.length = vs.length → RepL B H vs ds → RepO B H (.dK (ks.zip vs)) (.k ks ds)
  | t {ks : List (List Key)} {vs : List V} {ds : List D} : ks.length = vs.length → RepL B H vs ds → RepO B H (.dT (ks.zip vs)) (.t ks ds)
  | i {C dx : Addr} {ns : List Str} {vs : List V} {ds : List D} : ns.length = vs.length → RepL B H vs ds → RepO B H (.ins C dx (ns.zip vs)) (.i C ns ds)
theorem RepO.mono {B B' : Addr → Prop} {H H' : Hp} (hp : ∀ a o, H a = some o → ¬ B a → H' a = some o) (hb : ∀ a, B' a → B a ∨ H a = none) {o : HO} {d : OD} (r : RepO B H o d) : RepO B' H' o d := by
  cases r with
  | l r => exact .l (r.mono hp hb)
  | k e r => exact .k e (r.mono hp hb)
  | t e r => exact .t e (r.mono hp hb)
  | i e r => exact .i e (r.mono hp hb)
theorem RepO.ext {B : Addr → Prop} {H H' : Hp} {v : HO} {d : OD} (x : AExt H H') (r : RepO B H v d) : RepO B H' v d := r.mono (fun a o h _ => x a o h) fun a h => .inl h
theorem RepO.rep {B : Addr → Prop} {H : Hp} {a : Addr} {o : HO} {d : OD} (nb : ¬ B a) (h : H a = some o) (r : RepO B H o d) : Rep B H (.ref a) d.toD := by
  cases r with
  | l r => exact .lst nb h r
  | k e r => exact .dK nb h rfl e r
  | t e r => exact .dT nb (.inl h) rfl e r
  | i e r => exact .ins nb h rfl e r
theorem RepO.lst {B : Addr → Prop} {H : Hp} {o : HO} {ds : List D} (r : RepO B H o (.l ds)) : ∃ vs, o = .lst vs ∧ RepL B H vs ds := by
  cases r with | l r => exact ⟨_, rfl, r⟩
inductive Slot where
  | un | val (d : D) | own (o : OD)
abbrev En := List Slot
def Own (ρ : En) (σ : L2.St) (a : Addr) : Prop := ∃ (i : Nat) (o : OD), ρ[i]? = some (.own o) ∧ σ[i]? = some (some (V.ref a))
def Bn (O : Addr → Prop) (ρ : En) (σ : L2.St) (a : Addr) : Prop := O a ∨ Own ρ σ a

/-! ### the law's pen -/
/-- an exception: its class, its fields -/
structure XD where
  cls : Value
  ns : List Str
  ds : List D
/-- what a body stands in: the pen, the heap that it found, what is wanted of an exception -/
structure Pn where
  pen : Option (Addr × Addr)
  base : Hp
  xc : XD → Nat → Prop
  self : Option Addr := none
  tabs : List (Addr × Str) := []
  hb : Addr → Prop := fun _ => False
structure KP where
  pen : Option Addr
  xc : XD → Nat → Prop
  tabs : List (Addr × Str) := []
/-- the draws so far; the pen and what is wanted of an exception -/
abbrev Kt := Nat × KP
def penO (c : Addr) (i d k f : Int) : HO := .dK [(.inr "cells", .ref c), (.inr "at", .int i), (.inr "digits", .int d), (.inr "count", .int k), (.inr "fold", .int f)]
/-- the law's pen stands, and the table of code objects where lambdas are made -/
def penI (p : Pn) (k : Kt) (H : Hp) : Prop := (match p.pen with
  | none => k.2.pen = none
  | some (a, c) => k.2.pen = some a ∧ a ≠ c ∧ ∃ (ns : List Int) (i : Nat) (d f : Int), H a = some (penO c i d k.1 f) ∧ H c = some (.lst (ns.map V.int)) ∧ i ≤ ns.length ∧ 0 ≤ d ∧ 0 ≤ f ∧ f < 2147483648) ∧ k.2.tabs = p.tabs ∧ LamX.Tabs p.tabs H
def penA (p : Pn) (x : Addr) : Prop := (∃ c, p.pen = some (x, c)) ∨ ∃ q, (x, q) ∈ p.tabs
def penB (p : Pn) (x : Addr) : Prop := (∃ a c, p.pen = some (a, c) ∧ (x = a ∨ x = c)) ∨ ∃ q, (x, q) ∈ p.tabs
/-- and what they that hear keep apart -/
def penC (p : Pn) (x : Addr) : Prop := penB p x ∨ p.hb x
theorem penB.of {p : Pn} {x : Addr} (h : penA p x) : penB p x := h.elim (fun ⟨c, e⟩ => .inl ⟨x, c, e, .inl rfl⟩) .inr
theorem tabS_keep {H H' : Hp} {P : Addr} {q : Str} (t : LamX.TabS H P q) (e : H' P = H P) (co : ∀ a q, H a = some (LamX.CodeO a q) → H' a = some (LamX.CodeO a q)) : LamX.TabS H' P q := by
  obtain ⟨ps, h1, h2, h3⟩ := t
  refine ⟨ps, e.trans h1, h2, fun pos cv hc => ?_⟩
  obtain ⟨c, e1, e2⟩ := h3 pos cv hc
  exact ⟨c, e1, co _ _ e2⟩
theorem penI.keep {p : Pn} {k : Kt} {H H' : Hp} (h : penI p k H) (e : ∀ a, penB p a → H' a = H a) (co : ∀ a q, H a = some (LamX.CodeO a q) → H' a = some (LamX.CodeO a q)) : penI p k H' := by
  obtain ⟨h, kt, t⟩ := h
  refine ⟨?_, kt, fun z hz => tabS_keep (t z hz) (e z.1 (.inr ⟨z.2, hz⟩)) co⟩
  cases q : p.pen with
  | none => rw [q] at h; exact h
  | some ac =>
    obtain ⟨a, c⟩ := ac
    rw [q] at h
    obtain ⟨m, n, ns, i, d, f, h1, h2, h3⟩ := h
    exact ⟨m, n, ns, i, d, f, by rw [e a (.inl ⟨a, c, q, .inl rfl⟩)]; exact h1, by rw [e c (.inl ⟨a, c, q, .inr rfl⟩)]; exact h2, h3⟩
theorem penI.there {p : Pn} {k : Kt} {H : Hp} (h : penI p k H) {a : Addr} (ha : penB p a) : H a ≠ none := by
  obtain ⟨h, kt, t⟩ := h
  rcases ha with ⟨x, c, q, e⟩ | ⟨q, e⟩
  · rw [q] at h
    obtain ⟨_, _, ns, i, d, f, h1, h2, h3⟩ := h
    rcases e with rfl | rfl
    · rw [h1]; simp
    · rw [h2]; simp
  · obtain ⟨ps, h1, _⟩ := t (a, q) e
    rw [h1]; simp
theorem penI.nt {p : Pn} {k : Kt} {H : Hp} (h : penI p k H) {a : Addr} (ha : penB p a) : H a ≠ none ∧ ∀ vs, H a ≠ some (.tup vs) := by
  obtain ⟨h, kt, t⟩ := h
  rcases ha with ⟨x, c, q, e⟩ | ⟨q, e⟩
  · rw [q] at h
    obtain ⟨_, _, ns, i, d, f, h1, h2, h3⟩ := h
    rcases e with rfl | rfl
    · rw [h1]; exact ⟨by simp, fun vs z => by cases z⟩
    · rw [h2]; exact ⟨by simp, fun vs z => by cases z⟩
  · obtain ⟨ps, h1, _⟩ := t (a, q) e
    rw [h1]; exact ⟨by simp, fun vs z => by cases z⟩
theorem nt_kept {x : Option HO} {o : HO} (h : x ≠ none ∧ ∀ vs, x ≠ some (.tup vs)) (e : x = some o) : (some o : Option HO) ≠ none ∧ ∀ vs, (some o : Option HO) ≠ some (.tup vs) := by rw [← e]; exact h
/-- what the body found is kept -/
def Kept (p : Pn) (H : Hp) : Prop := ∀ a o, p.base a = some o → ¬ penA p a → H a = some o

/-- the slots' trees as they stand -/
structure Rel (O : Addr → Prop) (p : Pn) (ρ : En) (k : Kt) (σ : L2.St) (H : Hp) : Prop where
  len : ρ.length = σ.length
  val : ∀ (i : Nat) (d : D), ρ[i]? = some (.val d) → ∃ v, σ[i]? = some (some v) ∧ Rep (Bn O ρ σ) H v d
  own : ∀ (i : Nat) (d : OD), ρ[i]? = some (.own d) → ∃ (a : Addr) (o : HO), σ[i]? = some (some (V.ref a)) ∧ H a = some o ∧ ¬ O a ∧ RepO (Bn O ρ σ) H o d
  inj : ∀ (i j : Nat) (a : Addr) (ds es : OD), ρ[i]? = some (.own ds) → ρ[j]? = some (.own es) → σ[i]? = some (some (V.ref a)) → σ[j]? = some (some (V.ref a)) → i = j
  ot : ∀ a, O a → H a ≠ none ∧ ∀ vs, H a ≠ some (.tup vs)
  pn : penI p k H
  po : ∀ a, penC p a → O a
  kx : k.2.xc = p.xc
  bs : Kept p H
  bo : ∀ a, Own ρ σ a → p.base a = none
  sf : ∀ (i : Nat) (C : Addr) (ns : List Str) (ds : List D) (a : Addr), ρ[i]? = some (.own (.i C ns ds)) → σ[i]? = some (some (V.ref a)) → p.self = some a

/-- what a piece of code leaves: all but the pen and the owned lists; what is owned then was owned, or is new -/
structure Step (p : Pn) (ρ : En) (σ : L2.St) (H : Hp) (ρ' : En) (σ' : L2.St) (H' : Hp) : Prop where
  kp : ∀ a o, H a = some o → ¬ penA p a → ¬ Own ρ σ a → H' a = some o
  nw : ∀ a, Own ρ' σ' a → Own ρ σ a ∨ H a = none
  tr : ∀ a, H a ≠ none → H' a ≠ none

section
variable {O : Addr → Prop} {p : Pn} {ρ ρ1 ρ2 : En} {k k1 k2 : Kt} {σ σ1 σ2 : L2.St} {H H1 H2 : Hp}
theorem RepO.nt {B : Addr → Prop} {o : HO} {d : OD} (r : RepO B H o d) : ∀ vs, o ≠ .tup vs := fun vs z => by
  subst z
  cases r
theorem Rel.btn (r : Rel O p ρ k σ H) : ∀ a, Bn O ρ σ a → H a ≠ none ∧ ∀ vs, H a ≠ some (.tup vs) := fun a h => by
  rcases h with h | ⟨i, ds, h1, h2⟩
  · exact r.ot a h
  · obtain ⟨b, vs, e1, e2, _, q⟩ := r.own i ds h1
    rw [h2] at e1
    cases e1
    rw [e2]
    exact ⟨by simp, fun us z => q.nt us (Option.some.inj z)⟩
theorem Rel.bt (r : Rel O p ρ k σ H) : ∀ a, Bn O ρ σ a → H a ≠ none := fun a h => by
  rcases h with h | ⟨i, ds, h1, h2⟩
  · exact (r.ot a h).1
  · obtain ⟨b, vs, e1, e2, _⟩ := r.own i ds h1
    rw [h2] at e1
    cases e1
    rw [e2]
    simp
theorem Rel.ownL (r : Rel O p ρ k σ H) {i : Nat} {ds : List D} (h : ρ[i]? = some (.own (.l ds))) : ∃ (a : Addr) (vs : List V), σ[i]? = some (some (V.ref a)) ∧ H a = some (.lst vs) ∧ ¬ O a ∧ RepL (Bn O ρ σ) H vs ds := by
  obtain ⟨a, o, e1, e2, e3, e4⟩ := r.own i _ h
  obtain ⟨vs, rfl, q⟩ := e4.lst
  exact ⟨a, vs, e1, e2, e3, q⟩
theorem Rel.ownNot (r : Rel O p ρ k σ H) {a : Addr} (h : Own ρ σ a) : ¬ O a := by
  obtain ⟨i, ds, h1, h2⟩ := h
  obtain ⟨b, vs, e1, e2, e3, _⟩ := r.own i ds h1
  rw [h2] at e1
  cases e1
  exact e3
theorem Step.refl : Step p ρ σ H ρ σ H := ⟨fun _ _ h _ _ => h, fun _ h => .inl h, fun _ h => h⟩
theorem AExt.tr {H H' : Hp} (x : AExt H H') : ∀ a, H a ≠ none → H' a ≠ none := fun a h => by
  cases q : H a with
  | none => exact absurd q h
  | some o => rw [x a o q]; simp
theorem Step.trans (a : Step p ρ σ H ρ1 σ1 H1) (b : Step p ρ1 σ1 H1 ρ2 σ2 H2) (hp : penI p k1 H1) : Step p ρ σ H ρ2 σ2 H2 where
  kp := fun c o h n1 n2 => b.kp c o (a.kp c o h n1 n2) n1 fun z => (a.nw c z).elim n2 fun e => by rw [e] at h; cases h
  nw := fun c h => by
    rcases b.nw c h with z | z
    · exact a.nw c z
    · right
      cases q : H c with
      | none => rfl
      | some o => exact absurd z (a.tr c (by rw [q]; simp))
  tr := fun c h => b.tr c (a.tr c h)
theorem Step.ext (x : AExt H H1) : Step p ρ σ H ρ σ H1 := ⟨fun a o h _ _ => x a o h, fun _ h => .inl h, x.tr⟩
theorem Rel.kp (r : Rel O p ρ k σ H) (s : Step p ρ σ H ρ1 σ1 H1) : ∀ a o, H a = some o → ¬ Bn O ρ σ a → H1 a = some o := fun a o h n =>
  s.kp a o h (fun z => n (.inl (r.po a (.inl (penB.of z))))) fun z => n (.inr z)
theorem Rel.nb (r : Rel O p ρ k σ H) (s : Step p ρ σ H ρ1 σ1 H1) : ∀ a, Bn O ρ1 σ1 a → Bn O ρ σ a ∨ H a = none := fun a h => by
  rcases h with h | h
  · exact .inl (.inl h)
  · exact (s.nw a h).imp .inr id
theorem Rep.step (r : Rel O p ρ k σ H) (s : Step p ρ σ H ρ1 σ1 H1) {v : V} {d : D} (h : Rep (Bn O ρ σ) H v d) : Rep (Bn O ρ1 σ1) H1 v d := h.mono (r.kp s) (r.nb s)
theorem RepL.step (r : Rel O p ρ k σ H) (s : Step p ρ σ H ρ1 σ1 H1) {v : List V} {d : List D} (h : RepL (Bn O ρ σ) H v d) : RepL (Bn O ρ1 σ1) H1 v d := h.mono (r.kp s) (r.nb s)
theorem RepO.step (r : Rel O p ρ k σ H) (s : Step p ρ σ H ρ1 σ1 H1) {v : HO} {d : OD} (h : RepO (Bn O ρ σ) H v d) : RepO (Bn O ρ1 σ1) H1 v d := h.mono (r.kp s) (r.nb s)
theorem penI.ext (h : penI p k H) (x : AExt H H1) : penI p k H1 := h.keep (fun a ha => by
  cases q : H a with
  | none => exact absurd q (h.there ha)
  | some o => exact x a o q) fun a q e => x _ _ e
theorem Rel.ext (r : Rel O p ρ k σ H) (x : AExt H H1) : Rel O p ρ k σ H1 where
  len := r.len
  val := fun i d h => let ⟨v, e, q⟩ := r.val i d h; ⟨v, e, q.ext x⟩
  own := fun i ds h => let ⟨a, vs, e1, e2, e3, q⟩ := r.own i ds h; ⟨a, vs, e1, x _ _ e2, e3, q.ext x⟩
  inj := r.inj
  ot := fun a h => by
    cases q : H a with
    | none => exact absurd q (r.ot a h).1
    | some o => rw [x a o q]; exact ⟨by simp, fun vs e => (r.ot a h).2 vs (by rw [q]; exact e)⟩
  pn := r.pn.ext x
  po := r.po
  kx := r.kx
  bs := fun a o h n => x a o (r.bs a o h n)
  bo := r.bo
  sf := r.sf
/-- less is kept apart -/
theorem Rel.less {O' : Addr → Prop} (r : Rel O p ρ k σ H) (h : ∀ a, O' a → O a) (hp : ∀ a, penC p a → O' a) : Rel O' p ρ k σ H where
  len := r.len
  val := fun i d e => let ⟨v, e1, q⟩ := r.val i d e; ⟨v, e1, q.mono (fun _ _ h _ => h) fun a z => .inl (z.imp (h a) id)⟩
  own := fun i ds e => let ⟨a, vs, e1, e2, e3, q⟩ := r.own i ds e; ⟨a, vs, e1, e2, fun z => e3 (h a z), q.mono (fun _ _ h _ => h) fun a z => .inl (z.imp (h a) id)⟩
  inj := r.inj
  ot := fun a z => r.ot a (h a z)
  pn := r.pn
  po := hp
  kx := r.kx
  bs := r.bs
  bo := r.bo
  sf := r.sf
/-- a new object is kept apart -/
theorem Rel.more {L : Addr} {o : HO} (r : Rel O p ρ k σ H) (hL : H L = none) (ho : ∀ vs, o ≠ .tup vs := by intro vs z; cases z) : Rel (fun b => O b ∨ b = L) p ρ k σ (upd H L o) where
  len := r.len
  val := fun i d e => let ⟨v, e1, q⟩ := r.val i d e; ⟨v, e1, q.mono (fun a x h _ => AExt.upd hL a x h) fun a z => by
    rcases z with (z | z) | z
    · exact .inl (.inl z)
    · exact .inr (by rw [z]; exact hL)
    · exact .inl (.inr z)⟩
  own := fun i ds e => let ⟨a, vs, e1, e2, e3, q⟩ := r.own i ds e; ⟨a, vs, e1, AExt.upd hL _ _ e2, fun z => z.elim e3 (fun z => by rw [z, hL] at e2; cases e2), q.mono (fun a x h _ => AExt.upd hL a x h) fun a z => by
    rcases z with (z | z) | z
    · exact .inl (.inl z)
    · exact .inr (by rw [z]; exact hL)
    · exact .inl (.inr z)⟩
  inj := r.inj
  ot := fun a z => by
    rcases z with z | z
    · cases q : H a with
      | none => exact absurd q (r.ot a z).1
      | some x => rw [AExt.upd hL a x q]; exact ⟨by simp, fun vs e => (r.ot a z).2 vs (by rw [q]; exact e)⟩
    · rw [z, upd_same]; exact ⟨by simp, fun vs e => ho vs (Option.some.inj e)⟩
  pn := r.pn.ext (AExt.upd hL)
  po := fun a z => .inl (r.po a z)
  kx := r.kx
  bs := fun a x h n => AExt.upd hL a x (r.bs a x h n)
  bo := r.bo
  sf := r.sf
/-- an object kept apart is written -/
theorem Rel.write {L : Addr} {o : HO} (r : Rel O p ρ k σ H) (hL : O L) (hp : ¬ penB p L) (hb : p.base L = none) (hc : ∀ q, H L ≠ some (LamX.CodeO L q)) (ho : ∀ vs, o ≠ .tup vs := by intro vs z; cases z) : Rel O p ρ k σ (upd H L o) where
  len := r.len
  val := fun i d e => let ⟨v, e1, q⟩ := r.val i d e; ⟨v, e1, q.mono (fun a x h n => by rw [upd_ne (fun z => n (by rw [z]; exact .inl hL))]; exact h) fun a z => .inl z⟩
  own := fun i ds e => let ⟨a, vs, e1, e2, e3, q⟩ := r.own i ds e; ⟨a, vs, e1, by rw [upd_ne (fun z => e3 (by rw [z]; exact hL))]; exact e2, e3, q.mono (fun a x h n => by rw [upd_ne (fun z => n (by rw [z]; exact .inl hL))]; exact h) fun a z => .inl z⟩
  inj := r.inj
  ot := fun a z => by
    by_cases e : a = L
    · rw [e, upd_same]; exact ⟨by simp, fun vs e => ho vs (Option.some.inj e)⟩
    · rw [upd_ne e]; exact r.ot a z
  pn := r.pn.keep (fun a ha => upd_ne fun z => hp (by rw [← z]; exact ha)) fun a q e => by rw [upd_ne fun z => hc q (by rw [← z]; exact e)]; exact e
  po := r.po
  kx := r.kx
  bs := fun a x h n => by rw [upd_ne fun z => by rw [z, hb] at h; cases h]; exact r.bs a x h n
  bo := r.bo
  sf := r.sf
end

/-! ### results: a tree, or what a slot holds -/
inductive R where
  | val (d : D) | slot (i : Nat)
def deref (ρ : En) : R → Option D
  | .val d => some d
  | .slot i => match ρ[i]? with
    | some (.val d) => some d
    | some (.own o) => some o.toD
    | _ => none
/-- stored elsewhere: an owned list is no more owned -/
def frz (ρ : En) : R → Option (D × En)
  | .val d => some (d, ρ)
  | .slot i => match ρ[i]? with
    | some (.val d) => some (d, ρ)
    | some (.own o) => some (o.toD, ρ.set i (.val o.toD))
    | _ => none
def RRep (O : Addr → Prop) (ρ : En) (σ : L2.St) (H : Hp) (v : V) : R → Prop
  | .val d => Rep (Bn O ρ σ) H v d
  | .slot i => σ[i]? = some (some v)
/-- as Rep; a list itself may be owned -/
inductive RepS (B : Addr → Prop) (H : Hp) : V → D → Prop
  | any {v : V} {d : D} : Rep B H v d → RepS B H v d
  | own {a : Addr} {o : HO} {od : OD} {d : D} : H a = some o → RepO B H o od → od.toD = d → RepS B H (.ref a) d
inductive RepSL (B : Addr → Prop) (H : Hp) : List V → List D → Prop
  | nil : RepSL B H [] []
  | cons {v : V} {vs : List V} {d : D} {ds : List D} : RepS B H v d → RepSL B H vs ds → RepSL B H (v :: vs) (d :: ds)
theorem RepS.lst {B : Addr → Prop} {H : Hp} {v : V} {ds : List D} (h : RepS B H v (.lst ds)) : ∃ a vs, v = .ref a ∧ H a = some (.lst vs) ∧ RepL B H vs ds := by
  cases h with
  | any h => cases h with | lst h1 h2 h3 => exact ⟨_, _, rfl, h2, h3⟩
  | own h1 h2 e => cases h2 with
    | l r => cases e; exact ⟨_, _, rfl, h1, r⟩
    | k _ r => cases e
    | t _ r => cases e
    | i _ r => cases e
theorem RepS.tup {B : Addr → Prop} {H : Hp} {v : V} {ds : List D} (h : RepS B H v (.tup ds)) : ∃ a vs, v = .ref a ∧ ¬ B a ∧ H a = some (.tup vs) ∧ RepL B H vs ds := by
  cases h with
  | any h => cases h with | tup h1 h2 h3 => exact ⟨_, _, rfl, h1, h2, h3⟩
  | own h1 h2 e => cases h2 <;> cases e
theorem RepS.int {B : Addr → Prop} {H : Hp} {v : V} {i : Int} (h : RepS B H v (.int i)) : v = .int i := by
  cases h with
  | any h => cases h; rfl
  | own h1 h2 e => cases h2 <;> cases e
theorem RepS.bl {B : Addr → Prop} {H : Hp} {v : V} {i : Bool} (h : RepS B H v (.bl i)) : v = .bl i := by
  cases h with
  | any h => cases h; rfl
  | own h1 h2 e => cases h2 <;> cases e
theorem RepS.str {B : Addr → Prop} {H : Hp} {v : V} {i : Str} (h : RepS B H v (.str i)) : v = .str i := by
  cases h with
  | any h => cases h; rfl
  | own h1 h2 e => cases h2 <;> cases e
theorem RepS.non {B : Addr → Prop} {H : Hp} {v : V} (h : RepS B H v .non) : v = .non := by
  cases h with
  | any h => cases h; rfl
  | own h1 h2 e => cases h2 <;> cases e
theorem RepS.ty {B : Addr → Prop} {H : Hp} {v : V} {n : String} (h : RepS B H v (.ty n)) : v = .ty n := by
  cases h with
  | any h => cases h; rfl
  | own h1 h2 e => cases h2 <;> cases e

section
variable {O : Addr → Prop} {p : Pn} {ρ ρ1 ρ2 : En} {k k1 k2 : Kt} {σ σ1 σ2 : L2.St} {H H1 H2 : Hp} {v : V} {r : R} {d : D}
theorem deref_ok (I : Rel O p ρ k σ H) (h : RRep O ρ σ H v r) (e : deref ρ r = some d) : RepS (Bn O ρ σ) H v d := by
  cases r with
  | val x => cases e; exact .any h
  | slot i =>
    have h : σ[i]? = some (some v) := h
    unfold deref at e
    dsimp only at e
    cases q : ρ[i]? with
    | none => rw [q] at e; cases e
    | some s =>
      rw [q] at e
      cases s with
      | un => cases e
      | val x =>
        cases e
        obtain ⟨u, e1, e2⟩ := I.val i _ q
        rw [h] at e1
        cases e1
        exact .any e2
      | own ds =>
        cases e
        obtain ⟨a, vs, e1, e2, e3, e4⟩ := I.own i _ q
        rw [h] at e1
        cases e1
        exact .own e2 e4 rfl
theorem own_set_val {i : Nat} (hi : i < ρ.length) {x : D} {a : Addr} (h : Own (ρ.set i (.val x)) σ a) : ∃ j ds, j ≠ i ∧ ρ[j]? = some (.own ds) ∧ σ[j]? = some (some (V.ref a)) := by
  obtain ⟨j, ds, h1, h2⟩ := h
  by_cases e : j = i
  · subst e
    rw [List.getElem?_set_self hi] at h1
    cases h1
  · rw [List.getElem?_set_ne (Ne.symm e)] at h1
    exact ⟨j, ds, e, h1, h2⟩
theorem frz_ok (I : Rel O p ρ k σ H) (h : RRep O ρ σ H v r) (e : frz ρ r = some (d, ρ1)) : Rel O p ρ1 k σ H ∧ Step p ρ σ H ρ1 σ H ∧ Rep (Bn O ρ1 σ) H v d := by
  cases r with
  | val x => cases e; exact ⟨I, .refl, h⟩
  | slot i =>
    have h : σ[i]? = some (some v) := h
    unfold frz at e
    dsimp only at e
    cases q : ρ[i]? with
    | none => rw [q] at e; cases e
    | some s =>
      rw [q] at e
      cases s with
      | un => cases e
      | val x =>
        cases e
        obtain ⟨u, e1, e2⟩ := I.val i _ q
        rw [h] at e1
        cases e1
        exact ⟨I, .refl, e2⟩
      | own ds =>
        cases e
        obtain ⟨a, vs, e1, e2, e3, e4⟩ := I.own i _ q
        rw [h] at e1
        cases e1
        have hi : i < ρ.length := (List.getElem?_eq_some_iff.mp q).1
        have sub : ∀ b, Own (ρ.set i (.val ds.toD)) σ b → Own ρ σ b := fun b z => let ⟨j, es, _, h1, h2⟩ := own_set_val hi z; ⟨j, es, h1, h2⟩
        have nown : ¬ Own (ρ.set i (.val ds.toD)) σ a := fun z => by
          obtain ⟨j, es, hj, h1, h2⟩ := own_set_val hi z
          exact hj (I.inj j i a es ds h1 q h2 h)
        have sb : ∀ b, Bn O (ρ.set i (.val ds.toD)) σ b → Bn O ρ σ b ∨ H b = none := fun b z => .inl (z.imp id (sub b))
        have na : ¬ Bn O (ρ.set i (.val ds.toD)) σ a := fun z => z.elim e3 nown
        have main : Rep (Bn O (ρ.set i (.val ds.toD)) σ) H (.ref a) ds.toD := RepO.rep na e2 (e4.mono (fun _ _ h _ => h) sb)
        refine ⟨⟨by rw [List.length_set]; exact I.len, fun j x hj => ?_, fun j es hj => ?_, fun j l b es fs hj hl => ?_, I.ot, I.pn, I.po, I.kx, I.bs, fun b z => I.bo b (sub b z), fun j C ns es b hj hb => by
          by_cases ej : j = i
          · subst ej; rw [List.getElem?_set_self hi] at hj; cases hj
          · rw [List.getElem?_set_ne (Ne.symm ej)] at hj; exact I.sf j C ns es b hj hb⟩, ⟨fun _ _ h _ _ => h, fun b z => .inl (sub b z), fun _ h => h⟩, main⟩
        · by_cases ej : j = i
          · subst ej
            rw [List.getElem?_set_self hi] at hj
            cases hj
            exact ⟨_, h, main⟩
          · rw [List.getElem?_set_ne (Ne.symm ej)] at hj
            obtain ⟨u, e1, e5⟩ := I.val j x hj
            exact ⟨u, e1, e5.mono (fun _ _ h _ => h) sb⟩
        · by_cases ej : j = i
          · subst ej
            rw [List.getElem?_set_self hi] at hj
            cases hj
          · rw [List.getElem?_set_ne (Ne.symm ej)] at hj
            obtain ⟨b, ws, e1, e5, e6, e7⟩ := I.own j es hj
            exact ⟨b, ws, e1, e5, e6, e7.mono (fun _ _ h _ => h) sb⟩
        · have hj' : ρ[j]? = some (.own es) := by
            by_cases ej : j = i
            · subst ej; rw [List.getElem?_set_self hi] at hj; cases hj
            · rw [List.getElem?_set_ne (Ne.symm ej)] at hj; exact hj
          have hl' : ρ[l]? = some (.own fs) := by
            by_cases ej : l = i
            · subst ej; rw [List.getElem?_set_self hi] at hl; cases hl
            · rw [List.getElem?_set_ne (Ne.symm ej)] at hl; exact hl
          exact I.inj j l b es fs hj' hl'
theorem RRep.step (I : Rel O p ρ k σ H) (s : Step p ρ σ H ρ1 σ H1) (h : RRep O ρ σ H v r) : RRep O ρ1 σ H1 v r := by
  cases r with
  | val x => exact Rep.step I s h
  | slot i => exact h
end
end DL

set_option Elab.async false
set_option linter.all false
set_option maxRecDepth 100000
set_option maxHeartbeats 4000000
/-! ELb: the judgements over trees; names, constants, operators, tests, calls, displays -/
namespace DL
open PySem PySem.Spec PyProof.Rows L2

abbrev WE := En → Kt → (R → En → Kt → Prop) → Prop
abbrev WA := En → Kt → (List R → En → Kt → Prop) → Prop
abbrev WL := En → Kt → (List D → En → Kt → Prop) → Prop
abbrev WT := En → Kt → (Bool → En → Kt → Prop) → Prop
abbrev WO := En → Kt → (Option Int → En → Kt → Prop) → Prop
abbrev WG := D → En → Kt → (En → Kt → Prop) → Prop
/-- a promise of a def: arguments, draws so far, what is wanted of the answer -/
abbrev WF := List D → Kt → (D → Kt → Prop) → Prop
structure DEnds where
  nx : En → Kt → Prop
  rt : D → Kt → Prop
  bk : En → Kt → Prop := fun _ _ => False
  ct : En → Kt → Prop := fun _ _ => False
abbrev WS := DEnds → En → Kt → Prop

/-- an exception as a tree: its class, its own dict -/
def RepX (B : Addr → Prop) (H : Hp) (cls : Value) (d : Option Addr) (x : XD) : Prop := cls = x.cls ∧ (match d with
  | none => x.ns = [] ∧ x.ds = []
  | some a => ∃ vs, H a = some (.xd (x.ns.zip vs)) ∧ x.ns.length = vs.length ∧ RepL B H vs x.ds)
/-- the weakest wish that X takes -/
def WX0 (X : Cx) : WX := fun cls d σ H => ∀ u s', XE X (fun c d' σ' H' => c = cls ∧ d' = d ∧ σ' = σ ∧ H' = H) u s' → X.xe u s'
theorem takes0 {X : Cx} : Takes X (WX0 X) := fun u s' ⟨a, B, sI, pins, σ, H, cls, d, e, I, nb, up, sky, na, os, ag, w⟩ =>
  w u s' ⟨a, B, sI, pins, σ, H, cls, d, e, I, nb, up, sky, na, os, ag, rfl, rfl, rfl, rfl⟩
/-- where p stands, an exception that is wanted may leave -/
class XL (X : Cx) (p : Pn) : Prop where
  go : ∀ (x : XD) (k : Kt) (cls : Value) (d : Option Addr) (σ : L2.St) (H : Hp), penI p k H → Kept p H → RepX p.hb H cls d x → p.xc x k.1 → WX0 X cls d σ H

def DE (X : Cx) (e : Expr) (w : WE) : Prop := ∃ t : TE, PE X e t ∧ ∀ (O : Addr → Prop) (p : Pn) [XL X p] (ρ : En) (k : Kt) (σ : L2.St) (H : Hp) (Q : R → En → Kt → Prop) (J : VK), Rel O p ρ k σ H → w ρ k Q →
  (∀ v H' r ρ' k', Rel O p ρ' k' σ H' → Step p ρ σ H ρ' σ H' → RRep O ρ' σ H' v r → Q r ρ' k' → J v H') → t σ H J
abbrev RRepL (O : Addr → Prop) (ρ : En) (σ : L2.St) (H : Hp) : List V → List R → Prop := Paired (RRep O ρ σ H)
def DA (X : Cx) (es : List Expr) (w : WA) : Prop := ∃ t : TA, PA X es t ∧ ∀ (O : Addr → Prop) (p : Pn) [XL X p] (ρ : En) (k : Kt) (σ : L2.St) (H : Hp) (Q : List R → En → Kt → Prop) (J : List V → Hp → Prop), Rel O p ρ k σ H → w ρ k Q →
  (∀ vs H' rs ρ' k', Rel O p ρ' k' σ H' → Step p ρ σ H ρ' σ H' → RRepL O ρ' σ H' vs rs → Q rs ρ' k' → J vs H') → t σ H J
/-- a new list, kept apart -/
def DF (X : Cx) (e : Expr) (w : WL) : Prop := ∃ t : TE, PE X e t ∧ ∀ (O : Addr → Prop) (p : Pn) [XL X p] (ρ : En) (k : Kt) (σ : L2.St) (H : Hp) (Q : List D → En → Kt → Prop) (J : VK), Rel O p ρ k σ H → w ρ k Q →
  (∀ a vs H' zs ρ' k', Rel (fun b => O b ∨ b = a) p ρ' k' σ H' → Step p ρ σ H ρ' σ H' → H a = none → H' a = some (.lst vs) → RepL (Bn (fun b => O b ∨ b = a) ρ' σ) H' vs zs → Q zs ρ' k' → J (.ref a) H') → t σ H J
def DT (X : Cx) (e : Expr) (w : WT) : Prop := ∃ t : TT, PT X e t ∧ ∀ (O : Addr → Prop) (p : Pn) [XL X p] (ρ : En) (k : Kt) (σ : L2.St) (H : Hp) (Q : Bool → En → Kt → Prop) (J : Bool → Hp → Prop), Rel O p ρ k σ H → w ρ k Q →
  (∀ b H' ρ' k', Rel O p ρ' k' σ H' → Step p ρ σ H ρ' σ H' → Q b ρ' k' → J b H') → t σ H J
def DW (X : Cx) (e : Expr) (w : WT) : Prop := ∃ t : TT, PW X e t ∧ ∀ (O : Addr → Prop) (p : Pn) [XL X p] (ρ : En) (k : Kt) (σ : L2.St) (H : Hp) (Q : Bool → En → Kt → Prop) (J : Bool → Hp → Prop), Rel O p ρ k σ H → w ρ k Q →
  (∀ b H' ρ' k', Rel O p ρ' k' σ H' → Step p ρ σ H ρ' σ H' → Q b ρ' k' → J b H') → t σ H J
def DTs (X : Cx) (es : List Expr) (w : WT) : Prop := ∃ t : TT, PTs X es t ∧ ∀ (O : Addr → Prop) (p : Pn) [XL X p] (ρ : En) (k : Kt) (σ : L2.St) (H : Hp) (Q : Bool → En → Kt → Prop) (J : Bool → Hp → Prop), Rel O p ρ k σ H → w ρ k Q →
  (∀ b H' ρ' k', Rel O p ρ' k' σ H' → Step p ρ σ H ρ' σ H' → Q b ρ' k' → J b H') → t σ H J
def DO (X : Cx) (e : Option Expr) (w : WO) : Prop := ∃ t : TO, PO X e t ∧ ∀ (O : Addr → Prop) (p : Pn) [XL X p] (ρ : En) (k : Kt) (σ : L2.St) (H : Hp) (Q : Option Int → En → Kt → Prop) (J : Option Int → Hp → Prop), Rel O p ρ k σ H → w ρ k Q →
  (∀ b H' ρ' k', Rel O p ρ' k' σ H' → Step p ρ σ H ρ' σ H' → Q b ρ' k' → J b H') → t σ H J
/-- the items that are walked -/
def ItOk (B : Addr → Prop) (J : It) (ds : List D) (H1 : Hp) : Prop := ∀ (B' : Addr → Prop) (H' : Hp), (∀ a o, H1 a = some o → ¬ B a → H' a = some o) → (∀ a, B' a → B a ∨ H1 a = none) → (∀ a, B' a → H' a ≠ none ∧ ∀ vs, H' a ≠ some (.tup vs)) →
  (∀ i, i < ds.length → J.go i H') ∧ (∀ i x H'' d, ds[i]? = some d → J.yld i H' x H'' → AExt H' H'' ∧ Rep B' H'' x d) ∧ (∀ i, ds.length ≤ i → J.stop i H')
def DI (X : Cx) (tg it : Expr) (w : WL) : Prop := ∃ wi : TI, PI X tg it wi ∧ ∀ (O : Addr → Prop) (p : Pn) [XL X p] (ρ : En) (k : Kt) (σ : L2.St) (H : Hp) (Q : List D → En → Kt → Prop) (R' : It → Hp → Prop), Rel O p ρ k σ H → w ρ k Q →
  (∀ J H1 ds ρ1 k1, Rel O p ρ1 k1 σ H1 → Step p ρ σ H ρ1 σ H1 → ItOk (Bn O ρ1 σ) J ds H1 → Q ds ρ1 k1 → R' J H1) → wi σ H R'
/-- a target; the slots that it stores -/
def DG (X : Cx) (tg : Expr) (is : List Nat) (w : WG) : Prop := ∃ g : TG, PG X tg g ∧ ∀ (O : Addr → Prop) (p : Pn) [XL X p] (ρ : En) (k : Kt) (σ : L2.St) (H : Hp) (v : V) (d : D) (Q : En → Kt → Prop) (J : L2.St → Hp → Prop), Rel O p ρ k σ H → Rep (Bn O ρ σ) H v d → w d ρ k Q →
  (∀ σ' H' ρ' k', Rel O p ρ' k' σ' H' → Step p ρ σ H ρ' σ' H' → (∀ i, i ∉ is → σ'[i]? = σ[i]?) → σ'.length = σ.length → Q ρ' k' → J σ' H') → g v σ H J
/-- the ends of the layer below do for the ends here -/
structure EndsOk (O : Addr → Prop) (p : Pn) (ρ : En) (σ : L2.St) (H : Hp) (E : DEnds) (F : L2.Ends) : Prop where
  nx : ∀ ρ' k' σ' H', Rel O p ρ' k' σ' H' → Step p ρ σ H ρ' σ' H' → E.nx ρ' k' → F.nx σ' H'
  rt : ∀ v H' d k', (∀ a o, H a = some o → ¬ penA p a → ¬ Own ρ σ a → H' a = some o) → penI p k' H' → k'.2.xc = p.xc → Rep O H' v d → E.rt d k' → F.rt v H'
  bk : ∀ ρ' k' σ' H', Rel O p ρ' k' σ' H' → Step p ρ σ H ρ' σ' H' → E.bk ρ' k' → F.bk σ' H'
  ct : ∀ ρ' k' σ' H', Rel O p ρ' k' σ' H' → Step p ρ σ H ρ' σ' H' → E.ct ρ' k' → F.ct σ' H'
def DS (X : Cx) (st : Stmt) (w : WS) : Prop := ∃ t : TS, PS X st t ∧ ∀ (O : Addr → Prop) (p : Pn) [XL X p] (ρ : En) (k : Kt) (σ : L2.St) (H : Hp) (E : DEnds) (F : L2.Ends), Rel O p ρ k σ H → w E ρ k → EndsOk O p ρ σ H E F → t F σ H
def DSs (X : Cx) (st : List Stmt) (w : WS) : Prop := ∃ t : TS, PSs X st t ∧ ∀ (O : Addr → Prop) (p : Pn) [XL X p] (ρ : En) (k : Kt) (σ : L2.St) (H : Hp) (E : DEnds) (F : L2.Ends), Rel O p ρ k σ H → w E ρ k → EndsOk O p ρ σ H E F → t F σ H

section
variable {X : Cx} {pos : Pos}
/-! ### names, constants -/
def wVar (i : Nat) : WE := fun ρ k Q => match ρ[i]? with
  | some (.val d) => Q (.val d) ρ k
  | some (.own _) => Q (.slot i) ρ k
  | _ => False
theorem de_var (i : Nat) {x : Str} {pos : Pos} (hN : X.N[i]? = some x := by rfl) (hv : Vis X.env.scope x := by first | exact Or.inl rfl | exact Or.inr (Or.inl rfl) | exact Or.inr (Or.inr rfl)) (hd : (x == ("__debug__" : Str)) = false := by decide)
    (hcd : (x == ("__classdict__" : Str)) = false := by decide) : DE X (.Name x pos) (wVar i) := by
  refine ⟨_, pe_var (i := i) hN hv hd hcd, fun O p _ ρ k σ H Q J I h f => ?_⟩
  unfold wVar at h
  cases q : ρ[i]? with
  | none => rw [q] at h; exact h.elim
  | some s =>
    rw [q] at h
    cases s with
    | un => exact h.elim
    | val d =>
      obtain ⟨v, e, r⟩ := I.val i d q
      exact ⟨v, e, f v H (.val d) ρ k I .refl r h⟩
    | own ds =>
      obtain ⟨a, vs, e, _⟩ := I.own i ds q
      exact ⟨_, e, f _ H (.slot i) ρ k I .refl e h⟩
def wC (d : D) : WE := fun ρ k Q => Q (.val d) ρ k
theorem de_const {e : Expr} {v : V} {d : D} (h : PE X e (tC v)) (r : ∀ B H, Rep B H v d) : DE X e (wC d) := ⟨_, h, fun _ _ _ ρ k _ H _ _ I h f => f _ H (.val d) ρ k I .refl (r _ _) h⟩
theorem de_int {i : Int} {j pos} : DE X (.Constant (.int i) j pos) (wC (.int i)) := de_const pe_int fun _ _ => Rep.int i
theorem de_bl {b : Bool} {j pos} : DE X (.Constant (.bool b) j pos) (wC (.bl b)) := de_const pe_bl fun _ _ => Rep.bl b
theorem de_non {j pos} : DE X (.Constant .none j pos) (wC .non) := de_const pe_non fun _ _ => Rep.non
theorem de_str {x : Str} {j pos} : DE X (.Constant (.str x) j pos) (wC (.str x)) := de_const pe_str fun _ _ => Rep.str x
theorem de_globI {x : Str} {i : Int} {pos} {u : Value} (hg : Gl X x) (hm : X.mg x = some u) (r : RelV (.int i) u) (hd : (x == ("__debug__" : Str)) = false := by decide) : DE X (.Name x pos) (wC (.int i)) := de_const (pe_glob hg hm r hd) fun _ _ => Rep.int i
/-- a built-in type as a value -/
theorem de_ty {x : Str} {n : String} {pos} (hg : Gl X x) (hm : X.mg x = none) (hv : bootBuiltins x = some (.type n)) (hn : x ≠ "__name__" := by decide) (hd : (x == ("__debug__" : Str)) = false := by decide) : DE X (.Name x pos) (wC (.ty n)) :=
  de_const (pe_bltn (v := .ty n) hg hm hv rfl hn hd) fun _ _ => Rep.ty n

/-! ### lists of expressions -/
def wNil : WA := fun ρ k Q => Q [] ρ k
def wCons (a : WE) (b : WA) : WA := fun ρ k Q => a ρ k fun x ρ1 k1 => b ρ1 k1 fun xs ρ2 k2 => Q (x :: xs) ρ2 k2
theorem da_nil : DA X [] wNil := ⟨_, pa_nil, fun _ _ _ ρ k _ H _ _ I h f => f [] H [] ρ k I .refl .nil h⟩
theorem da_cons {e : Expr} {es : List Expr} {a : WE} {b : WA} (ha : DE X e a) (hb : DA X es b) (hs : starEach (e :: es) X.env = (false, eval e X.env) :: starEach es X.env := by rfl) : DA X (e :: es) (wCons a b) := by
  obtain ⟨ta, pa, ra⟩ := ha
  obtain ⟨tb, pb, rb⟩ := hb
  refine ⟨_, pa_cons pa pb hs, fun O p _ ρ k σ H Q J I h f => ?_⟩
  refine ra O p ρ k σ H _ _ I h fun v H1 r ρ1 k1 I1 s1 q1 h1 => ?_
  refine rb O p ρ1 k1 σ H1 _ _ I1 h1 fun vs H2 rs ρ2 k2 I2 s2 q2 h2 => ?_
  exact f _ H2 _ ρ2 k2 I2 (s1.trans s2 I1.pn) (.cons (RRep.step I1 s2 q1) q2) h2
def derefL (ρ : En) : List R → Option (List D)
  | [] => some []
  | r :: rs => match deref ρ r, derefL ρ rs with
    | some d, some ds => some (d :: ds)
    | _, _ => none
def frzL (ρ : En) : List R → Option (List D × En)
  | [] => some ([], ρ)
  | r :: rs => match frz ρ r with
    | some (d, ρ1) => match frzL ρ1 rs with
      | some (ds, ρ2) => some (d :: ds, ρ2)
      | none => none
    | none => none
variable {O : Addr → Prop} {p : Pn} {ρ ρ1 : En} {k : Kt} {σ : L2.St} {H : Hp}
theorem derefL_ok (I : Rel O p ρ k σ H) : ∀ {vs : List V} {rs : List R} {ds : List D}, RRepL O ρ σ H vs rs → derefL ρ rs = some ds → RepSL (Bn O ρ σ) H vs ds
  | _, _, _, .nil, e => by cases e; exact .nil
  | _, r :: rs, ds, .cons h t, e => by
    unfold derefL at e
    cases q1 : deref ρ r with
    | none => rw [q1] at e; cases e
    | some d =>
      cases q2 : derefL ρ rs with
      | none => rw [q1, q2] at e; cases e
      | some es =>
        rw [q1, q2] at e
        cases e
        exact .cons (deref_ok I h q1) (derefL_ok I t q2)
theorem RRepL.step {p : Pn} {k : Kt} {σ : L2.St} {H H1 : Hp} {ρ ρ1 : En} (I : Rel O p ρ k σ H) (s : Step p ρ σ H ρ1 σ H1) : ∀ {vs : List V} {rs : List R}, RRepL O ρ σ H vs rs → RRepL O ρ1 σ H1 vs rs
  | _, _, .nil => .nil
  | _, _, .cons h t => .cons (RRep.step I s h) (RRepL.step I s t)
theorem frzL_ok : ∀ {rs : List R} {vs : List V} {ds : List D} {ρ ρ1 : En}, Rel O p ρ k σ H → RRepL O ρ σ H vs rs → frzL ρ rs = some (ds, ρ1) → Rel O p ρ1 k σ H ∧ Step p ρ σ H ρ1 σ H ∧ RepL (Bn O ρ1 σ) H vs ds
  | [], _, _, _, _, I, .nil, e => by cases e; exact ⟨I, .refl, .nil⟩
  | r :: rs, _, ds, ρ, ρ1, I, .cons h t, e => by
    unfold frzL at e
    cases q1 : frz ρ r with
    | none => rw [q1] at e; cases e
    | some dρ =>
      obtain ⟨d, ρ2⟩ := dρ
      rw [q1] at e
      dsimp only at e
      obtain ⟨I2, s2, r2⟩ := frz_ok I h q1
      cases q2 : frzL ρ2 rs with
      | none => rw [q2] at e; cases e
      | some dsρ =>
        obtain ⟨es, ρ3⟩ := dsρ
        rw [q2] at e
        cases e
        obtain ⟨I3, s3, r3⟩ := frzL_ok I2 (RRepL.step I s2 t) q2
        exact ⟨I3, s2.trans s3 I2.pn, .cons (Rep.step I2 s3 r2) r3⟩

theorem Step.new {p : Pn} {ρ ρ1 : En} {σ σ1 : L2.St} {H H1 : Hp} {a : Addr} (s : Step p ρ σ H ρ1 σ1 H1) (h : H1 a = none) : H a = none := by
  cases q : H a with
  | none => rfl
  | some o => exact absurd h (s.tr a (by rw [q]; simp))
/-! ### operators by trees -/
abbrev F1 := D → (D → Prop) → Prop
abbrev F2 := D → D → (D → Prop) → Prop
abbrev FN := List D → (D → Prop) → Prop
abbrev FL := List D → (List D → Prop) → Prop
def Real1 (r : V → Hp → VK → Prop) (f : F1) : Prop := ∀ (B : Addr → Prop) (H : Hp) (x : V) (d : D) (P : D → Prop) (J : VK), (∀ b, B b → H b ≠ none) → RepS B H x d → f d P → (∀ v H' z, AExt H H' → Rep B H' v z → P z → J v H') → r x H J
def Real2 (r : R2) (f : F2) : Prop := ∀ (B : Addr → Prop) (H : Hp) (x y : V) (d e : D) (P : D → Prop) (J : VK), (∀ b, B b → H b ≠ none) → RepS B H x d → RepS B H y e → f d e P → (∀ v H' z, AExt H H' → Rep B H' v z → P z → J v H') → r x y H J
def RealN (r : List V → Hp → VK → Prop) (f : FN) : Prop := ∀ (B : Addr → Prop) (H : Hp) (xs : List V) (ds : List D) (P : D → Prop) (J : VK), (∀ b, B b → H b ≠ none) → RepSL B H xs ds → f ds P → (∀ v H' z, AExt H H' → Rep B H' v z → P z → J v H') → r xs H J
/-- the answer is a new list -/
def RealF (r : List V → Hp → VK → Prop) (f : FL) : Prop := ∀ (B : Addr → Prop) (H : Hp) (xs : List V) (ds : List D) (P : List D → Prop) (J : VK), (∀ b, B b → H b ≠ none) → RepSL B H xs ds → f ds P →
  (∀ q vs zs, H q = none → RepL B H vs zs → P zs → J (.ref q) (upd H q (.lst vs))) → r xs H J
theorem RealF.n {r : List V → Hp → VK → Prop} {f : FL} (h : RealF r f) : RealN r fun ds P => f ds fun zs => P (.lst zs) := fun B H xs ds P J hb hr hf g =>
  h B H xs ds _ J hb hr hf fun q vs zs hq hr hz => g _ _ _ (AExt.upd hq) (.lst (fresh_not hb hq) upd_same (hr.ext (AExt.upd hq))) hz
def wOp (f : F2) (a b : WE) : WE := fun ρ k Q => a ρ k fun x ρ1 k1 => b ρ1 k1 fun y ρ2 k2 => ∃ d e, deref ρ2 x = some d ∧ deref ρ2 y = some e ∧ f d e fun z => Q (.val z) ρ2 k2
theorem de_opCore {a b e : Expr} {r : R2} {f : F2} {wa wb : WE} (hr : Real2 r f) (pe : ∀ {ta tb : TE}, PE X a ta → PE X b tb → PE X e (tOp r ta tb)) (ha : DE X a wa) (hb : DE X b wb) : DE X e (wOp f wa wb) := by
  obtain ⟨ta, pa, ra⟩ := ha
  obtain ⟨tb, pb, rb⟩ := hb
  refine ⟨_, pe pa pb, fun O p _ ρ k σ H Q J I h g => ?_⟩
  refine ra O p ρ k σ H _ _ I h fun v H1 x ρ1 k1 I1 s1 q1 h1 => ?_
  refine rb O p ρ1 k1 σ H1 _ _ I1 h1 fun u H2 y ρ2 k2 I2 s2 q2 h2 => ?_
  obtain ⟨d, e, e1, e2, h2⟩ := h2
  refine hr (Bn O ρ2 σ) H2 v u d e _ _ I2.bt (deref_ok I2 (RRep.step I1 s2 q1) e1) (deref_ok I2 q2 e2) h2 fun w H3 z x3 r3 h3 => ?_
  exact g w H3 (.val z) ρ2 k2 (I2.ext x3) ((s1.trans s2 I1.pn).trans (.ext x3) I2.pn) r3 h3
theorem de_op {a b : Expr} {op : Operator} {r : R2} {f : F2} {wa wb : WE} (ho : OpR X (binaryOp op) r) (hr : Real2 r f) (ha : DE X a wa) (hb : DE X b wb) : DE X (.BinOp a op b pos) (wOp f wa wb) := de_opCore hr (fun pa pb => pe_op ho pa pb) ha hb
theorem de_cmp {a b : Expr} {op : CmpOp} {r : R2} {f : F2} {wa wb : WE} (ho : OpR X (compareOp op) r) (hr : Real2 r f) (ha : DE X a wa) (hb : DE X b wb) (hm : behindInMarks op b = false) : DE X (.Compare a [op] [b] pos) (wOp f wa wb) := de_opCore hr (fun pa pb => pe_cmpR ho pa pb hm) ha hb
def wUn (f : F1) (a : WE) : WE := fun ρ k Q => a ρ k fun x ρ1 k1 => ∃ d, deref ρ1 x = some d ∧ f d fun z => Q (.val z) ρ1 k1
theorem de_un {a : Expr} {op : UnaryOp} {r : V → Hp → VK → Prop} {f : F1} {wa : WE} (ho : UnR X (unaryOp op) r) (hr : Real1 r f) (ha : DE X a wa) : DE X (.UnaryOp op a pos) (wUn f wa) := by
  obtain ⟨ta, pa, ra⟩ := ha
  refine ⟨_, pe_un ho pa, fun O p _ ρ k σ H Q J I h g => ?_⟩
  refine ra O p ρ k σ H _ _ I h fun v H1 x ρ1 k1 I1 s1 q1 h1 => ?_
  obtain ⟨d, e1, h1⟩ := h1
  refine hr (Bn O ρ1 σ) H1 v d _ _ I1.bt (deref_ok I1 q1 e1) h1 fun w H3 z x3 r3 h3 => ?_
  exact g w H3 (.val z) ρ1 k1 (I1.ext x3) (s1.trans (.ext x3) I1.pn) r3 h3
/-- x[i] -/
theorem de_ix {a b : Expr} {r : R2} {f : F2} {wa wb : WE} (ho : IxR X r) (hr : Real2 r f) (ha : DE X a wa) (hb : DE X b wb) (hs : PlainIx b := by exact fun _ _ => rfl) : DE X (.Subscript a b pos) (wOp f wa wb) := de_opCore hr (fun pa pb => pe_ix ho pa pb hs) ha hb
/-! ### tests -/
def wTest (a : WE) : WT := fun ρ k Q => a ρ k fun x ρ1 k1 => ∃ b, deref ρ1 x = some (.bl b) ∧ Q b ρ1 k1
theorem dt_of {e : Expr} {w : WE} (h : DE X e w) (pt : ∀ {t : TE}, PE X e t → PT X e (tB t)) : DT X e (wTest w) := by
  obtain ⟨t, pe, rr⟩ := h
  refine ⟨_, pt pe, fun O p _ ρ k σ H Q J I h g => ?_⟩
  refine rr O p ρ k σ H _ _ I h fun v H1 x ρ1 k1 I1 s1 q1 h1 => ?_
  obtain ⟨b, e1, h1⟩ := h1
  have e2 := (deref_ok I1 q1 e1).bl
  exact ⟨b, e2, g b H1 ρ1 k1 I1 s1 h1⟩
theorem dt_cmp {a b : Expr} {op : CmpOp} {r : R2} {f : F2} {wa wb : WE} (ho : OpR X (compareOp op) r) (hr : Real2 r f) (ha : DE X a wa) (hb : DE X b wb) (hm : behindInMarks op b = false) : DT X (.Compare a [op] [b] pos) (wTest (wOp f wa wb)) := by
  obtain ⟨ta, pa, ra⟩ := ha
  obtain ⟨tb, pb, rb⟩ := hb
  refine ⟨_, pt_cmpR ho pa pb hm, fun O p _ ρ k σ H Q J I h g => ?_⟩
  refine ra O p ρ k σ H _ _ I h fun v H1 x ρ1 k1 I1 s1 q1 h1 => ?_
  refine rb O p ρ1 k1 σ H1 _ _ I1 h1 fun u H2 y ρ2 k2 I2 s2 q2 h2 => ?_
  obtain ⟨d, e, e1, e2, h2⟩ := h2
  refine hr (Bn O ρ2 σ) H2 v u d e _ _ I2.bt (deref_ok I2 (RRep.step I1 s2 q1) e1) (deref_ok I2 q2 e2) h2 fun w H3 z x3 r3 h3 => ?_
  obtain ⟨c, e3, h3⟩ := h3
  cases e3
  cases r3
  exact ⟨c, rfl, g c H3 ρ2 k2 (I2.ext x3) ((s1.trans s2 I1.pn).trans (.ext x3) I2.pn) h3⟩
/-- a < b < c -/
def wChain (f f' : F2) (a b c : WE) : WE := fun ρ k Q => a ρ k fun x ρ1 k1 => b ρ1 k1 fun y ρ2 k2 => ∃ d e, deref ρ2 x = some d ∧ deref ρ2 y = some e ∧ f d e fun z => ∃ t, z = .bl t ∧
  if t = true then c ρ2 k2 fun u ρ3 k3 => ∃ e' g, deref ρ3 y = some e' ∧ deref ρ3 u = some g ∧ f' e' g fun z' => Q (.val z') ρ3 k3 else Q (.val (.bl false)) ρ2 k2
theorem chainCore {a b c : Expr} {r r' : R2} {f f' : F2} {wa wb wc : WE} (hr : Real2 r f) (hr' : Real2 r' f') (ha : DE X a wa) (hb : DE X b wb) (hc : DE X c wc) :
    ∃ ta tb tc, PE X a ta ∧ PE X b tb ∧ PE X c tc ∧ ∀ (O : Addr → Prop) (p : Pn) [XL X p] (ρ : En) (k : Kt) (σ : L2.St) (H : Hp) (Q : R → En → Kt → Prop) (J : VK), Rel O p ρ k σ H → wChain f f' wa wb wc ρ k Q →
      (∀ v H' r ρ' k', Rel O p ρ' k' σ H' → Step p ρ σ H ρ' σ H' → RRep O ρ' σ H' v r → Q r ρ' k' → J v H') → tChain r r' ta tb tc σ H J := by
  obtain ⟨ta, pa, ra⟩ := ha
  obtain ⟨tb, pb, rb⟩ := hb
  obtain ⟨tc, pc, rc⟩ := hc
  refine ⟨ta, tb, tc, pa, pb, pc, fun O p _ ρ k σ H Q J I h g => ?_⟩
  refine ra O p ρ k σ H _ _ I h fun v H1 x ρ1 k1 I1 s1 q1 h1 => ?_
  refine rb O p ρ1 k1 σ H1 _ _ I1 h1 fun u H2 y ρ2 k2 I2 s2 q2 h2 => ?_
  obtain ⟨d, e, e1, e2, h2⟩ := h2
  refine hr (Bn O ρ2 σ) H2 v u d e _ _ I2.bt (deref_ok I2 (RRep.step I1 s2 q1) e1) (deref_ok I2 q2 e2) h2 fun w H3 z x3 r3 h3 => ?_
  obtain ⟨t, e3, h3⟩ := h3
  cases e3
  cases r3
  have I3 := I2.ext x3
  have s3 : Step p ρ σ H ρ2 σ H3 := (s1.trans s2 I1.pn).trans (.ext x3) I2.pn
  refine ⟨t, rfl, ?_⟩
  cases t with
  | false =>
    rw [if_neg Bool.false_ne_true] at h3 ⊢
    exact g _ H3 (.val (.bl false)) ρ2 k2 I3 s3 (.bl false) h3
  | true =>
    rw [if_pos rfl] at h3 ⊢
    refine rc O p ρ2 k2 σ H3 _ _ I3 h3 fun w' H4 u' ρ3 k3 I4 s4 q4 h4 => ?_
    obtain ⟨e', g', e4, e5, h4⟩ := h4
    have q2' : RRep O ρ3 σ H4 u y := RRep.step I3 s4 (RRep.step I2 (.ext x3) q2)
    refine hr' (Bn O ρ3 σ) H4 u w' e' g' _ _ I4.bt (deref_ok I4 q2' e4) (deref_ok I4 q4 e5) h4 fun w2 H5 z' x5 r5 h5 => ?_
    exact g w2 H5 (.val z') ρ3 k3 (I4.ext x5) ((s3.trans s4 I3.pn).trans (.ext x5) I4.pn) r5 h5
theorem de_chain {a b c : Expr} {op op' : CmpOp} {r r' : R2} {f f' : F2} {wa wb wc : WE} (ho : OpR X (compareOp op) r) (ho' : OpR X (compareOp op') r') (hr : Real2 r f) (hr' : Real2 r' f') (ha : DE X a wa) (hb : DE X b wb) (hc : DE X c wc)
    (hm : lastMarks [op, op'] [b, c] = false := by with_unfolding_all rfl) : DE X (.Compare a [op, op'] [b, c] pos) (wChain f f' wa wb wc) := by
  obtain ⟨ta, tb, tc, pa, pb, pc, main⟩ := chainCore hr hr' ha hb hc
  exact ⟨_, pe_chain ho ho' pa pb pc hm, main⟩
theorem dt_chain {a b c : Expr} {op op' : CmpOp} {r r' : R2} {f f' : F2} {wa wb wc : WE} (ho : OpR X (compareOp op) r) (ho' : OpR X (compareOp op') r') (hr : Real2 r f) (hr' : Real2 r' f') (ha : DE X a wa) (hb : DE X b wb) (hc : DE X c wc)
    (hm : lastMarks [op, op'] [b, c] = false := by with_unfolding_all rfl) : DT X (.Compare a [op, op'] [b, c] pos) (wTest (wChain f f' wa wb wc)) := by
  obtain ⟨ta, tb, tc, pa, pb, pc, main⟩ := chainCore hr hr' ha hb hc
  refine ⟨_, pt_chain ho ho' pa pb pc hm, fun O p _ ρ k σ H Q J I h g => ?_⟩
  refine main O p ρ k σ H _ _ I h fun v H1 x ρ1 k1 I1 s1 q1 h1 => ?_
  obtain ⟨b, e1, h1⟩ := h1
  exact ⟨b, (deref_ok I1 q1 e1).bl, g b H1 ρ1 k1 I1 s1 h1⟩
/-- truth of any value -/
def truD : D → Option Bool
  | .non => some false
  | .bl b => some b
  | .int i => some (i != 0)
  | .str y => if y.length ≤ sizeLine then some ((y.length : Int) != 0) else none
  | .lst xs => some (!xs.isEmpty)
  | .tup xs => some (!xs.isEmpty)
  | _ => none
theorem truD_ok {K : PySem.W.Frag} {B : Addr → Prop} {H : Hp} {v : V} {d : D} {b : Bool} (h : RepS B H v d) (e : truD d = some b) : TruV K v H b := by
  have emp : ∀ {vs : List V} {ds : List D}, RepL B H vs ds → (!ds.isEmpty) = !vs.isEmpty := fun r => by cases r <;> rfl
  cases d with
  | non => cases h.non; cases e; rfl
  | bl b => cases h.bl; cases e; rfl
  | int i => cases h.int; cases e; rfl
  | str y =>
    cases h.str
    unfold truD at e
    dsimp only at e
    split at e
    · cases e; exact ⟨by assumption, rfl⟩
    · cases e
  | lst xs =>
    obtain ⟨a, vs, rfl, h1, h2⟩ := h.lst
    cases e
    exact .inl ⟨vs, SqL.of h1, emp h2⟩
  | tup xs =>
    obtain ⟨a, vs, rfl, _, h1, h2⟩ := h.tup
    cases e
    exact .inr (.inl ⟨vs, SqT.of h1, emp h2⟩)
  | ty n => cases e
  | dK ks ds => cases e
  | dT ks ds => cases e
  | ins C ns ds => cases e
  | obj a => cases e
def wTru (a : WE) : WT := fun ρ k Q => a ρ k fun x ρ1 k1 => ∃ d b, deref ρ1 x = some d ∧ truD d = some b ∧ Q b ρ1 k1
theorem dt_tru {e : Expr} {w : WE} (h : DE X e w) (he : ∀ whole, isTrue e X.env whole = (do let v ← whole; standAt e.pos; holding [v] (truthy v)) := by intro _; rfl) : DT X e (wTru w) := by
  obtain ⟨t, pe, rr⟩ := h
  refine ⟨_, pt_truth pe he, fun O p _ ρ k σ H Q J I h g => ?_⟩
  refine rr O p ρ k σ H _ _ I h fun v H1 x ρ1 k1 I1 s1 q1 h1 => ?_
  obtain ⟨d, b, e1, e2, h1⟩ := h1
  exact ⟨b, truD_ok (deref_ok I1 q1 e1) e2, g b H1 ρ1 k1 I1 s1 h1⟩
def wNotT (a : WT) : WT := fun ρ k Q => a ρ k fun b ρ1 k1 => Q (!b) ρ1 k1
theorem dt_not {e : Expr} {w : WT} (h : DT X e w) : DT X (.UnaryOp .Not e pos) (wNotT w) := by
  obtain ⟨t, pe, rr⟩ := h
  refine ⟨_, pt_not pe, fun O p _ ρ k σ H Q J I h g => ?_⟩
  exact rr O p ρ k σ H _ _ I h fun b H1 ρ1 k1 I1 s1 h1 => g (!b) H1 ρ1 k1 I1 s1 h1
def wAndT (a b : WT) : WT := fun ρ k Q => a ρ k fun c ρ1 k1 => if c = true then b ρ1 k1 Q else Q false ρ1 k1
def wOrT (a b : WT) : WT := fun ρ k Q => a ρ k fun c ρ1 k1 => if c = true then Q true ρ1 k1 else b ρ1 k1 Q
theorem dw_and1 {e : Expr} {w : WT} (h : DT X e w) : DW X (.BoolOp .And [e] pos) w := let ⟨t, pe, rr⟩ := h; ⟨t, pw_and1 pe, rr⟩
theorem dw_or1 {e : Expr} {w : WT} (h : DT X e w) : DW X (.BoolOp .Or [e] pos) w := let ⟨t, pe, rr⟩ := h; ⟨t, pw_or1 pe, rr⟩
theorem dw_and {a b : Expr} {rest : List Expr} {wa wb : WT} (ha : DT X a wa) (hb : DW X (.BoolOp .And (b :: rest) pos) wb) : DW X (.BoolOp .And (a :: b :: rest) pos) (wAndT wa wb) := by
  obtain ⟨ta, pa, ra⟩ := ha
  obtain ⟨tb, pb, rb⟩ := hb
  refine ⟨_, pw_and pa pb, fun O p _ ρ k σ H Q J I h g => ?_⟩
  refine ra O p ρ k σ H _ _ I h fun b H1 ρ1 k1 I1 s1 h1 => ?_
  cases b with
  | true => exact rb O p ρ1 k1 σ H1 _ _ I1 h1 fun c H2 ρ2 k2 I2 s2 h2 => g c H2 ρ2 k2 I2 (s1.trans s2 I1.pn) h2
  | false => exact g false H1 ρ1 k1 I1 s1 h1
theorem dw_or {a b : Expr} {rest : List Expr} {wa wb : WT} (ha : DT X a wa) (hb : DW X (.BoolOp .Or (b :: rest) pos) wb) : DW X (.BoolOp .Or (a :: b :: rest) pos) (wOrT wa wb) := by
  obtain ⟨ta, pa, ra⟩ := ha
  obtain ⟨tb, pb, rb⟩ := hb
  refine ⟨_, pw_or pa pb, fun O p _ ρ k σ H Q J I h g => ?_⟩
  refine ra O p ρ k σ H _ _ I h fun b H1 ρ1 k1 I1 s1 h1 => ?_
  cases b with
  | false => exact rb O p ρ1 k1 σ H1 _ _ I1 h1 fun c H2 ρ2 k2 I2 s2 h2 => g c H2 ρ2 k2 I2 (s1.trans s2 I1.pn) h2
  | true => exact g true H1 ρ1 k1 I1 s1 h1
theorem dt_w {e : Expr} {w : WT} (h : DW X e w) : DT X e w := let ⟨t, pe, rr⟩ := h; ⟨t, pe.pt, rr⟩
theorem dts_nil : DTs X [] fun ρ k Q => Q true ρ k := ⟨_, pts_nil, fun _ _ _ ρ k _ H _ _ I h g => g true H ρ k I .refl h⟩
theorem dts_one {e : Expr} {w : WT} (h : DT X e w) : DTs X [e] w := let ⟨t, pe, rr⟩ := h; ⟨t, pts_one pe, rr⟩
/-! ### and, or, not, if as values -/
def wAndV (a b : WE) : WE := fun ρ k Q => a ρ k fun x ρ1 k1 => ∃ c, deref ρ1 x = some (.bl c) ∧ if c = true then b ρ1 k1 Q else Q (.val (.bl false)) ρ1 k1
def wOrV (a b : WE) : WE := fun ρ k Q => a ρ k fun x ρ1 k1 => ∃ c, deref ρ1 x = some (.bl c) ∧ if c = true then Q (.val (.bl true)) ρ1 k1 else b ρ1 k1 Q
theorem de_one {op} {e : Expr} {w : WE} (h : DE X e w) : DE X (.BoolOp op [e] pos) w := let ⟨t, pe, rr⟩ := h; ⟨t, pe_one pe, rr⟩
theorem de_and {a b : Expr} {rest : List Expr} {wa wb : WE} (ha : DE X a wa) (hb : DE X (.BoolOp .And (b :: rest) pos) wb) : DE X (.BoolOp .And (a :: b :: rest) pos) (wAndV wa wb) := by
  obtain ⟨ta, pa, ra⟩ := ha
  obtain ⟨tb, pb, rb⟩ := hb
  refine ⟨_, pe_and pa pb, fun O p _ ρ k σ H Q J I h g => ?_⟩
  refine ra O p ρ k σ H _ _ I h fun v H1 x ρ1 k1 I1 s1 q1 h1 => ?_
  obtain ⟨c, e1, h1⟩ := h1
  refine ⟨c, (deref_ok I1 q1 e1).bl, ?_⟩
  cases c with
  | true => exact rb O p ρ1 k1 σ H1 _ _ I1 h1 fun v2 H2 r2 ρ2 k2 I2 s2 q2 h2 => g v2 H2 r2 ρ2 k2 I2 (s1.trans s2 I1.pn) q2 h2
  | false => exact g _ H1 (.val (.bl false)) ρ1 k1 I1 s1 (.bl false) h1
def wNotV (a : WE) : WE := fun ρ k Q => a ρ k fun x ρ1 k1 => ∃ c, deref ρ1 x = some (.bl c) ∧ Q (.val (.bl (!c))) ρ1 k1
theorem de_not {e : Expr} {w : WE} (h : DE X e w) : DE X (.UnaryOp .Not e pos) (wNotV w) := by
  obtain ⟨t, pe, rr⟩ := h
  refine ⟨_, pe_not pe, fun O p _ ρ k σ H Q J I h g => ?_⟩
  refine rr O p ρ k σ H _ _ I h fun v H1 x ρ1 k1 I1 s1 q1 h1 => ?_
  obtain ⟨c, e1, h1⟩ := h1
  exact ⟨c, (deref_ok I1 q1 e1).bl, g _ H1 (.val (.bl !c)) ρ1 k1 I1 s1 (.bl _) h1⟩
def wIfE (c : WT) (a b : WE) : WE := fun ρ k Q => c ρ k fun t ρ1 k1 => if t = true then a ρ1 k1 Q else b ρ1 k1 Q
theorem de_if {c a b : Expr} {wc : WT} {wa wb : WE} (hc : DT X c wc) (ha : DE X a wa) (hb : DE X b wb) : DE X (.IfExp c a b pos) (wIfE wc wa wb) := by
  obtain ⟨tc, pc, rc⟩ := hc
  obtain ⟨ta, pa, ra⟩ := ha
  obtain ⟨tb, pb, rb⟩ := hb
  refine ⟨_, pe_ifExp pc pa pb, fun O p _ ρ k σ H Q J I h g => ?_⟩
  refine rc O p ρ k σ H _ _ I h fun b H1 ρ1 k1 I1 s1 h1 => ?_
  cases b with
  | true => exact ra O p ρ1 k1 σ H1 _ _ I1 h1 fun v2 H2 r2 ρ2 k2 I2 s2 q2 h2 => g v2 H2 r2 ρ2 k2 I2 (s1.trans s2 I1.pn) q2 h2
  | false => exact rb O p ρ1 k1 σ H1 _ _ I1 h1 fun v2 H2 r2 ρ2 k2 I2 s2 q2 h2 => g v2 H2 r2 ρ2 k2 I2 (s1.trans s2 I1.pn) q2 h2
/-! ### built-ins by values -/
def wCB (f : FN) (a : WA) : WE := fun ρ k Q => a ρ k fun rs ρ1 k1 => ∃ ds, derefL ρ1 rs = some ds ∧ f ds fun z => Q (.val z) ρ1 k1
def wCF (f : FL) (a : WA) : WL := fun ρ k Q => a ρ k fun rs ρ1 k1 => ∃ ds, derefL ρ1 rs = some ds ∧ f ds fun zs => Q zs ρ1 k1
theorem cbCore {e : Expr} {es : List Expr} {r : List V → Hp → VK → Prop} {f : FN} {wa : WA} (hr : RealN r f) (pe : ∀ {t : TA}, PA X es t → PE X e (tCB r t)) (ha : DA X es wa) : DE X e (wCB f wa) := by
  obtain ⟨ta, pa, ra⟩ := ha
  refine ⟨_, pe pa, fun O p _ ρ k σ H Q J I h g => ?_⟩
  refine ra O p ρ k σ H _ _ I h fun vs H1 rs ρ1 k1 I1 s1 q1 h1 => ?_
  obtain ⟨ds, e1, h1⟩ := h1
  refine hr (Bn O ρ1 σ) H1 vs ds _ _ I1.bt (derefL_ok I1 q1 e1) h1 fun w H3 z x3 r3 h3 => ?_
  exact g w H3 (.val z) ρ1 k1 (I1.ext x3) (s1.trans (.ext x3) I1.pn) r3 h3
theorem cfCore {e : Expr} {es : List Expr} {r : List V → Hp → VK → Prop} {f : FL} {wa : WA} (hr : RealF r f) (pe : ∀ {t : TA}, PA X es t → PE X e (tCB r t)) (ha : DA X es wa) : DF X e (wCF f wa) := by
  obtain ⟨ta, pa, ra⟩ := ha
  refine ⟨_, pe pa, fun O p _ ρ k σ H Q J I h g => ?_⟩
  refine ra O p ρ k σ H _ _ I h fun vs H1 rs ρ1 k1 I1 s1 q1 h1 => ?_
  obtain ⟨ds, e1, h1⟩ := h1
  refine hr (Bn O ρ1 σ) H1 vs ds _ _ I1.bt (derefL_ok I1 q1 e1) h1 fun q ws zs hq hz h3 => ?_
  have x3 : AExt H1 (upd H1 q (.lst ws)) := AExt.upd hq
  exact g q ws _ zs ρ1 k1 (I1.more hq) (s1.trans (.ext x3) I1.pn) (s1.new hq) upd_same (hz.mono (fun a o e _ => x3 a o e) fun a z => by
    rcases z with (z | z) | z
    · exact .inl (.inl z)
    · exact .inr (by rw [z]; exact hq)
    · exact .inl (.inr z)) h3
variable {x : Str} {e : Expr} {es : List Expr} {T : String} {id : String} {ps' : Pos}
theorem de_callB {r : List V → Hp → VK → Prop} {f : FN} {wa : WA} (hc : CallR X (.builtin id) r) (hr : RealN r f) (hg : Gl X x) (hm : X.mg x = none) (hv : bootBuiltins x = some (.builtin id)) (ha : DA X (e :: es) wa) (hn : x ≠ "__name__" := by decide) (hdb : (x == ("__debug__" : Str)) = false := by decide)
    (he : starEach (e :: es) X.env = (false, eval e X.env) :: starEach es X.env := by rfl) (hpl : (backTo pos (starEach es X.env)).any (·.1) = false := by rfl) : DE X (.Call (.Name x ps') (e :: es) [] pos) (wCB f wa) := cbCore hr (fun pa => pe_callB hc hg hm hv pa hn hdb he hpl) ha
theorem de_callTy {r : List V → Hp → VK → Prop} {f : FN} {wa : WA} (hc : CallR X (.type T) r) (hr : RealN r f) (hg : Gl X x) (hm : X.mg x = none) (hv : bootBuiltins x = some (.type T)) (ha : DA X (e :: es) wa) (hn : x ≠ "__name__" := by decide) (hdb : (x == ("__debug__" : Str)) = false := by decide)
    (he : starEach (e :: es) X.env = (false, eval e X.env) :: starEach es X.env := by rfl) (hpl : (backTo pos (starEach es X.env)).any (·.1) = false := by rfl) : DE X (.Call (.Name x ps') (e :: es) [] pos) (wCB f wa) := cbCore hr (fun pa => pe_callTy hc hg hm hv pa hn hdb he hpl) ha
theorem df_callB {r : List V → Hp → VK → Prop} {f : FL} {wa : WA} (hc : CallR X (.builtin id) r) (hr : RealF r f) (hg : Gl X x) (hm : X.mg x = none) (hv : bootBuiltins x = some (.builtin id)) (ha : DA X (e :: es) wa) (hn : x ≠ "__name__" := by decide) (hdb : (x == ("__debug__" : Str)) = false := by decide)
    (he : starEach (e :: es) X.env = (false, eval e X.env) :: starEach es X.env := by rfl) (hpl : (backTo pos (starEach es X.env)).any (·.1) = false := by rfl) : DF X (.Call (.Name x ps') (e :: es) [] pos) (wCF f wa) := cfCore hr (fun pa => pe_callB hc hg hm hv pa hn hdb he hpl) ha
theorem df_callTy {r : List V → Hp → VK → Prop} {f : FL} {wa : WA} (hc : CallR X (.type T) r) (hr : RealF r f) (hg : Gl X x) (hm : X.mg x = none) (hv : bootBuiltins x = some (.type T)) (ha : DA X (e :: es) wa) (hn : x ≠ "__name__" := by decide) (hdb : (x == ("__debug__" : Str)) = false := by decide)
    (he : starEach (e :: es) X.env = (false, eval e X.env) :: starEach es X.env := by rfl) (hpl : (backTo pos (starEach es X.env)).any (·.1) = false := by rfl) : DF X (.Call (.Name x ps') (e :: es) [] pos) (wCF f wa) := cfCore hr (fun pa => pe_callTy hc hg hm hv pa hn hdb he hpl) ha
/-- a new list used at once -/
def wNew (w : WL) : WE := fun ρ k Q => w ρ k fun zs ρ1 k1 => Q (.val (.lst zs)) ρ1 k1
theorem de_new {e : Expr} {w : WL} (h : DF X e w) : DE X e (wNew w) := by
  obtain ⟨t, pe, rr⟩ := h
  refine ⟨t, pe, fun O p _ ρ k σ H Q J I h g => ?_⟩
  refine rr O p ρ k σ H _ _ I h fun a vs H1 zs ρ1 k1 I1 s1 n0 e1 r1 h1 => ?_
  have nO : ¬ O a := fun z => (I.ot a z).1 n0
  have nw : ¬ Own ρ1 σ a := fun z => I1.ownNot z (.inr rfl)
  refine g _ H1 (.val (.lst zs)) ρ1 k1 (I1.less (fun _ z => .inl z) I.po) s1 (.lst (fun z => z.elim nO nw) e1 (r1.mono (fun _ _ h _ => h) fun b z => .inl (z.imp .inl id))) h1
/-! ### displays -/
def wTup (a : WA) : WE := fun ρ k Q => a ρ k fun rs ρ1 k1 => ∃ ds ρ2, frzL ρ1 rs = some (ds, ρ2) ∧ ds.length ≤ sizeLine ∧ Q (.val (.tup ds)) ρ2 k1
def wLst (a : WA) : WL := fun ρ k Q => a ρ k fun rs ρ1 k1 => ∃ ds ρ2, frzL ρ1 rs = some (ds, ρ2) ∧ ds.length ≤ sizeLine ∧ Q ds ρ2 k1
theorem de_tup {x1} {wa : WA} (ha : DA X es wa) : DE X (.Tuple es x1 pos) (wTup wa) := by
  obtain ⟨ta, pa, ra⟩ := ha
  refine ⟨_, pe_tup pa, fun O p _ ρ k σ H Q J I h g => ?_⟩
  refine ra O p ρ k σ H _ _ I h fun vs H1 rs ρ1 k1 I1 s1 q1 h1 => ?_
  obtain ⟨ds, ρ2, e1, hz, h1⟩ := h1
  obtain ⟨I2, s2, r2⟩ := frzL_ok I1 q1 e1
  refine ⟨by rw [r2.length]; exact hz, fun q hq => ?_⟩
  have x3 : AExt H1 (upd H1 q (.tup vs)) := AExt.upd hq
  exact g _ _ (.val (.tup ds)) ρ2 k1 (I2.ext x3) ((s1.trans s2 I1.pn).trans (.ext x3) I2.pn) (.tup (fresh_not I2.bt hq) upd_same (r2.ext x3)) h1
theorem df_lst {wa : WA} (ha : DA X es wa) : DF X (.List es pos) (wLst wa) := by
  obtain ⟨ta, pa, ra⟩ := ha
  refine ⟨_, pe_lst pa, fun O p _ ρ k σ H Q J I h g => ?_⟩
  refine ra O p ρ k σ H _ _ I h fun vs H1 rs ρ1 k1 I1 s1 q1 h1 => ?_
  obtain ⟨ds, ρ2, e1, hz, h1⟩ := h1
  obtain ⟨I2, s2, r2⟩ := frzL_ok I1 q1 e1
  refine ⟨by rw [r2.length]; exact hz, fun q hq => ?_⟩
  have x3 : AExt H1 (upd H1 q (.lst vs)) := AExt.upd hq
  exact g q vs _ ds ρ2 k1 (I2.more hq) ((s1.trans s2 I1.pn).trans (.ext x3) I2.pn) ((s1.trans s2 I1.pn).new hq) upd_same (r2.mono (fun a o e _ => x3 a o e) fun a z => by
    rcases z with (z | z) | z
    · exact .inl (.inl z)
    · exact .inr (by rw [z]; exact hq)
    · exact .inl (.inr z)) h1
/-- a new list by an operator -/
def wOpF (f : D → D → (List D → Prop) → Prop) (a b : WE) : WL := fun ρ k Q => a ρ k fun x ρ1 k1 => b ρ1 k1 fun y ρ2 k2 => ∃ d e, deref ρ2 x = some d ∧ deref ρ2 y = some e ∧ f d e fun z => Q z ρ2 k2
def RealF2 (r : R2) (f : D → D → (List D → Prop) → Prop) : Prop := ∀ (B : Addr → Prop) (H : Hp) (x y : V) (d e : D) (P : List D → Prop) (J : VK), (∀ b, B b → H b ≠ none) → RepS B H x d → RepS B H y e → f d e P →
  (∀ q vs zs, H q = none → RepL B H vs zs → P zs → J (.ref q) (upd H q (.lst vs))) → r x y H J
end

/-! ### promises of defs -/
def spD (n : Nat) (wf : WF) : Sp := fun vs H Q E => vs.length = n ∧ ∃ (O : Addr → Prop) (p : Pn) (k : Kt) (ds : List D) (P : D → Kt → Prop), RepL O H vs ds ∧ (∀ a, O a → H a ≠ none ∧ ∀ us, H a ≠ some (.tup us)) ∧ penI p k H ∧ (∀ a, penC p a → O a) ∧ k.2.xc = p.xc ∧ wf ds k P ∧
  (∀ v H' d k', (∀ a o, H a = some o → ¬ penA p a → H' a = some o) → penI p k' H' → k'.2.xc = p.xc → Rep O H' v d → P d k' → Q v H') ∧
  ∀ x cls d k' H', (∀ a o, H a = some o → ¬ penA p a → H' a = some o) → penI p k' H' → RepX p.hb H' cls d x → p.xc x k'.1 → E cls d H'
/-- what a call lets out -/
def EX (X : Cx) : XK := fun cls d H => ∀ σ, WX0 X cls d σ H
theorem passX {X : Cx} : Passes (L2.CX X.prog X.w) X (EX X) := fun pins σ H s e s' I c => takes0 e s' (XE.of_call I (fun _ _ _ h => h σ) c)
section
variable {X : Cx} {pos : Pos} {k0 : Nat} {f : Addr} {fd : FuncData} {ps : List Str} {dvs : List V} {dus : List Value} {dds : List D} {n : Nat} {wf : WF} {x : Str} {ps' : Pos} {e : Expr} {es : List Expr} {wa : WA}
def wCall (m : Nat) (wf : WF) (dds : List D) (a : WA) : WE := fun ρ k Q => a ρ k fun rs ρ1 k1 => rs.length = m ∧ ∃ ds ρ2, frzL ρ1 rs = some (ds, ρ2) ∧ wf (ds ++ dds) k1 fun d k2 => Q (.val d) ρ2 k2
theorem de_call (F : FnOk X.prog X.w X.K X.mg X.base (L2.CX X.prog X.w) k0 f fd ps (spD n wf)) (hr : Room k0 X.A) (hg : Gl X x) (hm : X.mg x = some (.ref f)) (hk : PySem.W.keepIn X.K (.ref f) = true) (hb : Binds X.K fd ps dus) (hd : Vals dvs dus)
    (hdd : ∀ B H, RepL B H dvs dds) (hn : (e :: es).length + dvs.length = n) (ha : DA X (e :: es) wa) (hdb : (x == ("__debug__" : Str)) = false := by decide) (he : starEach (e :: es) X.env = (false, eval e X.env) :: starEach es X.env := by rfl) (hpl : (backTo pos (starEach es X.env)).any (·.1) = false := by rfl) : DE X (.Call (.Name x ps') (e :: es) [] pos) (wCall (es.length + 1) wf dds wa) := by
  obtain ⟨ta, pa, ra⟩ := ha
  refine ⟨_, pe_call F hr hg hm hk hb hd passX pa hdb he hpl, fun O p _ ρ k σ H Q J I h g => ?_⟩
  refine ra O p ρ k σ H _ _ I h fun vs H1 rs ρ1 k1 I1 s1 q1 h1 => ?_
  obtain ⟨hlen, ds, ρ2, e1, h1⟩ := h1
  obtain ⟨I2, s2, r2⟩ := frzL_ok I1 q1 e1
  have xl : XL X p := inferInstance
  refine ⟨by rw [List.length_append, Paired.length q1, hlen]; exact hn, Bn O ρ2 σ, p, k1, ds ++ dds, _, r2.append (hdd _ _), I2.btn, I2.pn, fun a z => .inl (I2.po a z), I2.kx, h1, fun v H' d k' kp pn kx r q => ?_, fun x cls d k' H' kp pn rx hx σ' => xl.go x k' cls d σ' H' pn (fun a o h n => kp a o (I2.bs a o h n) n) rx hx⟩
  have s3 : Step p ρ2 σ H1 ρ2 σ H' := ⟨fun a o h n1 n2 => kp a o h n1, fun _ z => .inl z, fun a h => by
    by_cases hp : penA p a
    · exact pn.there (penB.of hp)
    · cases q : H1 a with
      | none => exact absurd q h
      | some o => rw [kp a o q hp]; simp⟩
  have keep : ∀ a o, H1 a = some o → ¬ penB p a → H' a = some o := fun a o h n => kp a o h fun z => n (penB.of z)
  have I3 : Rel O p ρ2 k' σ H' := ⟨I2.len, fun i d h => let ⟨v, e, q⟩ := I2.val i d h; ⟨v, e, Rep.step I2 s3 q⟩,
    fun i ds h => let ⟨a, o, e1, e2, e3, q⟩ := I2.own i ds h; ⟨a, o, e1, keep a _ e2 (fun z => e3 (I2.po a (.inl z))), e3, RepO.step I2 s3 q⟩, I2.inj, fun a z => by
      by_cases hp : penB p a
      · exact pn.nt hp
      · cases q : H1 a with
        | none => exact absurd q (I2.ot a z).1
        | some o => rw [keep a o q hp]; exact nt_kept (I2.ot a z) q, pn, I2.po, kx, fun a o h n => kp a o (I2.bs a o h n) n, I2.bo, I2.sf⟩
  exact g v H' (.val d) ρ2 k' I3 ((s1.trans s2 I1.pn).trans s3 I2.pn) r q
end
end DL

set_option Elab.async false
set_option linter.all false
set_option maxRecDepth 100000
set_option maxHeartbeats 4000000
/-! ELc: walks, targets, comprehensions, statements, loops, bodies of defs -/
namespace DL
open PySem PySem.Spec PyProof.Rows L2

section
variable {O : Addr → Prop} {p : Pn} {ρ ρ1 ρ2 : En} {k k1 k2 : Kt} {σ σ1 σ2 : L2.St} {H H1 H2 : Hp} {v : V} {d : D}
/-! ### slots stored -/
theorem own_set {i : Nat} {x : D} {u : Option V} {a : Addr} (hl : ρ.length = σ.length) (h : Own (ρ.set i (.val x)) (σ.set i u) a) : Own ρ σ a := by
  obtain ⟨j, ds, h1, h2⟩ := h
  by_cases e : i = j
  · subst e
    by_cases hi : i < ρ.length
    · rw [List.getElem?_set_self hi] at h1; cases h1
    · rw [List.getElem?_eq_none (by rw [List.length_set]; omega)] at h1; cases h1
  · rw [List.getElem?_set_ne e] at h1 h2
    exact ⟨j, ds, h1, h2⟩
theorem Rel.set (I : Rel O p ρ k σ H) (i : Nat) (r : Rep (Bn O ρ σ) H v d) : Rel O p (ρ.set i (.val d)) k (σ.set i (some v)) H := by
  have sb : ∀ b, Bn O (ρ.set i (.val d)) (σ.set i (some v)) b → Bn O ρ σ b ∨ H b = none := fun b z => .inl (z.imp id (own_set I.len))
  have ge : ∀ {j : Nat} {es : OD}, (ρ.set i (.val d))[j]? = some (.own es) → i ≠ j ∧ ρ[j]? = some (.own es) := fun {j es} hj => by
    by_cases e : i = j
    · subst e
      by_cases hi : i < ρ.length
      · rw [List.getElem?_set_self hi] at hj; cases hj
      · rw [List.getElem?_eq_none (by rw [List.length_set]; omega)] at hj; cases hj
    · rw [List.getElem?_set_ne e] at hj; exact ⟨e, hj⟩
  refine ⟨by rw [List.length_set, List.length_set]; exact I.len, fun j x hj => ?_, fun j es hj => ?_, fun j l b es fs hj hl h1 h2 => ?_, I.ot, I.pn, I.po, I.kx, I.bs, fun b z => I.bo b (own_set I.len z), fun j C ns es b hj hb => by
    obtain ⟨e, hj⟩ := ge hj
    rw [List.getElem?_set_ne e] at hb
    exact I.sf j C ns es b hj hb⟩
  · by_cases e : i = j
    · subst e
      by_cases hi : i < ρ.length
      · rw [List.getElem?_set_self hi] at hj
        cases hj
        exact ⟨v, List.getElem?_set_self (by rw [← I.len]; exact hi), r.mono (fun _ _ h _ => h) sb⟩
      · rw [List.getElem?_eq_none (by rw [List.length_set]; omega)] at hj; cases hj
    · rw [List.getElem?_set_ne e] at hj
      obtain ⟨u, e1, q⟩ := I.val j x hj
      exact ⟨u, by rw [List.getElem?_set_ne e]; exact e1, q.mono (fun _ _ h _ => h) sb⟩
  · obtain ⟨e, hj⟩ := ge hj
    obtain ⟨a, vs, e1, e2, e3, q⟩ := I.own j es hj
    exact ⟨a, vs, by rw [List.getElem?_set_ne e]; exact e1, e2, e3, q.mono (fun _ _ h _ => h) sb⟩
  · obtain ⟨e, hj⟩ := ge hj
    obtain ⟨e', hl⟩ := ge hl
    rw [List.getElem?_set_ne e] at h1
    rw [List.getElem?_set_ne e'] at h2
    exact I.inj j l b es fs hj hl h1 h2
theorem Step.set (hl : ρ.length = σ.length) (i : Nat) : Step p ρ σ H (ρ.set i (.val d)) (σ.set i (some v)) H := ⟨fun _ _ h _ _ => h, fun _ z => .inl (own_set hl z), fun _ h => h⟩
/-- a new list becomes owned -/
theorem Rel.setOwn {a : Addr} {vs : HO} {zs : OD} (I : Rel (fun b => O b ∨ b = a) p ρ k σ H) (i : Nat) (nO : ¬ O a) (po : ∀ b, penC p b → O b) (e : H a = some vs) (hb : p.base a = none) (hz : ∀ C ns ds, zs ≠ .i C ns ds) (r : RepO (Bn (fun b => O b ∨ b = a) ρ σ) H vs zs) :
    Rel O p (ρ.set i (.own zs)) k (σ.set i (some (.ref a))) H ∧ ∀ b, Own (ρ.set i (.own zs)) (σ.set i (some (.ref a))) b → Own ρ σ b ∨ b = a := by
  have nw : ¬ Own ρ σ a := fun z => I.ownNot z (.inr rfl)
  have ow : ∀ b, Own (ρ.set i (.own zs)) (σ.set i (some (.ref a))) b → Own ρ σ b ∨ b = a := fun b z => by
    obtain ⟨j, ds, h1, h2⟩ := z
    by_cases ej : i = j
    · subst ej
      by_cases hi : i < σ.length
      · rw [List.getElem?_set_self hi] at h2; cases h2; exact .inr rfl
      · rw [List.getElem?_eq_none (by rw [List.length_set]; omega)] at h2; cases h2
    · rw [List.getElem?_set_ne ej] at h1 h2
      exact .inl ⟨j, ds, h1, h2⟩
  have sb : ∀ b, Bn O (ρ.set i (.own zs)) (σ.set i (some (.ref a))) b → Bn (fun b => O b ∨ b = a) ρ σ b ∨ H b = none := fun b z => .inl (by
    rcases z with z | z
    · exact .inl (.inl z)
    · rcases ow b z with z | z
      · exact .inr z
      · exact .inl (.inr z))
  refine ⟨⟨by rw [List.length_set, List.length_set]; exact I.len, fun j x hj => ?_, fun j es hj => ?_, fun j l b es fs hj hl h1 h2 => ?_, fun b z => I.ot b (.inl z), I.pn, po, I.kx, I.bs, fun b z => (ow b z).elim (I.bo b) fun z => by rw [z]; exact hb, fun j C ns es b hj h2 => by
    by_cases ej : i = j
    · subst ej
      by_cases hi : i < ρ.length
      · rw [List.getElem?_set_self hi] at hj; cases hj; exact absurd rfl (hz C ns es)
      · rw [List.getElem?_eq_none (by rw [List.length_set]; omega)] at hj; cases hj
    · rw [List.getElem?_set_ne ej] at hj h2
      exact I.sf j C ns es b hj h2⟩, ow⟩
  · by_cases ej : i = j
    · subst ej
      by_cases hi : i < ρ.length
      · rw [List.getElem?_set_self hi] at hj; cases hj
      · rw [List.getElem?_eq_none (by rw [List.length_set]; omega)] at hj; cases hj
    · rw [List.getElem?_set_ne ej] at hj
      obtain ⟨u, e1, q⟩ := I.val j x hj
      exact ⟨u, by rw [List.getElem?_set_ne ej]; exact e1, q.mono (fun _ _ h _ => h) sb⟩
  · by_cases ej : i = j
    · subst ej
      by_cases hi : i < ρ.length
      · rw [List.getElem?_set_self hi] at hj
        cases hj
        exact ⟨a, vs, List.getElem?_set_self (by rw [← I.len]; exact hi), e, nO, r.mono (fun _ _ h _ => h) sb⟩
      · rw [List.getElem?_eq_none (by rw [List.length_set]; omega)] at hj; cases hj
    · rw [List.getElem?_set_ne ej] at hj
      obtain ⟨b, ws, e1, e2, e3, q⟩ := I.own j es hj
      exact ⟨b, ws, by rw [List.getElem?_set_ne ej]; exact e1, e2, fun z => e3 (.inl z), q.mono (fun _ _ h _ => h) sb⟩
  · by_cases ej : i = j
    · by_cases el : i = l
      · exact ej.symm.trans el
      · subst ej
        rw [List.getElem?_set_ne el] at hl h2
        have hi : i < σ.length := by
          by_cases hi : i < σ.length
          · exact hi
          · rw [List.getElem?_eq_none (by rw [List.length_set]; omega)] at h1; cases h1
        rw [List.getElem?_set_self hi] at h1
        cases h1
        exact absurd ⟨l, fs, hl, h2⟩ nw
    · by_cases el : i = l
      · subst el
        rw [List.getElem?_set_ne ej] at hj h1
        have hi : i < σ.length := by
          by_cases hi : i < σ.length
          · exact hi
          · rw [List.getElem?_eq_none (by rw [List.length_set]; omega)] at h2; cases h2
        rw [List.getElem?_set_self hi] at h2
        cases h2
        exact absurd ⟨j, es, hj, h1⟩ nw
      · rw [List.getElem?_set_ne ej] at hj h1
        rw [List.getElem?_set_ne el] at hl h2
        exact I.inj j l b es fs hj hl h1 h2
/-- an owned list is written -/
theorem Rel.ownWrite {i : Nat} {a : Addr} {ds es : OD} {ws : HO} (I : Rel O p ρ k σ H) (hi : ρ[i]? = some (.own ds)) (hs : σ[i]? = some (some (V.ref a))) (r : RepO (Bn O ρ σ) H ws es) (hk : ∀ C ns ds', es = .i C ns ds' → ∃ C ns ds'', ds = .i C ns ds'') :
    Rel O p (ρ.set i (.own es)) k σ (upd H a ws) ∧ Step p ρ σ H (ρ.set i (.own es)) σ (upd H a ws) := by
  have hlt : i < ρ.length := (List.getElem?_eq_some_iff.mp hi).1
  have oa : Own ρ σ a := ⟨i, ds, hi, hs⟩
  have nO : ¬ O a := I.ownNot oa
  have co : ∀ q, H a ≠ some (LamX.CodeO a q) := fun q e => by
    obtain ⟨b, o, e1, e2, _, e4⟩ := I.own i ds hi
    rw [hs] at e1
    cases e1
    rw [e2] at e
    unfold LamX.CodeO at e
    cases e
    cases e4
  have ge : ∀ {j : Nat} {fs : OD}, (ρ.set i (.own es))[j]? = some (.own fs) → ∃ gs, ρ[j]? = some (.own gs) := fun {j fs} hj => by
    by_cases e : i = j
    · subst e; exact ⟨ds, hi⟩
    · rw [List.getElem?_set_ne e] at hj; exact ⟨fs, hj⟩
  have sub : ∀ b, Own (ρ.set i (.own es)) σ b → Own ρ σ b := fun b z => let ⟨j, fs, h1, h2⟩ := z; let ⟨gs, h3⟩ := ge h1; ⟨j, gs, h3, h2⟩
  have sb : ∀ b, Bn O (ρ.set i (.own es)) σ b → Bn O ρ σ b ∨ H b = none := fun b z => .inl (z.imp id (sub b))
  have kp : ∀ b o, H b = some o → ¬ Bn O ρ σ b → upd H a ws b = some o := fun b o h n => by rw [upd_ne (fun z => n (by rw [z]; exact .inr oa))]; exact h
  refine ⟨⟨by rw [List.length_set]; exact I.len, fun j x hj => ?_, fun j fs hj => ?_, fun j l b fs gs hj hl h1 h2 => ?_, fun b z => ?_, ?_, I.po, I.kx, fun b o h n => by rw [upd_ne (fun z => by rw [z, I.bo a oa] at h; cases h)]; exact I.bs b o h n, fun b z => I.bo b (sub b z), fun j C ns es' b hj hb => by
    by_cases e : i = j
    · subst e
      rw [List.getElem?_set_self hlt] at hj
      obtain ⟨C', ns', ds', e'⟩ := hk C ns es' (by cases hj; rfl)
      exact I.sf i C' ns' ds' b (by rw [hi, e']) hb
    · rw [List.getElem?_set_ne e] at hj; exact I.sf j C ns es' b hj hb⟩, ⟨fun b o h n1 n2 => by rw [upd_ne (fun z => n2 (by rw [z]; exact oa))]; exact h, fun b z => .inl (sub b z), fun b z => by
    by_cases e : b = a
    · rw [e, upd_same]; simp
    · rw [upd_ne e]; exact z⟩⟩
  · by_cases e : i = j
    · subst e; rw [List.getElem?_set_self hlt] at hj; cases hj
    · rw [List.getElem?_set_ne e] at hj
      obtain ⟨u, e1, q⟩ := I.val j x hj
      exact ⟨u, e1, q.mono kp sb⟩
  · by_cases e : i = j
    · subst e
      rw [List.getElem?_set_self hlt] at hj
      cases hj
      exact ⟨a, ws, hs, upd_same, nO, r.mono kp sb⟩
    · rw [List.getElem?_set_ne e] at hj
      obtain ⟨b, us, e1, e2, e3, q⟩ := I.own j fs hj
      have ne : b ≠ a := fun z => e (I.inj i j a ds fs hi hj hs (by rw [← z]; exact e1))
      exact ⟨b, us, e1, by rw [upd_ne ne]; exact e2, e3, q.mono kp sb⟩
  · obtain ⟨fs', hj'⟩ := ge hj
    obtain ⟨gs', hl'⟩ := ge hl
    exact I.inj j l b fs' gs' hj' hl' h1 h2
  · by_cases e : b = a
    · exact absurd (by rw [← e]; exact z) nO
    · rw [upd_ne e]; exact I.ot b z
  · exact I.pn.keep (fun b hb => upd_ne fun z => nO (by rw [← z]; exact I.po b (.inl hb))) fun b q e => by rw [upd_ne fun z => co q (by rw [← z]; exact e)]; exact e
theorem Step.updNew {L : Addr} {o : HO} (s : Step p ρ σ H ρ1 σ1 H1) (hL : H L = none) : Step p ρ σ H ρ1 σ1 (upd H1 L o) := ⟨fun a x h n1 n2 => by rw [upd_ne (ne_of_none h hL)]; exact s.kp a x h n1 n2, s.nw, fun a z => by
  by_cases e : a = L
  · rw [e] at z; exact absurd hL z
  · rw [upd_ne e]; exact s.tr a z⟩

/-! ### slots forgotten -/
def wipeE (ρ : En) : List Nat → En
  | [] => ρ
  | v :: vs => (wipeE ρ vs).set v .un
theorem wipeE_length (ρ : En) : ∀ vs : List Nat, (wipeE ρ vs).length = ρ.length
  | [] => rfl
  | v :: vs => by unfold wipeE; rw [List.length_set, wipeE_length ρ vs]
theorem wipeE_some {ρ : En} {i : Nat} {x : Slot} : ∀ {vs : List Nat}, (wipeE ρ vs)[i]? = some x → (i ∈ vs ∧ x = .un) ∨ (i ∉ vs ∧ ρ[i]? = some x)
  | [], h => .inr ⟨by simp, h⟩
  | v :: vs, h => by
    unfold wipeE at h
    by_cases hi : v = i
    · subst hi
      by_cases hv : v < (wipeE ρ vs).length
      · rw [List.getElem?_set_self hv] at h; cases h; exact .inl ⟨by simp, rfl⟩
      · rw [List.getElem?_eq_none (by rw [List.length_set]; omega)] at h; cases h
    · rw [List.getElem?_set_ne hi] at h
      rcases wipeE_some h with ⟨h1, h2⟩ | ⟨h1, h2⟩
      · exact .inl ⟨by simp [h1], h2⟩
      · exact .inr ⟨by simp only [List.mem_cons, not_or]; exact ⟨fun e => hi e.symm, h1⟩, h2⟩
theorem wipe_at {σ : L2.St} {i : Nat} : ∀ {vs : List Nat}, i ∉ vs → (wipe σ vs)[i]? = σ[i]?
  | [], _ => rfl
  | v :: vs, h => by
    unfold wipe
    rw [List.getElem?_set_ne (fun e => h (by simp [e]))]
    exact wipe_at fun z => h (by simp [z])
theorem wipe_in {σ : L2.St} {i : Nat} : ∀ {vs : List Nat}, i ∈ vs → i < σ.length → (wipe σ vs)[i]? = some none
  | v :: vs, h, hl => by
    unfold wipe
    by_cases e : v = i
    · subst e; rw [List.getElem?_set_self (by rw [wipe_length]; exact hl)]
    · rw [List.getElem?_set_ne e]
      exact wipe_in ((List.mem_cons.mp h).resolve_left fun z => e z.symm) hl
theorem wipe_eq {σ σ' : L2.St} {vs : List Nat} (hl : σ'.length = σ.length) (h : ∀ i, i ∉ vs → σ'[i]? = σ[i]?) : wipe σ' vs = wipe σ vs := by
  apply List.ext_getElem?
  intro i
  by_cases hi : i ∈ vs
  · by_cases hlt : i < σ.length
    · rw [wipe_in hi (by omega), wipe_in hi hlt]
    · rw [List.getElem?_eq_none (by rw [wipe_length]; omega), List.getElem?_eq_none (by rw [wipe_length]; omega)]
  · rw [wipe_at hi, wipe_at hi, h i hi]
/-- unset slots may hold anything -/
theorem Rel.wiped {vs : List Nat} {σ' : L2.St} (I : Rel O p ρ k σ H) (hl : σ'.length = σ.length) (h : ∀ i, i ∉ vs → σ'[i]? = σ[i]?) : Rel O p (wipeE ρ vs) k σ' H ∧ ∀ b, Own (wipeE ρ vs) σ' b → Own ρ σ b := by
  have sub : ∀ b, Own (wipeE ρ vs) σ' b → Own ρ σ b := fun b ⟨j, ds, h1, h2⟩ => by
    rcases wipeE_some h1 with ⟨_, e⟩ | ⟨hj, e⟩
    · cases e
    · exact ⟨j, ds, e, by rw [← h j hj]; exact h2⟩
  have sb : ∀ b, Bn O (wipeE ρ vs) σ' b → Bn O ρ σ b ∨ H b = none := fun b z => .inl (z.imp id (sub b))
  refine ⟨⟨by rw [wipeE_length, hl]; exact I.len, fun j x hj => ?_, fun j ds hj => ?_, fun j l b es fs hj hl h1 h2 => ?_, I.ot, I.pn, I.po, I.kx, I.bs, fun b z => I.bo b (sub b z), fun j C ns es b hj hb => by
    rcases wipeE_some hj with ⟨_, e⟩ | ⟨nj, e⟩
    · cases e
    · exact I.sf j C ns es b e (by rw [← h j nj]; exact hb)⟩, sub⟩
  · rcases wipeE_some hj with ⟨_, e⟩ | ⟨nj, e⟩
    · cases e
    · obtain ⟨u, e1, q⟩ := I.val j x e
      exact ⟨u, by rw [h j nj]; exact e1, q.mono (fun _ _ h _ => h) sb⟩
  · rcases wipeE_some hj with ⟨_, e⟩ | ⟨nj, e⟩
    · cases e
    · obtain ⟨a, us, e1, e2, e3, q⟩ := I.own j ds e
      exact ⟨a, us, by rw [h j nj]; exact e1, e2, e3, q.mono (fun _ _ h _ => h) sb⟩
  · rcases wipeE_some hj with ⟨_, e⟩ | ⟨nj, e⟩
    · cases e
    · rcases wipeE_some hl with ⟨_, e'⟩ | ⟨nl, e'⟩
      · cases e'
      · exact I.inj j l b es fs e e' (by rw [← h j nj]; exact h1) (by rw [← h l nl]; exact h2)
end

/-! ### what is walked -/
section
variable {X : Cx} {tg : Expr} {pos ps' : Pos}
theorem pi_seq {l : Expr} {tl : TE} (hl : PE X l tl) : PI X tg l (fun σ H R => tl σ H fun x H1 => (∃ a, x = .ref a ∧ (∃ xs, SqL X.K H1 a xs) ∧ R (Itl X.K a) H1) ∨ ∃ a, x = .ref a ∧ (∃ xs, SqT X.K H1 a xs) ∧ R (Itt X.K a) H1) := by
  refine ⟨fun pins s σ H R I h => ?_⟩
  refine thn (hl.run pins s σ H _ I h) fun v s1 ⟨x, H1, I1, r1, q1⟩ => ?_
  rcases q1 with ⟨a, e, ⟨xs, hq⟩, q⟩ | ⟨a, e, ⟨xs, hq⟩, q⟩
  · subst e
    cases r1
    obtain ⟨its, rv, p, hz⟩ := I1.list hq
    refine wpAny_pyIter_list p.isList ?_
    refine ⟨s1.heap.objs.size, [s1.heap.objs.size], _, _, H1, rfl, I1.kept (t' := s1.toks) fun b o e => Heap.get?_push_of_some _ e, turn_list a _, ⟨_, Heap.get?_push_size _ rfl, rfl, rfl⟩, fun b hb => ?_, q⟩
    have e : b = s1.heap.objs.size := by simpa using hb
    subst e
    exact I1.fpOk (Nat.le_refl _) (I1.hok.fresh (Nat.le_refl _))
  · subst e
    cases r1
    obtain ⟨its, rv, p, hz⟩ := I1.tuple hq
    refine wpAny_pyIter_tuple (show s1.heap.IsTuple a its.toArray from p) ?_
    refine ⟨s1.heap.objs.size, [s1.heap.objs.size], _, _, H1, rfl, I1.kept (t' := s1.toks) fun b o e => Heap.get?_push_of_some _ e, turn_tuple a _, ⟨_, Heap.get?_push_size _ rfl, rfl, rfl⟩, fun b hb => ?_, q⟩
    have e : b = s1.heap.objs.size := by simpa using hb
    subst e
    exact I1.fpOk (Nat.le_refl _) (I1.hok.fresh (Nat.le_refl _))
def itemsD : D → Option (List D)
  | .lst ds => some ds
  | .tup ds => some ds
  | _ => none
def wSeqI (a : WE) : WL := fun ρ k Q => a ρ k fun r ρ1 k1 => ∃ d ρ2 ds, frz ρ1 r = some (d, ρ2) ∧ itemsD d = some ds ∧ Q ds ρ2 k1
theorem di_seq {l : Expr} {w : WE} (hl : DE X l w) : DI X tg l (wSeqI w) := by
  obtain ⟨t, pe, rr⟩ := hl
  refine ⟨_, pi_seq pe, fun O p _ ρ k σ H Q R' I h g => ?_⟩
  refine rr O p ρ k σ H _ _ I h fun v H1 r ρ1 k1 I1 s1 q1 h1 => ?_
  obtain ⟨d, ρ2, ds, e1, e2, h1⟩ := h1
  obtain ⟨I2, s2, r2⟩ := frz_ok I1 q1 e1
  cases d with
  | lst xs =>
    cases e2
    cases r2 with
    | lst nb ea rl =>
      rename_i a vs
      refine .inl ⟨a, rfl, ⟨vs, SqL.of ea⟩, g _ _ _ ρ2 k1 I2 (s1.trans s2 I1.pn) (fun B' H' kp nw bt => ?_) h1⟩
      have ea' : H' a = some (.lst vs) := kp _ _ ea nb
      refine ⟨fun i hi => ?_, fun i x H'' d hd hy => ?_, fun i hi => ⟨vs, SqL.of ea', by rw [rl.length]; exact hi⟩⟩
      · obtain ⟨u, e3, _⟩ := rl.get (List.getElem?_eq_getElem hi)
        exact ⟨vs, u, SqL.of ea', e3⟩
      · obtain ⟨e3, hy⟩ := hy
        subst e3
        obtain ⟨u, e4, r4⟩ := rl.get hd
        have e5 := hy vs (SqL.of ea')
        rw [e4] at e5
        cases e5
        exact ⟨AExt.refl _, r4.mono kp nw⟩
  | tup xs =>
    cases e2
    cases r2 with
    | tup nb ea rl =>
      rename_i a vs
      refine .inr ⟨a, rfl, ⟨vs, SqT.of ea⟩, g _ _ _ ρ2 k1 I2 (s1.trans s2 I1.pn) (fun B' H' kp nw bt => ?_) h1⟩
      have ea' : H' a = some (.tup vs) := kp _ _ ea nb
      refine ⟨fun i hi => ?_, fun i x H'' d hd hy => ?_, fun i hi => ⟨vs, SqT.of ea', by rw [rl.length]; exact hi⟩⟩
      · obtain ⟨u, e3, _⟩ := rl.get (List.getElem?_eq_getElem hi)
        exact ⟨vs, u, SqT.of ea', e3⟩
      · obtain ⟨e3, hy⟩ := hy
        subst e3
        obtain ⟨u, e4, r4⟩ := rl.get hd
        have e5 := hy vs (SqT.of ea')
        rw [e4] at e5
        cases e5
        exact ⟨AExt.refl _, r4.mono kp nw⟩
  | non => cases e2
  | bl _ => cases e2
  | int _ => cases e2
  | str _ => cases e2
  | ty _ => cases e2
  | obj _ => cases e2
  | dK _ _ => cases e2
  | dT _ _ => cases e2
  | ins _ _ _ => cases e2
/-! ranges -/
def rngD (lo : Int) (n : Nat) (c : Int) : List D := (List.range n).map fun i : Nat => D.int (lo + (i : Nat) * c)
theorem rngD_get {lo c : Int} {n i : Nat} {d : D} (h : (rngD lo n c)[i]? = some d) : i < n ∧ d = .int (lo + (i : Nat) * c) := by
  unfold rngD at h
  rw [List.getElem?_map] at h
  cases q : (List.range n)[i]? with
  | none => rw [q] at h; cases h
  | some j =>
    rw [q] at h
    cases h
    obtain ⟨h1, h2⟩ := List.getElem?_eq_some_iff.mp q
    rw [List.getElem_range] at h2
    rw [List.length_range] at h1
    subst h2
    exact ⟨h1, rfl⟩
theorem rngD_length {lo c : Int} {n : Nat} : (rngD lo n c).length = n := by unfold rngD; rw [List.length_map, List.length_range]
theorem itr_ok {B : Addr → Prop} {H1 : Hp} {lo : Int} {n : Nat} : ItOk B (Itr lo n) (rngD lo n 1) H1 := fun B' H' kp nw bt => by
  refine ⟨fun i hi => by rw [rngD_length] at hi; exact hi, fun i x H'' d hd hy => ?_, fun i hi => by rw [rngD_length] at hi; exact hi⟩
  obtain ⟨h1, rfl⟩ := rngD_get hd
  obtain ⟨rfl, rfl⟩ := hy
  rw [Int.mul_one]
  exact ⟨AExt.refl _, .int _⟩
def wRng1 (a : WA) : WL := fun ρ k Q => a ρ k fun rs ρ1 k1 => ∃ j : Int, derefL ρ1 rs = some [.int j] ∧ -(2 ^ 62) ≤ j ∧ j < 2 ^ 62 ∧ Q (rngD 0 j.toNat 1) ρ1 k1
theorem one_int {B : Addr → Prop} {H : Hp} {vs : List V} {j : Int} (h : RepSL B H vs [.int j]) : vs = [.int j] := by
  cases h with
  | cons h1 h2 => cases h2; rw [h1.int]
theorem two_int {B : Addr → Prop} {H : Hp} {vs : List V} {i j : Int} (h : RepSL B H vs [.int i, .int j]) : vs = [.int i, .int j] := by
  cases h with
  | cons h1 h2 => rw [h1.int, one_int h2]
theorem di_range1 {a : Expr} {wa : WA} (hg : Gl X "range") (hm : X.mg "range" = none) (ha : DA X [a] wa) (hs : starEach [a] X.env = [(false, eval a X.env)] := by rfl) : DI X tg (.Call (.Name "range" ps') [a] [] pos) (wRng1 wa) := by
  obtain ⟨t, pa, rr⟩ := ha
  refine ⟨_, pi_range1 hg hm pa hs, fun O p _ ρ k σ H Q R' I h g => ?_⟩
  refine rr O p ρ k σ H _ _ I h fun vs H1 rs ρ1 k1 I1 s1 q1 h1 => ?_
  obtain ⟨j, e1, b1, b2, h1⟩ := h1
  exact ⟨j, one_int (derefL_ok I1 q1 e1), b1, b2, g _ H1 _ ρ1 k1 I1 s1 itr_ok h1⟩
def wRng2 (a : WA) : WL := fun ρ k Q => a ρ k fun rs ρ1 k1 => ∃ i j : Int, derefL ρ1 rs = some [.int i, .int j] ∧ (-(2 ^ 62) ≤ i ∧ i < 2 ^ 62 ∧ -(2 ^ 62) ≤ j ∧ j < 2 ^ 62) ∧ Q (rngD i (j - i).toNat 1) ρ1 k1
def wRng3 (a : WA) : WL := fun ρ k Q => a ρ k fun rs ρ1 k1 => ∃ (i j c : Int) (n : Nat), derefL ρ1 rs = some [.int i, .int j, .int c] ∧ RgC i j c n ∧ Q (rngD i n c) ρ1 k1
/-! zip, enumerate -/
def zipD (xs ys : List D) : List D := List.zipWith (fun x y => D.tup [x, y]) xs ys
theorem zipD_get {xs ys : List D} {i : Nat} {d : D} (h : (zipD xs ys)[i]? = some d) : ∃ x y, xs[i]? = some x ∧ ys[i]? = some y ∧ d = .tup [x, y] := by
  unfold zipD at h
  rw [List.getElem?_zipWith] at h
  cases q1 : xs[i]? with
  | none => rw [q1] at h; cases h
  | some x =>
    cases q2 : ys[i]? with
    | none => rw [q1, q2] at h; cases h
    | some y => rw [q1, q2] at h; cases h; exact ⟨x, y, rfl, rfl, rfl⟩
theorem zipD_length {xs ys : List D} : (zipD xs ys).length = min xs.length ys.length := by unfold zipD; rw [List.length_zipWith]
def zipArgs : List D → Option (List D × List D)
  | [.lst xs, .lst ys] => some (xs, ys)
  | [.tup xs, .tup ys] => some (xs, ys)
  | _ => none
def wZip (a : WA) : WL := fun ρ k Q => a ρ k fun rs ρ1 k1 => ∃ ds ρ2 xs ys, frzL ρ1 rs = some (ds, ρ2) ∧ zipArgs ds = some (xs, ys) ∧ Q (zipD xs ys) ρ2 k1
theorem di_zip {e e2 : Expr} {wa : WA} {elts : List Expr} {kk : Nat} {tpos : Pos} (hg : Gl X "zip") (hm : X.mg "zip" = none) (ha : DA X [e, e2] wa)
    (hs : starEach [e, e2] X.env = (false, eval e X.env) :: starEach [e2] X.env := by rfl) (hpl : (backTo pos (starEach [e2] X.env)).any (·.1) = false := by rfl) :
    DI X (.Tuple elts kk tpos) (.Call (.Name "zip" ps') [e, e2] [] pos) (wZip wa) := by
  obtain ⟨t, pa, rr⟩ := ha
  refine ⟨_, RZ.pi_zipA hg hm pa hs hpl, fun O p _ ρ k σ H Q R' I h g => ?_⟩
  refine rr O p ρ k σ H _ _ I h fun vs H1 rs ρ1 k1 I1 s1 q1 h1 => ?_
  obtain ⟨ds, ρ2, xs, ys, e1, e2, h1⟩ := h1
  obtain ⟨I2, s2, r2⟩ := frzL_ok I1 q1 e1
  have pairs : ∀ {B' : Addr → Prop} {H' : Hp} {us ws : List V} {i : Nat} {d : D} {T : Addr} {x y : V}, (∀ a, B' a → H' a ≠ none) → RepL B' H' us xs → RepL B' H' ws ys → (zipD xs ys)[i]? = some d → H' T = none → us[i]? = some x → ws[i]? = some y →
      Rep B' (upd H' T (.tup [x, y])) (.ref T) d := fun {B' H' us ws i d T x y} bt ru rw hd nT hx hy => by
    obtain ⟨dx, dy, ex, ey, rfl⟩ := zipD_get hd
    obtain ⟨x', ex', rx⟩ := ru.get ex
    obtain ⟨y', ey', ry⟩ := rw.get ey
    rw [hx] at ex'; cases ex'
    rw [hy] at ey'; cases ey'
    exact .tup (fresh_not bt nT) upd_same (.cons (rx.ext (AExt.upd nT)) (.cons (ry.ext (AExt.upd nT)) .nil))
  unfold zipArgs at e2
  split at e2
  · cases e2
    cases r2 with
    | cons ra rb =>
      cases rb with
      | cons rb rn =>
        cases rn
        cases ra with
        | lst na ea la =>
          cases rb with
          | lst nb eb lb =>
            rename_i a us b ws
            refine ⟨a, b, us, ws, rfl, .inl ⟨SqL.of ea, SqL.of eb, g _ H1 _ ρ2 k1 I2 (s1.trans s2 I1.pn) (fun B' H' kp nw bt => ?_) h1⟩⟩
            have ea' := kp _ _ ea na
            have eb' := kp _ _ eb nb
            refine ⟨fun i hi => ?_, fun i x H'' d hd hy => ?_, fun i hi => ⟨us, ws, SqL.of ea', SqL.of eb', ?_⟩⟩
            · rw [zipD_length] at hi
              obtain ⟨x, ex, _⟩ := la.get (List.getElem?_eq_getElem (show i < xs.length by omega))
              obtain ⟨y, ey, _⟩ := lb.get (List.getElem?_eq_getElem (show i < ys.length by omega))
              exact ⟨us, ws, x, y, SqL.of ea', SqL.of eb', ex, ey⟩
            · obtain ⟨T, x, y, rfl, nT, rfl, hx, hy⟩ := hy
              exact ⟨AExt.upd nT, pairs (fun a z => (bt a z).1) (la.mono kp nw) (lb.mono kp nw) hd nT (hx _ (SqL.of ea')) (hy _ (SqL.of eb'))⟩
            · rw [zipD_length] at hi
              rw [la.length, lb.length]
              omega
  · cases e2
    cases r2 with
    | cons ra rb =>
      cases rb with
      | cons rb rn =>
        cases rn
        cases ra with
        | tup na ea la =>
          cases rb with
          | tup nb eb lb =>
            rename_i a us b ws
            refine ⟨a, b, us, ws, rfl, .inr ⟨SqT.of ea, SqT.of eb, g _ H1 _ ρ2 k1 I2 (s1.trans s2 I1.pn) (fun B' H' kp nw bt => ?_) h1⟩⟩
            have ea' := kp _ _ ea na
            have eb' := kp _ _ eb nb
            refine ⟨fun i hi => ?_, fun i x H'' d hd hy => ?_, fun i hi => ⟨us, ws, SqT.of ea', SqT.of eb', ?_⟩⟩
            · rw [zipD_length] at hi
              obtain ⟨x, ex, _⟩ := la.get (List.getElem?_eq_getElem (show i < xs.length by omega))
              obtain ⟨y, ey, _⟩ := lb.get (List.getElem?_eq_getElem (show i < ys.length by omega))
              exact ⟨us, ws, x, y, SqT.of ea', SqT.of eb', ex, ey⟩
            · obtain ⟨T, x, y, rfl, nT, rfl, hx, hy⟩ := hy
              exact ⟨AExt.upd nT, pairs (fun a z => (bt a z).1) (la.mono kp nw) (lb.mono kp nw) hd nT (hx _ (SqT.of ea')) (hy _ (SqT.of eb'))⟩
            · rw [zipD_length] at hi
              rw [la.length, lb.length]
              omega
  · cases e2
end

/-! ### targets -/
section
variable {X : Cx} {pos : Pos}
def gNm (i : Nat) : WG := fun d ρ k Q => Q (ρ.set i (.val d)) k
theorem dg_name {i : Nat} {x : Str} (hN : X.N.Nodup) (hi : X.N[i]? = some x) (hx : Loc X.env.scope x) (hf : X.fn x = true ∨ X.env.scope.names.lookup x = some .local := by first | exact .inl rfl | exact .inr rfl | assumption) : DG X (.Name x pos) [i] (gNm i) := by
  refine ⟨_, pg_name hN hi hx hf, fun O p _ ρ k σ H v d Q J I r h g => ?_⟩
  exact g _ H _ k (I.set i r) (Step.set I.len i) (fun j hj => List.getElem?_set_ne (fun e => hj (by simp [e]))) (List.length_set ..) h
abbrev WGs := List D → En → Kt → (En → Kt → Prop) → Prop
def DGs (X : Cx) (ts : List Expr) (is : List Nat) (w : WGs) : Prop := ∃ g : TGs, PGs X ts g ∧ ∀ (O : Addr → Prop) (p : Pn) [XL X p] (ρ : En) (k : Kt) (σ : L2.St) (H : Hp) (vs : List V) (ds : List D) (Q : En → Kt → Prop) (J : L2.St → Hp → Prop), Rel O p ρ k σ H → RepL (Bn O ρ σ) H vs ds → w ds ρ k Q →
  (∀ σ' H' ρ' k', Rel O p ρ' k' σ' H' → Step p ρ σ H ρ' σ' H' → (∀ i, i ∉ is → σ'[i]? = σ[i]?) → σ'.length = σ.length → Q ρ' k' → J σ' H') → g vs σ H J
def gNil : WGs := fun ds ρ k Q => ds = [] ∧ Q ρ k
def gCons (a : WG) (b : WGs) : WGs := fun ds ρ k Q => match ds with
  | [] => False
  | d :: ds => a d ρ k fun ρ1 k1 => b ds ρ1 k1 Q
theorem dgs_nil : DGs X [] [] gNil := by
  refine ⟨_, pgs_nil, fun O p _ ρ k σ H vs ds Q J I r h g => ?_⟩
  obtain ⟨e, h⟩ := h
  subst e
  cases r
  exact ⟨rfl, g σ H ρ k I .refl (fun _ _ => rfl) rfl h⟩
theorem dgs_cons {e : Expr} {es : List Expr} {is js : List Nat} {a : WG} {b : WGs} (ha : DG X e is a) (hb : DGs X es js b) (hs : (assignEach (e :: es) X.env).map (·.2) = assign e X.env :: (assignEach es X.env).map (·.2) := by rfl) : DGs X (e :: es) (is ++ js) (gCons a b) := by
  obtain ⟨ta, pa, ra⟩ := ha
  obtain ⟨tb, pb, rb⟩ := hb
  refine ⟨_, pgs_cons pa pb hs, fun O p _ ρ k σ H vs ds Q J I r h g => ?_⟩
  cases r with
  | nil => exact h.elim
  | cons r1 r2 =>
    refine ⟨_, _, rfl, ra O p ρ k σ H _ _ _ _ I r1 h fun σ1 H1 ρ1 k1 I1 s1 u1 l1 h1 => ?_⟩
    refine rb O p ρ1 k1 σ1 H1 _ _ _ _ I1 (RepL.step I s1 r2) h1 fun σ2 H2 ρ2 k2 I2 s2 u2 l2 h2 => ?_
    exact g σ2 H2 ρ2 k2 I2 (s1.trans s2 I1.pn) (fun i hi => (u2 i fun z => hi (List.mem_append_right _ z)).trans (u1 i fun z => hi (List.mem_append_left _ z))) (l2.trans l1) h2
def gTp (n : Nat) (w : WGs) : WG := fun d ρ k Q => ∃ ds, d = .tup ds ∧ ds.length = n ∧ w ds ρ k Q
def gLs (n : Nat) (w : WGs) : WG := fun d ρ k Q => ∃ ds, d = .lst ds ∧ ds.length = n ∧ w ds ρ k Q
theorem dg_tup {es : List Expr} {kk n : Nat} {is : List Nat} {w : WGs} (hc : X.calm = true) (h : DGs X es is w) (hn : (assignEach es X.env).length = n := by rfl) (hst : (assignEach es X.env).findIdx? (·.1) = none := by rfl) : DG X (.Tuple es kk pos) is (gTp n w) := by
  obtain ⟨t, pg, rr⟩ := h
  refine ⟨_, pg_tup hc pg hn hst, fun O p _ ρ k σ H v d Q J I r h g => ?_⟩
  obtain ⟨ds, e, hl, h⟩ := h
  subst e
  cases r with
  | tup nb ea rl => exact ⟨_, _, rfl, SqT.of ea, by rw [rl.length]; exact hl, rr O p ρ k σ H _ _ _ _ I rl h g⟩
end

/-! ### comprehensions -/
section
/-- nothing may leave -/
def Pn.nox (p : Pn) : Pn := { p with xc := fun _ _ => False }
def nxk (k : Kt) : Kt := (k.1, { k.2 with xc := fun _ _ => False })
def rsk (k k' : Kt) : Kt := (k'.1, { k'.2 with xc := k.2.xc })
instance {X : Cx} {p : Pn} : XL X p.nox := ⟨fun _ _ _ _ _ _ _ _ _ h => h.elim⟩
theorem Rel.nox {O : Addr → Prop} {p : Pn} {ρ : En} {k : Kt} {σ : L2.St} {H : Hp} (I : Rel O p ρ k σ H) : Rel O p.nox ρ (nxk k) σ H := ⟨I.len, I.val, I.own, I.inj, I.ot, I.pn, I.po, rfl, I.bs, I.bo, I.sf⟩
theorem Rel.unnox {O O' : Addr → Prop} {p : Pn} {ρ ρ' : En} {k k' : Kt} {σ σ' : L2.St} {H H' : Hp} (I : Rel O p.nox ρ k' σ H) (I0 : Rel O' p ρ' k σ' H') : Rel O p ρ (rsk k k') σ H := ⟨I.len, I.val, I.own, I.inj, I.ot, I.pn, I.po, I0.kx, I.bs, I.bo, I.sf⟩
theorem Step.nox {p : Pn} {ρ ρ1 : En} {σ σ1 : L2.St} {H H1 : Hp} (s : Step p ρ σ H ρ1 σ1 H1) : Step p.nox ρ σ H ρ1 σ1 H1 := ⟨s.kp, s.nw, s.tr⟩
theorem Step.unnox {p : Pn} {ρ ρ1 : En} {σ σ1 : L2.St} {H H1 : Hp} (s : Step p.nox ρ σ H ρ1 σ1 H1) : Step p ρ σ H ρ1 σ1 H1 := ⟨s.kp, s.nw, s.tr⟩
theorem Rel.fresh {O : Addr → Prop} {p : Pn} {ρ : En} {k : Kt} {σ : L2.St} {H : Hp} (I : Rel O p ρ k σ H) {L : Addr} (h : H L = none) : p.base L = none := by
  cases e : p.base L with
  | none => rfl
  | some o =>
    by_cases hp : penA p L
    · exact absurd h (I.pn.there (penB.of hp))
    · rw [I.bs L o e hp] at h; cases h
def lcW (vs : List Nat) (tg : WG) (ts : WT) (el : WE) : List D → List D → En → Kt → (List D → En → Kt → Prop) → Prop
  | [], acc, ρ, k, Q => Q acc ρ k
  | d :: ds, acc, ρ, k, Q => tg d ρ k fun ρ1 k1 => ts ρ1 k1 fun b ρ2 k2 => if b = true then el ρ2 k2 fun r ρ3 k3 => ∃ y ρ4, frz ρ3 r = some (y, ρ4) ∧ acc.length < sizeLine ∧ lcW vs tg ts el ds (acc ++ [y]) (wipeE ρ4 vs) k3 Q
      else lcW vs tg ts el ds acc (wipeE ρ2 vs) k2 Q
def wLc (vs : List Nat) (it : WL) (tg : WG) (ts : WT) (el : WE) : WL := fun ρ k Q => it ρ k fun ds ρ1 k1 => lcW vs tg ts el ds [] (wipeE ρ1 vs) (nxk k1) fun zs ρ2 k2 => Q zs ρ2 (rsk k1 k2)
theorem pen_ne {p : Pn} {k : Kt} {H : Hp} {L : Addr} (h : penI p k H) (hL : H L = none) : ¬ penB p L := fun z => h.there z hL
/-- the reading of a comprehension, where the walk is known at this heap alone -/
theorem lcPropF {wi : TI} {g : TG} {tt : TT} {te : TE} {vs is : List Nat} {wit : WL} {wg : WG} {wt : WT} {we : WE} (hiv : ∀ i ∈ is, i ∈ vs)
    (rg : ∀ (O : Addr → Prop) (p : Pn) (ρ : En) (k : Kt) (σ : L2.St) (H : Hp) (v : V) (d : D) (Q : En → Kt → Prop) (J : L2.St → Hp → Prop), Rel O p.nox ρ k σ H → Rep (Bn O ρ σ) H v d → wg d ρ k Q →
      (∀ σ' H' ρ' k', Rel O p.nox ρ' k' σ' H' → Step p.nox ρ σ H ρ' σ' H' → (∀ i, i ∉ is → σ'[i]? = σ[i]?) → σ'.length = σ.length → Q ρ' k' → J σ' H') → g v σ H J)
    (rt : ∀ (O : Addr → Prop) (p : Pn) (ρ : En) (k : Kt) (σ : L2.St) (H : Hp) (Q : Bool → En → Kt → Prop) (J : Bool → Hp → Prop), Rel O p.nox ρ k σ H → wt ρ k Q → (∀ b H' ρ' k', Rel O p.nox ρ' k' σ H' → Step p.nox ρ σ H ρ' σ H' → Q b ρ' k' → J b H') → tt σ H J)
    (re : ∀ (O : Addr → Prop) (p : Pn) (ρ : En) (k : Kt) (σ : L2.St) (H : Hp) (Q : R → En → Kt → Prop) (J : VK), Rel O p.nox ρ k σ H → we ρ k Q → (∀ v H' r ρ' k', Rel O p.nox ρ' k' σ H' → Step p.nox ρ σ H ρ' σ H' → RRep O ρ' σ H' v r → Q r ρ' k' → J v H') → te σ H J)
    (O : Addr → Prop) (p : Pn) (ρ : En) (k : Kt) (σ : L2.St) (H : Hp)
    (ri : ∀ (Q : List D → En → Kt → Prop) (R' : It → Hp → Prop), wit ρ k Q → (∀ J H1 ds ρ1 k1, Rel O p ρ1 k1 σ H1 → Step p ρ σ H ρ1 σ H1 → ItOk (Bn O ρ1 σ) J ds H1 → Q ds ρ1 k1 → R' J H1) → wi σ H R')
    (Q : List D → En → Kt → Prop) (J : VK) (h : wLc vs wit wg wt we ρ k Q)
    (f : ∀ a ws H' zs ρ' k', Rel (fun b => O b ∨ b = a) p ρ' k' σ H' → Step p ρ σ H ρ' σ H' → H a = none → H' a = some (.lst ws) → RepL (Bn (fun b => O b ∨ b = a) ρ' σ) H' ws zs → Q zs ρ' k' → J (.ref a) H') : tLc wi g tt te vs σ H J := by
  refine ri _ _ h fun It' H1 ds ρ1 k1 I1' s1 ok h1 => fun L hL => ?_
  have I1 : Rel O p.nox ρ1 (nxk k1) σ H1 := I1'.nox
  have s1n : Step p.nox ρ σ H ρ1 σ H1 := s1.nox
  have hwl : (wipe σ vs).length = σ.length := wipe_length σ vs
  obtain ⟨I1w, ow1⟩ := (I1.wiped (vs := vs) hwl fun i hi => wipe_at hi)
  have s1w : Step p.nox ρ1 σ H1 (wipeE ρ1 vs) (wipe σ vs) H1 := ⟨fun _ _ h _ _ => h, fun b z => .inl (ow1 b z), fun _ h => h⟩
  have I2 := I1w.more (o := .lst []) hL
  have nP : ¬ penB p.nox L := pen_ne I1.pn hL
  refine ⟨fun i m H' => i ≤ ds.length ∧ m = ds.length - i ∧ ∃ acc ρi ki av, Rel (fun b => O b ∨ b = L) p.nox ρi ki (wipe σ vs) H' ∧ (∀ (j : Nat) (s : Slot), j ∈ vs → ρi[j]? = some s → s = .un) ∧ Step p.nox (wipeE ρ1 vs) (wipe σ vs) H1 ρi (wipe σ vs) H' ∧ H' L = some (.lst av) ∧
      RepL (Bn (fun b => O b ∨ b = L) ρi (wipe σ vs)) H' av acc ∧ lcW vs wg wt we (ds.drop i) acc ρi ki (fun zs ρ2 k2 => Q zs ρ2 (rsk k1 k2)), ⟨ds.length, Nat.zero_le _, rfl, [], wipeE ρ1 vs, nxk k1, [], I2, fun j s hj e => ?_, (Step.refl).updNew hL, upd_same, .nil, h1⟩, ?_⟩
  · rcases wipeE_some e with ⟨_, e⟩ | ⟨n, _⟩
    · exact e
    · exact absurd hj n
  rintro i m H2 ⟨hi, rfl, acc, ρi, ki, av, Ii, un, si, eL, ra, hw⟩
  have okH : _ := ok (Bn (fun b => O b ∨ b = L) ρi (wipe σ vs)) H2 (fun a o e n => si.kp a o e (fun z => n (.inl (I1.po a (.inl (penB.of z))))) fun z => n (.inr (ow1 a z))) (fun a z => by
    rcases z with (z | z) | z
    · exact .inl (.inl z)
    · exact .inr (by rw [z]; exact hL)
    · exact (si.nw a z).imp (fun z => .inr (ow1 a z)) id) Ii.btn
  obtain ⟨ok1, ok2, ok3⟩ := okH
  by_cases hlt : i < ds.length
  · refine .inr ⟨ok1 i hlt, fun H' => ∃ acc ρi ki av, Rel (fun b => O b ∨ b = L) p.nox ρi ki (wipe σ vs) H' ∧ (∀ (j : Nat) (s : Slot), j ∈ vs → ρi[j]? = some s → s = .un) ∧ Step p.nox (wipeE ρ1 vs) (wipe σ vs) H1 ρi (wipe σ vs) H' ∧ H' L = some (.lst av) ∧
      RepL (Bn (fun b => O b ∨ b = L) ρi (wipe σ vs)) H' av acc ∧ lcW vs wg wt we (ds.drop (i + 1)) acc ρi ki (fun zs ρ2 k2 => Q zs ρ2 (rsk k1 k2)), fun H' hN => ⟨ds.length - (i + 1), by omega, hlt, rfl, hN⟩, fun x H3 hy => ?_⟩
    obtain ⟨x3, rx⟩ := ok2 i x H3 ds[i] (List.getElem?_eq_getElem hlt) hy
    rw [List.drop_eq_getElem_cons hlt] at hw
    unfold lcW at hw
    have I3 := Ii.ext x3
    have s3 := si.trans (Step.ext (ρ := ρi) (σ := wipe σ vs) (p := p.nox) x3) Ii.pn
    have ra3 := ra.ext x3
    refine rg _ p ρi ki (wipe σ vs) H3 x ds[i] _ _ I3 rx hw fun σ4 H4 ρ4 k4 I4 s4 u4 l4 h4 => ?_
    have we4 : wipe σ4 vs = wipe σ vs := by
      have : wipe σ4 vs = wipe (wipe σ vs) vs := wipe_eq l4 fun j hj => u4 j fun z => hj (hiv j z)
      rw [this]
      exact wipe_eq hwl fun j hj => wipe_at hj
    refine ⟨we4, ?_⟩
    have Lk : ∀ {ρ' : En} {σ' : L2.St} {H' H'' : Hp} {ρ'' : En} {σ'' : L2.St} {k'}, Rel (fun b => O b ∨ b = L) p.nox ρ' k' σ' H' → Step p.nox ρ' σ' H' ρ'' σ'' H'' → H' L = some (.lst av) → H'' L = some (.lst av) := fun {ρ' σ' H' H'' ρ'' σ'' k'} I' s' e' =>
      s'.kp L _ e' (fun z => nP (penB.of z)) fun z => I'.ownNot z (.inr rfl)
    refine rt _ p ρ4 k4 σ4 H4 _ _ I4 h4 fun b H5 ρ5 k5 I5 s5 h5 => ?_
    have eL5 : H5 L = some (.lst av) := Lk I4 s5 (Lk I3 s4 (x3 _ _ eL))
    have ra5 := RepL.step I4 s5 (RepL.step I3 s4 ra3)
    have s15 : Step p.nox (wipeE ρ1 vs) (wipe σ vs) H1 ρ5 σ4 H5 := (s3.trans s4 I3.pn).trans s5 I4.pn
    -- the turn's end
    have fin : ∀ {ρ' : En} {k' : Kt} {H' : Hp} {av' : List V} {acc' : List D}, Rel (fun b => O b ∨ b = L) p.nox ρ' k' σ4 H' → Step p.nox (wipeE ρ1 vs) (wipe σ vs) H1 ρ' σ4 H' → H' L = some (.lst av') → RepL (Bn (fun b => O b ∨ b = L) ρ' σ4) H' av' acc' →
        lcW vs wg wt we (ds.drop (i + 1)) acc' (wipeE ρ' vs) k' (fun zs ρ2 k2 => Q zs ρ2 (rsk k1 k2)) → ∃ acc ρi ki av, Rel (fun b => O b ∨ b = L) p.nox ρi ki (wipe σ vs) H' ∧ (∀ (j : Nat) (s : Slot), j ∈ vs → ρi[j]? = some s → s = .un) ∧ Step p.nox (wipeE ρ1 vs) (wipe σ vs) H1 ρi (wipe σ vs) H' ∧ H' L = some (.lst av) ∧
          RepL (Bn (fun b => O b ∨ b = L) ρi (wipe σ vs)) H' av acc ∧ lcW vs wg wt we (ds.drop (i + 1)) acc ρi ki (fun zs ρ2 k2 => Q zs ρ2 (rsk k1 k2)) := fun {ρ' k' H' av' acc'} I' s' e' r' h' => by
      obtain ⟨Iw, ow⟩ := I'.wiped (vs := vs) (σ' := wipe σ vs) (by rw [← we4, wipe_length]) fun j hj => by rw [← we4]; exact wipe_at hj
      refine ⟨acc', wipeE ρ' vs, k', av', Iw, fun j s hj e => ?_, s'.trans ⟨fun _ _ h _ _ => h, fun b z => .inl (ow b z), fun _ h => h⟩ I'.pn, e', r'.mono (fun _ _ h _ => h) fun b z => .inl (z.imp id (ow b)), h'⟩
      rcases wipeE_some e with ⟨_, e⟩ | ⟨n, _⟩
      · exact e
      · exact absurd hj n
    cases b with
    | false =>
      rw [if_neg Bool.false_ne_true] at h5 ⊢
      exact fin I5 s15 eL5 ra5 h5
    | true =>
      rw [if_pos rfl] at h5 ⊢
      refine re _ p ρ5 k5 σ4 H5 _ _ I5 h5 fun v H6 r ρ6 k6 I6 s6 q6 h6 => ?_
      obtain ⟨y, ρ7, e7, hz, h7⟩ := h6
      obtain ⟨I7, s7, r7⟩ := frz_ok I6 q6 e7
      have eL6 : H6 L = some (.lst av) := Lk I5 s6 eL5
      have ra7 := RepL.step I6 s7 (RepL.step I5 s6 ra5)
      refine ⟨av, eL6, by rw [ra5.length]; exact hz, ?_⟩
      have I8 := I7.write (L := L) (o := .lst (av ++ [v])) (.inr rfl) nP (I1.fresh hL) (fun q e => by rw [eL6] at e; unfold LamX.CodeO at e; cases e)
      have s8 : Step p.nox (wipeE ρ1 vs) (wipe σ vs) H1 ρ7 σ4 (upd H6 L (.lst (av ++ [v]))) := ((s15.trans s6 I5.pn).trans s7 I6.pn).updNew hL
      refine fin I8 s8 upd_same ((ra7.append (.cons r7 .nil)).mono (fun a o e n => ?_) fun a z => .inl z) h7
      rw [upd_ne fun z => n (by rw [z]; exact .inl (.inr rfl))]
      exact e
  · have e : i = ds.length := by omega
    subst e
    rw [List.drop_length] at hw
    refine .inl ⟨ok3 _ (Nat.le_refl _), ?_⟩
    have back : Rel (fun b => O b ∨ b = L) p.nox ρi ki σ H2 ∧ ∀ b, Own ρi σ b → Own ρi (wipe σ vs) b := by
      have hs : ∀ (j : Nat) (s : Slot), ρi[j]? = some s → s ≠ .un → σ[j]? = (wipe σ vs)[j]? := fun j s e n => by
        have hj : j ∉ vs := fun z => n (un j s z e)
        exact (wipe_at hj).symm
      have o1 : ∀ b, Own ρi σ b → Own ρi (wipe σ vs) b := fun b ⟨j, es, h1, h2⟩ => ⟨j, es, h1, by rw [← hs j _ h1 (by simp)]; exact h2⟩
      have sb : ∀ b, Bn (fun b => O b ∨ b = L) ρi σ b → Bn (fun b => O b ∨ b = L) ρi (wipe σ vs) b ∨ H2 b = none := fun b z => .inl (z.imp id (o1 b))
      refine ⟨⟨by rw [Ii.len, hwl], fun j x hj => ?_, fun j es hj => ?_, fun j l b es fs hj hl' h1 h2 => ?_, Ii.ot, Ii.pn, Ii.po, Ii.kx, Ii.bs, fun b z => Ii.bo b (o1 b z), fun j C ns es b hj hb => Ii.sf j C ns es b hj (by rw [← hs j _ hj (by simp)]; exact hb)⟩, o1⟩
      · obtain ⟨u, e1, q⟩ := Ii.val j x hj
        exact ⟨u, by rw [hs j _ hj (by simp)]; exact e1, q.mono (fun _ _ h _ => h) sb⟩
      · obtain ⟨a, us, e1, e2, e3, q⟩ := Ii.own j es hj
        exact ⟨a, us, by rw [hs j _ hj (by simp)]; exact e1, e2, e3, q.mono (fun _ _ h _ => h) sb⟩
      · exact Ii.inj j l b es fs hj hl' (by rw [← hs j _ hj (by simp)]; exact h1) (by rw [← hs l _ hl' (by simp)]; exact h2)
    obtain ⟨Ib, ob⟩ := back
    have sE : Step p.nox ρ σ H ρi σ H2 := (s1n.trans s1w I1.pn).trans (si.trans ⟨fun _ _ h _ _ => h, fun b z => .inl (ob b z), fun _ h => h⟩ Ii.pn) I1w.pn
    exact f L av H2 acc ρi (rsk k1 ki) (Ib.unnox I1') sE.unnox (s1.new hL) eL (ra.mono (fun _ _ h _ => h) fun b z => .inl (z.imp id (ob b))) (by unfold lcW at hw; exact hw)
theorem lcProp {X : Cx} {wi : TI} {g : TG} {tt : TT} {te : TE} {vs is : List Nat} {wit : WL} {wg : WG} {wt : WT} {we : WE} (hiv : ∀ i ∈ is, i ∈ vs)
    (ri : ∀ (O : Addr → Prop) (p : Pn) [XL X p] (ρ : En) (k : Kt) (σ : L2.St) (H : Hp) (Q : List D → En → Kt → Prop) (R' : It → Hp → Prop), Rel O p ρ k σ H → wit ρ k Q → (∀ J H1 ds ρ1 k1, Rel O p ρ1 k1 σ H1 → Step p ρ σ H ρ1 σ H1 → ItOk (Bn O ρ1 σ) J ds H1 → Q ds ρ1 k1 → R' J H1) → wi σ H R')
    (rg : ∀ (O : Addr → Prop) (p : Pn) (ρ : En) (k : Kt) (σ : L2.St) (H : Hp) (v : V) (d : D) (Q : En → Kt → Prop) (J : L2.St → Hp → Prop), Rel O p.nox ρ k σ H → Rep (Bn O ρ σ) H v d → wg d ρ k Q →
      (∀ σ' H' ρ' k', Rel O p.nox ρ' k' σ' H' → Step p.nox ρ σ H ρ' σ' H' → (∀ i, i ∉ is → σ'[i]? = σ[i]?) → σ'.length = σ.length → Q ρ' k' → J σ' H') → g v σ H J)
    (rt : ∀ (O : Addr → Prop) (p : Pn) (ρ : En) (k : Kt) (σ : L2.St) (H : Hp) (Q : Bool → En → Kt → Prop) (J : Bool → Hp → Prop), Rel O p.nox ρ k σ H → wt ρ k Q → (∀ b H' ρ' k', Rel O p.nox ρ' k' σ H' → Step p.nox ρ σ H ρ' σ H' → Q b ρ' k' → J b H') → tt σ H J)
    (re : ∀ (O : Addr → Prop) (p : Pn) (ρ : En) (k : Kt) (σ : L2.St) (H : Hp) (Q : R → En → Kt → Prop) (J : VK), Rel O p.nox ρ k σ H → we ρ k Q → (∀ v H' r ρ' k', Rel O p.nox ρ' k' σ H' → Step p.nox ρ σ H ρ' σ H' → RRep O ρ' σ H' v r → Q r ρ' k' → J v H') → te σ H J)
    (O : Addr → Prop) (p : Pn) [XL X p] (ρ : En) (k : Kt) (σ : L2.St) (H : Hp) (Q : List D → En → Kt → Prop) (J : VK) (I : Rel O p ρ k σ H) (h : wLc vs wit wg wt we ρ k Q)
    (f : ∀ a ws H' zs ρ' k', Rel (fun b => O b ∨ b = a) p ρ' k' σ H' → Step p ρ σ H ρ' σ H' → H a = none → H' a = some (.lst ws) → RepL (Bn (fun b => O b ∨ b = a) ρ' σ) H' ws zs → Q zs ρ' k' → J (.ref a) H') : tLc wi g tt te vs σ H J := lcPropF hiv rg rt re O p ρ k σ H (fun Q R' h g => ri O p ρ k σ H Q R' I h g) Q J h f
variable {X : Cx} {pos : Pos}
abbrev Blk (X : Cx) (scope : Scope) (P : Cx → Prop) : Prop := ∀ (s : Shared) (H : Hp) (C : Addr) (cl : List (Str × Addr)) (fp : List Addr), P (X.blk s H scope (compEnvC scope cl C X.env) fp)
theorem blkE {scope : Scope} {e : Expr} {w : WE} (h : Blk X scope fun Y => DE Y e w) : ∃ t : TE, (Blk X scope fun Y => PE Y e t) ∧ ∀ (O : Addr → Prop) (p : Pn) (ρ : En) (k : Kt) (σ : L2.St) (H : Hp) (Q : R → En → Kt → Prop) (J : VK), Rel O p.nox ρ k σ H → w ρ k Q →
    (∀ v H' r ρ' k', Rel O p.nox ρ' k' σ H' → Step p.nox ρ σ H ρ' σ H' → RRep O ρ' σ H' v r → Q r ρ' k' → J v H') → t σ H J := by
  refine ⟨fun σ H J => ∀ s H' C cl fp, Classical.choose (h s H' C cl fp) σ H J, fun s H' C cl fp => ⟨fun pins s' σ H'' Q I hw => ?_⟩, fun O p ρ k σ H Q J I hw g s H' C cl fp => ?_⟩
  · exact (Classical.choose_spec (h s H' C cl fp)).1.run pins s' σ H'' Q I (hw s H' C cl fp)
  · exact (Classical.choose_spec (h s H' C cl fp)).2 O p.nox ρ k σ H Q J I hw g
theorem blkT {scope : Scope} {e : List Expr} {w : WT} (h : Blk X scope fun Y => DTs Y e w) : ∃ t : TT, (Blk X scope fun Y => PTs Y e t) ∧ ∀ (O : Addr → Prop) (p : Pn) (ρ : En) (k : Kt) (σ : L2.St) (H : Hp) (Q : Bool → En → Kt → Prop) (J : Bool → Hp → Prop), Rel O p.nox ρ k σ H → w ρ k Q →
    (∀ b H' ρ' k', Rel O p.nox ρ' k' σ H' → Step p.nox ρ σ H ρ' σ H' → Q b ρ' k' → J b H') → t σ H J := by
  refine ⟨fun σ H J => ∀ s H' C cl fp, Classical.choose (h s H' C cl fp) σ H J, fun s H' C cl fp => ⟨fun pins s' σ H'' Q I hw => ?_⟩, fun O p ρ k σ H Q J I hw g s H' C cl fp => ?_⟩
  · exact (Classical.choose_spec (h s H' C cl fp)).1.run pins s' σ H'' Q I (hw s H' C cl fp)
  · exact (Classical.choose_spec (h s H' C cl fp)).2 O p.nox ρ k σ H Q J I hw g
theorem blkG {scope : Scope} {e : Expr} {is : List Nat} {w : WG} (h : Blk X scope fun Y => DG Y e is w) : ∃ t : TG, (Blk X scope fun Y => PG Y e t) ∧ ∀ (O : Addr → Prop) (p : Pn) (ρ : En) (k : Kt) (σ : L2.St) (H : Hp) (v : V) (d : D) (Q : En → Kt → Prop) (J : L2.St → Hp → Prop), Rel O p.nox ρ k σ H → Rep (Bn O ρ σ) H v d → w d ρ k Q →
    (∀ σ' H' ρ' k', Rel O p.nox ρ' k' σ' H' → Step p.nox ρ σ H ρ' σ' H' → (∀ i, i ∉ is → σ'[i]? = σ[i]?) → σ'.length = σ.length → Q ρ' k' → J σ' H') → t v σ H J := by
  refine ⟨fun v σ H J => ∀ s H' C cl fp, Classical.choose (h s H' C cl fp) v σ H J, fun s H' C cl fp => ⟨fun pins s' σ H'' v u Q I r hw => ?_⟩, fun O p ρ k σ H v d Q J I r hw g s H' C cl fp => ?_⟩
  · exact (Classical.choose_spec (h s H' C cl fp)).1.run pins s' σ H'' v u Q I r (hw s H' C cl fp)
  · exact (Classical.choose_spec (h s H' C cl fp)).2 O p.nox ρ k σ H v d Q J I r hw g
variable {elt tg iter : Expr} {ifs : List Expr} {scope : Scope} {own : List (Str × Nat)} {is : List Nat} {wit : WL} {wg : WG} {wt : WT} {we : WE}
theorem df_lc (hc : X.calm = true) (hN : X.N.Nodup) (hi : DI X tg iter wit) (ok : BlkOk X.N X.env.scope scope own) (hg : Blk X scope fun Y => DG Y tg is wg) (ht : Blk X scope fun Y => DTs Y ifs wt) (he : Blk X scope fun Y => DE Y elt we)
    (hiv : ∀ i ∈ is, i ∈ own.map (·.2)) (hs : ∀ x, foldedSetIterable iter X.env x = pure x := by intro _; rfl) : DF X (.ListComp elt [⟨tg, iter, ifs, 0⟩] scope pos) (wLc (own.map (·.2)) wit wg wt we) := by
  obtain ⟨wi, pi, ri⟩ := hi
  obtain ⟨g, pg, rg⟩ := blkG hg
  obtain ⟨tt, pt, rt⟩ := blkT ht
  obtain ⟨te, pe, re⟩ := blkE he
  exact ⟨_, pe_lc hc hN pi ok pg pt pe hs, fun O p _ ρ k σ H Q J I h f => lcProp hiv ri rg rt re O p ρ k σ H Q J I h f⟩
end

/-! ### statements -/
section
variable {X : Cx} {pos ps' : Pos}
theorem EndsOk.step {O : Addr → Prop} {p : Pn} {ρ ρ1 : En} {k1 : Kt} {σ σ1 : L2.St} {H H1 : Hp} {E : DEnds} {F : L2.Ends} (e : EndsOk O p ρ σ H E F) (s : Step p ρ σ H ρ1 σ1 H1) (hp : penI p k1 H1) : EndsOk O p ρ1 σ1 H1 E F where
  nx := fun ρ' k' σ' H' I s' h => e.nx ρ' k' σ' H' I (s.trans s' hp) h
  rt := fun v H' d k' kp pn r h => e.rt v H' d k' (fun a o h n1 n2 => kp a o (s.kp a o h n1 n2) n1 fun z => (s.nw a z).elim n2 fun q => by rw [q] at h; cases h) pn r h
  bk := fun ρ' k' σ' H' I s' h => e.bk ρ' k' σ' H' I (s.trans s' hp) h
  ct := fun ρ' k' σ' H' I s' h => e.ct ρ' k' σ' H' I (s.trans s' hp) h
def wNext : WS := fun E ρ k => E.nx ρ k
def wSeq (a b : WS) : WS := fun E ρ k => a { E with nx := fun ρ' k' => b E ρ' k' } ρ k
theorem dss_nil : DSs X [] wNext := ⟨_, pss_nil, fun O p _ ρ k σ H E F I h e => e.nx ρ k σ H I .refl h⟩
theorem dss_cons {st : Stmt} {rest : List Stmt} {a b : WS} (ha : DS X st a) (hb : DSs X rest b) : DSs X (st :: rest) (wSeq a b) := by
  obtain ⟨ta, pa, ra⟩ := ha
  obtain ⟨tb, pb, rb⟩ := hb
  refine ⟨_, pss_cons pa pb, fun O p _ ρ k σ H E F I h e => ?_⟩
  refine ra O p ρ k σ H _ _ I h ⟨fun ρ' k' σ' H' I' s' h' => rb O p ρ' k' σ' H' E F I' h' (e.step s' I'.pn), e.rt, e.bk, e.ct⟩
theorem dss_one {st : Stmt} {a : WS} (ha : DS X st a) : DSs X [st] a := let ⟨ta, pa, ra⟩ := ha; ⟨_, pss_one pa, ra⟩
def wBreak : WS := fun E ρ k => E.bk ρ k
def wCont : WS := fun E ρ k => E.ct ρ k
/-- code that is never reached -/
def wNever : WS := fun _ _ _ => False
def wDrop (a : WE) : WS := fun E ρ k => a ρ k fun _ ρ1 k1 => E.nx ρ1 k1
theorem ds_expr {e : Expr} {w : WE} (h : DE X e w) (hs : swapsWith e none pos.line X.env = pure false := by rfl) : DS X (.Expr e pos) (wDrop w) := by
  obtain ⟨t, pe, rr⟩ := h
  refine ⟨_, ps_expr pe hs, fun O p _ ρ k σ H E F I h e => ?_⟩
  exact rr O p ρ k σ H _ _ I h fun v H1 r ρ1 k1 I1 s1 _ h1 => e.nx ρ1 k1 σ H1 I1 s1 h1
def wRet (a : WE) : WS := fun E ρ k => a ρ k fun r ρ1 k1 => ∃ d ρ2, frz ρ1 r = some (d, ρ2) ∧ E.rt d k1
theorem ds_ret {e : Expr} {w : WE} (h : DE X e w) : DS X (.Return (some e) pos) (wRet w) := by
  obtain ⟨t, pe, rr⟩ := h
  refine ⟨_, ps_ret pe, fun O p _ ρ k σ H E F I h e => ?_⟩
  refine rr O p ρ k σ H _ _ I h fun v H1 r ρ1 k1 I1 s1 q1 h1 => ?_
  obtain ⟨d, ρ2, e1, h1⟩ := h1
  obtain ⟨I2, s2, r2⟩ := frz_ok I1 q1 e1
  exact e.rt v H1 d k1 (s1.trans s2 I1.pn).kp I1.pn I1.kx (r2.mono (fun _ _ h _ => h) fun b z => .inl (.inl z)) h1
def wRetN : WS := fun E _ k => E.rt .non k
def wIf (c : WT) (a b : WS) : WS := fun E ρ k => c ρ k fun t ρ1 k1 => if t = true then a E ρ1 k1 else b E ρ1 k1
theorem ds_if {c : Expr} {a b : List Stmt} {wc : WT} {wa wb : WS} (hc : DT X c wc) (ha : DSs X a wa) (hb : DSs X b wb) : DS X (.If c a b pos) (wIf wc wa wb) := by
  obtain ⟨tc, pc, rc⟩ := hc
  obtain ⟨ta, pa, ra⟩ := ha
  obtain ⟨tb, pb, rb⟩ := hb
  refine ⟨_, ps_if pc pa pb, fun O p _ ρ k σ H E F I h e => ?_⟩
  refine rc O p ρ k σ H _ _ I h fun b H1 ρ1 k1 I1 s1 h1 => ?_
  cases b with
  | true => exact ra O p ρ1 k1 σ H1 E F I1 h1 (e.step s1 I1.pn)
  | false => exact rb O p ρ1 k1 σ H1 E F I1 h1 (e.step s1 I1.pn)
/-- x = e -/
def wSet (i : Nat) (a : WE) : WS := fun E ρ k => a ρ k fun r ρ1 k1 => ∃ d ρ2, frz ρ1 r = some (d, ρ2) ∧ E.nx (ρ2.set i (.val d)) k1
theorem ds_set (i : Nat) {x : Str} {e : Expr} {w : WE} (hN : X.N.Nodup) (hi : X.N[i]? = some x) (hx : Loc X.env.scope x) (h : DE X e w) (hs : swapsWith e (some (.Name x ps')) pos.line X.env = pure false := by rfl)
    (hf : X.fn x = true ∨ X.env.scope.names.lookup x = some .local := by first | exact .inl rfl | exact .inr rfl | assumption) : DS X (.Assign [.Name x ps'] e pos) (wSet i w) := by
  obtain ⟨t, pe, rr⟩ := h
  refine ⟨_, ps_set hN hi hx pe hs hf, fun O p _ ρ k σ H E F I h e => ?_⟩
  refine rr O p ρ k σ H _ _ I h fun v H1 r ρ1 k1 I1 s1 q1 h1 => ?_
  obtain ⟨d, ρ2, e1, h1⟩ := h1
  obtain ⟨I2, s2, r2⟩ := frz_ok I1 q1 e1
  exact e.nx _ k1 _ H1 (I2.set i r2) ((s1.trans s2 I1.pn).trans (Step.set I2.len i) I2.pn) h1
/-- target = e -/
def wAsg (g : WG) (a : WE) : WS := fun E ρ k => a ρ k fun r ρ1 k1 => ∃ d ρ2, frz ρ1 r = some (d, ρ2) ∧ g d ρ2 k1 E.nx
theorem ds_asg {tg e : Expr} {is : List Nat} {g : WG} {w : WE} (h : DE X e w) (hg : DG X tg is g) (hs : swapsWithSole [tg] e pos.line X.env = pure false := by rfl) (hw : swappedStores [tg] e X.env = pure none := by rfl)
    (h1 : (assignEach [tg] X.env).map (·.2) = [assign tg X.env] := by rfl) : DS X (.Assign [tg] e pos) (wAsg g w) := by
  obtain ⟨t, pe, rr⟩ := h
  obtain ⟨tg', pg, rg⟩ := hg
  refine ⟨_, ps_asg pe pg hs hw h1, fun O p _ ρ k σ H E F I h e => ?_⟩
  refine rr O p ρ k σ H _ _ I h fun v H1 r ρ1 k1 I1 s1 q1 h1 => ?_
  obtain ⟨d, ρ2, e1, h1⟩ := h1
  obtain ⟨I2, s2, r2⟩ := frz_ok I1 q1 e1
  refine rg O p ρ2 k1 σ H1 v d _ _ I2 r2 h1 fun σ3 H3 ρ3 k3 I3 s3 _ _ h3 => ?_
  exact e.nx ρ3 k3 σ3 H3 I3 ((s1.trans s2 I1.pn).trans s3 I2.pn) h3
/-- x = a new list, owned -/
def wSetF (i : Nat) (a : WL) : WS := fun E ρ k => a ρ k fun zs ρ1 k1 => E.nx (ρ1.set i (.own (.l zs))) k1
theorem setFCore {st : Stmt} {i : Nat} {t : TE} {w : WL} (ps : PS X st (tAsg t (gName i)))
    (rr : ∀ (O : Addr → Prop) (p : Pn) [XL X p] (ρ : En) (k : Kt) (σ : L2.St) (H : Hp) (Q : List D → En → Kt → Prop) (J : VK), Rel O p ρ k σ H → w ρ k Q →
      (∀ a vs H' zs ρ' k', Rel (fun b => O b ∨ b = a) p ρ' k' σ H' → Step p ρ σ H ρ' σ H' → H a = none → H' a = some (.lst vs) → RepL (Bn (fun b => O b ∨ b = a) ρ' σ) H' vs zs → Q zs ρ' k' → J (.ref a) H') → t σ H J) : DS X st (wSetF i w) := by
  refine ⟨_, ps, fun O p _ ρ k σ H E F I h e => ?_⟩
  refine rr O p ρ k σ H _ _ I h fun a vs H1 zs ρ1 k1 I1 s1 n0 e1 r1 h1 => ?_
  obtain ⟨I2, ow⟩ := I1.setOwn i (fun z => (I.ot a z).1 n0) I.po e1 (I.fresh n0) (fun _ _ _ z => by cases z) (.l r1)
  refine e.nx _ k1 _ H1 I2 ⟨s1.kp, fun b z => ?_, s1.tr⟩ h1
  rcases ow b z with z | z
  · exact s1.nw b z
  · subst z
    exact .inr n0
end
end DL

set_option Elab.async false
set_option linter.all false
set_option maxRecDepth 100000
set_option maxHeartbeats 4000000
/-! ELd: stores of new lists, methods of owned lists, loops, slices, bodies of defs -/
namespace DL
open PySem PySem.Spec PyProof.Rows L2
section
variable {X : Cx} {pos ps' : Pos}
theorem ds_setF (i : Nat) {x : Str} {e : Expr} {w : WL} (hN : X.N.Nodup) (hi : X.N[i]? = some x) (hx : Loc X.env.scope x) (h : DF X e w) (hs : swapsWith e (some (.Name x ps')) pos.line X.env = pure false := by rfl)
    (hf : X.fn x = true ∨ X.env.scope.names.lookup x = some .local := by first | exact .inl rfl | exact .inr rfl | assumption) : DS X (.Assign [.Name x ps'] e pos) (wSetF i w) := by
  obtain ⟨t, pe, rr⟩ := h
  exact setFCore (ps_set hN hi hx pe hs hf) rr
theorem ds_setLc (i : Nat) {y : Str} {py pos spos : Pos} {elt tg iter : Expr} {ifs : List Expr} {scope : Scope} {own : List (Str × Nat)} {is : List Nat} {wit : WL} {wg : WG} {wt : WT} {we : WE} (hc : X.calm = true) (hN : X.N.Nodup) (hy : X.N[i]? = some y) (hyl : X.env.scope.names.lookup y = some .local)
    (hsw : swapsWith (.ListComp elt [⟨tg, iter, ifs, 0⟩] scope pos) (some (.Name y py)) spos.line X.env = pure true) (hi : DI X tg iter wit) (ok : BlkOk X.N X.env.scope scope own) (hg : Blk X scope fun Y => DG Y tg is wg) (ht : Blk X scope fun Y => DTs Y ifs wt) (he : Blk X scope fun Y => DE Y elt we)
    (hiv : ∀ i ∈ is, i ∈ own.map (·.2)) (hs : ∀ x, foldedSetIterable iter X.env x = pure x := by intro _; rfl) : DS X (.Assign [.Name y py] (.ListComp elt [⟨tg, iter, ifs, 0⟩] scope pos) spos) (wSetF i (wLc (own.map (·.2)) wit wg wt we)) := by
  obtain ⟨wi, pi, ri⟩ := hi
  obtain ⟨g, pg, rg⟩ := blkG hg
  obtain ⟨tt, pt, rt⟩ := blkT ht
  obtain ⟨te, pe, re⟩ := blkE he
  exact setFCore (ps_setLc hc hN hy hyl hsw pi ok pg pt pe hs) (lcProp hiv ri rg rt re)
/-- x op= e -/
def wAug (i : Nat) (f : F2) (a : WE) : WS := fun E ρ k => ∃ d, ρ[i]? = some (.val d) ∧ a ρ k fun r ρ1 k1 => ∃ e, deref ρ1 r = some e ∧ f d e fun z => E.nx (ρ1.set i (.val z)) k1
/-- x.append(e), x owned -/
def wAppend (i : Nat) (a : WE) : WS := fun E ρ k => (∃ ds, ρ[i]? = some (.own (.l ds))) ∧ a ρ k fun r ρ1 k1 => ∃ y ρ2 ds, frz ρ1 r = some (y, ρ2) ∧ ρ2[i]? = some (.own (.l ds)) ∧ ds.length < sizeLine ∧ E.nx (ρ2.set i (.own (.l (ds ++ [y])))) k1
theorem ds_append (i : Nat) {x : Str} {e : Expr} {w : WE} {apos cpos npos : Pos} (hN : X.N[i]? = some x) (hv : Vis X.env.scope x) (h : DE X e w) (hd : (x == ("__debug__" : Str)) = false := by decide) (hcd : (x == ("__classdict__" : Str)) = false := by decide)
    (hbase : attributeBase (.Name x npos) "append" X.env (eval (.Name x npos) X.env) = eval (.Name x npos) X.env := by rfl)
    (hfew : ((backTo cpos (starEach [e] X.env)).all (fun x => !x.1) && (backToKw cpos (keywordEach [] X.env)).all (fun x => x.1.isSome)
      && decide (([e] : List Expr).length + ([] : List Keyword).length + (if ([] : List Keyword).isEmpty then 0 else 1) < 30)) = true := by rfl)
    (hline : (apos.endLine == cpos.line) = true := by rfl) (hs : starEach [e] X.env = (false, eval e X.env) :: starEach [] X.env := by rfl) (hplain : (backTo cpos (starEach [] X.env)).any (·.1) = false := by rfl)
    (hsw : swapsWith (.Call (.Attribute (.Name x npos) "append" apos) [e] [] cpos) none pos.line X.env = pure false := by rfl) : DS X (.Expr (.Call (.Attribute (.Name x npos) "append" apos) [e] [] cpos) pos) (wAppend i w) := by
  obtain ⟨t, pe, rr⟩ := h
  refine ⟨_, ps_expr (pe_bm PySem.F.plainAttrs_list PySem.F.slot_list_append PySem.F.type_list_append mt_append (pe_var (i := i) hN hv hd hcd) (pa_cons pe pa_nil hs) hbase hfew hline hs hplain) hsw, fun O p _ ρ k σ H E F I h e => ?_⟩
  obtain ⟨⟨ds0, e0⟩, h⟩ := h
  obtain ⟨a, vs0, ea, ha, _⟩ := I.ownL e0
  refine ⟨.ref a, ea, .inl ⟨rfl, vs0, SqL.of ha⟩, ?_⟩
  refine rr O p ρ k σ H _ _ I h fun v H1 r ρ1 k1 I1 s1 q1 h1 => ?_
  obtain ⟨y, ρ2, ds, e1, e2, hz, h1⟩ := h1
  obtain ⟨I2, s2, r2⟩ := frz_ok I1 q1 e1
  obtain ⟨b, vs, eb, hb, _, rb⟩ := I2.ownL e2
  rw [ea] at eb
  cases eb
  refine ⟨a, vs, v, rfl, rfl, hb, by rw [rb.length]; exact hz, ?_⟩
  obtain ⟨I3, s3⟩ := I2.ownWrite (es := .l (ds ++ [y])) (ws := .lst (vs ++ [v])) e2 ea (.l (rb.append (.cons r2 .nil))) (fun _ _ _ z => by cases z)
  exact e.nx _ k1 σ _ I3 ((s1.trans s2 I1.pn).trans s3 I2.pn) h1
/-- x.extend(e), x owned, e a list of its own -/
def wExtend (i : Nat) (a : WE) : WS := fun E ρ k => (∃ ds, ρ[i]? = some (.own (.l ds))) ∧ a ρ k fun r ρ1 k1 => ∃ es ρ2 ds, frz ρ1 r = some (.lst es, ρ2) ∧ ρ2[i]? = some (.own (.l ds)) ∧ ds.length + es.length ≤ sizeLine ∧ E.nx (ρ2.set i (.own (.l (ds ++ es)))) k1
/-- x.pop(e), x owned -/
def wPopAt (i : Nat) (a : WE) : WE := fun ρ k Q => (∃ ds, ρ[i]? = some (.own (.l ds))) ∧ a ρ k fun r ρ1 k1 => ∃ (j : Int) (n : Nat) (y : D) (ds : List D), deref ρ1 r = some (.int j) ∧ ρ1[i]? = some (.own (.l ds)) ∧ -(2 ^ 63) ≤ j ∧ j < 2 ^ 63 ∧ seqIndex? j ds.length = some n ∧ ds[n]? = some y ∧ Q (.val y) (ρ1.set i (.own (.l (ds.eraseIdx n)))) k1
/-- x[e1] = e, x owned -/
def wSetIt (i : Nat) (b : WE) (a : WE) : WS := fun E ρ k => a ρ k fun r ρ1 k1 => ∃ y ρ2, frz ρ1 r = some (y, ρ2) ∧ (∃ ds, ρ2[i]? = some (.own (.l ds))) ∧ b ρ2 k1 fun r2 ρ3 k3 => ∃ (j : Int) (n : Nat) (ds : List D), deref ρ3 r2 = some (.int j) ∧ ρ3[i]? = some (.own (.l ds)) ∧ ixN ds.length j = some n ∧ E.nx (ρ3.set i (.own (.l (ds.set n y)))) k3
/-! ### loops -/
def forW (g : WG) (b : WS) (E : DEnds) : List D → En → Kt → Prop
  | [], ρ, k => E.nx ρ k
  | d :: ds, ρ, k => g d ρ k fun ρ1 k1 => b { nx := fun ρ2 k2 => forW g b E ds ρ2 k2, rt := E.rt, bk := E.nx, ct := fun ρ2 k2 => forW g b E ds ρ2 k2 } ρ1 k1
def wFor (it : WL) (g : WG) (b : WS) : WS := fun E ρ k => it ρ k fun ds ρ1 k1 => forW g b E ds ρ1 k1
/-- a loop, where the walk is known at this heap alone -/
theorem forPropF {wi : TI} {g : TG} {tb : TS} {wit : WL} {wg : WG} {wb : WS} {is : List Nat}
    (rg : ∀ (O : Addr → Prop) (p : Pn) [XL X p] (ρ : En) (k : Kt) (σ : L2.St) (H : Hp) (v : V) (d : D) (Q : En → Kt → Prop) (J : L2.St → Hp → Prop), Rel O p ρ k σ H → Rep (Bn O ρ σ) H v d → wg d ρ k Q →
      (∀ σ' H' ρ' k', Rel O p ρ' k' σ' H' → Step p ρ σ H ρ' σ' H' → (∀ i, i ∉ is → σ'[i]? = σ[i]?) → σ'.length = σ.length → Q ρ' k' → J σ' H') → g v σ H J)
    (rb : ∀ (O : Addr → Prop) (p : Pn) [XL X p] (ρ : En) (k : Kt) (σ : L2.St) (H : Hp) (E : DEnds) (F : L2.Ends), Rel O p ρ k σ H → wb E ρ k → EndsOk O p ρ σ H E F → tb F σ H)
    (O : Addr → Prop) (p : Pn) [XL X p] (ρ : En) (k : Kt) (σ : L2.St) (H : Hp) (E : DEnds) (F : L2.Ends)
    (ri : ∀ (Q : List D → En → Kt → Prop) (R' : It → Hp → Prop), wit ρ k Q → (∀ J H1 ds ρ1 k1, Rel O p ρ1 k1 σ H1 → Step p ρ σ H ρ1 σ H1 → ItOk (Bn O ρ1 σ) J ds H1 → Q ds ρ1 k1 → R' J H1) → wi σ H R')
    (h : wFor wit wg wb E ρ k) (e : EndsOk O p ρ σ H E F) : tFor wi g tb F σ H := by
  refine ri _ _ h fun It' H1 ds ρ1 k1 I1 s1 ok h1 => ?_
  refine ⟨fun i m σi Hi => i ≤ ds.length ∧ m = ds.length - i ∧ ∃ ρi ki, Rel O p ρi ki σi Hi ∧ Step p ρ1 σ H1 ρi σi Hi ∧ forW wg wb E (ds.drop i) ρi ki, ⟨ds.length, Nat.zero_le _, rfl, ρ1, k1, I1, .refl, h1⟩, ?_⟩
  rintro i m σi Hi ⟨hi, rfl, ρi, ki, Ii, si, hw⟩
  have okH : _ := ok (Bn O ρi σi) Hi (fun a o e n => si.kp a o e (fun z => n (.inl (I1.po a (.inl (penB.of z))))) fun z => n (.inr z)) (fun a z => z.elim (fun z => .inl (.inl z)) fun z => (si.nw a z).imp .inr id) Ii.btn
  obtain ⟨ok1, ok2, ok3⟩ := okH
  by_cases hlt : i < ds.length
  · refine .inr ⟨ok1 i hlt, fun σ' H' => ∃ ρi ki, Rel O p ρi ki σ' H' ∧ Step p ρ1 σ H1 ρi σ' H' ∧ forW wg wb E (ds.drop (i + 1)) ρi ki, fun σ' H' hN => ⟨ds.length - (i + 1), by omega, hlt, rfl, hN⟩, fun x H3 hy => ?_⟩
    obtain ⟨x3, rx⟩ := ok2 i x H3 ds[i] (List.getElem?_eq_getElem hlt) hy
    rw [List.drop_eq_getElem_cons hlt] at hw
    unfold forW at hw
    have I3 := Ii.ext x3
    have s3 := si.trans (Step.ext (ρ := ρi) (σ := σi) (p := p) x3) Ii.pn
    refine rg O p ρi ki σi H3 x ds[i] _ _ I3 rx hw fun σ4 H4 ρ4 k4 I4 s4 _ _ h4 => ?_
    have s14 := s3.trans s4 I3.pn
    have e4 := e.step (s1.trans s14 I1.pn) I4.pn
    exact rb O p ρ4 k4 σ4 H4 _ _ I4 h4 ⟨fun ρ' k' σ' H' I' s' h' => ⟨ρ', k', I', s14.trans s' I4.pn, h'⟩, e4.rt, fun ρ' k' σ' H' I' s' h' => e4.nx ρ' k' σ' H' I' s' h', fun ρ' k' σ' H' I' s' h' => ⟨ρ', k', I', s14.trans s' I4.pn, h'⟩⟩
  · have el : i = ds.length := by omega
    subst el
    rw [List.drop_length] at hw
    exact .inl ⟨ok3 _ (Nat.le_refl _), e.nx ρi ki σi Hi Ii (s1.trans si I1.pn) (by unfold forW at hw; exact hw)⟩
theorem ds_for {tg iter : Expr} {body : List Stmt} {is : List Nat} {wit : WL} {wg : WG} {wb : WS} (hp : PassesOwn (model X.prog X.w) X.A X.env X.xe) (hc : X.calm = true) (hi : DI X tg iter wit) (hg : DG X tg is wg) (hb : DSs X body wb)
    (hs : ∀ x, foldedSetIterable iter X.env x = pure x := by intro _; rfl) : DS X (.For tg iter body [] pos) (wFor wit wg wb) := by
  obtain ⟨wi, pi, ri⟩ := hi
  obtain ⟨g, pg, rg⟩ := hg
  obtain ⟨tb, pb, rb⟩ := hb
  exact ⟨_, ps_for hp hc pi pg pb hs, fun O p _ ρ k σ H E F I h e => forPropF rg rb O p ρ k σ H E F (fun Q R' h g => ri O p ρ k σ H Q R' I h g) h e⟩
def whW (c : WT) (b : WS) (E : DEnds) : Nat → En → Kt → Prop
  | 0, _, _ => False
  | n + 1, ρ, k => c ρ k fun t ρ1 k1 => if t = true then b { nx := fun ρ2 k2 => whW c b E n ρ2 k2, rt := E.rt, bk := E.nx, ct := fun ρ2 k2 => whW c b E n ρ2 k2 } ρ1 k1 else E.nx ρ1 k1
def wWhile (c : WT) (b : WS) : WS := fun E ρ k => ∃ n, whW c b E n ρ k
/-! ### a, b = e1, e2 -/
def wPar (i j : Nat) (a b : WE) : WS := fun E ρ k => a ρ k fun r ρ1 k1 => b ρ1 k1 fun r2 ρ2 k2 => ∃ ds ρ3, frzL ρ2 [r, r2] = some (ds, ρ3) ∧ ∃ x y, ds = [x, y] ∧ E.nx ((ρ3.set i (.val x)).set j (.val y)) k2
theorem ds_par (i j : Nat) {x y : Str} {a b : Expr} {wa wb : WE} {px py pt : Pos} {kt k2 pt2} (hc : X.calm = true) (hN : X.N.Nodup) (hi : X.N[i]? = some x) (hj : X.N[j]? = some y) (hij : i ≠ j)
    (hx : X.env.scope.names.lookup x = some .local) (hy : X.env.scope.names.lookup y = some .local) (ha : DE X a wa) (hb : DE X b wb)
    (hw : swappedStores [.Tuple [.Name x px, .Name y py] kt pt] (.Tuple [a, b] k2 pt2) X.env = pure (some [x, y])) (hs1 : starEach [a, b] X.env = (false, eval a X.env) :: starEach [b] X.env := by rfl) (hs2 : starEach [b] X.env = (false, eval b X.env) :: starEach [] X.env := by rfl)
    (hs : swapsWithSole [.Tuple [.Name x px, .Name y py] kt pt] (.Tuple [a, b] k2 pt2) pos.line X.env = pure false := by rfl) : DS X (.Assign [.Tuple [.Name x px, .Name y py] kt pt] (.Tuple [a, b] k2 pt2) pos) (wPar i j wa wb) := by
  obtain ⟨ta, pa, ra⟩ := ha
  obtain ⟨tb, pb, rb⟩ := hb
  refine ⟨_, ps_par hc hN hi hj hij hx hy (pa_cons pa (pa_cons pb pa_nil hs2) hs1) hw hs, fun O p _ ρ k σ H E F I h e => ?_⟩
  refine ra O p ρ k σ H _ _ I h fun v H1 r ρ1 k1 I1 s1 q1 h1 => ?_
  refine rb O p ρ1 k1 σ H1 _ _ I1 h1 fun u H2 r2 ρ2 k2 I2 s2 q2 h2 => ?_
  obtain ⟨ds, ρ3, e1, x', y', rfl, h2⟩ := h2
  obtain ⟨I3, s3, r3⟩ := frzL_ok I2 (.cons (RRep.step I1 s2 q1) (.cons q2 .nil)) e1
  refine ⟨v, u, rfl, ?_⟩
  cases r3 with
  | cons rx ry =>
    cases ry with
    | cons ry rn =>
      have I4 := I3.set i rx
      have s4 : Step p ρ3 σ H2 (ρ3.set i (.val x')) (σ.set i (some v)) H2 := Step.set I3.len i
      have I5 := I4.set j (Rep.step I3 s4 ry)
      exact e.nx _ k2 _ H2 I5 ((((s1.trans s2 I1.pn).trans s3 I2.pn).trans s4 I3.pn).trans (Step.set I4.len j) I4.pn) h2
/-- a, b = a new list, e2 -/
def wParF (i j : Nat) (a : WL) (b : WE) : WS := fun E ρ k => a ρ k fun zs ρ1 k1 => b ρ1 k1 fun r2 ρ2 k2 => ∃ y ρ3, frz ρ2 r2 = some (y, ρ3) ∧ E.nx ((ρ3.set i (.own (.l zs))).set j (.val y)) k2
/-- a, b = e1, a new list -/
def wParG (i j : Nat) (a : WE) (b : WL) : WS := fun E ρ k => a ρ k fun r ρ1 k1 => b ρ1 k1 fun zs ρ2 k2 => ∃ x ρ3, frz ρ2 r = some (x, ρ3) ∧ E.nx ((ρ3.set i (.val x)).set j (.own (.l zs))) k2
/-- a, b = two new lists -/
def wParH (i j : Nat) (a b : WL) : WS := fun E ρ k => a ρ k fun zs ρ1 k1 => b ρ1 k1 fun ys ρ2 k2 => E.nx ((ρ2.set i (.own (.l zs))).set j (.own (.l ys))) k2
/-! ### slices -/
def wNoPart : WO := fun ρ k Q => Q none ρ k
def wPart (a : WE) : WO := fun ρ k Q => a ρ k fun r ρ1 k1 => ∃ i, deref ρ1 r = some (.int i) ∧ Q (some i) ρ1 k1
theorem do_none : DO X none wNoPart := ⟨_, po_none, fun O p _ ρ k σ H Q J I h g => g none H ρ k I .refl h⟩
theorem do_some {e : Expr} {w : WE} (h : DE X e w) : DO X (some e) (wPart w) := by
  obtain ⟨t, pe, rr⟩ := h
  refine ⟨_, po_some pe, fun O p _ ρ k σ H Q J I h g => ?_⟩
  refine rr O p ρ k σ H _ _ I h fun v H1 r ρ1 k1 I1 s1 q1 h1 => ?_
  obtain ⟨i, e1, h1⟩ := h1
  exact ⟨i, (deref_ok I1 q1 e1).int, g (some i) H1 ρ1 k1 I1 s1 h1⟩
abbrev FS := D → Option Int → Option Int → (D → Prop) → Prop
def RealS (r : V → Option Int → Option Int → Hp → VK → Prop) (f : FS) : Prop := ∀ (B : Addr → Prop) (H : Hp) (x : V) (d : D) (lo hi : Option Int) (P : D → Prop) (J : VK), (∀ b, B b → H b ≠ none) → RepS B H x d → f d lo hi P → (∀ v H' z, AExt H H' → Rep B H' v z → P z → J v H') → r x lo hi H J
def wSl (f : FS) (a : WE) (l u : WO) : WE := fun ρ k Q => a ρ k fun x ρ1 k1 => l ρ1 k1 fun lo ρ2 k2 => u ρ2 k2 fun hi ρ3 k3 => ∃ d, deref ρ3 x = some d ∧ f d lo hi fun z => Q (.val z) ρ3 k3
theorem de_slice {e : Expr} {lo hi : Option Expr} {p2 : Pos} {r : V → Option Int → Option Int → Hp → VK → Prop} {f : FS} {wa : WE} {wl wu : WO} (ho : SlR X r) (hr : RealS r f) (ha : DE X e wa) (hl : DO X lo wl) (hu : DO X hi wu) : DE X (.Subscript e (.Slice lo hi none p2) pos) (wSl f wa wl wu) := by
  obtain ⟨ta, pa, ra⟩ := ha
  obtain ⟨tl, pl, rl⟩ := hl
  obtain ⟨tu, pu, ru⟩ := hu
  refine ⟨_, pe_slice ho pa pl pu, fun O p _ ρ k σ H Q J I h g => ?_⟩
  refine ra O p ρ k σ H _ _ I h fun v H1 x ρ1 k1 I1 s1 q1 h1 => ?_
  refine rl O p ρ1 k1 σ H1 _ _ I1 h1 fun lo H2 ρ2 k2 I2 s2 h2 => ?_
  refine ru O p ρ2 k2 σ H2 _ _ I2 h2 fun hi H3 ρ3 k3 I3 s3 h3 => ?_
  obtain ⟨d, e1, h3⟩ := h3
  have s13 := s2.trans s3 I2.pn
  refine hr (Bn O ρ3 σ) H3 v d lo hi _ _ I3.bt (deref_ok I3 (RRep.step I1 s13 q1) e1) h3 fun w H4 z x4 r4 h4 => ?_
  exact g w H4 (.val z) ρ3 k3 (I3.ext x4) ((s1.trans s13 I1.pn).trans (.ext x4) I3.pn) r4 h4
end

/-! ### bodies of defs -/
section
variable {P : Program} {w : World} {K : PySem.W.Frag} {mg : Str → Option Value} {base : Heap}
def startE (n : Nat) (ds : List D) : En := ds.map .val ++ List.replicate (n - ds.length) .un
theorem startE_val {n : Nat} {ds : List D} {i : Nat} {d : D} (h : (startE n ds)[i]? = some (.val d)) : ds[i]? = some d := by
  unfold startE at h
  by_cases hi : i < (ds.map Slot.val).length
  · rw [List.getElem?_append_left hi, List.getElem?_map] at h
    cases q : ds[i]? with
    | none => rw [q] at h; cases h
    | some x => rw [q] at h; cases h; rfl
  · rw [List.getElem?_append_right (by omega)] at h
    obtain ⟨h1, h2⟩ := List.getElem?_eq_some_iff.mp h
    rw [List.getElem_replicate] at h2
    cases h2
theorem startE_own {n : Nat} {ds : List D} {i : Nat} {d : OD} (h : (startE n ds)[i]? = some (.own d)) : False := by
  unfold startE at h
  by_cases hi : i < (ds.map Slot.val).length
  · rw [List.getElem?_append_left hi, List.getElem?_map] at h
    cases q : ds[i]? with
    | none => rw [q] at h; cases h
    | some x => rw [q] at h; cases h
  · rw [List.getElem?_append_right (by omega)] at h
    obtain ⟨h1, h2⟩ := List.getElem?_eq_some_iff.mp h
    rw [List.getElem_replicate] at h2
    cases h2
theorem rel_start {O : Addr → Prop} {p : Pn} {k : Kt} {H : Hp} {N : List Str} {vs : List V} {ds : List D} (r : RepL O H vs ds) (ot : ∀ a, O a → H a ≠ none ∧ ∀ us, H a ≠ some (.tup us)) (pn : penI p k H) (po : ∀ a, penC p a → O a) (kx : k.2.xc = p.xc) (bs : Kept p H) : Rel O p (startE N.length ds) k (L2.start N vs) H := by
  have no : ∀ a, Own (startE N.length ds) (L2.start N vs) a → False := fun a ⟨i, es, h, _⟩ => startE_own h
  refine ⟨?_, fun i d h => ?_, fun i es h => (startE_own h).elim, fun i j a es fs h _ _ _ => (startE_own h).elim, ot, pn, po, kx, bs, fun a z => (no a z).elim, fun i C ns ds a h _ => (startE_own h).elim⟩
  · unfold startE L2.start
    rw [List.length_append, List.length_append, List.length_map, List.length_map, List.length_replicate, List.length_replicate, r.length]
  · obtain ⟨v, e, q⟩ := r.get (startE_val h)
    refine ⟨v, ?_, q.mono (fun _ _ h _ => h) fun a z => .inl (z.elim id fun z => (no a z).elim)⟩
    unfold L2.start
    have hi : i < vs.length := (List.getElem?_eq_some_iff.mp e).1
    rw [List.getElem?_append_left (by rw [List.length_map]; exact hi), List.getElem?_map, e]
    rfl
/-- what a def's body stands in -/
def Pn.at (p : Pn) (H : Hp) : Pn := { p with base := H }
theorem kept_at {p : Pn} {H : Hp} : Kept (p.at H) H := fun _ _ h _ => h
end
end DL

set_option Elab.async false
set_option linter.all false
set_option maxRecDepth 100000
set_option maxHeartbeats 4000000
/-! ELlt: a list comprehension with two fors -/
namespace DL
open PySem PySem.Spec PyProof.Rows L2
def lc2W (vs vs1 : List Nat) (tg : WG) (ts : WT) (it1 : WL) (tg1 : WG) (ts1 : WT) (el : WE) : List D → List D → En → Kt → (List D → En → Kt → Prop) → Prop
  | [], acc, ρ, k, Q => Q acc ρ k
  | d :: ds, acc, ρ, k, Q => tg d ρ k fun ρ1 k1 => ts ρ1 k1 fun b ρ2 k2 => if b = true then it1 ρ2 k2 fun es ρ3 k3 => lcW vs1 tg1 ts1 el es acc (wipeE ρ3 vs1) k3 fun acc' ρ4 k4 => lc2W vs vs1 tg ts it1 tg1 ts1 el ds acc' (wipeE ρ4 vs) k4 Q
      else lc2W vs vs1 tg ts it1 tg1 ts1 el ds acc (wipeE ρ2 vs) k2 Q
def wLc2 (vs vs1 : List Nat) (it : WL) (tg : WG) (ts : WT) (it1 : WL) (tg1 : WG) (ts1 : WT) (el : WE) : WL := fun ρ k Q => it ρ k fun ds ρ1 k1 => lc2W vs vs1 tg ts it1 tg1 ts1 el ds [] (wipeE ρ1 vs) (nxk k1) fun zs ρ2 k2 => Q zs ρ2 (rsk k1 k2)
theorem Step.hat {p : Pn} {ρ ρ1 : En} {σ σ1 : L2.St} {H H1 : Hp} {L : Addr} {o : HO} (s : Step p ρ σ H ρ1 σ1 H1) (h : H L ≠ none) : Step p ρ σ (upd H L o) ρ1 σ1 (upd H1 L o) where
  kp := fun a x e n1 n2 => by
    by_cases z : a = L
    · rw [z, upd_same] at e ⊢; exact e
    · rw [upd_ne z] at e ⊢; exact s.kp a x e n1 n2
  nw := fun a z => (s.nw a z).imp id fun e => by
    have n : a ≠ L := fun y => h (by rw [← y]; exact e)
    rw [upd_ne n]; exact e
  tr := fun a e => by
    by_cases z : a = L
    · rw [z, upd_same]; simp
    · rw [upd_ne z] at e ⊢; exact s.tr a e
theorem upd_upd {H : Hp} {L : Addr} {o o' : HO} : upd (upd H L o) L o' = upd H L o' := by
  funext a
  by_cases z : a = L
  · rw [z, upd_same, upd_same]
  · rw [upd_ne z, upd_ne z, upd_ne z]
theorem upd_as {H : Hp} {L : Addr} {o : HO} (e : H L = some o) : upd H L o = H := by
  funext a
  by_cases z : a = L
  · rw [z, upd_same, e]
  · rw [upd_ne z]
/-- how the slots stand while a comprehension's loop runs: its new list at L -/
structure LcSt (O : Addr → Prop) (L : Addr) (p : Pn) (vs : List Nat) (ρB : En) (σB : L2.St) (HB : Hp) (σ : L2.St) (ρ : En) (k : Kt) (H : Hp) (av : List V) (acc : List D) : Prop where
  rel : Rel (fun b => O b ∨ b = L) p.nox ρ k (wipe σ vs) H
  un : ∀ (j : Nat) (s : Slot), j ∈ vs → ρ[j]? = some s → s = .un
  st : Step p.nox ρB σB HB ρ (wipe σ vs) H
  eL : H L = some (.lst av)
  ra : RepL (Bn (fun b => O b ∨ b = L) ρ (wipe σ vs)) H av acc
/-- one loop of a comprehension, on a new list at L that may hold items already -/
theorem lcInner {g : TG} {tt : TT} {te : TE} {vs is : List Nat} {wg : WG} {wt : WT} {we : WE} (hiv : ∀ i ∈ is, i ∈ vs)
    (rg : ∀ (O : Addr → Prop) (p : Pn) (ρ : En) (k : Kt) (σ : L2.St) (H : Hp) (v : V) (d : D) (Q : En → Kt → Prop) (J : L2.St → Hp → Prop), Rel O p.nox ρ k σ H → Rep (Bn O ρ σ) H v d → wg d ρ k Q →
      (∀ σ' H' ρ' k', Rel O p.nox ρ' k' σ' H' → Step p.nox ρ σ H ρ' σ' H' → (∀ i, i ∉ is → σ'[i]? = σ[i]?) → σ'.length = σ.length → Q ρ' k' → J σ' H') → g v σ H J)
    (rt : ∀ (O : Addr → Prop) (p : Pn) (ρ : En) (k : Kt) (σ : L2.St) (H : Hp) (Q : Bool → En → Kt → Prop) (J : Bool → Hp → Prop), Rel O p.nox ρ k σ H → wt ρ k Q → (∀ b H' ρ' k', Rel O p.nox ρ' k' σ H' → Step p.nox ρ σ H ρ' σ H' → Q b ρ' k' → J b H') → tt σ H J)
    (re : ∀ (O : Addr → Prop) (p : Pn) (ρ : En) (k : Kt) (σ : L2.St) (H : Hp) (Q : R → En → Kt → Prop) (J : VK), Rel O p.nox ρ k σ H → we ρ k Q → (∀ v H' r ρ' k', Rel O p.nox ρ' k' σ H' → Step p.nox ρ σ H ρ' σ H' → RRep O ρ' σ H' v r → Q r ρ' k' → J v H') → te σ H J)
    {O : Addr → Prop} {L : Addr} {p : Pn} {ρB : En} {σB : L2.St} {HB : Hp} {σb : L2.St} {ρ6 : En} {k6 : Kt} {H0 : Hp} {av0 : List V} {acc0 ds : List D} {It' : It} {Q : List D → En → Kt → Prop} {NxE : Hp → Prop}
    (nP : ¬ penB p.nox L) (bL : p.nox.base L = none) (hLB : HB L = none)
    (I6 : Rel (fun b => O b ∨ b = L) p.nox ρ6 k6 σb H0) (S6 : Step p.nox ρB σB HB ρ6 σb H0) (e6 : H0 L = some (.lst av0)) (ra6 : RepL (Bn (fun b => O b ∨ b = L) ρ6 σb) H0 av0 acc0)
    (ok : ItOk (Bn (fun b => O b ∨ b = L) ρ6 σb) It' ds H0)
    (hw : lcW vs wg wt we ds acc0 (wipeE ρ6 vs) k6 Q)
    (hE : ∀ H acc ρi ki av, LcSt O L p vs ρB σB HB σb ρi ki H av acc → Q acc ρi ki → NxE H) :
    ∃ W1 : Nat → Nat → Hp → Prop, (∃ m, W1 0 m H0) ∧ ∀ j k H, W1 j k H →
      (It'.stop j H ∧ NxE H) ∨ (It'.go j H ∧ ∃ Nx1 : Hp → Prop, (∀ H', Nx1 H' → ∃ k', k' < k ∧ W1 (j + 1) k' H') ∧ ∀ x H', It'.yld j H x H' → g x (wipe σb vs) H' fun σ3 H5 => wipe σ3 vs = wipe σb vs ∧ tt σ3 H5 fun b H6 =>
        if b = true then te σ3 H6 fun y H7 => ∃ acc, H7 L = some (.lst acc) ∧ acc.length < sizeLine ∧ Nx1 (upd H7 L (.lst (acc ++ [y]))) else Nx1 H6) := by
  have hwl : (wipe σb vs).length = σb.length := wipe_length σb vs
  obtain ⟨I0, ow0⟩ := (I6.wiped (vs := vs) hwl fun i hi => wipe_at hi)
  have swp : Step p.nox ρ6 σb H0 (wipeE ρ6 vs) (wipe σb vs) H0 := ⟨fun _ _ h _ _ => h, fun b z => .inl (ow0 b z), fun _ h => h⟩
  have hup : upd H0 L (.lst av0) = H0 := upd_as e6
  have L0 : LcSt O L p vs ρB σB HB σb (wipeE ρ6 vs) k6 H0 av0 acc0 := ⟨I0, fun j s hj e => by
    rcases wipeE_some e with ⟨_, e⟩ | ⟨n, _⟩
    · exact e
    · exact absurd hj n, S6.trans swp I6.pn, e6, ra6.mono (fun _ _ h _ => h) fun b z => .inl (z.imp id (ow0 b))⟩
  refine ⟨fun i m H' => i ≤ ds.length ∧ m = ds.length - i ∧ ∃ acc ρi ki av, LcSt O L p vs ρB σB HB σb ρi ki H' av acc ∧ Step p.nox (wipeE ρ6 vs) (wipe σb vs) H0 ρi (wipe σb vs) (upd H' L (.lst av0)) ∧ lcW vs wg wt we (ds.drop i) acc ρi ki Q,
    ⟨ds.length, Nat.zero_le _, rfl, acc0, _, _, av0, L0, by rw [hup]; exact .refl, hw⟩, ?_⟩
  rintro i m H2 ⟨hi, rfl, acc, ρi, ki, av, S, sh, hw⟩
  obtain ⟨Ii, un, si, eL, ra⟩ := S
  have okH : _ := ok (Bn (fun b => O b ∨ b = L) ρi (wipe σb vs)) H2 (fun a o e n => by
      have nL : a ≠ L := fun z => n (.inl (.inr z))
      have := sh.kp a o e (fun z => n (.inl (I0.po a (.inl (penB.of z))))) (fun z => n (.inr (ow0 a z)))
      rwa [upd_ne nL] at this) (fun a z => by
    rcases z with z | z
    · exact .inl (.inl z)
    · exact (sh.nw a z).imp (fun z => .inr (ow0 a z)) id) Ii.btn
  obtain ⟨ok1, ok2, ok3⟩ := okH
  by_cases hlt : i < ds.length
  · refine .inr ⟨ok1 i hlt, fun H' => ∃ acc ρi ki av, LcSt O L p vs ρB σB HB σb ρi ki H' av acc ∧ Step p.nox (wipeE ρ6 vs) (wipe σb vs) H0 ρi (wipe σb vs) (upd H' L (.lst av0)) ∧ lcW vs wg wt we (ds.drop (i + 1)) acc ρi ki Q, fun H' hN => ⟨ds.length - (i + 1), by omega, hlt, rfl, hN⟩, fun x H3 hy => ?_⟩
    obtain ⟨x3, rx⟩ := ok2 i x H3 ds[i] (List.getElem?_eq_getElem hlt) hy
    rw [List.drop_eq_getElem_cons hlt] at hw
    unfold lcW at hw
    have pn' : ∀ {ρ' : En} {σ' : L2.St} {H' : Hp} {k' : Kt} {bv : List V}, Rel (fun b => O b ∨ b = L) p.nox ρ' k' σ' H' → H' L = some (.lst bv) → penI p.nox k' (upd H' L (.lst av0)) := fun {ρ' σ' H' k' bv} I' e' =>
      I'.pn.keep (fun a ha => upd_ne fun y => nP (by rw [← y]; exact ha)) fun a q e => by
        by_cases y : a = L
        · rw [y, e'] at e; unfold LamX.CodeO at e; cases e
        · rw [upd_ne y]; exact e
    have I3 := Ii.ext x3
    have s3' : Step p.nox ρi (wipe σb vs) H2 ρi (wipe σb vs) H3 := Step.ext x3
    have s3 := si.trans s3' Ii.pn
    have ra3 := ra.ext x3
    have nn : ∀ {H' : Hp} {bv : List V}, H' L = some (.lst bv) → H' L ≠ none := fun e => by rw [e]; simp
    have sh3 := sh.trans (s3'.hat (L := L) (o := .lst av0) (nn eL)) (pn' Ii eL)
    have eL3 : H3 L = some (.lst av) := x3 _ _ eL
    refine rg _ p ρi ki (wipe σb vs) H3 x ds[i] _ _ I3 rx hw fun σ4 H4 ρ4 k4 I4 s4 u4 l4 h4 => ?_
    have we4 : wipe σ4 vs = wipe σb vs := by
      have : wipe σ4 vs = wipe (wipe σb vs) vs := wipe_eq l4 fun j hj => u4 j fun z => hj (hiv j z)
      rw [this]
      exact wipe_eq hwl fun j hj => wipe_at hj
    refine ⟨we4, ?_⟩
    have Lk : ∀ {ρ' : En} {σ' : L2.St} {H' H'' : Hp} {ρ'' : En} {σ'' : L2.St} {k'}, Rel (fun b => O b ∨ b = L) p.nox ρ' k' σ' H' → Step p.nox ρ' σ' H' ρ'' σ'' H'' → H' L = some (.lst av) → H'' L = some (.lst av) := fun {ρ' σ' H' H'' ρ'' σ'' k'} I' s' e' =>
      s'.kp L _ e' (fun z => nP (penB.of z)) fun z => I'.ownNot z (.inr rfl)
    have eL4 := Lk I3 s4 eL3
    have sh4 := sh3.trans (s4.hat (L := L) (o := .lst av0) (nn eL3)) (pn' I3 eL3)
    refine rt _ p ρ4 k4 σ4 H4 _ _ I4 h4 fun b H5 ρ5 k5 I5 s5 h5 => ?_
    have eL5 : H5 L = some (.lst av) := Lk I4 s5 eL4
    have sh5 := sh4.trans (s5.hat (L := L) (o := .lst av0) (nn eL4)) (pn' I4 eL4)
    have ra5 := RepL.step I4 s5 (RepL.step I3 s4 ra3)
    have s15 := (s3.trans s4 I3.pn).trans s5 I4.pn
    -- the turn's end
    have fin : ∀ {ρ' : En} {k' : Kt} {H' : Hp} {av' : List V} {acc' : List D}, Rel (fun b => O b ∨ b = L) p.nox ρ' k' σ4 H' → Step p.nox ρB σB HB ρ' σ4 H' → Step p.nox (wipeE ρ6 vs) (wipe σb vs) H0 ρ' σ4 (upd H' L (.lst av0)) → H' L = some (.lst av') → RepL (Bn (fun b => O b ∨ b = L) ρ' σ4) H' av' acc' →
        lcW vs wg wt we (ds.drop (i + 1)) acc' (wipeE ρ' vs) k' Q → ∃ acc ρi ki av, LcSt O L p vs ρB σB HB σb ρi ki H' av acc ∧ Step p.nox (wipeE ρ6 vs) (wipe σb vs) H0 ρi (wipe σb vs) (upd H' L (.lst av0)) ∧ lcW vs wg wt we (ds.drop (i + 1)) acc ρi ki Q := fun {ρ' k' H' av' acc'} I' s' t' e' r' h' => by
      obtain ⟨Iw, ow⟩ := I'.wiped (vs := vs) (σ' := wipe σb vs) (by rw [← we4, wipe_length]) fun j hj => by rw [← we4]; exact wipe_at hj
      refine ⟨acc', wipeE ρ' vs, k', av', ⟨Iw, fun j s hj e => ?_, s'.trans ⟨fun _ _ h _ _ => h, fun b z => .inl (ow b z), fun _ h => h⟩ I'.pn, e', r'.mono (fun _ _ h _ => h) fun b z => .inl (z.imp id (ow b))⟩, t'.trans ⟨fun _ _ h _ _ => h, fun b z => .inl (ow b z), fun _ h => h⟩ (pn' I' e'), h'⟩
      rcases wipeE_some e with ⟨_, e⟩ | ⟨n, _⟩
      · exact e
      · exact absurd hj n
    cases b with
    | false =>
      rw [if_neg Bool.false_ne_true] at h5 ⊢
      exact fin I5 s15 sh5 eL5 ra5 h5
    | true =>
      rw [if_pos rfl] at h5 ⊢
      refine re _ p ρ5 k5 σ4 H5 _ _ I5 h5 fun v H6 r ρ6' k6' I6' s6 q6 h6 => ?_
      obtain ⟨y, ρ7, e7, hz, h7⟩ := h6
      obtain ⟨I7, s7, r7⟩ := frz_ok I6' q6 e7
      have eL6 : H6 L = some (.lst av) := Lk I5 s6 eL5
      have ra7 := RepL.step I6' s7 (RepL.step I5 s6 ra5)
      refine ⟨av, eL6, by rw [ra5.length]; exact hz, ?_⟩
      have I8 := I7.write (L := L) (o := .lst (av ++ [v])) (.inr rfl) nP bL (fun q e => by rw [eL6] at e; unfold LamX.CodeO at e; cases e)
      have s8 := ((s15.trans s6 I5.pn).trans s7 I6'.pn).updNew (o := .lst (av ++ [v])) hLB
      have sh7 := (sh5.trans (s6.hat (L := L) (o := .lst av0) (nn eL5)) (pn' I5 eL5)).trans (s7.hat (L := L) (o := .lst av0) (nn eL6)) (pn' I6' eL6)
      refine fin I8 s8 (by rw [upd_upd]; exact sh7) upd_same ((ra7.append (.cons r7 .nil)).mono (fun a o e n => ?_) fun a z => .inl z) h7
      rw [upd_ne fun z => n (by rw [z]; exact .inl (.inr rfl))]
      exact e
  · have e : i = ds.length := by omega
    subst e
    rw [List.drop_length] at hw
    unfold lcW at hw
    exact .inl ⟨ok3 _ (Nat.le_refl _), hE H2 acc ρi ki av ⟨Ii, un, si, eL, ra⟩ hw⟩
theorem lcProp2 {X : Cx} {wi wi1 : TI} {g g1 : TG} {tt tt1 : TT} {te : TE} {vs vs1 is is1 : List Nat} {wit wit1 : WL} {wg wg1 : WG} {wt wt1 : WT} {we : WE} (hiv : ∀ i ∈ is, i ∈ vs) (hiv1 : ∀ i ∈ is1, i ∈ vs1) (hvv : ∀ i ∈ vs1, i ∈ vs)
    (ri : ∀ (O : Addr → Prop) (p : Pn) [XL X p] (ρ : En) (k : Kt) (σ : L2.St) (H : Hp) (Q : List D → En → Kt → Prop) (R' : It → Hp → Prop), Rel O p ρ k σ H → wit ρ k Q → (∀ J H1 ds ρ1 k1, Rel O p ρ1 k1 σ H1 → Step p ρ σ H ρ1 σ H1 → ItOk (Bn O ρ1 σ) J ds H1 → Q ds ρ1 k1 → R' J H1) → wi σ H R')
    (ri1 : ∀ (O : Addr → Prop) (p : Pn) (ρ : En) (k : Kt) (σ : L2.St) (H : Hp) (Q : List D → En → Kt → Prop) (R' : It → Hp → Prop), Rel O p.nox ρ k σ H → wit1 ρ k Q → (∀ J H1 ds ρ1 k1, Rel O p.nox ρ1 k1 σ H1 → Step p.nox ρ σ H ρ1 σ H1 → ItOk (Bn O ρ1 σ) J ds H1 → Q ds ρ1 k1 → R' J H1) → wi1 σ H R')
    (rg : ∀ (O : Addr → Prop) (p : Pn) (ρ : En) (k : Kt) (σ : L2.St) (H : Hp) (v : V) (d : D) (Q : En → Kt → Prop) (J : L2.St → Hp → Prop), Rel O p.nox ρ k σ H → Rep (Bn O ρ σ) H v d → wg d ρ k Q →
      (∀ σ' H' ρ' k', Rel O p.nox ρ' k' σ' H' → Step p.nox ρ σ H ρ' σ' H' → (∀ i, i ∉ is → σ'[i]? = σ[i]?) → σ'.length = σ.length → Q ρ' k' → J σ' H') → g v σ H J)
    (rg1 : ∀ (O : Addr → Prop) (p : Pn) (ρ : En) (k : Kt) (σ : L2.St) (H : Hp) (v : V) (d : D) (Q : En → Kt → Prop) (J : L2.St → Hp → Prop), Rel O p.nox ρ k σ H → Rep (Bn O ρ σ) H v d → wg1 d ρ k Q →
      (∀ σ' H' ρ' k', Rel O p.nox ρ' k' σ' H' → Step p.nox ρ σ H ρ' σ' H' → (∀ i, i ∉ is1 → σ'[i]? = σ[i]?) → σ'.length = σ.length → Q ρ' k' → J σ' H') → g1 v σ H J)
    (rt : ∀ (O : Addr → Prop) (p : Pn) (ρ : En) (k : Kt) (σ : L2.St) (H : Hp) (Q : Bool → En → Kt → Prop) (J : Bool → Hp → Prop), Rel O p.nox ρ k σ H → wt ρ k Q → (∀ b H' ρ' k', Rel O p.nox ρ' k' σ H' → Step p.nox ρ σ H ρ' σ H' → Q b ρ' k' → J b H') → tt σ H J)
    (rt1 : ∀ (O : Addr → Prop) (p : Pn) (ρ : En) (k : Kt) (σ : L2.St) (H : Hp) (Q : Bool → En → Kt → Prop) (J : Bool → Hp → Prop), Rel O p.nox ρ k σ H → wt1 ρ k Q → (∀ b H' ρ' k', Rel O p.nox ρ' k' σ H' → Step p.nox ρ σ H ρ' σ H' → Q b ρ' k' → J b H') → tt1 σ H J)
    (re : ∀ (O : Addr → Prop) (p : Pn) (ρ : En) (k : Kt) (σ : L2.St) (H : Hp) (Q : R → En → Kt → Prop) (J : VK), Rel O p.nox ρ k σ H → we ρ k Q → (∀ v H' r ρ' k', Rel O p.nox ρ' k' σ H' → Step p.nox ρ σ H ρ' σ H' → RRep O ρ' σ H' v r → Q r ρ' k' → J v H') → te σ H J)
    (O : Addr → Prop) (p : Pn) [XL X p] (ρ : En) (k : Kt) (σ : L2.St) (H : Hp) (Q : List D → En → Kt → Prop) (J : VK) (I : Rel O p ρ k σ H) (h : wLc2 vs vs1 wit wg wt wit1 wg1 wt1 we ρ k Q)
    (f : ∀ a ws H' zs ρ' k', Rel (fun b => O b ∨ b = a) p ρ' k' σ H' → Step p ρ σ H ρ' σ H' → H a = none → H' a = some (.lst ws) → RepL (Bn (fun b => O b ∨ b = a) ρ' σ) H' ws zs → Q zs ρ' k' → J (.ref a) H') : tLc2 wi g tt wi1 g1 tt1 te vs vs1 σ H J := by
  refine ri O p ρ k σ H _ _ I h fun It' H1 ds ρ1 k1 I1' s1 ok h1 => fun L hL => ?_
  have I1 : Rel O p.nox ρ1 (nxk k1) σ H1 := I1'.nox
  have s1n : Step p.nox ρ σ H ρ1 σ H1 := s1.nox
  have hwl : (wipe σ vs).length = σ.length := wipe_length σ vs
  obtain ⟨I1w, ow1⟩ := (I1.wiped (vs := vs) hwl fun i hi => wipe_at hi)
  have s1w : Step p.nox ρ1 σ H1 (wipeE ρ1 vs) (wipe σ vs) H1 := ⟨fun _ _ h _ _ => h, fun b z => .inl (ow1 b z), fun _ h => h⟩
  have I2 := I1w.more (o := .lst []) hL
  have nP : ¬ penB p.nox L := pen_ne I1.pn hL
  have unw : ∀ {ρ' : En} (j : Nat) (s : Slot), j ∈ vs → (wipeE ρ' vs)[j]? = some s → s = .un := fun {ρ'} j s hj e => by
    rcases wipeE_some e with ⟨_, e⟩ | ⟨n, _⟩
    · exact e
    · exact absurd hj n
  refine ⟨fun i m H' => i ≤ ds.length ∧ m = ds.length - i ∧ ∃ acc ρi ki av, LcSt O L p vs (wipeE ρ1 vs) (wipe σ vs) H1 σ ρi ki H' av acc ∧ lc2W vs vs1 wg wt wit1 wg1 wt1 we (ds.drop i) acc ρi ki (fun zs ρ2 k2 => Q zs ρ2 (rsk k1 k2)),
    ⟨ds.length, Nat.zero_le _, rfl, [], wipeE ρ1 vs, nxk k1, [], ⟨I2, fun j s => unw j s, (Step.refl).updNew hL, upd_same, .nil⟩, h1⟩, ?_⟩
  rintro i m H2 ⟨hi, rfl, acc, ρi, ki, av, ⟨Ii, un, si, eL, ra⟩, hw⟩
  have okH : _ := ok (Bn (fun b => O b ∨ b = L) ρi (wipe σ vs)) H2 (fun a o e n => si.kp a o e (fun z => n (.inl (I1.po a (.inl (penB.of z))))) fun z => n (.inr (ow1 a z))) (fun a z => by
    rcases z with (z | z) | z
    · exact .inl (.inl z)
    · exact .inr (by rw [z]; exact hL)
    · exact (si.nw a z).imp (fun z => .inr (ow1 a z)) id) Ii.btn
  obtain ⟨ok1, ok2, ok3⟩ := okH
  by_cases hlt : i < ds.length
  · refine .inr ⟨ok1 i hlt, fun H' => ∃ acc ρi ki av, LcSt O L p vs (wipeE ρ1 vs) (wipe σ vs) H1 σ ρi ki H' av acc ∧ lc2W vs vs1 wg wt wit1 wg1 wt1 we (ds.drop (i + 1)) acc ρi ki (fun zs ρ2 k2 => Q zs ρ2 (rsk k1 k2)), fun H' hN => ⟨ds.length - (i + 1), by omega, hlt, rfl, hN⟩, fun x H3 hy => ?_⟩
    obtain ⟨x3, rx⟩ := ok2 i x H3 ds[i] (List.getElem?_eq_getElem hlt) hy
    rw [List.drop_eq_getElem_cons hlt] at hw
    unfold lc2W at hw
    have I3 := Ii.ext x3
    have s3 := si.trans (Step.ext (ρ := ρi) (σ := wipe σ vs) (p := p.nox) x3) Ii.pn
    have ra3 := ra.ext x3
    refine rg _ p ρi ki (wipe σ vs) H3 x ds[i] _ _ I3 rx hw fun σ4 H4 ρ4 k4 I4 s4 u4 l4 h4 => ?_
    have we4 : wipe σ4 vs = wipe σ vs := by
      have : wipe σ4 vs = wipe (wipe σ vs) vs := wipe_eq l4 fun j hj => u4 j fun z => hj (hiv j z)
      rw [this]
      exact wipe_eq hwl fun j hj => wipe_at hj
    refine ⟨we4, ?_⟩
    have Lk : ∀ {ρ' : En} {σ' : L2.St} {H' H'' : Hp} {ρ'' : En} {σ'' : L2.St} {k'}, Rel (fun b => O b ∨ b = L) p.nox ρ' k' σ' H' → Step p.nox ρ' σ' H' ρ'' σ'' H'' → H' L = some (.lst av) → H'' L = some (.lst av) := fun {ρ' σ' H' H'' ρ'' σ'' k'} I' s' e' =>
      s'.kp L _ e' (fun z => nP (penB.of z)) fun z => I'.ownNot z (.inr rfl)
    refine rt _ p ρ4 k4 σ4 H4 _ _ I4 h4 fun b H5 ρ5 k5 I5 s5 h5 => ?_
    have eL5 : H5 L = some (.lst av) := Lk I4 s5 (Lk I3 s4 (x3 _ _ eL))
    have ra5 := RepL.step I4 s5 (RepL.step I3 s4 ra3)
    have s15 : Step p.nox (wipeE ρ1 vs) (wipe σ vs) H1 ρ5 σ4 H5 := (s3.trans s4 I3.pn).trans s5 I4.pn
    -- the turn's end
    have fin : ∀ {σx : L2.St} {ρ' : En} {k' : Kt} {H' : Hp} {av' : List V} {acc' : List D}, (wipe σ vs).length = σx.length → (∀ j, j ∉ vs → (wipe σ vs)[j]? = σx[j]?) → Rel (fun b => O b ∨ b = L) p.nox ρ' k' σx H' → Step p.nox (wipeE ρ1 vs) (wipe σ vs) H1 ρ' σx H' → H' L = some (.lst av') → RepL (Bn (fun b => O b ∨ b = L) ρ' σx) H' av' acc' →
        lc2W vs vs1 wg wt wit1 wg1 wt1 we (ds.drop (i + 1)) acc' (wipeE ρ' vs) k' (fun zs ρ2 k2 => Q zs ρ2 (rsk k1 k2)) → ∃ acc ρi ki av, LcSt O L p vs (wipeE ρ1 vs) (wipe σ vs) H1 σ ρi ki H' av acc ∧ lc2W vs vs1 wg wt wit1 wg1 wt1 we (ds.drop (i + 1)) acc ρi ki (fun zs ρ2 k2 => Q zs ρ2 (rsk k1 k2)) := fun {σx ρ' k' H' av' acc'} q1 q2 I' s' e' r' h' => by
      obtain ⟨Iw, ow⟩ := I'.wiped (vs := vs) (σ' := wipe σ vs) q1 q2
      exact ⟨acc', wipeE ρ' vs, k', av', ⟨Iw, fun j s => unw j s, s'.trans ⟨fun _ _ h _ _ => h, fun b z => .inl (ow b z), fun _ h => h⟩ I'.pn, e', r'.mono (fun _ _ h _ => h) fun b z => .inl (z.imp id (ow b))⟩, h'⟩
    have q1 : (wipe σ vs).length = σ4.length := by rw [← we4, wipe_length]
    have q2 : ∀ j, j ∉ vs → (wipe σ vs)[j]? = σ4[j]? := fun j hj => by rw [← we4]; exact wipe_at hj
    cases b with
    | false =>
      rw [if_neg Bool.false_ne_true] at h5 ⊢
      exact fin q1 q2 I5 s15 eL5 ra5 h5
    | true =>
      rw [if_pos rfl] at h5 ⊢
      refine ri1 _ p ρ5 k5 σ4 H5 _ _ I5 h5 fun J1 H6 es ρ6 k6 I6 s6 ok1 h6 => ?_
      have eL6 : H6 L = some (.lst av) := Lk I5 s6 eL5
      have ra6 := RepL.step I5 s6 ra5
      have s16 := s15.trans s6 I5.pn
      refine lcInner hiv1 rg1 rt1 re nP (I1.fresh hL) hL I6 s16 eL6 ra6 ok1 h6 fun H7 acc7 ρ7 k7 av7 S7 h7 => ?_
      obtain ⟨I7, un7, s7, eL7, ra7⟩ := S7
      exact fin (q1.trans (wipe_length σ4 vs1).symm) (fun j hj => (q2 j hj).trans (wipe_at fun z => hj (hvv j z)).symm) I7 s7 eL7 ra7 h7
  · have e : i = ds.length := by omega
    subst e
    rw [List.drop_length] at hw
    refine .inl ⟨ok3 _ (Nat.le_refl _), ?_⟩
    have back : Rel (fun b => O b ∨ b = L) p.nox ρi ki σ H2 ∧ ∀ b, Own ρi σ b → Own ρi (wipe σ vs) b := by
      have hs : ∀ (j : Nat) (s : Slot), ρi[j]? = some s → s ≠ .un → σ[j]? = (wipe σ vs)[j]? := fun j s e n => by
        have hj : j ∉ vs := fun z => n (un j s z e)
        exact (wipe_at hj).symm
      have o1 : ∀ b, Own ρi σ b → Own ρi (wipe σ vs) b := fun b ⟨j, es, h1, h2⟩ => ⟨j, es, h1, by rw [← hs j _ h1 (by simp)]; exact h2⟩
      have sb : ∀ b, Bn (fun b => O b ∨ b = L) ρi σ b → Bn (fun b => O b ∨ b = L) ρi (wipe σ vs) b ∨ H2 b = none := fun b z => .inl (z.imp id (o1 b))
      refine ⟨⟨by rw [Ii.len, hwl], fun j x hj => ?_, fun j es hj => ?_, fun j l b es fs hj hl' h1 h2 => ?_, Ii.ot, Ii.pn, Ii.po, Ii.kx, Ii.bs, fun b z => Ii.bo b (o1 b z), fun j C ns es b hj hb => Ii.sf j C ns es b hj (by rw [← hs j _ hj (by simp)]; exact hb)⟩, o1⟩
      · obtain ⟨u, e1, q⟩ := Ii.val j x hj
        exact ⟨u, by rw [hs j _ hj (by simp)]; exact e1, q.mono (fun _ _ h _ => h) sb⟩
      · obtain ⟨a, us, e1, e2, e3, q⟩ := Ii.own j es hj
        exact ⟨a, us, by rw [hs j _ hj (by simp)]; exact e1, e2, e3, q.mono (fun _ _ h _ => h) sb⟩
      · exact Ii.inj j l b es fs hj hl' (by rw [← hs j _ hj (by simp)]; exact h1) (by rw [← hs l _ hl' (by simp)]; exact h2)
    obtain ⟨Ib, ob⟩ := back
    have sE : Step p.nox ρ σ H ρi σ H2 := (s1n.trans s1w I1.pn).trans (si.trans ⟨fun _ _ h _ _ => h, fun b z => .inl (ob b z), fun _ h => h⟩ Ii.pn) I1w.pn
    exact f L av H2 acc ρi (rsk k1 ki) (Ib.unnox I1') sE.unnox (s1.new hL) eL (ra.mono (fun _ _ h _ => h) fun b z => .inl (z.imp id (ob b))) (by unfold lc2W at hw; exact hw)
section
variable {X : Cx} {pos : Pos}
theorem blkI {scope : Scope} {tg e : Expr} {w : WL} (h : Blk X scope fun Y => DI Y tg e w) : ∃ t : TI, (Blk X scope fun Y => PI Y tg e t) ∧ ∀ (O : Addr → Prop) (p : Pn) (ρ : En) (k : Kt) (σ : L2.St) (H : Hp) (Q : List D → En → Kt → Prop) (R' : It → Hp → Prop), Rel O p.nox ρ k σ H → w ρ k Q →
    (∀ J H1 ds ρ1 k1, Rel O p.nox ρ1 k1 σ H1 → Step p.nox ρ σ H ρ1 σ H1 → ItOk (Bn O ρ1 σ) J ds H1 → Q ds ρ1 k1 → R' J H1) → t σ H R' := by
  refine ⟨fun σ H J => ∀ s H' C cl fp, Classical.choose (h s H' C cl fp) σ H J, fun s H' C cl fp => ⟨fun pins s' σ H'' Q I hw => ?_⟩, fun O p ρ k σ H Q J I hw g s H' C cl fp => ?_⟩
  · exact (Classical.choose_spec (h s H' C cl fp)).1.run pins s' σ H'' Q I (hw s H' C cl fp)
  · exact (Classical.choose_spec (h s H' C cl fp)).2 O p.nox ρ k σ H Q J I hw g
variable {elt tg iter tg1 iter1 : Expr} {ifs ifs1 : List Expr} {scope : Scope} {own : List (Str × Nat)} {is is1 vs1 : List Nat} {wit wit1 : WL} {wg wg1 : WG} {wt wt1 : WT} {we : WE}
theorem ds_setLc2 (i : Nat) {y : Str} {py spos : Pos} (hc : X.calm = true) (hN : X.N.Nodup) (hy : X.N[i]? = some y) (hyl : X.env.scope.names.lookup y = some .local)
    (hsw : swapsWith (.ListComp elt [⟨tg, iter, ifs, 0⟩, ⟨tg1, iter1, ifs1, 0⟩] scope pos) (some (.Name y py)) spos.line X.env = pure true) (hi : DI X tg iter wit) (ok : BlkOk X.N X.env.scope scope own) (hvv : ∀ i ∈ vs1, i ∈ own.map (·.2)) (hg : Blk X scope fun Y => DG Y tg is wg) (ht : Blk X scope fun Y => DTs Y ifs wt)
    (hi1 : Blk X scope fun Y => DI Y tg1 iter1 wit1) (hg1 : Blk X scope fun Y => DG Y tg1 is1 wg1) (ht1 : Blk X scope fun Y => DTs Y ifs1 wt1) (he : Blk X scope fun Y => DE Y elt we)
    (hiv : ∀ i ∈ is, i ∈ own.map (·.2)) (hiv1 : ∀ i ∈ is1, i ∈ vs1) (hs : ∀ x, foldedSetIterable iter X.env x = pure x := by intro _; rfl) (hs1 : ∀ env x, foldedSetIterable iter1 env x = pure x := by intro _ _; rfl) :
    DS X (.Assign [.Name y py] (.ListComp elt [⟨tg, iter, ifs, 0⟩, ⟨tg1, iter1, ifs1, 0⟩] scope pos) spos) (wSetF i (wLc2 (own.map (·.2)) vs1 wit wg wt wit1 wg1 wt1 we)) := by
  obtain ⟨wi, pi, ri⟩ := hi
  obtain ⟨wi1, pi1, ri1⟩ := blkI hi1
  obtain ⟨g, pg, rg⟩ := blkG hg
  obtain ⟨tt, pt, rt⟩ := blkT ht
  obtain ⟨g1, pg1, rg1⟩ := blkG hg1
  obtain ⟨tt1, pt1, rt1⟩ := blkT ht1
  obtain ⟨te, pe, re⟩ := blkE he
  exact setFCore (ps_setLc2 hc hN hy hyl hsw pi ok hvv pg pt pi1 pg1 pt1 pe hs hs1) (lcProp2 hiv hiv1 hvv ri ri1 rg rg1 rt rt1 re)
end
end DL

set_option Elab.async false
set_option linter.all false
set_option maxRecDepth 100000
set_option maxHeartbeats 4000000
/-! ELe: operators, subscripts, built-ins by trees -/
namespace DL
open PySem PySem.Spec PyProof.Rows L2
/-! ### trees as the library's data -/
mutual
def py : D → PyData
  | .non => .none
  | .bl b => .bool b
  | .int i => .int i
  | .str x => .str x
  | .lst xs => .list (pyL xs)
  | .tup xs => .tuple (pyL xs)
  | .ty _ => .none
  | .obj _ => .none
  | .dK _ _ => .none
  | .dT _ _ => .none
  | .ins _ _ _ => .none
def pyL : List D → List PyData
  | [] => []
  | x :: xs => py x :: pyL xs
end
mutual
/-- a tree of None, bools, ints, texts, lists, tuples -/
def isPy : D → Bool
  | .ty _ => false
  | .obj _ => false
  | .dK _ _ => false
  | .dT _ _ => false
  | .ins _ _ _ => false
  | .lst xs => isPyL xs
  | .tup xs => isPyL xs
  | _ => true
def isPyL : List D → Bool
  | [] => true
  | x :: xs => isPy x && isPyL xs
end
mutual
theorem Rep.dp {K : PySem.W.Frag} {B : Addr → Prop} {H : Hp} : ∀ {v : V} {d : D}, Rep B H v d → isPy d = true → Dp K H v (py d)
  | _, _, .non, _ => .non
  | _, _, .bl b, _ => .bl b
  | _, _, .int i, _ => .int i
  | _, _, .str x, _ => .str x
  | _, _, .ty _, h => by simp [isPy] at h
  | _, _, .obj _, h => by simp [isPy] at h
  | _, _, .dK _ _ _ _ _, h => by simp [isPy] at h
  | _, _, .dT _ _ _ _ _, h => by simp [isPy] at h
  | _, _, .ins _ _ _ _ _, h => by simp [isPy] at h
  | _, _, .lst _ e r, h => by
    rw [py]
    exact .lst (SqL.of e) (RepL.dp r (by rw [isPy] at h; exact h))
  | _, _, .tup _ e r, h => by
    rw [py]
    exact .tup (SqT.of e) (RepL.dp r (by rw [isPy] at h; exact h))
theorem RepL.dp {K : PySem.W.Frag} {B : Addr → Prop} {H : Hp} : ∀ {v : List V} {d : List D}, RepL B H v d → isPyL d = true → DpAll K H v (pyL d)
  | _, _, .nil, _ => by rw [pyL]; exact .nil
  | _, _, .cons r t, h => by
    rw [isPyL, Bool.and_eq_true] at h
    rw [pyL]
    exact .cons (Rep.dp r h.1) (RepL.dp t h.2)
end
theorem RepS.dp {K : PySem.W.Frag} {B : Addr → Prop} {H : Hp} {v : V} {d : D} (h : RepS B H v d) (e : isPy d = true) : Dp K H v (py d) := by
  cases h with
  | any h => exact Rep.dp h e
  | own e1 r eo =>
    cases r with
    | l r =>
      cases eo
      show Dp K H _ (py (.lst _))
      rw [py]
      exact .lst (SqL.of e1) (RepL.dp r (by have e : isPy (.lst _) = true := e; rw [isPy] at e; exact e))
    | k _ _ => cases eo; exact absurd e (by simp [OD.toD, isPy])
    | t _ _ => cases eo; exact absurd e (by simp [OD.toD, isPy])
    | i _ _ => cases eo; exact absurd e (by simp [OD.toD, isPy])
def okD (d : D) : Bool := isPy d && SeqAt.shaped (py d)
def eqD (d e : D) : Bool := PyData.eqv (py d) (py e)
/-- flat things -/
def flatD : D → Bool
  | .non => true
  | .bl _ => true
  | .int _ => true
  | .str _ => true
  | _ => false
theorem flat_rep {B : Addr → Prop} {H : Hp} {v : V} {d : D} (r : Rep B H v d) (h : flatD d = true) : flatV v = true := by
  cases r <;> first | rfl | (simp [flatD] at h)
theorem flat_repS {B : Addr → Prop} {H : Hp} {v : V} {d : D} (r : RepS B H v d) (h : flatD d = true) : Rep B H v d := by
  cases r with
  | any r => exact r
  | own _ r eo => cases r <;> cases eo <;> exact absurd h (by simp [OD.toD, flatD])
theorem flat_repL {B : Addr → Prop} {H : Hp} : ∀ {vs : List V} {ds : List D}, RepL B H vs ds → ds.all flatD = true → vs.all flatV = true
  | _, _, .nil, _ => rfl
  | _, _, .cons r t, h => by
    rw [List.all_cons, Bool.and_eq_true] at h ⊢
    exact ⟨flat_rep r h.1, flat_repL t h.2⟩
theorem flat_eq {B : Addr → Prop} {H : Hp} {x y : V} {d e : D} (r : Rep B H x d) (q : Rep B H y e) (h : flatD d = true) (h' : flatD e = true) : eqV x y = eqD d e := by
  cases r <;> first
    | (simp [flatD] at h; done)
    | (cases q <;> first
        | (simp [flatD] at h'; done)
        | (simp [eqV, eqD, py, PyData.eqv]; done)
        | rfl)
theorem flat_any {B : Addr → Prop} {H : Hp} {x : V} {d : D} (rx : Rep B H x d) (hx : flatD d = true) : ∀ {vs : List V} {ds : List D}, RepL B H vs ds → ds.all flatD = true → inV x vs = ds.any fun y => eqD y d
  | _, _, .nil, _ => rfl
  | _, _, .cons r t, h => by
    rw [List.all_cons, Bool.and_eq_true] at h
    have ih := flat_any rx hx t h.2
    unfold inV at ih ⊢
    rw [List.any_cons, List.any_cons, ih, flat_eq r rx h.1 hx]

section
variable {X : Cx}
/-! ### + -/
abbrev rAddAll (X : Cx) : R2 := fun x y H Q => rI0 (fun i j => .int (i + j)) x y H Q ∨ (∃ i j, x = .str i ∧ y = .str j ∧ i.length + j.length ≤ sizeLine ∧ Q (.str (i ++ j)) H) ∨ rCat x y H Q ∨ rCatA X.K x y H Q
theorem op_addAll : OpR X (binaryOp .Add) (rAddAll X) := OpR.or op_add (OpR.or op_add_str (OpR.or op_cat op_catA))
def fAdd : F2 := fun d e P => match d, e with
  | .int i, .int j => P (.int (i + j))
  | .str a, .str b => a.length + b.length ≤ sizeLine ∧ P (.str (a ++ b))
  | .lst a, .lst b => a.length + b.length ≤ sizeLine ∧ P (.lst (a ++ b))
  | .tup a, .tup b => a.length + b.length ≤ sizeLine ∧ P (.tup (a ++ b))
  | _, _ => False
theorem real_add : Real2 (rAddAll X) fAdd := by
  intro B H x y d e P J hb rx ry h g
  unfold fAdd at h
  split at h
  · exact .inl ⟨_, _, rx.int, ry.int, g _ H _ (AExt.refl H) (.int _) h⟩
  · exact .inr (.inl ⟨_, _, rx.str, ry.str, h.1, g _ H _ (AExt.refl H) (.str _) h.2⟩)
  · obtain ⟨a, vs, rfl, ea, la⟩ := rx.lst
    obtain ⟨b, ws, rfl, eb, lb⟩ := ry.lst
    refine .inr (.inr (.inl ⟨a, b, vs, ws, rfl, rfl, ea, eb, by rw [la.length, lb.length]; exact h.1, fun q hq => ?_⟩))
    exact g _ _ _ (AExt.upd hq) (.lst (fresh_not hb hq) upd_same ((la.append lb).ext (AExt.upd hq))) h.2
  · obtain ⟨a, vs, rfl, na, ea, la⟩ := rx.tup
    obtain ⟨b, ws, rfl, nb, eb, lb⟩ := ry.tup
    refine .inr (.inr (.inr ⟨a, b, vs, ws, rfl, rfl, SqT.of ea, SqT.of eb, by rw [la.length, lb.length]; exact h.1, fun e1 => ?_, fun e1 e2 => ?_, fun e1 e2 q hq => ?_⟩))
    · subst e1
      cases la
      exact g _ H _ (AExt.refl H) (.tup nb eb lb) (by simpa using h.2)
    · subst e2
      cases lb
      exact g _ H _ (AExt.refl H) (.tup na ea la) (by simpa using h.2)
    · exact g _ _ _ (AExt.upd hq) (.tup (fresh_not hb hq) upd_same ((la.append lb).ext (AExt.upd hq))) h.2
  · exact h.elim
def fCat : D → D → (List D → Prop) → Prop := fun d e P => match d, e with
  | .lst a, .lst b => a.length + b.length ≤ sizeLine ∧ P (a ++ b)
  | _, _ => False
/-! ### - * // % ** -/
def fSub : F2 := fun d e P => match d, e with
  | .int i, .int j => P (.int (i - j))
  | _, _ => False
theorem real_sub : Real2 (rI0 fun i j => .int (i - j)) fSub := by
  intro B H x y d e P J hb rx ry h g
  unfold fSub at h
  split at h
  · exact ⟨_, _, rx.int, ry.int, g _ H _ (AExt.refl H) (.int _) h⟩
  · exact h.elim
abbrev rMulAll (X : Cx) : R2 := fun x y H Q => rI CMul (fun i j => .int (i * j)) x y H Q ∨ rRep x y H Q ∨ rRepT X.K x y H Q
theorem op_mulAll : OpR X (binaryOp .Mult) (rMulAll X) := OpR.or op_mul (OpR.or op_rep op_repT)
def fMul : F2 := fun d e P => match d, e with
  | .int i, .int j => CMul i j ∧ P (.int (i * j))
  | .lst a, .int k => (-(2 ^ 63) ≤ k ∧ k < 2 ^ 63 ∧ a.length * k.toNat ≤ sizeLine) ∧ P (.lst (List.replicate k.toNat a).flatten)
  | .tup a, .int k => (a ≠ [] ∧ 2 ≤ k ∧ k ≤ 1000 ∧ a.length ≤ 1000) ∧ P (.tup (List.replicate k.toNat a).flatten)
  | _, _ => False
theorem rep_flat {B : Addr → Prop} {H : Hp} {vs : List V} {ds : List D} (r : RepL B H vs ds) : ∀ n : Nat, RepL B H (List.replicate n vs).flatten (List.replicate n ds).flatten
  | 0 => by simpa using RepL.nil
  | n + 1 => by
    rw [List.replicate_succ, List.replicate_succ, List.flatten_cons, List.flatten_cons]
    exact r.append (rep_flat r n)
theorem real_mul : Real2 (rMulAll X) fMul := by
  intro B H x y d e P J hb rx ry h g
  unfold fMul at h
  split at h
  · exact .inl ⟨_, _, rx.int, ry.int, h.1, g _ H _ (AExt.refl H) (.int _) h.2⟩
  · obtain ⟨a, vs, rfl, ea, la⟩ := rx.lst
    refine .inr (.inl ⟨a, _, vs, rfl, ry.int, ea, h.1.1, h.1.2.1, by rw [la.length]; exact h.1.2.2, fun q hq => ?_⟩)
    exact g _ _ _ (AExt.upd hq) (.lst (fresh_not hb hq) upd_same ((rep_flat la _).ext (AExt.upd hq))) h.2
  · obtain ⟨a, vs, rfl, _, ea, la⟩ := rx.tup
    obtain ⟨⟨h1, h2, h3, h4⟩, h5⟩ := h
    refine .inr (.inr ⟨a, _, vs, rfl, ry.int, SqT.of ea, fun e => h1 (by subst e; cases la; rfl), h2, h3, by rw [la.length]; exact h4, fun q hq => ?_⟩)
    exact g _ _ _ (AExt.upd hq) (.tup (fresh_not hb hq) upd_same ((rep_flat la _).ext (AExt.upd hq))) h5
  · exact h.elim
def fRep : D → D → (List D → Prop) → Prop := fun d e P => match d, e with
  | .lst a, .int k => (-(2 ^ 63) ≤ k ∧ k < 2 ^ 63 ∧ a.length * k.toNat ≤ sizeLine) ∧ P (List.replicate k.toNat a).flatten
  | _, _ => False
def fDiv : F2 := fun d e P => match d, e with
  | .int i, .int j => CDivN i j ∧ P (.int (i.fdiv j))
  | _, _ => False
def fMod : F2 := fun d e P => match d, e with
  | .int i, .int j => j ≠ 0 ∧ P (.int (i.fmod j))
  | _, _ => False
def fPow : F2 := fun d e P => match d, e with
  | .int i, .int j => CPow i j ∧ P (.int (i ^ j.toNat))
  | _, _ => False
def fIpI (f : Int → Int → Int) : F2 := fun d e P => match d, e with
  | .int i, .int j => P (.int (f i j))
  | _, _ => False
def fNeg : F1 := fun d P => match d with
  | .int i => P (.int (-i))
  | _ => False
theorem real_neg : Real1 (rU fun i => .int (-i)) fNeg := by
  intro B H x d P J hb rx h g
  unfold fNeg at h
  split at h
  · exact ⟨_, rx.int, g _ H _ (AExt.refl H) (.int _) h⟩
  · exact h.elim
/-! ### comparisons -/
def fCmp (c : Int → Int → Bool) : F2 := fun d e P => match d, e with
  | .int i, .int j => P (.bl (c i j))
  | _, _ => False
theorem real_cmp {c : Int → Int → Bool} : Real2 (rI0 fun i j => .bl (c i j)) (fCmp c) := by
  intro B H x y d e P J hb rx ry h g
  unfold fCmp at h
  split at h
  · exact ⟨_, _, rx.int, ry.int, g _ H _ (AExt.refl H) (.bl _) h⟩
  · exact h.elim
def fEq : F2 := fun d e P => okD d = true ∧ okD e = true ∧ P (.bl (eqD d e))
theorem real_eq {K : PySem.W.Frag} : Real2 (rEqD K) fEq := by
  intro B H x y d e P J hb rx ry h g
  obtain ⟨h1, h2, h3⟩ := h
  unfold okD at h1 h2
  rw [Bool.and_eq_true] at h1 h2
  exact ⟨py d, py e, rx.dp h1.1, ry.dp h2.1, h1.2, h2.2, g _ H _ (AExt.refl H) (.bl _) h3⟩
def fNe : F2 := fun d e P => okD d = true ∧ okD e = true ∧ P (.bl (!eqD d e))
theorem real_ne {K : PySem.W.Frag} : Real2 (rNeD K) fNe := by
  intro B H x y d e P J hb rx ry h g
  obtain ⟨h1, h2, h3⟩ := h
  unfold okD at h1 h2
  rw [Bool.and_eq_true] at h1 h2
  exact ⟨py d, py e, rx.dp h1.1, ry.dp h2.1, h1.2, h2.2, g _ H _ (AExt.refl H) (.bl _) h3⟩
abbrev rInAll (X : Cx) : R2 := fun x y H Q => rIn X.K false x y H Q ∨ rInD X.K x y H Q
theorem op_inAll (hu : X.A.units + 65 < cLine) : OpR X (compareOp .In) (rInAll X) := OpR.or op_in_seq (op_inD hu)
abbrev rNotInAll (X : Cx) : R2 := fun x y H Q => rIn X.K true x y H Q ∨ rNotInD X.K x y H Q
theorem op_notInAll (hu : X.A.units + 65 < cLine) : OpR X (compareOp .NotIn) (rNotInAll X) := OpR.or op_notIn_seq (op_notInD hu)
def memD (x : D) (ys : List D) : Bool := ys.any fun y => eqD y x
def inOk (x y : D) : Option (List D) := match y with
  | .lst ys => if (flatD x && ys.all flatD) || (okD x && okD (.lst ys)) then some ys else none
  | .tup ys => if flatD x && ys.all flatD then some ys else none
  | _ => none
def fIn : F2 := fun x y P => ∃ ys, inOk x y = some ys ∧ P (.bl (memD x ys))
def fNotIn : F2 := fun x y P => ∃ ys, inOk x y = some ys ∧ P (.bl (!memD x ys))
theorem pyL_any {x : D} : ∀ ys : List D, ((pyL ys).any fun z => PyData.eqv z (py x)) = memD x ys
  | [] => rfl
  | y :: ys => by
    unfold memD
    rw [pyL, List.any_cons, List.any_cons, pyL_any ys]
    rfl
theorem in_core {x y : V} {d e : D} {ys : List D} {B : Addr → Prop} {H : Hp} {K : PySem.W.Frag} (rx : RepS B H x d) (ry : RepS B H y e) (h : inOk d e = some ys) :
    (∃ p xs, y = .ref p ∧ (SqL K H p xs ∨ SqT K H p xs) ∧ flatV x = true ∧ xs.all flatV = true ∧ inV x xs = memD d ys) ∨
    (∃ d' ds', Dp K H x d' ∧ Dp K H y (.list ds') ∧ SeqAt.shaped d' = true ∧ SeqAt.shaped (.list ds') = true ∧ (ds'.any fun z => PyData.eqv z d') = memD d ys) := by
  unfold inOk at h
  split at h
  · split at h
    · cases h
      rename_i hc
      rw [Bool.or_eq_true] at hc
      rcases hc with hc | hc
      · rw [Bool.and_eq_true] at hc
        obtain ⟨a, vs, rfl, ea, la⟩ := ry.lst
        have rd := flat_repS rx hc.1
        exact .inl ⟨a, vs, rfl, .inl (SqL.of ea), flat_rep rd hc.1, flat_repL la hc.2, flat_any rd hc.1 la hc.2⟩
      · rw [Bool.and_eq_true] at hc
        obtain ⟨h1, h2⟩ := hc
        unfold okD at h1 h2
        rw [Bool.and_eq_true] at h1 h2
        have q := ry.dp (K := K) h2.1
        rw [py] at q
        have q2 := h2.2
        rw [py] at q2
        exact .inr ⟨py d, pyL ys, rx.dp h1.1, q, h1.2, q2, pyL_any ys⟩
    · cases h
  · split at h
    · cases h
      rename_i hc
      rw [Bool.and_eq_true] at hc
      obtain ⟨a, vs, rfl, _, ea, la⟩ := ry.tup
      have rd := flat_repS rx hc.1
      exact .inl ⟨a, vs, rfl, .inr (SqT.of ea), flat_rep rd hc.1, flat_repL la hc.2, flat_any rd hc.1 la hc.2⟩
    · cases h
  · cases h
theorem real_in : Real2 (rInAll X) fIn := by
  intro B H x y d e P J hb rx ry h g
  obtain ⟨ys, e1, h⟩ := h
  have q := g (.bl (memD d ys)) H _ (AExt.refl H) (.bl _) h
  rcases in_core (K := X.K) rx ry e1 with ⟨p, xs, h1, h2, h3, h4, h5⟩ | ⟨d', ds', h1, h2, h3, h4, h5⟩
  · exact .inl ⟨p, xs, h1, h2, h3, h4, by rw [if_neg Bool.false_ne_true, h5]; exact q⟩
  · exact .inr ⟨d', ds', h1, h2, h3, h4, by rw [h5]; exact q⟩
theorem real_notIn : Real2 (rNotInAll X) fNotIn := by
  intro B H x y d e P J hb rx ry h g
  obtain ⟨ys, e1, h⟩ := h
  have q := g (.bl (!memD d ys)) H _ (AExt.refl H) (.bl _) h
  rcases in_core (K := X.K) rx ry e1 with ⟨p, xs, h1, h2, h3, h4, h5⟩ | ⟨d', ds', h1, h2, h3, h4, h5⟩
  · exact .inl ⟨p, xs, h1, h2, h3, h4, by rw [if_pos rfl, h5]; exact q⟩
  · exact .inr ⟨d', ds', h1, h2, h3, h4, by rw [h5]; exact q⟩
def isNonD : D → Bool
  | .non => true
  | _ => false
theorem isNon_rep {B : Addr → Prop} {H : Hp} {x : V} {d : D} (r : RepS B H x d) : decide (x = .non) = isNonD d := by
  cases r with
  | any r => cases r <;> first | rfl | (exact decide_eq_false (by simp))
  | own _ r eo => cases r <;> cases eo <;> exact decide_eq_false (by simp)
def fIsN : F2 := fun d e P => match e with
  | .non => P (.bl (isNonD d))
  | _ => False
def fNotN : F2 := fun d e P => match e with
  | .non => P (.bl (!isNonD d))
  | _ => False
theorem real_isN : Real2 (fun x y H Q => y = .non ∧ Q (.bl (decide (x = .non))) H) fIsN := by
  intro B H x y d e P J hb rx ry h g
  unfold fIsN at h
  split at h
  · exact ⟨ry.non, by rw [isNon_rep rx]; exact g _ H _ (AExt.refl H) (.bl _) h⟩
  · exact h.elim
theorem real_notN : Real2 (fun x y H Q => y = .non ∧ Q (.bl (!decide (x = .non))) H) fNotN := by
  intro B H x y d e P J hb rx ry h g
  unfold fNotN at h
  split at h
  · exact ⟨ry.non, by rw [isNon_rep rx]; exact g _ H _ (AExt.refl H) (.bl _) h⟩
  · exact h.elim
/-! ### subscripts, slices -/
def ixD (x : D) (i : Int) : Option D := match x with
  | .lst xs => atI xs i
  | .tup xs => atI xs i
  | .str z => if z.length ≤ sizeLine then (atI z.cps.toList i).map fun c => .str ⟨#[c]⟩ else none
  | _ => none
def fIx : F2 := fun x y P => match y with
  | .int i => ∃ z, ixD x i = some z ∧ P z
  | _ => False
theorem atI_rep {B : Addr → Prop} {H : Hp} {vs : List V} {ds : List D} {i : Int} {z : D} (r : RepL B H vs ds) (h : atI ds i = some z) : ∃ v, atI vs i = some v ∧ Rep B H v z := by
  unfold atI at h ⊢
  rw [r.length]
  cases q : ixN ds.length i with
  | none => rw [q] at h; cases h
  | some j =>
    rw [q] at h
    exact r.get h
theorem real_ix {K : PySem.W.Frag} : Real2 (rIx K) fIx := by
  intro B H x y d e P J hb rx ry h g
  unfold fIx at h
  split at h
  · obtain ⟨z, e1, h⟩ := h
    unfold ixD at e1
    split at e1
    · obtain ⟨a, vs, rfl, ea, la⟩ := rx.lst
      obtain ⟨v, e2, r2⟩ := atI_rep la e1
      exact .inl ⟨a, vs, _, v, rfl, ry.int, SqL.of ea, e2, g v H _ (AExt.refl H) r2 h⟩
    · obtain ⟨a, vs, rfl, _, ea, la⟩ := rx.tup
      obtain ⟨v, e2, r2⟩ := atI_rep la e1
      exact .inr (.inl ⟨a, vs, _, v, rfl, ry.int, SqT.of ea, e2, g v H _ (AExt.refl H) r2 h⟩)
    · rename_i z'
      split at e1
      · rename_i hz
        cases q : atI z'.cps.toList _ with
        | none => rw [q] at e1; cases e1
        | some c =>
          rw [q] at e1
          cases e1
          exact .inr (.inr ⟨z', _, c, rx.str, ry.int, hz, q, g _ H _ (AExt.refl H) (.str _) h⟩)
      · cases e1
    · cases e1
  · exact h.elim
def cutD (xs : List D) (lo hi : Option Int) : List D := (xs.drop (HT.sIx xs.length 0 lo)).take (HT.sIx xs.length xs.length hi - HT.sIx xs.length 0 lo)
abbrev rSlAll (X : Cx) : V → Option Int → Option Int → Hp → VK → Prop := fun x lo hi H Q => rSlL X.K x lo hi H Q ∨ rSlA X.K x lo hi H Q ∨ rSlS x lo hi H Q
theorem sl_all : SlR X (rSlAll X) := SlR.or sl_list (SlR.or sl_tupA sl_str)
def fSl : FS := fun x lo hi P => match x with
  | .lst xs => P (.lst (cutD xs lo hi))
  | .tup xs => P (.tup (cutD xs lo hi))
  | .str z => z.length ≤ sizeLine ∧ P (.str (cutS z lo hi))
  | _ => False
theorem cut_rep {B : Addr → Prop} {H : Hp} {vs : List V} {ds : List D} {lo hi : Option Int} (r : RepL B H vs ds) : RepL B H (cutV vs lo hi) (cutD ds lo hi) := by
  unfold cutV cutD
  rw [r.length]
  exact (r.drop _).take _
theorem real_sl : RealS (rSlAll X) fSl := by
  intro B H x d lo hi P J hb rx h g
  unfold fSl at h
  split at h
  · obtain ⟨a, vs, rfl, ea, la⟩ := rx.lst
    exact .inl ⟨a, vs, rfl, SqL.of ea, fun q hq => g _ _ _ (AExt.upd hq) (.lst (fresh_not hb hq) upd_same ((cut_rep la).ext (AExt.upd hq))) h⟩
  · obtain ⟨a, vs, rfl, na, ea, la⟩ := rx.tup
    refine .inr (.inl ⟨a, vs, rfl, SqT.of ea, fun hc => ?_, fun _ q hq => g _ _ _ (AExt.upd hq) (.tup (fresh_not hb hq) upd_same ((cut_rep la).ext (AExt.upd hq))) h⟩)
    rename_i xs
    have e : cutD xs lo hi = xs := by
      unfold cutD
      rw [la.length] at hc
      rw [hc.1, hc.2]
      simp
    rw [e] at h
    exact g _ H _ (AExt.refl H) (.tup na ea la) h
  · exact .inr (.inr ⟨_, rx.str, h.1, g _ H _ (AExt.refl H) (.str _) h.2⟩)
  · exact h.elim
/-! ### built-ins -/
theorem one_rep {B : Addr → Prop} {H : Hp} {vs : List V} {d : D} (h : RepSL B H vs [d]) : ∃ v, vs = [v] ∧ RepS B H v d := by
  cases h with
  | cons h1 h2 => cases h2; exact ⟨_, rfl, h1⟩
theorem two_rep {B : Addr → Prop} {H : Hp} {vs : List V} {d e : D} (h : RepSL B H vs [d, e]) : ∃ v u, vs = [v, u] ∧ RepS B H v d ∧ RepS B H u e := by
  cases h with
  | cons h1 h2 => obtain ⟨u, rfl, h3⟩ := one_rep h2; exact ⟨_, u, rfl, h1, h3⟩
def lenD : D → Option Nat
  | .lst xs => some xs.length
  | .tup xs => some xs.length
  | .str z => if z.length ≤ sizeLine then some z.length else none
  | _ => none
def fLen : FN := fun ds P => match ds with
  | [d] => ∃ n : Nat, lenD d = some n ∧ P (.int n)
  | _ => False
theorem real_len {K : PySem.W.Frag} : RealN (fun xs H Q => ∃ x n, xs = [x] ∧ LenV K x H n ∧ Q (.int n) H) fLen := by
  intro B H xs ds P J hb r h g
  unfold fLen at h
  split at h
  · obtain ⟨n, e1, h⟩ := h
    obtain ⟨v, rfl, r1⟩ := one_rep r
    refine ⟨v, n, rfl, ?_, g _ H _ (AExt.refl H) (.int _) h⟩
    unfold lenD at e1
    split at e1
    · cases e1
      obtain ⟨a, vs, rfl, ea, la⟩ := r1.lst
      exact .inl ⟨vs, SqL.of ea, la.length.symm⟩
    · cases e1
      obtain ⟨a, vs, rfl, _, ea, la⟩ := r1.tup
      exact .inr ⟨vs, SqT.of ea, la.length.symm⟩
    · split at e1
      · cases e1
        cases r1.str
        exact ⟨by assumption, rfl⟩
      · cases e1
    · cases e1
  · exact h.elim
/-- a list or tuple of ints -/
def intsD : List D → Option (List Int)
  | [] => some []
  | .int i :: r => (intsD r).map (i :: ·)
  | _ => none
theorem intsD_eq : ∀ {ds : List D} {ns : List Int}, intsD ds = some ns → ds = ns.map D.int
  | [], _, h => by cases h; rfl
  | d :: r, ns, h => by
    unfold intsD at h
    split at h
    · rename_i e; cases e
    · rename_i i r' e
      cases e
      cases q : intsD r with
      | none => rw [q] at h; cases h
      | some ms =>
        rw [q] at h
        cases h
        rw [intsD_eq q]
        rfl
    · cases h
theorem intsD_map : ∀ ns : List Int, intsD (ns.map D.int) = some ns
  | [] => rfl
  | n :: r => by
    rw [List.map_cons]
    unfold intsD
    rw [intsD_map r]
    rfl
def numsD : D → Option (List Int)
  | .lst xs => intsD xs
  | .tup xs => intsD xs
  | _ => none
def rSumA (K : PySem.W.Frag) : List V → Hp → VK → Prop := fun vs H Q => ∃ (a : Addr) (ns : List Int), vs = [V.ref a] ∧ (SqL K H a (ns.map V.int) ∨ SqT K H a (ns.map V.int)) ∧ Q (.int ns.sum) H
theorem cr_sumA (hc : X.calm = true) : CallR X (.builtin "sum") (rSumA X.K) := by
  intro pins s σ H vs us Q I r h
  obtain ⟨a, ns, rfl, hs, q⟩ := h
  rw [Vals.ref1 r]
  rcases hs with hs | hs
  · obtain ⟨its, rv, hl, _⟩ := I.list hs
    exact sum_raw (I.ok.hd hc) hl.isList rv.ints fun h' tk t' hk => ⟨.int _, H, I.kept hk, ⟨_, rfl⟩, q⟩
  · obtain ⟨its, rv, hl, _⟩ := I.tuple hs
    have hi := rv.ints
    obtain ⟨xs, hx⟩ := hi.allInts.items
    have hn : numsOf its.toArray.toList = ns := by rw [show its.toArray.toList = its from rfl, hi.numsOf]
    rw [hx] at hn
    rw [nums_intItems] at hn
    have hl' : s.heap.IsTuple a (intItems xs) := by rw [← hx]; exact hl
    refine PySem.W.ktm_sumG (I.ok.hd hc) hl' fun h' tk t' hk => ⟨.int ns.sum, H, I.kept hk, ⟨t', ?_⟩, q⟩
    rw [preSum_eq, List.take_of_length_le (by simp), hn]
def fSum : FN := fun ds P => match ds with
  | [d] => ∃ ns, numsD d = some ns ∧ P (.int ns.sum)
  | _ => False
theorem nums_rep {K : PySem.W.Frag} {B : Addr → Prop} {H : Hp} {v : V} {d : D} {ns : List Int} (r : RepS B H v d) (h : numsD d = some ns) : ∃ a, v = .ref a ∧ (SqL K H a (ns.map V.int) ∨ SqT K H a (ns.map V.int)) := by
  unfold numsD at h
  split at h
  · obtain ⟨a, vs, rfl, ea, la⟩ := r.lst
    rw [intsD_eq h] at la
    rw [la.ints] at ea
    exact ⟨a, rfl, .inl (SqL.of ea)⟩
  · obtain ⟨a, vs, rfl, _, ea, la⟩ := r.tup
    rw [intsD_eq h] at la
    rw [la.ints] at ea
    exact ⟨a, rfl, .inr (SqT.of ea)⟩
  · cases h
theorem real_sum {K : PySem.W.Frag} : RealN (rSumA K) fSum := by
  intro B H xs ds P J hb r h g
  unfold fSum at h
  split at h
  · obtain ⟨ns, e1, h⟩ := h
    obtain ⟨v, rfl, r1⟩ := one_rep r
    obtain ⟨a, rfl, hs⟩ := nums_rep (K := K) r1 e1
    exact ⟨a, ns, rfl, hs, g _ H _ (AExt.refl H) (.int _) h⟩
  · exact h.elim
/-! least and greatest of ints -/
def rBest (K : PySem.W.Frag) (le : Int → Int → Prop) : List V → Hp → VK → Prop := fun vs H Q => ∃ (a : Addr) (ns : List Int), vs = [V.ref a] ∧ (SqL K H a (ns.map V.int) ∨ SqT K H a (ns.map V.int)) ∧ 0 < ns.length ∧ ∀ m, m ∈ ns → (∀ y, y ∈ ns → le m y) → Q (.int m) H
theorem old_keptT {s : Shared} {t : Addr} {h' : Heap} (hk : ∀ b o, b ∉ [s.heap.objs.size] → (s.heap.push { cls := .type "tuple_iterator", data := .fields #[.ref t, .int 0 0] }).get? b = some o → h'.get? b = some o) :
    ∀ b o, s.heap.get? b = some o → h'.get? b = some o := fun b o e => by
  refine hk b o (fun hm => ?_) (Heap.get?_push_of_some _ e)
  rcases List.mem_cons.mp hm with e1 | hm
  · exact absurd (e1 ▸ Heap.lt_size e) (Nat.lt_irrefl _)
  · cases hm
theorem iter_intTup {prog : Program} {w : World} {A : Around} {E : Value → Shared → Prop} {s : Shared} {t : Addr} {xs : Array (Int × Tok)} {Q : Value → Shared → Prop} (ht : s.heap.IsTuple t (intItems xs))
    (h : ∀ s₂ : Shared, s₂ = { s with heap := s.heap.push { cls := .type "tuple_iterator", data := .fields #[.ref t, .int 0 0] } } →
      (s₂.heap.IsTupleIter s.heap.objs.size t 0 ∧ s₂.heap.IsTuple t (intItems xs)) → (∀ b ∈ [s.heap.objs.size, t], b < s₂.heap.objs.size) → t ≠ s.heap.objs.size → Q (.ref s.heap.objs.size) s₂) :
    wpAny (model prog w) A (pyIter (.ref t)) Q E s := by
  have hlt : t < s.heap.objs.size := by obtain ⟨_, e, _⟩ := ht; exact Heap.lt_size e
  refine wpAny_pyIter_tuple ht (h _ rfl ⟨⟨_, Heap.get?_push_size _ rfl, rfl, rfl⟩, ht.at fun o e => Heap.get?_push_of_some _ e⟩ (fun b hb => ?_) (Nat.ne_of_lt hlt))
  show b < (s.heap.push _).objs.size
  rw [Heap.size_push]
  rcases List.mem_cons.mp hb with rfl | hb
  · exact Nat.lt_succ_self _
  · rcases List.mem_cons.mp hb with rfl | hb
    · exact Nat.lt_succ_of_lt hlt
    · cases hb
theorem cr_minA (hc : X.calm = true) : CallR X (.builtin "min") (rBest X.K (· ≤ ·)) := by
  intro pins s σ H vs us Q I r h
  obtain ⟨a, ns, rfl, hs, hne, q⟩ := h
  rw [Vals.ref1 r]
  rcases hs with hs | hs
  · obtain ⟨its, rv, hl, _⟩ := I.list hs
    exact min_raw (I.ok.hd hc) hl.isList rv.ints hne fun h' tk m t' hk h1 h2 => ⟨.int _, H, I.kept hk, ⟨_, rfl⟩, q m h1 h2⟩
  · obtain ⟨its, rv, hl, _⟩ := I.tuple hs
    have hi := rv.ints
    obtain ⟨xs, hx⟩ := hi.allInts.items
    have hn : numsOf its.toArray.toList = ns := by rw [show its.toArray.toList = its from rfl, hi.numsOf]
    rw [hx] at hn
    rw [nums_intItems] at hn
    have hl' : s.heap.IsTuple a (intItems xs) := by rw [← hx]; exact hl
    subst hn
    have hsz : 0 < xs.size := by simpa using hne
    refine call_min_walk (iter_intTup hl' fun s₂ e st hfp hlI => ?_)
    subst e
    refine ⟨_, _, _, _, _, _, _, rfl, Walks.tuple (A := X.A.in1) (I.ok.hd hc) _ a hlI (intItems xs), st, hfp, by simpa [intItems] using hsz, CmpOf.ints_lt (numAt xs) (fun _ _ => intItems_at), fun v h' tk hP hk => ?_⟩
    have hv : (intItems xs)[argBest (fun i j => decide (numAt xs i < numAt xs j)) (xs.size - 1)]? = some v := by simpa [intItems] using hP
    obtain ⟨t, rfl⟩ := intItems_at hv
    obtain ⟨h1, h2⟩ := argBest_lt (numAt xs) (xs.size - 1)
    refine ⟨.int _, H, I.kept (old_keptT hk), ⟨t, rfl⟩, q _ ?_ fun b hb => ?_⟩
    · rw [numAt_eq]; exact PySem.getD_mem (by rw [List.length_map, Array.length_toList]; omega)
    · obtain ⟨j, hj, rfl⟩ := mem_getD hb
      rw [List.length_map, Array.length_toList] at hj
      rw [← numAt_eq]; exact h2 j (by omega)
theorem cr_maxA (hc : X.calm = true) : CallR X (.builtin "max") (rBest X.K (fun m y => y ≤ m)) := by
  intro pins s σ H vs us Q I r h
  obtain ⟨a, ns, rfl, hs, hne, q⟩ := h
  rw [Vals.ref1 r]
  rcases hs with hs | hs
  · obtain ⟨its, rv, hl, _⟩ := I.list hs
    exact max_raw (I.ok.hd hc) hl.isList rv.ints hne fun h' tk m t' hk h1 h2 => ⟨.int _, H, I.kept hk, ⟨_, rfl⟩, q m h1 h2⟩
  · obtain ⟨its, rv, hl, _⟩ := I.tuple hs
    have hi := rv.ints
    obtain ⟨xs, hx⟩ := hi.allInts.items
    have hn : numsOf its.toArray.toList = ns := by rw [show its.toArray.toList = its from rfl, hi.numsOf]
    rw [hx] at hn
    rw [nums_intItems] at hn
    have hl' : s.heap.IsTuple a (intItems xs) := by rw [← hx]; exact hl
    subst hn
    have hsz : 0 < xs.size := by simpa using hne
    refine call_max_walk (iter_intTup hl' fun s₂ e st hfp hlI => ?_)
    subst e
    refine ⟨_, _, _, _, _, _, _, rfl, Walks.tuple (A := X.A.in1) (I.ok.hd hc) _ a hlI (intItems xs), st, hfp, by simpa [intItems] using hsz, CmpOf.ints_gt (numAt xs) (fun _ _ => intItems_at), fun v h' tk hP hk => ?_⟩
    have hv : (intItems xs)[argBest (fun i j => decide (numAt xs i > numAt xs j)) (xs.size - 1)]? = some v := by simpa [intItems] using hP
    obtain ⟨t, rfl⟩ := intItems_at hv
    obtain ⟨h1, h2⟩ := argBest_gt (numAt xs) (xs.size - 1)
    refine ⟨.int _, H, I.kept (old_keptT hk), ⟨t, rfl⟩, q _ ?_ fun b hb => ?_⟩
    · rw [numAt_eq]; exact PySem.getD_mem (by rw [List.length_map, Array.length_toList]; omega)
    · obtain ⟨j, hj, rfl⟩ := mem_getD hb
      rw [List.length_map, Array.length_toList] at hj
      rw [← numAt_eq]; exact h2 j (by omega)
def minZ : List Int → Int
  | [] => 0
  | [x] => x
  | x :: y :: r => min x (minZ (y :: r))
def maxZ : List Int → Int
  | [] => 0
  | [x] => x
  | x :: y :: r => max x (maxZ (y :: r))
theorem minZ_mem : ∀ {ns : List Int}, ns ≠ [] → minZ ns ∈ ns ∧ ∀ y ∈ ns, minZ ns ≤ y
  | [], h => absurd rfl h
  | [x], _ => ⟨by simp [minZ], fun y hy => by simp at hy; subst hy; simp [minZ]⟩
  | x :: y :: r, _ => by
    obtain ⟨h1, h2⟩ := minZ_mem (ns := y :: r) (by simp)
    unfold minZ
    refine ⟨?_, fun z hz => ?_⟩
    · by_cases h : x ≤ minZ (y :: r)
      · rw [Int.min_eq_left h]; exact List.mem_cons_self
      · rw [Int.min_eq_right (by omega)]; exact List.mem_cons_of_mem _ h1
    · rcases List.mem_cons.mp hz with rfl | hz
      · exact Int.min_le_left _ _
      · exact Int.le_trans (Int.min_le_right _ _) (h2 z hz)
theorem maxZ_mem : ∀ {ns : List Int}, ns ≠ [] → maxZ ns ∈ ns ∧ ∀ y ∈ ns, y ≤ maxZ ns
  | [], h => absurd rfl h
  | [x], _ => ⟨by simp [maxZ], fun y hy => by simp at hy; subst hy; simp [maxZ]⟩
  | x :: y :: r, _ => by
    obtain ⟨h1, h2⟩ := maxZ_mem (ns := y :: r) (by simp)
    unfold maxZ
    refine ⟨?_, fun z hz => ?_⟩
    · by_cases h : x ≤ maxZ (y :: r)
      · rw [Int.max_eq_right h]; exact List.mem_cons_of_mem _ h1
      · rw [Int.max_eq_left (by omega)]; exact List.mem_cons_self
    · rcases List.mem_cons.mp hz with rfl | hz
      · exact Int.le_max_left _ _
      · exact Int.le_trans (h2 z hz) (Int.le_max_right _ _)
def fMin : FN := fun ds P => match ds with
  | [d] => ∃ ns, numsD d = some ns ∧ ns ≠ [] ∧ P (.int (minZ ns))
  | _ => False
def fMax : FN := fun ds P => match ds with
  | [d] => ∃ ns, numsD d = some ns ∧ ns ≠ [] ∧ P (.int (maxZ ns))
  | _ => False
theorem real_min {K : PySem.W.Frag} : RealN (rBest K (· ≤ ·)) fMin := by
  intro B H xs ds P J hb r h g
  unfold fMin at h
  split at h
  · obtain ⟨ns, e1, hne, h⟩ := h
    obtain ⟨v, rfl, r1⟩ := one_rep r
    obtain ⟨a, rfl, hs⟩ := nums_rep (K := K) r1 e1
    refine ⟨a, ns, rfl, hs, List.length_pos_iff.mpr hne, fun m h1 h2 => ?_⟩
    obtain ⟨h3, h4⟩ := minZ_mem hne
    have e : m = minZ ns := by have := h2 _ h3; have := h4 _ h1; omega
    rw [e]
    exact g _ H _ (AExt.refl H) (.int _) h
  · exact h.elim
theorem real_max {K : PySem.W.Frag} : RealN (rBest K (fun m y => y ≤ m)) fMax := by
  intro B H xs ds P J hb r h g
  unfold fMax at h
  split at h
  · obtain ⟨ns, e1, hne, h⟩ := h
    obtain ⟨v, rfl, r1⟩ := one_rep r
    obtain ⟨a, rfl, hs⟩ := nums_rep (K := K) r1 e1
    refine ⟨a, ns, rfl, hs, List.length_pos_iff.mpr hne, fun m h1 h2 => ?_⟩
    obtain ⟨h3, h4⟩ := maxZ_mem hne
    have e : m = maxZ ns := by have := h2 _ h3; have := h4 _ h1; omega
    rw [e]
    exact g _ H _ (AExt.refl H) (.int _) h
  · exact h.elim
/-! any, all -/
def blsD : List D → Option (List Bool)
  | [] => some []
  | .bl i :: r => (blsD r).map (i :: ·)
  | _ => none
theorem blsD_eq : ∀ {ds : List D} {ns : List Bool}, blsD ds = some ns → ds = ns.map D.bl
  | [], _, h => by cases h; rfl
  | d :: r, ns, h => by
    unfold blsD at h
    split at h
    · rename_i e; cases e
    · rename_i i r' e
      cases e
      cases q : blsD r with
      | none => rw [q] at h; cases h
      | some ms =>
        rw [q] at h
        cases h
        rw [blsD_eq q]
        rfl
    · cases h
def fAny : FN := fun ds P => match ds with
  | [.lst xs] => ∃ bs, blsD xs = some bs ∧ P (.bl (bs.any id))
  | _ => False
def fAll : FN := fun ds P => match ds with
  | [.lst xs] => ∃ bs, blsD xs = some bs ∧ P (.bl (bs.all id))
  | _ => False
theorem real_any {K : PySem.W.Frag} : RealN (rAny K) fAny := by
  intro B H xs ds P J hb r h g
  unfold fAny at h
  split at h
  · obtain ⟨bs, e1, h⟩ := h
    obtain ⟨v, rfl, r1⟩ := one_rep r
    obtain ⟨a, vs, rfl, ea, la⟩ := r1.lst
    rw [blsD_eq e1] at la
    rw [la.bls] at ea
    exact ⟨a, bs, rfl, SqL.of ea, g _ H _ (AExt.refl H) (.bl _) h⟩
  · exact h.elim
theorem real_all {K : PySem.W.Frag} : RealN (rAll K) fAll := by
  intro B H xs ds P J hb r h g
  unfold fAll at h
  split at h
  · obtain ⟨bs, e1, h⟩ := h
    obtain ⟨v, rfl, r1⟩ := one_rep r
    obtain ⟨a, vs, rfl, ea, la⟩ := r1.lst
    rw [blsD_eq e1] at la
    rw [la.bls] at ea
    exact ⟨a, bs, rfl, SqL.of ea, g _ H _ (AExt.refl H) (.bl _) h⟩
  · exact h.elim
/-! tuple(..), list(..), int(..) -/
def fTuple : FN := fun ds P => match ds with
  | [.lst xs] => P (.tup xs)
  | [.tup xs] => P (.tup xs)
  | _ => False
theorem real_tuple {K : PySem.W.Frag} : RealN (fun xs H Q => ∃ p ys, xs = [.ref p] ∧ ((SqL K H p ys ∧ ∀ l, H l = none → Q (.ref l) (upd H l (.tup ys))) ∨ (SqT K H p ys ∧ Q (.ref p) H))) fTuple := by
  intro B H xs ds P J hb r h g
  unfold fTuple at h
  split at h
  · obtain ⟨v, rfl, r1⟩ := one_rep r
    obtain ⟨a, vs, rfl, ea, la⟩ := r1.lst
    exact ⟨a, vs, rfl, .inl ⟨SqL.of ea, fun q hq => g _ _ _ (AExt.upd hq) (.tup (fresh_not hb hq) upd_same (la.ext (AExt.upd hq))) h⟩⟩
  · obtain ⟨v, rfl, r1⟩ := one_rep r
    obtain ⟨a, vs, rfl, na, ea, la⟩ := r1.tup
    exact ⟨a, vs, rfl, .inr ⟨SqT.of ea, g _ H _ (AExt.refl H) (.tup na ea la) h⟩⟩
  · exact h.elim
def fList : FL := fun ds P => match ds with
  | [.lst xs] => P xs
  | [.tup xs] => P xs
  | _ => False
theorem real_list {K : PySem.W.Frag} : RealF (fun xs H Q => ∃ p ys, xs = [.ref p] ∧ (SqL K H p ys ∨ SqT K H p ys) ∧ ∀ l, H l = none → Q (.ref l) (upd H l (.lst ys))) fList := by
  intro B H xs ds P J hb r h g
  unfold fList at h
  split at h
  · obtain ⟨v, rfl, r1⟩ := one_rep r
    obtain ⟨a, vs, rfl, ea, la⟩ := r1.lst
    exact ⟨a, vs, rfl, .inl (SqL.of ea), fun q hq => g q vs _ hq la h⟩
  · obtain ⟨v, rfl, r1⟩ := one_rep r
    obtain ⟨a, vs, rfl, _, ea, la⟩ := r1.tup
    exact ⟨a, vs, rfl, .inr (SqT.of ea), fun q hq => g q vs _ hq la h⟩
  · exact h.elim
def fInt : FN := fun ds P => match ds with
  | [.int i] => P (.int i)
  | [.bl k] => P (.int (if k then 1 else 0))
  | _ => False
/-! isinstance -/
def tyD : D → Option String
  | .non => some "NoneType"
  | .bl _ => some "bool"
  | .int _ => some "int"
  | .str _ => some "str"
  | .lst _ => some "list"
  | .tup _ => some "tuple"
  | _ => none
theorem tyD_ok {K : PySem.W.Frag} {B : Addr → Prop} {H : Hp} {v : V} {d : D} {n : String} (r : RepS B H v d) (h : tyD d = some n) : TyX K H v (.type n) := by
  cases r with
  | any r =>
    cases r <;> first
      | (cases h; exact .base .non)
      | (cases h; exact .base (.bl _))
      | (cases h; exact .base (.int _))
      | (cases h; exact .base (.str _))
      | (cases h; rename_i e _; exact .base (.lst e))
      | (cases h; rename_i e _; exact .base (.tup e))
      | (cases h)
  | own e r eo => cases r <;> cases eo <;> first | (cases h; exact .base (.lst e)) | cases h
def fIsi : FN := fun ds P => match ds with
  | [d, .ty n] => ∃ m b, tyD d = some m ∧ kitB m n = some b ∧ P (.bl b)
  | _ => False
theorem real_isi {K : PySem.W.Frag} : RealN (rIsi K) fIsi := by
  intro B H xs ds P J hb r h g
  unfold fIsi at h
  split at h
  · obtain ⟨m, b, e1, e2, h⟩ := h
    obtain ⟨v, u, rfl, r1, r2⟩ := two_rep r
    cases r2.ty
    exact ⟨v, _, _, _, b, rfl, .ty _, tyD_ok r1 e1, kit_ty e2, g _ H _ (AExt.refl H) (.bl _) h⟩
  · exact h.elim
def tysD : List D → Option (List String)
  | [] => some []
  | .ty n :: r => (tysD r).map (n :: ·)
  | _ => none
def kitAnyB (m : String) : List String → Option Bool
  | [] => some false
  | n :: r => match kitB m n with
    | some true => some true
    | some false => kitAnyB m r
    | none => none
def fIsiT : FN := fun ds P => match ds with
  | [d, .tup ts] => ∃ m ns b, tyD d = some m ∧ tysD ts = some ns ∧ kitAnyB m ns = some b ∧ P (.bl b)
  | _ => False
theorem tys_rep {B : Addr → Prop} {H : Hp} : ∀ {ts : List D} {vs : List V} {ns : List String}, RepL B H vs ts → tysD ts = some ns → vs = ns.map V.ty
  | [], _, _, .nil, h => by cases h; rfl
  | t :: r, _, ns, .cons h1 h2, h => by
    unfold tysD at h
    split at h
    · rename_i e; cases e
    · rename_i n r' e
      cases e
      cases q : tysD r with
      | none => rw [q] at h; cases h
      | some ms =>
        rw [q] at h
        cases h
        rw [tys_rep h2 q]
        cases h1
        rfl
    · cases h
theorem cls_tys : ∀ ns : List String, Paired ClsV (ns.map V.ty) (ns.map Value.type)
  | [] => .nil
  | n :: r => .cons (.ty n) (cls_tys r)
theorem kitAnyB_ok {K : PySem.W.Frag} {m : String} : ∀ {ns : List String} {b : Bool}, kitAnyB m ns = some b → PySem.W.kitAny K (.type m) (ns.map Value.type) = some b
  | [], _, h => by cases h; rfl
  | n :: r, b, h => by
    unfold kitAnyB at h
    rw [List.map_cons]
    split at h
    · cases h
      exact kitAny_cons (kit_ty (by assumption)) (fun z => by cases z) fun _ => rfl
    · exact kitAny_cons (kit_ty (by assumption)) (fun _ => kitAnyB_ok h) fun z => by cases z
    · cases h
theorem real_isiT {K : PySem.W.Frag} : RealN (rIsiT K) fIsiT := by
  intro B H xs ds P J hb r h g
  unfold fIsiT at h
  split at h
  · obtain ⟨m, ns, b, e1, e2, e3, h⟩ := h
    obtain ⟨v, u, rfl, r1, r2⟩ := two_rep r
    obtain ⟨a, vs, rfl, _, ea, la⟩ := r2.tup
    rw [tys_rep la e2] at ea
    exact ⟨v, a, _, _, _, b, rfl, ea, cls_tys ns, tyD_ok r1 e1, kitAnyB_ok e3, g _ H _ (AExt.refl H) (.bl _) h⟩
  · exact h.elim
end
end DL

set_option Elab.async false
set_option linter.all false
set_option maxRecDepth 100000
set_option maxHeartbeats 4000000
/-! ELtp: sorted(a tuple) of data -/
namespace DL
open PySem PySem.Spec PyProof.Rows L2
section
variable {prog : Program} {w : World} {A : Around} {E : Value → Shared → Prop} {s : Shared} {vs : List Value}
/-- what the call gathers from a tuple: as from a list -/
theorem gather_tup {t : Addr} {Q : List Value → Shared → Prop} (ht : IsTup s.heap t vs.toArray) (hz : vs.length ≤ sizeLine)
    (q : Q vs { s with heap := (s.heap.push (seqObj "list" #[] 0)).update s.heap.objs.size (Obj.mapSeq (· ++ vs.toArray)) }) : wpAny (model prog w) A (collect (.ref t)) Q E s := by
  obtain ⟨o, ho, hc, n, hd⟩ := id ht
  have new : (s.heap.push (seqObj "list" #[] 0)).get? s.heap.objs.size = some (seqObj "list" #[] 0) := Heap.get?_push_size _ rfl
  have old : (s.heap.push (seqObj "list" #[] 0)).get? t = some o := Heap.get?_push_of_some _ ho
  unfold collect; refine wpAny_bind (wpAny_runValue (codeAny_builtin entry_proto_collect' ?_))
  show wpAny _ _ (do again (.builtin "list.__iadd__" ⟨[← newList [], .ref t], []⟩)) _ _ s
  refine wpAny_bind (wpAny_newList (wpAny_pure ⟨Code.quiet_builtin _ (by decide +kernel), codeAny_builtin entry_list_iadd' ?_⟩))
  show wpAny _ _ (Builtin.List.listExtendWith (.ref s.heap.objs.size) (.ref t) (.ref s.heap.objs.size)) _ _ { s with heap := s.heap.push (seqObj "list" #[] 0) }
  unfold Builtin.List.listExtendWith; refine wpAny_bind (wpAny_typeOf (T := "tuple") ⟨o, old, hc⟩ ?_)
  have yes : (Value.type "tuple" == Value.type "tuple") = true := by rfl
  rw [if_pos (by rw [yes]; simp)]
  refine wpAny_bind (listItems_at old hd (wpAny_bind (listItems_at (xs := #[]) (n := 0) new rfl ?_)))
  rw [if_neg (by simp)]
  refine wpAny_bind (listUpdate_at (xs := #[]) (n := 0) new rfl (wpAny_pure ?_) (Nat.zero_le _) (by show (#[] ++ vs.toArray).size ≤ sizeLine + 1; rw [Array.size_append, List.size_toArray]; show 0 + vs.length ≤ _; omega))
  show wpAny (model prog w) A (do let o ← load s.heap.objs.size; match o.data with | .seq xs _ => pure xs.toList | _ => unsupported "internal:collect") Q E { s with heap := (s.heap.push (seqObj "list" #[] 0)).update s.heap.objs.size (Obj.mapSeq (· ++ vs.toArray)) }
  refine wpAny_bind (wpAny_load (get?_update_seq new _) ?_)
  show wpAny _ _ (pure ((#[] : Array Value) ++ vs.toArray).toList) Q E _
  rw [show ((#[] : Array Value) ++ vs.toArray).toList = vs by simp]; exact wpAny_pure q
theorem sortTup {κ : PyProof.Rows.KeyKind} {t : Addr} {Q : Value → Shared → Prop} (ht : IsTup s.heap t vs.toArray) (hz : vs.length ≤ sizeLine) (S : PySem.W.SortsAt prog w A.in1.in1 { s with heap := PySem.W.sortingHeap (PySem.W.copyHeap s.heap vs) (s.heap.objs.size + 1) vs } κ vs)
    (q : Q (.ref (s.heap.objs.size + 1)) { s with heap := sortedAll s.heap vs (PySem.W.sortVals κ false vs vs).toArray }) : wpAny (model prog w) A (call (.builtin "sorted") [.ref t]) Q E s := by
  have body : ∀ E' : Value → Shared → Prop, wpAny (model prog w) A.in1.in1 (Builtin.«list.sort» ⟨[.ref (s.heap.objs.size + 1)], []⟩) (fun f s' => f = .done (.ret .none) ∧ Q (.ref (s.heap.objs.size + 1)) s') E' { s with heap := PySem.W.copyHeap s.heap vs } :=
    fun _ => PySem.W.list_sort_vals (s := { s with heap := PySem.W.copyHeap s.heap vs }) (PySem.W.copyHeap_at s.heap vs) S hz ⟨rfl, q⟩
  refine PyProof.Rows.call_function_entry_kw kind_sorted plain_sorted entry_sorted (args_sorted1 _) ?_
  unfold Builtin.«sorted»; refine wpAny_bind (m := checkCount "sorted" 1 1 _) (wpAny_pure (wpAny_bind (gather_tup ht hz ?_)))
  refine wpAny_bind (wpAny_newList ?_ hz)
  have sz : ((s.heap.push (seqObj "list" #[] 0)).update s.heap.objs.size (Obj.mapSeq (· ++ vs.toArray))).objs.size = s.heap.objs.size + 1 := (Heap.size_update _ _ _).trans (size_push' _ _)
  show wpAny _ _ _ _ _ { s with heap := PySem.W.copyHeap s.heap vs }
  rw [sz]; refine wpAny_bind (wpAny_holding (wpAny_call_entry_kw slot_list_sort ⟨_, PySem.W.copyHeap_at s.heap vs, rfl⟩ entry_list_sort ?bd (args_list_sort _)))
  case bd =>
    refine wpAny_mono (body _) (fun f s' hf => ?_) fun _ _ e => e
    obtain ⟨rfl, hq⟩ := hf; exact ⟨_, rfl, wpAny_pure ⟨_, rfl, hq⟩⟩
theorem sortTup_data {β : Type} {bs : List β} {enc : β → PyData} {R : Value → β → Prop} {t : Addr} {Q : Value → Shared → Prop} (ht : IsTup s.heap t vs.toArray) (e : PySem.W.EachIs R vs bs) (er : PySem.W.EachIs (fun v b => ∃ as, Reads s.heap v (enc b) as) vs bs) (hal : PySem.W.AllAlike (bs.map enc)) (hk : PySem.W.Sortable (bs.map enc)) (hL : bs.length ≤ sizeLine)
    (hu : ∀ b, b ∈ bs → A.units + 2 + (enc b).depth < cLine) (q : ∀ out, out.length = bs.length → PySem.W.EachIs R out (bs.mergeSort (PySem.W.dataLe false enc)) → Q (.ref (s.heap.objs.size + 1)) { s with heap := sortedAll s.heap vs (List.toArray out) }) :
    wpAny (model prog w) A (call (.builtin "sorted") [.ref t]) Q E s := by
  have lz : vs.length ≤ sizeLine := by rw [e.length]; exact hL
  have er2 : PySem.W.EachIs (fun v b => ∃ as, Reads (PySem.W.sortingHeap (PySem.W.copyHeap s.heap vs) (s.heap.objs.size + 1) vs) v (enc b) as) vs bs := er.mono fun _ _ ⟨as, r⟩ => ⟨as, PyProof.Rows.Reads.keeps (fun _ _ => PySem.W.sorting_copy_old) r⟩
  have st := PySem.W.SortsAt.data (prog := prog) (w := w) (A := A.in1.in1) (s := { s with heap := PySem.W.sortingHeap (PySem.W.copyHeap s.heap vs) (s.heap.objs.size + 1) vs }) (PySem.W.each_map (R := fun v d => ∃ as, Reads (PySem.W.sortingHeap (PySem.W.copyHeap s.heap vs) (s.heap.objs.size + 1) vs) v d as) enc er2) hal hk (PySem.W.bound_map hu)
  exact sortTup ht lz st (q _ (by rw [PySem.W.sortVals_length false rfl]; exact e.length) (PySem.W.sortVals_data false e er2 hal))
end
end DL

set_option Elab.async false
set_option linter.all false
set_option maxRecDepth 100000
set_option maxHeartbeats 4000000
/-! ELf: x[::-1], sorted, list(range(..)) -/
namespace DL
open PySem PySem.Spec PyProof.Rows L2
/-! ### t[::-1] -/
section
variable {prog : Program} {w : World} {A : Around} {E : Value → Shared → Prop} {s : Shared}
end
section
variable {X : Cx} {pos ps' : Pos}
def tRevS (K : PySem.W.Frag) (te : TE) : TE := fun σ H Q => te σ H fun x H1 => (∃ a xs, x = .ref a ∧ SqL K H1 a xs ∧ ∀ p, H1 p = none → Q (.ref p) (upd H1 p (.lst xs.reverse))) ∨ ∃ a xs, x = .ref a ∧ SqT K H1 a xs ∧ ∀ p, H1 p = none → Q (.ref p) (upd H1 p (.tup xs.reverse))
def fRev : F1 := fun d P => match d with
  | .lst xs => P (.lst xs.reverse)
  | .tup xs => P (.tup xs.reverse)
  | _ => False
/-! ### list(range(..)) -/
def wLRng1 (a : WE) : WL := fun ρ k Q => a ρ k fun r ρ1 k1 => ∃ n : Int, deref ρ1 r = some (.int n) ∧ RgOk 0 n ∧ Q (rngD 0 (n - 0).toNat 1) ρ1 k1
def wLRng2 (a b : WE) : WL := fun ρ k Q => a ρ k fun r ρ1 k1 => b ρ1 k1 fun r2 ρ2 k2 => ∃ m n : Int, deref ρ2 r = some (.int m) ∧ deref ρ2 r2 = some (.int n) ∧ RgOk m n ∧ Q (rngD m (n - m).toNat 1) ρ2 k2
end
/-! ### sorted -/
/-- by putting in, upward -/
def insUp (x : Int) : List Int → List Int
  | [] => [x]
  | y :: r => if x ≤ y then x :: y :: r else y :: insUp x r
def sortUp : List Int → List Int
  | [] => []
  | x :: r => insUp x (sortUp r)
theorem insUp_perm (x : Int) : ∀ l : List Int, (insUp x l).Perm (x :: l)
  | [] => .refl _
  | y :: r => by
    unfold insUp
    split
    · exact .refl _
    · exact ((insUp_perm x r).cons y).trans (.swap x y r)
theorem sortUp_perm : ∀ l : List Int, (sortUp l).Perm l
  | [] => .refl _
  | x :: r => (insUp_perm x _).trans ((sortUp_perm r).cons x)
theorem insUp_sorted (x : Int) : ∀ l : List Int, l.Pairwise (· ≤ ·) → (insUp x l).Pairwise (· ≤ ·)
  | [], _ => List.pairwise_singleton _ _
  | y :: r, h => by
    unfold insUp
    obtain ⟨h1, h2⟩ := List.pairwise_cons.mp h
    split
    · rename_i hxy
      exact List.pairwise_cons.mpr ⟨fun z hz => by
        rcases List.mem_cons.mp hz with rfl | hz
        · exact hxy
        · exact Int.le_trans hxy (h1 z hz), h⟩
    · rename_i hxy
      refine List.pairwise_cons.mpr ⟨fun z hz => ?_, insUp_sorted x r h2⟩
      rcases List.mem_cons.mp ((insUp_perm x r).mem_iff.mp hz) with rfl | hz
      · omega
      · exact h1 z hz
theorem sortUp_sorted : ∀ l : List Int, (sortUp l).Pairwise (· ≤ ·)
  | [] => .nil
  | x :: r => insUp_sorted x _ (sortUp_sorted r)
theorem perm_sorted_eq {le : Int → Int → Prop} (anti : ∀ a b, le a b → le b a → a = b) : ∀ {l m : List Int}, l.Perm m → l.Pairwise le → m.Pairwise le → l = m
  | [], m, h, _, _ => (List.Perm.nil_eq h)
  | x :: r, [], h, _, _ => by have := h.length_eq; simp at this
  | x :: r, y :: t, h, h1, h2 => by
    obtain ⟨a1, a2⟩ := List.pairwise_cons.mp h1
    obtain ⟨b1, b2⟩ := List.pairwise_cons.mp h2
    have e : x = y := by
      rcases List.mem_cons.mp (h.mem_iff.mp List.mem_cons_self) with e | hx
      · exact e
      · rcases List.mem_cons.mp (h.mem_iff.mpr List.mem_cons_self) with e | hy
        · exact e.symm
        · exact anti _ _ (a1 y hy) (b1 x hx)
    subst e
    rw [perm_sorted_eq anti (List.Perm.cons_inv h) a2 b2]
theorem sortUp_unique {ns ms : List Int} (h : ms.Perm ns) (s : ms.Pairwise (· ≤ ·)) : ms = sortUp ns := perm_sorted_eq (fun a b h1 h2 => by omega) (h.trans (sortUp_perm ns).symm) s (sortUp_sorted ns)
section
variable {X : Cx} {pos ps' : Pos}
def fSortI : FL := fun ds P => match ds with
  | [.lst xs] => ∃ ns, intsD xs = some ns ∧ P ((sortUp ns).map .int)
  | _ => False
def wSortRev (b : Bool) (a : WA) : WL := fun ρ k Q => a ρ k fun rs ρ1 k1 => ∃ xs ns, derefL ρ1 rs = some [.lst xs] ∧ intsD xs = some ns ∧ Q ((if b then (sortUp ns).reverse else sortUp ns).map .int) ρ1 k1
/-! data -/
theorem pyL_eq : ∀ xs : List D, pyL xs = xs.map py
  | [] => by simp [pyL]
  | x :: r => by rw [pyL, pyL_eq r, List.map_cons]
def leD (a b : D) : Bool := PySem.W.dataLe false py a b
def rSortedDt (K : PySem.W.Frag) : List V → Hp → VK → Prop := fun vs H Q => ∃ (a : Addr) (bs : List (V × D)), vs = [V.ref a] ∧ (SqL K H a (bs.map (·.1)) ∨ SqT K H a (bs.map (·.1))) ∧ (∀ b ∈ bs, Dp K H b.1 (py b.2)) ∧ PySem.W.AllAlike (bs.map fun b => py b.2) ∧ PySem.W.Sortable (bs.map fun b => py b.2) ∧ (∀ b ∈ bs, (py b.2).depth ≤ 64) ∧
  ∀ p, H p = none → Q (.ref p) (upd H p (.lst ((bs.mergeSort fun b c => leD b.2 c.2).map (·.1))))
theorem cr_sortedDt (hu : X.A.units + 100 < cLine) : CallR X (.builtin "sorted") (rSortedDt X.K) := by
  intro pins s σ H vs us Q I r h
  obtain ⟨a, bs, rfl, hs, hd, hal, hk, hz, q⟩ := h
  rw [Vals.ref1 r]
  have each : ∀ {bs : List (V × D)} {its : List Value}, Vals (bs.map (·.1)) its → PySem.W.EachIs (fun u (b : V × D) => RelV b.1 u) its bs := by
    intro bs
    induction bs with
    | nil => intro its r; cases r; exact .nil
    | cons b bs ih => intro its r; cases r with | cons r1 r2 => exact .cons r1 (ih r2)
  have each2 : ∀ {bs : List (V × D)} {its : List Value}, (∀ b ∈ bs, Dp X.K H b.1 (py b.2)) → Vals (bs.map (·.1)) its → PySem.W.EachIs (fun u (b : V × D) => ∃ as, Reads s.heap u (py b.2) as) its bs := by
    intro bs
    induction bs with
    | nil => intro its _ r; cases r; exact .nil
    | cons b bs ih => intro its hd r; cases r with | cons r1 r2 => exact .cons (Dp.reads I _ _ _ (hd b List.mem_cons_self) r1) (ih (fun c hc => hd c (List.mem_cons_of_mem _ hc)) r2)
  have back : ∀ {bs : List (V × D)} {its : List Value}, PySem.W.EachIs (fun u (b : V × D) => RelV b.1 u) its bs → Vals (bs.map (·.1)) its := by
    intro bs
    induction bs with
    | nil => intro its r; cases r; exact .nil
    | cons b bs ih => intro its r; cases r with | cons r1 r2 => exact .cons r1 (ih r2)
  have fin : ∀ (its : List Value), (bs.map (·.1)).length ≤ sizeLine → ∀ out : List Value, out.length = bs.length → PySem.W.EachIs (fun u (b : V × D) => RelV b.1 u) out (bs.mergeSort (PySem.W.dataLe false fun b : V × D => py b.2)) → EP X pins σ Q (.ref (s.heap.objs.size + 1)) { s with heap := PyProof.Rows.sortedAll s.heap its (List.toArray out) } := fun its hz2 out ho eo => by
    obtain ⟨ep, he'⟩ := PyProof.Rows.sortedAll_at s.heap its out.toArray
    have hlen : ((bs.mergeSort (PySem.W.dataLe false fun b : V × D => py b.2)).map (·.1)).length ≤ sizeLine := by
      rw [List.length_map, List.length_mergeSort]
      rw [List.length_map] at hz2
      exact hz2
    have q' := q (s.heap.objs.size + 1) (I.hok.fresh (Nat.le_succ _))
    exact ⟨.ref _, upd H (s.heap.objs.size + 1) (.lst ((bs.mergeSort (PySem.W.dataLe false fun b : V × D => py b.2)).map (·.1))), I.laid (t' := s.toks) (fun _ _ => PyProof.Rows.sortedAll_old) (Nat.le_succ _) ⟨hlen, out, ep, back eo, he'⟩, rfl, q'⟩
  rcases hs with hs | hs
  · obtain ⟨its, rv, hl, hz2⟩ := I.list hs
    exact PySem.W.sorted_data (enc := fun b : V × D => py b.2) hl.isList (each rv) (each2 hd rv) hal hk (by rw [List.length_map] at hz2; exact hz2) (fun b hb => by have := hz b hb; omega) fun out ho eo => fin its hz2 out ho eo
  · obtain ⟨its, rv, hl, hz2⟩ := I.tuple hs
    exact sortTup_data (enc := fun b : V × D => py b.2) hl (each rv) (each2 hd rv) hal hk (by rw [List.length_map] at hz2; exact hz2) (fun b hb => by have := hz b hb; omega) fun out ho eo => fin its hz2 out ho eo
def fSortD : FL := fun ds P => match ds with
  | [.lst xs] => isPyL xs = true ∧ PySem.W.AllAlike (pyL xs) ∧ PySem.W.Sortable (pyL xs) ∧ (∀ x ∈ xs, (py x).depth ≤ 64) ∧ P (xs.mergeSort leD)
  | [.tup xs] => isPyL xs = true ∧ PySem.W.AllAlike (pyL xs) ∧ PySem.W.Sortable (pyL xs) ∧ (∀ x ∈ xs, (py x).depth ≤ 64) ∧ P (xs.mergeSort leD)
  | _ => False
theorem real_sortD {K : PySem.W.Frag} : RealF (rSortedDt K) fSortD := by
  intro B H xs ds P J hb r h g
  have core : ∀ (zs : List D), (isPyL zs = true ∧ PySem.W.AllAlike (pyL zs) ∧ PySem.W.Sortable (pyL zs) ∧ (∀ x ∈ zs, (py x).depth ≤ 64) ∧ P (zs.mergeSort leD)) → ∀ (a : Addr) (vs : List V), xs = [V.ref a] → (SqL K H a vs ∨ SqT K H a vs) → RepL B H vs zs → rSortedDt K xs H J := by
    intro zs h a vs ex hsq la
    obtain ⟨h1, h2, h3, h4, h5⟩ := h
    subst ex
    have fstE : ∀ {vs : List V} {zs : List D}, RepL B H vs zs → (vs.zip zs).map (·.1) = vs ∧ (vs.zip zs).map (·.2) = zs := by
      intro vs
      induction vs with
      | nil => intro zs r; cases r; exact ⟨rfl, rfl⟩
      | cons v vs ih => intro zs r; cases r with | cons r1 r2 => obtain ⟨a, b⟩ := ih r2; exact ⟨by rw [List.zip_cons_cons, List.map_cons, a], by rw [List.zip_cons_cons, List.map_cons, b]⟩
    have memE : ∀ {vs : List V} {zs : List D}, RepL B H vs zs → isPyL zs = true → ∀ b ∈ vs.zip zs, Rep B H b.1 b.2 ∧ isPy b.2 = true := by
      intro vs
      induction vs with
      | nil => intro zs r _ b hb; cases r; cases hb
      | cons v vs ih =>
        intro zs r hp b hb
        cases r with
        | cons r1 r2 =>
          rw [isPyL, Bool.and_eq_true] at hp
          rw [List.zip_cons_cons] at hb
          rcases List.mem_cons.mp hb with rfl | hb
          · exact ⟨r1, hp.1⟩
          · exact ih r2 hp.2 b hb
    obtain ⟨e1, e2⟩ := fstE la
    have e3 : (vs.zip zs).map (fun b => py b.2) = pyL zs := by
      rw [pyL_eq]
      have := congrArg (List.map py) e2
      rw [List.map_map] at this
      exact this
    refine ⟨a, vs.zip zs, rfl, by rw [e1]; exact hsq, fun b hb => (memE la h1 b hb).1.dp (memE la h1 b hb).2, by rw [e3]; exact h2, by rw [e3]; exact h3, fun b hb => h4 _ ?_, fun q hq => ?_⟩
    · have : b.2 ∈ (vs.zip zs).map (·.2) := List.mem_map.mpr ⟨b, hb, rfl⟩
      rw [e2] at this
      exact this
    · have es : ((vs.zip zs).mergeSort fun b c => leD b.2 c.2).map (·.2) = zs.mergeSort leD := by
        rw [List.map_mergeSort (s := leD) (fun a _ b _ => rfl), e2]
      have rep : ∀ l : List (V × D), (∀ b ∈ l, Rep B H b.1 b.2) → RepL B H (l.map (·.1)) (l.map (·.2)) := by
        intro l
        induction l with
        | nil => intro _; exact .nil
        | cons b l ih => intro h; exact .cons (h b List.mem_cons_self) (ih fun c hc => h c (List.mem_cons_of_mem _ hc))
      refine g q _ _ hq ?_ h5
      rw [← es]
      exact rep _ fun b hb => (memE la h1 b ((List.mergeSort_perm _ _).mem_iff.mp hb)).1
  unfold fSortD at h
  split at h
  · obtain ⟨v, rfl, r1⟩ := one_rep r
    obtain ⟨a, vs, rfl, ea, la⟩ := r1.lst
    exact core _ h a vs rfl (.inl (SqL.of ea)) la
  · obtain ⟨v, rfl, r1⟩ := one_rep r
    obtain ⟨a, vs, rfl, _, ea, la⟩ := r1.tup
    exact core _ h a vs rfl (.inr (SqT.of ea)) la
  · exact h.elim
end
end DL

set_option Elab.async false
set_option linter.all false
set_option maxRecDepth 100000
set_option maxHeartbeats 4000000
/-! ELg: the law's pen: what its dict gives and takes; the promise of a draw -/
namespace DL
open PySem PySem.Spec PyProof.Rows L2
section
variable {H : Hp} {a c : Addr} {i d k f z : Int}
theorem get_cells (h : H a = some (penO c i d k f)) : DGet H a (.str "cells") (some (.ref c)) := .inl ⟨_, .inr "cells", .inl h, rfl, by rfl⟩
theorem get_at (h : H a = some (penO c i d k f)) : DGet H a (.str "at") (some (.int i)) := .inl ⟨_, .inr "at", .inl h, rfl, by rfl⟩
theorem get_digits (h : H a = some (penO c i d k f)) : DGet H a (.str "digits") (some (.int d)) := .inl ⟨_, .inr "digits", .inl h, rfl, by rfl⟩
theorem get_count (h : H a = some (penO c i d k f)) : DGet H a (.str "count") (some (.int k)) := .inl ⟨_, .inr "count", .inl h, rfl, by rfl⟩
theorem get_fold (h : H a = some (penO c i d k f)) : DGet H a (.str "fold") (some (.int f)) := .inl ⟨_, .inr "fold", .inl h, rfl, by rfl⟩
theorem five_ok : (5 : Nat) < sizeLine := by rw [sizeLine_eq]; decide
theorem put_at (h : H a = some (penO c i d k f)) : DPut H a (.str "at") (.int z) (upd H a (penO c z d k f)) := .inl ⟨_, .inr "at", h, rfl, five_ok, by rfl⟩
theorem put_digits (h : H a = some (penO c i d k f)) : DPut H a (.str "digits") (.int z) (upd H a (penO c i z k f)) := .inl ⟨_, .inr "digits", h, rfl, five_ok, by rfl⟩
theorem put_count (h : H a = some (penO c i d k f)) : DPut H a (.str "count") (.int z) (upd H a (penO c i d z f)) := .inl ⟨_, .inr "count", h, rfl, five_ok, by rfl⟩
theorem put_fold (h : H a = some (penO c i d k f)) : DPut H a (.str "fold") (.int z) (upd H a (penO c i d k z)) := .inl ⟨_, .inr "fold", h, rfl, five_ok, by rfl⟩
end
/-- a draw: any number from 0 on below n -/
def wfDraw : WF := fun ds k P => ∃ a n, ds = [.obj a, .int n] ∧ k.2.pen = some a ∧ 0 < n ∧ n < 1073741824 ∧ k.1 < 1000000000000 ∧ ∀ x : Int, 0 ≤ x → x < n → P (.int x) (k.1 + 1, k.2)
def spPen (K : PySem.W.Frag) : Sp := fun vs H Q _ => ∃ (s : Addr) (ns : List Int), vs = [.ref s] ∧ SqL K H s (ns.map V.int) ∧ ns.length ≤ 63 ∧
  ∀ (H' : Hp) (a c : Addr) (f : Int), AExt H H' → H a = none → H c = none → a ≠ c → H' a = some (penO c 0 0 0 f) → H' c = some (.lst (ns.map V.int)) → 0 ≤ f → f < 2147483648 → Q (.ref a) H'
def spLaw (K : PySem.W.Frag) : Sp := fun vs H Q _ => ∃ (s : Addr) (ns : List Int), vs = [.ref s] ∧ SqL K H s (ns.map V.int) ∧ ns.length ≤ 63 ∧ ∀ H', Q (.bl true) H'
/-- the slots behind the law's first statement -/
def lawE (n : Nat) (a : Addr) : En := .un :: .val (.obj a) :: List.replicate (n - 2) .un
theorem fmod_lt {x : Int} {m : Int} (hm : 0 < m) : 0 ≤ x.fmod m ∧ x.fmod m < m := ⟨Int.fmod_nonneg_of_pos x hm, Int.fmod_lt_of_pos x hm⟩
theorem room65 {k : Nat} {A : Around} (r : Room k A) : A.units + 65 < cLine := by have := r.un; omega
theorem room100 {k : Nat} {A : Around} (r : Room k A) : A.units + 100 < cLine := by have := r.un; omega
theorem nomk (b : Expr) {op : CmpOp} (h : op ≠ .In := by decide) (h2 : op ≠ .NotIn := by decide) : behindInMarks op b = false := nobehind b h h2
/-- the promise of a def without more: what its body does -/
def wfOf (n : Nat) (w : WS) : WF := fun ds k P => w { nx := fun _ k' => P .non k', rt := P } (startE n ds) k
section
variable {P : Program} {w : World} {K : PySem.W.Frag} {mg : Str → Option Value} {base : Heap}
theorem wx_of {X : Cx} {E : XK} {cls : Value} {d : Option Addr} {σ : L2.St} {H : Hp} (tk : Takes X (fun cls d _ H => E cls d H)) (h : E cls d H) : WX0 X cls d σ H := fun u s' ⟨a, B, sI, pins, σ', H', cls', d', e, I, nb, up, sky, na, os, ag, e1, e2, e3, e4⟩ =>
  tk u s' ⟨a, B, sI, pins, σ', H', cls', d', e, I, nb, up, sky, na, os, ag, by subst e1; subst e2; subst e4; exact h⟩
theorem body_ok {X : Cx} {E : XK} {body : List Stmt} {N : List Str} {n : Nat} {wb : WS} {vs : List V} {H : Hp} {Q : VK} (tk : Takes X (fun cls d _ H => E cls d H)) (hb : DSs X body wb) (h : spD n (wfOf N.length wb) vs H Q E) :
    ∃ t, PSs X body t ∧ t { nx := fun _ H' => Q .non H', rt := Q } (L2.start N vs) H := by
  obtain ⟨hl, O, p, c, ds, P', r, ot, pn, po, kx, hwf, q, qx⟩ := h
  obtain ⟨t, ps', rr⟩ := hb
  have xl : XL X (p.at H) := ⟨fun x k cls d σ H' pn' kp rx hx => wx_of tk (qx x cls d k H' kp pn' rx hx)⟩
  refine ⟨t, ps', rr O (p.at H) _ c _ H _ _ (rel_start r ot pn po kx kept_at) hwf ⟨fun ρ' k' σ' H' I' s' h' => ?_, fun v H' d k' kp pn' kx' r' h' => ?_, fun _ _ _ _ _ _ z => z.elim, fun _ _ _ _ _ _ z => z.elim⟩⟩
  · exact q .non H' .non k' (fun a o h n1 => s'.kp a o h n1 fun ⟨i, es, z, _⟩ => startE_own z) I'.pn I'.kx .non h'
  · exact q v H' d k' (fun a o h n1 => kp a o h n1 fun ⟨i, es, z, _⟩ => startE_own z) pn' kx' r' h'
theorem fnOf {x qual : Str} {st : Stmt} {f : Addr} {fd : FuncData} {N ps : List Str} {k : Nat} {n : Nat} {wb : WS} (F : Fun K x qual st f fd) (S : FnScope N ps (defScope st)) (hn : n = ps.length)
    (hbody : ∀ (cdv : Value) (A : Around) (outer : List Env) (s : Shared) (H : Hp) (E : XK), Room k (A.deeper (envOfC qual (defScope st) s.heap.objs.size f cdv)) → DSs (cxOf (L2.CX P w) P w K mg base N qual (defScope st) f cdv A outer s H E) (defBody st) wb) : FnOk P w K mg base (L2.CX P w) (k + 1) f fd ps (spD n (wfOf N.length wb)) :=
  F.okX S (fun vs H Q E h => h.1.trans hn) fun cdv A outer s H vs Q E hr h => body_ok (L2.takes_of rfl rfl rfl rfl) (hbody cdv A outer s H E hr) h
/-- the law's body behind its pen -/
theorem lawRest {X : Cx} {rest : List Stmt} {wr : WS} (hr : DSs X rest wr) : ∃ t, PSs X rest t ∧ ∀ {Q : VK} {a c s : Addr} {ns : List Int} {f : Int} {H : Hp} {σ : L2.St} {tabs : List (Addr × Str)} (n : Nat) (_ : 2 ≤ n) (_ : σ = some (.ref s) :: some (.ref a) :: List.replicate (n - 2) none)
    (_ : a ≠ c) (_ : H a = some (penO c 0 0 0 f)) (_ : H c = some (.lst (ns.map V.int))) (_ : 0 ≤ f) (_ : f < 2147483648)
    (_ : wr { nx := fun _ _ => False, rt := fun d _ => d = .bl true } (lawE n a) (0, ⟨some a, fun _ _ => False, tabs⟩)) (_ : ∀ H', Q (.bl true) H') (_ : LamX.Tabs tabs H), t { nx := fun _ H' => Q .non H', rt := Q } σ H := by
  obtain ⟨t, ps, rr⟩ := hr
  refine ⟨t, ps, fun {Q a c s ns f H σ tabs} n hl hs ne ha hc h0 h1 hw q ht => rr (fun b => (b = a ∨ b = c) ∨ ∃ q, (b, q) ∈ tabs) (Pn.nox ⟨some (a, c), fun _ => none, fun _ _ => False, none, tabs, fun _ => False⟩) _ _ σ H _ _ ?_ hw ⟨fun _ _ _ _ _ _ z => z.elim, fun v H' d k' _ _ _ r e => ?_, fun _ _ _ _ _ _ z => z.elim, fun _ _ _ _ _ _ z => z.elim⟩⟩
  · have no : ∀ b, Own (lawE n a) σ b → False := fun b ⟨i, es, h, _⟩ => by
      unfold lawE at h
      match i with
      | 0 => cases h
      | 1 => cases h
      | i + 2 =>
        rw [List.getElem?_cons_succ, List.getElem?_cons_succ] at h
        obtain ⟨h1, h2⟩ := List.getElem?_eq_some_iff.mp h
        rw [List.getElem_replicate] at h2
        cases h2
    refine ⟨?_, fun i d h => ?_, fun i es h => ?_, fun i j b es fs h1 _ h3 _ => (no b ⟨i, es, h1, h3⟩).elim, fun b z => ?_, ?_, fun b z => ?_, rfl, (fun a o h _ => by cases h), fun b z => rfl, fun i C ns ds b h h3 => (no b ⟨i, _, h, h3⟩).elim⟩
    · rw [hs]
      simp [lawE]
    · unfold lawE at h
      match i with
      | 0 => cases h
      | 1 => cases h; exact ⟨.ref a, by rw [hs]; rfl, .obj a⟩
      | i + 2 =>
        rw [List.getElem?_cons_succ, List.getElem?_cons_succ] at h
        obtain ⟨h1, h2⟩ := List.getElem?_eq_some_iff.mp h
        rw [List.getElem_replicate] at h2
        cases h2
    · unfold lawE at h
      match i with
      | 0 => cases h
      | 1 => cases h
      | i + 2 =>
        rw [List.getElem?_cons_succ, List.getElem?_cons_succ] at h
        obtain ⟨h1, h2⟩ := List.getElem?_eq_some_iff.mp h
        rw [List.getElem_replicate] at h2
        cases h2
    · rcases z with (rfl | rfl) | ⟨q, z⟩
      · rw [ha]; exact ⟨by simp, fun vs z => by cases z⟩
      · rw [hc]; exact ⟨by simp, fun vs z => by cases z⟩
      · obtain ⟨ps, e, _⟩ := ht (b, q) z
        rw [e]; exact ⟨by simp, fun vs z => by cases z⟩
    · exact ⟨⟨rfl, ne, ns, 0, 0, f, ha, hc, Nat.zero_le _, Int.le_refl _, h0, h1⟩, rfl, ht⟩
    · rcases z with (⟨x, y, e, h⟩ | h) | h
      · cases e
        exact .inl h
      · exact .inr h
      · exact h.elim
  · have e : d = .bl true := e
    subst e
    cases r
    exact q H'
end
end DL

set_option Elab.async false
set_option linter.all false
set_option maxRecDepth 100000
set_option maxHeartbeats 4000000
/-! ELh: the transformers as rewriting rules; loops by invariants -/
namespace DL
open PySem PySem.Spec PyProof.Rows L2
def varK (o : Option Slot) (i : Nat) (ρ : En) (k : Kt) (Q : R → En → Kt → Prop) : Prop := match o with
  | some (.val d) => Q (.val d) ρ k
  | some (.own _) => Q (.slot i) ρ k
  | _ => False
def drK : Option Slot → Option D
  | some (.val d) => some d
  | some (.own o) => some o.toD
  | _ => none
def frK (o : Option Slot) (ρ : En) (i : Nat) : Option (D × En) := match o with
  | some (.val d) => some (d, ρ)
  | some (.own o) => some (o.toD, ρ.set i (.val o.toD))
  | _ => none
def cons2 : Option D → Option (List D) → Option (List D)
  | some d, some ds => some (d :: ds)
  | _, _ => none
def frD (d : D) : Option (List D × En) → Option (List D × En)
  | some (ds, ρ2) => some (d :: ds, ρ2)
  | none => none
def frC (o : Option (D × En)) (rs : List R) : Option (List D × En) := match o with
  | some (d, ρ1) => frD d (frzL ρ1 rs)
  | none => none
section
variable {ρ : En} {k : Kt} {Q : R → En → Kt → Prop} {QL : List D → En → Kt → Prop} {QR : List R → En → Kt → Prop} {QT : Bool → En → Kt → Prop} {QG : En → Kt → Prop} {QO : Option Int → En → Kt → Prop} {E : DEnds} {a b c : WE} {t u : WT} {f f' : F2} {wa : WA} {wl : WL}
@[simp] theorem s_Var {i : Nat} : wVar i ρ k Q = varK ρ[i]? i ρ k Q := rfl
@[simp] theorem s_varv {i : Nat} {d : D} : varK (some (.val d)) i ρ k Q = Q (.val d) ρ k := rfl
@[simp] theorem s_varo {i : Nat} {o : OD} : varK (some (.own o)) i ρ k Q = Q (.slot i) ρ k := rfl
@[simp] theorem s_dr1 {d : D} : drK (some (.val d)) = some d := rfl
@[simp] theorem s_dr2 {o : OD} : drK (some (.own o)) = some o.toD := rfl
@[simp] theorem s_toDl {ds : List D} : OD.toD (.l ds) = .lst ds := rfl
@[simp] theorem s_toDk {ks : List Key} {ds : List D} : OD.toD (.k ks ds) = .dK ks ds := rfl
@[simp] theorem s_toDt {ks : List (List Key)} {ds : List D} : OD.toD (.t ks ds) = .dT ks ds := rfl
@[simp] theorem s_toDi {C : Addr} {ns : List Str} {ds : List D} : OD.toD (.i C ns ds) = .ins C ns ds := rfl
@[simp] theorem s_fr1 {i : Nat} {d : D} : frK (some (.val d)) ρ i = some (d, ρ) := rfl
@[simp] theorem s_fr2 {i : Nat} {o : OD} : frK (some (.own o)) ρ i = some (o.toD, ρ.set i (.val o.toD)) := rfl
@[simp] theorem s_c2 {d : D} {ds : List D} : cons2 (some d) (some ds) = some (d :: ds) := rfl
@[simp] theorem s_frC {d : D} {rs : List R} : frC (some (d, ρ)) rs = frD d (frzL ρ rs) := rfl
@[simp] theorem s_frD {d : D} {ds : List D} : frD d (some (ds, ρ)) = some (d :: ds, ρ) := rfl
@[simp] theorem s_C {d : D} : wC d ρ k Q = Q (.val d) ρ k := rfl
@[simp] theorem s_Nil : wNil ρ k QR = QR [] ρ k := rfl
@[simp] theorem s_Cons : wCons a wa ρ k QR = a ρ k fun x ρ1 k1 => wa ρ1 k1 fun xs ρ2 k2 => QR (x :: xs) ρ2 k2 := rfl
@[simp] theorem s_drv {d : D} : deref ρ (.val d) = some d := rfl
@[simp] theorem s_drs {i : Nat} : deref ρ (.slot i) = drK ρ[i]? := rfl
@[simp] theorem s_frv {d : D} : frz ρ (.val d) = some (d, ρ) := rfl
@[simp] theorem s_frs {i : Nat} : frz ρ (.slot i) = frK ρ[i]? ρ i := rfl
@[simp] theorem s_dn : derefL ρ [] = some [] := rfl
@[simp] theorem s_dc {r : R} {rs : List R} : derefL ρ (r :: rs) = cons2 (deref ρ r) (derefL ρ rs) := rfl
@[simp] theorem s_fn : frzL ρ [] = some ([], ρ) := rfl
@[simp] theorem s_fc {r : R} {rs : List R} : frzL ρ (r :: rs) = frC (frz ρ r) rs := rfl
@[simp] theorem s_Op : wOp f a b ρ k Q = a ρ k fun x ρ1 k1 => b ρ1 k1 fun y ρ2 k2 => ∃ d e, deref ρ2 x = some d ∧ deref ρ2 y = some e ∧ f d e fun z => Q (.val z) ρ2 k2 := rfl
@[simp] theorem s_Un {f : F1} : wUn f a ρ k Q = a ρ k fun x ρ1 k1 => ∃ d, deref ρ1 x = some d ∧ f d fun z => Q (.val z) ρ1 k1 := rfl
@[simp] theorem s_Test : wTest a ρ k QT = a ρ k fun x ρ1 k1 => ∃ b, deref ρ1 x = some (.bl b) ∧ QT b ρ1 k1 := rfl
@[simp] theorem s_Chain : wChain f f' a b c ρ k Q = a ρ k fun x ρ1 k1 => b ρ1 k1 fun y ρ2 k2 => ∃ d e, deref ρ2 x = some d ∧ deref ρ2 y = some e ∧ f d e fun z => ∃ t, z = .bl t ∧
  if t = true then c ρ2 k2 fun u ρ3 k3 => ∃ e' g, deref ρ3 y = some e' ∧ deref ρ3 u = some g ∧ f' e' g fun z' => Q (.val z') ρ3 k3 else Q (.val (.bl false)) ρ2 k2 := rfl
@[simp] theorem s_Tru : wTru a ρ k QT = a ρ k fun x ρ1 k1 => ∃ d b, deref ρ1 x = some d ∧ truD d = some b ∧ QT b ρ1 k1 := rfl
@[simp] theorem s_NotT : wNotT t ρ k QT = t ρ k fun b ρ1 k1 => QT (!b) ρ1 k1 := rfl
@[simp] theorem s_AndT : wAndT t u ρ k QT = t ρ k fun c ρ1 k1 => if c = true then u ρ1 k1 QT else QT false ρ1 k1 := rfl
@[simp] theorem s_OrT : wOrT t u ρ k QT = t ρ k fun c ρ1 k1 => if c = true then QT true ρ1 k1 else u ρ1 k1 QT := rfl
@[simp] theorem s_AndV : wAndV a b ρ k Q = a ρ k fun x ρ1 k1 => ∃ c, deref ρ1 x = some (.bl c) ∧ if c = true then b ρ1 k1 Q else Q (.val (.bl false)) ρ1 k1 := rfl
@[simp] theorem s_OrV : wOrV a b ρ k Q = a ρ k fun x ρ1 k1 => ∃ c, deref ρ1 x = some (.bl c) ∧ if c = true then Q (.val (.bl true)) ρ1 k1 else b ρ1 k1 Q := rfl
@[simp] theorem s_NotV : wNotV a ρ k Q = a ρ k fun x ρ1 k1 => ∃ c, deref ρ1 x = some (.bl c) ∧ Q (.val (.bl (!c))) ρ1 k1 := rfl
@[simp] theorem s_IfE : wIfE t a b ρ k Q = t ρ k fun t ρ1 k1 => if t = true then a ρ1 k1 Q else b ρ1 k1 Q := rfl
@[simp] theorem s_CB {f : FN} : wCB f wa ρ k Q = wa ρ k fun rs ρ1 k1 => ∃ ds, derefL ρ1 rs = some ds ∧ f ds fun z => Q (.val z) ρ1 k1 := rfl
@[simp] theorem s_CF {f : FL} : wCF f wa ρ k QL = wa ρ k fun rs ρ1 k1 => ∃ ds, derefL ρ1 rs = some ds ∧ f ds fun zs => QL zs ρ1 k1 := rfl
@[simp] theorem s_New : wNew wl ρ k Q = wl ρ k fun zs ρ1 k1 => Q (.val (.lst zs)) ρ1 k1 := rfl
@[simp] theorem s_Tup : wTup wa ρ k Q = wa ρ k fun rs ρ1 k1 => ∃ ds ρ2, frzL ρ1 rs = some (ds, ρ2) ∧ ds.length ≤ sizeLine ∧ Q (.val (.tup ds)) ρ2 k1 := rfl
@[simp] theorem s_Lst : wLst wa ρ k QL = wa ρ k fun rs ρ1 k1 => ∃ ds ρ2, frzL ρ1 rs = some (ds, ρ2) ∧ ds.length ≤ sizeLine ∧ QL ds ρ2 k1 := rfl
@[simp] theorem s_OpF {f : D → D → (List D → Prop) → Prop} : wOpF f a b ρ k QL = a ρ k fun x ρ1 k1 => b ρ1 k1 fun y ρ2 k2 => ∃ d e, deref ρ2 x = some d ∧ deref ρ2 y = some e ∧ f d e fun z => QL z ρ2 k2 := rfl
@[simp] theorem s_Call {m : Nat} {wf : WF} {dds : List D} : wCall m wf dds wa ρ k Q = wa ρ k fun rs ρ1 k1 => rs.length = m ∧ ∃ ds ρ2, frzL ρ1 rs = some (ds, ρ2) ∧ wf (ds ++ dds) k1 fun d k2 => Q (.val d) ρ2 k2 := rfl
@[simp] theorem s_SeqI : wSeqI a ρ k QL = a ρ k fun r ρ1 k1 => ∃ d ρ2 ds, frz ρ1 r = some (d, ρ2) ∧ itemsD d = some ds ∧ QL ds ρ2 k1 := rfl
@[simp] theorem s_itl {xs : List D} : itemsD (.lst xs) = some xs := rfl
@[simp] theorem s_itt {xs : List D} : itemsD (.tup xs) = some xs := rfl
@[simp] theorem s_Rng1 : wRng1 wa ρ k QL = wa ρ k fun rs ρ1 k1 => ∃ j : Int, derefL ρ1 rs = some [.int j] ∧ -(2 ^ 62) ≤ j ∧ j < 2 ^ 62 ∧ QL (rngD 0 j.toNat 1) ρ1 k1 := rfl
@[simp] theorem s_Rng2 : wRng2 wa ρ k QL = wa ρ k fun rs ρ1 k1 => ∃ i j : Int, derefL ρ1 rs = some [.int i, .int j] ∧ (-(2 ^ 62) ≤ i ∧ i < 2 ^ 62 ∧ -(2 ^ 62) ≤ j ∧ j < 2 ^ 62) ∧ QL (rngD i (j - i).toNat 1) ρ1 k1 := rfl
@[simp] theorem s_Rng3 : wRng3 wa ρ k QL = wa ρ k fun rs ρ1 k1 => ∃ (i j c : Int) (n : Nat), derefL ρ1 rs = some [.int i, .int j, .int c] ∧ RgC i j c n ∧ QL (rngD i n c) ρ1 k1 := rfl
@[simp] theorem s_Zip : wZip wa ρ k QL = wa ρ k fun rs ρ1 k1 => ∃ ds ρ2 xs ys, frzL ρ1 rs = some (ds, ρ2) ∧ zipArgs ds = some (xs, ys) ∧ QL (zipD xs ys) ρ2 k1 := rfl
@[simp] theorem s_za1 {xs ys : List D} : zipArgs [.lst xs, .lst ys] = some (xs, ys) := rfl
@[simp] theorem s_za2 {xs ys : List D} : zipArgs [.tup xs, .tup ys] = some (xs, ys) := rfl
@[simp] theorem s_gNm {i : Nat} {d : D} : gNm i d ρ k QG = QG (ρ.set i (.val d)) k := rfl
@[simp] theorem s_gNil {ds : List D} : gNil ds ρ k QG = (ds = [] ∧ QG ρ k) := rfl
@[simp] theorem s_gCons0 {g : WG} {gs : WGs} : gCons g gs [] ρ k QG = False := rfl
@[simp] theorem s_gCons {g : WG} {gs : WGs} {d : D} {ds : List D} : gCons g gs (d :: ds) ρ k QG = g d ρ k fun ρ1 k1 => gs ds ρ1 k1 QG := rfl
@[simp] theorem s_gTp {n : Nat} {w : WGs} {d : D} : gTp n w d ρ k QG = ∃ ds, d = .tup ds ∧ ds.length = n ∧ w ds ρ k QG := rfl
@[simp] theorem s_gLs {n : Nat} {w : WGs} {d : D} : gLs n w d ρ k QG = ∃ ds, d = .lst ds ∧ ds.length = n ∧ w ds ρ k QG := rfl
@[simp] theorem s_Lc {vs : List Nat} {tg : WG} : wLc vs wl tg t a ρ k QL = wl ρ k fun ds ρ1 k1 => lcW vs tg t a ds [] (wipeE ρ1 vs) (nxk k1) fun zs ρ2 k2 => QL zs ρ2 (rsk k1 k2) := rfl
@[simp] theorem s_Next : wNext E ρ k = E.nx ρ k := rfl
@[simp] theorem s_Seq {a b : WS} : wSeq a b E ρ k = a { E with nx := fun ρ' k' => b E ρ' k' } ρ k := rfl
@[simp] theorem s_Break : wBreak E ρ k = E.bk ρ k := rfl
@[simp] theorem s_Cont : wCont E ρ k = E.ct ρ k := rfl
@[simp] theorem s_Never : wNever E ρ k = False := rfl
@[simp] theorem s_Drop : wDrop a E ρ k = a ρ k fun _ ρ1 k1 => E.nx ρ1 k1 := rfl
@[simp] theorem s_Ret : wRet a E ρ k = a ρ k fun r ρ1 k1 => ∃ d ρ2, frz ρ1 r = some (d, ρ2) ∧ E.rt d k1 := rfl
@[simp] theorem s_RetN : wRetN E ρ k = E.rt .non k := rfl
@[simp] theorem s_If {a b : WS} : wIf t a b E ρ k = t ρ k fun t ρ1 k1 => if t = true then a E ρ1 k1 else b E ρ1 k1 := rfl
@[simp] theorem s_Set {i : Nat} : wSet i a E ρ k = a ρ k fun r ρ1 k1 => ∃ d ρ2, frz ρ1 r = some (d, ρ2) ∧ E.nx (ρ2.set i (.val d)) k1 := rfl
@[simp] theorem s_Asg {g : WG} : wAsg g a E ρ k = a ρ k fun r ρ1 k1 => ∃ d ρ2, frz ρ1 r = some (d, ρ2) ∧ g d ρ2 k1 E.nx := rfl
@[simp] theorem s_SetF {i : Nat} : wSetF i wl E ρ k = wl ρ k fun zs ρ1 k1 => E.nx (ρ1.set i (.own (.l zs))) k1 := rfl
@[simp] theorem s_Aug {i : Nat} : wAug i f a E ρ k = ∃ d, ρ[i]? = some (.val d) ∧ a ρ k fun r ρ1 k1 => ∃ e, deref ρ1 r = some e ∧ f d e fun z => E.nx (ρ1.set i (.val z)) k1 := rfl
@[simp] theorem s_Append {i : Nat} : wAppend i a E ρ k = ((∃ ds, ρ[i]? = some (.own (.l ds))) ∧ a ρ k fun r ρ1 k1 => ∃ y ρ2 ds, frz ρ1 r = some (y, ρ2) ∧ ρ2[i]? = some (.own (.l ds)) ∧ ds.length < sizeLine ∧ E.nx (ρ2.set i (.own (.l (ds ++ [y])))) k1) := rfl
@[simp] theorem s_Extend {i : Nat} : wExtend i a E ρ k = ((∃ ds, ρ[i]? = some (.own (.l ds))) ∧ a ρ k fun r ρ1 k1 => ∃ es ρ2 ds, frz ρ1 r = some (.lst es, ρ2) ∧ ρ2[i]? = some (.own (.l ds)) ∧ ds.length + es.length ≤ sizeLine ∧ E.nx (ρ2.set i (.own (.l (ds ++ es)))) k1) := rfl
@[simp] theorem s_For {g : WG} {b : WS} : wFor wl g b E ρ k = wl ρ k fun ds ρ1 k1 => forW g b E ds ρ1 k1 := rfl
@[simp] theorem s_Par {i j : Nat} : wPar i j a b E ρ k = a ρ k fun r ρ1 k1 => b ρ1 k1 fun r2 ρ2 k2 => ∃ ds ρ3, frzL ρ2 [r, r2] = some (ds, ρ3) ∧ ∃ x y, ds = [x, y] ∧ E.nx ((ρ3.set i (.val x)).set j (.val y)) k2 := rfl
@[simp] theorem s_ParF {i j : Nat} : wParF i j wl b E ρ k = wl ρ k fun zs ρ1 k1 => b ρ1 k1 fun r2 ρ2 k2 => ∃ y ρ3, frz ρ2 r2 = some (y, ρ3) ∧ E.nx ((ρ3.set i (.own (.l zs))).set j (.val y)) k2 := rfl
@[simp] theorem s_NoPart : wNoPart ρ k QO = QO none ρ k := rfl
@[simp] theorem s_Part : wPart a ρ k QO = a ρ k fun r ρ1 k1 => ∃ i, deref ρ1 r = some (.int i) ∧ QO (some i) ρ1 k1 := rfl
@[simp] theorem s_Sl {f : FS} {l u : WO} : wSl f a l u ρ k Q = a ρ k fun x ρ1 k1 => l ρ1 k1 fun lo ρ2 k2 => u ρ2 k2 fun hi ρ3 k3 => ∃ d, deref ρ3 x = some d ∧ f d lo hi fun z => Q (.val z) ρ3 k3 := rfl
@[simp] theorem s_SortRev {b : Bool} : wSortRev b wa ρ k QL = wa ρ k fun rs ρ1 k1 => ∃ xs ns, derefL ρ1 rs = some [.lst xs] ∧ intsD xs = some ns ∧ QL ((if b then (sortUp ns).reverse else sortUp ns).map .int) ρ1 k1 := rfl
@[simp] theorem s_of {n : Nat} {w : WS} {ds : List D} {P : D → Kt → Prop} : wfOf n w ds k P = w { nx := fun _ k' => P .non k', rt := P } (startE n ds) k := rfl
@[simp] theorem s_startE {n : Nat} {ds : List D} : startE n ds = ds.map .val ++ List.replicate (n - ds.length) .un := rfl
@[simp] theorem s_wn : wipeE ρ [] = ρ := rfl
@[simp] theorem s_wc {v : Nat} {vs : List Nat} : wipeE ρ (v :: vs) = (wipeE ρ vs).set v .un := rfl
end
@[simp] theorem s_rsk {k : Kt} : rsk k (nxk k) = k := rfl
@[simp] theorem s_nxk1 {k : Kt} : (nxk k).1 = k.1 := rfl
@[simp] theorem s_nxkp {k : Kt} : (nxk k).2.pen = k.2.pen := rfl
@[simp] theorem s_rsk1 {k k' : Kt} : (rsk k k').1 = k'.1 := rfl
@[simp] theorem s_rskp {k k' : Kt} : (rsk k k').2.pen = k'.2.pen := rfl
@[simp] theorem s_rskx {k k' : Kt} : (rsk k k').2.xc = k.2.xc := rfl
/-! the built-ins -/
section
variable {P : D → Prop} {PL : List D → Prop} {i j : Int} {xs ys : List D} {d e : D}
@[simp] theorem s_add : fAdd (.int i) (.int j) P = P (.int (i + j)) := rfl
@[simp] theorem s_addl : fAdd (.lst xs) (.lst ys) P = (xs.length + ys.length ≤ sizeLine ∧ P (.lst (xs ++ ys))) := rfl
@[simp] theorem s_addt : fAdd (.tup xs) (.tup ys) P = (xs.length + ys.length ≤ sizeLine ∧ P (.tup (xs ++ ys))) := rfl
@[simp] theorem s_cat : fCat (.lst xs) (.lst ys) PL = (xs.length + ys.length ≤ sizeLine ∧ PL (xs ++ ys)) := rfl
@[simp] theorem s_sub : fSub (.int i) (.int j) P = P (.int (i - j)) := rfl
@[simp] theorem s_mul : fMul (.int i) (.int j) P = (CMul i j ∧ P (.int (i * j))) := rfl
@[simp] theorem s_mull : fMul (.lst xs) (.int j) P = ((-(2 ^ 63) ≤ j ∧ j < 2 ^ 63 ∧ xs.length * j.toNat ≤ sizeLine) ∧ P (.lst (List.replicate j.toNat xs).flatten)) := rfl
@[simp] theorem s_mult : fMul (.tup xs) (.int j) P = ((xs ≠ [] ∧ 2 ≤ j ∧ j ≤ 1000 ∧ xs.length ≤ 1000) ∧ P (.tup (List.replicate j.toNat xs).flatten)) := rfl
@[simp] theorem s_rep : fRep (.lst xs) (.int j) PL = ((-(2 ^ 63) ≤ j ∧ j < 2 ^ 63 ∧ xs.length * j.toNat ≤ sizeLine) ∧ PL (List.replicate j.toNat xs).flatten) := rfl
@[simp] theorem s_div : fDiv (.int i) (.int j) P = (CDivN i j ∧ P (.int (i.fdiv j))) := rfl
@[simp] theorem s_mod : fMod (.int i) (.int j) P = (j ≠ 0 ∧ P (.int (i.fmod j))) := rfl
@[simp] theorem s_pow : fPow (.int i) (.int j) P = (CPow i j ∧ P (.int (i ^ j.toNat))) := rfl
@[simp] theorem s_ip {f : Int → Int → Int} : fIpI f (.int i) (.int j) P = P (.int (f i j)) := rfl
@[simp] theorem s_neg : fNeg (.int i) P = P (.int (-i)) := rfl
@[simp] theorem s_cmp {c : Int → Int → Bool} : fCmp c (.int i) (.int j) P = P (.bl (c i j)) := rfl
@[simp] theorem s_eq : fEq d e P = (okD d = true ∧ okD e = true ∧ P (.bl (eqD d e))) := rfl
@[simp] theorem s_ne : fNe d e P = (okD d = true ∧ okD e = true ∧ P (.bl (!eqD d e))) := rfl
@[simp] theorem s_in : fIn d e P = ∃ ys, inOk d e = some ys ∧ P (.bl (memD d ys)) := rfl
@[simp] theorem s_notin : fNotIn d e P = ∃ ys, inOk d e = some ys ∧ P (.bl (!memD d ys)) := rfl
@[simp] theorem s_isN : fIsN d .non P = P (.bl (isNonD d)) := rfl
@[simp] theorem s_notN : fNotN d .non P = P (.bl (!isNonD d)) := rfl
@[simp] theorem s_isNon0 : isNonD .non = true := rfl
@[simp] theorem s_isNon1 : isNonD (.int i) = false := rfl
@[simp] theorem s_isNon2 : isNonD (.lst xs) = false := rfl
@[simp] theorem s_isNon3 : isNonD (.tup xs) = false := rfl
@[simp] theorem s_isNon4 {b : Bool} : isNonD (.bl b) = false := rfl
@[simp] theorem s_isNon5 {x : Str} : isNonD (.str x) = false := rfl
@[simp] theorem s_ix : fIx d (.int i) P = ∃ z, ixD d i = some z ∧ P z := rfl
@[simp] theorem s_ixl : ixD (.lst xs) i = atI xs i := rfl
@[simp] theorem s_ixt : ixD (.tup xs) i = atI xs i := rfl
@[simp] theorem s_sll {lo hi : Option Int} : fSl (.lst xs) lo hi P = P (.lst (cutD xs lo hi)) := rfl
@[simp] theorem s_slt {lo hi : Option Int} : fSl (.tup xs) lo hi P = P (.tup (cutD xs lo hi)) := rfl
@[simp] theorem s_len : fLen [d] P = ∃ n : Nat, lenD d = some n ∧ P (.int n) := rfl
@[simp] theorem s_lenl : lenD (.lst xs) = some xs.length := rfl
@[simp] theorem s_lent : lenD (.tup xs) = some xs.length := rfl
@[simp] theorem s_sum : fSum [d] P = ∃ ns, numsD d = some ns ∧ P (.int ns.sum) := rfl
@[simp] theorem s_numl : numsD (.lst xs) = intsD xs := rfl
@[simp] theorem s_numt : numsD (.tup xs) = intsD xs := rfl
@[simp] theorem s_intsn : intsD [] = some [] := rfl
@[simp] theorem s_intsc : intsD (.int i :: xs) = (intsD xs).map (i :: ·) := rfl
@[simp] theorem s_ints : ∀ ns : List Int, intsD (ns.map .int) = some ns
  | [] => rfl
  | n :: ns => by rw [List.map_cons, s_intsc, s_ints ns]; rfl
@[simp] theorem s_min : fMin [d] P = ∃ ns, numsD d = some ns ∧ ns ≠ [] ∧ P (.int (minZ ns)) := rfl
@[simp] theorem s_max : fMax [d] P = ∃ ns, numsD d = some ns ∧ ns ≠ [] ∧ P (.int (maxZ ns)) := rfl
@[simp] theorem s_any : fAny [.lst xs] P = ∃ bs, blsD xs = some bs ∧ P (.bl (bs.any id)) := rfl
@[simp] theorem s_all : fAll [.lst xs] P = ∃ bs, blsD xs = some bs ∧ P (.bl (bs.all id)) := rfl
@[simp] theorem s_bls0 : blsD [] = some [] := rfl
@[simp] theorem s_blsc {b : Bool} : blsD (.bl b :: xs) = (blsD xs).map (b :: ·) := rfl
@[simp] theorem s_bls : ∀ bs : List Bool, blsD (bs.map .bl) = some bs
  | [] => rfl
  | n :: ns => by rw [List.map_cons, s_blsc, s_bls ns]; rfl
@[simp] theorem s_tupl : fTuple [.lst xs] P = P (.tup xs) := rfl
@[simp] theorem s_tupt : fTuple [.tup xs] P = P (.tup xs) := rfl
@[simp] theorem s_listl : fList [.lst xs] PL = PL xs := rfl
@[simp] theorem s_listt : fList [.tup xs] PL = PL xs := rfl
@[simp] theorem s_inti : fInt [.int i] P = P (.int i) := rfl
@[simp] theorem s_intb {k : Bool} : fInt [.bl k] P = P (.int (if k then 1 else 0)) := rfl
@[simp] theorem s_isi {n : String} : fIsi [d, .ty n] P = ∃ m b, tyD d = some m ∧ kitB m n = some b ∧ P (.bl b) := rfl
@[simp] theorem s_isiT {ts : List D} : fIsiT [d, .tup ts] P = ∃ m ns b, tyD d = some m ∧ tysD ts = some ns ∧ kitAnyB m ns = some b ∧ P (.bl b) := rfl
@[simp] theorem s_ty1 : tyD .non = some "NoneType" := rfl
@[simp] theorem s_ty2 {b : Bool} : tyD (.bl b) = some "bool" := rfl
@[simp] theorem s_ty3 : tyD (.int i) = some "int" := rfl
@[simp] theorem s_ty4 {x : Str} : tyD (.str x) = some "str" := rfl
@[simp] theorem s_ty5 : tyD (.lst xs) = some "list" := rfl
@[simp] theorem s_ty6 : tyD (.tup xs) = some "tuple" := rfl
@[simp] theorem s_tys0 : tysD [] = some [] := rfl
@[simp] theorem s_tysc {n : String} : tysD (.ty n :: xs) = (tysD xs).map (n :: ·) := rfl
@[simp] theorem s_kl : kitAnyB "list" ["list", "tuple"] = some true := by decide +kernel
@[simp] theorem s_kt : kitAnyB "tuple" ["list", "tuple"] = some true := by decide +kernel
@[simp] theorem s_ki : kitB "int" "int" = some true := by decide +kernel
@[simp] theorem s_kib : kitB "int" "bool" = some false := by decide +kernel
@[simp] theorem s_revl : fRev (.lst xs) P = P (.lst xs.reverse) := rfl
@[simp] theorem s_revt : fRev (.tup xs) P = P (.tup xs.reverse) := rfl
@[simp] theorem s_trub {b : Bool} : truD (.bl b) = some b := rfl
@[simp] theorem s_trui : truD (.int i) = some (i != 0) := rfl
@[simp] theorem s_trul : truD (.lst xs) = some (!xs.isEmpty) := rfl
@[simp] theorem s_trut : truD (.tup xs) = some (!xs.isEmpty) := rfl
@[simp] theorem s_trun : truD .non = some false := rfl
end
@[simp] theorem ex2 {α β : Type} {a : α} {b : β} {P : α → β → Prop} : (∃ x y, (a = x ∧ b = y) ∧ P x y) ↔ P a b := ⟨fun ⟨_, _, ⟨h1, h2⟩, h⟩ => by subst h1; subst h2; exact h, fun h => ⟨_, _, ⟨rfl, rfl⟩, h⟩⟩
@[simp] theorem s_flati {i : Int} : flatD (.int i) = true := rfl
@[simp] theorem s_inl {x : D} {ys : List D} : inOk x (.lst ys) = (if (flatD x && ys.all flatD) || (okD x && okD (.lst ys)) then some ys else none) := rfl
@[simp] theorem s_int {x : D} {ys : List D} : inOk x (.tup ys) = (if flatD x && ys.all flatD then some ys else none) := rfl
@[simp] theorem s_mem {x : D} {ys : List D} : memD x ys = ys.any fun y => eqD y x := rfl
/-! equality -/
@[simp] theorem okD_int (i : Int) : okD (.int i) = true := by simp [okD, isPy, py, SeqAt.shaped, PyData.canLay0, PyData.depth]
@[simp] theorem okD_bl (i : Bool) : okD (.bl i) = true := by simp [okD, isPy, py, SeqAt.shaped, PyData.canLay0, PyData.depth]
@[simp] theorem okD_non : okD .non = true := by simp [okD, isPy, py, SeqAt.shaped, PyData.canLay0, PyData.depth]
@[simp] theorem eqD_int (i j : Int) : eqD (.int i) (.int j) = decide (i = j) := by simp [eqD, py, PyData.eqv]; rfl
theorem isPyL_ints : ∀ xs : List Int, isPyL (xs.map D.int) = true
  | [] => rfl
  | x :: r => by rw [List.map_cons, isPyL, isPyL_ints r]; rfl
theorem canLay_ints : ∀ xs : List Int, PyData.canLayAll0 (pyL (xs.map D.int)) = true
  | [] => rfl
  | x :: r => by rw [List.map_cons, pyL, PyData.canLayAll0, canLay_ints r]; rfl
theorem depth_ints : ∀ xs : List Int, PyData.depthAll (pyL (xs.map D.int)) = 0
  | [] => rfl
  | x :: r => by rw [List.map_cons, pyL, PyData.depthAll, depth_ints r]; rfl
@[simp] theorem okD_lints (xs : List Int) : okD (.lst (xs.map .int)) = true := by simp [okD, isPy, isPyL_ints, py, SeqAt.shaped, PyData.canLay0, canLay_ints, PyData.depth, depth_ints]
@[simp] theorem okD_tints (xs : List Int) : okD (.tup (xs.map .int)) = true := by simp [okD, isPy, isPyL_ints, py, SeqAt.shaped, PyData.canLay0, canLay_ints, PyData.depth, depth_ints]
theorem eqvAll_ints : ∀ xs ys : List Int, PyData.eqvAll (pyL (xs.map D.int)) (pyL (ys.map D.int)) = decide (xs = ys)
  | [], [] => rfl
  | [], _ :: _ => rfl
  | _ :: _, [] => rfl
  | x :: xs, y :: ys => by
    rw [List.map_cons, List.map_cons, pyL, pyL, PyData.eqvAll, eqvAll_ints xs ys, py, py, PyData.eqv]
    by_cases h : x = y <;> by_cases h' : xs = ys <;> simp [h, h']
@[simp] theorem eqD_lints (xs ys : List Int) : eqD (.lst (xs.map .int)) (.lst (ys.map .int)) = decide (xs = ys) := by rw [eqD, py, py, PyData.eqv, eqvAll_ints]
@[simp] theorem eqD_tints (xs ys : List Int) : eqD (.tup (xs.map .int)) (.tup (ys.map .int)) = decide (xs = ys) := by rw [eqD, py, py, PyData.eqv, eqvAll_ints]
/-! places -/
/-! loops -/
def lcStep (vs : List Nat) (tg : WG) (ts : WT) (el : WE) (d : D) (ρ : En) (k : Kt) (Q : Option D → En → Kt → Prop) : Prop := tg d ρ k fun ρ1 k1 => ts ρ1 k1 fun b ρ2 k2 => if b = true then el ρ2 k2 fun r ρ3 k3 => ∃ y ρ4, frz ρ3 r = some (y, ρ4) ∧ Q (some y) (wipeE ρ4 vs) k3 else Q none (wipeE ρ2 vs) k2
/-- a comprehension over mapped things, into mapped things -/
theorem lc_map {α β : Type} {vs : List Nat} {tg : WG} {ts : WT} {el : WE} {ρ : En} {k : Kt} {xs : List α} {Q : List D → En → Kt → Prop} (u : α → D) (v : β → D) (g : α → β) (hl : xs.length ≤ sizeLine) (h : ∀ x ∈ xs, ∀ R : Option D → En → Kt → Prop, R (some (v (g x))) ρ k → lcStep vs tg ts el (u x) ρ k R) (q : Q ((xs.map g).map v) ρ k) : lcW vs tg ts el (xs.map u) [] ρ k Q := by
  have key : ∀ (xs : List α) (acc : List D), acc.length + xs.length ≤ sizeLine → (∀ x ∈ xs, ∀ R : Option D → En → Kt → Prop, R (some (v (g x))) ρ k → lcStep vs tg ts el (u x) ρ k R) → Q (acc ++ (xs.map g).map v) ρ k → lcW vs tg ts el (xs.map u) acc ρ k Q := by
    intro xs
    induction xs with
    | nil => intro acc _ _ q; rw [List.map_nil, List.map_nil, List.append_nil] at q; exact q
    | cons x xs ih =>
      intro acc hl h q
      rw [List.length_cons] at hl
      have s := h x List.mem_cons_self (fun o ρ' k' => match o with
        | some y => acc.length < sizeLine ∧ lcW vs tg ts el (xs.map u) (acc ++ [y]) ρ' k' Q
        | none => lcW vs tg ts el (xs.map u) acc ρ' k' Q) ?_
      · exact s
      · exact ⟨by omega, ih (acc ++ [v (g x)]) (by rw [List.length_append]; simp; omega) (fun x hx => h x (List.mem_cons_of_mem _ hx)) (by rw [List.append_assoc]; exact q)⟩
  exact key xs [] (by rw [List.length_nil]; omega) h q
/-- a loop with an invariant over what is left -/
theorem for_inv {g : WG} {b : WS} {E : DEnds} (I : List D → En → Kt → Prop) (step : ∀ (d : D) (rest : List D) (ρ : En) (k : Kt) (N : En → Kt → Prop), I (d :: rest) ρ k → (∀ ρ' k', I rest ρ' k' → N ρ' k') → g d ρ k fun ρ1 k1 => b { nx := N, rt := E.rt, bk := E.nx, ct := N } ρ1 k1) (fin : ∀ ρ k, I [] ρ k → E.nx ρ k) : ∀ (ds : List D) (ρ : En) (k : Kt), I ds ρ k → forW g b E ds ρ k
  | [], ρ, k, h => fin ρ k h
  | d :: ds, ρ, k, h => by
    have s := step d ds ρ k (fun ρ2 k2 => forW g b E ds ρ2 k2) h fun ρ' k' h' => for_inv I step fin ds ρ' k' h'
    exact s
/-- the same over mapped things, where the state stays -/
theorem for_map {α : Type} {g : WG} {b : WS} {E : DEnds} {k : Kt} (u : α → D) (I : List α → En → Prop) (step : ∀ (x : α) (rest : List α) (ρ : En) (N : En → Kt → Prop), I (x :: rest) ρ → (∀ ρ', I rest ρ' → N ρ' k) → g (u x) ρ k fun ρ1 k1 => b { nx := N, rt := E.rt, bk := E.nx, ct := N } ρ1 k1) (fin : ∀ ρ, I [] ρ → E.nx ρ k) : ∀ (xs : List α) (ρ : En), I xs ρ → forW g b E (xs.map u) ρ k
  | [], ρ, h => fin ρ h
  | x :: xs, ρ, h => by
    have s := step x xs ρ (fun ρ2 k2 => forW g b E (xs.map u) ρ2 k2) h fun ρ' h' => for_map u I step fin xs ρ' h'
    exact s
/-- a comprehension that filters, over mapped things, into mapped things -/
theorem lc_filt {α β : Type} {vs : List Nat} {tg : WG} {ts : WT} {el : WE} {ρ : En} {k : Kt} {xs : List α} {Q : List D → En → Kt → Prop} (u : α → D) (v : β → D) (g : α → Option β) (hl : xs.length ≤ sizeLine) (h : ∀ x ∈ xs, ∀ R : Option D → En → Kt → Prop, R ((g x).map v) ρ k → lcStep vs tg ts el (u x) ρ k R) (q : Q ((xs.filterMap g).map v) ρ k) : lcW vs tg ts el (xs.map u) [] ρ k Q := by
  have key : ∀ (xs : List α) (acc : List D), acc.length + xs.length ≤ sizeLine → (∀ x ∈ xs, ∀ R : Option D → En → Kt → Prop, R ((g x).map v) ρ k → lcStep vs tg ts el (u x) ρ k R) → Q (acc ++ (xs.filterMap g).map v) ρ k → lcW vs tg ts el (xs.map u) acc ρ k Q := by
    intro xs
    induction xs with
    | nil => intro acc _ _ q; rw [List.filterMap_nil, List.map_nil, List.append_nil] at q; exact q
    | cons x xs ih =>
      intro acc hl h q
      rw [List.length_cons] at hl
      have s := h x List.mem_cons_self (fun o ρ' k' => match o with
        | some y => acc.length < sizeLine ∧ lcW vs tg ts el (xs.map u) (acc ++ [y]) ρ' k' Q
        | none => lcW vs tg ts el (xs.map u) acc ρ' k' Q) ?_
      · exact s
      · cases e : g x with
        | none =>
          rw [List.filterMap_cons_none e] at q
          exact ih acc (by omega) (fun x hx => h x (List.mem_cons_of_mem _ hx)) q
        | some y =>
          rw [List.filterMap_cons_some e] at q
          exact ⟨by omega, ih (acc ++ [v y]) (by rw [List.length_append]; simp; omega) (fun x hx => h x (List.mem_cons_of_mem _ hx)) (by rw [List.append_assoc]; exact q)⟩
  exact key xs [] (by rw [List.length_nil]; omega) h q
theorem f_c {g : WG} {b : WS} {E : DEnds} {d : D} {ds : List D} {ρ : En} {k : Kt} : forW g b E (d :: ds) ρ k = g d ρ k fun ρ1 k1 => b { nx := fun ρ2 k2 => forW g b E ds ρ2 k2, rt := E.rt, bk := E.nx, ct := fun ρ2 k2 => forW g b E ds ρ2 k2 } ρ1 k1 := rfl
theorem f_n {g : WG} {b : WS} {E : DEnds} {ρ : En} {k : Kt} : forW g b E [] ρ k = E.nx ρ k := rfl
theorem l_c {vs : List Nat} {tg : WG} {ts : WT} {el : WE} {d : D} {ds acc : List D} {ρ : En} {k : Kt} {Q : List D → En → Kt → Prop} : lcW vs tg ts el (d :: ds) acc ρ k Q = tg d ρ k fun ρ1 k1 => ts ρ1 k1 fun b ρ2 k2 => if b = true then el ρ2 k2 fun r ρ3 k3 => ∃ y ρ4, frz ρ3 r = some (y, ρ4) ∧ acc.length < sizeLine ∧ lcW vs tg ts el ds (acc ++ [y]) (wipeE ρ4 vs) k3 Q
      else lcW vs tg ts el ds acc (wipeE ρ2 vs) k2 Q := rfl
theorem l_n {vs : List Nat} {tg : WG} {ts : WT} {el : WE} {acc : List D} {ρ : En} {k : Kt} {Q : List D → En → Kt → Prop} : lcW vs tg ts el [] acc ρ k Q = Q acc ρ k := rfl
theorem sz {n : Nat} (h : n ≤ 16777216) : n ≤ sizeLine := by rw [sizeLine_eq]; exact h
theorem cut_to (xs : List D) (n : Nat) : cutD xs none (some (n : Int)) = xs.take n := by
  unfold cutD
  rw [HT.sIx_nat, HT.sIx_none, List.drop_zero, Nat.sub_zero]
  by_cases h : n ≤ xs.length
  · rw [Nat.min_eq_left h]
  · rw [Nat.min_eq_right (by omega), List.take_length, List.take_of_length_le (by omega)]
theorem zipD_ints (xs ys : List Int) : zipD (xs.map .int) (ys.map .int) = (xs.zip ys).map fun p => D.tup [.int p.1, .int p.2] := by
  unfold zipD
  induction xs generalizing ys with
  | nil => rfl
  | cons x xs ih => cases ys with
    | nil => rfl
    | cons y ys => rw [List.map_cons, List.map_cons, List.zipWith_cons_cons, List.zip_cons_cons, List.map_cons, ih]
theorem atI_z {α : Type} {xs : List α} {n : Nat} {i : Int} {x : α} (e : i = (n : Int)) (h : xs[n]? = some x) : atI xs i = some x := by rw [e]; exact atI_nat h
theorem t_draw {a : Addr} {n : Int} {k : Kt} {P : D → Kt → Prop} (hk : k.2.pen = some a) (h0 : 0 < n) (h1 : n < 1073741824) (hc : k.1 < 1000000000000) (h : ∀ x : Int, 0 ≤ x → x < n → P (.int x) (k.1 + 1, k.2)) : wfDraw [.obj a, .int n] k P :=
  ⟨a, n, rfl, hk, h0, h1, hc, h⟩
end DL

set_option Elab.async false
set_option linter.all false
set_option maxRecDepth 100000
set_option maxHeartbeats 1000000
/-! ELi: instances of the program's classes: fields read, fields stored in __init__, C(..) -/
namespace DL
open PySem PySem.Spec PyProof.Rows L2
theorem zip_lookup {B : Addr → Prop} {H : Hp} {f : Str} {d : D} : ∀ {ns : List Str} {vs : List V} {ds : List D}, RepL B H vs ds → (ns.zip ds).lookup f = some d → ∃ v, (ns.zip vs).lookup f = some v ∧ Rep B H v d
  | [], _, _, _, h => by simp at h
  | n :: ns, _, _, .nil, h => by simp at h
  | n :: ns, v :: vs, e :: ds, .cons r t, h => by
    rw [List.zip_cons_cons, List.lookup_cons] at h
    rw [List.zip_cons_cons, List.lookup_cons]
    by_cases hf : (f == n) = true
    · rw [hf] at h ⊢
      cases h
      exact ⟨v, rfl, r⟩
    · have hf : (f == n) = false := by simpa using hf
      rw [hf] at h ⊢
      exact zip_lookup t h
theorem RepS.ins {B : Addr → Prop} {H : Hp} {v : V} {C : Addr} {ns : List Str} {ds : List D} (h : RepS B H v (.ins C ns ds)) : ∃ a dx vs, v = .ref a ∧ H a = some (.ins C dx (ns.zip vs)) ∧ ns.length = vs.length ∧ RepL B H vs ds := by
  cases h with
  | any h => cases h with | ins h1 h2 e1 e2 h3 => exact ⟨_, _, _, rfl, by rw [h2, e1], e2, h3⟩
  | own h1 h2 e => cases h2 with
    | l r => cases e
    | k _ r => cases e
    | t _ r => cases e
    | i l r => cases e; exact ⟨_, _, _, rfl, h1, l, r⟩
section
variable {X : Cx} {pos ps' : Pos}
/-- e.f -/
def wFld (C : Addr) (f : Str) (a : WE) : WE := fun ρ k Q => a ρ k fun r ρ1 k1 => ∃ ns ds d, deref ρ1 r = some (.ins C ns ds) ∧ (ns.zip ds).lookup f = some d ∧ Q (.val d) ρ1 k1
theorem de_fld {C : Addr} {e : Expr} {f : Str} {w : WE} (h : DE X e w) (c : Cls X.K C) (n : NoAttr X.K C f) (hb : attributeBase e f X.env (eval e X.env) = eval e X.env) : DE X (.Attribute e f pos) (wFld C f w) := by
  obtain ⟨t, pe, rr⟩ := h
  refine ⟨_, pe_fld pe hb, fun O p _ ρ k σ H Q J I h g => ?_⟩
  refine rr O p ρ k σ H _ _ I h fun v H1 r ρ1 k1 I1 s1 q1 h1 => ?_
  obtain ⟨ns, ds, d, e1, e2, h1⟩ := h1
  obtain ⟨a, dx, vs, rfl, ea, _, rl⟩ := (deref_ok I1 q1 e1).ins
  obtain ⟨u, e3, ru⟩ := zip_lookup rl e2
  exact ⟨a, C, dx, _, u, rfl, ea, c, n, e3, g u H1 (.val d) ρ1 k1 I1 s1 ru h1⟩
theorem putF_zip {f : Str} {v : V} : ∀ {ns : List Str} {vs : List V}, f ∉ ns → ns.length = vs.length → putF f v (ns.zip vs) = (ns ++ [f]).zip (vs ++ [v])
  | [], [], _, _ => rfl
  | [], _ :: _, _, h => by simp at h
  | _ :: _, [], _, h => by simp at h
  | n :: ns, w :: vs, h, e => by
    have hn : ¬ n = f := fun z => h (by rw [z]; exact List.mem_cons_self)
    rw [List.zip_cons_cons, putF, if_neg hn, putF_zip (fun z => h (List.mem_cons_of_mem _ z)) (by simpa using e)]
    rfl
/-- self.f = e, where self is being made -/
def wPutF (i : Nat) (C : Addr) (f : Str) (a : WE) : WS := fun E ρ k => a ρ k fun r ρ1 k1 => ∃ y ρ2 ns ds, frz ρ1 r = some (y, ρ2) ∧ ρ2[i]? = some (.own (.i C ns ds)) ∧ f ∉ ns ∧ ns.length < 1000 ∧ E.nx (ρ2.set i (.own (.i C (ns ++ [f]) (ds ++ [y])))) k1
theorem ds_putF (i : Nat) {C : Addr} {x f : Str} {e : Expr} {w : WE} {p1 p2 : Pos} (hN : X.N[i]? = some x) (hv : Vis X.env.scope x := by first | exact Or.inl rfl | exact Or.inr (Or.inl rfl) | exact Or.inr (Or.inr rfl)) (h : DE X e w) (c : Cls X.K C) (n : NoAttr X.K C f)
    (hs : swapsWith e (some (.Attribute (.Name x p1) f p2)) pos.line X.env = pure false := by rfl) (hd : (x == ("__debug__" : Str)) = false := by decide) (hcd : (x == ("__classdict__" : Str)) = false := by decide) : DS X (.Assign [.Attribute (.Name x p1) f p2] e pos) (wPutF i C f w) := by
  obtain ⟨t, pe, rr⟩ := h
  refine ⟨_, ps_fld (pe_var (i := i) hN hv hd hcd) pe hs, fun O p _ ρ k σ H E F I h e => ?_⟩
  refine rr O p ρ k σ H _ _ I h fun v H1 r ρ1 k1 I1 s1 q1 h1 => ?_
  obtain ⟨y, ρ2, ns, ds, e1, e2, hf, hl, h1⟩ := h1
  obtain ⟨I2, s2, r2⟩ := frz_ok I1 q1 e1
  obtain ⟨a, o, ea, ha, _, ro⟩ := I2.own i _ e2
  cases ro with
  | i el rl =>
    rename_i dx vs
    refine ⟨_, ea, a, C, dx, _, rfl, ha, c, n, by rw [List.length_zip, ← el, Nat.min_self]; exact hl, ?_⟩
    rw [putF_zip hf el]
    obtain ⟨I3, s3⟩ := I2.ownWrite (es := .i C (ns ++ [f]) (ds ++ [y])) (ws := .ins C dx ((ns ++ [f]).zip (vs ++ [v]))) e2 ea (.i (by rw [List.length_append, List.length_append, el]; rfl) (rl.append (.cons r2 .nil))) (fun _ _ _ _ => ⟨_, _, _, rfl⟩)
    exact e.nx _ _ _ _ I3 ((s1.trans s2 I1.pn).trans s3 I2.pn) h1
end
/-! ### C(..) -/
/-- what __init__ promises: the arguments behind self, what the instance then is -/
def spI (C : Addr) (n : Nat) (wf : WF) : Sp := fun vs H Q E => ∃ (x dx : Addr) (us : List V), vs = .ref x :: us ∧ us.length = n ∧ H x = some (.ins C dx []) ∧ ∃ (O : Addr → Prop) (p : Pn) (k : Kt) (ds : List D) (P : D → Kt → Prop), RepL (fun a => O a ∨ a = x) H us ds ∧ (∀ a, O a → H a ≠ none ∧ ∀ us, H a ≠ some (.tup us)) ∧ ¬ O x ∧ penI p k H ∧ (∀ a, penC p a → O a) ∧ k.2.xc = p.xc ∧ wf ds k P ∧
  (∀ H' dx' ns ws es k', (∀ a o, H a = some o → ¬ penA p a → a ≠ x → H' a = some o) → penI p k' H' → k'.2.xc = p.xc → H' x = some (.ins C dx' (ns.zip ws)) → ns.length = ws.length → RepL (fun a => O a ∨ a = x) H' ws es → P (.ins C ns es) k' → Q .non H') ∧
  ∀ y cls d k' H', (∀ a o, H a = some o → ¬ penA p a → a ≠ x → H' a = some o) → penI p k' H' → RepX p.hb H' cls d y → p.xc y k'.1 → E cls d H'
def startI (C : Addr) (N : Nat) (ds : List D) : En := .own (.i C [] []) :: (ds.map .val ++ List.replicate (N - 1 - ds.length) .un)
def wfI (C : Addr) (N : Nat) (w : WS) : WF := fun ds k P => w { nx := fun ρ k' => ∃ ns es, ρ[0]? = some (.own (.i C ns es)) ∧ P (.ins C ns es) k', rt := fun _ _ => False } (startI C N ds) k
theorem startI_own {C : Addr} {N : Nat} {ds : List D} {i : Nat} {o : OD} (h : (startI C N ds)[i]? = some (.own o)) : i = 0 ∧ o = .i C [] [] := by
  unfold startI at h
  match i with
  | 0 => cases h; exact ⟨rfl, rfl⟩
  | i + 1 =>
    rw [List.getElem?_cons_succ] at h
    by_cases hi : i < (ds.map Slot.val).length
    · rw [List.getElem?_append_left hi, List.getElem?_map] at h
      cases q : ds[i]? with
      | none => rw [q] at h; cases h
      | some x => rw [q] at h; cases h
    · rw [List.getElem?_append_right (by omega)] at h
      obtain ⟨h1, h2⟩ := List.getElem?_eq_some_iff.mp h
      rw [List.getElem_replicate] at h2
      cases h2
theorem startI_val {C : Addr} {N : Nat} {ds : List D} {i : Nat} {d : D} (h : (startI C N ds)[i]? = some (.val d)) : ∃ j, i = j + 1 ∧ ds[j]? = some d := by
  unfold startI at h
  match i with
  | 0 => cases h
  | i + 1 =>
    rw [List.getElem?_cons_succ] at h
    by_cases hi : i < (ds.map Slot.val).length
    · rw [List.getElem?_append_left hi, List.getElem?_map] at h
      cases q : ds[i]? with
      | none => rw [q] at h; cases h
      | some x => rw [q] at h; cases h; exact ⟨i, rfl, q⟩
    · rw [List.getElem?_append_right (by omega)] at h
      obtain ⟨h1, h2⟩ := List.getElem?_eq_some_iff.mp h
      rw [List.getElem_replicate] at h2
      cases h2
/-- a body that makes an instance -/
theorem init_ok {X : Cx} {E : XK} {body : List Stmt} {N : List Str} {n : Nat} {wb : WS} {vs : List V} {H : Hp} {Q : VK} {C : Addr} (tk : Takes X (fun cls d _ H => E cls d H)) (hb : DSs X body wb) (h : spI C n (wfI C N.length wb) vs H Q E) :
    ∃ t, PSs X body t ∧ t { nx := fun _ H' => Q .non H', rt := Q } (L2.start N vs) H := by
  obtain ⟨x, dx, us, rfl, hl, hx, O, p, c, ds, P', r, ot, nO, pn, po, kx, hwf, q, qx⟩ := h
  obtain ⟨t, ps', rr⟩ := hb
  let p1 : Pn := { p with base := fun a => if a = x then none else H a, self := some x }
  have xl : XL X p1 := ⟨fun y k cls d σ H' pn' kp rx hx => wx_of tk (qx y cls d k H' (fun a o h n1 n2 => kp a o (by show (if a = x then none else H a) = some o; rw [if_neg n2]; exact h) n1) pn' rx hx)⟩
  have st0 : (L2.start N (.ref x :: us))[0]? = some (some (V.ref x)) := rfl
  have ow : ∀ a, Own (startI C N.length ds) (L2.start N (.ref x :: us)) a → a = x := fun a ⟨i, o, h1, h2⟩ => by
    obtain ⟨rfl, rfl⟩ := startI_own h1
    rw [st0] at h2
    cases h2
    rfl
  have bn : ∀ a, Bn O (startI C N.length ds) (L2.start N (.ref x :: us)) a → (O a ∨ a = x) ∨ H a = none := fun a z => .inl (z.imp id (ow a))
  have I : Rel O p1 (startI C N.length ds) c (L2.start N (.ref x :: us)) H := ⟨by
      unfold startI L2.start
      simp only [List.length_cons, List.length_append, List.length_map, List.length_replicate]
      rw [← r.length]
      omega, fun i d h => by
      obtain ⟨j, rfl, hj⟩ := startI_val h
      obtain ⟨v, e, q⟩ := r.get (i := j) hj
      refine ⟨v, ?_, q.mono (fun _ _ h _ => h) bn⟩
      unfold L2.start
      have hi : j + 1 < (V.ref x :: us).length := by have := (List.getElem?_eq_some_iff.mp e).1; simp; omega
      rw [List.getElem?_append_left (by rw [List.length_map]; exact hi), List.getElem?_map, List.getElem?_cons_succ, e]
      rfl, fun i o h => by
      obtain ⟨rfl, rfl⟩ := startI_own h
      exact ⟨x, _, st0, hx, nO, .i (ns := []) (vs := []) rfl .nil⟩, fun i j a ds es h1 h2 _ _ => by rw [(startI_own h1).1, (startI_own h2).1], ot, pn, po, kx, fun a o h _ => by
      have h : (if a = x then none else H a) = some o := h
      split at h
      · cases h
      · exact h, fun a z => by
      show (if a = x then none else H a) = none
      rw [if_pos (ow a z)], fun i C' ns es a h h2 => by
      obtain ⟨rfl, _⟩ := startI_own h
      rw [st0] at h2
      cases h2
      rfl⟩
  refine ⟨t, ps', rr O p1 _ c _ H _ _ I hwf ⟨fun ρ' k' σ' H' I' s' h' => ?_, fun _ _ _ _ _ _ _ _ z => z.elim, fun _ _ _ _ _ _ z => z.elim, fun _ _ _ _ _ _ z => z.elim⟩⟩
  obtain ⟨ns, es, e0, hP⟩ := h'
  obtain ⟨a, o, ea, ha, nOa, ro⟩ := I'.own 0 _ e0
  have ex : a = x := by
    have z : some x = some a := I'.sf 0 C ns es a e0 ea
    cases z
    rfl
  subst ex
  cases ro with
  | i el rl =>
    rename_i dx' ws
    refine q H' dx' ns ws es k' (fun b o h n1 n2 => s'.kp b o h n1 fun z => n2 (ow b z)) I'.pn I'.kx ha el (rl.mono (fun _ _ h _ => h) fun b z => .inl ?_) hP
    rcases z with z | z
    · exact .inl z
    · exact .inr ⟨0, _, e0, by rw [z]; exact ea⟩
section
variable {P : Program} {w : World} {K : PySem.W.Frag} {mg : Str → Option Value} {base : Heap}
theorem fnInit {x qual : Str} {st : Stmt} {f : Addr} {fd : FuncData} {N ps : List Str} {k : Nat} {n : Nat} {wb : WS} {C : Addr} (F : Fun K x qual st f fd) (S : FnScope N ps (defScope st)) (hn : n + 1 = ps.length)
    (hbody : ∀ (cdv : Value) (A : Around) (outer : List Env) (s : Shared) (H : Hp) (E : XK), Room k (A.deeper (envOfC qual (defScope st) s.heap.objs.size f cdv)) → DSs (cxOf (L2.CX P w) P w K mg base N qual (defScope st) f cdv A outer s H E) (defBody st) wb) : FnOk P w K mg base (L2.CX P w) (k + 1) f fd ps (spI C n (wfI C N.length wb)) :=
  F.okX S (fun vs H Q E h => by obtain ⟨_, _, us, rfl, h, _⟩ := h; rw [List.length_cons, h, hn]) fun cdv A outer s H vs Q E hr h => init_ok (L2.takes_of rfl rfl rfl rfl) (hbody cdv A outer s H E hr) h
end
section
variable {X : Cx} {pos : Pos} {k0 : Nat} {f C : Addr} {fd : FuncData} {ps : List Str} {dvs : List V} {dus : List Value} {dds : List D} {n : Nat} {wf : WF} {x : Str} {ps' : Pos} {e : Expr} {es : List Expr} {wa : WA}
theorem de_make (M : Mk X.K C f) (F : FnOk X.prog X.w X.K X.mg X.base (L2.CX X.prog X.w) k0 f fd ps (spI C n wf)) (hr : Room (k0 + 1) X.A) (hg : Gl X x) (hm : X.mg x = some (.ref C)) (hb : Binds X.K fd ps dus) (hd : Vals dvs dus)
    (hdd : ∀ B H, RepL B H dvs dds) (hn : (e :: es).length + dvs.length = n) (ha : DA X (e :: es) wa) (hdb : (x == ("__debug__" : Str)) = false := by decide) (he : starEach (e :: es) X.env = (false, eval e X.env) :: starEach es X.env := by rfl) (hpl : (backTo pos (starEach es X.env)).any (·.1) = false := by rfl) : DE X (.Call (.Name x ps') (e :: es) [] pos) (wCall (es.length + 1) wf dds wa) := by
  obtain ⟨ta, pa, ra⟩ := ha
  refine ⟨_, pe_make M F hr hg hm hb hd passX pa hdb he hpl, fun O p _ ρ k σ H Q J I h g => ?_⟩
  refine ra O p ρ k σ H _ _ I h fun vs H1 rs ρ1 k1 I1 s1 q1 h1 => ?_
  obtain ⟨hlen, ds, ρ2, e1, h1⟩ := h1
  obtain ⟨I2, s2, r2⟩ := frzL_ok I1 q1 e1
  have xl : XL X p := inferInstance
  intro x dx hx hdx ne
  have x2 : AExt H1 (upd (upd H1 dx (.own x)) x (.ins C dx [])) := (AExt.upd hdx).trans (AExt.upd (by rw [upd_ne (Ne.symm ne)]; exact hx))
  have I3 := I2.ext x2
  have nb : ¬ Bn O ρ2 σ x := fun z => I2.bt x z hx
  refine ⟨x, dx, vs ++ dvs, rfl, by rw [List.length_append, Paired.length q1, hlen]; exact hn, upd_same, Bn O ρ2 σ, p, k1, ds ++ dds, _, (r2.append (hdd _ _)).mono (fun a o h _ => x2 a o h) (fun a z => z.elim .inl fun z => .inr (by rw [z]; exact hx)), I3.btn, nb, I3.pn, fun a z => .inl (I3.po a z), I3.kx, h1, fun H' dx' ns ws es' k' kp pn kx hx' hl rr hP => ⟨rfl, ?_⟩, fun y cls d k' H' kp pn rx hxx σ' => xl.go y k' cls d σ' H' pn (fun a o h n => kp a o (I3.bs a o h n) n fun z => by rw [z, I2.fresh hx] at h; cases h) rx hxx⟩
  have npx : ¬ penB p x := fun z => I2.pn.there z hx
  have keep : ∀ a o, upd (upd H1 dx (.own x)) x (.ins C dx []) a = some o → ¬ penB p a → a ≠ x → H' a = some o := fun a o h n => kp a o h fun z => n (penB.of z)
  have keep1 : ∀ a o, H1 a = some o → ¬ penA p a → ¬ Own ρ2 σ a → H' a = some o := fun a o h n1 _ => kp a o (x2 a o h) n1 fun z => by rw [z, hx] at h; cases h
  have tr : ∀ a, H1 a ≠ none → H' a ≠ none := fun a h => by
    by_cases hp : penA p a
    · exact pn.there (penB.of hp)
    · cases q : H1 a with
      | none => exact absurd q h
      | some o => rw [kp a o (x2 a o q) hp fun z => by rw [z, hx] at q; cases q]; simp
  have trn : ∀ a, (H1 a ≠ none ∧ ∀ us, H1 a ≠ some (.tup us)) → (H' a ≠ none ∧ ∀ us, H' a ≠ some (.tup us)) := fun a h => by
    by_cases hp : penA p a
    · exact pn.nt (penB.of hp)
    · cases q : H1 a with
      | none => exact absurd q h.1
      | some o => rw [kp a o (x2 a o q) hp fun z => by rw [z, hx] at q; cases q]; exact nt_kept h q
  have s3 : Step p ρ2 σ H1 ρ2 σ H' := ⟨keep1, fun _ z => .inl z, tr⟩
  have I4 : Rel O p ρ2 k' σ H' := ⟨I2.len, fun i d h => let ⟨v, e, q⟩ := I2.val i d h; ⟨v, e, Rep.step I2 s3 q⟩,
    fun i ds h => let ⟨a, o, e1, e2, e3, q⟩ := I2.own i ds h; ⟨a, o, e1, kp a o (x2 a o e2) (fun z => e3 (I2.po a (.inl (penB.of z)))) (fun z => by rw [z, hx] at e2; cases e2), e3, RepO.step I2 s3 q⟩, I2.inj, fun a z => trn a (I2.ot a z), pn, I2.po, kx, fun a o h n => kp a o (x2 a o (I2.bs a o h n)) n (fun z => by rw [z, I2.fresh hx] at h; cases h), I2.bo, I2.sf⟩
  refine g (.ref x) H' (.val (.ins C ns es')) ρ2 k' I4 ((s1.trans s2 I1.pn).trans s3 I2.pn) ?_ hP
  exact .ins nb hx' rfl hl (rr.mono (fun _ _ h _ => h) fun a z => .inl (.inl z))
end
end DL
namespace DL
open PySem PySem.Spec PyProof.Rows L2
/-! ### isinstance(x, C) -/
/-- what is asked of a class of the program's own -/
structure ClsF (K : PySem.W.Frag) (C : Addr) : Prop where
  cl : Cls K C
  ty : ∀ (H : Hp) (a dx : Addr) (fs : List (Str × V)), H a = some (.ins C dx fs) → TyOf K H (.ref a) (.ref C)
  kb : ∀ n ∈ (["NoneType", "bool", "int", "str", "list", "tuple", "dict"] : List String), PySem.W.kitOne K (.type n) (.ref C) = some false
def isC (C : Addr) : D → Option Bool
  | .ins C' _ _ => if C' = C then some true else none
  | .non => some false
  | .bl _ => some false
  | .int _ => some false
  | .str _ => some false
  | .lst _ => some false
  | .tup _ => some false
  | .dK _ _ => some false
  | _ => none
def fIsC (C : Addr) : FN := fun ds P => match ds with
  | [d, .obj c] => ∃ b, c = C ∧ isC C d = some b ∧ P (.bl b)
  | _ => False
theorem isC_ok {K : PySem.W.Frag} {C : Addr} (F : ClsF K C) {B : Addr → Prop} {H : Hp} {v : V} {d : D} {b : Bool} (r : RepS B H v d) (h : isC C d = some b) : ∃ t, TyX K H v t ∧ PySem.W.kitOne K t (.ref C) = some b := by
  have own : ∀ {a : Addr} {o : HO} {od : OD}, H a = some o → RepO B H o od → isC C od.toD = some b → ∃ t, TyX K H (.ref a) t ∧ PySem.W.kitOne K t (.ref C) = some b := fun {a o od} e ro h => by
    cases ro with
    | l r => cases h; exact ⟨_, .base (.lst e), F.kb _ (by simp)⟩
    | k _ r => cases h; exact ⟨_, .base (.dK e), F.kb _ (by simp)⟩
    | t _ r => cases h
    | i _ r =>
      rename_i C' dx ns ws es el
      have h : (if C' = C then some true else none) = some b := h
      split at h
      · rename_i ec
        have eb : b = true := (Option.some.inj h).symm
        subst eb
        subst ec
        exact ⟨_, .base (F.ty _ _ _ _ e), by unfold PySem.W.kitOne; rw [if_pos (beq_self_eq_true _)]⟩
      · cases h
  cases r with
  | own e ro eo => subst eo; exact own e ro h
  | any r =>
    cases r with
    | non => cases h; exact ⟨_, .base .non, F.kb _ (by simp)⟩
    | bl x => cases h; exact ⟨_, .base (.bl x), F.kb _ (by simp)⟩
    | int x => cases h; exact ⟨_, .base (.int x), F.kb _ (by simp)⟩
    | str x => cases h; exact ⟨_, .base (.str x), F.kb _ (by simp)⟩
    | ty _ => cases h
    | obj _ => cases h
    | lst nb e r => exact own (od := .l _) e (.l r) h
    | tup nb e r => cases h; exact ⟨_, .base (.tup e), F.kb _ (by simp)⟩
    | dK nb e e1 e2 r => subst e1; exact own (od := .k _ _) e (.k e2 r) h
    | dT nb e e1 e2 r => cases h
    | ins nb e e1 e2 r => subst e1; exact own (od := .i _ _ _) e (.i e2 r) h
theorem real_isC {K : PySem.W.Frag} {C : Addr} (F : ClsF K C) : RealN (rIsi K) (fIsC C) := by
  intro B H xs ds P J hb r h g
  unfold fIsC at h
  split at h
  · obtain ⟨b, rfl, hb', hP⟩ := h
    cases r with
    | cons r1 r2 => cases r2 with
      | cons r2 r3 =>
        cases r3
        obtain ⟨t, ty, kk⟩ := isC_ok F r1 hb'
        cases r2 with
        | own e ro eo => cases ro <;> cases eo
        | any r2 =>
          cases r2
          exact ⟨_, _, t, _, b, rfl, .own _, ty, kk, g _ H _ (AExt.refl H) (.bl b) hP⟩
  · exact h.elim
theorem de_cls {X : Cx} {x : Str} {C : Addr} {pos : Pos} (hg : Gl X x) (hm : X.mg x = some (.ref C)) (hd : (x == ("__debug__" : Str)) = false := by decide) : DE X (.Name x pos) (wC (.obj C)) := de_const (pe_glob hg hm (show RelV (.ref C) (.ref C) from rfl) hd) fun _ _ => Rep.obj C
end DL

set_option Elab.async false
set_option linter.all false
set_option maxRecDepth 100000
set_option maxHeartbeats 1000000
/-! ELj: calls that only read what they are handed -/
namespace DL
open PySem PySem.Spec PyProof.Rows L2
theorem flat_any' {B B' : Addr → Prop} {H H' : Hp} {v : V} {d : D} (r : Rep B H v d) (h : flatD d = true) : Rep B' H' v d := by
  cases r with
  | non => exact .non
  | bl b => exact .bl b
  | int i => exact .int i
  | str x => exact .str x
  | ty _ => cases h
  | obj _ => cases h
  | lst _ _ _ => cases h
  | tup _ _ _ => cases h
  | dK _ _ _ _ _ => cases h
  | dT _ _ _ _ _ => cases h
  | ins _ _ _ _ _ => cases h
section
variable {X : Cx} {pos : Pos} {k0 : Nat} {f : Addr} {fd : FuncData} {ps : List Str} {dvs : List V} {dus : List Value} {dds : List D} {n : Nat} {wf : WF} {x : Str} {ps' : Pos} {e : Expr} {es : List Expr} {wa : WA}
/-- a call whose answer is flat: what was owned stays owned -/
def wCallR (m : Nat) (wf : WF) (dds : List D) (a : WA) : WE := fun ρ k Q => a ρ k fun rs ρ1 k1 => rs.length = m ∧ ∃ ds ρ2, frzL ρ1 rs = some (ds, ρ2) ∧ wf (ds ++ dds) k1 fun d k2 => flatD d = true ∧ Q (.val d) ρ1 k2
theorem de_callR (F : FnOk X.prog X.w X.K X.mg X.base (L2.CX X.prog X.w) k0 f fd ps (spD n wf)) (hr : Room k0 X.A) (hg : Gl X x) (hm : X.mg x = some (.ref f)) (hk : PySem.W.keepIn X.K (.ref f) = true) (hb : Binds X.K fd ps dus) (hd : Vals dvs dus)
    (hdd : ∀ B H, RepL B H dvs dds) (hn : (e :: es).length + dvs.length = n) (ha : DA X (e :: es) wa) (hdb : (x == ("__debug__" : Str)) = false := by decide) (he : starEach (e :: es) X.env = (false, eval e X.env) :: starEach es X.env := by rfl) (hpl : (backTo pos (starEach es X.env)).any (·.1) = false := by rfl) : DE X (.Call (.Name x ps') (e :: es) [] pos) (wCallR (es.length + 1) wf dds wa) := by
  obtain ⟨ta, pa, ra⟩ := ha
  refine ⟨_, pe_call F hr hg hm hk hb hd passX pa hdb he hpl, fun O p _ ρ k σ H Q J I h g => ?_⟩
  refine ra O p ρ k σ H _ _ I h fun vs H1 rs ρ1 k1 I1 s1 q1 h1 => ?_
  obtain ⟨hlen, ds, ρ2, e1, h1⟩ := h1
  obtain ⟨I2, s2, r2⟩ := frzL_ok I1 q1 e1
  have xl : XL X p := inferInstance
  refine ⟨by rw [List.length_append, Paired.length q1, hlen]; exact hn, Bn O ρ2 σ, p, k1, ds ++ dds, _, r2.append (hdd _ _), I2.btn, I2.pn, fun a z => .inl (I2.po a z), I2.kx, h1, fun v H' d k' kp pn kx r q => ?_, fun x cls d k' H' kp pn rx hx σ' => xl.go x k' cls d σ' H' pn (fun a o h n => kp a o (I2.bs a o h n) n) rx hx⟩
  have s3 : Step p ρ1 σ H1 ρ1 σ H' := ⟨fun a o h n1 n2 => kp a o h n1, fun _ z => .inl z, fun a h => by
    by_cases hp : penA p a
    · exact pn.there (penB.of hp)
    · cases q : H1 a with
      | none => exact absurd q h
      | some o => rw [kp a o q hp]; simp⟩
  have keep : ∀ a o, H1 a = some o → ¬ penB p a → H' a = some o := fun a o h n => kp a o h fun z => n (penB.of z)
  have I3 : Rel O p ρ1 k' σ H' := ⟨I1.len, fun i d h => let ⟨v, e, q⟩ := I1.val i d h; ⟨v, e, Rep.step I1 s3 q⟩,
    fun i ds h => let ⟨a, o, e1, e2, e3, q⟩ := I1.own i ds h; ⟨a, o, e1, keep a _ e2 (fun z => e3 (I1.po a (.inl z))), e3, RepO.step I1 s3 q⟩, I1.inj, fun a z => by
      by_cases hp : penB p a
      · exact pn.nt hp
      · cases q : H1 a with
        | none => exact absurd q (I1.ot a z).1
        | some o => rw [keep a o q hp]; exact nt_kept (I1.ot a z) q, pn, I1.po, kx, fun a o h n => kp a o (I1.bs a o h n) n, I1.bo, I1.sf⟩
  exact g v H' (.val d) ρ1 k' I3 (s1.trans s3 I1.pn) (flat_any' r q.1) q.2
end
end DL

set_option Elab.async false
set_option linter.all false
set_option maxRecDepth 100000
set_option maxHeartbeats 1000000
/-! ELk: dicts whose keys are tuples of ints and texts -/
namespace DL
open PySem PySem.Spec PyProof.Rows L2
def keyOf : D → Option Key
  | .int i => some (.inl i)
  | .str x => some (.inr x)
  | _ => none
def keysOf : List D → Option (List Key)
  | [] => some []
  | d :: ds => match keyOf d, keysOf ds with
    | some k, some ks => some (k :: ks)
    | _, _ => none
def keyT : D → Option (List Key)
  | .tup ds => keysOf ds
  | _ => none
theorem keysOf_rep {B : Addr → Prop} {H : Hp} : ∀ {vs : List V} {ds : List D} {ks : List Key}, RepL B H vs ds → keysOf ds = some ks → vs = ks.map kV
  | _, _, _, .nil, h => by cases h; rfl
  | _, d :: ds, ks, .cons r t, h => by
    unfold keysOf at h
    cases hk : keyOf d with
    | none => rw [hk] at h; cases h
    | some k =>
      rw [hk] at h
      cases hs : keysOf ds with
      | none => rw [hs] at h; cases h
      | some l =>
        rw [hs] at h
        cases h
        rw [List.map_cons, keysOf_rep t hs]
        cases r with
        | int i => cases hk; rfl
        | str x => cases hk; rfl
        | non => cases hk
        | bl _ => cases hk
        | ty _ => cases hk
        | obj _ => cases hk
        | lst _ _ _ => cases hk
        | tup _ _ _ => cases hk
        | dK _ _ _ _ _ => cases hk
        | dT _ _ _ _ _ => cases hk
        | ins _ _ _ _ _ => cases hk
theorem keyT_rep {B : Addr → Prop} {H : Hp} {v : V} {d : D} {k : List Key} (r : RepS B H v d) (h : keyT d = some k) : ∃ b, v = .ref b ∧ H b = some (.tup (k.map kV)) := by
  cases d with
  | tup ds =>
    obtain ⟨a, vs, rfl, _, e, rl⟩ := r.tup
    exact ⟨a, rfl, by rw [e, keysOf_rep rl h]⟩
  | _ => cases h
def valD {κ : Type} [DecidableEq κ] (ks : List κ) (ds : List D) (k : κ) : Option D := ((ks.zip ds).find? fun kv => decide (kv.1 = k)).map (·.2)
theorem valD_some {κ : Type} [DecidableEq κ] {B : Addr → Prop} {H : Hp} {k : κ} {d : D} : ∀ {ks : List κ} {vs : List V} {ds : List D}, RepL B H vs ds → valD ks ds k = some d → ∃ v, valV (ks.zip vs) k = some v ∧ Rep B H v d
  | [], _, _, _, h => by simp [valD] at h
  | c :: ks, _, _, .nil, h => by simp [valD] at h
  | c :: ks, v :: vs, e :: ds, .cons r t, h => by
    by_cases hc : c = k
    · have h' : some e = some d := by rw [← h]; simp [valD, List.find?_cons, hc]
      cases h'
      exact ⟨v, by simp [valV, List.find?_cons, hc], r⟩
    · have h' : valD ks ds k = some d := by rw [← h]; simp [valD, List.find?_cons, hc]
      obtain ⟨u, e1, e2⟩ := valD_some t h'
      exact ⟨u, by rw [← e1]; simp [valV, List.find?_cons, hc], e2⟩
theorem valD_none {κ : Type} [DecidableEq κ] {B : Addr → Prop} {H : Hp} {k : κ} : ∀ {ks : List κ} {vs : List V} {ds : List D}, RepL B H vs ds → valD ks ds k = none → valV (ks.zip vs) k = none
  | [], _, _, _, h => by simp [valV]
  | c :: ks, _, _, .nil, h => by simp [valV]
  | c :: ks, v :: vs, e :: ds, .cons r t, h => by
    by_cases hc : c = k
    · simp [valD, List.find?_cons, hc] at h
    · have h' : valD ks ds k = none := by rw [← h]; simp [valD, List.find?_cons, hc]
      rw [← valD_none t h']
      simp [valV, List.find?_cons, hc]
theorem RepS.dT {B : Addr → Prop} {H : Hp} {v : V} {ks : List (List Key)} {ds : List D} (h : RepS B H v (.dT ks ds)) : ∃ a vs, v = .ref a ∧ Rd H a (.dT (ks.zip vs)) ∧ ks.length = vs.length ∧ RepL B H vs ds := by
  cases h with
  | any h => cases h with | dT h1 h2 e1 e2 h3 => exact ⟨_, _, rfl, by rw [← e1]; exact h2, e2, h3⟩
  | own h1 h2 e => cases h2 with
    | l r => cases e
    | k _ r => cases e
    | t l r => cases e; exact ⟨_, _, rfl, .inl h1, l, r⟩
    | i _ r => cases e
section
variable {X : Cx} {pos : Pos} {a b : Expr} {wa wb : WE}
/-- x[y] -/
def wDGet (a b : WE) : WE := fun ρ k Q => a ρ k fun x ρ1 k1 => b ρ1 k1 fun y ρ2 k2 => ∃ ks ds e key d, deref ρ2 x = some (.dT ks ds) ∧ deref ρ2 y = some e ∧ keyT e = some key ∧ valD ks ds key = some d ∧ Q (.val d) ρ2 k2
theorem de_dget (hu : X.A.units + 1 < cLine) (ha : DE X a wa) (hb : DE X b wb) (hs : NoSl b) : DE X (.Subscript a b pos) (wDGet wa wb) := by
  obtain ⟨ta, pa, ra⟩ := ha
  obtain ⟨tb, pb, rb⟩ := hb
  refine ⟨_, pe_dget hu pa pb hs, fun O p _ ρ k σ H Q J I h g => ?_⟩
  refine ra O p ρ k σ H _ _ I h fun v H1 r ρ1 k1 I1 s1 q1 h1 => ?_
  refine rb O p ρ1 k1 σ H1 _ _ I1 h1 fun u H2 r2 ρ2 k2 I2 s2 q2 h2 => ?_
  obtain ⟨ks, ds, e, key, d, e1, e2, e3, e4, h2⟩ := h2
  obtain ⟨x, vs, rfl, ex, _, rl⟩ := (deref_ok I2 (RRep.step I1 s2 q1) e1).dT
  obtain ⟨y, rfl, ey⟩ := keyT_rep (deref_ok I2 q2 e2) e3
  obtain ⟨w, e5, rw'⟩ := valD_some rl e4
  exact ⟨x, w, rfl, by rw [← e5]; exact .inr ⟨_, _, _, ex, rfl, ey, rfl⟩, g w H2 (.val d) ρ2 k2 I2 (s1.trans s2 I1.pn) rw' h2⟩
/-- y in x, y not in x -/
def wDIn (neg : Bool) (b a : WE) : WE := fun ρ k Q => b ρ k fun y ρ1 k1 => a ρ1 k1 fun x ρ2 k2 => ∃ ks ds e key, deref ρ2 x = some (.dT ks ds) ∧ deref ρ2 y = some e ∧ keyT e = some key ∧ Q (.val (.bl (xor neg (valD ks ds key).isSome))) ρ2 k2
theorem dinCore {B : Addr → Prop} {H : Hp} {v u : V} {ks : List (List Key)} {ds : List D} {e : D} {key : List Key} (r1 : RepS B H v (.dT ks ds)) (r2 : RepS B H u e) (h : keyT e = some key) : ∃ x o, v = .ref x ∧ DGet H x u o ∧ o.isSome = (valD ks ds key).isSome := by
  obtain ⟨x, vs, rfl, ex, _, rl⟩ := r1.dT
  obtain ⟨y, rfl, ey⟩ := keyT_rep r2 h
  refine ⟨x, _, rfl, .inr ⟨_, _, _, ex, rfl, ey, rfl⟩, ?_⟩
  cases q : valD ks ds key with
  | none => rw [valD_none rl q]; rfl
  | some d => obtain ⟨w, e5, _⟩ := valD_some rl q; rw [e5]; rfl
/-- x = {} (keys will be tuples) -/
def wNewD (i : Nat) : WS := fun E ρ k => E.nx (ρ.set i (.own (.t [] []))) k
/-- in its place, or at the end -/
def putD {κ : Type} [DecidableEq κ] : List κ → List D → κ → D → List κ × List D
  | c :: ks, e :: ds, k, d => if c = k then (c :: ks, d :: ds) else ((c :: (putD ks ds k d).1), (e :: (putD ks ds k d).2))
  | ks, ds, k, d => (ks ++ [k], ds ++ [d])
theorem putD_rep {κ : Type} [DecidableEq κ] {B : Addr → Prop} {H : Hp} {k : κ} {v : V} {d : D} (r : Rep B H v d) : ∀ {ks : List κ} {vs : List V} {ds : List D}, ks.Nodup → ks.length = vs.length → RepL B H vs ds → ∃ ws, putK (ks.zip vs) k v = (putD ks ds k d).1.zip ws ∧ (putD ks ds k d).1.length = ws.length ∧ RepL B H ws (putD ks ds k d).2
  | [], [], _, _, _, .nil => ⟨[v], by simp [putK, putD], rfl, .cons r .nil⟩
  | [], _ :: _, _, _, h, _ => by simp at h
  | _ :: _, [], _, _, h, _ => by simp at h
  | c :: ks, w :: vs, e :: ds, hn, hl, .cons r1 t => by
    rw [List.nodup_cons] at hn
    by_cases hc : c = k
    · subst hc
      have e1 : ∀ p ∈ ks.zip vs, ¬ p.1 = c := fun p hp z => hn.1 (by rw [← z]; exact (List.of_mem_zip hp).1)
      refine ⟨v :: vs, ?_, by rw [putD, if_pos rfl]; simpa using hl, by rw [putD, if_pos rfl]; exact .cons r t⟩
      rw [putD, if_pos rfl, putK, if_pos (by simp)]
      simp only [List.zip_cons_cons, List.map_cons, if_true]
      congr 1
      refine (List.map_congr_left fun p hp => if_neg (e1 p hp)).trans (List.map_id _)
    · obtain ⟨ws, e1, e2, e3⟩ := putD_rep (k := k) r hn.2 (by simpa using hl) t
      refine ⟨w :: ws, ?_, by rw [putD, if_neg hc]; simpa using e2, by rw [putD, if_neg hc]; exact .cons r1 e3⟩
      rw [putD, if_neg hc]
      show _ = (c, w) :: ((putD ks ds k d).1.zip ws)
      rw [← e1]
      unfold putK
      simp only [List.zip_cons_cons, List.any_cons, hc, decide_false, Bool.false_or]
      by_cases ha : ((ks.zip vs).any fun kv => decide (kv.1 = k)) = true
      · rw [if_pos ha, if_pos ha, List.map_cons, if_neg hc]
      · rw [if_neg ha, if_neg ha]; rfl
/-- x[b] = e, x a dict of this body's own -/
def wPutD (i : Nat) (b a : WE) : WS := fun E ρ k => a ρ k fun r ρ1 k1 => ∃ y ρ2, frz ρ1 r = some (y, ρ2) ∧ (∃ ks ds, ρ2[i]? = some (.own (.t ks ds))) ∧ b ρ2 k1 fun r2 ρ3 k3 => ∃ e key ks ds, deref ρ3 r2 = some e ∧ keyT e = some key ∧ ρ3[i]? = some (.own (.t ks ds)) ∧ ks.Nodup ∧ ks.length < sizeLine ∧ E.nx (ρ3.set i (.own (.t (putD ks ds key y).1 (putD ks ds key y).2))) k3
theorem ds_putD (hu : X.A.units + 1 < cLine) (i : Nat) {x : Str} {p1 p2 : Pos} (hN : X.N[i]? = some x) (hv : Vis X.env.scope x := by first | exact Or.inl rfl | exact Or.inr (Or.inl rfl) | exact Or.inr (Or.inr rfl)) (hb : DE X b wb) (ha : DE X a wa)
    (hs : swapsWith a (some (.Subscript (.Name x p1) b p2)) pos.line X.env = pure false := by rfl) (hd : (x == ("__debug__" : Str)) = false := by decide) (hcd : (x == ("__classdict__" : Str)) = false := by decide) : DS X (.Assign [.Subscript (.Name x p1) b p2] a pos) (wPutD i wb wa) := by
  obtain ⟨ta, pa, ra⟩ := ha
  obtain ⟨tb, pb, rb⟩ := hb
  refine ⟨_, ps_dput hu (pe_var (i := i) hN hv hd hcd) pb pa hs, fun O p _ ρ k σ H E F I h e => ?_⟩
  refine ra O p ρ k σ H _ _ I h fun v H1 r ρ1 k1 I1 s1 q1 h1 => ?_
  obtain ⟨y, ρ2, e1, ⟨ks0, ds0, e0⟩, h1⟩ := h1
  obtain ⟨I2, s2, r2⟩ := frz_ok I1 q1 e1
  obtain ⟨c, o0, ec, hc, _, _⟩ := I2.own i _ e0
  refine ⟨_, ec, ?_⟩
  refine rb O p ρ2 k1 σ H1 _ _ I2 h1 fun u H3 r3 ρ3 k3 I3 s3 q3 h3 => ?_
  obtain ⟨ee, key, ks, ds, e2, e3, e4, hn, hl, h3⟩ := h3
  obtain ⟨c', o, ec', hc', _, ro⟩ := I3.own i _ e4
  rw [ec] at ec'
  cases ec'
  obtain ⟨bb, rfl, eb⟩ := keyT_rep (deref_ok I3 q3 e2) e3
  cases ro with
  | t el rl =>
    rename_i vs
    obtain ⟨ws, f1, f2, f3⟩ := putD_rep (k := key) (Rep.step I2 s3 r2) hn el rl
    refine ⟨c, _, rfl, .t hc' eb (by rw [List.length_zip, ← el, Nat.min_self]; exact hl), ?_⟩
    rw [f1]
    obtain ⟨I4, s4⟩ := I3.ownWrite (es := .t (putD ks ds key y).1 (putD ks ds key y).2) (ws := .dT ((putD ks ds key y).1.zip ws)) e4 ec (.t f2 f3) (fun _ _ _ z => by cases z)
    exact e.nx _ _ _ _ I4 (((s1.trans s2 I1.pn).trans s3 I2.pn).trans s4 I3.pn) h3
end
end DL

set_option Elab.async false
set_option linter.all false
set_option maxRecDepth 100000
set_option maxHeartbeats 1000000
/-! ELl: own exceptions over ValueError: __init__ says super().__init__(..), then stores what it got -/
namespace DL
open PySem PySem.Spec PyProof.Rows L2
open PySem.W (ksFn kxs_mw Looks)
/-- self.f = f for each f -/
inductive FldB : List Str → List Stmt → Prop
  | nil : FldB [] []
  | cons {f : Str} {r : List Str} {ss : List Stmt} {p1 p2 p3 p4 : Pos} : (f == ("__debug__" : Str)) = false → FldB r ss → FldB (f :: r) (.Assign [.Attribute (.Name "self" p1) f p2] (.Name f p3) p4 :: ss)
/-- f, .. as arguments -/
inductive ArgB : List Str → List Expr → Prop
  | nil : ArgB [] []
  | cons {f : Str} {r : List Str} {es : List Expr} {p : Pos} : (f == ("__debug__" : Str)) = false → ArgB r es → ArgB (f :: r) (.Name f p :: es)
inductive SupB : List Str → List Stmt → Prop
  | mk {fs : List Str} {f : Str} {r : List Str} {es : List Expr} {ss : List Stmt} {p0 p1 p2 p3 p4 : Pos} {pl : Env → Sem Bool} (he : ∀ env, eval (.Call (.Attribute (.Call (.Name "super" p0) [] [] p1) "__init__" p2) es [] p3) env = (do
      let ov ← attributeBase (.Call (.Name "super" p0) [] [] p1) "__init__" env (eval (.Call (.Name "super" p0) [] [] p1) env)
      standAt p2.atName
      let x ← holding [ov] (getMethod ov "__init__" (pl env))
      callWith p3 x.1 x.2 (backTo p3 (starEach es env)) [])) : fs = f :: r → ArgB fs es → FldB fs ss → SupB fs (.Expr (.Call (.Attribute (.Call (.Name "super" p0) [] [] p1) "__init__" p2) es [] p3) p4 :: ss)
/-- the values by their names -/
def NamesAt (m : Str → Option Value) : List Str → List Value → Prop
  | [], [] => True
  | f :: r, u :: us => m f = some u ∧ NamesAt m r us
  | _, _ => False
section
variable {prog : Program} {w : World} {A : Around} {E : Value → Shared → Prop} {env : Env} {m : Str → Option Value} {K : PySem.W.Frag} {C : Addr}
theorem args_at {s : Shared} (hk : env.scope.kind = .function) (hn : s.heap.Ns env.locals m) : ∀ {fs : List Str} {es : List Expr} {us : List Value} {pos : Pos} {Q : List Value → Shared → Prop}, ArgB fs es → (∀ f ∈ fs, env.kindOf f = some .local) → NamesAt m fs us → Q us s → wpAny (model prog w) A (spliced (backTo pos (starEach es env))) Q E s
  | _, _, us, pos, Q, .nil, _, h, q => by
    cases us with
    | nil => exact args_nil q
    | cons _ _ => exact h.elim
  | f :: r, _, us, pos, Q, .cons hd t, hl, h, q => by
    cases us with
    | nil => exact h.elim
    | cons u us =>
      exact args_cons (wpAny_Name (wpAny_loadName_local hk (hl f List.mem_cons_self) hn h.1 (args_at hk hn t (fun g hg => hl g (List.mem_cons_of_mem _ hg)) h.2 q)) hd)
theorem args_plain : ∀ {fs : List Str} {es : List Expr} {pos : Pos}, ArgB fs es → (backTo pos (starEach es env)).any (·.1) = false
  | _, _, _, .nil => rfl
  | _, _, pos, .cons _ t => by
    have h := args_plain (pos := pos) t
    show (false || (backTo pos (starEach _ env)).any (·.1)) = false
    rw [h]
    rfl
/-- further fields -/
theorem flds_old (T : L2.OexC K C) {base : Heap} {a dx : Addr} {fv : Array Value} {g : Array GenState} {d : Drawn} {os : OsState} {Q : Flow → Shared → Prop} (hX : K.In base) (hk : env.scope.kind = .function) (hself : env.kindOf "self" = some .local) (hms : m "self" = some (.ref a))
    (hbx : base.get? dx = none) (hL : env.locals ≠ dx) (hax : a ≠ dx) : ∀ {r : List Str} {ss : List Stmt} {us : List Value} {ys : List V} {fs : List (Str × V)} {mA : Str → Option Value} {hp : Heap} {t : Nat}, FldB r ss → (∀ f ∈ r, env.kindOf f = some .local) → (∀ f ∈ r, PySem.W.findIn K (.ref C) f = some none) → NamesAt m r us → Vals ys us →
      (∀ b o, base.get? b = some o → hp.get? b = some o) → hp.Ns env.locals m → hp.get? a = some { cls := .ref C, dict := some dx, data := .fields fv } → hp.Ns1 dx mA → (∀ f, RelO (fs.lookup f) (mA f)) → fs.length + r.length ≤ 900 →
      (∀ h2 t2 mB, (∀ b o, b ≠ dx → hp.get? b = some o → h2.get? b = some o) → h2.Ns1 dx mB → (∀ f, RelO (((r.zip ys).reverse ++ fs).lookup f) (mB f)) → Q .next ⟨h2, g, d, t2, os⟩) →
      wpAny (model prog w) A (execs ss env) Q E ⟨hp, g, d, t, os⟩
  | _, _, _, _, fs, mA, hp, t, .nil, _, _, _, _, _, _, _, hns, rel, _, q => wpAny_execs_nil (q hp t mA (fun _ _ _ e => e) hns (by simpa using rel))
  | f :: r, _, us, ys, fs, mA, hp, t, .cons hd fb, hl, hno, hu, rv, hbk, hNs, ha, hns, rel, hz, q => by
    cases us with
    | nil => exact hu.elim
    | cons u us =>
      cases rv with
      | cons ry rv =>
        obtain ⟨nm, qn, N, bs, bm, sn, sub, ab, col, dd, k0, k1, k2, k3, k5, hC, hbm⟩ := T.cls
        have hcl : PySem.W.clsIn K C = some { name := nm, bases := bs, mro := .ref C :: bm, ns := N, qualname := qn, hasDict := true, slotNames := sn, subclasses := sub, abstract := ab, collection := col, hasDel := false } := by unfold PySem.W.clsIn; rw [hC] <;> rfl
        have hXp : K.In hp := hX.keeps hbk
        obtain ⟨oD, _, _, hoD, _, _⟩ := hns.count (within_of rel)
        refine wpAny_execs_cons (plainObj_wpAny_Assign_Attribute (wpAny_Name (wpAny_loadName_local hk (hl f List.mem_cons_self) hNs hu.1 (wpAny_Name (wpAny_loadName_local hk hself hNs hms ?_) (by decide))) hd))
        refine PySem.W.set_plain hXp (od := some oD) ⟨ha, rfl, rfl, hoD⟩ T.sa (PySem.OEX.osa_old hXp ha hns (within_of rel) (by rw [List.length_map]; have := hz; simp at this; omega) hcl hbm rfl (hno f List.mem_cons_self) fun h' t' k hn => ?_)
        refine flds_old T hX hk hself hms hbx hL hax fb (fun g hg => hl g (List.mem_cons_of_mem _ hg)) (fun g hg => hno g (List.mem_cons_of_mem _ hg)) hu.2 rv (fun b o e => k b o (fun z => by rw [z, hbx] at e; cases e) (hbk b o e)) (hNs.at fun o e => k _ o hL e) (k _ _ hax ha) hn (fs := (f, _) :: fs) (relO_put ry rel) (by simp at hz ⊢; omega) fun h2 t2 mB k2 n2 r2 => ?_
        exact q h2 t2 mB (fun b o hb e => k2 b o hb (k b o hb e)) n2 (by simpa using r2)
/-- the first field, then the others -/
theorem flds_new (T : L2.OexC K C) {base : Heap} {a : Addr} {fv : Array Value} {g : Array GenState} {d : Drawn} {os : OsState} {Q : Flow → Shared → Prop} (hX : K.In base) (hk : env.scope.kind = .function) (hself : env.kindOf "self" = some .local) (hms : m "self" = some (.ref a))
    (hba : base.get? a = none) (hL : env.locals ≠ a) {r : List Str} {f : Str} {ss : List Stmt} {us : List Value} {ys : List V} {hp : Heap} {t : Nat} (fb : FldB (f :: r) ss) (hl : ∀ g ∈ f :: r, env.kindOf g = some .local) (hno : ∀ g ∈ f :: r, PySem.W.findIn K (.ref C) g = some none) (hu : NamesAt m (f :: r) us) (rv : Vals ys us)
    (hbk : ∀ b o, base.get? b = some o → hp.get? b = some o) (hNs : hp.Ns env.locals m) (ha : hp.get? a = some { cls := .ref C, data := .fields fv }) (hz : r.length ≤ 800)
    (q : ∀ h2 t2 dx mB, (∀ b o, b ≠ a → hp.get? b = some o → h2.get? b = some o) → hp.objs.size ≤ dx → dx ≠ a → h2.get? a = some { cls := .ref C, dict := some dx, data := .fields fv } → h2.Ns1 dx mB → (∀ y, RelO ((((f :: r).zip ys).reverse).lookup y) (mB y)) → Q .next ⟨h2, g, d, t2, os⟩) :
    wpAny (model prog w) A (execs ss env) Q E ⟨hp, g, d, t, os⟩ := by
  cases fb with
  | cons hd fb =>
    cases us with
    | nil => exact hu.elim
    | cons u us =>
      cases rv with
      | cons ry rv =>
        obtain ⟨nm, qn, N, bs, bm, sn, sub, ab, col, dd, k0, k1, k2, k3, k5, hC, hbm⟩ := T.cls
        have hcl : PySem.W.clsIn K C = some { name := nm, bases := bs, mro := .ref C :: bm, ns := N, qualname := qn, hasDict := true, slotNames := sn, subclasses := sub, abstract := ab, collection := col, hasDel := false } := by unfold PySem.W.clsIn; rw [hC] <;> rfl
        have hXp : K.In hp := hX.keeps hbk
        refine wpAny_execs_cons (plainObj_wpAny_Assign_Attribute (wpAny_Name (wpAny_loadName_local hk (hl f List.mem_cons_self) hNs hu.1 (wpAny_Name (wpAny_loadName_local hk hself hNs hms ?_) (by decide))) hd))
        refine PySem.W.set_plain hXp (od := none) ⟨ha, rfl, rfl, trivial⟩ T.sa (PySem.HandSPX.exc_osa hXp ha hcl hbm rfl (hno f List.mem_cons_self) fun h' t' dx k dn dne hx hn => ?_)
        have hLx : env.locals ≠ dx := fun z => by have := hNs.lt; rw [z] at this; exact Nat.lt_irrefl _ (Nat.lt_of_lt_of_le this dn)
        have hbx : base.get? dx = none := by
          cases e : base.get? dx with
          | none => rfl
          | some o => exact absurd (Heap.lt_size (hbk _ _ e)) (Nat.not_lt.mpr dn)
        have hlt : ∀ b o, hp.get? b = some o → b ≠ dx := fun b o e => Nat.ne_of_lt (Nat.lt_of_lt_of_le (Heap.lt_size e) dn)
        refine flds_old T hX hk hself hms hbx hLx (Ne.symm dne) fb (fun g hg => hl g (List.mem_cons_of_mem _ hg)) (fun g hg => hno g (List.mem_cons_of_mem _ hg)) hu.2 rv (fun b o e => k b o (fun z => by rw [z, hba] at e; cases e) (hbk b o e)) (hNs.at fun o e => k _ o hL e) hx hn (fs := [(f, _)]) (relO_put (fs := []) ry fun g => True.intro) (by simp; omega) fun h2 t2 mB k2 n2 r2 => ?_
        exact q h2 t2 dx mB (fun b o hb e => k2 b o (hlt b o e) (k b o hb e)) dn dne (k2 _ _ (Ne.symm dne) hx) n2 (by simpa using r2)
end
/-- what the written part says of the class at C, its __init__ at fI, the code at cda, the cell of __class__ at cc -/
structure SiC (prog : Program) (K : PySem.W.Frag) (mg : Str → Option Value) (C : Addr) (fs : List Str) where
  fI : Addr
  cda : Addr
  cc : Addr
  oc : Value
  od : Option Addr
  osl : Array (Option Value)
  qual : Str
  params : Arguments
  body : List Stmt
  scope : Scope
  dV : Value
  kV : Value
  doc : Value
  pm : Value
  an : Option Addr
  ct : Value
  ccl : Value
  cdd : Option Addr
  cvs : Array Value
  ccs : Array (Option Value)
  file : Str
  tf : Tok
  cl : Value
  cld : Option Addr
  csl : Array (Option Value)
  ox : L2.OexC K C
  iC : PySem.W.findIn K (.ref C) "__init__" = some (some (.ref fI))
  tI : PySem.W.typeIn K (.ref fI) = some (.type "function")
  lk : K.lookup fI = some ⟨oc, od, .func (ksFn "__init__" qual params body scope dV kV doc pm an (.ref cda) ct cc), osl⟩
  cd : PySem.W.codeIn K (.ref cda) qual = true
  lc : K.lookup cda = some ⟨ccl, cdd, .fields cvs, ccs⟩
  fl : cvs[2]? = some (.str file tf)
  fe : ((prog.main.file : Str) == file) = true
  lx : K.lookup cc = some ⟨cl, cld, .cell (some (.ref C)), csl⟩
  su : PySem.W.mroIn K C (.ref C) = some true
  ms : mg "super" = none
  op : PySem.W.nsIn K cStatics "thirdparty.any" = some none
  ih : PySem.W.ks_superIn K C C "__init__" = some (some (.builtin "ValueError.__init__"))
  ve : PySem.W.subIn K (.ref C) (.type "ValueError") = some true
  nf : ∀ f ∈ fs, PySem.W.findIn K (.ref C) f = some none
  bd : SupB fs body
  kd : scope.kind = .function
  co : scope.isCoroutine = false
  gn : scope.isGenerator = false
  ce : ∀ x ∈ scope.names, x.2 ≠ .cell
  ks : scope.names.lookup ("super" : Str) = some .globalImplicit
  kc : scope.names.lookup ("__class__" : Str) = some .free
  kl : ∀ f ∈ ("self" : Str) :: fs, scope.names.lookup f = some .local
  hp : ∃ ar, (params.posonlyargs ++ params.args).head? = some ar ∧ ar.arg = "self"
  tp : (prog.main.scope.names.lookup ("super" : Str)).isSome = false
  bi : ∀ (s : Shared) (us : List Value), us.length = fs.length + 1 → BindsTo s (ksFn "__init__" qual params body scope dV kV doc pm an (.ref cda) ct cc) ⟨us, []⟩ ((("self" : Str) :: fs).zip us)
  nm : ∀ us : List Value, us.length = fs.length + 1 → NamesAt (fun x => ((("self" : Str) :: fs).zip us).reverse.lookup x) (("self" : Str) :: fs) us
  le : fs.length ≤ 100
/-- the base's __init__ bound to the exception, called -/
theorem bound_ve {prog : Program} {w : World} {A : Around} {E : Value → Shared → Prop} {h : Heap} {g : Array GenState} {d : Drawn} {t : Nat} {os : OsState} {C u e t0 : Addr} {rest : List Value} {Q : Value → Shared → Prop} {B i newId : String} {bmB : List Value}
    {nm q : Str} {N : Addr} {bs bm : List Value} {hdct : Bool} {sn : List Str} {sub : List Value} {ab : Bool} {col : Option Bool} {dd : Option Addr} {k0 k1 k2 k3 k5 : Option Value} (FB : ExcBaseFacts B newId i bmB)
    (hC : h.get? C = some (excClassObj nm q C N bs bm hdct sn sub ab col dd k0 k1 k2 k3 k5 newId)) (he : h.get? e = some (PySem.HandSPX.excO C t0)) (hu : h.get? u = some (kxs_mw i e)) (hr : rest.length ≤ sizeLine)
    (q : ∀ h' t1, (∀ b o, b ≠ e → h.get? b = some o → h'.get? b = some o) → h'.get? e = some (PySem.HandSPX.excO C t1) → Q .none ⟨h', g, d, t, os⟩) : wpAny (model prog w) A (call (.ref u) rest) Q E ⟨h, g, d, t, os⟩ := by
  refine wpAny_call (codeAny_of_tree (show wpAny _ A.in1 (callAny (.ref u) ⟨rest, []⟩) _ _ _ from ?_))
  rw [callAny]
  refine wpAny_bind (wpAny_load hu ?_)
  simp only [if_true, kxs_mw, (by decide : (Value.type "method-wrapper" == Value.type "method" || Value.type "method-wrapper" == Value.type "builtin_function_or_method" || Value.type "method-wrapper" == Value.type "method-wrapper") = true)]
  refine PySem.W.KFB.if_so (by decide) (wpAny_bind (PySem.W.check_bound_init FB.toExcCallFacts hC he rfl (wpAny_bind (wpAny_pure (wpAny_pure ⟨plainId_quiet FB.init.plain _, codeAny_builtin FB.initEntry ?_⟩)))))
  exact PySem.W.exc_init_tree (cls := .ref C) (t0 := t0) (dv := none) (c2 := .none) (c3 := .none) (b4 := .bool false) he hr fun h' k e1 _ => q h' _ k e1
/-- __init__ runs -/
theorem init_run {prog : Program} {w : World} {A : Around} {K : PySem.W.Frag} {mg : Str → Option Value} {C : Addr} {fs : List Str} (S : SiC prog K mg C fs) {base hp : Heap} {g : Array GenState} {d : Drawn} {t : Nat} {os : OsState} {a t0 : Addr} {us : List Value} {ys : List V} {R : Result → Shared → Prop}
    (M : Mod K mg base) (hbk : ∀ b o, base.get? b = some o → hp.get? b = some o) (hba : base.get? a = none) (ha : hp.get? a = some (PySem.HandSPX.excO C t0)) (rv : Vals ys us) (hl : us.length = fs.length) (hroom : A.depth < recursionLimit)
    (q : ∀ h2 t2 dx mB t1, (∀ b o, b ≠ a → hp.get? b = some o → h2.get? b = some o) → hp.get? dx = none → dx ≠ a → h2.get? a = some { cls := .ref C, dict := some dx, data := .fields #[.ref t1, .none, .none, .none, .bool false, .none] } → h2.Ns1 dx mB → (∀ y, RelO (((fs.zip ys).reverse).lookup y) (mB y)) → R (.ok (.ret .none)) ⟨h2, g, d, t2, os⟩) :
    codeAny (model prog w) A (.call (.ref S.fI) ⟨.ref a :: us, []⟩) R ⟨hp, g, d, t, os⟩ := by
  have hXb : K.In base := M.kin
  have hX : K.In hp := hXb.keeps hbk
  obtain ⟨nm, qn, N, bs, bm, sn, sub, ab, col, dd, k0, k1, k2, k3, k5, hC, hbm⟩ := S.ox.cls
  have hbind := S.bi ⟨hp, g, d, t, os⟩ (.ref a :: us) (by simp [hl])
  refine ks_codeAny_call_defAt hroom (hX _ _ S.lk) rfl (M.nolimit.keeps hbk) (PySem.W.codeRec_of hX S.cd) rfl hbind S.ce (fun x hx => S.kl _ (List.of_mem_zip hx).1) (fun h1 hns k1' => ?_) S.co S.gn S.kd
  have hbk1 : ∀ b o, base.get? b = some o → h1.get? b = some o := fun b o e => k1' b o (hbk b o e)
  have hLa : hp.objs.size ≠ a := fun z => Nat.ne_of_lt (Heap.lt_size ha) z.symm
  have nm1 := S.nm (.ref a :: us) (by simp [hl])
  have ha1 := k1' _ _ ha
  have hX1 : K.In h1 := hXb.keeps hbk1
  generalize hE : callEnv (ksFn "__init__" S.qual S.params S.body S.scope S.dV S.kV S.doc S.pm S.an (.ref S.cda) S.ct S.cc) hp.objs.size S.fI = env at *
  have eL : env.locals = hp.objs.size := by rw [← hE]; rfl
  have eS : env.scope = S.scope := by rw [← hE]; rfl
  have eK : ∀ x, env.kindOf x = S.scope.names.lookup x := fun x => by rw [← hE]; rfl
  have hk : env.scope.kind = .function := by rw [eS]; exact S.kd
  have hself : env.kindOf "self" = some .local := (eK _).trans (S.kl _ List.mem_cons_self)
  have hfl : ∀ f ∈ fs, env.kindOf f = some .local := fun f hf => (eK _).trans (S.kl _ (List.mem_cons_of_mem _ hf))
  have hns' : h1.Ns env.locals (fun x => ((("self" : Str) :: fs).zip (Value.ref a :: us)).reverse.lookup x) := by rw [eL]; exact hns
  generalize hm : (fun x => ((("self" : Str) :: fs).zip (Value.ref a :: us)).reverse.lookup x) = m at *
  have hms : m "self" = some (.ref a) := nm1.1
  have hbd := S.bd
  generalize S.body = body at hbd ⊢
  cases hbd with
  | @mk f r es ss p0 p1 p2 p3 p4 pl he ef agb fb =>
  refine ks_wpAt_execs_cons (ks_wpAt_Expr_any (ks_wpAt_MethodCall ?_ (he env)) (by unfold interactive; rw [hk]; rfl) (by rfl))
  obtain ⟨ar, e1, e2⟩ := S.hp
  obtain ⟨mb, hb1, hb2⟩ := M.blt
  have hcl : PySem.W.clsIn K C = some { name := nm, bases := bs, mro := .ref C :: bm, ns := N, qualname := qn, hasDict := true, slotNames := sn, subclasses := sub, abstract := ab, collection := col, hasDel := false } := by unfold PySem.W.clsIn; rw [hC] <;> rfl
  refine ks_wpAt_super_base ((eK _).trans S.ks) ((eK _).trans S.kc) rfl (by rw [← hE]; rfl) (hX1 _ _ S.lk) rfl e1 (by rw [← hE]; rfl) (hX1 _ _ S.lc) rfl S.fl S.fe S.tp ?_
  refine PySem.W.ks_loadName_global hk ((eK _).trans S.ks) (Calls.loadGlobal_builtin (by rw [← hE]; exact M.glob.keeps hbk1) S.ms (by rw [← hE]; exact hb1.keeps hbk1) ((hb2 _ (by decide)).trans rfl) ⟨rfl, ?_⟩)
  refine wpAny_loadName_free hk ((eK _).trans S.kc) (c := S.cc) (by rw [← hE]; rfl) ⟨_, hX1 _ _ S.lx, rfl⟩ ?_
  rw [e2]
  refine wpAny_loadName_local hk hself hns' hms ?_
  refine ks_wpAny_isType_cls (hX1 _ _ hC) rfl ⟨rfl, ?_⟩
  refine ks_wpAny_call_super (hX1 _ _ hC) rfl ha1 rfl (fun c e => by cases e) (PySem.W.looks_mroIn hX1 S.su) (fun h2 e2' k2 => ?_)
  have hX2 : K.In h2 := hX1.keeps k2
  have ha2 := k2 _ _ ha1
  have ih := S.ih
  unfold PySem.W.ks_superIn at ih
  rw [hcl, Option.bind_some] at ih
  have ne : a ≠ C := fun z => by
    rw [z, hX1 _ _ hC] at ha1
    cases ha1
  have hI : Looks (model prog w) h2 (isInstance (.ref a) (.type "ValueError")) true := (PySem.W.InstAt.type (x := a) (C := C) (ox := PySem.HandSPX.excO C t0) (od := none) ⟨ha2, rfl, rfl, trivial⟩).andThen (PySem.W.looks_subIn hX2 S.ve)
  refine PySem.W.kxs_getMethod PySem.W.kxs_ValueError e2' (PySem.W.looks_opaque hX2 S.op) (fun A Q E s k q => wpAny_bind ((PySem.W.looks_clsIn hX2 hcl) A _ E s k (wpAny_pure q))) rfl hX2 ih hI ne rfl ?_
  have hbk2 : ∀ b o, base.get? b = some o → (h2.push (kxs_mw "ValueError.__init__" a)).get? b = some o := fun b o e => Heap.get?_push_of_some _ (k2 b o (hbk1 b o e))
  have ha3 : (h2.push (kxs_mw "ValueError.__init__" a)).get? a = some (PySem.HandSPX.excO C t0) := Heap.get?_push_of_some _ ha2
  have hns3 : (h2.push (kxs_mw "ValueError.__init__" a)).Ns env.locals m := hns'.keeps fun b o e => Heap.get?_push_of_some _ (k2 b o e)
  have k3 : ∀ b o, h1.get? b = some o → (h2.push (kxs_mw "ValueError.__init__" a)).get? b = some o := fun b o e => Heap.get?_push_of_some _ (k2 b o e)
  have hu3 : (h2.push (kxs_mw "ValueError.__init__" a)).get? h2.objs.size = some (kxs_mw "ValueError.__init__" a) := Heap.get?_push_at rfl rfl
  generalize h2.push (kxs_mw "ValueError.__init__" a) = h3 at hbk2 ha3 hns3 hu3 k3 ⊢
  have hX3 : K.In h3 := hXb.keeps hbk2
  refine PySem.W.kxs_callWith (i := "ValueError.__init__") (x := a) (args_plain agb) ?_
  subst ef
  cases agb with
  | @cons _ _ es pf hd agb =>
    refine Calls.evalArgs_plain (x := eval (.Name f pf) env) (rest := backTo p3 (starEach es env)) ?_
    show wpAny _ _ (spliced (backTo p3 (starEach (.Name f pf :: es) env))) _ _ _
    refine args_at hk hns3 (.cons hd agb) hfl nm1.2 ⟨hu3, ?_⟩
    have hz : us.length ≤ sizeLine := by rw [hl, sizeLine_eq]; have := S.le; omega
    refine bound_ve PySem.F.excBase_ValueError (hX3 _ _ hC) ha3 hu3 hz fun h4 t1 k4 e4 => ?_
    refine wpAt_of_wpAny (flds_new S.ox hXb hk hself hms hba (by rw [eL]; exact hLa) fb hfl S.nf nm1.2 rv (fun b o e => k4 b o (fun z => by rw [z, hba] at e; cases e) (hbk2 b o e)) (hns3.at fun o e => k4 _ o (by rw [eL]; exact hLa) e) e4 (by have := S.le; simp at this; omega) fun h5 t5 dx mB k5 l5 n5 e5 hn5 r5 => ?_)
    have up : ∀ b o, hp.get? b = some o → h3.get? b = some o := fun b o e => k3 b o (k1' b o e)
    refine q h5 t5 dx mB t1 (fun b o hb e => k5 b o hb (k4 b o hb (up b o e))) ?_ n5 e5 hn5 r5
    cases z : hp.get? dx with
    | none => rfl
    | some o => exact absurd (Heap.lt_size (k4 _ _ n5 (up _ _ z))) (Nat.not_lt.mpr l5)
/-- C(e, ..) -/
def tMkS (C : Addr) (fs : List Str) (ta : TA) : L2.St → Hp → XK → Prop := fun σ H Q => ta σ H fun vs H1 => vs.length = fs.length ∧ ∀ d, H1 d = none → Q (.ref C) (some d) (upd H1 d (.xd (fs.zip vs).reverse))
theorem pmk_si {X : Cx} {x : Str} {C : Addr} {k : Nat} {fs : List Str} {e : Expr} {es : List Expr} {ta : TA} {p pos : Pos} (S : SiC X.prog X.K X.mg C fs) (hr : Room (k + 1) X.A) (hg : Gl X x) (hm : X.mg x = some (.ref C)) (ha : PA X (e :: es) ta)
    (hdb : (x == ("__debug__" : Str)) = false := by decide) (he : starEach (e :: es) X.env = (false, eval e X.env) :: starEach es X.env := by rfl) (hpl : (backTo pos (starEach es X.env)).any (·.1) = false := by rfl) : PMk X (.Call (.Name x p) (e :: es) [] pos) (tMkS C fs ta) := by
  intro pins s σ H Q I h
  obtain ⟨nm, q, N, bs, bm, sn, sub, ab, col, dd, k0, k1, k2, k3, k5, hC, hbm⟩ := S.ox.cls
  refine wpAny_Call_Name_kw (ld_glob I hg hm (PySem.W.callWith_K (h₀ := X.base) I.ok.mod.kin S.ox.kC (thn (ha.run pos pins s σ H _ I h) fun us s1 ⟨vs, H1, I1, r1, hz, q1⟩ => ⟨I1.kIn, ?_⟩) he hpl) hdb)
  show wpAny _ _ (call (.ref C) us) _ _ _
  obtain ⟨hp, g, dr, tk, os⟩ := s1
  have hlen : us.length = fs.length := (Paired.length r1).symm.trans hz
  have hus : us.length ≤ sizeLine := by rw [hlen, sizeLine_eq]; have := S.le; omega
  have hbk0 : ∀ b o, X.base.get? b = some o → hp.get? b = some o := I1.bk
  have lt0 : ∀ b o, hp.get? b = some o → b < hp.objs.size := fun b o e => Heap.lt_size e
  have kk : ∀ b o, hp.get? b = some o → ((hp.push (PySem.W.kdv_tup us)).push (PySem.HandSPX.excO C hp.objs.size)).get? b = some o := fun b o e => Heap.get?_push_of_some _ (Heap.get?_push_of_some _ e)
  have hga : ((hp.push (PySem.W.kdv_tup us)).push (PySem.HandSPX.excO C hp.objs.size)).get? (hp.objs.size + 1) = some (PySem.HandSPX.excO C hp.objs.size) := by heap_get
  refine wpAny_call (PySem.HandSPX.call_own PySem.F.excBase_ValueError (fun Y => PySem.HandSPX.refsVE_contains Y bm hbm) (I1.kIn _ _ hC) (PySem.W.looks_findIn I1.kIn S.iC) (fun self => PySem.W.bind_fn I1.kIn self S.tI) hus ?_)
  have hba : X.base.get? (hp.objs.size + 1) = none := by
    cases z : X.base.get? (hp.objs.size + 1) with
    | none => rfl
    | some o => exact absurd (lt0 _ _ (hbk0 _ _ z)) (Nat.not_lt.mpr (Nat.le_succ _))
  refine init_run S I.ok.mod (fun b o e => kk b o (hbk0 b o e)) hba hga r1 hlen (hr.make C us []).depth fun h2 t2 dx mB t1 k2 hd0 nda e4 hn rel => ⟨rfl, ?_⟩
  have hd1 : hp.get? dx = none := by
    cases z : hp.get? dx with
    | none => rfl
    | some o => rw [kk _ _ z] at hd0; cases hd0
  have nH : H1 dx = none := I1.hok.gone hd1
  have hsz : hp.objs.size ≤ hp.objs.size + 1 := Nat.le_succ _
  have nHa : H1 (hp.objs.size + 1) = none := I1.hok.fresh hsz
  have nea : ∀ {b : Addr} {o : Obj}, hp.get? b = some o → b ≠ hp.objs.size + 1 := fun {b o} e z => by
    have := lt0 _ _ e
    rw [z] at this
    exact absurd this (Nat.not_lt.mpr (Nat.le_succ _))
  have ned : ∀ {b : Addr} {o : Obj}, hp.get? b = some o → b ≠ dx := fun {b o} e z => by rw [z, hd1] at e; cases e
  have kq : ∀ b o, hp.get? b = some o → h2.get? b = some o := fun b o e => k2 b o (nea e) (kk b o e)
  have un : Un (frs X.stack) [] (upd H1 (hp.objs.size + 1) (exo (hp.objs.size + 1) C none)) (upd (upd H1 dx (exd dx (fs.zip vs).reverse)) (hp.objs.size + 1) (exo (hp.objs.size + 1) C (some dx))) hp h2 := {
    keep := fun b o e _ _ _ => kq b o e
    slot := fun b o e _ _ _ => ⟨o.slots, kq b o e⟩
    free := fun b o e n _ => by rw [upd_ne (nea e)] at n; rw [upd_ne (nea e), upd_ne (ned e)]; exact n
    there := fun b o e _ => ⟨o, kq b o e⟩
    tups := fun b xs e => by
      have hb : b ≠ hp.objs.size + 1 := fun z => by rw [z, upd_same] at e; exact exo_tup (Option.some.inj e)
      rw [upd_ne hb] at e
      rw [upd_ne hb, upd_ne (ne_of_none e nH)]
      exact e
    frzs := fun b o u e => by
      have hb : b ≠ hp.objs.size + 1 := fun z => by rw [z, upd_same] at e; exact exo_frz (Option.some.inj e)
      rw [upd_ne hb] at e
      rw [upd_ne hb, upd_ne (ne_of_none e nH)]
      exact e
    tbls := fun b ps e => by
      have hb : b ≠ hp.objs.size + 1 := fun z => by rw [z, upd_same] at e; exact exo_tbl (Option.some.inj e)
      rw [upd_ne hb] at e
      exact ⟨#[], by rw [upd_ne hb, upd_ne (ne_of_none e nH), e]; simp⟩ }
  have hok : HOk X.prog X.w (upd (upd H1 dx (exd dx (fs.zip vs).reverse)) (hp.objs.size + 1) (exo (hp.objs.size + 1) C (some dx))) h2 := fun b o e => by
    by_cases hb : b = hp.objs.size + 1
    · subst hb
      rw [upd_same] at e
      cases e
      exact exo_ok e4
    · rw [upd_ne hb] at e
      by_cases hd : b = dx
      · subst hd
        rw [upd_same] at e
        cases e
        exact exd_ok hn rel
      · rw [upd_ne hd] at e
        exact (I1.hok b o e).stay (fun c v _ y => kq c v y) (fun c hc => by rw [upd_ne (ne_of_none hc nHa), upd_ne (ne_of_none hc nH)]; exact hc) (fun c xs hc => by rw [upd_ne (ne_of_none hc nHa), upd_ne (ne_of_none hc nH)]; exact hc)
  have ed : upd (upd H1 dx (exd dx (fs.zip vs).reverse)) (hp.objs.size + 1) (exo (hp.objs.size + 1) C (some dx)) dx = some (exd dx (fs.zip vs).reverse) := by rw [upd_ne nda, upd_same]
  refine mk_end (raises_own S.ox.exC S.ox.tyC) I1 hsz (fun _ _ e => e) un hok rfl I1.bare upd_same ed nH ?_
  have eq : upd (del (upd (upd H1 dx (exd dx (fs.zip vs).reverse)) (hp.objs.size + 1) (exo (hp.objs.size + 1) C (some dx))) (hp.objs.size + 1)) dx (.xd (fs.zip vs).reverse) = upd H1 dx (.xd (fs.zip vs).reverse) := by
    funext b
    by_cases hb : b = dx
    · rw [hb, upd_same, upd_same]
    · rw [upd_ne hb, upd_ne hb]
      by_cases hc : b = hp.objs.size + 1
      · rw [hc, del_same, nHa]
      · rw [del_ne hc, upd_ne hc, upd_ne hb]
  rw [eq]
  exact q1 dx nH
end DL

set_option Elab.async false
set_option linter.all false
set_option maxRecDepth 100000
set_option maxHeartbeats 1000000
/-! ELm: raise C(..); repr of data -/
namespace DL
open PySem PySem.Spec PyProof.Rows L2
theorem zip_rev {α β : Type} : ∀ {xs : List α} {ys : List β}, xs.length = ys.length → (xs.zip ys).reverse = xs.reverse.zip ys.reverse
  | [], [], _ => rfl
  | x :: xs, y :: ys, h => by
    have h : xs.length = ys.length := by simpa using h
    rw [List.zip_cons_cons, List.reverse_cons, List.reverse_cons, List.reverse_cons, zip_rev h, List.zip_append (by simpa using h)]
    rfl
section
variable {X : Cx} {pos pos' p : Pos} {x : Str} {e : Expr} {es : List Expr} {wa : WA}
/-- raise C(e, ..) -/
def wRaise (C : Addr) (fs : List Str) (a : WA) : WS := fun _ ρ k => a ρ k fun rs ρ1 k1 => ∃ ds ρ2, frzL ρ1 rs = some (ds, ρ2) ∧ ds.length = fs.length ∧ k1.2.xc ⟨.ref C, fs.reverse, ds.reverse⟩ k1.1
theorem ds_raise {C : Addr} {k : Nat} {fs : List Str} (S : SiC X.prog X.K X.mg C fs) (hc : X.calm = true) (hr : Room (k + 1) X.A) (hg : Gl X x) (hm : X.mg x = some (.ref C)) (ha : DA X (e :: es) wa)
    (hdb : (x == ("__debug__" : Str)) = false := by decide) (he : starEach (e :: es) X.env = (false, eval e X.env) :: starEach es X.env := by rfl) (hpl : (backTo pos (starEach es X.env)).any (·.1) = false := by rfl) : DS X (.Raise (some (.Call (.Name x p) (e :: es) [] pos)) none pos') (wRaise C fs wa) := by
  obtain ⟨ta, pa, ra⟩ := ha
  refine ⟨_, L2.ps_raise hc takes0 (pmk_si S hr hg hm pa hdb he hpl), fun O p _ ρ k σ H E F I h e => ?_⟩
  refine ra O p ρ k σ H _ _ I h fun vs H1 rs ρ1 k1 I1 s1 q1 h1 => ?_
  obtain ⟨ds, ρ2, e1, hl, h1⟩ := h1
  obtain ⟨I2, s2, r2⟩ := frzL_ok I1 q1 e1
  have hv : vs.length = fs.length := r2.length.trans hl
  refine ⟨hv, fun d hd => ?_⟩
  have xl : XL X p := inferInstance
  have I3 := I2.ext (AExt.upd (o := .xd (fs.zip vs).reverse) hd)
  refine xl.go ⟨.ref C, fs.reverse, ds.reverse⟩ k1 _ _ _ _ I3.pn I3.bs ⟨rfl, vs.reverse, ?_, by simp [hv], ?_⟩ (by rw [← I2.kx]; exact h1)
  · show upd H1 d _ d = some (.xd (fs.reverse.zip vs.reverse))
    rw [upd_same, zip_rev hv.symm]
  · exact (r2.mono (fun a o e _ => AExt.upd hd a o e) fun a z => .inl (.inl (I2.po a (.inr z)))).reverse
end
/-! ### repr -/
mutual
def toPy : D → Option PyData
  | .non => some .none
  | .bl b => some (.bool b)
  | .int i => some (.int i)
  | .str x => some (.str x)
  | .lst xs => (toPyL xs).map .list
  | .tup xs => (toPyL xs).map .tuple
  | _ => none
def toPyL : List D → Option (List PyData)
  | [] => some []
  | d :: ds => (toPy d).bind fun y => (toPyL ds).map (y :: ·)
end
theorem seq_of {P : Program} {w : World} {H : Hp} {h : Heap} (hok : HOk P w H h) {a : Addr} {vs : List V} (e : H a = some (.lst vs)) : ∃ (its : List Value) (n : Nat), Vals vs its ∧ h.get? a = some { cls := .type "list", data := .seq its.toArray n } := (hok a _ e).2
theorem tup_of {P : Program} {w : World} {H : Hp} {h : Heap} (hok : HOk P w H h) {a : Addr} {vs : List V} (e : H a = some (.tup vs)) : ∃ its : List Value, Vals vs its ∧ IsTup h a its.toArray := (hok a _ e).2
mutual
theorem reads_of {P : Program} {w : World} {B : Addr → Prop} {H : Hp} {h : Heap} (hok : HOk P w H h) : ∀ {v : V} {d : D} {y : PyData} {u : Value}, Rep B H v d → toPy d = some y → RelV v u → ∃ as, Reads h u y as ∧ y.hasDict = false
  | _, _, _, _, .non, e, r => by cases e; obtain rfl := r; exact ⟨_, .none, rfl⟩
  | _, _, _, _, .bl b, e, r => by cases e; obtain rfl := r; exact ⟨_, .bool b, rfl⟩
  | _, _, _, _, .int i, e, r => by cases e; obtain ⟨t, rfl⟩ := r; exact ⟨_, .int i t, rfl⟩
  | _, _, _, _, .str x, e, r => by cases e; obtain ⟨t, rfl⟩ := r; exact ⟨_, .str x t, rfl⟩
  | _, _, _, _, .ty _, e, _ => by cases e
  | _, _, _, _, .obj _, e, _ => by cases e
  | _, _, _, _, .lst nb ea rl, e, r => by
    unfold toPy at e
    obtain ⟨ys, e1, rfl⟩ := Option.map_eq_some_iff.mp e
    obtain rfl := r
    obtain ⟨its, n, rv, eh⟩ := seq_of hok ea
    obtain ⟨as, ra, hd⟩ := readsL_of hok rl e1 rv
    exact ⟨_, .list (o := { cls := .type "list", data := .seq its.toArray n }) eh rfl rfl ra, hd⟩
  | _, _, _, _, .tup nb ea rl, e, r => by
    unfold toPy at e
    obtain ⟨ys, e1, rfl⟩ := Option.map_eq_some_iff.mp e
    obtain rfl := r
    obtain ⟨its, rv, o, eh, ec, n, ed⟩ := tup_of hok ea
    obtain ⟨as, ra, hd⟩ := readsL_of hok rl e1 rv
    exact ⟨_, .tuple eh ec ed ra, hd⟩
  | _, _, _, _, .dK _ _ _ _ _, e, _ => by cases e
  | _, _, _, _, .dT _ _ _ _ _, e, _ => by cases e
  | _, _, _, _, .ins _ _ _ _ _, e, _ => by cases e
theorem readsL_of {P : Program} {w : World} {B : Addr → Prop} {H : Hp} {h : Heap} (hok : HOk P w H h) : ∀ {vs : List V} {ds : List D} {ys : List PyData} {us : List Value}, RepL B H vs ds → toPyL ds = some ys → Vals vs us → ∃ as, ReadsAll h us ys as ∧ PyData.hasDictAll ys = false
  | _, _, _, _, .nil, e, .nil => by cases e; exact ⟨_, .nil, rfl⟩
  | _, _, _, _, .cons r t, e, .cons rv rt => by
    unfold toPyL at e
    obtain ⟨y, e1, e⟩ := Option.bind_eq_some_iff.mp e
    obtain ⟨ys, e2, rfl⟩ := Option.map_eq_some_iff.mp e
    obtain ⟨as, r1, h1⟩ := reads_of hok r e1 rv
    obtain ⟨bs, r2, h2⟩ := readsL_of hok t e2 rt
    exact ⟨_, .cons r1 r2, by unfold PyData.hasDictAll; rw [h1, h2]; rfl⟩
end
/-- what repr gives -/
def fRepr : FN := fun ds Q => ∃ d y, ds = [d] ∧ toPy d = some y ∧ y.showable = true ∧ y.shown.length ≤ sizeLine ∧ y.depth ≤ 50 ∧ Q (.str y.shown)
def rRepr : List V → Hp → VK → Prop := fun xs H Q => ∃ (v : V) (d : D) (B : Addr → Prop) (y : PyData), xs = [v] ∧ RepS B H v d ∧ toPy d = some y ∧ y.showable = true ∧ y.shown.length ≤ sizeLine ∧ y.depth ≤ 50 ∧ Q (.str y.shown) H
end DL

set_option Elab.async false
set_option linter.all false
set_option maxRecDepth 100000
set_option maxHeartbeats 4000000
/-! ELno: raise C() of a class that has no __init__ of its own -/
namespace DL
open PySem PySem.Spec PyProof.Rows L2
/-- what the written part says of such a class -/
structure XnC (K : PySem.W.Frag) (C : Addr) : Prop where
  q : PySem.W.excIn K C [.type "ValueError", .type "Exception", .type "BaseException", .type "object"] "ValueError.__new__" = true
  exC : PySem.W.subIn K (.ref C) (.type "BaseException") = some true
  tyC : PySem.W.typeIn K (.ref C) = some (.type "type")
  kC : PySem.W.keepIn K (.ref C) = true
/-- raise C() -/
def wRaise0 (C : Addr) : WS := fun _ ρ k => k.2.xc ⟨.ref C, [], []⟩ k.1
@[simp] theorem s_Raise0 {C : Addr} {E : DEnds} {ρ : En} {k : Kt} : wRaise0 C E ρ k = k.2.xc ⟨.ref C, [], []⟩ k.1 := rfl
/-- a new list, one of two -/
def wIfL (c : WT) (a b : WL) : WL := fun ρ k Q => c ρ k fun t ρ1 k1 => if t = true then a ρ1 k1 Q else b ρ1 k1 Q
@[simp] theorem s_IfL {c : WT} {a b : WL} {ρ : En} {k : Kt} {Q : List D → En → Kt → Prop} : wIfL c a b ρ k Q = c ρ k fun t ρ1 k1 => if t = true then a ρ1 k1 Q else b ρ1 k1 Q := rfl
end DL

set_option Elab.async false
set_option linter.all false
set_option maxRecDepth 100000
set_option maxHeartbeats 1000000
/-! ELn: try with several except clauses, each with a name or without; the def that hears a lambda -/
namespace DL
open PySem PySem.Spec PyProof.Rows L2
/-- a clause: it names the exception (slot i) or not -/
structure Clause where
  nm : Bool
  c : Value
  ts : Addr → Value → Option Addr → TS
/-- behind the suite the name is gone -/
def offS (i : Nat) (D : L2.Ends) : L2.Ends where
  nx := fun σ H => D.nx (σ.set i none) H
  rt := D.rt
  bk := fun σ H => D.bk (σ.set i none) H
  ct := fun σ H => D.ct (σ.set i none) H
def wHds (K : PySem.W.Frag) (i : Nat) (Wout : WX) (D : L2.Ends) : List Clause → WX
  | [] => Wout
  | q :: r => fun cls d σ H => ∃ b, PySem.W.exmOne K cls q.c = some b ∧ (b = true → ∀ ea, H ea = none → if q.nm then q.ts ea cls d (offS i D) (σ.set i (some (.ref ea))) H else q.ts ea cls d D σ H) ∧ (b = false → wHds K i Wout D r cls d σ H)
def SuiteOk (X : Cx) (ss : List Stmt) (ts : Addr → Value → Option Addr → TS) : Prop := ∀ (ea : Addr) (eo : Obj) (cls : Value) (d : Option Addr) (pn : List (Addr × Obj)), Zc cls d eo → (∃ fv, eo.data = .fields fv) → PSs (X.suite ea ((ea, eo) :: pn)) ss (ts ea cls d)
inductive ClausesOk (X : Cx) (n : Str) : List ExceptHandler → List Clause → Prop
  | nil : ClausesOk X n [] []
  | named {x : Str} {c : Value} {ts : Addr → Value → Option Addr → TS} {st : Stmt} {ss : List Stmt} {p1 p2 : Pos} {hs : List ExceptHandler} {l : List Clause} (hc : Names X x c) (hsu : SuiteOk X (st :: ss) ts) (r : ClausesOk X n hs l) : ClausesOk X n (.ExceptHandler (some (.Name x p1)) (some n) (st :: ss) p2 :: hs) (⟨true, c, ts⟩ :: l)
  | plain {x : Str} {c : Value} {ts : Addr → Value → Option Addr → TS} {st : Stmt} {ss : List Stmt} {p1 p2 : Pos} {hs : List ExceptHandler} {l : List Clause} (hc : Names X x c) (hsu : SuiteOk X (st :: ss) ts) (r : ClausesOk X n hs l) : ClausesOk X n (.ExceptHandler (some (.Name x p1)) none (st :: ss) p2 :: hs) (⟨false, c, ts⟩ :: l)
section
variable {X : Cx} {n : Str} {i : Nat} {body : List Stmt} {h0 : ExceptHandler} {hs : List ExceptHandler} {l : List Clause} {pos : Pos} {tb : WX → TS} {Wout : WX}
/-- what stands when the exception has landed -/
structure Landed (X : Cx) (ps : List (Addr × Obj)) (σ : L2.St) (H : Hp) (B : Heap) (ea : Addr) (cls : Value) (d : Option Addr) (s : Shared) : Prop where
  fl : HandSPX.FlyingZ B (X.env :: X.outer) ea (Zc cls d) s.heap
  src : ∃ sI, Inv X ps σ H sI ∧ (∀ b o, sI.heap.get? b = some o → b ∉ frs X.stack → B.get? b = some o) ∧ sI.heap.UpToSlots s.heap ∧ s.os = sI.os ∧ AllBare s.gens
section
variable {ps : List (Addr × Obj)} {σ : L2.St} {H : Hp} {B : Heap} {ea : Addr} {cls : Value} {d : Option Addr} {s : Shared}
theorem Landed.inv (L : Landed X ps σ H B ea cls d s) : Inv X ps σ H s := let ⟨sI, J, nb, up, os, ag⟩ := L.src; J.landed nb L.fl.1 up os ag
theorem Landed.su (L : Landed X ps σ H B ea cls d s) (hf : X.env.frame = some X.env.locals) (na : H ea = none) {eo : Obj} {fv : Array Value} (he : s.heap.get? ea = some eo) (hd : eo.data = .fields fv) : Inv (X.suite ea ((ea, eo) :: (X.pn ++ ps))) [] σ H s := by
  have nfr : ea ∉ frs (X.env :: X.outer) := fun hm => by
    obtain ⟨_, o', e', hnf⟩ := L.fl.2.2.1.mem hm
    rw [he] at e'
    cases e'
    exact hnf _ hd
  exact L.inv.suite he hd na (fun z => nfr (List.mem_filterMap.mpr ⟨X.env, List.mem_cons_self, by rw [hf, z]⟩)) fun hm => by
    obtain ⟨e, he, q⟩ := List.mem_filterMap.mp hm
    exact nfr (List.mem_filterMap.mpr ⟨e, List.mem_cons_of_mem _ he, q⟩)
theorem Landed.up {h4 : Heap} (L : Landed X ps σ H B ea cls d s) (fl : HandSPX.FlyingZ B (X.env :: X.outer) ea (Zc cls d) h4) (u : s.heap.UpToSlots h4) : Landed X ps σ H B ea cls d { s with heap := h4 } :=
  let ⟨sI, J, nb, up, os, ag⟩ := L.src; ⟨fl, sI, J, nb, up.trans u, os, ag⟩
end
end
end DL

set_option Elab.async false
set_option linter.all false
set_option maxRecDepth 100000
set_option maxHeartbeats 1000000
/-! ELgd: isinstance(e, (A, B)) of a caught exception (for clauses with a condition) -/
namespace DL
open PySem PySem.Spec PyProof.Rows L2
/-- isinstance(e, (A, ..)), e the exception that the suite holds -/
def rIsET (K : PySem.W.Frag) (D a : Addr) : List V → Hp → VK → Prop := fun xs H Q => ∃ (p : Addr) (cs : List Addr) (b : Bool), xs = [.ref a, .ref p] ∧ H p = some (.tup (cs.map V.ref)) ∧ PySem.W.kitAny K (.ref D) (cs.map Value.ref) = some b ∧ Q (.bl b) H
section
variable {X : Cx} {ea D Cg : Addr} {eo : Obj} {pn : List (Addr × Obj)} {n g : Str} {i : Nat}
end
end DL

set_option Elab.async false
set_option linter.all false
set_option maxRecDepth 100000
set_option maxHeartbeats 4000000
/-! ELge: the class of a caught exception that has a dict; isinstance of it -/
namespace DL
open PySem PySem.Spec PySem.Calls PyProof.Rows L2
open PySem.W (Frag InstAt findIn specialIn takesIn mroIn subIn hasDictIn findObj looks_findIn looks_subIn looks_find findObj_dataN class_get handedOut_of Looks kitOne kitAny KitX any_some clsIn)
section
variable {prog : Program} {w : World} {A : Around} {E : Value → Shared → Prop} {K : Frag} {x C : Addr} {ob om : Obj}
end
/-- isinstance(e, c) of the exception that the suite holds, whose class and dict are told at the reading -/
def rIsD (K : Frag) (cls : Value) (d : Option Addr) (a : Addr) : List V → Hp → VK → Prop := fun xs H Q => ∃ (C dd : Addr) (fs : List (Str × V)) (c : V) (cv : Value) (b : Bool), cls = .ref C ∧ d = some dd ∧ ExcC K C ∧ H dd = some (.xd fs) ∧ xs = [.ref a, c] ∧ (∀ u, RelV c u → u = cv) ∧ kitOne K (.ref C) cv = some b ∧ Q (.bl b) H
/-- isinstance(e, (A, ..)) of it -/
def rIsDT (K : Frag) (cls : Value) (d : Option Addr) (a : Addr) : List V → Hp → VK → Prop := fun xs H Q => ∃ (C dd : Addr) (fs : List (Str × V)) (p : Addr) (cs : List Addr) (b : Bool), cls = .ref C ∧ d = some dd ∧ ExcC K C ∧ H dd = some (.xd fs) ∧ xs = [.ref a, .ref p] ∧ H p = some (.tup (cs.map V.ref)) ∧ kitAny K (.ref C) (cs.map Value.ref) = some b ∧ Q (.bl b) H
section
variable {X : Cx} {ea Cg Cg2 : Addr} {eo : Obj} {cls : Value} {d : Option Addr} {pn : List (Addr × Obj)} {n g g2 : Str} {i : Nat} {body : Expr} {tb : TE} {jj kk : Nat} {p1 p2 p3 p4 p5 p6 p7 p8 p9 : Pos}
end
end DL

set_option Elab.async false
set_option linter.all false
set_option maxRecDepth 100000
set_option maxHeartbeats 1000000
/-! ELo: the def that hears a lambda: try: return (tag, call()) / except C as e: return (.., e.f, repr(e.f)) -/
namespace DL
open PySem PySem.Spec PyProof.Rows L2
inductive Part where
  | str (s : Str) | fld (f : Str) | rep (f : Str) | tpf (f : Str) | no
/-- tuple(e.f) -/
def Part.tp : Part → Bool
  | .tpf _ => true
  | _ => false
def Part.text : Part → Bool
  | .str _ => true
  | _ => false
/-- repr(e.f): asks that no repr is under way -/
def Part.rp : Part → Bool
  | .rep _ => true
  | _ => false
/-- a field is read -/
def Part.fd : Part → Bool
  | .str _ => false
  | _ => true
def Part.fs : Part → List Str
  | .no => []
  | .str _ => []
  | .fld f => [f]
  | .rep f => [f]
  | .tpf f => [f]
inductive PartB (n : Str) : Expr → Part → Prop
  | str {s : Str} {j : Nat} {p : Pos} : PartB n (.Constant (.str s) j p) (.str s)
  | fld {f : Str} {p1 p2 : Pos} : PartB n (.Attribute (.Name n p1) f p2) (.fld f)
  | rep {f : Str} {p0 p1 p2 p3 : Pos} : PartB n (.Call (.Name "repr" p0) [.Attribute (.Name n p1) f p2] [] p3) (.rep f)
  | tpf {f : Str} {p0 p1 p2 p3 : Pos} : PartB n (.Call (.Name "tuple" p0) [.Attribute (.Name n p1) f p2] [] p3) (.tpf f)
  | no {f : Str} {p0 p1 p2 p3 : Pos} : PartB n (.Call (.Name "repr" p0) [.Attribute (.Name n p1) f p2] [] p3) .no
inductive PartsB (n : Str) : List Expr → List Part → Prop
  | nil : PartsB n [] []
  | cons {e : Expr} {es : List Expr} {q : Part} {qs : List Part} (h : PartB n e q) (t : PartsB n es qs) : PartsB n (e :: es) (q :: qs)
def partD (x : XD) : Part → (D → Prop) → Prop
  | .str s, P => P (.str s)
  | .fld f, P => ∃ d, (x.ns.zip x.ds).lookup f = some d ∧ P d
  | .rep f, P => ∃ d y, (x.ns.zip x.ds).lookup f = some d ∧ toPy d = some y ∧ y.showable = true ∧ y.shown.length ≤ sizeLine ∧ y.depth ≤ 50 ∧ P (.str y.shown)
  | .no, _ => False
  | .tpf f, P => ∃ ds, (x.ns.zip x.ds).lookup f = some (.tup ds) ∧ P (.tup ds)
def partsD (x : XD) : List Part → (List D → Prop) → Prop
  | [], P => P []
  | q :: qs, P => partD x q fun d => partsD x qs fun ds => P (d :: ds)
section
variable {Bx : Addr → Prop} {Y : Cx} {n : Str} {i : Nat} {ea C : Addr} {eo : Obj} {cls : Value} {d : Option Addr} {pn : List (Addr × Obj)}
end
/-! ### the clauses of the hearing def -/
/-- a clause: the class's name, whether the exception gets a name, what is given back -/
structure HC where
  x : Str
  nm : Bool
  ps : List Part
  gs : List Str
inductive HdsB (n : Str) : List ExceptHandler → List HC → Prop
  | nil : HdsB n [] []
  | named {x : Str} {es : List Expr} {qs : List Part} {kk : Nat} {p1 p2 p3 p4 : Pos} {hs : List ExceptHandler} {l : List HC} (h : PartsB n es qs) (t : HdsB n hs l) : HdsB n (.ExceptHandler (some (.Name x p1)) (some n) [.Return (some (.Tuple es kk p2)) p3] p4 :: hs) (⟨x, true, qs, []⟩ :: l)
  | plain {x : Str} {es : List Expr} {qs : List Part} {kk : Nat} {p1 p2 p3 p4 : Pos} {hs : List ExceptHandler} {l : List HC} (h : PartsB n es qs) (hq : ∀ q ∈ qs, q.text = true) (t : HdsB n hs l) : HdsB n (.ExceptHandler (some (.Name x p1)) none [.Return (some (.Tuple es kk p2)) p3] p4 :: hs) (⟨x, false, qs, []⟩ :: l)
  | guard1 {x g : Str} {es : List Expr} {qs : List Part} {kk jj : Nat} {p1 p2 p3 p4 q1 q2 q3 q4 q5 q6 q7 : Pos} {hs : List ExceptHandler} {l : List HC} (h : PartsB n es qs) (hq : qs.any Part.fd = true) (t : HdsB n hs l) : HdsB n (.ExceptHandler (some (.Name x p1)) (some n) [.Return (some (.IfExp (.UnaryOp .Not (.Call (.Name "isinstance" q1) [.Name n q2, .Name g q3] [] q4) q5) (.Tuple es kk p2) (.Constant .none jj q6) q7)) p3] p4 :: hs) (⟨x, true, qs, [g]⟩ :: l)
  | guard2 {x g g2 : Str} {es : List Expr} {qs : List Part} {kk jj k2 : Nat} {p1 p2 p3 p4 q1 q2 q3 q4 q5 q6 q7 q8 q9 : Pos} {hs : List ExceptHandler} {l : List HC} (h : PartsB n es qs) (hq : qs.any Part.fd = true) (t : HdsB n hs l) : HdsB n (.ExceptHandler (some (.Name x p1)) (some n) [.Return (some (.IfExp (.UnaryOp .Not (.Call (.Name "isinstance" q1) [.Name n q2, .Tuple [.Name g q3, .Name g2 q8] k2 q9] [] q4) q5) (.Tuple es kk p2) (.Constant .none jj q6) q7)) p3] p4 :: hs) (⟨x, true, qs, [g, g2]⟩ :: l)
/-- what is given back for the exception x; cs: the classes of the clauses -/
def hdsD (x : XD) : List (Addr × List Part) → (D → Prop) → Prop
  | [], _ => False
  | q :: r, P => if x.cls = .ref q.1 then partsD x q.2 fun ds => P (.tup ds) else hdsD x r P
end DL

set_option Elab.async false
set_option linter.all false
set_option maxRecDepth 100000
set_option maxHeartbeats 1000000
/-! ELp: f(lambda: e), f the def that hears: what it gives, what it gives where e raises -/
namespace DL
open PySem PySem.Spec PyProof.Rows L2
open LamX (TabS Tabs CodeO LamS lamEnv lamCx TabB)
section
variable {X : Cx} {pins : List (Addr × Obj)} {σ : L2.St} {H : Hp} {s : Shared}
end
section
variable {O : Addr → Prop} {p : Pn} {ρ : En} {k k' : Kt} {σ : L2.St} {H H1 H' : Hp}
/-- a table is written -/
theorem Rel.table (I : Rel O p ρ k σ H) {P : Addr} (hP : ∃ q, (P, q) ∈ p.tabs) (k1 : ∀ b o, b ≠ P → H b = some o → H1 b = some o) (t : Tabs p.tabs H1) : Rel O p ρ k σ H1 ∧ Step p ρ σ H ρ σ H1 := by
  have oP : O P := I.po P (.inl (.inr hP))
  obtain ⟨q0, hq0⟩ := hP
  have eP : ∃ ps, H P = some (.tbl ps) := let ⟨ps, e, _⟩ := I.pn.2.2 (P, q0) hq0; ⟨ps, e⟩
  have eP1 : ∃ ps, H1 P = some (.tbl ps) := let ⟨ps, e, _⟩ := t (P, q0) hq0; ⟨ps, e⟩
  obtain ⟨ps, eP⟩ := eP
  obtain ⟨ps1, eP1⟩ := eP1
  have kp : ∀ a o, H a = some o → ¬ Bn O ρ σ a → H1 a = some o := fun a o e n => k1 a o (fun z => n (by rw [z]; exact .inl oP)) e
  have tr : ∀ a, H a ≠ none → H1 a ≠ none := fun a h => by
    by_cases z : a = P
    · rw [z, eP1]; simp
    · cases q : H a with
      | none => exact absurd q h
      | some o => rw [k1 a o z q]; simp
  have trn : ∀ a, (H a ≠ none ∧ ∀ us, H a ≠ some (.tup us)) → (H1 a ≠ none ∧ ∀ us, H1 a ≠ some (.tup us)) := fun a h => by
    by_cases z : a = P
    · rw [z, eP1]; exact ⟨by simp, fun us z => by cases z⟩
    · cases q : H a with
      | none => exact absurd q h.1
      | some o => rw [k1 a o z q]; exact nt_kept h q
  refine ⟨⟨I.len, fun i d h => let ⟨v, e, q⟩ := I.val i d h; ⟨v, e, q.mono kp fun a z => .inl z⟩, fun i d h => let ⟨a, o, e1, e2, e3, q⟩ := I.own i d h; ⟨a, o, e1, k1 a o (fun z => e3 (by rw [z]; exact oP)) e2, e3, q.mono kp fun a z => .inl z⟩,
    I.inj, fun a z => trn a (I.ot a z), ⟨?_, I.pn.2.1, t⟩, I.po, I.kx, fun a o h n => k1 a o (fun z => n (.inr ⟨q0, by rw [z]; exact hq0⟩)) (I.bs a o h n), I.bo, I.sf⟩, ⟨fun a o h n _ => k1 a o (fun z => n (.inr ⟨q0, by rw [z]; exact hq0⟩)) h, fun _ z => .inl z, tr⟩⟩
  have h := I.pn.1
  cases q : p.pen with
  | none => rw [q] at h; exact h
  | some ac =>
    obtain ⟨a, c⟩ := ac
    rw [q] at h
    obtain ⟨m, n, ns, i, d, f, h1, h2, h3⟩ := h
    exact ⟨m, n, ns, i, d, f, k1 _ _ (fun z => by rw [z, eP] at h1; cases h1) h1, k1 _ _ (fun z => by rw [z, eP] at h2; cases h2) h2, h3⟩
/-- all slots' trees as values -/
def fzn (ρ : En) : En := ρ.map fun s => match s with
  | .own o => .val o.toD
  | s => s
/-- back from the lambda -/
theorem Rel.back (I : Rel O p ρ k σ H) {W : XD → Nat → Prop} {B : Addr → Prop} (kp : Kept { p with base := H, xc := W, hb := B } H') (pn : penI { p with base := H, xc := W, hb := B } k' H') : Rel O p ρ (k'.1, k.2) σ H' ∧ Step p ρ σ H ρ σ H' := by
  have kb : ∀ a o, H a = some o → ¬ Bn O ρ σ a → H' a = some o := fun a o e n => kp a o e fun z => n (.inl (I.po a (.inl (penB.of z))))
  have tr : ∀ a, H a ≠ none → H' a ≠ none := fun a h => by
    by_cases z : penA p a
    · exact pn.there (penB.of z)
    · cases q : H a with
      | none => exact absurd q h
      | some o => rw [kp a o q z]; simp
  have trn : ∀ a, (H a ≠ none ∧ ∀ us, H a ≠ some (.tup us)) → (H' a ≠ none ∧ ∀ us, H' a ≠ some (.tup us)) := fun a h => by
    by_cases z : penA p a
    · exact pn.nt (penB.of z)
    · cases q : H a with
      | none => exact absurd q h.1
      | some o => rw [kp a o q z]; exact nt_kept h q
  have pen : penI p (k'.1, k.2) H' := by
    obtain ⟨h, e, t⟩ := pn
    refine ⟨?_, I.pn.2.1, t⟩
    have h0 := I.pn.1
    cases q : p.pen with
    | none => rw [q] at h0; exact h0
    | some ac =>
      obtain ⟨a, c⟩ := ac
      rw [q] at h0
      have h : match ({ p with base := H, xc := W } : Pn).pen with
        | none => k'.2.pen = none
        | some (a, c) => k'.2.pen = some a ∧ a ≠ c ∧ ∃ (ns : List Int) (i : Nat) (d f : Int), H' a = some (penO c i d k'.1 f) ∧ H' c = some (.lst (ns.map V.int)) ∧ i ≤ ns.length ∧ 0 ≤ d ∧ 0 ≤ f ∧ f < 2147483648 := h
      rw [show ({ p with base := H, xc := W } : Pn).pen = some (a, c) from q] at h
      exact ⟨h0.1, h.2⟩
  exact ⟨⟨I.len, fun i d h => let ⟨v, e, q⟩ := I.val i d h; ⟨v, e, q.mono kb fun a z => .inl z⟩, fun i d h => let ⟨a, o, e1, e2, e3, q⟩ := I.own i d h; ⟨a, o, e1, kp a o e2 (fun z => e3 (I.po a (.inl (penB.of z)))), e3, q.mono kb fun a z => .inl z⟩,
    I.inj, fun a z => trn a (I.ot a z), pen, I.po, I.kx, fun a o h n => kp a o (I.bs a o h n) n, I.bo, I.sf⟩, fun a o h n _ => kp a o h n, fun _ z => .inl z, tr⟩
end
mutual
/-- no list and no dict in it -/
def leanD : D → Bool
  | .non | .bl _ | .int _ | .str _ | .ty _ | .obj _ => true
  | .tup ds => leanL ds
  | .ins _ _ ds => leanL ds
  | _ => false
def leanL : List D → Bool
  | [] => true
  | d :: ds => leanD d && leanL ds
end
def noI (ρ : En) : Bool := ρ.all fun s => match s with
  | .own (.i _ _ _) => false
  | _ => true
theorem noI_get {ρ : En} (h : noI ρ = true) {i : Nat} {C : Addr} {ns : List Str} {ds : List D} (e : ρ[i]? = some (.own (.i C ns ds))) : False := by
  unfold noI at h
  have := List.all_eq_true.mp h _ (List.mem_of_getElem? e)
  cases this
mutual
theorem lean_rep {O : Addr → Prop} {p : Pn} {ρ : En} {k : Kt} {σ : L2.St} {H : Hp} {B : Addr → Prop} (I : Rel O p ρ k σ H) (hi : noI ρ = true) (hB : ∀ a, O a → B a) : ∀ {v : V} {d : D}, Rep B H v d → leanD d = true → Rep (Bn O ρ σ) H v d
  | _, _, .non, _ => .non
  | _, _, .bl b, _ => .bl b
  | _, _, .int i, _ => .int i
  | _, _, .str x, _ => .str x
  | _, _, .ty n, _ => .ty n
  | _, _, .obj a, _ => .obj a
  | _, _, .lst _ _ _, h => by cases h
  | _, _, .tup h1 h2 h3, h => .tup (fun z => z.elim (fun z => h1 (hB _ z)) fun ⟨i, o, e1, e2⟩ => by
      obtain ⟨a, u, f1, f2, _, f4⟩ := I.own i o e1
      rw [e2] at f1
      cases f1
      rw [h2] at f2
      cases f2
      cases f4) h2 (leanL_rep I hi hB h3 (by unfold leanD at h; exact h))
  | _, _, .dK _ _ _ _ _, h => by cases h
  | _, _, .dT _ _ _ _ _, h => by cases h
  | _, _, .ins h1 h2 e1 e2 h3, h => .ins (fun z => z.elim (fun z => h1 (hB _ z)) fun ⟨i, o, f1, f2⟩ => by
      obtain ⟨a, u, g1, g2, _, g4⟩ := I.own i o f1
      rw [f2] at g1
      cases g1
      rw [h2] at g2
      cases g2
      cases g4
      exact noI_get hi f1) h2 e1 e2 (leanL_rep I hi hB h3 (by unfold leanD at h; exact h))
theorem leanL_rep {O : Addr → Prop} {p : Pn} {ρ : En} {k : Kt} {σ : L2.St} {H : Hp} {B : Addr → Prop} (I : Rel O p ρ k σ H) (hi : noI ρ = true) (hB : ∀ a, O a → B a) : ∀ {vs : List V} {ds : List D}, RepL B H vs ds → leanL ds = true → RepL (Bn O ρ σ) H vs ds
  | _, _, .nil, _ => .nil
  | _, _, .cons r t, h => by
    unfold leanL at h
    obtain ⟨h1, h2⟩ := Bool.and_eq_true_iff.mp h
    exact .cons (lean_rep I hi hB r h1) (leanL_rep I hi hB t h2)
end
end DL

set_option Elab.async false
set_option linter.all false
set_option maxRecDepth 100000
set_option maxHeartbeats 1000000
/-! ELq: the rule of f(lambda: e) -/
namespace DL
open PySem PySem.Spec PyProof.Rows L2
open LamX (TabS Tabs CodeO LamS lamEnv lamCx TabB)
mutual
/-- plain values and tuples of such -/
def tupD : D → Bool
  | .non | .bl _ | .int _ | .str _ => true
  | .tup ds => flatL ds
  | .ins _ _ ds => flatL ds
  | _ => false
def flatL : List D → Bool
  | [] => true
  | d :: ds => tupD d && flatL ds
end
section
variable {O : Addr → Prop} {p : Pn} {ρ : En} {k : Kt} {σ : L2.St} {H : Hp}
mutual
theorem lean_of : ∀ {d : D}, tupD d = true → leanD d = true
  | .non, _ | .bl _, _ | .int _, _ | .str _, _ | .ty _, _ | .obj _, _ => rfl
  | .tup _, h => by unfold leanD; exact lean_ofL (by unfold tupD at h; exact h)
  | .ins _ _ _, h => by unfold leanD; exact lean_ofL (by unfold tupD at h; exact h)
  | .lst _, h => by simp [tupD] at h
  | .dK _ _, h => by simp [tupD] at h
  | .dT _ _, h => by simp [tupD] at h
theorem lean_ofL : ∀ {ds : List D}, flatL ds = true → leanL ds = true
  | [], _ => rfl
  | _ :: _, h => by
    unfold flatL at h
    obtain ⟨h1, h2⟩ := Bool.and_eq_true_iff.mp h
    unfold leanL
    rw [lean_of h1, lean_ofL h2]; rfl
end
end
/-- the clauses of the hearing def and the classes that they name -/
inductive ClsL (K : PySem.W.Frag) (mg : Str → Option Value) (sc : Scope) : List HC → List (Addr × List Part) → Prop
  | nil : ClsL K mg sc [] []
  | named {x : Str} {qs : List Part} {C : Addr} {l : List HC} {cs : List (Addr × List Part)} (gl : sc.names.lookup x = some .globalImplicit) (db : (x == ("__debug__" : Str)) = false) (m : mg x = some (.ref C)) (T : XfC K C) (nf : ∀ q ∈ qs, ∀ f ∈ q.fs, PySem.W.findIn K (.ref C) f = some none) (t : ClsL K mg sc l cs) : ClsL K mg sc (⟨x, true, qs, []⟩ :: l) ((C, qs) :: cs)
  | plain {x : Str} {qs : List Part} {C : Addr} {l : List HC} {cs : List (Addr × List Part)} (gl : sc.names.lookup x = some .globalImplicit) (db : (x == ("__debug__" : Str)) = false) (m : mg x = some (.ref C)) (t : ClsL K mg sc l cs) : ClsL K mg sc (⟨x, false, qs, []⟩ :: l) ((C, qs) :: cs)
  | guard1 {x g : Str} {qs : List Part} {C Cg : Addr} {l : List HC} {cs : List (Addr × List Part)} (gl : sc.names.lookup x = some .globalImplicit) (db : (x == ("__debug__" : Str)) = false) (m : mg x = some (.ref C)) (T : XfC K C) (nf : ∀ q ∈ qs, ∀ f ∈ q.fs, PySem.W.findIn K (.ref C) f = some none) (E : ExcC K C) (gi : sc.names.lookup ("isinstance" : Str) = some .globalImplicit) (mi : mg "isinstance" = none) (gg : sc.names.lookup g = some .globalImplicit) (dg : (g == ("__debug__" : Str)) = false) (gm : mg g = some (.ref Cg)) (hk : PySem.W.kitOne K (.ref C) (.ref Cg) = some false) (t : ClsL K mg sc l cs) : ClsL K mg sc (⟨x, true, qs, [g]⟩ :: l) ((C, qs) :: cs)
  | guard2 {x g g2 : Str} {qs : List Part} {C Cg Cg2 : Addr} {l : List HC} {cs : List (Addr × List Part)} (gl : sc.names.lookup x = some .globalImplicit) (db : (x == ("__debug__" : Str)) = false) (m : mg x = some (.ref C)) (T : XfC K C) (nf : ∀ q ∈ qs, ∀ f ∈ q.fs, PySem.W.findIn K (.ref C) f = some none) (E : ExcC K C) (gi : sc.names.lookup ("isinstance" : Str) = some .globalImplicit) (mi : mg "isinstance" = none) (gg : sc.names.lookup g = some .globalImplicit) (dg : (g == ("__debug__" : Str)) = false) (gm : mg g = some (.ref Cg)) (gg2 : sc.names.lookup g2 = some .globalImplicit) (dg2 : (g2 == ("__debug__" : Str)) = false) (gm2 : mg g2 = some (.ref Cg2)) (hk : PySem.W.kitAny K (.ref C) [.ref Cg, .ref Cg2] = some false) (t : ClsL K mg sc l cs) : ClsL K mg sc (⟨x, true, qs, [g, g2]⟩ :: l) ((C, qs) :: cs)
theorem RepX.ext {B : Addr → Prop} {H H' : Hp} {cls : Value} {d : Option Addr} {x : XD} (h : RepX B H cls d x) (a : AExt H H') : RepX B H' cls d x := by
  obtain ⟨e, h⟩ := h
  refine ⟨e, ?_⟩
  cases d with
  | none => exact h
  | some b => obtain ⟨vs, e1, e2, rl⟩ := h; exact ⟨vs, a _ _ e1, e2, rl.ext a⟩
def tsD (B : Addr → Prop) (i : Nat) (nm : Bool) (q : Addr × List Part) : Addr → Value → Option Addr → TS := fun ea cls d D σ H => ∃ x P, (nm = true → i < σ.length → σ[i]? = some (some (.ref ea))) ∧ RepX B H cls d x ∧ cls = .ref q.1 ∧ q.2.length ≤ 100 ∧ partsD x q.2 P ∧ ∀ H', AExt H H' → ∀ vs ds t, RepL B H' vs ds → P ds → H' t = none → D.rt (.ref t) (upd H' t (.tup vs))
def clausesOf (B : Addr → Prop) (i : Nat) : List HC → List (Addr × List Part) → List Clause
  | h :: l, q :: cs => ⟨h.nm, .ref q.1, tsD B i h.nm q⟩ :: clausesOf B i l cs
  | _, _ => []
/-- the body of the hearing def -/
inductive HeardB (a n tag : Str) (l : List HC) : List Stmt → Prop
  | mk {j : Nat} {kk : Nat} {p1 p2 p3 p4 p5 p6 : Pos} {h0 : ExceptHandler} {hs : List ExceptHandler} {rest : List Stmt} (h : HdsB n (h0 :: hs) l) : HeardB a n tag l (.Try [.Return (some (.Tuple [.Constant (.str tag) j p1, .Call (.Name a p2) [] [] p3] kk p4)) p5] (h0 :: hs) [] [] p6 :: rest)
/-- f(lambda: e): what f gives; cs: the classes that it hears and what it gives for them -/
def wHeard (tabs : List (Addr × Str)) (tag : Str) (cs : List (Addr × List Part)) (wb : WE) : WE := fun ρ k Q => k.2.tabs = tabs ∧ noI ρ = true ∧
  wb (fzn ρ) (k.1, { k.2 with xc := fun x n => hdsD x cs fun d => ∃ ds, d = .tup ds ∧ flatL ds = true ∧ Q (.val d) ρ (n, k.2) }) fun r ρ1 k1 => ∃ d ρ2, frz ρ1 r = some (d, ρ2) ∧ leanD d = true ∧ Q (.val (.tup [.str tag, d])) ρ (k1.1, k.2)
/-- the reading of the lambda's body, whatever it stands in -/
def tBody (wb : WE) : XK → TE := fun E σ H J => ∃ (O : Addr → Prop) (p : Pn) (ρ : En) (k : Kt) (Q : R → En → Kt → Prop), Rel O p ρ k σ H ∧ wb ρ k Q ∧ (∀ x k' cls d H', penI p k' H' → Kept p H' → RepX p.hb H' cls d x → p.xc x k'.1 → E cls d H') ∧
  ∀ v H' r ρ' k', Rel O p ρ' k' σ H' → Step p ρ σ H ρ' σ H' → RRep O ρ' σ H' v r → Q r ρ' k' → J v H'
section
variable {X : Cx} {x a n tag : Str} {g c P : Addr} {st : Stmt} {fd : FuncData} {k : Nat} {l : List HC} {cs : List (Addr × List Part)} {tabs : List (Addr × Str)} {params : Arguments} {body : Expr} {scope : Scope} {pos ps lpos : Pos} {wb : WE}
end
end DL

set_option Elab.async false
set_option linter.all false
set_option maxRecDepth 100000
set_option maxHeartbeats 1000000
/-! ELr: the end of a law that makes lambdas: the law's def run where the claim calls it -/
namespace DL
open PySem PySem.Spec PyProof.Rows L2
open LamX (TabS Tabs TabB)
theorem cx_false {P : Program} {w : World} {outer : List Env} {H : Hp} {s : Shared} {e : Value} {s' : Shared} (h : L2.CX P w outer H s (fun _ _ _ => False) e s') : False := by
  unfold L2.CX at h
  first
  | exact h.elim
  | (obtain ⟨_, _, _, _, _, _, _, _, _, _, _, _, h⟩ := h; exact h.elim)
  | (obtain ⟨_, _, _, _, _, _, _, _, _, _, _, h⟩ := h; exact h.elim)
  | (obtain ⟨_, _, _, _, _, _, _, _, _, _, h⟩ := h; exact h.elim)
  | (obtain ⟨_, _, _, _, _, _, _, _, _, _, _, _, _, h⟩ := h; exact h.elim)
  | (obtain ⟨_, _, _, _, _, _, _, _, _, _, _, _, _, _, h⟩ := h; exact h.elim)
  | (obtain ⟨_, _, _, _, _, _, _, _, _, _, _, _, _, _, _, h⟩ := h; exact h.elim)
  | (obtain ⟨_, _, _, _, _, _, _, _, _, _, _, _, _, _, _, _, h⟩ := h; exact h.elim)
/-- what is tracked where the law is called: the script (if it is not of the written part) and the table of the law's code -/
def lawH (K : PySem.W.Frag) (a Pt : Addr) (o : Obj) (xs : List V) : Hp := fun b => if b = Pt then some (.tbl #[]) else if b = a ∧ K.lookup a = none then some (.frz o (.lst xs)) else none
end DL

set_option Elab.async false
set_option linter.all false
set_option maxRecDepth 100000
set_option maxHeartbeats 1000000
/-! ELs: what the end has to hand over: own classes, own exceptions, the law's call -/
namespace DL
open PySem PySem.Spec PyProof.Rows L2
open LamX (TabS Tabs TabB)
def clsBody : Stmt → List Stmt
  | .ClassDef (body := b) .. => b
  | _ => []
/-- the def that stands at place i in the class statement -/
def clsDef (st : Stmt) (i : Nat) : Stmt := (clsBody st).getD i (.Pass ⟨0, 0, 0, 0⟩)
theorem kit_own {K : PySem.W.Frag} {n : String} {C : Addr} {b : Bool} (h2 : PySem.W.isClsIn K C = true) (h3 : PySem.W.typeIn K (.ref C) = some (.type "type")) (h4 : PySem.W.subIn K (.type n) (.ref C) = some b) : PySem.W.kitOne K (.type n) (.ref C) = some b := by
  unfold PySem.W.kitOne PySem.W.kitCls
  dsimp only
  rw [if_neg (show ¬ ((Value.type n == Value.ref C) = true) by simp), if_pos (by rw [h3, show (PySem.W.clsIn K C).isSome = true from h2]; rfl)]
  exact h4
theorem clsF_mk {K : PySem.W.Frag} {C : Addr} (c : Cls K C) (ha : PySem.W.findIn K (.ref C) "__class__" = some (some (.builtin "object.__class__"))) (hn : PySem.W.specialIn K (.builtin "object.__class__") "__get__" = some (some (.builtin "getset_descriptor.__get__"))) (htk : PySem.W.takesIn K (.builtin "object.__class__") = some true) (hm : PySem.W.mroIn K C (.type "object") = some true)
    (i : PySem.W.isClsIn K C = true) (t : PySem.W.typeIn K (.ref C) = some (.type "type")) (b1 : PySem.W.subIn K (.type "NoneType") (.ref C) = some false) (b2 : PySem.W.subIn K (.type "bool") (.ref C) = some false) (b3 : PySem.W.subIn K (.type "int") (.ref C) = some false) (b4 : PySem.W.subIn K (.type "str") (.ref C) = some false) (b5 : PySem.W.subIn K (.type "list") (.ref C) = some false) (b6 : PySem.W.subIn K (.type "tuple") (.ref C) = some false) (b7 : PySem.W.subIn K (.type "dict") (.ref C) = some false) : ClsF K C :=
  ⟨c, fun H a dx fs e => .ins e c ha hn htk hm, fun n hn => by
    simp only [List.mem_cons, List.mem_nil_iff, or_false] at hn
    rcases hn with rfl | rfl | rfl | rfl | rfl | rfl | rfl
    · exact kit_own i t b1
    · exact kit_own i t b2
    · exact kit_own i t b3
    · exact kit_own i t b4
    · exact kit_own i t b5
    · exact kit_own i t b6
    · exact kit_own i t b7⟩
theorem oexC_mk {K : PySem.W.Frag} {C S N dd' : Addr} {nm q : Str} {bs sub : List Value} {sn : List Str} {ab : Bool} {col : Option Bool} {dd : Option Addr} {k0 k1 k2 k3 k5 : Option Value} (x : K.lookup C = some (excClassObj nm q C N bs [.ref S, .type "ValueError", .type "Exception", .type "BaseException", .type "object"] true sn sub ab col dd k0 k1 k2 k3 k5 "ValueError.__new__"))
    (sa : PySem.W.findIn K (.ref C) "__setattr__" = some (some (.builtin "object.__setattr__"))) (ex : PySem.W.subIn K (.ref C) (.type "BaseException") = some true) (ty : PySem.W.typeIn K (.ref C) = some (.type "type")) (kp : PySem.W.keepIn K (.ref C) = true) : L2.OexC K C :=
  ⟨⟨nm, q, N, bs, _, sn, sub, ab, col, dd, k0, k1, k2, k3, k5, x, rfl⟩, sa, ex, ty, kp⟩
theorem super_init {K : PySem.W.Frag} {C S N N' : Addr} {nm q nm' q' : Str} {bs sub bs' sub' : List Value} {sn sn' : List Str} {ab ab' : Bool} {col col' : Option Bool} {dd dd' : Option Addr} {k0 k1 k2 k3 k5 j0 j1 j2 j3 j5 : Option Value}
    (x : K.lookup C = some (excClassObj nm q C N bs [.ref S, .type "ValueError", .type "Exception", .type "BaseException", .type "object"] true sn sub ab col dd k0 k1 k2 k3 k5 "ValueError.__new__"))
    (y : K.lookup S = some (excClassObj nm' q' S N' bs' [.type "ValueError", .type "Exception", .type "BaseException", .type "object"] true sn' sub' ab' col' dd' j0 j1 j2 j3 j5 "ValueError.__new__"))
    (f : PySem.W.findIn K (.ref S) "__init__" = some (some (.builtin "ValueError.__init__"))) : PySem.W.ks_superIn K C C "__init__" = some (some (.builtin "ValueError.__init__")) := by
  unfold PySem.W.ks_superIn PySem.W.clsIn
  unfold PySem.W.findIn at f
  dsimp only at f
  rw [x]
  rw [y] at f
  show PySem.W.alongIn K "__init__" ((List.dropWhile (· != .ref C) (Value.ref C :: [.ref S, .type "ValueError", .type "Exception", .type "BaseException", .type "object"])).drop 1) = _
  rw [List.dropWhile_cons]
  simp only [bne_self_eq_false, Bool.false_eq_true, if_false, List.drop_succ_cons, List.drop_zero]
  exact f
/-- a promise that lets nothing out is one that may let out what its caller takes -/
theorem fnUp {P : Program} {w : World} {K : PySem.W.Frag} {mg : Str → Option Value} {base : Heap} {CX : CXT} {k : Nat} {f : Addr} {fd : FuncData} {ps : List Str} {sp : Sp} (F : FnOk P w K mg base CX0 k f fd ps sp) : FnOk P w K mg base CX k f fd ps sp :=
  ⟨F.len, fun A outer s H args us vs Q E hr e hb rv h => codeAny_mono (F.run A outer s H args us vs Q E hr e hb rv h) fun r s' q => by
    cases r with
    | error e => exact False.elim q
    | ok fl => cases fl <;> exact q⟩
end DL

set_option Elab.async false
set_option linter.all false
set_option maxRecDepth 100000
set_option maxHeartbeats 1000000
/-! ELt: enumerate of a list or a tuple -/
namespace PySem
open Sem (wp)
open AutoSeq1 (wpAny_loadPart')
end PySem
namespace DL
open PySem PySem.Spec PyProof.Rows L2
/-- the tuple at a, each item in a new pair -/
def IteT (K : PySem.W.Frag) (a : Addr) : It :=
  ⟨fun i H => ∃ (xs : List V) (x : V), SqT K H a xs ∧ xs[i]? = some x, fun i H v H' => ∃ T x, v = .ref T ∧ H T = none ∧ H' = upd H T (.tup [.int (i : Nat), x]) ∧ ∀ xs, SqT K H a xs → xs[i]? = some x, fun i H => ∃ xs : List V, SqT K H a xs ∧ xs.length ≤ i⟩
def iEnumA (K : PySem.W.Frag) (ta : TA) : TI := fun σ H R => ta σ H fun vs H1 => ∃ a xs, vs = [.ref a] ∧ ((SqL K H1 a xs ∧ R (Ite K a) H1) ∨ (SqT K H1 a xs ∧ R (IteT K a) H1))
/-- the pairs of places and items -/
def enumD : Nat → List D → List D
  | _, [] => []
  | i, d :: ds => .tup [.int i, d] :: enumD (i + 1) ds
def wEnum (a : WA) : WL := fun ρ k Q => a ρ k fun rs ρ1 k1 => ∃ ds ρ2 d xs, frzL ρ1 rs = some (ds, ρ2) ∧ ds = [d] ∧ itemsD d = some xs ∧ Q (enumD 0 xs) ρ2 k1
end DL

set_option Elab.async false
set_option linter.all false
set_option maxRecDepth 100000
set_option maxHeartbeats 1000000
/-! ELu: a tuple once (t * 1), a text some times (s * n) -/
namespace DL
open PySem PySem.Spec PyProof.Rows L2
theorem tup_once (l : Addr) (its : Array Value) (n : Nat) (dd : Option Addr) (sl : Array (Option Value)) (u : Tok) :
    Meets (Builtin.«tuple.__mul__» ⟨[.ref l, .int 1 u], []⟩) (fun _ R s => s.heap.get? l = some { cls := .type "tuple", dict := dd, data := .seq its n, slots := sl } ∧ R (.ok (.ret (Value.ref l))) s) :=
  .of_wp fun prog w A R s q => by
    obtain ⟨hp, g, d, tk, os⟩ := s
    obtain ⟨hl, q⟩ := q
    have f1 := AutoSeq1.idx_int
    have c1 : (its.isEmpty || (1 : Int) == 1) = true := by simp
    wp_walk using AutoSeq1.wpAny_loadPart' hl
    exact ⟨_, rfl, q⟩
section
variable {X : Cx}
def rTup1 (K : PySem.W.Frag) : R2 := fun x y H Q => ∃ l xs, x = .ref l ∧ y = .int 1 ∧ SqT K H l xs ∧ Q (.ref l) H
theorem op_tup1 : OpR X (binaryOp .Mult) (rTup1 X.K) := by
  intro pins s σ H x y v u Q I rx ry h
  obtain ⟨l, xs, rfl, rfl, hT, q⟩ := h
  cases rx
  obtain ⟨t, rfl⟩ := ry
  obtain ⟨its, r, ⟨⟨cls, dd, data, sl⟩, ho, hc, n, hd⟩, hs⟩ := I.tuple hT
  simp only at hc hd
  subst hc hd
  exact wpAny_binaryOp_repeat_ref (T := "tuple") (U := "int") (by decide) ⟨_, ho, rfl⟩ (fun s' => typeIs_int s' 1 t) noFill_tuple_mul F.fills_int_mul F.slot_int_rmul repeat_tuple F.slot_int_index.lookup
    (call_meets F.slot_int_rmul (typeIs_int s 1 t) F.entry_int_rmul (F.args_int_rmul_2 _ _) (int_rmul_tuple 1 t l its.toArray n dd sl)
      ⟨ho, rfl, ⟨_, ho, rfl⟩, call_meets F.slot_tuple_mul ⟨_, ho, rfl⟩ F.entry_tuple_mul (F.args_tuple_mul_2 _ _) (tup_once l its.toArray n dd sl t) ⟨ho, .ref l, H, I, rfl, q⟩⟩)
/-- s * k -/
def strTimes (x : Str) (k : Int) : Str := if k < 1 then Str.empty else if (k == 1 || x.length == 0) = true then x else ⟨(List.replicate k.toNat x.cps).foldl (· ++ ·) #[]⟩
def rStrT : R2 := fun x y H Q => ∃ z k, x = .str z ∧ y = .int k ∧ k ≤ 1000 ∧ -1000 ≤ k ∧ z.length ≤ 1000 ∧ Q (.str (strTimes z k)) H
theorem foldl_cps (a : Array Nat) : ∀ (n : Nat) (acc : Array Nat), ((List.replicate n a).foldl (· ++ ·) acc).size = acc.size + n * a.size
  | 0, acc => by simp
  | n + 1, acc => by
    rw [List.replicate_succ, List.foldl_cons, foldl_cps a n, Array.size_append, Nat.succ_mul]
    omega
theorem op_strT : OpR X (binaryOp .Mult) rStrT := by
  intro pins s σ H x y v u Q I rx ry h
  obtain ⟨z, k, rfl, rfl, h1, h2, h3, q⟩ := h
  obtain ⟨t, rfl⟩ := rx
  obtain ⟨t2, rfl⟩ := ry
  have big : 1000 * 1000 ≤ sizeLine := by rw [sizeLine_eq]; decide
  have prod : z.length * k.toNat ≤ 1000 * 1000 := Nat.mul_le_mul h3 (by omega)
  refine PySem.P.mul_str (by rw [decide_eq_false (by omega), decide_eq_false (by omega)]; rfl) (fun hk _ => ?_) (fun _ _ => ?_) ?_
  · have a1 : (1000 : Int) ≤ (2 ^ 63 - 1) / k := (Int.le_ediv_iff_mul_le (by omega)).mpr (by omega)
    omega
  · unfold PySem.Builtin.Str.tooLong
    exact decide_eq_false (by omega)
  · unfold strTimes at q
    by_cases c1 : k < 1
    · rw [if_pos c1] at q ⊢
      exact ⟨by rw [sizeLine_eq]; decide, .str _, H, I.tok _, ⟨_, rfl⟩, q⟩
    · rw [if_neg c1] at q ⊢
      by_cases c2 : (k == 1 || z.length == 0) = true
      · rw [if_pos c2] at q ⊢
        exact ⟨.str z, H, I, ⟨t, rfl⟩, q⟩
      · rw [if_neg c2] at q ⊢
        refine ⟨?_, .str _, H, I.tok _, ⟨_, rfl⟩, q⟩
        show ((List.replicate k.toNat z.cps).foldl (· ++ ·) #[]).size ≤ sizeLine
        rw [foldl_cps]
        have : z.cps.size = z.length := rfl
        rw [this, Nat.mul_comm]
        have e : (#[] : Array Nat).size = 0 := rfl
        omega
abbrev rMulX (X : Cx) : R2 := fun x y H Q => rMulAll X x y H Q ∨ rTup1 X.K x y H Q ∨ rStrT x y H Q
theorem op_mulX : OpR X (binaryOp .Mult) (rMulX X) := OpR.or op_mulAll (OpR.or op_tup1 op_strT)
def fMulX : F2 := fun d e P => match d, e with
  | .tup a, .int k => if k = 1 then P (.tup a) else fMul (.tup a) (.int k) P
  | .str z, .int k => (k ≤ 1000 ∧ -1000 ≤ k ∧ z.length ≤ 1000) ∧ P (.str (strTimes z k))
  | d, e => fMul d e P
theorem real_mulX : Real2 (rMulX X) fMulX := by
  intro B H x y d e P J hb rx ry h g
  unfold fMulX at h
  split at h
  · rename_i a k
    by_cases hk : k = 1
    · rw [if_pos hk] at h
      subst hk
      obtain ⟨l, vs, rfl, nl, el, la⟩ := rx.tup
      exact .inr (.inl ⟨l, vs, rfl, ry.int, SqT.of el, g _ H _ (AExt.refl H) (.tup nl el la) h⟩)
    · rw [if_neg hk] at h
      exact .inl (real_mul B H x y _ _ P J hb rx ry h g)
  · exact .inr (.inr ⟨_, _, rx.str, ry.int, h.1.1, h.1.2.1, h.1.2.2, g _ H _ (AExt.refl H) (.str _) h.2⟩)
  · exact .inl (real_mul B H x y _ _ P J hb rx ry h g)
end
end DL

set_option Elab.async false
set_option linter.all false
set_option maxRecDepth 100000
set_option maxHeartbeats 1000000
/-! ELv: the rest: the pen opened; the rules of the words of ELi .. ELu -/
namespace DL
open PySem PySem.Spec PyProof.Rows L2
theorem pen_open {p : Pn} {k : Kt} {H : Hp} {a : Addr} (pn : penI p k H) (ea : k.2.pen = some a) : ∃ c, a ≠ c ∧ ∃ (ns : List Int) (i : Nat) (d f : Int), H a = some (penO c i d k.1 f) ∧ H c = some (.lst (ns.map V.int)) ∧ i ≤ ns.length ∧ 0 ≤ d ∧ 0 ≤ f ∧ f < 2147483648 ∧
    ∀ (H' : Hp) (i2 : Nat) (d2 f2 : Int), (∀ b, b ≠ a → H' b = H b) → H' a = some (penO c i2 d2 ((k.1 : Int) + 1) f2) → i2 ≤ ns.length → 0 ≤ d2 → 0 ≤ f2 → f2 < 2147483648 → penI p (k.1 + 1, k.2) H' ∧ penA p a := by
  obtain ⟨h, e, t⟩ := pn
  cases q : p.pen with
  | none => rw [q] at h; rw [ea] at h; cases h
  | some ac =>
    obtain ⟨x, c⟩ := ac
    rw [q] at h
    obtain ⟨m, n, ns, i, d, f, h1, h2, h3, h4, h5, h6⟩ := h
    rw [ea] at m
    cases m
    refine ⟨c, n, ns, i, d, f, h1, h2, h3, h4, h5, h6, fun H' i2 d2 f2 ho e1 e2 e3 e4 e5 => ⟨⟨?_, e, fun z hz => tabS_keep (t z hz) (ho _ ?_) fun b y hb => ?_⟩, .inl ⟨c, q⟩⟩⟩
    · rw [q]
      exact ⟨ea, n, ns, i2, d2, f2, e1, (ho c (Ne.symm n)).trans h2, e2, e3, e4, e5⟩
    · intro z2
      obtain ⟨ps, y, _⟩ := t z hz
      rw [z2, h1] at y
      cases y
    · exact (ho b fun z2 => by rw [z2, h1] at hb; unfold LamX.CodeO at hb; cases hb).trans hb
section
variable {ρ : En} {k : Kt} {Q : R → En → Kt → Prop} {QL : List D → En → Kt → Prop} {E : DEnds} {a : WE} {wa : WA}
@[simp] theorem s_Fld {C : Addr} {f : Str} : wFld C f a ρ k Q = a ρ k fun r ρ1 k1 => ∃ ns ds d, deref ρ1 r = some (.ins C ns ds) ∧ (ns.zip ds).lookup f = some d ∧ Q (.val d) ρ1 k1 := rfl
@[simp] theorem s_PutF {i : Nat} {C : Addr} {f : Str} : wPutF i C f a E ρ k = a ρ k fun r ρ1 k1 => ∃ y ρ2 ns ds, frz ρ1 r = some (y, ρ2) ∧ ρ2[i]? = some (.own (.i C ns ds)) ∧ f ∉ ns ∧ ns.length < 1000 ∧ E.nx (ρ2.set i (.own (.i C (ns ++ [f]) (ds ++ [y])))) k1 := rfl
@[simp] theorem s_Raise {C : Addr} {fs : List Str} : wRaise C fs wa E ρ k = wa ρ k fun rs ρ1 k1 => ∃ ds ρ2, frzL ρ1 rs = some (ds, ρ2) ∧ ds.length = fs.length ∧ k1.2.xc ⟨.ref C, fs.reverse, ds.reverse⟩ k1.1 := rfl
@[simp] theorem s_Heard {tabs : List (Addr × Str)} {tag : Str} {cs : List (Addr × List Part)} {wb : WE} : wHeard tabs tag cs wb ρ k Q = (k.2.tabs = tabs ∧ noI ρ = true ∧
  wb (fzn ρ) (k.1, { k.2 with xc := fun x n => hdsD x cs fun d => ∃ ds, d = .tup ds ∧ flatL ds = true ∧ Q (.val d) ρ (n, k.2) }) fun r ρ1 k1 => ∃ d ρ2, frz ρ1 r = some (d, ρ2) ∧ leanD d = true ∧ Q (.val (.tup [.str tag, d])) ρ (k1.1, k.2)) := rfl
@[simp] theorem s_Enum : wEnum wa ρ k QL = wa ρ k fun rs ρ1 k1 => ∃ ds ρ2 d xs, frzL ρ1 rs = some (ds, ρ2) ∧ ds = [d] ∧ itemsD d = some xs ∧ QL (enumD 0 xs) ρ2 k1 := rfl
@[simp] theorem s_en0 {i : Nat} : enumD i [] = [] := rfl
@[simp] theorem s_en1 {i : Nat} {d : D} {ds : List D} : enumD i (d :: ds) = .tup [.int i, d] :: enumD (i + 1) ds := rfl
@[simp] theorem s_fz0 : fzn [] = [] := rfl
@[simp] theorem s_fz1 {d : D} {r : En} : fzn (.val d :: r) = .val d :: fzn r := rfl
@[simp] theorem s_fz2 {o : OD} {r : En} : fzn (.own o :: r) = .val o.toD :: fzn r := rfl
@[simp] theorem s_fz3 {r : En} : fzn (.un :: r) = .un :: fzn r := rfl
@[simp] theorem s_no0 : noI [] = true := rfl
@[simp] theorem s_no1 {d : D} {r : En} : noI (.val d :: r) = noI r := by simp [noI]
@[simp] theorem s_no2 {ds : List D} {r : En} : noI (.own (.l ds) :: r) = noI r := by simp [noI]
@[simp] theorem s_no3 {r : En} : noI (.un :: r) = noI r := by simp [noI]
@[simp] theorem s_hd0 {x : XD} {P : D → Prop} : hdsD x [] P = False := rfl
@[simp] theorem s_hd1 {x : XD} {q : Addr × List Part} {r : List (Addr × List Part)} {P : D → Prop} : hdsD x (q :: r) P = if x.cls = .ref q.1 then partsD x q.2 fun ds => P (.tup ds) else hdsD x r P := rfl
@[simp] theorem s_ps0 {x : XD} {P : List D → Prop} : partsD x [] P = P [] := rfl
@[simp] theorem s_ps1 {x : XD} {q : Part} {qs : List Part} {P : List D → Prop} : partsD x (q :: qs) P = partD x q fun d => partsD x qs fun ds => P (d :: ds) := rfl
@[simp] theorem s_p1 {x : XD} {s : Str} {P : D → Prop} : partD x (.str s) P = P (.str s) := rfl
@[simp] theorem s_p2 {x : XD} {f : Str} {P : D → Prop} : partD x (.fld f) P = ∃ d, (x.ns.zip x.ds).lookup f = some d ∧ P d := rfl
/-- a value's text as repr gives it -/
def rpK (o : Option PyData) (P : D → Prop) : Prop := ∃ y, o = some y ∧ y.showable = true ∧ y.shown.length ≤ sizeLine ∧ y.depth ≤ 50 ∧ P (.str y.shown)
@[simp] theorem s_p3 {x : XD} {f : Str} {P : D → Prop} : partD x (.rep f) P = ∃ d, (x.ns.zip x.ds).lookup f = some d ∧ rpK (toPy d) P := by
  unfold rpK
  refine propext ⟨fun ⟨d, y, h1, h2⟩ => ⟨d, h1, y, h2⟩, fun ⟨d, h1, y, h2⟩ => ⟨d, y, h1, h2⟩⟩
@[simp] theorem s_repr {d : D} {P : D → Prop} : fRepr [d] P = rpK (toPy d) P := by
  unfold fRepr rpK
  refine propext ⟨fun ⟨d', y, h1, h2⟩ => by cases h1; exact ⟨y, h2⟩, fun ⟨y, h2⟩ => ⟨d, y, rfl, h2⟩⟩
@[simp] theorem s_isC {C : Addr} {d : D} {P : D → Prop} : fIsC C [d, .obj C] P = ∃ b, isC C d = some b ∧ P (.bl b) := by
  refine propext ⟨fun ⟨b, _, h⟩ => ⟨b, h⟩, fun ⟨b, h⟩ => ⟨b, rfl, h⟩⟩
@[simp] theorem s_mxi {i j : Int} {P : D → Prop} : fMulX (.int i) (.int j) P = (CMul i j ∧ P (.int (i * j))) := rfl
@[simp] theorem s_mxl {a : List D} {k : Int} {P : D → Prop} : fMulX (.lst a) (.int k) P = ((-(2 ^ 63) ≤ k ∧ k < 2 ^ 63 ∧ a.length * k.toNat ≤ sizeLine) ∧ P (.lst (List.replicate k.toNat a).flatten)) := rfl
@[simp] theorem s_mxt {a : List D} {k : Int} {P : D → Prop} : fMulX (.tup a) (.int k) P = if k = 1 then P (.tup a) else ((a ≠ [] ∧ 2 ≤ k ∧ k ≤ 1000 ∧ a.length ≤ 1000) ∧ P (.tup (List.replicate k.toNat a).flatten)) := rfl
@[simp] theorem s_mxs {z : Str} {k : Int} {P : D → Prop} : fMulX (.str z) (.int k) P = ((k ≤ 1000 ∧ -1000 ≤ k ∧ z.length ≤ 1000) ∧ P (.str (strTimes z k))) := rfl
end
section
variable {X : Cx} {pos : Pos}
@[simp] theorem s_ParG {ρ : En} {k : Kt} {E : DEnds} {i j : Nat} {a : WE} {b : WL} : wParG i j a b E ρ k = a ρ k fun r ρ1 k1 => b ρ1 k1 fun zs ρ2 k2 => ∃ x ρ3, frz ρ2 r = some (x, ρ3) ∧ E.nx ((ρ3.set i (.val x)).set j (.own (.l zs))) k2 := rfl
@[simp] theorem s_ParH {ρ : En} {k : Kt} {E : DEnds} {i j : Nat} {a b : WL} : wParH i j a b E ρ k = a ρ k fun zs ρ1 k1 => b ρ1 k1 fun ys ρ2 k2 => E.nx ((ρ2.set i (.own (.l zs))).set j (.own (.l ys))) k2 := rfl
end
end DL

set_option Elab.async false
set_option linter.all false
set_option maxRecDepth 100000
set_option maxHeartbeats 1000000
/-! ELva: x[i] = e of an owned list; abs -/
namespace DL
open PySem PySem.Spec PyProof.Rows L2
section
variable {X : Cx} {pos : Pos}
end
def fAbs : FN := fun ds P => match ds with
  | [.int i] => P (.int (if i < 0 then -i else i))
  | _ => False
@[simp] theorem s_abs {i : Int} {P : D → Prop} : fAbs [.int i] P = P (.int (if i < 0 then -i else i)) := rfl
@[simp] theorem s_SetIt {i : Nat} {b a : WE} {E : DEnds} {ρ : En} {k : Kt} : wSetIt i b a E ρ k = a ρ k fun r ρ1 k1 => ∃ y ρ2, frz ρ1 r = some (y, ρ2) ∧ (∃ ds, ρ2[i]? = some (.own (.l ds))) ∧ b ρ2 k1 fun r2 ρ3 k3 => ∃ (j : Int) (n : Nat) (ds : List D), deref ρ3 r2 = some (.int j) ∧ ρ3[i]? = some (.own (.l ds)) ∧ ixN ds.length j = some n ∧ E.nx (ρ3.set i (.own (.l (ds.set n y)))) k3 := rfl
end DL

set_option Elab.async false
set_option linter.all false
set_option maxRecDepth 100000
set_option maxHeartbeats 1000000
/-! ELpc: x, y = e, [..] where x is seen by an inner comprehension (the pair is made and taken apart) -/
namespace DL
open PySem PySem.Spec PyProof.Rows L2
section
variable {X : Cx} {pos : Pos}
end
end DL

set_option Elab.async false
set_option linter.all false
set_option maxRecDepth 100000
set_option maxHeartbeats 1000000
/-! ELzn: zip of two tuples, the pair kept whole (for pair in zip(a, b)) -/
namespace DL
open PySem PySem.Spec PyProof.Rows L2 PySem.W
section
variable {prog : Program} {w : World} {A : Around} {E : Value → Shared → Prop} {s : Shared}
/-- a zip, whatever it holds out -/
abbrev IsZg (h : Heap) (z TI TO : Addr) (v : Value) (f : Bool) : Prop :=
  h.get? z = some { cls := .type "zip", dict := none, data := .fields #[v, .bool f, .bool false, .ref TI, .ref TO], slots := #[] }
end
def iZipN (K : PySem.W.Frag) (ta : TA) : TI := fun σ H R => ta σ H fun vs H1 => ∃ a b xs ys, vs = [.ref a, .ref b] ∧ SqT K H1 a xs ∧ SqT K H1 b ys ∧ R (RZ.ItzT K a b) H1
section
variable {X : Cx} {pos ps' : Pos}
/-- for p in zip(a, b), tuples -/
def wZipT (a : WA) : WL := fun ρ k Q => a ρ k fun rs ρ1 k1 => ∃ ds ρ2 xs ys, frzL ρ1 rs = some (ds, ρ2) ∧ ds = [.tup xs, .tup ys] ∧ Q (zipD xs ys) ρ2 k1
@[simp] theorem s_ZipT {a : WA} {ρ : En} {k : Kt} {Q : List D → En → Kt → Prop} : wZipT a ρ k Q = a ρ k fun rs ρ1 k1 => ∃ ds ρ2 xs ys, frzL ρ1 rs = some (ds, ρ2) ∧ ds = [.tup xs, .tup ys] ∧ Q (zipD xs ys) ρ2 k1 := rfl
end
end DL

set_option Elab.async false
set_option linter.all false
set_option maxRecDepth 100000
set_option maxHeartbeats 1000000
/-! ELeq: == and != by an own __eq__; isinstance among own classes; fields that several classes have; calls whose answers hold no lists -/
namespace DL
open PySem PySem.Spec PyProof.Rows L2
/-! ### != of an instance whose class has an own __eq__ and the common __ne__ -/
section
variable {prog : Program} {w : World} {A : Around} {E : Value → Shared → Prop} {s : Shared} {K : PySem.W.Frag} {x C f : Addr} {ox : Obj} {od : Option Obj} {b tb : Value}
end
/-! ### == and != in the layer -/
section
variable {X : Cx} {pos : Pos}
structure OwnEq (P : Program) (w : World) (K : PySem.W.Frag) (mg : Str → Option Value) (base : Heap) (n : Nat) (C : Addr) (wf : WF) : Prop where
  it : ∃ g, PySem.W.findIn K (.ref C) "__eq__" = some (some (.ref g)) ∧ PySem.W.isFn K (.ref g) = true ∧ FnR P w K mg base (L2.CX P w) n g (spD 2 wf)
  ne : PySem.W.findIn K (.ref C) "__ne__" = some (some (.builtin "object.__ne__"))
  ob : PySem.W.mroIn K C (.type "object") = some true
structure OwnTb (P : Program) (w : World) (K : PySem.W.Frag) (mg : Str → Option Value) (base : Heap) (n : Nat) (tbl : List (Addr × WF)) : Prop where
  ok : ∀ p ∈ tbl, OwnEq P w K mg base n p.1 p.2
  nf : ∀ p ∈ tbl, ∀ q ∈ tbl, PySem.W.notFirst K p.1 (.ref q.1) = true
def rOwnD (X : Cx) (tbl : List (Addr × WF)) (neg : Bool) : R2 := fun x y H Q => ∃ C wf C' wf' a dx fs b dy gs, (C, wf) ∈ tbl ∧ (C', wf') ∈ tbl ∧ x = .ref a ∧ y = .ref b ∧ H a = some (.ins C dx fs) ∧ H b = some (.ins C' dy gs) ∧
  spD 2 wf [.ref a, .ref b] H (fun v H' => ∃ t, v = .bl t ∧ Q (.bl (if neg then !t else t)) H') (EX X)
/-- a == b, a != b of instances -/
def wOwn (neg : Bool) (tbl : List (Addr × WF)) (a b : WE) : WE := fun ρ k Q => a ρ k fun x ρ1 k1 => b ρ1 k1 fun y ρ2 k2 => ∃ ds ρ3, frzL ρ2 [x, y] = some (ds, ρ3) ∧ ∃ C ns es wf C' ns' es' wf', ds = [.ins C ns es, .ins C' ns' es'] ∧ (C, wf) ∈ tbl ∧ (C', wf') ∈ tbl ∧
  wf ds k2 fun r k3 => ∃ t, r = .bl t ∧ Q (.val (.bl (if neg then !t else t))) ρ3 k3
end
/-! ### isinstance among the program's own classes -/
structure OwnCs (K : PySem.W.Frag) (Cs : List Addr) : Prop where
  f : ∀ C ∈ Cs, ClsF K C
  ne : ∀ C ∈ Cs, ∀ C' ∈ Cs, C' ≠ C → PySem.W.kitOne K (.ref C') (.ref C) = some false
def isM (Cs : List Addr) (C : Addr) : D → Option Bool
  | .ins C' _ _ => if C' ∈ Cs then some (decide (C' = C)) else none
  | .non => some false
  | .bl _ => some false
  | .int _ => some false
  | .str _ => some false
  | .lst _ => some false
  | .tup _ => some false
  | _ => none
def fIsM (Cs : List Addr) (C : Addr) : FN := fun ds P => match ds with
  | [d, .obj c] => ∃ b, c = C ∧ isM Cs C d = some b ∧ P (.bl b)
  | _ => False
def anyM (Cs : List Addr) (d : D) : List Addr → Option Bool
  | [] => some false
  | C :: r => match isM Cs C d with
    | some true => some true
    | some false => anyM Cs d r
    | none => none
def fIsMT (Cs : List Addr) : FN := fun ds P => match ds with
  | [d, .tup ts] => ∃ cs b, ts = cs.map D.obj ∧ cs ≠ [] ∧ (∀ C ∈ cs, C ∈ Cs) ∧ anyM Cs d cs = some b ∧ P (.bl b)
  | _ => False
section
variable {X : Cx} {pos : Pos}
/-- e.f where more classes than one have the field f -/
def wFldM (Cs : List Addr) (f : Str) (a : WE) : WE := fun ρ k Q => a ρ k fun r ρ1 k1 => ∃ C ns ds d, C ∈ Cs ∧ deref ρ1 r = some (.ins C ns ds) ∧ (ns.zip ds).lookup f = some d ∧ Q (.val d) ρ1 k1
/-- an expression that only reads what this body owns, and whose answer holds no list: what was owned stays owned -/
def wLean (w : WE) : WE := fun ρ k Q => noI ρ = true ∧ w (fzn ρ) k fun r ρ1 k1 => ∃ d ρ2, frz ρ1 r = some (d, ρ2) ∧ leanD d = true ∧ Q (.val d) ρ (k1.1, k.2)
end
section
variable {X : Cx} {pos : Pos}
/-- a, b, c = a new list, e2, e3 -/
def wPar3F (i j l : Nat) (a : WL) (b c : WE) : WS := fun E ρ k => a ρ k fun zs ρ1 k1 => b ρ1 k1 fun r2 ρ2 k2 => c ρ2 k2 fun r3 ρ3 k3 => ∃ ds ρ4, frzL ρ3 [r2, r3] = some (ds, ρ4) ∧ ∃ y z, ds = [y, z] ∧ E.nx (((ρ4.set i (.own (.l zs))).set j (.val y)).set l (.val z)) k3
end
section
variable {ρ : En} {k : Kt} {Q : R → En → Kt → Prop} {a b : WE} {P : D → Prop}
@[simp] theorem s_Par3F {E : DEnds} {i j l : Nat} {a : WL} {b c : WE} : wPar3F i j l a b c E ρ k = a ρ k fun zs ρ1 k1 => b ρ1 k1 fun r2 ρ2 k2 => c ρ2 k2 fun r3 ρ3 k3 => ∃ ds ρ4, frzL ρ3 [r2, r3] = some (ds, ρ4) ∧ ∃ y z, ds = [y, z] ∧ E.nx (((ρ4.set i (.own (.l zs))).set j (.val y)).set l (.val z)) k3 := rfl
@[simp] theorem s_isMT {Cs : List Addr} {ds : List D} : fIsMT Cs ds P = match ds with
  | [d, .tup ts] => ∃ cs b, ts = cs.map D.obj ∧ cs ≠ [] ∧ (∀ C ∈ cs, C ∈ Cs) ∧ anyM Cs d cs = some b ∧ P (.bl b)
  | _ => False := rfl
@[simp] theorem s_Own {neg : Bool} {tbl : List (Addr × WF)} : wOwn neg tbl a b ρ k Q = a ρ k fun x ρ1 k1 => b ρ1 k1 fun y ρ2 k2 => ∃ ds ρ3, frzL ρ2 [x, y] = some (ds, ρ3) ∧ ∃ C ns es wf C' ns' es' wf', ds = [.ins C ns es, .ins C' ns' es'] ∧ (C, wf) ∈ tbl ∧ (C', wf') ∈ tbl ∧
  wf ds k2 fun r k3 => ∃ t, r = .bl t ∧ Q (.val (.bl (if neg then !t else t))) ρ3 k3 := rfl
@[simp] theorem s_FldM {Cs : List Addr} {f : Str} : wFldM Cs f a ρ k Q = a ρ k fun r ρ1 k1 => ∃ C ns ds d, C ∈ Cs ∧ deref ρ1 r = some (.ins C ns ds) ∧ (ns.zip ds).lookup f = some d ∧ Q (.val d) ρ1 k1 := rfl
@[simp] theorem s_Lean : wLean a ρ k Q = (noI ρ = true ∧ a (fzn ρ) k fun r ρ1 k1 => ∃ d ρ2, frz ρ1 r = some (d, ρ2) ∧ leanD d = true ∧ Q (.val d) ρ (k1.1, k.2)) := rfl
@[simp] theorem s_isM {Cs : List Addr} {C : Addr} {d : D} : fIsM Cs C [d, .obj C] P = ∃ b, isM Cs C d = some b ∧ P (.bl b) := by
  refine propext ⟨fun ⟨b, _, h⟩ => ⟨b, h⟩, fun ⟨b, h⟩ => ⟨b, rfl, h⟩⟩
end
end DL

set_option Elab.async false
set_option linter.all false
set_option maxRecDepth 100000
set_option maxHeartbeats 4000000
/-! ELtn: != of two tuples that hold own instances, all of them equal -/
namespace DL
open PySem PySem.Spec PyProof.Rows L2
section
open PySem.SeqAt AutoSeq1 MeetsSeq MeetsSeq2 MeetsSeq3 SeqRoads2
variable {prog : Program} {w : World} {A : Around} {R : Result → Shared → Prop}
end
section
variable {X : Cx} {n : Nat} {D : Eqv}
def kt0 : Kt := (0, ⟨none, fun _ _ => False, []⟩)
def pn0 : Pn := { pen := none, base := fun _ => none, xc := fun _ _ => False }
/-- own instances that an own == tells equal -/
def DOwn (tbl : List (Addr × WF)) : Eqv := fun x y H => ∃ C wf C' wf' a dx fs b dy gs d e, (C, wf) ∈ tbl ∧ (C', wf') ∈ tbl ∧ x = .ref a ∧ y = .ref b ∧ H a = some (.ins C dx fs) ∧ H b = some (.ins C' dy gs) ∧
  Rep (fun _ => False) H (.ref a) d ∧ Rep (fun _ => False) H (.ref b) e ∧ wf [d, e] kt0 fun r _ => r = .bl true
def DStr : Eqv := fun x y _ => (∃ s, x = .str s ∧ y = .str s) ∨ ∃ i : Int, x = .int i ∧ y = .int i
def rTN (K : PySem.W.Frag) (D : Eqv) : R2 := fun x y H Q => DTup K D x y H ∧ ∀ H', Ext H H' → Q (.bl false) H'
end
/-- pairs that == tells equal -/
inductive PairE (tbl : List (Addr × WF)) : List D → List D → Prop
  | nil : PairE tbl [] []
  | str {s : Str} {us vs : List D} : PairE tbl us vs → PairE tbl (.str s :: us) (.str s :: vs)
  | int {i : Int} {us vs : List D} : PairE tbl us vs → PairE tbl (.int i :: us) (.int i :: vs)
  | own {C C' : Addr} {ns ns' : List Str} {es es' us vs : List D} {wf wf' : WF} : (C, wf) ∈ tbl → (C', wf') ∈ tbl → (wf [.ins C ns es, .ins C' ns' es'] kt0 fun r _ => r = .bl true) → PairE tbl us vs → PairE tbl (.ins C ns es :: us) (.ins C' ns' es' :: vs)
/-- a != b of tuples, all pairs equal -/
def wTupNe (tbl : List (Addr × WF)) (a b : WE) : WE := fun ρ k Q => a ρ k fun x ρ1 k1 => b ρ1 k1 fun y ρ2 k2 => ∃ ds ρ3, frzL ρ2 [x, y] = some (ds, ρ3) ∧ ∃ us vs, ds = [.tup us, .tup vs] ∧ PairE tbl us vs ∧ Q (.val (.bl false)) ρ3 k2
@[simp] theorem s_TupNe {tbl : List (Addr × WF)} {a b : WE} {ρ : En} {k : Kt} {Q : R → En → Kt → Prop} : wTupNe tbl a b ρ k Q = a ρ k fun x ρ1 k1 => b ρ1 k1 fun y ρ2 k2 => ∃ ds ρ3, frzL ρ2 [x, y] = some (ds, ρ3) ∧ ∃ us vs, ds = [.tup us, .tup vs] ∧ PairE tbl us vs ∧ Q (.val (.bl false)) ρ3 k2 := rfl
section
variable {X : Cx} {pos : Pos} {n : Nat} {tbl : List (Addr × WF)} {a b : Expr} {wa wb : WE}
end
/-! ### an own instance == a tuple -/
section
variable {X : Cx} {pos : Pos} {n : Nat} {tbl : List (Addr × WF)} {a b : Expr} {wa wb : WE}
def rOwnT (X : Cx) (tbl : List (Addr × WF)) : R2 := fun x y H Q => ∃ C wf a dx fs b xs, (C, wf) ∈ tbl ∧ x = .ref a ∧ y = .ref b ∧ H a = some (.ins C dx fs) ∧ H b = some (.tup xs) ∧
  spD 2 wf [.ref a, .ref b] H (fun v H' => ∃ t, v = .bl t ∧ Q (.bl t) H') (EX X)
/-- a == b, an instance and a tuple -/
def wOwnT (tbl : List (Addr × WF)) (a b : WE) : WE := fun ρ k Q => a ρ k fun x ρ1 k1 => b ρ1 k1 fun y ρ2 k2 => ∃ ds ρ3, frzL ρ2 [x, y] = some (ds, ρ3) ∧ ∃ C ns es wf us, ds = [.ins C ns es, .tup us] ∧ (C, wf) ∈ tbl ∧ wf ds k2 fun r k3 => ∃ t, r = .bl t ∧ Q (.val (.bl t)) ρ3 k3
@[simp] theorem s_OwnT {tbl : List (Addr × WF)} {a b : WE} {ρ : En} {k : Kt} {Q : R → En → Kt → Prop} : wOwnT tbl a b ρ k Q = a ρ k fun x ρ1 k1 => b ρ1 k1 fun y ρ2 k2 => ∃ ds ρ3, frzL ρ2 [x, y] = some (ds, ρ3) ∧ ∃ C ns es wf us, ds = [.ins C ns es, .tup us] ∧ (C, wf) ∈ tbl ∧ wf ds k2 fun r k3 => ∃ t, r = .bl t ∧ Q (.val (.bl t)) ρ3 k3 := rfl
end
end DL

set_option Elab.async false
set_option linter.all false
set_option maxRecDepth 100000
set_option maxHeartbeats 1000000
/-! ELw: plain facts: sorting, texts of data, equality of data -/
namespace DL
open PySem PySem.Spec PyProof.Rows L2
/-! sorting -/
abbrev pD (p : Int × Int) : D := .tup [.int p.1, .int p.2]
def leP (p q : Int × Int) : Bool := decide (p.1 < q.1 ∨ (p.1 = q.1 ∧ p.2 ≤ q.2))
def sortP (xs : List (Int × Int)) : List (Int × Int) := xs.mergeSort leP
theorem sortP_perm (xs : List (Int × Int)) : (sortP xs).Perm xs := List.mergeSort_perm _ _
theorem pyL_pairs (xs : List (Int × Int)) : pyL (xs.map pD) = xs.map fun p => PyData.tuple [.int p.1, .int p.2] := by
  induction xs with
  | nil => rfl
  | cons x r ih => rw [List.map_cons, pyL, ih]; rfl
theorem isPyL_pairs (xs : List (Int × Int)) : isPyL (xs.map pD) = true := by
  induction xs with
  | nil => rfl
  | cons x r ih => rw [List.map_cons, isPyL, ih]; rfl
theorem t_sortP {xs : List (Int × Int)} {P : List D → Prop} (h : P ((sortP xs).map pD)) : fSortD [.lst (xs.map pD)] P := by
  refine ⟨isPyL_pairs xs, ?_, ?_, fun x hx => ?_, ?_⟩
  · rw [pyL_pairs]
    exact PySem.W.AllAlike.of fun _ _ => by simp [PySem.W.alike, PySem.W.alikeAll]
  · rw [pyL_pairs]
    exact PySem.W.Sortable.tuples fun _ => ⟨_, _, rfl⟩
  · obtain ⟨i, _, rfl⟩ := List.mem_map.mp hx
    simp [py, pyL, PyData.depth, PyData.depthAll]
  · have e : (xs.map pD).mergeSort leD = (sortP xs).map pD := by
      rw [sortP, List.map_mergeSort (s := leD)]
      intro a _ b _
      exact congrFun (congrFun (PySem.W.dataLe_ii (fun i : Int × Int => i.1) (fun i => i.2)) a) b |>.symm
    rw [e]
    exact h
/-! code points -/
open PyData (strOk canLay0 canLayAll0)
theorem sOk_iff {x : Str} : strOk x = true ↔ ∀ c ∈ x.cps.toList, c < 0x110000 := by
  unfold strOk
  rw [Array.all_eq_true_iff_forall_mem]
  constructor
  · intro h c hc
    have := h c (Array.mem_toList_iff.mp hc)
    simpa using this
  · intro h c hc
    have := h c (Array.mem_toList_iff.mpr hc)
    simpa using this
theorem sOk_str (s : String) : strOk (Str.ofString s) = true := by
  rw [sOk_iff, Str.ofString_eq_toList]
  intro c hc
  rw [List.toList_toArray] at hc
  obtain ⟨x, _, rfl⟩ := List.mem_map.mp hc
  have := x.valid
  simp only [UInt32.isValidChar, Nat.isValidChar] at this
  show x.val.toNat < _
  omega
theorem sOk_app {x y : Str} (h : strOk x = true) (h' : strOk y = true) : strOk (x ++ y) = true := by
  rw [sOk_iff] at *
  intro c hc
  have e : (x ++ y).cps.toList = x.cps.toList ++ y.cps.toList := by show (x.cps ++ y.cps).toList = _; rw [Array.toList_append]
  rw [e] at hc
  rcases List.mem_append.mp hc with z | z
  · exact h c z
  · exact h' c z
theorem sOk_join {sep : Str} (hs : strOk sep = true) : ∀ {xs : List Str}, (∀ x ∈ xs, strOk x = true) → strOk (Str.join sep xs) = true
  | [], _ => by unfold Str.join Str.empty strOk; simp
  | [x], h => h x List.mem_cons_self
  | x :: y :: r, h => sOk_app (sOk_app (h x List.mem_cons_self) hs) (sOk_join hs fun z hz => h z (List.mem_cons_of_mem _ hz))
theorem sOk_char {q c : Nat} (hq : q < 0x110000) (hc : c < 0x110000) : ∀ x ∈ Builtin.Str.reprChar q c, x < 0x110000 := by
  intro x hx
  have hx' : ∀ w, x ∈ List.replicate (w - ((Nat.toDigits 16 c).map Char.toNat).length) 48 ++ (Nat.toDigits 16 c).map Char.toNat → x < 0x110000 := by
    intro w h
    rcases List.mem_append.mp h with z | z
    · rw [(List.mem_replicate.mp z).2]; decide
    · obtain ⟨y, _, rfl⟩ := List.mem_map.mp z
      have := y.valid
      simp only [UInt32.isValidChar, Nat.isValidChar] at this
      show y.val.toNat < _
      omega
  unfold Builtin.Str.reprChar at hx
  simp only at hx
  split at hx
  · simp at hx; omega
  · split at hx
    · simp at hx; omega
    · split at hx
      · simp at hx; omega
      · split at hx
        · simp at hx; omega
        · split at hx
          · simp at hx; omega
          · split at hx
            · rcases List.mem_append.mp hx with z | z
              · simp at z; omega
              · exact hx' 2 z
            · split at hx
              · rcases List.mem_append.mp hx with z | z
                · simp at z; omega
                · exact hx' 4 z
              · rcases List.mem_append.mp hx with z | z
                · simp at z; omega
                · exact hx' 8 z
theorem sOk_repr {x : Str} (h : strOk x = true) : strOk (reprText x) = true := by
  rw [sOk_iff] at h ⊢
  have hq : reprQuote x < 0x110000 := by unfold reprQuote; split <;> decide
  have key : ∀ (l : List Nat) (acc : Array Nat), (∀ c ∈ l, c < 0x110000) → (∀ c ∈ acc.toList, c < 0x110000) → ∀ c ∈ (l.foldl (fun out c => out ++ (Builtin.Str.reprChar (reprQuote x) c).toArray) acc).toList, c < 0x110000 := by
    intro l
    induction l with
    | nil => intro acc _ h; exact h
    | cons c r ih =>
      intro acc h1 h2
      rw [List.foldl_cons]
      refine ih _ (fun z hz => h1 z (List.mem_cons_of_mem _ hz)) fun z hz => ?_
      rw [Array.toList_append] at hz
      rcases List.mem_append.mp hz with z' | z'
      · exact h2 z z'
      · exact sOk_char hq (h1 c List.mem_cons_self) z (by simpa using z')
  intro c hc
  have e : (reprText x).cps.toList = (x.cps.foldl (fun out c => out ++ (Builtin.Str.reprChar (reprQuote x) c).toArray) #[reprQuote x]).toList ++ [reprQuote x] := by
    unfold reprText
    rw [Array.toList_push]
  rw [e, ← Array.foldl_toList] at hc
  rcases List.mem_append.mp hc with z | z
  · exact key _ _ h (by intro c hc; simp at hc; omega) c z
  · simp at z; omega
mutual
theorem sOk_shown : ∀ d : PyData, d.canLay0 = true → strOk d.shown = true
  | .none, _ => by simp only [PyData.shown]; exact sOk_str _
  | .bool b, _ => by simp only [PyData.shown]; cases b <;> exact sOk_str _
  | .int i, _ => by simp only [PyData.shown]; exact sOk_str _
  | .str x, h => by simp only [PyData.shown]; exact sOk_repr (by simpa only [canLay0] using h)
  | .list xs, h => by
    rw [PyData.shown_list]
    exact sOk_app (sOk_app (sOk_str _) (sOk_join (sOk_str _) (sOk_all xs (by simpa only [canLay0] using h)))) (sOk_str _)
  | .tuple xs, h => by
    rw [PyData.shown_tuple]
    exact sOk_app (sOk_app (sOk_str _) (sOk_join (sOk_str _) (sOk_all xs (by simpa only [canLay0] using h)))) (sOk_str _)
  | .dict _, h => by simp [canLay0] at h
theorem sOk_all : ∀ xs : List PyData, canLayAll0 xs = true → ∀ x ∈ PyData.shownAll xs, strOk x = true
  | [], _, x, hx => by simp [PyData.shownAll] at hx
  | d :: xs, h, x, hx => by
    rw [canLayAll0, Bool.and_eq_true] at h
    rw [PyData.shownAll_cons] at hx
    rcases List.mem_cons.mp hx with rfl | hx
    · exact sOk_shown d h.1
    · exact sOk_all xs h.2 x hx
end
/-! small data -/
mutual
def dW : D → Nat
  | .int _ => 41
  | .str x => x.cps.size + 1
  | .lst xs => dWL xs + 1
  | .tup xs => dWL xs + 1
  | _ => 1
def dWL : List D → Nat
  | [] => 0
  | x :: xs => dW x + dWL xs
end
mutual
def dOk : D → Bool
  | .non => true
  | .bl _ => true
  | .int i => decide (i.natAbs < 10 ^ 12)
  | .str x => strOk x
  | .lst xs => dOkL xs
  | .tup xs => dOkL xs
  | _ => false
def dOkL : List D → Bool
  | [] => true
  | x :: xs => dOk x && dOkL xs
end
structure SmD (d : D) : Prop where
  p : toPy d = some (py d)
  i : isPy d = true
  c : (py d).canLay0 = true
  s : (py d).intsShort 13 = true
  w : (py d).weight + 1 ≤ dW d
  o : (py d).showable = true
structure SmL (xs : List D) : Prop where
  p : toPyL xs = some (pyL xs)
  i : isPyL xs = true
  c : canLayAll0 (pyL xs) = true
  s : PyData.intsShortAll 13 (pyL xs) = true
  w : PyData.weightAll (pyL xs) ≤ dWL xs
  o : PyData.showableAll (pyL xs) = true
mutual
theorem smD : ∀ d : D, dOk d = true → SmD d
  | .non, _ => ⟨rfl, rfl, rfl, rfl, by decide, rfl⟩
  | .bl _, _ => ⟨rfl, rfl, rfl, rfl, by simp [dW, py, PyData.weight], rfl⟩
  | .int i, h => by
    rw [dOk, decide_eq_true_eq] at h
    have lg : i.natAbs.log2 < 40 ∨ i.natAbs = 0 := by
      by_cases z : i.natAbs = 0
      · exact .inr z
      · exact .inl ((Nat.log2_lt z).mpr (by omega))
    refine ⟨rfl, rfl, by simp [py, canLay0], by rw [py]; simp only [PyData.intsShort, decide_eq_true_eq]; exact PyData.shown_int_le h, ?_, ?_⟩
    · rw [py, PyData.weight, dW]
      split
      · omega
      · rename_i z
        simp only [beq_iff_eq] at z
        omega
    · rw [py, PyData.showable, decide_eq_true_eq]
      rcases lg with z | z
      · omega
      · rw [z]; decide
  | .str x, h => ⟨rfl, rfl, by simpa [py, canLay0, dOk] using h, rfl, by simp [py, PyData.weight, dW], rfl⟩
  | .lst xs, h => by
    have q := smL xs (by simpa [dOk] using h)
    exact ⟨by rw [toPy, q.p]; rfl, by rw [isPy]; exact q.i, by rw [py, canLay0]; exact q.c, by rw [py, PyData.intsShort]; exact q.s, by rw [py, PyData.weight, dW]; have := q.w; omega, by rw [py, PyData.showable]; exact q.o⟩
  | .tup xs, h => by
    have q := smL xs (by simpa [dOk] using h)
    exact ⟨by rw [toPy, q.p]; rfl, by rw [isPy]; exact q.i, by rw [py, canLay0]; exact q.c, by rw [py, PyData.intsShort]; exact q.s, by rw [py, PyData.weight, dW]; have := q.w; omega, by rw [py, PyData.showable]; exact q.o⟩
  | .ty _, h => by simp [dOk] at h
  | .obj _, h => by simp [dOk] at h
  | .dK _ _, h => by simp [dOk] at h
  | .dT _ _, h => by simp [dOk] at h
  | .ins _ _ _, h => by simp [dOk] at h
theorem smL : ∀ xs : List D, dOkL xs = true → SmL xs
  | [], _ => ⟨rfl, rfl, rfl, rfl, by simp [pyL, PyData.weightAll], rfl⟩
  | x :: xs, h => by
    rw [dOkL, Bool.and_eq_true] at h
    have a := smD x h.1
    have b := smL xs h.2
    exact ⟨by rw [toPyL, a.p, b.p]; rfl, by rw [isPyL, a.i, b.i]; rfl, by rw [pyL, canLayAll0, a.c, b.c]; rfl, by rw [pyL, PyData.intsShortAll, a.s, b.s]; rfl, by rw [pyL, PyData.weightAll, dWL]; have := a.w; have := b.w; omega, by rw [pyL, PyData.showableAll, a.o, b.o]; rfl⟩
end
/-- the value has a text -/
def Rp (d : D) : Prop := ∃ s, strOk s = true ∧ ∀ P : D → Prop, P (.str s) → rpK (toPy d) P
/-! equality -/
mutual
theorem eqv_refl : ∀ d : PyData, d.canLay0 = true → PyData.eqv d d = true
  | .none, _ => by simp only [PyData.eqv]
  | .bool _, _ => by simp [PyData.eqv]
  | .int _, _ => by simp [PyData.eqv]
  | .str _, _ => by simp [PyData.eqv]
  | .list xs, h => by simp only [PyData.eqv]; exact eqv_reflL xs (by simpa [canLay0] using h)
  | .tuple xs, h => by simp only [PyData.eqv]; exact eqv_reflL xs (by simpa [canLay0] using h)
  | .dict _, h => by simp [canLay0] at h
theorem eqv_reflL : ∀ xs : List PyData, canLayAll0 xs = true → PyData.eqvAll xs xs = true
  | [], _ => by simp only [PyData.eqvAll]
  | x :: xs, h => by
    rw [canLayAll0, Bool.and_eq_true] at h
    rw [PyData.eqvAll, eqv_refl x h.1, eqv_reflL xs h.2]; rfl
end
theorem eqD_refl {d : D} (h : okD d = true) : eqD d d = true := by
  unfold okD SeqAt.shaped at h
  simp only [Bool.and_eq_true] at h
  exact eqv_refl _ h.2.1
end DL

set_option Elab.async false
set_option linter.all false
set_option maxRecDepth 100000
set_option maxHeartbeats 1000000
/-! ELx: more rules: membership, pop, while, counting draws -/
namespace DL
open PySem PySem.Spec PyProof.Rows L2
def upto (n : Nat) : List Int := (List.range n).map fun i : Nat => (i : Int)
theorem upto_len (n : Nat) : (upto n).length = n := by rw [upto, List.length_map, List.length_range]
theorem upto_mem {n : Nat} {i : Int} : i ∈ upto n ↔ 0 ≤ i ∧ i < n := by
  unfold upto
  rw [List.mem_map]
  constructor
  · rintro ⟨x, hx, rfl⟩
    have := List.mem_range.mp hx
    omega
  · rintro ⟨h0, h1⟩
    exact ⟨i.toNat, List.mem_range.mpr (by omega), by omega⟩
theorem upto_nodup (n : Nat) : (upto n).Nodup := List.Pairwise.map _ (fun a b h => by omega) List.nodup_range
@[simp] theorem s_rg01 {n : Nat} : rngD 0 n 1 = (upto n).map .int := by
  unfold rngD upto
  rw [List.map_map]
  refine List.map_congr_left fun i _ => ?_
  show D.int ((0 : Int) + (i : Int) * 1) = D.int (i : Int)
  rw [Int.zero_add, Int.mul_one]
theorem all_flat_ints (xs : List Int) : (xs.map D.int).all flatD = true := by
  induction xs with
  | nil => rfl
  | cons x r ih => rw [List.map_cons, List.all_cons, ih]; rfl
@[simp] theorem s_inI {i : Int} {xs : List Int} : inOk (.int i) (.lst (xs.map .int)) = some (xs.map .int) := by
  rw [s_inl, all_flat_ints]; rfl
@[simp] theorem s_inT {i : Int} {xs : List Int} : inOk (.int i) (.tup (xs.map .int)) = some (xs.map .int) := by
  rw [s_int, all_flat_ints]; rfl
theorem s_memI' {i : Int} {xs : List Int} : ((xs.map D.int).any fun y => eqD y (.int i)) = decide (i ∈ xs) := by
  induction xs with
  | nil => rfl
  | cons x r ih =>
    rw [List.map_cons, List.any_cons, ih, eqD_int]
    by_cases h : x = i <;> by_cases h' : i ∈ r <;> simp [h, h', Ne.symm, eq_comm]
@[simp] theorem s_memI {i : Int} {xs : List Int} : memD (.int i) (xs.map .int) = decide (i ∈ xs) := s_memI'
@[simp] theorem s_PopAt {i : Nat} {a : WE} {ρ : En} {k : Kt} {Q : R → En → Kt → Prop} : wPopAt i a ρ k Q = ((∃ ds, ρ[i]? = some (.own (.l ds))) ∧ a ρ k fun r ρ1 k1 => ∃ (j : Int) (n : Nat) (y : D) (ds : List D), deref ρ1 r = some (.int j) ∧ ρ1[i]? = some (.own (.l ds)) ∧ -(2 ^ 63) ≤ j ∧ j < 2 ^ 63 ∧ seqIndex? j ds.length = some n ∧ ds[n]? = some y ∧ Q (.val y) (ρ1.set i (.own (.l (ds.eraseIdx n)))) k1) := rfl
@[simp] theorem s_LRng1 {a : WE} {ρ : En} {k : Kt} {Q : List D → En → Kt → Prop} : wLRng1 a ρ k Q = a ρ k fun r ρ1 k1 => ∃ n : Int, deref ρ1 r = some (.int n) ∧ RgOk 0 n ∧ Q (rngD 0 (n - 0).toNat 1) ρ1 k1 := rfl
@[simp] theorem s_at0 {α : Type} {x : α} {xs : List α} : atI (x :: xs) 0 = some x := atI_z (n := 0) rfl rfl
@[simp] theorem s_at1 {α : Type} {x y : α} {xs : List α} : atI (x :: y :: xs) 1 = some y := atI_z (n := 1) rfl rfl
@[simp] theorem s_lkM {a b : D} : List.lookup (Str.ofString "many") ([Str.ofString "many", Str.ofString "arrows"].zip [a, b]) = some a := rfl
@[simp] theorem s_lkA {a b : D} : List.lookup (Str.ofString "arrows") ([Str.ofString "many", Str.ofString "arrows"].zip [a, b]) = some b := rfl
@[simp] theorem s_lkV {a : D} : List.lookup (Str.ofString "value") ([Str.ofString "value"].zip [a]) = some a := rfl
@[simp] theorem s_eqbl {a b : Bool} : eqD (.bl a) (.bl b) = (a == b) := by simp [eqD, py, PyData.eqv]
@[simp] theorem s_mxz {i : Int} {n : Nat} {P : D → Prop} : fMulX (.tup [.int i]) (.int n) P = (1 ≤ n ∧ n ≤ 1000 ∧ P (.tup ((List.replicate n i).map .int))) := by
  rw [s_mxt]
  have e : (List.replicate n [D.int i]).flatten = (List.replicate n i).map .int := by
    induction n with
    | zero => rfl
    | succ n ih => rw [List.replicate_succ, List.flatten_cons, ih, List.replicate_succ, List.map_cons]; rfl
  refine propext ⟨fun h => ?_, fun h => ?_⟩
  · split at h
    · have : n = 1 := by omega
      subst this
      exact ⟨by omega, by omega, h⟩
    · rw [Int.toNat_natCast, e] at h
      exact ⟨by omega, by omega, h.2⟩
  · split
    · have : n = 1 := by omega
      subst this
      exact h.2.2
    · rw [Int.toNat_natCast, e]
      exact ⟨⟨by simp, by omega, by omega, by simp⟩, h.2.2⟩
@[simp] theorem s_lkW1 {a b : D} : List.lookup (Str.ofString "value") ([Str.ofString "value", Str.ofString "what"].zip [a, b]) = some a := rfl
@[simp] theorem s_lkW2 {a b : D} : List.lookup (Str.ofString "what") ([Str.ofString "value", Str.ofString "what"].zip [a, b]) = some b := rfl
/-- draws were made, nothing else -/
def Dr (m : Nat) (k k' : Kt) : Prop := k'.2 = k.2 ∧ k'.1 ≤ k.1 + m
theorem Dr.refl {m : Nat} {k : Kt} : Dr m k k := ⟨rfl, Nat.le_add_right _ _⟩
theorem Dr.trans {m n l : Nat} {k k1 k2 : Kt} (a : Dr m k k1) (b : Dr n k1 k2) (h : m + n ≤ l) : Dr l k k2 := ⟨b.1.trans a.1, by have := a.2; have := b.2; omega⟩
theorem Dr.le {m l : Nat} {k k1 : Kt} (a : Dr m k k1) (h : m ≤ l) : Dr l k k1 := ⟨a.1, by have := a.2; omega⟩
theorem Dr.pen {m : Nat} {k k1 : Kt} {a : Option Addr} (d : Dr m k k1) (h : k.2.pen = a) : k1.2.pen = a := by rw [d.1]; exact h
theorem Dr.rsk {m : Nat} {k k1 : Kt} (d : Dr m (nxk k) k1) : Dr m k (DL.rsk k k1) := ⟨by
  have := d.1
  show KP.mk _ _ _ = k.2
  rw [this]
  rfl, d.2⟩
theorem t_dr {a : Addr} {n : Int} {k : Kt} {P : D → Kt → Prop} (hk : k.2.pen = some a) (h0 : 0 < n) (h1 : n < 1073741824) (hc : k.1 < 1000000000000) (h : ∀ (x : Int) (k' : Kt), 0 ≤ x → x < n → Dr 1 k k' → P (.int x) k') : wfDraw [.obj a, .int n] k P :=
  t_draw hk h0 h1 hc fun x a b => h x _ a b ⟨rfl, Nat.le_refl _⟩
theorem wfI_eq {C : Addr} {N : Nat} {w : WS} {ds : List D} {k : Kt} {P : D → Kt → Prop} : wfI C N w ds k P = w { nx := fun ρ k' => ∃ ns es, ρ[0]? = some (.own (.i C ns es)) ∧ P (.ins C ns es) k', rt := fun _ _ => False } (.own (.i C [] []) :: (ds.map .val ++ List.replicate (N - 1 - ds.length) .un)) k := rfl
def noS : Slot → Bool
  | .own (.i _ _ _) => false
  | _ => true
@[simp] theorem s_noc {s : Slot} {r : En} : noI (s :: r) = (noS s && noI r) := by
  unfold noI
  rw [List.all_cons]
  cases s with
  | un => rfl
  | val d => rfl
  | own o => cases o <;> rfl
@[simp] theorem s_noS1 {d : D} : noS (.val d) = true := rfl
@[simp] theorem s_noS2 {ds : List D} : noS (.own (.l ds)) = true := rfl
@[simp] theorem s_noS3 : noS .un = true := rfl
def fzS : Slot → Slot
  | .own o => .val o.toD
  | s => s
@[simp] theorem s_fzc {s : Slot} {r : En} : fzn (s :: r) = fzS s :: fzn r := by cases s <;> rfl
@[simp] theorem s_fzS1 {d : D} : fzS (.val d) = .val d := rfl
@[simp] theorem s_fzS2 {o : OD} : fzS (.own o) = .val o.toD := rfl
@[simp] theorem s_fzS3 : fzS .un = .un := rfl
/-! kinds -/
def intD : D → Bool
  | .int _ => true
  | _ => false
def rowD : D → Bool
  | .lst _ => true
  | .tup _ => true
  | _ => false
@[simp] theorem s_k1 : kitB "NoneType" "int" = some false := by decide +kernel
@[simp] theorem s_k2 : kitB "bool" "int" = some true := by decide +kernel
@[simp] theorem s_k3 : kitB "str" "int" = some false := by decide +kernel
@[simp] theorem s_k4 : kitB "list" "int" = some false := by decide +kernel
@[simp] theorem s_k5 : kitB "tuple" "int" = some false := by decide +kernel
@[simp] theorem s_k6 : kitB "NoneType" "bool" = some false := by decide +kernel
@[simp] theorem s_k7 : kitB "bool" "bool" = some true := by decide +kernel
@[simp] theorem s_k8 : kitB "NoneType" "tuple" = some false := by decide +kernel
@[simp] theorem s_k9 : kitB "bool" "tuple" = some false := by decide +kernel
@[simp] theorem s_k10 : kitB "int" "tuple" = some false := by decide +kernel
@[simp] theorem s_k11 : kitB "str" "tuple" = some false := by decide +kernel
@[simp] theorem s_k12 : kitB "list" "tuple" = some false := by decide +kernel
@[simp] theorem s_k13 : kitB "tuple" "tuple" = some true := by decide +kernel
@[simp] theorem s_k14 : kitAnyB "NoneType" ["list", "tuple"] = some false := by decide +kernel
@[simp] theorem s_k15 : kitAnyB "bool" ["list", "tuple"] = some false := by decide +kernel
@[simp] theorem s_k16 : kitAnyB "int" ["list", "tuple"] = some false := by decide +kernel
@[simp] theorem s_k17 : kitAnyB "str" ["list", "tuple"] = some false := by decide +kernel
@[simp] theorem s_isC1 {C : Addr} {ns : List Str} {ds : List D} : isC C (.ins C ns ds) = some true := by simp [isC]
end DL

set_option Elab.async false
set_option linter.all false
set_option maxRecDepth 100000
set_option maxHeartbeats 1000000
/-! ELy: what hangs together: two ways to gather it -/
namespace DL
open PySem PySem.Spec PyProof.Rows L2
def Adj (ar : List (Int × Int)) (x y : Int) : Prop := (x, y) ∈ ar ∨ (y, x) ∈ ar
inductive Reach (ar : List (Int × Int)) (pts : List Int) (s : Int) : Int → Prop
  | start : Reach ar pts s s
  | step {x y : Int} : Reach ar pts s x → Adj ar x y → y ∈ pts → Reach ar pts s y
structure Comp (ar : List (Int × Int)) (pts : List Int) (s : Int) (lot : List Int) : Prop where
  nd : lot.Nodup
  st : s ∈ lot
  rc : ∀ x ∈ lot, Reach ar pts s x
  cl : ∀ x ∈ lot, ∀ y ∈ pts, Adj ar x y → y ∈ lot
theorem Comp.all {ar : List (Int × Int)} {pts : List Int} {s : Int} {lot : List Int} (h : Comp ar pts s lot) {x : Int} (r : Reach ar pts s x) : x ∈ lot := by
  induction r with
  | start => exact h.st
  | step _ a b ih => exact h.cl _ ih _ b a
theorem Comp.mem {ar : List (Int × Int)} {pts : List Int} {s : Int} {lot : List Int} (h : Comp ar pts s lot) {x : Int} : x ∈ lot ↔ Reach ar pts s x := ⟨h.rc x, h.all⟩
theorem sort_same {xs ys : List Int} (a : xs.Nodup) (b : ys.Nodup) (h : ∀ x, x ∈ xs ↔ x ∈ ys) : sortUp xs = sortUp ys := by
  refine sortUp_unique ?_ (sortUp_sorted xs)
  exact (sortUp_perm xs).trans ((List.perm_ext_iff_of_nodup a b).mpr h)
theorem Comp.same {ar ar' : List (Int × Int)} {pts : List Int} {s : Int} {lot lot' : List Int} (h : Comp ar pts s lot) (h' : Comp ar' pts s lot') (e : ∀ p, p ∈ ar ↔ p ∈ ar') : sortUp lot = sortUp lot' := by
  have r1 : ∀ {ar ar' : List (Int × Int)} {x : Int}, (∀ p, p ∈ ar ↔ p ∈ ar') → Reach ar pts s x → Reach ar' pts s x := by
    intro ar ar' x e r
    induction r with
    | start => exact .start
    | step _ a b ih => exact .step ih (a.imp (e _).mp (e _).mp) b
  refine sort_same h.nd h'.nd fun x => ?_
  rw [h.mem, h'.mem]
  exact ⟨r1 e, r1 fun p => (e p).symm⟩
/-! along one point's arrows -/
def jwStep (pts : List Int) (x : Int) (lot : List Int) (p : Int × Int) : List Int := if p.1 = x ∧ p.2 ∈ pts ∧ p.2 ∉ lot then lot ++ [p.2] else lot
theorem jw_facts {ar : List (Int × Int)} {pts : List Int} {s x : Int} (hx : Reach ar pts s x) : ∀ (es : List (Int × Int)) (lot : List Int), (∀ p ∈ es, Adj ar p.1 p.2) → lot.Nodup → (∀ y ∈ lot, Reach ar pts s y) → (∀ y ∈ lot, y = s ∨ y ∈ pts) →
    (es.foldl (jwStep pts x) lot).Nodup ∧ (∀ y ∈ es.foldl (jwStep pts x) lot, Reach ar pts s y) ∧ (∀ y ∈ es.foldl (jwStep pts x) lot, y = s ∨ y ∈ pts) ∧ (∃ t, es.foldl (jwStep pts x) lot = lot ++ t) ∧ ∀ p ∈ es, p.1 = x → p.2 ∈ pts → p.2 ∈ es.foldl (jwStep pts x) lot
  | [], lot, _, h1, h2, h3 => ⟨h1, h2, h3, ⟨[], by simp⟩, fun _ h => by cases h⟩
  | p :: r, lot, ha, h1, h2, h3 => by
    have hs : (jwStep pts x lot p).Nodup ∧ (∀ y ∈ jwStep pts x lot p, Reach ar pts s y) ∧ (∀ y ∈ jwStep pts x lot p, y = s ∨ y ∈ pts) ∧ (∃ t, jwStep pts x lot p = lot ++ t) ∧ (p.1 = x → p.2 ∈ pts → p.2 ∈ jwStep pts x lot p) := by
      unfold jwStep
      split
      · rename_i c
        refine ⟨List.nodup_append.mpr ⟨h1, by simp, fun a ha b hb e => by rw [List.mem_singleton.mp hb] at e; rw [e] at ha; exact c.2.2 ha⟩, fun y hy => ?_, fun y hy => ?_, ⟨_, rfl⟩, fun _ _ => by simp⟩
        · rcases List.mem_append.mp hy with z | z
          · exact h2 y z
          · rw [List.mem_singleton.mp z]
            have := ha p List.mem_cons_self
            rw [c.1] at this
            exact .step hx this c.2.1
        · rcases List.mem_append.mp hy with z | z
          · exact h3 y z
          · rw [List.mem_singleton.mp z]; exact .inr c.2.1
      · rename_i c
        exact ⟨h1, h2, h3, ⟨[], by simp⟩, fun e1 e2 => Classical.byContradiction fun z => c ⟨e1, e2, z⟩⟩
    obtain ⟨a1, a2, a3, ⟨t, et⟩, a5⟩ := hs
    obtain ⟨b1, b2, b3, ⟨t', et'⟩, b5⟩ := jw_facts hx r (jwStep pts x lot p) (fun q hq => ha q (List.mem_cons_of_mem _ hq)) a1 a2 a3
    rw [List.foldl_cons]
    refine ⟨b1, b2, b3, ⟨t ++ t', by rw [et', et, List.append_assoc]⟩, fun q hq e1 e2 => ?_⟩
    rcases List.mem_cons.mp hq with rfl | hq
    · rw [et']; exact List.mem_append_left _ (a5 e1 e2)
    · exact b5 q hq e1 e2
structure Good (ar : List (Int × Int)) (pts : List Int) (s : Int) (lot : List Int) (at' : Nat) : Prop where
  nd : lot.Nodup
  st : s ∈ lot
  rc : ∀ x ∈ lot, Reach ar pts s x
  sb : ∀ x ∈ lot, x = s ∨ x ∈ pts
  cl : ∀ i x, i < at' → lot[i]? = some x → ∀ y ∈ pts, Adj ar x y → y ∈ lot
theorem Good.len {ar : List (Int × Int)} {pts : List Int} {s : Int} {lot : List Int} {n : Nat} (h : Good ar pts s lot n) : lot.length ≤ pts.length + 1 :=
  h.nd.length_le_of_subset (l₂ := s :: pts) fun x hx => by
    rcases h.sb x hx with rfl | z
    · exact List.mem_cons_self
    · exact List.mem_cons_of_mem _ z
theorem Good.zero {ar : List (Int × Int)} {pts : List Int} {s : Int} : Good ar pts s [s] 0 := ⟨by simp, by simp, fun x hx => by rw [List.mem_singleton.mp hx]; exact .start, fun x hx => .inl (List.mem_singleton.mp hx), fun i x h => by omega⟩
theorem Good.fin {ar : List (Int × Int)} {pts : List Int} {s : Int} {lot : List Int} {n : Nat} (h : Good ar pts s lot n) (hl : lot.length ≤ n) : Comp ar pts s lot := ⟨h.nd, h.st, h.rc, fun x hx => by
  obtain ⟨i, hi, e⟩ := List.getElem_of_mem hx
  exact h.cl i x (by omega) (by rw [List.getElem?_eq_getElem hi, e])⟩
theorem Good.next {ar : List (Int × Int)} {pts : List Int} {s : Int} {lot : List Int} {n : Nat} {x : Int} (h : Good ar pts s lot n) (hx : lot[n]? = some x) : Good ar pts s ((ar ++ ar.map fun p => (p.2, p.1)).foldl (jwStep pts x) lot) (n + 1) := by
  have hm : x ∈ lot := List.mem_of_getElem? hx
  have adj : ∀ p, p ∈ (ar ++ ar.map fun p => (p.2, p.1)) ↔ Adj ar p.1 p.2 := fun p => by
    unfold Adj
    rw [List.mem_append, List.mem_map]
    constructor
    · rintro (z | ⟨q, hq, rfl⟩)
      · exact .inl z
      · exact .inr hq
    · rintro (z | z)
      · exact .inl z
      · exact .inr ⟨_, z, rfl⟩
  obtain ⟨a1, a2, a3, ⟨t, et⟩, a5⟩ := jw_facts (h.rc x hm) _ lot (fun p hp => (adj p).mp hp) h.nd h.rc h.sb
  refine ⟨a1, by rw [et]; exact List.mem_append_left _ h.st, a2, a3, fun i y hi e z hz ad => ?_⟩
  by_cases hi' : i < n
  · have hl : i < lot.length := by
      have := (List.getElem?_eq_some_iff.mp hx).1
      omega
    have e' : lot[i]? = some y := by
      rw [et, List.getElem?_append_left hl] at e
      exact e
    rw [et]
    exact List.mem_append_left _ (h.cl i y hi' e' z hz ad)
  · have : i = n := by omega
    subst this
    have hl : i < lot.length := (List.getElem?_eq_some_iff.mp hx).1
    rw [et, List.getElem?_append_left hl, hx] at e
    cases e
    exact a5 (x, z) ((adj (x, z)).mpr ad) rfl hz
/-! lap by lap -/
def lotH (pts : List Int) (a b : Int) (lot : List Int) : List Int := if a ∈ lot ∧ b ∈ pts ∧ b ∉ lot then lot ++ [b] else lot
def lotStep (pts : List Int) (lot : List Int) (p : Int × Int) : List Int := lotH pts p.2 p.1 (lotH pts p.1 p.2 lot)
def lotN (ar : List (Int × Int)) (pts : List Int) (s : Int) : Nat → List Int
  | 0 => [s]
  | m + 1 => ar.foldl (lotStep pts) (lotN ar pts s m)
structure Lot (ar : List (Int × Int)) (pts : List Int) (s : Int) (lot : List Int) : Prop where
  nd : lot.Nodup
  st : s ∈ lot
  rc : ∀ x ∈ lot, Reach ar pts s x
  sb : ∀ x ∈ lot, x = s ∨ x ∈ pts
theorem Lot.h {ar : List (Int × Int)} {pts : List Int} {s : Int} {lot : List Int} (h : Lot ar pts s lot) {a b : Int} (ad : Adj ar a b) : Lot ar pts s (lotH pts a b lot) ∧ lot.length ≤ (lotH pts a b lot).length ∧ ((lotH pts a b lot).length = lot.length → lotH pts a b lot = lot ∧ (a ∈ lot → b ∈ pts → b ∈ lot)) := by
  unfold lotH
  split
  · rename_i c
    refine ⟨⟨List.nodup_append.mpr ⟨h.nd, by simp, fun x hx y hy e => by rw [List.mem_singleton.mp hy] at e; rw [e] at hx; exact c.2.2 hx⟩, List.mem_append_left _ h.st, fun y hy => ?_, fun y hy => ?_⟩, by simp, fun e => by simp at e⟩
    · rcases List.mem_append.mp hy with z | z
      · exact h.rc y z
      · rw [List.mem_singleton.mp z]; exact .step (h.rc a c.1) ad c.2.1
    · rcases List.mem_append.mp hy with z | z
      · exact h.sb y z
      · rw [List.mem_singleton.mp z]; exact .inr c.2.1
  · rename_i c
    exact ⟨h, Nat.le_refl _, fun _ => ⟨rfl, fun e1 e2 => Classical.byContradiction fun z => c ⟨e1, e2, z⟩⟩⟩
theorem Lot.step {ar : List (Int × Int)} {pts : List Int} {s : Int} {lot : List Int} (h : Lot ar pts s lot) {p : Int × Int} (hp : p ∈ ar) : Lot ar pts s (lotStep pts lot p) ∧ lot.length ≤ (lotStep pts lot p).length ∧ ((lotStep pts lot p).length = lot.length → lotStep pts lot p = lot ∧ (p.1 ∈ lot → p.2 ∈ pts → p.2 ∈ lot) ∧ (p.2 ∈ lot → p.1 ∈ pts → p.1 ∈ lot)) := by
  obtain ⟨a1, a2, a3⟩ := h.h (a := p.1) (b := p.2) (.inl hp)
  obtain ⟨b1, b2, b3⟩ := a1.h (a := p.2) (b := p.1) (.inr hp)
  unfold lotStep
  refine ⟨b1, by omega, fun e => ?_⟩
  obtain ⟨e1, q1⟩ := a3 (by omega)
  rw [e1] at b3 e ⊢
  obtain ⟨e2, q2⟩ := b3 e
  exact ⟨e2, q1, q2⟩
theorem Lot.fold {ar : List (Int × Int)} {pts : List Int} {s : Int} : ∀ (es : List (Int × Int)) (lot : List Int), (∀ p ∈ es, p ∈ ar) → Lot ar pts s lot → Lot ar pts s (es.foldl (lotStep pts) lot) ∧ lot.length ≤ (es.foldl (lotStep pts) lot).length ∧ ((es.foldl (lotStep pts) lot).length = lot.length → es.foldl (lotStep pts) lot = lot ∧ ∀ p ∈ es, (p.1 ∈ lot → p.2 ∈ pts → p.2 ∈ lot) ∧ (p.2 ∈ lot → p.1 ∈ pts → p.1 ∈ lot))
  | [], lot, _, h => ⟨h, Nat.le_refl _, fun _ => ⟨rfl, fun _ h => by cases h⟩⟩
  | p :: r, lot, hs, h => by
    obtain ⟨a1, a2, a3⟩ := h.step (hs p List.mem_cons_self)
    obtain ⟨b1, b2, b3⟩ := Lot.fold r (lotStep pts lot p) (fun q hq => hs q (List.mem_cons_of_mem _ hq)) a1
    rw [List.foldl_cons]
    refine ⟨b1, by omega, fun e => ?_⟩
    obtain ⟨e1, q1⟩ := a3 (by omega)
    rw [e1] at b3 e ⊢
    obtain ⟨e2, q2⟩ := b3 e
    refine ⟨e2, fun q hq => ?_⟩
    rcases List.mem_cons.mp hq with rfl | hq
    · exact q1
    · exact q2 q hq
theorem Lot.len {ar : List (Int × Int)} {pts : List Int} {s : Int} {lot : List Int} (h : Lot ar pts s lot) : lot.length ≤ pts.length + 1 :=
  h.nd.length_le_of_subset (l₂ := s :: pts) fun x hx => by
    rcases h.sb x hx with rfl | z
    · exact List.mem_cons_self
    · exact List.mem_cons_of_mem _ z
/-- the sorted lot -/
noncomputable def compS (ar : List (Int × Int)) (pts : List Int) (s : Int) : List Int := open Classical in if h : ∃ lot, Comp ar pts s lot then sortUp h.choose else []
theorem Comp.eq {ar ar' : List (Int × Int)} {pts : List Int} {s : Int} {lot : List Int} (h : Comp ar' pts s lot) (e : ∀ p, p ∈ ar ↔ p ∈ ar') : sortUp lot = compS ar pts s := by
  have hx : Comp ar pts s lot := by
    have ea : ∀ x y, Adj ar' x y ↔ Adj ar x y := fun x y => by unfold Adj; rw [e, e]
    refine ⟨h.nd, h.st, fun x hx => ?_, fun x hx y hy ad => h.cl x hx y hy ((ea x y).mpr ad)⟩
    have r := h.rc x hx
    induction r with
    | start => exact .start
    | step r a b ih => exact .step (ih (h.mem.mpr r)) ((ea _ _).mp a) b
  have hh : ∃ lot, Comp ar pts s lot := ⟨lot, hx⟩
  unfold compS
  rw [dif_pos hh]
  exact hx.same hh.choose_spec fun _ => .rfl
/-! numbered items -/
def enI : Nat → List Int → List (Int × Int)
  | _, [] => []
  | i, x :: r => ((i : Int), x) :: enI (i + 1) r
@[simp] theorem s_enI : ∀ {xs : List Int} {i : Nat}, enumD i (xs.map .int) = (enI i xs).map pD
  | [], _ => rfl
  | x :: r, i => by rw [List.map_cons, s_en1, enI, List.map_cons, s_enI (xs := r)]
def heldL (xs : List Int) : List Int := (enI 0 xs).filterMap fun p => if p.2 ≠ 0 then some p.1 else none
end DL

set_option Elab.async false
set_option linter.all false
set_option maxRecDepth 100000
set_option maxHeartbeats 1000000
/-! ELz: forms of rows over arrows; mirrors -/
namespace DL
open PySem PySem.Spec PyProof.Rows L2
/-- the item at a place -/
def gI (a : List Int) (i : Int) : Int := a.getD i.toNat 0
def dotL (a b : List Int) : Int := ((a.zip b).map fun p => p.1 * p.2).sum
def arS (ar : List (Int × Int)) (a b : List Int) : Int := (ar.map fun p => gI a p.1 * gI b p.2).sum
def fE (ar : List (Int × Int)) (a b : List Int) : Int := dotL a b - arS ar a b
def outS (ar : List (Int × Int)) (i : Int) (a : List Int) : Int := (ar.map fun p => if p.1 = i then gI a p.2 else 0).sum
def inS (ar : List (Int × Int)) (i : Int) (a : List Int) : Int := (ar.map fun p => if p.2 = i then gI a p.1 else 0).sum
def mItem (ar : List (Int × Int)) (i : Int) (a : List Int) : Int := -gI a i + outS ar i a + inS ar i a
def mir (ar : List (Int × Int)) (a : List Int) (i : Int) : List Int := a.set i.toNat (mItem ar i a)
theorem mir_len {ar : List (Int × Int)} {a : List Int} {i : Int} : (mir ar a i).length = a.length := by rw [mir, List.length_set]
theorem gI_set {a : List Int} {i j x : Int} (hi : 0 ≤ i ∧ i < a.length) (hj : 0 ≤ j) : gI (a.set i.toNat x) j = if j = i then x else gI a j := by
  unfold gI
  rw [List.getD_eq_getElem?_getD, List.getD_eq_getElem?_getD, List.getElem?_set]
  by_cases h : j = i
  · subst h
    rw [if_pos rfl, if_pos rfl, if_pos (by omega)]; rfl
  · rw [if_neg (by omega), if_neg h]
theorem outS_set {a : List Int} {i x : Int} (hi : 0 ≤ i ∧ i < a.length) : ∀ ar : List (Int × Int), (∀ p ∈ ar, 0 ≤ p.1 ∧ 0 ≤ p.2 ∧ p.1 ≠ p.2) → outS ar i (a.set i.toNat x) = outS ar i a ∧ inS ar i (a.set i.toNat x) = inS ar i a
  | [], _ => ⟨rfl, rfl⟩
  | p :: r, h => by
    obtain ⟨e1, e2⟩ := outS_set (x := x) hi r fun q hq => h q (List.mem_cons_of_mem _ hq)
    have hp := h p List.mem_cons_self
    simp only [outS, inS, List.map_cons, List.sum_cons] at e1 e2 ⊢
    rw [gI_set hi hp.1, gI_set hi hp.2.1, e1, e2]
    constructor
    · by_cases h1 : p.1 = i
      · rw [if_pos h1, if_pos h1, if_neg fun z => hp.2.2 (h1.trans z.symm)]
      · rw [if_neg h1, if_neg h1]
    · by_cases h1 : p.2 = i
      · rw [if_pos h1, if_pos h1, if_neg fun z => hp.2.2 (z.trans h1.symm)]
      · rw [if_neg h1, if_neg h1]
/-! units -/
def unL (n : Nat) (i : Int) : List Int := (upto n).map fun j => if j = i then 1 else 0
/-! turned at a giver or taker -/
def flipA (i : Int) (ar : List (Int × Int)) : List (Int × Int) := ar.map fun p => if i = p.1 ∨ i = p.2 then (p.2, p.1) else p
/-! how large -/
end DL

set_option Elab.async false
set_option linter.all false
set_option maxRecDepth 100000
set_option maxHeartbeats 1000000
/-! ELzb: rounds of mirrors in a hall's order; ways -/
namespace DL
open PySem PySem.Spec PyProof.Rows L2
/-- an order of the points that the arrows keep -/
structure Ord (n : Nat) (ar : List (Int × Int)) (F : List Int) : Prop where
  nd : F.Nodup
  mem : ∀ x, x ∈ F ↔ 0 ≤ x ∧ x < n
  cl : ∀ pre post, F = pre ++ post → ∀ q ∈ ar, q.2 ∈ pre → q.1 ∈ pre
def swapA (ar : List (Int × Int)) : List (Int × Int) := ar.map fun p => (p.2, p.1)
def InA (n : Nat) (ar : List (Int × Int)) : Prop := ∀ p ∈ ar, (0 ≤ p.1 ∧ p.1 < n) ∧ (0 ≤ p.2 ∧ p.2 < n) ∧ p.1 ≠ p.2
theorem InA.low {n : Nat} {ar : List (Int × Int)} (h : InA n ar) : ∀ p ∈ ar, 0 ≤ p.1 ∧ 0 ≤ p.2 ∧ p.1 ≠ p.2 := fun p hp => ⟨(h p hp).1.1, (h p hp).2.1.1, (h p hp).2.2⟩
theorem InA.swap {n : Nat} {ar : List (Int × Int)} (h : InA n ar) : InA n (swapA ar) := fun p hp => by
  obtain ⟨q, hq, rfl⟩ := List.mem_map.mp hp
  have := h q hq
  exact ⟨this.2.1, this.1, Ne.symm this.2.2⟩
theorem Ord.swap {n : Nat} {ar : List (Int × Int)} {F : List Int} (h : Ord n ar F) (hi : InA n ar) : Ord n (swapA ar) F.reverse := by
  refine ⟨(List.reverse_perm F).nodup_iff.mpr h.nd, fun x => by rw [List.mem_reverse]; exact h.mem x, fun pre post e q hq hm => ?_⟩
  obtain ⟨p, hp, rfl⟩ := List.mem_map.mp hq
  have e2 : F = post.reverse ++ pre.reverse := by rw [← List.reverse_append, ← e, List.reverse_reverse]
  refine Classical.byContradiction fun z => ?_
  have hin : p.2 ∈ F := (h.mem _).mpr (hi p hp).2.1
  rw [e2] at hin
  rcases List.mem_append.mp hin with w | w
  · have w2 := h.cl _ _ e2 p hp w
    have nd := h.nd
    rw [e2] at nd
    exact (List.nodup_append.mp nd).2.2 _ w2 _ (List.mem_reverse.mpr hm) rfl
  · exact z (List.mem_reverse.mp w)
theorem Ord.len {n : Nat} {ar : List (Int × Int)} {F : List Int} (h : Ord n ar F) : F.length = n := by
  have := ((List.perm_ext_iff_of_nodup h.nd (upto_nodup n)).mpr fun x => by rw [h.mem, upto_mem]).length_eq
  rwa [upto_len] at this
/-- one round -/
def rnd (ar : List (Int × Int)) (F : List Int) (a : List Int) : List Int := F.reverse.foldl (mir ar) a
/-! the form by points -/
theorem sum_congr {α : Type} {f g : α → Int} : ∀ {xs : List α}, (∀ x ∈ xs, f x = g x) → (xs.map f).sum = (xs.map g).sum
  | [], _ => rfl
  | x :: r, h => by rw [List.map_cons, List.map_cons, List.sum_cons, List.sum_cons, h x List.mem_cons_self, sum_congr fun y hy => h y (List.mem_cons_of_mem _ hy)]
theorem sum_one (f : Int → Int) (q x : Int) : ∀ {xs : List Int}, xs.Nodup → (xs.map fun p => f p * if q = p then x else 0).sum = if q ∈ xs then f q * x else 0
  | [], _ => rfl
  | y :: r, h => by
    obtain ⟨h1, h2⟩ := List.nodup_cons.mp h
    rw [List.map_cons, List.sum_cons, sum_one f q x h2]
    by_cases e : q = y
    · subst e
      rw [if_pos rfl, if_neg h1, if_pos List.mem_cons_self]
      omega
    · rw [if_neg e]
      by_cases m : q ∈ r
      · rw [if_pos m, if_pos (List.mem_cons_of_mem _ m)]; omega
      · rw [if_neg m, if_neg fun z => (List.mem_cons.mp z).elim e m]; omega
theorem sum_add {α : Type} (f g : α → Int) : ∀ xs : List α, (xs.map fun x => f x + g x).sum = (xs.map f).sum + (xs.map g).sum
  | [] => rfl
  | x :: r => by simp only [List.map_cons, List.sum_cons, sum_add f g r]; omega
theorem sum_sub {α : Type} (f g : α → Int) : ∀ xs : List α, (xs.map fun x => f x - g x).sum = (xs.map f).sum - (xs.map g).sum
  | [] => rfl
  | x :: r => by simp only [List.map_cons, List.sum_cons, sum_sub f g r]; omega
theorem dotL_sum {a b : List Int} (h : a.length = b.length) : dotL a b = ((upto a.length).map fun p => gI a p * gI b p).sum := by
  have key : ∀ (a b : List Int), a.length = b.length → dotL a b = ((List.range a.length).map fun i => a.getD i 0 * b.getD i 0).sum := by
    intro a
    induction a with
    | nil => intro b _; cases b <;> rfl
    | cons x r ih =>
      intro b h
      cases b with
      | nil => simp at h
      | cons y s =>
        have := ih s (by simpa using h)
        rw [List.length_cons, List.range_succ_eq_map, List.map_cons, List.sum_cons, List.map_map]
        simp only [dotL, List.zip_cons_cons, List.map_cons, List.sum_cons] at this ⊢
        rw [this]
        rfl
  rw [key a b h]
  unfold upto
  rw [List.map_map]
  refine sum_congr fun i _ => ?_
  simp [gI]
theorem arS_col {n : Nat} {b c : List Int} : ∀ ar : List (Int × Int), InA n ar → arS ar b c = ((upto n).map fun p => gI c p * inS ar p b).sum
  | [], _ => by
    have : ∀ xs : List Int, (xs.map fun p => gI c p * inS [] p b).sum = 0 := by
      intro xs
      induction xs with
      | nil => rfl
      | cons x r ih => rw [List.map_cons, List.sum_cons, ih]; simp [inS]
    rw [this]; rfl
  | q :: r, h => by
    have ih := arS_col (b := b) (c := c) r fun p hp => h p (List.mem_cons_of_mem _ hp)
    have hq := h q List.mem_cons_self
    have e : ∀ p ∈ upto n, gI c p * inS (q :: r) p b = (gI c p * if q.2 = p then gI b q.1 else 0) + gI c p * inS r p b := fun p _ => by
      simp only [inS, List.map_cons, List.sum_cons]
      rw [Int.mul_add]
    rw [sum_congr e, sum_add, sum_one (gI c) q.2 (gI b q.1) (upto_nodup n), if_pos (upto_mem.mpr hq.2.1), ← ih]
    simp only [arS, List.map_cons, List.sum_cons]
    rw [Int.mul_comm]
theorem fE_col {n : Nat} {ar : List (Int × Int)} {b c : List Int} (hb : b.length = n) (hc : c.length = n) (hi : InA n ar) : fE ar b c = ((upto n).map fun p => gI c p * (gI b p - inS ar p b)).sum := by
  rw [fE, dotL_sum (hb.trans hc.symm), arS_col ar hi, hb, ← sum_sub]
  exact sum_congr fun p _ => by rw [Int.mul_sub, Int.mul_comm (gI b p)]
/-! ways -/
def Ways (n : Nat) (ar : List (Int × Int)) (i : Int) (w : List Int) : Prop := w.length = n ∧ ∀ x : Int, 0 ≤ x → x < n → gI w x = (if x = i then 1 else 0) + inS ar x w
theorem Ways.form {n : Nat} {ar : List (Int × Int)} {i : Int} {w b : List Int} (h : Ways n ar i w) (hi : InA n ar) (h0 : 0 ≤ i ∧ i < n) (hb : b.length = n) : fE ar w b = gI b i := by
  rw [fE_col h.1 hb hi]
  have e : ∀ p ∈ upto n, gI b p * (gI w p - inS ar p w) = gI b p * if i = p then 1 else 0 := fun p hp => by
    have := h.2 p (upto_mem.mp hp).1 (upto_mem.mp hp).2
    congr 1
    by_cases z : p = i
    · rw [if_pos z] at this; rw [if_pos z.symm]; omega
    · rw [if_neg z] at this; rw [if_neg (Ne.symm z)]; omega
  rw [sum_congr e, sum_one (gI b) i 1 (upto_nodup n), if_pos (upto_mem.mpr h0)]
  omega
/-- as the program takes them -/
def wayStep (pt : Int) (w : List Int) (q : Int × Int) : List Int := if q.1 = pt then w.set q.2.toNat (gI w q.2 + gI w pt) else w
def waysF (ar : List (Int × Int)) (F : List Int) (w : List Int) : List Int := F.foldl (fun w pt => ar.foldl (wayStep pt) w) w
/-! by lists of ends -/
def cnt (x : Int) (E : List Int) : Int := (E.map fun e => if e = x then 1 else 0).sum
def nexts (ar : List (Int × Int)) (e : Int) : List Int := ar.filterMap fun q => if q.1 = e then some q.2 else none
def endsN (ar : List (Int × Int)) (i : Int) : Nat → List Int
  | 0 => [i]
  | t + 1 => (endsN ar i t).flatMap (nexts ar)
def tally (w : List Int) (E : List Int) : List Int := E.foldl (fun w e => w.set e.toNat (gI w e + 1)) w
def foundN (n : Nat) (ar : List (Int × Int)) (i : Int) : Nat → List Int
  | 0 => List.replicate n 0
  | t + 1 => tally (foundN n ar i t) (endsN ar i t)
end DL

set_option Elab.async false
set_option linter.all false
set_option maxRecDepth 100000
set_option maxHeartbeats 4000000
/-! a bool < an int -/
namespace DL
open PySem PySem.Spec PyProof.Rows L2
section
variable {X : Cx}
abbrev rLtB : R2 := fun x y H Q => rI0 (fun i j => .bl (decide (i < j))) x y H Q ∨ (∃ a j, x = .bl a ∧ y = .int j ∧ Q (.bl (decide ((if a = true then (1 : Int) else 0) < j))) H)
end
def fLtB : F2 := fun d e P => match d, e with
  | .int i, .int j => P (.bl (decide (i < j)))
  | .bl a, .int j => P (.bl (decide ((if a = true then (1 : Int) else 0) < j)))
  | _, _ => False
end DL

set_option Elab.async false
set_option linter.all false
set_option maxRecDepth 100000
/-! rows in which None or a bool may stand -/
namespace DL
open PySem PySem.Spec PyProof.Rows L2
@[simp] theorem s_ltB1 {i j : Int} {P : D → Prop} : fLtB (.int i) (.int j) P = P (.bl (decide (i < j))) := rfl
@[simp] theorem s_ltB2 {a : Bool} {j : Int} {P : D → Prop} : fLtB (.bl a) (.int j) P = P (.bl (decide ((if a = true then (1 : Int) else 0) < j))) := rfl
def NbOk (x : D) : Prop := (∃ i : Int, x = .int i ∧ -(2 ^ 64) < i ∧ i < 2 ^ 64) ∨ x = .non ∨ x = .bl true
def lb1 : D → Bool
  | .int i => decide (i < 1)
  | .bl a => decide ((if a = true then (1 : Int) else 0) < 1)
  | _ => false
def enP : Nat → List D → List (Int × D)
  | _, [] => []
  | k, x :: r => ((k : Int), x) :: enP (k + 1) r
def pE (p : Int × D) : D := .tup [.int p.1, p.2]
def wrongL (xs : List D) : List Int := (enP 0 xs).filterMap fun p => if lb1 p.2 = true then some p.1 else none
/-! divisors -/
def gcdL (ys : List Int) : Nat := ys.foldl (fun f y => Nat.gcd y.toNat f) 0
end DL

set_option Elab.async false
set_option linter.all false
set_option maxRecDepth 100000
set_option maxHeartbeats 1000000
/-! ELzm: zip of two rows, each a list or a tuple -/
namespace DL
open PySem PySem.Spec PyProof.Rows L2 PySem.W
/-- an iterator over a list (true) or a tuple -/
def ItK (b : Bool) (h : Heap) (i l : Addr) (k : Nat) : Prop := match b with
  | true => h.IsListIter i l k
  | false => h.IsTupleIter i l k
def SqK (b : Bool) (h : Heap) (l : Addr) (xs : Array Value) : Prop := match b with
  | true => h.IsList l xs
  | false => h.IsTuple l xs
theorem ItK.ext {b : Bool} {h h' : Heap} {i l c : Addr} {k : Nat} (x : ItK b h i l k) (hs : Heap.ExtBut c h h') (n : i ≠ c) : ItK b h' i l k := by
  cases b with
  | true => exact Heap.IsListIter.extBut x hs n
  | false => exact Heap.IsTupleIter.extBut x hs n
theorem SqK.ext {b : Bool} {h h' : Heap} {l c : Addr} {xs : Array Value} (x : SqK b h l xs) (hs : Heap.ExtBut c h h') (n : l ≠ c) : SqK b h' l xs := by
  cases b with
  | true => exact Heap.IsList.extBut x hs n
  | false => exact Heap.IsTuple.extBut x hs n
theorem ItK.at {b : Bool} {h h' : Heap} {i l : Addr} {k : Nat} (x : ItK b h i l k) (e : ∀ o, h.get? i = some o → h'.get? i = some o) : ItK b h' i l k := by
  cases b with
  | true => exact Heap.IsListIter.at x e
  | false => exact Heap.IsTupleIter.at x e
theorem ItK.obj {b : Bool} {h : Heap} {i l : Addr} {k : Nat} (x : ItK b h i l k) : ∃ o, h.get? i = some o ∧ ∀ v, o.data ≠ .cell v := by
  cases b with
  | true =>
    obtain ⟨o, e, _, d⟩ := x
    exact ⟨o, e, fun v q => by rw [d] at q; cases q⟩
  | false =>
    obtain ⟨o, e, _, d⟩ := x
    exact ⟨o, e, fun v q => by rw [d] at q; cases q⟩
section
variable {prog : Program} {w : World} {A : Around} {E : Value → Shared → Prop} {s : Shared}
def itC (b : Bool) : String := match b with
  | true => "list_iterator"
  | false => "tuple_iterator"
abbrev zmH1 (b1 : Bool) (h : Heap) (l1 : Addr) : Heap := h.push { cls := .type (itC b1), data := .fields #[.ref l1, .int 0 0] }
abbrev zmH2 (b1 b2 : Bool) (h : Heap) (l1 l2 : Addr) : Heap := (zmH1 b1 h l1).push { cls := .type (itC b2), data := .fields #[.ref l2, .int 0 0] }
abbrev zmH3 (b1 b2 : Bool) (h : Heap) (l1 l2 : Addr) : Heap := (zmH2 b1 b2 h l1 l2).push { cls := .type "tuple", data := .seq #[.ref h.objs.size, .ref (zmH1 b1 h l1).objs.size] }
abbrev zmH4 (b1 b2 : Bool) (h : Heap) (l1 l2 : Addr) : Heap := (zmH3 b1 b2 h l1 l2).push { cls := .type "tuple", data := .seq #[.none, .none] }
abbrev zmH5 (b1 b2 : Bool) (h : Heap) (l1 l2 : Addr) : Heap := (zmH4 b1 b2 h l1 l2).push { cls := .type "zip", data := .fields #[.none, .bool false, .bool false, .ref (zmH2 b1 b2 h l1 l2).objs.size, .ref (zmH3 b1 b2 h l1 l2).objs.size] }
end
/-- a list (true) or a tuple that is tracked -/
def SqV (b : Bool) (K : PySem.W.Frag) (H : Hp) (a : Addr) (xs : List V) : Prop := match b with
  | true => SqL K H a xs
  | false => SqT K H a xs
theorem SqV.inv {b : Bool} {X : Cx} {pins : List (Addr × Obj)} {σ : L2.St} {H : Hp} {s : Shared} {a : Addr} {xs : List V} (I : Inv X pins σ H s) (h : SqV b X.K H a xs) : ∃ its : List Value, Vals xs its ∧ SqK b s.heap a its.toArray := by
  cases b with
  | true => obtain ⟨its, rv, p, _⟩ := I.list h; exact ⟨its, rv, p.isList⟩
  | false => obtain ⟨its, rv, p, _⟩ := I.tuple h; exact ⟨its, rv, p⟩
theorem SqV.inj {b : Bool} {X : Cx} {pins : List (Addr × Obj)} {σ : L2.St} {H : Hp} {s : Shared} {a : Addr} {xs ys : List V} (I : Inv X pins σ H s) (h : SqV b X.K H a xs) (h' : SqV b X.K H a ys) : xs = ys := by
  cases b with
  | true => exact I.list_inj h h'
  | false => exact I.tuple_inj h h'
theorem SqK.lt {b : Bool} {h : Heap} {l : Addr} {xs : Array Value} (x : SqK b h l xs) : l < h.objs.size := by
  cases b with
  | true => obtain ⟨o, e, _⟩ := x; exact Heap.lt_size e
  | false => obtain ⟨o, e, _⟩ := x; exact Heap.lt_size e
/-- both rows as they stand at each turn -/
def ItzK (b1 b2 : Bool) (K : PySem.W.Frag) (a b : Addr) : It :=
  ⟨fun i H => ∃ (xs ys : List V) (x y : V), SqV b1 K H a xs ∧ SqV b2 K H b ys ∧ xs[i]? = some x ∧ ys[i]? = some y,
    fun i H v H' => ∃ T x y, v = .ref T ∧ H T = none ∧ H' = upd H T (.tup [x, y]) ∧ (∀ xs, SqV b1 K H a xs → xs[i]? = some x) ∧ ∀ ys, SqV b2 K H b ys → ys[i]? = some y,
    fun i H => ∃ xs ys : List V, SqV b1 K H a xs ∧ SqV b2 K H b ys ∧ (xs.length ≤ i ∨ ys.length ≤ i)⟩
def iZipK (K : PySem.W.Frag) (ta : TA) : TI := fun σ H R => ta σ H fun vs H1 => ∃ b1 b2 a b xs ys, vs = [.ref a, .ref b] ∧ SqV b1 K H1 a xs ∧ SqV b2 K H1 b ys ∧ R (ItzK b1 b2 K a b) H1
end DL

set_option Elab.async false
set_option linter.all false
set_option maxRecDepth 100000
set_option maxHeartbeats 1000000
/-! ELzk: for x, y in zip(a, b), each a list or a tuple -/
namespace DL
open PySem PySem.Spec PyProof.Rows L2 PySem.W
def seqR : D → Option (Bool × List D)
  | .lst xs => some (true, xs)
  | .tup xs => some (false, xs)
  | _ => none
def zipArgK : List D → Option (List D × List D)
  | [x, y] => match seqR x, seqR y with
    | some (_, xs), some (_, ys) => some (xs, ys)
    | _, _ => none
  | _ => none
def wZipM (a : WA) : WL := fun ρ k Q => a ρ k fun rs ρ1 k1 => ∃ ds ρ2 xs ys, frzL ρ1 rs = some (ds, ρ2) ∧ zipArgK ds = some (xs, ys) ∧ Q (zipD xs ys) ρ2 k1
@[simp] theorem s_ZipM {wa : WA} {ρ : En} {k : Kt} {QL : List D → En → Kt → Prop} : wZipM wa ρ k QL = wa ρ k fun rs ρ1 k1 => ∃ ds ρ2 xs ys, frzL ρ1 rs = some (ds, ρ2) ∧ zipArgK ds = some (xs, ys) ∧ QL (zipD xs ys) ρ2 k1 := rfl
@[simp] theorem s_zk1 {xs ys : List D} : zipArgK [.lst xs, .lst ys] = some (xs, ys) := rfl
@[simp] theorem s_zk2 {xs ys : List D} : zipArgK [.tup xs, .tup ys] = some (xs, ys) := rfl
@[simp] theorem s_zk3 {xs ys : List D} : zipArgK [.lst xs, .tup ys] = some (xs, ys) := rfl
@[simp] theorem s_zk4 {xs ys : List D} : zipArgK [.tup xs, .lst ys] = some (xs, ys) := rfl
section
variable {X : Cx} {pos ps' : Pos}
end
end DL

set_option Elab.async false
set_option linter.all false
set_option maxRecDepth 100000
set_option maxHeartbeats 1000000
/-! ELco: falling mirrors end alike, whichever of them is taken -/
namespace DL
open PySem PySem.Spec PyProof.Rows L2
def NN (n : Nat) (a : List Int) : Prop := ∀ i : Int, 0 ≤ i → i < n → 0 ≤ gI a i
/-- a row against a unit, both ways -/
def pr (ar : List (Int × Int)) (i : Int) (a : List Int) : Int := 2 * gI a i - outS ar i a - inS ar i a
/-- arrows between two points, either way -/
def mul (ar : List (Int × Int)) (i j : Int) : Int := (ar.map fun p => if (p.1 = i ∧ p.2 = j) ∨ (p.1 = j ∧ p.2 = i) then 1 else 0).sum
theorem mItem_pr {ar : List (Int × Int)} {i : Int} {a : List Int} : mItem ar i a = gI a i - pr ar i a := by rw [mItem, pr]; omega
theorem mul_comm' {i j : Int} {ar : List (Int × Int)} : mul ar i j = mul ar j i := by
  unfold mul
  refine congrArg List.sum (List.map_congr_left fun p _ => ?_)
  by_cases h : (p.1 = i ∧ p.2 = j) ∨ (p.1 = j ∧ p.2 = i)
  · rw [if_pos h, if_pos h.symm]
  · rw [if_neg h, if_neg fun z => h z.symm]
theorem pr_set {a : List Int} {i j x : Int} (hi : 0 ≤ i ∧ i < a.length) (hj : 0 ≤ j) (hne : j ≠ i) : ∀ ar : List (Int × Int), (∀ p ∈ ar, 0 ≤ p.1 ∧ 0 ≤ p.2 ∧ p.1 ≠ p.2) →
    outS ar j (a.set i.toNat x) + inS ar j (a.set i.toNat x) = outS ar j a + inS ar j a + mul ar i j * (x - gI a i)
  | [], _ => by simp [outS, inS, mul]
  | p :: r, h => by
    have ih := pr_set (x := x) hi hj hne r fun q hq => h q (List.mem_cons_of_mem _ hq)
    have hp := h p List.mem_cons_self
    simp only [outS, inS, mul, List.map_cons, List.sum_cons] at ih ⊢
    rw [gI_set hi hp.1, gI_set hi hp.2.1, Int.add_mul]
    by_cases h1 : p.1 = j
    · rw [if_pos h1, if_pos h1, if_neg (show ¬ p.2 = j by omega), if_neg (show ¬ p.2 = j by omega)]
      by_cases h2 : p.2 = i
      · rw [if_pos h2, if_pos (.inr ⟨h1, h2⟩), h2]; omega
      · rw [if_neg h2, if_neg (by omega)]; omega
    · rw [if_neg h1, if_neg h1]
      by_cases h2 : p.2 = j
      · rw [if_pos h2, if_pos h2]
        by_cases h3 : p.1 = i
        · rw [if_pos h3, if_pos (.inl ⟨h3, h2⟩), h3]; omega
        · rw [if_neg h3, if_neg (by omega)]; omega
      · rw [if_neg h2, if_neg h2, if_neg (by omega)]; omega
theorem gI_mirO {ar : List (Int × Int)} {a : List Int} {i j : Int} (hi : 0 ≤ i ∧ i < a.length) (hj : 0 ≤ j) : gI (mir ar a i) j = if j = i then gI a i - pr ar i a else gI a j := by rw [mir, gI_set hi hj, mItem_pr]
theorem pr_mir {ar : List (Int × Int)} {a : List Int} {i j : Int} (hi : 0 ≤ i ∧ i < a.length) (hj : 0 ≤ j) (hne : j ≠ i) (h : ∀ p ∈ ar, 0 ≤ p.1 ∧ 0 ≤ p.2 ∧ p.1 ≠ p.2) : pr ar j (mir ar a i) = pr ar j a + mul ar i j * pr ar i a := by
  have e := pr_set (x := mItem ar i a) hi hj hne ar h
  unfold pr
  rw [gI_mirO hi hj, if_neg hne]
  have e2 : mItem ar i a - gI a i = - pr ar i a := by rw [mItem_pr]; omega
  rw [e2, Int.mul_neg] at e
  rw [mir]
  unfold pr at e
  omega
theorem pr_mirS {ar : List (Int × Int)} {a : List Int} {i : Int} (hi : 0 ≤ i ∧ i < a.length) (h : ∀ p ∈ ar, 0 ≤ p.1 ∧ 0 ≤ p.2 ∧ p.1 ≠ p.2) : pr ar i (mir ar a i) = - pr ar i a := by
  have e := (outS_set (x := mItem ar i a) hi ar h)
  unfold pr
  rw [gI_mirO hi hi.1, if_pos rfl, mir, e.1, e.2]
  unfold pr
  omega
inductive Kd where
  | wd (e : List Int)
  | no
  | rl
def Kd.rt : Kd → Bool
  | .no => false
  | _ => true
def Kd.re : Kd → Bool
  | .rl => true
  | _ => false
def Kd.wi : Kd → Bool
  | .wd _ => true
  | _ => false
/-- where falling mirrors can end -/
inductive RK (n : Nat) (ar : List (Int × Int)) (hg : List Int → Prop) : List Int → Kd → Prop
  | wide {a : List Int} : (∀ i : Int, 0 ≤ i → i < n → pr ar i a ≤ 0) → hg a → RK n ar hg a (.wd a)
  | apart {a : List Int} : (∀ i : Int, 0 ≤ i → i < n → pr ar i a ≤ 0) → ¬ hg a → RK n ar hg a .no
  | real {i : Int} : 0 ≤ i → i < n → RK n ar hg (unL n i) .rl
  | neg {a : List Int} {i : Int} : 0 ≤ i → i < n → 0 < pr ar i a → a ≠ unL n i → mItem ar i a < 0 → RK n ar hg a .no
  | step {a : List Int} {i : Int} {κ : Kd} : 0 ≤ i → i < n → 0 < pr ar i a → a ≠ unL n i → 0 ≤ mItem ar i a → RK n ar hg (mir ar a i) κ → RK n ar hg a κ
theorem sum_set' : ∀ {xs : List Int} {m : Nat} {y : Int}, m < xs.length → (xs.set m y).sum = xs.sum - xs.getD m 0 + y
  | [], m, y, h => by simp at h
  | x :: r, 0, y, h => by simp; omega
  | x :: r, m + 1, y, h => by
    have := sum_set' (xs := r) (m := m) (y := y) (by simpa using h)
    simp only [List.set_cons_succ, List.sum_cons, List.getD_cons_succ]
    omega
theorem sum_mir {ar : List (Int × Int)} {a : List Int} {i : Int} (hi : 0 ≤ i ∧ i < a.length) : (mir ar a i).sum = a.sum - pr ar i a := by
  rw [mir, sum_set' (by omega), mItem_pr]
  have : a.getD i.toNat 0 = gI a i := rfl
  omega
theorem NN.mem {n : Nat} {a : List Int} (ha : a.length = n) (h : NN n a) : ∀ x ∈ a, 0 ≤ x := fun x hx => by
  obtain ⟨m, hm, rfl⟩ := List.getElem_of_mem hx
  have := h m (by omega) (by omega)
  unfold gI at this
  rwa [List.getD_eq_getElem?_getD, Int.toNat_natCast, List.getElem?_eq_getElem hm] at this
theorem NN.of {n : Nat} {a : List Int} (h : ∀ x ∈ a, 0 ≤ x) : NN n a := fun i h0 h1 => by
  unfold gI
  rw [List.getD_eq_getElem?_getD]
  cases q : a[i.toNat]? with
  | none => exact Int.le_refl 0
  | some y => exact h y (List.mem_of_getElem? q)
theorem sum_nn' : ∀ {xs : List Int}, (∀ x ∈ xs, 0 ≤ x) → 0 ≤ xs.sum
  | [], _ => by simp
  | x :: r, h => by
    have := sum_nn' (xs := r) fun y hy => h y (List.mem_cons_of_mem _ hy)
    have := h x List.mem_cons_self
    rw [List.sum_cons]
    omega
theorem NN.sum {n : Nat} {a : List Int} (ha : a.length = n) (h : NN n a) : 0 ≤ a.sum := sum_nn' (h.mem ha)
theorem NN.mir {n : Nat} {ar : List (Int × Int)} {a : List Int} {i : Int} (ha : a.length = n) (hi : 0 ≤ i ∧ i < n) (h : NN n a) (hm : 0 ≤ mItem ar i a) : NN n (mir ar a i) := fun j j0 j1 => by
  rw [gI_mirO (by omega) j0]
  rw [mItem_pr] at hm
  split
  · exact hm
  · exact h j j0 j1
variable {n : Nat} {ar : List (Int × Int)} {hg : List Int → Prop}
theorem RK.ex (hin : InA n ar) : ∀ (m : Nat) {a : List Int}, a.length = n → NN n a → a.sum < m → ∃ κ, RK n ar hg a κ
  | 0, a, ha, h0, hm => by
    have := h0.sum ha
    omega
  | m + 1, a, ha, h0, hm => by
    by_cases h : ∀ i : Int, 0 ≤ i → i < n → pr ar i a ≤ 0
    · by_cases g : hg a
      · exact ⟨_, .wide h g⟩
      · exact ⟨_, .apart h g⟩
    · obtain ⟨i, i0, i1, hp⟩ : ∃ i : Int, 0 ≤ i ∧ i < n ∧ 0 < pr ar i a := Classical.byContradiction fun z => h fun i i0 i1 => by
        by_cases q : pr ar i a ≤ 0
        · exact q
        · exact (z ⟨i, i0, i1, by omega⟩).elim
      by_cases u : a = unL n i
      · subst u; exact ⟨_, .real i0 i1⟩
      · by_cases mm : mItem ar i a < 0
        · exact ⟨_, .neg i0 i1 hp u mm⟩
        · obtain ⟨κ, hκ⟩ := RK.ex hin m (a := mir ar a i) (by rw [mir_len, ha]) (h0.mir ha ⟨i0, i1⟩ (by omega)) (by rw [sum_mir (by omega)]; omega)
          exact ⟨κ, .step i0 i1 hp u (by omega) hκ⟩
/-- what falling at a point gives -/
def Fall (n : Nat) (ar : List (Int × Int)) (hg : List Int → Prop) (a : List Int) (i : Int) (κ : Kd) : Prop := (mItem ar i a < 0 ∧ κ = .no) ∨ (0 ≤ mItem ar i a ∧ RK n ar hg (mir ar a i) κ)
/-- what a mirror does to both -/
structure Two (ar : List (Int × Int)) (a : List Int) (i j : Int) : Prop where
  s1 : (mir ar a i).sum = a.sum - pr ar i a
  e12 : pr ar j (mir ar a i) = pr ar j a + mul ar i j * pr ar i a
  e11 : pr ar i (mir ar a i) = - pr ar i a
  g1 : gI (mir ar a i) j = gI a j
  g11 : gI (mir ar a i) i = gI a i - pr ar i a
theorem two (hin : InA n ar) {a : List Int} (ha : a.length = n) {i j : Int} (hi : 0 ≤ i ∧ i < n) (hj : 0 ≤ j ∧ j < n) (hij : i ≠ j) : Two ar a i j :=
  ⟨sum_mir (by omega), pr_mir (by omega) hj.1 (Ne.symm hij) hin.low, pr_mirS (by omega) hin.low, by rw [gI_mirO (by omega) hj.1, if_neg (Ne.symm hij)], by rw [gI_mirO (by omega) hi.1, if_pos rfl]⟩
abbrev Ih (n : Nat) (ar : List (Int × Int)) (hg : List Int → Prop) (a : List Int) : Prop := ∀ (b : List Int) (κ κ' : Kd), b.length = n → NN n b → b.sum < a.sum → RK n ar hg b κ → RK n ar hg b κ' → κ = κ'
/-- what is behind two mirrors -/
structure Three (n : Nat) (ar : List (Int × Int)) (a : List Int) (i j : Int) : Prop where
  l3 : (mir ar (mir ar a i) j).length = n
  i3 : mItem ar j (mir ar a i) = gI a j - pr ar j a - pr ar i a
  p3 : pr ar j (mir ar a i) = pr ar j a + pr ar i a
  e3 : pr ar i (mir ar (mir ar a i) j) = pr ar j a
  g3 : gI (mir ar (mir ar a i) j) i = gI a i - pr ar i a
  i5 : mItem ar i (mir ar (mir ar a i) j) = gI a i - pr ar i a - pr ar j a
theorem three (hin : InA n ar) {a : List Int} (ha : a.length = n) {i j : Int} (hi : 0 ≤ i ∧ i < n) (hj : 0 ≤ j ∧ j < n) (hij : i ≠ j) (m : mul ar i j = 1) : Three n ar a i j := by
  have l1 : (mir ar a i).length = n := by rw [mir_len, ha]
  obtain ⟨s1, e12, e11, g1, g11⟩ := two hin ha hi hj hij
  rw [m, Int.one_mul] at e12
  have e3 : pr ar i (mir ar (mir ar a i) j) = pr ar j a := by rw [pr_mir (by omega) hi.1 hij hin.low, mul_comm', m, e11, e12]; omega
  have g3 : gI (mir ar (mir ar a i) j) i = gI a i - pr ar i a := by rw [gI_mirO (by omega) hi.1, if_neg hij, g11]
  exact ⟨by rw [mir_len, l1], by rw [mItem_pr, e12, g1]; omega, e12, e3, g3, by rw [mItem_pr, e3, g3]⟩
end DL

set_option Elab.async false
set_option linter.all false
set_option maxRecDepth 100000
set_option maxHeartbeats 1000000
/-! ELls: rules of comprehensions with two fors -/
namespace DL
open PySem PySem.Spec PyProof.Rows L2
@[simp] theorem s_Lc2 {vs vs1 : List Nat} {it it1 : WL} {tg tg1 : WG} {ts ts1 : WT} {el : WE} {ρ : En} {k : Kt} {Q : List D → En → Kt → Prop} : wLc2 vs vs1 it tg ts it1 tg1 ts1 el ρ k Q = it ρ k fun ds ρ1 k1 => lc2W vs vs1 tg ts it1 tg1 ts1 el ds [] (wipeE ρ1 vs) (nxk k1) fun zs ρ2 k2 => Q zs ρ2 (rsk k1 k2) := rfl
/-- a turn of the outer loop -/
def lc2Step (vs vs1 : List Nat) (tg : WG) (ts : WT) (it1 : WL) (tg1 : WG) (ts1 : WT) (el : WE) (d : D) (acc : List D) (ρ : En) (k : Kt) (R : List D → En → Kt → Prop) : Prop := tg d ρ k fun ρ1 k1 => ts ρ1 k1 fun b ρ2 k2 => if b = true then it1 ρ2 k2 fun es ρ3 k3 => lcW vs1 tg1 ts1 el es acc (wipeE ρ3 vs1) k3 fun acc' ρ4 k4 => R acc' (wipeE ρ4 vs) k4
      else R acc (wipeE ρ2 vs) k2
/-- the inner loop, over mapped things, into mapped things -/
theorem lc_mapA {α β : Type} {vs : List Nat} {tg : WG} {ts : WT} {el : WE} {ρ : En} {k : Kt} {Q : List D → En → Kt → Prop} (u : α → D) (v : β → D) (g : α → β) : ∀ (xs : List α) (acc : List D), acc.length + xs.length ≤ sizeLine → (∀ x ∈ xs, ∀ R : Option D → En → Kt → Prop, R (some (v (g x))) ρ k → lcStep vs tg ts el (u x) ρ k R) → Q (acc ++ (xs.map g).map v) ρ k → lcW vs tg ts el (xs.map u) acc ρ k Q
  | [], acc, _, _, q => by rw [List.map_nil, List.map_nil, List.append_nil] at q; exact q
  | x :: xs, acc, hl, h, q => by
    rw [List.length_cons] at hl
    have s := h x List.mem_cons_self (fun o ρ' k' => match o with
      | some y => acc.length < sizeLine ∧ lcW vs tg ts el (xs.map u) (acc ++ [y]) ρ' k' Q
      | none => lcW vs tg ts el (xs.map u) acc ρ' k' Q) ?_
    · exact s
    · exact ⟨by omega, lc_mapA u v g xs (acc ++ [v (g x)]) (by rw [List.length_append]; simp; omega) (fun x hx => h x (List.mem_cons_of_mem _ hx)) (by rw [List.append_assoc]; exact q)⟩
/-- both loops, over mapped things, into mapped things -/
theorem lc2_map {α β : Type} {vs vs1 : List Nat} {tg tg1 : WG} {ts ts1 : WT} {it1 : WL} {el : WE} {ρ : En} {k : Kt} {Q : List D → En → Kt → Prop} (u : α → D) (v : β → D) (g : α → List β) : ∀ (xs : List α) (acc : List D), acc.length + (xs.flatMap g).length ≤ sizeLine →
    (∀ x ∈ xs, ∀ (acc : List D) (R : List D → En → Kt → Prop), acc.length + (g x).length ≤ sizeLine → R (acc ++ (g x).map v) ρ k → lc2Step vs vs1 tg ts it1 tg1 ts1 el (u x) acc ρ k R) → Q (acc ++ (xs.flatMap g).map v) ρ k → lc2W vs vs1 tg ts it1 tg1 ts1 el (xs.map u) acc ρ k Q
  | [], acc, _, _, q => by rw [List.flatMap_nil, List.map_nil, List.append_nil] at q; exact q
  | x :: xs, acc, hl, h, q => by
    rw [List.flatMap_cons, List.length_append] at hl
    rw [List.flatMap_cons, List.map_append, ← List.append_assoc] at q
    refine h x List.mem_cons_self acc (fun acc' ρ' k' => lc2W vs vs1 tg ts it1 tg1 ts1 el (xs.map u) acc' ρ' k' Q) (by omega) ?_
    exact lc2_map u v g xs _ (by rw [List.length_append, List.length_map]; omega) (fun y hy => h y (List.mem_cons_of_mem _ hy)) q
end DL

set_option Elab.async false
set_option linter.all false
set_option maxRecDepth 100000
set_option maxHeartbeats 1000000
/-! ELso: rows sorted by their sums -/
namespace DL
open PySem PySem.Spec PyProof.Rows L2
/-- a row behind its sum -/
def tT (a : List Int) : D := .tup [.int a.sum, .tup (a.map .int)]
def leS (a b : List Int) : Prop := a.sum < b.sum ∨ (a.sum = b.sum ∧ a ≤ b)
instance (a b : List Int) : Decidable (leS a b) := by unfold leS; infer_instance
theorem pyL_ints' (xs : List Int) : pyL (xs.map D.int) = xs.map PyData.int := by
  induction xs with
  | nil => rfl
  | cons x r ih => rw [List.map_cons, pyL, ih]; rfl
theorem perm_sorted_eq' {α : Type} {le : α → α → Prop} (anti : ∀ a b, le a b → le b a → a = b) : ∀ {l m : List α}, l.Perm m → l.Pairwise le → m.Pairwise le → l = m
  | [], m, h, _, _ => (List.Perm.nil_eq h)
  | x :: r, [], h, _, _ => by have := h.length_eq; simp at this
  | x :: r, y :: t, h, h1, h2 => by
    obtain ⟨a1, a2⟩ := List.pairwise_cons.mp h1
    obtain ⟨b1, b2⟩ := List.pairwise_cons.mp h2
    have e : x = y := by
      have hx : x ∈ y :: t := h.mem_iff.mp List.mem_cons_self
      have hy : y ∈ x :: r := h.mem_iff.mpr List.mem_cons_self
      rcases List.mem_cons.mp hx with z | z
      · exact z
      · rcases List.mem_cons.mp hy with w | w
        · exact w.symm
        · exact anti x y (a1 y w) (b1 x z)
    subst e
    rw [perm_sorted_eq' anti (List.Perm.cons_inv h) a2 b2]
def sortT (xs : List (List Int)) : List (List Int) := xs.mergeSort fun a b => decide (leS a b)
theorem isPyL_ints' (xs : List Int) : isPyL (xs.map D.int) = true := by
  induction xs with
  | nil => rfl
  | cons x r ih => rw [List.map_cons, isPyL, ih]; rfl
/-! rows of rows -/
theorem okD_rows (xs : List (List Int)) : okD (.lst (xs.map fun r => .tup (r.map .int))) = true := by
  have h : isPyL (xs.map fun r => D.tup (r.map .int)) = true ∧ PyData.canLayAll0 (pyL (xs.map fun r => D.tup (r.map .int))) = true ∧ PyData.depthAll (pyL (xs.map fun r => D.tup (r.map .int))) ≤ 1 := by
    induction xs with
    | nil => exact ⟨rfl, rfl, by simp [pyL, PyData.depthAll]⟩
    | cons x r ih =>
      obtain ⟨a1, a2, a3⟩ := ih
      refine ⟨by simp [isPyL, isPy, isPyL_ints', a1], by simp [pyL, py, PyData.canLayAll0, PyData.canLay0, canLay_ints, a2], ?_⟩
      simp only [List.map_cons, pyL, py, PyData.depthAll, PyData.depth, depth_ints]
      omega
  simp only [okD, isPy, py, SeqAt.shaped, PyData.canLay0, PyData.depth, h.1, h.2.1]
  simp
  omega
theorem memD_rows (x : List Int) (xs : List (List Int)) : memD (.tup (x.map .int)) (xs.map fun r => .tup (r.map .int)) = decide (x ∈ xs) := by
  unfold memD
  induction xs with
  | nil => simp
  | cons y r ih =>
    rw [List.map_cons, List.any_cons, ih, eqD_tints]
    by_cases h : y = x
    · simp [h]
    · have : x ≠ y := fun e => h e.symm
      simp [h, this]
theorem inOk_rows (x : List Int) (xs : List (List Int)) : inOk (.tup (x.map .int)) (.lst (xs.map fun r => .tup (r.map .int))) = some (xs.map fun r => .tup (r.map .int)) := by
  rw [s_inl, okD_rows, okD_tints]
  simp
end DL

set_option Elab.async false
set_option linter.all false
set_option maxRecDepth 100000
set_option maxHeartbeats 4000000
/-! ELdt: determinants by whole steps: what the loops over a table in place compute; a table as a list of lists that nobody else holds -/
namespace DL
open PySem PySem.Spec PyProof.Rows L2
abbrev Rows := List (List Int)
def gG (rows : Rows) (i j : Nat) : Int := (rows.getD i []).getD j 0
def cellV (last : Int) (k i j : Nat) (rows : Rows) : Int := (gG rows i j * gG rows k k - gG rows i k * gG rows k j).fdiv last
def elimCell (last : Int) (k i j : Nat) (rows : Rows) : Rows := rows.set i ((rows.getD i []).set j (cellV last k i j rows))
def smZ (x : Int) : Bool := decide (x.natAbs < 4611686018427387904)
def cellOk (last : Int) (k i j : Nat) (rows : Rows) : Bool := last != 0 && decide (last.natAbs < 1073741824) && smZ (gG rows i j) && smZ (gG rows i k)
def elimR (last : Int) (k i : Nat) : Nat → Nat → Rows → Option Rows
  | 0, _, rows => some rows
  | m + 1, j, rows => if cellOk last k i j rows = true then elimR last k i m (j + 1) (elimCell last k i j rows) else none
def elimI (n : Nat) (last : Int) (k : Nat) : Nat → Nat → Rows → Option Rows
  | 0, _, rows => some rows
  | m + 1, i, rows => (elimR last k i (n - (k + 1)) (k + 1) rows).bind (elimI n last k m (i + 1))
def swapR (rows : Rows) (k h : Nat) : Rows := (rows.set k (rows.getD h [])).set h (rows.getD k [])
def headsN (n : Nat) (rows : Rows) (k : Nat) : List Nat := (List.range' k (n - k)).filter fun i => decide (gG rows i k ≠ 0)
def headAt (fst : Bool) : List Nat → Option Nat
  | [] => none
  | h :: t => some (if fst then h else (h :: t).getLast (by simp))
def detK (fst : Bool) (n : Nat) : Nat → Nat → Int → Int → Rows → Option Int
  | 0, _, _, sign, rows => some (sign * gG rows (n - 1) (n - 1))
  | m + 1, k, last, sign, rows => match headAt fst (headsN n rows k) with
    | none => some 0
    | some h => (elimI n last k (n - (k + 1)) (k + 1) (if h ≠ k then swapR rows k h else rows)).bind fun rows2 => detK fst n m (k + 1) (gG rows2 k k) (if h ≠ k then -sign else sign) rows2
def detF (fst : Bool) (rows : Rows) : Option Int := detK fst rows.length (rows.length - 1) 0 1 1 rows
def wfDet (fst : Bool) : WF := fun ds k P => ∃ (rows : Rows) (v : Int), ds = [.lst (rows.map fun r => .lst (r.map .int))] ∧ rows ≠ [] ∧ rows.length ≤ 1000 ∧ (∀ r ∈ rows, r.length = rows.length) ∧ detF fst rows = some v ∧ P (.int v) k

/-- a table in place: the list L of lists as, all new since H0 -/
structure Grid (H0 H : Hp) (L : Addr) (as : List Addr) (n : Nat) (rows : Rows) : Prop where
  l : H L = some (.lst (as.map V.ref))
  an : as.length = n
  rn : rows.length = n
  rl : ∀ r ∈ rows, r.length = n
  ra : ∀ (i : Nat) (a : Addr) (r : List Int), as[i]? = some a → rows[i]? = some r → H a = some (.lst (r.map V.int))
  inj : ∀ (i j : Nat) (a : Addr), as[i]? = some a → as[j]? = some a → i = j
  ne : L ∉ as
  kp : AExt H0 H
  fL : H0 L = none
  fa : ∀ a ∈ as, H0 a = none
section
variable {H0 H : Hp} {L : Addr} {as : List Addr} {n : Nat} {rows : Rows}
theorem Grid.wide (G : Grid H0 H L as n rows) {i : Nat} (hi : i < n) : (rows.getD i []).length = n := by
  have h : i < rows.length := by rw [G.rn]; exact hi
  rw [List.getD_eq_getElem?_getD, List.getElem?_eq_getElem h]
  exact G.rl _ (List.getElem_mem h)
theorem Grid.row (G : Grid H0 H L as n rows) {i : Nat} (hi : i < n) : ∃ a, as[i]? = some a ∧ H a = some (.lst ((rows.getD i []).map V.int)) := by
  have h : i < rows.length := by rw [G.rn]; exact hi
  have h' : i < as.length := by rw [G.an]; exact hi
  refine ⟨as[i], List.getElem?_eq_getElem h', ?_⟩
  rw [List.getD_eq_getElem?_getD, List.getElem?_eq_getElem h]
  exact G.ra i _ _ (List.getElem?_eq_getElem h') (List.getElem?_eq_getElem h)
theorem Grid.cell (G : Grid H0 H L as n rows) {i j : Nat} (hi : i < n) (hj : j < n) : ((rows.getD i []).map V.int)[j]? = some (.int (gG rows i j)) := by
  have w := G.wide hi
  have h : j < (rows.getD i []).length := by rw [w]; exact hj
  unfold gG
  generalize rows.getD i [] = r at h ⊢
  rw [List.getElem?_map, List.getD_eq_getElem?_getD, List.getElem?_eq_getElem h]
  rfl
theorem Grid.fresh (G : Grid H0 H L as n rows) {D : Addr} (hD : H D = none) : D ≠ L ∧ D ∉ as ∧ H0 D = none := by
  refine ⟨fun z => (by rw [z, G.l] at hD; cases hD), fun z => ?_, ?_⟩
  · obtain ⟨i, hi, e⟩ := List.mem_iff_getElem.mp z
    obtain ⟨a, e1, e2⟩ := G.row (i := i) (by rw [← G.an]; exact hi)
    rw [List.getElem?_eq_getElem hi, e] at e1
    cases e1
    rw [e2] at hD
    cases hD
  · cases e : H0 D with
    | none => rfl
    | some o => rw [G.kp _ _ e] at hD; cases hD
theorem Grid.other (G : Grid H0 H L as n rows) {D : Addr} {o : HO} (h : D ≠ L ∧ D ∉ as ∧ H0 D = none) : Grid H0 (upd H D o) L as n rows where
  l := by rw [upd_ne (Ne.symm h.1)]; exact G.l
  an := G.an
  rn := G.rn
  rl := G.rl
  ra := fun i a r h1 h2 => by
    have na : a ≠ D := fun z => h.2.1 (by rw [← z]; exact List.mem_of_getElem? h1)
    rw [upd_ne na]
    exact G.ra i a r h1 h2
  inj := G.inj
  ne := G.ne
  kp := fun b u hb => by
    have nb : b ≠ D := fun z => by rw [z, h.2.2] at hb; cases hb
    rw [upd_ne nb]
    exact G.kp b u hb
  fL := G.fL
  fa := G.fa
theorem mem_of_get? {α : Type} {xs : List α} {i : Nat} {x : α} (h : xs[i]? = some x) : x ∈ xs := by
  obtain ⟨h1, h2⟩ := List.getElem?_eq_some_iff.mp h
  rw [← h2]; exact List.getElem_mem h1
theorem Grid.put (G : Grid H0 H L as n rows) {i : Nat} {a : Addr} {r : List Int} (hi : i < n) (ha : as[i]? = some a) (hr : r.length = n) : Grid H0 (upd H a (.lst (r.map V.int))) L as n (rows.set i r) where
  l := by
    have na : L ≠ a := fun e => G.ne (by rw [e]; exact mem_of_get? ha)
    rw [upd_ne na]; exact G.l
  an := G.an
  rn := by rw [List.length_set]; exact G.rn
  rl := fun x hx => by
    rcases List.mem_or_eq_of_mem_set hx with h | h
    · exact G.rl x h
    · rw [h]; exact hr
  ra := fun m b s h1 h2 => by
    by_cases e : m = i
    · subst e
      rw [ha] at h1
      cases h1
      rw [List.getElem?_set_self (by rw [G.rn]; exact hi)] at h2
      cases h2
      exact upd_same
    · rw [List.getElem?_set_ne (Ne.symm e)] at h2
      have nb : b ≠ a := fun z => e (G.inj m i b h1 (by rw [z]; exact ha))
      rw [upd_ne nb]
      exact G.ra m b s h1 h2
  inj := G.inj
  ne := G.ne
  kp := fun b o h => by
    have nb : b ≠ a := fun z => by rw [z, G.fa a (mem_of_get? ha)] at h; cases h
    rw [upd_ne nb]; exact G.kp b o h
  fL := G.fL
  fa := G.fa
theorem get_set2 {α : Type} {xs : List α} {k h m : Nat} {x y : α} (hk : k < xs.length) (hh : h < xs.length) : ((xs.set k x).set h y)[m]? = if m = h then some y else if m = k then some x else xs[m]? := by
  by_cases e : m = h
  · subst e
    rw [if_pos rfl, List.getElem?_set_self (by rw [List.length_set]; exact hh)]
  · rw [if_neg e, List.getElem?_set_ne (Ne.symm e)]
    by_cases e2 : m = k
    · subst e2
      rw [if_pos rfl, List.getElem?_set_self hk]
    · rw [if_neg e2, List.getElem?_set_ne (Ne.symm e2)]
theorem Grid.swap (G : Grid H0 H L as n rows) {k h : Nat} {a b : Addr} (hk : k < n) (hh : h < n) (ne : h ≠ k) (ha : as[k]? = some a) (hb : as[h]? = some b) :
    Grid H0 (upd H L (.lst (((as.map V.ref).set k (.ref b)).set h (.ref a)))) L ((as.set k b).set h a) n (swapR rows k h) where
  l := by rw [upd_same, List.map_set, List.map_set]
  an := by rw [List.length_set, List.length_set]; exact G.an
  rn := by rw [swapR, List.length_set, List.length_set]; exact G.rn
  rl := fun x hx => by
    rcases List.mem_or_eq_of_mem_set hx with h1 | h1
    · rcases List.mem_or_eq_of_mem_set h1 with h2 | h2
      · exact G.rl x h2
      · rw [h2]; exact G.wide hh
    · rw [h1]; exact G.wide hk
  ra := fun m c s h1 h2 => by
    rw [get_set2 (by rw [G.an]; exact hk) (by rw [G.an]; exact hh)] at h1
    rw [swapR, get_set2 (by rw [G.rn]; exact hk) (by rw [G.rn]; exact hh)] at h2
    have look : ∀ (i : Nat) (c : Addr), i < n → as[i]? = some c → (upd H L (.lst (((as.map V.ref).set k (.ref b)).set h (.ref a)))) c = some (.lst ((rows.getD i []).map V.int)) := fun i c hi hc => by
      obtain ⟨c', e1, e2⟩ := G.row hi
      rw [hc] at e1
      cases e1
      have nc : c ≠ L := fun z => G.ne (by rw [← z]; exact mem_of_get? hc)
      rw [upd_ne nc]; exact e2
    by_cases e : m = h
    · rw [if_pos e] at h1 h2
      cases h1; cases h2
      exact look k _ hk ha
    · rw [if_neg e] at h1 h2
      by_cases e2 : m = k
      · rw [if_pos e2] at h1 h2
        cases h1; cases h2
        exact look h _ hh hb
      · rw [if_neg e2] at h1 h2
        have nc : c ≠ L := fun z => G.ne (by rw [← z]; exact mem_of_get? h1)
        rw [upd_ne nc]; exact G.ra m c s h1 h2
  inj := fun i j c h1 h2 => by
    have hne : a ≠ b := fun z => ne (G.inj h k b hb (by rw [← z]; exact ha))
    rw [get_set2 (by rw [G.an]; exact hk) (by rw [G.an]; exact hh)] at h1 h2
    by_cases e : i = h
    · rw [if_pos e] at h1
      cases h1
      by_cases f : j = h
      · omega
      · rw [if_neg f] at h2
        by_cases f2 : j = k
        · rw [if_pos f2] at h2; cases h2; exact absurd rfl hne
        · rw [if_neg f2] at h2
          exact absurd (G.inj j k _ h2 ha) f2
    · rw [if_neg e] at h1
      by_cases e2 : i = k
      · rw [if_pos e2] at h1
        cases h1
        by_cases f : j = h
        · rw [if_pos f] at h2; cases h2; exact absurd rfl hne
        · rw [if_neg f] at h2
          by_cases f2 : j = k
          · omega
          · rw [if_neg f2] at h2
            exact absurd (G.inj j h _ h2 hb) f
      · rw [if_neg e2] at h1
        by_cases f : j = h
        · rw [if_pos f] at h2; cases h2; exact absurd (G.inj i k _ h1 ha) e2
        · rw [if_neg f] at h2
          by_cases f2 : j = k
          · rw [if_pos f2] at h2; cases h2; exact absurd (G.inj i h _ h1 hb) e
          · rw [if_neg f2] at h2
            exact G.inj i j c h1 h2
  ne := fun hx => by
    rcases List.mem_or_eq_of_mem_set hx with h1 | h1
    · rcases List.mem_or_eq_of_mem_set h1 with h2 | h2
      · exact G.ne h2
      · exact G.ne (by rw [h2]; exact mem_of_get? hb)
    · exact G.ne (by rw [h1]; exact mem_of_get? ha)
  kp := fun c o hc => by
    have nc : c ≠ L := fun z => by rw [z, G.fL] at hc; cases hc
    rw [upd_ne nc]; exact G.kp c o hc
  fL := G.fL
  fa := fun c hc => by
    rcases List.mem_or_eq_of_mem_set hc with h1 | h1
    · rcases List.mem_or_eq_of_mem_set h1 with h2 | h2
      · exact G.fa c h2
      · rw [h2]; exact G.fa b (mem_of_get? hb)
    · rw [h1]; exact G.fa a (mem_of_get? ha)
end
section
variable {K : PySem.W.Frag} {H0 H : Hp} {L : Addr} {as : List Addr} {n : Nat} {rows : Rows} {σ : L2.St} {Q : VK}
abbrev tV (i : Nat) : TE := fun σ H Q => ∃ v, σ[i]? = some (some v) ∧ Q v H
end
def rListOf (K : PySem.W.Frag) : List V → Hp → VK → Prop := fun xs H Q => ∃ p ys, xs = [V.ref p] ∧ (SqL K H p ys ∨ SqT K H p ys) ∧ ∀ l, H l = none → Q (.ref l) (upd H l (.lst ys))
end DL

set_option Elab.async false
set_option linter.all false
set_option maxRecDepth 100000
set_option maxHeartbeats 4000000
/-! ELpp: three names stored at once -/
namespace DL
open PySem PySem.Spec PyProof.Rows L2
section
variable {X : Cx} {pos : Pos}
/-- a, b, c = e1, e2, e3 -/
def wPar3 (i j l : Nat) (a b c : WE) : WS := fun E ρ k => a ρ k fun r1 ρ1 k1 => b ρ1 k1 fun r2 ρ2 k2 => c ρ2 k2 fun r3 ρ3 k3 => ∃ ds ρ4, frzL ρ3 [r1, r2, r3] = some (ds, ρ4) ∧ ∃ x y z, ds = [x, y, z] ∧ E.nx (((ρ4.set i (.val x)).set j (.val y)).set l (.val z)) k3
end
@[simp] theorem s_Par3 {ρ : En} {k : Kt} {E : DEnds} {i j l : Nat} {a b c : WE} : wPar3 i j l a b c E ρ k = a ρ k fun r1 ρ1 k1 => b ρ1 k1 fun r2 ρ2 k2 => c ρ2 k2 fun r3 ρ3 k3 => ∃ ds ρ4, frzL ρ3 [r1, r2, r3] = some (ds, ρ4) ∧ ∃ x y z, ds = [x, y, z] ∧ E.nx (((ρ4.set i (.val x)).set j (.val y)).set l (.val z)) k3 := rfl
end DL

set_option Elab.async false
set_option linter.all false
set_option maxRecDepth 100000
/-! ELfc: numbers made plain before they are kept: for reckoning in the kernel -/
namespace DL
open PySem PySem.Spec PyProof.Rows L2
def fN {α : Type} (n : Nat) (k : Nat → α) : α := match n with
  | 0 => k 0
  | m + 1 => k (Nat.succ m)
def fI {α : Type} (x : Int) (k : Int → α) : α := match x with
  | .ofNat n => fN n fun m => k (.ofNat m)
  | .negSucc n => fN n fun m => k (.negSucc m)
def fL {α : Type} : List Int → (List Int → α) → α
  | [], k => k []
  | x :: r, k => fI x fun x' => fL r fun r' => k (x' :: r')
def fR {α : Type} : Rows → (Rows → α) → α
  | [], k => k []
  | x :: r, k => fL x fun x' => fR r fun r' => k (x' :: r')
def fA {α : Type} : List (Int × Int) → (List (Int × Int) → α) → α
  | [], k => k []
  | (x, y) :: r, k => fI x fun x' => fI y fun y' => fA r fun r' => k ((x', y') :: r')
/-! determinants -/
def elimR2 (last : Int) (k i : Nat) : Nat → Nat → Rows → Option Rows
  | 0, _, rows => some rows
  | m + 1, j, rows => match cellOk last k i j rows with
    | true => fI (cellV last k i j rows) fun v => fR (rows.set i ((rows.getD i []).set j v)) fun rows' => elimR2 last k i m (j + 1) rows'
    | false => none
def elimI2 (n : Nat) (last : Int) (k : Nat) : Nat → Nat → Rows → Option Rows
  | 0, _, rows => some rows
  | m + 1, i, rows => match elimR2 last k i (n - (k + 1)) (k + 1) rows with
    | some rows' => elimI2 n last k m (i + 1) rows'
    | none => none
def detK2 (fst : Bool) (n : Nat) : Nat → Nat → Int → Int → Rows → Option Int
  | 0, _, _, sign, rows => some (sign * gG rows (n - 1) (n - 1))
  | m + 1, k, last, sign, rows => match headAt fst (headsN n rows k) with
    | none => some 0
    | some h => fR (if h ≠ k then swapR rows k h else rows) fun rows1 => match elimI2 n last k (n - (k + 1)) (k + 1) rows1 with
      | none => none
      | some rows2 => fI (gG rows2 k k) fun l => fI (if h ≠ k then -sign else sign) fun s => detK2 fst n m (k + 1) l s rows2
def detF2 (fst : Bool) (rows : Rows) : Option Int := detK2 fst rows.length (rows.length - 1) 0 1 1 rows
end DL

set_option Elab.async false
set_option linter.all false
set_option maxRecDepth 100000
set_option maxHeartbeats 4000000
/-! ELst: sorted(set(x)) of rows of one length -/
namespace DL
open PySem PySem.Spec PyProof.Rows L2
def fSortSet : FN := fun ds P => ∃ (d : Nat) (B : Int) (xs : List (List Int)), ds = [.lst (xs.map fun r => .tup (r.map .int))] ∧ 1 ≤ d ∧ (∀ r ∈ xs, r.length = d ∧ ∀ m ∈ r, 0 ≤ m ∧ m < B) ∧ xs.length < 64 ∧
  ∀ ys : List (List Int), ys.Nodup → (∀ y, y ∈ ys ↔ y ∈ xs) → P (.lst (ys.map fun r => .tup (r.map .int)))
def rSortSet (K : PySem.W.Frag) (P : Program) (w : World) : List V → Hp → VK → Prop := fun vs H Q => rSetOfT K P w vs H fun v H1 => rSortedT K P w [v] H1 Q
section
variable {X : Cx} {pos pos2 ps1 ps2 : Pos} {e : Expr} {wa : WA}
end
@[simp] theorem s_sortSet {xs : List D} {P : D → Prop} : fSortSet [.lst xs] P = ∃ (d : Nat) (B : Int) (rs : List (List Int)), [D.lst xs] = [.lst (rs.map fun r => .tup (r.map .int))] ∧ 1 ≤ d ∧ (∀ r ∈ rs, r.length = d ∧ ∀ m ∈ r, 0 ≤ m ∧ m < B) ∧ rs.length < 64 ∧
  ∀ ys : List (List Int), ys.Nodup → (∀ y, y ∈ ys ↔ y ∈ rs) → P (.lst (ys.map fun r => .tup (r.map .int))) := rfl
end DL

set_option Elab.async false
set_option linter.all false
set_option maxRecDepth 100000
set_option maxHeartbeats 4000000
/-! ELsd: sorted(set(x)) of rows of any lengths -/
namespace DL
open PySem PySem.Spec PyProof.Rows L2 PySem.W
def tIn (ns : List Int) : PyData := .tuple (ns.map .int)
abbrev leT (q r : Addr × List Int) : Bool := dataLe false (fun q : Addr × List Int => tIn q.2) q r
section
variable {P : Program} {w : World} {A : Around} {E : Value → Shared → Prop} {s : Shared}
end
def rSortedTD (K : PySem.W.Frag) (P : Program) (w : World) : List V → Hp → VK → Prop := fun vs H Q => ∃ (a : Addr) (L : List (Addr × List Int)), vs = [V.ref a] ∧ H a = some (SetTO P w a L) ∧ (∀ p ∈ L, SqT K H p.1 (p.2.map V.int)) ∧
  (∀ L1 : List (Addr × List Int), (∀ q ∈ L1, q ∈ L) → AllAlike (L1.map fun q => tIn q.2) ∧ Sortable (L1.map fun q => tIn q.2)) ∧
  ∀ (L1 : List (Addr × List Int)) (p : Addr), L1.Perm L → (L1.map (·.2)).Nodup → H p = none → Q (.ref p) (upd H p (.lst ((L1.mergeSort leT).map fun q => V.ref q.1)))
section
variable {X : Cx}
end
def rSortSetN (K : PySem.W.Frag) (P : Program) (w : World) : List V → Hp → VK → Prop := fun vs H Q => rSetOfT K P w vs H fun v H1 => rSortedTD K P w [v] H1 Q
def ltL : List Int → List Int → Bool
  | [], [] => false
  | [], _ :: _ => true
  | _ :: _, [] => false
  | x :: a, y :: b => if x = y then ltL a b else decide (x < y)
/-- sorted(set(rows)): the rows, each once, ascending -/
def fSortSetN : FN := fun ds P => ∃ rows : List (List Int), ds = [.lst (rows.map fun r => .tup (r.map .int))] ∧ rows.length < 64 ∧ (∀ r ∈ rows, r ≠ []) ∧
  ∀ ys : List (List Int), ys.Nodup → (∀ y, y ∈ ys ↔ y ∈ rows) → ys.Pairwise (fun a b => ltL b a = false) → P (.lst (ys.map fun r => .tup (r.map .int)))
section
variable {X : Cx} {pos pos2 ps1 ps2 : Pos} {e : Expr} {wa : WA}
end
@[simp] theorem s_sortSetN {xs : List D} {P : D → Prop} : fSortSetN [.lst xs] P = ∃ rows : List (List Int), [D.lst xs] = [.lst (rows.map fun r => .tup (r.map .int))] ∧ rows.length < 64 ∧ (∀ r ∈ rows, r ≠ []) ∧
  ∀ ys : List (List Int), ys.Nodup → (∀ y, y ∈ ys ↔ y ∈ rows) → ys.Pairwise (fun a b => ltL b a = false) → P (.lst (ys.map fun r => .tup (r.map .int))) := rfl
end DL

set_option Elab.async false
set_option linter.all false
set_option maxRecDepth 100000
/-! ELfm: mirrors, rounds, orders and ways, reckoned quickly (in the kernel) -/
namespace DL
open PySem PySem.Spec PyProof.Rows L2
def gN : List Int → Nat → Int
  | [], _ => 0
  | x :: _, 0 => x
  | _ :: r, i + 1 => gN r i
/-- an item put in its place, the row laid anew -/
def fS {α : Type} : List Int → Nat → Int → (List Int → α) → α
  | [], _, _, k => k []
  | _ :: r, 0, v, k => k (v :: r)
  | x :: r, i + 1, v, k => fS r i v fun r' => k (x :: r')
def nbS (a : List Int) : List Nat → Int
  | [] => 0
  | j :: r => gN a j + nbS a r
def nbL (i : Int) : List (Int × Int) → List Nat
  | [] => []
  | p :: r => if p.1 = i then p.2.toNat :: nbL i r else if p.2 = i then p.1.toNat :: nbL i r else nbL i r
def fNs {α : Type} : List Nat → (List Nat → α) → α
  | [], k => k []
  | x :: r, k => fN x fun x' => fNs r fun r' => k (x' :: r')
def fNt {α : Type} : List (List Nat) → (List (List Nat) → α) → α
  | [], k => k []
  | x :: r, k => fNs x fun x' => fNt r fun r' => k (x' :: r')
def lN : List (List Nat) → Nat → List Nat
  | [], _ => []
  | x :: _, 0 => x
  | _ :: r, i + 1 => lN r i
def nbT (n : Nat) (ar : List (Int × Int)) : List (List Nat) := (List.range n).map fun i : Nat => nbL (i : Int) ar
def fmirK {α : Type} (nb : List (List Nat)) (a : List Int) (i : Nat) (k : List Int → α) : α := fI (nbS a (lN nb i) - gN a i) fun v => fS a i v k
def froundK {α : Type} (nb : List (List Nat)) : List Nat → List Int → (List Int → α) → α
  | [], a, k => k a
  | i :: r, a, k => fmirK nb a i fun a' => froundK nb r a' k
def negB : List Int → Bool
  | [] => false
  | .negSucc _ :: _ => true
  | .ofNat _ :: r => negB r
def posB : List Int → Bool
  | [] => false
  | .negSucc _ :: r => posB r
  | .ofNat 0 :: r => posB r
  | .ofNat (_ + 1) :: _ => true
/-- a row led on as long as it is of sizes: the rows, the end -/
def ledR (g : List Int → List Int) : Nat → List Int → List (List Int) × List Int
  | 0, a => ([], a)
  | f + 1, a => if negB a = true then ([], a) else (a :: (ledR g f (g a)).1, (ledR g f (g a)).2)
def ledK {α : Type} (nb : List (List Nat)) (F : List Nat) : Nat → List Int → List (List Int) → (List (List Int) → List Int → α) → α
  | 0, a, acc, k => k acc a
  | f + 1, a, acc, k => match negB a with
    | true => k acc a
    | false => froundK nb F a fun a' => ledK nb F f a' (a :: acc) k
/-! rows as numbers -/
def codeN : List Int → Nat
  | [] => 0
  | x :: r => x.toNat + 64 * codeN r
def memN (c : Nat) : List Nat → Bool
  | [] => false
  | x :: r => match Nat.beq c x with
    | true => true
    | false => memN c r
/-! arrows in order -/
def insP (p : Int × Int) : List (Int × Int) → List (Int × Int)
  | [] => [p]
  | q :: r => if leP p q then p :: q :: r else q :: insP p r
def isortP : List (Int × Int) → List (Int × Int)
  | [] => []
  | p :: r => insP p (isortP r)
theorem insP_perm (p : Int × Int) : ∀ xs, (insP p xs).Perm (p :: xs)
  | [] => .refl _
  | q :: r => by
    rw [insP]
    split
    · exact .refl _
    · exact ((insP_perm p r).cons q).trans (.swap p q r)
theorem isortP_perm : ∀ xs, (isortP xs).Perm xs
  | [] => .refl _
  | p :: r => (insP_perm p _).trans ((isortP_perm r).cons p)
theorem leP_total (p q : Int × Int) : leP p q = true ∨ leP q p = true := by
  simp only [leP, decide_eq_true_eq]; omega
theorem leP_trans {p q r : Int × Int} (h : leP p q = true) (g : leP q r = true) : leP p r = true := by
  simp only [leP, decide_eq_true_eq] at h g ⊢; omega
theorem leP_anti {p q : Int × Int} (h : leP p q = true) (g : leP q p = true) : p = q := by
  simp only [leP, decide_eq_true_eq] at h g
  exact Prod.ext (by omega) (by omega)
theorem insP_sorted (p : Int × Int) : ∀ xs : List (Int × Int), xs.Pairwise (fun a b => leP a b = true) → (insP p xs).Pairwise fun a b => leP a b = true
  | [], _ => by simp [insP]
  | q :: r, h => by
    rw [List.pairwise_cons] at h
    rw [insP]
    split
    · next e => exact List.pairwise_cons.mpr ⟨fun x hx => (List.mem_cons.mp hx).elim (fun z => by rw [z]; exact e) fun z => leP_trans e (h.1 x z), List.pairwise_cons.mpr h⟩
    · next e =>
      refine List.pairwise_cons.mpr ⟨fun x hx => ?_, insP_sorted p r h.2⟩
      rcases List.mem_cons.mp ((insP_perm p r).mem_iff.mp hx) with z | z
      · rw [z]; exact (leP_total p q).resolve_left e
      · exact h.1 x z
theorem isortP_sorted : ∀ xs : List (Int × Int), (isortP xs).Pairwise fun a b => leP a b = true
  | [] => .nil
  | p :: r => insP_sorted p _ (isortP_sorted r)
theorem isortP_eq {xs ys : List (Int × Int)} (h : xs.Perm ys) : isortP xs = sortP ys := by
  have s2 : (sortP ys).Pairwise fun a b => leP a b = true := List.pairwise_mergeSort (le := leP) (fun a b c h g => leP_trans h g) (fun a b => by rcases leP_total a b with z | z <;> simp [z]) ys
  have key : ∀ {l m : List (Int × Int)}, l.Perm m → l.Pairwise (fun a b => leP a b = true) → m.Pairwise (fun a b => leP a b = true) → l = m := by
    intro l
    induction l with
    | nil => intro m h _ _; exact h.symm.eq_nil.symm
    | cons x r ih =>
      intro m h hl hm
      cases m with
      | nil => exact absurd h.eq_nil (by simp)
      | cons y s =>
        rw [List.pairwise_cons] at hl hm
        have e : x = y := by
          rcases List.mem_cons.mp (h.mem_iff.mp List.mem_cons_self) with z | z
          · exact z
          · rcases List.mem_cons.mp (h.mem_iff.mpr List.mem_cons_self) with z' | z'
            · exact z'.symm
            · exact leP_anti (hl.1 y z') (hm.1 x z)
        subst e
        rw [ih h.cons_inv hl.2 hm.2]
  exact key ((isortP_perm xs).trans (h.trans (sortP_perm ys).symm)) (isortP_sorted xs) s2
end DL

set_option Elab.async false
set_option linter.all false
set_option maxRecDepth 100000
/-! ELfw: rows of ways reckoned quickly; signs of rows -/
namespace DL
open PySem PySem.Spec PyProof.Rows L2
def wayK {α : Type} (pt : Int) : List (Int × Int) → List Int → (List Int → α) → α
  | [], w, k => k w
  | p :: r, w, k => if p.1 = pt then fI (gI w p.2 + gI w pt) fun v => fS w p.2.toNat v fun w' => wayK pt r w' k else wayK pt r w k
def waysK {α : Type} (ar : List (Int × Int)) : List Int → List Int → (List Int → α) → α
  | [], w, k => k w
  | pt :: r, w, k => wayK pt ar w fun w' => waysK ar r w' k
def eqB : List Int → List Int → Bool
  | [], [] => true
  | x :: a, y :: b => if x = y then eqB a b else false
  | _, _ => false
/-- the places behind one -/
def behind (i : Int) : List Int → List Int
  | [] => []
  | x :: r => if x = i then r else behind i r
def smB64 : List Int → Bool
  | [] => true
  | x :: r => if 0 ≤ x ∧ x < 64 then smB64 r else false
def nodN : List Nat → Bool
  | [] => true
  | x :: r => match memN x r with
    | true => false
    | false => nodN r
/-! one row added to another -/
def addL : List Int → List Int → List Int
  | x :: a, y :: b => (x + y) :: addL a b
  | _, _ => []
end DL

set_option Elab.async false
set_option linter.all false
set_option maxRecDepth 100000
set_option maxHeartbeats 4000000
/-! ELsr: rows of ints sorted -/
namespace DL
open PySem PySem.Spec PyProof.Rows L2
abbrev tI (a : List Int) : D := .tup (a.map .int)
def sortR (xs : List (List Int)) : List (List Int) := xs.mergeSort fun a b => decide (a ≤ b)
end DL

set_option Elab.async false
set_option linter.all false
set_option maxRecDepth 100000
set_option maxHeartbeats 4000000
/-! ELdp: leading determinants above nought make a form positive, up to five -/
namespace DL
open PySem PySem.Spec PyProof.Rows L2
def c3 (a00 a01 a0i a0j a11 a1i a1j aij : Int) : Int := a00 * (a11 * aij - a1j * a1i) - a01 * (a01 * aij - a1j * a0i) + a0j * (a01 * a1i - a11 * a0i)
end DL

set_option Elab.async false
set_option linter.all false
set_option maxRecDepth 100000
set_option maxHeartbeats 4000000
/-! ELdq: what the steps of a determinant leave; when they come to an end -/
namespace DL
open PySem PySem.Spec PyProof.Rows L2
def Sq (n : Nat) (rows : Rows) : Prop := rows.length = n ∧ ∀ r ∈ rows, r.length = n
theorem Sq.row {n : Nat} {rows : Rows} (h : Sq n rows) {i : Nat} (hi : i < n) : (rows.getD i []).length = n := by
  rw [List.getD_eq_getElem?_getD, List.getElem?_eq_getElem (by rw [h.1]; exact hi)]
  exact h.2 _ (List.getElem_mem _)
theorem Sq.set {n : Nat} {rows : Rows} (h : Sq n rows) {i : Nat} {r : List Int} (hr : r.length = n) : Sq n (rows.set i r) :=
  ⟨by rw [List.length_set]; exact h.1, fun x hx => by
    rcases List.mem_or_eq_of_mem_set hx with h1 | h1
    · exact h.2 x h1
    · rw [h1]; exact hr⟩
mutual
def Ek (A : Nat → Nat → Int) : Nat → Nat → Nat → Int
  | 0, i, j => A i j
  | k + 1, i, j => (Ek A k i j * Ek A k k k - Ek A k i k * Ek A k k j).fdiv (lastE A k)
def lastE (A : Nat → Nat → Int) : Nat → Int
  | 0 => 1
  | k + 1 => Ek A k k k
end
/-- an end there is -/
def Bd (B : Int) (rows : Rows) : Prop := ∀ a b, -B ≤ gG rows a b ∧ gG rows a b ≤ B
def okB : Nat → Int → Bool
  | 0, _ => true
  | m + 1, B => decide (1 ≤ B) && decide (B < 4611686018427387904) && (decide (m = 0) || decide (B < 1073741824)) && okB m (2 * (B * B))
end DL

set_option Elab.async false
set_option linter.all false
set_option maxRecDepth 100000
set_option maxHeartbeats 4000000
/-! ELde: determinants up to five, by whole steps, whichever row leads -/
namespace DL
open PySem PySem.Spec PyProof.Rows L2
abbrev Mt := Nat → Nat → Int
def t2 (M : Mt) (i j : Nat) : Int := M 0 i * M 1 j - M 0 j * M 1 i
def t3 (M : Mt) (i j k : Nat) : Int := M 2 k * t2 M i j - M 2 j * t2 M i k + M 2 i * t2 M j k
def t4 (M : Mt) (i j k l : Nat) : Int := M 3 l * t3 M i j k - M 3 k * t3 M i j l + M 3 j * t3 M i k l - M 3 i * t3 M j k l
def mk (M : Mt) : Nat → Nat → Nat → Int
  | 0, a, b => M a b
  | 1, a, b => M 0 0 * M a b - M 0 b * M a 0
  | 2, a, b => M a b * t2 M 0 1 - M a 1 * t2 M 0 b + M a 0 * t2 M 1 b
  | 3, a, b => M a b * t3 M 0 1 2 - M a 2 * t3 M 0 1 b + M a 1 * t3 M 0 2 b - M a 0 * t3 M 1 2 b
  | _, a, b => M a b * t4 M 0 1 2 3 - M a 3 * t4 M 0 1 2 b + M a 2 * t4 M 0 1 3 b - M a 1 * t4 M 0 2 3 b + M a 0 * t4 M 1 2 3 b
theorem st0 (M : Mt) (a b : Nat) : mk M 0 a b * mk M 0 0 0 - mk M 0 a 0 * mk M 0 0 b = mk M 1 a b := by
  simp only [mk]; grind
def cR (M : Mt) (k : Nat) (w : Nat → Int) : Mt := fun i j => if j = k then w i else M i j
def swM (M : Mt) (k h : Nat) : Mt := fun i j => if i = k then M h j else if i = h then M k j else M i j
end DL

set_option Elab.async false
set_option linter.all false
set_option maxRecDepth 100000
set_option maxHeartbeats 4000000
/-! ELdh: what the steps of a determinant come to, whichever row leads -/
namespace DL
open PySem PySem.Spec PyProof.Rows L2
def lastM (M : Mt) : Nat → Int
  | 0 => 1
  | k + 1 => mk M k k k
end DL

set_option Elab.async false
set_option linter.all false
set_option maxRecDepth 100000
set_option maxHeartbeats 1000000
/-! ELtx: texts: split, join, str(int), int(text), a sign in a text, list(text), text[::-1] -/
namespace DL
open PySem PySem.Spec PyProof.Rows L2
section
variable {X : Cx} {pos : Pos}
/-- a.split(b) -/
def wSplit (wo we : WE) : WL := fun ρ k Q => wo ρ k fun x ρ1 k1 => ∃ a : Str, deref ρ1 x = some (.str a) ∧ we ρ1 k1 fun y ρ2 k2 => ∃ b : Str, deref ρ2 y = some (.str b) ∧ (b.length == 0) = false ∧ a.length + 2 ≤ sizeLine ∧ Q ((Txt.split a b).map .str) ρ2 k2
/-- a.join(b) -/
def wJoin (wo we : WE) : WE := fun ρ k Q => wo ρ k fun x ρ1 k1 => ∃ a : Str, deref ρ1 x = some (.str a) ∧ we ρ1 k1 fun y ρ2 k2 => ∃ (d : D) (ys : List Str), deref ρ2 y = some d ∧ (d = .lst (ys.map .str) ∨ d = .tup (ys.map .str)) ∧ (ys.map (·.length)).sum + ys.length * a.length ≤ 16777216 ∧ Q (.val (.str (Txt.join a ys))) ρ2 k2
/-- str(i) -/
def fStrI : FN := fun ds P => ∃ i : Int, ds = [.int i] ∧ i.natAbs.log2 < 1920 ∧ P (.str (toString i))
/-- int(text) -/
def fIntS : FN := fun ds P => ∃ (a : Str) (n : Int), ds = [.str a] ∧ PySem.intText? a = some n ∧ a.length ≤ 640 ∧ P (.int n)
/-- a sign in a text -/
def fInSg : F2 := fun x y P => ∃ (c : Nat) (z : Str), x = .str ⟨#[c]⟩ ∧ y = .str z ∧ P (.bl (decide (c ∈ z.cps.toList)))
def fNotInSg : F2 := fun x y P => ∃ (c : Nat) (z : Str), x = .str ⟨#[c]⟩ ∧ y = .str z ∧ P (.bl (!decide (c ∈ z.cps.toList)))
/-- list(text) -/
def fListS : FL := fun ds P => ∃ a : Str, ds = [.str a] ∧ a.length ≤ sizeLine ∧ P (a.cps.toList.map fun c => .str ⟨#[c]⟩)
def rListS : List V → Hp → VK → Prop := fun xs H Q => ∃ a : Str, xs = [.str a] ∧ a.length ≤ sizeLine ∧ ∀ q, H q = none → Q (.ref q) (upd H q (.lst (a.cps.toList.map fun c => V.str ⟨#[c]⟩)))
/-- text[::-1] -/
def revT (z : Str) : Str := ⟨((Builtin.Str.strSliceIndices none none (-1) z.length).filterMap (z.cps[·]?)).toArray⟩
def tRevT (te : TE) : TE := fun σ H Q => te σ H fun x H1 => ∃ z, x = .str z ∧ z.length ≤ sizeLine ∧ Q (.str (revT z)) H1
def fRevT : F1 := fun d P => ∃ z : Str, d = .str z ∧ z.length ≤ sizeLine ∧ P (.str (revT z))
end
section
variable {ρ : En} {k : Kt} {wo we : WE} {Q : R → En → Kt → Prop} {QL : List D → En → Kt → Prop} {P : D → Prop} {PL : List D → Prop} {d e : D} {ds : List D}
@[simp] theorem s_Split : wSplit wo we ρ k QL = wo ρ k fun x ρ1 k1 => ∃ a : Str, deref ρ1 x = some (.str a) ∧ we ρ1 k1 fun y ρ2 k2 => ∃ b : Str, deref ρ2 y = some (.str b) ∧ (b.length == 0) = false ∧ a.length + 2 ≤ sizeLine ∧ QL ((Txt.split a b).map .str) ρ2 k2 := rfl
@[simp] theorem s_Join : wJoin wo we ρ k Q = wo ρ k fun x ρ1 k1 => ∃ a : Str, deref ρ1 x = some (.str a) ∧ we ρ1 k1 fun y ρ2 k2 => ∃ (d : D) (ys : List Str), deref ρ2 y = some d ∧ (d = .lst (ys.map .str) ∨ d = .tup (ys.map .str)) ∧ (ys.map (·.length)).sum + ys.length * a.length ≤ 16777216 ∧ Q (.val (.str (Txt.join a ys))) ρ2 k2 := rfl
@[simp] theorem s_StrI : fStrI ds P = ∃ i : Int, ds = [.int i] ∧ i.natAbs.log2 < 1920 ∧ P (.str (toString i)) := rfl
@[simp] theorem s_IntS : fIntS ds P = ∃ (a : Str) (n : Int), ds = [.str a] ∧ PySem.intText? a = some n ∧ a.length ≤ 640 ∧ P (.int n) := rfl
@[simp] theorem s_InSg : fInSg d e P = ∃ (c : Nat) (z : Str), d = .str ⟨#[c]⟩ ∧ e = .str z ∧ P (.bl (decide (c ∈ z.cps.toList))) := rfl
@[simp] theorem s_NotInSg : fNotInSg d e P = ∃ (c : Nat) (z : Str), d = .str ⟨#[c]⟩ ∧ e = .str z ∧ P (.bl (!decide (c ∈ z.cps.toList))) := rfl
@[simp] theorem s_ListS : fListS ds PL = ∃ a : Str, ds = [.str a] ∧ a.length ≤ sizeLine ∧ PL (a.cps.toList.map fun c => .str ⟨#[c]⟩) := rfl
@[simp] theorem s_RevT : fRevT d P = ∃ z : Str, d = .str z ∧ z.length ≤ sizeLine ∧ P (.str (revT z)) := rfl
end
end DL

set_option Elab.async false
set_option linter.all false
set_option maxRecDepth 100000
set_option maxHeartbeats 1000000
/-! ELpo: x.pop() of an own list -/
namespace DL
open PySem PySem.Spec PyProof.Rows L2
section
variable {X : Cx} {pos : Pos}
def wPop0 (i : Nat) : WE := fun ρ k Q => ∃ (ds : List D) (y : D), ρ[i]? = some (.own (.l ds)) ∧ ds[ds.length - 1]? = some y ∧ Q (.val y) (ρ.set i (.own (.l ds.dropLast))) k
@[simp] theorem s_Pop0 {i : Nat} {ρ : En} {k : Kt} {Q : R → En → Kt → Prop} : wPop0 i ρ k Q = ∃ (ds : List D) (y : D), ρ[i]? = some (.own (.l ds)) ∧ ds[ds.length - 1]? = some y ∧ Q (.val y) (ρ.set i (.own (.l ds.dropLast))) k := rfl
end
end DL

set_option Elab.async false
set_option linter.all false
set_option maxRecDepth 100000
set_option maxHeartbeats 1000000
/-! ELrt: the end of a law of which several defs make lambdas (several tables of code objects) -/
namespace DL
open PySem PySem.Spec PyProof.Rows L2
open LamX (TabS Tabs TabB)
def lawHs (K : PySem.W.Frag) (a : Addr) (Ts : List (Addr × Addr)) (o : Obj) (xs : List V) : Hp := fun b => if b ∈ Ts.map (·.2) then some (.tbl #[]) else if b = a ∧ K.lookup a = none then some (.frz o (.lst xs)) else none
end DL

set_option Elab.async false
set_option linter.all false
set_option maxRecDepth 100000
set_option maxHeartbeats 200000
/-! ELsl: sorted() of a list that may hold one item alone, of any kind; else as fSortD -/
namespace DL
open PySem PySem.Spec PyProof.Rows L2
def rSort1 (K : PySem.W.Frag) : List V → Hp → VK → Prop := fun vs H Q => ∃ (a : Addr) (xs : List V), vs = [V.ref a] ∧ SqL K H a xs ∧ xs.length ≤ 1 ∧ ∀ p, H p = none → Q (.ref p) (upd H p (.lst xs))
section
variable {X : Cx}
def rSortE (K : PySem.W.Frag) : List V → Hp → VK → Prop := fun vs H Q => rSort1 K vs H Q ∨ rSortedDt K vs H Q
def fSort1 : FL := fun ds P => match ds with
  | [.lst xs] => xs.length ≤ 1 ∧ P xs
  | _ => False
def fSortE : FL := fun ds P => fSort1 ds P ∨ fSortD ds P
end
end DL

set_option Elab.async false
set_option linter.all false
set_option maxRecDepth 100000
set_option maxHeartbeats 1000000
/-! ELld: f(lambda a=0: e): a lambda with a parameter that has a default -/
namespace DL
open PySem PySem.Spec PyProof.Rows L2
open LamX (TabS Tabs CodeO lamEnv lamCx TabB)
/-- the function object: as for a lambda without parameters, but dV are its defaults -/
abbrev ldFn (q : Str) (params : Arguments) (body : Expr) (scope : Scope) (cl : List (Str × Addr)) (pm cdv ct dV : Value) : FuncData :=
  { name := "<lambda>", qualname := q, params := params, body := .expr body, scope := scope, globals := mainGlobals, closure := cl, defaults := dV, kwdefaults := .none, doc := .none, pyModule := pm, annotations := none, code := cdv, closureTuple := ct, builtins := builtinsNs }
abbrev ldObj (q : Str) (params : Arguments) (body : Expr) (scope : Scope) (cl : List (Str × Addr)) (pm : Value) (cd : Value) (ct dV : Value) : Obj :=
  { cls := .type "function", data := .func (ldFn q params body scope cl pm cd ct dV) }
section
variable {M : Model} {A : Around} {E Q : Value → Shared → Prop} {s : Shared} {q : Str} {params : Arguments} {body : Expr} {scope : Scope} {env : Env} {c P : Addr} {ps : Array Value} {pos : Pos} {fl : Nat} {mg : Str → Option Value} {cs : List (Str × Addr)} {dV : Value}
end
section
variable {X : Cx} {pins : List (Addr × Obj)} {σ : L2.St} {H : Hp} {s : Shared}
/-- the tuple of its defaults -/
abbrev dfO (v : Value) : Obj := { cls := .type "tuple", data := .seq [v].toArray }
end
/-! ### the lambda's names -/
/-- one parameter x, no other name of its own; captured ones and globals -/
structure LamSD (sc scope : Scope) (x : Str) : Prop where
  kind : scope.kind = .function
  co : scope.isCoroutine = false
  gen : scope.isGenerator = false
  own : ∀ y ∈ scope.names, (y.2 = .local → y.1 = x) ∧ y.2 ≠ .cell
  par : scope.names.lookup x = some .local
  free : ∀ y ∈ scope.names, y.2 = .free → sc.names.lookup y.1 = some .cell ∨ sc.names.lookup y.1 = some .free
def lamSDB (sc scope : Scope) (x : Str) : Bool :=
  decide (scope.kind = .function) && (!scope.isCoroutine && (!scope.isGenerator && (decide (scope.names.lookup x = some .local) && scope.names.all fun y => (!decide (y.2 = .local) || decide (y.1 = x)) && (!decide (y.2 = .cell) && (!decide (y.2 = .free) || (decide (sc.names.lookup y.1 = some .cell) || decide (sc.names.lookup y.1 = some .free)))))))
theorem LamSD.has {X : Cx} {scope : Scope} {x : Str} (L : LamSD X.env.scope scope x) (ok : X.Ok) : ∀ y ∈ scope.names, y.2 = .free → ∃ c, X.env.cells.lookup y.1 = some c := fun y hy e => (L.free y hy e).elim (fun q => ok.has _ (.inl q)) fun q => ok.has _ (.inr q)
section
variable {X : Cx} {pins : List (Addr × Obj)} {σ : L2.St} {H HZ : Hp} {s s1 : Shared}
end
section
variable {X : Cx} {x a n tag : Str} {g c P : Addr} {st : Stmt} {fd : FuncData} {k : Nat} {l : List HC} {cs : List (Addr × List Part)} {tabs : List (Addr × Str)} {params : Arguments} {body : Expr} {scope : Scope} {pos ps lpos : Pos} {wb : WE} {xx : Str} {z0 : Int} {jz : Nat} {pz : Pos}
end
end DL

set_option Elab.async false
set_option linter.all false
set_option maxRecDepth 100000
set_option maxHeartbeats 1000000
/-! ELlz: list(zip(a, b)), each a list or a tuple, as a new list of new tuples -/
namespace DL
open PySem PySem.Spec PyProof.Rows L2 PySem.W
section
variable {prog : Program} {w : World} {A : Around} {E : Value → Shared → Prop} {s : Shared}
end
/-- the loop of list.extend over a zip, at item i: h0, H0 as they stood before, S the new list -/
structure LzI (h0 : Heap) (H0 : Hp) (b1 b2 : Bool) (S z TI TO i1 i2 a b : Addr) (xs ys : List V) (i : Nat) (h : Heap) (acc : Array Value) (Hc : Hp) (ts : List Addr) : Prop where
  zg : ∃ v f, IsZg h z TI TO v f ∧ (v = .none ∨ ∃ T : Addr, v = rawInt T)
  pI : IsPair h TI (.ref i1) (.ref i2)
  pO : ∃ x y, IsPair h TO x y
  j1 : ItK b1 h i1 a i
  j2 : ItK b2 h i2 b i
  keep : ∀ c o, h0.get? c = some o → h.get? c = some o
  lst : ∃ c, h.get? S = some { cls := .type "list", dict := none, data := .seq acc c, slots := #[] }
  acc : acc.toList = ts.map Value.ref
  len : ts.length = i
  ext : AExt H0 Hc
  low : ∀ c, c < h0.objs.size → Hc c = H0 c
  nil : ∀ c, h.objs.size ≤ c → Hc c = none
  noS : Hc S = none
  tup : ∀ (j : Nat) (T : Addr), ts[j]? = some T → ∃ x y, xs[j]? = some x ∧ ys[j]? = some y ∧ H0 T = none ∧ Hc T = some (.tup [x, y])
  new : ∀ c u, H0 c = none → Hc c = some u → (c ≠ S ∧ c ≠ z ∧ c ≠ TI ∧ c ≠ TO ∧ c ≠ i1 ∧ c ≠ i2) ∧ ∃ x y v w, u = .tup [x, y] ∧ RelV x v ∧ RelV y w ∧ IsPair h c v w
section
variable {prog : Program} {w : World} {A : Around} {R : Result → Shared → Prop}
end
section
variable {prog : Program} {w : World} {A : Around} {E : Value → Shared → Prop} {s : Shared}
end
def tLZip (K : PySem.W.Frag) (ta : TA) : TE := fun σ H Q => ta σ H fun vs H1 => ∃ b1 b2 a b xs ys, vs = [.ref a, .ref b] ∧ SqV b1 K H1 a xs ∧ SqV b2 K H1 b ys ∧ xs.length ≤ sizeLine ∧
  ∀ (S : Addr) (Hc : Hp) (ts : List Addr), ts.length = min xs.length ys.length → AExt H1 Hc → Hc S = none → (∀ (j : Nat) (T : Addr), ts[j]? = some T → ∃ x y, xs[j]? = some x ∧ ys[j]? = some y ∧ H1 T = none ∧ Hc T = some (.tup [x, y])) → Q (.ref S) (upd Hc S (.lst (ts.map V.ref)))
theorem SqV.keep {b : Bool} {X : Cx} {pins : List (Addr × Obj)} {σ : L2.St} {H : Hp} {s : Shared} {a : Addr} {xs : List V} (I : Inv X pins σ H s) (h : SqV b X.K H a xs) : ∃ its : List Value, Vals xs its ∧ SqK b s.heap a its.toArray ∧ ∀ h' : Heap, (∀ c o, s.heap.get? c = some o → h'.get? c = some o) → SqK b h' a its.toArray := by
  cases b with
  | true =>
    obtain ⟨its, rv, p, _⟩ := I.list h
    refine ⟨its, rv, p.isList, fun h' k => ?_⟩
    obtain ⟨o, e, c⟩ := p.isList
    exact ⟨o, k _ _ e, c⟩
  | false =>
    obtain ⟨its, rv, p, _⟩ := I.tuple h
    refine ⟨its, rv, p, fun h' k => ?_⟩
    obtain ⟨o, e, c⟩ := p
    exact ⟨o, k _ _ e, c⟩
/-- list(zip(a, b)) -/
def wLZip (a : WA) : WL := fun ρ k Q => a ρ k fun rs ρ1 k1 => ∃ ds ρ2 xs ys, frzL ρ1 rs = some (ds, ρ2) ∧ zipArgK ds = some (xs, ys) ∧ xs.length ≤ sizeLine ∧ Q (zipD xs ys) ρ2 k1
@[simp] theorem s_LZip {wa : WA} {ρ : En} {k : Kt} {QL : List D → En → Kt → Prop} : wLZip wa ρ k QL = wa ρ k fun rs ρ1 k1 => ∃ ds ρ2 xs ys, frzL ρ1 rs = some (ds, ρ2) ∧ zipArgK ds = some (xs, ys) ∧ xs.length ≤ sizeLine ∧ QL (zipD xs ys) ρ2 k1 := rfl
section
variable {X : Cx}
end
end DL

set_option Elab.async false
set_option linter.all false
set_option maxRecDepth 100000
set_option maxHeartbeats 1000000
/-! ELdd: {2: a, 3: b} and x[y], keys ints -/
namespace DL
open PySem PySem.Spec PyProof.Rows L2
theorem RepS.dK {B : Addr → Prop} {H : Hp} {v : V} {ks : List Key} {ds : List D} (h : RepS B H v (.dK ks ds)) : ∃ a vs, v = .ref a ∧ H a = some (.dK (ks.zip vs)) ∧ ks.length = vs.length ∧ RepL B H vs ds := by
  cases h with
  | any h => cases h with | dK h1 h2 e1 e2 h3 => exact ⟨_, _, rfl, by rw [h2, e1], e2, h3⟩
  | own h1 h2 e => cases h2 with
    | l r => cases e
    | k l r => cases e; exact ⟨_, _, rfl, h1, l, r⟩
    | t _ r => cases e
    | i _ r => cases e
section
variable {X : Cx} {pos : Pos} {a b : Expr} {wa wb : WE}
/-- x[y], y an int -/
def wDGetK (a b : WE) : WE := fun ρ k Q => a ρ k fun x ρ1 k1 => b ρ1 k1 fun y ρ2 k2 => ∃ ks ds i d, deref ρ2 x = some (.dK ks ds) ∧ deref ρ2 y = some (.int i) ∧ valD ks ds (.inl i) = some d ∧ Q (.val d) ρ2 k2
@[simp] theorem s_DGetK {ρ : En} {k : Kt} {Q : R → En → Kt → Prop} : wDGetK wa wb ρ k Q = wa ρ k fun x ρ1 k1 => wb ρ1 k1 fun y ρ2 k2 => ∃ ks ds i d, deref ρ2 x = some (.dK ks ds) ∧ deref ρ2 y = some (.int i) ∧ valD ks ds (.inl i) = some d ∧ Q (.val d) ρ2 k2 := rfl
/-- the pairs of a display whose keys are ints as written -/
def DPr (X : Cx) (pos : Pos) (keys : List (Option Expr)) (values : List Expr) (ks : List Int) (w : WA) : Prop := ∃ trs, PPs X pos keys values trs ∧
  ∀ (O : Addr → Prop) (p : Pn) [XL X p] (ρ : En) (k : Kt) (σ : L2.St) (H : Hp) (Q : List R → En → Kt → Prop) (J : List (V × V) → Hp → Prop), Rel O p ρ k σ H → w ρ k Q →
    (∀ vs H' rs ρ' k', Rel O p ρ' k' σ H' → Step p ρ σ H ρ' σ H' → RRepL O ρ' σ H' vs rs → ks.length = vs.length → Q rs ρ' k' → J ((ks.map V.int).zip vs) H') → tPairs trs σ H J
def wDisp (ks : List Int) (wa : WA) : WE := fun ρ k Q => wa ρ k fun rs ρ1 k1 => ∃ ds ρ2, frzL ρ1 rs = some (ds, ρ2) ∧ Q (.val (.dK (ks.map Sum.inl) ds)) ρ2 k1
@[simp] theorem s_Disp {ks : List Int} {wa : WA} {ρ : En} {k : Kt} {Q : R → En → Kt → Prop} : wDisp ks wa ρ k Q = wa ρ k fun rs ρ1 k1 => ∃ ds ρ2, frzL ρ1 rs = some (ds, ρ2) ∧ Q (.val (.dK (ks.map Sum.inl) ds)) ρ2 k1 := rfl
end
end DL

set_option Elab.async false
set_option linter.all false
set_option maxRecDepth 100000
set_option maxHeartbeats 1000000
/-! ELll: for x in [lambda: e, ..]: .. f(x) .. , f a def that hears -/
namespace DL
open PySem PySem.Spec PyProof.Rows L2
open LamX (TabS Tabs CodeO LamS lamEnv lamCx TabB)
section
variable {X : Cx} {pins : List (Addr × Obj)} {σ : L2.St} {H : Hp} {s : Shared}
/-- the object of a lambda -/
abbrev lamO (X : Cx) (params : Arguments) (body : Expr) (scope : Scope) (pm : Value) (c' : Addr) (ct : Value) : Obj := PySem.W.kla_obj "<lambda>" (X.env.qual ++ "<lambda>") params body scope (cloFrom X.env.cells scope.names []) pm c' ct
/-- .. known to stand at f -/
def LamAt (X : Cx) (params : Arguments) (body : Expr) (scope : Scope) (f c' : Addr) (pm ct : Value) (H : Hp) : Prop := H c' = some (CodeO c' (X.env.qual ++ "<lambda>")) ∧ H f = some (.ext fun h => h.get? f = some (lamO X params body scope pm c' ct))
/-- a lambda as a value -/
def tLam (X : Cx) (T : List (Addr × Str)) (P : Addr) (params : Arguments) (body : Expr) (scope : Scope) : TE := fun σ H Q => Tabs T H ∧ ∀ (f c' : Addr) (pm ct : Value) (H1 H2 : Hp), (∀ b o, b ≠ P → H b = some o → H1 b = some o) → Tabs T H1 → H1 f = none → AExt H1 H2 → LamAt X params body scope f c' pm ct H2 → Q (.ref f) H2
end
section
variable {X : Cx} {pins : List (Addr × Obj)} {σ : L2.St} {H HZ : Hp} {s s1 : Shared}
end
/-- as DE, where F is known at the start -/
def DEf (X : Cx) (e : Expr) (F : L2.St → Hp → Prop) (w : WE) : Prop := ∃ t : TE, PE X e t ∧ ∀ (O : Addr → Prop) (p : Pn) [XL X p] (ρ : En) (k : Kt) (σ : L2.St) (H : Hp) (Q : R → En → Kt → Prop) (J : VK), Rel O p ρ k σ H → F σ H → w ρ k Q →
  (∀ v H' r ρ' k', Rel O p ρ' k' σ H' → Step p ρ σ H ρ' σ H' → RRep O ρ' σ H' v r → Q r ρ' k' → J v H') → t σ H J
/-- slot j holds a lambda -/
def FLam (X : Cx) (j : Nat) (params : Arguments) (body : Expr) (scope : Scope) (σ : L2.St) (H : Hp) : Prop := ∃ (f c' : Addr) (pm ct : Value), σ[j]? = some (some (.ref f)) ∧ LamAt X params body scope f c' pm ct H
section
variable {X : Cx} {x a n tag : Str} {g : Addr} {st : Stmt} {fd : FuncData} {k jj : Nat} {l : List HC} {cs : List (Addr × List Part)} {tabs : List (Addr × Str)} {params : Arguments} {body : Expr} {scope : Scope} {pos ps lpos : Pos} {wb : WE} {yy : Str}
end
/-! ### the first statement of a body -/
def DTf (X : Cx) (e : Expr) (F : L2.St → Hp → Prop) (w : WT) : Prop := ∃ t : TT, PT X e t ∧ ∀ (O : Addr → Prop) (p : Pn) [XL X p] (ρ : En) (k : Kt) (σ : L2.St) (H : Hp) (Q : Bool → En → Kt → Prop) (J : Bool → Hp → Prop), Rel O p ρ k σ H → F σ H → w ρ k Q →
  (∀ b H' ρ' k', Rel O p ρ' k' σ H' → Step p ρ σ H ρ' σ H' → Q b ρ' k' → J b H') → t σ H J
def DSf (X : Cx) (st : Stmt) (F : L2.St → Hp → Prop) (w : WS) : Prop := ∃ t : TS, PS X st t ∧ ∀ (O : Addr → Prop) (p : Pn) [XL X p] (ρ : En) (k : Kt) (σ : L2.St) (H : Hp) (E : DEnds) (G : L2.Ends), Rel O p ρ k σ H → F σ H → w E ρ k → EndsOk O p ρ σ H E G → t G σ H
def DSsf (X : Cx) (st : List Stmt) (F : L2.St → Hp → Prop) (w : WS) : Prop := ∃ t : TS, PSs X st t ∧ ∀ (O : Addr → Prop) (p : Pn) [XL X p] (ρ : En) (k : Kt) (σ : L2.St) (H : Hp) (E : DEnds) (G : L2.Ends), Rel O p ρ k σ H → F σ H → w E ρ k → EndsOk O p ρ σ H E G → t G σ H
section
variable {X : Cx} {pos ps' : Pos} {F : L2.St → Hp → Prop}
end
/-! ### a list of lambdas, and the loop over it -/
section
variable {O : Addr → Prop} {p : Pn} {ρ ρ1 : En} {k : Kt} {σ σ1 : L2.St} {H H1 : Hp}
end
abbrev LamD := Arguments × Expr × Scope
def LamV (X : Cx) (H : Hp) : List V → List LamD → Prop := Paired fun v l => ∃ (f c' : Addr) (pm ct : Value), v = .ref f ∧ LamAt X l.1 l.2.1 l.2.2 f c' pm ct H
def DLs (X : Cx) (tabs : List (Addr × Str)) (es : List Expr) (ls : List LamD) : Prop := ∃ t : TA, PA X es t ∧ ∀ (O : Addr → Prop) (p : Pn) (ρ : En) (k : Kt) (σ : L2.St) (H : Hp) (J : List V → Hp → Prop), Rel O p ρ k σ H → k.2.tabs = tabs →
  (∀ vs H', Rel O p ρ k σ H' → Step p ρ σ H ρ σ H' → LamV X H' vs ls → J vs H') → t σ H J
section
variable {X : Cx} {c P : Addr} {tabs : List (Addr × Str)}
def forL (j : Nat) (E : DEnds) : List WS → En → Kt → Prop
  | [], ρ, k => E.nx ρ k
  | w :: ws, ρ, k => j < ρ.length ∧ ∀ f : Addr, w { nx := fun ρ2 k2 => forL j E ws ρ2 k2, rt := E.rt, bk := E.nx, ct := fun ρ2 k2 => forL j E ws ρ2 k2 } (ρ.set j (.val (.obj f))) k
/-- for x in [lambda: .., ..]: the body for each -/
def wForL (tabs : List (Addr × Str)) (j : Nat) (ws : List WS) : WS := fun E ρ k => k.2.tabs = tabs ∧ forL j E ws ρ k
end
end DL

set_option Elab.async false
set_option linter.all false
set_option maxRecDepth 100000
set_option maxHeartbeats 1000000
/-! ELse: len(set(x)), x a list of ints -/
namespace DL
open PySem PySem.Spec PyProof.Rows L2
/-- each once -/
def onceL (ns : List Int) : List Int := ns.foldl step_dedup []
section
variable {X : Cx} {a : Expr} {p p2 q pos : Pos}
def tLenOnce (K : PySem.W.Frag) (ta : TE) : TE := fun σ H Q => ta σ H fun x H1 => ∃ (l : Addr) (ns : List Int), x = .ref l ∧ SqL K H1 l (ns.map V.int) ∧ ns.length ≤ 4000 ∧ Q (.int ((onceL ns).length : Nat)) H1
def wLenSet (a : WE) : WE := fun ρ k Q => a ρ k fun r ρ1 k1 => ∃ ds ns, deref ρ1 r = some (.lst ds) ∧ intsD ds = some ns ∧ ns.length ≤ 4000 ∧ Q (.val (.int ((onceL ns).length : Nat))) ρ1 k1
@[simp] theorem s_LenSet {wa : WE} {ρ : En} {k : Kt} {Q : R → En → Kt → Prop} : wLenSet wa ρ k Q = wa ρ k fun r ρ1 k1 => ∃ ds ns, deref ρ1 r = some (.lst ds) ∧ intsD ds = some ns ∧ ns.length ≤ 4000 ∧ Q (.val (.int ((onceL ns).length : Nat))) ρ1 k1 := rfl
end
end DL

set_option Elab.async false
set_option linter.all false
set_option maxRecDepth 100000
set_option maxHeartbeats 1000000
/-! ELlk: for k in d, [.. for k in d], d a dict whose keys are tuples: it is locked meanwhile -/
namespace DL
open PySem PySem.Spec PyProof.Rows L2
def kD : Key → D
  | .inl i => .int i
  | .inr x => .str x
/-- a key as a tuple -/
def tupK (k : List Key) : D := .tup (k.map kD)
theorem kD_rep {B : Addr → Prop} {H : Hp} : ∀ k : Key, Rep B H (kV k) (kD k)
  | .inl i => .int i
  | .inr x => .str x
theorem kDs_rep {B : Addr → Prop} {H : Hp} : ∀ k : List Key, RepL B H (k.map kV) (k.map kD)
  | [] => .nil
  | c :: r => .cons (kD_rep c) (kDs_rep r)
def Pn.nob (p : Pn) : Pn := { p with base := fun _ => none, xc := fun _ _ => False }
instance {X : Cx} {p : Pn} : XL X p.nob := ⟨fun _ _ _ _ _ _ _ _ _ h => h.elim⟩
/-- all stays but how dicts of tuple keys are held -/
structure Chg (H H' : Hp) : Prop where
  a : ∀ a o, H a = some o → (∀ kvs, o ≠ .dT kvs) → (∀ o' u, o ≠ .frz o' u) → H' a = some o
  b : ∀ a kvs, Rd H a (.dT kvs) → Rd H' a (.dT kvs)
mutual
theorem Rep.chg {B : Addr → Prop} {H H' : Hp} (c : Chg H H') : ∀ {v : V} {d : D}, Rep B H v d → Rep B H' v d
  | _, _, .non => .non
  | _, _, .bl b => .bl b
  | _, _, .int i => .int i
  | _, _, .str x => .str x
  | _, _, .ty n => .ty n
  | _, _, .obj a => .obj a
  | _, _, .lst h1 h2 h3 => .lst h1 (c.a _ _ h2 (fun _ z => nomatch z) fun _ _ z => nomatch z) (RepL.chg c h3)
  | _, _, .tup h1 h2 h3 => .tup h1 (c.a _ _ h2 (fun _ z => nomatch z) fun _ _ z => nomatch z) (RepL.chg c h3)
  | _, _, .dK h1 h2 e1 e2 h3 => .dK h1 (c.a _ _ h2 (fun _ z => nomatch z) fun _ _ z => nomatch z) e1 e2 (RepL.chg c h3)
  | _, _, .dT h1 h2 e1 e2 h3 => .dT h1 (c.b _ _ h2) e1 e2 (RepL.chg c h3)
  | _, _, .ins h1 h2 e1 e2 h3 => .ins h1 (c.a _ _ h2 (fun _ z => nomatch z) fun _ _ z => nomatch z) e1 e2 (RepL.chg c h3)
theorem RepL.chg {B : Addr → Prop} {H H' : Hp} (c : Chg H H') : ∀ {vs : List V} {ds : List D}, RepL B H vs ds → RepL B H' vs ds
  | _, _, .nil => .nil
  | _, _, .cons h t => .cons (Rep.chg c h) (RepL.chg c t)
end
theorem RepO.chg {B : Addr → Prop} {H H' : Hp} (c : Chg H H') {o : HO} {d : OD} (r : RepO B H o d) : RepO B H' o d := by
  cases r with
  | l r => exact .l (r.chg c)
  | k e r => exact .k e (r.chg c)
  | t e r => exact .t e (r.chg c)
  | i e r => exact .i e (r.chg c)
section
variable {O O' : Addr → Prop} {p : Pn} {ρ ρ' : En} {k k' : Kt} {σ σ' : L2.St} {H H' : Hp} {d : Addr} {kvs : List (List Key × V)} {od : Obj}
theorem chg_lock (h : H d = some (.dT kvs)) : Chg H (upd H d (.frz od (.dT kvs))) := by
  refine ⟨fun a o e n1 n2 => ?_, fun a ks e => ?_⟩
  · by_cases z : a = d
    · rw [z, h] at e; cases e; exact absurd rfl (n1 _)
    · rw [upd_ne z]; exact e
  · by_cases z : a = d
    · subst z
      rcases e with e | ⟨o, e⟩
      · rw [h] at e; cases e; exact .inr ⟨od, upd_same⟩
      · rw [h] at e; cases e
    · rcases e with e | ⟨o, e⟩
      · exact .inl (by rw [upd_ne z]; exact e)
      · exact .inr ⟨o, by rw [upd_ne z]; exact e⟩
theorem chg_unlock (h : H d = some (.frz od (.dT kvs))) : Chg H (upd H d (.dT kvs)) := by
  refine ⟨fun a o e n1 n2 => ?_, fun a ks e => ?_⟩
  · by_cases z : a = d
    · rw [z, h] at e; cases e; exact absurd rfl (n2 _ _)
    · rw [upd_ne z]; exact e
  · by_cases z : a = d
    · subst z
      rcases e with e | ⟨o, e⟩
      · rw [h] at e; cases e
      · rw [h] at e; cases e; exact .inl upd_same
    · rcases e with e | ⟨o, e⟩
      · exact .inl (by rw [upd_ne z]; exact e)
      · exact .inr ⟨o, by rw [upd_ne z]; exact e⟩
theorem Rel.chg {b : Hp} {x y : XD → Nat → Prop} (I : Rel O p ρ k σ H) (c : Chg H H') (nb : ¬ Bn O ρ σ d) (ne : ∀ a, a ≠ d → H' a = H a) (nc : ∀ q, H d ≠ some (LamX.CodeO d q)) (hxy : y = x)
    (bs : Kept { p with base := b, xc := x } H') (bo : ∀ a, Own ρ σ a → b a = none) : Rel O { p with base := b, xc := x } ρ (k.1, { k.2 with xc := y }) σ H' := by
  have nd : ∀ a, Bn O ρ σ a → H' a = H a := fun a z => ne a fun e => nb (e ▸ z)
  have pn : penI p k H' := I.pn.keep (fun a ha => nd a (.inl (I.po a (.inl ha)))) fun a q e => by rw [ne a fun z => nc q (z ▸ e)]; exact e
  exact ⟨I.len, fun i d h => let ⟨v, e, r⟩ := I.val i d h; ⟨v, e, r.chg c⟩, fun i o h => let ⟨a, u, e1, e2, e3, r⟩ := I.own i o h; ⟨a, u, e1, by rw [nd a (.inr ⟨i, o, h, e1⟩)]; exact e2, e3, r.chg c⟩, I.inj, fun a z => by rw [nd a (.inl z)]; exact I.ot a z,
    pn, I.po, hxy, bs, bo, I.sf⟩
theorem Rel.nob (I : Rel O p ρ k σ H) : Rel O p.nob ρ (nxk k) σ H := ⟨I.len, I.val, I.own, I.inj, I.ot, I.pn, I.po, rfl, fun _ _ z => (nomatch z), fun _ _ => rfl, I.sf⟩
theorem code_dT {c : Addr} {q : Str} {kvs : List (List Key × V)} : some (HO.dT kvs) ≠ some (LamX.CodeO c q) := fun e => by unfold LamX.CodeO at e; cases e
theorem code_frz {c : Addr} {q : Str} {o : Obj} {u : HO} : some (HO.frz o u) ≠ some (LamX.CodeO c q) := fun e => by unfold LamX.CodeO at e; cases e
theorem Rel.lock (I : Rel O p ρ k σ H) (hd : H d = some (.dT kvs)) (nb : ¬ Bn O ρ σ d) : Rel O p.nob ρ (nxk k) σ (upd H d (.frz od (.dT kvs))) :=
  I.chg (b := fun _ => none) (x := fun _ _ => False) (y := fun _ _ => False) (chg_lock hd) nb (fun a z => upd_ne z) (fun q => by rw [hd]; exact code_dT) rfl (fun _ _ z => (nomatch z)) fun _ _ => rfl
theorem Rel.unlock (I : Rel O p ρ k σ H) (hd : H d = some (.dT kvs)) (nb : ¬ Bn O ρ σ d) (I' : Rel O' p.nob ρ' k' σ' H') (s : Step p.nob ρ σ (upd H d (.frz od (.dT kvs))) ρ' σ' H') (nO' : ¬ O' d) :
    H' d = some (.frz od (.dT kvs)) ∧ Rel O' p ρ' (rsk k k') σ' (upd H' d (.dT kvs)) ∧ Step p ρ σ H ρ' σ' (upd H' d (.dT kvs)) ∧ Chg H' (upd H' d (.dT kvs)) := by
  have nP : ¬ penA p d := fun z => nb (.inl (I.po d (.inl (penB.of z))))
  have eL : H' d = some (.frz od (.dT kvs)) := s.kp d _ upd_same nP fun z => nb (.inr z)
  have back : ∀ a, upd H d (.frz od (.dT kvs)) a = none → H a = none := fun a z => by
    by_cases e : a = d
    · rw [e, upd_same] at z; cases z
    · rw [upd_ne e] at z; exact z
  have nb' : ¬ Bn O' ρ' σ' d := fun z => z.elim nO' fun z => (s.nw d z).elim (fun z => nb (.inr z)) fun z => by rw [upd_same] at z; cases z
  have kp : ∀ a o, H a = some o → ¬ penA p a → ¬ Own ρ σ a → upd H' d (.dT kvs) a = some o := fun a o h n1 n2 => by
    by_cases e : a = d
    · rw [e, upd_same]; rw [e, hd] at h; exact h
    · rw [upd_ne e]; exact s.kp a o (by rw [upd_ne e]; exact h) n1 n2
  have bs : Kept p (upd H' d (.dT kvs)) := fun a o h n => kp a o (I.bs a o h n) n fun z => by rw [I.bo a z] at h; cases h
  have bo : ∀ a, Own ρ' σ' a → p.base a = none := fun a z => (s.nw a z).elim (I.bo a) fun z => I.fresh (back a z)
  refine ⟨eL, ?_, ⟨kp, fun a z => (s.nw a z).imp id (back a), fun a h => ?_⟩, chg_unlock eL⟩
  · exact I'.chg (b := p.base) (x := p.xc) (y := k.2.xc) (chg_unlock eL) nb' (fun a z => upd_ne z) (fun q => by rw [eL]; exact code_frz) I.kx bs bo
  · by_cases e : a = d
    · rw [e, upd_same]; simp
    · rw [upd_ne e]; exact s.tr a (by rw [upd_ne e]; exact h)
theorem Rel.unnob (I : Rel O p ρ k σ H) (I' : Rel O' p.nob ρ' k' σ' H') (s : Step p.nob ρ σ H ρ' σ' H') : Rel O' p ρ' (rsk k k') σ' H' ∧ Step p ρ σ H ρ' σ' H' :=
  ⟨⟨I'.len, I'.val, I'.own, I'.inj, I'.ot, I'.pn, I'.po, I.kx, fun a o h n => s.kp a o (I.bs a o h n) n (fun z => by rw [I.bo a z] at h; cases h),
    fun a z => (s.nw a z).elim (I.bo a) fun z => I.fresh z, I'.sf⟩, ⟨s.kp, s.nw, s.tr⟩⟩
theorem keys_ok {B : Addr → Prop} {ks : List (List Key)} {vs : List V} (hl : ks.length = vs.length) (hd : H d = some (.frz od (.dT (ks.zip vs)))) (nB : ¬ B d) : ItOk B (Itkt d od (ks.zip vs)) (ks.map tupK) H := fun B' H' kp nw bt => by
  have hd' : H' d = some (.frz od (.dT (ks.zip vs))) := kp _ _ hd nB
  have hz : (ks.zip vs).length = ks.length := by rw [List.length_zip]; omega
  refine ⟨fun i hi => ⟨hd', by rw [List.length_map] at hi; omega⟩, fun i x H'' dd hdd hy => ?_, fun i hi => ⟨hd', by rw [List.length_map] at hi; omega⟩⟩
  obtain ⟨rfl, c, v, q, e, rfl, eq⟩ := hy
  refine ⟨AExt.refl _, ?_⟩
  rw [List.getElem?_map] at hdd
  have e1 : ks[i]? = some c := by
    rw [List.getElem?_zip_eq_some] at e
    exact e.1
  rw [e1] at hdd
  cases hdd
  exact .tup (fun z => (bt q z).2 _ eq) eq (kDs_rep c)
end
section
variable {X : Cx} {pos ps' : Pos}
theorem ps_or {st : Stmt} {t1 t2 : TS} (h1 : PS X st t1) (h2 : PS X st t2) : PS X st (fun D σ H => t1 D σ H ∨ t2 D σ H) := ⟨fun pins s σ H D I h => h.elim (h1.run pins s σ H D I) (h2.run pins s σ H D I)⟩
theorem pe_or {e : Expr} {t1 t2 : TE} (h1 : PE X e t1) (h2 : PE X e t2) : PE X e (fun σ H Q => t1 σ H Q ∨ t2 σ H Q) := ⟨fun pins s σ H Q I h => h.elim (h1.run pins s σ H Q I) (h2.run pins s σ H Q I)⟩
/-- for tg in x: .., x a dict of tuple keys -/
def wForK (i : Nat) (g : WG) (b : WS) : WS := fun E ρ k => ∃ ks ds, ρ[i]? = some (.val (.dT ks ds)) ∧ forW g b { nx := fun ρ' k' => E.nx ρ' (rsk k k'), rt := fun d k' => E.rt d (rsk k k') } (ks.map tupK) ρ (nxk k)
theorem ds_forK (i : Nat) {x : Str} {tg : Expr} {body : List Stmt} {is : List Nat} {wg : WG} {wb : WS} (hp : PassesOwn (model X.prog X.w) X.A X.env X.xe) (hc : X.calm = true) (hN : X.N[i]? = some x) (hv : Vis X.env.scope x := by first | exact Or.inl rfl | exact Or.inr (Or.inl rfl) | exact Or.inr (Or.inr rfl))
    (hg : DG X tg is wg) (hb : DSs X body wb) (hd : (x == ("__debug__" : Str)) = false := by decide) (hcd : (x == ("__classdict__" : Str)) = false := by decide)
    (hs : ∀ z, foldedSetIterable (.Name x ps') X.env z = pure z := by intro _; rfl) : DS X (.For tg (.Name x ps') body [] pos) (wForK i wg wb) := by
  obtain ⟨g, pg, rg⟩ := hg
  obtain ⟨tb, pb, rb⟩ := hb
  have pT := ps_for (pos := pos) hp hc (pi_keys (tg := tg) (pe_var (pos := ps') hN hv hd hcd)) pg pb hs
  refine ⟨_, ps_or (ps_lock pT) pT, fun O p _ ρ k σ H E F I h e => ?_⟩
  obtain ⟨ks, ds, e1, h⟩ := h
  obtain ⟨v, ev, rv⟩ := I.val i _ e1
  cases rv with
  | dT nb hr ez hl rl =>
    rename_i a kvs vs
    subst ez
    have core : ∀ (Hl : Hp) (od : Obj) (F' : L2.Ends), Rel O p.nob ρ (nxk k) σ Hl → Hl a = some (.frz od (.dT (ks.zip vs))) → EndsOk O p.nob ρ σ Hl { nx := fun ρ' k' => E.nx ρ' (rsk k k'), rt := fun d k' => E.rt d (rsk k k') } F' → tFor (iKeys (tVar i)) g tb F' σ Hl := fun Hl od F' Il el e' =>
      forPropF (X := X) (wit := fun ρ k Q => Q (ks.map tupK) ρ k) rg rb O p.nob ρ (nxk k) σ Hl _ F' (fun Q R' hQ g' => ⟨_, ev, a, od, rfl, .inr ⟨_, el, g' _ _ _ ρ (nxk k) Il .refl (keys_ok hl el nb) hQ⟩⟩) h e'
    rcases hr with hr | ⟨od, hr⟩
    · refine .inl ⟨a, _, hr, trivial, fun od => core _ od _ (I.lock hr nb) upd_same ⟨fun ρ' k' σ' H' I' s' h' => ?_, fun v' H' d' k' kp pn kx r h' => ?_, fun _ _ _ _ _ _ z => z.elim, fun _ _ _ _ _ _ z => z.elim⟩⟩
      · obtain ⟨u1, u2, u3, _⟩ := I.unlock hr nb I' s' (fun z => nb (.inl z))
        exact ⟨u1, e.nx ρ' _ σ' _ u2 u3 h'⟩
      · have nP : ¬ penA p a := fun z => nb (.inl (I.po a (.inl (penB.of z))))
        have eL : H' a = some (.frz od (.dT (ks.zip vs))) := kp a _ upd_same nP fun z => nb (.inr z)
        refine ⟨eL, e.rt v' _ d' (rsk k k') (fun b o hb n1 n2 => ?_) ?_ I.kx (r.chg (chg_unlock eL)) h'⟩
        · by_cases z : b = a
          · rw [z, upd_same]; rw [z, hr] at hb; exact hb
          · rw [upd_ne z]; exact kp b o (by rw [upd_ne z]; exact hb) n1 n2
        · exact penI.keep (p := p) (k := rsk k k') (H := H') pn (fun b hb => upd_ne fun z => nb (.inl (I.po a (.inl (z ▸ hb))))) fun b q hb => by rw [upd_ne fun z => by rw [z, eL] at hb; exact code_frz hb]; exact hb
    · refine .inr (core _ od _ I.nob hr ⟨fun ρ' k' σ' H' I' s' h' => ?_, fun v' H' d' k' kp pn kx r h' => ?_, fun _ _ _ _ _ _ z => z.elim, fun _ _ _ _ _ _ z => z.elim⟩)
      · obtain ⟨u2, u3⟩ := I.unnob I' s'
        exact e.nx ρ' _ σ' _ u2 u3 h'
      · exact e.rt v' _ d' (rsk k k') kp pn I.kx r h'
/-- [.. for tg in x], x a dict of tuple keys -/
def wLcK (i : Nat) (vs : List Nat) (tg : WG) (ts : WT) (el : WE) : WL := fun ρ k Q => ∃ ks ds, ρ[i]? = some (.val (.dT ks ds)) ∧ wLc vs (fun ρ k Q => Q (ks.map tupK) ρ k) tg ts el ρ (nxk k) fun zs ρ' k' => Q zs ρ' (rsk k k')
theorem df_lcK (i : Nat) {x : Str} {elt tg : Expr} {ifs : List Expr} {scope : Scope} {own : List (Str × Nat)} {is : List Nat} {wg : WG} {wt : WT} {we : WE} (hc : X.calm = true) (hN : X.N.Nodup) (hx : X.N[i]? = some x) (hv : Vis X.env.scope x := by first | exact Or.inl rfl | exact Or.inr (Or.inl rfl) | exact Or.inr (Or.inr rfl))
    (ok : BlkOk X.N X.env.scope scope own) (hg : Blk X scope fun Y => DG Y tg is wg) (ht : Blk X scope fun Y => DTs Y ifs wt) (he : Blk X scope fun Y => DE Y elt we)
    (hiv : ∀ i ∈ is, i ∈ own.map (·.2)) (hd : (x == ("__debug__" : Str)) = false := by decide) (hcd : (x == ("__classdict__" : Str)) = false := by decide) (hs : ∀ z, foldedSetIterable (.Name x ps') X.env z = pure z := by intro _; rfl) :
    DF X (.ListComp elt [⟨tg, .Name x ps', ifs, 0⟩] scope pos) (wLcK i (own.map (·.2)) wg wt we) := by
  obtain ⟨g, pg, rg⟩ := blkG hg
  obtain ⟨tt, pt, rt⟩ := blkT ht
  obtain ⟨te, pe, re⟩ := blkE he
  have pT := pe_lc (pos := pos) hc hN (pi_keys (tg := tg) (pe_var (pos := ps') hx hv hd hcd)) ok pg pt pe hs
  refine ⟨_, pe_or (pe_lock pT) pT, fun O p _ ρ k σ H Q J I h f => ?_⟩
  obtain ⟨ks, ds, e1, h⟩ := h
  obtain ⟨v, ev, rv⟩ := I.val i _ e1
  cases rv with
  | dT nb hr ez hl rl =>
    rename_i a kvs vs
    subst ez
    have core : ∀ (Hl : Hp) (od : Obj) (J' : VK), Rel O p.nob ρ (nxk k) σ Hl → Hl a = some (.frz od (.dT (ks.zip vs))) → (∀ c ws H' zs ρ' k', Rel (fun b => O b ∨ b = c) p.nob ρ' k' σ H' → Step p.nob ρ σ Hl ρ' σ H' → Hl c = none → H' c = some (.lst ws) → RepL (Bn (fun b => O b ∨ b = c) ρ' σ) H' ws zs → Q zs ρ' (rsk k k') → J' (.ref c) H') →
        tLc (iKeys (tVar i)) g tt te (own.map (·.2)) σ Hl J' := fun Hl od J' Il el f' =>
      lcPropF (wit := fun ρ k Q => Q (ks.map tupK) ρ k) hiv rg rt re O p.nob ρ (nxk k) σ Hl (fun Q R' hQ g' => ⟨_, ev, a, od, rfl, .inr ⟨_, el, g' _ _ _ ρ (nxk k) Il .refl (keys_ok hl el nb) hQ⟩⟩) _ J' h f'
    rcases hr with hr | ⟨od, hr⟩
    · refine .inl ⟨a, _, hr, trivial, fun od => core _ od _ (I.lock hr nb) upd_same fun c ws H' zs ρ' k' I' s' n0 e1 r1 hq => ?_⟩
      have ca : c ≠ a := fun z => by rw [z, upd_same] at n0; cases n0
      rw [upd_ne ca] at n0
      obtain ⟨u1, u2, u3, u4⟩ := I.unlock hr nb I' s' (fun z => z.elim (fun z => nb (.inl z)) fun z => ca z.symm)
      exact ⟨u1, f c ws _ zs ρ' _ u2 u3 n0 (by rw [upd_ne ca]; exact e1) (r1.chg u4) hq⟩
    · refine .inr (core _ od _ I.nob hr fun c ws H' zs ρ' k' I' s' n0 e1 r1 hq => ?_)
      obtain ⟨u2, u3⟩ := I.unnob I' s'
      exact f c ws _ zs ρ' _ u2 u3 n0 e1 r1 hq
end
end DL

set_option Elab.async false
set_option linter.all false
set_option maxRecDepth 100000
set_option maxHeartbeats 1000000
/-! ELdx: new dicts with tuples for keys: {}, {a: b}, dict(d); d.get(k, x); max, min of two ints; max of data -/
namespace DL
open PySem PySem.Spec PyProof.Rows L2
/-- a new object, kept apart -/
abbrev WN := En → Kt → (OD → En → Kt → Prop) → Prop
def DN (X : Cx) (e : Expr) (w : WN) : Prop := ∃ t : TE, PE X e t ∧ ∀ (O : Addr → Prop) (p : Pn) [XL X p] (ρ : En) (k : Kt) (σ : L2.St) (H : Hp) (Q : OD → En → Kt → Prop) (J : VK), Rel O p ρ k σ H → w ρ k Q →
  (∀ a o H' zs ρ' k', Rel (fun b => O b ∨ b = a) p ρ' k' σ H' → Step p ρ σ H ρ' σ H' → H a = none → H' a = some o → RepO (Bn (fun b => O b ∨ b = a) ρ' σ) H' o zs → (∀ C ns ds, zs ≠ .i C ns ds) → Q zs ρ' k' → J (.ref a) H') → t σ H J
def wSetN (i : Nat) (w : WN) : WS := fun E ρ k => w ρ k fun zs ρ1 k1 => E.nx (ρ1.set i (.own zs)) k1
def wNewN (w : WN) : WE := fun ρ k Q => w ρ k fun zs ρ1 k1 => Q (.val zs.toD) ρ1 k1
section
variable {X : Cx} {pos ps' : Pos}
theorem ds_setN (i : Nat) {x : Str} {e : Expr} {w : WN} (hN : X.N.Nodup) (hi : X.N[i]? = some x) (hx : Loc X.env.scope x) (h : DN X e w) (hs : swapsWith e (some (.Name x ps')) pos.line X.env = pure false := by rfl)
    (hf : X.fn x = true ∨ X.env.scope.names.lookup x = some .local := by first | exact .inl rfl | exact .inr rfl | assumption) : DS X (.Assign [.Name x ps'] e pos) (wSetN i w) := by
  obtain ⟨t, pe, rr⟩ := h
  refine ⟨_, ps_set hN hi hx pe hs hf, fun O p _ ρ k σ H E F I h e => ?_⟩
  refine rr O p ρ k σ H _ _ I h fun a o H1 zs ρ1 k1 I1 s1 n0 e1 r1 hz h1 => ?_
  obtain ⟨I2, ow⟩ := I1.setOwn i (fun z => (I.ot a z).1 n0) I.po e1 (I.fresh n0) hz r1
  refine e.nx _ k1 _ H1 I2 ⟨s1.kp, fun b z => ?_, s1.tr⟩ h1
  rcases ow b z with z | z
  · exact s1.nw b z
  · subst z
    exact .inr n0
theorem de_newN {e : Expr} {w : WN} (h : DN X e w) : DE X e (wNewN w) := by
  obtain ⟨t, pe, rr⟩ := h
  refine ⟨t, pe, fun O p _ ρ k σ H Q J I h g => ?_⟩
  refine rr O p ρ k σ H _ _ I h fun a o H1 zs ρ1 k1 I1 s1 n0 e1 r1 _ h1 => ?_
  have nO : ¬ O a := fun z => (I.ot a z).1 n0
  have nw : ¬ Own ρ1 σ a := fun z => I1.ownNot z (.inr rfl)
  exact g _ H1 (.val zs.toD) ρ1 k1 (I1.less (fun _ z => .inl z) I.po) s1 (RepO.rep (fun z => z.elim nO nw) e1 (r1.mono (fun _ _ h _ => h) fun b z => .inl (z.imp .inl id))) h1
/-- {} (keys will be tuples) -/
def wMtD : WN := fun ρ k Q => Q (.t [] []) ρ k
theorem dn_mt : DN X (.Dict [] [] pos) wMtD := by
  refine ⟨_, pe_dnewT, fun O p _ ρ k σ H Q J I h g => fun L hL => ?_⟩
  exact g L _ _ (.t [] []) ρ k (I.more hL) (.ext (AExt.upd hL)) hL upd_same (.t (ks := []) (vs := []) (ds := []) rfl .nil) (fun _ _ _ z => by cases z) h
/-! ### {a: b} -/
def tDisp1 (tk tv : TE) : TE := fun σ H Q => ∀ p, H p = none → tk σ (upd H p (.dT [])) fun x H1 => tv σ H1 fun y H2 => H2 p = some (.dT []) ∧ ∃ b k, x = .ref b ∧ H2 b = some (.tup (k.map kV)) ∧ Q (.ref p) (upd H2 p (.dT [(k, y)]))
theorem pe_disp1 {ke ve : Expr} {tk tv : TE} (hu : X.A.units + 1 < cLine) (hk : PE X ke tk) (hv : PE X ve tv) : PE X (.Dict [some ke] [ve] pos) (tDisp1 tk tv) := by
  refine ⟨fun pins s σ H Q I q => ?_⟩
  have hn := I.hok.fresh (Nat.le_refl s.heap.objs.size)
  have I1 := I.laid (a := s.heap.objs.size) (o := .dT []) (h' := s.heap.push { cls := .type "dict", data := .dict #[] }) (t' := s.toks) (fun _ _ q => Heap.get?_push_of_some _ q) (Nat.le_refl _) (dt_empty s.heap I.big)
  rw [arm_eval_Dict, zip_pairTrees [some ke] [ve] X.env pos rfl rfl, dictDisplay_pairs (pairTrees [some ke] [ve] X.env pos) (fun z => by cases z) (by show (1 : Nat) < 17; decide)]
  refine wpAny_bind (wpAny_standAt (wpAny_bind (wpAny_subDictH (knd := tupleKind (mixKind X.prog X.w)) (Q := fun d s' => wpAny (model X.prog X.w) X.A (pure (Value.ref d)) (EP X pins σ Q) X.xe s') (show X.A.units < cLine by omega) (by show (1 : Nat) ≤ 15; decide) ?_)))
  refine pairTrees_cons_walk (thn (hk.run pins _ σ _ _ I1 (q _ hn)) fun u s1 ⟨x, H1, J1, rx, q1⟩ => thn (hv.run pins s1 σ H1 _ J1 q1) fun w2 s2 ⟨y, H2, J2, ry, eL, b, k, ex, eb, q2⟩ => ?_)
  refine pairTrees_nil_walk ?_
  subst ex
  obtain rfl : u = Value.ref b := rx
  have kk := key_of J2.hok eb
  obtain ⟨z, hd, xs, rel, dd⟩ := L2.dt_of J2.hok eL
  cases rel
  refine ⟨[(k, b, w2)], ⟨rfl, rfl, kk, trivial⟩, dd, fun h' tk dk hs => wpAny_pure ⟨.ref s.heap.objs.size, _, ?_, rfl, q2⟩⟩
  obtain ⟨o, es, ep, h1, h2, h3, h4, h5, h6⟩ := dk
  refine d_write J2 (by rw [eL]; exact True.intro) hs ⟨o, h1⟩ ⟨by rw [sizeLine_eq]; show (1 : Nat) ≤ _; decide, hd, [(k, b, w2)], .cons ⟨rfl, ?_, ry⟩ .nil, o, es, ep, h1, h2, h3, h4, h6⟩
  rw [upd_ne (ne_of eb eL (fun z => nomatch z))]
  exact eb
/-- {a: b} -/
def wOneD (a b : WE) : WN := fun ρ k Q => a ρ k fun x ρ1 k1 => b ρ1 k1 fun y ρ2 k2 => ∃ e key z ρ3, deref ρ2 x = some e ∧ keyT e = some key ∧ frz ρ2 y = some (z, ρ3) ∧ Q (.t [key] [z]) ρ3 k2
theorem dn_one {ke ve : Expr} {wa wb : WE} (hu : X.A.units + 1 < cLine) (ha : DE X ke wa) (hb : DE X ve wb) : DN X (.Dict [some ke] [ve] pos) (wOneD wa wb) := by
  obtain ⟨ta, pa, ra⟩ := ha
  obtain ⟨tb, pb, rb⟩ := hb
  refine ⟨_, pe_disp1 hu pa pb, fun O p _ ρ k σ H Q J I h g => fun L hL => ?_⟩
  have nP : ∀ z, penB p z → z ≠ L := fun z hz e => I.pn.there hz (e ▸ hL)
  have I0 := I.more (o := .dT []) hL
  refine ra (fun b => O b ∨ b = L) p ρ k σ _ _ _ I0 h fun v H1 x ρ1 k1 I1 s1 q1 h1 => ?_
  refine rb (fun b => O b ∨ b = L) p ρ1 k1 σ H1 _ _ I1 h1 fun u H2 y ρ2 k2 I2 s2 q2 h2 => ?_
  obtain ⟨e, key, z, ρ3, e1, e2, e3, h2⟩ := h2
  have r1 := deref_ok I2 (RRep.step I1 s2 q1) e1
  obtain ⟨I3, s3, r3⟩ := frz_ok I2 q2 e3
  obtain ⟨c, rfl, ec⟩ := keyT_rep r1 e2
  have sA := ((Step.ext (AExt.upd hL)).trans (s1.trans (s2.trans s3 I2.pn) I1.pn) I0.pn)
  have eL : H2 L = some (.dT []) := (s1.trans s2 I1.pn).kp L _ upd_same (fun z => nP L (penB.of z) rfl) (fun z => I0.ownNot z (.inr rfl))
  have bL : p.base L = none := I.fresh hL
  refine ⟨eL, c, key, rfl, ec, ?_⟩
  have I4 : Rel (fun b => O b ∨ b = L) p ρ3 k2 σ (upd H2 L (.dT [(key, u)])) := I3.write (.inr rfl) (fun z => nP L z rfl) bL (fun q e => by rw [eL] at e; cases e)
  refine g L _ _ (.t [key] [z]) ρ3 k2 I4 ⟨fun a o h n1 n2 => ?_, sA.nw, fun a h => ?_⟩ hL upd_same ?_ (fun _ _ _ z => by cases z) h2
  · rw [upd_ne (ne_of_none h hL)]; exact sA.kp a o h n1 n2
  · by_cases e : a = L
    · rw [e, upd_same]; simp
    · rw [upd_ne e]; exact sA.tr a h
  · exact .t (ks := [key]) (vs := [u]) rfl (.cons (r3.mono (fun a o h n => by rw [upd_ne fun z => n (.inl (.inr z))]; exact h) fun a z => .inl z) .nil)
/-! ### dict(d) -/
/-- the hash of a tuple of ints -/
def hashZ (k : List Int) : Int := reduceHash (Builtin.Tuple.tupleHashOf (k.map hashInt))
def intsK : List Key → Option (List Int)
  | [] => some []
  | .inl i :: r => (intsK r).map (i :: ·)
  | _ => none
def keysZ : List (List Key) → Option (List (List Int))
  | [] => some []
  | k :: r => match intsK k, keysZ r with
    | some z, some zs => some (z :: zs)
    | _, _ => none
/-- no two keys hash alike -/
def hashOk (ks : List (List Key)) : Bool := match keysZ ks with
  | some zs => decide ((zs.map hashZ).Nodup)
  | none => false
theorem intsK_eq : ∀ {k : List Key} {z : List Int}, intsK k = some z → k = z.map Sum.inl
  | [], _, h => by cases h; rfl
  | .inl i :: r, z, h => by
    unfold intsK at h
    cases q : intsK r with
    | none => rw [q] at h; cases h
    | some y => rw [q] at h; cases h; rw [intsK_eq q]; rfl
  | .inr _ :: _, _, h => by cases h
theorem hashK {P : Program} {w : World} {z : List Int} : (tupleKind (mixKind P w)).hash (z.map Sum.inl) = hashZ z := by
  show tupleKeyHash (mixKind P w) _ = _
  unfold tupleKeyHash hashZ
  rw [List.map_map]
  rfl
theorem keysZ_hash {P : Program} {w : World} : ∀ {ks : List (List Key)} {zs : List (List Int)}, keysZ ks = some zs → ks.map (tupleKind (mixKind P w)).hash = zs.map hashZ
  | [], _, h => by cases h; rfl
  | k :: r, zs, h => by
    unfold keysZ at h
    split at h
    · rename_i z ys e1 e2
      cases h
      rw [List.map_cons, List.map_cons, keysZ_hash e2, intsK_eq e1, hashK]
    · cases h
theorem hashOk_nodup {P : Program} {w : World} {ks : List (List Key)} (h : hashOk ks = true) : (ks.map (tupleKind (mixKind P w)).hash).Nodup := by
  unfold hashOk at h
  split at h
  · rename_i zs e
    rw [keysZ_hash e]
    exact of_decide_eq_true h
  · cases h
end
section
variable {X : Cx} {pins : List (Addr × Obj)} {σ : L2.St} {H : Hp} {s : Shared} {a : Addr} {kvs : List (List Key × V)} {A : Around} {E : Value → Shared → Prop}
theorem d_copyT {Q : Value → Shared → Prop} (hu : A.units + 2 < cLine) (I : Inv X pins σ H s) (e : Rd H a (.dT kvs)) (hh : hashOk (kvs.map (·.1)) = true) (h : ∀ p s', H p = none → Inv X pins σ (upd H p (.dT kvs)) s' → Q (.ref p) s') :
    wpAny (model X.prog X.w) A (call (.type "dict") [.ref a]) Q E s := by
  have hn := I.hok.fresh (Nat.le_refl s.heap.objs.size)
  have I1 := I.laid (a := s.heap.objs.size) (o := .dT []) (h' := s.heap.push { cls := .type "dict", data := .dict #[] }) (t' := s.toks) (fun _ _ q => Heap.get?_push_of_some _ q) (Nat.le_refl _) (dt_empty s.heap I.big)
  have e1 : Rd (upd H s.heap.objs.size (.dT [])) a (.dT kvs) := by
    rcases e with e | ⟨o, e⟩
    · exact .inl (AExt.upd hn _ _ e)
    · exact .inr ⟨o, AExt.upd hn _ _ e⟩
  have ne : s.heap.objs.size ≠ a := fun z => by
    rcases e with e | ⟨o, e⟩ <;> rw [← z, hn] at e <;> cases e
  obtain ⟨z, hd, xs, rel, dd⟩ := L2.dt_rd I1.hok e1
  obtain ⟨_, hd0, ys, rel0, dn⟩ := L2.dt_of I1.hok (upd_same (H := H) (a := s.heap.objs.size) (o := .dT []))
  cases rel0
  have ex : xs.map (·.1) = kvs.map (·.1) := by
    have : ∀ {l : List (List Key × V)} {m : List (List Key × Addr × Value)} {H : Hp}, KT H l m → m.map (·.1) = l.map (·.1) := by
      intro l m H q
      induction q with
      | nil => rfl
      | @cons p q ps qs hq t ih => rw [List.map_cons, List.map_cons, ih, hq.1]
    exact this rel
  have hty : ∀ x ∈ xs, ({ s with heap := s.heap.push { cls := .type "dict", data := .dict #[] } } : Shared).TypeIs (.ref x.2.1) "tuple" := by
    have : ∀ {l : List (List Key × V)} {m : List (List Key × Addr × Value)}, KT (upd H s.heap.objs.size (.dT [])) l m → ∀ x ∈ m, ({ s with heap := s.heap.push { cls := .type "dict", data := .dict #[] } } : Shared).TypeIs (.ref x.2.1) "tuple" := by
      intro l m q
      induction q with
      | nil => intro x hx; cases hx
      | @cons p q ps qs hq t ih =>
        intro x hx
        rcases List.mem_cons.mp hx with rfl | hx
        · obtain ⟨its, rv, hl, _⟩ := I1.tuple (SqT.of hq.2.1)
          exact hl.typeIs
        · exact ih x hx
    exact this rel
  refine callType_codes (Q₁ := fun obj s₁ => obj = .ref s.heap.objs.size ∧ s₁ = { s with heap := s.heap.push { cls := .type "dict", data := .dict #[] } }) PySem.F.kt_called_dict (PySem.F.kt_typeCall_dict_1 _) PySem.F.entry_dict_init (kt_code_dict_new _ ⟨rfl, rfl⟩) ?_
  rintro obj s₁ ⟨rfl, rfl⟩
  refine ⟨dn.typeIs, PySem.F.args_dict_init_2 _ _, ?_⟩
  unfold Builtin.«dict.__init__»
  refine wpAny_bind ?_
  unfold Builtin.Dict.selfAndRest
  refine wpAny_bind (wpAny_notOrdered_dict dn.typeIs ?_)
  show wpAny _ _ (pure (s.heap.objs.size, [Value.ref a])) _ _ _
  refine wpAny_pure ?_
  show wpAny _ _ (Builtin.Dict.updateFrom "dict.__init__" s.heap.objs.size (.ref a) [] .none) _ _ _
  unfold Builtin.Dict.updateFrom
  refine wpAny_bind (wpAny_typeOf dd.typeIs ?_)
  rw [if_neg (by decide)]
  refine wpAny_bind ?_
  unfold Builtin.Dict.merge
  refine wpAny_bind ?_
  unfold Builtin.Dict.readDirectly
  refine wpAny_bind (wpAny_isInstance dd.typeIs isSubtype_dict_dict ?_)
  simp only [Bool.not_true, Bool.false_eq_true, if_false]
  refine wpAny_bind (wpAny_specialOf dd.typeIs PySem.F.slot_dict_iter.lookup (wpAny_pure ?_))
  simp only [beq_self_eq_true, if_true]
  refine wpAny_bind (wpAny_pure ?_)
  refine wpAny_mergeDict_heap (knd := tupleKind (mixKind X.prog X.w)) (hsz := by rw [List.length_nil, Nat.zero_add, ← Paired.length rel]; exact z) (tupleKind_room_in1 (A := A.in1) hu) ne hd dn dd (.inr ⟨hty, ?_⟩) fun h' dk _ hs => ?_
  · have q := hashOk_nodup (P := X.prog) (w := X.w) hh
    rw [← ex, List.map_map] at q
    exact q
  show wpAny _ _ (Builtin.Dict.addKeywords s.heap.objs.size [] >>= _) _ _ _
  have nd : (xs.map (·.1)).Nodup := dd.nodup
  rw [storedAllH_nil_of_nodup xs nd] at dk
  obtain ⟨o, es, ep, h1, h2, h3, h4, h5, h6⟩ := dk
  refine wpAny_bind (wpAny_pure (wpAny_pure ⟨rfl, h _ _ hn ?_⟩))
  have W : Inv X pins σ (upd (upd H s.heap.objs.size (.dT [])) s.heap.objs.size (.dT kvs)) { s with heap := h' } := d_write (s := { s with heap := s.heap.push { cls := .type "dict", data := .dict #[] } }) (t' := s.toks) I1 (by rw [upd_same]; exact True.intro) hs ⟨o, h1⟩ ⟨z, hd0, xs, rel.keeps fun c ys ec => (by
    rw [upd_ne fun q => by rw [q, upd_same] at ec; cases ec]; exact ec), o, es, ep, h1, h2, h3, h4, h6⟩
  rw [upd_upd] at W
  exact W
end
section
variable {X : Cx} {pos ps' : Pos}
def rCopyT : List V → Hp → VK → Prop := fun xs H Q => ∃ (a : Addr) (kvs : List (List Key × V)), xs = [V.ref a] ∧ Rd H a (.dT kvs) ∧ hashOk (kvs.map (·.1)) = true ∧ ∀ p, H p = none → Q (.ref p) (upd H p (.dT kvs))
theorem cr_copyT (hu : X.A.units + 65 < cLine) : CallR X (.type "dict") rCopyT := by
  intro pins s σ H vs us Q I r h
  obtain ⟨a, kvs, rfl, e, hh, q⟩ := h
  rw [Vals.ref1 r]
  exact d_copyT (by omega) I e hh fun p s' hp I' => ⟨.ref p, _, I', rfl, q p hp⟩
/-- dict(d) -/
def wCpD (a : WA) : WN := fun ρ k Q => a ρ k fun rs ρ1 k1 => ∃ ks ds, derefL ρ1 rs = some [.dT ks ds] ∧ hashOk ks = true ∧ Q (.t ks ds) ρ1 k1
theorem dn_cp {x : Str} {e : Expr} {wa : WA} (hu : X.A.units + 65 < cLine) (hg : Gl X x) (hm : X.mg x = none) (hv : bootBuiltins x = some (.type "dict")) (ha : DA X [e] wa) (hn : x ≠ "__name__" := by decide) (hdb : (x == ("__debug__" : Str)) = false := by decide)
    (he : starEach [e] X.env = (false, eval e X.env) :: starEach [] X.env := by rfl) (hpl : (backTo pos (starEach [] X.env)).any (·.1) = false := by rfl) : DN X (.Call (.Name x ps') [e] [] pos) (wCpD wa) := by
  obtain ⟨t, pa, rr⟩ := ha
  refine ⟨_, pe_callTy (cr_copyT hu) hg hm hv pa hn hdb he hpl, fun O p _ ρ k σ H Q J I h g => ?_⟩
  refine rr O p ρ k σ H _ _ I h fun vs H1 rs ρ1 k1 I1 s1 q1 h1 => ?_
  obtain ⟨ks, ds, e1, hh, h1⟩ := h1
  obtain ⟨v, rfl, r1⟩ := one_rep (derefL_ok I1 q1 e1)
  obtain ⟨a, us, rfl, er, hl, rl⟩ := r1.dT
  refine ⟨a, _, rfl, er, by rw [List.map_fst_zip (by omega)]; exact hh, fun q hq => ?_⟩
  have x3 : AExt H1 (upd H1 q (.dT (ks.zip us))) := AExt.upd hq
  exact g q _ _ (.t ks ds) ρ1 k1 (I1.more hq) (s1.trans (.ext x3) I1.pn) (s1.new hq) upd_same (.t hl (rl.mono (fun b o h _ => x3 b o h) fun b z => by
    rcases z with (z | z) | z
    · exact .inl (.inl z)
    · exact .inr (by rw [z]; exact hq)
    · exact .inl (.inr z))) (fun _ _ _ z => by cases z) h1
/-- x.get(y, z) -/
def wDGetO (a b c : WE) : WE := fun ρ k Q => a ρ k fun x ρ1 k1 => (∃ ks ds, deref ρ1 x = some (.dT ks ds)) ∧ b ρ1 k1 fun y ρ2 k2 => c ρ2 k2 fun z ρ3 k3 => ∃ ks ds e key, deref ρ3 x = some (.dT ks ds) ∧ deref ρ3 y = some e ∧ keyT e = some key ∧ Q (match valD ks ds key with | some d => .val d | none => z) ρ3 k3
theorem de_dgetO {o e f : Expr} {apos cpos : Pos} {wa wb wc : WE} (hu : X.A.units + 1 < cLine) (ha : DE X o wa) (hb : DE X e wb) (hc : DE X f wc)
    (m1 : attributeBase o "get" X.env (eval o X.env) = eval o X.env := by rfl) (m2 : ((backTo cpos (starEach [e, f] X.env)).all (fun x => !x.1) && (backToKw cpos (keywordEach [] X.env)).all (fun x => x.1.isSome)
    && decide (([e, f] : List Expr).length + ([] : List Keyword).length + (if ([] : List Keyword).isEmpty then 0 else 1) < 30)) = true := by rfl)
    (m3 : (apos.endLine == cpos.line) = true := by rfl) (m4 : backTo cpos (starEach [e, f] X.env) = [(false, eval e X.env), (false, eval f X.env)] := by rfl) : DE X (.Call (.Attribute o "get" apos) [e, f] [] cpos) (wDGetO wa wb wc) := by
  obtain ⟨ta, pa, ra⟩ := ha
  obtain ⟨tb, pb, rb⟩ := hb
  obtain ⟨tc, pc, rc⟩ := hc
  refine ⟨_, pe_dget2 hu pa pb pc ⟨m1, m2, m3, m4⟩, fun O p _ ρ k σ H Q J I h g => ?_⟩
  refine ra O p ρ k σ H _ _ I h fun v H1 x ρ1 k1 I1 s1 q1 h1 => ?_
  obtain ⟨⟨ks0, ds0, e0⟩, h1⟩ := h1
  obtain ⟨a, vs0, rfl, er0, _, _⟩ := (deref_ok I1 q1 e0).dT
  refine ⟨a, rfl, .inr ⟨_, er0⟩, ?_⟩
  refine rb O p ρ1 k1 σ H1 _ _ I1 h1 fun u H2 y ρ2 k2 I2 s2 q2 h2 => ?_
  refine rc O p ρ2 k2 σ H2 _ _ I2 h2 fun t H3 z ρ3 k3 I3 s3 q3 h3 => ?_
  obtain ⟨ks, ds, e, key, e1, e2, e3, h3⟩ := h3
  have s13 := s2.trans s3 I2.pn
  obtain ⟨a', vs, ea, er, hl, rl⟩ := (deref_ok I3 (RRep.step I1 s13 q1) e1).dT
  cases ea
  obtain ⟨b, rfl, eb⟩ := keyT_rep (deref_ok I3 (RRep.step I2 s3 q2) e2) e3
  refine ⟨valV (ks.zip vs) key, .inr ⟨_, key, b, er, rfl, eb, rfl⟩, ?_⟩
  cases q : valD ks ds key with
  | none =>
    rw [valD_none rl q]
    rw [q] at h3
    exact g _ H3 z ρ3 k3 I3 (s1.trans s13 I1.pn) q3 h3
  | some d =>
    obtain ⟨w, e5, rw'⟩ := valD_some rl q
    rw [e5]
    rw [q] at h3
    exact g _ H3 (.val d) ρ3 k3 I3 (s1.trans s13 I1.pn) rw' h3
/-! ### max(i, j), min(i, j) -/
def fMax2 : FN := fun ds P => match ds with
  | [.int i, .int j] => P (.int (max i j))
  | _ => False
def fMin2 : FN := fun ds P => match ds with
  | [.int i, .int j] => P (.int (min i j))
  | _ => False
theorem real_max2 : RealN (fun xs H Q => ∃ i j, xs = [.int i, .int j] ∧ Q (.int (if j > i then j else i)) H) fMax2 := by
  intro B H xs ds P J hb r h g
  unfold fMax2 at h
  split at h
  · rename_i i j
    refine ⟨i, j, two_int r, ?_⟩
    have e : (if j > i then j else i) = max i j := by
      by_cases z : j > i
      · rw [if_pos z]; omega
      · rw [if_neg z]; omega
    rw [e]
    exact g _ H _ (AExt.refl H) (.int _) h
  · exact h.elim
theorem real_min2 : RealN (fun xs H Q => ∃ i j, xs = [.int i, .int j] ∧ Q (.int (if j < i then j else i)) H) fMin2 := by
  intro B H xs ds P J hb r h g
  unfold fMin2 at h
  split at h
  · rename_i i j
    refine ⟨i, j, two_int r, ?_⟩
    have e : (if j < i then j else i) = min i j := by
      by_cases z : j < i
      · rw [if_pos z]; omega
      · rw [if_neg z]; omega
    rw [e]
    exact g _ H _ (AExt.refl H) (.int _) h
  · exact h.elim
/-! ### max of data: the first of the greatest -/
def ltD (a b : D) : Bool := PySem.W.dataLt (py a) (py b)
def bestD : List D → Option D
  | [] => none
  | x :: r => some (r.foldl (fun a y => if ltD a y then y else a) x)
def rMaxDt (K : PySem.W.Frag) : List V → Hp → VK → Prop := fun vs H Q => ∃ (a : Addr) (us : List V) (xs : List D) (v : V), vs = [.ref a] ∧ SqL K H a us ∧ DpAll K H us (pyL xs) ∧ PySem.W.AlikeAll (pyL xs) ∧ PyData.depthAll (pyL xs) ≤ 60 ∧ xs ≠ [] ∧
  us[argBest (fun i j => PySem.W.dataLt ((pyL xs).getD j .none) ((pyL xs).getD i .none)) (xs.length - 1)]? = some v ∧ Q v H
theorem pyL_len : ∀ xs : List D, (pyL xs).length = xs.length
  | [] => by simp [pyL]
  | x :: r => by rw [pyL, List.length_cons, List.length_cons, pyL_len r]
theorem cr_maxD (hc : X.calm = true) (hu : X.A.units + 65 < cLine) : CallR X (.builtin "max") (rMaxDt X.K) := by
  intro pins s σ H vs us0 Q I r h
  obtain ⟨a, us, xs, v, rfl, hs, hd, hal, hz, hne, hv, q⟩ := h
  rw [Vals.ref1 r]
  obtain ⟨its, rv, hl, _⟩ := I.list hs
  obtain ⟨as, ra⟩ := Dp.readsAll I (pyL xs) us its hd rv
  have ra' : PySem.ReadsAll s.heap its.toArray.toList (pyL xs) as := ra
  have hn : its.toArray.size = xs.length := (PySem.W.readsAll_len ra').trans (pyL_len xs)
  have hp : 0 < xs.length := List.length_pos_iff.mpr hne
  refine call_max_walkH (PySem.W.iter_listW (A := X.A.in1) (I.ok.hd hc) hl.isList fun s₂ e W st hfp hw hk => ?_)
  refine ⟨_, _, _, _, _, _, _, s.heap, _, rfl, W, st, hfp, by omega, hw, hk, PySem.W.cmpIn_gt (A := X.A.in1) ra' hal (by show X.A.units + 1 + _ < _; omega), fun v' s' hP m => ?_⟩
  obtain ⟨h', tk, rfl, hk'⟩ := PySem.W.moved_old e rfl m
  rw [hn] at hP
  refine ⟨v, H, I.kept hk', ?_, q⟩
  have hP' : its[argBest (fun i j => PySem.W.dataLt ((pyL xs).getD j .none) ((pyL xs).getD i .none)) (xs.length - 1)]? = some v' := by simpa using hP
  obtain ⟨w1, e1, r1⟩ := Vals.get rv hv
  rw [hP'] at e1
  cases e1
  exact r1
theorem pyL_getD : ∀ (xs : List D) (j : Nat), (pyL xs).getD j .none = py (xs.getD j .non)
  | [], j => by simp [pyL, py]
  | x :: r, 0 => by simp [pyL]
  | x :: r, j + 1 => by
    have := pyL_getD r j
    rw [pyL, List.getD_cons_succ, List.getD_cons_succ, this]
def fMaxD : FN := fun ds P => match ds with
  | [.lst xs] => ∃ d, isPyL xs = true ∧ PySem.W.AlikeAll (pyL xs) ∧ PyData.depthAll (pyL xs) ≤ 60 ∧ bestD xs = some d ∧ P d
  | _ => False
theorem real_maxD {K : PySem.W.Frag} : RealN (rMaxDt K) fMaxD := by
  intro B H xs ds P J hb r0 h g
  unfold fMaxD at h
  split at h
  · rename_i ys
    obtain ⟨d, h1, h2, h3, h4, h5⟩ := h
    obtain ⟨v, rfl, r1⟩ := one_rep r0
    obtain ⟨a, us, rfl, ea, la⟩ := r1.lst
    cases ys with
    | nil => cases h4
    | cons x r =>
      have ef : (fun i j => PySem.W.dataLt ((pyL (x :: r)).getD j .none) ((pyL (x :: r)).getD i .none)) = fun i j => (fun a b => ltD b a) ((x :: r).getD i .non) ((x :: r).getD j .non) := by
        funext i j
        rw [pyL_getD, pyL_getD]
        rfl
      obtain ⟨q1, q2⟩ := PySem.W.argBest_fold (fun a b => ltD b a) D.non x r r.length (Nat.le_refl _)
      rw [List.take_length] at q2
      have hlt : argBest (fun i j => (fun a b => ltD b a) ((x :: r).getD i .non) ((x :: r).getD j .non)) r.length < (x :: r).length := Nat.lt_succ_of_le q1
      have eg : (x :: r)[argBest (fun i j => (fun a b => ltD b a) ((x :: r).getD i .non) ((x :: r).getD j .non)) r.length]? = some d := by
        rw [List.getD_eq_getElem?_getD, List.getElem?_eq_getElem hlt] at q2
        rw [List.getElem?_eq_getElem hlt]
        have q3 : (x :: r)[argBest (fun i j => (fun a b => ltD b a) ((x :: r).getD i .non) ((x :: r).getD j .non)) r.length] = _ := q2
        rw [q3]
        exact h4
      obtain ⟨w, ew, rw'⟩ := la.get eg
      refine ⟨a, us, x :: r, w, rfl, SqL.of ea, RepL.dp la h1, h2, h3, by simp, ?_, g w H d (AExt.refl H) rw' h5⟩
      rw [ef]
      exact ew
  · exact h.elim
/-- what is never entered -/
def wNo : WS := fun _ _ _ => False
theorem dss_no {body : List Stmt} : DSs X body wNo := ⟨fun _ _ _ => False, ⟨fun pins s σ H D I h => h.elim⟩, fun O p _ ρ k σ H E F I h e => h.elim⟩
/-! ### y in d, tested -/
def wDInT (neg : Bool) (b a : WE) : WT := fun ρ k Q => b ρ k fun y ρ1 k1 => a ρ1 k1 fun x ρ2 k2 => ∃ ks ds e key, deref ρ2 x = some (.dT ks ds) ∧ deref ρ2 y = some e ∧ keyT e = some key ∧ Q (xor neg (valD ks ds key).isSome) ρ2 k2
theorem dt_dnotin {a b : Expr} {wa wb : WE} (hu : X.A.units + 1 < cLine) (hb : DE X b wb) (ha : DE X a wa) (hm : behindInMarks .NotIn a = false := by rfl) : DT X (.Compare b [.NotIn] [a] pos) (wDInT true wb wa) := by
  obtain ⟨ta, pa, ra⟩ := ha
  obtain ⟨tb, pb, rb⟩ := hb
  refine ⟨_, pt_cmp (pc_dnotin hu pb pa) hm, fun O p _ ρ k σ H Q J I h g => ?_⟩
  refine rb O p ρ k σ H _ _ I h fun u H1 r ρ1 k1 I1 s1 q1 h1 => ?_
  refine ra O p ρ1 k1 σ H1 _ _ I1 h1 fun v H2 r2 ρ2 k2 I2 s2 q2 h2 => ?_
  obtain ⟨ks, ds, e, key, e1, e2, e3, h2⟩ := h2
  obtain ⟨x, o, rfl, dg, eo⟩ := dinCore (deref_ok I2 q2 e1) (deref_ok I2 (RRep.step I1 s2 q1) e2) e3
  refine ⟨x, o, rfl, dg, _, rfl, g _ H2 ρ2 k2 I2 (s1.trans s2 I1.pn) ?_⟩
  rw [eo]
  simpa using h2
end
end DL

set_option Elab.async false
set_option linter.all false
set_option maxRecDepth 100000
/-! ELdy: the words for dicts of tuple keys, unfolded -/
namespace DL
open PySem PySem.Spec PyProof.Rows L2
section
variable {ρ : En} {k : Kt} {Q : R → En → Kt → Prop} {QN : OD → En → Kt → Prop} {QL : List D → En → Kt → Prop} {E : DEnds} {i : Nat} {a b c : WE} {wn : WN} {wa : WA} {wf : WF} {P : D → Prop}
@[simp] theorem s_ForK {g : WG} {w : WS} : wForK i g w E ρ k = ∃ ks ds, ρ[i]? = some (.val (.dT ks ds)) ∧ forW g w { nx := fun ρ' k' => E.nx ρ' (rsk k k'), rt := fun d k' => E.rt d (rsk k k') } (ks.map tupK) ρ (nxk k) := rfl
@[simp] theorem s_LcK {vs : List Nat} {tg : WG} {ts : WT} {el : WE} : wLcK i vs tg ts el ρ k QL = ∃ ks ds, ρ[i]? = some (.val (.dT ks ds)) ∧ lcW vs tg ts el (ks.map tupK) [] (wipeE ρ vs) (nxk (nxk k)) fun zs ρ' k' => QL zs ρ' (rsk k (rsk (nxk k) k')) := rfl
@[simp] theorem s_SetN : wSetN i wn E ρ k = wn ρ k fun zs ρ1 k1 => E.nx (ρ1.set i (.own zs)) k1 := rfl
@[simp] theorem s_NewN : wNewN wn ρ k Q = wn ρ k fun zs ρ1 k1 => Q (.val zs.toD) ρ1 k1 := rfl
@[simp] theorem s_MtD : wMtD ρ k QN = QN (.t [] []) ρ k := rfl
@[simp] theorem s_OneD : wOneD a b ρ k QN = a ρ k fun x ρ1 k1 => b ρ1 k1 fun y ρ2 k2 => ∃ e key z ρ3, deref ρ2 x = some e ∧ keyT e = some key ∧ frz ρ2 y = some (z, ρ3) ∧ QN (.t [key] [z]) ρ3 k2 := rfl
@[simp] theorem s_CpD : wCpD wa ρ k QN = wa ρ k fun rs ρ1 k1 => ∃ ks ds, derefL ρ1 rs = some [.dT ks ds] ∧ hashOk ks = true ∧ QN (.t ks ds) ρ1 k1 := rfl
@[simp] theorem s_DGetO : wDGetO a b c ρ k Q = a ρ k fun x ρ1 k1 => (∃ ks ds, deref ρ1 x = some (.dT ks ds)) ∧ b ρ1 k1 fun y ρ2 k2 => c ρ2 k2 fun z ρ3 k3 => ∃ ks ds e key, deref ρ3 x = some (.dT ks ds) ∧ deref ρ3 y = some e ∧ keyT e = some key ∧ Q (match valD ks ds key with | some d => .val d | none => z) ρ3 k3 := rfl
@[simp] theorem s_DGetT : wDGet a b ρ k Q = a ρ k fun x ρ1 k1 => b ρ1 k1 fun y ρ2 k2 => ∃ ks ds e key d, deref ρ2 x = some (.dT ks ds) ∧ deref ρ2 y = some e ∧ keyT e = some key ∧ valD ks ds key = some d ∧ Q (.val d) ρ2 k2 := rfl
@[simp] theorem s_DInT {neg : Bool} : wDIn neg b a ρ k Q = b ρ k fun y ρ1 k1 => a ρ1 k1 fun x ρ2 k2 => ∃ ks ds e key, deref ρ2 x = some (.dT ks ds) ∧ deref ρ2 y = some e ∧ keyT e = some key ∧ Q (.val (.bl (xor neg (valD ks ds key).isSome))) ρ2 k2 := rfl
@[simp] theorem s_DInTT {neg : Bool} {QT : Bool → En → Kt → Prop} : wDInT neg b a ρ k QT = b ρ k fun y ρ1 k1 => a ρ1 k1 fun x ρ2 k2 => ∃ ks ds e key, deref ρ2 x = some (.dT ks ds) ∧ deref ρ2 y = some e ∧ keyT e = some key ∧ QT (xor neg (valD ks ds key).isSome) ρ2 k2 := rfl
@[simp] theorem s_PutD : wPutD i b a E ρ k = a ρ k fun r ρ1 k1 => ∃ y ρ2, frz ρ1 r = some (y, ρ2) ∧ (∃ ks ds, ρ2[i]? = some (.own (.t ks ds))) ∧ b ρ2 k1 fun r2 ρ3 k3 => ∃ e key ks ds, deref ρ3 r2 = some e ∧ keyT e = some key ∧ ρ3[i]? = some (.own (.t ks ds)) ∧ ks.Nodup ∧ ks.length < sizeLine ∧ E.nx (ρ3.set i (.own (.t (putD ks ds key y).1 (putD ks ds key y).2))) k3 := rfl
@[simp] theorem s_CallR {m : Nat} {dds : List D} : wCallR m wf dds wa ρ k Q = wa ρ k fun rs ρ1 k1 => rs.length = m ∧ ∃ ds ρ2, frzL ρ1 rs = some (ds, ρ2) ∧ wf (ds ++ dds) k1 fun d k2 => flatD d = true ∧ Q (.val d) ρ1 k2 := rfl
@[simp] theorem s_Max2 {i j : Int} : fMax2 [.int i, .int j] P = P (.int (max i j)) := rfl
@[simp] theorem s_Min2 {i j : Int} : fMin2 [.int i, .int j] P = P (.int (min i j)) := rfl
@[simp] theorem s_MaxD {xs : List D} : fMaxD [.lst xs] P = ∃ d, isPyL xs = true ∧ PySem.W.AlikeAll (pyL xs) ∧ PyData.depthAll (pyL xs) ≤ 60 ∧ bestD xs = some d ∧ P d := rfl
end
end DL

set_option Elab.async false
set_option linter.all false
set_option maxRecDepth 100000
set_option maxHeartbeats 1000000
/-! ELsp: pairs (row, number) sorted; the greatest of pairs (number, row) -/
namespace DL
open PySem PySem.Spec PyProof.Rows L2
/-- a row and a number -/
def tP (p : List Int × Int) : D := .tup [.tup (p.1.map .int), .int p.2]
def leQ (a b : List Int × Int) : Prop := (a.1 ≤ b.1 ∧ a.1 ≠ b.1) ∨ (a.1 = b.1 ∧ a.2 ≤ b.2)
instance (a b : List Int × Int) : Decidable (leQ a b) := by unfold leQ; infer_instance
theorem leQ_trans {a b c : List Int × Int} (h1 : leQ a b) (h2 : leQ b c) : leQ a c := by
  unfold leQ at *
  rcases h1 with ⟨h1, n1⟩ | ⟨h1, g1⟩
  · rcases h2 with ⟨h2, n2⟩ | ⟨h2, _⟩
    · exact .inl ⟨List.le_trans h1 h2, fun e => n1 (List.le_antisymm h1 (by rw [e]; exact h2))⟩
    · exact .inl ⟨by rw [← h2]; exact h1, by rw [← h2]; exact n1⟩
  · rcases h2 with ⟨h2, n2⟩ | ⟨h2, g2⟩
    · exact .inl ⟨by rw [h1]; exact h2, by rw [h1]; exact n2⟩
    · exact .inr ⟨h1.trans h2, by omega⟩
theorem leQ_total (a b : List Int × Int) : leQ a b ∨ leQ b a := by
  unfold leQ
  by_cases e : a.1 = b.1
  · rcases Int.le_total a.2 b.2 with g | g
    · exact .inl (.inr ⟨e, g⟩)
    · exact .inr (.inr ⟨e.symm, g⟩)
  · rcases List.le_total a.1 b.1 with g | g
    · exact .inl (.inl ⟨g, e⟩)
    · exact .inr (.inl ⟨g, fun z => e z.symm⟩)
theorem leQ_anti {a b : List Int × Int} (h1 : leQ a b) (h2 : leQ b a) : a = b := by
  unfold leQ at *
  rcases h1 with ⟨h1, n1⟩ | ⟨h1, g1⟩
  · rcases h2 with ⟨h2, _⟩ | ⟨h2, _⟩
    · exact absurd (List.le_antisymm h1 h2) n1
    · exact absurd h2.symm n1
  · rcases h2 with ⟨h2, n2⟩ | ⟨h2, g2⟩
    · exact absurd h1.symm n2
    · exact Prod.ext h1 (by omega)
theorem py_tP (a : List Int × Int) : py (tP a) = .tuple [.tuple (a.1.map .int), .int a.2] := by
  unfold tP
  rw [py, pyL, pyL, pyL, py, py, pyL_ints']
theorem eqv_rows (a b : List Int) : PyData.eqv (.tuple (a.map .int)) (.tuple (b.map .int)) = decide (a = b) := by
  have := eqD_tints a b
  rw [eqD, py, py, pyL_ints', pyL_ints'] at this
  exact this
open PySem.W in
theorem lt_rows (a b : List Int) : dataLt (.tuple (b.map .int)) (.tuple (a.map .int)) = !decide (a ≤ b) := by
  have := congrFun (congrFun (dataLe_rows (fun x : List Int => x)) a) b
  rw [dataLe_eq] at this
  have e : dataLt (.tuple (b.map .int)) (.tuple (a.map .int)) = dataLt (.list (b.map .int)) (.list (a.map .int)) := rfl
  rw [e]
  simp only [cond_false] at this
  rw [← this, Bool.not_not]
open PySem.W in
theorem lt_tP (a b : List Int × Int) : dataLt (py (tP b)) (py (tP a)) = !decide (leQ a b) := by
  rw [py_tP, py_tP]
  refine (dataLt_tuple _ _).trans ?_
  have al : alike (.tuple (b.1.map .int)) (.tuple (a.1.map .int)) = true := by rw [alike]; exact alikeAll_map (α := Int) b.1 a.1
  by_cases h : b.1 = a.1
  · rw [dataLt_all_yes al (by rw [eqv_rows, decide_eq_true h])]
    by_cases h2 : b.2 = a.2
    · rw [h2, lex_irrefl]
      have : leQ a b := .inr ⟨h.symm, by omega⟩
      rw [decide_eq_true this]
      rfl
    · rw [dataLt_all_no (by simp [alike]) (by simp [PyData.eqv, h2])]
      refine (dataLt_int _ _).trans ?_
      by_cases g : b.2 < a.2
      · rw [decide_eq_true g, decide_eq_false (by unfold leQ; rintro (⟨_, z⟩ | ⟨_, z⟩); exact z h.symm; omega)]; rfl
      · rw [decide_eq_false g, decide_eq_true (show leQ a b from .inr ⟨h.symm, by omega⟩)]; rfl
  · rw [dataLt_all_no al (by rw [eqv_rows, decide_eq_false h])]
    refine (lt_rows _ _).trans (congrArg (!·) ?_)
    refine decide_eq_decide.mpr ⟨fun z => .inl ⟨z, fun e => h e.symm⟩, ?_⟩
    rintro (z | z)
    · exact z.1
    · exact absurd z.1.symm h
def sortQ (xs : List (List Int × Int)) : List (List Int × Int) := xs.mergeSort fun a b => decide (leQ a b)
theorem sortQ_perm (xs : List (List Int × Int)) : (sortQ xs).Perm xs := List.mergeSort_perm _ _
theorem sortQ_sorted (xs : List (List Int × Int)) : (sortQ xs).Pairwise leQ := by
  have := List.pairwise_mergeSort (le := fun a b => decide (leQ a b)) (fun a b c h1 h2 => by simp only [decide_eq_true_eq] at *; exact leQ_trans h1 h2) (fun a b => by simp only [Bool.or_eq_true, decide_eq_true_eq]; exact leQ_total a b) xs
  exact this.imp fun h => of_decide_eq_true h
theorem sortQ_unique {xs ys : List (List Int × Int)} (h : ys.Perm xs) (s : ys.Pairwise leQ) : sortQ xs = ys :=
  perm_sorted_eq' (le := leQ) (fun a b h1 h2 => leQ_anti h1 h2) ((sortQ_perm xs).trans h.symm) (sortQ_sorted xs) s
theorem pyL_tPs (xs : List (List Int × Int)) : pyL (xs.map tP) = xs.map fun a => PyData.tuple [.tuple (a.1.map .int), .int a.2] := by
  induction xs with
  | nil => rfl
  | cons x r ih => rw [List.map_cons, pyL, ih, py_tP]; rfl
theorem isPyL_tPs (xs : List (List Int × Int)) : isPyL (xs.map tP) = true := by
  induction xs with
  | nil => rfl
  | cons x r ih =>
    have : isPy (tP x) = true := by simp [tP, isPy, isPyL, isPyL_ints']
    rw [List.map_cons, isPyL, ih, this]; rfl
theorem depth_pyi (r : List Int) : PyData.depthAll (r.map PyData.int) = 0 := by
  rw [← pyL_ints']; exact depth_ints r
theorem t_sortQ {xs : List (List Int × Int)} {P : List D → Prop} (h : P ((sortQ xs).map tP)) : fSortD [.lst (xs.map tP)] P := by
  refine ⟨isPyL_tPs xs, ?_, ?_, fun x hx => ?_, ?_⟩
  · rw [pyL_tPs]
    exact PySem.W.AllAlike.of fun a b => by
      have : PySem.W.alikeAll (a.1.map PyData.int) (b.1.map .int) = true := PySem.W.alikeAll_map (α := Int) a.1 b.1
      simp [PySem.W.alike, PySem.W.alikeAll, this]
  · rw [pyL_tPs]
    exact PySem.W.Sortable.tuples fun _ => ⟨_, _, rfl⟩
  · obtain ⟨a, _, rfl⟩ := List.mem_map.mp hx
    rw [py_tP]
    simp only [PyData.depth, PyData.depthAll, depth_pyi]
    omega
  · have e : (xs.map tP).mergeSort leD = (sortQ xs).map tP := by
      rw [sortQ, List.map_mergeSort (s := leD)]
      intro a _ b _
      unfold leD
      rw [PySem.W.dataLe_eq]
      show decide (leQ a b) = !PySem.W.dataLt (py (tP b)) (py (tP a))
      rw [lt_tP, Bool.not_not]
    rw [e]
    exact h
/-! ### the greatest of (number, row) -/
def tN (p : Int × List Int) : D := .tup [.int p.1, .tup (p.2.map .int)]
theorem py_tN (a : Int × List Int) : py (tN a) = .tuple [.int a.1, .tuple (a.2.map .int)] := by
  unfold tN
  rw [py, pyL, pyL, pyL, py, py, pyL_ints']
theorem pyL_tNs (xs : List (Int × List Int)) : pyL (xs.map tN) = xs.map fun a => PyData.tuple [.int a.1, .tuple (a.2.map .int)] := by
  induction xs with
  | nil => rfl
  | cons x r ih => rw [List.map_cons, pyL, ih, py_tN]; rfl
theorem isPyL_tNs (xs : List (Int × List Int)) : isPyL (xs.map tN) = true := by
  induction xs with
  | nil => rfl
  | cons x r ih =>
    have : isPy (tN x) = true := by simp [tN, isPy, isPyL, isPyL_ints']
    rw [List.map_cons, isPyL, ih, this]; rfl
open PySem.W in
theorem lt_tN {a b : Int × List Int} (h : a.1 ≠ b.1) : ltD (tN a) (tN b) = decide (a.1 < b.1) := by
  unfold ltD
  rw [py_tN, py_tN]
  refine (dataLt_tuple _ _).trans ?_
  rw [dataLt_all_no (by simp [alike]) (by simp [PyData.eqv, h])]
  exact dataLt_int _ _
theorem best_fold : ∀ (xs : List (Int × List Int)) (x : Int × List Int), ∃ y : Int × List Int, (xs.map tN).foldl (fun a y => if ltD a y then y else a) (tN x) = tN y ∧ y.1 = xs.foldl (fun m p => max m p.1) x.1
  | [], x => ⟨x, rfl, rfl⟩
  | z :: r, x => by
    rw [List.map_cons, List.foldl_cons, List.foldl_cons]
    by_cases e : x.1 = z.1
    · have em : max x.1 z.1 = x.1 := by omega
      rw [em]
      cases q : ltD (tN x) (tN z) with
      | true =>
        obtain ⟨y, h1, h2⟩ := best_fold r z
        exact ⟨y, by simpa using h1, by rw [e]; exact h2⟩
      | false =>
        obtain ⟨y, h1, h2⟩ := best_fold r x
        exact ⟨y, by simpa using h1, h2⟩
    · rw [lt_tN e]
      by_cases g : x.1 < z.1
      · rw [decide_eq_true g, if_pos rfl, show max x.1 z.1 = z.1 by omega]
        exact best_fold r z
      · rw [decide_eq_false g, if_neg Bool.false_ne_true, show max x.1 z.1 = x.1 by omega]
        exact best_fold r x
theorem t_maxN {x : Int × List Int} {xs : List (Int × List Int)} {P : D → Prop} (h : ∀ y : Int × List Int, y.1 = xs.foldl (fun m p => max m p.1) x.1 → P (tN y)) : fMaxD [.lst ((x :: xs).map tN)] P := by
  obtain ⟨y, h1, h2⟩ := best_fold xs x
  refine ⟨tN y, isPyL_tNs _, ?_, ?_, ?_, h y h2⟩
  · rw [pyL_tNs]
    refine ⟨fun a ha b hb => ?_, fun a ha => ?_⟩
    · obtain ⟨p, _, rfl⟩ := List.mem_map.mp ha
      obtain ⟨q, _, rfl⟩ := List.mem_map.mp hb
      have : PySem.W.alikeAll (p.2.map PyData.int) (q.2.map .int) = true := PySem.W.alikeAll_map (α := Int) p.2 q.2
      simp [PySem.W.alike, PySem.W.alikeAll, this]
    · obtain ⟨p, _, rfl⟩ := List.mem_map.mp ha
      simp
  · have : ∀ zs : List (Int × List Int), PyData.depthAll (pyL (zs.map tN)) ≤ 2 := by
      intro zs
      induction zs with
      | nil => simp [pyL, PyData.depthAll]
      | cons z r ih =>
        rw [List.map_cons, pyL, PyData.depthAll, py_tN]
        simp only [PyData.depth, PyData.depthAll, depth_pyi]
        omega
    have := this (x :: xs)
    omega
  · show some _ = some _
    rw [← h1]
end DL

set_option linter.all false
/-! what the defs of k27 do, over trees (printed by gen2.py) -/
namespace Lw_k27
open PySem L2 DL
/-- the addresses of the classes; the tables of code objects -/
structure CA where
  tabs : List (Addr × Str)
  C_Hall : Addr
  C_BadItem : Addr
  C_TooMany : Addr
  C_BadHall : Addr
  C_BadSizes : Addr
structure CAok (c : CA) : Prop where
  t : True
def Cs_own (c : CA) : List Addr := [c.C_Hall]
def w_eq_Hall (c : CA) : WS :=
  (wRet (wAndV (wCB (fIsC c.C_Hall) (wCons (wVar 1) (wCons (wC (.obj c.C_Hall)) wNil))) (wOp fEq (wTup (wCons (wFld c.C_Hall "many" (wVar 0)) (wCons (wFld c.C_Hall "arrows" (wVar 0)) wNil))) (wTup (wCons (wFld c.C_Hall "many" (wVar 1)) (wCons (wFld c.C_Hall "arrows" (wVar 1)) wNil))))))
abbrev wfq_Hall (c : CA) : WF := wfOf 2 (w_eq_Hall c)
def tb_q (c : CA) : List (Addr × WF) := [(c.C_Hall, wfq_Hall c)]
def w_is_integer (c : CA) : WS :=
  (wRet (wAndV (wCB fIsi (wCons (wVar 0) (wCons (wC (.ty "int")) wNil))) (wNotV (wCB fIsi (wCons (wVar 0) (wCons (wC (.ty "bool")) wNil))))))
abbrev wf_is_integer (c : CA) : WF := wfOf 1 (w_is_integer c)
def w_is_row (c : CA) : WS :=
  (wRet (wCB fIsiT (wCons (wVar 0) (wCons (wTup (wCons (wC (.ty "list")) (wCons (wC (.ty "tuple")) wNil))) wNil))))
abbrev wf_is_row (c : CA) : WF := wfOf 1 (w_is_row c)
def w_is_arrow (c : CA) : WS :=
  (wSeq (wIf (wOrT (wNotT (wTru (wCB fIsi (wCons (wVar 0) (wCons (wC (.ty "tuple")) wNil))))) (wTest (wOp fNe (wCB fLen (wCons (wVar 0) wNil)) (wC (.int 2))))) (wRet (wC (.bl false))) wNext)
  (wRet (wAndV (wCB fAll (wCons (wNew (wLc [2] (wSeqI (wVar 0)) (gNm 2) (fun ρ k Q => Q true ρ k) (wAndV (wCall 1 (wf_is_integer c) [] (wCons (wVar 2) wNil)) (wChain (fCmp fun i j => decide (i ≤ j)) (fCmp fun i j => decide (i < j)) (wC (.int 0)) (wVar 2) (wVar 1))))) wNil)) (wOp fNe (wOp fIx (wVar 0) (wC (.int 0))) (wOp fIx (wVar 0) (wC (.int 1)))))))
abbrev wf_is_arrow (c : CA) : WF := wfOf 3 (w_is_arrow c)
def w_first_order (c : CA) : WS :=
  (wSeq (wSetF 2 (wLst wNil))
  (wSeq (wFor (wRng1 (wCons (wVar 0) wNil)) (gNm 3)
  (wSeq (wSetF 4 (wLc [5] (wRng1 (wCons (wVar 0) wNil)) (gNm 5) (wAndT (wTest (wOp fNotIn (wVar 5) (wVar 2))) (wNotT (wTru (wCB fAny (wCons (wNew (wLc [6, 7] (wSeqI (wVar 1)) (gTp 2 (gCons (gNm 6) (gCons (gNm 7) gNil))) (fun ρ k Q => Q true ρ k) (wAndV (wOp fEq (wVar 7) (wVar 5)) (wOp fNotIn (wVar 6) (wVar 2))))) wNil))))) (wVar 5)))
  (wIf (wTest (wOp (fCmp fun i j => decide (j < i)) (wCB fLen (wCons (wVar 4) wNil)) (wC (.int 0)))) (wAppend 2 (wOp fIx (wVar 4) (wC (.int 0)))) wNext)))
  (wRet (wCB fTuple (wCons (wVar 2) wNil)))))
abbrev wf_first_order (c : CA) : WF := wfOf 8 (w_first_order c)
def w_hall_fault (c : CA) : WS :=
  (wSeq (wIf (wOrT (wNotT (wTru (wCall 1 (wf_is_integer c) [] (wCons (wVar 0) wNil)))) (wNotT (wTest (wChain (fCmp fun i j => decide (i ≤ j)) (fCmp fun i j => decide (i ≤ j)) (wC (.int 1)) (wVar 0) (wC (.int 7)))))) (wRet (wC (.str "many"))) wNext)
  (wSeq (wIf (wOrT (wNotT (wTru (wCall 1 (wf_is_row c) [] (wCons (wVar 1) wNil)))) (wTest (wOp (fCmp fun i j => decide (j < i)) (wCB fLen (wCons (wVar 1) wNil)) (wC (.int 12))))) (wRet (wC (.str "arrows"))) wNext)
  (wSeq (wIf (wNotT (wTru (wCB fAll (wCons (wNew (wLc [2] (wSeqI (wVar 1)) (gNm 2) (fun ρ k Q => Q true ρ k) (wCall 2 (wf_is_arrow c) [] (wCons (wVar 2) (wCons (wVar 0) wNil))))) wNil)))) (wRet (wC (.str "pair"))) wNext)
  (wRet (wIfE (wTest (wOp fEq (wCB fLen (wCons (wCall 2 (wf_first_order c) [] (wCons (wVar 0) (wCons (wVar 1) wNil))) wNil)) (wVar 0))) (wC .non) (wC (.str "round")))))))
abbrev wf_hall_fault (c : CA) : WF := wfOf 3 (w_hall_fault c)
def w_need_hall (c : CA) : WS :=
  (wIf (wNotT (wTru (wCB (fIsC c.C_Hall) (wCons (wVar 0) (wCons (wC (.obj c.C_Hall)) wNil))))) (wRaise c.C_BadItem ["value"] (wCons (wVar 0) wNil)) wNext)
abbrev wf_need_hall (c : CA) : WF := wfOf 1 (w_need_hall c)
def w_is_numbers (c : CA) : WS :=
  (wRet (wAndV (wCall 1 (wf_is_row c) [] (wCons (wVar 1) wNil)) (wAndV (wOp fEq (wCB fLen (wCons (wVar 1) wNil)) (wFld c.C_Hall "many" (wVar 0))) (wCB fAll (wCons (wNew (wLc [2] (wSeqI (wVar 1)) (gNm 2) (fun ρ k Q => Q true ρ k) (wCall 1 (wf_is_integer c) [] (wCons (wVar 2) wNil)))) wNil)))))
abbrev wf_is_numbers (c : CA) : WF := wfOf 3 (w_is_numbers c)
def w_is_sizes (c : CA) : WS :=
  (wRet (wAndV (wCall 2 (wf_is_numbers c) [] (wCons (wVar 0) (wCons (wVar 1) wNil))) (wOp (fCmp fun i j => decide (j ≤ i)) (wCB fMin (wCons (wVar 1) wNil)) (wC (.int 0)))))
abbrev wf_is_sizes (c : CA) : WF := wfOf 2 (w_is_sizes c)
def w_need_sizes (c : CA) : WS :=
  (wSeq (wIf (wNotT (wTru (wCall 2 (wf_is_sizes c) [] (wCons (wVar 0) (wCons (wVar 1) wNil))))) (wRaise c.C_BadSizes ["value"] (wCons (wVar 1) wNil)) wNext)
  (wRet (wCB fTuple (wCons (wVar 1) wNil))))
abbrev wf_need_sizes (c : CA) : WF := wfOf 2 (w_need_sizes c)
def w_formed (c : CA) : WS :=
  (wSeq (wSet 3 (wCB fSum (wCons (wNew (wLc [4, 5] (wZip (wCons (wVar 1) (wCons (wVar 2) wNil))) (gTp 2 (gCons (gNm 4) (gCons (gNm 5) gNil))) (fun ρ k Q => Q true ρ k) (wOp fMulX (wVar 4) (wVar 5)))) wNil)))
  (wRet (wOp fSub (wVar 3) (wCB fSum (wCons (wNew (wLc [6, 7] (wSeqI (wFld c.C_Hall "arrows" (wVar 0))) (gTp 2 (gCons (gNm 6) (gCons (gNm 7) gNil))) (fun ρ k Q => Q true ρ k) (wOp fMulX (wOp fIx (wVar 1) (wVar 6)) (wOp fIx (wVar 2) (wVar 7))))) wNil)))))
abbrev wf_formed (c : CA) : WF := wfOf 8 (w_formed c)
def w_rows_below (c : CA) : WS :=
  (wSeq (wSet 1 (wNew (wLst (wCons (wTup wNil) wNil))))
  (wSeq (wFor (wSeqI (wVar 0)) (gNm 2)
  (wSetF 1 (wLc2 [3, 4] [4] (wSeqI (wVar 1)) (gNm 3) (fun ρ k Q => Q true ρ k) (wRng1 (wCons (wOp fAdd (wVar 2) (wC (.int 1))) wNil)) (gNm 4) (fun ρ k Q => Q true ρ k) (wOp fAdd (wVar 3) (wTup (wCons (wVar 4) wNil))))))
  (wRet (wVar 1))))
abbrev wf_rows_below (c : CA) : WF := wfOf 5 (w_rows_below c)
def w_taken_off (c : CA) : WS :=
  (wRet (wCB fTuple (wCons (wNew (wLc [2, 3] (wZip (wCons (wVar 0) (wCons (wVar 1) wNil))) (gTp 2 (gCons (gNm 2) (gCons (gNm 3) gNil))) (fun ρ k Q => Q true ρ k) (wOp fSub (wVar 2) (wVar 3)))) wNil)))
abbrev wf_taken_off (c : CA) : WF := wfOf 4 (w_taken_off c)
def w_is_part_by (c : CA) : WS :=
  (wSeq (wSet 4 (wCall 2 (wf_taken_off c) [] (wCons (wVar 2) (wCons (wVar 3) wNil))))
  (wRet (wCB fAll (wCons (wNew (wLc [5] (wSeqI (wDGet (wVar 1) (wVar 3))) (gNm 5) (fun ρ k Q => Q true ρ k) (wOp (fCmp fun i j => decide (j ≤ i)) (wCall 3 (wf_formed c) [] (wCons (wVar 0) (wCons (wVar 5) (wCons (wVar 4) wNil)))) (wC (.int 0))))) wNil))))
abbrev wf_is_part_by (c : CA) : WF := wfOf 6 (w_is_part_by c)
def w_parts_known (c : CA) : WS :=
  (wSeq (wSetN 2 wMtD)
  (wSeq (wFor (wSeqI (wVar 1)) (gNm 3)
  (wFor (wSeqI (wCall 1 (wf_rows_below c) [] (wCons (wVar 3) wNil))) (gNm 4)
  (wIf (wDInT true (wVar 4) (wVar 2)) (wPutD 2 (wVar 4) (wNew (wLc [5] (wSeqI (wCall 1 (wf_rows_below c) [] (wCons (wVar 4) wNil))) (gNm 5) (wOrT (wTest (wOp fEq (wVar 5) (wVar 4))) (wTru (wCallR 4 (wf_is_part_by c) [] (wCons (wVar 0) (wCons (wVar 2) (wCons (wVar 4) (wCons (wVar 5) wNil))))))) (wVar 5)))) wNext)))
  (wRet (wVar 2))))
abbrev wf_parts_known (c : CA) : WF := wfOf 6 (w_parts_known c)
def w_need_few (c : CA) : WS :=
  (wSeq (wSet 1 (wC (.int 1)))
  (wSeq (wFor (wSeqI (wVar 0)) (gNm 2)
  (wSet 1 (wOp fMulX (wVar 1) (wOp fAdd (wVar 2) (wC (.int 1))))))
  (wIf (wTest (wOp (fCmp fun i j => decide (j < i)) (wVar 1) (wC (.int 2000)))) (wRaise c.C_TooMany ["what", "most"] (wCons (wC (.str "rows")) (wCons (wC (.int 2000)) wNil))) wNext)))
abbrev wf_need_few (c : CA) : WF := wfOf 3 (w_need_few c)
def w_general_parts (c : CA) : WS :=
  (wSeq (wDrop (wCall 1 (wf_need_hall c) [] (wCons (wVar 0) wNil)))
  (wSeq (wSet 2 (wCall 2 (wf_need_sizes c) [] (wCons (wVar 0) (wCons (wVar 1) wNil))))
  (wSeq (wDrop (wCall 1 (wf_need_few c) [] (wCons (wVar 2) wNil)))
  (wRet (wCB fTuple (wCons (wDGet (wCall 2 (wf_parts_known c) [] (wCons (wVar 0) (wCons (wTup (wCons (wVar 2) wNil)) wNil))) (wVar 2)) wNil))))))
abbrev wf_general_parts (c : CA) : WF := wfOf 3 (w_general_parts c)
def w_need_two (c : CA) : WS :=
  (wSeq (wDrop (wCall 1 (wf_need_hall c) [] (wCons (wVar 0) wNil)))
  (wSeq (wSet 3 (wCall 2 (wf_need_sizes c) [] (wCons (wVar 0) (wCons (wVar 1) wNil))))
  (wSeq (wSet 4 (wCall 2 (wf_need_sizes c) [] (wCons (wVar 0) (wCons (wVar 2) wNil))))
  (wSeq (wDrop (wCall 1 (wf_need_few c) [] (wCons (wVar 3) wNil)))
  (wSeq (wDrop (wCall 1 (wf_need_few c) [] (wCons (wVar 4) wNil)))
  (wRet (wTup (wCons (wVar 3) (wCons (wVar 4) wNil)))))))))
abbrev wf_need_two (c : CA) : WF := wfOf 5 (w_need_two c)
def w_balance (c : CA) : WS :=
  (wRet (wOp fSub (wCall 3 (wf_formed c) [] (wCons (wVar 0) (wCons (wVar 1) (wCons (wVar 2) wNil)))) (wCall 3 (wf_formed c) [] (wCons (wVar 0) (wCons (wVar 2) (wCons (wVar 1) wNil))))))
abbrev wf_balance (c : CA) : WF := wfOf 3 (w_balance c)
def w_bar_of (c : CA) : WS :=
  (wSeq (wFor (wSeqI (wDGet (wVar 1) (wVar 2))) (gNm 3)
  (wIf (wAndT (wTest (wOp (fCmp fun i j => decide (j < i)) (wCB fMax (wCons (wVar 3) wNil)) (wC (.int 0)))) (wAndT (wTest (wOp fNe (wVar 3) (wVar 2))) (wTest (wOp (fCmp fun i j => decide (i ≤ j)) (wCall 3 (wf_balance c) [] (wCons (wVar 0) (wCons (wVar 3) (wCons (wVar 2) wNil)))) (wC (.int 0)))))) (wRet (wVar 3)) wNext))
  (wRet (wC .non)))
abbrev wf_bar_of (c : CA) : WF := wfOf 4 (w_bar_of c)
def w_joined (c : CA) : WS :=
  (wSeq (wSetN 2 (wCpD (wCons (wVar 0) wNil)))
  (wSeq (wForK 1 (gNm 3)
  (wPutD 2 (wVar 3) (wOp fAdd (wDGetO (wVar 2) (wVar 3) (wC (.int 0))) (wDGet (wVar 1) (wVar 3)))))
  (wRet (wVar 2))))
abbrev wf_joined (c : CA) : WF := wfOf 4 (w_joined c)
def w_split_of (c : CA) : WS :=
  (wSeq (wFor (wSeqI (wDGet (wVar 0) (wVar 1))) (gNm 2)
  (wIf (wAndT (wTest (wOp (fCmp fun i j => decide (j < i)) (wCB fMax (wCons (wVar 2) wNil)) (wC (.int 0)))) (wAndT (wTest (wOp fNe (wVar 2) (wVar 1))) (wTest (wOp fIn (wCall 2 (wf_taken_off c) [] (wCons (wVar 1) (wCons (wVar 2) wNil))) (wDGet (wVar 0) (wVar 1)))))) (wRet (wVar 2)) wNext))
  (wRet (wC .non)))
abbrev wf_split_of (c : CA) : WF := wfOf 3 (w_split_of c)
def w_summed (c : CA) (self : WF) : WS :=
  (wSeq (wIf (wTest (wOp fEq (wCB fMax (wCons (wVar 2) wNil)) (wC (.int 0)))) (wRet (wNewN wMtD)) wNext)
  (wSeq (wSet 3 (wIfE (wTest (wOp fIsN (wCall 3 (wf_bar_of c) [] (wCons (wVar 0) (wCons (wVar 1) (wCons (wVar 2) wNil)))) (wC .non))) (wC .non) (wCall 2 (wf_split_of c) [] (wCons (wVar 1) (wCons (wVar 2) wNil)))))
  (wSeq (wIf (wTest (wOp fIsN (wVar 3) (wC .non))) (wRet (wNewN (wOneD (wVar 2) (wC (.int 1))))) wNext)
  (wRet (wCall 2 (wf_joined c) [] (wCons (wCall 3 self [] (wCons (wVar 0) (wCons (wVar 1) (wCons (wVar 3) wNil)))) (wCons (wCall 3 self [] (wCons (wVar 0) (wCons (wVar 1) (wCons (wCall 2 (wf_taken_off c) [] (wCons (wVar 2) (wCons (wVar 3) wNil))) wNil)))) wNil)))))))
/-- .. with so many calls of itself in one another -/
def wf_summed (c : CA) : Nat → WF
  | 0 => wfOf 4 wNo
  | m + 1 => wfOf 4 (w_summed c (wf_summed c m))
def w_pairs_of (c : CA) : WS :=
  (wSeq (wSet 2 (wCall 3 (wf_summed c 20) [] (wCons (wVar 0) (wCons (wCall 2 (wf_parts_known c) [] (wCons (wVar 0) (wCons (wTup (wCons (wVar 1) wNil)) wNil))) (wCons (wVar 1) wNil)))))
  (wRet (wCB fTuple (wCons (wNew (wCF fSortD (wCons (wNew (wLcK 2 [3] (gNm 3) (fun ρ k Q => Q true ρ k) (wTup (wCons (wVar 3) (wCons (wDGet (wVar 2) (wVar 3)) wNil))))) wNil))) wNil))))
abbrev wf_pairs_of (c : CA) : WF := wfOf 4 (w_pairs_of c)
def w_need_one (c : CA) : WS :=
  (wSeq (wDrop (wCall 1 (wf_need_hall c) [] (wCons (wVar 0) wNil)))
  (wSeq (wSet 2 (wCall 2 (wf_need_sizes c) [] (wCons (wVar 0) (wCons (wVar 1) wNil))))
  (wSeq (wDrop (wCall 1 (wf_need_few c) [] (wCons (wVar 2) wNil)))
  (wRet (wVar 2)))))
abbrev wf_need_one (c : CA) : WF := wfOf 3 (w_need_one c)
def w_one_sum (c : CA) : WS :=
  (wRet (wCall 2 (wf_pairs_of c) [] (wCons (wVar 0) (wCons (wCall 2 (wf_need_one c) [] (wCons (wVar 0) (wCons (wVar 1) wNil))) wNil))))
abbrev wf_one_sum (c : CA) : WF := wfOf 2 (w_one_sum c)
def w_least_ext (c : CA) : WS :=
  (wSeq (wSetF 3 (wLc [4] (wSeqI (wDGet (wCall 2 (wf_parts_known c) [] (wCons (wVar 0) (wCons (wTup (wCons (wVar 1) wNil)) wNil))) (wVar 1))) (gNm 4) (fun ρ k Q => Q true ρ k) (wTup (wCons (wUn fNeg (wCall 3 (wf_formed c) [] (wCons (wVar 0) (wCons (wVar 4) (wCons (wVar 2) wNil))))) (wCons (wVar 4) wNil)))))
  (wRet (wCB fMaxD (wCons (wVar 3) wNil))))
abbrev wf_least_ext (c : CA) : WF := wfOf 5 (w_least_ext c)
def w_general_ext (c : CA) : WS :=
  (wSeq (wAsg (gTp 2 (gCons (gNm 3) (gCons (gNm 4) gNil))) (wCall 3 (wf_need_two c) [] (wCons (wVar 0) (wCons (wVar 1) (wCons (wVar 2) wNil)))))
  (wRet (wOp fIx (wCall 3 (wf_least_ext c) [] (wCons (wVar 0) (wCons (wVar 3) (wCons (wVar 4) wNil)))) (wC (.int 0)))))
abbrev wf_general_ext (c : CA) : WF := wfOf 5 (w_general_ext c)
def w_general_hom (c : CA) : WS :=
  (wSeq (wAsg (gTp 2 (gCons (gNm 3) (gCons (gNm 4) gNil))) (wCall 3 (wf_need_two c) [] (wCons (wVar 0) (wCons (wVar 1) (wCons (wVar 2) wNil)))))
  (wRet (wOp fAdd (wOp fIx (wCall 3 (wf_least_ext c) [] (wCons (wVar 0) (wCons (wVar 3) (wCons (wVar 4) wNil)))) (wC (.int 0))) (wCall 3 (wf_formed c) [] (wCons (wVar 0) (wCons (wVar 3) (wCons (wVar 4) wNil)))))))
abbrev wf_general_hom (c : CA) : WF := wfOf 5 (w_general_hom c)
def w__law_s_below (c : CA) : WS :=
  (wSeq (wSet 1 (wNew (wLst (wCons (wTup wNil) wNil))))
  (wSeq (wFor (wSeqI (wVar 0)) (gNm 2)
  (wSeq (wSet 3 (wNew (wLst wNil)))
  (wSeq (wFor (wSeqI (wVar 1)) (gNm 4)
  (wSet 3 (wOp fAdd (wVar 3) (wNew (wLc [5] (wRng1 (wCons (wOp fAdd (wVar 2) (wC (.int 1))) wNil)) (gNm 5) (fun ρ k Q => Q true ρ k) (wOp fAdd (wVar 4) (wTup (wCons (wVar 5) wNil))))))))
  (wSet 1 (wVar 3)))))
  (wRet (wVar 1))))
abbrev wf__law_s_below (c : CA) : WF := wfOf 6 (w__law_s_below c)
def wi_Hall (c : CA) : WS :=
  (wSeq (wSet 3 (wCall 2 (wf_hall_fault c) [] (wCons (wVar 1) (wCons (wVar 2) wNil))))
  (wSeq (wIf (wTest (wOp fNotN (wVar 3) (wC .non))) (wRaise c.C_BadHall ["why"] (wCons (wVar 3) wNil)) wNext)
  (wSeq (wPutF 0 c.C_Hall "many" (wVar 1))
  (wPutF 0 c.C_Hall "arrows" (wCB fTuple (wCons (wNew (wCF fSortD (wCons (wVar 2) wNil))) wNil))))))
abbrev wfi_Hall (c : CA) : WF := wfI c.C_Hall 4 (wi_Hall c)
def w__law_one_arrow (c : CA) : WS :=
  (wSeq (wAsg (gTp 2 (gCons (gNm 1) (gCons (gNm 2) gNil))) (wTup (wCons (wCall 2 wfDraw [] (wCons (wVar 0) (wCons (wC (.int 7)) wNil))) (wCons (wCall 2 wfDraw [] (wCons (wVar 0) (wCons (wC (.int 7)) wNil))) wNil))))
  (wSeq (wSet 3 (wCall 2 (wfi_Hall c) [] (wCons (wC (.int 2)) (wCons (wNew (wLst (wCons (wTup (wCons (wC (.int 0)) (wCons (wC (.int 1)) wNil))) wNil))) wNil))))
  (wSeq (wSetF 4 (wLc [12, 13] (wSeqI (wCall 1 (wf__law_s_below c) [] (wCons (wTup (wCons (wVar 1) (wCons (wVar 2) wNil))) wNil))) (gTp 2 (gCons (gNm 12) (gCons (gNm 13) gNil))) (wTest (wOp (fCmp fun i j => decide (j ≤ i)) (wVar 13) (wOp fSub (wVar 12) (wCB fMax2 (wCons (wC (.int 0)) (wCons (wOp fSub (wVar 1) (wVar 2)) wNil)))))) (wTup (wCons (wVar 12) (wCons (wVar 13) wNil)))))
  (wSeq (wIf (wTest (wOp fNe (wNew (wCF fList (wCons (wCall 2 (wf_general_parts c) [] (wCons (wVar 3) (wCons (wTup (wCons (wVar 1) (wCons (wVar 2) wNil))) wNil))) wNil))) (wVar 4))) (wRet (wC (.bl false))) wNext)
  (wSeq (wSet 5 (wNew (wLst (wCons (wTup (wCons (wTup (wCons (wC (.int 1)) (wCons (wC (.int 1)) wNil))) (wCons (wCB fMin2 (wCons (wVar 1) (wCons (wVar 2) wNil))) wNil))) (wCons (wTup (wCons (wTup (wCons (wC (.int 1)) (wCons (wC (.int 0)) wNil))) (wCons (wOp fSub (wVar 1) (wCB fMin2 (wCons (wVar 1) (wCons (wVar 2) wNil)))) wNil))) (wCons (wTup (wCons (wTup (wCons (wC (.int 0)) (wCons (wC (.int 1)) wNil))) (wCons (wOp fSub (wVar 2) (wCB fMin2 (wCons (wVar 1) (wCons (wVar 2) wNil)))) wNil))) wNil))))))
  (wSeq (wIf (wTest (wOp fNe (wCall 2 (wf_one_sum c) [] (wCons (wVar 3) (wCons (wTup (wCons (wVar 1) (wCons (wVar 2) wNil))) wNil))) (wCB fTuple (wCons (wNew (wCF fSortD (wCons (wNew (wLc [14] (wSeqI (wVar 5)) (gNm 14) (wTest (wOp (fCmp fun i j => decide (j < i)) (wOp fIx (wVar 14) (wC (.int 1))) (wC (.int 0)))) (wVar 14))) wNil))) wNil)))) (wRet (wC (.bl false))) wNext)
  (wSeq (wPar 6 7 (wCall 2 wfDraw [] (wCons (wVar 0) (wCons (wC (.int 5)) wNil))) (wCall 2 wfDraw [] (wCons (wVar 0) (wCons (wC (.int 5)) wNil))))
  (wSeq (wPar 8 9 (wNew (wLst (wCons (wCB fMin2 (wCons (wVar 1) (wCons (wVar 2) wNil))) (wCons (wOp fSub (wVar 1) (wCB fMin2 (wCons (wVar 1) (wCons (wVar 2) wNil)))) (wCons (wOp fSub (wVar 2) (wCB fMin2 (wCons (wVar 1) (wCons (wVar 2) wNil)))) wNil))))) (wNew (wLst (wCons (wCB fMin2 (wCons (wVar 6) (wCons (wVar 7) wNil))) (wCons (wOp fSub (wVar 6) (wCB fMin2 (wCons (wVar 6) (wCons (wVar 7) wNil)))) (wCons (wOp fSub (wVar 7) (wCB fMin2 (wCons (wVar 6) (wCons (wVar 7) wNil)))) wNil))))))
  (wSeq (wSet 10 (wOp fAdd (wOp fAdd (wOp fMulX (wOp fIx (wVar 8) (wC (.int 0))) (wOp fAdd (wOp fIx (wVar 9) (wC (.int 0))) (wOp fIx (wVar 9) (wC (.int 1))))) (wOp fMulX (wOp fIx (wVar 8) (wC (.int 1))) (wOp fIx (wVar 9) (wC (.int 1))))) (wOp fMulX (wOp fIx (wVar 8) (wC (.int 2))) (wOp fAdd (wOp fIx (wVar 9) (wC (.int 2))) (wOp fIx (wVar 9) (wC (.int 0)))))))
  (wSeq (wSet 11 (wOp fMulX (wOp fIx (wVar 8) (wC (.int 1))) (wOp fIx (wVar 9) (wC (.int 2)))))
  (wRet (wAndV (wOp fEq (wCall 3 (wf_general_hom c) [] (wCons (wVar 3) (wCons (wTup (wCons (wVar 1) (wCons (wVar 2) wNil))) (wCons (wTup (wCons (wVar 6) (wCons (wVar 7) wNil))) wNil)))) (wVar 10)) (wOp fEq (wCall 3 (wf_general_ext c) [] (wCons (wVar 3) (wCons (wTup (wCons (wVar 1) (wCons (wVar 2) wNil))) (wCons (wTup (wCons (wVar 6) (wCons (wVar 7) wNil))) wNil)))) (wVar 11))))))))))))))
abbrev wf__law_one_arrow (c : CA) : WF := wfOf 15 (w__law_one_arrow c)
def w__law_lines (c : CA) : WS :=
  (wSeq (wAsg (gTp 2 (gCons (gNm 1) (gCons (gNm 2) gNil))) (wTup (wCons (wOp fAdd (wC (.int 1)) (wCall 2 wfDraw [] (wCons (wVar 0) (wCons (wC (.int 4)) wNil)))) (wCons (wOp fAdd (wC (.int 1)) (wCall 2 wfDraw [] (wCons (wVar 0) (wCons (wC (.int 4)) wNil)))) wNil))))
  (wSeq (wSet 3 (wCall 2 (wfi_Hall c) [] (wCons (wOp fAdd (wVar 1) (wC (.int 1))) (wCons (wNew (wLc [6] (wRng1 (wCons (wVar 1) wNil)) (gNm 6) (fun ρ k Q => Q true ρ k) (wTup (wCons (wVar 6) (wCons (wVar 1) wNil))))) wNil))))
  (wSeq (wSetF 4 (wLst wNil))
  (wSeq (wFor (wSeqI (wCall 1 (wf__law_s_below c) [] (wCons (wOp fAdd (wOp fMulX (wTup (wCons (wC (.int 1)) wNil)) (wVar 1)) (wTup (wCons (wVar 2) wNil))) wNil))) (gNm 5)
  (wIf (wTest (wOp (fCmp fun i j => decide (j ≤ i)) (wOp fIx (wVar 5) (wVar 1)) (wCB fMin2 (wCons (wCB fSum (wCons (wSl fSl (wVar 5) wNoPart (wPart (wVar 1))) wNil)) (wCons (wVar 2) wNil))))) (wAppend 4 (wVar 5)) wNext))
  (wRet (wOp fEq (wNew (wCF fList (wCons (wCall 2 (wf_general_parts c) [] (wCons (wVar 3) (wCons (wOp fAdd (wOp fMulX (wTup (wCons (wC (.int 1)) wNil)) (wVar 1)) (wTup (wCons (wVar 2) wNil))) wNil))) wNil))) (wVar 4)))))))
abbrev wf__law_lines (c : CA) : WF := wfOf 7 (w__law_lines c)
def w__law_apart (c : CA) : WS :=
  (wSeq (wSet 1 (wTup (wCons (wCall 2 wfDraw [] (wCons (wVar 0) (wCons (wC (.int 7)) wNil))) (wCons (wCall 2 wfDraw [] (wCons (wVar 0) (wCons (wC (.int 7)) wNil))) wNil))))
  (wSeq (wSet 2 (wCall 2 (wfi_Hall c) [] (wCons (wC (.int 2)) (wCons (wNew (wLst wNil)) wNil))))
  (wSeq (wIf (wOrT (wTest (wOp fNe (wNew (wCF fList (wCons (wCall 2 (wf_general_parts c) [] (wCons (wVar 2) (wCons (wVar 1) wNil))) wNil))) (wCall 1 (wf__law_s_below c) [] (wCons (wVar 1) wNil)))) (wTest (wOp fNe (wCall 3 (wf_general_ext c) [] (wCons (wVar 2) (wCons (wVar 1) (wCons (wVar 1) wNil)))) (wC (.int 0))))) (wRet (wC (.bl false))) wNext)
  (wRet (wOp fEq (wCall 2 (wf_one_sum c) [] (wCons (wVar 2) (wCons (wVar 1) wNil))) (wCB fTuple (wCons (wNew (wLc [3, 4] (wSeqI (wNew (wLst (wCons (wTup (wCons (wTup (wCons (wC (.int 0)) (wCons (wC (.int 1)) wNil))) (wCons (wOp fIx (wVar 1) (wC (.int 1))) wNil))) (wCons (wTup (wCons (wTup (wCons (wC (.int 1)) (wCons (wC (.int 0)) wNil))) (wCons (wOp fIx (wVar 1) (wC (.int 0))) wNil))) wNil))))) (gTp 2 (gCons (gNm 3) (gCons (gNm 4) gNil))) (wTest (wOp (fCmp fun i j => decide (j < i)) (wVar 4) (wC (.int 0)))) (wTup (wCons (wVar 3) (wCons (wVar 4) wNil))))) wNil)))))))
abbrev wf__law_apart (c : CA) : WF := wfOf 5 (w__law_apart c)
def w_law (c : CA) : WS :=
  (wSeq (wFor (wRng1 (wCons (wC (.int 3)) wNil)) (gNm 2)
  (wIf (wOrT (wNotT (wTru (wCall 1 (wf__law_one_arrow c) [] (wCons (wVar 1) wNil)))) (wOrT (wNotT (wTru (wCall 1 (wf__law_lines c) [] (wCons (wVar 1) wNil)))) (wNotT (wTru (wCall 1 (wf__law_apart c) [] (wCons (wVar 1) wNil)))))) (wRet (wC (.bl false))) wNext))
  (wSeq (wSet 3 (wCall 2 (wfi_Hall c) [] (wCons (wC (.int 2)) (wCons (wNew (wLst (wCons (wTup (wCons (wC (.int 0)) (wCons (wC (.int 1)) wNil))) (wCons (wTup (wCons (wC (.int 0)) (wCons (wC (.int 1)) wNil))) wNil)))) wNil))))
  (wSeq (wSet 4 (wOp fAdd (wC (.int 1)) (wCall 2 wfDraw [] (wCons (wVar 1) (wCons (wC (.int 3)) wNil)))))
  (wSeq (wIf (wOrT (wTest (wOp fNe (wCall 2 (wf_one_sum c) [] (wCons (wVar 3) (wCons (wTup (wCons (wVar 4) (wCons (wVar 4) wNil))) wNil))) (wTup (wCons (wTup (wCons (wTup (wCons (wC (.int 1)) (wCons (wC (.int 1)) wNil))) (wCons (wVar 4) wNil))) wNil)))) (wTest (wOp fNe (wCall 2 (wf_one_sum c) [] (wCons (wVar 3) (wCons (wTup (wCons (wOp fAdd (wVar 4) (wC (.int 1))) (wCons (wVar 4) wNil))) wNil))) (wTup (wCons (wTup (wCons (wTup (wCons (wOp fAdd (wVar 4) (wC (.int 1))) (wCons (wVar 4) wNil))) (wCons (wC (.int 1)) wNil))) wNil))))) (wRet (wC (.bl false))) wNext)
  (wRet (wAndV (wOp fEq (wCall 3 (wf_general_ext c) [] (wCons (wVar 3) (wCons (wTup (wCons (wVar 4) (wCons (wVar 4) wNil))) (wCons (wTup (wCons (wVar 4) (wCons (wVar 4) wNil))) wNil)))) (wC (.int 0))) (wOp fEq (wCall 3 (wf_general_hom c) [] (wCons (wVar 3) (wCons (wTup (wCons (wVar 4) (wCons (wVar 4) wNil))) (wCons (wTup (wCons (wVar 4) (wCons (wVar 4) wNil))) wNil)))) (wC (.int 0)))))))))
end Lw_k27

set_option Elab.async false
set_option linter.all false
set_option maxRecDepth 100000
/-! the rules of rewriting, bundled -/
namespace Lw_k27
open PySem L2 DL
noncomputable def sxA := (And.intro (And.intro (And.intro (And.intro (And.intro (And.intro (And.intro (And.intro @DL.s_Var @DL.s_varv) (And.intro @DL.s_varo @DL.s_dr1)) (And.intro (And.intro @DL.s_dr2 @DL.s_toDl) (And.intro @DL.s_toDk @DL.s_toDt))) (And.intro (And.intro (And.intro @DL.s_toDi @DL.s_fr1) (And.intro @DL.s_fr2 @DL.s_c2)) (And.intro (And.intro @DL.s_frC @DL.s_frD) @DL.s_C))) (And.intro (And.intro (And.intro (And.intro @DL.s_Nil @DL.s_Cons) (And.intro @DL.s_drv @DL.s_drs)) (And.intro (And.intro @DL.s_frv @DL.s_frs) @DL.s_dn)) (And.intro (And.intro (And.intro @DL.s_dc @DL.s_fn) (And.intro @DL.s_fc @DL.s_Op)) (And.intro (And.intro @DL.s_Un @DL.s_Test) @DL.s_Chain)))) (And.intro (And.intro (And.intro (And.intro (And.intro @DL.s_Tru @DL.s_NotT) (And.intro @DL.s_AndT @DL.s_OrT)) (And.intro (And.intro @DL.s_AndV @DL.s_NotV) (And.intro @DL.s_IfE @DL.s_CB))) (And.intro (And.intro (And.intro @DL.s_CF @DL.s_New) (And.intro @DL.s_Tup @DL.s_Lst)) (And.intro (And.intro @DL.s_Call @DL.s_SeqI) @DL.s_itl))) (And.intro (And.intro (And.intro (And.intro @DL.s_itt @DL.s_Rng1) (And.intro @DL.s_Zip @DL.s_za1)) (And.intro (And.intro @DL.s_za2 @DL.s_gNm) @DL.s_gNil)) (And.intro (And.intro (And.intro @DL.s_gCons0 @DL.s_gCons) (And.intro @DL.s_gTp @DL.s_gLs)) (And.intro (And.intro @DL.s_Lc @DL.s_Next) @DL.s_Seq))))) (And.intro (And.intro (And.intro (And.intro (And.intro (And.intro @DL.s_Drop @DL.s_Ret) (And.intro @DL.s_If @DL.s_Set)) (And.intro (And.intro @DL.s_Asg @DL.s_SetF) (And.intro @DL.s_Append @DL.s_For))) (And.intro (And.intro (And.intro @DL.s_Par @DL.s_NoPart) (And.intro @DL.s_Part @DL.s_Sl)) (And.intro (And.intro @DL.s_startE @DL.s_wn) @DL.s_wc))) (And.intro (And.intro (And.intro (And.intro @DL.s_rsk @DL.s_nxk1) (And.intro @DL.s_nxkp @DL.s_rsk1)) (And.intro (And.intro @DL.s_rskp @DL.s_rskx) @DL.s_add)) (And.intro (And.intro (And.intro @DL.s_addl @DL.s_addt) (And.intro @DL.s_sub @DL.s_neg)) (And.intro (And.intro @DL.s_cmp @DL.s_eq) @DL.s_ne)))) (And.intro (And.intro (And.intro (And.intro (And.intro @DL.s_in @DL.s_notin) (And.intro @DL.s_isN @DL.s_notN)) (And.intro (And.intro @DL.s_isNon0 @DL.s_isNon1) (And.intro @DL.s_isNon2 @DL.s_isNon3))) (And.intro (And.intro (And.intro @DL.s_isNon4 @DL.s_isNon5) (And.intro @DL.s_ix @DL.s_ixl)) (And.intro (And.intro @DL.s_ixt @DL.s_sll) @DL.s_slt))) (And.intro (And.intro (And.intro (And.intro @DL.s_len @DL.s_lenl) (And.intro @DL.s_lent @DL.s_sum)) (And.intro (And.intro @DL.s_numl @DL.s_numt) @DL.s_intsn)) (And.intro (And.intro (And.intro @DL.s_intsc @DL.s_ints) (And.intro @DL.s_min @DL.s_max)) (And.intro (And.intro @DL.s_any @DL.s_all) @DL.s_bls0)))))) (And.intro (And.intro (And.intro (And.intro (And.intro (And.intro (And.intro @DL.s_blsc @DL.s_bls) (And.intro @DL.s_tupl @DL.s_tupt)) (And.intro (And.intro @DL.s_listl @DL.s_listt) (And.intro @DL.s_isi @DL.s_isiT))) (And.intro (And.intro (And.intro @DL.s_ty1 @DL.s_ty2) (And.intro @DL.s_ty3 @DL.s_ty4)) (And.intro (And.intro @DL.s_ty5 @DL.s_ty6) @DL.s_tys0))) (And.intro (And.intro (And.intro (And.intro @DL.s_tysc @DL.s_kl) (And.intro @DL.s_kt @DL.s_ki)) (And.intro (And.intro @DL.s_kib @DL.s_trub) @DL.s_trui)) (And.intro (And.intro (And.intro @DL.s_trul @DL.s_trut) (And.intro @DL.s_trun @DL.ex2)) (And.intro (And.intro @DL.s_flati @DL.okD_int) @DL.okD_bl)))) (And.intro (And.intro (And.intro (And.intro (And.intro @DL.okD_non @DL.eqD_int) (And.intro @DL.okD_lints @DL.okD_tints)) (And.intro (And.intro @DL.eqD_lints @DL.eqD_tints) (And.intro @DL.s_Fld @DL.s_PutF))) (And.intro (And.intro (And.intro @DL.s_Raise @DL.s_en0) (And.intro @DL.s_en1 @DL.s_fz0)) (And.intro (And.intro @DL.s_fz1 @DL.s_fz2) @DL.s_fz3))) (And.intro (And.intro (And.intro (And.intro @DL.s_no0 @DL.s_no1) (And.intro @DL.s_no2 @DL.s_no3)) (And.intro (And.intro @DL.s_hd0 @DL.s_hd1) @DL.s_ps0)) (And.intro (And.intro (And.intro @DL.s_ps1 @DL.s_p1) (And.intro @DL.s_p2 @DL.s_p3)) (And.intro (And.intro @DL.s_isC @DL.s_mxi) @DL.s_mxl))))) (And.intro (And.intro (And.intro (And.intro (And.intro (And.intro @DL.s_mxs @DL.s_rg01) (And.intro @DL.s_inI @DL.s_inT)) (And.intro (And.intro @DL.s_memI @DL.s_at0) (And.intro @DL.s_at1 @DL.s_lkM))) (And.intro (And.intro (And.intro @DL.s_lkA @DL.s_lkV) (And.intro @DL.s_eqbl @DL.s_mxz)) (And.intro (And.intro @DL.s_lkW1 @DL.s_lkW2) @DL.s_noc))) (And.intro (And.intro (And.intro (And.intro @DL.s_noS1 @DL.s_noS2) (And.intro @DL.s_noS3 @DL.s_fzc)) (And.intro (And.intro @DL.s_fzS1 @DL.s_fzS2) @DL.s_fzS3)) (And.intro (And.intro (And.intro @DL.s_k1 @DL.s_k2) (And.intro @DL.s_k3 @DL.s_k4)) (And.intro (And.intro @DL.s_k5 @DL.s_k6) @DL.s_k7)))) (And.intro (And.intro (And.intro (And.intro (And.intro @DL.s_k8 @DL.s_k9) (And.intro @DL.s_k10 @DL.s_k11)) (And.intro (And.intro @DL.s_k12 @DL.s_k13) @DL.s_k14)) (And.intro (And.intro (And.intro @DL.s_k15 @DL.s_k16) (And.intro @DL.s_k17 @DL.s_isC1)) (And.intro (And.intro @DL.s_enI @DL.s_Lc2) @DL.s_ForK))) (And.intro (And.intro (And.intro (And.intro @DL.s_LcK @DL.s_SetN) (And.intro @DL.s_NewN @DL.s_MtD)) (And.intro (And.intro @DL.s_OneD @DL.s_CpD) @DL.s_DGetO)) (And.intro (And.intro (And.intro @DL.s_DGetT @DL.s_DInTT) (And.intro @DL.s_PutD @DL.s_CallR)) (And.intro (And.intro @DL.s_Max2 @DL.s_Min2) @DL.s_MaxD)))))))
noncomputable def sxB := (And.intro (And.intro (And.intro (And.intro (And.intro (And.intro @List.flatten_cons.{0} @List.flatten_nil.{0}) @List.getElem?_cons_zero.{0}) (And.intro (And.intro @List.getElem?_cons_succ.{0} @List.set_cons_zero.{0}) @List.set_cons_succ.{0})) (And.intro (And.intro (And.intro @List.cons_append.{0} @List.nil_append.{0}) @List.length_cons.{0}) (And.intro (And.intro @List.length_nil.{0} @List.replicate_succ.{0}) @List.replicate_zero.{0}))) (And.intro (And.intro (And.intro (And.intro @Option.some.injEq.{0} @List.cons.injEq.{0}) @List.append_nil.{0}) (And.intro (And.intro @List.length_map.{0,0} @List.map_cons.{0,0}) @List.map_nil.{0,0})) (And.intro (And.intro (And.intro @Prod.mk.injEq.{0,0} @Option.map_some.{0,0}) @Bool.true_and) (And.intro (And.intro @Bool.and_true @Bool.and_self) @DL.upto_len)))) (And.intro (And.intro (And.intro (And.intro (And.intro @Int.toNat_natCast @sizeLine_eq) @Nat.zero_add) (And.intro (And.intro @Nat.sub_self @true_and) @and_true)) (And.intro (And.intro (And.intro @Bool.false_eq_true @Bool.not_true) @Bool.not_false) (And.intro (And.intro @D.int.injEq @DL.Slot.own.injEq) @DL.OD.l.injEq))) (And.intro (And.intro (And.intro (And.intro @DL.OD.i.injEq @D.ins.injEq) @DL.Slot.val.injEq) (And.intro (And.intro @D.bl.injEq @D.lst.injEq) @D.tup.injEq)) (And.intro (And.intro (And.intro @D.str.injEq @and_self) @and_assoc) (And.intro @false_and @and_false)))))
end Lw_k27

set_option Elab.async false
set_option linter.all false
set_option maxRecDepth 100000
set_option maxHeartbeats 4000000
/-! the walk of k27 (printed by gen2.py) -/
namespace Lw_k27
open PySem PySem.Spec PyProof.Rows L2 DL
def topS (i : Nat) : Stmt := PySem.Challenge.pw_sizerooms_k27_whole_parts_known_by_hand.main.body.getD i (.Pass ⟨0, 0, 0, 0⟩)
abbrev s_is_integer : Stmt := topS 7
theorem sc_is_integer : FnScope ["value"] ["value"] (defScope s_is_integer) := ⟨rfl, rfl, rfl, by decide +kernel, rfl, by decide +kernel, by decide +kernel⟩
abbrev s_is_row : Stmt := topS 8
theorem sc_is_row : FnScope ["value"] ["value"] (defScope s_is_row) := ⟨rfl, rfl, rfl, by decide +kernel, rfl, by decide +kernel, by decide +kernel⟩
abbrev s_is_arrow : Stmt := topS 12
theorem sc_is_arrow : FnScope ["value", "many", "item"] ["value", "many"] (defScope s_is_arrow) := ⟨rfl, rfl, rfl, by decide +kernel, rfl, by decide +kernel, by decide +kernel⟩
abbrev s_first_order : Stmt := topS 13
theorem sc_first_order : FnScope ["many", "arrows", "found", "lap", "free", "i", "k", "j"] ["many", "arrows"] (defScope s_first_order) := ⟨rfl, rfl, rfl, by decide +kernel, rfl, by decide +kernel, by decide +kernel⟩
abbrev s_hall_fault : Stmt := topS 14
theorem sc_hall_fault : FnScope ["many", "arrows", "arrow"] ["many", "arrows"] (defScope s_hall_fault) := ⟨rfl, rfl, rfl, by decide +kernel, rfl, by decide +kernel, by decide +kernel⟩
abbrev s_need_hall : Stmt := topS 16
theorem sc_need_hall : FnScope ["hall"] ["hall"] (defScope s_need_hall) := ⟨rfl, rfl, rfl, by decide +kernel, rfl, by decide +kernel, by decide +kernel⟩
abbrev s_is_numbers : Stmt := topS 17
theorem sc_is_numbers : FnScope ["hall", "value", "item"] ["hall", "value"] (defScope s_is_numbers) := ⟨rfl, rfl, rfl, by decide +kernel, rfl, by decide +kernel, by decide +kernel⟩
abbrev s_is_sizes : Stmt := topS 18
theorem sc_is_sizes : FnScope ["hall", "value"] ["hall", "value"] (defScope s_is_sizes) := ⟨rfl, rfl, rfl, by decide +kernel, rfl, by decide +kernel, by decide +kernel⟩
abbrev s_need_sizes : Stmt := topS 19
theorem sc_need_sizes : FnScope ["hall", "value"] ["hall", "value"] (defScope s_need_sizes) := ⟨rfl, rfl, rfl, by decide +kernel, rfl, by decide +kernel, by decide +kernel⟩
abbrev s_formed : Stmt := topS 21
theorem sc_formed : FnScope ["hall", "a", "b", "total", "one", "other", "i", "j"] ["hall", "a", "b"] (defScope s_formed) := ⟨rfl, rfl, rfl, by decide +kernel, rfl, by decide +kernel, by decide +kernel⟩
abbrev s_rows_below : Stmt := topS 24
theorem sc_rows_below : FnScope ["a", "found", "item", "row", "k"] ["a"] (defScope s_rows_below) := ⟨rfl, rfl, rfl, by decide +kernel, rfl, by decide +kernel, by decide +kernel⟩
abbrev s_taken_off : Stmt := topS 25
theorem sc_taken_off : FnScope ["a", "b", "one", "other"] ["a", "b"] (defScope s_taken_off) := ⟨rfl, rfl, rfl, by decide +kernel, rfl, by decide +kernel, by decide +kernel⟩
abbrev s_is_part_by : Stmt := topS 27
theorem sc_is_part_by : FnScope ["hall", "known", "b", "row", "rest", "less"] ["hall", "known", "b", "row"] (defScope s_is_part_by) := ⟨rfl, rfl, rfl, by decide +kernel, rfl, by decide +kernel, by decide +kernel⟩
abbrev s_parts_known : Stmt := topS 26
theorem sc_parts_known : FnScope ["hall", "tops", "known", "a", "b", "row"] ["hall", "tops"] (defScope s_parts_known) := ⟨rfl, rfl, rfl, by decide +kernel, rfl, by decide +kernel, by decide +kernel⟩
abbrev s_need_few : Stmt := topS 28
theorem sc_need_few : FnScope ["a", "many", "item"] ["a"] (defScope s_need_few) := ⟨rfl, rfl, rfl, by decide +kernel, rfl, by decide +kernel, by decide +kernel⟩
abbrev s_general_parts : Stmt := topS 29
theorem sc_general_parts : FnScope ["hall", "a", "whole"] ["hall", "a"] (defScope s_general_parts) := ⟨rfl, rfl, rfl, by decide +kernel, rfl, by decide +kernel, by decide +kernel⟩
abbrev s_need_two : Stmt := topS 30
theorem sc_need_two : FnScope ["hall", "a", "b", "first", "second"] ["hall", "a", "b"] (defScope s_need_two) := ⟨rfl, rfl, rfl, by decide +kernel, rfl, by decide +kernel, by decide +kernel⟩
abbrev s_balance : Stmt := topS 32
theorem sc_balance : FnScope ["hall", "row", "a"] ["hall", "row", "a"] (defScope s_balance) := ⟨rfl, rfl, rfl, by decide +kernel, rfl, by decide +kernel, by decide +kernel⟩
abbrev s_bar_of : Stmt := topS 33
theorem sc_bar_of : FnScope ["hall", "known", "a", "row"] ["hall", "known", "a"] (defScope s_bar_of) := ⟨rfl, rfl, rfl, by decide +kernel, rfl, by decide +kernel, by decide +kernel⟩
abbrev s_joined : Stmt := topS 35
theorem sc_joined : FnScope ["one", "other", "found", "row"] ["one", "other"] (defScope s_joined) := ⟨rfl, rfl, rfl, by decide +kernel, rfl, by decide +kernel, by decide +kernel⟩
abbrev s_split_of : Stmt := topS 36
theorem sc_split_of : FnScope ["known", "a", "row"] ["known", "a"] (defScope s_split_of) := ⟨rfl, rfl, rfl, by decide +kernel, rfl, by decide +kernel, by decide +kernel⟩
abbrev s_summed : Stmt := topS 37
theorem sc_summed : FnScope ["hall", "known", "a", "row"] ["hall", "known", "a"] (defScope s_summed) := ⟨rfl, rfl, rfl, by decide +kernel, rfl, by decide +kernel, by decide +kernel⟩
abbrev s_pairs_of : Stmt := topS 38
theorem sc_pairs_of : FnScope ["hall", "a", "found", "row"] ["hall", "a"] (defScope s_pairs_of) := ⟨rfl, rfl, rfl, by decide +kernel, rfl, by decide +kernel, by decide +kernel⟩
abbrev s_need_one : Stmt := topS 39
theorem sc_need_one : FnScope ["hall", "a", "whole"] ["hall", "a"] (defScope s_need_one) := ⟨rfl, rfl, rfl, by decide +kernel, rfl, by decide +kernel, by decide +kernel⟩
abbrev s_one_sum : Stmt := topS 40
theorem sc_one_sum : FnScope ["hall", "a"] ["hall", "a"] (defScope s_one_sum) := ⟨rfl, rfl, rfl, by decide +kernel, rfl, by decide +kernel, by decide +kernel⟩
abbrev s_least_ext : Stmt := topS 42
theorem sc_least_ext : FnScope ["hall", "a", "b", "pairs", "row"] ["hall", "a", "b"] (defScope s_least_ext) := ⟨rfl, rfl, rfl, by decide +kernel, rfl, by decide +kernel, by decide +kernel⟩
abbrev s_general_ext : Stmt := topS 43
theorem sc_general_ext : FnScope ["hall", "a", "b", "first", "second"] ["hall", "a", "b"] (defScope s_general_ext) := ⟨rfl, rfl, rfl, by decide +kernel, rfl, by decide +kernel, by decide +kernel⟩
abbrev s_general_hom : Stmt := topS 44
theorem sc_general_hom : FnScope ["hall", "a", "b", "first", "second"] ["hall", "a", "b"] (defScope s_general_hom) := ⟨rfl, rfl, rfl, by decide +kernel, rfl, by decide +kernel, by decide +kernel⟩
abbrev s__law_pen : Stmt := topS 46
theorem sc__law_pen : FnScope ["script", "fold", "cell"] ["script"] (defScope s__law_pen) := ⟨rfl, rfl, rfl, by decide +kernel, rfl, by decide +kernel, by decide +kernel⟩
abbrev s__law_draw : Stmt := topS 47
theorem sc__law_draw : FnScope ["pen", "many", "cell", "digit", "mixed"] ["pen", "many"] (defScope s__law_draw) := ⟨rfl, rfl, rfl, by decide +kernel, rfl, by decide +kernel, by decide +kernel⟩
abbrev s__law_s_below : Stmt := topS 48
theorem sc__law_s_below : FnScope ["a", "found", "item", "longer", "row", "k"] ["a"] (defScope s__law_s_below) := ⟨rfl, rfl, rfl, by decide +kernel, rfl, by decide +kernel, by decide +kernel⟩
abbrev s__law_one_arrow : Stmt := topS 49
theorem sc__law_one_arrow : FnScope ["pen", "m", "n", "made", "due", "pairs", "k", "l", "one", "other", "homs", "exts", "i", "j", "pair"] ["pen"] (defScope s__law_one_arrow) := ⟨rfl, rfl, rfl, by decide +kernel, rfl, by decide +kernel, by decide +kernel⟩
abbrev s__law_lines : Stmt := topS 50
theorem sc__law_lines : FnScope ["pen", "many", "width", "made", "due", "row", "i"] ["pen"] (defScope s__law_lines) := ⟨rfl, rfl, rfl, by decide +kernel, rfl, by decide +kernel, by decide +kernel⟩
abbrev s__law_apart : Stmt := topS 51
theorem sc__law_apart : FnScope ["pen", "a", "made", "row", "times"] ["pen"] (defScope s__law_apart) := ⟨rfl, rfl, rfl, by decide +kernel, rfl, by decide +kernel, by decide +kernel⟩
abbrev s_law : Stmt := topS 52
theorem sc_law : FnScope ["script", "pen", "lap", "made", "k"] ["script"] (defScope s_law) := ⟨rfl, rfl, rfl, by decide +kernel, rfl, by decide +kernel, by decide +kernel⟩
abbrev si_Hall : Stmt := clsDef (topS 15) 0
theorem sc_Hi_Hall : FnScope ["self", "many", "arrows", "why"] ["self", "many", "arrows"] (defScope si_Hall) := ⟨rfl, rfl, rfl, by decide +kernel, rfl, by decide +kernel, by decide +kernel⟩
abbrev sq_Hall : Stmt := clsDef (topS 15) 1
abbrev se_BadItem : Stmt := clsDef (topS 2) 0
theorem bd_BadItem : SupB ["value"] (defBody se_BadItem) := .mk (fun _ => rfl) rfl (.cons (by decide) .nil) (.cons (by decide) .nil)
abbrev se_TooMany : Stmt := clsDef (topS 3) 0
theorem bd_TooMany : SupB ["what", "most"] (defBody se_TooMany) := .mk (fun _ => rfl) rfl (.cons (by decide) (.cons (by decide) .nil)) (.cons (by decide) (.cons (by decide) .nil))
abbrev se_BadHall : Stmt := clsDef (topS 4) 0
theorem bd_BadHall : SupB ["why"] (defBody se_BadHall) := .mk (fun _ => rfl) rfl (.cons (by decide) .nil) (.cons (by decide) .nil)
abbrev se_BadSizes : Stmt := clsDef (topS 5) 0
theorem bd_BadSizes : SupB ["value"] (defBody se_BadSizes) := .mk (fun _ => rfl) rfl (.cons (by decide) .nil) (.cons (by decide) .nil)
set_option genInjectivity false in
set_option genSizeOf false in
/-- what the top has left -/
structure Txt (P : Program) (K : PySem.W.Frag) (mg : Str → Option Value) where
  c : CA
  a_is_integer : Addr
  d_is_integer : FuncData
  F_is_integer : Fun K "is_integer" "is_integer" s_is_integer a_is_integer d_is_integer
  m_is_integer : mg "is_integer" = some (.ref a_is_integer)
  a_is_row : Addr
  d_is_row : FuncData
  F_is_row : Fun K "is_row" "is_row" s_is_row a_is_row d_is_row
  m_is_row : mg "is_row" = some (.ref a_is_row)
  a_is_arrow : Addr
  d_is_arrow : FuncData
  F_is_arrow : Fun K "is_arrow" "is_arrow" s_is_arrow a_is_arrow d_is_arrow
  m_is_arrow : mg "is_arrow" = some (.ref a_is_arrow)
  a_first_order : Addr
  d_first_order : FuncData
  F_first_order : Fun K "first_order" "first_order" s_first_order a_first_order d_first_order
  m_first_order : mg "first_order" = some (.ref a_first_order)
  a_hall_fault : Addr
  d_hall_fault : FuncData
  F_hall_fault : Fun K "hall_fault" "hall_fault" s_hall_fault a_hall_fault d_hall_fault
  m_hall_fault : mg "hall_fault" = some (.ref a_hall_fault)
  a_need_hall : Addr
  d_need_hall : FuncData
  F_need_hall : Fun K "need_hall" "need_hall" s_need_hall a_need_hall d_need_hall
  m_need_hall : mg "need_hall" = some (.ref a_need_hall)
  a_is_numbers : Addr
  d_is_numbers : FuncData
  F_is_numbers : Fun K "is_numbers" "is_numbers" s_is_numbers a_is_numbers d_is_numbers
  m_is_numbers : mg "is_numbers" = some (.ref a_is_numbers)
  a_is_sizes : Addr
  d_is_sizes : FuncData
  F_is_sizes : Fun K "is_sizes" "is_sizes" s_is_sizes a_is_sizes d_is_sizes
  m_is_sizes : mg "is_sizes" = some (.ref a_is_sizes)
  a_need_sizes : Addr
  d_need_sizes : FuncData
  F_need_sizes : Fun K "need_sizes" "need_sizes" s_need_sizes a_need_sizes d_need_sizes
  m_need_sizes : mg "need_sizes" = some (.ref a_need_sizes)
  a_formed : Addr
  d_formed : FuncData
  F_formed : Fun K "formed" "formed" s_formed a_formed d_formed
  m_formed : mg "formed" = some (.ref a_formed)
  a_rows_below : Addr
  d_rows_below : FuncData
  F_rows_below : Fun K "rows_below" "rows_below" s_rows_below a_rows_below d_rows_below
  m_rows_below : mg "rows_below" = some (.ref a_rows_below)
  a_taken_off : Addr
  d_taken_off : FuncData
  F_taken_off : Fun K "taken_off" "taken_off" s_taken_off a_taken_off d_taken_off
  m_taken_off : mg "taken_off" = some (.ref a_taken_off)
  a_is_part_by : Addr
  d_is_part_by : FuncData
  F_is_part_by : Fun K "is_part_by" "is_part_by" s_is_part_by a_is_part_by d_is_part_by
  m_is_part_by : mg "is_part_by" = some (.ref a_is_part_by)
  a_parts_known : Addr
  d_parts_known : FuncData
  F_parts_known : Fun K "parts_known" "parts_known" s_parts_known a_parts_known d_parts_known
  m_parts_known : mg "parts_known" = some (.ref a_parts_known)
  a_need_few : Addr
  d_need_few : FuncData
  F_need_few : Fun K "need_few" "need_few" s_need_few a_need_few d_need_few
  m_need_few : mg "need_few" = some (.ref a_need_few)
  a_general_parts : Addr
  d_general_parts : FuncData
  F_general_parts : Fun K "general_parts" "general_parts" s_general_parts a_general_parts d_general_parts
  m_general_parts : mg "general_parts" = some (.ref a_general_parts)
  a_need_two : Addr
  d_need_two : FuncData
  F_need_two : Fun K "need_two" "need_two" s_need_two a_need_two d_need_two
  m_need_two : mg "need_two" = some (.ref a_need_two)
  a_balance : Addr
  d_balance : FuncData
  F_balance : Fun K "balance" "balance" s_balance a_balance d_balance
  m_balance : mg "balance" = some (.ref a_balance)
  a_bar_of : Addr
  d_bar_of : FuncData
  F_bar_of : Fun K "bar_of" "bar_of" s_bar_of a_bar_of d_bar_of
  m_bar_of : mg "bar_of" = some (.ref a_bar_of)
  a_joined : Addr
  d_joined : FuncData
  F_joined : Fun K "joined" "joined" s_joined a_joined d_joined
  m_joined : mg "joined" = some (.ref a_joined)
  a_split_of : Addr
  d_split_of : FuncData
  F_split_of : Fun K "split_of" "split_of" s_split_of a_split_of d_split_of
  m_split_of : mg "split_of" = some (.ref a_split_of)
  a_summed : Addr
  d_summed : FuncData
  F_summed : Fun K "summed" "summed" s_summed a_summed d_summed
  m_summed : mg "summed" = some (.ref a_summed)
  a_pairs_of : Addr
  d_pairs_of : FuncData
  F_pairs_of : Fun K "pairs_of" "pairs_of" s_pairs_of a_pairs_of d_pairs_of
  m_pairs_of : mg "pairs_of" = some (.ref a_pairs_of)
  a_need_one : Addr
  d_need_one : FuncData
  F_need_one : Fun K "need_one" "need_one" s_need_one a_need_one d_need_one
  m_need_one : mg "need_one" = some (.ref a_need_one)
  a_one_sum : Addr
  d_one_sum : FuncData
  F_one_sum : Fun K "one_sum" "one_sum" s_one_sum a_one_sum d_one_sum
  m_one_sum : mg "one_sum" = some (.ref a_one_sum)
  a_least_ext : Addr
  d_least_ext : FuncData
  F_least_ext : Fun K "least_ext" "least_ext" s_least_ext a_least_ext d_least_ext
  m_least_ext : mg "least_ext" = some (.ref a_least_ext)
  a_general_ext : Addr
  d_general_ext : FuncData
  F_general_ext : Fun K "general_ext" "general_ext" s_general_ext a_general_ext d_general_ext
  m_general_ext : mg "general_ext" = some (.ref a_general_ext)
  a_general_hom : Addr
  d_general_hom : FuncData
  F_general_hom : Fun K "general_hom" "general_hom" s_general_hom a_general_hom d_general_hom
  m_general_hom : mg "general_hom" = some (.ref a_general_hom)
  a__law_pen : Addr
  d__law_pen : FuncData
  F__law_pen : Fun K "_law_pen" "_law_pen" s__law_pen a__law_pen d__law_pen
  m__law_pen : mg "_law_pen" = some (.ref a__law_pen)
  a__law_draw : Addr
  d__law_draw : FuncData
  F__law_draw : Fun K "_law_draw" "_law_draw" s__law_draw a__law_draw d__law_draw
  m__law_draw : mg "_law_draw" = some (.ref a__law_draw)
  a__law_s_below : Addr
  d__law_s_below : FuncData
  F__law_s_below : Fun K "_law_s_below" "_law_s_below" s__law_s_below a__law_s_below d__law_s_below
  m__law_s_below : mg "_law_s_below" = some (.ref a__law_s_below)
  a__law_one_arrow : Addr
  d__law_one_arrow : FuncData
  F__law_one_arrow : Fun K "_law_one_arrow" "_law_one_arrow" s__law_one_arrow a__law_one_arrow d__law_one_arrow
  m__law_one_arrow : mg "_law_one_arrow" = some (.ref a__law_one_arrow)
  a__law_lines : Addr
  d__law_lines : FuncData
  F__law_lines : Fun K "_law_lines" "_law_lines" s__law_lines a__law_lines d__law_lines
  m__law_lines : mg "_law_lines" = some (.ref a__law_lines)
  a__law_apart : Addr
  d__law_apart : FuncData
  F__law_apart : Fun K "_law_apart" "_law_apart" s__law_apart a__law_apart d__law_apart
  m__law_apart : mg "_law_apart" = some (.ref a__law_apart)
  a_law : Addr
  d_law : FuncData
  F_law : Fun K "law" "law" s_law a_law d_law
  m_law : mg "law" = some (.ref a_law)
  ai_Hall : Addr
  di_Hall : FuncData
  Fi_Hall : Fun K "__init__" "Hall.__init__" si_Hall ai_Hall di_Hall
  M_Hall : Mk K c.C_Hall ai_Hall
  mC_Hall : mg "Hall" = some (.ref c.C_Hall)
  cl_Hall : Cls K c.C_Hall
  cf_Hall : ClsF K c.C_Hall
  nf_Hall_many : NoAttr K c.C_Hall "many"
  nf_Hall_arrows : NoAttr K c.C_Hall "arrows"
  aq_Hall : Addr
  dq_Hall : FuncData
  Fq_Hall : Fun K "__eq__" "Hall.__eq__" sq_Hall aq_Hall dq_Hall
  fq_Hall : PySem.W.findIn K (.ref c.C_Hall) "__eq__" = some (some (.ref aq_Hall))
  nq_Hall : PySem.W.isFn K (.ref aq_Hall) = true
  nn_Hall : PySem.W.findIn K (.ref c.C_Hall) "__ne__" = some (some (.builtin "object.__ne__"))
  ob_Hall : PySem.W.mroIn K c.C_Hall (.type "object") = some true
  ic_Hall : PySem.W.isClsIn K c.C_Hall = true
  ty_Hall : PySem.W.typeIn K (.ref c.C_Hall) = some (.type "type")
  sb_Hall_Hall : PySem.W.subIn K (.ref c.C_Hall) (.ref c.C_Hall) = some true
  mC_BadItem : mg "BadItem" = some (.ref c.C_BadItem)
  X_BadItem : SiC P K mg c.C_BadItem ["value"]
  XF_BadItem : XfC K c.C_BadItem
  mC_TooMany : mg "TooMany" = some (.ref c.C_TooMany)
  X_TooMany : SiC P K mg c.C_TooMany ["what", "most"]
  XF_TooMany : XfC K c.C_TooMany
  mC_BadHall : mg "BadHall" = some (.ref c.C_BadHall)
  X_BadHall : SiC P K mg c.C_BadHall ["why"]
  XF_BadHall : XfC K c.C_BadHall
  mC_BadSizes : mg "BadSizes" = some (.ref c.C_BadSizes)
  X_BadSizes : SiC P K mg c.C_BadSizes ["value"]
  XF_BadSizes : XfC K c.C_BadSizes
  n_all : mg "all" = none
  n_any : mg "any" = none
  n_bool : mg "bool" = none
  n_dict : mg "dict" = none
  n_int : mg "int" = none
  n_isinstance : mg "isinstance" = none
  n_len : mg "len" = none
  n_list : mg "list" = none
  n_max : mg "max" = none
  n_min : mg "min" = none
  n_range : mg "range" = none
  n_repr : mg "repr" = none
  n_sorted : mg "sorted" = none
  n_sum : mg "sum" = none
  n_super : mg "super" = none
  n_tuple : mg "tuple" = none
  n_zip : mg "zip" = none
  t_MOST_ARROWS : Tok
  c_MOST_ARROWS : mg "MOST_ARROWS" = some (.int 12 t_MOST_ARROWS)
  t_MOST_POINTS : Tok
  c_MOST_POINTS : mg "MOST_POINTS" = some (.int 7 t_MOST_POINTS)
  t_MOST_ROWS : Tok
  c_MOST_ROWS : mg "MOST_ROWS" = some (.int 2000 t_MOST_ROWS)
section
variable {P : Program} {w : World} {K : PySem.W.Frag} {mg : Str → Option Value} {base : Heap}

/-! ### the pen -/
theorem ok__law_pen (T : Txt P K mg) : FnOk P w K mg base CX0 1 T.a__law_pen T.d__law_pen ["script"] (spPen K) := by
  refine T.F__law_pen.ok sc__law_pen (fun vs H Q E h => ?_) (fun cdv A outer s H vs Q E hr h => ?_)
  · obtain ⟨a, ns, rfl, _⟩ := h
    rfl
  · obtain ⟨a, ns, rfl, hS, hl, q⟩ := h
    have hu := hu_of hr
    refine ⟨_, pss_cons (ps_set (i := 1) sc__law_pen.nd rfl (.inl rfl) pe_int)
      (pss_cons (ps_for PassesOwn.never rfl (pi_list (pv 0)) (pg_name (i := 2) sc__law_pen.nd rfl (.inl rfl))
        (pss_one (ps_set (i := 1) sc__law_pen.nd rfl (.inl rfl) (pe_op op_modN (pe_callTy call_int1 (by rfl) T.n_int (by decide +kernel) (pa_cons (pe_op op_add (pe_op op_mul (pv 1) pe_int) (pv 2)) pa_nil)) pe_int))))
      (pss_one (ps_ret (pe_disp (pps_cons pe_str (pe_callTy call_list_of (by rfl) T.n_list (by decide +kernel) (pa_cons (pv 0) pa_nil)) (pps_cons pe_str pe_int (pps_cons pe_str pe_int (pps_cons pe_str pe_int (pps_cons pe_str (pv 1) pps_nil)))))
        (by rfl) (by rfl) (fun z => by cases z) (by decide))))), ?_⟩
    refine ⟨.ref a, rfl, a, rfl, ⟨_, hS⟩, ?_⟩
    refine for_list (K := K) (a := a) (xs := ns.map V.int) (fun i σ H' => H' = H ∧ ∃ f y2, σ = [some (.ref a), some (.int f), y2] ∧ 0 ≤ f ∧ f < 1000000007) ⟨rfl, 0, none, rfl, by decide, by decide⟩ (fun i σ H' _ h => h.1 ▸ hS) (fun i x σ H' hx h => ?_) fun σ H' h => ?_
    · obtain ⟨rfl, f, y2, rfl, h0, h1⟩ := h
      obtain ⟨z, rfl⟩ : ∃ z, x = V.int z := by
        rw [List.getElem?_map] at hx
        cases e : ns[i]? with
        | none => rw [e] at hx; cases hx
        | some z => rw [e] at hx; cases hx; exact ⟨z, rfl⟩
      have hm := fmod_lt (x := f * 47 + z) (m := 1000000007) (by decide)
      refine ⟨.int f, rfl, f, 47, rfl, rfl, .inr ⟨by decide, by decide⟩, .int z, rfl, f * 47, z, rfl, rfl, .inl ⟨_, rfl, _, 1000000007, rfl, rfl, (by decide : (1000000007 : Int) ≠ 0), rfl, (f * 47 + z).fmod 1000000007, some (.int z), rfl, hm.1, hm.2⟩⟩
    · obtain ⟨rfl, f, y2, rfl, h0, h1⟩ := h
      intro p hp
      have n5 := five_ok
      refine ⟨.ref a, rfl, a, ns.map V.int, rfl, .inl (hS.elim (fun h => .inl (h.elim (fun h => .inl (AExt.upd hp _ _ h)) fun ⟨o, h⟩ => .inr ⟨o, AExt.upd hp _ _ h⟩)) fun h => .inr h), fun c hc => ?_⟩
      · have ncp : c ≠ p := fun e => by rw [e, upd_same] at hc; cases hc
        have hc0 : H' c = none := by rw [upd_ne ncp] at hc; exact hc
        refine ⟨.int f, rfl, by rw [upd_ne (Ne.symm ncp), upd_same], [(.inr "cells", .ref c), (.inr "at", .int 0), (.inr "digits", .int 0), (.inr "count", .int 0), (.inr "fold", .int f)], rfl, (by decide : 5 ≤ 15), ?_⟩
        refine q _ p c f (fun b o e => ?_) hp hc0 (Ne.symm ncp) (by rw [upd_same]; rfl) (by rw [upd_ne ncp, upd_same]) h0 (by omega)
        rw [upd_ne (ne_of_none e hp), upd_ne (ne_of_none e hc0), upd_ne (ne_of_none e hp)]
        exact e
theorem b__law_pen (T : Txt P K mg) : Binds K T.d__law_pen ["script"] [] := T.F__law_pen.binds (ps := ["script"]) fun _ _ _ _ _ _ us hl => match us, hl with | [_], _ => rfl
theorem ok__law_draw (T : Txt P K mg) : FnOk P w K mg base CX0 1 T.a__law_draw T.d__law_draw ["pen", "many"] (spD 2 wfDraw) := by
  refine T.F__law_draw.ok sc__law_draw (fun vs H Q E h => h.1) (fun cdv A outer s H vs Q E hr h => ?_)
  have hu := hu_of hr
  have m1 := T.n_int
  have m2 := T.n_len
  -- behind the first two statements
  have tail : ∃ t, PSs (cxOf CX0 P w K mg base ["pen", "many", "cell", "digit", "mixed"] "_law_draw" (defScope s__law_draw) T.a__law_draw cdv A outer s H E).nox ((defBody s__law_draw).drop 2) t ∧
      ∀ (a c : Addr) (n : Int) (y2 : Option V) (H2 : Hp) (i2 : Nat) (d2 k2 f2 : Int) (Q : VK) (nx : L2.St → Hp → Prop), 0 < n → n < 1073741824 → H2 a = some (penO c i2 d2 k2 f2) → 0 ≤ d2 → 0 ≤ f2 → f2 < 2147483648 → 0 ≤ k2 → k2 < 1000000000001 →
        (∀ H' d' x, (∀ b, b ≠ a → H' b = H2 b) → H' a = some (penO c i2 d' k2 f2) → 0 ≤ d' → 0 ≤ x → x < n → Q (.int x) H') → t { nx := nx, rt := Q } [some (.ref a), some (.int n), y2, none, none] H2 := by
    refine ⟨_, pss_cons (ps_if (pt_cmpR op_gt (pe_dget hu (pv 0) pe_str (fun _ _ => rfl)) pe_int (nomk _))
      (pss_cons (ps_set (i := 3) sc__law_draw.nd rfl (.inl rfl) (pe_op op_modN (pe_callTy call_int1 (by rfl) m1 (by decide +kernel) (pa_cons (pe_dget hu (pv 0) pe_str (fun _ _ => rfl)) pa_nil)) (pv 1)))
      (pss_cons (ps_dput hu (pv 0) pe_str (pe_op op_fdivN (pe_dget hu (pv 0) pe_str (fun _ _ => rfl)) (pv 1)) rfl)
      (pss_one (ps_ret (pv 3))))) pss_nil)
    (pss_cons (ps_set (i := 4) sc__law_draw.nd rfl (.inl rfl) (pe_op op_add (pe_op op_add (pe_dget hu (pv 0) pe_str (fun _ _ => rfl)) (pe_op op_mul (pe_dget hu (pv 0) pe_str (fun _ _ => rfl)) pe_int)) pe_int))
    (pss_one (ps_ret (pe_op op_modN (pe_op op_fdivN (pe_callTy call_int1 (by rfl) m1 (by decide +kernel) (pa_cons (pe_op op_modN (pe_op op_pow (pv 4) pe_int) pe_int) pa_nil)) pe_int) (pv 1))))), ?_⟩
    intro a c n y2 H2 i2 d2 k2 f2 Q nx n0 n1 ha hd hf0 hf1 hk0 hk1 q
    have nz : n ≠ 0 := by omega
    have nb : n.natAbs < 1073741824 := by omega
    refine ⟨.ref a, rfl, a, .int d2, rfl, get_digits ha, d2, 0, rfl, rfl, _, rfl, ite2 (fun e => ?_) (fun e => ?_)⟩
    · have dm := fmod_lt (x := d2) (m := n) n0
      refine ⟨.ref a, rfl, a, .int d2, rfl, get_digits ha, .inl ⟨d2, rfl, .int n, rfl, d2, n, rfl, rfl, nz, ?_⟩⟩
      refine ⟨.ref a, rfl, a, .int d2, rfl, get_digits ha, .int n, rfl, d2, n, rfl, rfl, ⟨nz, nb⟩, .ref a, rfl, a, _, rfl, put_digits ha, .int (d2.fmod n), rfl, ?_⟩
      exact q _ _ _ (fun b hb => upd_ne hb) upd_same (Int.fdiv_nonneg hd (by omega)) dm.1 dm.2
    · refine ⟨.ref a, rfl, a, .int f2, rfl, get_fold ha, .ref a, rfl, a, .int k2, rfl, get_count ha, k2, 7907, rfl, rfl, .inr ⟨by decide, by decide⟩, f2, k2 * 7907, rfl, rfl, f2 + k2 * 7907, 37, rfl, rfl, ?_⟩
      have b1 : (f2 + k2 * 7907 + 37).natAbs < 2 ^ 64 := by omega
      refine ⟨.int (f2 + k2 * 7907 + 37), rfl, f2 + k2 * 7907 + 37, 17, rfl, rfl, ⟨by decide, by decide, b1⟩, _, 2305843009213693951, rfl, rfl, (by decide : (2305843009213693951 : Int) ≠ 0), .inl ⟨_, rfl, _, 128, rfl, rfl, ⟨by decide, by decide⟩, .int n, rfl, _, n, rfl, rfl, nz, ?_⟩⟩
      exact q _ d2 _ (fun b hb => rfl) ha hd (fmod_lt n0).1 (fmod_lt n0).2
  obtain ⟨t2, p2, r2⟩ := tail
  obtain ⟨_, O, p, k, ds, P', r, ot, pn, po, kx, ⟨a, n, rfl, ea, n0, n1, n2, hP⟩, q, _⟩ := h
  obtain ⟨c, nac, ns, i, d, f, ha, hc, hi, hd, hf0, hf1, back⟩ := pen_open pn ea
  have ev : vs = [.ref a, .int n] := by
    cases r with
    | cons r1 r2 => cases r2 with | cons r2 r3 => cases r3; cases r1; cases r2; rfl
  subst ev
  refine ⟨_, pss_cons (ps_dput hu (pv 0) pe_str (pe_op op_add (pe_dget hu (pv 0) pe_str (fun _ _ => rfl)) pe_int) rfl)
    (pss_cons (ps_if (PW.pt (pw_and (pt_cmpR op_eq (pe_dget hu (pv 0) pe_str (fun _ _ => rfl)) pe_int (nomk _)) (pw_and1 (pt_cmpR op_lt (pe_dget hu (pv 0) pe_str (fun _ _ => rfl)) (pe_callB call_len_seq (by rfl) m2 (by decide +kernel) (pa_cons (pe_dget hu (pv 0) pe_str (fun _ _ => rfl)) pa_nil)) (nomk _)))))
      (pss_cons (ps_set (i := 2) sc__law_draw.nd rfl (.inl rfl) (pe_ix ix_list (pe_dget hu (pv 0) pe_str (fun _ _ => rfl)) (pe_dget hu (pv 0) pe_str (fun _ _ => rfl)) (fun _ _ => rfl)))
      (pss_cons (ps_dput hu (pv 0) pe_str (pe_op op_add (pe_dget hu (pv 0) pe_str (fun _ _ => rfl)) pe_int) rfl)
      (pss_one (ps_if (pt_cmpR op_ge (pv 2) (pe_op op_pow pe_int pe_int) (nomk _))
        (pss_one (ps_dput hu (pv 0) pe_str (pe_op op_sub (pv 2) (pe_op op_pow pe_int pe_int)) rfl))
        (pss_one (ps_dput hu (pv 0) pe_str (pe_op op_modN (pe_callTy call_int1 (by rfl) m1 (by decide +kernel) (pa_cons (pe_op op_add (pe_op op_mul (pe_dget hu (pv 0) pe_str (fun _ _ => rfl)) pe_int) (pv 2)) pa_nil)) pe_int) rfl)))))) pss_nil) p2), ?_⟩
  -- the end: a number in the range
  have fin : ∀ (H2 : Hp) (i2 : Nat) (d2 f2 : Int) (y2 : Option V), (∀ b, b ≠ a → H2 b = H b) → H2 a = some (penO c i2 d2 ((k.1 : Int) + 1) f2) → i2 ≤ ns.length → 0 ≤ d2 → 0 ≤ f2 → f2 < 2147483648 →
      t2 { nx := fun _ H' => Q .non H', rt := Q } [some (.ref a), some (.int n), y2, none, none] H2 := fun H2 i2 d2 f2 y2 ho e1 e2 e3 e4 e5 => by
    refine r2 a c n y2 H2 i2 d2 ((k.1 : Int) + 1) f2 Q _ n0 n1 e1 e3 e4 e5 (by omega) (by omega) fun H' d' x ho' e6 e7 e8 e9 => ?_
    have bk := back H' i2 d' f2 (fun b hb => (ho' b hb).trans (ho b hb)) e6 e2 e7 e4 e5
    refine q (.int x) H' (.int x) (k.1 + 1, k.2) (fun b o e nb => ?_) bk.1 kx (.int x) (hP x e8 e9)
    have hb : b ≠ a := fun z => nb (by rw [z]; exact bk.2)
    rw [ho' b hb, ho b hb]
    exact e
  -- count
  refine ⟨.ref a, rfl, a, _, rfl, get_count ha, (k.1 : Int), 1, rfl, rfl, .ref a, rfl, a, _, rfl, put_count ha, ?_⟩
  have ho1 : ∀ b, b ≠ a → (upd H a (penO c i d ((k.1 : Int) + 1) f)) b = H b := fun b hb => upd_ne hb
  have ha1 : (upd H a (penO c i d ((k.1 : Int) + 1) f)) a = some (penO c i d ((k.1 : Int) + 1) f) := upd_same
  generalize upd H a (penO c i d ((k.1 : Int) + 1) f) = H1 at ho1 ha1 ⊢
  have hc1 : H1 c = some (.lst (ns.map V.int)) := by rw [ho1 c (Ne.symm nac)]; exact hc
  refine ⟨.ref a, rfl, a, _, rfl, get_digits ha1, rfl, _, rfl, ite2 (fun e1 => ?_) (fun e1 => fin H1 i d f none ho1 ha1 hi hd hf0 hf1)⟩
  refine ⟨.ref a, rfl, a, _, rfl, get_at ha1, .ref a, rfl, a, _, rfl, get_cells ha1, c, _, rfl, .inl (SqL.of hc1), (i : Int), ((ns.map V.int).length : Int), rfl, rfl, _, rfl, ite2 (fun e2 => ?_) (fun e2 => fin H1 i d f none ho1 ha1 hi hd hf0 hf1)⟩
  have hlt : i < ns.length := by
    have e3 := of_decide_eq_true e2
    rw [List.length_map] at e3
    omega
  have hg : (ns.map V.int)[i]? = some (.int ns[i]) := by rw [List.getElem?_map, List.getElem?_eq_getElem hlt]; rfl
  refine ⟨.ref a, rfl, a, _, rfl, get_cells ha1, .ref a, rfl, a, _, rfl, get_at ha1, c, _, (i : Int), .int ns[i], rfl, rfl, SqL.of hc1, atI_nat hg, ?_⟩
  refine ⟨.ref a, rfl, a, _, rfl, get_at ha1, (i : Int), 1, rfl, rfl, .ref a, rfl, a, _, rfl, put_at ha1, ?_⟩
  have ho3 : ∀ b, b ≠ a → (upd H1 a (penO c ((i : Int) + 1) d ((k.1 : Int) + 1) f)) b = H b := fun b hb => by rw [upd_ne hb]; exact ho1 b hb
  have ha3 : (upd H1 a (penO c ((i : Int) + 1) d ((k.1 : Int) + 1) f)) a = some (penO c ((i + 1 : Nat) : Int) d ((k.1 : Int) + 1) f) := upd_same
  generalize upd H1 a (penO c ((i : Int) + 1) d ((k.1 : Int) + 1) f) = H3 at ho3 ha3 ⊢
  refine ⟨.int ns[i], rfl, 10, 18, rfl, rfl, ⟨by decide, by decide, by decide⟩, ns[i], _, rfl, rfl, _, rfl, ite2 (fun e4 => ?_) (fun e4 => ?_)⟩
  · have e5 := of_decide_eq_true e4
    refine ⟨.int ns[i], rfl, 10, 18, rfl, rfl, ⟨by decide, by decide, by decide⟩, ns[i], _, rfl, rfl, .ref a, rfl, a, _, rfl, put_digits ha3, ?_⟩
    exact fin _ (i + 1) _ f (some (.int ns[i])) (fun b hb => by rw [upd_ne hb]; exact ho3 b hb) upd_same (by omega) (Int.sub_nonneg_of_le e5) hf0 hf1
  · have hm := fmod_lt (x := f * 69069 + ns[i]) (m := 2147483587) (by decide)
    refine ⟨.ref a, rfl, a, _, rfl, get_fold ha3, f, 69069, rfl, rfl, .inr ⟨by decide, by decide⟩, .int ns[i], rfl, f * 69069, ns[i], rfl, rfl, .inl ⟨_, rfl, _, 2147483587, rfl, rfl, (by decide : (2147483587 : Int) ≠ 0), .ref a, rfl, a, _, rfl, put_fold ha3, ?_⟩⟩
    exact fin _ (i + 1) d _ (some (.int ns[i])) (fun b hb => by rw [upd_ne hb]; exact ho3 b hb) upd_same (by omega) hd hm.1 (by omega)
theorem b__law_draw (T : Txt P K mg) : Binds K T.d__law_draw ["pen", "many"] [] := T.F__law_draw.binds (ps := ["pen", "many"]) fun _ _ _ _ _ _ us hl => match us, hl with | [_, _], _ => rfl

theorem b_is_integer (T : Txt P K mg) : Binds K T.d_is_integer ["value"] [] := T.F_is_integer.binds (ps := ["value"]) fun _ _ _ _ _ _ us hl => match us, hl with | [_], _ => rfl
theorem ok_is_integer (T : Txt P K mg) : FnOk P w K mg base (L2.CX P w) 1 T.a_is_integer T.d_is_integer ["value"] (spD 1 (wf_is_integer T.c)) :=
  fnOf T.F_is_integer sc_is_integer rfl fun cdv A outer s H E hr => by
  unfold w_is_integer
  exact (dss_one (ds_ret (de_and (de_callB call_isi real_isi (by rfl) T.n_isinstance (by decide +kernel) (da_cons (de_var 0) (da_cons (de_ty (by rfl) T.n_int (by decide +kernel)) da_nil))) (de_one (de_not (de_callB call_isi real_isi (by rfl) T.n_isinstance (by decide +kernel) (da_cons (de_var 0) (da_cons (de_ty (by rfl) T.n_bool (by decide +kernel)) da_nil))))))))
theorem b_is_row (T : Txt P K mg) : Binds K T.d_is_row ["value"] [] := T.F_is_row.binds (ps := ["value"]) fun _ _ _ _ _ _ us hl => match us, hl with | [_], _ => rfl
theorem ok_is_row (T : Txt P K mg) : FnOk P w K mg base (L2.CX P w) 1 T.a_is_row T.d_is_row ["value"] (spD 1 (wf_is_row T.c)) :=
  fnOf T.F_is_row sc_is_row rfl fun cdv A outer s H E hr => by
  unfold w_is_row
  exact (dss_one (ds_ret (de_callB call_isiT real_isiT (by rfl) T.n_isinstance (by decide +kernel) (da_cons (de_var 0) (da_cons (de_tup (da_cons (de_ty (by rfl) T.n_list (by decide +kernel)) (da_cons (de_ty (by rfl) T.n_tuple (by decide +kernel)) da_nil))) da_nil)))))
theorem b_is_arrow (T : Txt P K mg) : Binds K T.d_is_arrow ["value", "many"] [] := T.F_is_arrow.binds (ps := ["value", "many"]) fun _ _ _ _ _ _ us hl => match us, hl with | [_, _], _ => rfl
theorem ok_is_arrow (T : Txt P K mg) : FnOk P w K mg base (L2.CX P w) 2 T.a_is_arrow T.d_is_arrow ["value", "many"] (spD 2 (wf_is_arrow T.c)) :=
  fnOf T.F_is_arrow sc_is_arrow rfl fun cdv A outer s H E hr => by
  unfold w_is_arrow
  exact (dss_cons (ds_if (dt_w (dw_or (dt_not (dt_tru (de_callB call_isi real_isi (by rfl) T.n_isinstance (by decide +kernel) (da_cons (de_var 0) (da_cons (de_ty (by rfl) T.n_tuple (by decide +kernel)) da_nil))))) (dw_or1 (dt_cmp (op_neD hr.units) real_ne (de_callB call_len real_len (by rfl) T.n_len (by decide +kernel) (da_cons (de_var 0) da_nil)) de_int (nomk _))))) (dss_one (ds_ret de_bl)) dss_nil)
  (dss_one (ds_ret (de_and (de_callB (cr_all rfl) real_all (by rfl) T.n_all (by decide +kernel) (da_cons (de_new (df_lc (own := [("item", 2)]) (is := [2]) rfl sc_is_arrow.nd (di_seq (de_var 0)) (blkOk_by (by first | rfl | decide +kernel)) (fun _ _ _ _ _ => (dg_name (i := 2) sc_is_arrow.nd rfl (by first | exact .inl rfl | exact .inr rfl))) (fun _ _ _ _ _ => dts_nil) (fun _ _ _ _ _ => (de_and (de_call (ok_is_integer T) (hr.mono (by decide)) (by rfl) T.m_is_integer T.F_is_integer.kp (b_is_integer T) .nil (fun _ _ => .nil) rfl (da_cons (de_var 2) da_nil)) (de_one (de_chain op_le op_lt real_cmp real_cmp de_int (de_var 2) (de_var 1))))) (by decide))) da_nil)) (de_one (de_cmp (op_neD hr.units) real_ne (de_ix ix_seq real_ix (de_var 0) de_int) (de_ix ix_seq real_ix (de_var 0) de_int) (nomk _)))))))
theorem b_first_order (T : Txt P K mg) : Binds K T.d_first_order ["many", "arrows"] [] := T.F_first_order.binds (ps := ["many", "arrows"]) fun _ _ _ _ _ _ us hl => match us, hl with | [_, _], _ => rfl
theorem ok_first_order (T : Txt P K mg) : FnOk P w K mg base (L2.CX P w) 1 T.a_first_order T.d_first_order ["many", "arrows"] (spD 2 (wf_first_order T.c)) :=
  fnOf T.F_first_order sc_first_order rfl fun cdv A outer s H E hr => by
  unfold w_first_order
  exact (dss_cons (ds_setF 2 sc_first_order.nd rfl (by first | exact .inl rfl | exact .inr rfl) (df_lst da_nil))
  (dss_cons (ds_for (L2.passes_of rfl) rfl (di_range1 (by rfl) T.n_range (da_cons (de_var 0) da_nil)) (dg_name (i := 3) sc_first_order.nd rfl (by first | exact .inl rfl | exact .inr rfl)) (dss_cons (ds_setLc 4 (own := [("i", 5)]) (is := [5]) rfl sc_first_order.nd rfl rfl (sw_true rfl rfl rfl (by first | rfl | decide +kernel)) (di_range1 (by rfl) T.n_range (da_cons (de_var 0) da_nil)) (blkOk_by (by first | rfl | decide +kernel)) (fun _ _ _ _ _ => (dg_name (i := 5) sc_first_order.nd rfl (by first | exact .inl rfl | exact .inr rfl))) (fun _ _ _ _ _ => (dts_one (dt_w (dw_and (dt_cmp (op_notInAll (room65 hr)) real_notIn (de_var 5) (de_var 2) (by rfl)) (dw_and1 (dt_not (dt_tru (de_callB (cr_any rfl) real_any (by rfl) T.n_any (by decide +kernel) (da_cons (de_new (df_lc (own := [("k", 6), ("j", 7)]) (is := [6, 7]) rfl sc_first_order.nd (di_seq (de_var 1)) (blkOk_by (by first | rfl | decide +kernel)) (fun _ _ _ _ _ => (dg_tup rfl (dgs_cons (dg_name (i := 6) sc_first_order.nd rfl (by first | exact .inl rfl | exact .inr rfl)) (dgs_cons (dg_name (i := 7) sc_first_order.nd rfl (by first | exact .inl rfl | exact .inr rfl)) dgs_nil)))) (fun _ _ _ _ _ => dts_nil) (fun _ _ _ _ _ => (de_and (de_cmp (op_eqD hr.units) real_eq (de_var 7) (de_var 5) (nomk _)) (de_one (de_cmp (op_notInAll (room65 hr)) real_notIn (de_var 6) (de_var 2) (by rfl))))) (by decide))) da_nil))))))))) (fun _ _ _ _ _ => (de_var 5)) (by decide))
  (dss_one (ds_if (dt_cmp op_gt real_cmp (de_callB call_len real_len (by rfl) T.n_len (by decide +kernel) (da_cons (de_var 4) da_nil)) de_int (nomk _)) (dss_one (ds_append 2 rfl (by first | exact .inl rfl | exact .inr (.inl rfl)) (de_ix ix_seq real_ix (de_var 4) de_int))) dss_nil))))
  (dss_one (ds_ret (de_callTy call_tuple_of real_tuple (by rfl) T.n_tuple (by decide +kernel) (da_cons (de_var 2) da_nil))))))
theorem b_hall_fault (T : Txt P K mg) : Binds K T.d_hall_fault ["many", "arrows"] [] := T.F_hall_fault.binds (ps := ["many", "arrows"]) fun _ _ _ _ _ _ us hl => match us, hl with | [_, _], _ => rfl
theorem ok_hall_fault (T : Txt P K mg) : FnOk P w K mg base (L2.CX P w) 3 T.a_hall_fault T.d_hall_fault ["many", "arrows"] (spD 2 (wf_hall_fault T.c)) :=
  fnOf T.F_hall_fault sc_hall_fault rfl fun cdv A outer s H E hr => by
  unfold w_hall_fault
  exact (dss_cons (ds_if (dt_w (dw_or (dt_not (dt_tru (de_call (ok_is_integer T) (hr.mono (by decide)) (by rfl) T.m_is_integer T.F_is_integer.kp (b_is_integer T) .nil (fun _ _ => .nil) rfl (da_cons (de_var 0) da_nil)))) (dw_or1 (dt_not (dt_chain op_le op_le real_cmp real_cmp de_int (de_var 0) (de_globI (by rfl) T.c_MOST_POINTS ⟨_, rfl⟩)))))) (dss_one (ds_ret de_str)) dss_nil)
  (dss_cons (ds_if (dt_w (dw_or (dt_not (dt_tru (de_call (ok_is_row T) (hr.mono (by decide)) (by rfl) T.m_is_row T.F_is_row.kp (b_is_row T) .nil (fun _ _ => .nil) rfl (da_cons (de_var 1) da_nil)))) (dw_or1 (dt_cmp op_gt real_cmp (de_callB call_len real_len (by rfl) T.n_len (by decide +kernel) (da_cons (de_var 1) da_nil)) (de_globI (by rfl) T.c_MOST_ARROWS ⟨_, rfl⟩) (nomk _))))) (dss_one (ds_ret de_str)) dss_nil)
  (dss_cons (ds_if (dt_not (dt_tru (de_callB (cr_all rfl) real_all (by rfl) T.n_all (by decide +kernel) (da_cons (de_new (df_lc (own := [("arrow", 2)]) (is := [2]) rfl sc_hall_fault.nd (di_seq (de_var 1)) (blkOk_by (by first | rfl | decide +kernel)) (fun _ _ _ _ _ => (dg_name (i := 2) sc_hall_fault.nd rfl (by first | exact .inl rfl | exact .inr rfl))) (fun _ _ _ _ _ => dts_nil) (fun _ _ _ _ _ => (de_call (ok_is_arrow T) (hr.mono (by decide)) (by rfl) T.m_is_arrow T.F_is_arrow.kp (b_is_arrow T) .nil (fun _ _ => .nil) rfl (da_cons (de_var 2) (da_cons (de_var 0) da_nil)))) (by decide))) da_nil)))) (dss_one (ds_ret de_str)) dss_nil)
  (dss_one (ds_ret (de_if (dt_cmp (op_eqD hr.units) real_eq (de_callB call_len real_len (by rfl) T.n_len (by decide +kernel) (da_cons (de_call (ok_first_order T) (hr.mono (by decide)) (by rfl) T.m_first_order T.F_first_order.kp (b_first_order T) .nil (fun _ _ => .nil) rfl (da_cons (de_var 0) (da_cons (de_var 1) da_nil))) da_nil)) (de_var 0) (nomk _)) de_non de_str))))))
theorem b_need_hall (T : Txt P K mg) : Binds K T.d_need_hall ["hall"] [] := T.F_need_hall.binds (ps := ["hall"]) fun _ _ _ _ _ _ us hl => match us, hl with | [_], _ => rfl
theorem ok_need_hall (T : Txt P K mg) : FnOk P w K mg base (L2.CX P w) 2 T.a_need_hall T.d_need_hall ["hall"] (spD 1 (wf_need_hall T.c)) :=
  fnOf T.F_need_hall sc_need_hall rfl fun cdv A outer s H E hr => by
  unfold w_need_hall
  exact (dss_one (ds_if (dt_not (dt_tru (de_callB call_isi (real_isC T.cf_Hall) (by rfl) T.n_isinstance (by decide +kernel) (da_cons (de_var 0) (da_cons (de_cls (by rfl) T.mC_Hall) da_nil))))) (dss_one (ds_raise (k := 0) T.X_BadItem rfl (hr.mono (by decide)) (by rfl) T.mC_BadItem (da_cons (de_var 0) da_nil))) dss_nil))
theorem b_is_numbers (T : Txt P K mg) : Binds K T.d_is_numbers ["hall", "value"] [] := T.F_is_numbers.binds (ps := ["hall", "value"]) fun _ _ _ _ _ _ us hl => match us, hl with | [_, _], _ => rfl
theorem ok_is_numbers (T : Txt P K mg) : FnOk P w K mg base (L2.CX P w) 2 T.a_is_numbers T.d_is_numbers ["hall", "value"] (spD 2 (wf_is_numbers T.c)) :=
  fnOf T.F_is_numbers sc_is_numbers rfl fun cdv A outer s H E hr => by
  unfold w_is_numbers
  exact (dss_one (ds_ret (de_and (de_call (ok_is_row T) (hr.mono (by decide)) (by rfl) T.m_is_row T.F_is_row.kp (b_is_row T) .nil (fun _ _ => .nil) rfl (da_cons (de_var 1) da_nil)) (de_and (de_cmp (op_eqD hr.units) real_eq (de_callB call_len real_len (by rfl) T.n_len (by decide +kernel) (da_cons (de_var 1) da_nil)) (de_fld (de_var 0) T.cl_Hall T.nf_Hall_many (by rfl)) (nomk _)) (de_one (de_callB (cr_all rfl) real_all (by rfl) T.n_all (by decide +kernel) (da_cons (de_new (df_lc (own := [("item", 2)]) (is := [2]) rfl sc_is_numbers.nd (di_seq (de_var 1)) (blkOk_by (by first | rfl | decide +kernel)) (fun _ _ _ _ _ => (dg_name (i := 2) sc_is_numbers.nd rfl (by first | exact .inl rfl | exact .inr rfl))) (fun _ _ _ _ _ => dts_nil) (fun _ _ _ _ _ => (de_call (ok_is_integer T) (hr.mono (by decide)) (by rfl) T.m_is_integer T.F_is_integer.kp (b_is_integer T) .nil (fun _ _ => .nil) rfl (da_cons (de_var 2) da_nil))) (by decide))) da_nil)))))))
theorem b_is_sizes (T : Txt P K mg) : Binds K T.d_is_sizes ["hall", "value"] [] := T.F_is_sizes.binds (ps := ["hall", "value"]) fun _ _ _ _ _ _ us hl => match us, hl with | [_, _], _ => rfl
theorem ok_is_sizes (T : Txt P K mg) : FnOk P w K mg base (L2.CX P w) 3 T.a_is_sizes T.d_is_sizes ["hall", "value"] (spD 2 (wf_is_sizes T.c)) :=
  fnOf T.F_is_sizes sc_is_sizes rfl fun cdv A outer s H E hr => by
  unfold w_is_sizes
  exact (dss_one (ds_ret (de_and (de_call (ok_is_numbers T) (hr.mono (by decide)) (by rfl) T.m_is_numbers T.F_is_numbers.kp (b_is_numbers T) .nil (fun _ _ => .nil) rfl (da_cons (de_var 0) (da_cons (de_var 1) da_nil))) (de_one (de_cmp op_ge real_cmp (de_callB (cr_minA rfl) real_min (by rfl) T.n_min (by decide +kernel) (da_cons (de_var 1) da_nil)) de_int (nomk _))))))
theorem b_need_sizes (T : Txt P K mg) : Binds K T.d_need_sizes ["hall", "value"] [] := T.F_need_sizes.binds (ps := ["hall", "value"]) fun _ _ _ _ _ _ us hl => match us, hl with | [_, _], _ => rfl
theorem ok_need_sizes (T : Txt P K mg) : FnOk P w K mg base (L2.CX P w) 4 T.a_need_sizes T.d_need_sizes ["hall", "value"] (spD 2 (wf_need_sizes T.c)) :=
  fnOf T.F_need_sizes sc_need_sizes rfl fun cdv A outer s H E hr => by
  unfold w_need_sizes
  exact (dss_cons (ds_if (dt_not (dt_tru (de_call (ok_is_sizes T) (hr.mono (by decide)) (by rfl) T.m_is_sizes T.F_is_sizes.kp (b_is_sizes T) .nil (fun _ _ => .nil) rfl (da_cons (de_var 0) (da_cons (de_var 1) da_nil))))) (dss_one (ds_raise (k := 0) T.X_BadSizes rfl (hr.mono (by decide)) (by rfl) T.mC_BadSizes (da_cons (de_var 1) da_nil))) dss_nil)
  (dss_one (ds_ret (de_callTy call_tuple_of real_tuple (by rfl) T.n_tuple (by decide +kernel) (da_cons (de_var 1) da_nil)))))
theorem b_formed (T : Txt P K mg) : Binds K T.d_formed ["hall", "a", "b"] [] := T.F_formed.binds (ps := ["hall", "a", "b"]) fun _ _ _ _ _ _ us hl => match us, hl with | [_, _, _], _ => rfl
theorem ok_formed (T : Txt P K mg) : FnOk P w K mg base (L2.CX P w) 1 T.a_formed T.d_formed ["hall", "a", "b"] (spD 3 (wf_formed T.c)) :=
  fnOf T.F_formed sc_formed rfl fun cdv A outer s H E hr => by
  unfold w_formed
  exact (dss_cons (ds_set 3 sc_formed.nd rfl (by first | exact .inl rfl | exact .inr rfl) (de_callB (cr_sumA rfl) real_sum (by rfl) T.n_sum (by decide +kernel) (da_cons (de_new (df_lc (own := [("one", 4), ("other", 5)]) (is := [4, 5]) rfl sc_formed.nd (di_zip (by rfl) T.n_zip (da_cons (de_var 1) (da_cons (de_var 2) da_nil))) (blkOk_by (by first | rfl | decide +kernel)) (fun _ _ _ _ _ => (dg_tup rfl (dgs_cons (dg_name (i := 4) sc_formed.nd rfl (by first | exact .inl rfl | exact .inr rfl)) (dgs_cons (dg_name (i := 5) sc_formed.nd rfl (by first | exact .inl rfl | exact .inr rfl)) dgs_nil)))) (fun _ _ _ _ _ => dts_nil) (fun _ _ _ _ _ => (de_op op_mulX real_mulX (de_var 4) (de_var 5))) (by decide))) da_nil)))
  (dss_one (ds_ret (de_op op_sub real_sub (de_var 3) (de_callB (cr_sumA rfl) real_sum (by rfl) T.n_sum (by decide +kernel) (da_cons (de_new (df_lc (own := [("i", 6), ("j", 7)]) (is := [6, 7]) rfl sc_formed.nd (di_seq (de_fld (de_var 0) T.cl_Hall T.nf_Hall_arrows (by rfl))) (blkOk_by (by first | rfl | decide +kernel)) (fun _ _ _ _ _ => (dg_tup rfl (dgs_cons (dg_name (i := 6) sc_formed.nd rfl (by first | exact .inl rfl | exact .inr rfl)) (dgs_cons (dg_name (i := 7) sc_formed.nd rfl (by first | exact .inl rfl | exact .inr rfl)) dgs_nil)))) (fun _ _ _ _ _ => dts_nil) (fun _ _ _ _ _ => (de_op op_mulX real_mulX (de_ix ix_seq real_ix (de_var 1) (de_var 6)) (de_ix ix_seq real_ix (de_var 2) (de_var 7)))) (by decide))) da_nil))))))
theorem b_rows_below (T : Txt P K mg) : Binds K T.d_rows_below ["a"] [] := T.F_rows_below.binds (ps := ["a"]) fun _ _ _ _ _ _ us hl => match us, hl with | [_], _ => rfl
theorem ok_rows_below (T : Txt P K mg) : FnOk P w K mg base (L2.CX P w) 1 T.a_rows_below T.d_rows_below ["a"] (spD 1 (wf_rows_below T.c)) :=
  fnOf T.F_rows_below sc_rows_below rfl fun cdv A outer s H E hr => by
  unfold w_rows_below
  exact (dss_cons (ds_set 1 sc_rows_below.nd rfl (by first | exact .inl rfl | exact .inr rfl) (de_new (df_lst (da_cons (de_tup da_nil) da_nil))))
  (dss_cons (ds_for (L2.passes_of rfl) rfl (di_seq (de_var 0)) (dg_name (i := 2) sc_rows_below.nd rfl (by first | exact .inl rfl | exact .inr rfl)) (dss_one (ds_setLc2 1 (own := [("row", 3), ("k", 4)]) (is := [3]) (is1 := [4]) (vs1 := [4]) rfl sc_rows_below.nd rfl rfl (sw_true rfl rfl rfl (by first | rfl | decide +kernel)) (di_seq (de_var 1)) (blkOk_by (by first | rfl | decide +kernel)) (by decide) (fun _ _ _ _ _ => (dg_name (i := 3) sc_rows_below.nd rfl (by first | exact .inl rfl | exact .inr rfl))) (fun _ _ _ _ _ => dts_nil) (fun _ _ _ _ _ => (di_range1 (by rfl) T.n_range (da_cons (de_op op_addAll real_add (de_var 2) de_int) da_nil))) (fun _ _ _ _ _ => (dg_name (i := 4) sc_rows_below.nd rfl (by first | exact .inl rfl | exact .inr rfl))) (fun _ _ _ _ _ => dts_nil) (fun _ _ _ _ _ => (de_op op_addAll real_add (de_var 3) (de_tup (da_cons (de_var 4) da_nil)))) (by decide) (by decide))))
  (dss_one (ds_ret (de_var 1)))))
theorem b_taken_off (T : Txt P K mg) : Binds K T.d_taken_off ["a", "b"] [] := T.F_taken_off.binds (ps := ["a", "b"]) fun _ _ _ _ _ _ us hl => match us, hl with | [_, _], _ => rfl
theorem ok_taken_off (T : Txt P K mg) : FnOk P w K mg base (L2.CX P w) 1 T.a_taken_off T.d_taken_off ["a", "b"] (spD 2 (wf_taken_off T.c)) :=
  fnOf T.F_taken_off sc_taken_off rfl fun cdv A outer s H E hr => by
  unfold w_taken_off
  exact (dss_one (ds_ret (de_callTy call_tuple_of real_tuple (by rfl) T.n_tuple (by decide +kernel) (da_cons (de_new (df_lc (own := [("one", 2), ("other", 3)]) (is := [2, 3]) rfl sc_taken_off.nd (di_zip (by rfl) T.n_zip (da_cons (de_var 0) (da_cons (de_var 1) da_nil))) (blkOk_by (by first | rfl | decide +kernel)) (fun _ _ _ _ _ => (dg_tup rfl (dgs_cons (dg_name (i := 2) sc_taken_off.nd rfl (by first | exact .inl rfl | exact .inr rfl)) (dgs_cons (dg_name (i := 3) sc_taken_off.nd rfl (by first | exact .inl rfl | exact .inr rfl)) dgs_nil)))) (fun _ _ _ _ _ => dts_nil) (fun _ _ _ _ _ => (de_op op_sub real_sub (de_var 2) (de_var 3))) (by decide))) da_nil))))
theorem b_is_part_by (T : Txt P K mg) : Binds K T.d_is_part_by ["hall", "known", "b", "row"] [] := T.F_is_part_by.binds (ps := ["hall", "known", "b", "row"]) fun _ _ _ _ _ _ us hl => match us, hl with | [_, _, _, _], _ => rfl
theorem ok_is_part_by (T : Txt P K mg) : FnOk P w K mg base (L2.CX P w) 2 T.a_is_part_by T.d_is_part_by ["hall", "known", "b", "row"] (spD 4 (wf_is_part_by T.c)) :=
  fnOf T.F_is_part_by sc_is_part_by rfl fun cdv A outer s H E hr => by
  unfold w_is_part_by
  exact (dss_cons (ds_set 4 sc_is_part_by.nd rfl (by first | exact .inl rfl | exact .inr rfl) (de_call (ok_taken_off T) (hr.mono (by decide)) (by rfl) T.m_taken_off T.F_taken_off.kp (b_taken_off T) .nil (fun _ _ => .nil) rfl (da_cons (de_var 2) (da_cons (de_var 3) da_nil))))
  (dss_one (ds_ret (de_callB (cr_all rfl) real_all (by rfl) T.n_all (by decide +kernel) (da_cons (de_new (df_lc (own := [("less", 5)]) (is := [5]) rfl sc_is_part_by.nd (di_seq (de_dget (hu_of hr) (de_var 1) (de_var 3) (fun _ _ => rfl))) (blkOk_by (by first | rfl | decide +kernel)) (fun _ _ _ _ _ => (dg_name (i := 5) sc_is_part_by.nd rfl (by first | exact .inl rfl | exact .inr rfl))) (fun _ _ _ _ _ => dts_nil) (fun _ _ _ _ _ => (de_cmp op_ge real_cmp (de_call (ok_formed T) (hr.mono (by decide)) (by rfl) T.m_formed T.F_formed.kp (b_formed T) .nil (fun _ _ => .nil) rfl (da_cons (de_var 0) (da_cons (de_var 5) (da_cons (de_var 4) da_nil)))) de_int (nomk _))) (by decide))) da_nil)))))
theorem b_parts_known (T : Txt P K mg) : Binds K T.d_parts_known ["hall", "tops"] [] := T.F_parts_known.binds (ps := ["hall", "tops"]) fun _ _ _ _ _ _ us hl => match us, hl with | [_, _], _ => rfl
theorem ok_parts_known (T : Txt P K mg) : FnOk P w K mg base (L2.CX P w) 3 T.a_parts_known T.d_parts_known ["hall", "tops"] (spD 2 (wf_parts_known T.c)) :=
  fnOf T.F_parts_known sc_parts_known rfl fun cdv A outer s H E hr => by
  unfold w_parts_known
  exact (dss_cons (ds_setN 2 sc_parts_known.nd rfl (by first | exact .inl rfl | exact .inr rfl) dn_mt)
  (dss_cons (ds_for (L2.passes_of rfl) rfl (di_seq (de_var 1)) (dg_name (i := 3) sc_parts_known.nd rfl (by first | exact .inl rfl | exact .inr rfl)) (dss_one (ds_for (L2.passes_of rfl) rfl (di_seq (de_call (ok_rows_below T) (hr.mono (by decide)) (by rfl) T.m_rows_below T.F_rows_below.kp (b_rows_below T) .nil (fun _ _ => .nil) rfl (da_cons (de_var 3) da_nil))) (dg_name (i := 4) sc_parts_known.nd rfl (by first | exact .inl rfl | exact .inr rfl)) (dss_one (ds_if (dt_dnotin (hu_of hr) (de_var 4) (de_var 2)) (dss_one (ds_putD (hu_of hr) 2 rfl (by first | exact .inl rfl | exact .inr (.inl rfl)) (de_var 4) (de_new (df_lc (own := [("row", 5)]) (is := [5]) rfl sc_parts_known.nd (di_seq (de_call (ok_rows_below T) (hr.mono (by decide)) (by rfl) T.m_rows_below T.F_rows_below.kp (b_rows_below T) .nil (fun _ _ => .nil) rfl (da_cons (de_var 4) da_nil))) (blkOk_by (by first | rfl | decide +kernel)) (fun _ _ _ _ _ => (dg_name (i := 5) sc_parts_known.nd rfl (by first | exact .inl rfl | exact .inr rfl))) (fun _ _ _ _ _ => (dts_one (dt_w (dw_or (dt_cmp (op_eqD hr.units) real_eq (de_var 5) (de_var 4) (nomk _)) (dw_or1 (dt_tru (de_callR (ok_is_part_by T) (hr.mono (by decide)) (by rfl) T.m_is_part_by T.F_is_part_by.kp (b_is_part_by T) .nil (fun _ _ => .nil) rfl (da_cons (de_var 0) (da_cons (de_var 2) (da_cons (de_var 4) (da_cons (de_var 5) da_nil))))))))))) (fun _ _ _ _ _ => (de_var 5)) (by decide))))) dss_nil)))))
  (dss_one (ds_ret (de_var 2)))))
theorem b_need_few (T : Txt P K mg) : Binds K T.d_need_few ["a"] [] := T.F_need_few.binds (ps := ["a"]) fun _ _ _ _ _ _ us hl => match us, hl with | [_], _ => rfl
theorem ok_need_few (T : Txt P K mg) : FnOk P w K mg base (L2.CX P w) 2 T.a_need_few T.d_need_few ["a"] (spD 1 (wf_need_few T.c)) :=
  fnOf T.F_need_few sc_need_few rfl fun cdv A outer s H E hr => by
  unfold w_need_few
  exact (dss_cons (ds_set 1 sc_need_few.nd rfl (by first | exact .inl rfl | exact .inr rfl) de_int)
  (dss_cons (ds_for (L2.passes_of rfl) rfl (di_seq (de_var 0)) (dg_name (i := 2) sc_need_few.nd rfl (by first | exact .inl rfl | exact .inr rfl)) (dss_one (ds_set 1 sc_need_few.nd rfl (by first | exact .inl rfl | exact .inr rfl) (de_op op_mulX real_mulX (de_var 1) (de_op op_addAll real_add (de_var 2) de_int)))))
  (dss_one (ds_if (dt_cmp op_gt real_cmp (de_var 1) (de_globI (by rfl) T.c_MOST_ROWS ⟨_, rfl⟩) (nomk _)) (dss_one (ds_raise (k := 0) T.X_TooMany rfl (hr.mono (by decide)) (by rfl) T.mC_TooMany (da_cons de_str (da_cons (de_globI (by rfl) T.c_MOST_ROWS ⟨_, rfl⟩) da_nil)))) dss_nil))))
theorem b_general_parts (T : Txt P K mg) : Binds K T.d_general_parts ["hall", "a"] [] := T.F_general_parts.binds (ps := ["hall", "a"]) fun _ _ _ _ _ _ us hl => match us, hl with | [_, _], _ => rfl
theorem ok_general_parts (T : Txt P K mg) : FnOk P w K mg base (L2.CX P w) 5 T.a_general_parts T.d_general_parts ["hall", "a"] (spD 2 (wf_general_parts T.c)) :=
  fnOf T.F_general_parts sc_general_parts rfl fun cdv A outer s H E hr => by
  unfold w_general_parts
  exact (dss_cons (ds_expr (de_call (ok_need_hall T) (hr.mono (by decide)) (by rfl) T.m_need_hall T.F_need_hall.kp (b_need_hall T) .nil (fun _ _ => .nil) rfl (da_cons (de_var 0) da_nil)))
  (dss_cons (ds_set 2 sc_general_parts.nd rfl (by first | exact .inl rfl | exact .inr rfl) (de_call (ok_need_sizes T) (hr.mono (by decide)) (by rfl) T.m_need_sizes T.F_need_sizes.kp (b_need_sizes T) .nil (fun _ _ => .nil) rfl (da_cons (de_var 0) (da_cons (de_var 1) da_nil))))
  (dss_cons (ds_expr (de_call (ok_need_few T) (hr.mono (by decide)) (by rfl) T.m_need_few T.F_need_few.kp (b_need_few T) .nil (fun _ _ => .nil) rfl (da_cons (de_var 2) da_nil)))
  (dss_one (ds_ret (de_callTy call_tuple_of real_tuple (by rfl) T.n_tuple (by decide +kernel) (da_cons (de_dget (hu_of hr) (de_call (ok_parts_known T) (hr.mono (by decide)) (by rfl) T.m_parts_known T.F_parts_known.kp (b_parts_known T) .nil (fun _ _ => .nil) rfl (da_cons (de_var 0) (da_cons (de_tup (da_cons (de_var 2) da_nil)) da_nil))) (de_var 2) (fun _ _ => rfl)) da_nil)))))))
theorem b_need_two (T : Txt P K mg) : Binds K T.d_need_two ["hall", "a", "b"] [] := T.F_need_two.binds (ps := ["hall", "a", "b"]) fun _ _ _ _ _ _ us hl => match us, hl with | [_, _, _], _ => rfl
theorem ok_need_two (T : Txt P K mg) : FnOk P w K mg base (L2.CX P w) 5 T.a_need_two T.d_need_two ["hall", "a", "b"] (spD 3 (wf_need_two T.c)) :=
  fnOf T.F_need_two sc_need_two rfl fun cdv A outer s H E hr => by
  unfold w_need_two
  exact (dss_cons (ds_expr (de_call (ok_need_hall T) (hr.mono (by decide)) (by rfl) T.m_need_hall T.F_need_hall.kp (b_need_hall T) .nil (fun _ _ => .nil) rfl (da_cons (de_var 0) da_nil)))
  (dss_cons (ds_set 3 sc_need_two.nd rfl (by first | exact .inl rfl | exact .inr rfl) (de_call (ok_need_sizes T) (hr.mono (by decide)) (by rfl) T.m_need_sizes T.F_need_sizes.kp (b_need_sizes T) .nil (fun _ _ => .nil) rfl (da_cons (de_var 0) (da_cons (de_var 1) da_nil))))
  (dss_cons (ds_set 4 sc_need_two.nd rfl (by first | exact .inl rfl | exact .inr rfl) (de_call (ok_need_sizes T) (hr.mono (by decide)) (by rfl) T.m_need_sizes T.F_need_sizes.kp (b_need_sizes T) .nil (fun _ _ => .nil) rfl (da_cons (de_var 0) (da_cons (de_var 2) da_nil))))
  (dss_cons (ds_expr (de_call (ok_need_few T) (hr.mono (by decide)) (by rfl) T.m_need_few T.F_need_few.kp (b_need_few T) .nil (fun _ _ => .nil) rfl (da_cons (de_var 3) da_nil)))
  (dss_cons (ds_expr (de_call (ok_need_few T) (hr.mono (by decide)) (by rfl) T.m_need_few T.F_need_few.kp (b_need_few T) .nil (fun _ _ => .nil) rfl (da_cons (de_var 4) da_nil)))
  (dss_one (ds_ret (de_tup (da_cons (de_var 3) (da_cons (de_var 4) da_nil))))))))))
theorem b_balance (T : Txt P K mg) : Binds K T.d_balance ["hall", "row", "a"] [] := T.F_balance.binds (ps := ["hall", "row", "a"]) fun _ _ _ _ _ _ us hl => match us, hl with | [_, _, _], _ => rfl
theorem ok_balance (T : Txt P K mg) : FnOk P w K mg base (L2.CX P w) 2 T.a_balance T.d_balance ["hall", "row", "a"] (spD 3 (wf_balance T.c)) :=
  fnOf T.F_balance sc_balance rfl fun cdv A outer s H E hr => by
  unfold w_balance
  exact (dss_one (ds_ret (de_op op_sub real_sub (de_call (ok_formed T) (hr.mono (by decide)) (by rfl) T.m_formed T.F_formed.kp (b_formed T) .nil (fun _ _ => .nil) rfl (da_cons (de_var 0) (da_cons (de_var 1) (da_cons (de_var 2) da_nil)))) (de_call (ok_formed T) (hr.mono (by decide)) (by rfl) T.m_formed T.F_formed.kp (b_formed T) .nil (fun _ _ => .nil) rfl (da_cons (de_var 0) (da_cons (de_var 2) (da_cons (de_var 1) da_nil)))))))
theorem b_bar_of (T : Txt P K mg) : Binds K T.d_bar_of ["hall", "known", "a"] [] := T.F_bar_of.binds (ps := ["hall", "known", "a"]) fun _ _ _ _ _ _ us hl => match us, hl with | [_, _, _], _ => rfl
theorem ok_bar_of (T : Txt P K mg) : FnOk P w K mg base (L2.CX P w) 3 T.a_bar_of T.d_bar_of ["hall", "known", "a"] (spD 3 (wf_bar_of T.c)) :=
  fnOf T.F_bar_of sc_bar_of rfl fun cdv A outer s H E hr => by
  unfold w_bar_of
  exact (dss_cons (ds_for (L2.passes_of rfl) rfl (di_seq (de_dget (hu_of hr) (de_var 1) (de_var 2) (fun _ _ => rfl))) (dg_name (i := 3) sc_bar_of.nd rfl (by first | exact .inl rfl | exact .inr rfl)) (dss_one (ds_if (dt_w (dw_and (dt_cmp op_gt real_cmp (de_callB (cr_maxA rfl) real_max (by rfl) T.n_max (by decide +kernel) (da_cons (de_var 3) da_nil)) de_int (nomk _)) (dw_and (dt_cmp (op_neD hr.units) real_ne (de_var 3) (de_var 2) (nomk _)) (dw_and1 (dt_cmp op_le real_cmp (de_call (ok_balance T) (hr.mono (by decide)) (by rfl) T.m_balance T.F_balance.kp (b_balance T) .nil (fun _ _ => .nil) rfl (da_cons (de_var 0) (da_cons (de_var 3) (da_cons (de_var 2) da_nil)))) de_int (nomk _)))))) (dss_one (ds_ret (de_var 3))) dss_nil)))
  (dss_one (ds_ret de_non)))
theorem b_joined (T : Txt P K mg) : Binds K T.d_joined ["one", "other"] [] := T.F_joined.binds (ps := ["one", "other"]) fun _ _ _ _ _ _ us hl => match us, hl with | [_, _], _ => rfl
theorem ok_joined (T : Txt P K mg) : FnOk P w K mg base (L2.CX P w) 1 T.a_joined T.d_joined ["one", "other"] (spD 2 (wf_joined T.c)) :=
  fnOf T.F_joined sc_joined rfl fun cdv A outer s H E hr => by
  unfold w_joined
  exact (dss_cons (ds_setN 2 sc_joined.nd rfl (by first | exact .inl rfl | exact .inr rfl) (dn_cp (room65 hr) (by rfl) T.n_dict (by decide +kernel) (da_cons (de_var 0) da_nil)))
  (dss_cons (ds_forK 1 (L2.passes_of rfl) rfl rfl (by first | exact .inl rfl | exact .inr (.inl rfl)) (dg_name (i := 3) sc_joined.nd rfl (by first | exact .inl rfl | exact .inr rfl)) (dss_one (ds_putD (hu_of hr) 2 rfl (by first | exact .inl rfl | exact .inr (.inl rfl)) (de_var 3) (de_op op_addAll real_add (de_dgetO (hu_of hr) (de_var 2) (de_var 3) de_int) (de_dget (hu_of hr) (de_var 1) (de_var 3) (fun _ _ => rfl))))))
  (dss_one (ds_ret (de_var 2)))))
theorem b_split_of (T : Txt P K mg) : Binds K T.d_split_of ["known", "a"] [] := T.F_split_of.binds (ps := ["known", "a"]) fun _ _ _ _ _ _ us hl => match us, hl with | [_, _], _ => rfl
theorem ok_split_of (T : Txt P K mg) : FnOk P w K mg base (L2.CX P w) 2 T.a_split_of T.d_split_of ["known", "a"] (spD 2 (wf_split_of T.c)) :=
  fnOf T.F_split_of sc_split_of rfl fun cdv A outer s H E hr => by
  unfold w_split_of
  exact (dss_cons (ds_for (L2.passes_of rfl) rfl (di_seq (de_dget (hu_of hr) (de_var 0) (de_var 1) (fun _ _ => rfl))) (dg_name (i := 2) sc_split_of.nd rfl (by first | exact .inl rfl | exact .inr rfl)) (dss_one (ds_if (dt_w (dw_and (dt_cmp op_gt real_cmp (de_callB (cr_maxA rfl) real_max (by rfl) T.n_max (by decide +kernel) (da_cons (de_var 2) da_nil)) de_int (nomk _)) (dw_and (dt_cmp (op_neD hr.units) real_ne (de_var 2) (de_var 1) (nomk _)) (dw_and1 (dt_cmp (op_inAll (room65 hr)) real_in (de_call (ok_taken_off T) (hr.mono (by decide)) (by rfl) T.m_taken_off T.F_taken_off.kp (b_taken_off T) .nil (fun _ _ => .nil) rfl (da_cons (de_var 1) (da_cons (de_var 2) da_nil))) (de_dget (hu_of hr) (de_var 0) (de_var 1) (fun _ _ => rfl)) (by rfl)))))) (dss_one (ds_ret (de_var 2))) dss_nil)))
  (dss_one (ds_ret de_non)))
theorem b_summed (T : Txt P K mg) : Binds K T.d_summed ["hall", "known", "a"] [] := T.F_summed.binds (ps := ["hall", "known", "a"]) fun _ _ _ _ _ _ us hl => match us, hl with | [_, _, _], _ => rfl
theorem ok_summed (T : Txt P K mg) : ∀ m : Nat, FnOk P w K mg base (L2.CX P w) (4 + m) T.a_summed T.d_summed ["hall", "known", "a"] (spD 3 (wf_summed T.c m))
  | 0 => fnOf T.F_summed sc_summed rfl fun cdv A outer s H E hr => dss_no
  | m + 1 => fnOf T.F_summed sc_summed rfl fun cdv A outer s H E hr => by
    have hr : Room (4 + m) (A.deeper (envOfC "summed" (defScope s_summed) s.heap.objs.size T.a_summed cdv)) := hr
    unfold w_summed
    exact (dss_cons (ds_if (dt_cmp (op_eqD hr.units) real_eq (de_callB (cr_maxA rfl) real_max (by rfl) T.n_max (by decide +kernel) (da_cons (de_var 2) da_nil)) de_int (nomk _)) (dss_one (ds_ret (de_newN dn_mt))) dss_nil)
  (dss_cons (ds_set 3 sc_summed.nd rfl (by first | exact .inl rfl | exact .inr rfl) (de_if (dt_cmp op_isN real_isN (de_call (ok_bar_of T) (hr.mono (by omega)) (by rfl) T.m_bar_of T.F_bar_of.kp (b_bar_of T) .nil (fun _ _ => .nil) rfl (da_cons (de_var 0) (da_cons (de_var 1) (da_cons (de_var 2) da_nil)))) de_non (nomk _)) de_non (de_call (ok_split_of T) (hr.mono (by omega)) (by rfl) T.m_split_of T.F_split_of.kp (b_split_of T) .nil (fun _ _ => .nil) rfl (da_cons (de_var 1) (da_cons (de_var 2) da_nil)))))
  (dss_cons (ds_if (dt_cmp op_isN real_isN (de_var 3) de_non (nomk _)) (dss_one (ds_ret (de_newN (dn_one (hu_of hr) (de_var 2) de_int)))) dss_nil)
  (dss_one (ds_ret (de_call (ok_joined T) (hr.mono (by omega)) (by rfl) T.m_joined T.F_joined.kp (b_joined T) .nil (fun _ _ => .nil) rfl (da_cons (de_call (ok_summed T m) (hr.mono (by omega)) (by rfl) T.m_summed T.F_summed.kp (b_summed T) .nil (fun _ _ => .nil) rfl (da_cons (de_var 0) (da_cons (de_var 1) (da_cons (de_var 3) da_nil)))) (da_cons (de_call (ok_summed T m) (hr.mono (by omega)) (by rfl) T.m_summed T.F_summed.kp (b_summed T) .nil (fun _ _ => .nil) rfl (da_cons (de_var 0) (da_cons (de_var 1) (da_cons (de_call (ok_taken_off T) (hr.mono (by omega)) (by rfl) T.m_taken_off T.F_taken_off.kp (b_taken_off T) .nil (fun _ _ => .nil) rfl (da_cons (de_var 2) (da_cons (de_var 3) da_nil))) da_nil)))) da_nil))))))))
theorem b_pairs_of (T : Txt P K mg) : Binds K T.d_pairs_of ["hall", "a"] [] := T.F_pairs_of.binds (ps := ["hall", "a"]) fun _ _ _ _ _ _ us hl => match us, hl with | [_, _], _ => rfl
theorem ok_pairs_of (T : Txt P K mg) : FnOk P w K mg base (L2.CX P w) 25 T.a_pairs_of T.d_pairs_of ["hall", "a"] (spD 2 (wf_pairs_of T.c)) :=
  fnOf T.F_pairs_of sc_pairs_of rfl fun cdv A outer s H E hr => by
  unfold w_pairs_of
  exact (dss_cons (ds_set 2 sc_pairs_of.nd rfl (by first | exact .inl rfl | exact .inr rfl) (de_call (ok_summed T 20) (hr.mono (by decide)) (by rfl) T.m_summed T.F_summed.kp (b_summed T) .nil (fun _ _ => .nil) rfl (da_cons (de_var 0) (da_cons (de_call (ok_parts_known T) (hr.mono (by decide)) (by rfl) T.m_parts_known T.F_parts_known.kp (b_parts_known T) .nil (fun _ _ => .nil) rfl (da_cons (de_var 0) (da_cons (de_tup (da_cons (de_var 1) da_nil)) da_nil))) (da_cons (de_var 1) da_nil)))))
  (dss_one (ds_ret (de_callTy call_tuple_of real_tuple (by rfl) T.n_tuple (by decide +kernel) (da_cons (de_new (df_callB (cr_sortedDt (room100 hr)) real_sortD (by rfl) T.n_sorted (by decide +kernel) (da_cons (de_new (df_lcK 2 (own := [("row", 3)]) (is := [3]) rfl sc_pairs_of.nd rfl (by first | exact .inl rfl | exact .inr (.inl rfl)) (blkOk_by (by first | rfl | decide +kernel)) (fun _ _ _ _ _ => (dg_name (i := 3) sc_pairs_of.nd rfl (by first | exact .inl rfl | exact .inr rfl))) (fun _ _ _ _ _ => dts_nil) (fun _ _ _ _ _ => (de_tup (da_cons (de_var 3) (da_cons (de_dget (hu_of hr) (de_var 2) (de_var 3) (fun _ _ => rfl)) da_nil)))) (by decide))) da_nil))) da_nil)))))
theorem b_need_one (T : Txt P K mg) : Binds K T.d_need_one ["hall", "a"] [] := T.F_need_one.binds (ps := ["hall", "a"]) fun _ _ _ _ _ _ us hl => match us, hl with | [_, _], _ => rfl
theorem ok_need_one (T : Txt P K mg) : FnOk P w K mg base (L2.CX P w) 5 T.a_need_one T.d_need_one ["hall", "a"] (spD 2 (wf_need_one T.c)) :=
  fnOf T.F_need_one sc_need_one rfl fun cdv A outer s H E hr => by
  unfold w_need_one
  exact (dss_cons (ds_expr (de_call (ok_need_hall T) (hr.mono (by decide)) (by rfl) T.m_need_hall T.F_need_hall.kp (b_need_hall T) .nil (fun _ _ => .nil) rfl (da_cons (de_var 0) da_nil)))
  (dss_cons (ds_set 2 sc_need_one.nd rfl (by first | exact .inl rfl | exact .inr rfl) (de_call (ok_need_sizes T) (hr.mono (by decide)) (by rfl) T.m_need_sizes T.F_need_sizes.kp (b_need_sizes T) .nil (fun _ _ => .nil) rfl (da_cons (de_var 0) (da_cons (de_var 1) da_nil))))
  (dss_cons (ds_expr (de_call (ok_need_few T) (hr.mono (by decide)) (by rfl) T.m_need_few T.F_need_few.kp (b_need_few T) .nil (fun _ _ => .nil) rfl (da_cons (de_var 2) da_nil)))
  (dss_one (ds_ret (de_var 2))))))
theorem b_one_sum (T : Txt P K mg) : Binds K T.d_one_sum ["hall", "a"] [] := T.F_one_sum.binds (ps := ["hall", "a"]) fun _ _ _ _ _ _ us hl => match us, hl with | [_, _], _ => rfl
theorem ok_one_sum (T : Txt P K mg) : FnOk P w K mg base (L2.CX P w) 26 T.a_one_sum T.d_one_sum ["hall", "a"] (spD 2 (wf_one_sum T.c)) :=
  fnOf T.F_one_sum sc_one_sum rfl fun cdv A outer s H E hr => by
  unfold w_one_sum
  exact (dss_one (ds_ret (de_call (ok_pairs_of T) (hr.mono (by decide)) (by rfl) T.m_pairs_of T.F_pairs_of.kp (b_pairs_of T) .nil (fun _ _ => .nil) rfl (da_cons (de_var 0) (da_cons (de_call (ok_need_one T) (hr.mono (by decide)) (by rfl) T.m_need_one T.F_need_one.kp (b_need_one T) .nil (fun _ _ => .nil) rfl (da_cons (de_var 0) (da_cons (de_var 1) da_nil))) da_nil)))))
theorem b_least_ext (T : Txt P K mg) : Binds K T.d_least_ext ["hall", "a", "b"] [] := T.F_least_ext.binds (ps := ["hall", "a", "b"]) fun _ _ _ _ _ _ us hl => match us, hl with | [_, _, _], _ => rfl
theorem ok_least_ext (T : Txt P K mg) : FnOk P w K mg base (L2.CX P w) 4 T.a_least_ext T.d_least_ext ["hall", "a", "b"] (spD 3 (wf_least_ext T.c)) :=
  fnOf T.F_least_ext sc_least_ext rfl fun cdv A outer s H E hr => by
  unfold w_least_ext
  exact (dss_cons (ds_setLc 3 (own := [("row", 4)]) (is := [4]) rfl sc_least_ext.nd rfl rfl (sw_true rfl rfl rfl (by first | rfl | decide +kernel)) (di_seq (de_dget (hu_of hr) (de_call (ok_parts_known T) (hr.mono (by decide)) (by rfl) T.m_parts_known T.F_parts_known.kp (b_parts_known T) .nil (fun _ _ => .nil) rfl (da_cons (de_var 0) (da_cons (de_tup (da_cons (de_var 1) da_nil)) da_nil))) (de_var 1) (fun _ _ => rfl))) (blkOk_by (by first | rfl | decide +kernel)) (fun _ _ _ _ _ => (dg_name (i := 4) sc_least_ext.nd rfl (by first | exact .inl rfl | exact .inr rfl))) (fun _ _ _ _ _ => dts_nil) (fun _ _ _ _ _ => (de_tup (da_cons (de_un un_neg real_neg (de_call (ok_formed T) (hr.mono (by decide)) (by rfl) T.m_formed T.F_formed.kp (b_formed T) .nil (fun _ _ => .nil) rfl (da_cons (de_var 0) (da_cons (de_var 4) (da_cons (de_var 2) da_nil))))) (da_cons (de_var 4) da_nil)))) (by decide))
  (dss_one (ds_ret (de_callB (cr_maxD rfl (room65 hr)) real_maxD (by rfl) T.n_max (by decide +kernel) (da_cons (de_var 3) da_nil)))))
theorem b_general_ext (T : Txt P K mg) : Binds K T.d_general_ext ["hall", "a", "b"] [] := T.F_general_ext.binds (ps := ["hall", "a", "b"]) fun _ _ _ _ _ _ us hl => match us, hl with | [_, _, _], _ => rfl
theorem ok_general_ext (T : Txt P K mg) : FnOk P w K mg base (L2.CX P w) 6 T.a_general_ext T.d_general_ext ["hall", "a", "b"] (spD 3 (wf_general_ext T.c)) :=
  fnOf T.F_general_ext sc_general_ext rfl fun cdv A outer s H E hr => by
  unfold w_general_ext
  exact (dss_cons (ds_asg (de_call (ok_need_two T) (hr.mono (by decide)) (by rfl) T.m_need_two T.F_need_two.kp (b_need_two T) .nil (fun _ _ => .nil) rfl (da_cons (de_var 0) (da_cons (de_var 1) (da_cons (de_var 2) da_nil)))) (dg_tup rfl (dgs_cons (dg_name (i := 3) sc_general_ext.nd rfl (by first | exact .inl rfl | exact .inr rfl)) (dgs_cons (dg_name (i := 4) sc_general_ext.nd rfl (by first | exact .inl rfl | exact .inr rfl)) dgs_nil))))
  (dss_one (ds_ret (de_ix ix_seq real_ix (de_call (ok_least_ext T) (hr.mono (by decide)) (by rfl) T.m_least_ext T.F_least_ext.kp (b_least_ext T) .nil (fun _ _ => .nil) rfl (da_cons (de_var 0) (da_cons (de_var 3) (da_cons (de_var 4) da_nil)))) de_int))))
theorem b_general_hom (T : Txt P K mg) : Binds K T.d_general_hom ["hall", "a", "b"] [] := T.F_general_hom.binds (ps := ["hall", "a", "b"]) fun _ _ _ _ _ _ us hl => match us, hl with | [_, _, _], _ => rfl
theorem ok_general_hom (T : Txt P K mg) : FnOk P w K mg base (L2.CX P w) 6 T.a_general_hom T.d_general_hom ["hall", "a", "b"] (spD 3 (wf_general_hom T.c)) :=
  fnOf T.F_general_hom sc_general_hom rfl fun cdv A outer s H E hr => by
  unfold w_general_hom
  exact (dss_cons (ds_asg (de_call (ok_need_two T) (hr.mono (by decide)) (by rfl) T.m_need_two T.F_need_two.kp (b_need_two T) .nil (fun _ _ => .nil) rfl (da_cons (de_var 0) (da_cons (de_var 1) (da_cons (de_var 2) da_nil)))) (dg_tup rfl (dgs_cons (dg_name (i := 3) sc_general_hom.nd rfl (by first | exact .inl rfl | exact .inr rfl)) (dgs_cons (dg_name (i := 4) sc_general_hom.nd rfl (by first | exact .inl rfl | exact .inr rfl)) dgs_nil))))
  (dss_one (ds_ret (de_op op_addAll real_add (de_ix ix_seq real_ix (de_call (ok_least_ext T) (hr.mono (by decide)) (by rfl) T.m_least_ext T.F_least_ext.kp (b_least_ext T) .nil (fun _ _ => .nil) rfl (da_cons (de_var 0) (da_cons (de_var 3) (da_cons (de_var 4) da_nil)))) de_int) (de_call (ok_formed T) (hr.mono (by decide)) (by rfl) T.m_formed T.F_formed.kp (b_formed T) .nil (fun _ _ => .nil) rfl (da_cons (de_var 0) (da_cons (de_var 3) (da_cons (de_var 4) da_nil))))))))
theorem b__law_s_below (T : Txt P K mg) : Binds K T.d__law_s_below ["a"] [] := T.F__law_s_below.binds (ps := ["a"]) fun _ _ _ _ _ _ us hl => match us, hl with | [_], _ => rfl
theorem ok__law_s_below (T : Txt P K mg) : FnOk P w K mg base (L2.CX P w) 1 T.a__law_s_below T.d__law_s_below ["a"] (spD 1 (wf__law_s_below T.c)) :=
  fnOf T.F__law_s_below sc__law_s_below rfl fun cdv A outer s H E hr => by
  unfold w__law_s_below
  exact (dss_cons (ds_set 1 sc__law_s_below.nd rfl (by first | exact .inl rfl | exact .inr rfl) (de_new (df_lst (da_cons (de_tup da_nil) da_nil))))
  (dss_cons (ds_for (L2.passes_of rfl) rfl (di_seq (de_var 0)) (dg_name (i := 2) sc__law_s_below.nd rfl (by first | exact .inl rfl | exact .inr rfl)) (dss_cons (ds_set 3 sc__law_s_below.nd rfl (by first | exact .inl rfl | exact .inr rfl) (de_new (df_lst da_nil)))
  (dss_cons (ds_for (L2.passes_of rfl) rfl (di_seq (de_var 1)) (dg_name (i := 4) sc__law_s_below.nd rfl (by first | exact .inl rfl | exact .inr rfl)) (dss_one (ds_set 3 sc__law_s_below.nd rfl (by first | exact .inl rfl | exact .inr rfl) (de_op op_addAll real_add (de_var 3) (de_new (df_lc (own := [("k", 5)]) (is := [5]) rfl sc__law_s_below.nd (di_range1 (by rfl) T.n_range (da_cons (de_op op_addAll real_add (de_var 2) de_int) da_nil)) (blkOk_by (by first | rfl | decide +kernel)) (fun _ _ _ _ _ => (dg_name (i := 5) sc__law_s_below.nd rfl (by first | exact .inl rfl | exact .inr rfl))) (fun _ _ _ _ _ => dts_nil) (fun _ _ _ _ _ => (de_op op_addAll real_add (de_var 4) (de_tup (da_cons (de_var 5) da_nil)))) (by decide)))))))
  (dss_one (ds_set 1 sc__law_s_below.nd rfl (by first | exact .inl rfl | exact .inr rfl) (de_var 3))))))
  (dss_one (ds_ret (de_var 1)))))
theorem bi_Hall (T : Txt P K mg) : Binds K T.di_Hall ["self", "many", "arrows"] [] := T.Fi_Hall.binds (ps := ["self", "many", "arrows"]) fun _ _ _ _ _ _ us hl => match us, hl with | [_, _, _], _ => rfl
theorem oki_Hall (T : Txt P K mg) : FnOk P w K mg base (L2.CX P w) 4 T.ai_Hall T.di_Hall ["self", "many", "arrows"] (spI T.c.C_Hall 2 (wfi_Hall T.c)) :=
  fnInit T.Fi_Hall sc_Hi_Hall rfl fun cdv A outer s H E hr => by
  unfold wi_Hall
  exact (dss_cons (ds_set 3 sc_Hi_Hall.nd rfl (by first | exact .inl rfl | exact .inr rfl) (de_call (ok_hall_fault T) (hr.mono (by decide)) (by rfl) T.m_hall_fault T.F_hall_fault.kp (b_hall_fault T) .nil (fun _ _ => .nil) rfl (da_cons (de_var 1) (da_cons (de_var 2) da_nil))))
  (dss_cons (ds_if (dt_cmp op_notN real_notN (de_var 3) de_non (nomk _)) (dss_one (ds_raise (k := 0) T.X_BadHall rfl (hr.mono (by decide)) (by rfl) T.mC_BadHall (da_cons (de_var 3) da_nil))) dss_nil)
  (dss_cons (ds_putF 0 rfl (by first | exact .inl rfl | exact .inr (.inl rfl)) (de_var 1) T.cl_Hall T.nf_Hall_many)
  (dss_one (ds_putF 0 rfl (by first | exact .inl rfl | exact .inr (.inl rfl)) (de_callTy call_tuple_of real_tuple (by rfl) T.n_tuple (by decide +kernel) (da_cons (de_new (df_callB (cr_sortedDt (room100 hr)) real_sortD (by rfl) T.n_sorted (by decide +kernel) (da_cons (de_var 2) da_nil))) da_nil)) T.cl_Hall T.nf_Hall_arrows)))))
theorem b__law_one_arrow (T : Txt P K mg) : Binds K T.d__law_one_arrow ["pen"] [] := T.F__law_one_arrow.binds (ps := ["pen"]) fun _ _ _ _ _ _ us hl => match us, hl with | [_], _ => rfl
theorem ok__law_one_arrow (T : Txt P K mg) : FnOk P w K mg base (L2.CX P w) 27 T.a__law_one_arrow T.d__law_one_arrow ["pen"] (spD 1 (wf__law_one_arrow T.c)) :=
  fnOf T.F__law_one_arrow sc__law_one_arrow rfl fun cdv A outer s H E hr => by
  unfold w__law_one_arrow
  exact (dss_cons (ds_asg (de_tup (da_cons (de_call (fnUp (ok__law_draw T)) (hr.mono (by decide)) (by rfl) T.m__law_draw T.F__law_draw.kp (b__law_draw T) .nil (fun _ _ => .nil) rfl (da_cons (de_var 0) (da_cons de_int da_nil))) (da_cons (de_call (fnUp (ok__law_draw T)) (hr.mono (by decide)) (by rfl) T.m__law_draw T.F__law_draw.kp (b__law_draw T) .nil (fun _ _ => .nil) rfl (da_cons (de_var 0) (da_cons de_int da_nil))) da_nil))) (dg_tup rfl (dgs_cons (dg_name (i := 1) sc__law_one_arrow.nd rfl (by first | exact .inl rfl | exact .inr rfl)) (dgs_cons (dg_name (i := 2) sc__law_one_arrow.nd rfl (by first | exact .inl rfl | exact .inr rfl)) dgs_nil))))
  (dss_cons (ds_set 3 sc__law_one_arrow.nd rfl (by first | exact .inl rfl | exact .inr rfl) (de_make T.M_Hall (oki_Hall T) (hr.mono (by decide)) (by rfl) T.mC_Hall (bi_Hall T) .nil (fun _ _ => .nil) rfl (da_cons de_int (da_cons (de_new (df_lst (da_cons (de_tup (da_cons de_int (da_cons de_int da_nil))) da_nil))) da_nil))))
  (dss_cons (ds_setLc 4 (own := [("i", 12), ("j", 13)]) (is := [12, 13]) rfl sc__law_one_arrow.nd rfl rfl (sw_true rfl rfl rfl (by first | rfl | decide +kernel)) (di_seq (de_call (ok__law_s_below T) (hr.mono (by decide)) (by rfl) T.m__law_s_below T.F__law_s_below.kp (b__law_s_below T) .nil (fun _ _ => .nil) rfl (da_cons (de_tup (da_cons (de_var 1) (da_cons (de_var 2) da_nil))) da_nil))) (blkOk_by (by first | rfl | decide +kernel)) (fun _ _ _ _ _ => (dg_tup rfl (dgs_cons (dg_name (i := 12) sc__law_one_arrow.nd rfl (by first | exact .inl rfl | exact .inr rfl)) (dgs_cons (dg_name (i := 13) sc__law_one_arrow.nd rfl (by first | exact .inl rfl | exact .inr rfl)) dgs_nil)))) (fun _ _ _ _ _ => (dts_one (dt_cmp op_ge real_cmp (de_var 13) (de_op op_sub real_sub (de_var 12) (de_callB (call_max2 rfl) real_max2 (by rfl) T.n_max (by decide +kernel) (da_cons de_int (da_cons (de_op op_sub real_sub (de_var 1) (de_var 2)) da_nil)))) (nomk _)))) (fun _ _ _ _ _ => (de_tup (da_cons (de_var 12) (da_cons (de_var 13) da_nil)))) (by decide))
  (dss_cons (ds_if (dt_cmp (op_neD hr.units) real_ne (de_new (df_callTy call_list_of real_list (by rfl) T.n_list (by decide +kernel) (da_cons (de_call (ok_general_parts T) (hr.mono (by decide)) (by rfl) T.m_general_parts T.F_general_parts.kp (b_general_parts T) .nil (fun _ _ => .nil) rfl (da_cons (de_var 3) (da_cons (de_tup (da_cons (de_var 1) (da_cons (de_var 2) da_nil))) da_nil))) da_nil))) (de_var 4) (nomk _)) (dss_one (ds_ret de_bl)) dss_nil)
  (dss_cons (ds_set 5 sc__law_one_arrow.nd rfl (by first | exact .inl rfl | exact .inr rfl) (de_new (df_lst (da_cons (de_tup (da_cons (de_tup (da_cons de_int (da_cons de_int da_nil))) (da_cons (de_callB (call_min2 rfl) real_min2 (by rfl) T.n_min (by decide +kernel) (da_cons (de_var 1) (da_cons (de_var 2) da_nil))) da_nil))) (da_cons (de_tup (da_cons (de_tup (da_cons de_int (da_cons de_int da_nil))) (da_cons (de_op op_sub real_sub (de_var 1) (de_callB (call_min2 rfl) real_min2 (by rfl) T.n_min (by decide +kernel) (da_cons (de_var 1) (da_cons (de_var 2) da_nil)))) da_nil))) (da_cons (de_tup (da_cons (de_tup (da_cons de_int (da_cons de_int da_nil))) (da_cons (de_op op_sub real_sub (de_var 2) (de_callB (call_min2 rfl) real_min2 (by rfl) T.n_min (by decide +kernel) (da_cons (de_var 1) (da_cons (de_var 2) da_nil)))) da_nil))) da_nil))))))
  (dss_cons (ds_if (dt_cmp (op_neD hr.units) real_ne (de_call (ok_one_sum T) (hr.mono (by decide)) (by rfl) T.m_one_sum T.F_one_sum.kp (b_one_sum T) .nil (fun _ _ => .nil) rfl (da_cons (de_var 3) (da_cons (de_tup (da_cons (de_var 1) (da_cons (de_var 2) da_nil))) da_nil))) (de_callTy call_tuple_of real_tuple (by rfl) T.n_tuple (by decide +kernel) (da_cons (de_new (df_callB (cr_sortedDt (room100 hr)) real_sortD (by rfl) T.n_sorted (by decide +kernel) (da_cons (de_new (df_lc (own := [("pair", 14)]) (is := [14]) rfl sc__law_one_arrow.nd (di_seq (de_var 5)) (blkOk_by (by first | rfl | decide +kernel)) (fun _ _ _ _ _ => (dg_name (i := 14) sc__law_one_arrow.nd rfl (by first | exact .inl rfl | exact .inr rfl))) (fun _ _ _ _ _ => (dts_one (dt_cmp op_gt real_cmp (de_ix ix_seq real_ix (de_var 14) de_int) de_int (nomk _)))) (fun _ _ _ _ _ => (de_var 14)) (by decide))) da_nil))) da_nil)) (nomk _)) (dss_one (ds_ret de_bl)) dss_nil)
  (dss_cons (ds_par 6 7 rfl sc__law_one_arrow.nd rfl rfl (by decide) rfl rfl (de_call (fnUp (ok__law_draw T)) (hr.mono (by decide)) (by rfl) T.m__law_draw T.F__law_draw.kp (b__law_draw T) .nil (fun _ _ => .nil) rfl (da_cons (de_var 0) (da_cons de_int da_nil))) (de_call (fnUp (ok__law_draw T)) (hr.mono (by decide)) (by rfl) T.m__law_draw T.F__law_draw.kp (b__law_draw T) .nil (fun _ _ => .nil) rfl (da_cons (de_var 0) (da_cons de_int da_nil))) (by rfl))
  (dss_cons (ds_par 8 9 rfl sc__law_one_arrow.nd rfl rfl (by decide) rfl rfl (de_new (df_lst (da_cons (de_callB (call_min2 rfl) real_min2 (by rfl) T.n_min (by decide +kernel) (da_cons (de_var 1) (da_cons (de_var 2) da_nil))) (da_cons (de_op op_sub real_sub (de_var 1) (de_callB (call_min2 rfl) real_min2 (by rfl) T.n_min (by decide +kernel) (da_cons (de_var 1) (da_cons (de_var 2) da_nil)))) (da_cons (de_op op_sub real_sub (de_var 2) (de_callB (call_min2 rfl) real_min2 (by rfl) T.n_min (by decide +kernel) (da_cons (de_var 1) (da_cons (de_var 2) da_nil)))) da_nil))))) (de_new (df_lst (da_cons (de_callB (call_min2 rfl) real_min2 (by rfl) T.n_min (by decide +kernel) (da_cons (de_var 6) (da_cons (de_var 7) da_nil))) (da_cons (de_op op_sub real_sub (de_var 6) (de_callB (call_min2 rfl) real_min2 (by rfl) T.n_min (by decide +kernel) (da_cons (de_var 6) (da_cons (de_var 7) da_nil)))) (da_cons (de_op op_sub real_sub (de_var 7) (de_callB (call_min2 rfl) real_min2 (by rfl) T.n_min (by decide +kernel) (da_cons (de_var 6) (da_cons (de_var 7) da_nil)))) da_nil))))) (by rfl))
  (dss_cons (ds_set 10 sc__law_one_arrow.nd rfl (by first | exact .inl rfl | exact .inr rfl) (de_op op_addAll real_add (de_op op_addAll real_add (de_op op_mulX real_mulX (de_ix ix_seq real_ix (de_var 8) de_int) (de_op op_addAll real_add (de_ix ix_seq real_ix (de_var 9) de_int) (de_ix ix_seq real_ix (de_var 9) de_int))) (de_op op_mulX real_mulX (de_ix ix_seq real_ix (de_var 8) de_int) (de_ix ix_seq real_ix (de_var 9) de_int))) (de_op op_mulX real_mulX (de_ix ix_seq real_ix (de_var 8) de_int) (de_op op_addAll real_add (de_ix ix_seq real_ix (de_var 9) de_int) (de_ix ix_seq real_ix (de_var 9) de_int)))))
  (dss_cons (ds_set 11 sc__law_one_arrow.nd rfl (by first | exact .inl rfl | exact .inr rfl) (de_op op_mulX real_mulX (de_ix ix_seq real_ix (de_var 8) de_int) (de_ix ix_seq real_ix (de_var 9) de_int)))
  (dss_one (ds_ret (de_and (de_cmp (op_eqD hr.units) real_eq (de_call (ok_general_hom T) (hr.mono (by decide)) (by rfl) T.m_general_hom T.F_general_hom.kp (b_general_hom T) .nil (fun _ _ => .nil) rfl (da_cons (de_var 3) (da_cons (de_tup (da_cons (de_var 1) (da_cons (de_var 2) da_nil))) (da_cons (de_tup (da_cons (de_var 6) (da_cons (de_var 7) da_nil))) da_nil)))) (de_var 10) (nomk _)) (de_one (de_cmp (op_eqD hr.units) real_eq (de_call (ok_general_ext T) (hr.mono (by decide)) (by rfl) T.m_general_ext T.F_general_ext.kp (b_general_ext T) .nil (fun _ _ => .nil) rfl (da_cons (de_var 3) (da_cons (de_tup (da_cons (de_var 1) (da_cons (de_var 2) da_nil))) (da_cons (de_tup (da_cons (de_var 6) (da_cons (de_var 7) da_nil))) da_nil)))) (de_var 11) (nomk _))))))))))))))))
theorem b__law_lines (T : Txt P K mg) : Binds K T.d__law_lines ["pen"] [] := T.F__law_lines.binds (ps := ["pen"]) fun _ _ _ _ _ _ us hl => match us, hl with | [_], _ => rfl
theorem ok__law_lines (T : Txt P K mg) : FnOk P w K mg base (L2.CX P w) 6 T.a__law_lines T.d__law_lines ["pen"] (spD 1 (wf__law_lines T.c)) :=
  fnOf T.F__law_lines sc__law_lines rfl fun cdv A outer s H E hr => by
  unfold w__law_lines
  exact (dss_cons (ds_asg (de_tup (da_cons (de_op op_addAll real_add de_int (de_call (fnUp (ok__law_draw T)) (hr.mono (by decide)) (by rfl) T.m__law_draw T.F__law_draw.kp (b__law_draw T) .nil (fun _ _ => .nil) rfl (da_cons (de_var 0) (da_cons de_int da_nil)))) (da_cons (de_op op_addAll real_add de_int (de_call (fnUp (ok__law_draw T)) (hr.mono (by decide)) (by rfl) T.m__law_draw T.F__law_draw.kp (b__law_draw T) .nil (fun _ _ => .nil) rfl (da_cons (de_var 0) (da_cons de_int da_nil)))) da_nil))) (dg_tup rfl (dgs_cons (dg_name (i := 1) sc__law_lines.nd rfl (by first | exact .inl rfl | exact .inr rfl)) (dgs_cons (dg_name (i := 2) sc__law_lines.nd rfl (by first | exact .inl rfl | exact .inr rfl)) dgs_nil))))
  (dss_cons (ds_set 3 sc__law_lines.nd rfl (by first | exact .inl rfl | exact .inr rfl) (de_make T.M_Hall (oki_Hall T) (hr.mono (by decide)) (by rfl) T.mC_Hall (bi_Hall T) .nil (fun _ _ => .nil) rfl (da_cons (de_op op_addAll real_add (de_var 1) de_int) (da_cons (de_new (df_lc (own := [("i", 6)]) (is := [6]) rfl sc__law_lines.nd (di_range1 (by rfl) T.n_range (da_cons (de_var 1) da_nil)) (blkOk_by (by first | rfl | decide +kernel)) (fun _ _ _ _ _ => (dg_name (i := 6) sc__law_lines.nd rfl (by first | exact .inl rfl | exact .inr rfl))) (fun _ _ _ _ _ => dts_nil) (fun _ _ _ _ _ => (de_tup (da_cons (de_var 6) (da_cons (de_var 1) da_nil)))) (by decide))) da_nil))))
  (dss_cons (ds_setF 4 sc__law_lines.nd rfl (by first | exact .inl rfl | exact .inr rfl) (df_lst da_nil))
  (dss_cons (ds_for (L2.passes_of rfl) rfl (di_seq (de_call (ok__law_s_below T) (hr.mono (by decide)) (by rfl) T.m__law_s_below T.F__law_s_below.kp (b__law_s_below T) .nil (fun _ _ => .nil) rfl (da_cons (de_op op_addAll real_add (de_op op_mulX real_mulX (de_tup (da_cons de_int da_nil)) (de_var 1)) (de_tup (da_cons (de_var 2) da_nil))) da_nil))) (dg_name (i := 5) sc__law_lines.nd rfl (by first | exact .inl rfl | exact .inr rfl)) (dss_one (ds_if (dt_cmp op_ge real_cmp (de_ix ix_seq real_ix (de_var 5) (de_var 1)) (de_callB (call_min2 rfl) real_min2 (by rfl) T.n_min (by decide +kernel) (da_cons (de_callB (cr_sumA rfl) real_sum (by rfl) T.n_sum (by decide +kernel) (da_cons (de_slice sl_all real_sl (de_var 5) do_none (do_some (de_var 1))) da_nil)) (da_cons (de_var 2) da_nil))) (nomk _)) (dss_one (ds_append 4 rfl (by first | exact .inl rfl | exact .inr (.inl rfl)) (de_var 5))) dss_nil)))
  (dss_one (ds_ret (de_cmp (op_eqD hr.units) real_eq (de_new (df_callTy call_list_of real_list (by rfl) T.n_list (by decide +kernel) (da_cons (de_call (ok_general_parts T) (hr.mono (by decide)) (by rfl) T.m_general_parts T.F_general_parts.kp (b_general_parts T) .nil (fun _ _ => .nil) rfl (da_cons (de_var 3) (da_cons (de_op op_addAll real_add (de_op op_mulX real_mulX (de_tup (da_cons de_int da_nil)) (de_var 1)) (de_tup (da_cons (de_var 2) da_nil))) da_nil))) da_nil))) (de_var 4) (nomk _))))))))
theorem b__law_apart (T : Txt P K mg) : Binds K T.d__law_apart ["pen"] [] := T.F__law_apart.binds (ps := ["pen"]) fun _ _ _ _ _ _ us hl => match us, hl with | [_], _ => rfl
theorem ok__law_apart (T : Txt P K mg) : FnOk P w K mg base (L2.CX P w) 27 T.a__law_apart T.d__law_apart ["pen"] (spD 1 (wf__law_apart T.c)) :=
  fnOf T.F__law_apart sc__law_apart rfl fun cdv A outer s H E hr => by
  unfold w__law_apart
  exact (dss_cons (ds_set 1 sc__law_apart.nd rfl (by first | exact .inl rfl | exact .inr rfl) (de_tup (da_cons (de_call (fnUp (ok__law_draw T)) (hr.mono (by decide)) (by rfl) T.m__law_draw T.F__law_draw.kp (b__law_draw T) .nil (fun _ _ => .nil) rfl (da_cons (de_var 0) (da_cons de_int da_nil))) (da_cons (de_call (fnUp (ok__law_draw T)) (hr.mono (by decide)) (by rfl) T.m__law_draw T.F__law_draw.kp (b__law_draw T) .nil (fun _ _ => .nil) rfl (da_cons (de_var 0) (da_cons de_int da_nil))) da_nil))))
  (dss_cons (ds_set 2 sc__law_apart.nd rfl (by first | exact .inl rfl | exact .inr rfl) (de_make T.M_Hall (oki_Hall T) (hr.mono (by decide)) (by rfl) T.mC_Hall (bi_Hall T) .nil (fun _ _ => .nil) rfl (da_cons de_int (da_cons (de_new (df_lst da_nil)) da_nil))))
  (dss_cons (ds_if (dt_w (dw_or (dt_cmp (op_neD hr.units) real_ne (de_new (df_callTy call_list_of real_list (by rfl) T.n_list (by decide +kernel) (da_cons (de_call (ok_general_parts T) (hr.mono (by decide)) (by rfl) T.m_general_parts T.F_general_parts.kp (b_general_parts T) .nil (fun _ _ => .nil) rfl (da_cons (de_var 2) (da_cons (de_var 1) da_nil))) da_nil))) (de_call (ok__law_s_below T) (hr.mono (by decide)) (by rfl) T.m__law_s_below T.F__law_s_below.kp (b__law_s_below T) .nil (fun _ _ => .nil) rfl (da_cons (de_var 1) da_nil)) (nomk _)) (dw_or1 (dt_cmp (op_neD hr.units) real_ne (de_call (ok_general_ext T) (hr.mono (by decide)) (by rfl) T.m_general_ext T.F_general_ext.kp (b_general_ext T) .nil (fun _ _ => .nil) rfl (da_cons (de_var 2) (da_cons (de_var 1) (da_cons (de_var 1) da_nil)))) de_int (nomk _))))) (dss_one (ds_ret de_bl)) dss_nil)
  (dss_one (ds_ret (de_cmp (op_eqD hr.units) real_eq (de_call (ok_one_sum T) (hr.mono (by decide)) (by rfl) T.m_one_sum T.F_one_sum.kp (b_one_sum T) .nil (fun _ _ => .nil) rfl (da_cons (de_var 2) (da_cons (de_var 1) da_nil))) (de_callTy call_tuple_of real_tuple (by rfl) T.n_tuple (by decide +kernel) (da_cons (de_new (df_lc (own := [("row", 3), ("times", 4)]) (is := [3, 4]) rfl sc__law_apart.nd (di_seq (de_new (df_lst (da_cons (de_tup (da_cons (de_tup (da_cons de_int (da_cons de_int da_nil))) (da_cons (de_ix ix_seq real_ix (de_var 1) de_int) da_nil))) (da_cons (de_tup (da_cons (de_tup (da_cons de_int (da_cons de_int da_nil))) (da_cons (de_ix ix_seq real_ix (de_var 1) de_int) da_nil))) da_nil))))) (blkOk_by (by first | rfl | decide +kernel)) (fun _ _ _ _ _ => (dg_tup rfl (dgs_cons (dg_name (i := 3) sc__law_apart.nd rfl (by first | exact .inl rfl | exact .inr rfl)) (dgs_cons (dg_name (i := 4) sc__law_apart.nd rfl (by first | exact .inl rfl | exact .inr rfl)) dgs_nil)))) (fun _ _ _ _ _ => (dts_one (dt_cmp op_gt real_cmp (de_var 4) de_int (nomk _)))) (fun _ _ _ _ _ => (de_tup (da_cons (de_var 3) (da_cons (de_var 4) da_nil)))) (by decide))) da_nil)) (nomk _)))))))
theorem ok_law (T : Txt P K mg) (ht : T.c.tabs = []) (math : ∀ b : Addr, w_law T.c { nx := fun _ _ => False, rt := fun d _ => d = .bl true } (lawE 5 b) (0, ⟨some b, fun _ _ => False, T.c.tabs⟩)) : FnOk P w K mg base (L2.CX P w) 28 T.a_law T.d_law ["script"] (spLaw K) := by
  refine T.F_law.okX sc_law (fun vs H Q E h => ?_) (fun cdv A outer s H vs Q E hr h => ?_)
  · obtain ⟨a, ns, rfl, _⟩ := h
    rfl
  · obtain ⟨sa, ns, rfl, hS, hlen, qq⟩ := h
    have main : DSs (cxOf (L2.CX P w) P w K mg base ["script", "pen", "lap", "made", "k"] "law" (defScope s_law) T.a_law cdv A outer s H E) ((defBody s_law).drop 1) (w_law T.c) := by
      unfold w_law
      exact (dss_cons (ds_for (L2.passes_of rfl) rfl (di_range1 (by rfl) T.n_range (da_cons de_int da_nil)) (dg_name (i := 2) sc_law.nd rfl (by first | exact .inl rfl | exact .inr rfl)) (dss_one (ds_if (dt_w (dw_or (dt_not (dt_tru (de_call (ok__law_one_arrow T) (hr.mono (by decide)) (by rfl) T.m__law_one_arrow T.F__law_one_arrow.kp (b__law_one_arrow T) .nil (fun _ _ => .nil) rfl (da_cons (de_var 1) da_nil)))) (dw_or (dt_not (dt_tru (de_call (ok__law_lines T) (hr.mono (by decide)) (by rfl) T.m__law_lines T.F__law_lines.kp (b__law_lines T) .nil (fun _ _ => .nil) rfl (da_cons (de_var 1) da_nil)))) (dw_or1 (dt_not (dt_tru (de_call (ok__law_apart T) (hr.mono (by decide)) (by rfl) T.m__law_apart T.F__law_apart.kp (b__law_apart T) .nil (fun _ _ => .nil) rfl (da_cons (de_var 1) da_nil)))))))) (dss_one (ds_ret de_bl)) dss_nil)))
  (dss_cons (ds_set 3 sc_law.nd rfl (by first | exact .inl rfl | exact .inr rfl) (de_make T.M_Hall (oki_Hall T) (hr.mono (by decide)) (by rfl) T.mC_Hall (bi_Hall T) .nil (fun _ _ => .nil) rfl (da_cons de_int (da_cons (de_new (df_lst (da_cons (de_tup (da_cons de_int (da_cons de_int da_nil))) (da_cons (de_tup (da_cons de_int (da_cons de_int da_nil))) da_nil)))) da_nil))))
  (dss_cons (ds_set 4 sc_law.nd rfl (by first | exact .inl rfl | exact .inr rfl) (de_op op_addAll real_add de_int (de_call (fnUp (ok__law_draw T)) (hr.mono (by decide)) (by rfl) T.m__law_draw T.F__law_draw.kp (b__law_draw T) .nil (fun _ _ => .nil) rfl (da_cons (de_var 1) (da_cons de_int da_nil)))))
  (dss_cons (ds_if (dt_w (dw_or (dt_cmp (op_neD hr.units) real_ne (de_call (ok_one_sum T) (hr.mono (by decide)) (by rfl) T.m_one_sum T.F_one_sum.kp (b_one_sum T) .nil (fun _ _ => .nil) rfl (da_cons (de_var 3) (da_cons (de_tup (da_cons (de_var 4) (da_cons (de_var 4) da_nil))) da_nil))) (de_tup (da_cons (de_tup (da_cons (de_tup (da_cons de_int (da_cons de_int da_nil))) (da_cons (de_var 4) da_nil))) da_nil)) (nomk _)) (dw_or1 (dt_cmp (op_neD hr.units) real_ne (de_call (ok_one_sum T) (hr.mono (by decide)) (by rfl) T.m_one_sum T.F_one_sum.kp (b_one_sum T) .nil (fun _ _ => .nil) rfl (da_cons (de_var 3) (da_cons (de_tup (da_cons (de_op op_addAll real_add (de_var 4) de_int) (da_cons (de_var 4) da_nil))) da_nil))) (de_tup (da_cons (de_tup (da_cons (de_tup (da_cons (de_op op_addAll real_add (de_var 4) de_int) (da_cons (de_var 4) da_nil))) (da_cons de_int da_nil))) da_nil)) (nomk _))))) (dss_one (ds_ret de_bl)) dss_nil)
  (dss_one (ds_ret (de_and (de_cmp (op_eqD hr.units) real_eq (de_call (ok_general_ext T) (hr.mono (by decide)) (by rfl) T.m_general_ext T.F_general_ext.kp (b_general_ext T) .nil (fun _ _ => .nil) rfl (da_cons (de_var 3) (da_cons (de_tup (da_cons (de_var 4) (da_cons (de_var 4) da_nil))) (da_cons (de_tup (da_cons (de_var 4) (da_cons (de_var 4) da_nil))) da_nil)))) de_int (nomk _)) (de_one (de_cmp (op_eqD hr.units) real_eq (de_call (ok_general_hom T) (hr.mono (by decide)) (by rfl) T.m_general_hom T.F_general_hom.kp (b_general_hom T) .nil (fun _ _ => .nil) rfl (da_cons (de_var 3) (da_cons (de_tup (da_cons (de_var 4) (da_cons (de_var 4) da_nil))) (da_cons (de_tup (da_cons (de_var 4) (da_cons (de_var 4) da_nil))) da_nil)))) de_int (nomk _))))))))))
    obtain ⟨t, p, r⟩ := lawRest main
    refine ⟨_, pss_cons (ps_set (i := 1) sc_law.nd rfl (by first | exact .inl rfl | exact .inr rfl) (pe_call (ok__law_pen T) (hr.mono (by decide)) (by rfl) T.m__law_pen T.F__law_pen.kp (b__law_pen T) .nil pass0 (pa_cons (pv 0) pa_nil))) p, ?_⟩
    refine ⟨.ref sa, rfl, sa, ns, rfl, hS, hlen, fun H' a c f ex n1 n2 ne ea ec f0 f1 => ?_⟩
    exact @r Q a c sa ns f H' _ _ 5 (by decide) rfl ne ea ec f0 f1 (math a) qq (fun z hz => by rw [ht] at hz; cases hz)

end
theorem all_mk {l : PySem.W.OpenLaw} {w : World} {K : PySem.W.Frag} {h : Heap} {mg : Str → Option Value} {fa : Addr} (math : ∀ c : CA, CAok c → ∀ a : Addr, w_law c { nx := fun _ _ => False, rt := fun d _ => d = .bl true } (lawE 5 a) (0, ⟨some a, fun _ _ => False, c.tabs⟩)) (X : K.In h) (G : h.Ns mainGlobals mg) (hfa : mg "law" = some (.ref fa))
    {f1 : Addr}
    {cd1 : Value}
    {oc1 kV1 dc1 pm1 ct1 : Value} {od1 an1 : Option Addr} {sl1 : Array (Option Value)}
    (a1 : PySem.W.nsIn K mainGlobals "is_integer" = some (some (.ref f1)))
    (l1 : K.lookup f1 = some ⟨oc1, od1, .func (PySem.W.fnOf "is_integer" "is_integer" (defArgs s_is_integer) (defBody s_is_integer) (defScope s_is_integer) .none kV1 dc1 pm1 an1 cd1 ct1), sl1⟩)
    (c1 : PySem.W.codeIn K cd1 "is_integer" = true)
    (k1 : PySem.W.keepIn K (.ref f1) = true)
    {f2 : Addr}
    {cd2 : Value}
    {oc2 kV2 dc2 pm2 ct2 : Value} {od2 an2 : Option Addr} {sl2 : Array (Option Value)}
    (a2 : PySem.W.nsIn K mainGlobals "is_row" = some (some (.ref f2)))
    (l2 : K.lookup f2 = some ⟨oc2, od2, .func (PySem.W.fnOf "is_row" "is_row" (defArgs s_is_row) (defBody s_is_row) (defScope s_is_row) .none kV2 dc2 pm2 an2 cd2 ct2), sl2⟩)
    (c2 : PySem.W.codeIn K cd2 "is_row" = true)
    (k2 : PySem.W.keepIn K (.ref f2) = true)
    {f3 : Addr}
    {cd3 : Value}
    {oc3 kV3 dc3 pm3 ct3 : Value} {od3 an3 : Option Addr} {sl3 : Array (Option Value)}
    (a3 : PySem.W.nsIn K mainGlobals "is_arrow" = some (some (.ref f3)))
    (l3 : K.lookup f3 = some ⟨oc3, od3, .func (PySem.W.fnOf "is_arrow" "is_arrow" (defArgs s_is_arrow) (defBody s_is_arrow) (defScope s_is_arrow) .none kV3 dc3 pm3 an3 cd3 ct3), sl3⟩)
    (c3 : PySem.W.codeIn K cd3 "is_arrow" = true)
    (k3 : PySem.W.keepIn K (.ref f3) = true)
    {f4 : Addr}
    {cd4 : Value}
    {oc4 kV4 dc4 pm4 ct4 : Value} {od4 an4 : Option Addr} {sl4 : Array (Option Value)}
    (a4 : PySem.W.nsIn K mainGlobals "first_order" = some (some (.ref f4)))
    (l4 : K.lookup f4 = some ⟨oc4, od4, .func (PySem.W.fnOf "first_order" "first_order" (defArgs s_first_order) (defBody s_first_order) (defScope s_first_order) .none kV4 dc4 pm4 an4 cd4 ct4), sl4⟩)
    (c4 : PySem.W.codeIn K cd4 "first_order" = true)
    (k4 : PySem.W.keepIn K (.ref f4) = true)
    {f5 : Addr}
    {cd5 : Value}
    {oc5 kV5 dc5 pm5 ct5 : Value} {od5 an5 : Option Addr} {sl5 : Array (Option Value)}
    (a5 : PySem.W.nsIn K mainGlobals "hall_fault" = some (some (.ref f5)))
    (l5 : K.lookup f5 = some ⟨oc5, od5, .func (PySem.W.fnOf "hall_fault" "hall_fault" (defArgs s_hall_fault) (defBody s_hall_fault) (defScope s_hall_fault) .none kV5 dc5 pm5 an5 cd5 ct5), sl5⟩)
    (c5 : PySem.W.codeIn K cd5 "hall_fault" = true)
    (k5 : PySem.W.keepIn K (.ref f5) = true)
    {f6 : Addr}
    {cd6 : Value}
    {oc6 kV6 dc6 pm6 ct6 : Value} {od6 an6 : Option Addr} {sl6 : Array (Option Value)}
    (a6 : PySem.W.nsIn K mainGlobals "need_hall" = some (some (.ref f6)))
    (l6 : K.lookup f6 = some ⟨oc6, od6, .func (PySem.W.fnOf "need_hall" "need_hall" (defArgs s_need_hall) (defBody s_need_hall) (defScope s_need_hall) .none kV6 dc6 pm6 an6 cd6 ct6), sl6⟩)
    (c6 : PySem.W.codeIn K cd6 "need_hall" = true)
    (k6 : PySem.W.keepIn K (.ref f6) = true)
    {f7 : Addr}
    {cd7 : Value}
    {oc7 kV7 dc7 pm7 ct7 : Value} {od7 an7 : Option Addr} {sl7 : Array (Option Value)}
    (a7 : PySem.W.nsIn K mainGlobals "is_numbers" = some (some (.ref f7)))
    (l7 : K.lookup f7 = some ⟨oc7, od7, .func (PySem.W.fnOf "is_numbers" "is_numbers" (defArgs s_is_numbers) (defBody s_is_numbers) (defScope s_is_numbers) .none kV7 dc7 pm7 an7 cd7 ct7), sl7⟩)
    (c7 : PySem.W.codeIn K cd7 "is_numbers" = true)
    (k7 : PySem.W.keepIn K (.ref f7) = true)
    {f8 : Addr}
    {cd8 : Value}
    {oc8 kV8 dc8 pm8 ct8 : Value} {od8 an8 : Option Addr} {sl8 : Array (Option Value)}
    (a8 : PySem.W.nsIn K mainGlobals "is_sizes" = some (some (.ref f8)))
    (l8 : K.lookup f8 = some ⟨oc8, od8, .func (PySem.W.fnOf "is_sizes" "is_sizes" (defArgs s_is_sizes) (defBody s_is_sizes) (defScope s_is_sizes) .none kV8 dc8 pm8 an8 cd8 ct8), sl8⟩)
    (c8 : PySem.W.codeIn K cd8 "is_sizes" = true)
    (k8 : PySem.W.keepIn K (.ref f8) = true)
    {f9 : Addr}
    {cd9 : Value}
    {oc9 kV9 dc9 pm9 ct9 : Value} {od9 an9 : Option Addr} {sl9 : Array (Option Value)}
    (a9 : PySem.W.nsIn K mainGlobals "need_sizes" = some (some (.ref f9)))
    (l9 : K.lookup f9 = some ⟨oc9, od9, .func (PySem.W.fnOf "need_sizes" "need_sizes" (defArgs s_need_sizes) (defBody s_need_sizes) (defScope s_need_sizes) .none kV9 dc9 pm9 an9 cd9 ct9), sl9⟩)
    (c9 : PySem.W.codeIn K cd9 "need_sizes" = true)
    (k9 : PySem.W.keepIn K (.ref f9) = true)
    {f10 : Addr}
    {cd10 : Value}
    {oc10 kV10 dc10 pm10 ct10 : Value} {od10 an10 : Option Addr} {sl10 : Array (Option Value)}
    (a10 : PySem.W.nsIn K mainGlobals "formed" = some (some (.ref f10)))
    (l10 : K.lookup f10 = some ⟨oc10, od10, .func (PySem.W.fnOf "formed" "formed" (defArgs s_formed) (defBody s_formed) (defScope s_formed) .none kV10 dc10 pm10 an10 cd10 ct10), sl10⟩)
    (c10 : PySem.W.codeIn K cd10 "formed" = true)
    (k10 : PySem.W.keepIn K (.ref f10) = true)
    {f11 : Addr}
    {cd11 : Value}
    {oc11 kV11 dc11 pm11 ct11 : Value} {od11 an11 : Option Addr} {sl11 : Array (Option Value)}
    (a11 : PySem.W.nsIn K mainGlobals "rows_below" = some (some (.ref f11)))
    (l11 : K.lookup f11 = some ⟨oc11, od11, .func (PySem.W.fnOf "rows_below" "rows_below" (defArgs s_rows_below) (defBody s_rows_below) (defScope s_rows_below) .none kV11 dc11 pm11 an11 cd11 ct11), sl11⟩)
    (c11 : PySem.W.codeIn K cd11 "rows_below" = true)
    (k11 : PySem.W.keepIn K (.ref f11) = true)
    {f12 : Addr}
    {cd12 : Value}
    {oc12 kV12 dc12 pm12 ct12 : Value} {od12 an12 : Option Addr} {sl12 : Array (Option Value)}
    (a12 : PySem.W.nsIn K mainGlobals "taken_off" = some (some (.ref f12)))
    (l12 : K.lookup f12 = some ⟨oc12, od12, .func (PySem.W.fnOf "taken_off" "taken_off" (defArgs s_taken_off) (defBody s_taken_off) (defScope s_taken_off) .none kV12 dc12 pm12 an12 cd12 ct12), sl12⟩)
    (c12 : PySem.W.codeIn K cd12 "taken_off" = true)
    (k12 : PySem.W.keepIn K (.ref f12) = true)
    {f13 : Addr}
    {cd13 : Value}
    {oc13 kV13 dc13 pm13 ct13 : Value} {od13 an13 : Option Addr} {sl13 : Array (Option Value)}
    (a13 : PySem.W.nsIn K mainGlobals "is_part_by" = some (some (.ref f13)))
    (l13 : K.lookup f13 = some ⟨oc13, od13, .func (PySem.W.fnOf "is_part_by" "is_part_by" (defArgs s_is_part_by) (defBody s_is_part_by) (defScope s_is_part_by) .none kV13 dc13 pm13 an13 cd13 ct13), sl13⟩)
    (c13 : PySem.W.codeIn K cd13 "is_part_by" = true)
    (k13 : PySem.W.keepIn K (.ref f13) = true)
    {f14 : Addr}
    {cd14 : Value}
    {oc14 kV14 dc14 pm14 ct14 : Value} {od14 an14 : Option Addr} {sl14 : Array (Option Value)}
    (a14 : PySem.W.nsIn K mainGlobals "parts_known" = some (some (.ref f14)))
    (l14 : K.lookup f14 = some ⟨oc14, od14, .func (PySem.W.fnOf "parts_known" "parts_known" (defArgs s_parts_known) (defBody s_parts_known) (defScope s_parts_known) .none kV14 dc14 pm14 an14 cd14 ct14), sl14⟩)
    (c14 : PySem.W.codeIn K cd14 "parts_known" = true)
    (k14 : PySem.W.keepIn K (.ref f14) = true)
    {f15 : Addr}
    {cd15 : Value}
    {oc15 kV15 dc15 pm15 ct15 : Value} {od15 an15 : Option Addr} {sl15 : Array (Option Value)}
    (a15 : PySem.W.nsIn K mainGlobals "need_few" = some (some (.ref f15)))
    (l15 : K.lookup f15 = some ⟨oc15, od15, .func (PySem.W.fnOf "need_few" "need_few" (defArgs s_need_few) (defBody s_need_few) (defScope s_need_few) .none kV15 dc15 pm15 an15 cd15 ct15), sl15⟩)
    (c15 : PySem.W.codeIn K cd15 "need_few" = true)
    (k15 : PySem.W.keepIn K (.ref f15) = true)
    {f16 : Addr}
    {cd16 : Value}
    {oc16 kV16 dc16 pm16 ct16 : Value} {od16 an16 : Option Addr} {sl16 : Array (Option Value)}
    (a16 : PySem.W.nsIn K mainGlobals "general_parts" = some (some (.ref f16)))
    (l16 : K.lookup f16 = some ⟨oc16, od16, .func (PySem.W.fnOf "general_parts" "general_parts" (defArgs s_general_parts) (defBody s_general_parts) (defScope s_general_parts) .none kV16 dc16 pm16 an16 cd16 ct16), sl16⟩)
    (c16 : PySem.W.codeIn K cd16 "general_parts" = true)
    (k16 : PySem.W.keepIn K (.ref f16) = true)
    {f17 : Addr}
    {cd17 : Value}
    {oc17 kV17 dc17 pm17 ct17 : Value} {od17 an17 : Option Addr} {sl17 : Array (Option Value)}
    (a17 : PySem.W.nsIn K mainGlobals "need_two" = some (some (.ref f17)))
    (l17 : K.lookup f17 = some ⟨oc17, od17, .func (PySem.W.fnOf "need_two" "need_two" (defArgs s_need_two) (defBody s_need_two) (defScope s_need_two) .none kV17 dc17 pm17 an17 cd17 ct17), sl17⟩)
    (c17 : PySem.W.codeIn K cd17 "need_two" = true)
    (k17 : PySem.W.keepIn K (.ref f17) = true)
    {f18 : Addr}
    {cd18 : Value}
    {oc18 kV18 dc18 pm18 ct18 : Value} {od18 an18 : Option Addr} {sl18 : Array (Option Value)}
    (a18 : PySem.W.nsIn K mainGlobals "balance" = some (some (.ref f18)))
    (l18 : K.lookup f18 = some ⟨oc18, od18, .func (PySem.W.fnOf "balance" "balance" (defArgs s_balance) (defBody s_balance) (defScope s_balance) .none kV18 dc18 pm18 an18 cd18 ct18), sl18⟩)
    (c18 : PySem.W.codeIn K cd18 "balance" = true)
    (k18 : PySem.W.keepIn K (.ref f18) = true)
    {f19 : Addr}
    {cd19 : Value}
    {oc19 kV19 dc19 pm19 ct19 : Value} {od19 an19 : Option Addr} {sl19 : Array (Option Value)}
    (a19 : PySem.W.nsIn K mainGlobals "bar_of" = some (some (.ref f19)))
    (l19 : K.lookup f19 = some ⟨oc19, od19, .func (PySem.W.fnOf "bar_of" "bar_of" (defArgs s_bar_of) (defBody s_bar_of) (defScope s_bar_of) .none kV19 dc19 pm19 an19 cd19 ct19), sl19⟩)
    (c19 : PySem.W.codeIn K cd19 "bar_of" = true)
    (k19 : PySem.W.keepIn K (.ref f19) = true)
    {f20 : Addr}
    {cd20 : Value}
    {oc20 kV20 dc20 pm20 ct20 : Value} {od20 an20 : Option Addr} {sl20 : Array (Option Value)}
    (a20 : PySem.W.nsIn K mainGlobals "joined" = some (some (.ref f20)))
    (l20 : K.lookup f20 = some ⟨oc20, od20, .func (PySem.W.fnOf "joined" "joined" (defArgs s_joined) (defBody s_joined) (defScope s_joined) .none kV20 dc20 pm20 an20 cd20 ct20), sl20⟩)
    (c20 : PySem.W.codeIn K cd20 "joined" = true)
    (k20 : PySem.W.keepIn K (.ref f20) = true)
    {f21 : Addr}
    {cd21 : Value}
    {oc21 kV21 dc21 pm21 ct21 : Value} {od21 an21 : Option Addr} {sl21 : Array (Option Value)}
    (a21 : PySem.W.nsIn K mainGlobals "split_of" = some (some (.ref f21)))
    (l21 : K.lookup f21 = some ⟨oc21, od21, .func (PySem.W.fnOf "split_of" "split_of" (defArgs s_split_of) (defBody s_split_of) (defScope s_split_of) .none kV21 dc21 pm21 an21 cd21 ct21), sl21⟩)
    (c21 : PySem.W.codeIn K cd21 "split_of" = true)
    (k21 : PySem.W.keepIn K (.ref f21) = true)
    {f22 : Addr}
    {cd22 : Value}
    {oc22 kV22 dc22 pm22 ct22 : Value} {od22 an22 : Option Addr} {sl22 : Array (Option Value)}
    (a22 : PySem.W.nsIn K mainGlobals "summed" = some (some (.ref f22)))
    (l22 : K.lookup f22 = some ⟨oc22, od22, .func (PySem.W.fnOf "summed" "summed" (defArgs s_summed) (defBody s_summed) (defScope s_summed) .none kV22 dc22 pm22 an22 cd22 ct22), sl22⟩)
    (c22 : PySem.W.codeIn K cd22 "summed" = true)
    (k22 : PySem.W.keepIn K (.ref f22) = true)
    {f23 : Addr}
    {cd23 : Value}
    {oc23 kV23 dc23 pm23 ct23 : Value} {od23 an23 : Option Addr} {sl23 : Array (Option Value)}
    (a23 : PySem.W.nsIn K mainGlobals "pairs_of" = some (some (.ref f23)))
    (l23 : K.lookup f23 = some ⟨oc23, od23, .func (PySem.W.fnOf "pairs_of" "pairs_of" (defArgs s_pairs_of) (defBody s_pairs_of) (defScope s_pairs_of) .none kV23 dc23 pm23 an23 cd23 ct23), sl23⟩)
    (c23 : PySem.W.codeIn K cd23 "pairs_of" = true)
    (k23 : PySem.W.keepIn K (.ref f23) = true)
    {f24 : Addr}
    {cd24 : Value}
    {oc24 kV24 dc24 pm24 ct24 : Value} {od24 an24 : Option Addr} {sl24 : Array (Option Value)}
    (a24 : PySem.W.nsIn K mainGlobals "need_one" = some (some (.ref f24)))
    (l24 : K.lookup f24 = some ⟨oc24, od24, .func (PySem.W.fnOf "need_one" "need_one" (defArgs s_need_one) (defBody s_need_one) (defScope s_need_one) .none kV24 dc24 pm24 an24 cd24 ct24), sl24⟩)
    (c24 : PySem.W.codeIn K cd24 "need_one" = true)
    (k24 : PySem.W.keepIn K (.ref f24) = true)
    {f25 : Addr}
    {cd25 : Value}
    {oc25 kV25 dc25 pm25 ct25 : Value} {od25 an25 : Option Addr} {sl25 : Array (Option Value)}
    (a25 : PySem.W.nsIn K mainGlobals "one_sum" = some (some (.ref f25)))
    (l25 : K.lookup f25 = some ⟨oc25, od25, .func (PySem.W.fnOf "one_sum" "one_sum" (defArgs s_one_sum) (defBody s_one_sum) (defScope s_one_sum) .none kV25 dc25 pm25 an25 cd25 ct25), sl25⟩)
    (c25 : PySem.W.codeIn K cd25 "one_sum" = true)
    (k25 : PySem.W.keepIn K (.ref f25) = true)
    {f26 : Addr}
    {cd26 : Value}
    {oc26 kV26 dc26 pm26 ct26 : Value} {od26 an26 : Option Addr} {sl26 : Array (Option Value)}
    (a26 : PySem.W.nsIn K mainGlobals "least_ext" = some (some (.ref f26)))
    (l26 : K.lookup f26 = some ⟨oc26, od26, .func (PySem.W.fnOf "least_ext" "least_ext" (defArgs s_least_ext) (defBody s_least_ext) (defScope s_least_ext) .none kV26 dc26 pm26 an26 cd26 ct26), sl26⟩)
    (c26 : PySem.W.codeIn K cd26 "least_ext" = true)
    (k26 : PySem.W.keepIn K (.ref f26) = true)
    {f27 : Addr}
    {cd27 : Value}
    {oc27 kV27 dc27 pm27 ct27 : Value} {od27 an27 : Option Addr} {sl27 : Array (Option Value)}
    (a27 : PySem.W.nsIn K mainGlobals "general_ext" = some (some (.ref f27)))
    (l27 : K.lookup f27 = some ⟨oc27, od27, .func (PySem.W.fnOf "general_ext" "general_ext" (defArgs s_general_ext) (defBody s_general_ext) (defScope s_general_ext) .none kV27 dc27 pm27 an27 cd27 ct27), sl27⟩)
    (c27 : PySem.W.codeIn K cd27 "general_ext" = true)
    (k27 : PySem.W.keepIn K (.ref f27) = true)
    {f28 : Addr}
    {cd28 : Value}
    {oc28 kV28 dc28 pm28 ct28 : Value} {od28 an28 : Option Addr} {sl28 : Array (Option Value)}
    (a28 : PySem.W.nsIn K mainGlobals "general_hom" = some (some (.ref f28)))
    (l28 : K.lookup f28 = some ⟨oc28, od28, .func (PySem.W.fnOf "general_hom" "general_hom" (defArgs s_general_hom) (defBody s_general_hom) (defScope s_general_hom) .none kV28 dc28 pm28 an28 cd28 ct28), sl28⟩)
    (c28 : PySem.W.codeIn K cd28 "general_hom" = true)
    (k28 : PySem.W.keepIn K (.ref f28) = true)
    {f29 : Addr}
    {cd29 : Value}
    {oc29 kV29 dc29 pm29 ct29 : Value} {od29 an29 : Option Addr} {sl29 : Array (Option Value)}
    (a29 : PySem.W.nsIn K mainGlobals "_law_pen" = some (some (.ref f29)))
    (l29 : K.lookup f29 = some ⟨oc29, od29, .func (PySem.W.fnOf "_law_pen" "_law_pen" (defArgs s__law_pen) (defBody s__law_pen) (defScope s__law_pen) .none kV29 dc29 pm29 an29 cd29 ct29), sl29⟩)
    (c29 : PySem.W.codeIn K cd29 "_law_pen" = true)
    (k29 : PySem.W.keepIn K (.ref f29) = true)
    {f30 : Addr}
    {cd30 : Value}
    {oc30 kV30 dc30 pm30 ct30 : Value} {od30 an30 : Option Addr} {sl30 : Array (Option Value)}
    (a30 : PySem.W.nsIn K mainGlobals "_law_draw" = some (some (.ref f30)))
    (l30 : K.lookup f30 = some ⟨oc30, od30, .func (PySem.W.fnOf "_law_draw" "_law_draw" (defArgs s__law_draw) (defBody s__law_draw) (defScope s__law_draw) .none kV30 dc30 pm30 an30 cd30 ct30), sl30⟩)
    (c30 : PySem.W.codeIn K cd30 "_law_draw" = true)
    (k30 : PySem.W.keepIn K (.ref f30) = true)
    {f31 : Addr}
    {cd31 : Value}
    {oc31 kV31 dc31 pm31 ct31 : Value} {od31 an31 : Option Addr} {sl31 : Array (Option Value)}
    (a31 : PySem.W.nsIn K mainGlobals "_law_s_below" = some (some (.ref f31)))
    (l31 : K.lookup f31 = some ⟨oc31, od31, .func (PySem.W.fnOf "_law_s_below" "_law_s_below" (defArgs s__law_s_below) (defBody s__law_s_below) (defScope s__law_s_below) .none kV31 dc31 pm31 an31 cd31 ct31), sl31⟩)
    (c31 : PySem.W.codeIn K cd31 "_law_s_below" = true)
    (k31 : PySem.W.keepIn K (.ref f31) = true)
    {f32 : Addr}
    {cd32 : Value}
    {oc32 kV32 dc32 pm32 ct32 : Value} {od32 an32 : Option Addr} {sl32 : Array (Option Value)}
    (a32 : PySem.W.nsIn K mainGlobals "_law_one_arrow" = some (some (.ref f32)))
    (l32 : K.lookup f32 = some ⟨oc32, od32, .func (PySem.W.fnOf "_law_one_arrow" "_law_one_arrow" (defArgs s__law_one_arrow) (defBody s__law_one_arrow) (defScope s__law_one_arrow) .none kV32 dc32 pm32 an32 cd32 ct32), sl32⟩)
    (c32 : PySem.W.codeIn K cd32 "_law_one_arrow" = true)
    (k32 : PySem.W.keepIn K (.ref f32) = true)
    {f33 : Addr}
    {cd33 : Value}
    {oc33 kV33 dc33 pm33 ct33 : Value} {od33 an33 : Option Addr} {sl33 : Array (Option Value)}
    (a33 : PySem.W.nsIn K mainGlobals "_law_lines" = some (some (.ref f33)))
    (l33 : K.lookup f33 = some ⟨oc33, od33, .func (PySem.W.fnOf "_law_lines" "_law_lines" (defArgs s__law_lines) (defBody s__law_lines) (defScope s__law_lines) .none kV33 dc33 pm33 an33 cd33 ct33), sl33⟩)
    (c33 : PySem.W.codeIn K cd33 "_law_lines" = true)
    (k33 : PySem.W.keepIn K (.ref f33) = true)
    {f34 : Addr}
    {cd34 : Value}
    {oc34 kV34 dc34 pm34 ct34 : Value} {od34 an34 : Option Addr} {sl34 : Array (Option Value)}
    (a34 : PySem.W.nsIn K mainGlobals "_law_apart" = some (some (.ref f34)))
    (l34 : K.lookup f34 = some ⟨oc34, od34, .func (PySem.W.fnOf "_law_apart" "_law_apart" (defArgs s__law_apart) (defBody s__law_apart) (defScope s__law_apart) .none kV34 dc34 pm34 an34 cd34 ct34), sl34⟩)
    (c34 : PySem.W.codeIn K cd34 "_law_apart" = true)
    (k34 : PySem.W.keepIn K (.ref f34) = true)
    {f35 : Addr}
    {cd35 : Value}
    {oc35 kV35 dc35 pm35 ct35 : Value} {od35 an35 : Option Addr} {sl35 : Array (Option Value)}
    (a35 : PySem.W.nsIn K mainGlobals "law" = some (some (.ref f35)))
    (l35 : K.lookup f35 = some ⟨oc35, od35, .func (PySem.W.fnOf "law" "law" (defArgs s_law) (defBody s_law) (defScope s_law) .none kV35 dc35 pm35 an35 cd35 ct35), sl35⟩)
    (c35 : PySem.W.codeIn K cd35 "law" = true)
    (k35 : PySem.W.keepIn K (.ref f35) = true)
    (z_all : PySem.W.nsIn K mainGlobals "all" = some none)
    (z_any : PySem.W.nsIn K mainGlobals "any" = some none)
    (z_bool : PySem.W.nsIn K mainGlobals "bool" = some none)
    (z_dict : PySem.W.nsIn K mainGlobals "dict" = some none)
    (z_int : PySem.W.nsIn K mainGlobals "int" = some none)
    (z_isinstance : PySem.W.nsIn K mainGlobals "isinstance" = some none)
    (z_len : PySem.W.nsIn K mainGlobals "len" = some none)
    (z_list : PySem.W.nsIn K mainGlobals "list" = some none)
    (z_max : PySem.W.nsIn K mainGlobals "max" = some none)
    (z_min : PySem.W.nsIn K mainGlobals "min" = some none)
    (z_range : PySem.W.nsIn K mainGlobals "range" = some none)
    (z_repr : PySem.W.nsIn K mainGlobals "repr" = some none)
    (z_sorted : PySem.W.nsIn K mainGlobals "sorted" = some none)
    (z_sum : PySem.W.nsIn K mainGlobals "sum" = some none)
    (z_super : PySem.W.nsIn K mainGlobals "super" = some none)
    (z_tuple : PySem.W.nsIn K mainGlobals "tuple" = some none)
    (z_zip : PySem.W.nsIn K mainGlobals "zip" = some none)
    {t_MOST_ARROWS : Tok}
    (y_MOST_ARROWS : PySem.W.nsIn K mainGlobals "MOST_ARROWS" = some (some (.int 12 t_MOST_ARROWS)))
    {t_MOST_POINTS : Tok}
    (y_MOST_POINTS : PySem.W.nsIn K mainGlobals "MOST_POINTS" = some (some (.int 7 t_MOST_POINTS)))
    {t_MOST_ROWS : Tok}
    (y_MOST_ROWS : PySem.W.nsIn K mainGlobals "MOST_ROWS" = some (some (.int 2000 t_MOST_ROWS)))
    (on : PySem.W.specialIn K (.builtin "object.__class__") "__get__" = some (some (.builtin "getset_descriptor.__get__")))
    (ot : PySem.W.takesIn K (.builtin "object.__class__") = some true)
    {C_Hall fi_Hall : Addr}
    {oi_Hall ki_Hall ui_Hall pi_Hall cdi_Hall cti_Hall : Value} {odi_Hall ani_Hall : Option Addr} {sli_Hall : Array (Option Value)}
    (aC_Hall : PySem.W.nsIn K mainGlobals "Hall" = some (some (.ref C_Hall)))
    (ii_Hall : PySem.W.findIn K (.ref C_Hall) "__init__" = some (some (.ref fi_Hall)))
    (li_Hall : K.lookup fi_Hall = some ⟨oi_Hall, odi_Hall, .func (PySem.W.fnOf "__init__" "Hall.__init__" (defArgs si_Hall) (defBody si_Hall) (defScope si_Hall) .none ki_Hall ui_Hall pi_Hall ani_Hall cdi_Hall cti_Hall), sli_Hall⟩)
    (ci_Hall : PySem.W.codeIn K cdi_Hall "Hall.__init__" = true)
    (kf_Hall : PySem.W.keepIn K (.ref fi_Hall) = true)
    (mk_Hall : PySem.W.makesIn K C_Hall = true)
    (fn_Hall : PySem.W.isFn K (.ref fi_Hall) = true)
    (kC_Hall : PySem.W.keepIn K (.ref C_Hall) = true)
    (pg_Hall : PySem.W.plainGet K C_Hall Str.empty = true)
    (hd_Hall : PySem.W.hasDictIn K C_Hall = true)
    (po_Hall : PySem.W.plainOver K C_Hall = true)
    (sa_Hall : PySem.W.findIn K (.ref C_Hall) "__setattr__" = some (some (.builtin "object.__setattr__")))
    (ga_Hall : PySem.W.findIn K (.ref C_Hall) "__class__" = some (some (.builtin "object.__class__")))
    (ob_Hall : PySem.W.mroIn K C_Hall (.type "object") = some true)
    (ic_Hall : PySem.W.isClsIn K C_Hall = true)
    (ty_Hall : PySem.W.typeIn K (.ref C_Hall) = some (.type "type"))
    (b0_Hall : PySem.W.subIn K (.type "NoneType") (.ref C_Hall) = some false)
    (b1_Hall : PySem.W.subIn K (.type "bool") (.ref C_Hall) = some false)
    (b2_Hall : PySem.W.subIn K (.type "int") (.ref C_Hall) = some false)
    (b3_Hall : PySem.W.subIn K (.type "str") (.ref C_Hall) = some false)
    (b4_Hall : PySem.W.subIn K (.type "list") (.ref C_Hall) = some false)
    (b5_Hall : PySem.W.subIn K (.type "tuple") (.ref C_Hall) = some false)
    (b6_Hall : PySem.W.subIn K (.type "dict") (.ref C_Hall) = some false)
    (nf_Hall_many : PySem.W.findIn K (.ref C_Hall) "many" = some none)
    (nf_Hall_arrows : PySem.W.findIn K (.ref C_Hall) "arrows" = some none)
    {fq_Hall : Addr}
    {oq_Hall kq_Hall uq_Hall pq_Hall cdq_Hall ctq_Hall : Value} {odq_Hall anq_Hall : Option Addr} {slq_Hall : Array (Option Value)}
    (iq_Hall : PySem.W.findIn K (.ref C_Hall) "__eq__" = some (some (.ref fq_Hall)))
    (lq_Hall : K.lookup fq_Hall = some ⟨oq_Hall, odq_Hall, .func (PySem.W.fnOf "__eq__" "Hall.__eq__" (defArgs sq_Hall) (defBody sq_Hall) (defScope sq_Hall) .none kq_Hall uq_Hall pq_Hall anq_Hall cdq_Hall ctq_Hall), slq_Hall⟩)
    (cq_Hall : PySem.W.codeIn K cdq_Hall "Hall.__eq__" = true)
    (kfq_Hall : PySem.W.keepIn K (.ref fq_Hall) = true)
    (fnq_Hall : PySem.W.isFn K (.ref fq_Hall) = true)
    (nnq_Hall : PySem.W.findIn K (.ref C_Hall) "__ne__" = some (some (.builtin "object.__ne__")))
    (sbq_Hall_Hall : PySem.W.subIn K (.ref C_Hall) (.ref C_Hall) = some true)
    {S_B N_B : Addr}
    {nm_B q_B : Str} {bs_B sub_B : List Value} {sn_B : List Str} {ab_B : Bool} {col_B : Option Bool} {dd_B : Option Addr} {j0 j1 j2 j3 j5 : Option Value}
    (aS : PySem.W.nsIn K mainGlobals "SizeError" = some (some (.ref S_B)))
    (xS : K.lookup S_B = some (excClassObj nm_B q_B S_B N_B bs_B [.type "ValueError", .type "Exception", .type "BaseException", .type "object"] true sn_B sub_B ab_B col_B dd_B j0 j1 j2 j3 j5 "ValueError.__new__"))
    (iS : PySem.W.findIn K (.ref S_B) "__init__" = some (some (.builtin "ValueError.__init__")))
    (opq : PySem.W.nsIn K cStatics "thirdparty.any" = some none)
    {C_BadItem N_BadItem fe_BadItem cda_BadItem cc_BadItem : Addr}
    {nm_BadItem q_BadItem : Str} {bs_BadItem sub_BadItem : List Value} {sn_BadItem : List Str} {ab_BadItem : Bool} {col_BadItem : Option Bool} {dd_BadItem : Option Addr} {k0_BadItem k1_BadItem k2_BadItem k3_BadItem k5_BadItem : Option Value}
    {oe_BadItem ke_BadItem ue_BadItem pe_BadItem cte_BadItem ccl_BadItem cxl_BadItem : Value} {ode_BadItem ane_BadItem cdd_BadItem cxd_BadItem : Option Addr} {sle_BadItem ccs_BadItem cxs_BadItem : Array (Option Value)} {cvs_BadItem : Array Value}
    (aC_BadItem : PySem.W.nsIn K mainGlobals "BadItem" = some (some (.ref C_BadItem)))
    (xC_BadItem : K.lookup C_BadItem = some (excClassObj nm_BadItem q_BadItem C_BadItem N_BadItem bs_BadItem [.ref S_B, .type "ValueError", .type "Exception", .type "BaseException", .type "object"] true sn_BadItem sub_BadItem ab_BadItem col_BadItem dd_BadItem k0_BadItem k1_BadItem k2_BadItem k3_BadItem k5_BadItem "ValueError.__new__"))
    (sa_BadItem : PySem.W.findIn K (.ref C_BadItem) "__setattr__" = some (some (.builtin "object.__setattr__")))
    (ga_BadItem : PySem.W.findIn K (.ref C_BadItem) "__getattribute__" = some (some (.builtin "BaseException.__getattribute__")))
    (gg_BadItem : PySem.W.findIn K (.ref C_BadItem) "__getattr__" = some none)
    (eC_BadItem : PySem.W.subIn K (.ref C_BadItem) (.type "BaseException") = some true)
    (vC_BadItem : PySem.W.subIn K (.ref C_BadItem) (.type "ValueError") = some true)
    (tC_BadItem : PySem.W.typeIn K (.ref C_BadItem) = some (.type "type"))
    (kC_BadItem : PySem.W.keepIn K (.ref C_BadItem) = true)
    (hC_BadItem : PySem.W.hasDictIn K C_BadItem = true)
    (ic_BadItem : PySem.W.isClsIn K C_BadItem = true)
    (mC_BadItem : PySem.W.mroIn K C_BadItem (.ref C_BadItem) = some true)
    (ie_BadItem : PySem.W.findIn K (.ref C_BadItem) "__init__" = some (some (.ref fe_BadItem)))
    (te_BadItem : PySem.W.typeIn K (.ref fe_BadItem) = some (.type "function"))
    (le_BadItem : K.lookup fe_BadItem = some ⟨oe_BadItem, ode_BadItem, .func (PySem.W.ksFn "__init__" "BadItem.__init__" (defArgs se_BadItem) (defBody se_BadItem) (defScope se_BadItem) .none ke_BadItem ue_BadItem pe_BadItem ane_BadItem (.ref cda_BadItem) cte_BadItem cc_BadItem), sle_BadItem⟩)
    (ce_BadItem : PySem.W.codeIn K (.ref cda_BadItem) "BadItem.__init__" = true)
    (lc_BadItem : K.lookup cda_BadItem = some ⟨ccl_BadItem, cdd_BadItem, .fields cvs_BadItem, ccs_BadItem⟩)
    {file_BadItem : Str}
    {tf_BadItem : Tok}
    (fl_BadItem : cvs_BadItem[2]? = some (.str file_BadItem tf_BadItem))
    (fz_BadItem : ((l.prog.main.file : Str) == file_BadItem) = true)
    (lx_BadItem : K.lookup cc_BadItem = some ⟨cxl_BadItem, cxd_BadItem, .cell (some (.ref C_BadItem)), cxs_BadItem⟩)
    (nf_BadItem_value : PySem.W.findIn K (.ref C_BadItem) "value" = some none)
    {C_TooMany N_TooMany fe_TooMany cda_TooMany cc_TooMany : Addr}
    {nm_TooMany q_TooMany : Str} {bs_TooMany sub_TooMany : List Value} {sn_TooMany : List Str} {ab_TooMany : Bool} {col_TooMany : Option Bool} {dd_TooMany : Option Addr} {k0_TooMany k1_TooMany k2_TooMany k3_TooMany k5_TooMany : Option Value}
    {oe_TooMany ke_TooMany ue_TooMany pe_TooMany cte_TooMany ccl_TooMany cxl_TooMany : Value} {ode_TooMany ane_TooMany cdd_TooMany cxd_TooMany : Option Addr} {sle_TooMany ccs_TooMany cxs_TooMany : Array (Option Value)} {cvs_TooMany : Array Value}
    (aC_TooMany : PySem.W.nsIn K mainGlobals "TooMany" = some (some (.ref C_TooMany)))
    (xC_TooMany : K.lookup C_TooMany = some (excClassObj nm_TooMany q_TooMany C_TooMany N_TooMany bs_TooMany [.ref S_B, .type "ValueError", .type "Exception", .type "BaseException", .type "object"] true sn_TooMany sub_TooMany ab_TooMany col_TooMany dd_TooMany k0_TooMany k1_TooMany k2_TooMany k3_TooMany k5_TooMany "ValueError.__new__"))
    (sa_TooMany : PySem.W.findIn K (.ref C_TooMany) "__setattr__" = some (some (.builtin "object.__setattr__")))
    (ga_TooMany : PySem.W.findIn K (.ref C_TooMany) "__getattribute__" = some (some (.builtin "BaseException.__getattribute__")))
    (gg_TooMany : PySem.W.findIn K (.ref C_TooMany) "__getattr__" = some none)
    (eC_TooMany : PySem.W.subIn K (.ref C_TooMany) (.type "BaseException") = some true)
    (vC_TooMany : PySem.W.subIn K (.ref C_TooMany) (.type "ValueError") = some true)
    (tC_TooMany : PySem.W.typeIn K (.ref C_TooMany) = some (.type "type"))
    (kC_TooMany : PySem.W.keepIn K (.ref C_TooMany) = true)
    (hC_TooMany : PySem.W.hasDictIn K C_TooMany = true)
    (ic_TooMany : PySem.W.isClsIn K C_TooMany = true)
    (mC_TooMany : PySem.W.mroIn K C_TooMany (.ref C_TooMany) = some true)
    (ie_TooMany : PySem.W.findIn K (.ref C_TooMany) "__init__" = some (some (.ref fe_TooMany)))
    (te_TooMany : PySem.W.typeIn K (.ref fe_TooMany) = some (.type "function"))
    (le_TooMany : K.lookup fe_TooMany = some ⟨oe_TooMany, ode_TooMany, .func (PySem.W.ksFn "__init__" "TooMany.__init__" (defArgs se_TooMany) (defBody se_TooMany) (defScope se_TooMany) .none ke_TooMany ue_TooMany pe_TooMany ane_TooMany (.ref cda_TooMany) cte_TooMany cc_TooMany), sle_TooMany⟩)
    (ce_TooMany : PySem.W.codeIn K (.ref cda_TooMany) "TooMany.__init__" = true)
    (lc_TooMany : K.lookup cda_TooMany = some ⟨ccl_TooMany, cdd_TooMany, .fields cvs_TooMany, ccs_TooMany⟩)
    {file_TooMany : Str}
    {tf_TooMany : Tok}
    (fl_TooMany : cvs_TooMany[2]? = some (.str file_TooMany tf_TooMany))
    (fz_TooMany : ((l.prog.main.file : Str) == file_TooMany) = true)
    (lx_TooMany : K.lookup cc_TooMany = some ⟨cxl_TooMany, cxd_TooMany, .cell (some (.ref C_TooMany)), cxs_TooMany⟩)
    (nf_TooMany_what : PySem.W.findIn K (.ref C_TooMany) "what" = some none)
    (nf_TooMany_most : PySem.W.findIn K (.ref C_TooMany) "most" = some none)
    {C_BadHall N_BadHall fe_BadHall cda_BadHall cc_BadHall : Addr}
    {nm_BadHall q_BadHall : Str} {bs_BadHall sub_BadHall : List Value} {sn_BadHall : List Str} {ab_BadHall : Bool} {col_BadHall : Option Bool} {dd_BadHall : Option Addr} {k0_BadHall k1_BadHall k2_BadHall k3_BadHall k5_BadHall : Option Value}
    {oe_BadHall ke_BadHall ue_BadHall pe_BadHall cte_BadHall ccl_BadHall cxl_BadHall : Value} {ode_BadHall ane_BadHall cdd_BadHall cxd_BadHall : Option Addr} {sle_BadHall ccs_BadHall cxs_BadHall : Array (Option Value)} {cvs_BadHall : Array Value}
    (aC_BadHall : PySem.W.nsIn K mainGlobals "BadHall" = some (some (.ref C_BadHall)))
    (xC_BadHall : K.lookup C_BadHall = some (excClassObj nm_BadHall q_BadHall C_BadHall N_BadHall bs_BadHall [.ref S_B, .type "ValueError", .type "Exception", .type "BaseException", .type "object"] true sn_BadHall sub_BadHall ab_BadHall col_BadHall dd_BadHall k0_BadHall k1_BadHall k2_BadHall k3_BadHall k5_BadHall "ValueError.__new__"))
    (sa_BadHall : PySem.W.findIn K (.ref C_BadHall) "__setattr__" = some (some (.builtin "object.__setattr__")))
    (ga_BadHall : PySem.W.findIn K (.ref C_BadHall) "__getattribute__" = some (some (.builtin "BaseException.__getattribute__")))
    (gg_BadHall : PySem.W.findIn K (.ref C_BadHall) "__getattr__" = some none)
    (eC_BadHall : PySem.W.subIn K (.ref C_BadHall) (.type "BaseException") = some true)
    (vC_BadHall : PySem.W.subIn K (.ref C_BadHall) (.type "ValueError") = some true)
    (tC_BadHall : PySem.W.typeIn K (.ref C_BadHall) = some (.type "type"))
    (kC_BadHall : PySem.W.keepIn K (.ref C_BadHall) = true)
    (hC_BadHall : PySem.W.hasDictIn K C_BadHall = true)
    (ic_BadHall : PySem.W.isClsIn K C_BadHall = true)
    (mC_BadHall : PySem.W.mroIn K C_BadHall (.ref C_BadHall) = some true)
    (ie_BadHall : PySem.W.findIn K (.ref C_BadHall) "__init__" = some (some (.ref fe_BadHall)))
    (te_BadHall : PySem.W.typeIn K (.ref fe_BadHall) = some (.type "function"))
    (le_BadHall : K.lookup fe_BadHall = some ⟨oe_BadHall, ode_BadHall, .func (PySem.W.ksFn "__init__" "BadHall.__init__" (defArgs se_BadHall) (defBody se_BadHall) (defScope se_BadHall) .none ke_BadHall ue_BadHall pe_BadHall ane_BadHall (.ref cda_BadHall) cte_BadHall cc_BadHall), sle_BadHall⟩)
    (ce_BadHall : PySem.W.codeIn K (.ref cda_BadHall) "BadHall.__init__" = true)
    (lc_BadHall : K.lookup cda_BadHall = some ⟨ccl_BadHall, cdd_BadHall, .fields cvs_BadHall, ccs_BadHall⟩)
    {file_BadHall : Str}
    {tf_BadHall : Tok}
    (fl_BadHall : cvs_BadHall[2]? = some (.str file_BadHall tf_BadHall))
    (fz_BadHall : ((l.prog.main.file : Str) == file_BadHall) = true)
    (lx_BadHall : K.lookup cc_BadHall = some ⟨cxl_BadHall, cxd_BadHall, .cell (some (.ref C_BadHall)), cxs_BadHall⟩)
    (nf_BadHall_why : PySem.W.findIn K (.ref C_BadHall) "why" = some none)
    {C_BadSizes N_BadSizes fe_BadSizes cda_BadSizes cc_BadSizes : Addr}
    {nm_BadSizes q_BadSizes : Str} {bs_BadSizes sub_BadSizes : List Value} {sn_BadSizes : List Str} {ab_BadSizes : Bool} {col_BadSizes : Option Bool} {dd_BadSizes : Option Addr} {k0_BadSizes k1_BadSizes k2_BadSizes k3_BadSizes k5_BadSizes : Option Value}
    {oe_BadSizes ke_BadSizes ue_BadSizes pe_BadSizes cte_BadSizes ccl_BadSizes cxl_BadSizes : Value} {ode_BadSizes ane_BadSizes cdd_BadSizes cxd_BadSizes : Option Addr} {sle_BadSizes ccs_BadSizes cxs_BadSizes : Array (Option Value)} {cvs_BadSizes : Array Value}
    (aC_BadSizes : PySem.W.nsIn K mainGlobals "BadSizes" = some (some (.ref C_BadSizes)))
    (xC_BadSizes : K.lookup C_BadSizes = some (excClassObj nm_BadSizes q_BadSizes C_BadSizes N_BadSizes bs_BadSizes [.ref S_B, .type "ValueError", .type "Exception", .type "BaseException", .type "object"] true sn_BadSizes sub_BadSizes ab_BadSizes col_BadSizes dd_BadSizes k0_BadSizes k1_BadSizes k2_BadSizes k3_BadSizes k5_BadSizes "ValueError.__new__"))
    (sa_BadSizes : PySem.W.findIn K (.ref C_BadSizes) "__setattr__" = some (some (.builtin "object.__setattr__")))
    (ga_BadSizes : PySem.W.findIn K (.ref C_BadSizes) "__getattribute__" = some (some (.builtin "BaseException.__getattribute__")))
    (gg_BadSizes : PySem.W.findIn K (.ref C_BadSizes) "__getattr__" = some none)
    (eC_BadSizes : PySem.W.subIn K (.ref C_BadSizes) (.type "BaseException") = some true)
    (vC_BadSizes : PySem.W.subIn K (.ref C_BadSizes) (.type "ValueError") = some true)
    (tC_BadSizes : PySem.W.typeIn K (.ref C_BadSizes) = some (.type "type"))
    (kC_BadSizes : PySem.W.keepIn K (.ref C_BadSizes) = true)
    (hC_BadSizes : PySem.W.hasDictIn K C_BadSizes = true)
    (ic_BadSizes : PySem.W.isClsIn K C_BadSizes = true)
    (mC_BadSizes : PySem.W.mroIn K C_BadSizes (.ref C_BadSizes) = some true)
    (ie_BadSizes : PySem.W.findIn K (.ref C_BadSizes) "__init__" = some (some (.ref fe_BadSizes)))
    (te_BadSizes : PySem.W.typeIn K (.ref fe_BadSizes) = some (.type "function"))
    (le_BadSizes : K.lookup fe_BadSizes = some ⟨oe_BadSizes, ode_BadSizes, .func (PySem.W.ksFn "__init__" "BadSizes.__init__" (defArgs se_BadSizes) (defBody se_BadSizes) (defScope se_BadSizes) .none ke_BadSizes ue_BadSizes pe_BadSizes ane_BadSizes (.ref cda_BadSizes) cte_BadSizes cc_BadSizes), sle_BadSizes⟩)
    (ce_BadSizes : PySem.W.codeIn K (.ref cda_BadSizes) "BadSizes.__init__" = true)
    (lc_BadSizes : K.lookup cda_BadSizes = some ⟨ccl_BadSizes, cdd_BadSizes, .fields cvs_BadSizes, ccs_BadSizes⟩)
    {file_BadSizes : Str}
    {tf_BadSizes : Tok}
    (fl_BadSizes : cvs_BadSizes[2]? = some (.str file_BadSizes tf_BadSizes))
    (fz_BadSizes : ((l.prog.main.file : Str) == file_BadSizes) = true)
    (lx_BadSizes : K.lookup cc_BadSizes = some ⟨cxl_BadSizes, cxd_BadSizes, .cell (some (.ref C_BadSizes)), cxs_BadSizes⟩)
    (nf_BadSizes_value : PySem.W.findIn K (.ref C_BadSizes) "value" = some none)
    (tp : (l.prog.main.scope.names.lookup ("super" : Str)).isSome = false) :
    ∃ fd : FuncData, (∀ (s : Shared) (v : Value), BindsTo s fd ⟨[v], []⟩ [("script", v)]) ∧ ∀ base : Heap, K.In base → base.Ns mainGlobals mg → FnOk l.prog w K mg base (L2.CX l.prog w) 28 fa fd ["script"] (spLaw K) := by
  have e : f35 = fa := by
    have e := hfa.symm.trans (PySem.W.mg_of X G a35)
    cases e
    rfl
  subst e
  let T : Txt l.prog K mg := { c := { tabs := [], C_Hall := C_Hall, C_BadItem := C_BadItem, C_TooMany := C_TooMany, C_BadHall := C_BadHall, C_BadSizes := C_BadSizes }, a_is_integer := f1, d_is_integer := _, F_is_integer := fun_mk (st := s_is_integer) l1 c1 k1, m_is_integer := PySem.W.mg_of X G a1, a_is_row := f2, d_is_row := _, F_is_row := fun_mk (st := s_is_row) l2 c2 k2, m_is_row := PySem.W.mg_of X G a2, a_is_arrow := f3, d_is_arrow := _, F_is_arrow := fun_mk (st := s_is_arrow) l3 c3 k3, m_is_arrow := PySem.W.mg_of X G a3, a_first_order := f4, d_first_order := _, F_first_order := fun_mk (st := s_first_order) l4 c4 k4, m_first_order := PySem.W.mg_of X G a4, a_hall_fault := f5, d_hall_fault := _, F_hall_fault := fun_mk (st := s_hall_fault) l5 c5 k5, m_hall_fault := PySem.W.mg_of X G a5, a_need_hall := f6, d_need_hall := _, F_need_hall := fun_mk (st := s_need_hall) l6 c6 k6, m_need_hall := PySem.W.mg_of X G a6, a_is_numbers := f7, d_is_numbers := _, F_is_numbers := fun_mk (st := s_is_numbers) l7 c7 k7, m_is_numbers := PySem.W.mg_of X G a7, a_is_sizes := f8, d_is_sizes := _, F_is_sizes := fun_mk (st := s_is_sizes) l8 c8 k8, m_is_sizes := PySem.W.mg_of X G a8, a_need_sizes := f9, d_need_sizes := _, F_need_sizes := fun_mk (st := s_need_sizes) l9 c9 k9, m_need_sizes := PySem.W.mg_of X G a9, a_formed := f10, d_formed := _, F_formed := fun_mk (st := s_formed) l10 c10 k10, m_formed := PySem.W.mg_of X G a10, a_rows_below := f11, d_rows_below := _, F_rows_below := fun_mk (st := s_rows_below) l11 c11 k11, m_rows_below := PySem.W.mg_of X G a11, a_taken_off := f12, d_taken_off := _, F_taken_off := fun_mk (st := s_taken_off) l12 c12 k12, m_taken_off := PySem.W.mg_of X G a12, a_is_part_by := f13, d_is_part_by := _, F_is_part_by := fun_mk (st := s_is_part_by) l13 c13 k13, m_is_part_by := PySem.W.mg_of X G a13, a_parts_known := f14, d_parts_known := _, F_parts_known := fun_mk (st := s_parts_known) l14 c14 k14, m_parts_known := PySem.W.mg_of X G a14, a_need_few := f15, d_need_few := _, F_need_few := fun_mk (st := s_need_few) l15 c15 k15, m_need_few := PySem.W.mg_of X G a15, a_general_parts := f16, d_general_parts := _, F_general_parts := fun_mk (st := s_general_parts) l16 c16 k16, m_general_parts := PySem.W.mg_of X G a16, a_need_two := f17, d_need_two := _, F_need_two := fun_mk (st := s_need_two) l17 c17 k17, m_need_two := PySem.W.mg_of X G a17, a_balance := f18, d_balance := _, F_balance := fun_mk (st := s_balance) l18 c18 k18, m_balance := PySem.W.mg_of X G a18, a_bar_of := f19, d_bar_of := _, F_bar_of := fun_mk (st := s_bar_of) l19 c19 k19, m_bar_of := PySem.W.mg_of X G a19, a_joined := f20, d_joined := _, F_joined := fun_mk (st := s_joined) l20 c20 k20, m_joined := PySem.W.mg_of X G a20, a_split_of := f21, d_split_of := _, F_split_of := fun_mk (st := s_split_of) l21 c21 k21, m_split_of := PySem.W.mg_of X G a21, a_summed := f22, d_summed := _, F_summed := fun_mk (st := s_summed) l22 c22 k22, m_summed := PySem.W.mg_of X G a22, a_pairs_of := f23, d_pairs_of := _, F_pairs_of := fun_mk (st := s_pairs_of) l23 c23 k23, m_pairs_of := PySem.W.mg_of X G a23, a_need_one := f24, d_need_one := _, F_need_one := fun_mk (st := s_need_one) l24 c24 k24, m_need_one := PySem.W.mg_of X G a24, a_one_sum := f25, d_one_sum := _, F_one_sum := fun_mk (st := s_one_sum) l25 c25 k25, m_one_sum := PySem.W.mg_of X G a25, a_least_ext := f26, d_least_ext := _, F_least_ext := fun_mk (st := s_least_ext) l26 c26 k26, m_least_ext := PySem.W.mg_of X G a26, a_general_ext := f27, d_general_ext := _, F_general_ext := fun_mk (st := s_general_ext) l27 c27 k27, m_general_ext := PySem.W.mg_of X G a27, a_general_hom := f28, d_general_hom := _, F_general_hom := fun_mk (st := s_general_hom) l28 c28 k28, m_general_hom := PySem.W.mg_of X G a28, a__law_pen := f29, d__law_pen := _, F__law_pen := fun_mk (st := s__law_pen) l29 c29 k29, m__law_pen := PySem.W.mg_of X G a29, a__law_draw := f30, d__law_draw := _, F__law_draw := fun_mk (st := s__law_draw) l30 c30 k30, m__law_draw := PySem.W.mg_of X G a30, a__law_s_below := f31, d__law_s_below := _, F__law_s_below := fun_mk (st := s__law_s_below) l31 c31 k31, m__law_s_below := PySem.W.mg_of X G a31, a__law_one_arrow := f32, d__law_one_arrow := _, F__law_one_arrow := fun_mk (st := s__law_one_arrow) l32 c32 k32, m__law_one_arrow := PySem.W.mg_of X G a32, a__law_lines := f33, d__law_lines := _, F__law_lines := fun_mk (st := s__law_lines) l33 c33 k33, m__law_lines := PySem.W.mg_of X G a33, a__law_apart := f34, d__law_apart := _, F__law_apart := fun_mk (st := s__law_apart) l34 c34 k34, m__law_apart := PySem.W.mg_of X G a34, a_law := f35, d_law := _, F_law := fun_mk (st := s_law) l35 c35 k35, m_law := PySem.W.mg_of X G a35, ai_Hall := fi_Hall, di_Hall := _, Fi_Hall := fun_mk (st := si_Hall) li_Hall ci_Hall kf_Hall, M_Hall := ⟨mk_Hall, ii_Hall, fn_Hall, kC_Hall⟩, mC_Hall := PySem.W.mg_of X G aC_Hall, cl_Hall := ⟨pg_Hall, hd_Hall, po_Hall, sa_Hall⟩, cf_Hall := clsF_mk ⟨pg_Hall, hd_Hall, po_Hall, sa_Hall⟩ ga_Hall on ot ob_Hall ic_Hall ty_Hall b0_Hall b1_Hall b2_Hall b3_Hall b4_Hall b5_Hall b6_Hall, nf_Hall_many := nf_Hall_many, nf_Hall_arrows := nf_Hall_arrows, aq_Hall := fq_Hall, dq_Hall := _, Fq_Hall := fun_mk (st := sq_Hall) lq_Hall cq_Hall kfq_Hall, fq_Hall := iq_Hall, nq_Hall := fnq_Hall, nn_Hall := nnq_Hall, ob_Hall := ob_Hall, ic_Hall := ic_Hall, ty_Hall := ty_Hall, sb_Hall_Hall := sbq_Hall_Hall, mC_BadItem := PySem.W.mg_of X G aC_BadItem, XF_BadItem := ⟨ga_BadItem, gg_BadItem, eC_BadItem, hC_BadItem⟩, X_BadItem := { fI := fe_BadItem, cda := cda_BadItem, cc := cc_BadItem, oc := _, od := _, osl := _, qual := "BadItem.__init__", params := defArgs se_BadItem, body := defBody se_BadItem, scope := defScope se_BadItem, dV := .none, kV := _, doc := _, pm := _, an := _, ct := _, ccl := _, cdd := _, cvs := _, ccs := _, file := _, tf := _, cl := _, cld := _, csl := _, ox := oexC_mk (dd' := 0) xC_BadItem sa_BadItem eC_BadItem tC_BadItem kC_BadItem, iC := ie_BadItem, tI := te_BadItem, lk := le_BadItem, cd := ce_BadItem, lc := lc_BadItem, fl := fl_BadItem, fe := fz_BadItem, lx := lx_BadItem, su := mC_BadItem, ms := PySem.W.mg_none_of X G z_super, op := opq, ih := super_init xC_BadItem xS iS, ve := vC_BadItem, nf := (fun f hf => by simp only [List.mem_cons, List.mem_nil_iff, or_false] at hf; rcases hf with rfl <;> assumption), bd := bd_BadItem, kd := rfl, co := rfl, gn := rfl, ce := (by decide +kernel), ks := rfl, kc := rfl, kl := (by decide +kernel), hp := ⟨_, rfl, rfl⟩, tp := tp, bi := (fun s us hl => match us, hl with | [_, _], _ => .of_eq rfl), nm := (fun us hl => match us, hl with | [_, _], _ => ⟨rfl, rfl, trivial⟩), le := (by decide) }, mC_TooMany := PySem.W.mg_of X G aC_TooMany, XF_TooMany := ⟨ga_TooMany, gg_TooMany, eC_TooMany, hC_TooMany⟩, X_TooMany := { fI := fe_TooMany, cda := cda_TooMany, cc := cc_TooMany, oc := _, od := _, osl := _, qual := "TooMany.__init__", params := defArgs se_TooMany, body := defBody se_TooMany, scope := defScope se_TooMany, dV := .none, kV := _, doc := _, pm := _, an := _, ct := _, ccl := _, cdd := _, cvs := _, ccs := _, file := _, tf := _, cl := _, cld := _, csl := _, ox := oexC_mk (dd' := 0) xC_TooMany sa_TooMany eC_TooMany tC_TooMany kC_TooMany, iC := ie_TooMany, tI := te_TooMany, lk := le_TooMany, cd := ce_TooMany, lc := lc_TooMany, fl := fl_TooMany, fe := fz_TooMany, lx := lx_TooMany, su := mC_TooMany, ms := PySem.W.mg_none_of X G z_super, op := opq, ih := super_init xC_TooMany xS iS, ve := vC_TooMany, nf := (fun f hf => by simp only [List.mem_cons, List.mem_nil_iff, or_false] at hf; rcases hf with rfl | rfl <;> assumption), bd := bd_TooMany, kd := rfl, co := rfl, gn := rfl, ce := (by decide +kernel), ks := rfl, kc := rfl, kl := (by decide +kernel), hp := ⟨_, rfl, rfl⟩, tp := tp, bi := (fun s us hl => match us, hl with | [_, _, _], _ => .of_eq rfl), nm := (fun us hl => match us, hl with | [_, _, _], _ => ⟨rfl, rfl, rfl, trivial⟩), le := (by decide) }, mC_BadHall := PySem.W.mg_of X G aC_BadHall, XF_BadHall := ⟨ga_BadHall, gg_BadHall, eC_BadHall, hC_BadHall⟩, X_BadHall := { fI := fe_BadHall, cda := cda_BadHall, cc := cc_BadHall, oc := _, od := _, osl := _, qual := "BadHall.__init__", params := defArgs se_BadHall, body := defBody se_BadHall, scope := defScope se_BadHall, dV := .none, kV := _, doc := _, pm := _, an := _, ct := _, ccl := _, cdd := _, cvs := _, ccs := _, file := _, tf := _, cl := _, cld := _, csl := _, ox := oexC_mk (dd' := 0) xC_BadHall sa_BadHall eC_BadHall tC_BadHall kC_BadHall, iC := ie_BadHall, tI := te_BadHall, lk := le_BadHall, cd := ce_BadHall, lc := lc_BadHall, fl := fl_BadHall, fe := fz_BadHall, lx := lx_BadHall, su := mC_BadHall, ms := PySem.W.mg_none_of X G z_super, op := opq, ih := super_init xC_BadHall xS iS, ve := vC_BadHall, nf := (fun f hf => by simp only [List.mem_cons, List.mem_nil_iff, or_false] at hf; rcases hf with rfl <;> assumption), bd := bd_BadHall, kd := rfl, co := rfl, gn := rfl, ce := (by decide +kernel), ks := rfl, kc := rfl, kl := (by decide +kernel), hp := ⟨_, rfl, rfl⟩, tp := tp, bi := (fun s us hl => match us, hl with | [_, _], _ => .of_eq rfl), nm := (fun us hl => match us, hl with | [_, _], _ => ⟨rfl, rfl, trivial⟩), le := (by decide) }, mC_BadSizes := PySem.W.mg_of X G aC_BadSizes, XF_BadSizes := ⟨ga_BadSizes, gg_BadSizes, eC_BadSizes, hC_BadSizes⟩, X_BadSizes := { fI := fe_BadSizes, cda := cda_BadSizes, cc := cc_BadSizes, oc := _, od := _, osl := _, qual := "BadSizes.__init__", params := defArgs se_BadSizes, body := defBody se_BadSizes, scope := defScope se_BadSizes, dV := .none, kV := _, doc := _, pm := _, an := _, ct := _, ccl := _, cdd := _, cvs := _, ccs := _, file := _, tf := _, cl := _, cld := _, csl := _, ox := oexC_mk (dd' := 0) xC_BadSizes sa_BadSizes eC_BadSizes tC_BadSizes kC_BadSizes, iC := ie_BadSizes, tI := te_BadSizes, lk := le_BadSizes, cd := ce_BadSizes, lc := lc_BadSizes, fl := fl_BadSizes, fe := fz_BadSizes, lx := lx_BadSizes, su := mC_BadSizes, ms := PySem.W.mg_none_of X G z_super, op := opq, ih := super_init xC_BadSizes xS iS, ve := vC_BadSizes, nf := (fun f hf => by simp only [List.mem_cons, List.mem_nil_iff, or_false] at hf; rcases hf with rfl <;> assumption), bd := bd_BadSizes, kd := rfl, co := rfl, gn := rfl, ce := (by decide +kernel), ks := rfl, kc := rfl, kl := (by decide +kernel), hp := ⟨_, rfl, rfl⟩, tp := tp, bi := (fun s us hl => match us, hl with | [_, _], _ => .of_eq rfl), nm := (fun us hl => match us, hl with | [_, _], _ => ⟨rfl, rfl, trivial⟩), le := (by decide) }, n_all := PySem.W.mg_none_of X G z_all, n_any := PySem.W.mg_none_of X G z_any, n_bool := PySem.W.mg_none_of X G z_bool, n_dict := PySem.W.mg_none_of X G z_dict, n_int := PySem.W.mg_none_of X G z_int, n_isinstance := PySem.W.mg_none_of X G z_isinstance, n_len := PySem.W.mg_none_of X G z_len, n_list := PySem.W.mg_none_of X G z_list, n_max := PySem.W.mg_none_of X G z_max, n_min := PySem.W.mg_none_of X G z_min, n_range := PySem.W.mg_none_of X G z_range, n_repr := PySem.W.mg_none_of X G z_repr, n_sorted := PySem.W.mg_none_of X G z_sorted, n_sum := PySem.W.mg_none_of X G z_sum, n_super := PySem.W.mg_none_of X G z_super, n_tuple := PySem.W.mg_none_of X G z_tuple, n_zip := PySem.W.mg_none_of X G z_zip, t_MOST_ARROWS := t_MOST_ARROWS, c_MOST_ARROWS := PySem.W.mg_of X G y_MOST_ARROWS, t_MOST_POINTS := t_MOST_POINTS, c_MOST_POINTS := PySem.W.mg_of X G y_MOST_POINTS, t_MOST_ROWS := t_MOST_ROWS, c_MOST_ROWS := PySem.W.mg_of X G y_MOST_ROWS }
  exact ⟨T.d_law, fun s v => .of_eq rfl, fun base _ _ => ok_law T rfl (math T.c ⟨trivial⟩)⟩
end Lw_k27

set_option Elab.async false
set_option linter.all false
set_option maxRecDepth 100000
set_option maxHeartbeats 400000
/-! halls: the ground and the hall's own defs -/
namespace Lw_k27
open PySem L2 DL
variable {c : CA} {k : Kt} {P : D → Kt → Prop}
abbrev I (xs : List Int) : D := .tup (xs.map .int)
abbrev L (xs : List Int) : D := .lst (xs.map .int)
theorem t_is_integer {d : D} (hd : (tyD d).isSome = true) (h : P (.bl (intD d)) k) : wf_is_integer c [d] k P := by
  rw [wf_is_integer, s_of, w_is_integer]
  try simp only [Lw_k27.sxA, Lw_k27.sxB, exists_eq_left, exists_eq_left', exists_eq', exists_eq, exists_and_left, eq_self, exists_true_left, exists_const, exists_eq_right, exists_false, if_false, if_true, Int.reduceToNat, Nat.reduceAdd, Nat.reduceSub, Nat.reduceLeDiff, Nat.reduceLT, reduceIte]
  cases d <;> first | (simp [tyD] at hd; done) | (simp only [Lw_k27.sxA, Lw_k27.sxB, exists_eq_left, exists_eq_left', exists_eq', exists_eq, exists_and_left, eq_self, exists_true_left, exists_const, exists_eq_right, exists_false, if_false, if_true, Int.reduceToNat, Nat.reduceAdd, Nat.reduceSub, Nat.reduceLeDiff, Nat.reduceLT, reduceIte]; exact h)
theorem t_is_row {d : D} (hd : (tyD d).isSome = true) (h : P (.bl (rowD d)) k) : wf_is_row c [d] k P := by
  rw [wf_is_row, s_of, w_is_row]
  try simp only [Lw_k27.sxA, Lw_k27.sxB, exists_eq_left, exists_eq_left', exists_eq', exists_eq, exists_and_left, eq_self, exists_true_left, exists_const, exists_eq_right, exists_false, if_false, if_true, Int.reduceToNat, Nat.reduceAdd, Nat.reduceSub, Nat.reduceLeDiff, Nat.reduceLT, reduceIte]
  cases d <;> first | (simp [tyD] at hd; done) | (simp only [Lw_k27.sxA, Lw_k27.sxB, exists_eq_left, exists_eq_left', exists_eq', exists_eq, exists_and_left, eq_self, exists_true_left, exists_const, exists_eq_right, exists_false, if_false, if_true, Int.reduceToNat, Nat.reduceAdd, Nat.reduceSub, Nat.reduceLeDiff, Nat.reduceLT, reduceIte]; exact h)
theorem t_is_arrow {i j n : Int} (h : P (.bl (decide (0 ≤ i ∧ i < n ∧ 0 ≤ j ∧ j < n ∧ i ≠ j))) k) : wf_is_arrow c [pD (i, j), .int n] k P := by
  rw [wf_is_arrow, s_of, w_is_arrow]
  try simp only [Lw_k27.sxA, Lw_k27.sxB, exists_eq_left, exists_eq_left', exists_eq', exists_eq, exists_and_left, eq_self, exists_true_left, exists_const, exists_eq_right, exists_false, if_false, if_true, Int.reduceToNat, Nat.reduceAdd, Nat.reduceSub, Nat.reduceLeDiff, Nat.reduceLT, reduceIte]
  rw [if_neg (by decide)]
  try simp only [Lw_k27.sxA, Lw_k27.sxB, exists_eq_left, exists_eq_left', exists_eq', exists_eq, exists_and_left, eq_self, exists_true_left, exists_const, exists_eq_right, exists_false, if_false, if_true, Int.reduceToNat, Nat.reduceAdd, Nat.reduceSub, Nat.reduceLeDiff, Nat.reduceLT, reduceIte, l_c, l_n]
  refine t_is_integer rfl ?_
  try simp only [Lw_k27.sxA, Lw_k27.sxB, exists_eq_left, exists_eq_left', exists_eq', exists_eq, exists_and_left, eq_self, exists_true_left, exists_const, exists_eq_right, exists_false, if_false, if_true, Int.reduceToNat, Nat.reduceAdd, Nat.reduceSub, Nat.reduceLeDiff, Nat.reduceLT, reduceIte, intD]
  have fin : ∀ (b b' : Bool) (k' : Kt), k' = k → (b = decide (0 ≤ i ∧ i < n)) → (b' = decide (0 ≤ j ∧ j < n)) → if ([b, b'].all id) = true then P (D.bl !decide (i = j)) k' else P (D.bl false) k' := by
    intro b b' k' ek e1 e2
    subst ek
    simp only [List.all_cons, List.all_nil, id, Bool.and_true]
    by_cases c1 : 0 ≤ i ∧ i < n
    · by_cases c2 : 0 ≤ j ∧ j < n
      · rw [if_pos (by rw [e1, e2, decide_eq_true c1, decide_eq_true c2]; rfl)]
        have : (!decide (i = j)) = decide (0 ≤ i ∧ i < n ∧ 0 ≤ j ∧ j < n ∧ i ≠ j) := by simp [c1, c2]
        rw [this]
        exact h
      · rw [if_neg (by rw [e2, decide_eq_false c2]; simp)]
        have : false = decide (0 ≤ i ∧ i < n ∧ 0 ≤ j ∧ j < n ∧ i ≠ j) := by symm; rw [decide_eq_false_iff_not]; omega
        rw [this]
        exact h
    · rw [if_neg (by rw [e1, decide_eq_false c1]; simp)]
      have : false = decide (0 ≤ i ∧ i < n ∧ 0 ≤ j ∧ j < n ∧ i ≠ j) := by symm; rw [decide_eq_false_iff_not]; omega
      rw [this]
      exact h
  by_cases a0 : 0 ≤ i
  · rw [if_pos (decide_eq_true a0)]
    refine t_is_integer rfl ?_
    try simp only [Lw_k27.sxA, Lw_k27.sxB, exists_eq_left, exists_eq_left', exists_eq', exists_eq, exists_and_left, eq_self, exists_true_left, exists_const, exists_eq_right, exists_false, if_false, if_true, Int.reduceToNat, Nat.reduceAdd, Nat.reduceSub, Nat.reduceLeDiff, Nat.reduceLT, reduceIte, intD]
    by_cases b0 : 0 ≤ j
    · rw [if_pos (decide_eq_true b0)]
      exact fin _ _ _ rfl (by simp [a0]) (by simp [b0])
    · rw [if_neg (by simp [b0])]
      exact fin _ _ _ rfl (by simp [a0]) (by simp [b0])
  · rw [if_neg (by simp [a0])]
    refine t_is_integer rfl ?_
    try simp only [Lw_k27.sxA, Lw_k27.sxB, exists_eq_left, exists_eq_left', exists_eq', exists_eq, exists_and_left, eq_self, exists_true_left, exists_const, exists_eq_right, exists_false, if_false, if_true, Int.reduceToNat, Nat.reduceAdd, Nat.reduceSub, Nat.reduceLeDiff, Nat.reduceLT, reduceIte, intD]
    by_cases b0 : 0 ≤ j
    · rw [if_pos (decide_eq_true b0)]
      exact fin _ _ _ rfl (by simp [a0]) (by simp [b0])
    · rw [if_neg (by simp [b0])]
      exact fin _ _ _ rfl (by simp [a0]) (by simp [b0])
def foFree (n : Nat) (ar : List (Int × Int)) (found : List Int) : List Int := (upto n).filterMap fun i => if i ∉ found ∧ ¬ (∃ p ∈ ar, p.2 = i ∧ p.1 ∉ found) then some i else none
def foStep (n : Nat) (ar : List (Int × Int)) (found : List Int) : List Int := match foFree n ar found with
    | [] => found
    | x :: _ => found ++ [x]
def foN (n : Nat) (ar : List (Int × Int)) : Nat → List Int
  | 0 => []
  | m + 1 => foStep n ar (foN n ar m)
theorem foN_len (n : Nat) (ar : List (Int × Int)) : ∀ m, (foN n ar m).length ≤ m
  | 0 => Nat.le_refl _
  | m + 1 => by
    have := foN_len n ar m
    rw [foN, foStep]
    split
    · omega
    · rw [List.length_append]; simp; omega
theorem t_first_order {n : Nat} {ar : List (Int × Int)} {A : D} (hA : itemsD A = some (ar.map pD)) (hn : n ≤ 1000) (ha : ar.length ≤ 1000) (h : P (I (foN n ar n)) k) : wf_first_order c [.int n, A] k P := by
  rw [wf_first_order, s_of, w_first_order]
  try simp only [Lw_k27.sxA, Lw_k27.sxB, exists_eq_left, exists_eq_left', exists_eq', exists_eq, exists_and_left, eq_self, exists_true_left, exists_const, exists_eq_right, exists_false, if_false, if_true, Int.reduceToNat, Nat.reduceAdd, Nat.reduceSub, Nat.reduceLeDiff, Nat.reduceLT, reduceIte]
  refine ⟨by omega, by omega, ?_⟩
  refine for_map D.int (fun xs ρ => xs.length ≤ n ∧ ∃ s3 s4, ρ = [.val (.int n), .val A, .own (.l ((foN n ar (n - xs.length)).map .int)), s3, s4, .un, .un, .un]) (fun x rest ρ N hI hN => ?_) (fun ρ hI => ?_) (upto n) _ ⟨by rw [upto_len]; exact Nat.le_refl _, .un, .un, by rw [upto_len, Nat.sub_self]; rfl⟩
  · obtain ⟨hl, s3, s4, rfl⟩ := hI
    rw [List.length_cons] at hl
    have hF' : foN n ar (n - rest.length) = foStep n ar (foN n ar (n - (rest.length + 1))) := by
      rw [show n - rest.length = (n - (rest.length + 1)) + 1 by omega]; rfl
    rw [hF'] at hN
    have hFl := foN_len n ar (n - (rest.length + 1))
    try simp only [Lw_k27.sxA, Lw_k27.sxB, exists_eq_left, exists_eq_left', exists_eq', exists_eq, exists_and_left, eq_self, exists_true_left, exists_const, exists_eq_right, exists_false, if_false, if_true, Int.reduceToNat, Nat.reduceAdd, Nat.reduceSub, Nat.reduceLeDiff, Nat.reduceLT, reduceIte]
    generalize foN n ar (n - (rest.length + 1)) = F at hN hFl ⊢
    refine ⟨by omega, by omega, ?_⟩
    refine lc_filt D.int D.int (fun i => if i ∉ F ∧ ¬ (∃ p ∈ ar, p.2 = i ∧ p.1 ∉ F) then some i else none) (sz (by rw [upto_len]; omega)) (fun i hi R hR => ?_) ?_
    · try simp only [Lw_k27.sxA, Lw_k27.sxB, exists_eq_left, exists_eq_left', exists_eq', exists_eq, exists_and_left, eq_self, exists_true_left, exists_const, exists_eq_right, exists_false, if_false, if_true, Int.reduceToNat, Nat.reduceAdd, Nat.reduceSub, Nat.reduceLeDiff, Nat.reduceLT, reduceIte, lcStep, hA]
      by_cases h1 : i ∈ F
      · rw [if_neg (by simp [h1])]
        rw [if_neg (by simp [h1])] at hR
        exact hR
      · rw [if_pos (by simp [h1])]
        refine lc_map pD D.bl (fun p => decide (p.2 = i ∧ p.1 ∉ F)) (sz (by omega)) (fun p hp R' hR' => ?_) ?_
        · try simp only [Lw_k27.sxA, Lw_k27.sxB, exists_eq_left, exists_eq_left', exists_eq', exists_eq, exists_and_left, eq_self, exists_true_left, exists_const, exists_eq_right, exists_false, if_false, if_true, Int.reduceToNat, Nat.reduceAdd, Nat.reduceSub, Nat.reduceLeDiff, Nat.reduceLT, reduceIte, lcStep]
          by_cases h2 : p.2 = i
          · rw [if_pos (decide_eq_true h2)]
            simpa [h2] using hR'
          · rw [if_neg (by simp [h2])]
            simpa [h2] using hR'
        · try simp only [Lw_k27.sxA, Lw_k27.sxB, exists_eq_left, exists_eq_left', exists_eq', exists_eq, exists_and_left, eq_self, exists_true_left, exists_const, exists_eq_right, exists_false, if_false, if_true, Int.reduceToNat, Nat.reduceAdd, Nat.reduceSub, Nat.reduceLeDiff, Nat.reduceLT, reduceIte]
          have e : (List.map (fun p => decide (p.2 = i ∧ p.1 ∉ F)) ar).any id = decide (∃ p ∈ ar, p.2 = i ∧ p.1 ∉ F) := by
            rw [List.any_map, Bool.eq_iff_iff, List.any_eq_true, decide_eq_true_eq]
            exact ⟨fun ⟨p, hp, q⟩ => ⟨p, hp, by simpa using q⟩, fun ⟨p, hp, q⟩ => ⟨p, hp, by simpa using q⟩⟩
          rw [e]
          by_cases h2 : ∃ p ∈ ar, p.2 = i ∧ p.1 ∉ F
          · rw [if_neg (by simp only [h2, decide_true]; decide)]
            rw [if_neg (fun z => z.2 h2)] at hR
            exact hR
          · rw [if_pos (by simp only [h2, decide_false]; decide)]
            rw [if_pos ⟨h1, h2⟩] at hR
            exact hR
    · rw [show (List.filterMap (fun i => if i ∉ F ∧ ¬ (∃ p ∈ ar, p.2 = i ∧ p.1 ∉ F) then some i else none) (upto n)) = foFree n ar F from rfl]
      try simp only [Lw_k27.sxA, Lw_k27.sxB, exists_eq_left, exists_eq_left', exists_eq', exists_eq, exists_and_left, eq_self, exists_true_left, exists_const, exists_eq_right, exists_false, if_false, if_true, Int.reduceToNat, Nat.reduceAdd, Nat.reduceSub, Nat.reduceLeDiff, Nat.reduceLT, reduceIte]
      cases hX : foFree n ar F with
      | nil =>
        rw [if_neg (by simp)]
        have e : foStep n ar F = F := by rw [foStep, hX]
        rw [e] at hN
        exact hN _ ⟨by omega, _, _, rfl⟩
      | cons y r =>
        rw [if_pos (by simp)]
        try simp only [Lw_k27.sxA, Lw_k27.sxB, exists_eq_left, exists_eq_left', exists_eq', exists_eq, exists_and_left, eq_self, exists_true_left, exists_const, exists_eq_right, exists_false, if_false, if_true, Int.reduceToNat, Nat.reduceAdd, Nat.reduceSub, Nat.reduceLeDiff, Nat.reduceLT, reduceIte, List.length_map]
        have e : foStep n ar F = F ++ [y] := by rw [foStep, hX]
        rw [e, List.map_append] at hN
        exact ⟨by omega, hN _ ⟨by omega, _, _, rfl⟩⟩
  · obtain ⟨hl, s3, s4, rfl⟩ := hI
    try simp only [Lw_k27.sxA, Lw_k27.sxB, exists_eq_left, exists_eq_left', exists_eq', exists_eq, exists_and_left, eq_self, exists_true_left, exists_const, exists_eq_right, exists_false, if_false, if_true, Int.reduceToNat, Nat.reduceAdd, Nat.reduceSub, Nat.reduceLeDiff, Nat.reduceLT, reduceIte]
    exact h
/-- n points, arrows among them that do not lead round -/
structure HallOk (n : Nat) (ar : List (Int × Int)) : Prop where
  n1 : 1 ≤ n
  n7 : n ≤ 7
  len : ar.length ≤ 12
  inn : ∀ p ∈ ar, 0 ≤ p.1 ∧ p.1 < n ∧ 0 ≤ p.2 ∧ p.2 < n
  ac : ∃ r : Int → Nat, ∀ p ∈ ar, r p.1 < r p.2
theorem HallOk.ne {n : Nat} {ar : List (Int × Int)} (h : HallOk n ar) : ∀ p ∈ ar, p.1 ≠ p.2 := fun p hp e => by
  obtain ⟨r, hr⟩ := h.ac
  have := hr p hp
  rw [e] at this
  omega
theorem min_rank (r : Int → Nat) (Q : Int → Prop) : ∀ (m : Nat) (x : Int), Q x → r x ≤ m → ∃ y, Q y ∧ ∀ z, Q z → r y ≤ r z
  | 0, x, hx, hm => ⟨x, hx, fun z _ => by omega⟩
  | m + 1, x, hx, hm => by
    by_cases h : ∃ z, Q z ∧ r z < r x
    · obtain ⟨z, hz, hl⟩ := h
      exact min_rank r Q m z hz (by omega)
    · exact ⟨x, hx, fun z hz => by
        by_cases h' : r x ≤ r z
        · exact h'
        · exact (h ⟨z, hz, by omega⟩).elim⟩
theorem foFree_mem {n : Nat} {ar : List (Int × Int)} {F : List Int} {i : Int} : i ∈ foFree n ar F ↔ (0 ≤ i ∧ i < n) ∧ i ∉ F ∧ ∀ p ∈ ar, p.2 = i → p.1 ∈ F := by
  unfold foFree
  rw [List.mem_filterMap]
  constructor
  · rintro ⟨x, hx, e⟩
    split at e
    · rename_i h
      cases e
      exact ⟨upto_mem.mp hx, h.1, fun p hp e => Classical.byContradiction fun z => h.2 ⟨p, hp, e, z⟩⟩
    · cases e
  · rintro ⟨h1, h2, h3⟩
    exact ⟨i, upto_mem.mpr h1, if_pos ⟨h2, fun ⟨p, hp, e, z⟩ => z (h3 p hp e)⟩⟩
theorem exists_not_mem {n : Nat} {F : List Int} (h : F.length < n) : ∃ x : Int, (0 ≤ x ∧ x < n) ∧ x ∉ F := by
  refine Classical.byContradiction fun z => ?_
  have := (upto_nodup n).length_le_of_subset (l₂ := F) fun x hx => Classical.byContradiction fun y => z ⟨x, upto_mem.mp hx, y⟩
  rw [upto_len] at this
  omega
theorem foN_facts (n : Nat) (ar : List (Int × Int)) : ∀ m, (foN n ar m).Nodup ∧ ∀ x ∈ foN n ar m, 0 ≤ x ∧ x < n
  | 0 => ⟨List.nodup_nil, fun _ h => by cases h⟩
  | m + 1 => by
    obtain ⟨h1, h2⟩ := foN_facts n ar m
    rw [foN, foStep]
    cases hX : foFree n ar (foN n ar m) with
    | nil => exact ⟨h1, h2⟩
    | cons y r =>
      have hy := foFree_mem.mp (show y ∈ foFree n ar (foN n ar m) by rw [hX]; exact List.mem_cons_self)
      refine ⟨List.nodup_append.mpr ⟨h1, List.nodup_cons.mpr ⟨by simp, List.nodup_nil⟩, fun a ha b hb => ?_⟩, fun x hx => ?_⟩
      · rw [List.mem_singleton.mp hb]
        intro e
        rw [e] at ha
        exact hy.2.1 ha
      · rcases List.mem_append.mp hx with z | z
        · exact h2 x z
        · rw [List.mem_singleton.mp z]; exact hy.1
theorem foN_full {n : Nat} {ar : List (Int × Int)} (h : HallOk n ar) : ∀ m, m ≤ n → (foN n ar m).length = m
  | 0, _ => rfl
  | m + 1, hm => by
    have ih := foN_full h m (by omega)
    obtain ⟨h1, h2⟩ := foN_facts n ar m
    obtain ⟨r, hr⟩ := h.ac
    obtain ⟨x, hx, hx'⟩ := exists_not_mem (n := n) (F := foN n ar m) (by omega)
    obtain ⟨y, hy, hm'⟩ := min_rank r (fun x => (0 ≤ x ∧ x < n) ∧ x ∉ foN n ar m) (r x) x ⟨hx, hx'⟩ (Nat.le_refl _)
    have hf : y ∈ foFree n ar (foN n ar m) := foFree_mem.mpr ⟨hy.1, hy.2, fun p hp e => Classical.byContradiction fun z => by
      have a := hr p hp
      have b := h.inn p hp
      have c := hm' p.1 ⟨⟨b.1, b.2.1⟩, z⟩
      rw [e] at a
      omega⟩
    rw [foN, foStep]
    cases hX : foFree n ar (foN n ar m) with
    | nil => rw [hX] at hf; cases hf
    | cons y r => rw [List.length_append, ih]; rfl
theorem rowD_items {A : D} {xs : List D} (h : itemsD A = some xs) (hr : rowD A = true) : A = .lst xs ∨ A = .tup xs := by
  cases A <;> first | (simp [rowD] at hr; done) | (simp [itemsD] at h; subst h; simp)
theorem t_hall_fault {n : Nat} {ar : List (Int × Int)} {A : D} (hA : itemsD A = some (ar.map pD)) (hr : rowD A = true) (H : HallOk n ar) (h : P .non k) : wf_hall_fault c [.int n, A] k P := by
  have hn := H.n7
  have hn1 := H.n1
  have hl := H.len
  have ty : (tyD A).isSome = true := by rcases rowD_items hA hr with rfl | rfl <;> rfl
  have ln : lenD A = some ar.length := by rcases rowD_items hA hr with rfl | rfl <;> simp [lenD]
  rw [wf_hall_fault, s_of, w_hall_fault]
  try simp only [Lw_k27.sxA, Lw_k27.sxB, exists_eq_left, exists_eq_left', exists_eq', exists_eq, exists_and_left, eq_self, exists_true_left, exists_const, exists_eq_right, exists_false, if_false, if_true, Int.reduceToNat, Nat.reduceAdd, Nat.reduceSub, Nat.reduceLeDiff, Nat.reduceLT, reduceIte]
  refine t_is_integer rfl ?_
  try simp only [Lw_k27.sxA, Lw_k27.sxB, exists_eq_left, exists_eq_left', exists_eq', exists_eq, exists_and_left, eq_self, exists_true_left, exists_const, exists_eq_right, exists_false, if_false, if_true, Int.reduceToNat, Nat.reduceAdd, Nat.reduceSub, Nat.reduceLeDiff, Nat.reduceLT, reduceIte, intD]
  rw [if_pos (decide_eq_true (by omega)), if_neg (by simp; omega)]
  refine t_is_row ty ?_
  try simp only [Lw_k27.sxA, Lw_k27.sxB, exists_eq_left, exists_eq_left', exists_eq', exists_eq, exists_and_left, eq_self, exists_true_left, exists_const, exists_eq_right, exists_false, if_false, if_true, Int.reduceToNat, Nat.reduceAdd, Nat.reduceSub, Nat.reduceLeDiff, Nat.reduceLT, reduceIte, hr]
  refine ⟨_, ln, ?_⟩
  rw [if_neg (by simp; omega)]
  try simp only [Lw_k27.sxA, Lw_k27.sxB, exists_eq_left, exists_eq_left', exists_eq', exists_eq, exists_and_left, eq_self, exists_true_left, exists_const, exists_eq_right, exists_false, if_false, if_true, Int.reduceToNat, Nat.reduceAdd, Nat.reduceSub, Nat.reduceLeDiff, Nat.reduceLT, reduceIte, hA]
  refine lc_map pD D.bl (fun _ => true) (sz (by omega)) (fun p hp R hR => ?_) ?_
  · try simp only [Lw_k27.sxA, Lw_k27.sxB, exists_eq_left, exists_eq_left', exists_eq', exists_eq, exists_and_left, eq_self, exists_true_left, exists_const, exists_eq_right, exists_false, if_false, if_true, Int.reduceToNat, Nat.reduceAdd, Nat.reduceSub, Nat.reduceLeDiff, Nat.reduceLT, reduceIte, lcStep]
    refine t_is_arrow ?_
    have := H.inn p hp
    rw [decide_eq_true ⟨this.1, this.2.1, this.2.2.1, this.2.2.2, H.ne p hp⟩]
    exact hR
  · try simp only [Lw_k27.sxA, Lw_k27.sxB, exists_eq_left, exists_eq_left', exists_eq', exists_eq, exists_and_left, eq_self, exists_true_left, exists_const, exists_eq_right, exists_false, if_false, if_true, Int.reduceToNat, Nat.reduceAdd, Nat.reduceSub, Nat.reduceLeDiff, Nat.reduceLT, reduceIte]
    rw [if_neg (by simp)]
    refine t_first_order hA (by omega) (by omega) ?_
    try simp only [Lw_k27.sxA, Lw_k27.sxB, exists_eq_left, exists_eq_left', exists_eq', exists_eq, exists_and_left, eq_self, exists_true_left, exists_const, exists_eq_right, exists_false, if_false, if_true, Int.reduceToNat, Nat.reduceAdd, Nat.reduceSub, Nat.reduceLeDiff, Nat.reduceLT, reduceIte, List.length_map]
    rw [foN_full H n (Nat.le_refl _)]
    rw [if_pos (by simp)]
    exact h
theorem t_Hall {n : Nat} {ar so : List (Int × Int)} (H : HallOk n ar) (e : sortP ar = so) (h : P (D.ins c.C_Hall ["many", "arrows"] [D.int n, D.tup (List.map pD so)]) k) : wfi_Hall c [.int n, .lst (ar.map pD)] k P := by
  rw [wfi_Hall, wfI_eq, wi_Hall]
  try simp only [Lw_k27.sxA, Lw_k27.sxB, exists_eq_left, exists_eq_left', exists_eq', exists_eq, exists_and_left, eq_self, exists_true_left, exists_const, exists_eq_right, exists_false, if_false, if_true, Int.reduceToNat, Nat.reduceAdd, Nat.reduceSub, Nat.reduceLeDiff, Nat.reduceLT, reduceIte]
  refine t_hall_fault rfl rfl H ?_
  try simp only [Lw_k27.sxA, Lw_k27.sxB, exists_eq_left, exists_eq_left', exists_eq', exists_eq, exists_and_left, eq_self, exists_true_left, exists_const, exists_eq_right, exists_false, if_false, if_true, Int.reduceToNat, Nat.reduceAdd, Nat.reduceSub, Nat.reduceLeDiff, Nat.reduceLT, reduceIte]
  refine ⟨by simp, t_sortP ?_⟩
  rw [e]
  exact ⟨by decide, h⟩
theorem t_need_hall {n : Nat} {ar : List (Int × Int)} (h : P .non k) : wf_need_hall c [(D.ins c.C_Hall ["many", "arrows"] [D.int n, D.tup (List.map pD ar)])] k P := by
  rw [wf_need_hall, s_of, w_need_hall]
  try simp only [Lw_k27.sxA, Lw_k27.sxB, exists_eq_left, exists_eq_left', exists_eq', exists_eq, exists_and_left, eq_self, exists_true_left, exists_const, exists_eq_right, exists_false, if_false, if_true, Int.reduceToNat, Nat.reduceAdd, Nat.reduceSub, Nat.reduceLeDiff, Nat.reduceLT, reduceIte]
  exact h
def ptD (n : Nat) : D → Bool
  | .int i => decide (0 ≤ i ∧ i < n)
  | _ => false
/-- the row is numbers, one for each point -/
def numB (n : Nat) (d : D) : Bool := match itemsD d with
  | some xs => rowD d && decide (xs.length = n) && xs.all intD
  | none => false
theorem t_is_numbers {n : Nat} {ar : List (Int × Int)} {d : D} {xs : List D} (hn : n ≤ 1000) (hd : (tyD d).isSome = true) (hx : rowD d = true → itemsD d = some xs ∧ ∀ x ∈ xs, (tyD x).isSome = true) (h : P (.bl (rowD d && decide (xs.length = n) && xs.all intD)) k) : wf_is_numbers c [(D.ins c.C_Hall ["many", "arrows"] [D.int n, D.tup (List.map pD ar)]), d] k P := by
  rw [wf_is_numbers, s_of, w_is_numbers]
  try simp only [Lw_k27.sxA, Lw_k27.sxB, exists_eq_left, exists_eq_left', exists_eq', exists_eq, exists_and_left, eq_self, exists_true_left, exists_const, exists_eq_right, exists_false, if_false, if_true, Int.reduceToNat, Nat.reduceAdd, Nat.reduceSub, Nat.reduceLeDiff, Nat.reduceLT, reduceIte]
  refine t_is_row hd ?_
  try simp only [Lw_k27.sxA, Lw_k27.sxB, exists_eq_left, exists_eq_left', exists_eq', exists_eq, exists_and_left, eq_self, exists_true_left, exists_const, exists_eq_right, exists_false, if_false, if_true, Int.reduceToNat, Nat.reduceAdd, Nat.reduceSub, Nat.reduceLeDiff, Nat.reduceLT, reduceIte]
  cases hr : rowD d with
  | false => rw [hr] at h; exact h
  | true =>
    obtain ⟨hi, ht⟩ := hx hr
    rw [hr] at h
    have ln : lenD d = some xs.length := by rcases rowD_items hi hr with rfl | rfl <;> rfl
    try simp only [Lw_k27.sxA, Lw_k27.sxB, exists_eq_left, exists_eq_left', exists_eq', exists_eq, exists_and_left, eq_self, exists_true_left, exists_const, exists_eq_right, exists_false, if_false, if_true, Int.reduceToNat, Nat.reduceAdd, Nat.reduceSub, Nat.reduceLeDiff, Nat.reduceLT, reduceIte]
    refine ⟨_, ln, ?_⟩
    by_cases hl : xs.length = n
    · rw [if_pos (by simp [hl])]
      refine ⟨_, hi, ?_⟩
      have e : xs = xs.map id := by simp
      rw [e]
      refine lc_map id D.bl intD (sz (by omega)) (fun x hx R hR => ?_) ?_
      · try simp only [Lw_k27.sxA, Lw_k27.sxB, exists_eq_left, exists_eq_left', exists_eq', exists_eq, exists_and_left, eq_self, exists_true_left, exists_const, exists_eq_right, exists_false, if_false, if_true, Int.reduceToNat, Nat.reduceAdd, Nat.reduceSub, Nat.reduceLeDiff, Nat.reduceLT, reduceIte, lcStep, id]
        refine t_is_integer (ht x hx) ?_
        exact hR
      · try simp only [Lw_k27.sxA, Lw_k27.sxB, exists_eq_left, exists_eq_left', exists_eq', exists_eq, exists_and_left, eq_self, exists_true_left, exists_const, exists_eq_right, exists_false, if_false, if_true, Int.reduceToNat, Nat.reduceAdd, Nat.reduceSub, Nat.reduceLeDiff, Nat.reduceLT, reduceIte]
        simpa [hl, List.all_map, Function.comp_def] using h
    · rw [if_neg (by simp; omega)]
      simpa [hl] using h
theorem tyD_ints (xs : List Int) : ∀ x ∈ xs.map D.int, (tyD x).isSome = true := fun x hx => by
  obtain ⟨i, _, rfl⟩ := List.mem_map.mp hx
  rfl
theorem int_ints (xs : List Int) : (xs.map D.int).all intD = true := by
  rw [List.all_eq_true]
  intro x hx
  obtain ⟨i, _, rfl⟩ := List.mem_map.mp hx
  rfl
end Lw_k27

set_option Elab.async false
set_option linter.all false
set_option maxRecDepth 100000
set_option maxHeartbeats 400000
/-! the law's own small defs; units -/
namespace Lw_k27
open PySem L2 DL
variable {c : CA} {k : Kt} {P : D → Kt → Prop} {a : Addr}
def unitL (n : Nat) (i : Int) : List Int := (upto n).map fun j => if j = i then 1 else 0
/-- no row of n numbers -/
def NoRow (n : Nat) (d : D) : Prop := (tyD d).isSome = true ∧ (∃ ws, (rowD d = true → itemsD d = some ws ∧ ∀ x ∈ ws, (tyD x).isSome = true) ∧ (rowD d && decide (ws.length = n) && ws.all intD) = false) ∧ Rp d
end Lw_k27

set_option Elab.async false
set_option linter.all false
set_option maxRecDepth 100000
set_option maxHeartbeats 400000
/-! forms, mirrors, words; halls turned -/
namespace Lw_k27
open PySem L2 DL
variable {c : CA} {k : Kt} {P : D → Kt → Prop} {a : Addr}
/-- arrows among n points, none from a point to itself -/
def InR (n : Nat) (ar : List (Int × Int)) : Prop := ∀ p ∈ ar, (0 ≤ p.1 ∧ p.1 < n) ∧ (0 ≤ p.2 ∧ p.2 < n) ∧ p.1 ≠ p.2
theorem HallOk.inR {n : Nat} {ar : List (Int × Int)} (h : HallOk n ar) : InR n ar := fun p hp => ⟨⟨(h.inn p hp).1, (h.inn p hp).2.1⟩, ⟨(h.inn p hp).2.2.1, (h.inn p hp).2.2.2⟩, h.ne p hp⟩
theorem InR.low {n : Nat} {ar : List (Int × Int)} (h : InR n ar) : ∀ p ∈ ar, 0 ≤ p.1 ∧ 0 ≤ p.2 ∧ p.1 ≠ p.2 := fun p hp => ⟨(h p hp).1.1, (h p hp).2.1.1, (h p hp).2.2⟩
def SmI (a : List Int) : Prop := ∀ x ∈ a, -(2 ^ 64) < x ∧ x < 2 ^ 64
theorem SmI.gI {a : List Int} (h : SmI a) (j : Int) : -(2 ^ 64) < gI a j ∧ gI a j < 2 ^ 64 := by
  unfold DL.gI
  rw [List.getD_eq_getElem?_getD]
  cases q : a[j.toNat]? with
  | none => simp only [Option.getD_none]; omega
  | some y => exact h y (List.mem_of_getElem? q)
theorem SmI.unL (n : Nat) (i : Int) : SmI (unL n i) := fun x hx => by
  unfold DL.unL at hx
  obtain ⟨j, _, rfl⟩ := List.mem_map.mp hx
  split <;> omega
theorem at_gI {a : List Int} {i : Int} (h0 : 0 ≤ i) (h1 : i < a.length) : atI (a.map D.int) i = some (.int (gI a i)) :=
  atI_z (n := i.toNat) (by omega) (by rw [List.getElem?_map, List.getElem?_eq_getElem (by omega)]; unfold gI; rw [List.getD_eq_getElem?_getD, List.getElem?_eq_getElem (by omega)]; rfl)
theorem t_formed {n : Nat} {ar : List (Int × Int)} {a b : List Int} (ha : a.length = n) (hb : b.length = n) (hn : n ≤ 1000) (hl : ar.length ≤ 1000) (hi : InR n ar) (hc : SmI a ∨ SmI b) (h : P (.int (fE ar a b)) k) : wf_formed c [(D.ins c.C_Hall ["many", "arrows"] [D.int n, D.tup (List.map pD ar)]), I a, I b] k P := by
  rw [wf_formed, s_of, w_formed]
  try simp only [Lw_k27.sxA, Lw_k27.sxB, exists_eq_left, exists_eq_left', exists_eq', exists_eq, exists_and_left, eq_self, exists_true_left, exists_const, exists_eq_right, exists_false, if_false, if_true, Int.reduceToNat, Nat.reduceAdd, Nat.reduceSub, Nat.reduceLeDiff, Nat.reduceLT, reduceIte]
  rw [zipD_ints]
  refine lc_map pD D.int (fun p => p.1 * p.2) (sz (by rw [List.length_zip]; omega)) (fun p hp R hR => ?_) ?_
  · try simp only [Lw_k27.sxA, Lw_k27.sxB, exists_eq_left, exists_eq_left', exists_eq', exists_eq, exists_and_left, eq_self, exists_true_left, exists_const, exists_eq_right, exists_false, if_false, if_true, Int.reduceToNat, Nat.reduceAdd, Nat.reduceSub, Nat.reduceLeDiff, Nat.reduceLT, reduceIte, lcStep]
    have := List.of_mem_zip (a := p.1) (b := p.2) hp
    exact ⟨hc.imp (fun z => z _ this.1) fun z => z _ this.2, hR⟩
  · try simp only [Lw_k27.sxA, Lw_k27.sxB, exists_eq_left, exists_eq_left', exists_eq', exists_eq, exists_and_left, eq_self, exists_true_left, exists_const, exists_eq_right, exists_false, if_false, if_true, Int.reduceToNat, Nat.reduceAdd, Nat.reduceSub, Nat.reduceLeDiff, Nat.reduceLT, reduceIte]
    refine lc_map pD D.int (fun p => gI a p.1 * gI b p.2) (sz (by omega)) (fun p hp R hR => ?_) ?_
    · try simp only [Lw_k27.sxA, Lw_k27.sxB, exists_eq_left, exists_eq_left', exists_eq', exists_eq, exists_and_left, eq_self, exists_true_left, exists_const, exists_eq_right, exists_false, if_false, if_true, Int.reduceToNat, Nat.reduceAdd, Nat.reduceSub, Nat.reduceLeDiff, Nat.reduceLT, reduceIte, lcStep]
      have := hi p hp
      refine ⟨_, at_gI this.1.1 (by omega), _, at_gI this.2.1.1 (by omega), ?_⟩
      try simp only [Lw_k27.sxA, Lw_k27.sxB, exists_eq_left, exists_eq_left', exists_eq', exists_eq, exists_and_left, eq_self, exists_true_left, exists_const, exists_eq_right, exists_false, if_false, if_true, Int.reduceToNat, Nat.reduceAdd, Nat.reduceSub, Nat.reduceLeDiff, Nat.reduceLT, reduceIte]
      exact ⟨hc.imp (fun z => z.gI _) fun z => z.gI _, hR⟩
    · try simp only [Lw_k27.sxA, Lw_k27.sxB, exists_eq_left, exists_eq_left', exists_eq', exists_eq, exists_and_left, eq_self, exists_true_left, exists_const, exists_eq_right, exists_false, if_false, if_true, Int.reduceToNat, Nat.reduceAdd, Nat.reduceSub, Nat.reduceLeDiff, Nat.reduceLT, reduceIte]
      exact h
end Lw_k27

set_option Elab.async false
set_option linter.all false
set_option maxRecDepth 100000
set_option maxHeartbeats 1000000
/-! k27: sizes, the rows below a row, rows taken off one another -/
namespace Lw_k27
open PySem L2 DL
variable {c : CA} {k : Kt} {P : D → Kt → Prop} {a : Addr}
theorem minZ_nn {xs : List Int} (h0 : xs ≠ []) (h : ∀ x ∈ xs, 0 ≤ x) : 0 ≤ minZ xs := h _ (minZ_mem h0).1
theorem t_is_sizes {n : Nat} {ar : List (Int × Int)} {xs : List Int} (hn : n ≤ 1000) (h1 : 1 ≤ n) (hl : xs.length = n) (h0 : ∀ x ∈ xs, 0 ≤ x) (h : P (.bl true) k) : wf_is_sizes c [(D.ins c.C_Hall ["many", "arrows"] [D.int n, D.tup (List.map pD ar)]), I xs] k P := by
  rw [wf_is_sizes, s_of, w_is_sizes]
  try simp only [Lw_k27.sxA, Lw_k27.sxB, exists_eq_left, exists_eq_left', exists_eq', exists_eq, exists_and_left, eq_self, exists_true_left, exists_const, exists_eq_right, exists_false, if_false, if_true, Int.reduceToNat, Nat.reduceAdd, Nat.reduceSub, Nat.reduceLeDiff, Nat.reduceLT, reduceIte]
  refine t_is_numbers (xs := xs.map D.int) hn rfl (fun _ => ⟨rfl, tyD_ints xs⟩) ?_
  try simp only [Lw_k27.sxA, Lw_k27.sxB, exists_eq_left, exists_eq_left', exists_eq', exists_eq, exists_and_left, eq_self, exists_true_left, exists_const, exists_eq_right, exists_false, if_false, if_true, Int.reduceToNat, Nat.reduceAdd, Nat.reduceSub, Nat.reduceLeDiff, Nat.reduceLT, reduceIte]
  have e : (rowD (I xs) && decide (xs.length = n) && (xs.map D.int).all intD) = true := by
    rw [int_ints, decide_eq_true hl]; rfl
  have ne : xs ≠ [] := fun z => by rw [z] at hl; simp at hl; omega
  rw [if_pos e]
  refine ⟨ne, ?_⟩
  rw [decide_eq_true (minZ_nn ne h0)]
  exact h
theorem t_need_sizes {n : Nat} {ar : List (Int × Int)} {xs : List Int} (hn : n ≤ 1000) (h1 : 1 ≤ n) (hl : xs.length = n) (h0 : ∀ x ∈ xs, 0 ≤ x) (h : P (I xs) k) : wf_need_sizes c [(D.ins c.C_Hall ["many", "arrows"] [D.int n, D.tup (List.map pD ar)]), I xs] k P := by
  rw [wf_need_sizes, s_of, w_need_sizes]
  try simp only [Lw_k27.sxA, Lw_k27.sxB, exists_eq_left, exists_eq_left', exists_eq', exists_eq, exists_and_left, eq_self, exists_true_left, exists_const, exists_eq_right, exists_false, if_false, if_true, Int.reduceToNat, Nat.reduceAdd, Nat.reduceSub, Nat.reduceLeDiff, Nat.reduceLT, reduceIte]
  refine t_is_sizes hn h1 hl h0 ?_
  try simp only [Lw_k27.sxA, Lw_k27.sxB, exists_eq_left, exists_eq_left', exists_eq', exists_eq, exists_and_left, eq_self, exists_true_left, exists_const, exists_eq_right, exists_false, if_false, if_true, Int.reduceToNat, Nat.reduceAdd, Nat.reduceSub, Nat.reduceLeDiff, Nat.reduceLT, reduceIte]
  exact h
/-- how many rows are below -/
def prodB : List Int → Int
  | [] => 1
  | x :: r => (x + 1) * prodB r
theorem prodB_pos : ∀ {xs : List Int}, (∀ x ∈ xs, 0 ≤ x) → 1 ≤ prodB xs
  | [], _ => by simp [prodB]
  | x :: r, h => by
    have h1 := prodB_pos fun y hy => h y (List.mem_cons_of_mem _ hy)
    have h2 := h x List.mem_cons_self
    have : 1 * 1 ≤ (x + 1) * prodB r := Int.mul_le_mul (by omega) h1 (by omega) (by omega)
    rw [prodB]; omega
theorem t_need_few {xs : List Int} (h0 : ∀ x ∈ xs, 0 ≤ x) (hp : prodB xs ≤ 2000) (h : P .non k) : wf_need_few c [I xs] k P := by
  rw [wf_need_few, s_of, w_need_few]
  try simp only [Lw_k27.sxA, Lw_k27.sxB, exists_eq_left, exists_eq_left', exists_eq', exists_eq, exists_and_left, eq_self, exists_true_left, exists_const, exists_eq_right, exists_false, if_false, if_true, Int.reduceToNat, Nat.reduceAdd, Nat.reduceSub, Nat.reduceLeDiff, Nat.reduceLT, reduceIte]
  refine for_map D.int (fun rest ρ => ∃ (m : Int) (s2 : Slot), ρ = [.val (I xs), .val (.int m), s2] ∧ 1 ≤ m ∧ m * prodB rest ≤ 2000 ∧ ∀ x ∈ rest, 0 ≤ x) (fun x rest ρ N hI hN => ?_) (fun ρ hI => ?_) xs _ ⟨1, _, rfl, by omega, by omega, h0⟩
  · obtain ⟨m, s2, rfl, hm, hq, hr⟩ := hI
    have hx := hr x List.mem_cons_self
    have hp1 := prodB_pos fun y hy => hr y (List.mem_cons_of_mem _ hy)
    try simp only [Lw_k27.sxA, Lw_k27.sxB, exists_eq_left, exists_eq_left', exists_eq', exists_eq, exists_and_left, eq_self, exists_true_left, exists_const, exists_eq_right, exists_false, if_false, if_true, Int.reduceToNat, Nat.reduceAdd, Nat.reduceSub, Nat.reduceLeDiff, Nat.reduceLT, reduceIte]
    rw [prodB, ← Int.mul_assoc] at hq
    have m1 : 1 * 1 ≤ m * (x + 1) := Int.mul_le_mul hm (by omega) (by omega) (by omega)
    have m2 : m * (x + 1) * 1 ≤ m * (x + 1) * prodB rest := Int.mul_le_mul_of_nonneg_left hp1 (by omega)
    have m3 : m * 1 ≤ m * (x + 1) := Int.mul_le_mul_of_nonneg_left (by omega) (by omega)
    refine ⟨.inl (by omega), hN _ ⟨m * (x + 1), _, rfl, by omega, hq, fun y hy => hr y (List.mem_cons_of_mem _ hy)⟩⟩
  · obtain ⟨m, s2, rfl, hm, hq, _⟩ := hI
    simp only [prodB] at hq
    try simp only [Lw_k27.sxA, Lw_k27.sxB, exists_eq_left, exists_eq_left', exists_eq', exists_eq, exists_and_left, eq_self, exists_true_left, exists_const, exists_eq_right, exists_false, if_false, if_true, Int.reduceToNat, Nat.reduceAdd, Nat.reduceSub, Nat.reduceLeDiff, Nat.reduceLT, reduceIte]
    rw [if_neg (by simp; omega)]
    exact h
/-! rows below -/
def longB (x : Int) (r : List Int) : List (List Int) := (upto (x + 1).toNat).map fun i => r ++ [i]
def stepB (f : List (List Int)) (x : Int) : List (List Int) := f.flatMap (longB x)
def rowsB (xs : List Int) : List (List Int) := xs.foldl stepB [[]]
theorem stepB_len (x : Int) (hx : 0 ≤ x) : ∀ f : List (List Int), ((stepB f x).length : Int) = f.length * (x + 1)
  | [] => by simp [stepB]
  | r :: f => by
    have ih := stepB_len x hx f
    have e : (stepB (r :: f) x).length = (longB x r).length + (stepB f x).length := by rw [stepB, List.flatMap_cons, List.length_append]; rfl
    rw [e, List.length_cons, longB, List.length_map, upto_len]
    have : ((f.length + 1 : Nat) : Int) * (x + 1) = f.length * (x + 1) + (x + 1) := by
      rw [Int.natCast_add, Int.add_mul]; simp
    omega
theorem longB_len {x : Int} {r q : List Int} (h : q ∈ longB x r) : q.length = r.length + 1 := by
  obtain ⟨i, _, rfl⟩ := List.mem_map.mp h
  simp
theorem t_rows_below {A : D} {xs : List Int} (hA : A = I xs) (hll : xs.length ≤ 1000) (h0 : ∀ x ∈ xs, 0 ≤ x) (hp : prodB xs ≤ 2000) (h : P (.lst ((rowsB xs).map I)) k) : wf_rows_below c [A] k P := by
  subst hA
  rw [wf_rows_below, s_of, w_rows_below]
  try simp only [Lw_k27.sxA, Lw_k27.sxB, exists_eq_left, exists_eq_left', exists_eq', exists_eq, exists_and_left, eq_self, exists_true_left, exists_const, exists_eq_right, exists_false, if_false, if_true, Int.reduceToNat, Nat.reduceAdd, Nat.reduceSub, Nat.reduceLeDiff, Nat.reduceLT, reduceIte]
  refine for_map D.int (fun rest ρ => ∃ (f : List (List Int)) (s1 s2 : Slot), ρ = [.val (I xs), s1, s2, .un, .un] ∧ (s1 = .val (.lst (f.map I)) ∨ s1 = .own (.l (f.map I))) ∧ rest.foldl stepB f = rowsB xs ∧ (f.length : Int) * prodB rest ≤ 2000 ∧ (∀ x ∈ rest, 0 ≤ x) ∧ ∀ r ∈ f, r.length + rest.length = xs.length) (fun x rest ρ N hI hN => ?_) (fun ρ hI => ?_) xs _ ⟨[[]], _, _, rfl, .inl rfl, rfl, by simpa using hp, h0, fun r hr => by rw [List.mem_singleton.mp hr]; simp⟩
  · obtain ⟨f, s1, s2, rfl, hs, hf, hq, hr, hw⟩ := hI
    have hx := hr x List.mem_cons_self
    have hp1 := prodB_pos fun y hy => hr y (List.mem_cons_of_mem _ hy)
    have hl := stepB_len x hx f
    rw [prodB, ← Int.mul_assoc, ← hl] at hq
    have hx2 : ((stepB f x).length : Int) * 1 ≤ (stepB f x).length * prodB rest := Int.mul_le_mul_of_nonneg_left hp1 (by omega)
    have step : lc2W [3, 4] [4] (gNm 3) (fun ρ k Q => Q true ρ k) (wRng1 (wCons (wOp fAdd (wVar 2) (wC (.int 1))) wNil)) (gNm 4) (fun ρ k Q => Q true ρ k) (wOp fAdd (wVar 3) (wTup (wCons (wVar 4) wNil)))
        (f.map I) [] [.val (I xs), .val (.lst (f.map I)), .val (.int x), .un, .un] (nxk k) fun zs ρ2 k2 => N (ρ2.set 1 (.own (.l zs))) (rsk k k2) := by
      refine lc2_map I I (longB x) f [] (by rw [List.length_nil]; exact sz (by show 0 + (stepB f x).length ≤ _; omega)) (fun row hrow acc R hacc hR => ?_) ?_
      · try simp only [Lw_k27.sxA, Lw_k27.sxB, exists_eq_left, exists_eq_left', exists_eq', exists_eq, exists_and_left, eq_self, exists_true_left, exists_const, exists_eq_right, exists_false, if_false, if_true, Int.reduceToNat, Nat.reduceAdd, Nat.reduceSub, Nat.reduceLeDiff, Nat.reduceLT, reduceIte, lc2Step]
        have f1 : 1 * (x + 1) ≤ (f.length : Int) * (x + 1) := Int.mul_le_mul_of_nonneg_right (by have := List.length_pos_of_mem hrow; omega) (by omega)
        have hwr := hw row hrow
        refine ⟨by omega, by omega, ?_⟩
        refine lc_mapA D.int I (fun i => row ++ [i]) (upto (x + 1).toNat) acc (by rw [longB, List.length_map] at hacc; exact hacc) (fun i hi R' hR' => ?_) ?_
        · try simp only [Lw_k27.sxA, Lw_k27.sxB, exists_eq_left, exists_eq_left', exists_eq', exists_eq, exists_and_left, eq_self, exists_true_left, exists_const, exists_eq_right, exists_false, if_false, if_true, Int.reduceToNat, Nat.reduceAdd, Nat.reduceSub, Nat.reduceLeDiff, Nat.reduceLT, reduceIte, lcStep, List.length_map]
          refine ⟨by omega, ?_⟩
          rw [show I (row ++ [i]) = .tup (row.map .int ++ [.int i]) by rw [I, List.map_append]; rfl] at hR'
          exact hR'
        · try simp only [Lw_k27.sxA, Lw_k27.sxB, exists_eq_left, exists_eq_left', exists_eq', exists_eq, exists_and_left, eq_self, exists_true_left, exists_const, exists_eq_right, exists_false, if_false, if_true, Int.reduceToNat, Nat.reduceAdd, Nat.reduceSub, Nat.reduceLeDiff, Nat.reduceLT, reduceIte]
          exact hR
      · try simp only [Lw_k27.sxA, Lw_k27.sxB, exists_eq_left, exists_eq_left', exists_eq', exists_eq, exists_and_left, eq_self, exists_true_left, exists_const, exists_eq_right, exists_false, if_false, if_true, Int.reduceToNat, Nat.reduceAdd, Nat.reduceSub, Nat.reduceLeDiff, Nat.reduceLT, reduceIte]
        exact hN _ ⟨stepB f x, _, _, rfl, .inr rfl, hf, hq, fun y hy => hr y (List.mem_cons_of_mem _ hy), fun q hq2 => by
          obtain ⟨r, hr2, hq3⟩ := List.mem_flatMap.mp hq2
          have := hw r hr2
          rw [longB_len hq3]
          rw [List.length_cons] at this
          omega⟩
    rcases hs with rfl | rfl
    · try simp only [Lw_k27.sxA, Lw_k27.sxB, exists_eq_left, exists_eq_left', exists_eq', exists_eq, exists_and_left, eq_self, exists_true_left, exists_const, exists_eq_right, exists_false, if_false, if_true, Int.reduceToNat, Nat.reduceAdd, Nat.reduceSub, Nat.reduceLeDiff, Nat.reduceLT, reduceIte]
      exact step
    · try simp only [Lw_k27.sxA, Lw_k27.sxB, exists_eq_left, exists_eq_left', exists_eq', exists_eq, exists_and_left, eq_self, exists_true_left, exists_const, exists_eq_right, exists_false, if_false, if_true, Int.reduceToNat, Nat.reduceAdd, Nat.reduceSub, Nat.reduceLeDiff, Nat.reduceLT, reduceIte]
      exact step
  · obtain ⟨f, s1, s2, rfl, hs, hf, _⟩ := hI
    have hf' : f = rowsB xs := hf
    subst hf'
    rcases hs with rfl | rfl
    · try simp only [Lw_k27.sxA, Lw_k27.sxB, exists_eq_left, exists_eq_left', exists_eq', exists_eq, exists_and_left, eq_self, exists_true_left, exists_const, exists_eq_right, exists_false, if_false, if_true, Int.reduceToNat, Nat.reduceAdd, Nat.reduceSub, Nat.reduceLeDiff, Nat.reduceLT, reduceIte]
      exact h
    · try simp only [Lw_k27.sxA, Lw_k27.sxB, exists_eq_left, exists_eq_left', exists_eq', exists_eq, exists_and_left, eq_self, exists_true_left, exists_const, exists_eq_right, exists_false, if_false, if_true, Int.reduceToNat, Nat.reduceAdd, Nat.reduceSub, Nat.reduceLeDiff, Nat.reduceLT, reduceIte]
      exact h
/-! rows taken off -/
def subL (xs ys : List Int) : List Int := (xs.zip ys).map fun p => p.1 - p.2
theorem t_taken_off {xs ys : List Int} (hl : xs.length ≤ 1000) (h : P (I (subL xs ys)) k) : wf_taken_off c [I xs, I ys] k P := by
  rw [wf_taken_off, s_of, w_taken_off]
  try simp only [Lw_k27.sxA, Lw_k27.sxB, exists_eq_left, exists_eq_left', exists_eq', exists_eq, exists_and_left, eq_self, exists_true_left, exists_const, exists_eq_right, exists_false, if_false, if_true, Int.reduceToNat, Nat.reduceAdd, Nat.reduceSub, Nat.reduceLeDiff, Nat.reduceLT, reduceIte]
  rw [zipD_ints]
  refine lc_map pD D.int (fun p => p.1 - p.2) (sz (by rw [List.length_zip]; omega)) (fun p hp R hR => ?_) ?_
  · try simp only [Lw_k27.sxA, Lw_k27.sxB, exists_eq_left, exists_eq_left', exists_eq', exists_eq, exists_and_left, eq_self, exists_true_left, exists_const, exists_eq_right, exists_false, if_false, if_true, Int.reduceToNat, Nat.reduceAdd, Nat.reduceSub, Nat.reduceLeDiff, Nat.reduceLT, reduceIte, lcStep]
    exact hR
  · try simp only [Lw_k27.sxA, Lw_k27.sxB, exists_eq_left, exists_eq_left', exists_eq', exists_eq, exists_and_left, eq_self, exists_true_left, exists_const, exists_eq_right, exists_false, if_false, if_true, Int.reduceToNat, Nat.reduceAdd, Nat.reduceSub, Nat.reduceLeDiff, Nat.reduceLT, reduceIte]
    exact h
end Lw_k27

set_option Elab.async false
set_option linter.all false
set_option maxRecDepth 100000
set_option maxHeartbeats 1000000
/-! k27: the parts known -/
namespace Lw_k27
open PySem L2 DL
variable {c : CA} {k : Kt} {P : D → Kt → Prop} {a : Addr}
abbrev Kn := List (List Int × List (List Int))
def kyZ (b : List Int) : List Key := b.map Sum.inl
def KK (kn : Kn) : List (List Key) := kn.map fun e => kyZ e.1
def KVs (kn : Kn) : List D := kn.map fun e => .lst (e.2.map I)
abbrev KD (kn : Kn) : D := .dT (KK kn) (KVs kn)
def findK : Kn → List Int → Option (List (List Int))
  | [], _ => none
  | e :: r, b => if e.1 = b then some e.2 else findK r b
theorem kyZ_inj {a b : List Int} : kyZ a = kyZ b ↔ a = b := by
  constructor
  · intro h
    exact List.map_inj_right (fun x y e => Sum.inl.inj e) |>.mp h
  · rintro rfl; rfl
theorem keyT_I : ∀ b : List Int, keyT (I b) = some (kyZ b) := fun b => by
  have key : ∀ b : List Int, keysOf (b.map D.int) = some (kyZ b) := by
    intro b
    induction b with
    | nil => rfl
    | cons x r ih => rw [List.map_cons, keysOf, ih]; rfl
  exact key b
theorem valD_K : ∀ (kn : Kn) (b : List Int), valD (KK kn) (KVs kn) (kyZ b) = (findK kn b).map fun v => .lst (v.map I)
  | [], _ => rfl
  | e :: r, b => by
    have ih := valD_K r b
    unfold valD at ih ⊢
    rw [show KK (e :: r) = kyZ e.1 :: KK r from rfl, show KVs (e :: r) = .lst (e.2.map I) :: KVs r from rfl, List.zip_cons_cons, List.find?_cons, findK]
    by_cases h : e.1 = b
    · rw [decide_eq_true (kyZ_inj.mpr h), if_pos h]; rfl
    · rw [decide_eq_false (fun z => h (kyZ_inj.mp z)), if_neg h]; exact ih
theorem putD_K : ∀ (kn : Kn) (b : List Int) (v : List (List Int)), findK kn b = none → (putD (KK kn) (KVs kn) (kyZ b) (.lst (v.map I))).1 = KK (kn ++ [(b, v)]) ∧ (putD (KK kn) (KVs kn) (kyZ b) (.lst (v.map I))).2 = KVs (kn ++ [(b, v)])
  | [], _, _, _ => ⟨rfl, rfl⟩
  | e :: r, b, v, h => by
    rw [findK] at h
    by_cases q : e.1 = b
    · rw [if_pos q] at h; cases h
    · rw [if_neg q] at h
      obtain ⟨h1, h2⟩ := putD_K r b v h
      rw [show KK (e :: r) = kyZ e.1 :: KK r from rfl, show KVs (e :: r) = .lst (e.2.map I) :: KVs r from rfl, putD, if_neg (fun z => q (kyZ_inj.mp z))]
      exact ⟨by rw [h1]; rfl, by rw [h2]; rfl⟩
theorem findK_mem : ∀ {kn : Kn} {b : List Int}, findK kn b = none → kyZ b ∉ KK kn
  | [], _, _ => by simp [KK]
  | e :: r, b, h => by
    rw [findK] at h
    by_cases q : e.1 = b
    · rw [if_pos q] at h; cases h
    · rw [if_neg q] at h
      rw [show KK (e :: r) = kyZ e.1 :: KK r from rfl, List.mem_cons]
      rintro (z | z)
      · exact q (kyZ_inj.mp z).symm
      · exact findK_mem h z
theorem KK_app {kn : Kn} {b : List Int} {v : List (List Int)} (h : (KK kn).Nodup) (hb : findK kn b = none) : (KK (kn ++ [(b, v)])).Nodup := by
  rw [show KK (kn ++ [(b, v)]) = KK kn ++ [kyZ b] by simp [KK]]
  refine List.nodup_append.mpr ⟨h, by simp, fun x hx y hy e => ?_⟩
  rw [List.mem_singleton.mp hy] at e
  exact findK_mem hb (e ▸ hx)
/-- a row that is seen -/
def rowOk (n : Nat) (b : List Int) : Bool := decide (b.length = n) && b.all (fun x => decide (0 ≤ x) && decide (x ≤ 1000)) && decide (prodB b ≤ 2000)
theorem ro_len {n : Nat} {b : List Int} (h : rowOk n b = true) : b.length = n := by
  simp only [rowOk, Bool.and_eq_true, decide_eq_true_eq] at h; exact h.1.1
theorem ro_nn {n : Nat} {b : List Int} (h : rowOk n b = true) : ∀ x ∈ b, 0 ≤ x ∧ x ≤ 1000 := fun x hx => by
  simp only [rowOk, Bool.and_eq_true, decide_eq_true_eq, List.all_eq_true] at h
  exact h.1.2 x hx
theorem ro_few {n : Nat} {b : List Int} (h : rowOk n b = true) : prodB b ≤ 2000 := by
  simp only [rowOk, Bool.and_eq_true, decide_eq_true_eq] at h; exact h.2
theorem subL_len {n : Nat} {a b : List Int} (ha : a.length = n) (hb : b.length = n) : (subL a b).length = n := by
  rw [subL, List.length_map, List.length_zip]; omega
theorem subL_sm {n : Nat} {a b : List Int} (ha : rowOk n a = true) (hb : rowOk n b = true) : SmI (subL a b) := fun x hx => by
  obtain ⟨p, hp, rfl⟩ := List.mem_map.mp hx
  have := List.of_mem_zip (a := p.1) (b := p.2) hp
  have h1 := ro_nn ha _ this.1
  have h2 := ro_nn hb _ this.2
  show -(2 ^ 64) < p.1 - p.2 ∧ p.1 - p.2 < 2 ^ 64
  omega
def partB (ar : List (Int × Int)) (v : List (List Int)) (b row : List Int) : Bool := v.all fun less => decide (0 ≤ fE ar less (subL b row))
theorem t_is_part_by {n : Nat} {ar : List (Int × Int)} {kn : Kn} {b row : List Int} {v : List (List Int)} (H : HallOk n ar) (hv : findK kn row = some v) (hb : rowOk n b = true) (hr : rowOk n row = true) (hvl : ∀ x ∈ v, x.length = n) (hs : v.length ≤ 2000) (h : P (.bl (partB ar v b row)) k) :
    wf_is_part_by c [(D.ins c.C_Hall ["many", "arrows"] [D.int n, D.tup (List.map pD ar)]), KD kn, I b, I row] k P := by
  have hn := H.n7
  have hl := H.len
  rw [wf_is_part_by, s_of, w_is_part_by]
  try simp only [Lw_k27.sxA, Lw_k27.sxB, exists_eq_left, exists_eq_left', exists_eq', exists_eq, exists_and_left, eq_self, exists_true_left, exists_const, exists_eq_right, exists_false, if_false, if_true, Int.reduceToNat, Nat.reduceAdd, Nat.reduceSub, Nat.reduceLeDiff, Nat.reduceLT, reduceIte]
  refine t_taken_off (by rw [ro_len hb]; omega) ?_
  try simp only [Lw_k27.sxA, Lw_k27.sxB, exists_eq_left, exists_eq_left', exists_eq', exists_eq, exists_and_left, eq_self, exists_true_left, exists_const, exists_eq_right, exists_false, if_false, if_true, Int.reduceToNat, Nat.reduceAdd, Nat.reduceSub, Nat.reduceLeDiff, Nat.reduceLT, reduceIte]
  refine ⟨_, _, rfl, _, keyT_I row, _, by rw [valD_K, hv]; rfl, _, rfl, ?_⟩
  refine lc_map I D.bl (fun less => decide (0 ≤ fE ar less (subL b row))) (sz (by omega)) (fun less hp R hR => ?_) ?_
  · try simp only [Lw_k27.sxA, Lw_k27.sxB, exists_eq_left, exists_eq_left', exists_eq', exists_eq, exists_and_left, eq_self, exists_true_left, exists_const, exists_eq_right, exists_false, if_false, if_true, Int.reduceToNat, Nat.reduceAdd, Nat.reduceSub, Nat.reduceLeDiff, Nat.reduceLT, reduceIte, lcStep]
    refine t_formed (hvl less hp) (subL_len (ro_len hb) (ro_len hr)) (by omega) (by omega) H.inR (.inr (subL_sm hb hr)) ?_
    try simp only [Lw_k27.sxA, Lw_k27.sxB, exists_eq_left, exists_eq_left', exists_eq', exists_eq, exists_and_left, eq_self, exists_true_left, exists_const, exists_eq_right, exists_false, if_false, if_true, Int.reduceToNat, Nat.reduceAdd, Nat.reduceSub, Nat.reduceLeDiff, Nat.reduceLT, reduceIte]
    exact hR
  · try simp only [Lw_k27.sxA, Lw_k27.sxB, exists_eq_left, exists_eq_left', exists_eq', exists_eq, exists_and_left, eq_self, exists_true_left, exists_const, exists_eq_right, exists_false, if_false, if_true, Int.reduceToNat, Nat.reduceAdd, Nat.reduceSub, Nat.reduceLeDiff, Nat.reduceLT, reduceIte]
    have e : ((v.map fun less => decide (0 ≤ fE ar less (subL b row))).all id) = partB ar v b row := by rw [List.all_map]; rfl
    rw [e]
    exact h
/-- what is looked up is there -/
def seenB (n : Nat) (kn : Kn) (b row : List Int) : Bool := rowOk n row && (decide (row = b) || match findK kn row with
  | some v => v.all (fun x => decide (x.length = n)) && decide (v.length ≤ 2000)
  | none => false)
def goodB (ar : List (Int × Int)) (kn : Kn) (b row : List Int) : Bool := decide (row = b) || match findK kn row with
  | some v => partB ar v b row
  | none => false
def stepK (n : Nat) (ar : List (Int × Int)) (kn : Kn) (b : List Int) : Option Kn :=
  if (findK kn b).isSome then some kn else if (rowOk n b && (rowsB b).all (seenB n kn b)) = true then some (kn ++ [(b, (rowsB b).filter (goodB ar kn b))]) else none
def knG (n : Nat) (ar : List (Int × Int)) : List (List Int) → Kn → Option Kn
  | [], kn => some kn
  | b :: r, kn => (stepK n ar kn b).bind (knG n ar r)
def knA (n : Nat) (ar : List (Int × Int)) (a : List Int) : Option Kn := knG n ar (rowsB a) []
theorem rowsB_len {xs : List Int} (h0 : ∀ x ∈ xs, 0 ≤ x) (hp : prodB xs ≤ 2000) : (rowsB xs).length ≤ 2000 := by
  have key : ∀ (r : List Int) (f : List (List Int)), (∀ x ∈ r, 0 ≤ x) → ((r.foldl stepB f).length : Int) = f.length * prodB r := by
    intro r
    induction r with
    | nil => intro f _; simp [prodB]
    | cons x r ih =>
      intro f h
      rw [List.foldl_cons, ih _ fun y hy => h y (List.mem_cons_of_mem _ hy), stepB_len x (h x List.mem_cons_self), prodB, Int.mul_assoc]
  have := key xs [[]] h0
  simp only [List.length_cons, List.length_nil] at this
  unfold rowsB
  omega
theorem filt_map {α : Type} (p : α → Bool) : ∀ xs : List α, xs.filterMap (fun x => if p x = true then some x else none) = xs.filter p
  | [] => rfl
  | x :: r => by
    rw [List.filterMap_cons, List.filter_cons, filt_map p r]
    cases p x <;> rfl
theorem t_parts_known {n : Nat} {ar : List (Int × Int)} {kn : Kn} {b : List Int} (H : HallOk n ar) (hb : rowOk n b = true) (hk : knA n ar b = some kn) (h : P (KD kn) k) : wf_parts_known c [(D.ins c.C_Hall ["many", "arrows"] [D.int n, D.tup (List.map pD ar)]), .tup [I b]] k P := by
  have hn := H.n7
  have hl := H.len
  rw [wf_parts_known, s_of, w_parts_known]
  try simp only [Lw_k27.sxA, Lw_k27.sxB, exists_eq_left, exists_eq_left', exists_eq', exists_eq, exists_and_left, eq_self, exists_true_left, exists_const, exists_eq_right, exists_false, if_false, if_true, Int.reduceToNat, Nat.reduceAdd, Nat.reduceSub, Nat.reduceLeDiff, Nat.reduceLT, reduceIte]
  rw [f_c]
  try simp only [Lw_k27.sxA, Lw_k27.sxB, exists_eq_left, exists_eq_left', exists_eq', exists_eq, exists_and_left, eq_self, exists_true_left, exists_const, exists_eq_right, exists_false, if_false, if_true, Int.reduceToNat, Nat.reduceAdd, Nat.reduceSub, Nat.reduceLeDiff, Nat.reduceLT, reduceIte]
  refine t_rows_below rfl (by rw [ro_len hb]; omega) (fun x hx => (ro_nn hb x hx).1) (ro_few hb) ?_
  try simp only [Lw_k27.sxA, Lw_k27.sxB, exists_eq_left, exists_eq_left', exists_eq', exists_eq, exists_and_left, eq_self, exists_true_left, exists_const, exists_eq_right, exists_false, if_false, if_true, Int.reduceToNat, Nat.reduceAdd, Nat.reduceSub, Nat.reduceLeDiff, Nat.reduceLT, reduceIte]
  refine for_map I (fun rest ρ => ∃ (kn' : Kn) (s4 : Slot), ρ = [.val (D.ins c.C_Hall ["many", "arrows"] [D.int n, D.tup (List.map pD ar)]), .val (.tup [I b]), .own (.t (KK kn') (KVs kn')), .val (I b), s4, .un] ∧ knG n ar rest kn' = some kn ∧ (KK kn').Nodup ∧ kn'.length + rest.length ≤ 2000) (fun b' rest ρ N hI hN => ?_) (fun ρ hI => ?_) (rowsB b) _ ⟨[], _, rfl, hk, List.nodup_nil, by have := rowsB_len (fun x hx => (ro_nn hb x hx).1) (ro_few hb); simpa using this⟩
  · obtain ⟨kn', s4, rfl, hG, nd, hz⟩ := hI
    rw [knG] at hG
    rw [List.length_cons] at hz
    try simp only [Lw_k27.sxA, Lw_k27.sxB, exists_eq_left, exists_eq_left', exists_eq', exists_eq, exists_and_left, eq_self, exists_true_left, exists_const, exists_eq_right, exists_false, if_false, if_true, Int.reduceToNat, Nat.reduceAdd, Nat.reduceSub, Nat.reduceLeDiff, Nat.reduceLT, reduceIte]
    refine ⟨_, _, rfl, _, keyT_I b', ?_⟩
    rw [valD_K, Option.isSome_map]
    cases q : findK kn' b' with
    | some v =>
      have e : stepK n ar kn' b' = some kn' := by rw [stepK, q]; rfl
      rw [e] at hG
      rw [if_neg (by simp)]
      exact hN _ ⟨kn', _, rfl, hG, nd, by omega⟩
    | none =>
      rw [if_pos (by simp)]
      by_cases g : (rowOk n b' && (rowsB b').all (seenB n kn' b')) = true
      · have e : stepK n ar kn' b' = some (kn' ++ [(b', (rowsB b').filter (goodB ar kn' b'))]) := by rw [stepK, q, if_neg (by simp), if_pos g]
        rw [e] at hG
        rw [Bool.and_eq_true, List.all_eq_true] at g
        obtain ⟨g1, g2⟩ := g
        have rl := rowsB_len (fun x hx => (ro_nn g1 x hx).1) (ro_few g1)
        refine t_rows_below rfl (by rw [ro_len g1]; omega) (fun x hx => (ro_nn g1 x hx).1) (ro_few g1) ?_
        try simp only [Lw_k27.sxA, Lw_k27.sxB, exists_eq_left, exists_eq_left', exists_eq', exists_eq, exists_and_left, eq_self, exists_true_left, exists_const, exists_eq_right, exists_false, if_false, if_true, Int.reduceToNat, Nat.reduceAdd, Nat.reduceSub, Nat.reduceLeDiff, Nat.reduceLT, reduceIte]
        refine lc_filt I I (fun row => if goodB ar kn' b' row = true then some row else none) (sz (by omega)) (fun row hrow R hR => ?_) ?_
        · have sr := g2 row hrow
          rw [seenB, Bool.and_eq_true] at sr
          obtain ⟨s1, s2⟩ := sr
          try simp only [Lw_k27.sxA, Lw_k27.sxB, exists_eq_left, exists_eq_left', exists_eq', exists_eq, exists_and_left, eq_self, exists_true_left, exists_const, exists_eq_right, exists_false, if_false, if_true, Int.reduceToNat, Nat.reduceAdd, Nat.reduceSub, Nat.reduceLeDiff, Nat.reduceLT, reduceIte, lcStep]
          by_cases eb : row = b'
          · have eg : goodB ar kn' b' row = true := by rw [goodB, decide_eq_true eb]; rfl
            rw [if_pos eg] at hR
            rw [if_pos (decide_eq_true eb)]
            exact hR
          · rw [if_neg (by simp [eb])]
            rw [decide_eq_false eb, Bool.false_or] at s2
            cases fv : findK kn' row with
            | none => rw [fv] at s2; cases s2
            | some v =>
              rw [fv] at s2
              simp only [Bool.and_eq_true, decide_eq_true_eq, List.all_eq_true] at s2
              have eg : goodB ar kn' b' row = partB ar v b' row := by rw [goodB, decide_eq_false eb, Bool.false_or, fv]
              refine t_is_part_by H fv g1 s1 s2.1 s2.2 ?_
              refine ⟨rfl, _, rfl, ?_⟩
              rw [eg] at hR
              cases pb : partB ar v b' row with
              | true => rw [pb] at hR; exact hR
              | false => rw [pb] at hR; exact hR
        · rw [filt_map]
          try simp only [Lw_k27.sxA, Lw_k27.sxB, exists_eq_left, exists_eq_left', exists_eq', exists_eq, exists_and_left, eq_self, exists_true_left, exists_const, exists_eq_right, exists_false, if_false, if_true, Int.reduceToNat, Nat.reduceAdd, Nat.reduceSub, Nat.reduceLeDiff, Nat.reduceLT, reduceIte]
          obtain ⟨p1, p2⟩ := putD_K kn' b' ((rowsB b').filter (goodB ar kn' b')) q
          refine ⟨⟨_, _, rfl⟩, _, keyT_I b', _, _, rfl, nd, by rw [KK, List.length_map]; omega, ?_⟩
          rw [p1, p2]
          exact hN _ ⟨_, _, rfl, hG, KK_app nd q, by rw [List.length_append]; simp; omega⟩
      · have e : stepK n ar kn' b' = none := by rw [stepK, q, if_neg (by simp), if_neg g]
        rw [e] at hG
        cases hG
  · obtain ⟨kn', s4, rfl, hG, nd, hz⟩ := hI
    cases hG
    try simp only [Lw_k27.sxA, Lw_k27.sxB, exists_eq_left, exists_eq_left', exists_eq', exists_eq, exists_and_left, eq_self, exists_true_left, exists_const, exists_eq_right, exists_false, if_false, if_true, Int.reduceToNat, Nat.reduceAdd, Nat.reduceSub, Nat.reduceLeDiff, Nat.reduceLT, reduceIte, f_n]
    exact h
end Lw_k27

set_option Elab.async false
set_option linter.all false
set_option maxRecDepth 100000
set_option maxHeartbeats 1000000
/-! k27: general parts; bars, splits -/
namespace Lw_k27
open PySem L2 DL
variable {c : CA} {k : Kt} {P : D → Kt → Prop} {a : Addr}
theorem t_general_parts {n : Nat} {ar : List (Int × Int)} {kn : Kn} {b : List Int} {v : List (List Int)} (H : HallOk n ar) (hb : rowOk n b = true) (hk : knA n ar b = some kn) (hv : findK kn b = some v) (hz : v.length ≤ 2000) (h : P (.tup (v.map I)) k) : wf_general_parts c [(D.ins c.C_Hall ["many", "arrows"] [D.int n, D.tup (List.map pD ar)]), I b] k P := by
  have hn := H.n7
  have hn1 := H.n1
  rw [wf_general_parts, s_of, w_general_parts]
  try simp only [Lw_k27.sxA, Lw_k27.sxB, exists_eq_left, exists_eq_left', exists_eq', exists_eq, exists_and_left, eq_self, exists_true_left, exists_const, exists_eq_right, exists_false, if_false, if_true, Int.reduceToNat, Nat.reduceAdd, Nat.reduceSub, Nat.reduceLeDiff, Nat.reduceLT, reduceIte]
  refine t_need_hall ?_
  try simp only [Lw_k27.sxA, Lw_k27.sxB, exists_eq_left, exists_eq_left', exists_eq', exists_eq, exists_and_left, eq_self, exists_true_left, exists_const, exists_eq_right, exists_false, if_false, if_true, Int.reduceToNat, Nat.reduceAdd, Nat.reduceSub, Nat.reduceLeDiff, Nat.reduceLT, reduceIte]
  refine t_need_sizes (by omega) hn1 (ro_len hb) (fun x hx => (ro_nn hb x hx).1) ?_
  try simp only [Lw_k27.sxA, Lw_k27.sxB, exists_eq_left, exists_eq_left', exists_eq', exists_eq, exists_and_left, eq_self, exists_true_left, exists_const, exists_eq_right, exists_false, if_false, if_true, Int.reduceToNat, Nat.reduceAdd, Nat.reduceSub, Nat.reduceLeDiff, Nat.reduceLT, reduceIte]
  refine t_need_few (fun x hx => (ro_nn hb x hx).1) (ro_few hb) ?_
  try simp only [Lw_k27.sxA, Lw_k27.sxB, exists_eq_left, exists_eq_left', exists_eq', exists_eq, exists_and_left, eq_self, exists_true_left, exists_const, exists_eq_right, exists_false, if_false, if_true, Int.reduceToNat, Nat.reduceAdd, Nat.reduceSub, Nat.reduceLeDiff, Nat.reduceLT, reduceIte]
  refine t_parts_known H hb hk ?_
  try simp only [Lw_k27.sxA, Lw_k27.sxB, exists_eq_left, exists_eq_left', exists_eq', exists_eq, exists_and_left, eq_self, exists_true_left, exists_const, exists_eq_right, exists_false, if_false, if_true, Int.reduceToNat, Nat.reduceAdd, Nat.reduceSub, Nat.reduceLeDiff, Nat.reduceLT, reduceIte]
  refine ⟨_, _, rfl, _, keyT_I b, _, by rw [valD_K, hv]; rfl, ?_⟩
  try simp only [Lw_k27.sxA, Lw_k27.sxB, exists_eq_left, exists_eq_left', exists_eq', exists_eq, exists_and_left, eq_self, exists_true_left, exists_const, exists_eq_right, exists_false, if_false, if_true, Int.reduceToNat, Nat.reduceAdd, Nat.reduceSub, Nat.reduceLeDiff, Nat.reduceLT, reduceIte, List.length_map]
  exact h
theorem t_need_two {n : Nat} {ar : List (Int × Int)} {b d : List Int} (H : HallOk n ar) (hb : rowOk n b = true) (hd : rowOk n d = true) (h : P (.tup [I b, I d]) k) : wf_need_two c [(D.ins c.C_Hall ["many", "arrows"] [D.int n, D.tup (List.map pD ar)]), I b, I d] k P := by
  have hn := H.n7
  have hn1 := H.n1
  rw [wf_need_two, s_of, w_need_two]
  try simp only [Lw_k27.sxA, Lw_k27.sxB, exists_eq_left, exists_eq_left', exists_eq', exists_eq, exists_and_left, eq_self, exists_true_left, exists_const, exists_eq_right, exists_false, if_false, if_true, Int.reduceToNat, Nat.reduceAdd, Nat.reduceSub, Nat.reduceLeDiff, Nat.reduceLT, reduceIte]
  refine t_need_hall ?_
  try simp only [Lw_k27.sxA, Lw_k27.sxB, exists_eq_left, exists_eq_left', exists_eq', exists_eq, exists_and_left, eq_self, exists_true_left, exists_const, exists_eq_right, exists_false, if_false, if_true, Int.reduceToNat, Nat.reduceAdd, Nat.reduceSub, Nat.reduceLeDiff, Nat.reduceLT, reduceIte]
  refine t_need_sizes (by omega) hn1 (ro_len hb) (fun x hx => (ro_nn hb x hx).1) ?_
  try simp only [Lw_k27.sxA, Lw_k27.sxB, exists_eq_left, exists_eq_left', exists_eq', exists_eq, exists_and_left, eq_self, exists_true_left, exists_const, exists_eq_right, exists_false, if_false, if_true, Int.reduceToNat, Nat.reduceAdd, Nat.reduceSub, Nat.reduceLeDiff, Nat.reduceLT, reduceIte]
  refine t_need_sizes (by omega) hn1 (ro_len hd) (fun x hx => (ro_nn hd x hx).1) ?_
  try simp only [Lw_k27.sxA, Lw_k27.sxB, exists_eq_left, exists_eq_left', exists_eq', exists_eq, exists_and_left, eq_self, exists_true_left, exists_const, exists_eq_right, exists_false, if_false, if_true, Int.reduceToNat, Nat.reduceAdd, Nat.reduceSub, Nat.reduceLeDiff, Nat.reduceLT, reduceIte]
  refine t_need_few (fun x hx => (ro_nn hb x hx).1) (ro_few hb) ?_
  try simp only [Lw_k27.sxA, Lw_k27.sxB, exists_eq_left, exists_eq_left', exists_eq', exists_eq, exists_and_left, eq_self, exists_true_left, exists_const, exists_eq_right, exists_false, if_false, if_true, Int.reduceToNat, Nat.reduceAdd, Nat.reduceSub, Nat.reduceLeDiff, Nat.reduceLT, reduceIte]
  refine t_need_few (fun x hx => (ro_nn hd x hx).1) (ro_few hd) ?_
  try simp only [Lw_k27.sxA, Lw_k27.sxB, exists_eq_left, exists_eq_left', exists_eq', exists_eq, exists_and_left, eq_self, exists_true_left, exists_const, exists_eq_right, exists_false, if_false, if_true, Int.reduceToNat, Nat.reduceAdd, Nat.reduceSub, Nat.reduceLeDiff, Nat.reduceLT, reduceIte]
  exact h
theorem ro_sm {n : Nat} {b : List Int} (h : rowOk n b = true) : SmI b := fun x hx => by
  have := ro_nn h x hx
  omega
theorem t_balance {n : Nat} {ar : List (Int × Int)} {b d : List Int} (H : HallOk n ar) (hb : rowOk n b = true) (hd : rowOk n d = true) (h : P (.int (fE ar b d - fE ar d b)) k) : wf_balance c [(D.ins c.C_Hall ["many", "arrows"] [D.int n, D.tup (List.map pD ar)]), I b, I d] k P := by
  have hn := H.n7
  have hl := H.len
  rw [wf_balance, s_of, w_balance]
  try simp only [Lw_k27.sxA, Lw_k27.sxB, exists_eq_left, exists_eq_left', exists_eq', exists_eq, exists_and_left, eq_self, exists_true_left, exists_const, exists_eq_right, exists_false, if_false, if_true, Int.reduceToNat, Nat.reduceAdd, Nat.reduceSub, Nat.reduceLeDiff, Nat.reduceLT, reduceIte]
  refine t_formed (ro_len hb) (ro_len hd) (by omega) (by omega) H.inR (.inl (ro_sm hb)) ?_
  try simp only [Lw_k27.sxA, Lw_k27.sxB, exists_eq_left, exists_eq_left', exists_eq', exists_eq, exists_and_left, eq_self, exists_true_left, exists_const, exists_eq_right, exists_false, if_false, if_true, Int.reduceToNat, Nat.reduceAdd, Nat.reduceSub, Nat.reduceLeDiff, Nat.reduceLT, reduceIte]
  refine t_formed (ro_len hd) (ro_len hb) (by omega) (by omega) H.inR (.inl (ro_sm hd)) ?_
  try simp only [Lw_k27.sxA, Lw_k27.sxB, exists_eq_left, exists_eq_left', exists_eq', exists_eq, exists_and_left, eq_self, exists_true_left, exists_const, exists_eq_right, exists_false, if_false, if_true, Int.reduceToNat, Nat.reduceAdd, Nat.reduceSub, Nat.reduceLeDiff, Nat.reduceLT, reduceIte]
  exact h
def barP (ar : List (Int × Int)) (b row : List Int) : Bool := decide (0 < maxZ row) && decide (row ≠ b) && decide (fE ar row b - fE ar b row ≤ 0)
def splP (v : List (List Int)) (b row : List Int) : Bool := decide (0 < maxZ row) && decide (row ≠ b) && decide (subL b row ∈ v)
def orN : Option (List Int) → D
  | some r => I r
  | none => .non
theorem t_bar_of {n : Nat} {ar : List (Int × Int)} {kn : Kn} {b : List Int} {v : List (List Int)} (H : HallOk n ar) (hb : rowOk n b = true) (hv : findK kn b = some v) (ho : ∀ r ∈ v, rowOk n r = true) (h : P (orN (v.find? (barP ar b))) k) : wf_bar_of c [(D.ins c.C_Hall ["many", "arrows"] [D.int n, D.tup (List.map pD ar)]), KD kn, I b] k P := by
  have hn1 := H.n1
  rw [wf_bar_of, s_of, w_bar_of]
  try simp only [Lw_k27.sxA, Lw_k27.sxB, exists_eq_left, exists_eq_left', exists_eq', exists_eq, exists_and_left, eq_self, exists_true_left, exists_const, exists_eq_right, exists_false, if_false, if_true, Int.reduceToNat, Nat.reduceAdd, Nat.reduceSub, Nat.reduceLeDiff, Nat.reduceLT, reduceIte]
  refine ⟨_, _, rfl, _, keyT_I b, _, by rw [valD_K, hv]; rfl, ?_⟩
  try simp only [Lw_k27.sxA, Lw_k27.sxB, exists_eq_left, exists_eq_left', exists_eq', exists_eq, exists_and_left, eq_self, exists_true_left, exists_const, exists_eq_right, exists_false, if_false, if_true, Int.reduceToNat, Nat.reduceAdd, Nat.reduceSub, Nat.reduceLeDiff, Nat.reduceLT, reduceIte]
  refine for_map I (fun rest ρ => ∃ s3 : Slot, ρ = [.val (D.ins c.C_Hall ["many", "arrows"] [D.int n, D.tup (List.map pD ar)]), .val (KD kn), .val (I b), s3] ∧ rest.find? (barP ar b) = v.find? (barP ar b) ∧ ∀ r ∈ rest, rowOk n r = true) (fun row rest ρ N hI hN => ?_) (fun ρ hI => ?_) v _ ⟨_, rfl, rfl, ho⟩
  · obtain ⟨s3, rfl, hf, hr⟩ := hI
    have hro := hr row List.mem_cons_self
    have ne : row ≠ [] := fun z => by have := ro_len hro; rw [z] at this; simp at this; omega
    rw [List.find?_cons] at hf
    try simp only [Lw_k27.sxA, Lw_k27.sxB, exists_eq_left, exists_eq_left', exists_eq', exists_eq, exists_and_left, eq_self, exists_true_left, exists_const, exists_eq_right, exists_false, if_false, if_true, Int.reduceToNat, Nat.reduceAdd, Nat.reduceSub, Nat.reduceLeDiff, Nat.reduceLT, reduceIte]
    have go : barP ar b row = false → N [.val (D.ins c.C_Hall ["many", "arrows"] [D.int n, D.tup (List.map pD ar)]), .val (KD kn), .val (I b), .val (I row)] k := fun e => by
      rw [e] at hf
      exact hN _ ⟨_, rfl, hf, fun r hr' => hr r (List.mem_cons_of_mem _ hr')⟩
    refine ⟨ne, ?_⟩
    by_cases h1 : 0 < maxZ row
    · rw [if_pos (decide_eq_true h1)]
      by_cases h2 : row = b
      · rw [if_neg (by simp [h2])]
        exact go (by simp [barP, h2])
      · rw [if_pos (by simp [h2])]
        refine t_balance H hro hb ?_
        try simp only [Lw_k27.sxA, Lw_k27.sxB, exists_eq_left, exists_eq_left', exists_eq', exists_eq, exists_and_left, eq_self, exists_true_left, exists_const, exists_eq_right, exists_false, if_false, if_true, Int.reduceToNat, Nat.reduceAdd, Nat.reduceSub, Nat.reduceLeDiff, Nat.reduceLT, reduceIte]
        by_cases h3 : fE ar row b - fE ar b row ≤ 0
        · rw [if_pos (decide_eq_true h3)]
          have e : barP ar b row = true := by rw [barP, decide_eq_true h1, decide_eq_true h2, decide_eq_true h3]; rfl
          rw [e] at hf
          rw [← hf] at h
          exact h
        · rw [if_neg (by simp; omega)]
          exact go (by rw [barP, decide_eq_false h3, Bool.and_false])
    · rw [if_neg (by simp; omega)]
      exact go (by rw [barP, decide_eq_false h1, Bool.false_and, Bool.false_and])
  · obtain ⟨s3, rfl, hf, _⟩ := hI
    rw [List.find?_nil] at hf
    rw [← hf] at h
    exact h
theorem t_split_of {n : Nat} {ar : List (Int × Int)} {kn : Kn} {b : List Int} {v : List (List Int)} (H : HallOk n ar) (hb : rowOk n b = true) (hv : findK kn b = some v) (ho : ∀ r ∈ v, rowOk n r = true) (h : P (orN (v.find? (splP v b))) k) : wf_split_of c [KD kn, I b] k P := by
  have hn1 := H.n1
  have hn7 := H.n7
  rw [wf_split_of, s_of, w_split_of]
  try simp only [Lw_k27.sxA, Lw_k27.sxB, exists_eq_left, exists_eq_left', exists_eq', exists_eq, exists_and_left, eq_self, exists_true_left, exists_const, exists_eq_right, exists_false, if_false, if_true, Int.reduceToNat, Nat.reduceAdd, Nat.reduceSub, Nat.reduceLeDiff, Nat.reduceLT, reduceIte]
  refine ⟨_, _, rfl, _, keyT_I b, _, by rw [valD_K, hv]; rfl, ?_⟩
  try simp only [Lw_k27.sxA, Lw_k27.sxB, exists_eq_left, exists_eq_left', exists_eq', exists_eq, exists_and_left, eq_self, exists_true_left, exists_const, exists_eq_right, exists_false, if_false, if_true, Int.reduceToNat, Nat.reduceAdd, Nat.reduceSub, Nat.reduceLeDiff, Nat.reduceLT, reduceIte]
  refine for_map I (fun rest ρ => ∃ s3 : Slot, ρ = [.val (KD kn), .val (I b), s3] ∧ rest.find? (splP v b) = v.find? (splP v b) ∧ ∀ r ∈ rest, rowOk n r = true) (fun row rest ρ N hI hN => ?_) (fun ρ hI => ?_) v _ ⟨_, rfl, rfl, ho⟩
  · obtain ⟨s3, rfl, hf, hr⟩ := hI
    have hro := hr row List.mem_cons_self
    have ne : row ≠ [] := fun z => by have := ro_len hro; rw [z] at this; simp at this; omega
    rw [List.find?_cons] at hf
    try simp only [Lw_k27.sxA, Lw_k27.sxB, exists_eq_left, exists_eq_left', exists_eq', exists_eq, exists_and_left, eq_self, exists_true_left, exists_const, exists_eq_right, exists_false, if_false, if_true, Int.reduceToNat, Nat.reduceAdd, Nat.reduceSub, Nat.reduceLeDiff, Nat.reduceLT, reduceIte]
    have go : splP v b row = false → N [.val (KD kn), .val (I b), .val (I row)] k := fun e => by
      rw [e] at hf
      exact hN _ ⟨_, rfl, hf, fun r hr' => hr r (List.mem_cons_of_mem _ hr')⟩
    refine ⟨ne, ?_⟩
    by_cases h1 : 0 < maxZ row
    · rw [if_pos (decide_eq_true h1)]
      by_cases h2 : row = b
      · rw [if_neg (by simp [h2])]
        exact go (by simp [splP, h2])
      · rw [if_pos (by simp [h2])]
        refine t_taken_off (by rw [ro_len hb]; omega) ?_
        try simp only [Lw_k27.sxA, Lw_k27.sxB, exists_eq_left, exists_eq_left', exists_eq', exists_eq, exists_and_left, eq_self, exists_true_left, exists_const, exists_eq_right, exists_false, if_false, if_true, Int.reduceToNat, Nat.reduceAdd, Nat.reduceSub, Nat.reduceLeDiff, Nat.reduceLT, reduceIte]
        refine ⟨_, _, rfl, _, keyT_I b, _, by rw [valD_K, hv]; rfl, ?_⟩
        refine ⟨_, inOk_rows (subL b row) v, ?_⟩
        rw [memD_rows]
        by_cases h3 : subL b row ∈ v
        · rw [if_pos (decide_eq_true h3)]
          have e : splP v b row = true := by rw [splP, decide_eq_true h1, decide_eq_true h2, decide_eq_true h3]; rfl
          rw [e] at hf
          rw [← hf] at h
          exact h
        · rw [if_neg (by simp [h3])]
          exact go (by rw [splP, decide_eq_false h3, Bool.and_false])
    · rw [if_neg (by simp; omega)]
      exact go (by rw [splP, decide_eq_false h1, Bool.false_and, Bool.false_and])
  · obtain ⟨s3, rfl, hf, _⟩ := hI
    rw [List.find?_nil] at hf
    rw [← hf] at h
    exact h
end Lw_k27

set_option Elab.async false
set_option linter.all false
set_option maxRecDepth 100000
set_option maxHeartbeats 1000000
/-! k27: sums put together, one sums, least exts -/
namespace Lw_k27
open PySem L2 DL
variable {c : CA} {k : Kt} {P : D → Kt → Prop} {a : Addr}
abbrev Qn := List (List Int × Int)
def QK (q : Qn) : List (List Key) := q.map fun e => kyZ e.1
def QV (q : Qn) : List D := q.map fun e => .int e.2
abbrev QD (q : Qn) : D := .dT (QK q) (QV q)
def findQ : Qn → List Int → Option Int
  | [], _ => none
  | e :: r, b => if e.1 = b then some e.2 else findQ r b
def putQ : Qn → List Int → Int → Qn
  | [], b, t => [(b, t)]
  | e :: r, b, t => if e.1 = b then (e.1, t) :: r else e :: putQ r b t
theorem valD_Q : ∀ (q : Qn) (b : List Int), valD (QK q) (QV q) (kyZ b) = (findQ q b).map D.int
  | [], _ => rfl
  | e :: r, b => by
    have ih := valD_Q r b
    unfold valD at ih ⊢
    rw [show QK (e :: r) = kyZ e.1 :: QK r from rfl, show QV (e :: r) = .int e.2 :: QV r from rfl, List.zip_cons_cons, List.find?_cons, findQ]
    by_cases h : e.1 = b
    · rw [decide_eq_true (kyZ_inj.mpr h), if_pos h]; rfl
    · rw [decide_eq_false (fun z => h (kyZ_inj.mp z)), if_neg h]; exact ih
theorem putD_Q : ∀ (q : Qn) (b : List Int) (t : Int), (putD (QK q) (QV q) (kyZ b) (.int t)).1 = QK (putQ q b t) ∧ (putD (QK q) (QV q) (kyZ b) (.int t)).2 = QV (putQ q b t)
  | [], _, _ => ⟨rfl, rfl⟩
  | e :: r, b, t => by
    rw [show QK (e :: r) = kyZ e.1 :: QK r from rfl, show QV (e :: r) = .int e.2 :: QV r from rfl, putD, putQ]
    by_cases h : e.1 = b
    · rw [if_pos (kyZ_inj.mpr h), if_pos h]; exact ⟨rfl, rfl⟩
    · obtain ⟨h1, h2⟩ := putD_Q r b t
      rw [if_neg (fun z => h (kyZ_inj.mp z)), if_neg h]
      exact ⟨by rw [h1]; rfl, by rw [h2]; rfl⟩
theorem QK_mem {q : Qn} {b : List Int} : kyZ b ∈ QK q ↔ b ∈ q.map (·.1) := by
  unfold QK
  constructor
  · intro h
    obtain ⟨e, he, h⟩ := List.mem_map.mp h
    exact List.mem_map.mpr ⟨e, he, kyZ_inj.mp h⟩
  · intro h
    obtain ⟨e, he, h⟩ := List.mem_map.mp h
    exact List.mem_map.mpr ⟨e, he, by rw [h]⟩
theorem putQ_keys : ∀ (q : Qn) (b : List Int) (t : Int), ∀ x, x ∈ (putQ q b t).map (·.1) → x = b ∨ x ∈ q.map (·.1)
  | [], b, t, x, h => by simp only [putQ, List.map_cons, List.map_nil, List.mem_singleton] at h; exact .inl h
  | e :: r, b, t, x, h => by
    rw [putQ] at h
    by_cases q : e.1 = b
    · rw [if_pos q] at h; exact .inr h
    · rw [if_neg q, List.map_cons, List.mem_cons] at h
      rcases h with h | h
      · exact .inr (by rw [List.map_cons, List.mem_cons]; exact .inl h)
      · exact (putQ_keys r b t x h).imp id fun z => by rw [List.map_cons, List.mem_cons]; exact .inr z
theorem putQ_nodup : ∀ {q : Qn} {b : List Int} {t : Int}, (QK q).Nodup → (QK (putQ q b t)).Nodup
  | [], b, t, _ => by simp [putQ, QK]
  | e :: r, b, t, h => by
    rw [show QK (e :: r) = kyZ e.1 :: QK r from rfl, List.nodup_cons] at h
    rw [putQ]
    by_cases q : e.1 = b
    · rw [if_pos q]
      exact List.nodup_cons.mpr h
    · rw [if_neg q]
      refine List.nodup_cons.mpr ⟨fun z => ?_, putQ_nodup h.2⟩
      rcases putQ_keys r b t _ (QK_mem.mp z) with e | e
      · exact q e
      · exact h.1 (QK_mem.mpr e)
theorem putQ_len : ∀ (q : Qn) (b : List Int) (t : Int), (putQ q b t).length ≤ q.length + 1
  | [], _, _ => by simp [putQ]
  | e :: r, b, t => by
    have := putQ_len r b t
    rw [putQ]
    by_cases q : e.1 = b
    · rw [if_pos q]; simp
    · rw [if_neg q, List.length_cons, List.length_cons]; omega
theorem findQ_mem : ∀ {q : Qn} {b : List Int}, b ∈ q.map (·.1) → ∃ t, findQ q b = some t
  | [], b, h => by simp at h
  | e :: r, b, h => by
    rw [findQ]
    by_cases q : e.1 = b
    · exact ⟨_, if_pos q⟩
    · rw [if_neg q]
      rw [List.map_cons, List.mem_cons] at h
      exact findQ_mem (h.resolve_left fun z => q z.symm)
def addQ (y acc : Qn) (b : List Int) : Qn := putQ acc b ((findQ acc b).getD 0 + (findQ y b).getD 0)
def joinQ (x y : Qn) : Qn := (y.map (·.1)).foldl (addQ y) x
theorem tupK_ky (b : List Int) : tupK (kyZ b) = I b := by
  rw [tupK, kyZ, List.map_map]
  rfl
theorem tupK_Q (q : Qn) : (QK q).map tupK = (q.map (·.1)).map I := by
  rw [QK, List.map_map, List.map_map]
  exact List.map_congr_left fun e _ => tupK_ky e.1
theorem t_joined {x y : Qn} (hh : hashOk (QK x) = true) (nd : (QK x).Nodup) (hz : x.length + y.length ≤ 2000) (h : P (QD (joinQ x y)) k) : wf_joined c [QD x, QD y] k P := by
  rw [wf_joined, s_of, w_joined]
  try simp only [Lw_k27.sxA, Lw_k27.sxB, exists_eq_left, exists_eq_left', exists_eq', exists_eq, exists_and_left, eq_self, exists_true_left, exists_const, exists_eq_right, exists_false, if_false, if_true, Int.reduceToNat, Nat.reduceAdd, Nat.reduceSub, Nat.reduceLeDiff, Nat.reduceLT, reduceIte]
  refine ⟨_, _, rfl, hh, _, _, rfl, ?_⟩
  rw [tupK_Q]
  refine for_map I (fun rest ρ => ∃ (q : Qn) (s3 : Slot), ρ = [.val (QD x), .val (QD y), .own (.t (QK q) (QV q)), s3] ∧ rest.foldl (addQ y) q = joinQ x y ∧ (QK q).Nodup ∧ q.length + rest.length ≤ 2000 ∧ ∀ b ∈ rest, b ∈ y.map (·.1)) (fun b rest ρ N hI hN => ?_) (fun ρ hI => ?_) (y.map (·.1)) _ ⟨x, _, rfl, rfl, nd, by rw [List.length_map]; exact hz, fun b hb => hb⟩
  · obtain ⟨q, s3, rfl, hf, nq, hq, hb⟩ := hI
    rw [List.length_cons] at hq
    obtain ⟨t, ht⟩ := findQ_mem (hb b List.mem_cons_self)
    try simp only [Lw_k27.sxA, Lw_k27.sxB, exists_eq_left, exists_eq_left', exists_eq', exists_eq, exists_and_left, eq_self, exists_true_left, exists_const, exists_eq_right, exists_false, if_false, if_true, Int.reduceToNat, Nat.reduceAdd, Nat.reduceSub, Nat.reduceLeDiff, Nat.reduceLT, reduceIte]
    refine ⟨⟨_, _, rfl⟩, _, _, rfl, _, keyT_I b, _, _, rfl, _, keyT_I b, _, by rw [valD_Q, ht]; rfl, .int ((findQ q b).getD 0), ?_, ?_⟩
    · rw [valD_Q]
      cases findQ q b <;> rfl
    · refine ⟨⟨_, _, rfl⟩, _, keyT_I b, _, _, rfl, nq, by rw [QK, List.length_map]; omega, ?_⟩
      obtain ⟨p1, p2⟩ := putD_Q q b ((findQ q b).getD 0 + t)
      rw [p1, p2]
      have e : putQ q b ((findQ q b).getD 0 + t) = addQ y q b := by rw [addQ, ht]; rfl
      rw [e]
      refine hN _ ⟨addQ y q b, _, rfl, hf, putQ_nodup nq, ?_, fun z hz => hb z (List.mem_cons_of_mem _ hz)⟩
      have := putQ_len q b ((findQ q b).getD 0 + (findQ y b).getD 0)
      unfold addQ
      omega
  · obtain ⟨q, s3, rfl, hf, _⟩ := hI
    have e : q = joinQ x y := hf
    subst e
    try simp only [Lw_k27.sxA, Lw_k27.sxB, exists_eq_left, exists_eq_left', exists_eq', exists_eq, exists_and_left, eq_self, exists_true_left, exists_const, exists_eq_right, exists_false, if_false, if_true, Int.reduceToNat, Nat.reduceAdd, Nat.reduceSub, Nat.reduceLeDiff, Nat.reduceLT, reduceIte]
    exact h
/-- the sum by splits; none where a lookup, a bound or the hashes are not as they must be -/
def smF (n : Nat) (ar : List (Int × Int)) (kn : Kn) : Nat → List Int → Option Qn
  | 0, _ => none
  | m + 1, b => if rowOk n b = true then if maxZ b = 0 then some [] else match findK kn b with
      | none => none
      | some v => if (v.all (rowOk n)) = true then match (match v.find? (barP ar b) with
          | none => none
          | some _ => v.find? (splP v b)) with
        | none => some [(b, 1)]
        | some row => match smF n ar kn m row, smF n ar kn m (subL b row) with
          | some x, some y => if (hashOk (QK x) && decide (x.length + y.length ≤ 2000)) = true ∧ (QK x).Nodup then some (joinQ x y) else none
          | _, _ => none
        else none
    else none
theorem t_summed {n : Nat} {ar : List (Int × Int)} {kn : Kn} (H : HallOk n ar) : ∀ (m : Nat) (b : List Int) (q : Qn) (P : D → Kt → Prop) (k : Kt), smF n ar kn m b = some q → P (QD q) k → wf_summed c m [(D.ins c.C_Hall ["many", "arrows"] [D.int n, D.tup (List.map pD ar)]), KD kn, I b] k P
  | 0, b, q, P, k, hs, _ => by cases hs
  | m + 1, b, q, P, k, hs, h => by
    have hn1 := H.n1
    rw [smF] at hs
    by_cases hb : rowOk n b = true
    · rw [if_pos hb] at hs
      have ne : b ≠ [] := fun z => by have := ro_len hb; rw [z] at this; simp at this; omega
      rw [wf_summed, s_of, w_summed]
      try simp only [Lw_k27.sxA, Lw_k27.sxB, exists_eq_left, exists_eq_left', exists_eq', exists_eq, exists_and_left, eq_self, exists_true_left, exists_const, exists_eq_right, exists_false, if_false, if_true, Int.reduceToNat, Nat.reduceAdd, Nat.reduceSub, Nat.reduceLeDiff, Nat.reduceLT, reduceIte]
      refine ⟨ne, ?_⟩
      by_cases hm : maxZ b = 0
      · rw [if_pos hm] at hs
        cases hs
        rw [if_pos (decide_eq_true hm)]
        exact h
      · rw [if_neg hm] at hs
        rw [if_neg (by simp [hm])]
        cases hv : findK kn b with
        | none => rw [hv] at hs; cases hs
        | some v =>
          rw [hv] at hs
          dsimp only at hs
          by_cases ho : v.all (rowOk n) = true
          · rw [if_pos ho] at hs
            have ho' := List.all_eq_true.mp ho
            refine t_bar_of H hb hv ho' ?_
            cases hf : v.find? (barP ar b) with
            | none =>
              rw [hf] at hs
              cases hs
              rw [if_pos (show isNonD (orN none) = true from rfl)]
              exact ⟨_, keyT_I b, h⟩
            | some r0 =>
              rw [hf] at hs
              dsimp only at hs
              rw [if_neg (by simp [orN, isNonD])]
              refine t_split_of H hb hv ho' ?_
              cases hg : v.find? (splP v b) with
              | none =>
                rw [hg] at hs
                cases hs
                rw [if_pos (show isNonD (orN none) = true from rfl)]
                exact ⟨_, keyT_I b, h⟩
              | some row =>
                rw [hg] at hs
                dsimp only at hs
                rw [if_neg (by simp [orN, isNonD])]
                cases e1 : smF n ar kn m row with
                | none => rw [e1] at hs; cases hs
                | some x =>
                  cases e2 : smF n ar kn m (subL b row) with
                  | none => rw [e1, e2] at hs; cases hs
                  | some y =>
                    rw [e1, e2] at hs
                    dsimp only at hs
                    by_cases g : (hashOk (QK x) && decide (x.length + y.length ≤ 2000)) = true ∧ (QK x).Nodup
                    · rw [if_pos g] at hs
                      cases hs
                      obtain ⟨g1, g2⟩ := g
                      rw [Bool.and_eq_true, decide_eq_true_eq] at g1
                      refine t_summed H m row x _ _ e1 ?_
                      refine t_taken_off (by rw [ro_len hb]; have := H.n7; omega) ?_
                      refine t_summed H m _ y _ _ e2 ?_
                      exact t_joined g1.1 g2 g1.2 h
                    · rw [if_neg g] at hs; cases hs
          · rw [if_neg ho] at hs; cases hs
    · rw [if_neg hb] at hs; cases hs
theorem findQ_nodup : ∀ {q : Qn}, (QK q).Nodup → (q.map (·.1)).map (fun b => (b, (findQ q b).getD 0)) = q := by
  have key : ∀ {q : Qn}, (QK q).Nodup → ∀ e ∈ q, findQ q e.1 = some e.2 := by
    intro q
    induction q with
    | nil => intro _ e he; cases he
    | cons x r ih =>
      intro h e he
      rw [show QK (x :: r) = kyZ x.1 :: QK r from rfl, List.nodup_cons] at h
      rw [findQ]
      rcases List.mem_cons.mp he with rfl | he
      · rw [if_pos rfl]
      · rw [if_neg fun z => h.1 (by rw [z]; exact QK_mem.mpr (List.mem_map.mpr ⟨e, he, rfl⟩))]
        exact ih h.2 e he
  intro q h
  rw [List.map_map]
  refine (List.map_congr_left fun e he => ?_).trans (List.map_id _)
  show (e.1, (findQ q e.1).getD 0) = e
  rw [key h e he]; rfl
theorem t_pairs_of {n : Nat} {ar : List (Int × Int)} {kn : Kn} {b : List Int} {q : Qn} (H : HallOk n ar) (hb : rowOk n b = true) (hk : knA n ar b = some kn) (hs : smF n ar kn 20 b = some q) (nd : (QK q).Nodup) (hz : q.length ≤ 2000) (h : P (.tup ((sortQ q).map tP)) k) : wf_pairs_of c [(D.ins c.C_Hall ["many", "arrows"] [D.int n, D.tup (List.map pD ar)]), I b] k P := by
  rw [wf_pairs_of, s_of, w_pairs_of]
  try simp only [Lw_k27.sxA, Lw_k27.sxB, exists_eq_left, exists_eq_left', exists_eq', exists_eq, exists_and_left, eq_self, exists_true_left, exists_const, exists_eq_right, exists_false, if_false, if_true, Int.reduceToNat, Nat.reduceAdd, Nat.reduceSub, Nat.reduceLeDiff, Nat.reduceLT, reduceIte]
  refine t_parts_known H hb hk ?_
  try simp only [Lw_k27.sxA, Lw_k27.sxB, exists_eq_left, exists_eq_left', exists_eq', exists_eq, exists_and_left, eq_self, exists_true_left, exists_const, exists_eq_right, exists_false, if_false, if_true, Int.reduceToNat, Nat.reduceAdd, Nat.reduceSub, Nat.reduceLeDiff, Nat.reduceLT, reduceIte]
  refine t_summed H 20 b q _ _ hs ?_
  try simp only [Lw_k27.sxA, Lw_k27.sxB, exists_eq_left, exists_eq_left', exists_eq', exists_eq, exists_and_left, eq_self, exists_true_left, exists_const, exists_eq_right, exists_false, if_false, if_true, Int.reduceToNat, Nat.reduceAdd, Nat.reduceSub, Nat.reduceLeDiff, Nat.reduceLT, reduceIte]
  refine ⟨_, _, rfl, ?_⟩
  rw [tupK_Q]
  refine lc_map I tP (fun b => (b, (findQ q b).getD 0)) (sz (by rw [List.length_map]; omega)) (fun b hb R hR => ?_) ?_
  · obtain ⟨t, ht⟩ := findQ_mem hb
    try simp only [Lw_k27.sxA, Lw_k27.sxB, exists_eq_left, exists_eq_left', exists_eq', exists_eq, exists_and_left, eq_self, exists_true_left, exists_const, exists_eq_right, exists_false, if_false, if_true, Int.reduceToNat, Nat.reduceAdd, Nat.reduceSub, Nat.reduceLeDiff, Nat.reduceLT, reduceIte, lcStep]
    refine ⟨_, _, rfl, _, keyT_I b, _, by rw [valD_Q, ht]; rfl, ?_⟩
    try simp only [Lw_k27.sxA, Lw_k27.sxB, exists_eq_left, exists_eq_left', exists_eq', exists_eq, exists_and_left, eq_self, exists_true_left, exists_const, exists_eq_right, exists_false, if_false, if_true, Int.reduceToNat, Nat.reduceAdd, Nat.reduceSub, Nat.reduceLeDiff, Nat.reduceLT, reduceIte]
    rw [ht] at hR
    exact hR
  · rw [findQ_nodup nd]
    try simp only [Lw_k27.sxA, Lw_k27.sxB, exists_eq_left, exists_eq_left', exists_eq', exists_eq, exists_and_left, eq_self, exists_true_left, exists_const, exists_eq_right, exists_false, if_false, if_true, Int.reduceToNat, Nat.reduceAdd, Nat.reduceSub, Nat.reduceLeDiff, Nat.reduceLT, reduceIte]
    exact t_sortQ h
theorem t_one_sum {n : Nat} {ar : List (Int × Int)} {kn : Kn} {b : List Int} {q : Qn} (H : HallOk n ar) (hb : rowOk n b = true) (hk : knA n ar b = some kn) (hs : smF n ar kn 20 b = some q) (nd : (QK q).Nodup) (hz : q.length ≤ 2000) (h : P (.tup ((sortQ q).map tP)) k) : wf_one_sum c [(D.ins c.C_Hall ["many", "arrows"] [D.int n, D.tup (List.map pD ar)]), I b] k P := by
  have hn := H.n7
  have hn1 := H.n1
  rw [wf_one_sum, s_of, w_one_sum]
  try simp only [Lw_k27.sxA, Lw_k27.sxB, exists_eq_left, exists_eq_left', exists_eq', exists_eq, exists_and_left, eq_self, exists_true_left, exists_const, exists_eq_right, exists_false, if_false, if_true, Int.reduceToNat, Nat.reduceAdd, Nat.reduceSub, Nat.reduceLeDiff, Nat.reduceLT, reduceIte]
  have one : ∀ Q : D → Kt → Prop, Q (I b) k → wf_need_one c [(D.ins c.C_Hall ["many", "arrows"] [D.int n, D.tup (List.map pD ar)]), I b] k Q := fun Q hQ => by
    rw [wf_need_one, s_of, w_need_one]
    try simp only [Lw_k27.sxA, Lw_k27.sxB, exists_eq_left, exists_eq_left', exists_eq', exists_eq, exists_and_left, eq_self, exists_true_left, exists_const, exists_eq_right, exists_false, if_false, if_true, Int.reduceToNat, Nat.reduceAdd, Nat.reduceSub, Nat.reduceLeDiff, Nat.reduceLT, reduceIte]
    refine t_need_hall ?_
    try simp only [Lw_k27.sxA, Lw_k27.sxB, exists_eq_left, exists_eq_left', exists_eq', exists_eq, exists_and_left, eq_self, exists_true_left, exists_const, exists_eq_right, exists_false, if_false, if_true, Int.reduceToNat, Nat.reduceAdd, Nat.reduceSub, Nat.reduceLeDiff, Nat.reduceLT, reduceIte]
    refine t_need_sizes (by omega) hn1 (ro_len hb) (fun x hx => (ro_nn hb x hx).1) ?_
    try simp only [Lw_k27.sxA, Lw_k27.sxB, exists_eq_left, exists_eq_left', exists_eq', exists_eq, exists_and_left, eq_self, exists_true_left, exists_const, exists_eq_right, exists_false, if_false, if_true, Int.reduceToNat, Nat.reduceAdd, Nat.reduceSub, Nat.reduceLeDiff, Nat.reduceLT, reduceIte]
    refine t_need_few (fun x hx => (ro_nn hb x hx).1) (ro_few hb) ?_
    try simp only [Lw_k27.sxA, Lw_k27.sxB, exists_eq_left, exists_eq_left', exists_eq', exists_eq, exists_and_left, eq_self, exists_true_left, exists_const, exists_eq_right, exists_false, if_false, if_true, Int.reduceToNat, Nat.reduceAdd, Nat.reduceSub, Nat.reduceLeDiff, Nat.reduceLT, reduceIte]
    exact hQ
  refine one _ ?_
  try simp only [Lw_k27.sxA, Lw_k27.sxB, exists_eq_left, exists_eq_left', exists_eq', exists_eq, exists_and_left, eq_self, exists_true_left, exists_const, exists_eq_right, exists_false, if_false, if_true, Int.reduceToNat, Nat.reduceAdd, Nat.reduceSub, Nat.reduceLeDiff, Nat.reduceLT, reduceIte]
  refine t_pairs_of H hb hk hs nd hz ?_
  try simp only [Lw_k27.sxA, Lw_k27.sxB, exists_eq_left, exists_eq_left', exists_eq', exists_eq, exists_and_left, eq_self, exists_true_left, exists_const, exists_eq_right, exists_false, if_false, if_true, Int.reduceToNat, Nat.reduceAdd, Nat.reduceSub, Nat.reduceLeDiff, Nat.reduceLT, reduceIte]
  exact h
/-- the greatest of the forms turned about -/
def maxE (ar : List (Int × Int)) (v : List (List Int)) (d : List Int) : Int := match v with
  | [] => 0
  | x :: r => (r.map fun y => (-fE ar y d, y)).foldl (fun m p => max m p.1) (-fE ar x d)
theorem t_least_ext {n : Nat} {ar : List (Int × Int)} {kn : Kn} {b d : List Int} {v : List (List Int)} (H : HallOk n ar) (hb : rowOk n b = true) (hd : rowOk n d = true) (hk : knA n ar b = some kn) (hv : findK kn b = some v) (h0 : v ≠ []) (ho : ∀ r ∈ v, rowOk n r = true) (hz : v.length ≤ 2000)
    (h : ∀ y : Int × List Int, y.1 = maxE ar v d → P (tN y) k) : wf_least_ext c [(D.ins c.C_Hall ["many", "arrows"] [D.int n, D.tup (List.map pD ar)]), I b, I d] k P := by
  have hn := H.n7
  have hl := H.len
  rw [wf_least_ext, s_of, w_least_ext]
  try simp only [Lw_k27.sxA, Lw_k27.sxB, exists_eq_left, exists_eq_left', exists_eq', exists_eq, exists_and_left, eq_self, exists_true_left, exists_const, exists_eq_right, exists_false, if_false, if_true, Int.reduceToNat, Nat.reduceAdd, Nat.reduceSub, Nat.reduceLeDiff, Nat.reduceLT, reduceIte]
  refine t_parts_known H hb hk ?_
  try simp only [Lw_k27.sxA, Lw_k27.sxB, exists_eq_left, exists_eq_left', exists_eq', exists_eq, exists_and_left, eq_self, exists_true_left, exists_const, exists_eq_right, exists_false, if_false, if_true, Int.reduceToNat, Nat.reduceAdd, Nat.reduceSub, Nat.reduceLeDiff, Nat.reduceLT, reduceIte]
  refine ⟨_, _, rfl, _, keyT_I b, _, by rw [valD_K, hv]; rfl, ?_⟩
  try simp only [Lw_k27.sxA, Lw_k27.sxB, exists_eq_left, exists_eq_left', exists_eq', exists_eq, exists_and_left, eq_self, exists_true_left, exists_const, exists_eq_right, exists_false, if_false, if_true, Int.reduceToNat, Nat.reduceAdd, Nat.reduceSub, Nat.reduceLeDiff, Nat.reduceLT, reduceIte]
  refine lc_map I tN (fun y => (-fE ar y d, y)) (sz (by omega)) (fun r hr R hR => ?_) ?_
  · try simp only [Lw_k27.sxA, Lw_k27.sxB, exists_eq_left, exists_eq_left', exists_eq', exists_eq, exists_and_left, eq_self, exists_true_left, exists_const, exists_eq_right, exists_false, if_false, if_true, Int.reduceToNat, Nat.reduceAdd, Nat.reduceSub, Nat.reduceLeDiff, Nat.reduceLT, reduceIte, lcStep]
    refine t_formed (ro_len (ho r hr)) (ro_len hd) (by omega) (by omega) H.inR (.inr (ro_sm hd)) ?_
    try simp only [Lw_k27.sxA, Lw_k27.sxB, exists_eq_left, exists_eq_left', exists_eq', exists_eq, exists_and_left, eq_self, exists_true_left, exists_const, exists_eq_right, exists_false, if_false, if_true, Int.reduceToNat, Nat.reduceAdd, Nat.reduceSub, Nat.reduceLeDiff, Nat.reduceLT, reduceIte]
    exact hR
  · try simp only [Lw_k27.sxA, Lw_k27.sxB, exists_eq_left, exists_eq_left', exists_eq', exists_eq, exists_and_left, eq_self, exists_true_left, exists_const, exists_eq_right, exists_false, if_false, if_true, Int.reduceToNat, Nat.reduceAdd, Nat.reduceSub, Nat.reduceLeDiff, Nat.reduceLT, reduceIte]
    cases v with
    | nil => exact absurd rfl h0
    | cons x r =>
      rw [List.map_cons]
      obtain ⟨d', m1, m2, m3, m4, m5⟩ := t_maxN (x := (-fE ar x d, x)) (xs := r.map fun y => (-fE ar y d, y)) (P := fun z => P z k) fun y hy => h y hy
      exact ⟨m1, m2, m3, d', m4, m5⟩
theorem t_general_ext {n : Nat} {ar : List (Int × Int)} {kn : Kn} {b d : List Int} {v : List (List Int)} (H : HallOk n ar) (hb : rowOk n b = true) (hd : rowOk n d = true) (hk : knA n ar b = some kn) (hv : findK kn b = some v) (h0 : v ≠ []) (ho : ∀ r ∈ v, rowOk n r = true) (hz : v.length ≤ 2000)
    (h : P (.int (maxE ar v d)) k) : wf_general_ext c [(D.ins c.C_Hall ["many", "arrows"] [D.int n, D.tup (List.map pD ar)]), I b, I d] k P := by
  rw [wf_general_ext, s_of, w_general_ext]
  try simp only [Lw_k27.sxA, Lw_k27.sxB, exists_eq_left, exists_eq_left', exists_eq', exists_eq, exists_and_left, eq_self, exists_true_left, exists_const, exists_eq_right, exists_false, if_false, if_true, Int.reduceToNat, Nat.reduceAdd, Nat.reduceSub, Nat.reduceLeDiff, Nat.reduceLT, reduceIte]
  refine t_need_two H hb hd ?_
  try simp only [Lw_k27.sxA, Lw_k27.sxB, exists_eq_left, exists_eq_left', exists_eq', exists_eq, exists_and_left, eq_self, exists_true_left, exists_const, exists_eq_right, exists_false, if_false, if_true, Int.reduceToNat, Nat.reduceAdd, Nat.reduceSub, Nat.reduceLeDiff, Nat.reduceLT, reduceIte]
  refine t_least_ext H hb hd hk hv h0 ho hz fun y hy => ?_
  try simp only [Lw_k27.sxA, Lw_k27.sxB, exists_eq_left, exists_eq_left', exists_eq', exists_eq, exists_and_left, eq_self, exists_true_left, exists_const, exists_eq_right, exists_false, if_false, if_true, Int.reduceToNat, Nat.reduceAdd, Nat.reduceSub, Nat.reduceLeDiff, Nat.reduceLT, reduceIte]
  refine ⟨.int y.1, rfl, ?_⟩
  rw [hy]
  exact h
theorem t_general_hom {n : Nat} {ar : List (Int × Int)} {kn : Kn} {b d : List Int} {v : List (List Int)} (H : HallOk n ar) (hb : rowOk n b = true) (hd : rowOk n d = true) (hk : knA n ar b = some kn) (hv : findK kn b = some v) (h0 : v ≠ []) (ho : ∀ r ∈ v, rowOk n r = true) (hz : v.length ≤ 2000)
    (h : P (.int (maxE ar v d + fE ar b d)) k) : wf_general_hom c [(D.ins c.C_Hall ["many", "arrows"] [D.int n, D.tup (List.map pD ar)]), I b, I d] k P := by
  have hn := H.n7
  have hl := H.len
  rw [wf_general_hom, s_of, w_general_hom]
  try simp only [Lw_k27.sxA, Lw_k27.sxB, exists_eq_left, exists_eq_left', exists_eq', exists_eq, exists_and_left, eq_self, exists_true_left, exists_const, exists_eq_right, exists_false, if_false, if_true, Int.reduceToNat, Nat.reduceAdd, Nat.reduceSub, Nat.reduceLeDiff, Nat.reduceLT, reduceIte]
  refine t_need_two H hb hd ?_
  try simp only [Lw_k27.sxA, Lw_k27.sxB, exists_eq_left, exists_eq_left', exists_eq', exists_eq, exists_and_left, eq_self, exists_true_left, exists_const, exists_eq_right, exists_false, if_false, if_true, Int.reduceToNat, Nat.reduceAdd, Nat.reduceSub, Nat.reduceLeDiff, Nat.reduceLT, reduceIte]
  refine t_least_ext H hb hd hk hv h0 ho hz fun y hy => ?_
  try simp only [Lw_k27.sxA, Lw_k27.sxB, exists_eq_left, exists_eq_left', exists_eq', exists_eq, exists_and_left, eq_self, exists_true_left, exists_const, exists_eq_right, exists_false, if_false, if_true, Int.reduceToNat, Nat.reduceAdd, Nat.reduceSub, Nat.reduceLeDiff, Nat.reduceLT, reduceIte]
  refine ⟨.int y.1, rfl, ?_⟩
  rw [hy]
  refine t_formed (ro_len hb) (ro_len hd) (by omega) (by omega) H.inR (.inr (ro_sm hd)) ?_
  try simp only [Lw_k27.sxA, Lw_k27.sxB, exists_eq_left, exists_eq_left', exists_eq', exists_eq, exists_and_left, eq_self, exists_true_left, exists_const, exists_eq_right, exists_false, if_false, if_true, Int.reduceToNat, Nat.reduceAdd, Nat.reduceSub, Nat.reduceLeDiff, Nat.reduceLT, reduceIte]
  exact h
end Lw_k27

set_option Elab.async false
set_option linter.all false
set_option maxRecDepth 100000
set_option maxHeartbeats 1000000
/-! k27: the law's own rows below -/
namespace Lw_k27
open PySem L2 DL
variable {c : CA} {k : Kt} {P : D → Kt → Prop} {a : Addr}
theorem t_law_below {xs : List Int} (hll : xs.length ≤ 1000) (h0 : ∀ x ∈ xs, 0 ≤ x) (hp : prodB xs ≤ 2000) (h : P (.lst ((rowsB xs).map I)) k) : wf__law_s_below c [I xs] k P := by
  rw [wf__law_s_below, s_of, w__law_s_below]
  try simp only [Lw_k27.sxA, Lw_k27.sxB, exists_eq_left, exists_eq_left', exists_eq', exists_eq, exists_and_left, eq_self, exists_true_left, exists_const, exists_eq_right, exists_false, if_false, if_true, Int.reduceToNat, Nat.reduceAdd, Nat.reduceSub, Nat.reduceLeDiff, Nat.reduceLT, reduceIte]
  refine for_map D.int (fun rest ρ => ∃ (f : List (List Int)) (s2 s3 s4 : Slot), ρ = [.val (I xs), .val (.lst (f.map I)), s2, s3, s4, .un] ∧ rest.foldl stepB f = rowsB xs ∧ (f.length : Int) * prodB rest ≤ 2000 ∧ (∀ x ∈ rest, 0 ≤ x) ∧ ∀ r ∈ f, r.length + rest.length = xs.length) (fun x rest ρ N hI hN => ?_) (fun ρ hI => ?_) xs _ ⟨[[]], _, _, _, rfl, rfl, by simpa using hp, h0, fun r hr => by rw [List.mem_singleton.mp hr]; simp⟩
  · obtain ⟨f, s2, s3, s4, rfl, hf, hq, hr, hw⟩ := hI
    have hx := hr x List.mem_cons_self
    have hp1 := prodB_pos fun y hy => hr y (List.mem_cons_of_mem _ hy)
    have hl := stepB_len x hx f
    rw [prodB, ← Int.mul_assoc, ← hl] at hq
    have hx2 : ((stepB f x).length : Int) * 1 ≤ (stepB f x).length * prodB rest := Int.mul_le_mul_of_nonneg_left hp1 (by omega)
    try simp only [Lw_k27.sxA, Lw_k27.sxB, exists_eq_left, exists_eq_left', exists_eq', exists_eq, exists_and_left, eq_self, exists_true_left, exists_const, exists_eq_right, exists_false, if_false, if_true, Int.reduceToNat, Nat.reduceAdd, Nat.reduceSub, Nat.reduceLeDiff, Nat.reduceLT, reduceIte]
    refine for_map I (fun r2 ρ => ∃ (acc : List (List Int)) (s4 : Slot), ρ = [.val (I xs), .val (.lst (f.map I)), .val (.int x), .val (.lst (acc.map I)), s4, .un] ∧ acc ++ r2.flatMap (longB x) = stepB f x ∧ ∀ r ∈ r2, r ∈ f) (fun row r2 ρ N2 hI2 hN2 => ?_) (fun ρ hI2 => ?_) f _ ⟨[], _, rfl, rfl, fun r hr => hr⟩
    · obtain ⟨acc, s4, rfl, ha, hm⟩ := hI2
      have hrow := hm row List.mem_cons_self
      have f1 : 1 * (x + 1) ≤ (f.length : Int) * (x + 1) := Int.mul_le_mul_of_nonneg_right (by have := List.length_pos_of_mem hrow; omega) (by omega)
      have hwr := hw row hrow
      rw [List.flatMap_cons, ← List.append_assoc] at ha
      have hal : acc.length + (longB x row).length ≤ 2000 := by
        have := congrArg List.length ha
        simp only [List.length_append] at this
        omega
      try simp only [Lw_k27.sxA, Lw_k27.sxB, exists_eq_left, exists_eq_left', exists_eq', exists_eq, exists_and_left, eq_self, exists_true_left, exists_const, exists_eq_right, exists_false, if_false, if_true, Int.reduceToNat, Nat.reduceAdd, Nat.reduceSub, Nat.reduceLeDiff, Nat.reduceLT, reduceIte]
      refine ⟨by omega, by omega, ?_⟩
      refine lc_map D.int I (fun i => row ++ [i]) (sz (by rw [upto_len]; omega)) (fun i hi R' hR' => ?_) ?_
      · try simp only [Lw_k27.sxA, Lw_k27.sxB, exists_eq_left, exists_eq_left', exists_eq', exists_eq, exists_and_left, eq_self, exists_true_left, exists_const, exists_eq_right, exists_false, if_false, if_true, Int.reduceToNat, Nat.reduceAdd, Nat.reduceSub, Nat.reduceLeDiff, Nat.reduceLT, reduceIte, lcStep, List.length_map]
        refine ⟨by omega, ?_⟩
        rw [show I (row ++ [i]) = .tup (row.map .int ++ [.int i]) by rw [I, List.map_append]; rfl] at hR'
        exact hR'
      · try simp only [Lw_k27.sxA, Lw_k27.sxB, exists_eq_left, exists_eq_left', exists_eq', exists_eq, exists_and_left, eq_self, exists_true_left, exists_const, exists_eq_right, exists_false, if_false, if_true, Int.reduceToNat, Nat.reduceAdd, Nat.reduceSub, Nat.reduceLeDiff, Nat.reduceLT, reduceIte]
        refine ⟨?_, ?_⟩
        · rw [longB, List.length_map, upto_len] at hal
          omega
        · refine hN2 _ ⟨acc ++ longB x row, .val (I row), ?_, ha, fun r hr => hm r (List.mem_cons_of_mem _ hr)⟩
          rw [List.map_append]
          rfl
    · obtain ⟨acc, s4, rfl, ha, _⟩ := hI2
      rw [List.flatMap_nil, List.append_nil] at ha
      subst ha
      try simp only [Lw_k27.sxA, Lw_k27.sxB, exists_eq_left, exists_eq_left', exists_eq', exists_eq, exists_and_left, eq_self, exists_true_left, exists_const, exists_eq_right, exists_false, if_false, if_true, Int.reduceToNat, Nat.reduceAdd, Nat.reduceSub, Nat.reduceLeDiff, Nat.reduceLT, reduceIte]
      refine hN _ ⟨stepB f x, _, _, _, rfl, hf, hq, fun y hy => hr y (List.mem_cons_of_mem _ hy), fun q hq2 => ?_⟩
      obtain ⟨r, hr2, hq3⟩ := List.mem_flatMap.mp hq2
      have := hw r hr2
      rw [longB_len hq3]
      rw [List.length_cons] at this
      omega
  · obtain ⟨f, s2, s3, s4, rfl, hf, _⟩ := hI
    have e : f = rowsB xs := hf
    subst e
    try simp only [Lw_k27.sxA, Lw_k27.sxB, exists_eq_left, exists_eq_left', exists_eq', exists_eq, exists_and_left, eq_self, exists_true_left, exists_const, exists_eq_right, exists_false, if_false, if_true, Int.reduceToNat, Nat.reduceAdd, Nat.reduceSub, Nat.reduceLeDiff, Nat.reduceLT, reduceIte]
    exact h
end Lw_k27

set_option Elab.async false
set_option linter.all false
set_option maxRecDepth 100000
set_option maxHeartbeats 1000000
/-! k27: the halls of the law, looked at by the kernel -/
namespace Lw_k27
open PySem L2 DL
/-- the parts of b are v -/
structure Told0 (n : Nat) (ar : List (Int × Int)) (b : List Int) (kn : Kn) (v : List (List Int)) : Prop where
  ro : rowOk n b = true
  kq : knA n ar b = some kn
  vq : findK kn b = some v
  v0 : v ≠ []
  vo : ∀ r ∈ v, rowOk n r = true
  vz : v.length ≤ 2000
/-- .. its sum is q up to order -/
structure Told (n : Nat) (ar : List (Int × Int)) (b : List Int) (kn : Kn) (v : List (List Int)) (q : Qn) : Prop where
  t : Told0 n ar b kn v
  sm : smF n ar kn 20 b = some q
  nd : (QK q).Nodup
  qz : q.length ≤ 2000
def told0 (n : Nat) (ar : List (Int × Int)) (b : List Int) (f : Kn → List (List Int) → Bool) : Bool := rowOk n b && match knA n ar b with
  | none => false
  | some kn => match findK kn b with
    | none => false
    | some v => v.all (rowOk n) && decide (v ≠ []) && decide (v.length ≤ 2000) && f kn v
theorem told0_ok {n : Nat} {ar : List (Int × Int)} {b : List Int} {f : Kn → List (List Int) → Bool} (h : told0 n ar b f = true) : ∃ kn v, Told0 n ar b kn v ∧ f kn v = true := by
  unfold told0 at h
  rw [Bool.and_eq_true] at h
  obtain ⟨h1, h⟩ := h
  cases e1 : knA n ar b with
  | none => rw [e1] at h; cases h
  | some kn =>
    rw [e1] at h
    dsimp only at h
    cases e2 : findK kn b with
    | none => rw [e2] at h; cases h
    | some v =>
      rw [e2] at h
      dsimp only at h
      rw [Bool.and_eq_true, Bool.and_eq_true, Bool.and_eq_true, decide_eq_true_eq, decide_eq_true_eq, List.all_eq_true] at h
      obtain ⟨⟨⟨h2, h3⟩, h4⟩, h⟩ := h
      exact ⟨kn, v, ⟨h1, e1, e2, h3, h2, h4⟩, h⟩
def told (n : Nat) (ar : List (Int × Int)) (b : List Int) (f : List (List Int) → Qn → Bool) : Bool := told0 n ar b fun kn v => match smF n ar kn 20 b with
  | none => false
  | some q => decide ((q.map (·.1)).Nodup) && decide (q.length ≤ 2000) && f v q
theorem told_ok {n : Nat} {ar : List (Int × Int)} {b : List Int} {f : List (List Int) → Qn → Bool} (h : told n ar b f = true) : ∃ kn v q, Told n ar b kn v q ∧ f v q = true := by
  obtain ⟨kn, v, t, h⟩ := told0_ok h
  cases e3 : smF n ar kn 20 b with
  | none => rw [e3] at h; cases h
  | some q =>
    rw [e3] at h
    dsimp only at h
    rw [Bool.and_eq_true, Bool.and_eq_true, decide_eq_true_eq, decide_eq_true_eq] at h
    obtain ⟨⟨h5, h6⟩, h⟩ := h
    refine ⟨kn, v, q, ⟨t, e3, ?_, h6⟩, h⟩
    have : QK q = (q.map (·.1)).map kyZ := by rw [QK, List.map_map]; rfl
    rw [this]
    exact h5.map _ fun a b z e => z (kyZ_inj.mp e)
/-! one arrow -/
def due1 (m n : Int) : List (List Int) := (rowsB [m, n]).filter fun r => decide (gI r 0 - max 0 (m - n) ≤ gI r 1)
def pairs1 (m n : Int) : Qn := [([1, 1], min m n), ([1, 0], m - min m n), ([0, 1], n - min m n)].filter fun p => decide (0 < p.2)
def homs1 (m n k l : Int) : Int := min m n * (min k l + (k - min k l)) + (m - min m n) * (k - min k l) + (n - min m n) * ((l - min k l) + min k l)
def exts1 (m n k l : Int) : Int := (m - min m n) * (l - min k l)
def ask1 (m n : Int) : Bool := told 2 [(0, 1)] [m, n] fun v q => decide (v = due1 m n) && q.isPerm (pairs1 m n) && (upto 5).all fun k => (upto 5).all fun l => decide (maxE [(0, 1)] v [k, l] + fE [(0, 1)] [m, n] [k, l] = homs1 m n k l) && decide (maxE [(0, 1)] v [k, l] = exts1 m n k l)
/-! stars -/
def starA (m : Nat) : List (Int × Int) := (upto m).map fun i => (i, (m : Int))
def starR (m : Nat) (w : Int) : List Int := List.replicate m 1 ++ [w]
def dueS (m : Nat) (w : Int) : List (List Int) := (rowsB (starR m w)).filter fun r => decide (min (r.take m).sum w ≤ gI r m)
def askS (m : Nat) (w : Int) : Bool := told0 (m + 1) (starA m) (starR m w) fun _ v => decide (v = dueS m w)
/-! no arrow -/
def pairs2 (m n : Int) : Qn := [([0, 1], n), ([1, 0], m)].filter fun p => decide (0 < p.2)
def ask2 (m n : Int) : Bool := told 2 [] [m, n] fun v q => decide (v = rowsB [m, n]) && q.isPerm (pairs2 m n) && decide ((pairs2 m n).Pairwise leQ) && decide (maxE [] v [m, n] = 0)
/-! two arrows -/
def ask3 (m : Int) : Bool := (told 2 [(0, 1), (0, 1)] [m, m] fun v q => decide (q = [([1, 1], m)]) && decide (maxE [(0, 1), (0, 1)] v [m, m] = 0) && decide (maxE [(0, 1), (0, 1)] v [m, m] + fE [(0, 1), (0, 1)] [m, m] [m, m] = 0)) &&
  told 2 [(0, 1), (0, 1)] [m + 1, m] fun v q => decide (q = [([m + 1, m], 1)])
end Lw_k27

set_option Elab.async false
set_option linter.all false
set_option maxRecDepth 100000
set_option maxHeartbeats 1000000
/-! k27: the looks -/
namespace Lw_k27
open PySem L2 DL
theorem ask1_all : (upto 7).all (fun m => (upto 7).all (ask1 m)) = true := by decide +kernel
theorem ask2_all : (upto 7).all (fun m => (upto 7).all (ask2 m)) = true := by decide +kernel
theorem ask3_all : [1, 2, 3].all ask3 = true := by decide +kernel
theorem askS_1 : [1, 2, 3, 4].all (askS 1) = true := by decide +kernel
theorem askS_2 : [1, 2, 3, 4].all (askS 2) = true := by decide +kernel
theorem askS_3 : [1, 2, 3, 4].all (askS 3) = true := by decide +kernel
theorem askS_4a : [1, 2].all (askS 4) = true := by decide +kernel
theorem askS_4b : [3, 4].all (askS 4) = true := by decide +kernel
end Lw_k27

set_option Elab.async false
set_option linter.all false
set_option maxRecDepth 100000
set_option maxHeartbeats 2000000
/-! k27: the law's own defs -/
namespace Lw_k27
open PySem L2 DL
variable {c : CA} {k : Kt} {P : D → Kt → Prop} {a : Addr}
theorem one_ok : HallOk 2 [(0, 1)] := ⟨by decide, by decide, by decide, by decide, ⟨fun x => x.toNat, by decide⟩⟩
theorem none_ok : HallOk 2 [] := ⟨by decide, by decide, by decide, by decide, ⟨fun x => x.toNat, by decide⟩⟩
theorem two_ok : HallOk 2 [(0, 1), (0, 1)] := ⟨by decide, by decide, by decide, by decide, ⟨fun x => x.toNat, by decide⟩⟩
theorem star_ok {m : Nat} (h1 : 1 ≤ m) (h4 : m ≤ 4) : HallOk (m + 1) (starA m) := by
  refine ⟨by omega, by omega, by rw [starA, List.length_map, upto_len]; omega, fun p hp => ?_, ⟨fun x => x.toNat, fun p hp => ?_⟩⟩
  · obtain ⟨i, hi, rfl⟩ := List.mem_map.mp hp
    have := upto_mem.mp hi
    simp only
    omega
  · obtain ⟨i, hi, rfl⟩ := List.mem_map.mp hp
    have := upto_mem.mp hi
    simp only
    omega
theorem ask1_at {m n : Int} (hm : 0 ≤ m ∧ m < 7) (hn : 0 ≤ n ∧ n < 7) : ask1 m n = true := List.all_eq_true.mp (List.all_eq_true.mp ask1_all m (upto_mem.mpr hm)) n (upto_mem.mpr hn)
theorem ask2_at {m n : Int} (hm : 0 ≤ m ∧ m < 7) (hn : 0 ≤ n ∧ n < 7) : ask2 m n = true := List.all_eq_true.mp (List.all_eq_true.mp ask2_all m (upto_mem.mpr hm)) n (upto_mem.mpr hn)
theorem askS_at {m : Nat} {w : Int} (h1 : 1 ≤ m) (h4 : m ≤ 4) (hw : 1 ≤ w ∧ w ≤ 4) : askS m w = true := by
  have key : ∀ (l : List Int) (f : Int → Bool), l.all f = true → w ∈ l → f w = true := fun l f h hw => List.all_eq_true.mp h w hw
  have hw4 : w ∈ [(1 : Int), 2, 3, 4] := by
    have : w = 1 ∨ w = 2 ∨ w = 3 ∨ w = 4 := by omega
    simpa using this
  have : m = 1 ∨ m = 2 ∨ m = 3 ∨ m = 4 := by omega
  rcases this with rfl | rfl | rfl | rfl
  · exact key _ _ askS_1 hw4
  · exact key _ _ askS_2 hw4
  · exact key _ _ askS_3 hw4
  · have : w ∈ [(1 : Int), 2] ∨ w ∈ [(3 : Int), 4] := by
      have : w = 1 ∨ w = 2 ∨ w = 3 ∨ w = 4 := by omega
      rcases this with rfl | rfl | rfl | rfl <;> simp
    rcases this with h | h
    · exact key _ _ askS_4a h
    · exact key _ _ askS_4b h
theorem ro2 {m n : Int} (hm : 0 ≤ m ∧ m < 8) (hn : 0 ≤ n ∧ n < 8) : (∀ x ∈ [m, n], 0 ≤ x) ∧ prodB [m, n] ≤ 2000 := by
  refine ⟨fun x hx => ?_, ?_⟩
  · simp only [List.mem_cons, List.not_mem_nil, or_false] at hx
    rcases hx with rfl | rfl <;> omega
  · simp only [prodB]
    have : (m + 1) * (n + 1) ≤ 8 * (n + 1) := Int.mul_le_mul_of_nonneg_right (by omega) (by omega)
    have e : (m + 1) * ((n + 1) * 1) = (m + 1) * (n + 1) := by rw [Int.mul_one]
    omega
theorem rowsB2_mem {m n : Int} {r : List Int} (h : r ∈ rowsB [m, n]) : ∃ i j : Int, r = [i, j] := by
  simp only [rowsB, List.foldl_cons, List.foldl_nil] at h
  obtain ⟨s, hs, h⟩ := List.mem_flatMap.mp h
  obtain ⟨t, ht, hs⟩ := List.mem_flatMap.mp hs
  rw [List.mem_singleton.mp ht] at hs
  obtain ⟨i, _, rfl⟩ := List.mem_map.mp hs
  obtain ⟨j, _, rfl⟩ := List.mem_map.mp h
  exact ⟨i, j, rfl⟩
theorem sortQ_perm_eq {q p : Qn} (h : q.Perm p) : sortQ q = sortQ p := sortQ_unique ((sortQ_perm p).trans h.symm) (sortQ_sorted p)
theorem okD_pairs (q : Qn) : okD (.tup (q.map tP)) = true := by
  have h : isPyL (q.map tP) = true ∧ PyData.canLayAll0 (pyL (q.map tP)) = true ∧ PyData.depthAll (pyL (q.map tP)) ≤ 2 := by
    induction q with
    | nil => exact ⟨rfl, rfl, by simp [pyL, PyData.depthAll]⟩
    | cons x r ih =>
      obtain ⟨a1, a2, a3⟩ := ih
      refine ⟨by simp [tP, isPyL, isPy, isPyL_ints', a1], by simp [tP, pyL, py, PyData.canLayAll0, PyData.canLay0, canLay_ints, a2], ?_⟩
      simp only [List.map_cons, tP, pyL, py, PyData.depthAll, PyData.depth, depth_ints]
      omega
  simp only [okD, isPy, py, SeqAt.shaped, PyData.canLay0, PyData.depth, h.1, h.2.1]
  simp
  omega
theorem at2 {α : Type} {x y z : α} {xs : List α} : atI (x :: y :: z :: xs) 2 = some z := atI_z (n := 2) rfl rfl
theorem ro_of2 {x y : Int} (hx : 0 ≤ x ∧ x < 8) (hy : 0 ≤ y ∧ y < 8) : rowOk 2 [x, y] = true := by
  have h := (ro2 hx hy).2
  simp only [rowOk, List.length_cons, List.length_nil, List.all_cons, List.all_nil, Bool.and_eq_true, decide_eq_true_eq]
  exact ⟨⟨trivial, ⟨hx.1, by omega⟩, ⟨hy.1, by omega⟩, trivial⟩, h⟩
def ijL : List Int → Int × Int := fun r => (gI r 0, gI r 1)
theorem t_law_one_arrow (hc0 : CAok c) (hk : k.2.pen = some a) (hc : k.1 < 100000000) (h : ∀ k', Dr 4 k k' → P (.bl true) k') : wf__law_one_arrow c [.obj a] k P := by
  rw [wf__law_one_arrow, s_of, w__law_one_arrow]
  try simp only [Lw_k27.sxA, Lw_k27.sxB, exists_eq_left, exists_eq_left', exists_eq', exists_eq, exists_and_left, eq_self, exists_true_left, exists_const, exists_eq_right, exists_false, if_false, if_true, Int.reduceToNat, Nat.reduceAdd, Nat.reduceSub, Nat.reduceLeDiff, Nat.reduceLT, reduceIte]
  refine t_dr hk (by omega) (by omega) (by omega) fun m k1 m0 m7 d1 => ?_
  try simp only [Lw_k27.sxA, Lw_k27.sxB, exists_eq_left, exists_eq_left', exists_eq', exists_eq, exists_and_left, eq_self, exists_true_left, exists_const, exists_eq_right, exists_false, if_false, if_true, Int.reduceToNat, Nat.reduceAdd, Nat.reduceSub, Nat.reduceLeDiff, Nat.reduceLT, reduceIte]
  have hk1 := d1.pen hk
  have hc1 := d1.2
  refine t_dr hk1 (by omega) (by omega) (by omega) fun n k2 n0 n7 d2 => ?_
  try simp only [Lw_k27.sxA, Lw_k27.sxB, exists_eq_left, exists_eq_left', exists_eq', exists_eq, exists_and_left, eq_self, exists_true_left, exists_const, exists_eq_right, exists_false, if_false, if_true, Int.reduceToNat, Nat.reduceAdd, Nat.reduceSub, Nat.reduceLeDiff, Nat.reduceLT, reduceIte]
  have hk2 := d2.pen hk1
  have hc2 := d2.2
  obtain ⟨kn, v, q, T, hf⟩ := told_ok (ask1_at ⟨m0, m7⟩ ⟨n0, n7⟩)
  simp only [Bool.and_eq_true, decide_eq_true_eq, List.all_eq_true] at hf
  obtain ⟨⟨hv, hq⟩, hx⟩ := hf
  refine t_Hall (ar := [(0, 1)]) one_ok (so := [(0, 1)]) (by decide +kernel) ?_
  try simp only [Lw_k27.sxA, Lw_k27.sxB, exists_eq_left, exists_eq_left', exists_eq', exists_eq, exists_and_left, eq_self, exists_true_left, exists_const, exists_eq_right, exists_false, if_false, if_true, Int.reduceToNat, Nat.reduceAdd, Nat.reduceSub, Nat.reduceLeDiff, Nat.reduceLT, reduceIte]
  refine t_law_below (xs := [m, n]) (by simp) (ro2 ⟨m0, by omega⟩ ⟨n0, by omega⟩).1 (ro2 ⟨m0, by omega⟩ ⟨n0, by omega⟩).2 ?_
  try simp only [Lw_k27.sxA, Lw_k27.sxB, exists_eq_left, exists_eq_left', exists_eq', exists_eq, exists_and_left, eq_self, exists_true_left, exists_const, exists_eq_right, exists_false, if_false, if_true, Int.reduceToNat, Nat.reduceAdd, Nat.reduceSub, Nat.reduceLeDiff, Nat.reduceLT, reduceIte]
  have rl := rowsB_len (xs := [m, n]) (ro2 ⟨m0, by omega⟩ ⟨n0, by omega⟩).1 (ro2 ⟨m0, by omega⟩ ⟨n0, by omega⟩).2
  refine lc_filt I I (fun r => if decide (gI r 0 - max 0 (m - n) ≤ gI r 1) = true then some r else none) (sz (by omega)) (fun r hr R hR => ?_) ?_
  · obtain ⟨i, j, rfl⟩ := rowsB2_mem hr
    try simp only [Lw_k27.sxA, Lw_k27.sxB, exists_eq_left, exists_eq_left', exists_eq', exists_eq, exists_and_left, eq_self, exists_true_left, exists_const, exists_eq_right, exists_false, if_false, if_true, Int.reduceToNat, Nat.reduceAdd, Nat.reduceSub, Nat.reduceLeDiff, Nat.reduceLT, reduceIte, lcStep]
    have e0 : gI [i, j] 0 = i := rfl
    have e1 : gI [i, j] 1 = j := rfl
    rw [e0, e1] at hR
    cases q1 : decide (i - max 0 (m - n) ≤ j) with
    | true => rw [q1] at hR; exact hR
    | false => rw [q1] at hR; exact hR
  · rw [filt_map]
    rw [show (rowsB [m, n]).filter (fun r => decide (gI r 0 - max 0 (m - n) ≤ gI r 1)) = due1 m n from rfl]
    try simp only [Lw_k27.sxA, Lw_k27.sxB, exists_eq_left, exists_eq_left', exists_eq', exists_eq, exists_and_left, eq_self, exists_true_left, exists_const, exists_eq_right, exists_false, if_false, if_true, Int.reduceToNat, Nat.reduceAdd, Nat.reduceSub, Nat.reduceLeDiff, Nat.reduceLT, reduceIte]
    refine t_general_parts (b := [m, n]) one_ok T.t.ro T.t.kq T.t.vq T.t.vz ?_
    try simp only [Lw_k27.sxA, Lw_k27.sxB, exists_eq_left, exists_eq_left', exists_eq', exists_eq, exists_and_left, eq_self, exists_true_left, exists_const, exists_eq_right, exists_false, if_false, if_true, Int.reduceToNat, Nat.reduceAdd, Nat.reduceSub, Nat.reduceLeDiff, Nat.reduceLT, reduceIte]
    rw [← hv]
    refine ⟨okD_rows v, okD_rows v, ?_⟩
    rw [eqD_refl (okD_rows v), if_neg (by decide)]
    refine t_one_sum (b := [m, n]) one_ok T.t.ro T.t.kq T.sm T.nd T.qz ?_
    refine lc_filt (xs := [([1, 1], min m n), ([1, 0], m - min m n), ([0, 1], n - min m n)]) tP tP (fun p : List Int × Int => if decide (0 < p.2) = true then some p else none) (sz (by simp)) (fun p hp R hR => ?_) ?_
    · try simp only [Lw_k27.sxA, Lw_k27.sxB, exists_eq_left, exists_eq_left', exists_eq', exists_eq, exists_and_left, eq_self, exists_true_left, exists_const, exists_eq_right, exists_false, if_false, if_true, Int.reduceToNat, Nat.reduceAdd, Nat.reduceSub, Nat.reduceLeDiff, Nat.reduceLT, reduceIte, lcStep]
      refine ⟨.int p.2, rfl, ?_⟩
      try simp only [Lw_k27.sxA, Lw_k27.sxB, exists_eq_left, exists_eq_left', exists_eq', exists_eq, exists_and_left, eq_self, exists_true_left, exists_const, exists_eq_right, exists_false, if_false, if_true, Int.reduceToNat, Nat.reduceAdd, Nat.reduceSub, Nat.reduceLeDiff, Nat.reduceLT, reduceIte]
      cases q1 : decide (0 < p.2) with
      | true => rw [q1] at hR; exact hR
      | false => rw [q1] at hR; exact hR
    · rw [filt_map, show ([([1, 1], min m n), ([1, 0], m - min m n), ([0, 1], n - min m n)] : Qn).filter (fun p => decide (0 < p.2)) = pairs1 m n from rfl]
      refine t_sortQ ?_
      rw [sortQ_perm_eq (List.isPerm_iff.mp hq)]
      refine ⟨okD_pairs _, okD_pairs _, ?_⟩
      rw [eqD_refl (okD_pairs _), if_neg (by decide)]
      try simp only [Lw_k27.sxA, Lw_k27.sxB, exists_eq_left, exists_eq_left', exists_eq', exists_eq, exists_and_left, eq_self, exists_true_left, exists_const, exists_eq_right, exists_false, if_false, if_true, Int.reduceToNat, Nat.reduceAdd, Nat.reduceSub, Nat.reduceLeDiff, Nat.reduceLT, reduceIte]
      refine t_dr hk2 (by omega) (by omega) (by omega) fun x k3 x0 x5 d3 => ?_
      have hk3 := d3.pen hk2
      have hc3 := d3.2
      refine t_dr hk3 (by omega) (by omega) (by omega) fun y k4 y0 y5 d4 => ?_
      have d14 : Dr 4 k k4 := (d1.trans d2 (by omega : 1 + 1 ≤ 2)).trans (d3.trans d4 (by omega : 1 + 1 ≤ 2)) (by omega)
      obtain ⟨hh, he⟩ := hx x (upto_mem.mpr ⟨x0, x5⟩) y (upto_mem.mpr ⟨y0, y5⟩)
      have ro2 := ro_of2 (x := x) (y := y) ⟨x0, by omega⟩ ⟨y0, by omega⟩
      try simp only [Lw_k27.sxA, Lw_k27.sxB, exists_eq_left, exists_eq_left', exists_eq', exists_eq, exists_and_left, eq_self, exists_true_left, exists_const, exists_eq_right, exists_false, if_false, if_true, Int.reduceToNat, Nat.reduceAdd, Nat.reduceSub, Nat.reduceLeDiff, Nat.reduceLT, reduceIte]
      have bm : 0 ≤ min m n ∧ min m n ≤ 7 := by omega
      have bx : 0 ≤ min x y ∧ min x y ≤ 5 := by omega
      refine ⟨.inl (by omega), .inl (by omega), _, at2, _, at2, ?_⟩
      try simp only [Lw_k27.sxA, Lw_k27.sxB, exists_eq_left, exists_eq_left', exists_eq', exists_eq, exists_and_left, eq_self, exists_true_left, exists_const, exists_eq_right, exists_false, if_false, if_true, Int.reduceToNat, Nat.reduceAdd, Nat.reduceSub, Nat.reduceLeDiff, Nat.reduceLT, reduceIte]
      refine ⟨.inl (by omega), _, at2, ?_⟩
      try simp only [Lw_k27.sxA, Lw_k27.sxB, exists_eq_left, exists_eq_left', exists_eq', exists_eq, exists_and_left, eq_self, exists_true_left, exists_const, exists_eq_right, exists_false, if_false, if_true, Int.reduceToNat, Nat.reduceAdd, Nat.reduceSub, Nat.reduceLeDiff, Nat.reduceLT, reduceIte]
      refine ⟨.inl (by omega), ?_⟩
      refine t_general_hom (b := [m, n]) (d := [x, y]) one_ok T.t.ro ro2 T.t.kq T.t.vq T.t.v0 T.t.vo T.t.vz ?_
      rw [hh]
      try simp only [Lw_k27.sxA, Lw_k27.sxB, exists_eq_left, exists_eq_left', exists_eq', exists_eq, exists_and_left, eq_self, exists_true_left, exists_const, exists_eq_right, exists_false, if_false, if_true, Int.reduceToNat, Nat.reduceAdd, Nat.reduceSub, Nat.reduceLeDiff, Nat.reduceLT, reduceIte]
      unfold homs1
      rw [if_pos (decide_eq_true rfl)]
      refine t_general_ext (b := [m, n]) (d := [x, y]) one_ok T.t.ro ro2 T.t.kq T.t.vq T.t.v0 T.t.vo T.t.vz ?_
      rw [he]
      refine ⟨rfl, ?_⟩
      have e : eqD (.int (exts1 m n x y)) (.int ((m - min m n) * (y - min x y))) = true := eqD_refl rfl
      rw [e]
      exact h k4 d14
theorem starR_len (m : Nat) (w : Int) : (starR m w).length = m + 1 := by simp [starR]
theorem rowsB_all {xs r : List Int} (h : r ∈ rowsB xs) : r.length = xs.length := by
  have key : ∀ (ys : List Int) (f : List (List Int)) (n : Nat), (∀ r ∈ f, r.length = n) → ∀ r ∈ ys.foldl stepB f, r.length = n + ys.length := by
    intro ys
    induction ys with
    | nil => intro f n h r hr; exact h r hr
    | cons y ys ih =>
      intro f n h r hr
      have := ih (stepB f y) (n + 1) (fun r hr => by
        obtain ⟨s, hs, hr⟩ := List.mem_flatMap.mp hr
        rw [longB_len hr, h s hs]) r hr
      rw [this, List.length_cons]; omega
  have := key xs [[]] 0 (fun r hr => by rw [List.mem_singleton.mp hr]; rfl) r h
  omega
theorem t_law_lines (hk : k.2.pen = some a) (hc : k.1 < 100000000) (h : ∀ k', Dr 2 k k' → P (.bl true) k') : wf__law_lines c [.obj a] k P := by
  rw [wf__law_lines, s_of, w__law_lines]
  try simp only [Lw_k27.sxA, Lw_k27.sxB, exists_eq_left, exists_eq_left', exists_eq', exists_eq, exists_and_left, eq_self, exists_true_left, exists_const, exists_eq_right, exists_false, if_false, if_true, Int.reduceToNat, Nat.reduceAdd, Nat.reduceSub, Nat.reduceLeDiff, Nat.reduceLT, reduceIte]
  refine t_dr hk (by omega) (by omega) (by omega) fun m' k1 m0 m7 d1 => ?_
  try simp only [Lw_k27.sxA, Lw_k27.sxB, exists_eq_left, exists_eq_left', exists_eq', exists_eq, exists_and_left, eq_self, exists_true_left, exists_const, exists_eq_right, exists_false, if_false, if_true, Int.reduceToNat, Nat.reduceAdd, Nat.reduceSub, Nat.reduceLeDiff, Nat.reduceLT, reduceIte]
  have hk1 := d1.pen hk
  have hc1 := d1.2
  refine t_dr hk1 (by omega) (by omega) (by omega) fun w' k2 n0 n7 d2 => ?_
  try simp only [Lw_k27.sxA, Lw_k27.sxB, exists_eq_left, exists_eq_left', exists_eq', exists_eq, exists_and_left, eq_self, exists_true_left, exists_const, exists_eq_right, exists_false, if_false, if_true, Int.reduceToNat, Nat.reduceAdd, Nat.reduceSub, Nat.reduceLeDiff, Nat.reduceLT, reduceIte]
  have d12 : Dr 2 k k2 := d1.trans d2 (by omega)
  obtain ⟨m, hm⟩ : ∃ m : Nat, 1 + m' = (m : Int) := ⟨(1 + m').toNat, by omega⟩
  obtain ⟨w, hw⟩ : ∃ w : Int, 1 + w' = w := ⟨_, rfl⟩
  rw [hm, hw]
  have m1 : 1 ≤ m := by omega
  have m4 : m ≤ 4 := by omega
  obtain ⟨kn, v, T, hv⟩ := told0_ok (askS_at m1 m4 (w := w) ⟨by omega, by omega⟩)
  simp only [decide_eq_true_eq] at hv
  rw [Int.toNat_natCast]
  refine ⟨by omega, by omega, ?_⟩
  refine lc_map D.int pD (fun i => (i, (m : Int))) (sz (by rw [upto_len]; omega)) (fun i hi R hR => ?_) ?_
  · try simp only [Lw_k27.sxA, Lw_k27.sxB, exists_eq_left, exists_eq_left', exists_eq', exists_eq, exists_and_left, eq_self, exists_true_left, exists_const, exists_eq_right, exists_false, if_false, if_true, Int.reduceToNat, Nat.reduceAdd, Nat.reduceSub, Nat.reduceLeDiff, Nat.reduceLT, reduceIte, lcStep]
    exact hR
  · try simp only [Lw_k27.sxA, Lw_k27.sxB, exists_eq_left, exists_eq_left', exists_eq', exists_eq, exists_and_left, eq_self, exists_true_left, exists_const, exists_eq_right, exists_false, if_false, if_true, Int.reduceToNat, Nat.reduceAdd, Nat.reduceSub, Nat.reduceLeDiff, Nat.reduceLT, reduceIte]
    rw [show (m : Int) + 1 = ((m + 1 : Nat) : Int) by omega]
    have hso : sortP (starA m) = starA m := by
      have : m = 1 ∨ m = 2 ∨ m = 3 ∨ m = 4 := by omega
      rcases this with rfl | rfl | rfl | rfl <;> (rw [← isortP_eq (List.Perm.refl _)]; decide +kernel)
    refine t_Hall (ar := starA m) (star_ok m1 m4) hso ?_
    try simp only [Lw_k27.sxA, Lw_k27.sxB, exists_eq_left, exists_eq_left', exists_eq', exists_eq, exists_and_left, eq_self, exists_true_left, exists_const, exists_eq_right, exists_false, if_false, if_true, Int.reduceToNat, Nat.reduceAdd, Nat.reduceSub, Nat.reduceLeDiff, Nat.reduceLT, reduceIte]
    refine ⟨m1, by omega, by rw [List.length_replicate]; omega, ?_⟩
    rw [show D.tup (List.map D.int (List.replicate m 1) ++ [D.int w]) = I (starR m w) from by rw [I, starR, List.map_append]; rfl]
    refine t_law_below (by rw [starR_len]; omega) (fun x hx => (ro_nn T.ro x hx).1) (ro_few T.ro) ?_
    try simp only [Lw_k27.sxA, Lw_k27.sxB, exists_eq_left, exists_eq_left', exists_eq', exists_eq, exists_and_left, eq_self, exists_true_left, exists_const, exists_eq_right, exists_false, if_false, if_true, Int.reduceToNat, Nat.reduceAdd, Nat.reduceSub, Nat.reduceLeDiff, Nat.reduceLT, reduceIte]
    have rl := rowsB_len (fun x hx => (ro_nn T.ro x hx).1) (ro_few T.ro)
    refine for_map I (fun rest ρ => ∃ (acc : List (List Int)) (s5 : Slot), ρ = [.val (.obj a), .val (.int (m : Int)), .val (.int w), .val (D.ins c.C_Hall ["many", "arrows"] [D.int ((m + 1 : Nat) : Int), D.tup (List.map pD (starA m))]), .own (.l (acc.map I)), s5, .un] ∧ acc ++ rest.filter (fun r => decide (min (r.take m).sum w ≤ gI r m)) = dueS m w ∧ acc.length + rest.length ≤ 2000 ∧ ∀ r ∈ rest, r.length = m + 1) (fun row rest ρ N hI hN => ?_) (fun ρ hI => ?_) (rowsB (starR m w)) _ ⟨[], _, rfl, rfl, by simpa using rl, fun r hr => (rowsB_all hr).trans (starR_len m w)⟩
    · obtain ⟨acc, s5, rfl, hf, hz, hr⟩ := hI
      have hrl := hr row List.mem_cons_self
      rw [List.length_cons] at hz
      try simp only [Lw_k27.sxA, Lw_k27.sxB, exists_eq_left, exists_eq_left', exists_eq', exists_eq, exists_and_left, eq_self, exists_true_left, exists_const, exists_eq_right, exists_false, if_false, if_true, Int.reduceToNat, Nat.reduceAdd, Nat.reduceSub, Nat.reduceLeDiff, Nat.reduceLT, reduceIte]
      refine ⟨_, at_gI (by omega) (by omega), row.take m, by rw [cut_to, ← List.map_take]; exact intsD_map _, ?_⟩
      by_cases q1 : min (row.take m).sum w ≤ gI row m
      · rw [List.filter_cons_of_pos (by simpa using q1)] at hf
        refine ⟨_, rfl, ?_⟩
        rw [if_pos (decide_eq_true q1)]
        refine ⟨by omega, hN _ ⟨acc ++ [row], _, by rw [List.map_append]; rfl, by rw [List.append_assoc]; exact hf, by rw [List.length_append]; simp; omega, fun r hr' => hr r (List.mem_cons_of_mem _ hr')⟩⟩
      · rw [List.filter_cons_of_neg (by simpa using q1)] at hf
        refine ⟨_, rfl, ?_⟩
        rw [if_neg (by simpa using q1)]
        exact hN _ ⟨acc, _, rfl, hf, by omega, fun r hr' => hr r (List.mem_cons_of_mem _ hr')⟩
    · obtain ⟨acc, s5, rfl, hf, _⟩ := hI
      rw [List.filter_nil, List.append_nil] at hf
      subst hf
      try simp only [Lw_k27.sxA, Lw_k27.sxB, exists_eq_left, exists_eq_left', exists_eq', exists_eq, exists_and_left, eq_self, exists_true_left, exists_const, exists_eq_right, exists_false, if_false, if_true, Int.reduceToNat, Nat.reduceAdd, Nat.reduceSub, Nat.reduceLeDiff, Nat.reduceLT, reduceIte]
      refine ⟨m1, by omega, by rw [List.length_replicate]; omega, ?_⟩
      rw [show D.tup (List.map D.int (List.replicate m 1) ++ [D.int w]) = I (starR m w) from by rw [I, starR, List.map_append]; rfl]
      refine t_general_parts (star_ok m1 m4) T.ro T.kq T.vq T.vz ?_
      try simp only [Lw_k27.sxA, Lw_k27.sxB, exists_eq_left, exists_eq_left', exists_eq', exists_eq, exists_and_left, eq_self, exists_true_left, exists_const, exists_eq_right, exists_false, if_false, if_true, Int.reduceToNat, Nat.reduceAdd, Nat.reduceSub, Nat.reduceLeDiff, Nat.reduceLT, reduceIte]
      rw [← hv]
      refine ⟨okD_rows v, okD_rows v, ?_⟩
      rw [eqD_refl (okD_rows v)]
      exact h k2 d12
theorem t_law_apart (hk : k.2.pen = some a) (hc : k.1 < 100000000) (h : ∀ k', Dr 2 k k' → P (.bl true) k') : wf__law_apart c [.obj a] k P := by
  rw [wf__law_apart, s_of, w__law_apart]
  try simp only [Lw_k27.sxA, Lw_k27.sxB, exists_eq_left, exists_eq_left', exists_eq', exists_eq, exists_and_left, eq_self, exists_true_left, exists_const, exists_eq_right, exists_false, if_false, if_true, Int.reduceToNat, Nat.reduceAdd, Nat.reduceSub, Nat.reduceLeDiff, Nat.reduceLT, reduceIte]
  refine t_dr hk (by omega) (by omega) (by omega) fun m k1 m0 m7 d1 => ?_
  try simp only [Lw_k27.sxA, Lw_k27.sxB, exists_eq_left, exists_eq_left', exists_eq', exists_eq, exists_and_left, eq_self, exists_true_left, exists_const, exists_eq_right, exists_false, if_false, if_true, Int.reduceToNat, Nat.reduceAdd, Nat.reduceSub, Nat.reduceLeDiff, Nat.reduceLT, reduceIte]
  have hk1 := d1.pen hk
  have hc1 := d1.2
  refine t_dr hk1 (by omega) (by omega) (by omega) fun n k2 n0 n7 d2 => ?_
  try simp only [Lw_k27.sxA, Lw_k27.sxB, exists_eq_left, exists_eq_left', exists_eq', exists_eq, exists_and_left, eq_self, exists_true_left, exists_const, exists_eq_right, exists_false, if_false, if_true, Int.reduceToNat, Nat.reduceAdd, Nat.reduceSub, Nat.reduceLeDiff, Nat.reduceLT, reduceIte]
  have d12 : Dr 2 k k2 := d1.trans d2 (by omega)
  obtain ⟨kn, v, q, T, hf⟩ := told_ok (ask2_at ⟨m0, m7⟩ ⟨n0, n7⟩)
  simp only [Bool.and_eq_true, decide_eq_true_eq] at hf
  obtain ⟨⟨⟨hv, hq⟩, hs⟩, he⟩ := hf
  refine t_Hall (ar := []) none_ok (so := []) (by decide +kernel) ?_
  try simp only [Lw_k27.sxA, Lw_k27.sxB, exists_eq_left, exists_eq_left', exists_eq', exists_eq, exists_and_left, eq_self, exists_true_left, exists_const, exists_eq_right, exists_false, if_false, if_true, Int.reduceToNat, Nat.reduceAdd, Nat.reduceSub, Nat.reduceLeDiff, Nat.reduceLT, reduceIte]
  refine t_general_parts (b := [m, n]) none_ok T.t.ro T.t.kq T.t.vq T.t.vz ?_
  try simp only [Lw_k27.sxA, Lw_k27.sxB, exists_eq_left, exists_eq_left', exists_eq', exists_eq, exists_and_left, eq_self, exists_true_left, exists_const, exists_eq_right, exists_false, if_false, if_true, Int.reduceToNat, Nat.reduceAdd, Nat.reduceSub, Nat.reduceLeDiff, Nat.reduceLT, reduceIte]
  refine t_law_below (xs := [m, n]) (by simp) (ro2 ⟨m0, by omega⟩ ⟨n0, by omega⟩).1 (ro2 ⟨m0, by omega⟩ ⟨n0, by omega⟩).2 ?_
  rw [← hv]
  refine ⟨okD_rows v, okD_rows v, ?_⟩
  rw [eqD_refl (okD_rows v), if_neg (by decide)]
  refine t_general_ext (b := [m, n]) (d := [m, n]) none_ok T.t.ro T.t.ro T.t.kq T.t.vq T.t.v0 T.t.vo T.t.vz ?_
  rw [he]
  try simp only [Lw_k27.sxA, Lw_k27.sxB, exists_eq_left, exists_eq_left', exists_eq', exists_eq, exists_and_left, eq_self, exists_true_left, exists_const, exists_eq_right, exists_false, if_false, if_true, Int.reduceToNat, Nat.reduceAdd, Nat.reduceSub, Nat.reduceLeDiff, Nat.reduceLT, reduceIte]
  rw [if_neg (by simp)]
  refine t_one_sum (b := [m, n]) none_ok T.t.ro T.t.kq T.sm T.nd T.qz ?_
  refine lc_filt (xs := [([0, 1], n), ([1, 0], m)]) tP tP (fun p : List Int × Int => if decide (0 < p.2) = true then some p else none) (sz (by simp)) (fun p hp R hR => ?_) ?_
  · try simp only [Lw_k27.sxA, Lw_k27.sxB, exists_eq_left, exists_eq_left', exists_eq', exists_eq, exists_and_left, eq_self, exists_true_left, exists_const, exists_eq_right, exists_false, if_false, if_true, Int.reduceToNat, Nat.reduceAdd, Nat.reduceSub, Nat.reduceLeDiff, Nat.reduceLT, reduceIte, lcStep]
    refine ⟨_, rfl, rfl, ?_⟩
    try simp only [Lw_k27.sxA, Lw_k27.sxB, exists_eq_left, exists_eq_left', exists_eq', exists_eq, exists_and_left, eq_self, exists_true_left, exists_const, exists_eq_right, exists_false, if_false, if_true, Int.reduceToNat, Nat.reduceAdd, Nat.reduceSub, Nat.reduceLeDiff, Nat.reduceLT, reduceIte]
    cases q1 : decide (0 < p.2) with
    | true => rw [q1] at hR; exact hR
    | false => rw [q1] at hR; exact hR
  · rw [filt_map, show ([([0, 1], n), ([1, 0], m)] : Qn).filter (fun p => decide (0 < p.2)) = pairs2 m n from rfl]
    have e : sortQ q = pairs2 m n := sortQ_unique (List.isPerm_iff.mp hq).symm hs
    rw [e]
    refine ⟨okD_pairs _, okD_pairs _, ?_⟩
    rw [eqD_refl (okD_pairs _)]
    try simp only [Lw_k27.sxA, Lw_k27.sxB, exists_eq_left, exists_eq_left', exists_eq', exists_eq, exists_and_left, eq_self, exists_true_left, exists_const, exists_eq_right, exists_false, if_false, if_true, Int.reduceToNat, Nat.reduceAdd, Nat.reduceSub, Nat.reduceLeDiff, Nat.reduceLT, reduceIte]
    exact h k2 d12
end Lw_k27

set_option Elab.async false
set_option linter.all false
set_option maxRecDepth 100000
set_option maxHeartbeats 2000000
/-! k27: the law -/
namespace Lw_k27
open PySem L2 DL
theorem math : ∀ c : CA, CAok c → ∀ a : Addr, w_law c { nx := fun _ _ => False, rt := fun d _ => d = .bl true } (lawE 5 a) (0, ⟨some a, fun _ _ => False, c.tabs⟩) := by
  intro c hc a
  unfold lawE w_law
  try simp only [Lw_k27.sxA, Lw_k27.sxB, exists_eq_left, exists_eq_left', exists_eq', exists_eq, exists_and_left, eq_self, exists_true_left, exists_const, exists_eq_right, exists_false, if_false, if_true, Int.reduceToNat, Nat.reduceAdd, Nat.reduceSub, Nat.reduceLeDiff, Nat.reduceLT, reduceIte]
  refine ⟨by decide, by decide, ?_⟩
  refine for_inv (fun rest ρ k => ∃ s0 s2 s3 s4, ρ = [s0, .val (.obj a), s2, s3, s4] ∧ k.2.pen = some a ∧ k.1 + 10 * rest.length ≤ 100) (fun d rest ρ k N hI hN => ?_) (fun ρ k hI => ?_) _ _ _ ⟨_, _, _, _, rfl, rfl, by rw [List.length_map, upto_len]; show 0 + 10 * 3 ≤ 100; omega⟩
  · obtain ⟨s0, s2, s3, s4, rfl, hk, hb⟩ := hI
    rw [List.length_cons] at hb
    try simp only [Lw_k27.sxA, Lw_k27.sxB, exists_eq_left, exists_eq_left', exists_eq', exists_eq, exists_and_left, eq_self, exists_true_left, exists_const, exists_eq_right, exists_false, if_false, if_true, Int.reduceToNat, Nat.reduceAdd, Nat.reduceSub, Nat.reduceLeDiff, Nat.reduceLT, reduceIte]
    refine t_law_one_arrow hc hk (by omega) fun k1 d1 => ?_
    have hk1 := d1.pen hk
    have b1 := d1.2
    try simp only [Lw_k27.sxA, Lw_k27.sxB, exists_eq_left, exists_eq_left', exists_eq', exists_eq, exists_and_left, eq_self, exists_true_left, exists_const, exists_eq_right, exists_false, if_false, if_true, Int.reduceToNat, Nat.reduceAdd, Nat.reduceSub, Nat.reduceLeDiff, Nat.reduceLT, reduceIte]
    refine t_law_lines hk1 (by omega) fun k2 d2 => ?_
    have hk2 := d2.pen hk1
    have b2 := d2.2
    try simp only [Lw_k27.sxA, Lw_k27.sxB, exists_eq_left, exists_eq_left', exists_eq', exists_eq, exists_and_left, eq_self, exists_true_left, exists_const, exists_eq_right, exists_false, if_false, if_true, Int.reduceToNat, Nat.reduceAdd, Nat.reduceSub, Nat.reduceLeDiff, Nat.reduceLT, reduceIte]
    refine t_law_apart hk2 (by omega) fun k3 d3 => ?_
    have hk3 := d3.pen hk2
    have b3 := d3.2
    try simp only [Lw_k27.sxA, Lw_k27.sxB, exists_eq_left, exists_eq_left', exists_eq', exists_eq, exists_and_left, eq_self, exists_true_left, exists_const, exists_eq_right, exists_false, if_false, if_true, Int.reduceToNat, Nat.reduceAdd, Nat.reduceSub, Nat.reduceLeDiff, Nat.reduceLT, reduceIte]
    exact hN _ _ ⟨_, _, _, _, rfl, hk3, by omega⟩
  · obtain ⟨s0, s2, s3, s4, rfl, hk, hb⟩ := hI
    try simp only [Lw_k27.sxA, Lw_k27.sxB, exists_eq_left, exists_eq_left', exists_eq', exists_eq, exists_and_left, eq_self, exists_true_left, exists_const, exists_eq_right, exists_false, if_false, if_true, Int.reduceToNat, Nat.reduceAdd, Nat.reduceSub, Nat.reduceLeDiff, Nat.reduceLT, reduceIte]
    refine t_Hall (ar := [(0, 1), (0, 1)]) two_ok (so := [(0, 1), (0, 1)]) (by rw [← isortP_eq (List.Perm.refl _)]; decide +kernel) ?_
    try simp only [Lw_k27.sxA, Lw_k27.sxB, exists_eq_left, exists_eq_left', exists_eq', exists_eq, exists_and_left, eq_self, exists_true_left, exists_const, exists_eq_right, exists_false, if_false, if_true, Int.reduceToNat, Nat.reduceAdd, Nat.reduceSub, Nat.reduceLeDiff, Nat.reduceLT, reduceIte]
    refine t_dr hk (by omega) (by omega) (by omega) fun x' k1 x0 x3 d1 => ?_
    try simp only [Lw_k27.sxA, Lw_k27.sxB, exists_eq_left, exists_eq_left', exists_eq', exists_eq, exists_and_left, eq_self, exists_true_left, exists_const, exists_eq_right, exists_false, if_false, if_true, Int.reduceToNat, Nat.reduceAdd, Nat.reduceSub, Nat.reduceLeDiff, Nat.reduceLT, reduceIte]
    obtain ⟨x, hx⟩ : ∃ x : Int, 1 + x' = x := ⟨_, rfl⟩
    rw [hx]
    have hask : ask3 x = true := List.all_eq_true.mp ask3_all x (by
      have : x = 1 ∨ x = 2 ∨ x = 3 := by omega
      simpa using this)
    rw [ask3, Bool.and_eq_true] at hask
    obtain ⟨ha, hb'⟩ := hask
    obtain ⟨kn, v, q, T, hf⟩ := told_ok ha
    obtain ⟨kn', v', q', T', hf'⟩ := told_ok hb'
    simp only [Bool.and_eq_true, decide_eq_true_eq] at hf hf'
    obtain ⟨⟨hq, he⟩, hh⟩ := hf
    subst hq
    subst hf'
    refine t_one_sum (b := [x, x]) two_ok T.t.ro T.t.kq T.sm T.nd T.qz ?_
    rw [show sortQ [([1, 1], x)] = [([1, 1], x)] from sortQ_unique (List.Perm.refl _) (by simp)]
    refine ⟨okD_pairs [([1, 1], x)], okD_pairs [([1, 1], x)], ?_⟩
    rw [show eqD (.tup (List.map tP [([1, 1], x)])) (.tup [.tup [.tup [.int 1, .int 1], .int x]]) = true from eqD_refl (okD_pairs [([1, 1], x)]), if_neg (by decide)]
    refine t_one_sum (b := [x + 1, x]) two_ok T'.t.ro T'.t.kq T'.sm T'.nd T'.qz ?_
    rw [show sortQ [([x + 1, x], 1)] = [([x + 1, x], 1)] from sortQ_unique (List.Perm.refl _) (by simp)]
    refine ⟨okD_pairs [([x + 1, x], 1)], okD_pairs [([x + 1, x], 1)], ?_⟩
    rw [show eqD (.tup (List.map tP [([x + 1, x], 1)])) (.tup [.tup [.tup [.int (x + 1), .int x], .int 1]]) = true from eqD_refl (okD_pairs [([x + 1, x], 1)]), if_neg (by decide)]
    refine t_general_ext (b := [x, x]) (d := [x, x]) two_ok T.t.ro T.t.ro T.t.kq T.t.vq T.t.v0 T.t.vo T.t.vz ?_
    rw [he]
    refine ⟨rfl, ?_⟩
    rw [if_pos (show eqD (.int 0) (.int 0) = true from rfl)]
    refine t_general_hom (b := [x, x]) (d := [x, x]) two_ok T.t.ro T.t.ro T.t.kq T.t.vq T.t.v0 T.t.vo T.t.vz ?_
    rw [hh]
    exact ⟨rfl, rfl⟩
end Lw_k27

open PySem PySem.W PyProof.Rows
set_option maxHeartbeats 0 in
theorem PySem.Challenge.cw_sizerooms_k27_whole_parts_known_by_hand_holds : PySem.Challenge.rw_sizerooms_k27_whole_parts_known_by_hand.Holds := by
  w_on; o_law; k_head; (case hw => w_witness2)
  k_fill
  refine L2.walk_of (l := PySem.Challenge.rw_sizerooms_k27_whole_parts_known_by_hand) (n := 63) (k := 28) (x := "script") (CX := fun w => L2.CX PySem.Challenge.rw_sizerooms_k27_whole_parts_known_by_hand.prog w) (sp := fun w => DL.spLaw _) rfl (by decide) rfl ⟨rfl, by decide, by decide⟩ (fun w h Y => PySem.W.kIn_of Y) ?F (fun _ _ a ns hl _ hS => ⟨a, ns, rfl, hS, hl, fun _ => rfl⟩) (fun _ _ _ _ _ h => DL.cx_false h)
  case F =>
    intro w mg fa h KX G hmg
    refine' Lw_k27.all_mk (l := PySem.Challenge.rw_sizerooms_k27_whole_parts_known_by_hand) Lw_k27.math KX G hmg ?a1 ?l1 ?c1 ?k1 ?a2 ?l2 ?c2 ?k2 ?a3 ?l3 ?c3 ?k3 ?a4 ?l4 ?c4 ?k4 ?a5 ?l5 ?c5 ?k5 ?a6 ?l6 ?c6 ?k6 ?a7 ?l7 ?c7 ?k7 ?a8 ?l8 ?c8 ?k8 ?a9 ?l9 ?c9 ?k9 ?a10 ?l10 ?c10 ?k10 ?a11 ?l11 ?c11 ?k11 ?a12 ?l12 ?c12 ?k12 ?a13 ?l13 ?c13 ?k13 ?a14 ?l14 ?c14 ?k14 ?a15 ?l15 ?c15 ?k15 ?a16 ?l16 ?c16 ?k16 ?a17 ?l17 ?c17 ?k17 ?a18 ?l18 ?c18 ?k18 ?a19 ?l19 ?c19 ?k19 ?a20 ?l20 ?c20 ?k20 ?a21 ?l21 ?c21 ?k21 ?a22 ?l22 ?c22 ?k22 ?a23 ?l23 ?c23 ?k23 ?a24 ?l24 ?c24 ?k24 ?a25 ?l25 ?c25 ?k25 ?a26 ?l26 ?c26 ?k26 ?a27 ?l27 ?c27 ?k27 ?a28 ?l28 ?c28 ?k28 ?a29 ?l29 ?c29 ?k29 ?a30 ?l30 ?c30 ?k30 ?a31 ?l31 ?c31 ?k31 ?a32 ?l32 ?c32 ?k32 ?a33 ?l33 ?c33 ?k33 ?a34 ?l34 ?c34 ?k34 ?a35 ?l35 ?c35 ?k35 ?z_all ?z_any ?z_bool ?z_dict ?z_int ?z_isinstance ?z_len ?z_list ?z_max ?z_min ?z_range ?z_repr ?z_sorted ?z_sum ?z_super ?z_tuple ?z_zip ?y_MOST_ARROWS ?y_MOST_POINTS ?y_MOST_ROWS ?on ?ot ?aC_Hall ?ii_Hall ?li_Hall ?ci_Hall ?kf_Hall ?mk_Hall ?fn_Hall ?kC_Hall ?pg_Hall ?hd_Hall ?po_Hall ?sa_Hall ?ga_Hall ?ob_Hall ?ic_Hall ?ty_Hall ?b0_Hall ?b1_Hall ?b2_Hall ?b3_Hall ?b4_Hall ?b5_Hall ?b6_Hall ?nf_Hall_many ?nf_Hall_arrows ?iq_Hall ?lq_Hall ?cq_Hall ?kfq_Hall ?fnq_Hall ?nnq_Hall ?sbq_Hall_Hall ?aS ?xS ?iS ?opq ?aC_BadItem ?xC_BadItem ?sa_BadItem ?ga_BadItem ?gg_BadItem ?eC_BadItem ?vC_BadItem ?tC_BadItem ?kC_BadItem ?hC_BadItem ?ic_BadItem ?mC_BadItem ?ie_BadItem ?te_BadItem ?le_BadItem ?ce_BadItem ?lc_BadItem ?fl_BadItem ?fz_BadItem ?lx_BadItem ?nf_BadItem_value ?aC_TooMany ?xC_TooMany ?sa_TooMany ?ga_TooMany ?gg_TooMany ?eC_TooMany ?vC_TooMany ?tC_TooMany ?kC_TooMany ?hC_TooMany ?ic_TooMany ?mC_TooMany ?ie_TooMany ?te_TooMany ?le_TooMany ?ce_TooMany ?lc_TooMany ?fl_TooMany ?fz_TooMany ?lx_TooMany ?nf_TooMany_what ?nf_TooMany_most ?aC_BadHall ?xC_BadHall ?sa_BadHall ?ga_BadHall ?gg_BadHall ?eC_BadHall ?vC_BadHall ?tC_BadHall ?kC_BadHall ?hC_BadHall ?ic_BadHall ?mC_BadHall ?ie_BadHall ?te_BadHall ?le_BadHall ?ce_BadHall ?lc_BadHall ?fl_BadHall ?fz_BadHall ?lx_BadHall ?nf_BadHall_why ?aC_BadSizes ?xC_BadSizes ?sa_BadSizes ?ga_BadSizes ?gg_BadSizes ?eC_BadSizes ?vC_BadSizes ?tC_BadSizes ?kC_BadSizes ?hC_BadSizes ?ic_BadSizes ?mC_BadSizes ?ie_BadSizes ?te_BadSizes ?le_BadSizes ?ce_BadSizes ?lc_BadSizes ?fl_BadSizes ?fz_BadSizes ?lx_BadSizes ?nf_BadSizes_value ?tp
    (case a1 => k_is); (case l1 => k_is); (case c1 => k_is); (case k1 => k_is); (case a2 => k_is); (case l2 => k_is); (case c2 => k_is); (case k2 => k_is); (case a3 => k_is); (case l3 => k_is); (case c3 => k_is); (case k3 => k_is); (case a4 => k_is); (case l4 => k_is); (case c4 => k_is); (case k4 => k_is); (case a5 => k_is); (case l5 => k_is); (case c5 => k_is); (case k5 => k_is); (case a6 => k_is); (case l6 => k_is); (case c6 => k_is); (case k6 => k_is); (case a7 => k_is); (case l7 => k_is); (case c7 => k_is); (case k7 => k_is); (case a8 => k_is); (case l8 => k_is); (case c8 => k_is); (case k8 => k_is); (case a9 => k_is); (case l9 => k_is); (case c9 => k_is); (case k9 => k_is); (case a10 => k_is); (case l10 => k_is); (case c10 => k_is); (case k10 => k_is); (case a11 => k_is); (case l11 => k_is); (case c11 => k_is); (case k11 => k_is); (case a12 => k_is); (case l12 => k_is); (case c12 => k_is); (case k12 => k_is); (case a13 => k_is); (case l13 => k_is); (case c13 => k_is); (case k13 => k_is); (case a14 => k_is); (case l14 => k_is); (case c14 => k_is); (case k14 => k_is); (case a15 => k_is); (case l15 => k_is); (case c15 => k_is); (case k15 => k_is); (case a16 => k_is); (case l16 => k_is); (case c16 => k_is); (case k16 => k_is); (case a17 => k_is); (case l17 => k_is); (case c17 => k_is); (case k17 => k_is); (case a18 => k_is); (case l18 => k_is); (case c18 => k_is); (case k18 => k_is); (case a19 => k_is); (case l19 => k_is); (case c19 => k_is); (case k19 => k_is); (case a20 => k_is); (case l20 => k_is); (case c20 => k_is); (case k20 => k_is); (case a21 => k_is); (case l21 => k_is); (case c21 => k_is); (case k21 => k_is); (case a22 => k_is); (case l22 => k_is); (case c22 => k_is); (case k22 => k_is); (case a23 => k_is); (case l23 => k_is); (case c23 => k_is); (case k23 => k_is); (case a24 => k_is); (case l24 => k_is); (case c24 => k_is); (case k24 => k_is); (case a25 => k_is); (case l25 => k_is); (case c25 => k_is); (case k25 => k_is); (case a26 => k_is); (case l26 => k_is); (case c26 => k_is); (case k26 => k_is); (case a27 => k_is); (case l27 => k_is); (case c27 => k_is); (case k27 => k_is); (case a28 => k_is); (case l28 => k_is); (case c28 => k_is); (case k28 => k_is); (case a29 => k_is); (case l29 => k_is); (case c29 => k_is); (case k29 => k_is); (case a30 => k_is); (case l30 => k_is); (case c30 => k_is); (case k30 => k_is); (case a31 => k_is); (case l31 => k_is); (case c31 => k_is); (case k31 => k_is); (case a32 => k_is); (case l32 => k_is); (case c32 => k_is); (case k32 => k_is); (case a33 => k_is); (case l33 => k_is); (case c33 => k_is); (case k33 => k_is); (case a34 => k_is); (case l34 => k_is); (case c34 => k_is); (case k34 => k_is); (case a35 => k_is); (case l35 => k_is); (case c35 => k_is); (case k35 => k_is); (case z_all => k_is); (case z_any => k_is); (case z_bool => k_is); (case z_dict => k_is); (case z_int => k_is); (case z_isinstance => k_is); (case z_len => k_is); (case z_list => k_is); (case z_max => k_is); (case z_min => k_is); (case z_range => k_is); (case z_repr => k_is); (case z_sorted => k_is); (case z_sum => k_is); (case z_super => k_is); (case z_tuple => k_is); (case z_zip => k_is); (case y_MOST_ARROWS => k_is); (case y_MOST_POINTS => k_is); (case y_MOST_ROWS => k_is); (case on => k_is); (case ot => k_is); (case aC_Hall => k_is); (case ii_Hall => k_is); (case li_Hall => k_is); (case ci_Hall => k_is); (case kf_Hall => k_is); (case mk_Hall => k_is); (case fn_Hall => k_is); (case kC_Hall => k_is); (case pg_Hall => k_is); (case hd_Hall => k_is); (case po_Hall => k_is); (case sa_Hall => k_is); (case ga_Hall => k_is); (case ob_Hall => k_is); (case ic_Hall => k_is); (case ty_Hall => k_is); (case b0_Hall => k_is); (case b1_Hall => k_is); (case b2_Hall => k_is); (case b3_Hall => k_is); (case b4_Hall => k_is); (case b5_Hall => k_is); (case b6_Hall => k_is); (case nf_Hall_many => k_is); (case nf_Hall_arrows => k_is); (case iq_Hall => k_is); (case lq_Hall => k_is); (case cq_Hall => k_is); (case kfq_Hall => k_is); (case fnq_Hall => k_is); (case nnq_Hall => k_is); (case sbq_Hall_Hall => k_is); (case aS => k_is); (case xS => k_is); (case iS => k_is); (case opq => k_is); (case aC_BadItem => k_is); (case xC_BadItem => k_is); (case sa_BadItem => k_is); (case ga_BadItem => k_is); (case gg_BadItem => k_is); (case eC_BadItem => k_is); (case vC_BadItem => k_is); (case tC_BadItem => k_is); (case kC_BadItem => k_is); (case hC_BadItem => k_is); (case ic_BadItem => k_is); (case mC_BadItem => k_is); (case ie_BadItem => k_is); (case te_BadItem => k_is); (case le_BadItem => k_is); (case ce_BadItem => k_is); (case lc_BadItem => k_is); (case fl_BadItem => rfl); (case fz_BadItem => first | rfl | decide +kernel); (case lx_BadItem => k_is); (case nf_BadItem_value => k_is); (case aC_TooMany => k_is); (case xC_TooMany => k_is); (case sa_TooMany => k_is); (case ga_TooMany => k_is); (case gg_TooMany => k_is); (case eC_TooMany => k_is); (case vC_TooMany => k_is); (case tC_TooMany => k_is); (case kC_TooMany => k_is); (case hC_TooMany => k_is); (case ic_TooMany => k_is); (case mC_TooMany => k_is); (case ie_TooMany => k_is); (case te_TooMany => k_is); (case le_TooMany => k_is); (case ce_TooMany => k_is); (case lc_TooMany => k_is); (case fl_TooMany => rfl); (case fz_TooMany => first | rfl | decide +kernel); (case lx_TooMany => k_is); (case nf_TooMany_what => k_is); (case nf_TooMany_most => k_is); (case aC_BadHall => k_is); (case xC_BadHall => k_is); (case sa_BadHall => k_is); (case ga_BadHall => k_is); (case gg_BadHall => k_is); (case eC_BadHall => k_is); (case vC_BadHall => k_is); (case tC_BadHall => k_is); (case kC_BadHall => k_is); (case hC_BadHall => k_is); (case ic_BadHall => k_is); (case mC_BadHall => k_is); (case ie_BadHall => k_is); (case te_BadHall => k_is); (case le_BadHall => k_is); (case ce_BadHall => k_is); (case lc_BadHall => k_is); (case fl_BadHall => rfl); (case fz_BadHall => first | rfl | decide +kernel); (case lx_BadHall => k_is); (case nf_BadHall_why => k_is); (case aC_BadSizes => k_is); (case xC_BadSizes => k_is); (case sa_BadSizes => k_is); (case ga_BadSizes => k_is); (case gg_BadSizes => k_is); (case eC_BadSizes => k_is); (case vC_BadSizes => k_is); (case tC_BadSizes => k_is); (case kC_BadSizes => k_is); (case hC_BadSizes => k_is); (case ic_BadSizes => k_is); (case mC_BadSizes => k_is); (case ie_BadSizes => k_is); (case te_BadSizes => k_is); (case le_BadSizes => k_is); (case ce_BadSizes => k_is); (case lc_BadSizes => k_is); (case fl_BadSizes => rfl); (case fz_BadSizes => first | rfl | decide +kernel); (case lx_BadSizes => k_is); (case nf_BadSizes_value => k_is); (case tp => first | rfl | decide +kernel)

