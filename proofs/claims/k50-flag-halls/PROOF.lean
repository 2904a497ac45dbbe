import PyProof.Rows.All
import HandS.ForMost
import HandS.Lambda
import HandS.ExcOwn
import HandS.Zip
import HandS.NoneIn
import HandS.TupAny
import HandS.TupMul
import HandS.Deep
import HandS.IsInst
import HandS.Conv
import HandS.SortKw
import HandS.SortInts
import HandS.Iter
import KE.KTupSum
import KE.SortData
import HandS.Style
import HandS.Defaults
import HandS.WordsExc
import KE.KExcSuper
import HandS.ExcInit
import HandS.RaiseMore
import HandS.TryMany
import HandS.ExcField
import HandS.ExcIs
import HandS.EndTab
import HandS.Words
import KE.GoesMore
import PyProof.Draws
import PyProof.StrOps2
import KE.KDictZip
import HandS.SlotsOwn
import HandS.OwnEq
import PyProof.EqKinds
import KE.DatumOrd
import HandS.Codes
import HandS.TupSets
import HandS.Text
import PyProof.ListStr
import HandS.Sort
import PySem.Challenge.RW_sizerooms_k50_whole_flag_halls
set_option Elab.async false
set_option linter.all false
set_option maxRecDepth 100000
set_option maxHeartbeats 4000000
/-! EL: values as trees over the layer HandS; local lists and dicts that one slot owns; the law's pen; exceptions -/
namespace DL
open PySem PySem.Spec PyProof.Rows L2

/-- a Python value as a tree -/
inductive D where
  | non | bl (b : Bool) | int (i : Int) | str (x : Str) | lst (xs : List D) | tup (xs : List D) | ty (n : String) | obj (a : Addr)
  | dK (ks : List Key) (ds : List D) | dT (ks : List (List Key)) (ds : List D) | ins (C : Addr) (ns : List Str) (ds : List D)

mutual
/-- v stands for d in H, and leans on nothing of B -/
inductive Rep (B : Addr → Prop) (H : Hp) : V → D → Prop
  | non : Rep B H .non .non
  | bl (b : Bool) : Rep B H (.bl b) (.bl b)
  | int (i : Int) : Rep B H (.int i) (.int i)
  | str (x : Str) : Rep B H (.str x) (.str x)
  | ty (n : String) : Rep B H (.ty n) (.ty n)
  | obj (a : Addr) : Rep B H (.ref a) (.obj a)
  | lst {a : Addr} {vs : List V} {ds : List D} : ¬ B a → H a = some (.lst vs) → RepL B H vs ds → Rep B H (.ref a) (.lst ds)
  | tup {a : Addr} {vs : List V} {ds : List D} : ¬ B a → H a = some (.tup vs) → RepL B H vs ds → Rep B H (.ref a) (.tup ds)
  | dK {a : Addr} {kvs : List (Key × V)} {ks : List Key} {vs : List V} {ds : List D} : ¬ B a → H a = some (.dK kvs) → kvs = ks.zip vs → ks.length = vs.length → RepL B H vs ds → Rep B H (.ref a) (.dK ks ds)
  | dT {a : Addr} {kvs : List (List Key × V)} {ks : List (List Key)} {vs : List V} {ds : List D} : ¬ B a → H a = some (.dT kvs) → kvs = ks.zip vs → ks.length = vs.length → RepL B H vs ds → Rep B H (.ref a) (.dT ks ds)
  | ins {a C dx : Addr} {fs : List (Str × V)} {ns : List Str} {vs : List V} {ds : List D} : ¬ B a → H a = some (.ins C dx fs) → fs = ns.zip vs → ns.length = vs.length → RepL B H vs ds → Rep B H (.ref a) (.ins C ns ds)
inductive RepL (B : Addr → Prop) (H : Hp) : List V → List D → Prop
  | nil : RepL B H [] []
  | cons {v : V} {vs : List V} {d : D} {ds : List D} : Rep B H v d → RepL B H vs ds → RepL B H (v :: vs) (d :: ds)
end

mutual
theorem Rep.mono {B B' : Addr → Prop} {H H' : Hp} (hp : ∀ a o, H a = some o → ¬ B a → H' a = some o) (hb : ∀ a, B' a → B a ∨ H a = none) :
    ∀ {v : V} {d : D}, Rep B H v d → Rep B' H' v d
  | _, _, .non => .non
  | _, _, .bl b => .bl b
  | _, _, .int i => .int i
  | _, _, .str x => .str x
  | _, _, .ty n => .ty n
  | _, _, .obj a => .obj a
  | _, _, .lst h1 h2 h3 => .lst (fun z => (hb _ z).elim h1 fun e => by rw [e] at h2; cases h2) (hp _ _ h2 h1) (RepL.mono hp hb h3)
  | _, _, .tup h1 h2 h3 => .tup (fun z => (hb _ z).elim h1 fun e => by rw [e] at h2; cases h2) (hp _ _ h2 h1) (RepL.mono hp hb h3)
  | _, _, .dK h1 h2 e1 e2 h3 => .dK (fun z => (hb _ z).elim h1 fun e => by rw [e] at h2; cases h2) (hp _ _ h2 h1) e1 e2 (RepL.mono hp hb h3)
  | _, _, .dT h1 h2 e1 e2 h3 => .dT (fun z => (hb _ z).elim h1 fun e => by rw [e] at h2; cases h2) (hp _ _ h2 h1) e1 e2 (RepL.mono hp hb h3)
  | _, _, .ins h1 h2 e1 e2 h3 => .ins (fun z => (hb _ z).elim h1 fun e => by rw [e] at h2; cases h2) (hp _ _ h2 h1) e1 e2 (RepL.mono hp hb h3)
theorem RepL.mono {B B' : Addr → Prop} {H H' : Hp} (hp : ∀ a o, H a = some o → ¬ B a → H' a = some o) (hb : ∀ a, B' a → B a ∨ H a = none) :
    ∀ {vs : List V} {ds : List D}, RepL B H vs ds → RepL B' H' vs ds
  | _, _, .nil => .nil
  | _, _, .cons h t => .cons (Rep.mono hp hb h) (RepL.mono hp hb t)
end

section
variable {B B' : Addr → Prop} {H H' : Hp} {vs ws : List V} {ds es : List D}
theorem RepL.length : ∀ {vs : List V} {ds : List D}, RepL B H vs ds → vs.length = ds.length
  | _, _, .nil => rfl
  | _, _, .cons _ t => by rw [List.length_cons, List.length_cons, RepL.length t]
theorem RepL.append : ∀ {vs : List V} {ds : List D}, RepL B H vs ds → RepL B H ws es → RepL B H (vs ++ ws) (ds ++ es)
  | _, _, .nil, k => k
  | _, _, .cons h t, k => .cons h (RepL.append t k)
theorem RepL.get : ∀ {vs : List V} {ds : List D} {i : Nat} {d : D}, RepL B H vs ds → ds[i]? = some d → ∃ v, vs[i]? = some v ∧ Rep B H v d
  | _, _, _, _, .nil, e => by simp at e
  | _, _, 0, _, .cons h _, e => by simp at e; subst e; exact ⟨_, rfl, h⟩
  | _, _, i + 1, _, .cons _ t, e => by
    obtain ⟨v, h1, h2⟩ := RepL.get (i := i) t (by simpa using e)
    exact ⟨v, by simpa using h1, h2⟩
theorem RepL.take : ∀ {vs : List V} {ds : List D} (n : Nat), RepL B H vs ds → RepL B H (vs.take n) (ds.take n)
  | _, _, 0, _ => .nil
  | _, _, _ + 1, .nil => .nil
  | _, _, n + 1, .cons h t => .cons h (RepL.take n t)
theorem RepL.drop : ∀ {vs : List V} {ds : List D} (n : Nat), RepL B H vs ds → RepL B H (vs.drop n) (ds.drop n)
  | _, _, 0, h => h
  | _, _, _ + 1, .nil => .nil
  | _, _, n + 1, .cons _ t => RepL.drop n t
theorem RepL.reverse : ∀ {vs : List V} {ds : List D}, RepL B H vs ds → RepL B H vs.reverse ds.reverse
  | _, _, .nil => .nil
  | _, _, .cons h t => by
    rw [List.reverse_cons, List.reverse_cons]
    exact RepL.append (RepL.reverse t) (.cons h .nil)
theorem RepL.eraseIdx : ∀ {vs : List V} {ds : List D} (n : Nat), RepL B H vs ds → RepL B H (vs.eraseIdx n) (ds.eraseIdx n)
  | _, _, _, .nil => .nil
  | _, _, 0, .cons _ t => t
  | _, _, n + 1, .cons h t => .cons h (RepL.eraseIdx n t)
theorem RepL.set {x : V} {y : D} (r : Rep B H x y) : ∀ {vs : List V} {ds : List D} (n : Nat), RepL B H vs ds → RepL B H (vs.set n x) (ds.set n y)
  | _, _, _, .nil => .nil
  | _, _, 0, .cons _ t => .cons r t
  | _, _, n + 1, .cons h t => .cons h (RepL.set r n t)
theorem RepL.ints : ∀ {ns : List Int} {vs : List V}, RepL B H vs (ns.map D.int) → vs = ns.map V.int
  | [], _, .nil => rfl
  | n :: r, _, .cons h t => by cases h; rw [RepL.ints t]; rfl
theorem RepL.of_ints : ∀ (ns : List Int), RepL B H (ns.map V.int) (ns.map D.int)
  | [] => .nil
  | n :: r => .cons (.int n) (RepL.of_ints r)
theorem RepL.bls : ∀ {ns : List Bool} {vs : List V}, RepL B H vs (ns.map D.bl) → vs = ns.map V.bl
  | [], _, .nil => rfl
  | n :: r, _, .cons h t => by cases h; rw [RepL.bls t]; rfl
end

/-- all that is tracked is kept -/
def AExt (H H' : Hp) : Prop := ∀ a o, H a = some o → H' a = some o
theorem AExt.refl (H : Hp) : AExt H H := fun _ _ h => h
theorem AExt.trans {H H1 H2 : Hp} (a : AExt H H1) (b : AExt H1 H2) : AExt H H2 := fun c o h => b c o (a c o h)
theorem AExt.upd {H : Hp} {p : Addr} {o : HO} (h : H p = none) : AExt H (upd H p o) := fun b x e => by rw [upd_ne (ne_of_none e h)]; exact e
theorem Rep.ext {B : Addr → Prop} {H H' : Hp} {v : V} {d : D} (x : AExt H H') (r : Rep B H v d) : Rep B H' v d := r.mono (fun a o h _ => x a o h) fun a h => .inl h
theorem RepL.ext {B : Addr → Prop} {H H' : Hp} {v : List V} {d : List D} (x : AExt H H') (r : RepL B H v d) : RepL B H' v d := r.mono (fun a o h _ => x a o h) fun a h => .inl h
theorem fresh_not {B : Addr → Prop} {H : Hp} {p : Addr} (hb : ∀ b, B b → H b ≠ none) (h : H p = none) : ¬ B p := fun z => hb p z h

/-! ### slots -/
/-- an object that one slot owns -/
inductive OD where
  | l (ds : List D) | k (ks : List Key) (ds : List D) | t (ks : List (List Key)) (ds : List D) | i (C : Addr) (ns : List Str) (ds : List D)
def OD.toD : OD → D
  | .l ds => .lst ds
  | .k ks ds => .dK ks ds
  | .t ks ds => .dT ks ds
  | .i C ns ds => .ins C ns ds
inductive RepO (B : Addr → Prop) (H : Hp) : HO → OD → Prop
  | l {vs : List V} {ds : List D} : RepL B H vs ds → RepO B H (.lst vs) (.l ds)
  | k {ks : List Key} {vs : List V} {ds : List D} : ks.length = vs.length → RepL B H vs ds → RepO B H (.dK (ks.zip vs)) (.k ks ds)
  | t {ks : List (List Key)} {vs : List V} {ds : List D} : ks.length = vs.length → RepL B H vs ds → RepO B H (.dT (ks.zip vs)) (.t ks ds)
  | i {C dx : Addr} {ns : List Str} {vs : List V} {ds : List D} : ns.length = vs.length → RepL B H vs ds → RepO B H (.ins C dx (ns.zip vs)) (.i C ns ds)
theorem RepO.mono {B B' : Addr → Prop} {H H' : Hp} (hp : ∀ a o, H a = some o → ¬ B a → H' a = some o) (hb : ∀ a, B' a → B a ∨ H a = none) {o : HO} {d : OD} (r : RepO B H o d) : RepO B' H' o d := by
  cases r with
  | l r => exact .l (r.mono hp hb)
  | k e r => exact .k e (r.mono hp hb)
  | t e r => exact .t e (r.mono hp hb)
  | i e r => exact .i e (r.mono hp hb)
theorem RepO.ext {B : Addr → Prop} {H H' : Hp} {v : HO} {d : OD} (x : AExt H H') (r : RepO B H v d) : RepO B H' v d := r.mono (fun a o h _ => x a o h) fun a h => .inl h
theorem RepO.rep {B : Addr → Prop} {H : Hp} {a : Addr} {o : HO} {d : OD} (nb : ¬ B a) (h : H a = some o) (r : RepO B H o d) : Rep B H (.ref a) d.toD := by
  cases r with
  | l r => exact .lst nb h r
  | k e r => exact .dK nb h rfl e r
  | t e r => exact .dT nb h rfl e r
  | i e r => exact .ins nb h rfl e r
theorem RepO.lst {B : Addr → Prop} {H : Hp} {o : HO} {ds : List D} (r : RepO B H o (.l ds)) : ∃ vs, o = .lst vs ∧ RepL B H vs ds := by
  cases r with | l r => exact ⟨_, rfl, r⟩
inductive Slot where
  | un | val (d : D) | own (o : OD)
abbrev En := List Slot
def Own (ρ : En) (σ : L2.St) (a : Addr) : Prop := ∃ (i : Nat) (o : OD), ρ[i]? = some (.own o) ∧ σ[i]? = some (some (V.ref a))
def Bn (O : Addr → Prop) (ρ : En) (σ : L2.St) (a : Addr) : Prop := O a ∨ Own ρ σ a

/-! ### the law's pen -/
/-- an exception: its class, its fields -/
structure XD where
  cls : Value
  ns : List Str
  ds : List D
/-- what a body stands in: the pen, the heap that it found, what is wanted of an exception -/
structure Pn where
  pen : Option (Addr × Addr)
  base : Hp
  xc : XD → Nat → Prop
  self : Option Addr := none
  tabs : List (Addr × Str) := []
  hb : Addr → Prop := fun _ => False
structure KP where
  pen : Option Addr
  xc : XD → Nat → Prop
  tabs : List (Addr × Str) := []
/-- the draws so far; the pen and what is wanted of an exception -/
abbrev Kt := Nat × KP
def penO (c : Addr) (i d k f : Int) : HO := .dK [(.inr "cells", .ref c), (.inr "at", .int i), (.inr "digits", .int d), (.inr "count", .int k), (.inr "fold", .int f)]
/-- the law's pen stands, and the table of code objects where lambdas are made -/
def penI (p : Pn) (k : Kt) (H : Hp) : Prop := (match p.pen with
  | none => k.2.pen = none
  | some (a, c) => k.2.pen = some a ∧ a ≠ c ∧ ∃ (ns : List Int) (i : Nat) (d f : Int), H a = some (penO c i d k.1 f) ∧ H c = some (.lst (ns.map V.int)) ∧ i ≤ ns.length ∧ 0 ≤ d ∧ 0 ≤ f ∧ f < 2147483648) ∧ k.2.tabs = p.tabs ∧ LamX.Tabs p.tabs H
def penA (p : Pn) (x : Addr) : Prop := (∃ c, p.pen = some (x, c)) ∨ ∃ q, (x, q) ∈ p.tabs
def penB (p : Pn) (x : Addr) : Prop := (∃ a c, p.pen = some (a, c) ∧ (x = a ∨ x = c)) ∨ ∃ q, (x, q) ∈ p.tabs
/-- and what they that hear keep apart -/
def penC (p : Pn) (x : Addr) : Prop := penB p x ∨ p.hb x
theorem penB.of {p : Pn} {x : Addr} (h : penA p x) : penB p x := h.elim (fun ⟨c, e⟩ => .inl ⟨x, c, e, .inl rfl⟩) .inr
theorem tabS_keep {H H' : Hp} {P : Addr} {q : Str} (t : LamX.TabS H P q) (e : H' P = H P) (co : ∀ a q, H a = some (LamX.CodeO a q) → H' a = some (LamX.CodeO a q)) : LamX.TabS H' P q := by
  obtain ⟨ps, h1, h2, h3⟩ := t
  refine ⟨ps, e.trans h1, h2, fun pos cv hc => ?_⟩
  obtain ⟨c, e1, e2⟩ := h3 pos cv hc
  exact ⟨c, e1, co _ _ e2⟩
theorem penI.keep {p : Pn} {k : Kt} {H H' : Hp} (h : penI p k H) (e : ∀ a, penB p a → H' a = H a) (co : ∀ a q, H a = some (LamX.CodeO a q) → H' a = some (LamX.CodeO a q)) : penI p k H' := by
  obtain ⟨h, kt, t⟩ := h
  refine ⟨?_, kt, fun z hz => tabS_keep (t z hz) (e z.1 (.inr ⟨z.2, hz⟩)) co⟩
  cases q : p.pen with
  | none => rw [q] at h; exact h
  | some ac =>
    obtain ⟨a, c⟩ := ac
    rw [q] at h
    obtain ⟨m, n, ns, i, d, f, h1, h2, h3⟩ := h
    exact ⟨m, n, ns, i, d, f, by rw [e a (.inl ⟨a, c, q, .inl rfl⟩)]; exact h1, by rw [e c (.inl ⟨a, c, q, .inr rfl⟩)]; exact h2, h3⟩
theorem penI.there {p : Pn} {k : Kt} {H : Hp} (h : penI p k H) {a : Addr} (ha : penB p a) : H a ≠ none := by
  obtain ⟨h, kt, t⟩ := h
  rcases ha with ⟨x, c, q, e⟩ | ⟨q, e⟩
  · rw [q] at h
    obtain ⟨_, _, ns, i, d, f, h1, h2, h3⟩ := h
    rcases e with rfl | rfl
    · rw [h1]; simp
    · rw [h2]; simp
  · obtain ⟨ps, h1, _⟩ := t (a, q) e
    rw [h1]; simp
theorem penI.nt {p : Pn} {k : Kt} {H : Hp} (h : penI p k H) {a : Addr} (ha : penB p a) : H a ≠ none ∧ ∀ vs, H a ≠ some (.tup vs) := by
  obtain ⟨h, kt, t⟩ := h
  rcases ha with ⟨x, c, q, e⟩ | ⟨q, e⟩
  · rw [q] at h
    obtain ⟨_, _, ns, i, d, f, h1, h2, h3⟩ := h
    rcases e with rfl | rfl
    · rw [h1]; exact ⟨by simp, fun vs z => by cases z⟩
    · rw [h2]; exact ⟨by simp, fun vs z => by cases z⟩
  · obtain ⟨ps, h1, _⟩ := t (a, q) e
    rw [h1]; exact ⟨by simp, fun vs z => by cases z⟩
theorem nt_kept {x : Option HO} {o : HO} (h : x ≠ none ∧ ∀ vs, x ≠ some (.tup vs)) (e : x = some o) : (some o : Option HO) ≠ none ∧ ∀ vs, (some o : Option HO) ≠ some (.tup vs) := by rw [← e]; exact h
/-- what the body found is kept -/
def Kept (p : Pn) (H : Hp) : Prop := ∀ a o, p.base a = some o → ¬ penA p a → H a = some o

/-- the slots' trees as they stand -/
structure Rel (O : Addr → Prop) (p : Pn) (ρ : En) (k : Kt) (σ : L2.St) (H : Hp) : Prop where
  len : ρ.length = σ.length
  val : ∀ (i : Nat) (d : D), ρ[i]? = some (.val d) → ∃ v, σ[i]? = some (some v) ∧ Rep (Bn O ρ σ) H v d
  own : ∀ (i : Nat) (d : OD), ρ[i]? = some (.own d) → ∃ (a : Addr) (o : HO), σ[i]? = some (some (V.ref a)) ∧ H a = some o ∧ ¬ O a ∧ RepO (Bn O ρ σ) H o d
  inj : ∀ (i j : Nat) (a : Addr) (ds es : OD), ρ[i]? = some (.own ds) → ρ[j]? = some (.own es) → σ[i]? = some (some (V.ref a)) → σ[j]? = some (some (V.ref a)) → i = j
  ot : ∀ a, O a → H a ≠ none ∧ ∀ vs, H a ≠ some (.tup vs)
  pn : penI p k H
  po : ∀ a, penC p a → O a
  kx : k.2.xc = p.xc
  bs : Kept p H
  bo : ∀ a, Own ρ σ a → p.base a = none
  sf : ∀ (i : Nat) (C : Addr) (ns : List Str) (ds : List D) (a : Addr), ρ[i]? = some (.own (.i C ns ds)) → σ[i]? = some (some (V.ref a)) → p.self = some a

/-- what a piece of code leaves: all but the pen and the owned lists; what is owned then was owned, or is new -/
structure Step (p : Pn) (ρ : En) (σ : L2.St) (H : Hp) (ρ' : En) (σ' : L2.St) (H' : Hp) : Prop where
  kp : ∀ a o, H a = some o → ¬ penA p a → ¬ Own ρ σ a → H' a = some o
  nw : ∀ a, Own ρ' σ' a → Own ρ σ a ∨ H a = none
  tr : ∀ a, H a ≠ none → H' a ≠ none

section
variable {O : Addr → Prop} {p : Pn} {ρ ρ1 ρ2 : En} {k k1 k2 : Kt} {σ σ1 σ2 : L2.St} {H H1 H2 : Hp}
theorem RepO.nt {B : Addr → Prop} {o : HO} {d : OD} (r : RepO B H o d) : ∀ vs, o ≠ .tup vs := fun vs z => by
  subst z
  cases r
theorem Rel.btn (r : Rel O p ρ k σ H) : ∀ a, Bn O ρ σ a → H a ≠ none ∧ ∀ vs, H a ≠ some (.tup vs) := fun a h => by
  rcases h with h | ⟨i, ds, h1, h2⟩
  · exact r.ot a h
  · obtain ⟨b, vs, e1, e2, _, q⟩ := r.own i ds h1
    rw [h2] at e1
    cases e1
    rw [e2]
    exact ⟨by simp, fun us z => q.nt us (Option.some.inj z)⟩
theorem Rel.bt (r : Rel O p ρ k σ H) : ∀ a, Bn O ρ σ a → H a ≠ none := fun a h => by
  rcases h with h | ⟨i, ds, h1, h2⟩
  · exact (r.ot a h).1
  · obtain ⟨b, vs, e1, e2, _⟩ := r.own i ds h1
    rw [h2] at e1
    cases e1
    rw [e2]
    simp
theorem Rel.ownL (r : Rel O p ρ k σ H) {i : Nat} {ds : List D} (h : ρ[i]? = some (.own (.l ds))) : ∃ (a : Addr) (vs : List V), σ[i]? = some (some (V.ref a)) ∧ H a = some (.lst vs) ∧ ¬ O a ∧ RepL (Bn O ρ σ) H vs ds := by
  obtain ⟨a, o, e1, e2, e3, e4⟩ := r.own i _ h
  obtain ⟨vs, rfl, q⟩ := e4.lst
  exact ⟨a, vs, e1, e2, e3, q⟩
theorem Rel.ownNot (r : Rel O p ρ k σ H) {a : Addr} (h : Own ρ σ a) : ¬ O a := by
  obtain ⟨i, ds, h1, h2⟩ := h
  obtain ⟨b, vs, e1, e2, e3, _⟩ := r.own i ds h1
  rw [h2] at e1
  cases e1
  exact e3
theorem Step.refl : Step p ρ σ H ρ σ H := ⟨fun _ _ h _ _ => h, fun _ h => .inl h, fun _ h => h⟩
theorem AExt.tr {H H' : Hp} (x : AExt H H') : ∀ a, H a ≠ none → H' a ≠ none := fun a h => by
  cases q : H a with
  | none => exact absurd q h
  | some o => rw [x a o q]; simp
theorem Step.trans (a : Step p ρ σ H ρ1 σ1 H1) (b : Step p ρ1 σ1 H1 ρ2 σ2 H2) (hp : penI p k1 H1) : Step p ρ σ H ρ2 σ2 H2 where
  kp := fun c o h n1 n2 => b.kp c o (a.kp c o h n1 n2) n1 fun z => (a.nw c z).elim n2 fun e => by rw [e] at h; cases h
  nw := fun c h => by
    rcases b.nw c h with z | z
    · exact a.nw c z
    · right
      cases q : H c with
      | none => rfl
      | some o => exact absurd z (a.tr c (by rw [q]; simp))
  tr := fun c h => b.tr c (a.tr c h)
theorem Step.ext (x : AExt H H1) : Step p ρ σ H ρ σ H1 := ⟨fun a o h _ _ => x a o h, fun _ h => .inl h, x.tr⟩
theorem Rel.kp (r : Rel O p ρ k σ H) (s : Step p ρ σ H ρ1 σ1 H1) : ∀ a o, H a = some o → ¬ Bn O ρ σ a → H1 a = some o := fun a o h n =>
  s.kp a o h (fun z => n (.inl (r.po a (.inl (penB.of z))))) fun z => n (.inr z)
theorem Rel.nb (r : Rel O p ρ k σ H) (s : Step p ρ σ H ρ1 σ1 H1) : ∀ a, Bn O ρ1 σ1 a → Bn O ρ σ a ∨ H a = none := fun a h => by
  rcases h with h | h
  · exact .inl (.inl h)
  · exact (s.nw a h).imp .inr id
theorem Rep.step (r : Rel O p ρ k σ H) (s : Step p ρ σ H ρ1 σ1 H1) {v : V} {d : D} (h : Rep (Bn O ρ σ) H v d) : Rep (Bn O ρ1 σ1) H1 v d := h.mono (r.kp s) (r.nb s)
theorem RepL.step (r : Rel O p ρ k σ H) (s : Step p ρ σ H ρ1 σ1 H1) {v : List V} {d : List D} (h : RepL (Bn O ρ σ) H v d) : RepL (Bn O ρ1 σ1) H1 v d := h.mono (r.kp s) (r.nb s)
theorem RepO.step (r : Rel O p ρ k σ H) (s : Step p ρ σ H ρ1 σ1 H1) {v : HO} {d : OD} (h : RepO (Bn O ρ σ) H v d) : RepO (Bn O ρ1 σ1) H1 v d := h.mono (r.kp s) (r.nb s)
theorem penI.ext (h : penI p k H) (x : AExt H H1) : penI p k H1 := h.keep (fun a ha => by
  cases q : H a with
  | none => exact absurd q (h.there ha)
  | some o => exact x a o q) fun a q e => x _ _ e
theorem Rel.ext (r : Rel O p ρ k σ H) (x : AExt H H1) : Rel O p ρ k σ H1 where
  len := r.len
  val := fun i d h => let ⟨v, e, q⟩ := r.val i d h; ⟨v, e, q.ext x⟩
  own := fun i ds h => let ⟨a, vs, e1, e2, e3, q⟩ := r.own i ds h; ⟨a, vs, e1, x _ _ e2, e3, q.ext x⟩
  inj := r.inj
  ot := fun a h => by
    cases q : H a with
    | none => exact absurd q (r.ot a h).1
    | some o => rw [x a o q]; exact ⟨by simp, fun vs e => (r.ot a h).2 vs (by rw [q]; exact e)⟩
  pn := r.pn.ext x
  po := r.po
  kx := r.kx
  bs := fun a o h n => x a o (r.bs a o h n)
  bo := r.bo
  sf := r.sf
/-- less is kept apart -/
theorem Rel.less {O' : Addr → Prop} (r : Rel O p ρ k σ H) (h : ∀ a, O' a → O a) (hp : ∀ a, penC p a → O' a) : Rel O' p ρ k σ H where
  len := r.len
  val := fun i d e => let ⟨v, e1, q⟩ := r.val i d e; ⟨v, e1, q.mono (fun _ _ h _ => h) fun a z => .inl (z.imp (h a) id)⟩
  own := fun i ds e => let ⟨a, vs, e1, e2, e3, q⟩ := r.own i ds e; ⟨a, vs, e1, e2, fun z => e3 (h a z), q.mono (fun _ _ h _ => h) fun a z => .inl (z.imp (h a) id)⟩
  inj := r.inj
  ot := fun a z => r.ot a (h a z)
  pn := r.pn
  po := hp
  kx := r.kx
  bs := r.bs
  bo := r.bo
  sf := r.sf
/-- a new object is kept apart -/
theorem Rel.more {L : Addr} {o : HO} (r : Rel O p ρ k σ H) (hL : H L = none) (ho : ∀ vs, o ≠ .tup vs := by intro vs z; cases z) : Rel (fun b => O b ∨ b = L) p ρ k σ (upd H L o) where
  len := r.len
  val := fun i d e => let ⟨v, e1, q⟩ := r.val i d e; ⟨v, e1, q.mono (fun a x h _ => AExt.upd hL a x h) fun a z => by
    rcases z with (z | z) | z
    · exact .inl (.inl z)
    · exact .inr (by rw [z]; exact hL)
    · exact .inl (.inr z)⟩
  own := fun i ds e => let ⟨a, vs, e1, e2, e3, q⟩ := r.own i ds e; ⟨a, vs, e1, AExt.upd hL _ _ e2, fun z => z.elim e3 (fun z => by rw [z, hL] at e2; cases e2), q.mono (fun a x h _ => AExt.upd hL a x h) fun a z => by
    rcases z with (z | z) | z
    · exact .inl (.inl z)
    · exact .inr (by rw [z]; exact hL)
    · exact .inl (.inr z)⟩
  inj := r.inj
  ot := fun a z => by
    rcases z with z | z
    · cases q : H a with
      | none => exact absurd q (r.ot a z).1
      | some x => rw [AExt.upd hL a x q]; exact ⟨by simp, fun vs e => (r.ot a z).2 vs (by rw [q]; exact e)⟩
    · rw [z, upd_same]; exact ⟨by simp, fun vs e => ho vs (Option.some.inj e)⟩
  pn := r.pn.ext (AExt.upd hL)
  po := fun a z => .inl (r.po a z)
  kx := r.kx
  bs := fun a x h n => AExt.upd hL a x (r.bs a x h n)
  bo := r.bo
  sf := r.sf
/-- an object kept apart is written -/
theorem Rel.write {L : Addr} {o : HO} (r : Rel O p ρ k σ H) (hL : O L) (hp : ¬ penB p L) (hb : p.base L = none) (hc : ∀ q, H L ≠ some (LamX.CodeO L q)) (ho : ∀ vs, o ≠ .tup vs := by intro vs z; cases z) : Rel O p ρ k σ (upd H L o) where
  len := r.len
  val := fun i d e => let ⟨v, e1, q⟩ := r.val i d e; ⟨v, e1, q.mono (fun a x h n => by rw [upd_ne (fun z => n (by rw [z]; exact .inl hL))]; exact h) fun a z => .inl z⟩
  own := fun i ds e => let ⟨a, vs, e1, e2, e3, q⟩ := r.own i ds e; ⟨a, vs, e1, by rw [upd_ne (fun z => e3 (by rw [z]; exact hL))]; exact e2, e3, q.mono (fun a x h n => by rw [upd_ne (fun z => n (by rw [z]; exact .inl hL))]; exact h) fun a z => .inl z⟩
  inj := r.inj
  ot := fun a z => by
    by_cases e : a = L
    · rw [e, upd_same]; exact ⟨by simp, fun vs e => ho vs (Option.some.inj e)⟩
    · rw [upd_ne e]; exact r.ot a z
  pn := r.pn.keep (fun a ha => upd_ne fun z => hp (by rw [← z]; exact ha)) fun a q e => by rw [upd_ne fun z => hc q (by rw [← z]; exact e)]; exact e
  po := r.po
  kx := r.kx
  bs := fun a x h n => by rw [upd_ne fun z => by rw [z, hb] at h; cases h]; exact r.bs a x h n
  bo := r.bo
  sf := r.sf
end

/-! ### results: a tree, or what a slot holds -/
inductive R where
  | val (d : D) | slot (i : Nat)
def deref (ρ : En) : R → Option D
  | .val d => some d
  | .slot i => match ρ[i]? with
    | some (.val d) => some d
    | some (.own o) => some o.toD
    | _ => none
/-- stored elsewhere: an owned list is no more owned -/
def frz (ρ : En) : R → Option (D × En)
  | .val d => some (d, ρ)
  | .slot i => match ρ[i]? with
    | some (.val d) => some (d, ρ)
    | some (.own o) => some (o.toD, ρ.set i (.val o.toD))
    | _ => none
def RRep (O : Addr → Prop) (ρ : En) (σ : L2.St) (H : Hp) (v : V) : R → Prop
  | .val d => Rep (Bn O ρ σ) H v d
  | .slot i => σ[i]? = some (some v)
/-- as Rep; a list itself may be owned -/
inductive RepS (B : Addr → Prop) (H : Hp) : V → D → Prop
  | any {v : V} {d : D} : Rep B H v d → RepS B H v d
  | own {a : Addr} {o : HO} {od : OD} {d : D} : H a = some o → RepO B H o od → od.toD = d → RepS B H (.ref a) d
inductive RepSL (B : Addr → Prop) (H : Hp) : List V → List D → Prop
  | nil : RepSL B H [] []
  | cons {v : V} {vs : List V} {d : D} {ds : List D} : RepS B H v d → RepSL B H vs ds → RepSL B H (v :: vs) (d :: ds)
theorem RepS.lst {B : Addr → Prop} {H : Hp} {v : V} {ds : List D} (h : RepS B H v (.lst ds)) : ∃ a vs, v = .ref a ∧ H a = some (.lst vs) ∧ RepL B H vs ds := by
  cases h with
  | any h => cases h with | lst h1 h2 h3 => exact ⟨_, _, rfl, h2, h3⟩
  | own h1 h2 e => cases h2 with
    | l r => cases e; exact ⟨_, _, rfl, h1, r⟩
    | k _ r => cases e
    | t _ r => cases e
    | i _ r => cases e
theorem RepS.tup {B : Addr → Prop} {H : Hp} {v : V} {ds : List D} (h : RepS B H v (.tup ds)) : ∃ a vs, v = .ref a ∧ ¬ B a ∧ H a = some (.tup vs) ∧ RepL B H vs ds := by
  cases h with
  | any h => cases h with | tup h1 h2 h3 => exact ⟨_, _, rfl, h1, h2, h3⟩
  | own h1 h2 e => cases h2 <;> cases e
theorem RepS.int {B : Addr → Prop} {H : Hp} {v : V} {i : Int} (h : RepS B H v (.int i)) : v = .int i := by
  cases h with
  | any h => cases h; rfl
  | own h1 h2 e => cases h2 <;> cases e
theorem RepS.bl {B : Addr → Prop} {H : Hp} {v : V} {i : Bool} (h : RepS B H v (.bl i)) : v = .bl i := by
  cases h with
  | any h => cases h; rfl
  | own h1 h2 e => cases h2 <;> cases e
theorem RepS.str {B : Addr → Prop} {H : Hp} {v : V} {i : Str} (h : RepS B H v (.str i)) : v = .str i := by
  cases h with
  | any h => cases h; rfl
  | own h1 h2 e => cases h2 <;> cases e
theorem RepS.non {B : Addr → Prop} {H : Hp} {v : V} (h : RepS B H v .non) : v = .non := by
  cases h with
  | any h => cases h; rfl
  | own h1 h2 e => cases h2 <;> cases e
theorem RepS.ty {B : Addr → Prop} {H : Hp} {v : V} {n : String} (h : RepS B H v (.ty n)) : v = .ty n := by
  cases h with
  | any h => cases h; rfl
  | own h1 h2 e => cases h2 <;> cases e

section
variable {O : Addr → Prop} {p : Pn} {ρ ρ1 ρ2 : En} {k k1 k2 : Kt} {σ σ1 σ2 : L2.St} {H H1 H2 : Hp} {v : V} {r : R} {d : D}
theorem deref_ok (I : Rel O p ρ k σ H) (h : RRep O ρ σ H v r) (e : deref ρ r = some d) : RepS (Bn O ρ σ) H v d := by
  cases r with
  | val x => cases e; exact .any h
  | slot i =>
    have h : σ[i]? = some (some v) := h
    unfold deref at e
    dsimp only at e
    cases q : ρ[i]? with
    | none => rw [q] at e; cases e
    | some s =>
      rw [q] at e
      cases s with
      | un => cases e
      | val x =>
        cases e
        obtain ⟨u, e1, e2⟩ := I.val i _ q
        rw [h] at e1
        cases e1
        exact .any e2
      | own ds =>
        cases e
        obtain ⟨a, vs, e1, e2, e3, e4⟩ := I.own i _ q
        rw [h] at e1
        cases e1
        exact .own e2 e4 rfl
theorem own_set_val {i : Nat} (hi : i < ρ.length) {x : D} {a : Addr} (h : Own (ρ.set i (.val x)) σ a) : ∃ j ds, j ≠ i ∧ ρ[j]? = some (.own ds) ∧ σ[j]? = some (some (V.ref a)) := by
  obtain ⟨j, ds, h1, h2⟩ := h
  by_cases e : j = i
  · subst e
    rw [List.getElem?_set_self hi] at h1
    cases h1
  · rw [List.getElem?_set_ne (Ne.symm e)] at h1
    exact ⟨j, ds, e, h1, h2⟩
theorem frz_ok (I : Rel O p ρ k σ H) (h : RRep O ρ σ H v r) (e : frz ρ r = some (d, ρ1)) : Rel O p ρ1 k σ H ∧ Step p ρ σ H ρ1 σ H ∧ Rep (Bn O ρ1 σ) H v d := by
  cases r with
  | val x => cases e; exact ⟨I, .refl, h⟩
  | slot i =>
    have h : σ[i]? = some (some v) := h
    unfold frz at e
    dsimp only at e
    cases q : ρ[i]? with
    | none => rw [q] at e; cases e
    | some s =>
      rw [q] at e
      cases s with
      | un => cases e
      | val x =>
        cases e
        obtain ⟨u, e1, e2⟩ := I.val i _ q
        rw [h] at e1
        cases e1
        exact ⟨I, .refl, e2⟩
      | own ds =>
        cases e
        obtain ⟨a, vs, e1, e2, e3, e4⟩ := I.own i _ q
        rw [h] at e1
        cases e1
        have hi : i < ρ.length := (List.getElem?_eq_some_iff.mp q).1
        have sub : ∀ b, Own (ρ.set i (.val ds.toD)) σ b → Own ρ σ b := fun b z => let ⟨j, es, _, h1, h2⟩ := own_set_val hi z; ⟨j, es, h1, h2⟩
        have nown : ¬ Own (ρ.set i (.val ds.toD)) σ a := fun z => by
          obtain ⟨j, es, hj, h1, h2⟩ := own_set_val hi z
          exact hj (I.inj j i a es ds h1 q h2 h)
        have sb : ∀ b, Bn O (ρ.set i (.val ds.toD)) σ b → Bn O ρ σ b ∨ H b = none := fun b z => .inl (z.imp id (sub b))
        have na : ¬ Bn O (ρ.set i (.val ds.toD)) σ a := fun z => z.elim e3 nown
        have main : Rep (Bn O (ρ.set i (.val ds.toD)) σ) H (.ref a) ds.toD := RepO.rep na e2 (e4.mono (fun _ _ h _ => h) sb)
        refine ⟨⟨by rw [List.length_set]; exact I.len, fun j x hj => ?_, fun j es hj => ?_, fun j l b es fs hj hl => ?_, I.ot, I.pn, I.po, I.kx, I.bs, fun b z => I.bo b (sub b z), fun j C ns es b hj hb => by
          by_cases ej : j = i
          · subst ej; rw [List.getElem?_set_self hi] at hj; cases hj
          · rw [List.getElem?_set_ne (Ne.symm ej)] at hj; exact I.sf j C ns es b hj hb⟩, ⟨fun _ _ h _ _ => h, fun b z => .inl (sub b z), fun _ h => h⟩, main⟩
        · by_cases ej : j = i
          · subst ej
            rw [List.getElem?_set_self hi] at hj
            cases hj
            exact ⟨_, h, main⟩
          · rw [List.getElem?_set_ne (Ne.symm ej)] at hj
            obtain ⟨u, e1, e5⟩ := I.val j x hj
            exact ⟨u, e1, e5.mono (fun _ _ h _ => h) sb⟩
        · by_cases ej : j = i
          · subst ej
            rw [List.getElem?_set_self hi] at hj
            cases hj
          · rw [List.getElem?_set_ne (Ne.symm ej)] at hj
            obtain ⟨b, ws, e1, e5, e6, e7⟩ := I.own j es hj
            exact ⟨b, ws, e1, e5, e6, e7.mono (fun _ _ h _ => h) sb⟩
        · have hj' : ρ[j]? = some (.own es) := by
            by_cases ej : j = i
            · subst ej; rw [List.getElem?_set_self hi] at hj; cases hj
            · rw [List.getElem?_set_ne (Ne.symm ej)] at hj; exact hj
          have hl' : ρ[l]? = some (.own fs) := by
            by_cases ej : l = i
            · subst ej; rw [List.getElem?_set_self hi] at hl; cases hl
            · rw [List.getElem?_set_ne (Ne.symm ej)] at hl; exact hl
          exact I.inj j l b es fs hj' hl'
theorem RRep.step (I : Rel O p ρ k σ H) (s : Step p ρ σ H ρ1 σ H1) (h : RRep O ρ σ H v r) : RRep O ρ1 σ H1 v r := by
  cases r with
  | val x => exact Rep.step I s h
  | slot i => exact h
end
end DL

set_option Elab.async false
set_option linter.all false
set_option maxRecDepth 100000
set_option maxHeartbeats 4000000
/-! ELb: the judgements over trees; names, constants, operators, tests, calls, displays -/
namespace DL
open PySem PySem.Spec PyProof.Rows L2

abbrev WE := En → Kt → (R → En → Kt → Prop) → Prop
abbrev WA := En → Kt → (List R → En → Kt → Prop) → Prop
abbrev WL := En → Kt → (List D → En → Kt → Prop) → Prop
abbrev WT := En → Kt → (Bool → En → Kt → Prop) → Prop
abbrev WO := En → Kt → (Option Int → En → Kt → Prop) → Prop
abbrev WG := D → En → Kt → (En → Kt → Prop) → Prop
/-- a promise of a def: arguments, draws so far, what is wanted of the answer -/
abbrev WF := List D → Kt → (D → Kt → Prop) → Prop
structure DEnds where
  nx : En → Kt → Prop
  rt : D → Kt → Prop
  bk : En → Kt → Prop := fun _ _ => False
  ct : En → Kt → Prop := fun _ _ => False
abbrev WS := DEnds → En → Kt → Prop

/-- an exception as a tree: its class, its own dict -/
def RepX (B : Addr → Prop) (H : Hp) (cls : Value) (d : Option Addr) (x : XD) : Prop := cls = x.cls ∧ (match d with
  | none => x.ns = [] ∧ x.ds = []
  | some a => ∃ vs, H a = some (.xd (x.ns.zip vs)) ∧ x.ns.length = vs.length ∧ RepL B H vs x.ds)
/-- the weakest wish that X takes -/
def WX0 (X : Cx) : WX := fun cls d σ H => ∀ u s', XE X (fun c d' σ' H' => c = cls ∧ d' = d ∧ σ' = σ ∧ H' = H) u s' → X.xe u s'
theorem takes0 {X : Cx} : Takes X (WX0 X) := fun u s' ⟨a, B, sI, pins, σ, H, cls, d, e, I, nb, up, sky, na, os, ag, w⟩ =>
  w u s' ⟨a, B, sI, pins, σ, H, cls, d, e, I, nb, up, sky, na, os, ag, rfl, rfl, rfl, rfl⟩
/-- where p stands, an exception that is wanted may leave -/
class XL (X : Cx) (p : Pn) : Prop where
  go : ∀ (x : XD) (k : Kt) (cls : Value) (d : Option Addr) (σ : L2.St) (H : Hp), penI p k H → Kept p H → RepX p.hb H cls d x → p.xc x k.1 → WX0 X cls d σ H

def DE (X : Cx) (e : Expr) (w : WE) : Prop := ∃ t : TE, PE X e t ∧ ∀ (O : Addr → Prop) (p : Pn) [XL X p] (ρ : En) (k : Kt) (σ : L2.St) (H : Hp) (Q : R → En → Kt → Prop) (J : VK), Rel O p ρ k σ H → w ρ k Q →
  (∀ v H' r ρ' k', Rel O p ρ' k' σ H' → Step p ρ σ H ρ' σ H' → RRep O ρ' σ H' v r → Q r ρ' k' → J v H') → t σ H J
abbrev RRepL (O : Addr → Prop) (ρ : En) (σ : L2.St) (H : Hp) : List V → List R → Prop := Paired (RRep O ρ σ H)
def DA (X : Cx) (es : List Expr) (w : WA) : Prop := ∃ t : TA, PA X es t ∧ ∀ (O : Addr → Prop) (p : Pn) [XL X p] (ρ : En) (k : Kt) (σ : L2.St) (H : Hp) (Q : List R → En → Kt → Prop) (J : List V → Hp → Prop), Rel O p ρ k σ H → w ρ k Q →
  (∀ vs H' rs ρ' k', Rel O p ρ' k' σ H' → Step p ρ σ H ρ' σ H' → RRepL O ρ' σ H' vs rs → Q rs ρ' k' → J vs H') → t σ H J
/-- a new list, kept apart -/
def DF (X : Cx) (e : Expr) (w : WL) : Prop := ∃ t : TE, PE X e t ∧ ∀ (O : Addr → Prop) (p : Pn) [XL X p] (ρ : En) (k : Kt) (σ : L2.St) (H : Hp) (Q : List D → En → Kt → Prop) (J : VK), Rel O p ρ k σ H → w ρ k Q →
  (∀ a vs H' zs ρ' k', Rel (fun b => O b ∨ b = a) p ρ' k' σ H' → Step p ρ σ H ρ' σ H' → H a = none → H' a = some (.lst vs) → RepL (Bn (fun b => O b ∨ b = a) ρ' σ) H' vs zs → Q zs ρ' k' → J (.ref a) H') → t σ H J
def DT (X : Cx) (e : Expr) (w : WT) : Prop := ∃ t : TT, PT X e t ∧ ∀ (O : Addr → Prop) (p : Pn) [XL X p] (ρ : En) (k : Kt) (σ : L2.St) (H : Hp) (Q : Bool → En → Kt → Prop) (J : Bool → Hp → Prop), Rel O p ρ k σ H → w ρ k Q →
  (∀ b H' ρ' k', Rel O p ρ' k' σ H' → Step p ρ σ H ρ' σ H' → Q b ρ' k' → J b H') → t σ H J
def DW (X : Cx) (e : Expr) (w : WT) : Prop := ∃ t : TT, PW X e t ∧ ∀ (O : Addr → Prop) (p : Pn) [XL X p] (ρ : En) (k : Kt) (σ : L2.St) (H : Hp) (Q : Bool → En → Kt → Prop) (J : Bool → Hp → Prop), Rel O p ρ k σ H → w ρ k Q →
  (∀ b H' ρ' k', Rel O p ρ' k' σ H' → Step p ρ σ H ρ' σ H' → Q b ρ' k' → J b H') → t σ H J
def DTs (X : Cx) (es : List Expr) (w : WT) : Prop := ∃ t : TT, PTs X es t ∧ ∀ (O : Addr → Prop) (p : Pn) [XL X p] (ρ : En) (k : Kt) (σ : L2.St) (H : Hp) (Q : Bool → En → Kt → Prop) (J : Bool → Hp → Prop), Rel O p ρ k σ H → w ρ k Q →
  (∀ b H' ρ' k', Rel O p ρ' k' σ H' → Step p ρ σ H ρ' σ H' → Q b ρ' k' → J b H') → t σ H J
def DO (X : Cx) (e : Option Expr) (w : WO) : Prop := ∃ t : TO, PO X e t ∧ ∀ (O : Addr → Prop) (p : Pn) [XL X p] (ρ : En) (k : Kt) (σ : L2.St) (H : Hp) (Q : Option Int → En → Kt → Prop) (J : Option Int → Hp → Prop), Rel O p ρ k σ H → w ρ k Q →
  (∀ b H' ρ' k', Rel O p ρ' k' σ H' → Step p ρ σ H ρ' σ H' → Q b ρ' k' → J b H') → t σ H J
/-- the items that are walked -/
def ItOk (B : Addr → Prop) (J : It) (ds : List D) (H1 : Hp) : Prop := ∀ (B' : Addr → Prop) (H' : Hp), (∀ a o, H1 a = some o → ¬ B a → H' a = some o) → (∀ a, B' a → B a ∨ H1 a = none) → (∀ a, B' a → H' a ≠ none) →
  (∀ i, i < ds.length → J.go i H') ∧ (∀ i x H'' d, ds[i]? = some d → J.yld i H' x H'' → AExt H' H'' ∧ Rep B' H'' x d) ∧ (∀ i, ds.length ≤ i → J.stop i H')
def DI (X : Cx) (tg it : Expr) (w : WL) : Prop := ∃ wi : TI, PI X tg it wi ∧ ∀ (O : Addr → Prop) (p : Pn) [XL X p] (ρ : En) (k : Kt) (σ : L2.St) (H : Hp) (Q : List D → En → Kt → Prop) (R' : It → Hp → Prop), Rel O p ρ k σ H → w ρ k Q →
  (∀ J H1 ds ρ1 k1, Rel O p ρ1 k1 σ H1 → Step p ρ σ H ρ1 σ H1 → ItOk (Bn O ρ1 σ) J ds H1 → Q ds ρ1 k1 → R' J H1) → wi σ H R'
/-- a target; the slots that it stores -/
def DG (X : Cx) (tg : Expr) (is : List Nat) (w : WG) : Prop := ∃ g : TG, PG X tg g ∧ ∀ (O : Addr → Prop) (p : Pn) [XL X p] (ρ : En) (k : Kt) (σ : L2.St) (H : Hp) (v : V) (d : D) (Q : En → Kt → Prop) (J : L2.St → Hp → Prop), Rel O p ρ k σ H → Rep (Bn O ρ σ) H v d → w d ρ k Q →
  (∀ σ' H' ρ' k', Rel O p ρ' k' σ' H' → Step p ρ σ H ρ' σ' H' → (∀ i, i ∉ is → σ'[i]? = σ[i]?) → σ'.length = σ.length → Q ρ' k' → J σ' H') → g v σ H J
/-- the ends of the layer below do for the ends here -/
structure EndsOk (O : Addr → Prop) (p : Pn) (ρ : En) (σ : L2.St) (H : Hp) (E : DEnds) (F : L2.Ends) : Prop where
  nx : ∀ ρ' k' σ' H', Rel O p ρ' k' σ' H' → Step p ρ σ H ρ' σ' H' → E.nx ρ' k' → F.nx σ' H'
  rt : ∀ v H' d k', (∀ a o, H a = some o → ¬ penA p a → ¬ Own ρ σ a → H' a = some o) → penI p k' H' → k'.2.xc = p.xc → Rep O H' v d → E.rt d k' → F.rt v H'
  bk : ∀ ρ' k' σ' H', Rel O p ρ' k' σ' H' → Step p ρ σ H ρ' σ' H' → E.bk ρ' k' → F.bk σ' H'
  ct : ∀ ρ' k' σ' H', Rel O p ρ' k' σ' H' → Step p ρ σ H ρ' σ' H' → E.ct ρ' k' → F.ct σ' H'
def DS (X : Cx) (st : Stmt) (w : WS) : Prop := ∃ t : TS, PS X st t ∧ ∀ (O : Addr → Prop) (p : Pn) [XL X p] (ρ : En) (k : Kt) (σ : L2.St) (H : Hp) (E : DEnds) (F : L2.Ends), Rel O p ρ k σ H → w E ρ k → EndsOk O p ρ σ H E F → t F σ H
def DSs (X : Cx) (st : List Stmt) (w : WS) : Prop := ∃ t : TS, PSs X st t ∧ ∀ (O : Addr → Prop) (p : Pn) [XL X p] (ρ : En) (k : Kt) (σ : L2.St) (H : Hp) (E : DEnds) (F : L2.Ends), Rel O p ρ k σ H → w E ρ k → EndsOk O p ρ σ H E F → t F σ H

section
variable {X : Cx} {pos : Pos}
/-! ### names, constants -/
def wVar (i : Nat) : WE := fun ρ k Q => match ρ[i]? with
  | some (.val d) => Q (.val d) ρ k
  | some (.own _) => Q (.slot i) ρ k
  | _ => False
theorem de_var (i : Nat) {x : Str} {pos : Pos} (hN : X.N[i]? = some x := by rfl) (hv : Vis X.env.scope x := by first | exact Or.inl rfl | exact Or.inr (Or.inl rfl) | exact Or.inr (Or.inr rfl)) (hd : (x == ("__debug__" : Str)) = false := by decide)
    (hcd : (x == ("__classdict__" : Str)) = false := by decide) : DE X (.Name x pos) (wVar i) := by
  refine ⟨_, pe_var (i := i) hN hv hd hcd, fun O p _ ρ k σ H Q J I h f => ?_⟩
  unfold wVar at h
  cases q : ρ[i]? with
  | none => rw [q] at h; exact h.elim
  | some s =>
    rw [q] at h
    cases s with
    | un => exact h.elim
    | val d =>
      obtain ⟨v, e, r⟩ := I.val i d q
      exact ⟨v, e, f v H (.val d) ρ k I .refl r h⟩
    | own ds =>
      obtain ⟨a, vs, e, _⟩ := I.own i ds q
      exact ⟨_, e, f _ H (.slot i) ρ k I .refl e h⟩
def wC (d : D) : WE := fun ρ k Q => Q (.val d) ρ k
theorem de_const {e : Expr} {v : V} {d : D} (h : PE X e (tC v)) (r : ∀ B H, Rep B H v d) : DE X e (wC d) := ⟨_, h, fun _ _ _ ρ k _ H _ _ I h f => f _ H (.val d) ρ k I .refl (r _ _) h⟩
theorem de_int {i : Int} {j pos} : DE X (.Constant (.int i) j pos) (wC (.int i)) := de_const pe_int fun _ _ => Rep.int i
theorem de_bl {b : Bool} {j pos} : DE X (.Constant (.bool b) j pos) (wC (.bl b)) := de_const pe_bl fun _ _ => Rep.bl b
theorem de_non {j pos} : DE X (.Constant .none j pos) (wC .non) := de_const pe_non fun _ _ => Rep.non
theorem de_str {x : Str} {j pos} : DE X (.Constant (.str x) j pos) (wC (.str x)) := de_const pe_str fun _ _ => Rep.str x
theorem de_globI {x : Str} {i : Int} {pos} {u : Value} (hg : Gl X x) (hm : X.mg x = some u) (r : RelV (.int i) u) (hd : (x == ("__debug__" : Str)) = false := by decide) : DE X (.Name x pos) (wC (.int i)) := de_const (pe_glob hg hm r hd) fun _ _ => Rep.int i
/-- a built-in type as a value -/
theorem de_ty {x : Str} {n : String} {pos} (hg : Gl X x) (hm : X.mg x = none) (hv : bootBuiltins x = some (.type n)) (hn : x ≠ "__name__" := by decide) (hd : (x == ("__debug__" : Str)) = false := by decide) : DE X (.Name x pos) (wC (.ty n)) :=
  de_const (pe_bltn (v := .ty n) hg hm hv rfl hn hd) fun _ _ => Rep.ty n

/-! ### lists of expressions -/
def wNil : WA := fun ρ k Q => Q [] ρ k
def wCons (a : WE) (b : WA) : WA := fun ρ k Q => a ρ k fun x ρ1 k1 => b ρ1 k1 fun xs ρ2 k2 => Q (x :: xs) ρ2 k2
theorem da_nil : DA X [] wNil := ⟨_, pa_nil, fun _ _ _ ρ k _ H _ _ I h f => f [] H [] ρ k I .refl .nil h⟩
theorem da_cons {e : Expr} {es : List Expr} {a : WE} {b : WA} (ha : DE X e a) (hb : DA X es b) (hs : starEach (e :: es) X.env = (false, eval e X.env) :: starEach es X.env := by rfl) : DA X (e :: es) (wCons a b) := by
  obtain ⟨ta, pa, ra⟩ := ha
  obtain ⟨tb, pb, rb⟩ := hb
  refine ⟨_, pa_cons pa pb hs, fun O p _ ρ k σ H Q J I h f => ?_⟩
  refine ra O p ρ k σ H _ _ I h fun v H1 r ρ1 k1 I1 s1 q1 h1 => ?_
  refine rb O p ρ1 k1 σ H1 _ _ I1 h1 fun vs H2 rs ρ2 k2 I2 s2 q2 h2 => ?_
  exact f _ H2 _ ρ2 k2 I2 (s1.trans s2 I1.pn) (.cons (RRep.step I1 s2 q1) q2) h2
def derefL (ρ : En) : List R → Option (List D)
  | [] => some []
  | r :: rs => match deref ρ r, derefL ρ rs with
    | some d, some ds => some (d :: ds)
    | _, _ => none
def frzL (ρ : En) : List R → Option (List D × En)
  | [] => some ([], ρ)
  | r :: rs => match frz ρ r with
    | some (d, ρ1) => match frzL ρ1 rs with
      | some (ds, ρ2) => some (d :: ds, ρ2)
      | none => none
    | none => none
variable {O : Addr → Prop} {p : Pn} {ρ ρ1 : En} {k : Kt} {σ : L2.St} {H : Hp}
theorem derefL_ok (I : Rel O p ρ k σ H) : ∀ {vs : List V} {rs : List R} {ds : List D}, RRepL O ρ σ H vs rs → derefL ρ rs = some ds → RepSL (Bn O ρ σ) H vs ds
  | _, _, _, .nil, e => by cases e; exact .nil
  | _, r :: rs, ds, .cons h t, e => by
    unfold derefL at e
    cases q1 : deref ρ r with
    | none => rw [q1] at e; cases e
    | some d =>
      cases q2 : derefL ρ rs with
      | none => rw [q1, q2] at e; cases e
      | some es =>
        rw [q1, q2] at e
        cases e
        exact .cons (deref_ok I h q1) (derefL_ok I t q2)
theorem RRepL.step {p : Pn} {k : Kt} {σ : L2.St} {H H1 : Hp} {ρ ρ1 : En} (I : Rel O p ρ k σ H) (s : Step p ρ σ H ρ1 σ H1) : ∀ {vs : List V} {rs : List R}, RRepL O ρ σ H vs rs → RRepL O ρ1 σ H1 vs rs
  | _, _, .nil => .nil
  | _, _, .cons h t => .cons (RRep.step I s h) (RRepL.step I s t)
theorem frzL_ok : ∀ {rs : List R} {vs : List V} {ds : List D} {ρ ρ1 : En}, Rel O p ρ k σ H → RRepL O ρ σ H vs rs → frzL ρ rs = some (ds, ρ1) → Rel O p ρ1 k σ H ∧ Step p ρ σ H ρ1 σ H ∧ RepL (Bn O ρ1 σ) H vs ds
  | [], _, _, _, _, I, .nil, e => by cases e; exact ⟨I, .refl, .nil⟩
  | r :: rs, _, ds, ρ, ρ1, I, .cons h t, e => by
    unfold frzL at e
    cases q1 : frz ρ r with
    | none => rw [q1] at e; cases e
    | some dρ =>
      obtain ⟨d, ρ2⟩ := dρ
      rw [q1] at e
      dsimp only at e
      obtain ⟨I2, s2, r2⟩ := frz_ok I h q1
      cases q2 : frzL ρ2 rs with
      | none => rw [q2] at e; cases e
      | some dsρ =>
        obtain ⟨es, ρ3⟩ := dsρ
        rw [q2] at e
        cases e
        obtain ⟨I3, s3, r3⟩ := frzL_ok I2 (RRepL.step I s2 t) q2
        exact ⟨I3, s2.trans s3 I2.pn, .cons (Rep.step I2 s3 r2) r3⟩

theorem Step.new {p : Pn} {ρ ρ1 : En} {σ σ1 : L2.St} {H H1 : Hp} {a : Addr} (s : Step p ρ σ H ρ1 σ1 H1) (h : H1 a = none) : H a = none := by
  cases q : H a with
  | none => rfl
  | some o => exact absurd h (s.tr a (by rw [q]; simp))
/-! ### operators by trees -/
abbrev F1 := D → (D → Prop) → Prop
abbrev F2 := D → D → (D → Prop) → Prop
abbrev FN := List D → (D → Prop) → Prop
abbrev FL := List D → (List D → Prop) → Prop
def Real1 (r : V → Hp → VK → Prop) (f : F1) : Prop := ∀ (B : Addr → Prop) (H : Hp) (x : V) (d : D) (P : D → Prop) (J : VK), (∀ b, B b → H b ≠ none) → RepS B H x d → f d P → (∀ v H' z, AExt H H' → Rep B H' v z → P z → J v H') → r x H J
def Real2 (r : R2) (f : F2) : Prop := ∀ (B : Addr → Prop) (H : Hp) (x y : V) (d e : D) (P : D → Prop) (J : VK), (∀ b, B b → H b ≠ none) → RepS B H x d → RepS B H y e → f d e P → (∀ v H' z, AExt H H' → Rep B H' v z → P z → J v H') → r x y H J
def RealN (r : List V → Hp → VK → Prop) (f : FN) : Prop := ∀ (B : Addr → Prop) (H : Hp) (xs : List V) (ds : List D) (P : D → Prop) (J : VK), (∀ b, B b → H b ≠ none) → RepSL B H xs ds → f ds P → (∀ v H' z, AExt H H' → Rep B H' v z → P z → J v H') → r xs H J
/-- the answer is a new list -/
def RealF (r : List V → Hp → VK → Prop) (f : FL) : Prop := ∀ (B : Addr → Prop) (H : Hp) (xs : List V) (ds : List D) (P : List D → Prop) (J : VK), (∀ b, B b → H b ≠ none) → RepSL B H xs ds → f ds P →
  (∀ q vs zs, H q = none → RepL B H vs zs → P zs → J (.ref q) (upd H q (.lst vs))) → r xs H J
theorem RealF.n {r : List V → Hp → VK → Prop} {f : FL} (h : RealF r f) : RealN r fun ds P => f ds fun zs => P (.lst zs) := fun B H xs ds P J hb hr hf g =>
  h B H xs ds _ J hb hr hf fun q vs zs hq hr hz => g _ _ _ (AExt.upd hq) (.lst (fresh_not hb hq) upd_same (hr.ext (AExt.upd hq))) hz
def wOp (f : F2) (a b : WE) : WE := fun ρ k Q => a ρ k fun x ρ1 k1 => b ρ1 k1 fun y ρ2 k2 => ∃ d e, deref ρ2 x = some d ∧ deref ρ2 y = some e ∧ f d e fun z => Q (.val z) ρ2 k2
theorem de_opCore {a b e : Expr} {r : R2} {f : F2} {wa wb : WE} (hr : Real2 r f) (pe : ∀ {ta tb : TE}, PE X a ta → PE X b tb → PE X e (tOp r ta tb)) (ha : DE X a wa) (hb : DE X b wb) : DE X e (wOp f wa wb) := by
  obtain ⟨ta, pa, ra⟩ := ha
  obtain ⟨tb, pb, rb⟩ := hb
  refine ⟨_, pe pa pb, fun O p _ ρ k σ H Q J I h g => ?_⟩
  refine ra O p ρ k σ H _ _ I h fun v H1 x ρ1 k1 I1 s1 q1 h1 => ?_
  refine rb O p ρ1 k1 σ H1 _ _ I1 h1 fun u H2 y ρ2 k2 I2 s2 q2 h2 => ?_
  obtain ⟨d, e, e1, e2, h2⟩ := h2
  refine hr (Bn O ρ2 σ) H2 v u d e _ _ I2.bt (deref_ok I2 (RRep.step I1 s2 q1) e1) (deref_ok I2 q2 e2) h2 fun w H3 z x3 r3 h3 => ?_
  exact g w H3 (.val z) ρ2 k2 (I2.ext x3) ((s1.trans s2 I1.pn).trans (.ext x3) I2.pn) r3 h3
theorem de_op {a b : Expr} {op : Operator} {r : R2} {f : F2} {wa wb : WE} (ho : OpR X (binaryOp op) r) (hr : Real2 r f) (ha : DE X a wa) (hb : DE X b wb) : DE X (.BinOp a op b pos) (wOp f wa wb) := de_opCore hr (fun pa pb => pe_op ho pa pb) ha hb
theorem de_cmp {a b : Expr} {op : CmpOp} {r : R2} {f : F2} {wa wb : WE} (ho : OpR X (compareOp op) r) (hr : Real2 r f) (ha : DE X a wa) (hb : DE X b wb) (hm : behindInMarks op b = false) : DE X (.Compare a [op] [b] pos) (wOp f wa wb) := de_opCore hr (fun pa pb => pe_cmpR ho pa pb hm) ha hb
def wUn (f : F1) (a : WE) : WE := fun ρ k Q => a ρ k fun x ρ1 k1 => ∃ d, deref ρ1 x = some d ∧ f d fun z => Q (.val z) ρ1 k1
theorem de_un {a : Expr} {op : UnaryOp} {r : V → Hp → VK → Prop} {f : F1} {wa : WE} (ho : UnR X (unaryOp op) r) (hr : Real1 r f) (ha : DE X a wa) : DE X (.UnaryOp op a pos) (wUn f wa) := by
  obtain ⟨ta, pa, ra⟩ := ha
  refine ⟨_, pe_un ho pa, fun O p _ ρ k σ H Q J I h g => ?_⟩
  refine ra O p ρ k σ H _ _ I h fun v H1 x ρ1 k1 I1 s1 q1 h1 => ?_
  obtain ⟨d, e1, h1⟩ := h1
  refine hr (Bn O ρ1 σ) H1 v d _ _ I1.bt (deref_ok I1 q1 e1) h1 fun w H3 z x3 r3 h3 => ?_
  exact g w H3 (.val z) ρ1 k1 (I1.ext x3) (s1.trans (.ext x3) I1.pn) r3 h3
/-- x[i] -/
theorem de_ix {a b : Expr} {r : R2} {f : F2} {wa wb : WE} (ho : IxR X r) (hr : Real2 r f) (ha : DE X a wa) (hb : DE X b wb) (hs : PlainIx b := by exact fun _ _ => rfl) : DE X (.Subscript a b pos) (wOp f wa wb) := de_opCore hr (fun pa pb => pe_ix ho pa pb hs) ha hb
/-! ### tests -/
def wTest (a : WE) : WT := fun ρ k Q => a ρ k fun x ρ1 k1 => ∃ b, deref ρ1 x = some (.bl b) ∧ Q b ρ1 k1
theorem dt_cmp {a b : Expr} {op : CmpOp} {r : R2} {f : F2} {wa wb : WE} (ho : OpR X (compareOp op) r) (hr : Real2 r f) (ha : DE X a wa) (hb : DE X b wb) (hm : behindInMarks op b = false) : DT X (.Compare a [op] [b] pos) (wTest (wOp f wa wb)) := by
  obtain ⟨ta, pa, ra⟩ := ha
  obtain ⟨tb, pb, rb⟩ := hb
  refine ⟨_, pt_cmpR ho pa pb hm, fun O p _ ρ k σ H Q J I h g => ?_⟩
  refine ra O p ρ k σ H _ _ I h fun v H1 x ρ1 k1 I1 s1 q1 h1 => ?_
  refine rb O p ρ1 k1 σ H1 _ _ I1 h1 fun u H2 y ρ2 k2 I2 s2 q2 h2 => ?_
  obtain ⟨d, e, e1, e2, h2⟩ := h2
  refine hr (Bn O ρ2 σ) H2 v u d e _ _ I2.bt (deref_ok I2 (RRep.step I1 s2 q1) e1) (deref_ok I2 q2 e2) h2 fun w H3 z x3 r3 h3 => ?_
  obtain ⟨c, e3, h3⟩ := h3
  cases e3
  cases r3
  exact ⟨c, rfl, g c H3 ρ2 k2 (I2.ext x3) ((s1.trans s2 I1.pn).trans (.ext x3) I2.pn) h3⟩
/-- a < b < c -/
def wChain (f f' : F2) (a b c : WE) : WE := fun ρ k Q => a ρ k fun x ρ1 k1 => b ρ1 k1 fun y ρ2 k2 => ∃ d e, deref ρ2 x = some d ∧ deref ρ2 y = some e ∧ f d e fun z => ∃ t, z = .bl t ∧
  if t = true then c ρ2 k2 fun u ρ3 k3 => ∃ e' g, deref ρ3 y = some e' ∧ deref ρ3 u = some g ∧ f' e' g fun z' => Q (.val z') ρ3 k3 else Q (.val (.bl false)) ρ2 k2
theorem chainCore {a b c : Expr} {r r' : R2} {f f' : F2} {wa wb wc : WE} (hr : Real2 r f) (hr' : Real2 r' f') (ha : DE X a wa) (hb : DE X b wb) (hc : DE X c wc) :
    ∃ ta tb tc, PE X a ta ∧ PE X b tb ∧ PE X c tc ∧ ∀ (O : Addr → Prop) (p : Pn) [XL X p] (ρ : En) (k : Kt) (σ : L2.St) (H : Hp) (Q : R → En → Kt → Prop) (J : VK), Rel O p ρ k σ H → wChain f f' wa wb wc ρ k Q →
      (∀ v H' r ρ' k', Rel O p ρ' k' σ H' → Step p ρ σ H ρ' σ H' → RRep O ρ' σ H' v r → Q r ρ' k' → J v H') → tChain r r' ta tb tc σ H J := by
  obtain ⟨ta, pa, ra⟩ := ha
  obtain ⟨tb, pb, rb⟩ := hb
  obtain ⟨tc, pc, rc⟩ := hc
  refine ⟨ta, tb, tc, pa, pb, pc, fun O p _ ρ k σ H Q J I h g => ?_⟩
  refine ra O p ρ k σ H _ _ I h fun v H1 x ρ1 k1 I1 s1 q1 h1 => ?_
  refine rb O p ρ1 k1 σ H1 _ _ I1 h1 fun u H2 y ρ2 k2 I2 s2 q2 h2 => ?_
  obtain ⟨d, e, e1, e2, h2⟩ := h2
  refine hr (Bn O ρ2 σ) H2 v u d e _ _ I2.bt (deref_ok I2 (RRep.step I1 s2 q1) e1) (deref_ok I2 q2 e2) h2 fun w H3 z x3 r3 h3 => ?_
  obtain ⟨t, e3, h3⟩ := h3
  cases e3
  cases r3
  have I3 := I2.ext x3
  have s3 : Step p ρ σ H ρ2 σ H3 := (s1.trans s2 I1.pn).trans (.ext x3) I2.pn
  refine ⟨t, rfl, ?_⟩
  cases t with
  | false =>
    rw [if_neg Bool.false_ne_true] at h3 ⊢
    exact g _ H3 (.val (.bl false)) ρ2 k2 I3 s3 (.bl false) h3
  | true =>
    rw [if_pos rfl] at h3 ⊢
    refine rc O p ρ2 k2 σ H3 _ _ I3 h3 fun w' H4 u' ρ3 k3 I4 s4 q4 h4 => ?_
    obtain ⟨e', g', e4, e5, h4⟩ := h4
    have q2' : RRep O ρ3 σ H4 u y := RRep.step I3 s4 (RRep.step I2 (.ext x3) q2)
    refine hr' (Bn O ρ3 σ) H4 u w' e' g' _ _ I4.bt (deref_ok I4 q2' e4) (deref_ok I4 q4 e5) h4 fun w2 H5 z' x5 r5 h5 => ?_
    exact g w2 H5 (.val z') ρ3 k3 (I4.ext x5) ((s3.trans s4 I3.pn).trans (.ext x5) I4.pn) r5 h5
theorem de_chain {a b c : Expr} {op op' : CmpOp} {r r' : R2} {f f' : F2} {wa wb wc : WE} (ho : OpR X (compareOp op) r) (ho' : OpR X (compareOp op') r') (hr : Real2 r f) (hr' : Real2 r' f') (ha : DE X a wa) (hb : DE X b wb) (hc : DE X c wc)
    (hm : lastMarks [op, op'] [b, c] = false := by with_unfolding_all rfl) : DE X (.Compare a [op, op'] [b, c] pos) (wChain f f' wa wb wc) := by
  obtain ⟨ta, tb, tc, pa, pb, pc, main⟩ := chainCore hr hr' ha hb hc
  exact ⟨_, pe_chain ho ho' pa pb pc hm, main⟩
theorem dt_chain {a b c : Expr} {op op' : CmpOp} {r r' : R2} {f f' : F2} {wa wb wc : WE} (ho : OpR X (compareOp op) r) (ho' : OpR X (compareOp op') r') (hr : Real2 r f) (hr' : Real2 r' f') (ha : DE X a wa) (hb : DE X b wb) (hc : DE X c wc)
    (hm : lastMarks [op, op'] [b, c] = false := by with_unfolding_all rfl) : DT X (.Compare a [op, op'] [b, c] pos) (wTest (wChain f f' wa wb wc)) := by
  obtain ⟨ta, tb, tc, pa, pb, pc, main⟩ := chainCore hr hr' ha hb hc
  refine ⟨_, pt_chain ho ho' pa pb pc hm, fun O p _ ρ k σ H Q J I h g => ?_⟩
  refine main O p ρ k σ H _ _ I h fun v H1 x ρ1 k1 I1 s1 q1 h1 => ?_
  obtain ⟨b, e1, h1⟩ := h1
  exact ⟨b, (deref_ok I1 q1 e1).bl, g b H1 ρ1 k1 I1 s1 h1⟩
/-- truth of any value -/
def truD : D → Option Bool
  | .non => some false
  | .bl b => some b
  | .int i => some (i != 0)
  | .str y => if y.length ≤ sizeLine then some ((y.length : Int) != 0) else none
  | .lst xs => some (!xs.isEmpty)
  | .tup xs => some (!xs.isEmpty)
  | _ => none
theorem truD_ok {K : PySem.W.Frag} {B : Addr → Prop} {H : Hp} {v : V} {d : D} {b : Bool} (h : RepS B H v d) (e : truD d = some b) : TruV K v H b := by
  have emp : ∀ {vs : List V} {ds : List D}, RepL B H vs ds → (!ds.isEmpty) = !vs.isEmpty := fun r => by cases r <;> rfl
  cases d with
  | non => cases h.non; cases e; rfl
  | bl b => cases h.bl; cases e; rfl
  | int i => cases h.int; cases e; rfl
  | str y =>
    cases h.str
    unfold truD at e
    dsimp only at e
    split at e
    · cases e; exact ⟨by assumption, rfl⟩
    · cases e
  | lst xs =>
    obtain ⟨a, vs, rfl, h1, h2⟩ := h.lst
    cases e
    exact .inl ⟨vs, SqL.of h1, emp h2⟩
  | tup xs =>
    obtain ⟨a, vs, rfl, _, h1, h2⟩ := h.tup
    cases e
    exact .inr (.inl ⟨vs, SqT.of h1, emp h2⟩)
  | ty n => cases e
  | dK ks ds => cases e
  | dT ks ds => cases e
  | ins C ns ds => cases e
  | obj a => cases e
def wTru (a : WE) : WT := fun ρ k Q => a ρ k fun x ρ1 k1 => ∃ d b, deref ρ1 x = some d ∧ truD d = some b ∧ Q b ρ1 k1
theorem dt_tru {e : Expr} {w : WE} (h : DE X e w) (he : ∀ whole, isTrue e X.env whole = (do let v ← whole; standAt e.pos; holding [v] (truthy v)) := by intro _; rfl) : DT X e (wTru w) := by
  obtain ⟨t, pe, rr⟩ := h
  refine ⟨_, pt_truth pe he, fun O p _ ρ k σ H Q J I h g => ?_⟩
  refine rr O p ρ k σ H _ _ I h fun v H1 x ρ1 k1 I1 s1 q1 h1 => ?_
  obtain ⟨d, b, e1, e2, h1⟩ := h1
  exact ⟨b, truD_ok (deref_ok I1 q1 e1) e2, g b H1 ρ1 k1 I1 s1 h1⟩
def wNotT (a : WT) : WT := fun ρ k Q => a ρ k fun b ρ1 k1 => Q (!b) ρ1 k1
theorem dt_not {e : Expr} {w : WT} (h : DT X e w) : DT X (.UnaryOp .Not e pos) (wNotT w) := by
  obtain ⟨t, pe, rr⟩ := h
  refine ⟨_, pt_not pe, fun O p _ ρ k σ H Q J I h g => ?_⟩
  exact rr O p ρ k σ H _ _ I h fun b H1 ρ1 k1 I1 s1 h1 => g (!b) H1 ρ1 k1 I1 s1 h1
def wAndT (a b : WT) : WT := fun ρ k Q => a ρ k fun c ρ1 k1 => if c = true then b ρ1 k1 Q else Q false ρ1 k1
def wOrT (a b : WT) : WT := fun ρ k Q => a ρ k fun c ρ1 k1 => if c = true then Q true ρ1 k1 else b ρ1 k1 Q
theorem dw_and1 {e : Expr} {w : WT} (h : DT X e w) : DW X (.BoolOp .And [e] pos) w := let ⟨t, pe, rr⟩ := h; ⟨t, pw_and1 pe, rr⟩
theorem dw_or1 {e : Expr} {w : WT} (h : DT X e w) : DW X (.BoolOp .Or [e] pos) w := let ⟨t, pe, rr⟩ := h; ⟨t, pw_or1 pe, rr⟩
theorem dw_and {a b : Expr} {rest : List Expr} {wa wb : WT} (ha : DT X a wa) (hb : DW X (.BoolOp .And (b :: rest) pos) wb) : DW X (.BoolOp .And (a :: b :: rest) pos) (wAndT wa wb) := by
  obtain ⟨ta, pa, ra⟩ := ha
  obtain ⟨tb, pb, rb⟩ := hb
  refine ⟨_, pw_and pa pb, fun O p _ ρ k σ H Q J I h g => ?_⟩
  refine ra O p ρ k σ H _ _ I h fun b H1 ρ1 k1 I1 s1 h1 => ?_
  cases b with
  | true => exact rb O p ρ1 k1 σ H1 _ _ I1 h1 fun c H2 ρ2 k2 I2 s2 h2 => g c H2 ρ2 k2 I2 (s1.trans s2 I1.pn) h2
  | false => exact g false H1 ρ1 k1 I1 s1 h1
theorem dw_or {a b : Expr} {rest : List Expr} {wa wb : WT} (ha : DT X a wa) (hb : DW X (.BoolOp .Or (b :: rest) pos) wb) : DW X (.BoolOp .Or (a :: b :: rest) pos) (wOrT wa wb) := by
  obtain ⟨ta, pa, ra⟩ := ha
  obtain ⟨tb, pb, rb⟩ := hb
  refine ⟨_, pw_or pa pb, fun O p _ ρ k σ H Q J I h g => ?_⟩
  refine ra O p ρ k σ H _ _ I h fun b H1 ρ1 k1 I1 s1 h1 => ?_
  cases b with
  | false => exact rb O p ρ1 k1 σ H1 _ _ I1 h1 fun c H2 ρ2 k2 I2 s2 h2 => g c H2 ρ2 k2 I2 (s1.trans s2 I1.pn) h2
  | true => exact g true H1 ρ1 k1 I1 s1 h1
theorem dt_w {e : Expr} {w : WT} (h : DW X e w) : DT X e w := let ⟨t, pe, rr⟩ := h; ⟨t, pe.pt, rr⟩
theorem dts_nil : DTs X [] fun ρ k Q => Q true ρ k := ⟨_, pts_nil, fun _ _ _ ρ k _ H _ _ I h g => g true H ρ k I .refl h⟩
theorem dts_one {e : Expr} {w : WT} (h : DT X e w) : DTs X [e] w := let ⟨t, pe, rr⟩ := h; ⟨t, pts_one pe, rr⟩
/-! ### and, or, not, if as values -/
def wAndV (a b : WE) : WE := fun ρ k Q => a ρ k fun x ρ1 k1 => ∃ c, deref ρ1 x = some (.bl c) ∧ if c = true then b ρ1 k1 Q else Q (.val (.bl false)) ρ1 k1
def wOrV (a b : WE) : WE := fun ρ k Q => a ρ k fun x ρ1 k1 => ∃ c, deref ρ1 x = some (.bl c) ∧ if c = true then Q (.val (.bl true)) ρ1 k1 else b ρ1 k1 Q
theorem de_one {op} {e : Expr} {w : WE} (h : DE X e w) : DE X (.BoolOp op [e] pos) w := let ⟨t, pe, rr⟩ := h; ⟨t, pe_one pe, rr⟩
theorem de_and {a b : Expr} {rest : List Expr} {wa wb : WE} (ha : DE X a wa) (hb : DE X (.BoolOp .And (b :: rest) pos) wb) : DE X (.BoolOp .And (a :: b :: rest) pos) (wAndV wa wb) := by
  obtain ⟨ta, pa, ra⟩ := ha
  obtain ⟨tb, pb, rb⟩ := hb
  refine ⟨_, pe_and pa pb, fun O p _ ρ k σ H Q J I h g => ?_⟩
  refine ra O p ρ k σ H _ _ I h fun v H1 x ρ1 k1 I1 s1 q1 h1 => ?_
  obtain ⟨c, e1, h1⟩ := h1
  refine ⟨c, (deref_ok I1 q1 e1).bl, ?_⟩
  cases c with
  | true => exact rb O p ρ1 k1 σ H1 _ _ I1 h1 fun v2 H2 r2 ρ2 k2 I2 s2 q2 h2 => g v2 H2 r2 ρ2 k2 I2 (s1.trans s2 I1.pn) q2 h2
  | false => exact g _ H1 (.val (.bl false)) ρ1 k1 I1 s1 (.bl false) h1
theorem de_or {a b : Expr} {rest : List Expr} {wa wb : WE} (ha : DE X a wa) (hb : DE X (.BoolOp .Or (b :: rest) pos) wb) : DE X (.BoolOp .Or (a :: b :: rest) pos) (wOrV wa wb) := by
  obtain ⟨ta, pa, ra⟩ := ha
  obtain ⟨tb, pb, rb⟩ := hb
  refine ⟨_, pe_or pa pb, fun O p _ ρ k σ H Q J I h g => ?_⟩
  refine ra O p ρ k σ H _ _ I h fun v H1 x ρ1 k1 I1 s1 q1 h1 => ?_
  obtain ⟨c, e1, h1⟩ := h1
  refine ⟨c, (deref_ok I1 q1 e1).bl, ?_⟩
  cases c with
  | false => exact rb O p ρ1 k1 σ H1 _ _ I1 h1 fun v2 H2 r2 ρ2 k2 I2 s2 q2 h2 => g v2 H2 r2 ρ2 k2 I2 (s1.trans s2 I1.pn) q2 h2
  | true => exact g _ H1 (.val (.bl true)) ρ1 k1 I1 s1 (.bl true) h1
def wNotV (a : WE) : WE := fun ρ k Q => a ρ k fun x ρ1 k1 => ∃ c, deref ρ1 x = some (.bl c) ∧ Q (.val (.bl (!c))) ρ1 k1
theorem de_not {e : Expr} {w : WE} (h : DE X e w) : DE X (.UnaryOp .Not e pos) (wNotV w) := by
  obtain ⟨t, pe, rr⟩ := h
  refine ⟨_, pe_not pe, fun O p _ ρ k σ H Q J I h g => ?_⟩
  refine rr O p ρ k σ H _ _ I h fun v H1 x ρ1 k1 I1 s1 q1 h1 => ?_
  obtain ⟨c, e1, h1⟩ := h1
  exact ⟨c, (deref_ok I1 q1 e1).bl, g _ H1 (.val (.bl !c)) ρ1 k1 I1 s1 (.bl _) h1⟩
def wIfE (c : WT) (a b : WE) : WE := fun ρ k Q => c ρ k fun t ρ1 k1 => if t = true then a ρ1 k1 Q else b ρ1 k1 Q
theorem de_if {c a b : Expr} {wc : WT} {wa wb : WE} (hc : DT X c wc) (ha : DE X a wa) (hb : DE X b wb) : DE X (.IfExp c a b pos) (wIfE wc wa wb) := by
  obtain ⟨tc, pc, rc⟩ := hc
  obtain ⟨ta, pa, ra⟩ := ha
  obtain ⟨tb, pb, rb⟩ := hb
  refine ⟨_, pe_ifExp pc pa pb, fun O p _ ρ k σ H Q J I h g => ?_⟩
  refine rc O p ρ k σ H _ _ I h fun b H1 ρ1 k1 I1 s1 h1 => ?_
  cases b with
  | true => exact ra O p ρ1 k1 σ H1 _ _ I1 h1 fun v2 H2 r2 ρ2 k2 I2 s2 q2 h2 => g v2 H2 r2 ρ2 k2 I2 (s1.trans s2 I1.pn) q2 h2
  | false => exact rb O p ρ1 k1 σ H1 _ _ I1 h1 fun v2 H2 r2 ρ2 k2 I2 s2 q2 h2 => g v2 H2 r2 ρ2 k2 I2 (s1.trans s2 I1.pn) q2 h2
/-! ### built-ins by values -/
def wCB (f : FN) (a : WA) : WE := fun ρ k Q => a ρ k fun rs ρ1 k1 => ∃ ds, derefL ρ1 rs = some ds ∧ f ds fun z => Q (.val z) ρ1 k1
def wCF (f : FL) (a : WA) : WL := fun ρ k Q => a ρ k fun rs ρ1 k1 => ∃ ds, derefL ρ1 rs = some ds ∧ f ds fun zs => Q zs ρ1 k1
theorem cbCore {e : Expr} {es : List Expr} {r : List V → Hp → VK → Prop} {f : FN} {wa : WA} (hr : RealN r f) (pe : ∀ {t : TA}, PA X es t → PE X e (tCB r t)) (ha : DA X es wa) : DE X e (wCB f wa) := by
  obtain ⟨ta, pa, ra⟩ := ha
  refine ⟨_, pe pa, fun O p _ ρ k σ H Q J I h g => ?_⟩
  refine ra O p ρ k σ H _ _ I h fun vs H1 rs ρ1 k1 I1 s1 q1 h1 => ?_
  obtain ⟨ds, e1, h1⟩ := h1
  refine hr (Bn O ρ1 σ) H1 vs ds _ _ I1.bt (derefL_ok I1 q1 e1) h1 fun w H3 z x3 r3 h3 => ?_
  exact g w H3 (.val z) ρ1 k1 (I1.ext x3) (s1.trans (.ext x3) I1.pn) r3 h3
theorem cfCore {e : Expr} {es : List Expr} {r : List V → Hp → VK → Prop} {f : FL} {wa : WA} (hr : RealF r f) (pe : ∀ {t : TA}, PA X es t → PE X e (tCB r t)) (ha : DA X es wa) : DF X e (wCF f wa) := by
  obtain ⟨ta, pa, ra⟩ := ha
  refine ⟨_, pe pa, fun O p _ ρ k σ H Q J I h g => ?_⟩
  refine ra O p ρ k σ H _ _ I h fun vs H1 rs ρ1 k1 I1 s1 q1 h1 => ?_
  obtain ⟨ds, e1, h1⟩ := h1
  refine hr (Bn O ρ1 σ) H1 vs ds _ _ I1.bt (derefL_ok I1 q1 e1) h1 fun q ws zs hq hz h3 => ?_
  have x3 : AExt H1 (upd H1 q (.lst ws)) := AExt.upd hq
  exact g q ws _ zs ρ1 k1 (I1.more hq) (s1.trans (.ext x3) I1.pn) (s1.new hq) upd_same (hz.mono (fun a o e _ => x3 a o e) fun a z => by
    rcases z with (z | z) | z
    · exact .inl (.inl z)
    · exact .inr (by rw [z]; exact hq)
    · exact .inl (.inr z)) h3
variable {x : Str} {e : Expr} {es : List Expr} {T : String} {id : String} {ps' : Pos}
theorem de_callB {r : List V → Hp → VK → Prop} {f : FN} {wa : WA} (hc : CallR X (.builtin id) r) (hr : RealN r f) (hg : Gl X x) (hm : X.mg x = none) (hv : bootBuiltins x = some (.builtin id)) (ha : DA X (e :: es) wa) (hn : x ≠ "__name__" := by decide) (hdb : (x == ("__debug__" : Str)) = false := by decide)
    (he : starEach (e :: es) X.env = (false, eval e X.env) :: starEach es X.env := by rfl) (hpl : (backTo pos (starEach es X.env)).any (·.1) = false := by rfl) : DE X (.Call (.Name x ps') (e :: es) [] pos) (wCB f wa) := cbCore hr (fun pa => pe_callB hc hg hm hv pa hn hdb he hpl) ha
theorem de_callTy {r : List V → Hp → VK → Prop} {f : FN} {wa : WA} (hc : CallR X (.type T) r) (hr : RealN r f) (hg : Gl X x) (hm : X.mg x = none) (hv : bootBuiltins x = some (.type T)) (ha : DA X (e :: es) wa) (hn : x ≠ "__name__" := by decide) (hdb : (x == ("__debug__" : Str)) = false := by decide)
    (he : starEach (e :: es) X.env = (false, eval e X.env) :: starEach es X.env := by rfl) (hpl : (backTo pos (starEach es X.env)).any (·.1) = false := by rfl) : DE X (.Call (.Name x ps') (e :: es) [] pos) (wCB f wa) := cbCore hr (fun pa => pe_callTy hc hg hm hv pa hn hdb he hpl) ha
theorem df_callB {r : List V → Hp → VK → Prop} {f : FL} {wa : WA} (hc : CallR X (.builtin id) r) (hr : RealF r f) (hg : Gl X x) (hm : X.mg x = none) (hv : bootBuiltins x = some (.builtin id)) (ha : DA X (e :: es) wa) (hn : x ≠ "__name__" := by decide) (hdb : (x == ("__debug__" : Str)) = false := by decide)
    (he : starEach (e :: es) X.env = (false, eval e X.env) :: starEach es X.env := by rfl) (hpl : (backTo pos (starEach es X.env)).any (·.1) = false := by rfl) : DF X (.Call (.Name x ps') (e :: es) [] pos) (wCF f wa) := cfCore hr (fun pa => pe_callB hc hg hm hv pa hn hdb he hpl) ha
theorem df_callTy {r : List V → Hp → VK → Prop} {f : FL} {wa : WA} (hc : CallR X (.type T) r) (hr : RealF r f) (hg : Gl X x) (hm : X.mg x = none) (hv : bootBuiltins x = some (.type T)) (ha : DA X (e :: es) wa) (hn : x ≠ "__name__" := by decide) (hdb : (x == ("__debug__" : Str)) = false := by decide)
    (he : starEach (e :: es) X.env = (false, eval e X.env) :: starEach es X.env := by rfl) (hpl : (backTo pos (starEach es X.env)).any (·.1) = false := by rfl) : DF X (.Call (.Name x ps') (e :: es) [] pos) (wCF f wa) := cfCore hr (fun pa => pe_callTy hc hg hm hv pa hn hdb he hpl) ha
/-- a new list used at once -/
def wNew (w : WL) : WE := fun ρ k Q => w ρ k fun zs ρ1 k1 => Q (.val (.lst zs)) ρ1 k1
theorem de_new {e : Expr} {w : WL} (h : DF X e w) : DE X e (wNew w) := by
  obtain ⟨t, pe, rr⟩ := h
  refine ⟨t, pe, fun O p _ ρ k σ H Q J I h g => ?_⟩
  refine rr O p ρ k σ H _ _ I h fun a vs H1 zs ρ1 k1 I1 s1 n0 e1 r1 h1 => ?_
  have nO : ¬ O a := fun z => (I.ot a z).1 n0
  have nw : ¬ Own ρ1 σ a := fun z => I1.ownNot z (.inr rfl)
  refine g _ H1 (.val (.lst zs)) ρ1 k1 (I1.less (fun _ z => .inl z) I.po) s1 (.lst (fun z => z.elim nO nw) e1 (r1.mono (fun _ _ h _ => h) fun b z => .inl (z.imp .inl id))) h1
/-! ### displays -/
def wTup (a : WA) : WE := fun ρ k Q => a ρ k fun rs ρ1 k1 => ∃ ds ρ2, frzL ρ1 rs = some (ds, ρ2) ∧ ds.length ≤ sizeLine ∧ Q (.val (.tup ds)) ρ2 k1
def wLst (a : WA) : WL := fun ρ k Q => a ρ k fun rs ρ1 k1 => ∃ ds ρ2, frzL ρ1 rs = some (ds, ρ2) ∧ ds.length ≤ sizeLine ∧ Q ds ρ2 k1
theorem de_tup {x1} {wa : WA} (ha : DA X es wa) : DE X (.Tuple es x1 pos) (wTup wa) := by
  obtain ⟨ta, pa, ra⟩ := ha
  refine ⟨_, pe_tup pa, fun O p _ ρ k σ H Q J I h g => ?_⟩
  refine ra O p ρ k σ H _ _ I h fun vs H1 rs ρ1 k1 I1 s1 q1 h1 => ?_
  obtain ⟨ds, ρ2, e1, hz, h1⟩ := h1
  obtain ⟨I2, s2, r2⟩ := frzL_ok I1 q1 e1
  refine ⟨by rw [r2.length]; exact hz, fun q hq => ?_⟩
  have x3 : AExt H1 (upd H1 q (.tup vs)) := AExt.upd hq
  exact g _ _ (.val (.tup ds)) ρ2 k1 (I2.ext x3) ((s1.trans s2 I1.pn).trans (.ext x3) I2.pn) (.tup (fresh_not I2.bt hq) upd_same (r2.ext x3)) h1
theorem df_lst {wa : WA} (ha : DA X es wa) : DF X (.List es pos) (wLst wa) := by
  obtain ⟨ta, pa, ra⟩ := ha
  refine ⟨_, pe_lst pa, fun O p _ ρ k σ H Q J I h g => ?_⟩
  refine ra O p ρ k σ H _ _ I h fun vs H1 rs ρ1 k1 I1 s1 q1 h1 => ?_
  obtain ⟨ds, ρ2, e1, hz, h1⟩ := h1
  obtain ⟨I2, s2, r2⟩ := frzL_ok I1 q1 e1
  refine ⟨by rw [r2.length]; exact hz, fun q hq => ?_⟩
  have x3 : AExt H1 (upd H1 q (.lst vs)) := AExt.upd hq
  exact g q vs _ ds ρ2 k1 (I2.more hq) ((s1.trans s2 I1.pn).trans (.ext x3) I2.pn) ((s1.trans s2 I1.pn).new hq) upd_same (r2.mono (fun a o e _ => x3 a o e) fun a z => by
    rcases z with (z | z) | z
    · exact .inl (.inl z)
    · exact .inr (by rw [z]; exact hq)
    · exact .inl (.inr z)) h1
/-- a new list by an operator -/
def wOpF (f : D → D → (List D → Prop) → Prop) (a b : WE) : WL := fun ρ k Q => a ρ k fun x ρ1 k1 => b ρ1 k1 fun y ρ2 k2 => ∃ d e, deref ρ2 x = some d ∧ deref ρ2 y = some e ∧ f d e fun z => Q z ρ2 k2
def RealF2 (r : R2) (f : D → D → (List D → Prop) → Prop) : Prop := ∀ (B : Addr → Prop) (H : Hp) (x y : V) (d e : D) (P : List D → Prop) (J : VK), (∀ b, B b → H b ≠ none) → RepS B H x d → RepS B H y e → f d e P →
  (∀ q vs zs, H q = none → RepL B H vs zs → P zs → J (.ref q) (upd H q (.lst vs))) → r x y H J
end

/-! ### promises of defs -/
def spD (n : Nat) (wf : WF) : Sp := fun vs H Q E => vs.length = n ∧ ∃ (O : Addr → Prop) (p : Pn) (k : Kt) (ds : List D) (P : D → Kt → Prop), RepL O H vs ds ∧ (∀ a, O a → H a ≠ none ∧ ∀ us, H a ≠ some (.tup us)) ∧ penI p k H ∧ (∀ a, penC p a → O a) ∧ k.2.xc = p.xc ∧ wf ds k P ∧
  (∀ v H' d k', (∀ a o, H a = some o → ¬ penA p a → H' a = some o) → penI p k' H' → k'.2.xc = p.xc → Rep O H' v d → P d k' → Q v H') ∧
  ∀ x cls d k' H', (∀ a o, H a = some o → ¬ penA p a → H' a = some o) → penI p k' H' → RepX p.hb H' cls d x → p.xc x k'.1 → E cls d H'
/-- what a call lets out -/
def EX (X : Cx) : XK := fun cls d H => ∀ σ, WX0 X cls d σ H
theorem passX {X : Cx} : Passes (L2.CX X.prog X.w) X (EX X) := fun pins σ H s e s' I c => takes0 e s' (XE.of_call I (fun _ _ _ h => h σ) c)
section
variable {X : Cx} {pos : Pos} {k0 : Nat} {f : Addr} {fd : FuncData} {ps : List Str} {dvs : List V} {dus : List Value} {dds : List D} {n : Nat} {wf : WF} {x : Str} {ps' : Pos} {e : Expr} {es : List Expr} {wa : WA}
def wCall (m : Nat) (wf : WF) (dds : List D) (a : WA) : WE := fun ρ k Q => a ρ k fun rs ρ1 k1 => rs.length = m ∧ ∃ ds ρ2, frzL ρ1 rs = some (ds, ρ2) ∧ wf (ds ++ dds) k1 fun d k2 => Q (.val d) ρ2 k2
theorem de_call (F : FnOk X.prog X.w X.K X.mg X.base (L2.CX X.prog X.w) k0 f fd ps (spD n wf)) (hr : Room k0 X.A) (hg : Gl X x) (hm : X.mg x = some (.ref f)) (hk : PySem.W.keepIn X.K (.ref f) = true) (hb : Binds X.K fd ps dus) (hd : Vals dvs dus)
    (hdd : ∀ B H, RepL B H dvs dds) (hn : (e :: es).length + dvs.length = n) (ha : DA X (e :: es) wa) (hdb : (x == ("__debug__" : Str)) = false := by decide) (he : starEach (e :: es) X.env = (false, eval e X.env) :: starEach es X.env := by rfl) (hpl : (backTo pos (starEach es X.env)).any (·.1) = false := by rfl) : DE X (.Call (.Name x ps') (e :: es) [] pos) (wCall (es.length + 1) wf dds wa) := by
  obtain ⟨ta, pa, ra⟩ := ha
  refine ⟨_, pe_call F hr hg hm hk hb hd passX pa hdb he hpl, fun O p _ ρ k σ H Q J I h g => ?_⟩
  refine ra O p ρ k σ H _ _ I h fun vs H1 rs ρ1 k1 I1 s1 q1 h1 => ?_
  obtain ⟨hlen, ds, ρ2, e1, h1⟩ := h1
  obtain ⟨I2, s2, r2⟩ := frzL_ok I1 q1 e1
  have xl : XL X p := inferInstance
  refine ⟨by rw [List.length_append, Paired.length q1, hlen]; exact hn, Bn O ρ2 σ, p, k1, ds ++ dds, _, r2.append (hdd _ _), I2.btn, I2.pn, fun a z => .inl (I2.po a z), I2.kx, h1, fun v H' d k' kp pn kx r q => ?_, fun x cls d k' H' kp pn rx hx σ' => xl.go x k' cls d σ' H' pn (fun a o h n => kp a o (I2.bs a o h n) n) rx hx⟩
  have s3 : Step p ρ2 σ H1 ρ2 σ H' := ⟨fun a o h n1 n2 => kp a o h n1, fun _ z => .inl z, fun a h => by
    by_cases hp : penA p a
    · exact pn.there (penB.of hp)
    · cases q : H1 a with
      | none => exact absurd q h
      | some o => rw [kp a o q hp]; simp⟩
  have keep : ∀ a o, H1 a = some o → ¬ penB p a → H' a = some o := fun a o h n => kp a o h fun z => n (penB.of z)
  have I3 : Rel O p ρ2 k' σ H' := ⟨I2.len, fun i d h => let ⟨v, e, q⟩ := I2.val i d h; ⟨v, e, Rep.step I2 s3 q⟩,
    fun i ds h => let ⟨a, o, e1, e2, e3, q⟩ := I2.own i ds h; ⟨a, o, e1, keep a _ e2 (fun z => e3 (I2.po a (.inl z))), e3, RepO.step I2 s3 q⟩, I2.inj, fun a z => by
      by_cases hp : penB p a
      · exact pn.nt hp
      · cases q : H1 a with
        | none => exact absurd q (I2.ot a z).1
        | some o => rw [keep a o q hp]; exact nt_kept (I2.ot a z) q, pn, I2.po, kx, fun a o h n => kp a o (I2.bs a o h n) n, I2.bo, I2.sf⟩
  exact g v H' (.val d) ρ2 k' I3 ((s1.trans s2 I1.pn).trans s3 I2.pn) r q
end
end DL

set_option Elab.async false
set_option linter.all false
set_option maxRecDepth 100000
set_option maxHeartbeats 4000000
/-! ELc: walks, targets, comprehensions, statements, loops, bodies of defs -/
namespace DL
open PySem PySem.Spec PyProof.Rows L2

section
variable {O : Addr → Prop} {p : Pn} {ρ ρ1 ρ2 : En} {k k1 k2 : Kt} {σ σ1 σ2 : L2.St} {H H1 H2 : Hp} {v : V} {d : D}
/-! ### slots stored -/
theorem own_set {i : Nat} {x : D} {u : Option V} {a : Addr} (hl : ρ.length = σ.length) (h : Own (ρ.set i (.val x)) (σ.set i u) a) : Own ρ σ a := by
  obtain ⟨j, ds, h1, h2⟩ := h
  by_cases e : i = j
  · subst e
    by_cases hi : i < ρ.length
    · rw [List.getElem?_set_self hi] at h1; cases h1
    · rw [List.getElem?_eq_none (by rw [List.length_set]; omega)] at h1; cases h1
  · rw [List.getElem?_set_ne e] at h1 h2
    exact ⟨j, ds, h1, h2⟩
theorem Rel.set (I : Rel O p ρ k σ H) (i : Nat) (r : Rep (Bn O ρ σ) H v d) : Rel O p (ρ.set i (.val d)) k (σ.set i (some v)) H := by
  have sb : ∀ b, Bn O (ρ.set i (.val d)) (σ.set i (some v)) b → Bn O ρ σ b ∨ H b = none := fun b z => .inl (z.imp id (own_set I.len))
  have ge : ∀ {j : Nat} {es : OD}, (ρ.set i (.val d))[j]? = some (.own es) → i ≠ j ∧ ρ[j]? = some (.own es) := fun {j es} hj => by
    by_cases e : i = j
    · subst e
      by_cases hi : i < ρ.length
      · rw [List.getElem?_set_self hi] at hj; cases hj
      · rw [List.getElem?_eq_none (by rw [List.length_set]; omega)] at hj; cases hj
    · rw [List.getElem?_set_ne e] at hj; exact ⟨e, hj⟩
  refine ⟨by rw [List.length_set, List.length_set]; exact I.len, fun j x hj => ?_, fun j es hj => ?_, fun j l b es fs hj hl h1 h2 => ?_, I.ot, I.pn, I.po, I.kx, I.bs, fun b z => I.bo b (own_set I.len z), fun j C ns es b hj hb => by
    obtain ⟨e, hj⟩ := ge hj
    rw [List.getElem?_set_ne e] at hb
    exact I.sf j C ns es b hj hb⟩
  · by_cases e : i = j
    · subst e
      by_cases hi : i < ρ.length
      · rw [List.getElem?_set_self hi] at hj
        cases hj
        exact ⟨v, List.getElem?_set_self (by rw [← I.len]; exact hi), r.mono (fun _ _ h _ => h) sb⟩
      · rw [List.getElem?_eq_none (by rw [List.length_set]; omega)] at hj; cases hj
    · rw [List.getElem?_set_ne e] at hj
      obtain ⟨u, e1, q⟩ := I.val j x hj
      exact ⟨u, by rw [List.getElem?_set_ne e]; exact e1, q.mono (fun _ _ h _ => h) sb⟩
  · obtain ⟨e, hj⟩ := ge hj
    obtain ⟨a, vs, e1, e2, e3, q⟩ := I.own j es hj
    exact ⟨a, vs, by rw [List.getElem?_set_ne e]; exact e1, e2, e3, q.mono (fun _ _ h _ => h) sb⟩
  · obtain ⟨e, hj⟩ := ge hj
    obtain ⟨e', hl⟩ := ge hl
    rw [List.getElem?_set_ne e] at h1
    rw [List.getElem?_set_ne e'] at h2
    exact I.inj j l b es fs hj hl h1 h2
theorem Step.set (hl : ρ.length = σ.length) (i : Nat) : Step p ρ σ H (ρ.set i (.val d)) (σ.set i (some v)) H := ⟨fun _ _ h _ _ => h, fun _ z => .inl (own_set hl z), fun _ h => h⟩
/-- a new list becomes owned -/
theorem Rel.setOwn {a : Addr} {vs : HO} {zs : OD} (I : Rel (fun b => O b ∨ b = a) p ρ k σ H) (i : Nat) (nO : ¬ O a) (po : ∀ b, penC p b → O b) (e : H a = some vs) (hb : p.base a = none) (hz : ∀ C ns ds, zs ≠ .i C ns ds) (r : RepO (Bn (fun b => O b ∨ b = a) ρ σ) H vs zs) :
    Rel O p (ρ.set i (.own zs)) k (σ.set i (some (.ref a))) H ∧ ∀ b, Own (ρ.set i (.own zs)) (σ.set i (some (.ref a))) b → Own ρ σ b ∨ b = a := by
  have nw : ¬ Own ρ σ a := fun z => I.ownNot z (.inr rfl)
  have ow : ∀ b, Own (ρ.set i (.own zs)) (σ.set i (some (.ref a))) b → Own ρ σ b ∨ b = a := fun b z => by
    obtain ⟨j, ds, h1, h2⟩ := z
    by_cases ej : i = j
    · subst ej
      by_cases hi : i < σ.length
      · rw [List.getElem?_set_self hi] at h2; cases h2; exact .inr rfl
      · rw [List.getElem?_eq_none (by rw [List.length_set]; omega)] at h2; cases h2
    · rw [List.getElem?_set_ne ej] at h1 h2
      exact .inl ⟨j, ds, h1, h2⟩
  have sb : ∀ b, Bn O (ρ.set i (.own zs)) (σ.set i (some (.ref a))) b → Bn (fun b => O b ∨ b = a) ρ σ b ∨ H b = none := fun b z => .inl (by
    rcases z with z | z
    · exact .inl (.inl z)
    · rcases ow b z with z | z
      · exact .inr z
      · exact .inl (.inr z))
  refine ⟨⟨by rw [List.length_set, List.length_set]; exact I.len, fun j x hj => ?_, fun j es hj => ?_, fun j l b es fs hj hl h1 h2 => ?_, fun b z => I.ot b (.inl z), I.pn, po, I.kx, I.bs, fun b z => (ow b z).elim (I.bo b) fun z => by rw [z]; exact hb, fun j C ns es b hj h2 => by
    by_cases ej : i = j
    · subst ej
      by_cases hi : i < ρ.length
      · rw [List.getElem?_set_self hi] at hj; cases hj; exact absurd rfl (hz C ns es)
      · rw [List.getElem?_eq_none (by rw [List.length_set]; omega)] at hj; cases hj
    · rw [List.getElem?_set_ne ej] at hj h2
      exact I.sf j C ns es b hj h2⟩, ow⟩
  · by_cases ej : i = j
    · subst ej
      by_cases hi : i < ρ.length
      · rw [List.getElem?_set_self hi] at hj; cases hj
      · rw [List.getElem?_eq_none (by rw [List.length_set]; omega)] at hj; cases hj
    · rw [List.getElem?_set_ne ej] at hj
      obtain ⟨u, e1, q⟩ := I.val j x hj
      exact ⟨u, by rw [List.getElem?_set_ne ej]; exact e1, q.mono (fun _ _ h _ => h) sb⟩
  · by_cases ej : i = j
    · subst ej
      by_cases hi : i < ρ.length
      · rw [List.getElem?_set_self hi] at hj
        cases hj
        exact ⟨a, vs, List.getElem?_set_self (by rw [← I.len]; exact hi), e, nO, r.mono (fun _ _ h _ => h) sb⟩
      · rw [List.getElem?_eq_none (by rw [List.length_set]; omega)] at hj; cases hj
    · rw [List.getElem?_set_ne ej] at hj
      obtain ⟨b, ws, e1, e2, e3, q⟩ := I.own j es hj
      exact ⟨b, ws, by rw [List.getElem?_set_ne ej]; exact e1, e2, fun z => e3 (.inl z), q.mono (fun _ _ h _ => h) sb⟩
  · by_cases ej : i = j
    · by_cases el : i = l
      · exact ej.symm.trans el
      · subst ej
        rw [List.getElem?_set_ne el] at hl h2
        have hi : i < σ.length := by
          by_cases hi : i < σ.length
          · exact hi
          · rw [List.getElem?_eq_none (by rw [List.length_set]; omega)] at h1; cases h1
        rw [List.getElem?_set_self hi] at h1
        cases h1
        exact absurd ⟨l, fs, hl, h2⟩ nw
    · by_cases el : i = l
      · subst el
        rw [List.getElem?_set_ne ej] at hj h1
        have hi : i < σ.length := by
          by_cases hi : i < σ.length
          · exact hi
          · rw [List.getElem?_eq_none (by rw [List.length_set]; omega)] at h2; cases h2
        rw [List.getElem?_set_self hi] at h2
        cases h2
        exact absurd ⟨j, es, hj, h1⟩ nw
      · rw [List.getElem?_set_ne ej] at hj h1
        rw [List.getElem?_set_ne el] at hl h2
        exact I.inj j l b es fs hj hl h1 h2
/-- an owned list is written -/
theorem Rel.ownWrite {i : Nat} {a : Addr} {ds es : OD} {ws : HO} (I : Rel O p ρ k σ H) (hi : ρ[i]? = some (.own ds)) (hs : σ[i]? = some (some (V.ref a))) (r : RepO (Bn O ρ σ) H ws es) (hk : ∀ C ns ds', es = .i C ns ds' → ∃ C ns ds'', ds = .i C ns ds'') :
    Rel O p (ρ.set i (.own es)) k σ (upd H a ws) ∧ Step p ρ σ H (ρ.set i (.own es)) σ (upd H a ws) := by
  have hlt : i < ρ.length := (List.getElem?_eq_some_iff.mp hi).1
  have oa : Own ρ σ a := ⟨i, ds, hi, hs⟩
  have nO : ¬ O a := I.ownNot oa
  have co : ∀ q, H a ≠ some (LamX.CodeO a q) := fun q e => by
    obtain ⟨b, o, e1, e2, _, e4⟩ := I.own i ds hi
    rw [hs] at e1
    cases e1
    rw [e2] at e
    unfold LamX.CodeO at e
    cases e
    cases e4
  have ge : ∀ {j : Nat} {fs : OD}, (ρ.set i (.own es))[j]? = some (.own fs) → ∃ gs, ρ[j]? = some (.own gs) := fun {j fs} hj => by
    by_cases e : i = j
    · subst e; exact ⟨ds, hi⟩
    · rw [List.getElem?_set_ne e] at hj; exact ⟨fs, hj⟩
  have sub : ∀ b, Own (ρ.set i (.own es)) σ b → Own ρ σ b := fun b z => let ⟨j, fs, h1, h2⟩ := z; let ⟨gs, h3⟩ := ge h1; ⟨j, gs, h3, h2⟩
  have sb : ∀ b, Bn O (ρ.set i (.own es)) σ b → Bn O ρ σ b ∨ H b = none := fun b z => .inl (z.imp id (sub b))
  have kp : ∀ b o, H b = some o → ¬ Bn O ρ σ b → upd H a ws b = some o := fun b o h n => by rw [upd_ne (fun z => n (by rw [z]; exact .inr oa))]; exact h
  refine ⟨⟨by rw [List.length_set]; exact I.len, fun j x hj => ?_, fun j fs hj => ?_, fun j l b fs gs hj hl h1 h2 => ?_, fun b z => ?_, ?_, I.po, I.kx, fun b o h n => by rw [upd_ne (fun z => by rw [z, I.bo a oa] at h; cases h)]; exact I.bs b o h n, fun b z => I.bo b (sub b z), fun j C ns es' b hj hb => by
    by_cases e : i = j
    · subst e
      rw [List.getElem?_set_self hlt] at hj
      obtain ⟨C', ns', ds', e'⟩ := hk C ns es' (by cases hj; rfl)
      exact I.sf i C' ns' ds' b (by rw [hi, e']) hb
    · rw [List.getElem?_set_ne e] at hj; exact I.sf j C ns es' b hj hb⟩, ⟨fun b o h n1 n2 => by rw [upd_ne (fun z => n2 (by rw [z]; exact oa))]; exact h, fun b z => .inl (sub b z), fun b z => by
    by_cases e : b = a
    · rw [e, upd_same]; simp
    · rw [upd_ne e]; exact z⟩⟩
  · by_cases e : i = j
    · subst e; rw [List.getElem?_set_self hlt] at hj; cases hj
    · rw [List.getElem?_set_ne e] at hj
      obtain ⟨u, e1, q⟩ := I.val j x hj
      exact ⟨u, e1, q.mono kp sb⟩
  · by_cases e : i = j
    · subst e
      rw [List.getElem?_set_self hlt] at hj
      cases hj
      exact ⟨a, ws, hs, upd_same, nO, r.mono kp sb⟩
    · rw [List.getElem?_set_ne e] at hj
      obtain ⟨b, us, e1, e2, e3, q⟩ := I.own j fs hj
      have ne : b ≠ a := fun z => e (I.inj i j a ds fs hi hj hs (by rw [← z]; exact e1))
      exact ⟨b, us, e1, by rw [upd_ne ne]; exact e2, e3, q.mono kp sb⟩
  · obtain ⟨fs', hj'⟩ := ge hj
    obtain ⟨gs', hl'⟩ := ge hl
    exact I.inj j l b fs' gs' hj' hl' h1 h2
  · by_cases e : b = a
    · exact absurd (by rw [← e]; exact z) nO
    · rw [upd_ne e]; exact I.ot b z
  · exact I.pn.keep (fun b hb => upd_ne fun z => nO (by rw [← z]; exact I.po b (.inl hb))) fun b q e => by rw [upd_ne fun z => co q (by rw [← z]; exact e)]; exact e
theorem Step.updNew {L : Addr} {o : HO} (s : Step p ρ σ H ρ1 σ1 H1) (hL : H L = none) : Step p ρ σ H ρ1 σ1 (upd H1 L o) := ⟨fun a x h n1 n2 => by rw [upd_ne (ne_of_none h hL)]; exact s.kp a x h n1 n2, s.nw, fun a z => by
  by_cases e : a = L
  · rw [e] at z; exact absurd hL z
  · rw [upd_ne e]; exact s.tr a z⟩

/-! ### slots forgotten -/
def wipeE (ρ : En) : List Nat → En
  | [] => ρ
  | v :: vs => (wipeE ρ vs).set v .un
theorem wipeE_length (ρ : En) : ∀ vs : List Nat, (wipeE ρ vs).length = ρ.length
  | [] => rfl
  | v :: vs => by unfold wipeE; rw [List.length_set, wipeE_length ρ vs]
theorem wipeE_some {ρ : En} {i : Nat} {x : Slot} : ∀ {vs : List Nat}, (wipeE ρ vs)[i]? = some x → (i ∈ vs ∧ x = .un) ∨ (i ∉ vs ∧ ρ[i]? = some x)
  | [], h => .inr ⟨by simp, h⟩
  | v :: vs, h => by
    unfold wipeE at h
    by_cases hi : v = i
    · subst hi
      by_cases hv : v < (wipeE ρ vs).length
      · rw [List.getElem?_set_self hv] at h; cases h; exact .inl ⟨by simp, rfl⟩
      · rw [List.getElem?_eq_none (by rw [List.length_set]; omega)] at h; cases h
    · rw [List.getElem?_set_ne hi] at h
      rcases wipeE_some h with ⟨h1, h2⟩ | ⟨h1, h2⟩
      · exact .inl ⟨by simp [h1], h2⟩
      · exact .inr ⟨by simp only [List.mem_cons, not_or]; exact ⟨fun e => hi e.symm, h1⟩, h2⟩
theorem wipe_at {σ : L2.St} {i : Nat} : ∀ {vs : List Nat}, i ∉ vs → (wipe σ vs)[i]? = σ[i]?
  | [], _ => rfl
  | v :: vs, h => by
    unfold wipe
    rw [List.getElem?_set_ne (fun e => h (by simp [e]))]
    exact wipe_at fun z => h (by simp [z])
theorem wipe_in {σ : L2.St} {i : Nat} : ∀ {vs : List Nat}, i ∈ vs → i < σ.length → (wipe σ vs)[i]? = some none
  | v :: vs, h, hl => by
    unfold wipe
    by_cases e : v = i
    · subst e; rw [List.getElem?_set_self (by rw [wipe_length]; exact hl)]
    · rw [List.getElem?_set_ne e]
      exact wipe_in ((List.mem_cons.mp h).resolve_left fun z => e z.symm) hl
theorem wipe_eq {σ σ' : L2.St} {vs : List Nat} (hl : σ'.length = σ.length) (h : ∀ i, i ∉ vs → σ'[i]? = σ[i]?) : wipe σ' vs = wipe σ vs := by
  apply List.ext_getElem?
  intro i
  by_cases hi : i ∈ vs
  · by_cases hlt : i < σ.length
    · rw [wipe_in hi (by omega), wipe_in hi hlt]
    · rw [List.getElem?_eq_none (by rw [wipe_length]; omega), List.getElem?_eq_none (by rw [wipe_length]; omega)]
  · rw [wipe_at hi, wipe_at hi, h i hi]
/-- unset slots may hold anything -/
theorem Rel.wiped {vs : List Nat} {σ' : L2.St} (I : Rel O p ρ k σ H) (hl : σ'.length = σ.length) (h : ∀ i, i ∉ vs → σ'[i]? = σ[i]?) : Rel O p (wipeE ρ vs) k σ' H ∧ ∀ b, Own (wipeE ρ vs) σ' b → Own ρ σ b := by
  have sub : ∀ b, Own (wipeE ρ vs) σ' b → Own ρ σ b := fun b ⟨j, ds, h1, h2⟩ => by
    rcases wipeE_some h1 with ⟨_, e⟩ | ⟨hj, e⟩
    · cases e
    · exact ⟨j, ds, e, by rw [← h j hj]; exact h2⟩
  have sb : ∀ b, Bn O (wipeE ρ vs) σ' b → Bn O ρ σ b ∨ H b = none := fun b z => .inl (z.imp id (sub b))
  refine ⟨⟨by rw [wipeE_length, hl]; exact I.len, fun j x hj => ?_, fun j ds hj => ?_, fun j l b es fs hj hl h1 h2 => ?_, I.ot, I.pn, I.po, I.kx, I.bs, fun b z => I.bo b (sub b z), fun j C ns es b hj hb => by
    rcases wipeE_some hj with ⟨_, e⟩ | ⟨nj, e⟩
    · cases e
    · exact I.sf j C ns es b e (by rw [← h j nj]; exact hb)⟩, sub⟩
  · rcases wipeE_some hj with ⟨_, e⟩ | ⟨nj, e⟩
    · cases e
    · obtain ⟨u, e1, q⟩ := I.val j x e
      exact ⟨u, by rw [h j nj]; exact e1, q.mono (fun _ _ h _ => h) sb⟩
  · rcases wipeE_some hj with ⟨_, e⟩ | ⟨nj, e⟩
    · cases e
    · obtain ⟨a, us, e1, e2, e3, q⟩ := I.own j ds e
      exact ⟨a, us, by rw [h j nj]; exact e1, e2, e3, q.mono (fun _ _ h _ => h) sb⟩
  · rcases wipeE_some hj with ⟨_, e⟩ | ⟨nj, e⟩
    · cases e
    · rcases wipeE_some hl with ⟨_, e'⟩ | ⟨nl, e'⟩
      · cases e'
      · exact I.inj j l b es fs e e' (by rw [← h j nj]; exact h1) (by rw [← h l nl]; exact h2)
end

/-! ### what is walked -/
section
variable {X : Cx} {tg : Expr} {pos ps' : Pos}
theorem pi_seq {l : Expr} {tl : TE} (hl : PE X l tl) : PI X tg l (fun σ H R => tl σ H fun x H1 => (∃ a, x = .ref a ∧ (∃ xs, SqL X.K H1 a xs) ∧ R (Itl X.K a) H1) ∨ ∃ a, x = .ref a ∧ (∃ xs, SqT X.K H1 a xs) ∧ R (Itt X.K a) H1) := by
  refine ⟨fun pins s σ H R I h => ?_⟩
  refine thn (hl.run pins s σ H _ I h) fun v s1 ⟨x, H1, I1, r1, q1⟩ => ?_
  rcases q1 with ⟨a, e, ⟨xs, hq⟩, q⟩ | ⟨a, e, ⟨xs, hq⟩, q⟩
  · subst e
    cases r1
    obtain ⟨its, rv, p, hz⟩ := I1.list hq
    refine wpAny_pyIter_list p.isList ?_
    refine ⟨s1.heap.objs.size, [s1.heap.objs.size], _, _, H1, rfl, I1.kept (t' := s1.toks) fun b o e => Heap.get?_push_of_some _ e, turn_list a _, ⟨_, Heap.get?_push_size _ rfl, rfl, rfl⟩, fun b hb => ?_, q⟩
    have e : b = s1.heap.objs.size := by simpa using hb
    subst e
    exact I1.fpOk (Nat.le_refl _) (I1.hok.fresh (Nat.le_refl _))
  · subst e
    cases r1
    obtain ⟨its, rv, p, hz⟩ := I1.tuple hq
    refine wpAny_pyIter_tuple (show s1.heap.IsTuple a its.toArray from p) ?_
    refine ⟨s1.heap.objs.size, [s1.heap.objs.size], _, _, H1, rfl, I1.kept (t' := s1.toks) fun b o e => Heap.get?_push_of_some _ e, turn_tuple a _, ⟨_, Heap.get?_push_size _ rfl, rfl, rfl⟩, fun b hb => ?_, q⟩
    have e : b = s1.heap.objs.size := by simpa using hb
    subst e
    exact I1.fpOk (Nat.le_refl _) (I1.hok.fresh (Nat.le_refl _))
def itemsD : D → Option (List D)
  | .lst ds => some ds
  | .tup ds => some ds
  | _ => none
def wSeqI (a : WE) : WL := fun ρ k Q => a ρ k fun r ρ1 k1 => ∃ d ρ2 ds, frz ρ1 r = some (d, ρ2) ∧ itemsD d = some ds ∧ Q ds ρ2 k1
theorem di_seq {l : Expr} {w : WE} (hl : DE X l w) : DI X tg l (wSeqI w) := by
  obtain ⟨t, pe, rr⟩ := hl
  refine ⟨_, pi_seq pe, fun O p _ ρ k σ H Q R' I h g => ?_⟩
  refine rr O p ρ k σ H _ _ I h fun v H1 r ρ1 k1 I1 s1 q1 h1 => ?_
  obtain ⟨d, ρ2, ds, e1, e2, h1⟩ := h1
  obtain ⟨I2, s2, r2⟩ := frz_ok I1 q1 e1
  cases d with
  | lst xs =>
    cases e2
    cases r2 with
    | lst nb ea rl =>
      rename_i a vs
      refine .inl ⟨a, rfl, ⟨vs, SqL.of ea⟩, g _ _ _ ρ2 k1 I2 (s1.trans s2 I1.pn) (fun B' H' kp nw bt => ?_) h1⟩
      have ea' : H' a = some (.lst vs) := kp _ _ ea nb
      refine ⟨fun i hi => ?_, fun i x H'' d hd hy => ?_, fun i hi => ⟨vs, SqL.of ea', by rw [rl.length]; exact hi⟩⟩
      · obtain ⟨u, e3, _⟩ := rl.get (List.getElem?_eq_getElem hi)
        exact ⟨vs, u, SqL.of ea', e3⟩
      · obtain ⟨e3, hy⟩ := hy
        subst e3
        obtain ⟨u, e4, r4⟩ := rl.get hd
        have e5 := hy vs (SqL.of ea')
        rw [e4] at e5
        cases e5
        exact ⟨AExt.refl _, r4.mono kp nw⟩
  | tup xs =>
    cases e2
    cases r2 with
    | tup nb ea rl =>
      rename_i a vs
      refine .inr ⟨a, rfl, ⟨vs, SqT.of ea⟩, g _ _ _ ρ2 k1 I2 (s1.trans s2 I1.pn) (fun B' H' kp nw bt => ?_) h1⟩
      have ea' : H' a = some (.tup vs) := kp _ _ ea nb
      refine ⟨fun i hi => ?_, fun i x H'' d hd hy => ?_, fun i hi => ⟨vs, SqT.of ea', by rw [rl.length]; exact hi⟩⟩
      · obtain ⟨u, e3, _⟩ := rl.get (List.getElem?_eq_getElem hi)
        exact ⟨vs, u, SqT.of ea', e3⟩
      · obtain ⟨e3, hy⟩ := hy
        subst e3
        obtain ⟨u, e4, r4⟩ := rl.get hd
        have e5 := hy vs (SqT.of ea')
        rw [e4] at e5
        cases e5
        exact ⟨AExt.refl _, r4.mono kp nw⟩
  | non => cases e2
  | bl _ => cases e2
  | int _ => cases e2
  | str _ => cases e2
  | ty _ => cases e2
  | obj _ => cases e2
  | dK _ _ => cases e2
  | dT _ _ => cases e2
  | ins _ _ _ => cases e2
/-! ranges -/
def rngD (lo : Int) (n : Nat) (c : Int) : List D := (List.range n).map fun i : Nat => D.int (lo + (i : Nat) * c)
theorem rngD_get {lo c : Int} {n i : Nat} {d : D} (h : (rngD lo n c)[i]? = some d) : i < n ∧ d = .int (lo + (i : Nat) * c) := by
  unfold rngD at h
  rw [List.getElem?_map] at h
  cases q : (List.range n)[i]? with
  | none => rw [q] at h; cases h
  | some j =>
    rw [q] at h
    cases h
    obtain ⟨h1, h2⟩ := List.getElem?_eq_some_iff.mp q
    rw [List.getElem_range] at h2
    rw [List.length_range] at h1
    subst h2
    exact ⟨h1, rfl⟩
theorem rngD_length {lo c : Int} {n : Nat} : (rngD lo n c).length = n := by unfold rngD; rw [List.length_map, List.length_range]
theorem itr_ok {B : Addr → Prop} {H1 : Hp} {lo : Int} {n : Nat} : ItOk B (Itr lo n) (rngD lo n 1) H1 := fun B' H' kp nw bt => by
  refine ⟨fun i hi => by rw [rngD_length] at hi; exact hi, fun i x H'' d hd hy => ?_, fun i hi => by rw [rngD_length] at hi; exact hi⟩
  obtain ⟨h1, rfl⟩ := rngD_get hd
  obtain ⟨rfl, rfl⟩ := hy
  rw [Int.mul_one]
  exact ⟨AExt.refl _, .int _⟩
def wRng1 (a : WA) : WL := fun ρ k Q => a ρ k fun rs ρ1 k1 => ∃ j : Int, derefL ρ1 rs = some [.int j] ∧ -(2 ^ 62) ≤ j ∧ j < 2 ^ 62 ∧ Q (rngD 0 j.toNat 1) ρ1 k1
theorem one_int {B : Addr → Prop} {H : Hp} {vs : List V} {j : Int} (h : RepSL B H vs [.int j]) : vs = [.int j] := by
  cases h with
  | cons h1 h2 => cases h2; rw [h1.int]
theorem di_range1 {a : Expr} {wa : WA} (hg : Gl X "range") (hm : X.mg "range" = none) (ha : DA X [a] wa) (hs : starEach [a] X.env = [(false, eval a X.env)] := by rfl) : DI X tg (.Call (.Name "range" ps') [a] [] pos) (wRng1 wa) := by
  obtain ⟨t, pa, rr⟩ := ha
  refine ⟨_, pi_range1 hg hm pa hs, fun O p _ ρ k σ H Q R' I h g => ?_⟩
  refine rr O p ρ k σ H _ _ I h fun vs H1 rs ρ1 k1 I1 s1 q1 h1 => ?_
  obtain ⟨j, e1, b1, b2, h1⟩ := h1
  exact ⟨j, one_int (derefL_ok I1 q1 e1), b1, b2, g _ H1 _ ρ1 k1 I1 s1 itr_ok h1⟩
def wRng2 (a : WA) : WL := fun ρ k Q => a ρ k fun rs ρ1 k1 => ∃ i j : Int, derefL ρ1 rs = some [.int i, .int j] ∧ (-(2 ^ 62) ≤ i ∧ i < 2 ^ 62 ∧ -(2 ^ 62) ≤ j ∧ j < 2 ^ 62) ∧ Q (rngD i (j - i).toNat 1) ρ1 k1
def wRng3 (a : WA) : WL := fun ρ k Q => a ρ k fun rs ρ1 k1 => ∃ (i j c : Int) (n : Nat), derefL ρ1 rs = some [.int i, .int j, .int c] ∧ RgC i j c n ∧ Q (rngD i n c) ρ1 k1
/-! zip, enumerate -/
def zipD (xs ys : List D) : List D := List.zipWith (fun x y => D.tup [x, y]) xs ys
theorem zipD_get {xs ys : List D} {i : Nat} {d : D} (h : (zipD xs ys)[i]? = some d) : ∃ x y, xs[i]? = some x ∧ ys[i]? = some y ∧ d = .tup [x, y] := by
  unfold zipD at h
  rw [List.getElem?_zipWith] at h
  cases q1 : xs[i]? with
  | none => rw [q1] at h; cases h
  | some x =>
    cases q2 : ys[i]? with
    | none => rw [q1, q2] at h; cases h
    | some y => rw [q1, q2] at h; cases h; exact ⟨x, y, rfl, rfl, rfl⟩
theorem zipD_length {xs ys : List D} : (zipD xs ys).length = min xs.length ys.length := by unfold zipD; rw [List.length_zipWith]
def zipArgs : List D → Option (List D × List D)
  | [.lst xs, .lst ys] => some (xs, ys)
  | [.tup xs, .tup ys] => some (xs, ys)
  | _ => none
def wZip (a : WA) : WL := fun ρ k Q => a ρ k fun rs ρ1 k1 => ∃ ds ρ2 xs ys, frzL ρ1 rs = some (ds, ρ2) ∧ zipArgs ds = some (xs, ys) ∧ Q (zipD xs ys) ρ2 k1
theorem di_zip {e e2 : Expr} {wa : WA} {elts : List Expr} {kk : Nat} {tpos : Pos} (hg : Gl X "zip") (hm : X.mg "zip" = none) (ha : DA X [e, e2] wa)
    (hs : starEach [e, e2] X.env = (false, eval e X.env) :: starEach [e2] X.env := by rfl) (hpl : (backTo pos (starEach [e2] X.env)).any (·.1) = false := by rfl) :
    DI X (.Tuple elts kk tpos) (.Call (.Name "zip" ps') [e, e2] [] pos) (wZip wa) := by
  obtain ⟨t, pa, rr⟩ := ha
  refine ⟨_, RZ.pi_zipA hg hm pa hs hpl, fun O p _ ρ k σ H Q R' I h g => ?_⟩
  refine rr O p ρ k σ H _ _ I h fun vs H1 rs ρ1 k1 I1 s1 q1 h1 => ?_
  obtain ⟨ds, ρ2, xs, ys, e1, e2, h1⟩ := h1
  obtain ⟨I2, s2, r2⟩ := frzL_ok I1 q1 e1
  have pairs : ∀ {B' : Addr → Prop} {H' : Hp} {us ws : List V} {i : Nat} {d : D} {T : Addr} {x y : V}, (∀ a, B' a → H' a ≠ none) → RepL B' H' us xs → RepL B' H' ws ys → (zipD xs ys)[i]? = some d → H' T = none → us[i]? = some x → ws[i]? = some y →
      Rep B' (upd H' T (.tup [x, y])) (.ref T) d := fun {B' H' us ws i d T x y} bt ru rw hd nT hx hy => by
    obtain ⟨dx, dy, ex, ey, rfl⟩ := zipD_get hd
    obtain ⟨x', ex', rx⟩ := ru.get ex
    obtain ⟨y', ey', ry⟩ := rw.get ey
    rw [hx] at ex'; cases ex'
    rw [hy] at ey'; cases ey'
    exact .tup (fresh_not bt nT) upd_same (.cons (rx.ext (AExt.upd nT)) (.cons (ry.ext (AExt.upd nT)) .nil))
  unfold zipArgs at e2
  split at e2
  · cases e2
    cases r2 with
    | cons ra rb =>
      cases rb with
      | cons rb rn =>
        cases rn
        cases ra with
        | lst na ea la =>
          cases rb with
          | lst nb eb lb =>
            rename_i a us b ws
            refine ⟨a, b, us, ws, rfl, .inl ⟨SqL.of ea, SqL.of eb, g _ H1 _ ρ2 k1 I2 (s1.trans s2 I1.pn) (fun B' H' kp nw bt => ?_) h1⟩⟩
            have ea' := kp _ _ ea na
            have eb' := kp _ _ eb nb
            refine ⟨fun i hi => ?_, fun i x H'' d hd hy => ?_, fun i hi => ⟨us, ws, SqL.of ea', SqL.of eb', ?_⟩⟩
            · rw [zipD_length] at hi
              obtain ⟨x, ex, _⟩ := la.get (List.getElem?_eq_getElem (show i < xs.length by omega))
              obtain ⟨y, ey, _⟩ := lb.get (List.getElem?_eq_getElem (show i < ys.length by omega))
              exact ⟨us, ws, x, y, SqL.of ea', SqL.of eb', ex, ey⟩
            · obtain ⟨T, x, y, rfl, nT, rfl, hx, hy⟩ := hy
              exact ⟨AExt.upd nT, pairs bt (la.mono kp nw) (lb.mono kp nw) hd nT (hx _ (SqL.of ea')) (hy _ (SqL.of eb'))⟩
            · rw [zipD_length] at hi
              rw [la.length, lb.length]
              omega
  · cases e2
    cases r2 with
    | cons ra rb =>
      cases rb with
      | cons rb rn =>
        cases rn
        cases ra with
        | tup na ea la =>
          cases rb with
          | tup nb eb lb =>
            rename_i a us b ws
            refine ⟨a, b, us, ws, rfl, .inr ⟨SqT.of ea, SqT.of eb, g _ H1 _ ρ2 k1 I2 (s1.trans s2 I1.pn) (fun B' H' kp nw bt => ?_) h1⟩⟩
            have ea' := kp _ _ ea na
            have eb' := kp _ _ eb nb
            refine ⟨fun i hi => ?_, fun i x H'' d hd hy => ?_, fun i hi => ⟨us, ws, SqT.of ea', SqT.of eb', ?_⟩⟩
            · rw [zipD_length] at hi
              obtain ⟨x, ex, _⟩ := la.get (List.getElem?_eq_getElem (show i < xs.length by omega))
              obtain ⟨y, ey, _⟩ := lb.get (List.getElem?_eq_getElem (show i < ys.length by omega))
              exact ⟨us, ws, x, y, SqT.of ea', SqT.of eb', ex, ey⟩
            · obtain ⟨T, x, y, rfl, nT, rfl, hx, hy⟩ := hy
              exact ⟨AExt.upd nT, pairs bt (la.mono kp nw) (lb.mono kp nw) hd nT (hx _ (SqT.of ea')) (hy _ (SqT.of eb'))⟩
            · rw [zipD_length] at hi
              rw [la.length, lb.length]
              omega
  · cases e2
end

/-! ### targets -/
section
variable {X : Cx} {pos : Pos}
def gNm (i : Nat) : WG := fun d ρ k Q => Q (ρ.set i (.val d)) k
theorem dg_name {i : Nat} {x : Str} (hN : X.N.Nodup) (hi : X.N[i]? = some x) (hx : Loc X.env.scope x) (hf : X.fn x = true ∨ X.env.scope.names.lookup x = some .local := by first | exact .inl rfl | exact .inr rfl | assumption) : DG X (.Name x pos) [i] (gNm i) := by
  refine ⟨_, pg_name hN hi hx hf, fun O p _ ρ k σ H v d Q J I r h g => ?_⟩
  exact g _ H _ k (I.set i r) (Step.set I.len i) (fun j hj => List.getElem?_set_ne (fun e => hj (by simp [e]))) (List.length_set ..) h
abbrev WGs := List D → En → Kt → (En → Kt → Prop) → Prop
def DGs (X : Cx) (ts : List Expr) (is : List Nat) (w : WGs) : Prop := ∃ g : TGs, PGs X ts g ∧ ∀ (O : Addr → Prop) (p : Pn) [XL X p] (ρ : En) (k : Kt) (σ : L2.St) (H : Hp) (vs : List V) (ds : List D) (Q : En → Kt → Prop) (J : L2.St → Hp → Prop), Rel O p ρ k σ H → RepL (Bn O ρ σ) H vs ds → w ds ρ k Q →
  (∀ σ' H' ρ' k', Rel O p ρ' k' σ' H' → Step p ρ σ H ρ' σ' H' → (∀ i, i ∉ is → σ'[i]? = σ[i]?) → σ'.length = σ.length → Q ρ' k' → J σ' H') → g vs σ H J
def gNil : WGs := fun ds ρ k Q => ds = [] ∧ Q ρ k
def gCons (a : WG) (b : WGs) : WGs := fun ds ρ k Q => match ds with
  | [] => False
  | d :: ds => a d ρ k fun ρ1 k1 => b ds ρ1 k1 Q
theorem dgs_nil : DGs X [] [] gNil := by
  refine ⟨_, pgs_nil, fun O p _ ρ k σ H vs ds Q J I r h g => ?_⟩
  obtain ⟨e, h⟩ := h
  subst e
  cases r
  exact ⟨rfl, g σ H ρ k I .refl (fun _ _ => rfl) rfl h⟩
theorem dgs_cons {e : Expr} {es : List Expr} {is js : List Nat} {a : WG} {b : WGs} (ha : DG X e is a) (hb : DGs X es js b) (hs : (assignEach (e :: es) X.env).map (·.2) = assign e X.env :: (assignEach es X.env).map (·.2) := by rfl) : DGs X (e :: es) (is ++ js) (gCons a b) := by
  obtain ⟨ta, pa, ra⟩ := ha
  obtain ⟨tb, pb, rb⟩ := hb
  refine ⟨_, pgs_cons pa pb hs, fun O p _ ρ k σ H vs ds Q J I r h g => ?_⟩
  cases r with
  | nil => exact h.elim
  | cons r1 r2 =>
    refine ⟨_, _, rfl, ra O p ρ k σ H _ _ _ _ I r1 h fun σ1 H1 ρ1 k1 I1 s1 u1 l1 h1 => ?_⟩
    refine rb O p ρ1 k1 σ1 H1 _ _ _ _ I1 (RepL.step I s1 r2) h1 fun σ2 H2 ρ2 k2 I2 s2 u2 l2 h2 => ?_
    exact g σ2 H2 ρ2 k2 I2 (s1.trans s2 I1.pn) (fun i hi => (u2 i fun z => hi (List.mem_append_right _ z)).trans (u1 i fun z => hi (List.mem_append_left _ z))) (l2.trans l1) h2
def gTp (n : Nat) (w : WGs) : WG := fun d ρ k Q => ∃ ds, d = .tup ds ∧ ds.length = n ∧ w ds ρ k Q
def gLs (n : Nat) (w : WGs) : WG := fun d ρ k Q => ∃ ds, d = .lst ds ∧ ds.length = n ∧ w ds ρ k Q
theorem dg_tup {es : List Expr} {kk n : Nat} {is : List Nat} {w : WGs} (hc : X.calm = true) (h : DGs X es is w) (hn : (assignEach es X.env).length = n := by rfl) (hst : (assignEach es X.env).findIdx? (·.1) = none := by rfl) : DG X (.Tuple es kk pos) is (gTp n w) := by
  obtain ⟨t, pg, rr⟩ := h
  refine ⟨_, pg_tup hc pg hn hst, fun O p _ ρ k σ H v d Q J I r h g => ?_⟩
  obtain ⟨ds, e, hl, h⟩ := h
  subst e
  cases r with
  | tup nb ea rl => exact ⟨_, _, rfl, SqT.of ea, by rw [rl.length]; exact hl, rr O p ρ k σ H _ _ _ _ I rl h g⟩
end

/-! ### comprehensions -/
section
/-- nothing may leave -/
def Pn.nox (p : Pn) : Pn := { p with xc := fun _ _ => False }
def nxk (k : Kt) : Kt := (k.1, { k.2 with xc := fun _ _ => False })
def rsk (k k' : Kt) : Kt := (k'.1, { k'.2 with xc := k.2.xc })
instance {X : Cx} {p : Pn} : XL X p.nox := ⟨fun _ _ _ _ _ _ _ _ _ h => h.elim⟩
theorem Rel.nox {O : Addr → Prop} {p : Pn} {ρ : En} {k : Kt} {σ : L2.St} {H : Hp} (I : Rel O p ρ k σ H) : Rel O p.nox ρ (nxk k) σ H := ⟨I.len, I.val, I.own, I.inj, I.ot, I.pn, I.po, rfl, I.bs, I.bo, I.sf⟩
theorem Rel.unnox {O O' : Addr → Prop} {p : Pn} {ρ ρ' : En} {k k' : Kt} {σ σ' : L2.St} {H H' : Hp} (I : Rel O p.nox ρ k' σ H) (I0 : Rel O' p ρ' k σ' H') : Rel O p ρ (rsk k k') σ H := ⟨I.len, I.val, I.own, I.inj, I.ot, I.pn, I.po, I0.kx, I.bs, I.bo, I.sf⟩
theorem Step.nox {p : Pn} {ρ ρ1 : En} {σ σ1 : L2.St} {H H1 : Hp} (s : Step p ρ σ H ρ1 σ1 H1) : Step p.nox ρ σ H ρ1 σ1 H1 := ⟨s.kp, s.nw, s.tr⟩
theorem Step.unnox {p : Pn} {ρ ρ1 : En} {σ σ1 : L2.St} {H H1 : Hp} (s : Step p.nox ρ σ H ρ1 σ1 H1) : Step p ρ σ H ρ1 σ1 H1 := ⟨s.kp, s.nw, s.tr⟩
theorem Rel.fresh {O : Addr → Prop} {p : Pn} {ρ : En} {k : Kt} {σ : L2.St} {H : Hp} (I : Rel O p ρ k σ H) {L : Addr} (h : H L = none) : p.base L = none := by
  cases e : p.base L with
  | none => rfl
  | some o =>
    by_cases hp : penA p L
    · exact absurd h (I.pn.there (penB.of hp))
    · rw [I.bs L o e hp] at h; cases h
def lcW (vs : List Nat) (tg : WG) (ts : WT) (el : WE) : List D → List D → En → Kt → (List D → En → Kt → Prop) → Prop
  | [], acc, ρ, k, Q => Q acc ρ k
  | d :: ds, acc, ρ, k, Q => tg d ρ k fun ρ1 k1 => ts ρ1 k1 fun b ρ2 k2 => if b = true then el ρ2 k2 fun r ρ3 k3 => ∃ y ρ4, frz ρ3 r = some (y, ρ4) ∧ acc.length < sizeLine ∧ lcW vs tg ts el ds (acc ++ [y]) (wipeE ρ4 vs) k3 Q
      else lcW vs tg ts el ds acc (wipeE ρ2 vs) k2 Q
def wLc (vs : List Nat) (it : WL) (tg : WG) (ts : WT) (el : WE) : WL := fun ρ k Q => it ρ k fun ds ρ1 k1 => lcW vs tg ts el ds [] (wipeE ρ1 vs) (nxk k1) fun zs ρ2 k2 => Q zs ρ2 (rsk k1 k2)
theorem pen_ne {p : Pn} {k : Kt} {H : Hp} {L : Addr} (h : penI p k H) (hL : H L = none) : ¬ penB p L := fun z => h.there z hL
/-- the reading of a comprehension -/
theorem lcProp {X : Cx} {wi : TI} {g : TG} {tt : TT} {te : TE} {vs is : List Nat} {wit : WL} {wg : WG} {wt : WT} {we : WE} (hiv : ∀ i ∈ is, i ∈ vs)
    (ri : ∀ (O : Addr → Prop) (p : Pn) [XL X p] (ρ : En) (k : Kt) (σ : L2.St) (H : Hp) (Q : List D → En → Kt → Prop) (R' : It → Hp → Prop), Rel O p ρ k σ H → wit ρ k Q → (∀ J H1 ds ρ1 k1, Rel O p ρ1 k1 σ H1 → Step p ρ σ H ρ1 σ H1 → ItOk (Bn O ρ1 σ) J ds H1 → Q ds ρ1 k1 → R' J H1) → wi σ H R')
    (rg : ∀ (O : Addr → Prop) (p : Pn) (ρ : En) (k : Kt) (σ : L2.St) (H : Hp) (v : V) (d : D) (Q : En → Kt → Prop) (J : L2.St → Hp → Prop), Rel O p.nox ρ k σ H → Rep (Bn O ρ σ) H v d → wg d ρ k Q →
      (∀ σ' H' ρ' k', Rel O p.nox ρ' k' σ' H' → Step p.nox ρ σ H ρ' σ' H' → (∀ i, i ∉ is → σ'[i]? = σ[i]?) → σ'.length = σ.length → Q ρ' k' → J σ' H') → g v σ H J)
    (rt : ∀ (O : Addr → Prop) (p : Pn) (ρ : En) (k : Kt) (σ : L2.St) (H : Hp) (Q : Bool → En → Kt → Prop) (J : Bool → Hp → Prop), Rel O p.nox ρ k σ H → wt ρ k Q → (∀ b H' ρ' k', Rel O p.nox ρ' k' σ H' → Step p.nox ρ σ H ρ' σ H' → Q b ρ' k' → J b H') → tt σ H J)
    (re : ∀ (O : Addr → Prop) (p : Pn) (ρ : En) (k : Kt) (σ : L2.St) (H : Hp) (Q : R → En → Kt → Prop) (J : VK), Rel O p.nox ρ k σ H → we ρ k Q → (∀ v H' r ρ' k', Rel O p.nox ρ' k' σ H' → Step p.nox ρ σ H ρ' σ H' → RRep O ρ' σ H' v r → Q r ρ' k' → J v H') → te σ H J)
    (O : Addr → Prop) (p : Pn) [XL X p] (ρ : En) (k : Kt) (σ : L2.St) (H : Hp) (Q : List D → En → Kt → Prop) (J : VK) (I : Rel O p ρ k σ H) (h : wLc vs wit wg wt we ρ k Q)
    (f : ∀ a ws H' zs ρ' k', Rel (fun b => O b ∨ b = a) p ρ' k' σ H' → Step p ρ σ H ρ' σ H' → H a = none → H' a = some (.lst ws) → RepL (Bn (fun b => O b ∨ b = a) ρ' σ) H' ws zs → Q zs ρ' k' → J (.ref a) H') : tLc wi g tt te vs σ H J := by
  refine ri O p ρ k σ H _ _ I h fun It' H1 ds ρ1 k1 I1' s1 ok h1 => fun L hL => ?_
  have I1 : Rel O p.nox ρ1 (nxk k1) σ H1 := I1'.nox
  have s1n : Step p.nox ρ σ H ρ1 σ H1 := s1.nox
  have hwl : (wipe σ vs).length = σ.length := wipe_length σ vs
  obtain ⟨I1w, ow1⟩ := (I1.wiped (vs := vs) hwl fun i hi => wipe_at hi)
  have s1w : Step p.nox ρ1 σ H1 (wipeE ρ1 vs) (wipe σ vs) H1 := ⟨fun _ _ h _ _ => h, fun b z => .inl (ow1 b z), fun _ h => h⟩
  have I2 := I1w.more (o := .lst []) hL
  have nP : ¬ penB p.nox L := pen_ne I1.pn hL
  refine ⟨fun i m H' => i ≤ ds.length ∧ m = ds.length - i ∧ ∃ acc ρi ki av, Rel (fun b => O b ∨ b = L) p.nox ρi ki (wipe σ vs) H' ∧ (∀ (j : Nat) (s : Slot), j ∈ vs → ρi[j]? = some s → s = .un) ∧ Step p.nox (wipeE ρ1 vs) (wipe σ vs) H1 ρi (wipe σ vs) H' ∧ H' L = some (.lst av) ∧
      RepL (Bn (fun b => O b ∨ b = L) ρi (wipe σ vs)) H' av acc ∧ lcW vs wg wt we (ds.drop i) acc ρi ki (fun zs ρ2 k2 => Q zs ρ2 (rsk k1 k2)), ⟨ds.length, Nat.zero_le _, rfl, [], wipeE ρ1 vs, nxk k1, [], I2, fun j s hj e => ?_, (Step.refl).updNew hL, upd_same, .nil, h1⟩, ?_⟩
  · rcases wipeE_some e with ⟨_, e⟩ | ⟨n, _⟩
    · exact e
    · exact absurd hj n
  rintro i m H2 ⟨hi, rfl, acc, ρi, ki, av, Ii, un, si, eL, ra, hw⟩
  have okH : _ := ok (Bn (fun b => O b ∨ b = L) ρi (wipe σ vs)) H2 (fun a o e n => si.kp a o e (fun z => n (.inl (I1.po a (.inl (penB.of z))))) fun z => n (.inr (ow1 a z))) (fun a z => by
    rcases z with (z | z) | z
    · exact .inl (.inl z)
    · exact .inr (by rw [z]; exact hL)
    · exact (si.nw a z).imp (fun z => .inr (ow1 a z)) id) Ii.bt
  obtain ⟨ok1, ok2, ok3⟩ := okH
  by_cases hlt : i < ds.length
  · refine .inr ⟨ok1 i hlt, fun H' => ∃ acc ρi ki av, Rel (fun b => O b ∨ b = L) p.nox ρi ki (wipe σ vs) H' ∧ (∀ (j : Nat) (s : Slot), j ∈ vs → ρi[j]? = some s → s = .un) ∧ Step p.nox (wipeE ρ1 vs) (wipe σ vs) H1 ρi (wipe σ vs) H' ∧ H' L = some (.lst av) ∧
      RepL (Bn (fun b => O b ∨ b = L) ρi (wipe σ vs)) H' av acc ∧ lcW vs wg wt we (ds.drop (i + 1)) acc ρi ki (fun zs ρ2 k2 => Q zs ρ2 (rsk k1 k2)), fun H' hN => ⟨ds.length - (i + 1), by omega, hlt, rfl, hN⟩, fun x H3 hy => ?_⟩
    obtain ⟨x3, rx⟩ := ok2 i x H3 ds[i] (List.getElem?_eq_getElem hlt) hy
    rw [List.drop_eq_getElem_cons hlt] at hw
    unfold lcW at hw
    have I3 := Ii.ext x3
    have s3 := si.trans (Step.ext (ρ := ρi) (σ := wipe σ vs) (p := p.nox) x3) Ii.pn
    have ra3 := ra.ext x3
    refine rg _ p ρi ki (wipe σ vs) H3 x ds[i] _ _ I3 rx hw fun σ4 H4 ρ4 k4 I4 s4 u4 l4 h4 => ?_
    have we4 : wipe σ4 vs = wipe σ vs := by
      have : wipe σ4 vs = wipe (wipe σ vs) vs := wipe_eq l4 fun j hj => u4 j fun z => hj (hiv j z)
      rw [this]
      exact wipe_eq hwl fun j hj => wipe_at hj
    refine ⟨we4, ?_⟩
    have Lk : ∀ {ρ' : En} {σ' : L2.St} {H' H'' : Hp} {ρ'' : En} {σ'' : L2.St} {k'}, Rel (fun b => O b ∨ b = L) p.nox ρ' k' σ' H' → Step p.nox ρ' σ' H' ρ'' σ'' H'' → H' L = some (.lst av) → H'' L = some (.lst av) := fun {ρ' σ' H' H'' ρ'' σ'' k'} I' s' e' =>
      s'.kp L _ e' (fun z => nP (penB.of z)) fun z => I'.ownNot z (.inr rfl)
    refine rt _ p ρ4 k4 σ4 H4 _ _ I4 h4 fun b H5 ρ5 k5 I5 s5 h5 => ?_
    have eL5 : H5 L = some (.lst av) := Lk I4 s5 (Lk I3 s4 (x3 _ _ eL))
    have ra5 := RepL.step I4 s5 (RepL.step I3 s4 ra3)
    have s15 : Step p.nox (wipeE ρ1 vs) (wipe σ vs) H1 ρ5 σ4 H5 := (s3.trans s4 I3.pn).trans s5 I4.pn
    -- the turn's end
    have fin : ∀ {ρ' : En} {k' : Kt} {H' : Hp} {av' : List V} {acc' : List D}, Rel (fun b => O b ∨ b = L) p.nox ρ' k' σ4 H' → Step p.nox (wipeE ρ1 vs) (wipe σ vs) H1 ρ' σ4 H' → H' L = some (.lst av') → RepL (Bn (fun b => O b ∨ b = L) ρ' σ4) H' av' acc' →
        lcW vs wg wt we (ds.drop (i + 1)) acc' (wipeE ρ' vs) k' (fun zs ρ2 k2 => Q zs ρ2 (rsk k1 k2)) → ∃ acc ρi ki av, Rel (fun b => O b ∨ b = L) p.nox ρi ki (wipe σ vs) H' ∧ (∀ (j : Nat) (s : Slot), j ∈ vs → ρi[j]? = some s → s = .un) ∧ Step p.nox (wipeE ρ1 vs) (wipe σ vs) H1 ρi (wipe σ vs) H' ∧ H' L = some (.lst av) ∧
          RepL (Bn (fun b => O b ∨ b = L) ρi (wipe σ vs)) H' av acc ∧ lcW vs wg wt we (ds.drop (i + 1)) acc ρi ki (fun zs ρ2 k2 => Q zs ρ2 (rsk k1 k2)) := fun {ρ' k' H' av' acc'} I' s' e' r' h' => by
      obtain ⟨Iw, ow⟩ := I'.wiped (vs := vs) (σ' := wipe σ vs) (by rw [← we4, wipe_length]) fun j hj => by rw [← we4]; exact wipe_at hj
      refine ⟨acc', wipeE ρ' vs, k', av', Iw, fun j s hj e => ?_, s'.trans ⟨fun _ _ h _ _ => h, fun b z => .inl (ow b z), fun _ h => h⟩ I'.pn, e', r'.mono (fun _ _ h _ => h) fun b z => .inl (z.imp id (ow b)), h'⟩
      rcases wipeE_some e with ⟨_, e⟩ | ⟨n, _⟩
      · exact e
      · exact absurd hj n
    cases b with
    | false =>
      rw [if_neg Bool.false_ne_true] at h5 ⊢
      exact fin I5 s15 eL5 ra5 h5
    | true =>
      rw [if_pos rfl] at h5 ⊢
      refine re _ p ρ5 k5 σ4 H5 _ _ I5 h5 fun v H6 r ρ6 k6 I6 s6 q6 h6 => ?_
      obtain ⟨y, ρ7, e7, hz, h7⟩ := h6
      obtain ⟨I7, s7, r7⟩ := frz_ok I6 q6 e7
      have eL6 : H6 L = some (.lst av) := Lk I5 s6 eL5
      have ra7 := RepL.step I6 s7 (RepL.step I5 s6 ra5)
      refine ⟨av, eL6, by rw [ra5.length]; exact hz, ?_⟩
      have I8 := I7.write (L := L) (o := .lst (av ++ [v])) (.inr rfl) nP (I1.fresh hL) (fun q e => by rw [eL6] at e; unfold LamX.CodeO at e; cases e)
      have s8 : Step p.nox (wipeE ρ1 vs) (wipe σ vs) H1 ρ7 σ4 (upd H6 L (.lst (av ++ [v]))) := ((s15.trans s6 I5.pn).trans s7 I6.pn).updNew hL
      refine fin I8 s8 upd_same ((ra7.append (.cons r7 .nil)).mono (fun a o e n => ?_) fun a z => .inl z) h7
      rw [upd_ne fun z => n (by rw [z]; exact .inl (.inr rfl))]
      exact e
  · have e : i = ds.length := by omega
    subst e
    rw [List.drop_length] at hw
    refine .inl ⟨ok3 _ (Nat.le_refl _), ?_⟩
    have back : Rel (fun b => O b ∨ b = L) p.nox ρi ki σ H2 ∧ ∀ b, Own ρi σ b → Own ρi (wipe σ vs) b := by
      have hs : ∀ (j : Nat) (s : Slot), ρi[j]? = some s → s ≠ .un → σ[j]? = (wipe σ vs)[j]? := fun j s e n => by
        have hj : j ∉ vs := fun z => n (un j s z e)
        exact (wipe_at hj).symm
      have o1 : ∀ b, Own ρi σ b → Own ρi (wipe σ vs) b := fun b ⟨j, es, h1, h2⟩ => ⟨j, es, h1, by rw [← hs j _ h1 (by simp)]; exact h2⟩
      have sb : ∀ b, Bn (fun b => O b ∨ b = L) ρi σ b → Bn (fun b => O b ∨ b = L) ρi (wipe σ vs) b ∨ H2 b = none := fun b z => .inl (z.imp id (o1 b))
      refine ⟨⟨by rw [Ii.len, hwl], fun j x hj => ?_, fun j es hj => ?_, fun j l b es fs hj hl' h1 h2 => ?_, Ii.ot, Ii.pn, Ii.po, Ii.kx, Ii.bs, fun b z => Ii.bo b (o1 b z), fun j C ns es b hj hb => Ii.sf j C ns es b hj (by rw [← hs j _ hj (by simp)]; exact hb)⟩, o1⟩
      · obtain ⟨u, e1, q⟩ := Ii.val j x hj
        exact ⟨u, by rw [hs j _ hj (by simp)]; exact e1, q.mono (fun _ _ h _ => h) sb⟩
      · obtain ⟨a, us, e1, e2, e3, q⟩ := Ii.own j es hj
        exact ⟨a, us, by rw [hs j _ hj (by simp)]; exact e1, e2, e3, q.mono (fun _ _ h _ => h) sb⟩
      · exact Ii.inj j l b es fs hj hl' (by rw [← hs j _ hj (by simp)]; exact h1) (by rw [← hs l _ hl' (by simp)]; exact h2)
    obtain ⟨Ib, ob⟩ := back
    have sE : Step p.nox ρ σ H ρi σ H2 := (s1n.trans s1w I1.pn).trans (si.trans ⟨fun _ _ h _ _ => h, fun b z => .inl (ob b z), fun _ h => h⟩ Ii.pn) I1w.pn
    exact f L av H2 acc ρi (rsk k1 ki) (Ib.unnox I1') sE.unnox (s1.new hL) eL (ra.mono (fun _ _ h _ => h) fun b z => .inl (z.imp id (ob b))) (by unfold lcW at hw; exact hw)
variable {X : Cx} {pos : Pos}
abbrev Blk (X : Cx) (scope : Scope) (P : Cx → Prop) : Prop := ∀ (s : Shared) (H : Hp) (C : Addr) (cl : List (Str × Addr)) (fp : List Addr), P (X.blk s H scope (compEnvC scope cl C X.env) fp)
theorem blkE {scope : Scope} {e : Expr} {w : WE} (h : Blk X scope fun Y => DE Y e w) : ∃ t : TE, (Blk X scope fun Y => PE Y e t) ∧ ∀ (O : Addr → Prop) (p : Pn) (ρ : En) (k : Kt) (σ : L2.St) (H : Hp) (Q : R → En → Kt → Prop) (J : VK), Rel O p.nox ρ k σ H → w ρ k Q →
    (∀ v H' r ρ' k', Rel O p.nox ρ' k' σ H' → Step p.nox ρ σ H ρ' σ H' → RRep O ρ' σ H' v r → Q r ρ' k' → J v H') → t σ H J := by
  refine ⟨fun σ H J => ∀ s H' C cl fp, Classical.choose (h s H' C cl fp) σ H J, fun s H' C cl fp => ⟨fun pins s' σ H'' Q I hw => ?_⟩, fun O p ρ k σ H Q J I hw g s H' C cl fp => ?_⟩
  · exact (Classical.choose_spec (h s H' C cl fp)).1.run pins s' σ H'' Q I (hw s H' C cl fp)
  · exact (Classical.choose_spec (h s H' C cl fp)).2 O p.nox ρ k σ H Q J I hw g
theorem blkT {scope : Scope} {e : List Expr} {w : WT} (h : Blk X scope fun Y => DTs Y e w) : ∃ t : TT, (Blk X scope fun Y => PTs Y e t) ∧ ∀ (O : Addr → Prop) (p : Pn) (ρ : En) (k : Kt) (σ : L2.St) (H : Hp) (Q : Bool → En → Kt → Prop) (J : Bool → Hp → Prop), Rel O p.nox ρ k σ H → w ρ k Q →
    (∀ b H' ρ' k', Rel O p.nox ρ' k' σ H' → Step p.nox ρ σ H ρ' σ H' → Q b ρ' k' → J b H') → t σ H J := by
  refine ⟨fun σ H J => ∀ s H' C cl fp, Classical.choose (h s H' C cl fp) σ H J, fun s H' C cl fp => ⟨fun pins s' σ H'' Q I hw => ?_⟩, fun O p ρ k σ H Q J I hw g s H' C cl fp => ?_⟩
  · exact (Classical.choose_spec (h s H' C cl fp)).1.run pins s' σ H'' Q I (hw s H' C cl fp)
  · exact (Classical.choose_spec (h s H' C cl fp)).2 O p.nox ρ k σ H Q J I hw g
theorem blkG {scope : Scope} {e : Expr} {is : List Nat} {w : WG} (h : Blk X scope fun Y => DG Y e is w) : ∃ t : TG, (Blk X scope fun Y => PG Y e t) ∧ ∀ (O : Addr → Prop) (p : Pn) (ρ : En) (k : Kt) (σ : L2.St) (H : Hp) (v : V) (d : D) (Q : En → Kt → Prop) (J : L2.St → Hp → Prop), Rel O p.nox ρ k σ H → Rep (Bn O ρ σ) H v d → w d ρ k Q →
    (∀ σ' H' ρ' k', Rel O p.nox ρ' k' σ' H' → Step p.nox ρ σ H ρ' σ' H' → (∀ i, i ∉ is → σ'[i]? = σ[i]?) → σ'.length = σ.length → Q ρ' k' → J σ' H') → t v σ H J := by
  refine ⟨fun v σ H J => ∀ s H' C cl fp, Classical.choose (h s H' C cl fp) v σ H J, fun s H' C cl fp => ⟨fun pins s' σ H'' v u Q I r hw => ?_⟩, fun O p ρ k σ H v d Q J I r hw g s H' C cl fp => ?_⟩
  · exact (Classical.choose_spec (h s H' C cl fp)).1.run pins s' σ H'' v u Q I r (hw s H' C cl fp)
  · exact (Classical.choose_spec (h s H' C cl fp)).2 O p.nox ρ k σ H v d Q J I r hw g
variable {elt tg iter : Expr} {ifs : List Expr} {scope : Scope} {own : List (Str × Nat)} {is : List Nat} {wit : WL} {wg : WG} {wt : WT} {we : WE}
theorem df_lc (hc : X.calm = true) (hN : X.N.Nodup) (hi : DI X tg iter wit) (ok : BlkOk X.N X.env.scope scope own) (hg : Blk X scope fun Y => DG Y tg is wg) (ht : Blk X scope fun Y => DTs Y ifs wt) (he : Blk X scope fun Y => DE Y elt we)
    (hiv : ∀ i ∈ is, i ∈ own.map (·.2)) (hs : ∀ x, foldedSetIterable iter X.env x = pure x := by intro _; rfl) : DF X (.ListComp elt [⟨tg, iter, ifs, 0⟩] scope pos) (wLc (own.map (·.2)) wit wg wt we) := by
  obtain ⟨wi, pi, ri⟩ := hi
  obtain ⟨g, pg, rg⟩ := blkG hg
  obtain ⟨tt, pt, rt⟩ := blkT ht
  obtain ⟨te, pe, re⟩ := blkE he
  exact ⟨_, pe_lc hc hN pi ok pg pt pe hs, fun O p _ ρ k σ H Q J I h f => lcProp hiv ri rg rt re O p ρ k σ H Q J I h f⟩
end

/-! ### statements -/
section
variable {X : Cx} {pos ps' : Pos}
theorem EndsOk.step {O : Addr → Prop} {p : Pn} {ρ ρ1 : En} {k1 : Kt} {σ σ1 : L2.St} {H H1 : Hp} {E : DEnds} {F : L2.Ends} (e : EndsOk O p ρ σ H E F) (s : Step p ρ σ H ρ1 σ1 H1) (hp : penI p k1 H1) : EndsOk O p ρ1 σ1 H1 E F where
  nx := fun ρ' k' σ' H' I s' h => e.nx ρ' k' σ' H' I (s.trans s' hp) h
  rt := fun v H' d k' kp pn r h => e.rt v H' d k' (fun a o h n1 n2 => kp a o (s.kp a o h n1 n2) n1 fun z => (s.nw a z).elim n2 fun q => by rw [q] at h; cases h) pn r h
  bk := fun ρ' k' σ' H' I s' h => e.bk ρ' k' σ' H' I (s.trans s' hp) h
  ct := fun ρ' k' σ' H' I s' h => e.ct ρ' k' σ' H' I (s.trans s' hp) h
def wNext : WS := fun E ρ k => E.nx ρ k
def wSeq (a b : WS) : WS := fun E ρ k => a { E with nx := fun ρ' k' => b E ρ' k' } ρ k
theorem dss_nil : DSs X [] wNext := ⟨_, pss_nil, fun O p _ ρ k σ H E F I h e => e.nx ρ k σ H I .refl h⟩
theorem dss_cons {st : Stmt} {rest : List Stmt} {a b : WS} (ha : DS X st a) (hb : DSs X rest b) : DSs X (st :: rest) (wSeq a b) := by
  obtain ⟨ta, pa, ra⟩ := ha
  obtain ⟨tb, pb, rb⟩ := hb
  refine ⟨_, pss_cons pa pb, fun O p _ ρ k σ H E F I h e => ?_⟩
  refine ra O p ρ k σ H _ _ I h ⟨fun ρ' k' σ' H' I' s' h' => rb O p ρ' k' σ' H' E F I' h' (e.step s' I'.pn), e.rt, e.bk, e.ct⟩
theorem dss_one {st : Stmt} {a : WS} (ha : DS X st a) : DSs X [st] a := let ⟨ta, pa, ra⟩ := ha; ⟨_, pss_one pa, ra⟩
def wBreak : WS := fun E ρ k => E.bk ρ k
def wCont : WS := fun E ρ k => E.ct ρ k
theorem ds_continue : DS X (.Continue pos) wCont := ⟨_, ps_continue, fun O p _ ρ k σ H E F I h e => e.ct ρ k σ H I .refl h⟩
/-- code that is never reached -/
def wNever : WS := fun _ _ _ => False
def wDrop (a : WE) : WS := fun E ρ k => a ρ k fun _ ρ1 k1 => E.nx ρ1 k1
theorem ds_expr {e : Expr} {w : WE} (h : DE X e w) (hs : swapsWith e none pos.line X.env = pure false := by rfl) : DS X (.Expr e pos) (wDrop w) := by
  obtain ⟨t, pe, rr⟩ := h
  refine ⟨_, ps_expr pe hs, fun O p _ ρ k σ H E F I h e => ?_⟩
  exact rr O p ρ k σ H _ _ I h fun v H1 r ρ1 k1 I1 s1 _ h1 => e.nx ρ1 k1 σ H1 I1 s1 h1
def wRet (a : WE) : WS := fun E ρ k => a ρ k fun r ρ1 k1 => ∃ d ρ2, frz ρ1 r = some (d, ρ2) ∧ E.rt d k1
theorem ds_ret {e : Expr} {w : WE} (h : DE X e w) : DS X (.Return (some e) pos) (wRet w) := by
  obtain ⟨t, pe, rr⟩ := h
  refine ⟨_, ps_ret pe, fun O p _ ρ k σ H E F I h e => ?_⟩
  refine rr O p ρ k σ H _ _ I h fun v H1 r ρ1 k1 I1 s1 q1 h1 => ?_
  obtain ⟨d, ρ2, e1, h1⟩ := h1
  obtain ⟨I2, s2, r2⟩ := frz_ok I1 q1 e1
  exact e.rt v H1 d k1 (s1.trans s2 I1.pn).kp I1.pn I1.kx (r2.mono (fun _ _ h _ => h) fun b z => .inl (.inl z)) h1
def wRetN : WS := fun E _ k => E.rt .non k
def wIf (c : WT) (a b : WS) : WS := fun E ρ k => c ρ k fun t ρ1 k1 => if t = true then a E ρ1 k1 else b E ρ1 k1
theorem ds_if {c : Expr} {a b : List Stmt} {wc : WT} {wa wb : WS} (hc : DT X c wc) (ha : DSs X a wa) (hb : DSs X b wb) : DS X (.If c a b pos) (wIf wc wa wb) := by
  obtain ⟨tc, pc, rc⟩ := hc
  obtain ⟨ta, pa, ra⟩ := ha
  obtain ⟨tb, pb, rb⟩ := hb
  refine ⟨_, ps_if pc pa pb, fun O p _ ρ k σ H E F I h e => ?_⟩
  refine rc O p ρ k σ H _ _ I h fun b H1 ρ1 k1 I1 s1 h1 => ?_
  cases b with
  | true => exact ra O p ρ1 k1 σ H1 E F I1 h1 (e.step s1 I1.pn)
  | false => exact rb O p ρ1 k1 σ H1 E F I1 h1 (e.step s1 I1.pn)
/-- x = e -/
def wSet (i : Nat) (a : WE) : WS := fun E ρ k => a ρ k fun r ρ1 k1 => ∃ d ρ2, frz ρ1 r = some (d, ρ2) ∧ E.nx (ρ2.set i (.val d)) k1
theorem ds_set (i : Nat) {x : Str} {e : Expr} {w : WE} (hN : X.N.Nodup) (hi : X.N[i]? = some x) (hx : Loc X.env.scope x) (h : DE X e w) (hs : swapsWith e (some (.Name x ps')) pos.line X.env = pure false := by rfl)
    (hf : X.fn x = true ∨ X.env.scope.names.lookup x = some .local := by first | exact .inl rfl | exact .inr rfl | assumption) : DS X (.Assign [.Name x ps'] e pos) (wSet i w) := by
  obtain ⟨t, pe, rr⟩ := h
  refine ⟨_, ps_set hN hi hx pe hs hf, fun O p _ ρ k σ H E F I h e => ?_⟩
  refine rr O p ρ k σ H _ _ I h fun v H1 r ρ1 k1 I1 s1 q1 h1 => ?_
  obtain ⟨d, ρ2, e1, h1⟩ := h1
  obtain ⟨I2, s2, r2⟩ := frz_ok I1 q1 e1
  exact e.nx _ k1 _ H1 (I2.set i r2) ((s1.trans s2 I1.pn).trans (Step.set I2.len i) I2.pn) h1
/-- target = e -/
def wAsg (g : WG) (a : WE) : WS := fun E ρ k => a ρ k fun r ρ1 k1 => ∃ d ρ2, frz ρ1 r = some (d, ρ2) ∧ g d ρ2 k1 E.nx
theorem ds_asg {tg e : Expr} {is : List Nat} {g : WG} {w : WE} (h : DE X e w) (hg : DG X tg is g) (hs : swapsWithSole [tg] e pos.line X.env = pure false := by rfl) (hw : swappedStores [tg] e X.env = pure none := by rfl)
    (h1 : (assignEach [tg] X.env).map (·.2) = [assign tg X.env] := by rfl) : DS X (.Assign [tg] e pos) (wAsg g w) := by
  obtain ⟨t, pe, rr⟩ := h
  obtain ⟨tg', pg, rg⟩ := hg
  refine ⟨_, ps_asg pe pg hs hw h1, fun O p _ ρ k σ H E F I h e => ?_⟩
  refine rr O p ρ k σ H _ _ I h fun v H1 r ρ1 k1 I1 s1 q1 h1 => ?_
  obtain ⟨d, ρ2, e1, h1⟩ := h1
  obtain ⟨I2, s2, r2⟩ := frz_ok I1 q1 e1
  refine rg O p ρ2 k1 σ H1 v d _ _ I2 r2 h1 fun σ3 H3 ρ3 k3 I3 s3 _ _ h3 => ?_
  exact e.nx ρ3 k3 σ3 H3 I3 ((s1.trans s2 I1.pn).trans s3 I2.pn) h3
/-- x = a new list, owned -/
def wSetF (i : Nat) (a : WL) : WS := fun E ρ k => a ρ k fun zs ρ1 k1 => E.nx (ρ1.set i (.own (.l zs))) k1
theorem setFCore {st : Stmt} {i : Nat} {t : TE} {w : WL} (ps : PS X st (tAsg t (gName i)))
    (rr : ∀ (O : Addr → Prop) (p : Pn) [XL X p] (ρ : En) (k : Kt) (σ : L2.St) (H : Hp) (Q : List D → En → Kt → Prop) (J : VK), Rel O p ρ k σ H → w ρ k Q →
      (∀ a vs H' zs ρ' k', Rel (fun b => O b ∨ b = a) p ρ' k' σ H' → Step p ρ σ H ρ' σ H' → H a = none → H' a = some (.lst vs) → RepL (Bn (fun b => O b ∨ b = a) ρ' σ) H' vs zs → Q zs ρ' k' → J (.ref a) H') → t σ H J) : DS X st (wSetF i w) := by
  refine ⟨_, ps, fun O p _ ρ k σ H E F I h e => ?_⟩
  refine rr O p ρ k σ H _ _ I h fun a vs H1 zs ρ1 k1 I1 s1 n0 e1 r1 h1 => ?_
  obtain ⟨I2, ow⟩ := I1.setOwn i (fun z => (I.ot a z).1 n0) I.po e1 (I.fresh n0) (fun _ _ _ z => by cases z) (.l r1)
  refine e.nx _ k1 _ H1 I2 ⟨s1.kp, fun b z => ?_, s1.tr⟩ h1
  rcases ow b z with z | z
  · exact s1.nw b z
  · subst z
    exact .inr n0
end
end DL

set_option Elab.async false
set_option linter.all false
set_option maxRecDepth 100000
set_option maxHeartbeats 4000000
/-! ELd: stores of new lists, methods of owned lists, loops, slices, bodies of defs -/
namespace DL
open PySem PySem.Spec PyProof.Rows L2
section
variable {X : Cx} {pos ps' : Pos}
theorem ds_setF (i : Nat) {x : Str} {e : Expr} {w : WL} (hN : X.N.Nodup) (hi : X.N[i]? = some x) (hx : Loc X.env.scope x) (h : DF X e w) (hs : swapsWith e (some (.Name x ps')) pos.line X.env = pure false := by rfl)
    (hf : X.fn x = true ∨ X.env.scope.names.lookup x = some .local := by first | exact .inl rfl | exact .inr rfl | assumption) : DS X (.Assign [.Name x ps'] e pos) (wSetF i w) := by
  obtain ⟨t, pe, rr⟩ := h
  exact setFCore (ps_set hN hi hx pe hs hf) rr
theorem ds_setLc (i : Nat) {y : Str} {py pos spos : Pos} {elt tg iter : Expr} {ifs : List Expr} {scope : Scope} {own : List (Str × Nat)} {is : List Nat} {wit : WL} {wg : WG} {wt : WT} {we : WE} (hc : X.calm = true) (hN : X.N.Nodup) (hy : X.N[i]? = some y) (hyl : X.env.scope.names.lookup y = some .local)
    (hsw : swapsWith (.ListComp elt [⟨tg, iter, ifs, 0⟩] scope pos) (some (.Name y py)) spos.line X.env = pure true) (hi : DI X tg iter wit) (ok : BlkOk X.N X.env.scope scope own) (hg : Blk X scope fun Y => DG Y tg is wg) (ht : Blk X scope fun Y => DTs Y ifs wt) (he : Blk X scope fun Y => DE Y elt we)
    (hiv : ∀ i ∈ is, i ∈ own.map (·.2)) (hs : ∀ x, foldedSetIterable iter X.env x = pure x := by intro _; rfl) : DS X (.Assign [.Name y py] (.ListComp elt [⟨tg, iter, ifs, 0⟩] scope pos) spos) (wSetF i (wLc (own.map (·.2)) wit wg wt we)) := by
  obtain ⟨wi, pi, ri⟩ := hi
  obtain ⟨g, pg, rg⟩ := blkG hg
  obtain ⟨tt, pt, rt⟩ := blkT ht
  obtain ⟨te, pe, re⟩ := blkE he
  exact setFCore (ps_setLc hc hN hy hyl hsw pi ok pg pt pe hs) (lcProp hiv ri rg rt re)
/-- x op= e -/
def wAug (i : Nat) (f : F2) (a : WE) : WS := fun E ρ k => ∃ d, ρ[i]? = some (.val d) ∧ a ρ k fun r ρ1 k1 => ∃ e, deref ρ1 r = some e ∧ f d e fun z => E.nx (ρ1.set i (.val z)) k1
/-- x.append(e), x owned -/
def wAppend (i : Nat) (a : WE) : WS := fun E ρ k => (∃ ds, ρ[i]? = some (.own (.l ds))) ∧ a ρ k fun r ρ1 k1 => ∃ y ρ2 ds, frz ρ1 r = some (y, ρ2) ∧ ρ2[i]? = some (.own (.l ds)) ∧ ds.length < sizeLine ∧ E.nx (ρ2.set i (.own (.l (ds ++ [y])))) k1
theorem ds_append (i : Nat) {x : Str} {e : Expr} {w : WE} {apos cpos npos : Pos} (hN : X.N[i]? = some x) (hv : Vis X.env.scope x) (h : DE X e w) (hd : (x == ("__debug__" : Str)) = false := by decide) (hcd : (x == ("__classdict__" : Str)) = false := by decide)
    (hbase : attributeBase (.Name x npos) "append" X.env (eval (.Name x npos) X.env) = eval (.Name x npos) X.env := by rfl)
    (hfew : ((backTo cpos (starEach [e] X.env)).all (fun x => !x.1) && (backToKw cpos (keywordEach [] X.env)).all (fun x => x.1.isSome)
      && decide (([e] : List Expr).length + ([] : List Keyword).length + (if ([] : List Keyword).isEmpty then 0 else 1) < 30)) = true := by rfl)
    (hline : (apos.endLine == cpos.line) = true := by rfl) (hs : starEach [e] X.env = (false, eval e X.env) :: starEach [] X.env := by rfl) (hplain : (backTo cpos (starEach [] X.env)).any (·.1) = false := by rfl)
    (hsw : swapsWith (.Call (.Attribute (.Name x npos) "append" apos) [e] [] cpos) none pos.line X.env = pure false := by rfl) : DS X (.Expr (.Call (.Attribute (.Name x npos) "append" apos) [e] [] cpos) pos) (wAppend i w) := by
  obtain ⟨t, pe, rr⟩ := h
  refine ⟨_, ps_expr (pe_bm PySem.F.plainAttrs_list PySem.F.slot_list_append PySem.F.type_list_append mt_append (pe_var (i := i) hN hv hd hcd) (pa_cons pe pa_nil hs) hbase hfew hline hs hplain) hsw, fun O p _ ρ k σ H E F I h e => ?_⟩
  obtain ⟨⟨ds0, e0⟩, h⟩ := h
  obtain ⟨a, vs0, ea, ha, _⟩ := I.ownL e0
  refine ⟨.ref a, ea, .inl ⟨rfl, vs0, SqL.of ha⟩, ?_⟩
  refine rr O p ρ k σ H _ _ I h fun v H1 r ρ1 k1 I1 s1 q1 h1 => ?_
  obtain ⟨y, ρ2, ds, e1, e2, hz, h1⟩ := h1
  obtain ⟨I2, s2, r2⟩ := frz_ok I1 q1 e1
  obtain ⟨b, vs, eb, hb, _, rb⟩ := I2.ownL e2
  rw [ea] at eb
  cases eb
  refine ⟨a, vs, v, rfl, rfl, hb, by rw [rb.length]; exact hz, ?_⟩
  obtain ⟨I3, s3⟩ := I2.ownWrite (es := .l (ds ++ [y])) (ws := .lst (vs ++ [v])) e2 ea (.l (rb.append (.cons r2 .nil))) (fun _ _ _ z => by cases z)
  exact e.nx _ k1 σ _ I3 ((s1.trans s2 I1.pn).trans s3 I2.pn) h1
/-- x.extend(e), x owned, e a list of its own -/
def wExtend (i : Nat) (a : WE) : WS := fun E ρ k => (∃ ds, ρ[i]? = some (.own (.l ds))) ∧ a ρ k fun r ρ1 k1 => ∃ es ρ2 ds, frz ρ1 r = some (.lst es, ρ2) ∧ ρ2[i]? = some (.own (.l ds)) ∧ ds.length + es.length ≤ sizeLine ∧ E.nx (ρ2.set i (.own (.l (ds ++ es)))) k1
theorem ds_extend (i : Nat) {x : Str} {e : Expr} {w : WE} {apos cpos npos : Pos} (hN : X.N[i]? = some x) (hv : Vis X.env.scope x) (h : DE X e w) (hd : (x == ("__debug__" : Str)) = false := by decide) (hcd : (x == ("__classdict__" : Str)) = false := by decide)
    (hbase : attributeBase (.Name x npos) "extend" X.env (eval (.Name x npos) X.env) = eval (.Name x npos) X.env := by rfl)
    (hfew : ((backTo cpos (starEach [e] X.env)).all (fun x => !x.1) && (backToKw cpos (keywordEach [] X.env)).all (fun x => x.1.isSome)
      && decide (([e] : List Expr).length + ([] : List Keyword).length + (if ([] : List Keyword).isEmpty then 0 else 1) < 30)) = true := by rfl)
    (hline : (apos.endLine == cpos.line) = true := by rfl) (hs : starEach [e] X.env = (false, eval e X.env) :: starEach [] X.env := by rfl) (hplain : (backTo cpos (starEach [] X.env)).any (·.1) = false := by rfl)
    (hsw : swapsWith (.Call (.Attribute (.Name x npos) "extend" apos) [e] [] cpos) none pos.line X.env = pure false := by rfl) : DS X (.Expr (.Call (.Attribute (.Name x npos) "extend" apos) [e] [] cpos) pos) (wExtend i w) := by
  obtain ⟨t, pe, rr⟩ := h
  refine ⟨_, ps_expr (pe_bm PySem.F.plainAttrs_list PySem.F.slot_list_extend PySem.F.type_list_extend mt_extend (pe_var (i := i) hN hv hd hcd) (pa_cons pe pa_nil hs) hbase hfew hline hs hplain) hsw, fun O p _ ρ k σ H E F I h e => ?_⟩
  obtain ⟨⟨ds0, e0⟩, h⟩ := h
  obtain ⟨a, vs0, ea, ha, _⟩ := I.ownL e0
  refine ⟨.ref a, ea, .inl ⟨rfl, vs0, SqL.of ha⟩, ?_⟩
  refine rr O p ρ k σ H _ _ I h fun v H1 r ρ1 k1 I1 s1 q1 h1 => ?_
  obtain ⟨es, ρ2, ds, e1, e2, hz, h1⟩ := h1
  obtain ⟨I2, s2, r2⟩ := frz_ok I1 q1 e1
  obtain ⟨b, vs, eb, hb, _, rb⟩ := I2.ownL e2
  rw [ea] at eb
  cases eb
  cases r2 with
  | lst nb ec rc =>
    rename_i c ws
    refine ⟨a, c, vs, ws, rfl, rfl, hb, ec, by rw [rb.length, rc.length]; exact hz, ?_⟩
    obtain ⟨I3, s3⟩ := I2.ownWrite (es := .l (ds ++ es)) (ws := .lst (vs ++ ws)) e2 ea (.l (rb.append rc)) (fun _ _ _ z => by cases z)
    exact e.nx _ k1 σ _ I3 ((s1.trans s2 I1.pn).trans s3 I2.pn) h1
/-- x.pop(e), x owned -/
def wPopAt (i : Nat) (a : WE) : WE := fun ρ k Q => (∃ ds, ρ[i]? = some (.own (.l ds))) ∧ a ρ k fun r ρ1 k1 => ∃ (j : Int) (n : Nat) (y : D) (ds : List D), deref ρ1 r = some (.int j) ∧ ρ1[i]? = some (.own (.l ds)) ∧ -(2 ^ 63) ≤ j ∧ j < 2 ^ 63 ∧ seqIndex? j ds.length = some n ∧ ds[n]? = some y ∧ Q (.val y) (ρ1.set i (.own (.l (ds.eraseIdx n)))) k1
/-- x[e1] = e, x owned -/
def wSetIt (i : Nat) (b : WE) (a : WE) : WS := fun E ρ k => a ρ k fun r ρ1 k1 => ∃ y ρ2, frz ρ1 r = some (y, ρ2) ∧ (∃ ds, ρ2[i]? = some (.own (.l ds))) ∧ b ρ2 k1 fun r2 ρ3 k3 => ∃ (j : Int) (n : Nat) (ds : List D), deref ρ3 r2 = some (.int j) ∧ ρ3[i]? = some (.own (.l ds)) ∧ ixN ds.length j = some n ∧ E.nx (ρ3.set i (.own (.l (ds.set n y)))) k3
/-! ### loops -/
def forW (g : WG) (b : WS) (E : DEnds) : List D → En → Kt → Prop
  | [], ρ, k => E.nx ρ k
  | d :: ds, ρ, k => g d ρ k fun ρ1 k1 => b { nx := fun ρ2 k2 => forW g b E ds ρ2 k2, rt := E.rt, bk := E.nx, ct := fun ρ2 k2 => forW g b E ds ρ2 k2 } ρ1 k1
def wFor (it : WL) (g : WG) (b : WS) : WS := fun E ρ k => it ρ k fun ds ρ1 k1 => forW g b E ds ρ1 k1
theorem ds_for {tg iter : Expr} {body : List Stmt} {is : List Nat} {wit : WL} {wg : WG} {wb : WS} (hp : PassesOwn (model X.prog X.w) X.A X.env X.xe) (hc : X.calm = true) (hi : DI X tg iter wit) (hg : DG X tg is wg) (hb : DSs X body wb)
    (hs : ∀ x, foldedSetIterable iter X.env x = pure x := by intro _; rfl) : DS X (.For tg iter body [] pos) (wFor wit wg wb) := by
  obtain ⟨wi, pi, ri⟩ := hi
  obtain ⟨g, pg, rg⟩ := hg
  obtain ⟨tb, pb, rb⟩ := hb
  refine ⟨_, ps_for hp hc pi pg pb hs, fun O p _ ρ k σ H E F I h e => ?_⟩
  refine ri O p ρ k σ H _ _ I h fun It' H1 ds ρ1 k1 I1 s1 ok h1 => ?_
  refine ⟨fun i m σi Hi => i ≤ ds.length ∧ m = ds.length - i ∧ ∃ ρi ki, Rel O p ρi ki σi Hi ∧ Step p ρ1 σ H1 ρi σi Hi ∧ forW wg wb E (ds.drop i) ρi ki, ⟨ds.length, Nat.zero_le _, rfl, ρ1, k1, I1, .refl, h1⟩, ?_⟩
  rintro i m σi Hi ⟨hi, rfl, ρi, ki, Ii, si, hw⟩
  have okH : _ := ok (Bn O ρi σi) Hi (fun a o e n => si.kp a o e (fun z => n (.inl (I1.po a (.inl (penB.of z))))) fun z => n (.inr z)) (fun a z => z.elim (fun z => .inl (.inl z)) fun z => (si.nw a z).imp .inr id) Ii.bt
  obtain ⟨ok1, ok2, ok3⟩ := okH
  by_cases hlt : i < ds.length
  · refine .inr ⟨ok1 i hlt, fun σ' H' => ∃ ρi ki, Rel O p ρi ki σ' H' ∧ Step p ρ1 σ H1 ρi σ' H' ∧ forW wg wb E (ds.drop (i + 1)) ρi ki, fun σ' H' hN => ⟨ds.length - (i + 1), by omega, hlt, rfl, hN⟩, fun x H3 hy => ?_⟩
    obtain ⟨x3, rx⟩ := ok2 i x H3 ds[i] (List.getElem?_eq_getElem hlt) hy
    rw [List.drop_eq_getElem_cons hlt] at hw
    unfold forW at hw
    have I3 := Ii.ext x3
    have s3 := si.trans (Step.ext (ρ := ρi) (σ := σi) (p := p) x3) Ii.pn
    refine rg O p ρi ki σi H3 x ds[i] _ _ I3 rx hw fun σ4 H4 ρ4 k4 I4 s4 _ _ h4 => ?_
    have s14 := s3.trans s4 I3.pn
    have e4 := e.step (s1.trans s14 I1.pn) I4.pn
    exact rb O p ρ4 k4 σ4 H4 _ _ I4 h4 ⟨fun ρ' k' σ' H' I' s' h' => ⟨ρ', k', I', s14.trans s' I4.pn, h'⟩, e4.rt, fun ρ' k' σ' H' I' s' h' => e4.nx ρ' k' σ' H' I' s' h', fun ρ' k' σ' H' I' s' h' => ⟨ρ', k', I', s14.trans s' I4.pn, h'⟩⟩
  · have el : i = ds.length := by omega
    subst el
    rw [List.drop_length] at hw
    exact .inl ⟨ok3 _ (Nat.le_refl _), e.nx ρi ki σi Hi Ii (s1.trans si I1.pn) (by unfold forW at hw; exact hw)⟩
def whW (c : WT) (b : WS) (E : DEnds) : Nat → En → Kt → Prop
  | 0, _, _ => False
  | n + 1, ρ, k => c ρ k fun t ρ1 k1 => if t = true then b { nx := fun ρ2 k2 => whW c b E n ρ2 k2, rt := E.rt, bk := E.nx, ct := fun ρ2 k2 => whW c b E n ρ2 k2 } ρ1 k1 else E.nx ρ1 k1
def wWhile (c : WT) (b : WS) : WS := fun E ρ k => ∃ n, whW c b E n ρ k
/-! ### a, b = e1, e2 -/
def wPar (i j : Nat) (a b : WE) : WS := fun E ρ k => a ρ k fun r ρ1 k1 => b ρ1 k1 fun r2 ρ2 k2 => ∃ ds ρ3, frzL ρ2 [r, r2] = some (ds, ρ3) ∧ ∃ x y, ds = [x, y] ∧ E.nx ((ρ3.set i (.val x)).set j (.val y)) k2
/-- a, b = a new list, e2 -/
def wParF (i j : Nat) (a : WL) (b : WE) : WS := fun E ρ k => a ρ k fun zs ρ1 k1 => b ρ1 k1 fun r2 ρ2 k2 => ∃ y ρ3, frz ρ2 r2 = some (y, ρ3) ∧ E.nx ((ρ3.set i (.own (.l zs))).set j (.val y)) k2
/-- a, b = e1, a new list -/
def wParG (i j : Nat) (a : WE) (b : WL) : WS := fun E ρ k => a ρ k fun r ρ1 k1 => b ρ1 k1 fun zs ρ2 k2 => ∃ x ρ3, frz ρ2 r = some (x, ρ3) ∧ E.nx ((ρ3.set i (.val x)).set j (.own (.l zs))) k2
/-- a, b = two new lists -/
def wParH (i j : Nat) (a b : WL) : WS := fun E ρ k => a ρ k fun zs ρ1 k1 => b ρ1 k1 fun ys ρ2 k2 => E.nx ((ρ2.set i (.own (.l zs))).set j (.own (.l ys))) k2
/-! ### slices -/
def wNoPart : WO := fun ρ k Q => Q none ρ k
def wPart (a : WE) : WO := fun ρ k Q => a ρ k fun r ρ1 k1 => ∃ i, deref ρ1 r = some (.int i) ∧ Q (some i) ρ1 k1
theorem do_none : DO X none wNoPart := ⟨_, po_none, fun O p _ ρ k σ H Q J I h g => g none H ρ k I .refl h⟩
theorem do_some {e : Expr} {w : WE} (h : DE X e w) : DO X (some e) (wPart w) := by
  obtain ⟨t, pe, rr⟩ := h
  refine ⟨_, po_some pe, fun O p _ ρ k σ H Q J I h g => ?_⟩
  refine rr O p ρ k σ H _ _ I h fun v H1 r ρ1 k1 I1 s1 q1 h1 => ?_
  obtain ⟨i, e1, h1⟩ := h1
  exact ⟨i, (deref_ok I1 q1 e1).int, g (some i) H1 ρ1 k1 I1 s1 h1⟩
abbrev FS := D → Option Int → Option Int → (D → Prop) → Prop
def RealS (r : V → Option Int → Option Int → Hp → VK → Prop) (f : FS) : Prop := ∀ (B : Addr → Prop) (H : Hp) (x : V) (d : D) (lo hi : Option Int) (P : D → Prop) (J : VK), (∀ b, B b → H b ≠ none) → RepS B H x d → f d lo hi P → (∀ v H' z, AExt H H' → Rep B H' v z → P z → J v H') → r x lo hi H J
def wSl (f : FS) (a : WE) (l u : WO) : WE := fun ρ k Q => a ρ k fun x ρ1 k1 => l ρ1 k1 fun lo ρ2 k2 => u ρ2 k2 fun hi ρ3 k3 => ∃ d, deref ρ3 x = some d ∧ f d lo hi fun z => Q (.val z) ρ3 k3
theorem de_slice {e : Expr} {lo hi : Option Expr} {p2 : Pos} {r : V → Option Int → Option Int → Hp → VK → Prop} {f : FS} {wa : WE} {wl wu : WO} (ho : SlR X r) (hr : RealS r f) (ha : DE X e wa) (hl : DO X lo wl) (hu : DO X hi wu) : DE X (.Subscript e (.Slice lo hi none p2) pos) (wSl f wa wl wu) := by
  obtain ⟨ta, pa, ra⟩ := ha
  obtain ⟨tl, pl, rl⟩ := hl
  obtain ⟨tu, pu, ru⟩ := hu
  refine ⟨_, pe_slice ho pa pl pu, fun O p _ ρ k σ H Q J I h g => ?_⟩
  refine ra O p ρ k σ H _ _ I h fun v H1 x ρ1 k1 I1 s1 q1 h1 => ?_
  refine rl O p ρ1 k1 σ H1 _ _ I1 h1 fun lo H2 ρ2 k2 I2 s2 h2 => ?_
  refine ru O p ρ2 k2 σ H2 _ _ I2 h2 fun hi H3 ρ3 k3 I3 s3 h3 => ?_
  obtain ⟨d, e1, h3⟩ := h3
  have s13 := s2.trans s3 I2.pn
  refine hr (Bn O ρ3 σ) H3 v d lo hi _ _ I3.bt (deref_ok I3 (RRep.step I1 s13 q1) e1) h3 fun w H4 z x4 r4 h4 => ?_
  exact g w H4 (.val z) ρ3 k3 (I3.ext x4) ((s1.trans s13 I1.pn).trans (.ext x4) I3.pn) r4 h4
end

/-! ### bodies of defs -/
section
variable {P : Program} {w : World} {K : PySem.W.Frag} {mg : Str → Option Value} {base : Heap}
def startE (n : Nat) (ds : List D) : En := ds.map .val ++ List.replicate (n - ds.length) .un
theorem startE_val {n : Nat} {ds : List D} {i : Nat} {d : D} (h : (startE n ds)[i]? = some (.val d)) : ds[i]? = some d := by
  unfold startE at h
  by_cases hi : i < (ds.map Slot.val).length
  · rw [List.getElem?_append_left hi, List.getElem?_map] at h
    cases q : ds[i]? with
    | none => rw [q] at h; cases h
    | some x => rw [q] at h; cases h; rfl
  · rw [List.getElem?_append_right (by omega)] at h
    obtain ⟨h1, h2⟩ := List.getElem?_eq_some_iff.mp h
    rw [List.getElem_replicate] at h2
    cases h2
theorem startE_own {n : Nat} {ds : List D} {i : Nat} {d : OD} (h : (startE n ds)[i]? = some (.own d)) : False := by
  unfold startE at h
  by_cases hi : i < (ds.map Slot.val).length
  · rw [List.getElem?_append_left hi, List.getElem?_map] at h
    cases q : ds[i]? with
    | none => rw [q] at h; cases h
    | some x => rw [q] at h; cases h
  · rw [List.getElem?_append_right (by omega)] at h
    obtain ⟨h1, h2⟩ := List.getElem?_eq_some_iff.mp h
    rw [List.getElem_replicate] at h2
    cases h2
theorem rel_start {O : Addr → Prop} {p : Pn} {k : Kt} {H : Hp} {N : List Str} {vs : List V} {ds : List D} (r : RepL O H vs ds) (ot : ∀ a, O a → H a ≠ none ∧ ∀ us, H a ≠ some (.tup us)) (pn : penI p k H) (po : ∀ a, penC p a → O a) (kx : k.2.xc = p.xc) (bs : Kept p H) : Rel O p (startE N.length ds) k (L2.start N vs) H := by
  have no : ∀ a, Own (startE N.length ds) (L2.start N vs) a → False := fun a ⟨i, es, h, _⟩ => startE_own h
  refine ⟨?_, fun i d h => ?_, fun i es h => (startE_own h).elim, fun i j a es fs h _ _ _ => (startE_own h).elim, ot, pn, po, kx, bs, fun a z => (no a z).elim, fun i C ns ds a h _ => (startE_own h).elim⟩
  · unfold startE L2.start
    rw [List.length_append, List.length_append, List.length_map, List.length_map, List.length_replicate, List.length_replicate, r.length]
  · obtain ⟨v, e, q⟩ := r.get (startE_val h)
    refine ⟨v, ?_, q.mono (fun _ _ h _ => h) fun a z => .inl (z.elim id fun z => (no a z).elim)⟩
    unfold L2.start
    have hi : i < vs.length := (List.getElem?_eq_some_iff.mp e).1
    rw [List.getElem?_append_left (by rw [List.length_map]; exact hi), List.getElem?_map, e]
    rfl
/-- what a def's body stands in -/
def Pn.at (p : Pn) (H : Hp) : Pn := { p with base := H }
theorem kept_at {p : Pn} {H : Hp} : Kept (p.at H) H := fun _ _ h _ => h
end
end DL

set_option Elab.async false
set_option linter.all false
set_option maxRecDepth 100000
set_option maxHeartbeats 4000000
/-! ELlt: a list comprehension with two fors -/
namespace DL
open PySem PySem.Spec PyProof.Rows L2
def lc2W (vs vs1 : List Nat) (tg : WG) (ts : WT) (it1 : WL) (tg1 : WG) (ts1 : WT) (el : WE) : List D → List D → En → Kt → (List D → En → Kt → Prop) → Prop
  | [], acc, ρ, k, Q => Q acc ρ k
  | d :: ds, acc, ρ, k, Q => tg d ρ k fun ρ1 k1 => ts ρ1 k1 fun b ρ2 k2 => if b = true then it1 ρ2 k2 fun es ρ3 k3 => lcW vs1 tg1 ts1 el es acc (wipeE ρ3 vs1) k3 fun acc' ρ4 k4 => lc2W vs vs1 tg ts it1 tg1 ts1 el ds acc' (wipeE ρ4 vs) k4 Q
      else lc2W vs vs1 tg ts it1 tg1 ts1 el ds acc (wipeE ρ2 vs) k2 Q
def wLc2 (vs vs1 : List Nat) (it : WL) (tg : WG) (ts : WT) (it1 : WL) (tg1 : WG) (ts1 : WT) (el : WE) : WL := fun ρ k Q => it ρ k fun ds ρ1 k1 => lc2W vs vs1 tg ts it1 tg1 ts1 el ds [] (wipeE ρ1 vs) (nxk k1) fun zs ρ2 k2 => Q zs ρ2 (rsk k1 k2)
/-- how the slots stand while a comprehension's loop runs: its new list at L -/
structure LcSt (O : Addr → Prop) (L : Addr) (p : Pn) (vs : List Nat) (ρB : En) (σB : L2.St) (HB : Hp) (σ : L2.St) (ρ : En) (k : Kt) (H : Hp) (av : List V) (acc : List D) : Prop where
  rel : Rel (fun b => O b ∨ b = L) p.nox ρ k (wipe σ vs) H
  un : ∀ (j : Nat) (s : Slot), j ∈ vs → ρ[j]? = some s → s = .un
  st : Step p.nox ρB σB HB ρ (wipe σ vs) H
  eL : H L = some (.lst av)
  ra : RepL (Bn (fun b => O b ∨ b = L) ρ (wipe σ vs)) H av acc
section
variable {X : Cx} {pos : Pos}
variable {elt tg iter tg1 iter1 : Expr} {ifs ifs1 : List Expr} {scope : Scope} {own : List (Str × Nat)} {is is1 vs1 : List Nat} {wit wit1 : WL} {wg wg1 : WG} {wt wt1 : WT} {we : WE}
end
end DL

set_option Elab.async false
set_option linter.all false
set_option maxRecDepth 100000
set_option maxHeartbeats 4000000
/-! ELe: operators, subscripts, built-ins by trees -/
namespace DL
open PySem PySem.Spec PyProof.Rows L2
/-! ### trees as the library's data -/
mutual
def py : D → PyData
  | .non => .none
  | .bl b => .bool b
  | .int i => .int i
  | .str x => .str x
  | .lst xs => .list (pyL xs)
  | .tup xs => .tuple (pyL xs)
  | .ty _ => .none
  | .obj _ => .none
  | .dK _ _ => .none
  | .dT _ _ => .none
  | .ins _ _ _ => .none
def pyL : List D → List PyData
  | [] => []
  | x :: xs => py x :: pyL xs
end
mutual
/-- a tree of None, bools, ints, texts, lists, tuples -/
def isPy : D → Bool
  | .ty _ => false
  | .obj _ => false
  | .dK _ _ => false
  | .dT _ _ => false
  | .ins _ _ _ => false
  | .lst xs => isPyL xs
  | .tup xs => isPyL xs
  | _ => true
def isPyL : List D → Bool
  | [] => true
  | x :: xs => isPy x && isPyL xs
end
mutual
theorem Rep.dp {K : PySem.W.Frag} {B : Addr → Prop} {H : Hp} : ∀ {v : V} {d : D}, Rep B H v d → isPy d = true → Dp K H v (py d)
  | _, _, .non, _ => .non
  | _, _, .bl b, _ => .bl b
  | _, _, .int i, _ => .int i
  | _, _, .str x, _ => .str x
  | _, _, .ty _, h => by simp [isPy] at h
  | _, _, .obj _, h => by simp [isPy] at h
  | _, _, .dK _ _ _ _ _, h => by simp [isPy] at h
  | _, _, .dT _ _ _ _ _, h => by simp [isPy] at h
  | _, _, .ins _ _ _ _ _, h => by simp [isPy] at h
  | _, _, .lst _ e r, h => by
    rw [py]
    exact .lst (SqL.of e) (RepL.dp r (by rw [isPy] at h; exact h))
  | _, _, .tup _ e r, h => by
    rw [py]
    exact .tup (SqT.of e) (RepL.dp r (by rw [isPy] at h; exact h))
theorem RepL.dp {K : PySem.W.Frag} {B : Addr → Prop} {H : Hp} : ∀ {v : List V} {d : List D}, RepL B H v d → isPyL d = true → DpAll K H v (pyL d)
  | _, _, .nil, _ => by rw [pyL]; exact .nil
  | _, _, .cons r t, h => by
    rw [isPyL, Bool.and_eq_true] at h
    rw [pyL]
    exact .cons (Rep.dp r h.1) (RepL.dp t h.2)
end
theorem RepS.dp {K : PySem.W.Frag} {B : Addr → Prop} {H : Hp} {v : V} {d : D} (h : RepS B H v d) (e : isPy d = true) : Dp K H v (py d) := by
  cases h with
  | any h => exact Rep.dp h e
  | own e1 r eo =>
    cases r with
    | l r =>
      cases eo
      show Dp K H _ (py (.lst _))
      rw [py]
      exact .lst (SqL.of e1) (RepL.dp r (by have e : isPy (.lst _) = true := e; rw [isPy] at e; exact e))
    | k _ _ => cases eo; exact absurd e (by simp [OD.toD, isPy])
    | t _ _ => cases eo; exact absurd e (by simp [OD.toD, isPy])
    | i _ _ => cases eo; exact absurd e (by simp [OD.toD, isPy])
def okD (d : D) : Bool := isPy d && SeqAt.shaped (py d)
def eqD (d e : D) : Bool := PyData.eqv (py d) (py e)
/-- flat things -/
def flatD : D → Bool
  | .non => true
  | .bl _ => true
  | .int _ => true
  | .str _ => true
  | _ => false
theorem flat_rep {B : Addr → Prop} {H : Hp} {v : V} {d : D} (r : Rep B H v d) (h : flatD d = true) : flatV v = true := by
  cases r <;> first | rfl | (simp [flatD] at h)
theorem flat_repS {B : Addr → Prop} {H : Hp} {v : V} {d : D} (r : RepS B H v d) (h : flatD d = true) : Rep B H v d := by
  cases r with
  | any r => exact r
  | own _ r eo => cases r <;> cases eo <;> exact absurd h (by simp [OD.toD, flatD])
theorem flat_repL {B : Addr → Prop} {H : Hp} : ∀ {vs : List V} {ds : List D}, RepL B H vs ds → ds.all flatD = true → vs.all flatV = true
  | _, _, .nil, _ => rfl
  | _, _, .cons r t, h => by
    rw [List.all_cons, Bool.and_eq_true] at h ⊢
    exact ⟨flat_rep r h.1, flat_repL t h.2⟩
theorem flat_eq {B : Addr → Prop} {H : Hp} {x y : V} {d e : D} (r : Rep B H x d) (q : Rep B H y e) (h : flatD d = true) (h' : flatD e = true) : eqV x y = eqD d e := by
  cases r <;> first
    | (simp [flatD] at h; done)
    | (cases q <;> first
        | (simp [flatD] at h'; done)
        | (simp [eqV, eqD, py, PyData.eqv]; done)
        | rfl)
theorem flat_any {B : Addr → Prop} {H : Hp} {x : V} {d : D} (rx : Rep B H x d) (hx : flatD d = true) : ∀ {vs : List V} {ds : List D}, RepL B H vs ds → ds.all flatD = true → inV x vs = ds.any fun y => eqD y d
  | _, _, .nil, _ => rfl
  | _, _, .cons r t, h => by
    rw [List.all_cons, Bool.and_eq_true] at h
    have ih := flat_any rx hx t h.2
    unfold inV at ih ⊢
    rw [List.any_cons, List.any_cons, ih, flat_eq r rx h.1 hx]

section
variable {X : Cx}
/-! ### + -/
abbrev rAddAll (X : Cx) : R2 := fun x y H Q => rI0 (fun i j => .int (i + j)) x y H Q ∨ (∃ i j, x = .str i ∧ y = .str j ∧ i.length + j.length ≤ sizeLine ∧ Q (.str (i ++ j)) H) ∨ rCat x y H Q ∨ rCatA X.K x y H Q
theorem op_addAll : OpR X (binaryOp .Add) (rAddAll X) := OpR.or op_add (OpR.or op_add_str (OpR.or op_cat op_catA))
def fAdd : F2 := fun d e P => match d, e with
  | .int i, .int j => P (.int (i + j))
  | .str a, .str b => a.length + b.length ≤ sizeLine ∧ P (.str (a ++ b))
  | .lst a, .lst b => a.length + b.length ≤ sizeLine ∧ P (.lst (a ++ b))
  | .tup a, .tup b => a.length + b.length ≤ sizeLine ∧ P (.tup (a ++ b))
  | _, _ => False
theorem real_add : Real2 (rAddAll X) fAdd := by
  intro B H x y d e P J hb rx ry h g
  unfold fAdd at h
  split at h
  · exact .inl ⟨_, _, rx.int, ry.int, g _ H _ (AExt.refl H) (.int _) h⟩
  · exact .inr (.inl ⟨_, _, rx.str, ry.str, h.1, g _ H _ (AExt.refl H) (.str _) h.2⟩)
  · obtain ⟨a, vs, rfl, ea, la⟩ := rx.lst
    obtain ⟨b, ws, rfl, eb, lb⟩ := ry.lst
    refine .inr (.inr (.inl ⟨a, b, vs, ws, rfl, rfl, ea, eb, by rw [la.length, lb.length]; exact h.1, fun q hq => ?_⟩))
    exact g _ _ _ (AExt.upd hq) (.lst (fresh_not hb hq) upd_same ((la.append lb).ext (AExt.upd hq))) h.2
  · obtain ⟨a, vs, rfl, na, ea, la⟩ := rx.tup
    obtain ⟨b, ws, rfl, nb, eb, lb⟩ := ry.tup
    refine .inr (.inr (.inr ⟨a, b, vs, ws, rfl, rfl, SqT.of ea, SqT.of eb, by rw [la.length, lb.length]; exact h.1, fun e1 => ?_, fun e1 e2 => ?_, fun e1 e2 q hq => ?_⟩))
    · subst e1
      cases la
      exact g _ H _ (AExt.refl H) (.tup nb eb lb) (by simpa using h.2)
    · subst e2
      cases lb
      exact g _ H _ (AExt.refl H) (.tup na ea la) (by simpa using h.2)
    · exact g _ _ _ (AExt.upd hq) (.tup (fresh_not hb hq) upd_same ((la.append lb).ext (AExt.upd hq))) h.2
  · exact h.elim
def fCat : D → D → (List D → Prop) → Prop := fun d e P => match d, e with
  | .lst a, .lst b => a.length + b.length ≤ sizeLine ∧ P (a ++ b)
  | _, _ => False
/-! ### - * // % ** -/
def fSub : F2 := fun d e P => match d, e with
  | .int i, .int j => P (.int (i - j))
  | _, _ => False
theorem real_sub : Real2 (rI0 fun i j => .int (i - j)) fSub := by
  intro B H x y d e P J hb rx ry h g
  unfold fSub at h
  split at h
  · exact ⟨_, _, rx.int, ry.int, g _ H _ (AExt.refl H) (.int _) h⟩
  · exact h.elim
abbrev rMulAll (X : Cx) : R2 := fun x y H Q => rI CMul (fun i j => .int (i * j)) x y H Q ∨ rRep x y H Q ∨ rRepT X.K x y H Q
theorem op_mulAll : OpR X (binaryOp .Mult) (rMulAll X) := OpR.or op_mul (OpR.or op_rep op_repT)
def fMul : F2 := fun d e P => match d, e with
  | .int i, .int j => CMul i j ∧ P (.int (i * j))
  | .lst a, .int k => (-(2 ^ 63) ≤ k ∧ k < 2 ^ 63 ∧ a.length * k.toNat ≤ sizeLine) ∧ P (.lst (List.replicate k.toNat a).flatten)
  | .tup a, .int k => (a ≠ [] ∧ 2 ≤ k ∧ k ≤ 1000 ∧ a.length ≤ 1000) ∧ P (.tup (List.replicate k.toNat a).flatten)
  | _, _ => False
theorem rep_flat {B : Addr → Prop} {H : Hp} {vs : List V} {ds : List D} (r : RepL B H vs ds) : ∀ n : Nat, RepL B H (List.replicate n vs).flatten (List.replicate n ds).flatten
  | 0 => by simpa using RepL.nil
  | n + 1 => by
    rw [List.replicate_succ, List.replicate_succ, List.flatten_cons, List.flatten_cons]
    exact r.append (rep_flat r n)
theorem real_mul : Real2 (rMulAll X) fMul := by
  intro B H x y d e P J hb rx ry h g
  unfold fMul at h
  split at h
  · exact .inl ⟨_, _, rx.int, ry.int, h.1, g _ H _ (AExt.refl H) (.int _) h.2⟩
  · obtain ⟨a, vs, rfl, ea, la⟩ := rx.lst
    refine .inr (.inl ⟨a, _, vs, rfl, ry.int, ea, h.1.1, h.1.2.1, by rw [la.length]; exact h.1.2.2, fun q hq => ?_⟩)
    exact g _ _ _ (AExt.upd hq) (.lst (fresh_not hb hq) upd_same ((rep_flat la _).ext (AExt.upd hq))) h.2
  · obtain ⟨a, vs, rfl, _, ea, la⟩ := rx.tup
    obtain ⟨⟨h1, h2, h3, h4⟩, h5⟩ := h
    refine .inr (.inr ⟨a, _, vs, rfl, ry.int, SqT.of ea, fun e => h1 (by subst e; cases la; rfl), h2, h3, by rw [la.length]; exact h4, fun q hq => ?_⟩)
    exact g _ _ _ (AExt.upd hq) (.tup (fresh_not hb hq) upd_same ((rep_flat la _).ext (AExt.upd hq))) h5
  · exact h.elim
def fRep : D → D → (List D → Prop) → Prop := fun d e P => match d, e with
  | .lst a, .int k => (-(2 ^ 63) ≤ k ∧ k < 2 ^ 63 ∧ a.length * k.toNat ≤ sizeLine) ∧ P (List.replicate k.toNat a).flatten
  | _, _ => False
def fDiv : F2 := fun d e P => match d, e with
  | .int i, .int j => CDivN i j ∧ P (.int (i.fdiv j))
  | _, _ => False
theorem real_div : Real2 (rI CDivN fun i j => .int (i.fdiv j)) fDiv := by
  intro B H x y d e P J hb rx ry h g
  unfold fDiv at h
  split at h
  · exact ⟨_, _, rx.int, ry.int, h.1, g _ H _ (AExt.refl H) (.int _) h.2⟩
  · exact h.elim
def fMod : F2 := fun d e P => match d, e with
  | .int i, .int j => j ≠ 0 ∧ P (.int (i.fmod j))
  | _, _ => False
theorem real_mod : Real2 (rI (fun _ j => j ≠ 0) fun i j => .int (i.fmod j)) fMod := by
  intro B H x y d e P J hb rx ry h g
  unfold fMod at h
  split at h
  · exact ⟨_, _, rx.int, ry.int, h.1, g _ H _ (AExt.refl H) (.int _) h.2⟩
  · exact h.elim
def fPow : F2 := fun d e P => match d, e with
  | .int i, .int j => CPow i j ∧ P (.int (i ^ j.toNat))
  | _, _ => False
def fIpI (f : Int → Int → Int) : F2 := fun d e P => match d, e with
  | .int i, .int j => P (.int (f i j))
  | _, _ => False
def fNeg : F1 := fun d P => match d with
  | .int i => P (.int (-i))
  | _ => False
theorem real_neg : Real1 (rU fun i => .int (-i)) fNeg := by
  intro B H x d P J hb rx h g
  unfold fNeg at h
  split at h
  · exact ⟨_, rx.int, g _ H _ (AExt.refl H) (.int _) h⟩
  · exact h.elim
/-! ### comparisons -/
def fCmp (c : Int → Int → Bool) : F2 := fun d e P => match d, e with
  | .int i, .int j => P (.bl (c i j))
  | _, _ => False
theorem real_cmp {c : Int → Int → Bool} : Real2 (rI0 fun i j => .bl (c i j)) (fCmp c) := by
  intro B H x y d e P J hb rx ry h g
  unfold fCmp at h
  split at h
  · exact ⟨_, _, rx.int, ry.int, g _ H _ (AExt.refl H) (.bl _) h⟩
  · exact h.elim
def fEq : F2 := fun d e P => okD d = true ∧ okD e = true ∧ P (.bl (eqD d e))
theorem real_eq {K : PySem.W.Frag} : Real2 (rEqD K) fEq := by
  intro B H x y d e P J hb rx ry h g
  obtain ⟨h1, h2, h3⟩ := h
  unfold okD at h1 h2
  rw [Bool.and_eq_true] at h1 h2
  exact ⟨py d, py e, rx.dp h1.1, ry.dp h2.1, h1.2, h2.2, g _ H _ (AExt.refl H) (.bl _) h3⟩
def fNe : F2 := fun d e P => okD d = true ∧ okD e = true ∧ P (.bl (!eqD d e))
theorem real_ne {K : PySem.W.Frag} : Real2 (rNeD K) fNe := by
  intro B H x y d e P J hb rx ry h g
  obtain ⟨h1, h2, h3⟩ := h
  unfold okD at h1 h2
  rw [Bool.and_eq_true] at h1 h2
  exact ⟨py d, py e, rx.dp h1.1, ry.dp h2.1, h1.2, h2.2, g _ H _ (AExt.refl H) (.bl _) h3⟩
abbrev rInAll (X : Cx) : R2 := fun x y H Q => rIn X.K false x y H Q ∨ rInD X.K x y H Q
abbrev rNotInAll (X : Cx) : R2 := fun x y H Q => rIn X.K true x y H Q ∨ rNotInD X.K x y H Q
theorem op_notInAll (hu : X.A.units + 65 < cLine) : OpR X (compareOp .NotIn) (rNotInAll X) := OpR.or op_notIn_seq (op_notInD hu)
def memD (x : D) (ys : List D) : Bool := ys.any fun y => eqD y x
def inOk (x y : D) : Option (List D) := match y with
  | .lst ys => if (flatD x && ys.all flatD) || (okD x && okD (.lst ys)) then some ys else none
  | .tup ys => if flatD x && ys.all flatD then some ys else none
  | _ => none
def fIn : F2 := fun x y P => ∃ ys, inOk x y = some ys ∧ P (.bl (memD x ys))
def fNotIn : F2 := fun x y P => ∃ ys, inOk x y = some ys ∧ P (.bl (!memD x ys))
theorem pyL_any {x : D} : ∀ ys : List D, ((pyL ys).any fun z => PyData.eqv z (py x)) = memD x ys
  | [] => rfl
  | y :: ys => by
    unfold memD
    rw [pyL, List.any_cons, List.any_cons, pyL_any ys]
    rfl
theorem in_core {x y : V} {d e : D} {ys : List D} {B : Addr → Prop} {H : Hp} {K : PySem.W.Frag} (rx : RepS B H x d) (ry : RepS B H y e) (h : inOk d e = some ys) :
    (∃ p xs, y = .ref p ∧ (SqL K H p xs ∨ SqT K H p xs) ∧ flatV x = true ∧ xs.all flatV = true ∧ inV x xs = memD d ys) ∨
    (∃ d' ds', Dp K H x d' ∧ Dp K H y (.list ds') ∧ SeqAt.shaped d' = true ∧ SeqAt.shaped (.list ds') = true ∧ (ds'.any fun z => PyData.eqv z d') = memD d ys) := by
  unfold inOk at h
  split at h
  · split at h
    · cases h
      rename_i hc
      rw [Bool.or_eq_true] at hc
      rcases hc with hc | hc
      · rw [Bool.and_eq_true] at hc
        obtain ⟨a, vs, rfl, ea, la⟩ := ry.lst
        have rd := flat_repS rx hc.1
        exact .inl ⟨a, vs, rfl, .inl (SqL.of ea), flat_rep rd hc.1, flat_repL la hc.2, flat_any rd hc.1 la hc.2⟩
      · rw [Bool.and_eq_true] at hc
        obtain ⟨h1, h2⟩ := hc
        unfold okD at h1 h2
        rw [Bool.and_eq_true] at h1 h2
        have q := ry.dp (K := K) h2.1
        rw [py] at q
        have q2 := h2.2
        rw [py] at q2
        exact .inr ⟨py d, pyL ys, rx.dp h1.1, q, h1.2, q2, pyL_any ys⟩
    · cases h
  · split at h
    · cases h
      rename_i hc
      rw [Bool.and_eq_true] at hc
      obtain ⟨a, vs, rfl, _, ea, la⟩ := ry.tup
      have rd := flat_repS rx hc.1
      exact .inl ⟨a, vs, rfl, .inr (SqT.of ea), flat_rep rd hc.1, flat_repL la hc.2, flat_any rd hc.1 la hc.2⟩
    · cases h
  · cases h
theorem real_notIn : Real2 (rNotInAll X) fNotIn := by
  intro B H x y d e P J hb rx ry h g
  obtain ⟨ys, e1, h⟩ := h
  have q := g (.bl (!memD d ys)) H _ (AExt.refl H) (.bl _) h
  rcases in_core (K := X.K) rx ry e1 with ⟨p, xs, h1, h2, h3, h4, h5⟩ | ⟨d', ds', h1, h2, h3, h4, h5⟩
  · exact .inl ⟨p, xs, h1, h2, h3, h4, by rw [if_pos rfl, h5]; exact q⟩
  · exact .inr ⟨d', ds', h1, h2, h3, h4, by rw [h5]; exact q⟩
def isNonD : D → Bool
  | .non => true
  | _ => false
theorem isNon_rep {B : Addr → Prop} {H : Hp} {x : V} {d : D} (r : RepS B H x d) : decide (x = .non) = isNonD d := by
  cases r with
  | any r => cases r <;> first | rfl | (exact decide_eq_false (by simp))
  | own _ r eo => cases r <;> cases eo <;> exact decide_eq_false (by simp)
def fIsN : F2 := fun d e P => match e with
  | .non => P (.bl (isNonD d))
  | _ => False
def fNotN : F2 := fun d e P => match e with
  | .non => P (.bl (!isNonD d))
  | _ => False
theorem real_isN : Real2 (fun x y H Q => y = .non ∧ Q (.bl (decide (x = .non))) H) fIsN := by
  intro B H x y d e P J hb rx ry h g
  unfold fIsN at h
  split at h
  · exact ⟨ry.non, by rw [isNon_rep rx]; exact g _ H _ (AExt.refl H) (.bl _) h⟩
  · exact h.elim
theorem real_notN : Real2 (fun x y H Q => y = .non ∧ Q (.bl (!decide (x = .non))) H) fNotN := by
  intro B H x y d e P J hb rx ry h g
  unfold fNotN at h
  split at h
  · exact ⟨ry.non, by rw [isNon_rep rx]; exact g _ H _ (AExt.refl H) (.bl _) h⟩
  · exact h.elim
/-! ### subscripts, slices -/
def ixD (x : D) (i : Int) : Option D := match x with
  | .lst xs => atI xs i
  | .tup xs => atI xs i
  | .str z => if z.length ≤ sizeLine then (atI z.cps.toList i).map fun c => .str ⟨#[c]⟩ else none
  | _ => none
def fIx : F2 := fun x y P => match y with
  | .int i => ∃ z, ixD x i = some z ∧ P z
  | _ => False
theorem atI_rep {B : Addr → Prop} {H : Hp} {vs : List V} {ds : List D} {i : Int} {z : D} (r : RepL B H vs ds) (h : atI ds i = some z) : ∃ v, atI vs i = some v ∧ Rep B H v z := by
  unfold atI at h ⊢
  rw [r.length]
  cases q : ixN ds.length i with
  | none => rw [q] at h; cases h
  | some j =>
    rw [q] at h
    exact r.get h
theorem real_ix {K : PySem.W.Frag} : Real2 (rIx K) fIx := by
  intro B H x y d e P J hb rx ry h g
  unfold fIx at h
  split at h
  · obtain ⟨z, e1, h⟩ := h
    unfold ixD at e1
    split at e1
    · obtain ⟨a, vs, rfl, ea, la⟩ := rx.lst
      obtain ⟨v, e2, r2⟩ := atI_rep la e1
      exact .inl ⟨a, vs, _, v, rfl, ry.int, SqL.of ea, e2, g v H _ (AExt.refl H) r2 h⟩
    · obtain ⟨a, vs, rfl, _, ea, la⟩ := rx.tup
      obtain ⟨v, e2, r2⟩ := atI_rep la e1
      exact .inr (.inl ⟨a, vs, _, v, rfl, ry.int, SqT.of ea, e2, g v H _ (AExt.refl H) r2 h⟩)
    · rename_i z'
      split at e1
      · rename_i hz
        cases q : atI z'.cps.toList _ with
        | none => rw [q] at e1; cases e1
        | some c =>
          rw [q] at e1
          cases e1
          exact .inr (.inr ⟨z', _, c, rx.str, ry.int, hz, q, g _ H _ (AExt.refl H) (.str _) h⟩)
      · cases e1
    · cases e1
  · exact h.elim
def cutD (xs : List D) (lo hi : Option Int) : List D := (xs.drop (HT.sIx xs.length 0 lo)).take (HT.sIx xs.length xs.length hi - HT.sIx xs.length 0 lo)
abbrev rSlAll (X : Cx) : V → Option Int → Option Int → Hp → VK → Prop := fun x lo hi H Q => rSlL X.K x lo hi H Q ∨ rSlA X.K x lo hi H Q ∨ rSlS x lo hi H Q
theorem sl_all : SlR X (rSlAll X) := SlR.or sl_list (SlR.or sl_tupA sl_str)
def fSl : FS := fun x lo hi P => match x with
  | .lst xs => P (.lst (cutD xs lo hi))
  | .tup xs => P (.tup (cutD xs lo hi))
  | .str z => z.length ≤ sizeLine ∧ P (.str (cutS z lo hi))
  | _ => False
theorem cut_rep {B : Addr → Prop} {H : Hp} {vs : List V} {ds : List D} {lo hi : Option Int} (r : RepL B H vs ds) : RepL B H (cutV vs lo hi) (cutD ds lo hi) := by
  unfold cutV cutD
  rw [r.length]
  exact (r.drop _).take _
theorem real_sl : RealS (rSlAll X) fSl := by
  intro B H x d lo hi P J hb rx h g
  unfold fSl at h
  split at h
  · obtain ⟨a, vs, rfl, ea, la⟩ := rx.lst
    exact .inl ⟨a, vs, rfl, SqL.of ea, fun q hq => g _ _ _ (AExt.upd hq) (.lst (fresh_not hb hq) upd_same ((cut_rep la).ext (AExt.upd hq))) h⟩
  · obtain ⟨a, vs, rfl, na, ea, la⟩ := rx.tup
    refine .inr (.inl ⟨a, vs, rfl, SqT.of ea, fun hc => ?_, fun _ q hq => g _ _ _ (AExt.upd hq) (.tup (fresh_not hb hq) upd_same ((cut_rep la).ext (AExt.upd hq))) h⟩)
    rename_i xs
    have e : cutD xs lo hi = xs := by
      unfold cutD
      rw [la.length] at hc
      rw [hc.1, hc.2]
      simp
    rw [e] at h
    exact g _ H _ (AExt.refl H) (.tup na ea la) h
  · exact .inr (.inr ⟨_, rx.str, h.1, g _ H _ (AExt.refl H) (.str _) h.2⟩)
  · exact h.elim
/-! ### built-ins -/
theorem one_rep {B : Addr → Prop} {H : Hp} {vs : List V} {d : D} (h : RepSL B H vs [d]) : ∃ v, vs = [v] ∧ RepS B H v d := by
  cases h with
  | cons h1 h2 => cases h2; exact ⟨_, rfl, h1⟩
theorem two_rep {B : Addr → Prop} {H : Hp} {vs : List V} {d e : D} (h : RepSL B H vs [d, e]) : ∃ v u, vs = [v, u] ∧ RepS B H v d ∧ RepS B H u e := by
  cases h with
  | cons h1 h2 => obtain ⟨u, rfl, h3⟩ := one_rep h2; exact ⟨_, u, rfl, h1, h3⟩
def lenD : D → Option Nat
  | .lst xs => some xs.length
  | .tup xs => some xs.length
  | .str z => if z.length ≤ sizeLine then some z.length else none
  | _ => none
def fLen : FN := fun ds P => match ds with
  | [d] => ∃ n : Nat, lenD d = some n ∧ P (.int n)
  | _ => False
theorem real_len {K : PySem.W.Frag} : RealN (fun xs H Q => ∃ x n, xs = [x] ∧ LenV K x H n ∧ Q (.int n) H) fLen := by
  intro B H xs ds P J hb r h g
  unfold fLen at h
  split at h
  · obtain ⟨n, e1, h⟩ := h
    obtain ⟨v, rfl, r1⟩ := one_rep r
    refine ⟨v, n, rfl, ?_, g _ H _ (AExt.refl H) (.int _) h⟩
    unfold lenD at e1
    split at e1
    · cases e1
      obtain ⟨a, vs, rfl, ea, la⟩ := r1.lst
      exact .inl ⟨vs, SqL.of ea, la.length.symm⟩
    · cases e1
      obtain ⟨a, vs, rfl, _, ea, la⟩ := r1.tup
      exact .inr ⟨vs, SqT.of ea, la.length.symm⟩
    · split at e1
      · cases e1
        cases r1.str
        exact ⟨by assumption, rfl⟩
      · cases e1
    · cases e1
  · exact h.elim
/-- a list or tuple of ints -/
def intsD : List D → Option (List Int)
  | [] => some []
  | .int i :: r => (intsD r).map (i :: ·)
  | _ => none
theorem intsD_eq : ∀ {ds : List D} {ns : List Int}, intsD ds = some ns → ds = ns.map D.int
  | [], _, h => by cases h; rfl
  | d :: r, ns, h => by
    unfold intsD at h
    split at h
    · rename_i e; cases e
    · rename_i i r' e
      cases e
      cases q : intsD r with
      | none => rw [q] at h; cases h
      | some ms =>
        rw [q] at h
        cases h
        rw [intsD_eq q]
        rfl
    · cases h
theorem intsD_map : ∀ ns : List Int, intsD (ns.map D.int) = some ns
  | [] => rfl
  | n :: r => by
    rw [List.map_cons]
    unfold intsD
    rw [intsD_map r]
    rfl
def numsD : D → Option (List Int)
  | .lst xs => intsD xs
  | .tup xs => intsD xs
  | _ => none
def rSumA (K : PySem.W.Frag) : List V → Hp → VK → Prop := fun vs H Q => ∃ (a : Addr) (ns : List Int), vs = [V.ref a] ∧ (SqL K H a (ns.map V.int) ∨ SqT K H a (ns.map V.int)) ∧ Q (.int ns.sum) H
theorem cr_sumA (hc : X.calm = true) : CallR X (.builtin "sum") (rSumA X.K) := by
  intro pins s σ H vs us Q I r h
  obtain ⟨a, ns, rfl, hs, q⟩ := h
  rw [Vals.ref1 r]
  rcases hs with hs | hs
  · obtain ⟨its, rv, hl, _⟩ := I.list hs
    exact sum_raw (I.ok.hd hc) hl.isList rv.ints fun h' tk t' hk => ⟨.int _, H, I.kept hk, ⟨_, rfl⟩, q⟩
  · obtain ⟨its, rv, hl, _⟩ := I.tuple hs
    have hi := rv.ints
    obtain ⟨xs, hx⟩ := hi.allInts.items
    have hn : numsOf its.toArray.toList = ns := by rw [show its.toArray.toList = its from rfl, hi.numsOf]
    rw [hx] at hn
    rw [nums_intItems] at hn
    have hl' : s.heap.IsTuple a (intItems xs) := by rw [← hx]; exact hl
    refine PySem.W.ktm_sumG (I.ok.hd hc) hl' fun h' tk t' hk => ⟨.int ns.sum, H, I.kept hk, ⟨t', ?_⟩, q⟩
    rw [preSum_eq, List.take_of_length_le (by simp), hn]
def fSum : FN := fun ds P => match ds with
  | [d] => ∃ ns, numsD d = some ns ∧ P (.int ns.sum)
  | _ => False
theorem nums_rep {K : PySem.W.Frag} {B : Addr → Prop} {H : Hp} {v : V} {d : D} {ns : List Int} (r : RepS B H v d) (h : numsD d = some ns) : ∃ a, v = .ref a ∧ (SqL K H a (ns.map V.int) ∨ SqT K H a (ns.map V.int)) := by
  unfold numsD at h
  split at h
  · obtain ⟨a, vs, rfl, ea, la⟩ := r.lst
    rw [intsD_eq h] at la
    rw [la.ints] at ea
    exact ⟨a, rfl, .inl (SqL.of ea)⟩
  · obtain ⟨a, vs, rfl, _, ea, la⟩ := r.tup
    rw [intsD_eq h] at la
    rw [la.ints] at ea
    exact ⟨a, rfl, .inr (SqT.of ea)⟩
  · cases h
theorem real_sum {K : PySem.W.Frag} : RealN (rSumA K) fSum := by
  intro B H xs ds P J hb r h g
  unfold fSum at h
  split at h
  · obtain ⟨ns, e1, h⟩ := h
    obtain ⟨v, rfl, r1⟩ := one_rep r
    obtain ⟨a, rfl, hs⟩ := nums_rep (K := K) r1 e1
    exact ⟨a, ns, rfl, hs, g _ H _ (AExt.refl H) (.int _) h⟩
  · exact h.elim
/-! least and greatest of ints -/
def rBest (K : PySem.W.Frag) (le : Int → Int → Prop) : List V → Hp → VK → Prop := fun vs H Q => ∃ (a : Addr) (ns : List Int), vs = [V.ref a] ∧ (SqL K H a (ns.map V.int) ∨ SqT K H a (ns.map V.int)) ∧ 0 < ns.length ∧ ∀ m, m ∈ ns → (∀ y, y ∈ ns → le m y) → Q (.int m) H
def minZ : List Int → Int
  | [] => 0
  | [x] => x
  | x :: y :: r => min x (minZ (y :: r))
def maxZ : List Int → Int
  | [] => 0
  | [x] => x
  | x :: y :: r => max x (maxZ (y :: r))
def fMin : FN := fun ds P => match ds with
  | [d] => ∃ ns, numsD d = some ns ∧ ns ≠ [] ∧ P (.int (minZ ns))
  | _ => False
def fMax : FN := fun ds P => match ds with
  | [d] => ∃ ns, numsD d = some ns ∧ ns ≠ [] ∧ P (.int (maxZ ns))
  | _ => False
/-! any, all -/
def blsD : List D → Option (List Bool)
  | [] => some []
  | .bl i :: r => (blsD r).map (i :: ·)
  | _ => none
theorem blsD_eq : ∀ {ds : List D} {ns : List Bool}, blsD ds = some ns → ds = ns.map D.bl
  | [], _, h => by cases h; rfl
  | d :: r, ns, h => by
    unfold blsD at h
    split at h
    · rename_i e; cases e
    · rename_i i r' e
      cases e
      cases q : blsD r with
      | none => rw [q] at h; cases h
      | some ms =>
        rw [q] at h
        cases h
        rw [blsD_eq q]
        rfl
    · cases h
def fAny : FN := fun ds P => match ds with
  | [.lst xs] => ∃ bs, blsD xs = some bs ∧ P (.bl (bs.any id))
  | _ => False
def fAll : FN := fun ds P => match ds with
  | [.lst xs] => ∃ bs, blsD xs = some bs ∧ P (.bl (bs.all id))
  | _ => False
theorem real_any {K : PySem.W.Frag} : RealN (rAny K) fAny := by
  intro B H xs ds P J hb r h g
  unfold fAny at h
  split at h
  · obtain ⟨bs, e1, h⟩ := h
    obtain ⟨v, rfl, r1⟩ := one_rep r
    obtain ⟨a, vs, rfl, ea, la⟩ := r1.lst
    rw [blsD_eq e1] at la
    rw [la.bls] at ea
    exact ⟨a, bs, rfl, SqL.of ea, g _ H _ (AExt.refl H) (.bl _) h⟩
  · exact h.elim
theorem real_all {K : PySem.W.Frag} : RealN (rAll K) fAll := by
  intro B H xs ds P J hb r h g
  unfold fAll at h
  split at h
  · obtain ⟨bs, e1, h⟩ := h
    obtain ⟨v, rfl, r1⟩ := one_rep r
    obtain ⟨a, vs, rfl, ea, la⟩ := r1.lst
    rw [blsD_eq e1] at la
    rw [la.bls] at ea
    exact ⟨a, bs, rfl, SqL.of ea, g _ H _ (AExt.refl H) (.bl _) h⟩
  · exact h.elim
/-! tuple(..), list(..), int(..) -/
def fTuple : FN := fun ds P => match ds with
  | [.lst xs] => P (.tup xs)
  | [.tup xs] => P (.tup xs)
  | _ => False
theorem real_tuple {K : PySem.W.Frag} : RealN (fun xs H Q => ∃ p ys, xs = [.ref p] ∧ ((SqL K H p ys ∧ ∀ l, H l = none → Q (.ref l) (upd H l (.tup ys))) ∨ (SqT K H p ys ∧ Q (.ref p) H))) fTuple := by
  intro B H xs ds P J hb r h g
  unfold fTuple at h
  split at h
  · obtain ⟨v, rfl, r1⟩ := one_rep r
    obtain ⟨a, vs, rfl, ea, la⟩ := r1.lst
    exact ⟨a, vs, rfl, .inl ⟨SqL.of ea, fun q hq => g _ _ _ (AExt.upd hq) (.tup (fresh_not hb hq) upd_same (la.ext (AExt.upd hq))) h⟩⟩
  · obtain ⟨v, rfl, r1⟩ := one_rep r
    obtain ⟨a, vs, rfl, na, ea, la⟩ := r1.tup
    exact ⟨a, vs, rfl, .inr ⟨SqT.of ea, g _ H _ (AExt.refl H) (.tup na ea la) h⟩⟩
  · exact h.elim
def fList : FL := fun ds P => match ds with
  | [.lst xs] => P xs
  | [.tup xs] => P xs
  | _ => False
theorem real_list {K : PySem.W.Frag} : RealF (fun xs H Q => ∃ p ys, xs = [.ref p] ∧ (SqL K H p ys ∨ SqT K H p ys) ∧ ∀ l, H l = none → Q (.ref l) (upd H l (.lst ys))) fList := by
  intro B H xs ds P J hb r h g
  unfold fList at h
  split at h
  · obtain ⟨v, rfl, r1⟩ := one_rep r
    obtain ⟨a, vs, rfl, ea, la⟩ := r1.lst
    exact ⟨a, vs, rfl, .inl (SqL.of ea), fun q hq => g q vs _ hq la h⟩
  · obtain ⟨v, rfl, r1⟩ := one_rep r
    obtain ⟨a, vs, rfl, _, ea, la⟩ := r1.tup
    exact ⟨a, vs, rfl, .inr (SqT.of ea), fun q hq => g q vs _ hq la h⟩
  · exact h.elim
def fInt : FN := fun ds P => match ds with
  | [.int i] => P (.int i)
  | [.bl k] => P (.int (if k then 1 else 0))
  | _ => False
theorem real_int : RealN (fun xs H Q => (∃ i, xs = [.int i] ∧ Q (.int i) H) ∨ ∃ k, xs = [.bl k] ∧ Q (.int (if k then 1 else 0)) H) fInt := by
  intro B H xs ds P J hb r h g
  unfold fInt at h
  split at h
  · obtain ⟨v, rfl, r1⟩ := one_rep r
    cases r1.int
    exact .inl ⟨_, rfl, g _ H _ (AExt.refl H) (.int _) h⟩
  · obtain ⟨v, rfl, r1⟩ := one_rep r
    cases r1.bl
    exact .inr ⟨_, rfl, g _ H _ (AExt.refl H) (.int _) h⟩
  · exact h.elim
/-! isinstance -/
def tyD : D → Option String
  | .non => some "NoneType"
  | .bl _ => some "bool"
  | .int _ => some "int"
  | .str _ => some "str"
  | .lst _ => some "list"
  | .tup _ => some "tuple"
  | _ => none
theorem tyD_ok {K : PySem.W.Frag} {B : Addr → Prop} {H : Hp} {v : V} {d : D} {n : String} (r : RepS B H v d) (h : tyD d = some n) : TyX K H v (.type n) := by
  cases r with
  | any r =>
    cases r <;> first
      | (cases h; exact .base .non)
      | (cases h; exact .base (.bl _))
      | (cases h; exact .base (.int _))
      | (cases h; exact .base (.str _))
      | (cases h; rename_i e _; exact .base (.lst e))
      | (cases h; rename_i e _; exact .base (.tup e))
      | (cases h)
  | own e r eo => cases r <;> cases eo <;> first | (cases h; exact .base (.lst e)) | cases h
def fIsi : FN := fun ds P => match ds with
  | [d, .ty n] => ∃ m b, tyD d = some m ∧ kitB m n = some b ∧ P (.bl b)
  | _ => False
theorem real_isi {K : PySem.W.Frag} : RealN (rIsi K) fIsi := by
  intro B H xs ds P J hb r h g
  unfold fIsi at h
  split at h
  · obtain ⟨m, b, e1, e2, h⟩ := h
    obtain ⟨v, u, rfl, r1, r2⟩ := two_rep r
    cases r2.ty
    exact ⟨v, _, _, _, b, rfl, .ty _, tyD_ok r1 e1, kit_ty e2, g _ H _ (AExt.refl H) (.bl _) h⟩
  · exact h.elim
def tysD : List D → Option (List String)
  | [] => some []
  | .ty n :: r => (tysD r).map (n :: ·)
  | _ => none
def kitAnyB (m : String) : List String → Option Bool
  | [] => some false
  | n :: r => match kitB m n with
    | some true => some true
    | some false => kitAnyB m r
    | none => none
def fIsiT : FN := fun ds P => match ds with
  | [d, .tup ts] => ∃ m ns b, tyD d = some m ∧ tysD ts = some ns ∧ kitAnyB m ns = some b ∧ P (.bl b)
  | _ => False
theorem tys_rep {B : Addr → Prop} {H : Hp} : ∀ {ts : List D} {vs : List V} {ns : List String}, RepL B H vs ts → tysD ts = some ns → vs = ns.map V.ty
  | [], _, _, .nil, h => by cases h; rfl
  | t :: r, _, ns, .cons h1 h2, h => by
    unfold tysD at h
    split at h
    · rename_i e; cases e
    · rename_i n r' e
      cases e
      cases q : tysD r with
      | none => rw [q] at h; cases h
      | some ms =>
        rw [q] at h
        cases h
        rw [tys_rep h2 q]
        cases h1
        rfl
    · cases h
theorem cls_tys : ∀ ns : List String, Paired ClsV (ns.map V.ty) (ns.map Value.type)
  | [] => .nil
  | n :: r => .cons (.ty n) (cls_tys r)
theorem kitAnyB_ok {K : PySem.W.Frag} {m : String} : ∀ {ns : List String} {b : Bool}, kitAnyB m ns = some b → PySem.W.kitAny K (.type m) (ns.map Value.type) = some b
  | [], _, h => by cases h; rfl
  | n :: r, b, h => by
    unfold kitAnyB at h
    rw [List.map_cons]
    split at h
    · cases h
      exact kitAny_cons (kit_ty (by assumption)) (fun z => by cases z) fun _ => rfl
    · exact kitAny_cons (kit_ty (by assumption)) (fun _ => kitAnyB_ok h) fun z => by cases z
    · cases h
theorem real_isiT {K : PySem.W.Frag} : RealN (rIsiT K) fIsiT := by
  intro B H xs ds P J hb r h g
  unfold fIsiT at h
  split at h
  · obtain ⟨m, ns, b, e1, e2, e3, h⟩ := h
    obtain ⟨v, u, rfl, r1, r2⟩ := two_rep r
    obtain ⟨a, vs, rfl, _, ea, la⟩ := r2.tup
    rw [tys_rep la e2] at ea
    exact ⟨v, a, _, _, _, b, rfl, ea, cls_tys ns, tyD_ok r1 e1, kitAnyB_ok e3, g _ H _ (AExt.refl H) (.bl _) h⟩
  · exact h.elim
end
end DL

set_option Elab.async false
set_option linter.all false
set_option maxRecDepth 100000
set_option maxHeartbeats 4000000
/-! ELtp: sorted(a tuple) of data -/
namespace DL
open PySem PySem.Spec PyProof.Rows L2
section
variable {prog : Program} {w : World} {A : Around} {E : Value → Shared → Prop} {s : Shared} {vs : List Value}
/-- what the call gathers from a tuple: as from a list -/
theorem gather_tup {t : Addr} {Q : List Value → Shared → Prop} (ht : IsTup s.heap t vs.toArray) (hz : vs.length ≤ sizeLine)
    (q : Q vs { s with heap := (s.heap.push (seqObj "list" #[] 0)).update s.heap.objs.size (Obj.mapSeq (· ++ vs.toArray)) }) : wpAny (model prog w) A (collect (.ref t)) Q E s := by
  obtain ⟨o, ho, hc, n, hd⟩ := id ht
  have new : (s.heap.push (seqObj "list" #[] 0)).get? s.heap.objs.size = some (seqObj "list" #[] 0) := Heap.get?_push_size _ rfl
  have old : (s.heap.push (seqObj "list" #[] 0)).get? t = some o := Heap.get?_push_of_some _ ho
  unfold collect; refine wpAny_bind (wpAny_runValue (codeAny_builtin entry_proto_collect' ?_))
  show wpAny _ _ (do again (.builtin "list.__iadd__" ⟨[← newList [], .ref t], []⟩)) _ _ s
  refine wpAny_bind (wpAny_newList (wpAny_pure ⟨Code.quiet_builtin _ (by decide +kernel), codeAny_builtin entry_list_iadd' ?_⟩))
  show wpAny _ _ (Builtin.List.listExtendWith (.ref s.heap.objs.size) (.ref t) (.ref s.heap.objs.size)) _ _ { s with heap := s.heap.push (seqObj "list" #[] 0) }
  unfold Builtin.List.listExtendWith; refine wpAny_bind (wpAny_typeOf (T := "tuple") ⟨o, old, hc⟩ ?_)
  have yes : (Value.type "tuple" == Value.type "tuple") = true := by rfl
  rw [if_pos (by rw [yes]; simp)]
  refine wpAny_bind (listItems_at old hd (wpAny_bind (listItems_at (xs := #[]) (n := 0) new rfl ?_)))
  rw [if_neg (by simp)]
  refine wpAny_bind (listUpdate_at (xs := #[]) (n := 0) new rfl (wpAny_pure ?_) (Nat.zero_le _) (by show (#[] ++ vs.toArray).size ≤ sizeLine + 1; rw [Array.size_append, List.size_toArray]; show 0 + vs.length ≤ _; omega))
  show wpAny (model prog w) A (do let o ← load s.heap.objs.size; match o.data with | .seq xs _ => pure xs.toList | _ => unsupported "internal:collect") Q E { s with heap := (s.heap.push (seqObj "list" #[] 0)).update s.heap.objs.size (Obj.mapSeq (· ++ vs.toArray)) }
  refine wpAny_bind (wpAny_load (get?_update_seq new _) ?_)
  show wpAny _ _ (pure ((#[] : Array Value) ++ vs.toArray).toList) Q E _
  rw [show ((#[] : Array Value) ++ vs.toArray).toList = vs by simp]; exact wpAny_pure q
theorem sortTup {κ : PyProof.Rows.KeyKind} {t : Addr} {Q : Value → Shared → Prop} (ht : IsTup s.heap t vs.toArray) (hz : vs.length ≤ sizeLine) (S : PySem.W.SortsAt prog w A.in1.in1 { s with heap := PySem.W.sortingHeap (PySem.W.copyHeap s.heap vs) (s.heap.objs.size + 1) vs } κ vs)
    (q : Q (.ref (s.heap.objs.size + 1)) { s with heap := sortedAll s.heap vs (PySem.W.sortVals κ false vs vs).toArray }) : wpAny (model prog w) A (call (.builtin "sorted") [.ref t]) Q E s := by
  have body : ∀ E' : Value → Shared → Prop, wpAny (model prog w) A.in1.in1 (Builtin.«list.sort» ⟨[.ref (s.heap.objs.size + 1)], []⟩) (fun f s' => f = .done (.ret .none) ∧ Q (.ref (s.heap.objs.size + 1)) s') E' { s with heap := PySem.W.copyHeap s.heap vs } :=
    fun _ => PySem.W.list_sort_vals (s := { s with heap := PySem.W.copyHeap s.heap vs }) (PySem.W.copyHeap_at s.heap vs) S hz ⟨rfl, q⟩
  refine PyProof.Rows.call_function_entry_kw kind_sorted plain_sorted entry_sorted (args_sorted1 _) ?_
  unfold Builtin.«sorted»; refine wpAny_bind (m := checkCount "sorted" 1 1 _) (wpAny_pure (wpAny_bind (gather_tup ht hz ?_)))
  refine wpAny_bind (wpAny_newList ?_ hz)
  have sz : ((s.heap.push (seqObj "list" #[] 0)).update s.heap.objs.size (Obj.mapSeq (· ++ vs.toArray))).objs.size = s.heap.objs.size + 1 := (Heap.size_update _ _ _).trans (size_push' _ _)
  show wpAny _ _ _ _ _ { s with heap := PySem.W.copyHeap s.heap vs }
  rw [sz]; refine wpAny_bind (wpAny_holding (wpAny_call_entry_kw slot_list_sort ⟨_, PySem.W.copyHeap_at s.heap vs, rfl⟩ entry_list_sort ?bd (args_list_sort _)))
  case bd =>
    refine wpAny_mono (body _) (fun f s' hf => ?_) fun _ _ e => e
    obtain ⟨rfl, hq⟩ := hf; exact ⟨_, rfl, wpAny_pure ⟨_, rfl, hq⟩⟩
theorem sortTup_data {β : Type} {bs : List β} {enc : β → PyData} {R : Value → β → Prop} {t : Addr} {Q : Value → Shared → Prop} (ht : IsTup s.heap t vs.toArray) (e : PySem.W.EachIs R vs bs) (er : PySem.W.EachIs (fun v b => ∃ as, Reads s.heap v (enc b) as) vs bs) (hal : PySem.W.AllAlike (bs.map enc)) (hk : PySem.W.Sortable (bs.map enc)) (hL : bs.length ≤ sizeLine)
    (hu : ∀ b, b ∈ bs → A.units + 2 + (enc b).depth < cLine) (q : ∀ out, out.length = bs.length → PySem.W.EachIs R out (bs.mergeSort (PySem.W.dataLe false enc)) → Q (.ref (s.heap.objs.size + 1)) { s with heap := sortedAll s.heap vs (List.toArray out) }) :
    wpAny (model prog w) A (call (.builtin "sorted") [.ref t]) Q E s := by
  have lz : vs.length ≤ sizeLine := by rw [e.length]; exact hL
  have er2 : PySem.W.EachIs (fun v b => ∃ as, Reads (PySem.W.sortingHeap (PySem.W.copyHeap s.heap vs) (s.heap.objs.size + 1) vs) v (enc b) as) vs bs := er.mono fun _ _ ⟨as, r⟩ => ⟨as, PyProof.Rows.Reads.keeps (fun _ _ => PySem.W.sorting_copy_old) r⟩
  have st := PySem.W.SortsAt.data (prog := prog) (w := w) (A := A.in1.in1) (s := { s with heap := PySem.W.sortingHeap (PySem.W.copyHeap s.heap vs) (s.heap.objs.size + 1) vs }) (PySem.W.each_map (R := fun v d => ∃ as, Reads (PySem.W.sortingHeap (PySem.W.copyHeap s.heap vs) (s.heap.objs.size + 1) vs) v d as) enc er2) hal hk (PySem.W.bound_map hu)
  exact sortTup ht lz st (q _ (by rw [PySem.W.sortVals_length false rfl]; exact e.length) (PySem.W.sortVals_data false e er2 hal))
end
end DL

set_option Elab.async false
set_option linter.all false
set_option maxRecDepth 100000
set_option maxHeartbeats 4000000
/-! ELf: x[::-1], sorted, list(range(..)) -/
namespace DL
open PySem PySem.Spec PyProof.Rows L2
/-! ### t[::-1] -/
section
variable {prog : Program} {w : World} {A : Around} {E : Value → Shared → Prop} {s : Shared}
end
section
variable {X : Cx} {pos ps' : Pos}
def tRevS (K : PySem.W.Frag) (te : TE) : TE := fun σ H Q => te σ H fun x H1 => (∃ a xs, x = .ref a ∧ SqL K H1 a xs ∧ ∀ p, H1 p = none → Q (.ref p) (upd H1 p (.lst xs.reverse))) ∨ ∃ a xs, x = .ref a ∧ SqT K H1 a xs ∧ ∀ p, H1 p = none → Q (.ref p) (upd H1 p (.tup xs.reverse))
def fRev : F1 := fun d P => match d with
  | .lst xs => P (.lst xs.reverse)
  | .tup xs => P (.tup xs.reverse)
  | _ => False
/-! ### list(range(..)) -/
theorem rgV_rep {B : Addr → Prop} {H : Hp} {a b : Int} : RepL B H (rgV a b) (rngD a (b - a).toNat 1) := by
  unfold rgV rngD
  generalize (b - a).toNat = n
  induction n with
  | zero => exact .nil
  | succ n ih =>
    rw [List.range_succ, List.map_append, List.map_append]
    refine ih.append (.cons ?_ .nil)
    show Rep B H (V.int (a + (n : Int))) (D.int (a + (n : Int) * 1))
    rw [Int.mul_one]
    exact .int _
def wLRng1 (a : WE) : WL := fun ρ k Q => a ρ k fun r ρ1 k1 => ∃ n : Int, deref ρ1 r = some (.int n) ∧ RgOk 0 n ∧ Q (rngD 0 (n - 0).toNat 1) ρ1 k1
theorem df_listRg1 {a : Expr} {w : WE} {p1 p2 : Pos} (hc : X.calm = true) (hg : Gl X "list") (hm : X.mg "list" = none) (hg2 : Gl X "range") (hm2 : X.mg "range" = none) (h : DE X a w) (na : starEach [a] X.env = (false, eval a X.env) :: starEach [] X.env := by rfl)
    (na2 : starEach [.Call (.Name "range" p1) [a] [] p2] X.env = (false, eval (.Call (.Name "range" p1) [a] [] p2) X.env) :: starEach [] X.env := by rfl) : DF X (.Call (.Name "list" ps') [.Call (.Name "range" p1) [a] [] p2] [] pos) (wLRng1 w) := by
  obtain ⟨t, pe, rr⟩ := h
  refine ⟨_, pe_listRg hc hg hm (prg_1 hg2 hm2 pe na) na2, fun O p _ ρ k σ H Q J I h g => ?_⟩
  refine rr O p ρ k σ H _ _ I h fun v H1 r ρ1 k1 I1 s1 q1 h1 => ?_
  obtain ⟨n, e1, ok, h1⟩ := h1
  refine ⟨n, (deref_ok I1 q1 e1).int, ok, fun q hq => ?_⟩
  have x3 : AExt H1 (upd H1 q (.lst (rgV 0 n))) := AExt.upd hq
  exact g q (rgV 0 n) _ _ ρ1 k1 (I1.more hq) (s1.trans (.ext x3) I1.pn) (s1.new hq) upd_same rgV_rep h1
def wLRng2 (a b : WE) : WL := fun ρ k Q => a ρ k fun r ρ1 k1 => b ρ1 k1 fun r2 ρ2 k2 => ∃ m n : Int, deref ρ2 r = some (.int m) ∧ deref ρ2 r2 = some (.int n) ∧ RgOk m n ∧ Q (rngD m (n - m).toNat 1) ρ2 k2
theorem df_listRg2 {a b : Expr} {wa wb : WE} {p1 p2 : Pos} (hc : X.calm = true) (hg : Gl X "list") (hm : X.mg "list" = none) (hg2 : Gl X "range") (hm2 : X.mg "range" = none) (ha : DE X a wa) (hb : DE X b wb) (na : starEach [a, b] X.env = (false, eval a X.env) :: starEach [b] X.env := by rfl) (nb : starEach [b] X.env = (false, eval b X.env) :: starEach [] X.env := by rfl) (npl : (backTo p2 (starEach [b] X.env)).any (·.1) = false := by rfl)
    (na2 : starEach [.Call (.Name "range" p1) [a, b] [] p2] X.env = (false, eval (.Call (.Name "range" p1) [a, b] [] p2) X.env) :: starEach [] X.env := by rfl) : DF X (.Call (.Name "list" ps') [.Call (.Name "range" p1) [a, b] [] p2] [] pos) (wLRng2 wa wb) := by
  obtain ⟨ta, pa, ra⟩ := ha
  obtain ⟨tb, pb, rb⟩ := hb
  refine ⟨_, pe_listRg hc hg hm (prg_2 hg2 hm2 pa pb na nb npl) na2, fun O p _ ρ k σ H Q J I h g => ?_⟩
  refine ra O p ρ k σ H _ _ I h fun v H1 r ρ1 k1 I1 s1 q1 h1 => ?_
  refine rb O p ρ1 k1 σ H1 _ _ I1 h1 fun u H2 r2 ρ2 k2 I2 s2 q2 h2 => ?_
  obtain ⟨m, n, e1, e2, ok, h2⟩ := h2
  refine ⟨m, n, (deref_ok I2 (RRep.step I1 s2 q1) e1).int, (deref_ok I2 q2 e2).int, ok, fun q hq => ?_⟩
  have x3 : AExt H2 (upd H2 q (.lst (rgV m n))) := AExt.upd hq
  exact g q (rgV m n) _ _ ρ2 k2 (I2.more hq) ((s1.trans s2 I1.pn).trans (.ext x3) I2.pn) ((s1.trans s2 I1.pn).new hq) upd_same rgV_rep h2
end
/-! ### sorted -/
/-- by putting in, upward -/
def insUp (x : Int) : List Int → List Int
  | [] => [x]
  | y :: r => if x ≤ y then x :: y :: r else y :: insUp x r
def sortUp : List Int → List Int
  | [] => []
  | x :: r => insUp x (sortUp r)
theorem insUp_perm (x : Int) : ∀ l : List Int, (insUp x l).Perm (x :: l)
  | [] => .refl _
  | y :: r => by
    unfold insUp
    split
    · exact .refl _
    · exact ((insUp_perm x r).cons y).trans (.swap x y r)
theorem sortUp_perm : ∀ l : List Int, (sortUp l).Perm l
  | [] => .refl _
  | x :: r => (insUp_perm x _).trans ((sortUp_perm r).cons x)
theorem insUp_sorted (x : Int) : ∀ l : List Int, l.Pairwise (· ≤ ·) → (insUp x l).Pairwise (· ≤ ·)
  | [], _ => List.pairwise_singleton _ _
  | y :: r, h => by
    unfold insUp
    obtain ⟨h1, h2⟩ := List.pairwise_cons.mp h
    split
    · rename_i hxy
      exact List.pairwise_cons.mpr ⟨fun z hz => by
        rcases List.mem_cons.mp hz with rfl | hz
        · exact hxy
        · exact Int.le_trans hxy (h1 z hz), h⟩
    · rename_i hxy
      refine List.pairwise_cons.mpr ⟨fun z hz => ?_, insUp_sorted x r h2⟩
      rcases List.mem_cons.mp ((insUp_perm x r).mem_iff.mp hz) with rfl | hz
      · omega
      · exact h1 z hz
theorem sortUp_sorted : ∀ l : List Int, (sortUp l).Pairwise (· ≤ ·)
  | [] => .nil
  | x :: r => insUp_sorted x _ (sortUp_sorted r)
theorem perm_sorted_eq {le : Int → Int → Prop} (anti : ∀ a b, le a b → le b a → a = b) : ∀ {l m : List Int}, l.Perm m → l.Pairwise le → m.Pairwise le → l = m
  | [], m, h, _, _ => (List.Perm.nil_eq h)
  | x :: r, [], h, _, _ => by have := h.length_eq; simp at this
  | x :: r, y :: t, h, h1, h2 => by
    obtain ⟨a1, a2⟩ := List.pairwise_cons.mp h1
    obtain ⟨b1, b2⟩ := List.pairwise_cons.mp h2
    have e : x = y := by
      rcases List.mem_cons.mp (h.mem_iff.mp List.mem_cons_self) with e | hx
      · exact e
      · rcases List.mem_cons.mp (h.mem_iff.mpr List.mem_cons_self) with e | hy
        · exact e.symm
        · exact anti _ _ (a1 y hy) (b1 x hx)
    subst e
    rw [perm_sorted_eq anti (List.Perm.cons_inv h) a2 b2]
theorem sortUp_unique {ns ms : List Int} (h : ms.Perm ns) (s : ms.Pairwise (· ≤ ·)) : ms = sortUp ns := perm_sorted_eq (fun a b h1 h2 => by omega) (h.trans (sortUp_perm ns).symm) s (sortUp_sorted ns)
theorem sortDn_unique {ns ms : List Int} (h : ms.Perm ns) (s : ms.Pairwise (· ≥ ·)) : ms = (sortUp ns).reverse :=
  perm_sorted_eq (le := (· ≥ ·)) (fun a b h1 h2 => by omega) ((h.trans (sortUp_perm ns).symm).trans (List.reverse_perm _).symm) s (by rw [List.pairwise_reverse]; exact sortUp_sorted ns)
section
variable {X : Cx} {pos ps' : Pos}
def fSortI : FL := fun ds P => match ds with
  | [.lst xs] => ∃ ns, intsD xs = some ns ∧ P ((sortUp ns).map .int)
  | _ => False
def wSortRev (b : Bool) (a : WA) : WL := fun ρ k Q => a ρ k fun rs ρ1 k1 => ∃ xs ns, derefL ρ1 rs = some [.lst xs] ∧ intsD xs = some ns ∧ Q ((if b then (sortUp ns).reverse else sortUp ns).map .int) ρ1 k1
theorem df_sortRev {b : Bool} {e : Expr} {wa : WA} {j : Nat} {kp bp : Pos} (hg : Gl X "sorted") (hm : X.mg "sorted" = none) (ha : DA X [e] wa)
    (he : backTo pos (starEach [e] X.env) = (false, eval e X.env) :: backTo pos (starEach [] X.env) := by rfl) (hpl : (backTo pos (starEach [e] X.env)).any (·.1) = false := by rfl)
    (hall : (backToKw pos (keywordEach [⟨some "reverse", .Constant (.bool b) j bp, kp⟩] X.env)).all (·.1.isSome) = true := by rfl) (hnone : (backToKw pos (keywordEach [⟨some "reverse", .Constant (.bool b) j bp, kp⟩] X.env)).any (·.1.isNone) = false := by rfl)
    (hks : (backToKw pos (keywordEach [⟨some "reverse", .Constant (.bool b) j bp, kp⟩] X.env)).filterMap (·.1) = [Str.ofString "reverse"] := by rfl)
    (hpk : PK X [⟨some "reverse", .Constant (.bool b) j bp, kp⟩] (tCons (tC (.bl b)) tNil) := by exact pk_cons pe_bl pk_nil) :
    DF X (.Call (.Name "sorted" ps') [e] [⟨some "reverse", .Constant (.bool b) j bp, kp⟩] pos) (wSortRev b wa) := by
  obtain ⟨t, pa, rr⟩ := ha
  refine ⟨_, pe_callBK (ks := [Str.ofString "reverse"]) (cr_sortedRev (b := b)) hg hm (by decide +kernel) pa hpk (by decide) (by decide) he hpl hall hnone hks, fun O p _ ρ k σ H Q J I h g => ?_⟩
  refine rr O p ρ k σ H _ _ I h fun vs H1 rs ρ1 k1 I1 s1 q1 h1 => ?_
  obtain ⟨xs, ns, e1, e2, h1⟩ := h1
  obtain ⟨v, ev, r1⟩ := one_rep (derefL_ok I1 q1 e1)
  subst ev
  obtain ⟨a, us, rfl, ea, la⟩ := r1.lst
  rw [intsD_eq e2] at la
  rw [la.ints] at ea
  refine ⟨a, ns, rfl, rfl, SqL.of ea, fun ns' q hp hs hq => ?_⟩
  have eo : ns' = if b then (sortUp ns).reverse else sortUp ns := by
    cases b with
    | true => exact sortDn_unique hp hs
    | false => exact sortUp_unique hp hs
  have x3 : AExt H1 (upd H1 q (.lst (ns'.map V.int))) := AExt.upd hq
  exact g q _ _ _ ρ1 k1 (I1.more hq) (s1.trans (.ext x3) I1.pn) (s1.new hq) upd_same (by rw [eo]; exact .of_ints _) h1
/-! data -/
theorem pyL_eq : ∀ xs : List D, pyL xs = xs.map py
  | [] => by simp [pyL]
  | x :: r => by rw [pyL, pyL_eq r, List.map_cons]
def leD (a b : D) : Bool := PySem.W.dataLe false py a b
def rSortedDt (K : PySem.W.Frag) : List V → Hp → VK → Prop := fun vs H Q => ∃ (a : Addr) (bs : List (V × D)), vs = [V.ref a] ∧ (SqL K H a (bs.map (·.1)) ∨ SqT K H a (bs.map (·.1))) ∧ (∀ b ∈ bs, Dp K H b.1 (py b.2)) ∧ PySem.W.AllAlike (bs.map fun b => py b.2) ∧ PySem.W.Sortable (bs.map fun b => py b.2) ∧ (∀ b ∈ bs, (py b.2).depth ≤ 64) ∧
  ∀ p, H p = none → Q (.ref p) (upd H p (.lst ((bs.mergeSort fun b c => leD b.2 c.2).map (·.1))))
theorem cr_sortedDt (hu : X.A.units + 100 < cLine) : CallR X (.builtin "sorted") (rSortedDt X.K) := by
  intro pins s σ H vs us Q I r h
  obtain ⟨a, bs, rfl, hs, hd, hal, hk, hz, q⟩ := h
  rw [Vals.ref1 r]
  have each : ∀ {bs : List (V × D)} {its : List Value}, Vals (bs.map (·.1)) its → PySem.W.EachIs (fun u (b : V × D) => RelV b.1 u) its bs := by
    intro bs
    induction bs with
    | nil => intro its r; cases r; exact .nil
    | cons b bs ih => intro its r; cases r with | cons r1 r2 => exact .cons r1 (ih r2)
  have each2 : ∀ {bs : List (V × D)} {its : List Value}, (∀ b ∈ bs, Dp X.K H b.1 (py b.2)) → Vals (bs.map (·.1)) its → PySem.W.EachIs (fun u (b : V × D) => ∃ as, Reads s.heap u (py b.2) as) its bs := by
    intro bs
    induction bs with
    | nil => intro its _ r; cases r; exact .nil
    | cons b bs ih => intro its hd r; cases r with | cons r1 r2 => exact .cons (Dp.reads I _ _ _ (hd b List.mem_cons_self) r1) (ih (fun c hc => hd c (List.mem_cons_of_mem _ hc)) r2)
  have back : ∀ {bs : List (V × D)} {its : List Value}, PySem.W.EachIs (fun u (b : V × D) => RelV b.1 u) its bs → Vals (bs.map (·.1)) its := by
    intro bs
    induction bs with
    | nil => intro its r; cases r; exact .nil
    | cons b bs ih => intro its r; cases r with | cons r1 r2 => exact .cons r1 (ih r2)
  have fin : ∀ (its : List Value), (bs.map (·.1)).length ≤ sizeLine → ∀ out : List Value, out.length = bs.length → PySem.W.EachIs (fun u (b : V × D) => RelV b.1 u) out (bs.mergeSort (PySem.W.dataLe false fun b : V × D => py b.2)) → EP X pins σ Q (.ref (s.heap.objs.size + 1)) { s with heap := PyProof.Rows.sortedAll s.heap its (List.toArray out) } := fun its hz2 out ho eo => by
    obtain ⟨ep, he'⟩ := PyProof.Rows.sortedAll_at s.heap its out.toArray
    have hlen : ((bs.mergeSort (PySem.W.dataLe false fun b : V × D => py b.2)).map (·.1)).length ≤ sizeLine := by
      rw [List.length_map, List.length_mergeSort]
      rw [List.length_map] at hz2
      exact hz2
    have q' := q (s.heap.objs.size + 1) (I.hok.fresh (Nat.le_succ _))
    exact ⟨.ref _, upd H (s.heap.objs.size + 1) (.lst ((bs.mergeSort (PySem.W.dataLe false fun b : V × D => py b.2)).map (·.1))), I.laid (t' := s.toks) (fun _ _ => PyProof.Rows.sortedAll_old) (Nat.le_succ _) ⟨hlen, out, ep, back eo, he'⟩, rfl, q'⟩
  rcases hs with hs | hs
  · obtain ⟨its, rv, hl, hz2⟩ := I.list hs
    exact PySem.W.sorted_data (enc := fun b : V × D => py b.2) hl.isList (each rv) (each2 hd rv) hal hk (by rw [List.length_map] at hz2; exact hz2) (fun b hb => by have := hz b hb; omega) fun out ho eo => fin its hz2 out ho eo
  · obtain ⟨its, rv, hl, hz2⟩ := I.tuple hs
    exact sortTup_data (enc := fun b : V × D => py b.2) hl (each rv) (each2 hd rv) hal hk (by rw [List.length_map] at hz2; exact hz2) (fun b hb => by have := hz b hb; omega) fun out ho eo => fin its hz2 out ho eo
def fSortD : FL := fun ds P => match ds with
  | [.lst xs] => isPyL xs = true ∧ PySem.W.AllAlike (pyL xs) ∧ PySem.W.Sortable (pyL xs) ∧ (∀ x ∈ xs, (py x).depth ≤ 64) ∧ P (xs.mergeSort leD)
  | [.tup xs] => isPyL xs = true ∧ PySem.W.AllAlike (pyL xs) ∧ PySem.W.Sortable (pyL xs) ∧ (∀ x ∈ xs, (py x).depth ≤ 64) ∧ P (xs.mergeSort leD)
  | _ => False
theorem real_sortD {K : PySem.W.Frag} : RealF (rSortedDt K) fSortD := by
  intro B H xs ds P J hb r h g
  have core : ∀ (zs : List D), (isPyL zs = true ∧ PySem.W.AllAlike (pyL zs) ∧ PySem.W.Sortable (pyL zs) ∧ (∀ x ∈ zs, (py x).depth ≤ 64) ∧ P (zs.mergeSort leD)) → ∀ (a : Addr) (vs : List V), xs = [V.ref a] → (SqL K H a vs ∨ SqT K H a vs) → RepL B H vs zs → rSortedDt K xs H J := by
    intro zs h a vs ex hsq la
    obtain ⟨h1, h2, h3, h4, h5⟩ := h
    subst ex
    have fstE : ∀ {vs : List V} {zs : List D}, RepL B H vs zs → (vs.zip zs).map (·.1) = vs ∧ (vs.zip zs).map (·.2) = zs := by
      intro vs
      induction vs with
      | nil => intro zs r; cases r; exact ⟨rfl, rfl⟩
      | cons v vs ih => intro zs r; cases r with | cons r1 r2 => obtain ⟨a, b⟩ := ih r2; exact ⟨by rw [List.zip_cons_cons, List.map_cons, a], by rw [List.zip_cons_cons, List.map_cons, b]⟩
    have memE : ∀ {vs : List V} {zs : List D}, RepL B H vs zs → isPyL zs = true → ∀ b ∈ vs.zip zs, Rep B H b.1 b.2 ∧ isPy b.2 = true := by
      intro vs
      induction vs with
      | nil => intro zs r _ b hb; cases r; cases hb
      | cons v vs ih =>
        intro zs r hp b hb
        cases r with
        | cons r1 r2 =>
          rw [isPyL, Bool.and_eq_true] at hp
          rw [List.zip_cons_cons] at hb
          rcases List.mem_cons.mp hb with rfl | hb
          · exact ⟨r1, hp.1⟩
          · exact ih r2 hp.2 b hb
    obtain ⟨e1, e2⟩ := fstE la
    have e3 : (vs.zip zs).map (fun b => py b.2) = pyL zs := by
      rw [pyL_eq]
      have := congrArg (List.map py) e2
      rw [List.map_map] at this
      exact this
    refine ⟨a, vs.zip zs, rfl, by rw [e1]; exact hsq, fun b hb => (memE la h1 b hb).1.dp (memE la h1 b hb).2, by rw [e3]; exact h2, by rw [e3]; exact h3, fun b hb => h4 _ ?_, fun q hq => ?_⟩
    · have : b.2 ∈ (vs.zip zs).map (·.2) := List.mem_map.mpr ⟨b, hb, rfl⟩
      rw [e2] at this
      exact this
    · have es : ((vs.zip zs).mergeSort fun b c => leD b.2 c.2).map (·.2) = zs.mergeSort leD := by
        rw [List.map_mergeSort (s := leD) (fun a _ b _ => rfl), e2]
      have rep : ∀ l : List (V × D), (∀ b ∈ l, Rep B H b.1 b.2) → RepL B H (l.map (·.1)) (l.map (·.2)) := by
        intro l
        induction l with
        | nil => intro _; exact .nil
        | cons b l ih => intro h; exact .cons (h b List.mem_cons_self) (ih fun c hc => h c (List.mem_cons_of_mem _ hc))
      refine g q _ _ hq ?_ h5
      rw [← es]
      exact rep _ fun b hb => (memE la h1 b ((List.mergeSort_perm _ _).mem_iff.mp hb)).1
  unfold fSortD at h
  split at h
  · obtain ⟨v, rfl, r1⟩ := one_rep r
    obtain ⟨a, vs, rfl, ea, la⟩ := r1.lst
    exact core _ h a vs rfl (.inl (SqL.of ea)) la
  · obtain ⟨v, rfl, r1⟩ := one_rep r
    obtain ⟨a, vs, rfl, _, ea, la⟩ := r1.tup
    exact core _ h a vs rfl (.inr (SqT.of ea)) la
  · exact h.elim
end
end DL

set_option Elab.async false
set_option linter.all false
set_option maxRecDepth 100000
set_option maxHeartbeats 4000000
/-! ELg: the law's pen: what its dict gives and takes; the promise of a draw -/
namespace DL
open PySem PySem.Spec PyProof.Rows L2
section
variable {H : Hp} {a c : Addr} {i d k f z : Int}
theorem get_cells (h : H a = some (penO c i d k f)) : DGet H a (.str "cells") (some (.ref c)) := .inl ⟨_, .inr "cells", .inl h, rfl, by rfl⟩
theorem get_at (h : H a = some (penO c i d k f)) : DGet H a (.str "at") (some (.int i)) := .inl ⟨_, .inr "at", .inl h, rfl, by rfl⟩
theorem get_digits (h : H a = some (penO c i d k f)) : DGet H a (.str "digits") (some (.int d)) := .inl ⟨_, .inr "digits", .inl h, rfl, by rfl⟩
theorem get_count (h : H a = some (penO c i d k f)) : DGet H a (.str "count") (some (.int k)) := .inl ⟨_, .inr "count", .inl h, rfl, by rfl⟩
theorem get_fold (h : H a = some (penO c i d k f)) : DGet H a (.str "fold") (some (.int f)) := .inl ⟨_, .inr "fold", .inl h, rfl, by rfl⟩
theorem five_ok : (5 : Nat) < sizeLine := by rw [sizeLine_eq]; decide
theorem put_at (h : H a = some (penO c i d k f)) : DPut H a (.str "at") (.int z) (upd H a (penO c z d k f)) := .inl ⟨_, .inr "at", h, rfl, five_ok, by rfl⟩
theorem put_digits (h : H a = some (penO c i d k f)) : DPut H a (.str "digits") (.int z) (upd H a (penO c i z k f)) := .inl ⟨_, .inr "digits", h, rfl, five_ok, by rfl⟩
theorem put_count (h : H a = some (penO c i d k f)) : DPut H a (.str "count") (.int z) (upd H a (penO c i d z f)) := .inl ⟨_, .inr "count", h, rfl, five_ok, by rfl⟩
theorem put_fold (h : H a = some (penO c i d k f)) : DPut H a (.str "fold") (.int z) (upd H a (penO c i d k z)) := .inl ⟨_, .inr "fold", h, rfl, five_ok, by rfl⟩
end
/-- a draw: any number from 0 on below n -/
def wfDraw : WF := fun ds k P => ∃ a n, ds = [.obj a, .int n] ∧ k.2.pen = some a ∧ 0 < n ∧ n < 1073741824 ∧ k.1 < 1000000000000 ∧ ∀ x : Int, 0 ≤ x → x < n → P (.int x) (k.1 + 1, k.2)
def spPen (K : PySem.W.Frag) : Sp := fun vs H Q _ => ∃ (s : Addr) (ns : List Int), vs = [.ref s] ∧ SqL K H s (ns.map V.int) ∧ ns.length ≤ 63 ∧
  ∀ (H' : Hp) (a c : Addr) (f : Int), AExt H H' → H a = none → H c = none → a ≠ c → H' a = some (penO c 0 0 0 f) → H' c = some (.lst (ns.map V.int)) → 0 ≤ f → f < 2147483648 → Q (.ref a) H'
def spLaw (K : PySem.W.Frag) : Sp := fun vs H Q _ => ∃ (s : Addr) (ns : List Int), vs = [.ref s] ∧ SqL K H s (ns.map V.int) ∧ ns.length ≤ 63 ∧ ∀ H', Q (.bl true) H'
/-- the slots behind the law's first statement -/
def lawE (n : Nat) (a : Addr) : En := .un :: .val (.obj a) :: List.replicate (n - 2) .un
theorem fmod_lt {x : Int} {m : Int} (hm : 0 < m) : 0 ≤ x.fmod m ∧ x.fmod m < m := ⟨Int.fmod_nonneg_of_pos x hm, Int.fmod_lt_of_pos x hm⟩
theorem room65 {k : Nat} {A : Around} (r : Room k A) : A.units + 65 < cLine := by have := r.un; omega
theorem room100 {k : Nat} {A : Around} (r : Room k A) : A.units + 100 < cLine := by have := r.un; omega
theorem nomk (b : Expr) {op : CmpOp} (h : op ≠ .In := by decide) (h2 : op ≠ .NotIn := by decide) : behindInMarks op b = false := nobehind b h h2
/-- the promise of a def without more: what its body does -/
def wfOf (n : Nat) (w : WS) : WF := fun ds k P => w { nx := fun _ k' => P .non k', rt := P } (startE n ds) k
section
variable {P : Program} {w : World} {K : PySem.W.Frag} {mg : Str → Option Value} {base : Heap}
theorem wx_of {X : Cx} {E : XK} {cls : Value} {d : Option Addr} {σ : L2.St} {H : Hp} (tk : Takes X (fun cls d _ H => E cls d H)) (h : E cls d H) : WX0 X cls d σ H := fun u s' ⟨a, B, sI, pins, σ', H', cls', d', e, I, nb, up, sky, na, os, ag, e1, e2, e3, e4⟩ =>
  tk u s' ⟨a, B, sI, pins, σ', H', cls', d', e, I, nb, up, sky, na, os, ag, by subst e1; subst e2; subst e4; exact h⟩
theorem body_ok {X : Cx} {E : XK} {body : List Stmt} {N : List Str} {n : Nat} {wb : WS} {vs : List V} {H : Hp} {Q : VK} (tk : Takes X (fun cls d _ H => E cls d H)) (hb : DSs X body wb) (h : spD n (wfOf N.length wb) vs H Q E) :
    ∃ t, PSs X body t ∧ t { nx := fun _ H' => Q .non H', rt := Q } (L2.start N vs) H := by
  obtain ⟨hl, O, p, c, ds, P', r, ot, pn, po, kx, hwf, q, qx⟩ := h
  obtain ⟨t, ps', rr⟩ := hb
  have xl : XL X (p.at H) := ⟨fun x k cls d σ H' pn' kp rx hx => wx_of tk (qx x cls d k H' kp pn' rx hx)⟩
  refine ⟨t, ps', rr O (p.at H) _ c _ H _ _ (rel_start r ot pn po kx kept_at) hwf ⟨fun ρ' k' σ' H' I' s' h' => ?_, fun v H' d k' kp pn' kx' r' h' => ?_, fun _ _ _ _ _ _ z => z.elim, fun _ _ _ _ _ _ z => z.elim⟩⟩
  · exact q .non H' .non k' (fun a o h n1 => s'.kp a o h n1 fun ⟨i, es, z, _⟩ => startE_own z) I'.pn I'.kx .non h'
  · exact q v H' d k' (fun a o h n1 => kp a o h n1 fun ⟨i, es, z, _⟩ => startE_own z) pn' kx' r' h'
theorem fnOf {x qual : Str} {st : Stmt} {f : Addr} {fd : FuncData} {N ps : List Str} {k : Nat} {n : Nat} {wb : WS} (F : Fun K x qual st f fd) (S : FnScope N ps (defScope st)) (hn : n = ps.length)
    (hbody : ∀ (cdv : Value) (A : Around) (outer : List Env) (s : Shared) (H : Hp) (E : XK), Room k (A.deeper (envOfC qual (defScope st) s.heap.objs.size f cdv)) → DSs (cxOf (L2.CX P w) P w K mg base N qual (defScope st) f cdv A outer s H E) (defBody st) wb) : FnOk P w K mg base (L2.CX P w) (k + 1) f fd ps (spD n (wfOf N.length wb)) :=
  F.okX S (fun vs H Q E h => h.1.trans hn) fun cdv A outer s H vs Q E hr h => body_ok (L2.takes_of rfl rfl rfl rfl) (hbody cdv A outer s H E hr) h
theorem fnOfD {x qual : Str} {params : Arguments} {body : List Stmt} {scope : Scope} {dvs : List V} {kws : List (Str × V)} {f : Addr} {fd : FuncData} {N ps : List Str} {k : Nat} {n : Nat} {wb : WS} (F : FunD K x qual params body scope dvs kws f fd) (S : FnScope N ps scope) (hn : n = ps.length)
    (hbody : ∀ (cdv : Value) (A : Around) (outer : List Env) (s : Shared) (H : Hp) (E : XK), Room k (A.deeper (envOfC qual scope s.heap.objs.size f cdv)) → DSs (cxOf (L2.CX P w) P w K mg base N qual scope f cdv A outer s H E) body wb) : FnOk P w K mg base (L2.CX P w) (k + 1) f fd ps (spD n (wfOf N.length wb)) :=
  F.ok S (fun vs H Q E h => h.1.trans hn) fun cdv A outer s H vs Q E hr h => body_ok (L2.takes_of rfl rfl rfl rfl) (hbody cdv A outer s H E hr) h
/-- the law's body behind its pen -/
theorem lawRest {X : Cx} {rest : List Stmt} {wr : WS} (hr : DSs X rest wr) : ∃ t, PSs X rest t ∧ ∀ {Q : VK} {a c s : Addr} {ns : List Int} {f : Int} {H : Hp} {σ : L2.St} {tabs : List (Addr × Str)} (n : Nat) (_ : 2 ≤ n) (_ : σ = some (.ref s) :: some (.ref a) :: List.replicate (n - 2) none)
    (_ : a ≠ c) (_ : H a = some (penO c 0 0 0 f)) (_ : H c = some (.lst (ns.map V.int))) (_ : 0 ≤ f) (_ : f < 2147483648)
    (_ : wr { nx := fun _ _ => False, rt := fun d _ => d = .bl true } (lawE n a) (0, ⟨some a, fun _ _ => False, tabs⟩)) (_ : ∀ H', Q (.bl true) H') (_ : LamX.Tabs tabs H), t { nx := fun _ H' => Q .non H', rt := Q } σ H := by
  obtain ⟨t, ps, rr⟩ := hr
  refine ⟨t, ps, fun {Q a c s ns f H σ tabs} n hl hs ne ha hc h0 h1 hw q ht => rr (fun b => (b = a ∨ b = c) ∨ ∃ q, (b, q) ∈ tabs) (Pn.nox ⟨some (a, c), fun _ => none, fun _ _ => False, none, tabs, fun _ => False⟩) _ _ σ H _ _ ?_ hw ⟨fun _ _ _ _ _ _ z => z.elim, fun v H' d k' _ _ _ r e => ?_, fun _ _ _ _ _ _ z => z.elim, fun _ _ _ _ _ _ z => z.elim⟩⟩
  · have no : ∀ b, Own (lawE n a) σ b → False := fun b ⟨i, es, h, _⟩ => by
      unfold lawE at h
      match i with
      | 0 => cases h
      | 1 => cases h
      | i + 2 =>
        rw [List.getElem?_cons_succ, List.getElem?_cons_succ] at h
        obtain ⟨h1, h2⟩ := List.getElem?_eq_some_iff.mp h
        rw [List.getElem_replicate] at h2
        cases h2
    refine ⟨?_, fun i d h => ?_, fun i es h => ?_, fun i j b es fs h1 _ h3 _ => (no b ⟨i, es, h1, h3⟩).elim, fun b z => ?_, ?_, fun b z => ?_, rfl, (fun a o h _ => by cases h), fun b z => rfl, fun i C ns ds b h h3 => (no b ⟨i, _, h, h3⟩).elim⟩
    · rw [hs]
      simp [lawE]
    · unfold lawE at h
      match i with
      | 0 => cases h
      | 1 => cases h; exact ⟨.ref a, by rw [hs]; rfl, .obj a⟩
      | i + 2 =>
        rw [List.getElem?_cons_succ, List.getElem?_cons_succ] at h
        obtain ⟨h1, h2⟩ := List.getElem?_eq_some_iff.mp h
        rw [List.getElem_replicate] at h2
        cases h2
    · unfold lawE at h
      match i with
      | 0 => cases h
      | 1 => cases h
      | i + 2 =>
        rw [List.getElem?_cons_succ, List.getElem?_cons_succ] at h
        obtain ⟨h1, h2⟩ := List.getElem?_eq_some_iff.mp h
        rw [List.getElem_replicate] at h2
        cases h2
    · rcases z with (rfl | rfl) | ⟨q, z⟩
      · rw [ha]; exact ⟨by simp, fun vs z => by cases z⟩
      · rw [hc]; exact ⟨by simp, fun vs z => by cases z⟩
      · obtain ⟨ps, e, _⟩ := ht (b, q) z
        rw [e]; exact ⟨by simp, fun vs z => by cases z⟩
    · exact ⟨⟨rfl, ne, ns, 0, 0, f, ha, hc, Nat.zero_le _, Int.le_refl _, h0, h1⟩, rfl, ht⟩
    · rcases z with (⟨x, y, e, h⟩ | h) | h
      · cases e
        exact .inl h
      · exact .inr h
      · exact h.elim
  · have e : d = .bl true := e
    subst e
    cases r
    exact q H'
end
end DL

set_option Elab.async false
set_option linter.all false
set_option maxRecDepth 100000
set_option maxHeartbeats 4000000
/-! ELh: the transformers as rewriting rules; loops by invariants -/
namespace DL
open PySem PySem.Spec PyProof.Rows L2
def varK (o : Option Slot) (i : Nat) (ρ : En) (k : Kt) (Q : R → En → Kt → Prop) : Prop := match o with
  | some (.val d) => Q (.val d) ρ k
  | some (.own _) => Q (.slot i) ρ k
  | _ => False
def drK : Option Slot → Option D
  | some (.val d) => some d
  | some (.own o) => some o.toD
  | _ => none
def frK (o : Option Slot) (ρ : En) (i : Nat) : Option (D × En) := match o with
  | some (.val d) => some (d, ρ)
  | some (.own o) => some (o.toD, ρ.set i (.val o.toD))
  | _ => none
def cons2 : Option D → Option (List D) → Option (List D)
  | some d, some ds => some (d :: ds)
  | _, _ => none
def frD (d : D) : Option (List D × En) → Option (List D × En)
  | some (ds, ρ2) => some (d :: ds, ρ2)
  | none => none
def frC (o : Option (D × En)) (rs : List R) : Option (List D × En) := match o with
  | some (d, ρ1) => frD d (frzL ρ1 rs)
  | none => none
section
variable {ρ : En} {k : Kt} {Q : R → En → Kt → Prop} {QL : List D → En → Kt → Prop} {QR : List R → En → Kt → Prop} {QT : Bool → En → Kt → Prop} {QG : En → Kt → Prop} {QO : Option Int → En → Kt → Prop} {E : DEnds} {a b c : WE} {t u : WT} {f f' : F2} {wa : WA} {wl : WL}
@[simp] theorem s_Var {i : Nat} : wVar i ρ k Q = varK ρ[i]? i ρ k Q := rfl
@[simp] theorem s_varv {i : Nat} {d : D} : varK (some (.val d)) i ρ k Q = Q (.val d) ρ k := rfl
@[simp] theorem s_varo {i : Nat} {o : OD} : varK (some (.own o)) i ρ k Q = Q (.slot i) ρ k := rfl
@[simp] theorem s_dr1 {d : D} : drK (some (.val d)) = some d := rfl
@[simp] theorem s_dr2 {o : OD} : drK (some (.own o)) = some o.toD := rfl
@[simp] theorem s_toDl {ds : List D} : OD.toD (.l ds) = .lst ds := rfl
@[simp] theorem s_toDk {ks : List Key} {ds : List D} : OD.toD (.k ks ds) = .dK ks ds := rfl
@[simp] theorem s_toDt {ks : List (List Key)} {ds : List D} : OD.toD (.t ks ds) = .dT ks ds := rfl
@[simp] theorem s_toDi {C : Addr} {ns : List Str} {ds : List D} : OD.toD (.i C ns ds) = .ins C ns ds := rfl
@[simp] theorem s_fr1 {i : Nat} {d : D} : frK (some (.val d)) ρ i = some (d, ρ) := rfl
@[simp] theorem s_fr2 {i : Nat} {o : OD} : frK (some (.own o)) ρ i = some (o.toD, ρ.set i (.val o.toD)) := rfl
@[simp] theorem s_c2 {d : D} {ds : List D} : cons2 (some d) (some ds) = some (d :: ds) := rfl
@[simp] theorem s_frC {d : D} {rs : List R} : frC (some (d, ρ)) rs = frD d (frzL ρ rs) := rfl
@[simp] theorem s_frD {d : D} {ds : List D} : frD d (some (ds, ρ)) = some (d :: ds, ρ) := rfl
@[simp] theorem s_C {d : D} : wC d ρ k Q = Q (.val d) ρ k := rfl
@[simp] theorem s_Nil : wNil ρ k QR = QR [] ρ k := rfl
@[simp] theorem s_Cons : wCons a wa ρ k QR = a ρ k fun x ρ1 k1 => wa ρ1 k1 fun xs ρ2 k2 => QR (x :: xs) ρ2 k2 := rfl
@[simp] theorem s_drv {d : D} : deref ρ (.val d) = some d := rfl
@[simp] theorem s_drs {i : Nat} : deref ρ (.slot i) = drK ρ[i]? := rfl
@[simp] theorem s_frv {d : D} : frz ρ (.val d) = some (d, ρ) := rfl
@[simp] theorem s_frs {i : Nat} : frz ρ (.slot i) = frK ρ[i]? ρ i := rfl
@[simp] theorem s_dn : derefL ρ [] = some [] := rfl
@[simp] theorem s_dc {r : R} {rs : List R} : derefL ρ (r :: rs) = cons2 (deref ρ r) (derefL ρ rs) := rfl
@[simp] theorem s_fn : frzL ρ [] = some ([], ρ) := rfl
@[simp] theorem s_fc {r : R} {rs : List R} : frzL ρ (r :: rs) = frC (frz ρ r) rs := rfl
@[simp] theorem s_Op : wOp f a b ρ k Q = a ρ k fun x ρ1 k1 => b ρ1 k1 fun y ρ2 k2 => ∃ d e, deref ρ2 x = some d ∧ deref ρ2 y = some e ∧ f d e fun z => Q (.val z) ρ2 k2 := rfl
@[simp] theorem s_Un {f : F1} : wUn f a ρ k Q = a ρ k fun x ρ1 k1 => ∃ d, deref ρ1 x = some d ∧ f d fun z => Q (.val z) ρ1 k1 := rfl
@[simp] theorem s_Test : wTest a ρ k QT = a ρ k fun x ρ1 k1 => ∃ b, deref ρ1 x = some (.bl b) ∧ QT b ρ1 k1 := rfl
@[simp] theorem s_Chain : wChain f f' a b c ρ k Q = a ρ k fun x ρ1 k1 => b ρ1 k1 fun y ρ2 k2 => ∃ d e, deref ρ2 x = some d ∧ deref ρ2 y = some e ∧ f d e fun z => ∃ t, z = .bl t ∧
  if t = true then c ρ2 k2 fun u ρ3 k3 => ∃ e' g, deref ρ3 y = some e' ∧ deref ρ3 u = some g ∧ f' e' g fun z' => Q (.val z') ρ3 k3 else Q (.val (.bl false)) ρ2 k2 := rfl
@[simp] theorem s_Tru : wTru a ρ k QT = a ρ k fun x ρ1 k1 => ∃ d b, deref ρ1 x = some d ∧ truD d = some b ∧ QT b ρ1 k1 := rfl
@[simp] theorem s_NotT : wNotT t ρ k QT = t ρ k fun b ρ1 k1 => QT (!b) ρ1 k1 := rfl
@[simp] theorem s_AndT : wAndT t u ρ k QT = t ρ k fun c ρ1 k1 => if c = true then u ρ1 k1 QT else QT false ρ1 k1 := rfl
@[simp] theorem s_OrT : wOrT t u ρ k QT = t ρ k fun c ρ1 k1 => if c = true then QT true ρ1 k1 else u ρ1 k1 QT := rfl
@[simp] theorem s_AndV : wAndV a b ρ k Q = a ρ k fun x ρ1 k1 => ∃ c, deref ρ1 x = some (.bl c) ∧ if c = true then b ρ1 k1 Q else Q (.val (.bl false)) ρ1 k1 := rfl
@[simp] theorem s_OrV : wOrV a b ρ k Q = a ρ k fun x ρ1 k1 => ∃ c, deref ρ1 x = some (.bl c) ∧ if c = true then Q (.val (.bl true)) ρ1 k1 else b ρ1 k1 Q := rfl
@[simp] theorem s_NotV : wNotV a ρ k Q = a ρ k fun x ρ1 k1 => ∃ c, deref ρ1 x = some (.bl c) ∧ Q (.val (.bl (!c))) ρ1 k1 := rfl
@[simp] theorem s_IfE : wIfE t a b ρ k Q = t ρ k fun t ρ1 k1 => if t = true then a ρ1 k1 Q else b ρ1 k1 Q := rfl
@[simp] theorem s_CB {f : FN} : wCB f wa ρ k Q = wa ρ k fun rs ρ1 k1 => ∃ ds, derefL ρ1 rs = some ds ∧ f ds fun z => Q (.val z) ρ1 k1 := rfl
@[simp] theorem s_CF {f : FL} : wCF f wa ρ k QL = wa ρ k fun rs ρ1 k1 => ∃ ds, derefL ρ1 rs = some ds ∧ f ds fun zs => QL zs ρ1 k1 := rfl
@[simp] theorem s_New : wNew wl ρ k Q = wl ρ k fun zs ρ1 k1 => Q (.val (.lst zs)) ρ1 k1 := rfl
@[simp] theorem s_Tup : wTup wa ρ k Q = wa ρ k fun rs ρ1 k1 => ∃ ds ρ2, frzL ρ1 rs = some (ds, ρ2) ∧ ds.length ≤ sizeLine ∧ Q (.val (.tup ds)) ρ2 k1 := rfl
@[simp] theorem s_Lst : wLst wa ρ k QL = wa ρ k fun rs ρ1 k1 => ∃ ds ρ2, frzL ρ1 rs = some (ds, ρ2) ∧ ds.length ≤ sizeLine ∧ QL ds ρ2 k1 := rfl
@[simp] theorem s_OpF {f : D → D → (List D → Prop) → Prop} : wOpF f a b ρ k QL = a ρ k fun x ρ1 k1 => b ρ1 k1 fun y ρ2 k2 => ∃ d e, deref ρ2 x = some d ∧ deref ρ2 y = some e ∧ f d e fun z => QL z ρ2 k2 := rfl
@[simp] theorem s_Call {m : Nat} {wf : WF} {dds : List D} : wCall m wf dds wa ρ k Q = wa ρ k fun rs ρ1 k1 => rs.length = m ∧ ∃ ds ρ2, frzL ρ1 rs = some (ds, ρ2) ∧ wf (ds ++ dds) k1 fun d k2 => Q (.val d) ρ2 k2 := rfl
@[simp] theorem s_SeqI : wSeqI a ρ k QL = a ρ k fun r ρ1 k1 => ∃ d ρ2 ds, frz ρ1 r = some (d, ρ2) ∧ itemsD d = some ds ∧ QL ds ρ2 k1 := rfl
@[simp] theorem s_itl {xs : List D} : itemsD (.lst xs) = some xs := rfl
@[simp] theorem s_itt {xs : List D} : itemsD (.tup xs) = some xs := rfl
@[simp] theorem s_Rng1 : wRng1 wa ρ k QL = wa ρ k fun rs ρ1 k1 => ∃ j : Int, derefL ρ1 rs = some [.int j] ∧ -(2 ^ 62) ≤ j ∧ j < 2 ^ 62 ∧ QL (rngD 0 j.toNat 1) ρ1 k1 := rfl
@[simp] theorem s_Rng2 : wRng2 wa ρ k QL = wa ρ k fun rs ρ1 k1 => ∃ i j : Int, derefL ρ1 rs = some [.int i, .int j] ∧ (-(2 ^ 62) ≤ i ∧ i < 2 ^ 62 ∧ -(2 ^ 62) ≤ j ∧ j < 2 ^ 62) ∧ QL (rngD i (j - i).toNat 1) ρ1 k1 := rfl
@[simp] theorem s_Rng3 : wRng3 wa ρ k QL = wa ρ k fun rs ρ1 k1 => ∃ (i j c : Int) (n : Nat), derefL ρ1 rs = some [.int i, .int j, .int c] ∧ RgC i j c n ∧ QL (rngD i n c) ρ1 k1 := rfl
@[simp] theorem s_Zip : wZip wa ρ k QL = wa ρ k fun rs ρ1 k1 => ∃ ds ρ2 xs ys, frzL ρ1 rs = some (ds, ρ2) ∧ zipArgs ds = some (xs, ys) ∧ QL (zipD xs ys) ρ2 k1 := rfl
@[simp] theorem s_za1 {xs ys : List D} : zipArgs [.lst xs, .lst ys] = some (xs, ys) := rfl
@[simp] theorem s_za2 {xs ys : List D} : zipArgs [.tup xs, .tup ys] = some (xs, ys) := rfl
@[simp] theorem s_gNm {i : Nat} {d : D} : gNm i d ρ k QG = QG (ρ.set i (.val d)) k := rfl
@[simp] theorem s_gNil {ds : List D} : gNil ds ρ k QG = (ds = [] ∧ QG ρ k) := rfl
@[simp] theorem s_gCons0 {g : WG} {gs : WGs} : gCons g gs [] ρ k QG = False := rfl
@[simp] theorem s_gCons {g : WG} {gs : WGs} {d : D} {ds : List D} : gCons g gs (d :: ds) ρ k QG = g d ρ k fun ρ1 k1 => gs ds ρ1 k1 QG := rfl
@[simp] theorem s_gTp {n : Nat} {w : WGs} {d : D} : gTp n w d ρ k QG = ∃ ds, d = .tup ds ∧ ds.length = n ∧ w ds ρ k QG := rfl
@[simp] theorem s_gLs {n : Nat} {w : WGs} {d : D} : gLs n w d ρ k QG = ∃ ds, d = .lst ds ∧ ds.length = n ∧ w ds ρ k QG := rfl
@[simp] theorem s_Lc {vs : List Nat} {tg : WG} : wLc vs wl tg t a ρ k QL = wl ρ k fun ds ρ1 k1 => lcW vs tg t a ds [] (wipeE ρ1 vs) (nxk k1) fun zs ρ2 k2 => QL zs ρ2 (rsk k1 k2) := rfl
@[simp] theorem s_Next : wNext E ρ k = E.nx ρ k := rfl
@[simp] theorem s_Seq {a b : WS} : wSeq a b E ρ k = a { E with nx := fun ρ' k' => b E ρ' k' } ρ k := rfl
@[simp] theorem s_Break : wBreak E ρ k = E.bk ρ k := rfl
@[simp] theorem s_Cont : wCont E ρ k = E.ct ρ k := rfl
@[simp] theorem s_Never : wNever E ρ k = False := rfl
@[simp] theorem s_Drop : wDrop a E ρ k = a ρ k fun _ ρ1 k1 => E.nx ρ1 k1 := rfl
@[simp] theorem s_Ret : wRet a E ρ k = a ρ k fun r ρ1 k1 => ∃ d ρ2, frz ρ1 r = some (d, ρ2) ∧ E.rt d k1 := rfl
@[simp] theorem s_RetN : wRetN E ρ k = E.rt .non k := rfl
@[simp] theorem s_If {a b : WS} : wIf t a b E ρ k = t ρ k fun t ρ1 k1 => if t = true then a E ρ1 k1 else b E ρ1 k1 := rfl
@[simp] theorem s_Set {i : Nat} : wSet i a E ρ k = a ρ k fun r ρ1 k1 => ∃ d ρ2, frz ρ1 r = some (d, ρ2) ∧ E.nx (ρ2.set i (.val d)) k1 := rfl
@[simp] theorem s_Asg {g : WG} : wAsg g a E ρ k = a ρ k fun r ρ1 k1 => ∃ d ρ2, frz ρ1 r = some (d, ρ2) ∧ g d ρ2 k1 E.nx := rfl
@[simp] theorem s_SetF {i : Nat} : wSetF i wl E ρ k = wl ρ k fun zs ρ1 k1 => E.nx (ρ1.set i (.own (.l zs))) k1 := rfl
@[simp] theorem s_Aug {i : Nat} : wAug i f a E ρ k = ∃ d, ρ[i]? = some (.val d) ∧ a ρ k fun r ρ1 k1 => ∃ e, deref ρ1 r = some e ∧ f d e fun z => E.nx (ρ1.set i (.val z)) k1 := rfl
@[simp] theorem s_Append {i : Nat} : wAppend i a E ρ k = ((∃ ds, ρ[i]? = some (.own (.l ds))) ∧ a ρ k fun r ρ1 k1 => ∃ y ρ2 ds, frz ρ1 r = some (y, ρ2) ∧ ρ2[i]? = some (.own (.l ds)) ∧ ds.length < sizeLine ∧ E.nx (ρ2.set i (.own (.l (ds ++ [y])))) k1) := rfl
@[simp] theorem s_Extend {i : Nat} : wExtend i a E ρ k = ((∃ ds, ρ[i]? = some (.own (.l ds))) ∧ a ρ k fun r ρ1 k1 => ∃ es ρ2 ds, frz ρ1 r = some (.lst es, ρ2) ∧ ρ2[i]? = some (.own (.l ds)) ∧ ds.length + es.length ≤ sizeLine ∧ E.nx (ρ2.set i (.own (.l (ds ++ es)))) k1) := rfl
@[simp] theorem s_For {g : WG} {b : WS} : wFor wl g b E ρ k = wl ρ k fun ds ρ1 k1 => forW g b E ds ρ1 k1 := rfl
@[simp] theorem s_Par {i j : Nat} : wPar i j a b E ρ k = a ρ k fun r ρ1 k1 => b ρ1 k1 fun r2 ρ2 k2 => ∃ ds ρ3, frzL ρ2 [r, r2] = some (ds, ρ3) ∧ ∃ x y, ds = [x, y] ∧ E.nx ((ρ3.set i (.val x)).set j (.val y)) k2 := rfl
@[simp] theorem s_ParF {i j : Nat} : wParF i j wl b E ρ k = wl ρ k fun zs ρ1 k1 => b ρ1 k1 fun r2 ρ2 k2 => ∃ y ρ3, frz ρ2 r2 = some (y, ρ3) ∧ E.nx ((ρ3.set i (.own (.l zs))).set j (.val y)) k2 := rfl
@[simp] theorem s_NoPart : wNoPart ρ k QO = QO none ρ k := rfl
@[simp] theorem s_Part : wPart a ρ k QO = a ρ k fun r ρ1 k1 => ∃ i, deref ρ1 r = some (.int i) ∧ QO (some i) ρ1 k1 := rfl
@[simp] theorem s_Sl {f : FS} {l u : WO} : wSl f a l u ρ k Q = a ρ k fun x ρ1 k1 => l ρ1 k1 fun lo ρ2 k2 => u ρ2 k2 fun hi ρ3 k3 => ∃ d, deref ρ3 x = some d ∧ f d lo hi fun z => Q (.val z) ρ3 k3 := rfl
@[simp] theorem s_SortRev {b : Bool} : wSortRev b wa ρ k QL = wa ρ k fun rs ρ1 k1 => ∃ xs ns, derefL ρ1 rs = some [.lst xs] ∧ intsD xs = some ns ∧ QL ((if b then (sortUp ns).reverse else sortUp ns).map .int) ρ1 k1 := rfl
@[simp] theorem s_of {n : Nat} {w : WS} {ds : List D} {P : D → Kt → Prop} : wfOf n w ds k P = w { nx := fun _ k' => P .non k', rt := P } (startE n ds) k := rfl
@[simp] theorem s_startE {n : Nat} {ds : List D} : startE n ds = ds.map .val ++ List.replicate (n - ds.length) .un := rfl
@[simp] theorem s_wn : wipeE ρ [] = ρ := rfl
@[simp] theorem s_wc {v : Nat} {vs : List Nat} : wipeE ρ (v :: vs) = (wipeE ρ vs).set v .un := rfl
end
@[simp] theorem s_rsk {k : Kt} : rsk k (nxk k) = k := rfl
@[simp] theorem s_nxk1 {k : Kt} : (nxk k).1 = k.1 := rfl
@[simp] theorem s_nxkp {k : Kt} : (nxk k).2.pen = k.2.pen := rfl
@[simp] theorem s_rsk1 {k k' : Kt} : (rsk k k').1 = k'.1 := rfl
@[simp] theorem s_rskp {k k' : Kt} : (rsk k k').2.pen = k'.2.pen := rfl
@[simp] theorem s_rskx {k k' : Kt} : (rsk k k').2.xc = k.2.xc := rfl
/-! the built-ins -/
section
variable {P : D → Prop} {PL : List D → Prop} {i j : Int} {xs ys : List D} {d e : D}
@[simp] theorem s_add : fAdd (.int i) (.int j) P = P (.int (i + j)) := rfl
@[simp] theorem s_addl : fAdd (.lst xs) (.lst ys) P = (xs.length + ys.length ≤ sizeLine ∧ P (.lst (xs ++ ys))) := rfl
@[simp] theorem s_addt : fAdd (.tup xs) (.tup ys) P = (xs.length + ys.length ≤ sizeLine ∧ P (.tup (xs ++ ys))) := rfl
@[simp] theorem s_cat : fCat (.lst xs) (.lst ys) PL = (xs.length + ys.length ≤ sizeLine ∧ PL (xs ++ ys)) := rfl
@[simp] theorem s_sub : fSub (.int i) (.int j) P = P (.int (i - j)) := rfl
@[simp] theorem s_mul : fMul (.int i) (.int j) P = (CMul i j ∧ P (.int (i * j))) := rfl
@[simp] theorem s_mull : fMul (.lst xs) (.int j) P = ((-(2 ^ 63) ≤ j ∧ j < 2 ^ 63 ∧ xs.length * j.toNat ≤ sizeLine) ∧ P (.lst (List.replicate j.toNat xs).flatten)) := rfl
@[simp] theorem s_mult : fMul (.tup xs) (.int j) P = ((xs ≠ [] ∧ 2 ≤ j ∧ j ≤ 1000 ∧ xs.length ≤ 1000) ∧ P (.tup (List.replicate j.toNat xs).flatten)) := rfl
@[simp] theorem s_rep : fRep (.lst xs) (.int j) PL = ((-(2 ^ 63) ≤ j ∧ j < 2 ^ 63 ∧ xs.length * j.toNat ≤ sizeLine) ∧ PL (List.replicate j.toNat xs).flatten) := rfl
@[simp] theorem s_div : fDiv (.int i) (.int j) P = (CDivN i j ∧ P (.int (i.fdiv j))) := rfl
@[simp] theorem s_mod : fMod (.int i) (.int j) P = (j ≠ 0 ∧ P (.int (i.fmod j))) := rfl
@[simp] theorem s_pow : fPow (.int i) (.int j) P = (CPow i j ∧ P (.int (i ^ j.toNat))) := rfl
@[simp] theorem s_ip {f : Int → Int → Int} : fIpI f (.int i) (.int j) P = P (.int (f i j)) := rfl
@[simp] theorem s_neg : fNeg (.int i) P = P (.int (-i)) := rfl
@[simp] theorem s_cmp {c : Int → Int → Bool} : fCmp c (.int i) (.int j) P = P (.bl (c i j)) := rfl
@[simp] theorem s_eq : fEq d e P = (okD d = true ∧ okD e = true ∧ P (.bl (eqD d e))) := rfl
@[simp] theorem s_ne : fNe d e P = (okD d = true ∧ okD e = true ∧ P (.bl (!eqD d e))) := rfl
@[simp] theorem s_in : fIn d e P = ∃ ys, inOk d e = some ys ∧ P (.bl (memD d ys)) := rfl
@[simp] theorem s_notin : fNotIn d e P = ∃ ys, inOk d e = some ys ∧ P (.bl (!memD d ys)) := rfl
@[simp] theorem s_isN : fIsN d .non P = P (.bl (isNonD d)) := rfl
@[simp] theorem s_notN : fNotN d .non P = P (.bl (!isNonD d)) := rfl
@[simp] theorem s_isNon0 : isNonD .non = true := rfl
@[simp] theorem s_isNon1 : isNonD (.int i) = false := rfl
@[simp] theorem s_isNon2 : isNonD (.lst xs) = false := rfl
@[simp] theorem s_isNon3 : isNonD (.tup xs) = false := rfl
@[simp] theorem s_isNon4 {b : Bool} : isNonD (.bl b) = false := rfl
@[simp] theorem s_isNon5 {x : Str} : isNonD (.str x) = false := rfl
@[simp] theorem s_ix : fIx d (.int i) P = ∃ z, ixD d i = some z ∧ P z := rfl
@[simp] theorem s_ixl : ixD (.lst xs) i = atI xs i := rfl
@[simp] theorem s_ixt : ixD (.tup xs) i = atI xs i := rfl
@[simp] theorem s_sll {lo hi : Option Int} : fSl (.lst xs) lo hi P = P (.lst (cutD xs lo hi)) := rfl
@[simp] theorem s_slt {lo hi : Option Int} : fSl (.tup xs) lo hi P = P (.tup (cutD xs lo hi)) := rfl
@[simp] theorem s_len : fLen [d] P = ∃ n : Nat, lenD d = some n ∧ P (.int n) := rfl
@[simp] theorem s_lenl : lenD (.lst xs) = some xs.length := rfl
@[simp] theorem s_lent : lenD (.tup xs) = some xs.length := rfl
@[simp] theorem s_sum : fSum [d] P = ∃ ns, numsD d = some ns ∧ P (.int ns.sum) := rfl
@[simp] theorem s_numl : numsD (.lst xs) = intsD xs := rfl
@[simp] theorem s_numt : numsD (.tup xs) = intsD xs := rfl
@[simp] theorem s_intsn : intsD [] = some [] := rfl
@[simp] theorem s_intsc : intsD (.int i :: xs) = (intsD xs).map (i :: ·) := rfl
@[simp] theorem s_ints : ∀ ns : List Int, intsD (ns.map .int) = some ns
  | [] => rfl
  | n :: ns => by rw [List.map_cons, s_intsc, s_ints ns]; rfl
@[simp] theorem s_min : fMin [d] P = ∃ ns, numsD d = some ns ∧ ns ≠ [] ∧ P (.int (minZ ns)) := rfl
@[simp] theorem s_max : fMax [d] P = ∃ ns, numsD d = some ns ∧ ns ≠ [] ∧ P (.int (maxZ ns)) := rfl
@[simp] theorem s_any : fAny [.lst xs] P = ∃ bs, blsD xs = some bs ∧ P (.bl (bs.any id)) := rfl
@[simp] theorem s_all : fAll [.lst xs] P = ∃ bs, blsD xs = some bs ∧ P (.bl (bs.all id)) := rfl
@[simp] theorem s_bls0 : blsD [] = some [] := rfl
@[simp] theorem s_blsc {b : Bool} : blsD (.bl b :: xs) = (blsD xs).map (b :: ·) := rfl
@[simp] theorem s_bls : ∀ bs : List Bool, blsD (bs.map .bl) = some bs
  | [] => rfl
  | n :: ns => by rw [List.map_cons, s_blsc, s_bls ns]; rfl
@[simp] theorem s_tupl : fTuple [.lst xs] P = P (.tup xs) := rfl
@[simp] theorem s_tupt : fTuple [.tup xs] P = P (.tup xs) := rfl
@[simp] theorem s_listl : fList [.lst xs] PL = PL xs := rfl
@[simp] theorem s_listt : fList [.tup xs] PL = PL xs := rfl
@[simp] theorem s_inti : fInt [.int i] P = P (.int i) := rfl
@[simp] theorem s_intb {k : Bool} : fInt [.bl k] P = P (.int (if k then 1 else 0)) := rfl
@[simp] theorem s_isi {n : String} : fIsi [d, .ty n] P = ∃ m b, tyD d = some m ∧ kitB m n = some b ∧ P (.bl b) := rfl
@[simp] theorem s_isiT {ts : List D} : fIsiT [d, .tup ts] P = ∃ m ns b, tyD d = some m ∧ tysD ts = some ns ∧ kitAnyB m ns = some b ∧ P (.bl b) := rfl
@[simp] theorem s_ty1 : tyD .non = some "NoneType" := rfl
@[simp] theorem s_ty2 {b : Bool} : tyD (.bl b) = some "bool" := rfl
@[simp] theorem s_ty3 : tyD (.int i) = some "int" := rfl
@[simp] theorem s_ty4 {x : Str} : tyD (.str x) = some "str" := rfl
@[simp] theorem s_ty5 : tyD (.lst xs) = some "list" := rfl
@[simp] theorem s_ty6 : tyD (.tup xs) = some "tuple" := rfl
@[simp] theorem s_tys0 : tysD [] = some [] := rfl
@[simp] theorem s_tysc {n : String} : tysD (.ty n :: xs) = (tysD xs).map (n :: ·) := rfl
@[simp] theorem s_kl : kitAnyB "list" ["list", "tuple"] = some true := by decide +kernel
@[simp] theorem s_kt : kitAnyB "tuple" ["list", "tuple"] = some true := by decide +kernel
@[simp] theorem s_ki : kitB "int" "int" = some true := by decide +kernel
@[simp] theorem s_kib : kitB "int" "bool" = some false := by decide +kernel
@[simp] theorem s_revl : fRev (.lst xs) P = P (.lst xs.reverse) := rfl
@[simp] theorem s_revt : fRev (.tup xs) P = P (.tup xs.reverse) := rfl
@[simp] theorem s_trub {b : Bool} : truD (.bl b) = some b := rfl
@[simp] theorem s_trui : truD (.int i) = some (i != 0) := rfl
@[simp] theorem s_trul : truD (.lst xs) = some (!xs.isEmpty) := rfl
@[simp] theorem s_trut : truD (.tup xs) = some (!xs.isEmpty) := rfl
@[simp] theorem s_trun : truD .non = some false := rfl
end
@[simp] theorem ex2 {α β : Type} {a : α} {b : β} {P : α → β → Prop} : (∃ x y, (a = x ∧ b = y) ∧ P x y) ↔ P a b := ⟨fun ⟨_, _, ⟨h1, h2⟩, h⟩ => by subst h1; subst h2; exact h, fun h => ⟨_, _, ⟨rfl, rfl⟩, h⟩⟩
@[simp] theorem s_flati {i : Int} : flatD (.int i) = true := rfl
@[simp] theorem s_inl {x : D} {ys : List D} : inOk x (.lst ys) = (if (flatD x && ys.all flatD) || (okD x && okD (.lst ys)) then some ys else none) := rfl
@[simp] theorem s_int {x : D} {ys : List D} : inOk x (.tup ys) = (if flatD x && ys.all flatD then some ys else none) := rfl
@[simp] theorem s_mem {x : D} {ys : List D} : memD x ys = ys.any fun y => eqD y x := rfl
/-! equality -/
@[simp] theorem okD_int (i : Int) : okD (.int i) = true := by simp [okD, isPy, py, SeqAt.shaped, PyData.canLay0, PyData.depth]
@[simp] theorem okD_bl (i : Bool) : okD (.bl i) = true := by simp [okD, isPy, py, SeqAt.shaped, PyData.canLay0, PyData.depth]
@[simp] theorem okD_non : okD .non = true := by simp [okD, isPy, py, SeqAt.shaped, PyData.canLay0, PyData.depth]
@[simp] theorem eqD_int (i j : Int) : eqD (.int i) (.int j) = decide (i = j) := by simp [eqD, py, PyData.eqv]; rfl
theorem isPyL_ints : ∀ xs : List Int, isPyL (xs.map D.int) = true
  | [] => rfl
  | x :: r => by rw [List.map_cons, isPyL, isPyL_ints r]; rfl
theorem canLay_ints : ∀ xs : List Int, PyData.canLayAll0 (pyL (xs.map D.int)) = true
  | [] => rfl
  | x :: r => by rw [List.map_cons, pyL, PyData.canLayAll0, canLay_ints r]; rfl
theorem depth_ints : ∀ xs : List Int, PyData.depthAll (pyL (xs.map D.int)) = 0
  | [] => rfl
  | x :: r => by rw [List.map_cons, pyL, PyData.depthAll, depth_ints r]; rfl
@[simp] theorem okD_lints (xs : List Int) : okD (.lst (xs.map .int)) = true := by simp [okD, isPy, isPyL_ints, py, SeqAt.shaped, PyData.canLay0, canLay_ints, PyData.depth, depth_ints]
@[simp] theorem okD_tints (xs : List Int) : okD (.tup (xs.map .int)) = true := by simp [okD, isPy, isPyL_ints, py, SeqAt.shaped, PyData.canLay0, canLay_ints, PyData.depth, depth_ints]
theorem eqvAll_ints : ∀ xs ys : List Int, PyData.eqvAll (pyL (xs.map D.int)) (pyL (ys.map D.int)) = decide (xs = ys)
  | [], [] => rfl
  | [], _ :: _ => rfl
  | _ :: _, [] => rfl
  | x :: xs, y :: ys => by
    rw [List.map_cons, List.map_cons, pyL, pyL, PyData.eqvAll, eqvAll_ints xs ys, py, py, PyData.eqv]
    by_cases h : x = y <;> by_cases h' : xs = ys <;> simp [h, h']
@[simp] theorem eqD_lints (xs ys : List Int) : eqD (.lst (xs.map .int)) (.lst (ys.map .int)) = decide (xs = ys) := by rw [eqD, py, py, PyData.eqv, eqvAll_ints]
@[simp] theorem eqD_tints (xs ys : List Int) : eqD (.tup (xs.map .int)) (.tup (ys.map .int)) = decide (xs = ys) := by rw [eqD, py, py, PyData.eqv, eqvAll_ints]
/-! places -/
/-! loops -/
def lcStep (vs : List Nat) (tg : WG) (ts : WT) (el : WE) (d : D) (ρ : En) (k : Kt) (Q : Option D → En → Kt → Prop) : Prop := tg d ρ k fun ρ1 k1 => ts ρ1 k1 fun b ρ2 k2 => if b = true then el ρ2 k2 fun r ρ3 k3 => ∃ y ρ4, frz ρ3 r = some (y, ρ4) ∧ Q (some y) (wipeE ρ4 vs) k3 else Q none (wipeE ρ2 vs) k2
/-- a comprehension over mapped things, into mapped things -/
theorem lc_map {α β : Type} {vs : List Nat} {tg : WG} {ts : WT} {el : WE} {ρ : En} {k : Kt} {xs : List α} {Q : List D → En → Kt → Prop} (u : α → D) (v : β → D) (g : α → β) (hl : xs.length ≤ sizeLine) (h : ∀ x ∈ xs, ∀ R : Option D → En → Kt → Prop, R (some (v (g x))) ρ k → lcStep vs tg ts el (u x) ρ k R) (q : Q ((xs.map g).map v) ρ k) : lcW vs tg ts el (xs.map u) [] ρ k Q := by
  have key : ∀ (xs : List α) (acc : List D), acc.length + xs.length ≤ sizeLine → (∀ x ∈ xs, ∀ R : Option D → En → Kt → Prop, R (some (v (g x))) ρ k → lcStep vs tg ts el (u x) ρ k R) → Q (acc ++ (xs.map g).map v) ρ k → lcW vs tg ts el (xs.map u) acc ρ k Q := by
    intro xs
    induction xs with
    | nil => intro acc _ _ q; rw [List.map_nil, List.map_nil, List.append_nil] at q; exact q
    | cons x xs ih =>
      intro acc hl h q
      rw [List.length_cons] at hl
      have s := h x List.mem_cons_self (fun o ρ' k' => match o with
        | some y => acc.length < sizeLine ∧ lcW vs tg ts el (xs.map u) (acc ++ [y]) ρ' k' Q
        | none => lcW vs tg ts el (xs.map u) acc ρ' k' Q) ?_
      · exact s
      · exact ⟨by omega, ih (acc ++ [v (g x)]) (by rw [List.length_append]; simp; omega) (fun x hx => h x (List.mem_cons_of_mem _ hx)) (by rw [List.append_assoc]; exact q)⟩
  exact key xs [] (by rw [List.length_nil]; omega) h q
/-- a loop with an invariant over what is left -/
theorem for_inv {g : WG} {b : WS} {E : DEnds} (I : List D → En → Kt → Prop) (step : ∀ (d : D) (rest : List D) (ρ : En) (k : Kt) (N : En → Kt → Prop), I (d :: rest) ρ k → (∀ ρ' k', I rest ρ' k' → N ρ' k') → g d ρ k fun ρ1 k1 => b { nx := N, rt := E.rt, bk := E.nx, ct := N } ρ1 k1) (fin : ∀ ρ k, I [] ρ k → E.nx ρ k) : ∀ (ds : List D) (ρ : En) (k : Kt), I ds ρ k → forW g b E ds ρ k
  | [], ρ, k, h => fin ρ k h
  | d :: ds, ρ, k, h => by
    have s := step d ds ρ k (fun ρ2 k2 => forW g b E ds ρ2 k2) h fun ρ' k' h' => for_inv I step fin ds ρ' k' h'
    exact s
/-- the same over mapped things, where the state stays -/
theorem for_map {α : Type} {g : WG} {b : WS} {E : DEnds} {k : Kt} (u : α → D) (I : List α → En → Prop) (step : ∀ (x : α) (rest : List α) (ρ : En) (N : En → Kt → Prop), I (x :: rest) ρ → (∀ ρ', I rest ρ' → N ρ' k) → g (u x) ρ k fun ρ1 k1 => b { nx := N, rt := E.rt, bk := E.nx, ct := N } ρ1 k1) (fin : ∀ ρ, I [] ρ → E.nx ρ k) : ∀ (xs : List α) (ρ : En), I xs ρ → forW g b E (xs.map u) ρ k
  | [], ρ, h => fin ρ h
  | x :: xs, ρ, h => by
    have s := step x xs ρ (fun ρ2 k2 => forW g b E (xs.map u) ρ2 k2) h fun ρ' h' => for_map u I step fin xs ρ' h'
    exact s
/-- a comprehension that filters, over mapped things, into mapped things -/
theorem lc_filt {α β : Type} {vs : List Nat} {tg : WG} {ts : WT} {el : WE} {ρ : En} {k : Kt} {xs : List α} {Q : List D → En → Kt → Prop} (u : α → D) (v : β → D) (g : α → Option β) (hl : xs.length ≤ sizeLine) (h : ∀ x ∈ xs, ∀ R : Option D → En → Kt → Prop, R ((g x).map v) ρ k → lcStep vs tg ts el (u x) ρ k R) (q : Q ((xs.filterMap g).map v) ρ k) : lcW vs tg ts el (xs.map u) [] ρ k Q := by
  have key : ∀ (xs : List α) (acc : List D), acc.length + xs.length ≤ sizeLine → (∀ x ∈ xs, ∀ R : Option D → En → Kt → Prop, R ((g x).map v) ρ k → lcStep vs tg ts el (u x) ρ k R) → Q (acc ++ (xs.filterMap g).map v) ρ k → lcW vs tg ts el (xs.map u) acc ρ k Q := by
    intro xs
    induction xs with
    | nil => intro acc _ _ q; rw [List.filterMap_nil, List.map_nil, List.append_nil] at q; exact q
    | cons x xs ih =>
      intro acc hl h q
      rw [List.length_cons] at hl
      have s := h x List.mem_cons_self (fun o ρ' k' => match o with
        | some y => acc.length < sizeLine ∧ lcW vs tg ts el (xs.map u) (acc ++ [y]) ρ' k' Q
        | none => lcW vs tg ts el (xs.map u) acc ρ' k' Q) ?_
      · exact s
      · cases e : g x with
        | none =>
          rw [List.filterMap_cons_none e] at q
          exact ih acc (by omega) (fun x hx => h x (List.mem_cons_of_mem _ hx)) q
        | some y =>
          rw [List.filterMap_cons_some e] at q
          exact ⟨by omega, ih (acc ++ [v y]) (by rw [List.length_append]; simp; omega) (fun x hx => h x (List.mem_cons_of_mem _ hx)) (by rw [List.append_assoc]; exact q)⟩
  exact key xs [] (by rw [List.length_nil]; omega) h q
theorem l_c {vs : List Nat} {tg : WG} {ts : WT} {el : WE} {d : D} {ds acc : List D} {ρ : En} {k : Kt} {Q : List D → En → Kt → Prop} : lcW vs tg ts el (d :: ds) acc ρ k Q = tg d ρ k fun ρ1 k1 => ts ρ1 k1 fun b ρ2 k2 => if b = true then el ρ2 k2 fun r ρ3 k3 => ∃ y ρ4, frz ρ3 r = some (y, ρ4) ∧ acc.length < sizeLine ∧ lcW vs tg ts el ds (acc ++ [y]) (wipeE ρ4 vs) k3 Q
      else lcW vs tg ts el ds acc (wipeE ρ2 vs) k2 Q := rfl
theorem l_n {vs : List Nat} {tg : WG} {ts : WT} {el : WE} {acc : List D} {ρ : En} {k : Kt} {Q : List D → En → Kt → Prop} : lcW vs tg ts el [] acc ρ k Q = Q acc ρ k := rfl
theorem sz {n : Nat} (h : n ≤ 16777216) : n ≤ sizeLine := by rw [sizeLine_eq]; exact h
theorem cut_from (xs : List D) (n : Nat) : cutD xs (some (n : Int)) none = xs.drop n := by
  unfold cutD
  rw [HT.sIx_nat, HT.sIx_none]
  by_cases h : n ≤ xs.length
  · rw [Nat.min_eq_left h, List.take_of_length_le (by rw [List.length_drop]; omega)]
  · rw [Nat.min_eq_right (by omega), List.drop_of_length_le (Nat.le_refl _), List.drop_of_length_le (by omega), List.take_nil]
theorem atI_z {α : Type} {xs : List α} {n : Nat} {i : Int} {x : α} (e : i = (n : Int)) (h : xs[n]? = some x) : atI xs i = some x := by rw [e]; exact atI_nat h
theorem t_draw {a : Addr} {n : Int} {k : Kt} {P : D → Kt → Prop} (hk : k.2.pen = some a) (h0 : 0 < n) (h1 : n < 1073741824) (hc : k.1 < 1000000000000) (h : ∀ x : Int, 0 ≤ x → x < n → P (.int x) (k.1 + 1, k.2)) : wfDraw [.obj a, .int n] k P :=
  ⟨a, n, rfl, hk, h0, h1, hc, h⟩
theorem ofInts : ∀ {ys : List D} {p : Int → Prop}, (∀ y ∈ ys, ∃ x, y = .int x ∧ p x) → ∃ ns : List Int, ys = ns.map .int ∧ ns.length = ys.length ∧ ∀ n ∈ ns, p n
  | [], _, _ => ⟨[], rfl, rfl, fun _ h => by cases h⟩
  | y :: ys, p, h => by
    obtain ⟨x, rfl, hx⟩ := h y List.mem_cons_self
    obtain ⟨ns, rfl, e, hn⟩ := ofInts (ys := ys) (p := p) fun z hz => h z (List.mem_cons_of_mem _ hz)
    exact ⟨x :: ns, rfl, by rw [List.length_cons, List.length_cons, e], fun n hn' => by
      rcases List.mem_cons.mp hn' with rfl | h'
      · exact hx
      · exact hn n h'⟩
end DL

set_option Elab.async false
set_option linter.all false
set_option maxRecDepth 100000
set_option maxHeartbeats 1000000
/-! ELi: instances of the program's classes: fields read, fields stored in __init__, C(..) -/
namespace DL
open PySem PySem.Spec PyProof.Rows L2
theorem zip_lookup {B : Addr → Prop} {H : Hp} {f : Str} {d : D} : ∀ {ns : List Str} {vs : List V} {ds : List D}, RepL B H vs ds → (ns.zip ds).lookup f = some d → ∃ v, (ns.zip vs).lookup f = some v ∧ Rep B H v d
  | [], _, _, _, h => by simp at h
  | n :: ns, _, _, .nil, h => by simp at h
  | n :: ns, v :: vs, e :: ds, .cons r t, h => by
    rw [List.zip_cons_cons, List.lookup_cons] at h
    rw [List.zip_cons_cons, List.lookup_cons]
    by_cases hf : (f == n) = true
    · rw [hf] at h ⊢
      cases h
      exact ⟨v, rfl, r⟩
    · have hf : (f == n) = false := by simpa using hf
      rw [hf] at h ⊢
      exact zip_lookup t h
theorem RepS.ins {B : Addr → Prop} {H : Hp} {v : V} {C : Addr} {ns : List Str} {ds : List D} (h : RepS B H v (.ins C ns ds)) : ∃ a dx vs, v = .ref a ∧ H a = some (.ins C dx (ns.zip vs)) ∧ ns.length = vs.length ∧ RepL B H vs ds := by
  cases h with
  | any h => cases h with | ins h1 h2 e1 e2 h3 => exact ⟨_, _, _, rfl, by rw [h2, e1], e2, h3⟩
  | own h1 h2 e => cases h2 with
    | l r => cases e
    | k _ r => cases e
    | t _ r => cases e
    | i l r => cases e; exact ⟨_, _, _, rfl, h1, l, r⟩
section
variable {X : Cx} {pos ps' : Pos}
/-- e.f -/
def wFld (C : Addr) (f : Str) (a : WE) : WE := fun ρ k Q => a ρ k fun r ρ1 k1 => ∃ ns ds d, deref ρ1 r = some (.ins C ns ds) ∧ (ns.zip ds).lookup f = some d ∧ Q (.val d) ρ1 k1
theorem de_fld {C : Addr} {e : Expr} {f : Str} {w : WE} (h : DE X e w) (c : Cls X.K C) (n : NoAttr X.K C f) (hb : attributeBase e f X.env (eval e X.env) = eval e X.env) : DE X (.Attribute e f pos) (wFld C f w) := by
  obtain ⟨t, pe, rr⟩ := h
  refine ⟨_, pe_fld pe hb, fun O p _ ρ k σ H Q J I h g => ?_⟩
  refine rr O p ρ k σ H _ _ I h fun v H1 r ρ1 k1 I1 s1 q1 h1 => ?_
  obtain ⟨ns, ds, d, e1, e2, h1⟩ := h1
  obtain ⟨a, dx, vs, rfl, ea, _, rl⟩ := (deref_ok I1 q1 e1).ins
  obtain ⟨u, e3, ru⟩ := zip_lookup rl e2
  exact ⟨a, C, dx, _, u, rfl, ea, c, n, e3, g u H1 (.val d) ρ1 k1 I1 s1 ru h1⟩
theorem putF_zip {f : Str} {v : V} : ∀ {ns : List Str} {vs : List V}, f ∉ ns → ns.length = vs.length → putF f v (ns.zip vs) = (ns ++ [f]).zip (vs ++ [v])
  | [], [], _, _ => rfl
  | [], _ :: _, _, h => by simp at h
  | _ :: _, [], _, h => by simp at h
  | n :: ns, w :: vs, h, e => by
    have hn : ¬ n = f := fun z => h (by rw [z]; exact List.mem_cons_self)
    rw [List.zip_cons_cons, putF, if_neg hn, putF_zip (fun z => h (List.mem_cons_of_mem _ z)) (by simpa using e)]
    rfl
/-- self.f = e, where self is being made -/
def wPutF (i : Nat) (C : Addr) (f : Str) (a : WE) : WS := fun E ρ k => a ρ k fun r ρ1 k1 => ∃ y ρ2 ns ds, frz ρ1 r = some (y, ρ2) ∧ ρ2[i]? = some (.own (.i C ns ds)) ∧ f ∉ ns ∧ ns.length < 1000 ∧ E.nx (ρ2.set i (.own (.i C (ns ++ [f]) (ds ++ [y])))) k1
theorem ds_putF (i : Nat) {C : Addr} {x f : Str} {e : Expr} {w : WE} {p1 p2 : Pos} (hN : X.N[i]? = some x) (hv : Vis X.env.scope x := by first | exact Or.inl rfl | exact Or.inr (Or.inl rfl) | exact Or.inr (Or.inr rfl)) (h : DE X e w) (c : Cls X.K C) (n : NoAttr X.K C f)
    (hs : swapsWith e (some (.Attribute (.Name x p1) f p2)) pos.line X.env = pure false := by rfl) (hd : (x == ("__debug__" : Str)) = false := by decide) (hcd : (x == ("__classdict__" : Str)) = false := by decide) : DS X (.Assign [.Attribute (.Name x p1) f p2] e pos) (wPutF i C f w) := by
  obtain ⟨t, pe, rr⟩ := h
  refine ⟨_, ps_fld (pe_var (i := i) hN hv hd hcd) pe hs, fun O p _ ρ k σ H E F I h e => ?_⟩
  refine rr O p ρ k σ H _ _ I h fun v H1 r ρ1 k1 I1 s1 q1 h1 => ?_
  obtain ⟨y, ρ2, ns, ds, e1, e2, hf, hl, h1⟩ := h1
  obtain ⟨I2, s2, r2⟩ := frz_ok I1 q1 e1
  obtain ⟨a, o, ea, ha, _, ro⟩ := I2.own i _ e2
  cases ro with
  | i el rl =>
    rename_i dx vs
    refine ⟨_, ea, a, C, dx, _, rfl, ha, c, n, by rw [List.length_zip, ← el, Nat.min_self]; exact hl, ?_⟩
    rw [putF_zip hf el]
    obtain ⟨I3, s3⟩ := I2.ownWrite (es := .i C (ns ++ [f]) (ds ++ [y])) (ws := .ins C dx ((ns ++ [f]).zip (vs ++ [v]))) e2 ea (.i (by rw [List.length_append, List.length_append, el]; rfl) (rl.append (.cons r2 .nil))) (fun _ _ _ _ => ⟨_, _, _, rfl⟩)
    exact e.nx _ _ _ _ I3 ((s1.trans s2 I1.pn).trans s3 I2.pn) h1
end
/-! ### C(..) -/
/-- what __init__ promises: the arguments behind self, what the instance then is -/
def spI (C : Addr) (n : Nat) (wf : WF) : Sp := fun vs H Q E => ∃ (x dx : Addr) (us : List V), vs = .ref x :: us ∧ us.length = n ∧ H x = some (.ins C dx []) ∧ ∃ (O : Addr → Prop) (p : Pn) (k : Kt) (ds : List D) (P : D → Kt → Prop), RepL (fun a => O a ∨ a = x) H us ds ∧ (∀ a, O a → H a ≠ none ∧ ∀ us, H a ≠ some (.tup us)) ∧ ¬ O x ∧ penI p k H ∧ (∀ a, penC p a → O a) ∧ k.2.xc = p.xc ∧ wf ds k P ∧
  (∀ H' dx' ns ws es k', (∀ a o, H a = some o → ¬ penA p a → a ≠ x → H' a = some o) → penI p k' H' → k'.2.xc = p.xc → H' x = some (.ins C dx' (ns.zip ws)) → ns.length = ws.length → RepL (fun a => O a ∨ a = x) H' ws es → P (.ins C ns es) k' → Q .non H') ∧
  ∀ y cls d k' H', (∀ a o, H a = some o → ¬ penA p a → a ≠ x → H' a = some o) → penI p k' H' → RepX p.hb H' cls d y → p.xc y k'.1 → E cls d H'
def startI (C : Addr) (N : Nat) (ds : List D) : En := .own (.i C [] []) :: (ds.map .val ++ List.replicate (N - 1 - ds.length) .un)
def wfI (C : Addr) (N : Nat) (w : WS) : WF := fun ds k P => w { nx := fun ρ k' => ∃ ns es, ρ[0]? = some (.own (.i C ns es)) ∧ P (.ins C ns es) k', rt := fun _ _ => False } (startI C N ds) k
theorem startI_own {C : Addr} {N : Nat} {ds : List D} {i : Nat} {o : OD} (h : (startI C N ds)[i]? = some (.own o)) : i = 0 ∧ o = .i C [] [] := by
  unfold startI at h
  match i with
  | 0 => cases h; exact ⟨rfl, rfl⟩
  | i + 1 =>
    rw [List.getElem?_cons_succ] at h
    by_cases hi : i < (ds.map Slot.val).length
    · rw [List.getElem?_append_left hi, List.getElem?_map] at h
      cases q : ds[i]? with
      | none => rw [q] at h; cases h
      | some x => rw [q] at h; cases h
    · rw [List.getElem?_append_right (by omega)] at h
      obtain ⟨h1, h2⟩ := List.getElem?_eq_some_iff.mp h
      rw [List.getElem_replicate] at h2
      cases h2
theorem startI_val {C : Addr} {N : Nat} {ds : List D} {i : Nat} {d : D} (h : (startI C N ds)[i]? = some (.val d)) : ∃ j, i = j + 1 ∧ ds[j]? = some d := by
  unfold startI at h
  match i with
  | 0 => cases h
  | i + 1 =>
    rw [List.getElem?_cons_succ] at h
    by_cases hi : i < (ds.map Slot.val).length
    · rw [List.getElem?_append_left hi, List.getElem?_map] at h
      cases q : ds[i]? with
      | none => rw [q] at h; cases h
      | some x => rw [q] at h; cases h; exact ⟨i, rfl, q⟩
    · rw [List.getElem?_append_right (by omega)] at h
      obtain ⟨h1, h2⟩ := List.getElem?_eq_some_iff.mp h
      rw [List.getElem_replicate] at h2
      cases h2
/-- a body that makes an instance -/
theorem init_ok {X : Cx} {E : XK} {body : List Stmt} {N : List Str} {n : Nat} {wb : WS} {vs : List V} {H : Hp} {Q : VK} {C : Addr} (tk : Takes X (fun cls d _ H => E cls d H)) (hb : DSs X body wb) (h : spI C n (wfI C N.length wb) vs H Q E) :
    ∃ t, PSs X body t ∧ t { nx := fun _ H' => Q .non H', rt := Q } (L2.start N vs) H := by
  obtain ⟨x, dx, us, rfl, hl, hx, O, p, c, ds, P', r, ot, nO, pn, po, kx, hwf, q, qx⟩ := h
  obtain ⟨t, ps', rr⟩ := hb
  let p1 : Pn := { p with base := fun a => if a = x then none else H a, self := some x }
  have xl : XL X p1 := ⟨fun y k cls d σ H' pn' kp rx hx => wx_of tk (qx y cls d k H' (fun a o h n1 n2 => kp a o (by show (if a = x then none else H a) = some o; rw [if_neg n2]; exact h) n1) pn' rx hx)⟩
  have st0 : (L2.start N (.ref x :: us))[0]? = some (some (V.ref x)) := rfl
  have ow : ∀ a, Own (startI C N.length ds) (L2.start N (.ref x :: us)) a → a = x := fun a ⟨i, o, h1, h2⟩ => by
    obtain ⟨rfl, rfl⟩ := startI_own h1
    rw [st0] at h2
    cases h2
    rfl
  have bn : ∀ a, Bn O (startI C N.length ds) (L2.start N (.ref x :: us)) a → (O a ∨ a = x) ∨ H a = none := fun a z => .inl (z.imp id (ow a))
  have I : Rel O p1 (startI C N.length ds) c (L2.start N (.ref x :: us)) H := ⟨by
      unfold startI L2.start
      simp only [List.length_cons, List.length_append, List.length_map, List.length_replicate]
      rw [← r.length]
      omega, fun i d h => by
      obtain ⟨j, rfl, hj⟩ := startI_val h
      obtain ⟨v, e, q⟩ := r.get (i := j) hj
      refine ⟨v, ?_, q.mono (fun _ _ h _ => h) bn⟩
      unfold L2.start
      have hi : j + 1 < (V.ref x :: us).length := by have := (List.getElem?_eq_some_iff.mp e).1; simp; omega
      rw [List.getElem?_append_left (by rw [List.length_map]; exact hi), List.getElem?_map, List.getElem?_cons_succ, e]
      rfl, fun i o h => by
      obtain ⟨rfl, rfl⟩ := startI_own h
      exact ⟨x, _, st0, hx, nO, .i (ns := []) (vs := []) rfl .nil⟩, fun i j a ds es h1 h2 _ _ => by rw [(startI_own h1).1, (startI_own h2).1], ot, pn, po, kx, fun a o h _ => by
      have h : (if a = x then none else H a) = some o := h
      split at h
      · cases h
      · exact h, fun a z => by
      show (if a = x then none else H a) = none
      rw [if_pos (ow a z)], fun i C' ns es a h h2 => by
      obtain ⟨rfl, _⟩ := startI_own h
      rw [st0] at h2
      cases h2
      rfl⟩
  refine ⟨t, ps', rr O p1 _ c _ H _ _ I hwf ⟨fun ρ' k' σ' H' I' s' h' => ?_, fun _ _ _ _ _ _ _ _ z => z.elim, fun _ _ _ _ _ _ z => z.elim, fun _ _ _ _ _ _ z => z.elim⟩⟩
  obtain ⟨ns, es, e0, hP⟩ := h'
  obtain ⟨a, o, ea, ha, nOa, ro⟩ := I'.own 0 _ e0
  have ex : a = x := by
    have z : some x = some a := I'.sf 0 C ns es a e0 ea
    cases z
    rfl
  subst ex
  cases ro with
  | i el rl =>
    rename_i dx' ws
    refine q H' dx' ns ws es k' (fun b o h n1 n2 => s'.kp b o h n1 fun z => n2 (ow b z)) I'.pn I'.kx ha el (rl.mono (fun _ _ h _ => h) fun b z => .inl ?_) hP
    rcases z with z | z
    · exact .inl z
    · exact .inr ⟨0, _, e0, by rw [z]; exact ea⟩
section
variable {P : Program} {w : World} {K : PySem.W.Frag} {mg : Str → Option Value} {base : Heap}
theorem fnInit {x qual : Str} {st : Stmt} {f : Addr} {fd : FuncData} {N ps : List Str} {k : Nat} {n : Nat} {wb : WS} {C : Addr} (F : Fun K x qual st f fd) (S : FnScope N ps (defScope st)) (hn : n + 1 = ps.length)
    (hbody : ∀ (cdv : Value) (A : Around) (outer : List Env) (s : Shared) (H : Hp) (E : XK), Room k (A.deeper (envOfC qual (defScope st) s.heap.objs.size f cdv)) → DSs (cxOf (L2.CX P w) P w K mg base N qual (defScope st) f cdv A outer s H E) (defBody st) wb) : FnOk P w K mg base (L2.CX P w) (k + 1) f fd ps (spI C n (wfI C N.length wb)) :=
  F.okX S (fun vs H Q E h => by obtain ⟨_, _, us, rfl, h, _⟩ := h; rw [List.length_cons, h, hn]) fun cdv A outer s H vs Q E hr h => init_ok (L2.takes_of rfl rfl rfl rfl) (hbody cdv A outer s H E hr) h
end
section
variable {X : Cx} {pos : Pos} {k0 : Nat} {f C : Addr} {fd : FuncData} {ps : List Str} {dvs : List V} {dus : List Value} {dds : List D} {n : Nat} {wf : WF} {x : Str} {ps' : Pos} {e : Expr} {es : List Expr} {wa : WA}
theorem de_make (M : Mk X.K C f) (F : FnOk X.prog X.w X.K X.mg X.base (L2.CX X.prog X.w) k0 f fd ps (spI C n wf)) (hr : Room (k0 + 1) X.A) (hg : Gl X x) (hm : X.mg x = some (.ref C)) (hb : Binds X.K fd ps dus) (hd : Vals dvs dus)
    (hdd : ∀ B H, RepL B H dvs dds) (hn : (e :: es).length + dvs.length = n) (ha : DA X (e :: es) wa) (hdb : (x == ("__debug__" : Str)) = false := by decide) (he : starEach (e :: es) X.env = (false, eval e X.env) :: starEach es X.env := by rfl) (hpl : (backTo pos (starEach es X.env)).any (·.1) = false := by rfl) : DE X (.Call (.Name x ps') (e :: es) [] pos) (wCall (es.length + 1) wf dds wa) := by
  obtain ⟨ta, pa, ra⟩ := ha
  refine ⟨_, pe_make M F hr hg hm hb hd passX pa hdb he hpl, fun O p _ ρ k σ H Q J I h g => ?_⟩
  refine ra O p ρ k σ H _ _ I h fun vs H1 rs ρ1 k1 I1 s1 q1 h1 => ?_
  obtain ⟨hlen, ds, ρ2, e1, h1⟩ := h1
  obtain ⟨I2, s2, r2⟩ := frzL_ok I1 q1 e1
  have xl : XL X p := inferInstance
  intro x dx hx hdx ne
  have x2 : AExt H1 (upd (upd H1 dx (.own x)) x (.ins C dx [])) := (AExt.upd hdx).trans (AExt.upd (by rw [upd_ne (Ne.symm ne)]; exact hx))
  have I3 := I2.ext x2
  have nb : ¬ Bn O ρ2 σ x := fun z => I2.bt x z hx
  refine ⟨x, dx, vs ++ dvs, rfl, by rw [List.length_append, Paired.length q1, hlen]; exact hn, upd_same, Bn O ρ2 σ, p, k1, ds ++ dds, _, (r2.append (hdd _ _)).mono (fun a o h _ => x2 a o h) (fun a z => z.elim .inl fun z => .inr (by rw [z]; exact hx)), I3.btn, nb, I3.pn, fun a z => .inl (I3.po a z), I3.kx, h1, fun H' dx' ns ws es' k' kp pn kx hx' hl rr hP => ⟨rfl, ?_⟩, fun y cls d k' H' kp pn rx hxx σ' => xl.go y k' cls d σ' H' pn (fun a o h n => kp a o (I3.bs a o h n) n fun z => by rw [z, I2.fresh hx] at h; cases h) rx hxx⟩
  have npx : ¬ penB p x := fun z => I2.pn.there z hx
  have keep : ∀ a o, upd (upd H1 dx (.own x)) x (.ins C dx []) a = some o → ¬ penB p a → a ≠ x → H' a = some o := fun a o h n => kp a o h fun z => n (penB.of z)
  have keep1 : ∀ a o, H1 a = some o → ¬ penA p a → ¬ Own ρ2 σ a → H' a = some o := fun a o h n1 _ => kp a o (x2 a o h) n1 fun z => by rw [z, hx] at h; cases h
  have tr : ∀ a, H1 a ≠ none → H' a ≠ none := fun a h => by
    by_cases hp : penA p a
    · exact pn.there (penB.of hp)
    · cases q : H1 a with
      | none => exact absurd q h
      | some o => rw [kp a o (x2 a o q) hp fun z => by rw [z, hx] at q; cases q]; simp
  have trn : ∀ a, (H1 a ≠ none ∧ ∀ us, H1 a ≠ some (.tup us)) → (H' a ≠ none ∧ ∀ us, H' a ≠ some (.tup us)) := fun a h => by
    by_cases hp : penA p a
    · exact pn.nt (penB.of hp)
    · cases q : H1 a with
      | none => exact absurd q h.1
      | some o => rw [kp a o (x2 a o q) hp fun z => by rw [z, hx] at q; cases q]; exact nt_kept h q
  have s3 : Step p ρ2 σ H1 ρ2 σ H' := ⟨keep1, fun _ z => .inl z, tr⟩
  have I4 : Rel O p ρ2 k' σ H' := ⟨I2.len, fun i d h => let ⟨v, e, q⟩ := I2.val i d h; ⟨v, e, Rep.step I2 s3 q⟩,
    fun i ds h => let ⟨a, o, e1, e2, e3, q⟩ := I2.own i ds h; ⟨a, o, e1, kp a o (x2 a o e2) (fun z => e3 (I2.po a (.inl (penB.of z)))) (fun z => by rw [z, hx] at e2; cases e2), e3, RepO.step I2 s3 q⟩, I2.inj, fun a z => trn a (I2.ot a z), pn, I2.po, kx, fun a o h n => kp a o (x2 a o (I2.bs a o h n)) n (fun z => by rw [z, I2.fresh hx] at h; cases h), I2.bo, I2.sf⟩
  refine g (.ref x) H' (.val (.ins C ns es')) ρ2 k' I4 ((s1.trans s2 I1.pn).trans s3 I2.pn) ?_ hP
  exact .ins nb hx' rfl hl (rr.mono (fun _ _ h _ => h) fun a z => .inl (.inl z))
end
end DL
namespace DL
open PySem PySem.Spec PyProof.Rows L2
/-! ### isinstance(x, C) -/
/-- what is asked of a class of the program's own -/
structure ClsF (K : PySem.W.Frag) (C : Addr) : Prop where
  cl : Cls K C
  ty : ∀ (H : Hp) (a dx : Addr) (fs : List (Str × V)), H a = some (.ins C dx fs) → TyOf K H (.ref a) (.ref C)
  kb : ∀ n ∈ (["NoneType", "bool", "int", "str", "list", "tuple", "dict"] : List String), PySem.W.kitOne K (.type n) (.ref C) = some false
def isC (C : Addr) : D → Option Bool
  | .ins C' _ _ => if C' = C then some true else none
  | .non => some false
  | .bl _ => some false
  | .int _ => some false
  | .str _ => some false
  | .lst _ => some false
  | .tup _ => some false
  | .dK _ _ => some false
  | .dT _ _ => some false
  | _ => none
def fIsC (C : Addr) : FN := fun ds P => match ds with
  | [d, .obj c] => ∃ b, c = C ∧ isC C d = some b ∧ P (.bl b)
  | _ => False
theorem isC_ok {K : PySem.W.Frag} {C : Addr} (F : ClsF K C) {B : Addr → Prop} {H : Hp} {v : V} {d : D} {b : Bool} (r : RepS B H v d) (h : isC C d = some b) : ∃ t, TyX K H v t ∧ PySem.W.kitOne K t (.ref C) = some b := by
  have own : ∀ {a : Addr} {o : HO} {od : OD}, H a = some o → RepO B H o od → isC C od.toD = some b → ∃ t, TyX K H (.ref a) t ∧ PySem.W.kitOne K t (.ref C) = some b := fun {a o od} e ro h => by
    cases ro with
    | l r => cases h; exact ⟨_, .base (.lst e), F.kb _ (by simp)⟩
    | k _ r => cases h; exact ⟨_, .base (.dK e), F.kb _ (by simp)⟩
    | t _ r => cases h; exact ⟨_, .base (.dT e), F.kb _ (by simp)⟩
    | i _ r =>
      rename_i C' dx ns ws es el
      have h : (if C' = C then some true else none) = some b := h
      split at h
      · rename_i ec
        have eb : b = true := (Option.some.inj h).symm
        subst eb
        subst ec
        exact ⟨_, .base (F.ty _ _ _ _ e), by unfold PySem.W.kitOne; rw [if_pos (beq_self_eq_true _)]⟩
      · cases h
  cases r with
  | own e ro eo => subst eo; exact own e ro h
  | any r =>
    cases r with
    | non => cases h; exact ⟨_, .base .non, F.kb _ (by simp)⟩
    | bl x => cases h; exact ⟨_, .base (.bl x), F.kb _ (by simp)⟩
    | int x => cases h; exact ⟨_, .base (.int x), F.kb _ (by simp)⟩
    | str x => cases h; exact ⟨_, .base (.str x), F.kb _ (by simp)⟩
    | ty _ => cases h
    | obj _ => cases h
    | lst nb e r => exact own (od := .l _) e (.l r) h
    | tup nb e r => cases h; exact ⟨_, .base (.tup e), F.kb _ (by simp)⟩
    | dK nb e e1 e2 r => subst e1; exact own (od := .k _ _) e (.k e2 r) h
    | dT nb e e1 e2 r => subst e1; exact own (od := .t _ _) e (.t e2 r) h
    | ins nb e e1 e2 r => subst e1; exact own (od := .i _ _ _) e (.i e2 r) h
theorem real_isC {K : PySem.W.Frag} {C : Addr} (F : ClsF K C) : RealN (rIsi K) (fIsC C) := by
  intro B H xs ds P J hb r h g
  unfold fIsC at h
  split at h
  · obtain ⟨b, rfl, hb', hP⟩ := h
    cases r with
    | cons r1 r2 => cases r2 with
      | cons r2 r3 =>
        cases r3
        obtain ⟨t, ty, kk⟩ := isC_ok F r1 hb'
        cases r2 with
        | own e ro eo => cases ro <;> cases eo
        | any r2 =>
          cases r2
          exact ⟨_, _, t, _, b, rfl, .own _, ty, kk, g _ H _ (AExt.refl H) (.bl b) hP⟩
  · exact h.elim
theorem de_cls {X : Cx} {x : Str} {C : Addr} {pos : Pos} (hg : Gl X x) (hm : X.mg x = some (.ref C)) (hd : (x == ("__debug__" : Str)) = false := by decide) : DE X (.Name x pos) (wC (.obj C)) := de_const (pe_glob hg hm (show RelV (.ref C) (.ref C) from rfl) hd) fun _ _ => Rep.obj C
end DL

set_option Elab.async false
set_option linter.all false
set_option maxRecDepth 100000
set_option maxHeartbeats 1000000
/-! ELj: calls that only read what they are handed -/
namespace DL
open PySem PySem.Spec PyProof.Rows L2
section
variable {X : Cx} {pos : Pos} {k0 : Nat} {f : Addr} {fd : FuncData} {ps : List Str} {dvs : List V} {dus : List Value} {dds : List D} {n : Nat} {wf : WF} {x : Str} {ps' : Pos} {e : Expr} {es : List Expr} {wa : WA}
/-- a call whose answer is flat: what was owned stays owned -/
def wCallR (m : Nat) (wf : WF) (dds : List D) (a : WA) : WE := fun ρ k Q => a ρ k fun rs ρ1 k1 => rs.length = m ∧ ∃ ds ρ2, frzL ρ1 rs = some (ds, ρ2) ∧ wf (ds ++ dds) k1 fun d k2 => flatD d = true ∧ Q (.val d) ρ1 k2
end
end DL

set_option Elab.async false
set_option linter.all false
set_option maxRecDepth 100000
set_option maxHeartbeats 1000000
/-! ELk: dicts whose keys are tuples of ints and texts -/
namespace DL
open PySem PySem.Spec PyProof.Rows L2
def keyOf : D → Option Key
  | .int i => some (.inl i)
  | .str x => some (.inr x)
  | _ => none
def keysOf : List D → Option (List Key)
  | [] => some []
  | d :: ds => match keyOf d, keysOf ds with
    | some k, some ks => some (k :: ks)
    | _, _ => none
def keyT : D → Option (List Key)
  | .tup ds => keysOf ds
  | _ => none
def valD {κ : Type} [DecidableEq κ] (ks : List κ) (ds : List D) (k : κ) : Option D := ((ks.zip ds).find? fun kv => decide (kv.1 = k)).map (·.2)
theorem valD_some {κ : Type} [DecidableEq κ] {B : Addr → Prop} {H : Hp} {k : κ} {d : D} : ∀ {ks : List κ} {vs : List V} {ds : List D}, RepL B H vs ds → valD ks ds k = some d → ∃ v, valV (ks.zip vs) k = some v ∧ Rep B H v d
  | [], _, _, _, h => by simp [valD] at h
  | c :: ks, _, _, .nil, h => by simp [valD] at h
  | c :: ks, v :: vs, e :: ds, .cons r t, h => by
    by_cases hc : c = k
    · have h' : some e = some d := by rw [← h]; simp [valD, List.find?_cons, hc]
      cases h'
      exact ⟨v, by simp [valV, List.find?_cons, hc], r⟩
    · have h' : valD ks ds k = some d := by rw [← h]; simp [valD, List.find?_cons, hc]
      obtain ⟨u, e1, e2⟩ := valD_some t h'
      exact ⟨u, by rw [← e1]; simp [valV, List.find?_cons, hc], e2⟩
theorem RepS.dT {B : Addr → Prop} {H : Hp} {v : V} {ks : List (List Key)} {ds : List D} (h : RepS B H v (.dT ks ds)) : ∃ a vs, v = .ref a ∧ H a = some (.dT (ks.zip vs)) ∧ ks.length = vs.length ∧ RepL B H vs ds := by
  cases h with
  | any h => cases h with | dT h1 h2 e1 e2 h3 => exact ⟨_, _, rfl, by rw [h2, e1], e2, h3⟩
  | own h1 h2 e => cases h2 with
    | l r => cases e
    | k _ r => cases e
    | t l r => cases e; exact ⟨_, _, rfl, h1, l, r⟩
    | i _ r => cases e
section
variable {X : Cx} {pos : Pos} {a b : Expr} {wa wb : WE}
/-- x[y] -/
def wDGet (a b : WE) : WE := fun ρ k Q => a ρ k fun x ρ1 k1 => b ρ1 k1 fun y ρ2 k2 => ∃ ks ds e key d, deref ρ2 x = some (.dT ks ds) ∧ deref ρ2 y = some e ∧ keyT e = some key ∧ valD ks ds key = some d ∧ Q (.val d) ρ2 k2
/-- y in x, y not in x -/
def wDIn (neg : Bool) (b a : WE) : WE := fun ρ k Q => b ρ k fun y ρ1 k1 => a ρ1 k1 fun x ρ2 k2 => ∃ ks ds e key, deref ρ2 x = some (.dT ks ds) ∧ deref ρ2 y = some e ∧ keyT e = some key ∧ Q (.val (.bl (xor neg (valD ks ds key).isSome))) ρ2 k2
/-- x = {} (keys will be tuples) -/
def wNewD (i : Nat) : WS := fun E ρ k => E.nx (ρ.set i (.own (.t [] []))) k
/-- in its place, or at the end -/
def putD {κ : Type} [DecidableEq κ] : List κ → List D → κ → D → List κ × List D
  | c :: ks, e :: ds, k, d => if c = k then (c :: ks, d :: ds) else ((c :: (putD ks ds k d).1), (e :: (putD ks ds k d).2))
  | ks, ds, k, d => (ks ++ [k], ds ++ [d])
/-- x[b] = e, x a dict of this body's own -/
def wPutD (i : Nat) (b a : WE) : WS := fun E ρ k => a ρ k fun r ρ1 k1 => ∃ y ρ2, frz ρ1 r = some (y, ρ2) ∧ (∃ ks ds, ρ2[i]? = some (.own (.t ks ds))) ∧ b ρ2 k1 fun r2 ρ3 k3 => ∃ e key ks ds, deref ρ3 r2 = some e ∧ keyT e = some key ∧ ρ3[i]? = some (.own (.t ks ds)) ∧ ks.Nodup ∧ ks.length < sizeLine ∧ E.nx (ρ3.set i (.own (.t (putD ks ds key y).1 (putD ks ds key y).2))) k3
end
end DL

set_option Elab.async false
set_option linter.all false
set_option maxRecDepth 100000
set_option maxHeartbeats 1000000
/-! ELl: own exceptions over ValueError: __init__ says super().__init__(..), then stores what it got -/
namespace DL
open PySem PySem.Spec PyProof.Rows L2
open PySem.W (ksFn kxs_mw Looks)
/-- self.f = f for each f -/
inductive FldB : List Str → List Stmt → Prop
  | nil : FldB [] []
  | cons {f : Str} {r : List Str} {ss : List Stmt} {p1 p2 p3 p4 : Pos} : (f == ("__debug__" : Str)) = false → FldB r ss → FldB (f :: r) (.Assign [.Attribute (.Name "self" p1) f p2] (.Name f p3) p4 :: ss)
/-- f, .. as arguments -/
inductive ArgB : List Str → List Expr → Prop
  | nil : ArgB [] []
  | cons {f : Str} {r : List Str} {es : List Expr} {p : Pos} : (f == ("__debug__" : Str)) = false → ArgB r es → ArgB (f :: r) (.Name f p :: es)
inductive SupB : List Str → List Stmt → Prop
  | mk {fs : List Str} {f : Str} {r : List Str} {es : List Expr} {ss : List Stmt} {p0 p1 p2 p3 p4 : Pos} {pl : Env → Sem Bool} (he : ∀ env, eval (.Call (.Attribute (.Call (.Name "super" p0) [] [] p1) "__init__" p2) es [] p3) env = (do
      let ov ← attributeBase (.Call (.Name "super" p0) [] [] p1) "__init__" env (eval (.Call (.Name "super" p0) [] [] p1) env)
      standAt p2.atName
      let x ← holding [ov] (getMethod ov "__init__" (pl env))
      callWith p3 x.1 x.2 (backTo p3 (starEach es env)) [])) : fs = f :: r → ArgB fs es → FldB fs ss → SupB fs (.Expr (.Call (.Attribute (.Call (.Name "super" p0) [] [] p1) "__init__" p2) es [] p3) p4 :: ss)
/-- the values by their names -/
def NamesAt (m : Str → Option Value) : List Str → List Value → Prop
  | [], [] => True
  | f :: r, u :: us => m f = some u ∧ NamesAt m r us
  | _, _ => False
section
variable {prog : Program} {w : World} {A : Around} {E : Value → Shared → Prop} {env : Env} {m : Str → Option Value} {K : PySem.W.Frag} {C : Addr}
theorem args_at {s : Shared} (hk : env.scope.kind = .function) (hn : s.heap.Ns env.locals m) : ∀ {fs : List Str} {es : List Expr} {us : List Value} {pos : Pos} {Q : List Value → Shared → Prop}, ArgB fs es → (∀ f ∈ fs, env.kindOf f = some .local) → NamesAt m fs us → Q us s → wpAny (model prog w) A (spliced (backTo pos (starEach es env))) Q E s
  | _, _, us, pos, Q, .nil, _, h, q => by
    cases us with
    | nil => exact args_nil q
    | cons _ _ => exact h.elim
  | f :: r, _, us, pos, Q, .cons hd t, hl, h, q => by
    cases us with
    | nil => exact h.elim
    | cons u us =>
      exact args_cons (wpAny_Name (wpAny_loadName_local hk (hl f List.mem_cons_self) hn h.1 (args_at hk hn t (fun g hg => hl g (List.mem_cons_of_mem _ hg)) h.2 q)) hd)
theorem args_plain : ∀ {fs : List Str} {es : List Expr} {pos : Pos}, ArgB fs es → (backTo pos (starEach es env)).any (·.1) = false
  | _, _, _, .nil => rfl
  | _, _, pos, .cons _ t => by
    have h := args_plain (pos := pos) t
    show (false || (backTo pos (starEach _ env)).any (·.1)) = false
    rw [h]
    rfl
/-- further fields -/
theorem flds_old (T : L2.OexC K C) {base : Heap} {a dx : Addr} {fv : Array Value} {g : Array GenState} {d : Drawn} {os : OsState} {Q : Flow → Shared → Prop} (hX : K.In base) (hk : env.scope.kind = .function) (hself : env.kindOf "self" = some .local) (hms : m "self" = some (.ref a))
    (hbx : base.get? dx = none) (hL : env.locals ≠ dx) (hax : a ≠ dx) : ∀ {r : List Str} {ss : List Stmt} {us : List Value} {ys : List V} {fs : List (Str × V)} {mA : Str → Option Value} {hp : Heap} {t : Nat}, FldB r ss → (∀ f ∈ r, env.kindOf f = some .local) → (∀ f ∈ r, PySem.W.findIn K (.ref C) f = some none) → NamesAt m r us → Vals ys us →
      (∀ b o, base.get? b = some o → hp.get? b = some o) → hp.Ns env.locals m → hp.get? a = some { cls := .ref C, dict := some dx, data := .fields fv } → hp.Ns1 dx mA → (∀ f, RelO (fs.lookup f) (mA f)) → fs.length + r.length ≤ 900 →
      (∀ h2 t2 mB, (∀ b o, b ≠ dx → hp.get? b = some o → h2.get? b = some o) → h2.Ns1 dx mB → (∀ f, RelO (((r.zip ys).reverse ++ fs).lookup f) (mB f)) → Q .next ⟨h2, g, d, t2, os⟩) →
      wpAny (model prog w) A (execs ss env) Q E ⟨hp, g, d, t, os⟩
  | _, _, _, _, fs, mA, hp, t, .nil, _, _, _, _, _, _, _, hns, rel, _, q => wpAny_execs_nil (q hp t mA (fun _ _ _ e => e) hns (by simpa using rel))
  | f :: r, _, us, ys, fs, mA, hp, t, .cons hd fb, hl, hno, hu, rv, hbk, hNs, ha, hns, rel, hz, q => by
    cases us with
    | nil => exact hu.elim
    | cons u us =>
      cases rv with
      | cons ry rv =>
        obtain ⟨nm, qn, N, bs, bm, sn, sub, ab, col, dd, k0, k1, k2, k3, k5, hC, hbm⟩ := T.cls
        have hcl : PySem.W.clsIn K C = some { name := nm, bases := bs, mro := .ref C :: bm, ns := N, qualname := qn, hasDict := true, slotNames := sn, subclasses := sub, abstract := ab, collection := col, hasDel := false } := by unfold PySem.W.clsIn; rw [hC] <;> rfl
        have hXp : K.In hp := hX.keeps hbk
        obtain ⟨oD, _, _, hoD, _, _⟩ := hns.count (within_of rel)
        refine wpAny_execs_cons (plainObj_wpAny_Assign_Attribute (wpAny_Name (wpAny_loadName_local hk (hl f List.mem_cons_self) hNs hu.1 (wpAny_Name (wpAny_loadName_local hk hself hNs hms ?_) (by decide))) hd))
        refine PySem.W.set_plain hXp (od := some oD) ⟨ha, rfl, rfl, hoD⟩ T.sa (PySem.OEX.osa_old hXp ha hns (within_of rel) (by rw [List.length_map]; have := hz; simp at this; omega) hcl hbm rfl (hno f List.mem_cons_self) fun h' t' k hn => ?_)
        refine flds_old T hX hk hself hms hbx hL hax fb (fun g hg => hl g (List.mem_cons_of_mem _ hg)) (fun g hg => hno g (List.mem_cons_of_mem _ hg)) hu.2 rv (fun b o e => k b o (fun z => by rw [z, hbx] at e; cases e) (hbk b o e)) (hNs.at fun o e => k _ o hL e) (k _ _ hax ha) hn (fs := (f, _) :: fs) (relO_put ry rel) (by simp at hz ⊢; omega) fun h2 t2 mB k2 n2 r2 => ?_
        exact q h2 t2 mB (fun b o hb e => k2 b o hb (k b o hb e)) n2 (by simpa using r2)
/-- the first field, then the others -/
theorem flds_new (T : L2.OexC K C) {base : Heap} {a : Addr} {fv : Array Value} {g : Array GenState} {d : Drawn} {os : OsState} {Q : Flow → Shared → Prop} (hX : K.In base) (hk : env.scope.kind = .function) (hself : env.kindOf "self" = some .local) (hms : m "self" = some (.ref a))
    (hba : base.get? a = none) (hL : env.locals ≠ a) {r : List Str} {f : Str} {ss : List Stmt} {us : List Value} {ys : List V} {hp : Heap} {t : Nat} (fb : FldB (f :: r) ss) (hl : ∀ g ∈ f :: r, env.kindOf g = some .local) (hno : ∀ g ∈ f :: r, PySem.W.findIn K (.ref C) g = some none) (hu : NamesAt m (f :: r) us) (rv : Vals ys us)
    (hbk : ∀ b o, base.get? b = some o → hp.get? b = some o) (hNs : hp.Ns env.locals m) (ha : hp.get? a = some { cls := .ref C, data := .fields fv }) (hz : r.length ≤ 800)
    (q : ∀ h2 t2 dx mB, (∀ b o, b ≠ a → hp.get? b = some o → h2.get? b = some o) → hp.objs.size ≤ dx → dx ≠ a → h2.get? a = some { cls := .ref C, dict := some dx, data := .fields fv } → h2.Ns1 dx mB → (∀ y, RelO ((((f :: r).zip ys).reverse).lookup y) (mB y)) → Q .next ⟨h2, g, d, t2, os⟩) :
    wpAny (model prog w) A (execs ss env) Q E ⟨hp, g, d, t, os⟩ := by
  cases fb with
  | cons hd fb =>
    cases us with
    | nil => exact hu.elim
    | cons u us =>
      cases rv with
      | cons ry rv =>
        obtain ⟨nm, qn, N, bs, bm, sn, sub, ab, col, dd, k0, k1, k2, k3, k5, hC, hbm⟩ := T.cls
        have hcl : PySem.W.clsIn K C = some { name := nm, bases := bs, mro := .ref C :: bm, ns := N, qualname := qn, hasDict := true, slotNames := sn, subclasses := sub, abstract := ab, collection := col, hasDel := false } := by unfold PySem.W.clsIn; rw [hC] <;> rfl
        have hXp : K.In hp := hX.keeps hbk
        refine wpAny_execs_cons (plainObj_wpAny_Assign_Attribute (wpAny_Name (wpAny_loadName_local hk (hl f List.mem_cons_self) hNs hu.1 (wpAny_Name (wpAny_loadName_local hk hself hNs hms ?_) (by decide))) hd))
        refine PySem.W.set_plain hXp (od := none) ⟨ha, rfl, rfl, trivial⟩ T.sa (PySem.HandSPX.exc_osa hXp ha hcl hbm rfl (hno f List.mem_cons_self) fun h' t' dx k dn dne hx hn => ?_)
        have hLx : env.locals ≠ dx := fun z => by have := hNs.lt; rw [z] at this; exact Nat.lt_irrefl _ (Nat.lt_of_lt_of_le this dn)
        have hbx : base.get? dx = none := by
          cases e : base.get? dx with
          | none => rfl
          | some o => exact absurd (Heap.lt_size (hbk _ _ e)) (Nat.not_lt.mpr dn)
        have hlt : ∀ b o, hp.get? b = some o → b ≠ dx := fun b o e => Nat.ne_of_lt (Nat.lt_of_lt_of_le (Heap.lt_size e) dn)
        refine flds_old T hX hk hself hms hbx hLx (Ne.symm dne) fb (fun g hg => hl g (List.mem_cons_of_mem _ hg)) (fun g hg => hno g (List.mem_cons_of_mem _ hg)) hu.2 rv (fun b o e => k b o (fun z => by rw [z, hba] at e; cases e) (hbk b o e)) (hNs.at fun o e => k _ o hL e) hx hn (fs := [(f, _)]) (relO_put (fs := []) ry fun g => True.intro) (by simp; omega) fun h2 t2 mB k2 n2 r2 => ?_
        exact q h2 t2 dx mB (fun b o hb e => k2 b o (hlt b o e) (k b o hb e)) dn dne (k2 _ _ (Ne.symm dne) hx) n2 (by simpa using r2)
end
/-- what the written part says of the class at C, its __init__ at fI, the code at cda, the cell of __class__ at cc -/
structure SiC (prog : Program) (K : PySem.W.Frag) (mg : Str → Option Value) (C : Addr) (fs : List Str) where
  fI : Addr
  cda : Addr
  cc : Addr
  oc : Value
  od : Option Addr
  osl : Array (Option Value)
  qual : Str
  params : Arguments
  body : List Stmt
  scope : Scope
  dV : Value
  kV : Value
  doc : Value
  pm : Value
  an : Option Addr
  ct : Value
  ccl : Value
  cdd : Option Addr
  cvs : Array Value
  ccs : Array (Option Value)
  file : Str
  tf : Tok
  cl : Value
  cld : Option Addr
  csl : Array (Option Value)
  ox : L2.OexC K C
  iC : PySem.W.findIn K (.ref C) "__init__" = some (some (.ref fI))
  tI : PySem.W.typeIn K (.ref fI) = some (.type "function")
  lk : K.lookup fI = some ⟨oc, od, .func (ksFn "__init__" qual params body scope dV kV doc pm an (.ref cda) ct cc), osl⟩
  cd : PySem.W.codeIn K (.ref cda) qual = true
  lc : K.lookup cda = some ⟨ccl, cdd, .fields cvs, ccs⟩
  fl : cvs[2]? = some (.str file tf)
  fe : ((prog.main.file : Str) == file) = true
  lx : K.lookup cc = some ⟨cl, cld, .cell (some (.ref C)), csl⟩
  su : PySem.W.mroIn K C (.ref C) = some true
  ms : mg "super" = none
  op : PySem.W.nsIn K cStatics "thirdparty.any" = some none
  ih : PySem.W.ks_superIn K C C "__init__" = some (some (.builtin "ValueError.__init__"))
  ve : PySem.W.subIn K (.ref C) (.type "ValueError") = some true
  nf : ∀ f ∈ fs, PySem.W.findIn K (.ref C) f = some none
  bd : SupB fs body
  kd : scope.kind = .function
  co : scope.isCoroutine = false
  gn : scope.isGenerator = false
  ce : ∀ x ∈ scope.names, x.2 ≠ .cell
  ks : scope.names.lookup ("super" : Str) = some .globalImplicit
  kc : scope.names.lookup ("__class__" : Str) = some .free
  kl : ∀ f ∈ ("self" : Str) :: fs, scope.names.lookup f = some .local
  hp : ∃ ar, (params.posonlyargs ++ params.args).head? = some ar ∧ ar.arg = "self"
  tp : (prog.main.scope.names.lookup ("super" : Str)).isSome = false
  bi : ∀ (s : Shared) (us : List Value), us.length = fs.length + 1 → BindsTo s (ksFn "__init__" qual params body scope dV kV doc pm an (.ref cda) ct cc) ⟨us, []⟩ ((("self" : Str) :: fs).zip us)
  nm : ∀ us : List Value, us.length = fs.length + 1 → NamesAt (fun x => ((("self" : Str) :: fs).zip us).reverse.lookup x) (("self" : Str) :: fs) us
  le : fs.length ≤ 100
/-- the base's __init__ bound to the exception, called -/
theorem bound_ve {prog : Program} {w : World} {A : Around} {E : Value → Shared → Prop} {h : Heap} {g : Array GenState} {d : Drawn} {t : Nat} {os : OsState} {C u e t0 : Addr} {rest : List Value} {Q : Value → Shared → Prop} {B i newId : String} {bmB : List Value}
    {nm q : Str} {N : Addr} {bs bm : List Value} {hdct : Bool} {sn : List Str} {sub : List Value} {ab : Bool} {col : Option Bool} {dd : Option Addr} {k0 k1 k2 k3 k5 : Option Value} (FB : ExcBaseFacts B newId i bmB)
    (hC : h.get? C = some (excClassObj nm q C N bs bm hdct sn sub ab col dd k0 k1 k2 k3 k5 newId)) (he : h.get? e = some (PySem.HandSPX.excO C t0)) (hu : h.get? u = some (kxs_mw i e)) (hr : rest.length ≤ sizeLine)
    (q : ∀ h' t1, (∀ b o, b ≠ e → h.get? b = some o → h'.get? b = some o) → h'.get? e = some (PySem.HandSPX.excO C t1) → Q .none ⟨h', g, d, t, os⟩) : wpAny (model prog w) A (call (.ref u) rest) Q E ⟨h, g, d, t, os⟩ := by
  refine wpAny_call (codeAny_of_tree (show wpAny _ A.in1 (callAny (.ref u) ⟨rest, []⟩) _ _ _ from ?_))
  rw [callAny]
  refine wpAny_bind (wpAny_load hu ?_)
  simp only [if_true, kxs_mw, (by decide : (Value.type "method-wrapper" == Value.type "method" || Value.type "method-wrapper" == Value.type "builtin_function_or_method" || Value.type "method-wrapper" == Value.type "method-wrapper") = true)]
  refine PySem.W.KFB.if_so (by decide) (wpAny_bind (PySem.W.check_bound_init FB.toExcCallFacts hC he rfl (wpAny_bind (wpAny_pure (wpAny_pure ⟨plainId_quiet FB.init.plain _, codeAny_builtin FB.initEntry ?_⟩)))))
  exact PySem.W.exc_init_tree (cls := .ref C) (t0 := t0) (dv := none) (c2 := .none) (c3 := .none) (b4 := .bool false) he hr fun h' k e1 _ => q h' _ k e1
/-- __init__ runs -/
theorem init_run {prog : Program} {w : World} {A : Around} {K : PySem.W.Frag} {mg : Str → Option Value} {C : Addr} {fs : List Str} (S : SiC prog K mg C fs) {base hp : Heap} {g : Array GenState} {d : Drawn} {t : Nat} {os : OsState} {a t0 : Addr} {us : List Value} {ys : List V} {R : Result → Shared → Prop}
    (M : Mod K mg base) (hbk : ∀ b o, base.get? b = some o → hp.get? b = some o) (hba : base.get? a = none) (ha : hp.get? a = some (PySem.HandSPX.excO C t0)) (rv : Vals ys us) (hl : us.length = fs.length) (hroom : A.depth < recursionLimit)
    (q : ∀ h2 t2 dx mB t1, (∀ b o, b ≠ a → hp.get? b = some o → h2.get? b = some o) → hp.get? dx = none → dx ≠ a → h2.get? a = some { cls := .ref C, dict := some dx, data := .fields #[.ref t1, .none, .none, .none, .bool false, .none] } → h2.Ns1 dx mB → (∀ y, RelO (((fs.zip ys).reverse).lookup y) (mB y)) → R (.ok (.ret .none)) ⟨h2, g, d, t2, os⟩) :
    codeAny (model prog w) A (.call (.ref S.fI) ⟨.ref a :: us, []⟩) R ⟨hp, g, d, t, os⟩ := by
  have hXb : K.In base := M.kin
  have hX : K.In hp := hXb.keeps hbk
  obtain ⟨nm, qn, N, bs, bm, sn, sub, ab, col, dd, k0, k1, k2, k3, k5, hC, hbm⟩ := S.ox.cls
  have hbind := S.bi ⟨hp, g, d, t, os⟩ (.ref a :: us) (by simp [hl])
  refine ks_codeAny_call_defAt hroom (hX _ _ S.lk) rfl (M.nolimit.keeps hbk) (PySem.W.codeRec_of hX S.cd) rfl hbind S.ce (fun x hx => S.kl _ (List.of_mem_zip hx).1) (fun h1 hns k1' => ?_) S.co S.gn S.kd
  have hbk1 : ∀ b o, base.get? b = some o → h1.get? b = some o := fun b o e => k1' b o (hbk b o e)
  have hLa : hp.objs.size ≠ a := fun z => Nat.ne_of_lt (Heap.lt_size ha) z.symm
  have nm1 := S.nm (.ref a :: us) (by simp [hl])
  have ha1 := k1' _ _ ha
  have hX1 : K.In h1 := hXb.keeps hbk1
  generalize hE : callEnv (ksFn "__init__" S.qual S.params S.body S.scope S.dV S.kV S.doc S.pm S.an (.ref S.cda) S.ct S.cc) hp.objs.size S.fI = env at *
  have eL : env.locals = hp.objs.size := by rw [← hE]; rfl
  have eS : env.scope = S.scope := by rw [← hE]; rfl
  have eK : ∀ x, env.kindOf x = S.scope.names.lookup x := fun x => by rw [← hE]; rfl
  have hk : env.scope.kind = .function := by rw [eS]; exact S.kd
  have hself : env.kindOf "self" = some .local := (eK _).trans (S.kl _ List.mem_cons_self)
  have hfl : ∀ f ∈ fs, env.kindOf f = some .local := fun f hf => (eK _).trans (S.kl _ (List.mem_cons_of_mem _ hf))
  have hns' : h1.Ns env.locals (fun x => ((("self" : Str) :: fs).zip (Value.ref a :: us)).reverse.lookup x) := by rw [eL]; exact hns
  generalize hm : (fun x => ((("self" : Str) :: fs).zip (Value.ref a :: us)).reverse.lookup x) = m at *
  have hms : m "self" = some (.ref a) := nm1.1
  have hbd := S.bd
  generalize S.body = body at hbd ⊢
  cases hbd with
  | @mk f r es ss p0 p1 p2 p3 p4 pl he ef agb fb =>
  refine ks_wpAt_execs_cons (ks_wpAt_Expr_any (ks_wpAt_MethodCall ?_ (he env)) (by unfold interactive; rw [hk]; rfl) (by rfl))
  obtain ⟨ar, e1, e2⟩ := S.hp
  obtain ⟨mb, hb1, hb2⟩ := M.blt
  have hcl : PySem.W.clsIn K C = some { name := nm, bases := bs, mro := .ref C :: bm, ns := N, qualname := qn, hasDict := true, slotNames := sn, subclasses := sub, abstract := ab, collection := col, hasDel := false } := by unfold PySem.W.clsIn; rw [hC] <;> rfl
  refine ks_wpAt_super_base ((eK _).trans S.ks) ((eK _).trans S.kc) rfl (by rw [← hE]; rfl) (hX1 _ _ S.lk) rfl e1 (by rw [← hE]; rfl) (hX1 _ _ S.lc) rfl S.fl S.fe S.tp ?_
  refine PySem.W.ks_loadName_global hk ((eK _).trans S.ks) (Calls.loadGlobal_builtin (by rw [← hE]; exact M.glob.keeps hbk1) S.ms (by rw [← hE]; exact hb1.keeps hbk1) ((hb2 _ (by decide)).trans rfl) ⟨rfl, ?_⟩)
  refine wpAny_loadName_free hk ((eK _).trans S.kc) (c := S.cc) (by rw [← hE]; rfl) ⟨_, hX1 _ _ S.lx, rfl⟩ ?_
  rw [e2]
  refine wpAny_loadName_local hk hself hns' hms ?_
  refine ks_wpAny_isType_cls (hX1 _ _ hC) rfl ⟨rfl, ?_⟩
  refine ks_wpAny_call_super (hX1 _ _ hC) rfl ha1 rfl (fun c e => by cases e) (PySem.W.looks_mroIn hX1 S.su) (fun h2 e2' k2 => ?_)
  have hX2 : K.In h2 := hX1.keeps k2
  have ha2 := k2 _ _ ha1
  have ih := S.ih
  unfold PySem.W.ks_superIn at ih
  rw [hcl, Option.bind_some] at ih
  have ne : a ≠ C := fun z => by
    rw [z, hX1 _ _ hC] at ha1
    cases ha1
  have hI : Looks (model prog w) h2 (isInstance (.ref a) (.type "ValueError")) true := (PySem.W.InstAt.type (x := a) (C := C) (ox := PySem.HandSPX.excO C t0) (od := none) ⟨ha2, rfl, rfl, trivial⟩).andThen (PySem.W.looks_subIn hX2 S.ve)
  refine PySem.W.kxs_getMethod PySem.W.kxs_ValueError e2' (PySem.W.looks_opaque hX2 S.op) (fun A Q E s k q => wpAny_bind ((PySem.W.looks_clsIn hX2 hcl) A _ E s k (wpAny_pure q))) rfl hX2 ih hI ne rfl ?_
  have hbk2 : ∀ b o, base.get? b = some o → (h2.push (kxs_mw "ValueError.__init__" a)).get? b = some o := fun b o e => Heap.get?_push_of_some _ (k2 b o (hbk1 b o e))
  have ha3 : (h2.push (kxs_mw "ValueError.__init__" a)).get? a = some (PySem.HandSPX.excO C t0) := Heap.get?_push_of_some _ ha2
  have hns3 : (h2.push (kxs_mw "ValueError.__init__" a)).Ns env.locals m := hns'.keeps fun b o e => Heap.get?_push_of_some _ (k2 b o e)
  have k3 : ∀ b o, h1.get? b = some o → (h2.push (kxs_mw "ValueError.__init__" a)).get? b = some o := fun b o e => Heap.get?_push_of_some _ (k2 b o e)
  have hu3 : (h2.push (kxs_mw "ValueError.__init__" a)).get? h2.objs.size = some (kxs_mw "ValueError.__init__" a) := Heap.get?_push_at rfl rfl
  generalize h2.push (kxs_mw "ValueError.__init__" a) = h3 at hbk2 ha3 hns3 hu3 k3 ⊢
  have hX3 : K.In h3 := hXb.keeps hbk2
  refine PySem.W.kxs_callWith (i := "ValueError.__init__") (x := a) (args_plain agb) ?_
  subst ef
  cases agb with
  | @cons _ _ es pf hd agb =>
    refine Calls.evalArgs_plain (x := eval (.Name f pf) env) (rest := backTo p3 (starEach es env)) ?_
    show wpAny _ _ (spliced (backTo p3 (starEach (.Name f pf :: es) env))) _ _ _
    refine args_at hk hns3 (.cons hd agb) hfl nm1.2 ⟨hu3, ?_⟩
    have hz : us.length ≤ sizeLine := by rw [hl, sizeLine_eq]; have := S.le; omega
    refine bound_ve PySem.F.excBase_ValueError (hX3 _ _ hC) ha3 hu3 hz fun h4 t1 k4 e4 => ?_
    refine wpAt_of_wpAny (flds_new S.ox hXb hk hself hms hba (by rw [eL]; exact hLa) fb hfl S.nf nm1.2 rv (fun b o e => k4 b o (fun z => by rw [z, hba] at e; cases e) (hbk2 b o e)) (hns3.at fun o e => k4 _ o (by rw [eL]; exact hLa) e) e4 (by have := S.le; simp at this; omega) fun h5 t5 dx mB k5 l5 n5 e5 hn5 r5 => ?_)
    have up : ∀ b o, hp.get? b = some o → h3.get? b = some o := fun b o e => k3 b o (k1' b o e)
    refine q h5 t5 dx mB t1 (fun b o hb e => k5 b o hb (k4 b o hb (up b o e))) ?_ n5 e5 hn5 r5
    cases z : hp.get? dx with
    | none => rfl
    | some o => exact absurd (Heap.lt_size (k4 _ _ n5 (up _ _ z))) (Nat.not_lt.mpr l5)
/-- C(e, ..) -/
def tMkS (C : Addr) (fs : List Str) (ta : TA) : L2.St → Hp → XK → Prop := fun σ H Q => ta σ H fun vs H1 => vs.length = fs.length ∧ ∀ d, H1 d = none → Q (.ref C) (some d) (upd H1 d (.xd (fs.zip vs).reverse))
theorem pmk_si {X : Cx} {x : Str} {C : Addr} {k : Nat} {fs : List Str} {e : Expr} {es : List Expr} {ta : TA} {p pos : Pos} (S : SiC X.prog X.K X.mg C fs) (hr : Room (k + 1) X.A) (hg : Gl X x) (hm : X.mg x = some (.ref C)) (ha : PA X (e :: es) ta)
    (hdb : (x == ("__debug__" : Str)) = false := by decide) (he : starEach (e :: es) X.env = (false, eval e X.env) :: starEach es X.env := by rfl) (hpl : (backTo pos (starEach es X.env)).any (·.1) = false := by rfl) : PMk X (.Call (.Name x p) (e :: es) [] pos) (tMkS C fs ta) := by
  intro pins s σ H Q I h
  obtain ⟨nm, q, N, bs, bm, sn, sub, ab, col, dd, k0, k1, k2, k3, k5, hC, hbm⟩ := S.ox.cls
  refine wpAny_Call_Name_kw (ld_glob I hg hm (PySem.W.callWith_K (h₀ := X.base) I.ok.mod.kin S.ox.kC (thn (ha.run pos pins s σ H _ I h) fun us s1 ⟨vs, H1, I1, r1, hz, q1⟩ => ⟨I1.kIn, ?_⟩) he hpl) hdb)
  show wpAny _ _ (call (.ref C) us) _ _ _
  obtain ⟨hp, g, dr, tk, os⟩ := s1
  have hlen : us.length = fs.length := (Paired.length r1).symm.trans hz
  have hus : us.length ≤ sizeLine := by rw [hlen, sizeLine_eq]; have := S.le; omega
  have hbk0 : ∀ b o, X.base.get? b = some o → hp.get? b = some o := I1.bk
  have lt0 : ∀ b o, hp.get? b = some o → b < hp.objs.size := fun b o e => Heap.lt_size e
  have kk : ∀ b o, hp.get? b = some o → ((hp.push (PySem.W.kdv_tup us)).push (PySem.HandSPX.excO C hp.objs.size)).get? b = some o := fun b o e => Heap.get?_push_of_some _ (Heap.get?_push_of_some _ e)
  have hga : ((hp.push (PySem.W.kdv_tup us)).push (PySem.HandSPX.excO C hp.objs.size)).get? (hp.objs.size + 1) = some (PySem.HandSPX.excO C hp.objs.size) := by heap_get
  refine wpAny_call (PySem.HandSPX.call_own PySem.F.excBase_ValueError (fun Y => PySem.HandSPX.refsVE_contains Y bm hbm) (I1.kIn _ _ hC) (PySem.W.looks_findIn I1.kIn S.iC) (fun self => PySem.W.bind_fn I1.kIn self S.tI) hus ?_)
  have hba : X.base.get? (hp.objs.size + 1) = none := by
    cases z : X.base.get? (hp.objs.size + 1) with
    | none => rfl
    | some o => exact absurd (lt0 _ _ (hbk0 _ _ z)) (Nat.not_lt.mpr (Nat.le_succ _))
  refine init_run S I.ok.mod (fun b o e => kk b o (hbk0 b o e)) hba hga r1 hlen (hr.make C us []).depth fun h2 t2 dx mB t1 k2 hd0 nda e4 hn rel => ⟨rfl, ?_⟩
  have hd1 : hp.get? dx = none := by
    cases z : hp.get? dx with
    | none => rfl
    | some o => rw [kk _ _ z] at hd0; cases hd0
  have nH : H1 dx = none := I1.hok.gone hd1
  have hsz : hp.objs.size ≤ hp.objs.size + 1 := Nat.le_succ _
  have nHa : H1 (hp.objs.size + 1) = none := I1.hok.fresh hsz
  have nea : ∀ {b : Addr} {o : Obj}, hp.get? b = some o → b ≠ hp.objs.size + 1 := fun {b o} e z => by
    have := lt0 _ _ e
    rw [z] at this
    exact absurd this (Nat.not_lt.mpr (Nat.le_succ _))
  have ned : ∀ {b : Addr} {o : Obj}, hp.get? b = some o → b ≠ dx := fun {b o} e z => by rw [z, hd1] at e; cases e
  have kq : ∀ b o, hp.get? b = some o → h2.get? b = some o := fun b o e => k2 b o (nea e) (kk b o e)
  have un : Un (frs X.stack) [] (upd H1 (hp.objs.size + 1) (exo (hp.objs.size + 1) C none)) (upd (upd H1 dx (exd dx (fs.zip vs).reverse)) (hp.objs.size + 1) (exo (hp.objs.size + 1) C (some dx))) hp h2 := {
    keep := fun b o e _ _ _ => kq b o e
    slot := fun b o e _ _ _ => ⟨o.slots, kq b o e⟩
    free := fun b o e n _ => by rw [upd_ne (nea e)] at n; rw [upd_ne (nea e), upd_ne (ned e)]; exact n
    there := fun b o e _ => ⟨o, kq b o e⟩
    tups := fun b xs e => by
      have hb : b ≠ hp.objs.size + 1 := fun z => by rw [z, upd_same] at e; exact exo_tup (Option.some.inj e)
      rw [upd_ne hb] at e
      rw [upd_ne hb, upd_ne (ne_of_none e nH)]
      exact e
    frzs := fun b o u e => by
      have hb : b ≠ hp.objs.size + 1 := fun z => by rw [z, upd_same] at e; exact exo_frz (Option.some.inj e)
      rw [upd_ne hb] at e
      rw [upd_ne hb, upd_ne (ne_of_none e nH)]
      exact e
    tbls := fun b ps e => by
      have hb : b ≠ hp.objs.size + 1 := fun z => by rw [z, upd_same] at e; exact exo_tbl (Option.some.inj e)
      rw [upd_ne hb] at e
      exact ⟨#[], by rw [upd_ne hb, upd_ne (ne_of_none e nH), e]; simp⟩ }
  have hok : HOk X.prog X.w (upd (upd H1 dx (exd dx (fs.zip vs).reverse)) (hp.objs.size + 1) (exo (hp.objs.size + 1) C (some dx))) h2 := fun b o e => by
    by_cases hb : b = hp.objs.size + 1
    · subst hb
      rw [upd_same] at e
      cases e
      exact exo_ok e4
    · rw [upd_ne hb] at e
      by_cases hd : b = dx
      · subst hd
        rw [upd_same] at e
        cases e
        exact exd_ok hn rel
      · rw [upd_ne hd] at e
        exact (I1.hok b o e).stay (fun c v _ y => kq c v y) (fun c hc => by rw [upd_ne (ne_of_none hc nHa), upd_ne (ne_of_none hc nH)]; exact hc) (fun c xs hc => by rw [upd_ne (ne_of_none hc nHa), upd_ne (ne_of_none hc nH)]; exact hc)
  have ed : upd (upd H1 dx (exd dx (fs.zip vs).reverse)) (hp.objs.size + 1) (exo (hp.objs.size + 1) C (some dx)) dx = some (exd dx (fs.zip vs).reverse) := by rw [upd_ne nda, upd_same]
  refine mk_end (raises_own S.ox.exC S.ox.tyC) I1 hsz (fun _ _ e => e) un hok rfl I1.bare upd_same ed nH ?_
  have eq : upd (del (upd (upd H1 dx (exd dx (fs.zip vs).reverse)) (hp.objs.size + 1) (exo (hp.objs.size + 1) C (some dx))) (hp.objs.size + 1)) dx (.xd (fs.zip vs).reverse) = upd H1 dx (.xd (fs.zip vs).reverse) := by
    funext b
    by_cases hb : b = dx
    · rw [hb, upd_same, upd_same]
    · rw [upd_ne hb, upd_ne hb]
      by_cases hc : b = hp.objs.size + 1
      · rw [hc, del_same, nHa]
      · rw [del_ne hc, upd_ne hc, upd_ne hb]
  rw [eq]
  exact q1 dx nH
end DL

set_option Elab.async false
set_option linter.all false
set_option maxRecDepth 100000
set_option maxHeartbeats 1000000
/-! ELm: raise C(..); repr of data -/
namespace DL
open PySem PySem.Spec PyProof.Rows L2
theorem zip_rev {α β : Type} : ∀ {xs : List α} {ys : List β}, xs.length = ys.length → (xs.zip ys).reverse = xs.reverse.zip ys.reverse
  | [], [], _ => rfl
  | x :: xs, y :: ys, h => by
    have h : xs.length = ys.length := by simpa using h
    rw [List.zip_cons_cons, List.reverse_cons, List.reverse_cons, List.reverse_cons, zip_rev h, List.zip_append (by simpa using h)]
    rfl
section
variable {X : Cx} {pos pos' p : Pos} {x : Str} {e : Expr} {es : List Expr} {wa : WA}
/-- raise C(e, ..) -/
def wRaise (C : Addr) (fs : List Str) (a : WA) : WS := fun _ ρ k => a ρ k fun rs ρ1 k1 => ∃ ds ρ2, frzL ρ1 rs = some (ds, ρ2) ∧ ds.length = fs.length ∧ k1.2.xc ⟨.ref C, fs.reverse, ds.reverse⟩ k1.1
theorem ds_raise {C : Addr} {k : Nat} {fs : List Str} (S : SiC X.prog X.K X.mg C fs) (hc : X.calm = true) (hr : Room (k + 1) X.A) (hg : Gl X x) (hm : X.mg x = some (.ref C)) (ha : DA X (e :: es) wa)
    (hdb : (x == ("__debug__" : Str)) = false := by decide) (he : starEach (e :: es) X.env = (false, eval e X.env) :: starEach es X.env := by rfl) (hpl : (backTo pos (starEach es X.env)).any (·.1) = false := by rfl) : DS X (.Raise (some (.Call (.Name x p) (e :: es) [] pos)) none pos') (wRaise C fs wa) := by
  obtain ⟨ta, pa, ra⟩ := ha
  refine ⟨_, L2.ps_raise hc takes0 (pmk_si S hr hg hm pa hdb he hpl), fun O p _ ρ k σ H E F I h e => ?_⟩
  refine ra O p ρ k σ H _ _ I h fun vs H1 rs ρ1 k1 I1 s1 q1 h1 => ?_
  obtain ⟨ds, ρ2, e1, hl, h1⟩ := h1
  obtain ⟨I2, s2, r2⟩ := frzL_ok I1 q1 e1
  have hv : vs.length = fs.length := r2.length.trans hl
  refine ⟨hv, fun d hd => ?_⟩
  have xl : XL X p := inferInstance
  have I3 := I2.ext (AExt.upd (o := .xd (fs.zip vs).reverse) hd)
  refine xl.go ⟨.ref C, fs.reverse, ds.reverse⟩ k1 _ _ _ _ I3.pn I3.bs ⟨rfl, vs.reverse, ?_, by simp [hv], ?_⟩ (by rw [← I2.kx]; exact h1)
  · show upd H1 d _ d = some (.xd (fs.reverse.zip vs.reverse))
    rw [upd_same, zip_rev hv.symm]
  · exact (r2.mono (fun a o e _ => AExt.upd hd a o e) fun a z => .inl (.inl (I2.po a (.inr z)))).reverse
end
/-! ### repr -/
mutual
def toPy : D → Option PyData
  | .non => some .none
  | .bl b => some (.bool b)
  | .int i => some (.int i)
  | .str x => some (.str x)
  | .lst xs => (toPyL xs).map .list
  | .tup xs => (toPyL xs).map .tuple
  | _ => none
def toPyL : List D → Option (List PyData)
  | [] => some []
  | d :: ds => (toPy d).bind fun y => (toPyL ds).map (y :: ·)
end
theorem seq_of {P : Program} {w : World} {H : Hp} {h : Heap} (hok : HOk P w H h) {a : Addr} {vs : List V} (e : H a = some (.lst vs)) : ∃ (its : List Value) (n : Nat), Vals vs its ∧ h.get? a = some { cls := .type "list", data := .seq its.toArray n } := (hok a _ e).2
theorem tup_of {P : Program} {w : World} {H : Hp} {h : Heap} (hok : HOk P w H h) {a : Addr} {vs : List V} (e : H a = some (.tup vs)) : ∃ its : List Value, Vals vs its ∧ IsTup h a its.toArray := (hok a _ e).2
mutual
theorem reads_of {P : Program} {w : World} {B : Addr → Prop} {H : Hp} {h : Heap} (hok : HOk P w H h) : ∀ {v : V} {d : D} {y : PyData} {u : Value}, Rep B H v d → toPy d = some y → RelV v u → ∃ as, Reads h u y as ∧ y.hasDict = false
  | _, _, _, _, .non, e, r => by cases e; obtain rfl := r; exact ⟨_, .none, rfl⟩
  | _, _, _, _, .bl b, e, r => by cases e; obtain rfl := r; exact ⟨_, .bool b, rfl⟩
  | _, _, _, _, .int i, e, r => by cases e; obtain ⟨t, rfl⟩ := r; exact ⟨_, .int i t, rfl⟩
  | _, _, _, _, .str x, e, r => by cases e; obtain ⟨t, rfl⟩ := r; exact ⟨_, .str x t, rfl⟩
  | _, _, _, _, .ty _, e, _ => by cases e
  | _, _, _, _, .obj _, e, _ => by cases e
  | _, _, _, _, .lst nb ea rl, e, r => by
    unfold toPy at e
    obtain ⟨ys, e1, rfl⟩ := Option.map_eq_some_iff.mp e
    obtain rfl := r
    obtain ⟨its, n, rv, eh⟩ := seq_of hok ea
    obtain ⟨as, ra, hd⟩ := readsL_of hok rl e1 rv
    exact ⟨_, .list (o := { cls := .type "list", data := .seq its.toArray n }) eh rfl rfl ra, hd⟩
  | _, _, _, _, .tup nb ea rl, e, r => by
    unfold toPy at e
    obtain ⟨ys, e1, rfl⟩ := Option.map_eq_some_iff.mp e
    obtain rfl := r
    obtain ⟨its, rv, o, eh, ec, n, ed⟩ := tup_of hok ea
    obtain ⟨as, ra, hd⟩ := readsL_of hok rl e1 rv
    exact ⟨_, .tuple eh ec ed ra, hd⟩
  | _, _, _, _, .dK _ _ _ _ _, e, _ => by cases e
  | _, _, _, _, .dT _ _ _ _ _, e, _ => by cases e
  | _, _, _, _, .ins _ _ _ _ _, e, _ => by cases e
theorem readsL_of {P : Program} {w : World} {B : Addr → Prop} {H : Hp} {h : Heap} (hok : HOk P w H h) : ∀ {vs : List V} {ds : List D} {ys : List PyData} {us : List Value}, RepL B H vs ds → toPyL ds = some ys → Vals vs us → ∃ as, ReadsAll h us ys as ∧ PyData.hasDictAll ys = false
  | _, _, _, _, .nil, e, .nil => by cases e; exact ⟨_, .nil, rfl⟩
  | _, _, _, _, .cons r t, e, .cons rv rt => by
    unfold toPyL at e
    obtain ⟨y, e1, e⟩ := Option.bind_eq_some_iff.mp e
    obtain ⟨ys, e2, rfl⟩ := Option.map_eq_some_iff.mp e
    obtain ⟨as, r1, h1⟩ := reads_of hok r e1 rv
    obtain ⟨bs, r2, h2⟩ := readsL_of hok t e2 rt
    exact ⟨_, .cons r1 r2, by unfold PyData.hasDictAll; rw [h1, h2]; rfl⟩
end
/-- what repr gives -/
def fRepr : FN := fun ds Q => ∃ d y, ds = [d] ∧ toPy d = some y ∧ y.showable = true ∧ y.shown.length ≤ sizeLine ∧ y.depth ≤ 50 ∧ Q (.str y.shown)
def rRepr : List V → Hp → VK → Prop := fun xs H Q => ∃ (v : V) (d : D) (B : Addr → Prop) (y : PyData), xs = [v] ∧ RepS B H v d ∧ toPy d = some y ∧ y.showable = true ∧ y.shown.length ≤ sizeLine ∧ y.depth ≤ 50 ∧ Q (.str y.shown) H
theorem real_repr : RealN rRepr fRepr := by
  intro B H xs ds P J hb r h g
  obtain ⟨d, y, rfl, e1, e2, e3, e4, q⟩ := h
  obtain ⟨v, rfl, r1⟩ := one_rep r
  exact ⟨v, d, B, y, rfl, r1, e1, e2, e3, e4, g _ H _ (AExt.refl H) (.str _) q⟩
theorem call_repr {X : Cx} (hg : X.A.guards = some []) (hu : X.A.units + 65 < cLine) : CallR X (.builtin "repr") rRepr := by
  intro pins s σ H xs us Q I r h
  obtain ⟨v, d, B, y, rfl, rs, e1, e2, e3, e4, q⟩ := h
  obtain ⟨u, rfl, rv⟩ := vals1 r
  have key : ∃ as, Reads s.heap u y as ∧ y.hasDict = false := by
    cases rs with
    | any rs => exact reads_of I.hok rs e1 rv
    | own ea ro ed =>
      subst ed
      cases ro with
      | l rl =>
        unfold OD.toD toPy at e1
        obtain ⟨ys, e5, rfl⟩ := Option.map_eq_some_iff.mp e1
        obtain rfl := rv
        obtain ⟨its, n, rv, eh⟩ := seq_of I.hok ea
        obtain ⟨as, ra, hd⟩ := readsL_of I.hok rl e5 rv
        exact ⟨_, .list (o := { cls := .type "list", data := .seq its.toArray n }) eh rfl rfl ra, hd⟩
      | k _ _ => cases e1
      | t _ _ => cases e1
      | i _ _ => cases e1
  obtain ⟨as, rd, nd⟩ := key
  have fin : ∀ h' u' tk, (∀ b o, s.heap.get? b = some o → h'.get? b = some o) → EP X pins σ Q (.str y.shown u') { s with heap := h', toks := tk } := fun h' u' tk k => ⟨.str _, H, I.kept k, ⟨_, rfl⟩, q⟩
  cases rd with
  | none => exact PySem.P.repr_of_none (fin s.heap _ _ fun _ _ e => e)
  | bool b => exact PySem.P.repr_of_bool (fin s.heap _ _ fun _ _ e => e)
  | int i t => exact PySem.P.repr_of_int (by unfold PyData.showable at e2; exact of_decide_eq_true e2) (fin s.heap _ _ fun _ _ e => e)
  | str z t => exact PySem.P.repr_of_str (fin s.heap _ _ fun _ _ e => e) e3
  | list a1 a2 a3 a4 => exact repr_of_reads' (.list a1 a2 a3 a4) e2 (fun z => by rw [nd] at z; cases z) hg (by omega) (fun _ _ e => e) (fun h' u tk k => fin h' u tk k) e3
  | tuple a1 a2 a3 a4 => exact repr_of_reads' (.tuple a1 a2 a3 a4) e2 (fun z => by rw [nd] at z; cases z) hg (by omega) (fun _ _ e => e) (fun h' u tk k => fin h' u tk k) e3
  | dict _ _ _ _ _ => cases nd
end DL

set_option Elab.async false
set_option linter.all false
set_option maxRecDepth 100000
set_option maxHeartbeats 4000000
/-! ELno: raise C() of a class that has no __init__ of its own -/
namespace DL
open PySem PySem.Spec PyProof.Rows L2
/-- what the written part says of such a class -/
structure XnC (K : PySem.W.Frag) (C : Addr) : Prop where
  q : PySem.W.excIn K C [.type "ValueError", .type "Exception", .type "BaseException", .type "object"] "ValueError.__new__" = true
  exC : PySem.W.subIn K (.ref C) (.type "BaseException") = some true
  tyC : PySem.W.typeIn K (.ref C) = some (.type "type")
  kC : PySem.W.keepIn K (.ref C) = true
/-- raise C() -/
def wRaise0 (C : Addr) : WS := fun _ ρ k => k.2.xc ⟨.ref C, [], []⟩ k.1
@[simp] theorem s_Raise0 {C : Addr} {E : DEnds} {ρ : En} {k : Kt} : wRaise0 C E ρ k = k.2.xc ⟨.ref C, [], []⟩ k.1 := rfl
/-- a new list, one of two -/
def wIfL (c : WT) (a b : WL) : WL := fun ρ k Q => c ρ k fun t ρ1 k1 => if t = true then a ρ1 k1 Q else b ρ1 k1 Q
@[simp] theorem s_IfL {c : WT} {a b : WL} {ρ : En} {k : Kt} {Q : List D → En → Kt → Prop} : wIfL c a b ρ k Q = c ρ k fun t ρ1 k1 => if t = true then a ρ1 k1 Q else b ρ1 k1 Q := rfl
end DL

set_option Elab.async false
set_option linter.all false
set_option maxRecDepth 100000
set_option maxHeartbeats 1000000
/-! ELn: try with several except clauses, each with a name or without; the def that hears a lambda -/
namespace DL
open PySem PySem.Spec PyProof.Rows L2
/-- a clause: it names the exception (slot i) or not -/
structure Clause where
  nm : Bool
  c : Value
  ts : Addr → Value → Option Addr → TS
/-- behind the suite the name is gone -/
def offS (i : Nat) (D : L2.Ends) : L2.Ends where
  nx := fun σ H => D.nx (σ.set i none) H
  rt := D.rt
  bk := fun σ H => D.bk (σ.set i none) H
  ct := fun σ H => D.ct (σ.set i none) H
def wHds (K : PySem.W.Frag) (i : Nat) (Wout : WX) (D : L2.Ends) : List Clause → WX
  | [] => Wout
  | q :: r => fun cls d σ H => ∃ b, PySem.W.exmOne K cls q.c = some b ∧ (b = true → ∀ ea, H ea = none → if q.nm then q.ts ea cls d (offS i D) (σ.set i (some (.ref ea))) H else q.ts ea cls d D σ H) ∧ (b = false → wHds K i Wout D r cls d σ H)
def SuiteOk (X : Cx) (ss : List Stmt) (ts : Addr → Value → Option Addr → TS) : Prop := ∀ (ea : Addr) (eo : Obj) (cls : Value) (d : Option Addr) (pn : List (Addr × Obj)), Zc cls d eo → (∃ fv, eo.data = .fields fv) → PSs (X.suite ea ((ea, eo) :: pn)) ss (ts ea cls d)
inductive ClausesOk (X : Cx) (n : Str) : List ExceptHandler → List Clause → Prop
  | nil : ClausesOk X n [] []
  | named {x : Str} {c : Value} {ts : Addr → Value → Option Addr → TS} {st : Stmt} {ss : List Stmt} {p1 p2 : Pos} {hs : List ExceptHandler} {l : List Clause} (hc : Names X x c) (hsu : SuiteOk X (st :: ss) ts) (r : ClausesOk X n hs l) : ClausesOk X n (.ExceptHandler (some (.Name x p1)) (some n) (st :: ss) p2 :: hs) (⟨true, c, ts⟩ :: l)
  | plain {x : Str} {c : Value} {ts : Addr → Value → Option Addr → TS} {st : Stmt} {ss : List Stmt} {p1 p2 : Pos} {hs : List ExceptHandler} {l : List Clause} (hc : Names X x c) (hsu : SuiteOk X (st :: ss) ts) (r : ClausesOk X n hs l) : ClausesOk X n (.ExceptHandler (some (.Name x p1)) none (st :: ss) p2 :: hs) (⟨false, c, ts⟩ :: l)
section
variable {X : Cx} {n : Str} {i : Nat} {body : List Stmt} {h0 : ExceptHandler} {hs : List ExceptHandler} {l : List Clause} {pos : Pos} {tb : WX → TS} {Wout : WX}
/-- what stands when the exception has landed -/
structure Landed (X : Cx) (ps : List (Addr × Obj)) (σ : L2.St) (H : Hp) (B : Heap) (ea : Addr) (cls : Value) (d : Option Addr) (s : Shared) : Prop where
  fl : HandSPX.FlyingZ B (X.env :: X.outer) ea (Zc cls d) s.heap
  src : ∃ sI, Inv X ps σ H sI ∧ (∀ b o, sI.heap.get? b = some o → b ∉ frs X.stack → B.get? b = some o) ∧ sI.heap.UpToSlots s.heap ∧ s.os = sI.os ∧ AllBare s.gens
section
variable {ps : List (Addr × Obj)} {σ : L2.St} {H : Hp} {B : Heap} {ea : Addr} {cls : Value} {d : Option Addr} {s : Shared}
theorem Landed.inv (L : Landed X ps σ H B ea cls d s) : Inv X ps σ H s := let ⟨sI, J, nb, up, os, ag⟩ := L.src; J.landed nb L.fl.1 up os ag
theorem Landed.su (L : Landed X ps σ H B ea cls d s) (hf : X.env.frame = some X.env.locals) (na : H ea = none) {eo : Obj} {fv : Array Value} (he : s.heap.get? ea = some eo) (hd : eo.data = .fields fv) : Inv (X.suite ea ((ea, eo) :: (X.pn ++ ps))) [] σ H s := by
  have nfr : ea ∉ frs (X.env :: X.outer) := fun hm => by
    obtain ⟨_, o', e', hnf⟩ := L.fl.2.2.1.mem hm
    rw [he] at e'
    cases e'
    exact hnf _ hd
  exact L.inv.suite he hd na (fun z => nfr (List.mem_filterMap.mpr ⟨X.env, List.mem_cons_self, by rw [hf, z]⟩)) fun hm => by
    obtain ⟨e, he, q⟩ := List.mem_filterMap.mp hm
    exact nfr (List.mem_filterMap.mpr ⟨e, List.mem_cons_of_mem _ he, q⟩)
theorem Landed.up {h4 : Heap} (L : Landed X ps σ H B ea cls d s) (fl : HandSPX.FlyingZ B (X.env :: X.outer) ea (Zc cls d) h4) (u : s.heap.UpToSlots h4) : Landed X ps σ H B ea cls d { s with heap := h4 } :=
  let ⟨sI, J, nb, up, os, ag⟩ := L.src; ⟨fl, sI, J, nb, up.trans u, os, ag⟩
end
theorem clauses_run (ok : X.Ok) (hst : X.stack = X.env :: X.outer) (hf : X.env.frame = some X.env.locals) (hN : X.N.Nodup) (hi : X.N[i]? = some n) (hln : X.env.kindOf n = some .local) (tk : Takes X Wout) {ps : List (Addr × Obj)} {σ : L2.St} {H : Hp} {B : Heap} {ea : Addr} {cls : Value} {d : Option Addr} {D : L2.Ends} (na : H ea = none) :
    ∀ {hs' : List ExceptHandler} {l' : List Clause}, ClausesOk X n hs' l' → ∀ s3, Landed X ps σ H B ea cls d s3 → wHds X.K i Wout D l' cls d σ H → wpAny (model X.prog X.w) X.A (handleBy (.ref ea) X.env hs') (SP X ps D) X.xe s3 := by
  intro hs' l' hk
  induction hk with
  | nil =>
    intro s3 L w
    obtain ⟨_, _, _, eo, fv, T, oT, tv, he, hz, hd, h1, hr⟩ := id L.fl
    refine wpAny_handleBy_nil ?_
    unfold PySem.passOn
    refine wpAny_bind (wpAny_field he hd h1 ?_)
    rw [if_neg (by simp)]
    have q : wpAny (model X.prog X.w) X.A (setFlight (.ref ea) X.env.frame) (fun _ s4 => wpAny (model X.prog X.w) X.A (throw (.ref ea) : Sem Flow) (SP X ps D) X.xe s4) X.xe s3 := by
      rw [hf]
      obtain ⟨sI, J, nb, up, os, ag⟩ := L.src
      exact HandSPX.setFlight_upZ L.fl fun h4 hh4 up4 => wpAny_throw (tk _ _ ⟨ea, B, sI, ps, σ, H, cls, d, rfl, J, nb, up.trans up4, .inr (.inr (by rw [hst]; exact hh4)), na, os, ag, w⟩)
    first
      | exact wpAny_bind (wpAny_pure (wpAny_bind q))
      | exact wpAny_bind q
  | @named x c ts st ss p1 p2 hs2 l2 hc hsu r ih =>
    intro s3 L w
    obtain ⟨b, hb, yes, no⟩ := w
    obtain ⟨eo, fv, he, hz, hd⟩ := L.fl.there
    refine wpAny_handleBy_cons (codeAny_handlers_test ?_) (by intro q; cases q)
    have LM := PySem.W.exm_one (M := model X.prog X.w) L.inv.kIn (fun A Q E s k q => wpAny_typeOf_ref (k _ _ he) (by rw [hz.1]; exact q)) hb
    have test : ∀ {Q E : Value → Shared → Prop}, Q c s3 → wpAny (model X.prog X.w) (X.A.mark (some (.ref ea))) (eval (.Name x p1) X.env) Q E s3 := fun {Q E} q => by
      obtain ⟨g1, g2, m1 | ⟨m1, m2, m3⟩⟩ := hc
      · exact ld_glob (X := X.suite ea ((ea, eo) :: (X.pn ++ ps))) (L.su hf na he hd) g1 m1 q g2
      · exact ld_blt (X := X.suite ea ((ea, eo) :: (X.pn ++ ps))) (L.su hf na he hd) g1 m1 m2 q m3 g2
    refine test (LM.here ?_)
    cases b with
    | false => exact ih s3 L (no rfl)
    | true =>
      refine codeAny_handlers_suite_as (HandSPX.lands_againZ L.fl fun h4 fl4 up4 => ?_)
      have L4 := L.up fl4 up4
      obtain ⟨eo4, fv4, he4, hz4, hd4⟩ := fl4.there
      refine store_ok (X := X.suite ea ((ea, eo4) :: (X.pn ++ ps))) (v := .ref ea) (L4.su hf na he4 hd4) hN hi (.inl hln) rfl (fun s5 S5 => ?_) (.inr hln)
      have yes' : ts ea cls d (offS i D) (σ.set i (some (.ref ea))) H := yes rfl ea na
      refine wpAny_mono ((hsu ea eo4 cls d (X.pn ++ ps) hz4 ⟨_, hd4⟩).run [] s5 _ H _ S5 yes') (fun f s6 e6 => ?_) (fun _ _ z => z.elim)
      cases f with
      | next => obtain ⟨σ6, H6, S6, q6⟩ := e6; exact gone_ok (S6.unsuite ok) hN hi hln fun s7 J7 => ⟨_, _, J7, q6⟩
      | brk => obtain ⟨σ6, H6, S6, q6⟩ := e6; exact gone_ok (S6.unsuite ok) hN hi hln fun s7 J7 => ⟨_, _, J7, q6⟩
      | cont => obtain ⟨σ6, H6, S6, q6⟩ := e6; exact gone_ok (S6.unsuite ok) hN hi hln fun s7 J7 => ⟨_, _, J7, q6⟩
      | ret u => obtain ⟨v6, σ6, H6, S6, r6, q6⟩ := e6; exact gone_ok (S6.unsuite ok) hN hi hln fun s7 J7 => ⟨_, _, _, J7, r6, q6⟩
  | @plain x c ts st ss p1 p2 hs2 l2 hc hsu r ih =>
    intro s3 L w
    obtain ⟨b, hb, yes, no⟩ := w
    obtain ⟨eo, fv, he, hz, hd⟩ := L.fl.there
    refine wpAny_handleBy_cons (codeAny_handlers_test ?_) (by intro q; cases q)
    have LM := PySem.W.exm_one (M := model X.prog X.w) L.inv.kIn (fun A Q E s k q => wpAny_typeOf_ref (k _ _ he) (by rw [hz.1]; exact q)) hb
    have test : ∀ {Q E : Value → Shared → Prop}, Q c s3 → wpAny (model X.prog X.w) (X.A.mark (some (.ref ea))) (eval (.Name x p1) X.env) Q E s3 := fun {Q E} q => by
      obtain ⟨g1, g2, m1 | ⟨m1, m2, m3⟩⟩ := hc
      · exact ld_glob (X := X.suite ea ((ea, eo) :: (X.pn ++ ps))) (L.su hf na he hd) g1 m1 q g2
      · exact ld_blt (X := X.suite ea ((ea, eo) :: (X.pn ++ ps))) (L.su hf na he hd) g1 m1 m2 q m3 g2
    refine test (LM.here ?_)
    cases b with
    | false => exact ih s3 L (no rfl)
    | true =>
      refine codeAny_handlers_suite (HandSPX.lands_againZ L.fl fun h4 fl4 up4 => ?_)
      have L4 := L.up fl4 up4
      obtain ⟨eo4, fv4, he4, hz4, hd4⟩ := fl4.there
      have yes' : ts ea cls d D σ H := yes rfl ea na
      refine wpAny_mono ((hsu ea eo4 cls d (X.pn ++ ps) hz4 ⟨_, hd4⟩).run [] _ _ H _ (L4.su hf na he4 hd4) yes') (fun f s6 e6 => ?_) (fun _ _ z => z.elim)
      cases f with
      | next => obtain ⟨σ6, H6, S6, q6⟩ := e6; exact ⟨_, _, S6.unsuite ok, q6⟩
      | brk => obtain ⟨σ6, H6, S6, q6⟩ := e6; exact ⟨_, _, S6.unsuite ok, q6⟩
      | cont => obtain ⟨σ6, H6, S6, q6⟩ := e6; exact ⟨_, _, S6.unsuite ok, q6⟩
      | ret u => obtain ⟨v6, σ6, H6, S6, r6, q6⟩ := e6; exact ⟨_, _, _, S6.unsuite ok, r6, q6⟩
/-- try: body / except .. -/
theorem ps_try_hds (hst : X.stack = X.env :: X.outer) (hf : X.env.frame = some X.env.locals) (hN : X.N.Nodup) (hi : X.N[i]? = some n) (hln : X.env.kindOf n = some .local) (tk : Takes X Wout)
    (hb : ∀ (W : WX) (pn : List (Addr × Obj)) (xe : Value → Shared → Prop), Takes (X.tr pn xe) W → PassesOwn (model X.prog X.w) X.A X.env xe → PSs (X.tr pn xe) body (tb W))
    (hh : ClausesOk X n (h0 :: hs) l) : PS X (.Try body (h0 :: hs) [] [] pos) (fun D σ H => tb (wHds X.K i Wout D l) D σ H) := by
  refine ⟨fun ps s σ H D I h => wpAny_Try_except ?_⟩
  have ok := I.ok
  have hfr : X.A.frames = some (X.env :: X.outer) := by rw [ok.frames, hst]
  refine wpAny_mono ((hb (wHds X.K i Wout D l) (X.pn ++ ps) (fun e t1 => wpAny (model X.prog X.w) X.A (noteFrame e X.env) (fun _ t2 => wpAny (model X.prog X.w) X.A (setFlight e none) (fun _ t3 => wpAny (model X.prog X.w) X.A (handleBy e X.env (h0 :: hs)) (SP X ps D) X.xe t3) X.xe t2) X.xe t1) (fun u s' xx => ?_) PassesOwn.looking).run [] s σ H D (I.toTry _) h) (fun f t1 e1 => ?_) (fun _ _ z => z)
  · obtain ⟨ea, B, sI, ps', σ', H', cls, d, rfl, J', nb, up, sky, na, os, ag, w⟩ := xx
    have J : Inv X ps σ' H' sI := J'.ofTry ok
    have sky' : Sky B (X.env :: X.outer) ea (Zc cls d) X.env.locals s'.heap := by rw [← hst]; exact sky
    refine Sky.land Zc.steady hfr hf sky' fun h3 fl3 up3 => ?_
    exact clauses_run ok hst hf hN hi hln tk na hh { s' with heap := h3 } ⟨fl3, sI, J, nb, up.trans up3, os, ag⟩ w
  · cases f with
    | next => obtain ⟨σ', H', J', q⟩ := e1; exact wpAny_execs_nil ⟨σ', H', J'.ofTry ok, q⟩
    | brk => obtain ⟨σ', H', J', q⟩ := e1; exact ⟨σ', H', J'.ofTry ok, q⟩
    | cont => obtain ⟨σ', H', J', q⟩ := e1; exact ⟨σ', H', J'.ofTry ok, q⟩
    | ret u => obtain ⟨v, σ', H', J', r, q⟩ := e1; exact ⟨v, σ', H', J'.ofTry ok, r, q⟩
end
end DL

set_option Elab.async false
set_option linter.all false
set_option maxRecDepth 100000
set_option maxHeartbeats 1000000
/-! ELgd: isinstance(e, (A, B)) of a caught exception (for clauses with a condition) -/
namespace DL
open PySem PySem.Spec PyProof.Rows L2
/-- isinstance(e, (A, ..)), e the exception that the suite holds -/
def rIsET (K : PySem.W.Frag) (D a : Addr) : List V → Hp → VK → Prop := fun xs H Q => ∃ (p : Addr) (cs : List Addr) (b : Bool), xs = [.ref a, .ref p] ∧ H p = some (.tup (cs.map V.ref)) ∧ PySem.W.kitAny K (.ref D) (cs.map Value.ref) = some b ∧ Q (.bl b) H
theorem vals_refs : ∀ {cs : List Addr} {us : List Value}, Vals (cs.map V.ref) us → us = cs.map Value.ref
  | [], _, .nil => rfl
  | c :: r, _, .cons h t => by
    rw [vals_refs t]
    cases h
    rfl
section
variable {X : Cx} {ea D Cg : Addr} {eo : Obj} {pn : List (Addr × Obj)} {n g : Str} {i : Nat}
end
end DL

set_option Elab.async false
set_option linter.all false
set_option maxRecDepth 100000
set_option maxHeartbeats 4000000
/-! ELge: the class of a caught exception that has a dict; isinstance of it -/
namespace DL
open PySem PySem.Spec PySem.Calls PyProof.Rows L2
open PySem.W (Frag InstAt findIn specialIn takesIn mroIn subIn hasDictIn findObj looks_findIn looks_subIn looks_find findObj_dataN class_get handedOut_of Looks kitOne kitAny KitX any_some clsIn)
section
variable {prog : Program} {w : World} {A : Around} {E : Value → Shared → Prop} {K : Frag} {x C : Addr} {ob om : Obj}
/-- e.__class__ -/
theorem exc_class {s : Shared} {Q : Option Value → Shared → Prop} (F : ExcC K C) (Y : K.In s.heap) (I : InstAt s.heap x ob C (some om)) (q : Q (some (.ref C)) { s with toks := s.toks + 1 }) : wpAny (model prog w) A (getAttr? (.ref x) "__class__") Q E s := by
  have bind : findObj K C (some om) "__class__" = some (.bind (.builtin "getset_descriptor.__get__") (.builtin "object.__class__")) := by
    obtain ⟨cd, hc, _⟩ := any_some F.hd
    first
      | exact PySem.W.findObj_data (by rw [hc]; rfl) F.ha F.hn F.ht
      | (unfold findObj; rw [hc, Option.bind_some, F.ha, Option.bind_some]; simp [F.hn, F.ht])
  obtain ⟨hp, g, d, t, os⟩ := s
  have ty := I.type (M := model prog w)
  have ga := looks_findIn (M := model prog w) Y F.hg
  have gn := looks_findIn (M := model prog w) Y F.hk
  have fo := looks_find (M := model prog w) Y I bind
  have isE : Looks (model prog w) hp (isInstance (.ref x) (.type "BaseException")) true := ty.andThen (looks_subIn Y F.hs)
  have z1 : (Value.builtin "BaseException.__getattribute__" == Value.builtin "object.__getattribute__") = false := by decide +kernel
  have z2 : (onTheHeap (Value.ref C) && Value.builtin "BaseException.__getattribute__" == Value.builtin "object.__getattribute__") = false := by rw [z1]; rfl
  have z3 : (false && onTheHeap (Value.builtin "BaseException.__getattribute__")) = false := rfl
  unfold getAttr? getAttrBy? getAttrBy
  refine wpAny_bind (wpAny_mkText (wpAny_bind (wpAny_attempt (wpAny_holding (wpAny_bind (ty.at (wpAny_bind (ga.at ?_))))))))
  show wpAny _ _ (if (onTheHeap (Value.ref C) && Value.builtin "BaseException.__getattribute__" == Value.builtin "object.__getattribute__") = true then _ else _) _ _ _
  rw [z2, if_neg Bool.false_ne_true]
  unfold getAttrByItsOwn hookBefore
  refine wpAny_bind ?_
  rw [if_pos (show onTheHeap (Value.ref C) = true from rfl)]
  refine gn.at ?_
  refine wpAny_bind (wpAny_attempt (wpAny_holding ?_))
  unfold callGetattribute
  rw [z3, if_neg Bool.false_ne_true]
  unfold boundAndCalled
  rw [PySem.F.excAttr_ValueError.ga.bind (.ref x)]
  refine wpAny_bind (wpAny_pure ?_)
  show wpAny _ _ (call (.builtin "BaseException.__getattribute__") [.ref x, .str "__class__" t]) _ _ _
  refine wpAny_call (codeAny_call_builtin PySem.F.excAttr_ValueError.ga.plain PySem.F.entry_bexc_ga ?_)
  refine @PySem.W.check_slot (model prog w) _ _ ⟨hp, g, d, t + 1, os⟩ "BaseException.__getattribute__" "BaseException" "__getattribute__" (.ref x) [.str "__class__" t] [] _ (by decide +kernel) (by decide +kernel) isE (PySem.F.args_bexc_ga (.ref x) (.str "__class__" t)) ?_
  unfold Builtin.«object.__getattribute__»
  refine wpAny_bind (wpAny_of_eq (a := ((Value.ref x : Value), [Value.str "__class__" t])) (by first | rfl | (simp only [slotArgs]; rfl)) ?_)
  refine wpAny_bind (wpAny_pure (wpAny_bind (ty.at (wpAny_bind (fo.at ?_)))))
  show wpAny _ _ (holding [Value.builtin "object.__class__"] (call (.builtin "getset_descriptor.__get__") [.builtin "object.__class__", .ref x, .ref C]) >>= ret) _ _ _
  refine wpAny_bind (wpAny_holding (wpAny_call (class_get (s := ⟨hp, g, d, t + 1, os⟩) (ox := ob) (od := some om) Y I F.hm ?_)))
  refine wpAny_pure ?_
  show wpAny _ _ (handedOut (.ref C)) _ _ _
  rw [handedOut_of (v := .ref C) rfl]
  first
    | exact wpAny_pure (wpAny_pure q)
    | exact wpAny_pure q
    | exact wpAny_pure (wpAny_bind (wpAny_pure (wpAny_pure q)))
theorem exc_kitx (F : ExcC K C) : KitX K (.ref x) (.ref C) (fun h => InstAt h x ob C (some om)) where
  ty := fun _ _ _ I => I.type
  it := fun M h Y _ => by
    obtain ⟨cd, hc, _⟩ := any_some F.hd
    unfold clsIn at hc
    split at hc
    · rename_i ho
      intro A' Q' E' s' k q
      unfold isType loadHead
      exact wpAny_bind (wpAny_loadPart (k _ _ (Y _ _ ho)) (wpAny_pure q))
    · cases hc
  ne := (PySem.W.handS_kitx_exc (x := x) (ox := ob) F.hg F.hk F.hs F.hd F.ha F.hn F.ht F.hm).ne
  ca := fun Y I k => exc_class F Y I k
end
/-- isinstance(e, c) of the exception that the suite holds, whose class and dict are told at the reading -/
def rIsD (K : Frag) (cls : Value) (d : Option Addr) (a : Addr) : List V → Hp → VK → Prop := fun xs H Q => ∃ (C dd : Addr) (fs : List (Str × V)) (c : V) (cv : Value) (b : Bool), cls = .ref C ∧ d = some dd ∧ ExcC K C ∧ H dd = some (.xd fs) ∧ xs = [.ref a, c] ∧ (∀ u, RelV c u → u = cv) ∧ kitOne K (.ref C) cv = some b ∧ Q (.bl b) H
theorem inst_held {X : Cx} {a C dd : Addr} {oe : Obj} {pn pins : List (Addr × Obj)} {σ : L2.St} {H : Hp} {s : Shared} {fs : List (Str × V)} (hz : Zc (.ref C) (some dd) oe) (hf : ∃ vs, oe.data = .fields vs) (I : Inv (X.suite a ((a, oe) :: pn)) pins σ H s) (e : H dd = some (.xd fs)) : ∃ om, InstAt s.heap a oe C (some om) := by
  obtain ⟨hget, _⟩ := I.pin (a, oe) (List.mem_append.mpr (.inl List.mem_cons_self))
  obtain ⟨mA, hns, hr⟩ := (show ObjOk X.prog X.w H s.heap dd (.xd fs) from I.hok dd _ e)
  obtain ⟨om, ho, _⟩ := lookIn_ns hns
  obtain ⟨vs, hv⟩ := hf
  obtain ⟨oc, od, oda, osl⟩ := oe
  obtain ⟨h1, h2⟩ := hz
  dsimp only at h1 h2 hv
  subst h1 h2 hv
  exact ⟨om, hget, rfl, rfl, ho⟩
theorem call_isD {X : Cx} {a : Addr} {cls : Value} {d : Option Addr} {oe : Obj} {pn : List (Addr × Obj)} (hz : Zc cls d oe) (hf : ∃ vs, oe.data = .fields vs) : CallR (X.suite a ((a, oe) :: pn)) (.builtin "isinstance") (rIsD X.K cls d a) := by
  intro pins s σ H xs us Q I r h
  obtain ⟨C, dd, fs, c, cv, b, rfl, rfl, F, hd, rfl, hcv, e, q⟩ := h
  match r with
  | .cons rx (.cons rt .nil) =>
    cases rx
    have ec := hcv _ rt
    subst ec
    obtain ⟨om, J⟩ := inst_held hz hf I hd
    exact PySem.W.kia_one (exc_kitx F) I.kIn J e (fun z => nomatch z) fun tk => ⟨.bl b, H, I.kept (t' := tk) fun _ _ z => z, rfl, q⟩
/-- isinstance(e, (A, ..)) of it -/
def rIsDT (K : Frag) (cls : Value) (d : Option Addr) (a : Addr) : List V → Hp → VK → Prop := fun xs H Q => ∃ (C dd : Addr) (fs : List (Str × V)) (p : Addr) (cs : List Addr) (b : Bool), cls = .ref C ∧ d = some dd ∧ ExcC K C ∧ H dd = some (.xd fs) ∧ xs = [.ref a, .ref p] ∧ H p = some (.tup (cs.map V.ref)) ∧ kitAny K (.ref C) (cs.map Value.ref) = some b ∧ Q (.bl b) H
theorem call_isDT {X : Cx} {a : Addr} {cls : Value} {d : Option Addr} {oe : Obj} {pn : List (Addr × Obj)} (hz : Zc cls d oe) (hf : ∃ vs, oe.data = .fields vs) : CallR (X.suite a ((a, oe) :: pn)) (.builtin "isinstance") (rIsDT X.K cls d a) := by
  intro pins s σ H xs us Q I r h
  obtain ⟨C, dd, fs, p, cs, b, rfl, rfl, F, hd, rfl, hp, e, q⟩ := h
  match r with
  | .cons rx (.cons rt .nil) =>
    cases rx
    cases rt
    obtain ⟨om, J⟩ := inst_held hz hf I hd
    obtain ⟨its, r, ht, _⟩ := I.tuple (SqT.of hp)
    obtain ⟨⟨oc, od, oda, osl⟩, ho, hc, n, hdd⟩ := ht
    have ei := vals_refs r
    dsimp only at hc hdd
    subst hc hdd
    exact PySem.W.kia_tup (exc_kitx F) I.kIn J ho (by rw [ei]; exact e) (fun z => nomatch z) fun tk => ⟨.bl b, H, I.kept (t' := tk) fun _ _ z => z, rfl, q⟩
section
variable {X : Cx} {ea Cg Cg2 : Addr} {eo : Obj} {cls : Value} {d : Option Addr} {pn : List (Addr × Obj)} {n g g2 : Str} {i : Nat} {body : Expr} {tb : TE} {jj kk : Nat} {p1 p2 p3 p4 p5 p6 p7 p8 p9 : Pos}
/-- body if not isinstance(n, g) else None, where the caught exception's class is not of g -/
theorem pe_guardD (hz : Zc cls d eo) (hf : ∃ vs, eo.data = .fields vs) (hN : X.N[i]? = some n) (hv : Vis X.env.scope n) (hnd : (n == ("__debug__" : Str)) = false) (hnc : (n == ("__classdict__" : Str)) = false)
    (hi : Gl X "isinstance") (him : X.mg "isinstance" = none) (hg : Gl X g) (hgm : X.mg g = some (.ref Cg)) (hgd : (g == ("__debug__" : Str)) = false) (pb : PE (X.suite ea ((ea, eo) :: pn)) body tb) :
    ∃ t, PE (X.suite ea ((ea, eo) :: pn)) (.IfExp (.UnaryOp .Not (.Call (.Name "isinstance" p1) [.Name n p2, .Name g p3] [] p4) p5) body (.Constant .none jj p6) p7) t ∧
      ∀ (σ : L2.St) (H : Hp) (Q : VK) (C dd : Addr) (fs : List (Str × V)), cls = .ref C → d = some dd → ExcC X.K C → H dd = some (.xd fs) → kitOne X.K (.ref C) (.ref Cg) = some false → σ[i]? = some (some (.ref ea)) → (∀ H', AExt H H' → tb σ H' Q) → t σ H Q := by
  refine ⟨_, pe_ifExp (pt_not (pt_truth (pe_callB (X := X.suite ea ((ea, eo) :: pn)) (call_isD hz hf) hi him (by decide +kernel) (pa_cons (pe_var (X := X.suite ea ((ea, eo) :: pn)) (i := i) hN hv hnd hnc) (pa_cons (pe_glob (X := X.suite ea ((ea, eo) :: pn)) (v := .ref Cg) hg hgm rfl hgd) pa_nil))) (fun _ => rfl))) pb pe_non, fun σ H Q C dd fs ec ed F hd hk hs ht => ?_⟩
  exact ⟨.ref ea, hs, C, dd, fs, .ref Cg, .ref Cg, false, ec, ed, F, hd, rfl, fun u h => h, hk, false, rfl, ht H (AExt.refl H)⟩
/-- the same with two classes -/
theorem pe_guardD2 (hz : Zc cls d eo) (hf : ∃ vs, eo.data = .fields vs) (hN : X.N[i]? = some n) (hv : Vis X.env.scope n) (hnd : (n == ("__debug__" : Str)) = false) (hnc : (n == ("__classdict__" : Str)) = false)
    (hi : Gl X "isinstance") (him : X.mg "isinstance" = none) (hg : Gl X g) (hgm : X.mg g = some (.ref Cg)) (hgd : (g == ("__debug__" : Str)) = false) (hg2 : Gl X g2) (hgm2 : X.mg g2 = some (.ref Cg2)) (hgd2 : (g2 == ("__debug__" : Str)) = false) (pb : PE (X.suite ea ((ea, eo) :: pn)) body tb) :
    ∃ t, PE (X.suite ea ((ea, eo) :: pn)) (.IfExp (.UnaryOp .Not (.Call (.Name "isinstance" p1) [.Name n p2, .Tuple [.Name g p3, .Name g2 p8] kk p9] [] p4) p5) body (.Constant .none jj p6) p7) t ∧
      ∀ (σ : L2.St) (H : Hp) (Q : VK) (C dd : Addr) (fs : List (Str × V)), cls = .ref C → d = some dd → ExcC X.K C → H dd = some (.xd fs) → kitAny X.K (.ref C) [.ref Cg, .ref Cg2] = some false → σ[i]? = some (some (.ref ea)) → (∀ H', AExt H H' → tb σ H' Q) → t σ H Q := by
  refine ⟨_, pe_ifExp (pt_not (pt_truth (pe_callB (X := X.suite ea ((ea, eo) :: pn)) (call_isDT hz hf) hi him (by decide +kernel) (pa_cons (pe_var (X := X.suite ea ((ea, eo) :: pn)) (i := i) hN hv hnd hnc) (pa_cons (pe_tup (X := X.suite ea ((ea, eo) :: pn)) (pa_cons (pe_glob (X := X.suite ea ((ea, eo) :: pn)) (v := .ref Cg) hg hgm rfl hgd) (pa_cons (pe_glob (X := X.suite ea ((ea, eo) :: pn)) (v := .ref Cg2) hg2 hgm2 rfl hgd2) pa_nil))) pa_nil))) (fun _ => rfl))) pb pe_non, fun σ H Q C dd fs ec ed F hd hk hs ht => ?_⟩
  refine ⟨.ref ea, hs, by show 2 ≤ sizeLine; decide, fun p hp => ?_⟩
  have x3 : AExt H (upd H p (.tup [.ref Cg, .ref Cg2])) := AExt.upd hp
  exact ⟨C, dd, fs, p, [Cg, Cg2], false, ec, ed, F, x3 _ _ hd, rfl, upd_same, hk, false, rfl, ht _ x3⟩
end
end DL

set_option Elab.async false
set_option linter.all false
set_option maxRecDepth 100000
set_option maxHeartbeats 1000000
/-! ELo: the def that hears a lambda: try: return (tag, call()) / except C as e: return (.., e.f, repr(e.f)) -/
namespace DL
open PySem PySem.Spec PyProof.Rows L2
inductive Part where
  | str (s : Str) | fld (f : Str) | rep (f : Str) | tpf (f : Str) | no
/-- tuple(e.f) -/
def Part.tp : Part → Bool
  | .tpf _ => true
  | _ => false
def Part.text : Part → Bool
  | .str _ => true
  | _ => false
/-- repr(e.f): asks that no repr is under way -/
def Part.rp : Part → Bool
  | .rep _ => true
  | _ => false
/-- a field is read -/
def Part.fd : Part → Bool
  | .str _ => false
  | _ => true
def Part.fs : Part → List Str
  | .no => []
  | .str _ => []
  | .fld f => [f]
  | .rep f => [f]
  | .tpf f => [f]
inductive PartB (n : Str) : Expr → Part → Prop
  | str {s : Str} {j : Nat} {p : Pos} : PartB n (.Constant (.str s) j p) (.str s)
  | fld {f : Str} {p1 p2 : Pos} : PartB n (.Attribute (.Name n p1) f p2) (.fld f)
  | rep {f : Str} {p0 p1 p2 p3 : Pos} : PartB n (.Call (.Name "repr" p0) [.Attribute (.Name n p1) f p2] [] p3) (.rep f)
  | tpf {f : Str} {p0 p1 p2 p3 : Pos} : PartB n (.Call (.Name "tuple" p0) [.Attribute (.Name n p1) f p2] [] p3) (.tpf f)
  | no {f : Str} {p0 p1 p2 p3 : Pos} : PartB n (.Call (.Name "repr" p0) [.Attribute (.Name n p1) f p2] [] p3) .no
inductive PartsB (n : Str) : List Expr → List Part → Prop
  | nil : PartsB n [] []
  | cons {e : Expr} {es : List Expr} {q : Part} {qs : List Part} (h : PartB n e q) (t : PartsB n es qs) : PartsB n (e :: es) (q :: qs)
def partD (x : XD) : Part → (D → Prop) → Prop
  | .str s, P => P (.str s)
  | .fld f, P => ∃ d, (x.ns.zip x.ds).lookup f = some d ∧ P d
  | .rep f, P => ∃ d y, (x.ns.zip x.ds).lookup f = some d ∧ toPy d = some y ∧ y.showable = true ∧ y.shown.length ≤ sizeLine ∧ y.depth ≤ 50 ∧ P (.str y.shown)
  | .no, _ => False
  | .tpf f, P => ∃ ds, (x.ns.zip x.ds).lookup f = some (.tup ds) ∧ P (.tup ds)
def partsD (x : XD) : List Part → (List D → Prop) → Prop
  | [], P => P []
  | q :: qs, P => partD x q fun d => partsD x qs fun ds => P (d :: ds)
section
variable {Bx : Addr → Prop} {Y : Cx} {n : Str} {i : Nat} {ea C : Addr} {eo : Obj} {cls : Value} {d : Option Addr} {pn : List (Addr × Obj)}
theorem part_ok (hN : Y.N[i]? = some n) (hv : Vis Y.env.scope n) (hnd : (n == ("__debug__" : Str)) = false) (hnc : (n == ("__classdict__" : Str)) = false) (hu : Y.A.units + 65 < cLine) (hrg : Gl Y "repr") (hrm : Y.mg "repr" = none) (T : XfC Y.K C) (hz : Zc cls d eo) (hf : ∃ fv, eo.data = .fields fv)
    {e : Expr} {q : Part} (h : PartB n e q) (htp : q.tp = true → Gl Y "tuple" ∧ Y.mg "tuple" = none) (hgd : q.rp = true → Y.A.guards = some []) (hno : ∀ f ∈ q.fs, PySem.W.findIn Y.K (.ref C) f = some none) : ∃ t, PE (Y.suite ea ((ea, eo) :: pn)) e t ∧ ∀ (σ : L2.St) (H : Hp) (x : XD) (P : D → Prop) (Q : VK), σ[i]? = some (some (.ref ea)) → RepX Bx H cls d x → cls = .ref C → partD x q P → (∀ v dd, Rep Bx H v dd → P dd → Q v H) → t σ H Q := by
  have pf : ∀ {f : Str} {p1 p2 : Pos}, PySem.W.findIn Y.K (.ref C) f = some none → PE (Y.suite ea ((ea, eo) :: pn)) (.Attribute (.Name n p1) f p2) (tXf ea cls d C f (tVar i)) := fun {f p1 p2} h => pe_xf T h hz hf (pe_var (X := Y.suite ea ((ea, eo) :: pn)) hN hv hnd hnc) rfl
  have rf : ∀ {f : Str} {σ : L2.St} {H : Hp} {x : XD} {dd : D} {Q : VK}, σ[i]? = some (some (.ref ea)) → RepX Bx H cls d x → cls = .ref C → (x.ns.zip x.ds).lookup f = some dd → (∀ v, Rep Bx H v dd → Q v H) → tXf ea cls d C f (tVar i) σ H Q := fun {f σ H x dd Q} hs rx hc l q => by
    obtain ⟨_, rx⟩ := rx
    cases d with
    | none => obtain ⟨e1, e2⟩ := rx; rw [e1] at l; cases l
    | some a =>
      obtain ⟨vs, e1, e2, rl⟩ := rx
      obtain ⟨v, e3, rv⟩ := zip_lookup rl l
      exact ⟨.ref ea, hs, rfl, hc, a, _, v, rfl, e1, e3, q v rv⟩
  cases h with
  | str => exact ⟨_, pe_str, fun σ H x P Q hs rx hc h q => q _ _ (.str _) h⟩
  | @fld f p1 p2 =>
    refine ⟨_, pf (hno f (List.mem_singleton.mpr rfl)), fun σ H x P Q hs rx hc h q => ?_⟩
    obtain ⟨dd, l, h⟩ := h
    exact rf hs rx hc l fun v rv => q v dd rv h
  | @rep f p0 p1 p2 p3 =>
    refine ⟨_, pe_callB (X := Y.suite ea ((ea, eo) :: pn)) (call_repr (X := Y.suite ea ((ea, eo) :: pn)) (hgd rfl) hu) hrg hrm (by decide +kernel) (pa_cons (pf (hno f (List.mem_singleton.mpr rfl))) pa_nil), fun σ H x P Q hs rx hc h q => ?_⟩
    obtain ⟨dd, y, l, e1, e2, e3, e4, h⟩ := h
    exact rf hs rx hc l fun v rv => ⟨v, dd, _, y, rfl, .any rv, e1, e2, e3, e4, q _ _ (.str _) h⟩
  | no => exact ⟨fun _ _ _ => False, ⟨fun _ _ _ _ _ _ h => h.elim⟩, fun σ H x P Q hs rx hc h q => h.elim⟩
  | @tpf f p0 p1 p2 p3 =>
    obtain ⟨g1, g2⟩ := htp rfl
    refine ⟨_, pe_callTy (X := Y.suite ea ((ea, eo) :: pn)) (call_tuple_of (X := Y.suite ea ((ea, eo) :: pn))) g1 g2 (by decide +kernel) (pa_cons (pf (hno f (List.mem_singleton.mpr rfl))) pa_nil), fun σ H x P Q hs rx hc h q => ?_⟩
    obtain ⟨ds, l, h⟩ := h
    exact rf hs rx hc l fun v rv => by
      cases rv with
      | tup na ea la => exact ⟨_, _, rfl, .inr ⟨SqT.of ea, q _ _ (.tup na ea la) h⟩⟩
theorem parts_ok (hN : Y.N[i]? = some n) (hv : Vis Y.env.scope n) (hnd : (n == ("__debug__" : Str)) = false) (hnc : (n == ("__classdict__" : Str)) = false) (hu : Y.A.units + 65 < cLine) (hrg : Gl Y "repr") (hrm : Y.mg "repr" = none) (T : XfC Y.K C) (hz : Zc cls d eo) (hf : ∃ fv, eo.data = .fields fv) :
    ∀ {es : List Expr} {qs : List Part}, PartsB n es qs → (∀ q ∈ qs, q.tp = true → Gl Y "tuple" ∧ Y.mg "tuple" = none) → (∀ q ∈ qs, q.rp = true → Y.A.guards = some []) → (∀ q ∈ qs, ∀ f ∈ q.fs, PySem.W.findIn Y.K (.ref C) f = some none) → ∃ t, PA (Y.suite ea ((ea, eo) :: pn)) es t ∧ ∀ (σ : L2.St) (H : Hp) (x : XD) (P : List D → Prop) (Q : List V → Hp → Prop), σ[i]? = some (some (.ref ea)) → RepX Bx H cls d x → cls = .ref C → partsD x qs P → (∀ vs ds, RepL Bx H vs ds → ds.length = qs.length → P ds → Q vs H) → t σ H Q
  | _, _, .nil, _, _, _ => ⟨_, pa_nil, fun σ H x P Q hs rx hc h q => q [] [] .nil rfl h⟩
  | _, _, .cons (e := e) (es := es) (q := q1) (qs := qs) h t, htp, hgd, hno => by
    obtain ⟨t1, p1, r1⟩ := part_ok (ea := ea) (pn := pn) hN hv hnd hnc hu hrg hrm T hz hf h (htp q1 List.mem_cons_self) (hgd q1 List.mem_cons_self) (hno q1 List.mem_cons_self)
    obtain ⟨t2, p2, r2⟩ := parts_ok hN hv hnd hnc hu hrg hrm T hz hf t (fun q hq => htp q (List.mem_cons_of_mem _ hq)) (fun q hq => hgd q (List.mem_cons_of_mem _ hq)) fun q hq => hno q (List.mem_cons_of_mem _ hq)
    have hs1 : starEach (e :: es) Y.env = (false, eval e Y.env) :: starEach es Y.env := by cases h <;> rfl
    refine ⟨_, pa_cons p1 p2 hs1, fun σ H x P Q hs rx hc h q => ?_⟩
    refine r1 σ H x _ _ hs rx hc h fun v dd rv h2 => ?_
    exact r2 σ H x _ _ hs rx hc h2 fun vs ds rl hl h3 => q (v :: vs) (dd :: ds) (.cons rv rl) (by simp [hl]) h3
end
/-! ### the clauses of the hearing def -/
/-- a clause: the class's name, whether the exception gets a name, what is given back -/
structure HC where
  x : Str
  nm : Bool
  ps : List Part
  gs : List Str
inductive HdsB (n : Str) : List ExceptHandler → List HC → Prop
  | nil : HdsB n [] []
  | named {x : Str} {es : List Expr} {qs : List Part} {kk : Nat} {p1 p2 p3 p4 : Pos} {hs : List ExceptHandler} {l : List HC} (h : PartsB n es qs) (t : HdsB n hs l) : HdsB n (.ExceptHandler (some (.Name x p1)) (some n) [.Return (some (.Tuple es kk p2)) p3] p4 :: hs) (⟨x, true, qs, []⟩ :: l)
  | plain {x : Str} {es : List Expr} {qs : List Part} {kk : Nat} {p1 p2 p3 p4 : Pos} {hs : List ExceptHandler} {l : List HC} (h : PartsB n es qs) (hq : ∀ q ∈ qs, q.text = true) (t : HdsB n hs l) : HdsB n (.ExceptHandler (some (.Name x p1)) none [.Return (some (.Tuple es kk p2)) p3] p4 :: hs) (⟨x, false, qs, []⟩ :: l)
  | guard1 {x g : Str} {es : List Expr} {qs : List Part} {kk jj : Nat} {p1 p2 p3 p4 q1 q2 q3 q4 q5 q6 q7 : Pos} {hs : List ExceptHandler} {l : List HC} (h : PartsB n es qs) (hq : qs.any Part.fd = true) (t : HdsB n hs l) : HdsB n (.ExceptHandler (some (.Name x p1)) (some n) [.Return (some (.IfExp (.UnaryOp .Not (.Call (.Name "isinstance" q1) [.Name n q2, .Name g q3] [] q4) q5) (.Tuple es kk p2) (.Constant .none jj q6) q7)) p3] p4 :: hs) (⟨x, true, qs, [g]⟩ :: l)
  | guard2 {x g g2 : Str} {es : List Expr} {qs : List Part} {kk jj k2 : Nat} {p1 p2 p3 p4 q1 q2 q3 q4 q5 q6 q7 q8 q9 : Pos} {hs : List ExceptHandler} {l : List HC} (h : PartsB n es qs) (hq : qs.any Part.fd = true) (t : HdsB n hs l) : HdsB n (.ExceptHandler (some (.Name x p1)) (some n) [.Return (some (.IfExp (.UnaryOp .Not (.Call (.Name "isinstance" q1) [.Name n q2, .Tuple [.Name g q3, .Name g2 q8] k2 q9] [] q4) q5) (.Tuple es kk p2) (.Constant .none jj q6) q7)) p3] p4 :: hs) (⟨x, true, qs, [g, g2]⟩ :: l)
theorem partsD_dict {x : XD} (e : x.ns = []) : ∀ {qs : List Part} {P : List D → Prop}, partsD x qs P → qs.any Part.fd = true → False
  | [], _, _, h => by cases h
  | q :: r, P, h, hq => by
    have nl : ∀ {f : Str} {d : D}, (x.ns.zip x.ds).lookup f = some d → False := fun h => by rw [e] at h; cases h
    cases q with
    | str s => exact partsD_dict e (qs := r) h (by simpa [Part.fd] using hq)
    | fld f => obtain ⟨d, l, _⟩ := h; exact nl l
    | rep f => obtain ⟨d, y, l, _⟩ := h; exact nl l
    | tpf f => obtain ⟨d, l, _⟩ := h; exact nl l
    | no => exact h
/-- what is given back for the exception x; cs: the classes of the clauses -/
def hdsD (x : XD) : List (Addr × List Part) → (D → Prop) → Prop
  | [], _ => False
  | q :: r, P => if x.cls = .ref q.1 then partsD x q.2 fun ds => P (.tup ds) else hdsD x r P
end DL

set_option Elab.async false
set_option linter.all false
set_option maxRecDepth 100000
set_option maxHeartbeats 1000000
/-! ELp: f(lambda: e), f the def that hears: what it gives, what it gives where e raises -/
namespace DL
open PySem PySem.Spec PyProof.Rows L2
open LamX (TabS Tabs CodeO LamS lamEnv lamCx TabB)
section
variable {X : Cx} {pins : List (Addr × Obj)} {σ : L2.St} {H : Hp} {s : Shared}
/-- a lambda is made: the table P alone is written -/
theorem lam_new {T : List (Addr × Str)} {c P : Addr} {params : Arguments} {body : Expr} {scope : Scope} {pos : Pos} {E Q : Value → Shared → Prop} (I : Inv X pins σ H s) (B : TabB X.base X.mg c P) (ec : X.env.code = .ref c) (hm : (P, X.env.qual ++ "<lambda>") ∈ T)
    (hu : ∀ z ∈ T, z.1 = P → z.2 = X.env.qual ++ "<lambda>") (hT : Tabs T H) (hd : defaultsOf params X.env = ([], [])) (hfree : ∀ y ∈ scope.names, y.2 = .free → ∃ c, X.env.cells.lookup y.1 = some c)
    (go : ∀ (f c' : Addr) (pm ct : Value) (H1 : Hp) (s1 : Shared), Inv X pins σ H1 s1 → (∀ b o, b ≠ P → H b = some o → H1 b = some o) → Tabs T H1 → s1.heap.get? f = some (PySem.W.kla_obj "<lambda>" (X.env.qual ++ "<lambda>") params body scope (cloFrom X.env.cells scope.names []) pm c' ct) → H1 f = none → f ∉ frs X.stack → H1 c' = some (CodeO c' (X.env.qual ++ "<lambda>")) → Q (.ref f) s1) :
    wpAny (model X.prog X.w) X.A (eval (.Lambda params body scope pos) X.env) Q E s := by
  obtain ⟨ps, eP, tr, am⟩ := hT _ hm
  have hb : s.heap.BuiltinsAt X.mg P := B.bm.keeps I.bk
  have gP : s.heap.get? P = some { cls := .none, data := .fields ps } := I.hok P _ eP
  have out : ∀ {f : Addr}, s.heap.objs.size ≤ f → f ∉ frs X.stack := fun {f} le z => by
    rcases List.mem_cons.mp (I.stkSub _ z) with e | e
    · exact absurd (Nat.lt_of_lt_of_le (e ▸ I.lt) le) (Nat.lt_irrefl _)
    · exact I.nofs le e
  refine PySem.W.kla_eval hd ?_
  cases q : codeAmong pos ps.toList with
  | some cv =>
    obtain ⟨c', rfl, co⟩ := am pos cv q
    refine PySem.W.kla_makeFunctionHit (mg := X.mg) (c := c) (P := P) (ps := ps) (closure_ok hfree) I.ok.glob (I.mod.glob.keeps I.bk) ec (B.code.keeps I.bk) gP tr q hb fun ct h1 tk up le => ?_
    have I1 : Inv X pins σ H { s with heap := h1.push (PySem.W.kla_obj "<lambda>" (X.env.qual ++ "<lambda>") params body scope (cloFrom X.env.cells scope.names []) ((X.mg "__name__").getD .none) c' ct), toks := tk } := I.kept fun b o e => Heap.get?_push_of_some _ (up b o e)
    exact go h1.objs.size c' _ ct H _ I1 (fun _ _ _ e => e) hT (Heap.get?_push_size _ rfl) (I.hok.fresh le) (out le) co
  | none =>
    refine PySem.W.kla_makeFunction (mg := X.mg) (c := c) (P := P) (ps := ps) (closure_ok hfree) I.ok.glob (I.mod.glob.keeps I.bk) ec (B.code.keeps I.bk) gP tr q B.gP hb fun c' ct h1 tk up ge lt rec tab => ?_
    obtain ⟨c2, oc, vs, t, e2, eo, ed, ev⟩ := rec
    cases e2
    have le : s.heap.objs.size ≤ h1.objs.size := Nat.le_trans ge (Nat.le_of_lt lt)
    have nC : H c' = none := I.hok.fresh ge
    have nP : P ≠ c' := ne_of_none eP nC
    have I1 := LamX.inv_table (t' := tk) (more := #[rawInt pos.line, rawInt pos.col, .ref c']) (h' := h1.push (PySem.W.kla_obj "<lambda>" (X.env.qual ++ "<lambda>") params body scope (cloFrom X.env.cells scope.names []) ((X.mg "__name__").getD .none) c' ct)) I eP (fun b o hb e => Heap.get?_push_of_some _ (up b o hb e)) (Heap.get?_push_of_some _ tab) ge ⟨oc, vs, t, Heap.get?_push_of_some _ eo, ed, ev⟩
    have kp : ∀ b o, b ≠ P → H b = some o → upd (upd H P (.tbl (ps ++ #[rawInt pos.line, rawInt pos.col, .ref c']))) c' (CodeO c' (X.env.qual ++ "<lambda>")) b = some o := fun b o hb e => by rw [upd_ne (ne_of_none e nC), upd_ne hb]; exact e
    have kc : ∀ b q, H b = some (CodeO b q) → b ≠ P := fun b q e z => by rw [z, eP] at e; unfold CodeO at e; cases e
    have eL : (ps ++ #[rawInt pos.line, rawInt pos.col, .ref c']).toList = ps.toList ++ [rawInt pos.line, rawInt pos.col, .ref c'] := by simp
    have neC : h1.objs.size ≠ c' := Nat.ne_of_gt lt
    have neP : h1.objs.size ≠ P := Nat.ne_of_gt (Nat.lt_of_lt_of_le (Heap.lt_size gP) le)
    refine go h1.objs.size c' _ ct _ _ I1 kp (fun z hz => ?_) (Heap.get?_push_size _ rfl) (by rw [upd_ne neC, upd_ne neP]; exact I.hok.fresh le) (out le) upd_same
    by_cases hb : z.1 = P
    · rw [hu z hz hb, hb]
      refine ⟨_, by rw [upd_ne nP, upd_same], by rw [eL]; exact PySem.TriplesOk_snoc _ _ _ _ tr, fun p' cv hcv => ?_⟩
      rw [eL] at hcv
      rcases LamX.among_app _ tr hcv with y | y
      · obtain ⟨c0, e1, e3⟩ := am p' cv y
        exact ⟨c0, e1, kp _ _ (kc _ _ e3) e3⟩
      · exact ⟨c', y, upd_same⟩
    · obtain ⟨ps', a1, a2, a3⟩ := hT z hz
      refine ⟨ps', kp _ _ hb a1, a2, fun p' cv hcv => ?_⟩
      obtain ⟨c0, e1, e3⟩ := a3 p' cv hcv
      exact ⟨c0, e1, kp _ _ (kc _ _ e3) e3⟩
end
section
variable {O : Addr → Prop} {p : Pn} {ρ : En} {k k' : Kt} {σ : L2.St} {H H1 H' : Hp}
/-- a table is written -/
theorem Rel.table (I : Rel O p ρ k σ H) {P : Addr} (hP : ∃ q, (P, q) ∈ p.tabs) (k1 : ∀ b o, b ≠ P → H b = some o → H1 b = some o) (t : Tabs p.tabs H1) : Rel O p ρ k σ H1 ∧ Step p ρ σ H ρ σ H1 := by
  have oP : O P := I.po P (.inl (.inr hP))
  obtain ⟨q0, hq0⟩ := hP
  have eP : ∃ ps, H P = some (.tbl ps) := let ⟨ps, e, _⟩ := I.pn.2.2 (P, q0) hq0; ⟨ps, e⟩
  have eP1 : ∃ ps, H1 P = some (.tbl ps) := let ⟨ps, e, _⟩ := t (P, q0) hq0; ⟨ps, e⟩
  obtain ⟨ps, eP⟩ := eP
  obtain ⟨ps1, eP1⟩ := eP1
  have kp : ∀ a o, H a = some o → ¬ Bn O ρ σ a → H1 a = some o := fun a o e n => k1 a o (fun z => n (by rw [z]; exact .inl oP)) e
  have tr : ∀ a, H a ≠ none → H1 a ≠ none := fun a h => by
    by_cases z : a = P
    · rw [z, eP1]; simp
    · cases q : H a with
      | none => exact absurd q h
      | some o => rw [k1 a o z q]; simp
  have trn : ∀ a, (H a ≠ none ∧ ∀ us, H a ≠ some (.tup us)) → (H1 a ≠ none ∧ ∀ us, H1 a ≠ some (.tup us)) := fun a h => by
    by_cases z : a = P
    · rw [z, eP1]; exact ⟨by simp, fun us z => by cases z⟩
    · cases q : H a with
      | none => exact absurd q h.1
      | some o => rw [k1 a o z q]; exact nt_kept h q
  refine ⟨⟨I.len, fun i d h => let ⟨v, e, q⟩ := I.val i d h; ⟨v, e, q.mono kp fun a z => .inl z⟩, fun i d h => let ⟨a, o, e1, e2, e3, q⟩ := I.own i d h; ⟨a, o, e1, k1 a o (fun z => e3 (by rw [z]; exact oP)) e2, e3, q.mono kp fun a z => .inl z⟩,
    I.inj, fun a z => trn a (I.ot a z), ⟨?_, I.pn.2.1, t⟩, I.po, I.kx, fun a o h n => k1 a o (fun z => n (.inr ⟨q0, by rw [z]; exact hq0⟩)) (I.bs a o h n), I.bo, I.sf⟩, ⟨fun a o h n _ => k1 a o (fun z => n (.inr ⟨q0, by rw [z]; exact hq0⟩)) h, fun _ z => .inl z, tr⟩⟩
  have h := I.pn.1
  cases q : p.pen with
  | none => rw [q] at h; exact h
  | some ac =>
    obtain ⟨a, c⟩ := ac
    rw [q] at h
    obtain ⟨m, n, ns, i, d, f, h1, h2, h3⟩ := h
    exact ⟨m, n, ns, i, d, f, k1 _ _ (fun z => by rw [z, eP] at h1; cases h1) h1, k1 _ _ (fun z => by rw [z, eP] at h2; cases h2) h2, h3⟩
/-- all slots' trees as values -/
def fzn (ρ : En) : En := ρ.map fun s => match s with
  | .own o => .val o.toD
  | s => s
theorem fzn_get {i : Nat} {s : Slot} (h : (fzn ρ)[i]? = some s) : ∃ s0, ρ[i]? = some s0 ∧ s = (match s0 with | .own o => .val o.toD | s => s) := by
  unfold fzn at h
  rw [List.getElem?_map] at h
  cases q : ρ[i]? with
  | none => rw [q] at h; cases h
  | some s0 => rw [q] at h; cases h; exact ⟨s0, rfl, rfl⟩
theorem fzn_own {i : Nat} {o : OD} (h : (fzn ρ)[i]? = some (.own o)) : False := by
  obtain ⟨s0, _, e⟩ := fzn_get h
  cases s0 <;> cases e
/-- the state in which the lambda's body runs -/
theorem Rel.lam0 (I : Rel O p ρ k σ H) (W : XD → Nat → Prop) {B : Addr → Prop} (hB : ∀ a, B a → O a) : Rel O { p with base := H, xc := W, hb := B } (fzn ρ) (k.1, { k.2 with xc := W }) σ H := by
  have no : ∀ {a}, Own (fzn ρ) σ a → False := fun ⟨i, o, h, _⟩ => fzn_own h
  have sub : ∀ a, Bn O (fzn ρ) σ a → Bn O ρ σ a ∨ H a = none := fun a z => .inl (z.elim .inl fun z => (no z).elim)
  refine ⟨by unfold fzn; rw [List.length_map]; exact I.len, fun i d h => ?_, fun i o h => (fzn_own h).elim, fun i j a o _ h => (fzn_own h).elim, I.ot, I.pn, fun a z => z.elim (fun z => I.po a (.inl z)) (hB a), rfl, fun a o h _ => h, fun a z => (no z).elim, fun i C ns ds a h => (fzn_own h).elim⟩
  obtain ⟨s0, e0, e⟩ := fzn_get h
  cases s0 with
  | un => cases e
  | val d' =>
    cases e
    obtain ⟨v, e1, q⟩ := I.val i _ e0
    exact ⟨v, e1, q.mono (fun _ _ h _ => h) sub⟩
  | own o =>
    cases e
    obtain ⟨a, ho, e1, e2, e3, q⟩ := I.own i _ e0
    exact ⟨.ref a, e1, RepO.rep (fun z => z.elim e3 no) e2 (q.mono (fun _ _ h _ => h) sub)⟩
theorem Rel.lam (I : Rel O p ρ k σ H) (W : XD → Nat → Prop) : Rel O { p with base := H, xc := W, hb := O } (fzn ρ) (k.1, { k.2 with xc := W }) σ H := I.lam0 W fun _ z => z
/-- back from the lambda -/
theorem Rel.back (I : Rel O p ρ k σ H) {W : XD → Nat → Prop} {B : Addr → Prop} (kp : Kept { p with base := H, xc := W, hb := B } H') (pn : penI { p with base := H, xc := W, hb := B } k' H') : Rel O p ρ (k'.1, k.2) σ H' ∧ Step p ρ σ H ρ σ H' := by
  have kb : ∀ a o, H a = some o → ¬ Bn O ρ σ a → H' a = some o := fun a o e n => kp a o e fun z => n (.inl (I.po a (.inl (penB.of z))))
  have tr : ∀ a, H a ≠ none → H' a ≠ none := fun a h => by
    by_cases z : penA p a
    · exact pn.there (penB.of z)
    · cases q : H a with
      | none => exact absurd q h
      | some o => rw [kp a o q z]; simp
  have trn : ∀ a, (H a ≠ none ∧ ∀ us, H a ≠ some (.tup us)) → (H' a ≠ none ∧ ∀ us, H' a ≠ some (.tup us)) := fun a h => by
    by_cases z : penA p a
    · exact pn.nt (penB.of z)
    · cases q : H a with
      | none => exact absurd q h.1
      | some o => rw [kp a o q z]; exact nt_kept h q
  have pen : penI p (k'.1, k.2) H' := by
    obtain ⟨h, e, t⟩ := pn
    refine ⟨?_, I.pn.2.1, t⟩
    have h0 := I.pn.1
    cases q : p.pen with
    | none => rw [q] at h0; exact h0
    | some ac =>
      obtain ⟨a, c⟩ := ac
      rw [q] at h0
      have h : match ({ p with base := H, xc := W } : Pn).pen with
        | none => k'.2.pen = none
        | some (a, c) => k'.2.pen = some a ∧ a ≠ c ∧ ∃ (ns : List Int) (i : Nat) (d f : Int), H' a = some (penO c i d k'.1 f) ∧ H' c = some (.lst (ns.map V.int)) ∧ i ≤ ns.length ∧ 0 ≤ d ∧ 0 ≤ f ∧ f < 2147483648 := h
      rw [show ({ p with base := H, xc := W } : Pn).pen = some (a, c) from q] at h
      exact ⟨h0.1, h.2⟩
  exact ⟨⟨I.len, fun i d h => let ⟨v, e, q⟩ := I.val i d h; ⟨v, e, q.mono kb fun a z => .inl z⟩, fun i d h => let ⟨a, o, e1, e2, e3, q⟩ := I.own i d h; ⟨a, o, e1, kp a o e2 (fun z => e3 (I.po a (.inl (penB.of z)))), e3, q.mono kb fun a z => .inl z⟩,
    I.inj, fun a z => trn a (I.ot a z), pen, I.po, I.kx, fun a o h n => kp a o (I.bs a o h n) n, I.bo, I.sf⟩, fun a o h n _ => kp a o h n, fun _ z => .inl z, tr⟩
end
mutual
/-- no list and no dict in it -/
def leanD : D → Bool
  | .non | .bl _ | .int _ | .str _ | .ty _ | .obj _ => true
  | .tup ds => leanL ds
  | .ins _ _ ds => leanL ds
  | _ => false
def leanL : List D → Bool
  | [] => true
  | d :: ds => leanD d && leanL ds
end
def noI (ρ : En) : Bool := ρ.all fun s => match s with
  | .own (.i _ _ _) => false
  | _ => true
theorem noI_get {ρ : En} (h : noI ρ = true) {i : Nat} {C : Addr} {ns : List Str} {ds : List D} (e : ρ[i]? = some (.own (.i C ns ds))) : False := by
  unfold noI at h
  have := List.all_eq_true.mp h _ (List.mem_of_getElem? e)
  cases this
mutual
theorem lean_rep {O : Addr → Prop} {p : Pn} {ρ : En} {k : Kt} {σ : L2.St} {H : Hp} {B : Addr → Prop} (I : Rel O p ρ k σ H) (hi : noI ρ = true) (hB : ∀ a, O a → B a) : ∀ {v : V} {d : D}, Rep B H v d → leanD d = true → Rep (Bn O ρ σ) H v d
  | _, _, .non, _ => .non
  | _, _, .bl b, _ => .bl b
  | _, _, .int i, _ => .int i
  | _, _, .str x, _ => .str x
  | _, _, .ty n, _ => .ty n
  | _, _, .obj a, _ => .obj a
  | _, _, .lst _ _ _, h => by cases h
  | _, _, .tup h1 h2 h3, h => .tup (fun z => z.elim (fun z => h1 (hB _ z)) fun ⟨i, o, e1, e2⟩ => by
      obtain ⟨a, u, f1, f2, _, f4⟩ := I.own i o e1
      rw [e2] at f1
      cases f1
      rw [h2] at f2
      cases f2
      cases f4) h2 (leanL_rep I hi hB h3 (by unfold leanD at h; exact h))
  | _, _, .dK _ _ _ _ _, h => by cases h
  | _, _, .dT _ _ _ _ _, h => by cases h
  | _, _, .ins h1 h2 e1 e2 h3, h => .ins (fun z => z.elim (fun z => h1 (hB _ z)) fun ⟨i, o, f1, f2⟩ => by
      obtain ⟨a, u, g1, g2, _, g4⟩ := I.own i o f1
      rw [f2] at g1
      cases g1
      rw [h2] at g2
      cases g2
      cases g4
      exact noI_get hi f1) h2 e1 e2 (leanL_rep I hi hB h3 (by unfold leanD at h; exact h))
theorem leanL_rep {O : Addr → Prop} {p : Pn} {ρ : En} {k : Kt} {σ : L2.St} {H : Hp} {B : Addr → Prop} (I : Rel O p ρ k σ H) (hi : noI ρ = true) (hB : ∀ a, O a → B a) : ∀ {vs : List V} {ds : List D}, RepL B H vs ds → leanL ds = true → RepL (Bn O ρ σ) H vs ds
  | _, _, .nil, _ => .nil
  | _, _, .cons r t, h => by
    unfold leanL at h
    obtain ⟨h1, h2⟩ := Bool.and_eq_true_iff.mp h
    exact .cons (lean_rep I hi hB r h1) (leanL_rep I hi hB t h2)
end
end DL

set_option Elab.async false
set_option linter.all false
set_option maxRecDepth 100000
set_option maxHeartbeats 1000000
/-! ELq: the rule of f(lambda: e) -/
namespace DL
open PySem PySem.Spec PyProof.Rows L2
open LamX (TabS Tabs CodeO LamS lamEnv lamCx TabB)
mutual
/-- plain values and tuples of such -/
def tupD : D → Bool
  | .non | .bl _ | .int _ | .str _ => true
  | .tup ds => flatL ds
  | .ins _ _ ds => flatL ds
  | _ => false
def flatL : List D → Bool
  | [] => true
  | d :: ds => tupD d && flatL ds
end
section
variable {O : Addr → Prop} {p : Pn} {ρ : En} {k : Kt} {σ : L2.St} {H : Hp}
mutual
theorem lean_of : ∀ {d : D}, tupD d = true → leanD d = true
  | .non, _ | .bl _, _ | .int _, _ | .str _, _ | .ty _, _ | .obj _, _ => rfl
  | .tup _, h => by unfold leanD; exact lean_ofL (by unfold tupD at h; exact h)
  | .ins _ _ _, h => by unfold leanD; exact lean_ofL (by unfold tupD at h; exact h)
  | .lst _, h => by simp [tupD] at h
  | .dK _ _, h => by simp [tupD] at h
  | .dT _ _, h => by simp [tupD] at h
theorem lean_ofL : ∀ {ds : List D}, flatL ds = true → leanL ds = true
  | [], _ => rfl
  | _ :: _, h => by
    unfold flatL at h
    obtain ⟨h1, h2⟩ := Bool.and_eq_true_iff.mp h
    unfold leanL
    rw [lean_of h1, lean_ofL h2]; rfl
end
theorem tup_repL (I : Rel O p ρ k σ H) (hi : noI ρ = true) {vs : List V} {ds : List D} (r : RepL O H vs ds) (h : flatL ds = true) : RepL (Bn O ρ σ) H vs ds := leanL_rep I hi (fun _ z => z) r (lean_ofL h)
end
/-- the clauses of the hearing def and the classes that they name -/
inductive ClsL (K : PySem.W.Frag) (mg : Str → Option Value) (sc : Scope) : List HC → List (Addr × List Part) → Prop
  | nil : ClsL K mg sc [] []
  | named {x : Str} {qs : List Part} {C : Addr} {l : List HC} {cs : List (Addr × List Part)} (gl : sc.names.lookup x = some .globalImplicit) (db : (x == ("__debug__" : Str)) = false) (m : mg x = some (.ref C)) (T : XfC K C) (nf : ∀ q ∈ qs, ∀ f ∈ q.fs, PySem.W.findIn K (.ref C) f = some none) (t : ClsL K mg sc l cs) : ClsL K mg sc (⟨x, true, qs, []⟩ :: l) ((C, qs) :: cs)
  | plain {x : Str} {qs : List Part} {C : Addr} {l : List HC} {cs : List (Addr × List Part)} (gl : sc.names.lookup x = some .globalImplicit) (db : (x == ("__debug__" : Str)) = false) (m : mg x = some (.ref C)) (t : ClsL K mg sc l cs) : ClsL K mg sc (⟨x, false, qs, []⟩ :: l) ((C, qs) :: cs)
  | guard1 {x g : Str} {qs : List Part} {C Cg : Addr} {l : List HC} {cs : List (Addr × List Part)} (gl : sc.names.lookup x = some .globalImplicit) (db : (x == ("__debug__" : Str)) = false) (m : mg x = some (.ref C)) (T : XfC K C) (nf : ∀ q ∈ qs, ∀ f ∈ q.fs, PySem.W.findIn K (.ref C) f = some none) (E : ExcC K C) (gi : sc.names.lookup ("isinstance" : Str) = some .globalImplicit) (mi : mg "isinstance" = none) (gg : sc.names.lookup g = some .globalImplicit) (dg : (g == ("__debug__" : Str)) = false) (gm : mg g = some (.ref Cg)) (hk : PySem.W.kitOne K (.ref C) (.ref Cg) = some false) (t : ClsL K mg sc l cs) : ClsL K mg sc (⟨x, true, qs, [g]⟩ :: l) ((C, qs) :: cs)
  | guard2 {x g g2 : Str} {qs : List Part} {C Cg Cg2 : Addr} {l : List HC} {cs : List (Addr × List Part)} (gl : sc.names.lookup x = some .globalImplicit) (db : (x == ("__debug__" : Str)) = false) (m : mg x = some (.ref C)) (T : XfC K C) (nf : ∀ q ∈ qs, ∀ f ∈ q.fs, PySem.W.findIn K (.ref C) f = some none) (E : ExcC K C) (gi : sc.names.lookup ("isinstance" : Str) = some .globalImplicit) (mi : mg "isinstance" = none) (gg : sc.names.lookup g = some .globalImplicit) (dg : (g == ("__debug__" : Str)) = false) (gm : mg g = some (.ref Cg)) (gg2 : sc.names.lookup g2 = some .globalImplicit) (dg2 : (g2 == ("__debug__" : Str)) = false) (gm2 : mg g2 = some (.ref Cg2)) (hk : PySem.W.kitAny K (.ref C) [.ref Cg, .ref Cg2] = some false) (t : ClsL K mg sc l cs) : ClsL K mg sc (⟨x, true, qs, [g, g2]⟩ :: l) ((C, qs) :: cs)
theorem RepX.ext {B : Addr → Prop} {H H' : Hp} {cls : Value} {d : Option Addr} {x : XD} (h : RepX B H cls d x) (a : AExt H H') : RepX B H' cls d x := by
  obtain ⟨e, h⟩ := h
  refine ⟨e, ?_⟩
  cases d with
  | none => exact h
  | some b => obtain ⟨vs, e1, e2, rl⟩ := h; exact ⟨vs, a _ _ e1, e2, rl.ext a⟩
def tsD (B : Addr → Prop) (i : Nat) (nm : Bool) (q : Addr × List Part) : Addr → Value → Option Addr → TS := fun ea cls d D σ H => ∃ x P, (nm = true → i < σ.length → σ[i]? = some (some (.ref ea))) ∧ RepX B H cls d x ∧ cls = .ref q.1 ∧ q.2.length ≤ 100 ∧ partsD x q.2 P ∧ ∀ H', AExt H H' → ∀ vs ds t, RepL B H' vs ds → P ds → H' t = none → D.rt (.ref t) (upd H' t (.tup vs))
def clausesOf (B : Addr → Prop) (i : Nat) : List HC → List (Addr × List Part) → List Clause
  | h :: l, q :: cs => ⟨h.nm, .ref q.1, tsD B i h.nm q⟩ :: clausesOf B i l cs
  | _, _ => []
theorem texts_ok {B : Addr → Prop} {Y : Cx} {n : Str} : ∀ {es : List Expr} {qs : List Part}, PartsB n es qs → (∀ q ∈ qs, q.text = true) → ∃ t, PA Y es t ∧ ∀ (σ : L2.St) (H : Hp) (x : XD) (P : List D → Prop) (Q : List V → Hp → Prop), partsD x qs P → (∀ vs ds, RepL B H vs ds → ds.length = qs.length → P ds → Q vs H) → t σ H Q
  | _, _, .nil, _ => ⟨_, pa_nil, fun σ H x P Q h q => q [] [] .nil rfl h⟩
  | _, _, .cons (e := e) (es := es) (q := q1) (qs := qs) h t, ht => by
    obtain ⟨t2, p2, r2⟩ := texts_ok (Y := Y) t fun q hq => ht q (List.mem_cons_of_mem _ hq)
    have h1 := ht q1 List.mem_cons_self
    cases h with
    | str => exact ⟨_, pa_cons pe_str p2, fun σ H x P Q h q => r2 σ H x _ _ h fun vs ds rl hl h3 => q (_ :: vs) (_ :: ds) (.cons (.str _) rl) (by simp [hl]) h3⟩
    | fld => cases h1
    | rep => cases h1
    | no => cases h1
    | tpf => cases h1
theorem clauses_ok {B : Addr → Prop} {Z : Cx} {n : Str} {i : Nat} {K : PySem.W.Frag} {mg : Str → Option Value} {sc : Scope} (eK : Z.K = K) (eM : Z.mg = mg) (eS : Z.env.scope = sc) (hN : Z.N[i]? = some n) (hv : Vis sc n) (hnd : (n == ("__debug__" : Str)) = false) (hnc : (n == ("__classdict__" : Str)) = false) (hu : Z.A.units + 65 < cLine) (hrg' : Gl Z "repr") (hrm : mg "repr" = none) (gl : ∀ {x : Str}, sc.names.lookup x = some .globalImplicit → Gl Z x) :
    ∀ {hs : List ExceptHandler} {l : List HC} {cs : List (Addr × List Part)}, HdsB n hs l → ClsL K mg sc l cs → (∀ q ∈ cs, ∀ y ∈ q.2, y.tp = true → sc.names.lookup ("tuple" : Str) = some .globalImplicit ∧ mg "tuple" = none) → (∀ q ∈ cs, ∀ y ∈ q.2, y.rp = true → Z.A.guards = some []) → ClausesOk Z n hs (clausesOf B i l cs)
  | _, _, _, .nil, .nil, _, _ => .nil
  | _, _, _, .named (es := es) (qs := qs) hp ht, .named (C := C) g db m T nf t, htp, hgd => by
    subst eK eM eS
    refine .named ⟨gl g, db, .inl m⟩ (fun ea eo cls d pn hz hf => ?_) (clauses_ok rfl rfl rfl hN hv hnd hnc hu hrg' hrm gl ht t (fun q hq => htp q (List.mem_cons_of_mem _ hq)) fun q hq => hgd q (List.mem_cons_of_mem _ hq))
    obtain ⟨ta, pa, ra⟩ := parts_ok (ea := ea) (pn := pn) hN hv hnd hnc hu hrg' hrm T hz hf hp (fun y hy e => let r := htp _ List.mem_cons_self y hy e; ⟨gl r.1, r.2⟩) (fun y hy e => hgd _ List.mem_cons_self y hy e) nf
    refine ⟨fun ps' s σ H D I h => (pss_one (ps_ret (X := Z.suite ea ((ea, eo) :: pn)) (pe_tup pa))).run ps' s σ H D I ?_⟩
    obtain ⟨x, P, h1, h2, h3, h4, h5, h6⟩ := h
    have hl : σ.length = Z.N.length := I.len
    have hi : i < Z.N.length := (List.getElem?_eq_some_iff.mp hN).1
    exact ra σ H x P _ (h1 rfl (by rw [hl]; exact hi)) h2 h3 h5 fun vs ds rl el hp => ⟨by rw [rl.length, el, sizeLine_eq]; exact Nat.le_trans h4 (by decide), fun t ht => h6 H (AExt.refl H) vs ds t rl hp ht⟩
  | _, _, _, .plain (es := es) (qs := qs) hp hq ht, .plain (C := C) g db m t, htp, hgd => by
    subst eK eM eS
    refine .plain ⟨gl g, db, .inl m⟩ (fun ea eo cls d pn hz hf => ?_) (clauses_ok rfl rfl rfl hN hv hnd hnc hu hrg' hrm gl ht t (fun q hq => htp q (List.mem_cons_of_mem _ hq)) fun q hq => hgd q (List.mem_cons_of_mem _ hq))
    obtain ⟨ta, pa, ra⟩ := texts_ok (Y := Z.suite ea ((ea, eo) :: pn)) hp hq
    refine ⟨fun ps' s σ H D I h => (pss_one (ps_ret (X := Z.suite ea ((ea, eo) :: pn)) (pe_tup pa))).run ps' s σ H D I ?_⟩
    obtain ⟨x, P, h1, h2, h3, h4, h5, h6⟩ := h
    exact ra σ H x P _ h5 fun vs ds rl el hp => ⟨by rw [rl.length, el, sizeLine_eq]; exact Nat.le_trans h4 (by decide), fun t ht => h6 H (AExt.refl H) vs ds t rl hp ht⟩
  | _, _, _, .guard1 (es := es) (qs := qs) hp hq ht, .guard1 (C := C) g db m T nf E gi mi gg dg gm hk t, htp, hgd => by
    subst eK eM eS
    refine .named ⟨gl g, db, .inl m⟩ (fun ea eo cls d pn hz hf => ?_) (clauses_ok rfl rfl rfl hN hv hnd hnc hu hrg' hrm gl ht t (fun q hq => htp q (List.mem_cons_of_mem _ hq)) fun q hq => hgd q (List.mem_cons_of_mem _ hq))
    obtain ⟨ta, pa, ra⟩ := parts_ok (ea := ea) (pn := pn) hN hv hnd hnc hu hrg' hrm T hz hf hp (fun y hy e => let r := htp _ List.mem_cons_self y hy e; ⟨gl r.1, r.2⟩) (fun y hy e => hgd _ List.mem_cons_self y hy e) nf
    obtain ⟨tg, pg, rg⟩ := pe_guardD (X := Z) (ea := ea) (pn := pn) hz hf hN hv hnd hnc (gl gi) mi (gl gg) gm dg (pe_tup (X := Z.suite ea ((ea, eo) :: pn)) pa)
    refine ⟨fun ps' s σ H D I h => (pss_one (ps_ret (X := Z.suite ea ((ea, eo) :: pn)) pg)).run ps' s σ H D I ?_⟩
    obtain ⟨x, P, h1, h2, h3, h4, h5, h6⟩ := h
    have hl : σ.length = Z.N.length := I.len
    have hi : i < Z.N.length := (List.getElem?_eq_some_iff.mp hN).1
    have hs := h1 rfl (by rw [hl]; exact hi)
    cases d with
    | none => exact (partsD_dict h2.2.1 h5 hq).elim
    | some dd =>
      obtain ⟨vs0, e1, _⟩ := h2.2
      exact rg σ H _ C dd _ h3 rfl E e1 hk hs fun H' x' => ra σ H' x P _ hs (h2.ext x') h3 h5 fun vs ds rl el hp => ⟨by rw [rl.length, el, sizeLine_eq]; exact Nat.le_trans h4 (by decide), fun t ht => h6 H' x' vs ds t rl hp ht⟩
  | _, _, _, .guard2 (es := es) (qs := qs) hp hq ht, .guard2 (C := C) g db m T nf E gi mi gg dg gm gg2 dg2 gm2 hk t, htp, hgd => by
    subst eK eM eS
    refine .named ⟨gl g, db, .inl m⟩ (fun ea eo cls d pn hz hf => ?_) (clauses_ok rfl rfl rfl hN hv hnd hnc hu hrg' hrm gl ht t (fun q hq => htp q (List.mem_cons_of_mem _ hq)) fun q hq => hgd q (List.mem_cons_of_mem _ hq))
    obtain ⟨ta, pa, ra⟩ := parts_ok (ea := ea) (pn := pn) hN hv hnd hnc hu hrg' hrm T hz hf hp (fun y hy e => let r := htp _ List.mem_cons_self y hy e; ⟨gl r.1, r.2⟩) (fun y hy e => hgd _ List.mem_cons_self y hy e) nf
    obtain ⟨tg, pg, rg⟩ := pe_guardD2 (X := Z) (ea := ea) (pn := pn) hz hf hN hv hnd hnc (gl gi) mi (gl gg) gm dg (gl gg2) gm2 dg2 (pe_tup (X := Z.suite ea ((ea, eo) :: pn)) pa)
    refine ⟨fun ps' s σ H D I h => (pss_one (ps_ret (X := Z.suite ea ((ea, eo) :: pn)) pg)).run ps' s σ H D I ?_⟩
    obtain ⟨x, P, h1, h2, h3, h4, h5, h6⟩ := h
    have hl : σ.length = Z.N.length := I.len
    have hi : i < Z.N.length := (List.getElem?_eq_some_iff.mp hN).1
    have hs := h1 rfl (by rw [hl]; exact hi)
    cases d with
    | none => exact (partsD_dict h2.2.1 h5 hq).elim
    | some dd =>
      obtain ⟨vs0, e1, _⟩ := h2.2
      exact rg σ H _ C dd _ h3 rfl E e1 hk hs fun H' x' => ra σ H' x P _ hs (h2.ext x') h3 h5 fun vs ds rl el hp => ⟨by rw [rl.length, el, sizeLine_eq]; exact Nat.le_trans h4 (by decide), fun t ht => h6 H' x' vs ds t rl hp ht⟩
theorem hdsD_mem {x : XD} : ∀ {cs : List (Addr × List Part)} {P : D → Prop}, hdsD x cs P → ∃ q ∈ cs, x.cls = .ref q.1
  | [], _, h => h.elim
  | q :: r, P, h => by
    unfold hdsD at h
    by_cases e : x.cls = .ref q.1
    · exact ⟨q, List.mem_cons_self, e⟩
    · rw [if_neg e] at h
      obtain ⟨q', h1, h2⟩ := hdsD_mem h
      exact ⟨q', List.mem_cons_of_mem _ h1, h2⟩
theorem partD_mono {x : XD} {q : Part} {P P' : D → Prop} (h : partD x q P) (m : ∀ d, P d → P' d) : partD x q P' := by
  cases q with
  | str s => exact m _ h
  | fld f => obtain ⟨d, e, h⟩ := h; exact ⟨d, e, m _ h⟩
  | rep f => obtain ⟨d, y, e1, e2, e3, e4, e5, h⟩ := h; exact ⟨d, y, e1, e2, e3, e4, e5, m _ h⟩
  | no => exact h.elim
  | tpf f => obtain ⟨ds, e, h⟩ := h; exact ⟨ds, e, m _ h⟩
theorem partsD_mono {x : XD} : ∀ {qs : List Part} {P P' : List D → Prop}, partsD x qs P → (∀ d, P d → P' d) → partsD x qs P'
  | [], _, _, h, m => m _ h
  | _ :: _, _, _, h, m => partD_mono h fun _ h => partsD_mono h fun _ h => m _ h
theorem hdsD_mono {x : XD} : ∀ {cs : List (Addr × List Part)} {P P' : D → Prop}, hdsD x cs P → (∀ d, P d → P' d) → hdsD x cs P'
  | [], _, _, h, _ => h
  | q :: r, P, P', h, m => by
    unfold hdsD at h ⊢
    by_cases e : x.cls = .ref q.1
    · rw [if_pos e] at h ⊢
      exact partsD_mono h fun _ h => m _ h
    · rw [if_neg e] at h ⊢
      exact hdsD_mono h m
theorem hds_wish {B : Addr → Prop} {K : PySem.W.Frag} {mg : Str → Option Value} {sc : Scope} {i : Nat} {Wout : WX} {F : L2.Ends} {x : XD} {cls : Value} {d : Option Addr} {σ : L2.St} {H : Hp} {J : VK} (hJ : F.rt = J) (rx : RepX B H cls d x) {full : List (Addr × List Part)} (hex : ∀ q ∈ full, ∀ q' ∈ full, PySem.W.exmOne K (.ref q.1) (.ref q'.1) = some (decide (q.1 = q'.1))) (hsz : ∀ q ∈ full, q.2.length ≤ 100) :
    ∀ {l : List HC} {cs : List (Addr × List Part)} {P : D → Prop}, ClsL K mg sc l cs → (∀ q ∈ cs, q ∈ full) → hdsD x cs P → (∀ H', AExt H H' → ∀ vs ds t, RepL B H' vs ds → P (.tup ds) → H' t = none → J (.ref t) (upd H' t (.tup vs))) → wHds K i Wout F (clausesOf B i l cs) cls d σ H := by
  intro l cs P hc
  have ec : cls = x.cls := rx.1
  induction hc generalizing P with
  | nil => intro _ h _; exact h.elim
  | @named y qs C l cs g db m T nf t ih =>
    intro sub h q
    obtain ⟨q0, m0, e0⟩ := hdsD_mem h
    have hx := hex q0 (sub _ m0) (C, qs) (sub _ List.mem_cons_self)
    rw [← e0, ← ec] at hx
    refine ⟨_, hx, fun hb ea na => ?_, fun hb => ?_⟩
    · have eC : q0.1 = C := of_decide_eq_true hb
      unfold hdsD at h
      rw [if_pos (by rw [e0, eC])] at h
      exact ⟨x, _, fun _ hi => List.getElem?_set_self (by rw [List.length_set] at hi; exact hi), rx, by rw [ec, e0, eC], hsz _ (sub _ List.mem_cons_self), h, fun H' x' vs ds t rl hp ht => by show F.rt _ _; rw [hJ]; exact q H' x' vs ds t rl hp ht⟩
    · have nC : q0.1 ≠ C := of_decide_eq_false hb
      unfold hdsD at h
      rw [if_neg (fun z => nC (by rw [e0] at z; cases z; rfl))] at h
      exact ih (fun q hq => sub q (List.mem_cons_of_mem _ hq)) h q
  | @guard1 y gn qs C Cg l cs g db m T nf E gi mi gg dg gm hk t ih =>
    intro sub h q
    obtain ⟨q0, m0, e0⟩ := hdsD_mem h
    have hx := hex q0 (sub _ m0) (C, qs) (sub _ List.mem_cons_self)
    rw [← e0, ← ec] at hx
    refine ⟨_, hx, fun hb ea na => ?_, fun hb => ?_⟩
    · have eC : q0.1 = C := of_decide_eq_true hb
      unfold hdsD at h
      rw [if_pos (by rw [e0, eC])] at h
      exact ⟨x, _, fun _ hi => List.getElem?_set_self (by rw [List.length_set] at hi; exact hi), rx, by rw [ec, e0, eC], hsz _ (sub _ List.mem_cons_self), h, fun H' x' vs ds t rl hp ht => by show F.rt _ _; rw [hJ]; exact q H' x' vs ds t rl hp ht⟩
    · have nC : q0.1 ≠ C := of_decide_eq_false hb
      unfold hdsD at h
      rw [if_neg (fun z => nC (by rw [e0] at z; cases z; rfl))] at h
      exact ih (fun q hq => sub q (List.mem_cons_of_mem _ hq)) h q
  | @guard2 y gn gn2 qs C Cg Cg2 l cs g db m T nf E gi mi gg dg gm gg2 dg2 gm2 hk t ih =>
    intro sub h q
    obtain ⟨q0, m0, e0⟩ := hdsD_mem h
    have hx := hex q0 (sub _ m0) (C, qs) (sub _ List.mem_cons_self)
    rw [← e0, ← ec] at hx
    refine ⟨_, hx, fun hb ea na => ?_, fun hb => ?_⟩
    · have eC : q0.1 = C := of_decide_eq_true hb
      unfold hdsD at h
      rw [if_pos (by rw [e0, eC])] at h
      exact ⟨x, _, fun _ hi => List.getElem?_set_self (by rw [List.length_set] at hi; exact hi), rx, by rw [ec, e0, eC], hsz _ (sub _ List.mem_cons_self), h, fun H' x' vs ds t rl hp ht => by show F.rt _ _; rw [hJ]; exact q H' x' vs ds t rl hp ht⟩
    · have nC : q0.1 ≠ C := of_decide_eq_false hb
      unfold hdsD at h
      rw [if_neg (fun z => nC (by rw [e0] at z; cases z; rfl))] at h
      exact ih (fun q hq => sub q (List.mem_cons_of_mem _ hq)) h q
  | @plain y qs C l cs g db m t ih =>
    intro sub h q
    obtain ⟨q0, m0, e0⟩ := hdsD_mem h
    have hx := hex q0 (sub _ m0) (C, qs) (sub _ List.mem_cons_self)
    rw [← e0, ← ec] at hx
    refine ⟨_, hx, fun hb ea na => ?_, fun hb => ?_⟩
    · have eC : q0.1 = C := of_decide_eq_true hb
      unfold hdsD at h
      rw [if_pos (by rw [e0, eC])] at h
      exact ⟨x, _, (fun z => by cases z), rx, by rw [ec, e0, eC], hsz _ (sub _ List.mem_cons_self), h, fun H' x' vs ds t rl hp ht => by show F.rt _ _; rw [hJ]; exact q H' x' vs ds t rl hp ht⟩
    · have nC : q0.1 ≠ C := of_decide_eq_false hb
      unfold hdsD at h
      rw [if_neg (fun z => nC (by rw [e0] at z; cases z; rfl))] at h
      exact ih (fun q hq => sub q (List.mem_cons_of_mem _ hq)) h q
/-- the body of the hearing def -/
inductive HeardB (a n tag : Str) (l : List HC) : List Stmt → Prop
  | mk {j : Nat} {kk : Nat} {p1 p2 p3 p4 p5 p6 : Pos} {h0 : ExceptHandler} {hs : List ExceptHandler} {rest : List Stmt} (h : HdsB n (h0 :: hs) l) : HeardB a n tag l (.Try [.Return (some (.Tuple [.Constant (.str tag) j p1, .Call (.Name a p2) [] [] p3] kk p4)) p5] (h0 :: hs) [] [] p6 :: rest)
/-- f(lambda: e): what f gives; cs: the classes that it hears and what it gives for them -/
def wHeard (tabs : List (Addr × Str)) (tag : Str) (cs : List (Addr × List Part)) (wb : WE) : WE := fun ρ k Q => k.2.tabs = tabs ∧ noI ρ = true ∧
  wb (fzn ρ) (k.1, { k.2 with xc := fun x n => hdsD x cs fun d => ∃ ds, d = .tup ds ∧ flatL ds = true ∧ Q (.val d) ρ (n, k.2) }) fun r ρ1 k1 => ∃ d ρ2, frz ρ1 r = some (d, ρ2) ∧ leanD d = true ∧ Q (.val (.tup [.str tag, d])) ρ (k1.1, k.2)
/-- the reading of the lambda's body, whatever it stands in -/
def tBody (wb : WE) : XK → TE := fun E σ H J => ∃ (O : Addr → Prop) (p : Pn) (ρ : En) (k : Kt) (Q : R → En → Kt → Prop), Rel O p ρ k σ H ∧ wb ρ k Q ∧ (∀ x k' cls d H', penI p k' H' → Kept p H' → RepX p.hb H' cls d x → p.xc x k'.1 → E cls d H') ∧
  ∀ v H' r ρ' k', Rel O p ρ' k' σ H' → Step p ρ σ H ρ' σ H' → RRep O ρ' σ H' v r → Q r ρ' k' → J v H'
theorem tBody_ok {Y : Cx} {E : XK} {e : Expr} {wb : WE} (tk : Takes Y (fun cls d _ H => E cls d H)) (h : DE Y e wb) : PE Y e (tBody wb E) := by
  obtain ⟨t, pe, rr⟩ := h
  refine ⟨fun pins s σ H J I hh => ?_⟩
  obtain ⟨O, p, ρ, k, Q, I0, hw, hx, g⟩ := hh
  have xl : XL Y p := ⟨fun x k' cls d σ' H' pn kp rx q => wx_of tk (hx x k' cls d H' pn kp rx q)⟩
  exact pe.run pins s σ H J I (rr O p ρ k σ H Q J I0 hw g)
section
variable {X : Cx} {x a n tag : Str} {g c P : Addr} {st : Stmt} {fd : FuncData} {k : Nat} {l : List HC} {cs : List (Addr × List Part)} {tabs : List (Addr × Str)} {params : Arguments} {body : Expr} {scope : Scope} {pos ps lpos : Pos} {wb : WE}
theorem de_heard (F : Fun X.K x x st g fd) (Sg : FnScope [a, n] [a] (defScope st)) (hb : Binds X.K fd [a] []) (hB : HeardB a n tag l (defBody st)) (hC : ClsL X.K X.mg (defScope st) l cs) (hex : ∀ q ∈ cs, ∀ q' ∈ cs, PySem.W.exmOne X.K (.ref q.1) (.ref q'.1) = some (decide (q.1 = q'.1))) (hsz : ∀ q ∈ cs, q.2.length ≤ 100)
    (hva : Vis (defScope st) a) (hln : (defScope st).names.lookup n = some .local) (hrg : (defScope st).names.lookup ("repr" : Str) = some .globalImplicit) (hrm : X.mg "repr" = none) (htp : ∀ q ∈ cs, ∀ y ∈ q.2, y.tp = true → (defScope st).names.lookup ("tuple" : Str) = some .globalImplicit ∧ X.mg "tuple" = none) (hgd : ∀ q ∈ cs, ∀ y ∈ q.2, y.rp = true → X.A.guards = some [])
    (hg : Gl X x) (hm : X.mg x = some (.ref g)) (B : TabB X.base X.mg c P) (ec : X.env.code = .ref c) (hmT : (P, X.env.qual ++ "<lambda>") ∈ tabs) (hu : ∀ z ∈ tabs, z.1 = P → z.2 = X.env.qual ++ "<lambda>") (hr : Room (k + 2) X.A) (L : LamS X.env.scope scope) (hdef : defaultsOf params X.env = ([], []))
    (hbind : ∀ (q : Str) (cl : List (Str × Addr)) (pm cv ctv : Value), bindArgs (PySem.W.kla_fn "<lambda>" q params body scope cl pm cv ctv) ⟨[], []⟩ = pure [])
    (hbody : ∀ (A : Around) (outer : List Env) (s : Shared) (H : Hp) (E : XK) (f c' : Addr), Room k (A.deeper (lamEnv X scope s.heap.objs.size f c')) → DE (lamCx X A outer s H E scope f c') body wb)
    (hdb : (x == ("__debug__" : Str)) = false := by decide) (had : (a == ("__debug__" : Str)) = false := by decide) (hac : (a == ("__classdict__" : Str)) = false := by decide) (hnd : (n == ("__debug__" : Str)) = false := by decide) (hnc : (n == ("__classdict__" : Str)) = false := by decide) :
    DE X (.Call (.Name x ps) [.Lambda params body scope lpos] [] pos) (wHeard tabs tag cs wb) := by
  refine ⟨fun σ H J => ∃ (O : Addr → Prop) (p : Pn) (ρ : En) (k : Kt) (Q : R → En → Kt → Prop), Rel O p ρ k σ H ∧ wHeard tabs tag cs wb ρ k Q ∧ ∀ v H' r ρ' k', Rel O p ρ' k' σ H' → Step p ρ σ H ρ' σ H' → RRep O ρ' σ H' v r → Q r ρ' k' → J v H', ⟨fun pins s σ H J I h => ?_⟩, fun O p _ ρ k σ H Q J I h g => ⟨O, p, ρ, k, Q, I, h, g⟩⟩
  obtain ⟨O, p, ρ, kk, Q, R0, ⟨etab, hni, hw⟩, gJ⟩ := h
  obtain ⟨oc, od, kV, doc, pm0, an, cdv, ct, osl, efd, lk, hcg⟩ := F.ex
  rw [efd] at lk hb
  have eT : tabs = p.tabs := etab.symm.trans R0.pn.2.1
  rw [eT] at hmT hu
  refine wpAny_Call_Name_kw (ld_glob I hg hm ?_ hdb)
  refine PySem.W.callWith_K (h₀ := X.base) I.ok.mod.kin F.kp ?_ (by rfl) (by rfl)
  show wpAny _ _ (spliced ((false, eval (.Lambda params body scope lpos) X.env) :: backTo pos (starEach [] X.env))) _ _ s
  refine Calls.spliced_cons (lam_new I B ec hmT hu R0.pn.2.2 hdef (L.has I.ok) fun f c' pm ctv H1 s1 I1 k1 T1 hf hfn hfr hco => Calls.spliced_nil ⟨I1.kIn, ?_⟩)
  obtain ⟨R1, S1⟩ := R0.table ⟨_, hmT⟩ k1 T1
  have rc : codeAny (model X.prog X.w) X.A (.call (.ref g) ⟨[.ref f], []⟩) (CR C8.CX0 X.stack X.prog X.w H1 s1 J C8.E0) s1 := by
    refine LamX.run_ofS (N := [a, n]) (ps := [a]) (us := [.ref f]) (vs := [.ref f]) lk hcg Sg hr I1.env0 (hb s1 [.ref f] I1.kIn rfl) (.cons rfl .nil) rfl fun hr' => ?_
    have fin : ∀ {H' : Hp} {t : Addr} {vs : List V} {ds : List D} {k' : Kt} {W : XD → Nat → Prop} {p' : Pn}, p' = { p with base := H1, xc := W, hb := O } → Kept p' H' → penI p' k' H' → H' t = none → Q (.val (.tup ds)) ρ (k'.1, kk.2) → (Rel O p ρ (k'.1, kk.2) σ H' → RepL (Bn O ρ σ) H' vs ds) → J (.ref t) (upd H' t (.tup vs)) := fun {H' t vs ds k' W p'} ep kp pn ht hq hr => by
      subst ep
      obtain ⟨R2, S2⟩ := R1.back kp pn
      have x2 : AExt H' (upd H' t (.tup vs)) := AExt.upd ht
      exact gJ _ _ (.val (.tup ds)) ρ _ (R2.ext x2) ((S1.trans S2 R1.pn).trans (Step.ext x2) R2.pn) (.tup (fresh_not R2.bt ht) upd_same ((hr R2).ext x2)) hq
    generalize defBody st = bg at hB ⊢
    cases hB with
    | @mk j kk2 p1 p2 p3 p4 p5 p6 h0 hs rest hh =>
    refine ⟨_, pss_cons (ps_try_hds (X := cxOf C8.CX0 X.prog X.w X.K X.mg X.base [a, n] x (defScope st) g cdv X.A X.stack s1 H1 C8.E0) (i := 1) (n := n) (Wout := fun _ _ _ _ => False)
      (tb := fun W D σ' H' => ∃ Ech : XK, (∀ cls d σ' H', Ech cls d H' → W cls d σ' H') ∧ σ'[0]? = some (some (.ref f)) ∧ H' c' = some (CodeO c' (X.env.qual ++ "<lambda>")) ∧ tBody wb Ech σ H' (fun v H2 => [V.str tag, v].length ≤ sizeLine ∧ ∀ t, H2 t = none → D.rt (.ref t) (upd H2 t (.tup [.str tag, v]))))
      rfl rfl Sg.nd rfl hln LamX.takes0 (fun W pn xe tk _ => ⟨fun ps' s' σ' H' D I' h' => ?_⟩) (clauses_ok (B := O) (Z := cxOf C8.CX0 X.prog X.w X.K X.mg X.base [a, n] x (defScope st) g cdv X.A X.stack s1 H1 C8.E0) (i := 1) (n := n) rfl rfl rfl rfl (.inl hln) hnd hnc (room65 hr') hrg hrm (fun h => h) hh hC htp hgd)) pss_never, ?_⟩
    · obtain ⟨Ech, hW, h1, h2, h3⟩ := h'
      have act := LamX.pe_act (CXg := C8.CX0) (Eg := C8.E0) (tb := tBody wb Ech) (a := a) (i := 0) (p1 := p2) (p2 := p3) I1 L hf hfn hfr (hbind _ _ _ _ _) tk hW hr' (fun A outer s H hr2 => tBody_ok (L2.takes_of rfl rfl rfl rfl) (hbody A outer s H Ech f c' hr2)) rfl hva had hac
      exact (pss_one (ps_ret (pe_tup (pa_cons pe_str (pa_cons act pa_nil))))).run ps' s' σ' H' D I' ⟨h1, h2, h3⟩
    · refine ⟨fun cls d H' => ∃ x, RepX O H' cls d x ∧ hdsD x cs (fun dd => ∀ H2, AExt H' H2 → ∀ vs ds t, dd = .tup ds → RepL O H2 vs ds → H2 t = none → J (.ref t) (upd H2 t (.tup vs))), fun cls d σ' H' ⟨x, rx, h⟩ => hds_wish rfl rx hex hsz hC (fun _ h => h) h fun H2 x2 vs ds t rl hp ht => hp H2 x2 vs ds t rfl rl ht, rfl, hco, ?_⟩
      refine ⟨O, _, fzn ρ, _, _, R1.lam _, hw, fun x k' cls d H' pn kp rx hxc => ⟨x, rx, hdsD_mono hxc fun dd ⟨ds, e1, hfl, hq⟩ H2 x2 vs ds' t e2 rl ht => ?_⟩, fun v H' r ρ1 k1 I' s' q hQ => ?_⟩
      · subst e1
        cases e2
        exact fin rfl (fun a o h n => x2 a o (kp a o h n)) (pn.ext x2) ht hq fun R2 => tup_repL R2 hni rl hfl
      · obtain ⟨d, ρ2, e1, hl, hq⟩ := hQ
        obtain ⟨I2, s2, r2⟩ := frz_ok I' q e1
        exact ⟨by rw [sizeLine_eq]; exact (by decide : (2 : Nat) ≤ 16777216), fun t ht => fin rfl I2.bs I2.pn ht hq fun R2 => .cons (.str _) (.cons (lean_rep R2 hni (fun a z => .inl z) r2 hl) .nil)⟩
  refine wpAny_call (codeAny_mono rc fun r s2 hq => ?_)
  cases r with
  | error e => exact (show False from hq).elim
  | ok fl =>
    cases fl with
    | ret u => exact I1.after hq
    | next => exact hq.elim
    | brk => exact hq.elim
    | cont => exact hq.elim
end
end DL

set_option Elab.async false
set_option linter.all false
set_option maxRecDepth 100000
set_option maxHeartbeats 1000000
/-! ELr: the end of a law that makes lambdas: the law's def run where the claim calls it -/
namespace DL
open PySem PySem.Spec PyProof.Rows L2
open LamX (TabS Tabs TabB)
theorem cx_false {P : Program} {w : World} {outer : List Env} {H : Hp} {s : Shared} {e : Value} {s' : Shared} (h : L2.CX P w outer H s (fun _ _ _ => False) e s') : False := by
  unfold L2.CX at h
  first
  | exact h.elim
  | (obtain ⟨_, _, _, _, _, _, _, _, _, _, _, _, h⟩ := h; exact h.elim)
  | (obtain ⟨_, _, _, _, _, _, _, _, _, _, _, h⟩ := h; exact h.elim)
  | (obtain ⟨_, _, _, _, _, _, _, _, _, _, h⟩ := h; exact h.elim)
  | (obtain ⟨_, _, _, _, _, _, _, _, _, _, _, _, _, h⟩ := h; exact h.elim)
  | (obtain ⟨_, _, _, _, _, _, _, _, _, _, _, _, _, _, h⟩ := h; exact h.elim)
  | (obtain ⟨_, _, _, _, _, _, _, _, _, _, _, _, _, _, _, h⟩ := h; exact h.elim)
  | (obtain ⟨_, _, _, _, _, _, _, _, _, _, _, _, _, _, _, _, h⟩ := h; exact h.elim)
/-- what is tracked where the law is called: the script (if it is not of the written part) and the table of the law's code -/
def lawH (K : PySem.W.Frag) (a Pt : Addr) (o : Obj) (xs : List V) : Hp := fun b => if b = Pt then some (.tbl #[]) else if b = a ∧ K.lookup a = none then some (.frz o (.lst xs)) else none
theorem law_one {P : Program} {w : World} {K : PySem.W.Frag} {mg mb : Str → Option Value} {fa a c Pt : Addr} {s1 : Shared} {vs : List Value} {ns : List Int} (KX : K.In s1.heap) (hns : s1.heap.Ns mainGlobals mg) (hb : s1.heap.Ns builtinsNs mb) (hbb : ∀ x : Str, x ≠ "__name__" → mb x = bootBuiltins x) (lim : s1.heap.NoLimit) (hg : s1.gens = #[])
    (hT : s1.heap.get? Pt = some { cls := .none, data := .fields #[] }) (nT : K.lookup Pt = none) (C : PySem.W.CodeHd s1.heap c Pt) (hbm : ∃ (bm : Addr) (ob : Obj), mg "__builtins__" = some (.ref bm) ∧ bm ≠ builtinsNs ∧ s1.heap.get? bm = some ob ∧ ob.cls = .type "module" ∧ ob.dict = some builtinsNs ∧ ob.data = .plain)
    (ha : s1.heap.get? a = some { cls := .type "list", data := .seq vs.toArray }) (hi : IntsAre vs ns) (hl : ns.length ≤ sizeLine)
    (F : ∀ (base : Heap) (H : Hp), K.In base → base.Ns mainGlobals mg → TabB base mg c Pt → Env0 P w K mg base callerA [] s1 H → H Pt = some (.tbl #[]) → SqL K H a (ns.map V.int) → codeAny (model P w) callerA (.call (.ref fa) ⟨[.ref a], []⟩) (CR (L2.CX P w) [] P w H s1 (fun v _ => v = .bl true) (fun _ _ _ => False)) s1) :
    codeAny (model P w) callerA (.call (.ref fa) ⟨[.ref a], []⟩) (fun r s' => r = .ok (.ret (.bool true)) ∧ OldK s1.heap s'.heap ∧ s'.os = s1.os ∧ AllBare s'.gens) s1 := by
  have aP : a ≠ Pt := fun z => by rw [z, hT] at ha; cases ha
  have eP : lawH K a Pt { cls := .type "list", data := .seq vs.toArray } (ns.map V.int) Pt = some (.tbl #[]) := if_pos rfl
  have other : ∀ b u, lawH K a Pt { cls := .type "list", data := .seq vs.toArray } (ns.map V.int) b = some u → (b = Pt ∧ u = .tbl #[]) ∨ (b = a ∧ K.lookup a = none ∧ u = .frz { cls := .type "list", data := .seq vs.toArray } (.lst (ns.map V.int))) := fun b u h => by
    unfold lawH at h
    by_cases z : b = Pt
    · rw [if_pos z] at h; cases h; exact .inl ⟨z, rfl⟩
    · rw [if_neg z] at h
      by_cases y : b = a ∧ K.lookup a = none
      · rw [if_pos y] at h; cases h; exact .inr ⟨y.1, y.2, rfl⟩
      · rw [if_neg y] at h; cases h
  have eA : K.lookup a = none → lawH K a Pt { cls := .type "list", data := .seq vs.toArray } (ns.map V.int) a = some (.frz { cls := .type "list", data := .seq vs.toArray } (.lst (ns.map V.int))) := fun h => by unfold lawH; rw [if_neg aP, if_pos ⟨rfl, h⟩]
  have hok : HOk P w (lawH K a Pt { cls := .type "list", data := .seq vs.toArray } (ns.map V.int)) s1.heap := fun b u h => by
    rcases other b u h with ⟨rfl, rfl⟩ | ⟨rfl, _, rfl⟩
    · exact hT
    · exact ⟨ha, by rw [List.length_map]; exact hl, vs, _, vals_ints hi, ha⟩
  have hS : SqL K (lawH K a Pt { cls := .type "list", data := .seq vs.toArray } (ns.map V.int)) a (ns.map V.int) := by
    cases q : K.lookup a with
    | none => exact .inl (.inr ⟨{ cls := .type "list", data := .seq vs.toArray }, eA q⟩)
    | some o =>
      have e := KX a o q
      rw [ha] at e
      cases e
      exact .inr ⟨_, vs.toArray, _, q, rfl, rfl, rfl, by rw [List.size_toArray, hi.length]; exact hl, by simpa using vals_ints hi⟩
  generalize hH : lawH K a Pt { cls := .type "list", data := .seq vs.toArray } (ns.map V.int) = H at *
  have free : ∀ {b : Addr} {o : Obj}, s1.heap.get? b = some o → (∀ us n, o.data ≠ .seq us n) → o.data ≠ .fields #[] → H b = none := fun {b o} e h1 h2 => by
    cases q : H b with
    | none => rfl
    | some u =>
      rcases other b u q with ⟨z, _⟩ | ⟨z, _, _⟩
      · rw [z, hT] at e; cases e; exact (h2 rfl).elim
      · rw [z, ha] at e; cases e; exact (h1 _ _ rfl).elim
  have dfree : ∀ {b : Addr} {o : Obj} {es : Array DictEntry} {ep : Nat}, s1.heap.get? b = some o → o.data = .dict es ep → H b = none := fun {b o es ep} e d => free e (fun us n z => by rw [d] at z; cases z) fun z => by rw [d] at z; cases z
  have nsB : ∀ {b : Addr} {m : Str → Option Value}, s1.heap.Ns b m → (hidT s1.heap H).Ns b m := fun {b m} ⟨o, es, ep, e, d, r⟩ => ⟨o, es, ep, hidT_get e (dfree e d), d, r⟩
  have KB : K.In (hidT s1.heap H) := fun b o e => hidT_get (KX b o e) (by
    cases q : H b with
    | none => rfl
    | some u =>
      rcases other b u q with ⟨z, _⟩ | ⟨z, y, _⟩
      · rw [z, nT] at e; cases e
      · rw [z, y] at e; cases e)
  obtain ⟨ge, gs, gp, g1, g2, gr⟩ := hns
  have hns : s1.heap.Ns mainGlobals mg := ⟨ge, gs, gp, g1, g2, gr⟩
  have TB : TabB (hidT s1.heap H) mg c Pt := by
    refine ⟨?_, ?_, fun z => by rw [z, hT] at g1; cases g1; cases g2⟩
    · obtain ⟨o, us, file, tf, flags, tg, inF, text, tt, e1, r1, r2, r3, rest⟩ := C
      exact ⟨o, us, file, tf, flags, tg, inF, text, tt, hidT_get e1 (free e1 (fun vs n z => by rw [r2] at z; cases z) fun z => by rw [r2] at z; cases z; simp at r3), r1, r2, r3, rest⟩
    · obtain ⟨bm, ob, b1, b2, b3, b4, b5, b6⟩ := hbm
      exact ⟨bm, ob, b1, b2, (fun q => by rw [q, g1] at b3; cases b3; rw [g2] at b6; cases b6), (fun q => by rw [q, hT] at b3; cases b3; cases b6), hidT_get b3 (free b3 (fun vs n z => by rw [b6] at z; cases z) fun z => by rw [b6] at z; cases z), b4, b5, b6⟩
  have e0 : Env0 P w K mg (hidT s1.heap H) callerA [] s1 H := ⟨rfl, ⟨KB, nsB hns, ⟨mb, nsB hb, hbb⟩, let ⟨mc, h1, h2⟩ := lim; ⟨mc, nsB h1, h2⟩⟩, fun b o e => of_hidT e, Nat.le_of_eq (hidT_size _ _), trivial, fun b hb => absurd (show b ∈ ([] : List Addr) from hb) (by simp), hok, .of_eq hg⟩
  refine codeAny_mono (F _ H KB (nsB hns) TB e0 eP hS) fun r s2 h => ?_
  cases r with
  | error e => exact (cx_false h).elim
  | ok fl =>
    cases fl with
    | next => exact h.elim
    | brk => exact h.elim
    | cont => exact h.elim
    | ret u =>
      obtain ⟨v, H2, os, bare, un, hok2, rv, q⟩ := h
      have q : v = .bl true := q
      subst q
      obtain rfl : u = Value.bool true := rv
      obtain ⟨more, em⟩ := un.tbls Pt #[] eP
      have gm : s2.heap.get? Pt = some { cls := .none, data := .fields (#[] ++ more) } := hok2 Pt _ em
      have keep : ∀ b o, b ≠ Pt → s1.heap.get? b = some o → s2.heap.get? b = some o := fun b o nb e => by
        cases q : H b with
        | none => exact un.keep b o e q (fun z => absurd (show b ∈ ([] : List Addr) from z) (by simp)) (by simp)
        | some u =>
          rcases other b u q with ⟨z, _⟩ | ⟨z, _, rfl⟩
          · exact absurd z nb
          · obtain ⟨e1, _⟩ := hok b _ q
            obtain ⟨e2, _⟩ := hok2 b _ (un.frzs b _ _ q)
            rw [e] at e1
            cases e1
            exact e2
      refine ⟨rfl, ⟨fun b o e => ?_, fun b o e => ?_⟩, os, bare⟩
      · by_cases z : b = Pt
        · rw [z] at e ⊢
          rw [hT] at e
          cases e
          exact .inr (.inl ⟨(C.tab hT).isCodeTable, rfl, #[], more, rfl, gm⟩)
        · exact .inl (keep b o z e)
      · by_cases z : b = Pt
        · rw [z]; exact ⟨_, gm⟩
        · exact ⟨o, keep b o z e⟩
end DL

set_option Elab.async false
set_option linter.all false
set_option maxRecDepth 100000
set_option maxHeartbeats 1000000
/-! ELs: what the end has to hand over: own classes, own exceptions, the law's call -/
namespace DL
open PySem PySem.Spec PyProof.Rows L2
open LamX (TabS Tabs TabB)
def clsBody : Stmt → List Stmt
  | .ClassDef (body := b) .. => b
  | _ => []
/-- the def that stands at place i in the class statement -/
def clsDef (st : Stmt) (i : Nat) : Stmt := (clsBody st).getD i (.Pass ⟨0, 0, 0, 0⟩)
theorem exm_pair {K : PySem.W.Frag} {S C : Addr} {b : Bool} (h1 : PySem.W.subIn K (.ref C) (.type "BaseException") = some true) (h2 : PySem.W.isClsIn K C = true) (h3 : PySem.W.typeIn K (.ref C) = some (.type "type")) (h4 : PySem.W.subIn K (.ref S) (.ref C) = some b) : PySem.W.exmOne K (.ref S) (.ref C) = some b := by
  unfold PySem.W.exmOne PySem.W.kitCls
  dsimp only
  rw [if_pos (by rw [h1]; rfl), if_pos (by rw [h3, show (PySem.W.clsIn K C).isSome = true from h2]; rfl)]
  exact h4
theorem kit_own {K : PySem.W.Frag} {n : String} {C : Addr} {b : Bool} (h2 : PySem.W.isClsIn K C = true) (h3 : PySem.W.typeIn K (.ref C) = some (.type "type")) (h4 : PySem.W.subIn K (.type n) (.ref C) = some b) : PySem.W.kitOne K (.type n) (.ref C) = some b := by
  unfold PySem.W.kitOne PySem.W.kitCls
  dsimp only
  rw [if_neg (show ¬ ((Value.type n == Value.ref C) = true) by simp), if_pos (by rw [h3, show (PySem.W.clsIn K C).isSome = true from h2]; rfl)]
  exact h4
/-- two classes of which one does not hear the other are two -/
theorem exm_ne {K : PySem.W.Frag} {S C : Addr} (h : PySem.W.exmOne K (.ref S) (.ref C) = some false) (h' : PySem.W.exmOne K (.ref C) (.ref C) = some true) : S ≠ C := fun z => by rw [z, h'] at h; cases h
theorem clsF_mk {K : PySem.W.Frag} {C : Addr} (c : Cls K C) (ha : PySem.W.findIn K (.ref C) "__class__" = some (some (.builtin "object.__class__"))) (hn : PySem.W.specialIn K (.builtin "object.__class__") "__get__" = some (some (.builtin "getset_descriptor.__get__"))) (htk : PySem.W.takesIn K (.builtin "object.__class__") = some true) (hm : PySem.W.mroIn K C (.type "object") = some true)
    (i : PySem.W.isClsIn K C = true) (t : PySem.W.typeIn K (.ref C) = some (.type "type")) (b1 : PySem.W.subIn K (.type "NoneType") (.ref C) = some false) (b2 : PySem.W.subIn K (.type "bool") (.ref C) = some false) (b3 : PySem.W.subIn K (.type "int") (.ref C) = some false) (b4 : PySem.W.subIn K (.type "str") (.ref C) = some false) (b5 : PySem.W.subIn K (.type "list") (.ref C) = some false) (b6 : PySem.W.subIn K (.type "tuple") (.ref C) = some false) (b7 : PySem.W.subIn K (.type "dict") (.ref C) = some false) : ClsF K C :=
  ⟨c, fun H a dx fs e => .ins e c ha hn htk hm, fun n hn => by
    simp only [List.mem_cons, List.mem_nil_iff, or_false] at hn
    rcases hn with rfl | rfl | rfl | rfl | rfl | rfl | rfl
    · exact kit_own i t b1
    · exact kit_own i t b2
    · exact kit_own i t b3
    · exact kit_own i t b4
    · exact kit_own i t b5
    · exact kit_own i t b6
    · exact kit_own i t b7⟩
theorem oexC_mk {K : PySem.W.Frag} {C S N dd' : Addr} {nm q : Str} {bs sub : List Value} {sn : List Str} {ab : Bool} {col : Option Bool} {dd : Option Addr} {k0 k1 k2 k3 k5 : Option Value} (x : K.lookup C = some (excClassObj nm q C N bs [.ref S, .type "ValueError", .type "Exception", .type "BaseException", .type "object"] true sn sub ab col dd k0 k1 k2 k3 k5 "ValueError.__new__"))
    (sa : PySem.W.findIn K (.ref C) "__setattr__" = some (some (.builtin "object.__setattr__"))) (ex : PySem.W.subIn K (.ref C) (.type "BaseException") = some true) (ty : PySem.W.typeIn K (.ref C) = some (.type "type")) (kp : PySem.W.keepIn K (.ref C) = true) : L2.OexC K C :=
  ⟨⟨nm, q, N, bs, _, sn, sub, ab, col, dd, k0, k1, k2, k3, k5, x, rfl⟩, sa, ex, ty, kp⟩
theorem super_init {K : PySem.W.Frag} {C S N N' : Addr} {nm q nm' q' : Str} {bs sub bs' sub' : List Value} {sn sn' : List Str} {ab ab' : Bool} {col col' : Option Bool} {dd dd' : Option Addr} {k0 k1 k2 k3 k5 j0 j1 j2 j3 j5 : Option Value}
    (x : K.lookup C = some (excClassObj nm q C N bs [.ref S, .type "ValueError", .type "Exception", .type "BaseException", .type "object"] true sn sub ab col dd k0 k1 k2 k3 k5 "ValueError.__new__"))
    (y : K.lookup S = some (excClassObj nm' q' S N' bs' [.type "ValueError", .type "Exception", .type "BaseException", .type "object"] true sn' sub' ab' col' dd' j0 j1 j2 j3 j5 "ValueError.__new__"))
    (f : PySem.W.findIn K (.ref S) "__init__" = some (some (.builtin "ValueError.__init__"))) : PySem.W.ks_superIn K C C "__init__" = some (some (.builtin "ValueError.__init__")) := by
  unfold PySem.W.ks_superIn PySem.W.clsIn
  unfold PySem.W.findIn at f
  dsimp only at f
  rw [x]
  rw [y] at f
  show PySem.W.alongIn K "__init__" ((List.dropWhile (· != .ref C) (Value.ref C :: [.ref S, .type "ValueError", .type "Exception", .type "BaseException", .type "object"])).drop 1) = _
  rw [List.dropWhile_cons]
  simp only [bne_self_eq_false, Bool.false_eq_true, if_false, List.drop_succ_cons, List.drop_zero]
  exact f
/-- a promise that lets nothing out is one that may let out what its caller takes -/
theorem fnUp {P : Program} {w : World} {K : PySem.W.Frag} {mg : Str → Option Value} {base : Heap} {CX : CXT} {k : Nat} {f : Addr} {fd : FuncData} {ps : List Str} {sp : Sp} (F : FnOk P w K mg base CX0 k f fd ps sp) : FnOk P w K mg base CX k f fd ps sp :=
  ⟨F.len, fun A outer s H args us vs Q E hr e hb rv h => codeAny_mono (F.run A outer s H args us vs Q E hr e hb rv h) fun r s' q => by
    cases r with
    | error e => exact False.elim q
    | ok fl => cases fl <;> exact q⟩
/-- the law is called: its body, read where the claim calls it -/
theorem law_run {P : Program} {w : World} {K : PySem.W.Frag} {mg : Str → Option Value} {base : Heap} {x : Str} {st : Stmt} {f a c : Addr} {oc kV doc pm ct : Value} {od an : Option Addr} {osl : Array (Option Value)} {N : List Str} {k : Nat} {s : Shared} {H : Hp} {Q : VK}
    (lk : K.lookup f = some ⟨oc, od, .func (PySem.W.fnOf "law" "law" (defArgs st) (defBody st) (defScope st) .none kV doc pm an (.ref c) ct), osl⟩) (hc : PySem.W.codeIn K (.ref c) "law" = true) (S : FnScope N [x] (defScope st)) (hb : Binds K (PySem.W.fnOf "law" "law" (defArgs st) (defBody st) (defScope st) .none kV doc pm an (.ref c) ct) [x] []) (hr : Room (k + 1) callerA) (e0 : Env0 P w K mg base callerA [] s H)
    (hbody : Room k (callerA.deeper (envOfC "law" (defScope st) s.heap.objs.size f (.ref c))) → ∃ t, PSs (cxOf (L2.CX P w) P w K mg base N "law" (defScope st) f (.ref c) callerA [] s H (fun _ _ _ => False)) (defBody st) t ∧ t { nx := fun _ H' => Q .non H', rt := Q } (L2.start N [.ref a]) H) :
    codeAny (model P w) callerA (.call (.ref f) ⟨[.ref a], []⟩) (CR (L2.CX P w) [] P w H s Q (fun _ _ _ => False)) s :=
  LamX.run_ofS (N := N) (ps := [x]) (us := [.ref a]) (vs := [.ref a]) lk hc S hr e0 (hb s [.ref a] (e0.mod.kin.keeps fun b o e => (e0.bs b o e).1) rfl) (.cons rfl .nil) rfl hbody
/-- the end of a law whose own body makes lambdas -/
theorem walk_hear {l : PySem.W.OpenLaw} {n : Nat} {q : Program} {loose : List Str} {XP : (Str → Option Value) → Heap → Prop} {YP : World → Heap → Prop} {d : DefRec} {K : Params → PySem.W.Frag} (hn : l.most = some n) (hn2 : n ≤ sizeLine) (hdf : d.params.defaults = []) (hY : ∀ (w : World) (h : Heap), YP w h → (K w.params).In h)
    (F : ∀ (w : World) (mg : Str → Option Value) (fa : Addr) (h : Heap), YP w h → (K w.params).In h → h.Ns mainGlobals mg → mg d.name = some (.ref fa) → ∃ c Pt : Addr, h.get? Pt = some { cls := .none, data := .fields #[] } ∧ (K w.params).lookup Pt = none ∧ PySem.W.CodeHd h c Pt ∧
      ∀ (base : Heap) (s : Shared) (H : Hp) (a : Addr) (ns : List Int), ns.length ≤ n → (K w.params).In base → base.Ns mainGlobals mg → TabB base mg c Pt → Env0 l.prog w (K w.params) mg base callerA [] s H → H Pt = some (.tbl #[]) → SqL (K w.params) H a (ns.map V.int) →
        codeAny (model l.prog w) callerA (.call (.ref fa) ⟨[.ref a], []⟩) (CR (L2.CX l.prog w) [] l.prog w H s (fun v _ => v = .bl true) (fun _ _ _ => False)) s) :
    PySem.W.WalkO q loose XP YP l.row.toRowW d [] (fun f vs => PySem.call f vs) := by
  refine Att.attach_call hn hdf fun w s₀ s₁ mg mb fa o pm cd doc a vs ns G Y ho hd hcd hmg hobj hints hlen hg => ?_
  have KX := hY w _ Y
  obtain ⟨c, Pt, hT, nT, C, run⟩ := F w mg fa _ Y KX G.T.g hmg
  exact law_one KX G.T.g G.T.b G.T.builtins G.T.nolimit hg hT nT C G.T.bmain hobj hints (Nat.le_trans hlen hn2) fun base H h1 h2 h3 h4 h5 h6 => run base s₁ H a ns hlen h1 h2 h3 h4 h5 h6
end DL

set_option Elab.async false
set_option linter.all false
set_option maxRecDepth 100000
set_option maxHeartbeats 1000000
/-! ELt: enumerate of a list or a tuple -/
namespace PySem
open Sem (wp)
open AutoSeq1 (wpAny_loadPart')
end PySem
namespace DL
open PySem PySem.Spec PyProof.Rows L2
/-- the tuple at a, each item in a new pair -/
def IteT (K : PySem.W.Frag) (a : Addr) : It :=
  ⟨fun i H => ∃ (xs : List V) (x : V), SqT K H a xs ∧ xs[i]? = some x, fun i H v H' => ∃ T x, v = .ref T ∧ H T = none ∧ H' = upd H T (.tup [.int (i : Nat), x]) ∧ ∀ xs, SqT K H a xs → xs[i]? = some x, fun i H => ∃ xs : List V, SqT K H a xs ∧ xs.length ≤ i⟩
def iEnumA (K : PySem.W.Frag) (ta : TA) : TI := fun σ H R => ta σ H fun vs H1 => ∃ a xs, vs = [.ref a] ∧ ((SqL K H1 a xs ∧ R (Ite K a) H1) ∨ (SqT K H1 a xs ∧ R (IteT K a) H1))
/-- the pairs of places and items -/
def enumD : Nat → List D → List D
  | _, [] => []
  | i, d :: ds => .tup [.int i, d] :: enumD (i + 1) ds
def wEnum (a : WA) : WL := fun ρ k Q => a ρ k fun rs ρ1 k1 => ∃ ds ρ2 d xs, frzL ρ1 rs = some (ds, ρ2) ∧ ds = [d] ∧ itemsD d = some xs ∧ Q (enumD 0 xs) ρ2 k1
end DL

set_option Elab.async false
set_option linter.all false
set_option maxRecDepth 100000
set_option maxHeartbeats 1000000
/-! ELu: a tuple once (t * 1), a text some times (s * n) -/
namespace DL
open PySem PySem.Spec PyProof.Rows L2
theorem tup_once (l : Addr) (its : Array Value) (n : Nat) (dd : Option Addr) (sl : Array (Option Value)) (u : Tok) :
    Meets (Builtin.«tuple.__mul__» ⟨[.ref l, .int 1 u], []⟩) (fun _ R s => s.heap.get? l = some { cls := .type "tuple", dict := dd, data := .seq its n, slots := sl } ∧ R (.ok (.ret (Value.ref l))) s) :=
  .of_wp fun prog w A R s q => by
    obtain ⟨hp, g, d, tk, os⟩ := s
    obtain ⟨hl, q⟩ := q
    have f1 := AutoSeq1.idx_int
    have c1 : (its.isEmpty || (1 : Int) == 1) = true := by simp
    wp_walk using AutoSeq1.wpAny_loadPart' hl
    exact ⟨_, rfl, q⟩
section
variable {X : Cx}
def rTup1 (K : PySem.W.Frag) : R2 := fun x y H Q => ∃ l xs, x = .ref l ∧ y = .int 1 ∧ SqT K H l xs ∧ Q (.ref l) H
theorem op_tup1 : OpR X (binaryOp .Mult) (rTup1 X.K) := by
  intro pins s σ H x y v u Q I rx ry h
  obtain ⟨l, xs, rfl, rfl, hT, q⟩ := h
  cases rx
  obtain ⟨t, rfl⟩ := ry
  obtain ⟨its, r, ⟨⟨cls, dd, data, sl⟩, ho, hc, n, hd⟩, hs⟩ := I.tuple hT
  simp only at hc hd
  subst hc hd
  exact wpAny_binaryOp_repeat_ref (T := "tuple") (U := "int") (by decide) ⟨_, ho, rfl⟩ (fun s' => typeIs_int s' 1 t) noFill_tuple_mul F.fills_int_mul F.slot_int_rmul repeat_tuple F.slot_int_index.lookup
    (call_meets F.slot_int_rmul (typeIs_int s 1 t) F.entry_int_rmul (F.args_int_rmul_2 _ _) (int_rmul_tuple 1 t l its.toArray n dd sl)
      ⟨ho, rfl, ⟨_, ho, rfl⟩, call_meets F.slot_tuple_mul ⟨_, ho, rfl⟩ F.entry_tuple_mul (F.args_tuple_mul_2 _ _) (tup_once l its.toArray n dd sl t) ⟨ho, .ref l, H, I, rfl, q⟩⟩)
/-- s * k -/
def strTimes (x : Str) (k : Int) : Str := if k < 1 then Str.empty else if (k == 1 || x.length == 0) = true then x else ⟨(List.replicate k.toNat x.cps).foldl (· ++ ·) #[]⟩
def rStrT : R2 := fun x y H Q => ∃ z k, x = .str z ∧ y = .int k ∧ k ≤ 1000 ∧ -1000 ≤ k ∧ z.length ≤ 1000 ∧ Q (.str (strTimes z k)) H
theorem foldl_cps (a : Array Nat) : ∀ (n : Nat) (acc : Array Nat), ((List.replicate n a).foldl (· ++ ·) acc).size = acc.size + n * a.size
  | 0, acc => by simp
  | n + 1, acc => by
    rw [List.replicate_succ, List.foldl_cons, foldl_cps a n, Array.size_append, Nat.succ_mul]
    omega
theorem op_strT : OpR X (binaryOp .Mult) rStrT := by
  intro pins s σ H x y v u Q I rx ry h
  obtain ⟨z, k, rfl, rfl, h1, h2, h3, q⟩ := h
  obtain ⟨t, rfl⟩ := rx
  obtain ⟨t2, rfl⟩ := ry
  have big : 1000 * 1000 ≤ sizeLine := by rw [sizeLine_eq]; decide
  have prod : z.length * k.toNat ≤ 1000 * 1000 := Nat.mul_le_mul h3 (by omega)
  refine PySem.P.mul_str (by rw [decide_eq_false (by omega), decide_eq_false (by omega)]; rfl) (fun hk _ => ?_) (fun _ _ => ?_) ?_
  · have a1 : (1000 : Int) ≤ (2 ^ 63 - 1) / k := (Int.le_ediv_iff_mul_le (by omega)).mpr (by omega)
    omega
  · unfold PySem.Builtin.Str.tooLong
    exact decide_eq_false (by omega)
  · unfold strTimes at q
    by_cases c1 : k < 1
    · rw [if_pos c1] at q ⊢
      exact ⟨by rw [sizeLine_eq]; decide, .str _, H, I.tok _, ⟨_, rfl⟩, q⟩
    · rw [if_neg c1] at q ⊢
      by_cases c2 : (k == 1 || z.length == 0) = true
      · rw [if_pos c2] at q ⊢
        exact ⟨.str z, H, I, ⟨t, rfl⟩, q⟩
      · rw [if_neg c2] at q ⊢
        refine ⟨?_, .str _, H, I.tok _, ⟨_, rfl⟩, q⟩
        show ((List.replicate k.toNat z.cps).foldl (· ++ ·) #[]).size ≤ sizeLine
        rw [foldl_cps]
        have : z.cps.size = z.length := rfl
        rw [this, Nat.mul_comm]
        have e : (#[] : Array Nat).size = 0 := rfl
        omega
abbrev rMulX (X : Cx) : R2 := fun x y H Q => rMulAll X x y H Q ∨ rTup1 X.K x y H Q ∨ rStrT x y H Q
theorem op_mulX : OpR X (binaryOp .Mult) (rMulX X) := OpR.or op_mulAll (OpR.or op_tup1 op_strT)
def fMulX : F2 := fun d e P => match d, e with
  | .tup a, .int k => if k = 1 then P (.tup a) else fMul (.tup a) (.int k) P
  | .str z, .int k => (k ≤ 1000 ∧ -1000 ≤ k ∧ z.length ≤ 1000) ∧ P (.str (strTimes z k))
  | d, e => fMul d e P
theorem real_mulX : Real2 (rMulX X) fMulX := by
  intro B H x y d e P J hb rx ry h g
  unfold fMulX at h
  split at h
  · rename_i a k
    by_cases hk : k = 1
    · rw [if_pos hk] at h
      subst hk
      obtain ⟨l, vs, rfl, nl, el, la⟩ := rx.tup
      exact .inr (.inl ⟨l, vs, rfl, ry.int, SqT.of el, g _ H _ (AExt.refl H) (.tup nl el la) h⟩)
    · rw [if_neg hk] at h
      exact .inl (real_mul B H x y _ _ P J hb rx ry h g)
  · exact .inr (.inr ⟨_, _, rx.str, ry.int, h.1.1, h.1.2.1, h.1.2.2, g _ H _ (AExt.refl H) (.str _) h.2⟩)
  · exact .inl (real_mul B H x y _ _ P J hb rx ry h g)
end
end DL

set_option Elab.async false
set_option linter.all false
set_option maxRecDepth 100000
set_option maxHeartbeats 1000000
/-! ELv: the rest: the pen opened; the rules of the words of ELi .. ELu -/
namespace DL
open PySem PySem.Spec PyProof.Rows L2
theorem pen_open {p : Pn} {k : Kt} {H : Hp} {a : Addr} (pn : penI p k H) (ea : k.2.pen = some a) : ∃ c, a ≠ c ∧ ∃ (ns : List Int) (i : Nat) (d f : Int), H a = some (penO c i d k.1 f) ∧ H c = some (.lst (ns.map V.int)) ∧ i ≤ ns.length ∧ 0 ≤ d ∧ 0 ≤ f ∧ f < 2147483648 ∧
    ∀ (H' : Hp) (i2 : Nat) (d2 f2 : Int), (∀ b, b ≠ a → H' b = H b) → H' a = some (penO c i2 d2 ((k.1 : Int) + 1) f2) → i2 ≤ ns.length → 0 ≤ d2 → 0 ≤ f2 → f2 < 2147483648 → penI p (k.1 + 1, k.2) H' ∧ penA p a := by
  obtain ⟨h, e, t⟩ := pn
  cases q : p.pen with
  | none => rw [q] at h; rw [ea] at h; cases h
  | some ac =>
    obtain ⟨x, c⟩ := ac
    rw [q] at h
    obtain ⟨m, n, ns, i, d, f, h1, h2, h3, h4, h5, h6⟩ := h
    rw [ea] at m
    cases m
    refine ⟨c, n, ns, i, d, f, h1, h2, h3, h4, h5, h6, fun H' i2 d2 f2 ho e1 e2 e3 e4 e5 => ⟨⟨?_, e, fun z hz => tabS_keep (t z hz) (ho _ ?_) fun b y hb => ?_⟩, .inl ⟨c, q⟩⟩⟩
    · rw [q]
      exact ⟨ea, n, ns, i2, d2, f2, e1, (ho c (Ne.symm n)).trans h2, e2, e3, e4, e5⟩
    · intro z2
      obtain ⟨ps, y, _⟩ := t z hz
      rw [z2, h1] at y
      cases y
    · exact (ho b fun z2 => by rw [z2, h1] at hb; unfold LamX.CodeO at hb; cases hb).trans hb
theorem ex_same {K : PySem.W.Frag} {a : Addr} (h : PySem.W.exmOne K (.ref a) (.ref a) = some true) : PySem.W.exmOne K (.ref a) (.ref a) = some (decide (a = a)) := by rw [h, decide_eq_true rfl]
theorem ex_diff {K : PySem.W.Frag} {a b : Addr} (h : PySem.W.exmOne K (.ref a) (.ref b) = some false) (h' : PySem.W.exmOne K (.ref b) (.ref b) = some true) : PySem.W.exmOne K (.ref a) (.ref b) = some (decide (a = b)) := by
  have : a ≠ b := fun z => by rw [z, h'] at h; cases h
  rw [h, decide_eq_false this]
section
variable {ρ : En} {k : Kt} {Q : R → En → Kt → Prop} {QL : List D → En → Kt → Prop} {E : DEnds} {a : WE} {wa : WA}
@[simp] theorem s_Fld {C : Addr} {f : Str} : wFld C f a ρ k Q = a ρ k fun r ρ1 k1 => ∃ ns ds d, deref ρ1 r = some (.ins C ns ds) ∧ (ns.zip ds).lookup f = some d ∧ Q (.val d) ρ1 k1 := rfl
@[simp] theorem s_PutF {i : Nat} {C : Addr} {f : Str} : wPutF i C f a E ρ k = a ρ k fun r ρ1 k1 => ∃ y ρ2 ns ds, frz ρ1 r = some (y, ρ2) ∧ ρ2[i]? = some (.own (.i C ns ds)) ∧ f ∉ ns ∧ ns.length < 1000 ∧ E.nx (ρ2.set i (.own (.i C (ns ++ [f]) (ds ++ [y])))) k1 := rfl
@[simp] theorem s_Raise {C : Addr} {fs : List Str} : wRaise C fs wa E ρ k = wa ρ k fun rs ρ1 k1 => ∃ ds ρ2, frzL ρ1 rs = some (ds, ρ2) ∧ ds.length = fs.length ∧ k1.2.xc ⟨.ref C, fs.reverse, ds.reverse⟩ k1.1 := rfl
@[simp] theorem s_Heard {tabs : List (Addr × Str)} {tag : Str} {cs : List (Addr × List Part)} {wb : WE} : wHeard tabs tag cs wb ρ k Q = (k.2.tabs = tabs ∧ noI ρ = true ∧
  wb (fzn ρ) (k.1, { k.2 with xc := fun x n => hdsD x cs fun d => ∃ ds, d = .tup ds ∧ flatL ds = true ∧ Q (.val d) ρ (n, k.2) }) fun r ρ1 k1 => ∃ d ρ2, frz ρ1 r = some (d, ρ2) ∧ leanD d = true ∧ Q (.val (.tup [.str tag, d])) ρ (k1.1, k.2)) := rfl
@[simp] theorem s_Enum : wEnum wa ρ k QL = wa ρ k fun rs ρ1 k1 => ∃ ds ρ2 d xs, frzL ρ1 rs = some (ds, ρ2) ∧ ds = [d] ∧ itemsD d = some xs ∧ QL (enumD 0 xs) ρ2 k1 := rfl
@[simp] theorem s_en0 {i : Nat} : enumD i [] = [] := rfl
@[simp] theorem s_en1 {i : Nat} {d : D} {ds : List D} : enumD i (d :: ds) = .tup [.int i, d] :: enumD (i + 1) ds := rfl
@[simp] theorem s_fz0 : fzn [] = [] := rfl
@[simp] theorem s_fz1 {d : D} {r : En} : fzn (.val d :: r) = .val d :: fzn r := rfl
@[simp] theorem s_fz2 {o : OD} {r : En} : fzn (.own o :: r) = .val o.toD :: fzn r := rfl
@[simp] theorem s_fz3 {r : En} : fzn (.un :: r) = .un :: fzn r := rfl
@[simp] theorem s_no0 : noI [] = true := rfl
@[simp] theorem s_no1 {d : D} {r : En} : noI (.val d :: r) = noI r := by simp [noI]
@[simp] theorem s_no2 {ds : List D} {r : En} : noI (.own (.l ds) :: r) = noI r := by simp [noI]
@[simp] theorem s_no3 {r : En} : noI (.un :: r) = noI r := by simp [noI]
@[simp] theorem s_hd0 {x : XD} {P : D → Prop} : hdsD x [] P = False := rfl
@[simp] theorem s_hd1 {x : XD} {q : Addr × List Part} {r : List (Addr × List Part)} {P : D → Prop} : hdsD x (q :: r) P = if x.cls = .ref q.1 then partsD x q.2 fun ds => P (.tup ds) else hdsD x r P := rfl
@[simp] theorem s_ps0 {x : XD} {P : List D → Prop} : partsD x [] P = P [] := rfl
@[simp] theorem s_ps1 {x : XD} {q : Part} {qs : List Part} {P : List D → Prop} : partsD x (q :: qs) P = partD x q fun d => partsD x qs fun ds => P (d :: ds) := rfl
@[simp] theorem s_p1 {x : XD} {s : Str} {P : D → Prop} : partD x (.str s) P = P (.str s) := rfl
@[simp] theorem s_p2 {x : XD} {f : Str} {P : D → Prop} : partD x (.fld f) P = ∃ d, (x.ns.zip x.ds).lookup f = some d ∧ P d := rfl
/-- a value's text as repr gives it -/
def rpK (o : Option PyData) (P : D → Prop) : Prop := ∃ y, o = some y ∧ y.showable = true ∧ y.shown.length ≤ sizeLine ∧ y.depth ≤ 50 ∧ P (.str y.shown)
@[simp] theorem s_p3 {x : XD} {f : Str} {P : D → Prop} : partD x (.rep f) P = ∃ d, (x.ns.zip x.ds).lookup f = some d ∧ rpK (toPy d) P := by
  unfold rpK
  refine propext ⟨fun ⟨d, y, h1, h2⟩ => ⟨d, h1, y, h2⟩, fun ⟨d, h1, y, h2⟩ => ⟨d, y, h1, h2⟩⟩
@[simp] theorem s_repr {d : D} {P : D → Prop} : fRepr [d] P = rpK (toPy d) P := by
  unfold fRepr rpK
  refine propext ⟨fun ⟨d', y, h1, h2⟩ => by cases h1; exact ⟨y, h2⟩, fun ⟨y, h2⟩ => ⟨d, y, rfl, h2⟩⟩
@[simp] theorem s_isC {C : Addr} {d : D} {P : D → Prop} : fIsC C [d, .obj C] P = ∃ b, isC C d = some b ∧ P (.bl b) := by
  refine propext ⟨fun ⟨b, _, h⟩ => ⟨b, h⟩, fun ⟨b, h⟩ => ⟨b, rfl, h⟩⟩
@[simp] theorem s_mxi {i j : Int} {P : D → Prop} : fMulX (.int i) (.int j) P = (CMul i j ∧ P (.int (i * j))) := rfl
@[simp] theorem s_mxl {a : List D} {k : Int} {P : D → Prop} : fMulX (.lst a) (.int k) P = ((-(2 ^ 63) ≤ k ∧ k < 2 ^ 63 ∧ a.length * k.toNat ≤ sizeLine) ∧ P (.lst (List.replicate k.toNat a).flatten)) := rfl
@[simp] theorem s_mxt {a : List D} {k : Int} {P : D → Prop} : fMulX (.tup a) (.int k) P = if k = 1 then P (.tup a) else ((a ≠ [] ∧ 2 ≤ k ∧ k ≤ 1000 ∧ a.length ≤ 1000) ∧ P (.tup (List.replicate k.toNat a).flatten)) := rfl
@[simp] theorem s_mxs {z : Str} {k : Int} {P : D → Prop} : fMulX (.str z) (.int k) P = ((k ≤ 1000 ∧ -1000 ≤ k ∧ z.length ≤ 1000) ∧ P (.str (strTimes z k))) := rfl
end
section
variable {X : Cx} {pos : Pos}
theorem ds_parG (i j : Nat) {x y : Str} {a b : Expr} {wa : WE} {wb : WL} {px py pt : Pos} {kt k2 pt2} (hc : X.calm = true) (hN : X.N.Nodup) (hi : X.N[i]? = some x) (hj : X.N[j]? = some y) (hij : i ≠ j)
    (hx : X.env.scope.names.lookup x = some .local) (hy : X.env.scope.names.lookup y = some .local) (ha : DE X a wa) (hb : DF X b wb)
    (hw : swappedStores [.Tuple [.Name x px, .Name y py] kt pt] (.Tuple [a, b] k2 pt2) X.env = pure (some [x, y])) (hs1 : starEach [a, b] X.env = (false, eval a X.env) :: starEach [b] X.env := by rfl) (hs2 : starEach [b] X.env = (false, eval b X.env) :: starEach [] X.env := by rfl)
    (hs : swapsWithSole [.Tuple [.Name x px, .Name y py] kt pt] (.Tuple [a, b] k2 pt2) pos.line X.env = pure false := by rfl) : DS X (.Assign [.Tuple [.Name x px, .Name y py] kt pt] (.Tuple [a, b] k2 pt2) pos) (wParG i j wa wb) := by
  obtain ⟨ta, pa, ra⟩ := ha
  obtain ⟨tb, pb, rb⟩ := hb
  refine ⟨_, ps_par hc hN hi hj hij hx hy (pa_cons pa (pa_cons pb pa_nil hs2) hs1) hw hs, fun O p _ ρ k σ H E F I h e => ?_⟩
  refine ra O p ρ k σ H _ _ I h fun u H1 r ρ1 k1 I1 s1 q1 h1 => ?_
  refine rb O p ρ1 k1 σ H1 _ _ I1 h1 fun c vs H2 zs ρ2 k2 I2 s2 n0 e1 r1 h2 => ?_
  obtain ⟨x', ρ3, e2, h2⟩ := h2
  have nH : H c = none := by
    cases q : H c with
    | none => rfl
    | some o => exact absurd n0 (s1.tr c (by rw [q]; simp))
  have q2 : RRep (fun b => O b ∨ b = c) ρ2 σ H2 u r := by
    cases r with
    | slot n => exact q1
    | val d => exact Rep.mono (I1.kp s2) (fun b z => by
        rcases z with (z | z) | z
        · exact .inl (.inl z)
        · exact .inr (by rw [z]; exact n0)
        · exact (s2.nw b z).imp .inr id) (show Rep (Bn O ρ1 σ) H1 u d from q1)
  obtain ⟨I3, s3, r3⟩ := frz_ok I2 q2 e2
  refine ⟨u, .ref c, rfl, ?_⟩
  have I4 := I3.set i r3
  have s4 : Step p ρ3 σ H2 (ρ3.set i (.val x')) (σ.set i (some u)) H2 := Step.set I3.len i
  obtain ⟨I5, ow⟩ := I4.setOwn j (fun z => (I.ot c z).1 nH) I.po e1 (I.fresh nH) (fun _ _ _ z => by cases z) (.l (RepL.step I3 s4 (RepL.step I2 s3 r1)))
  have s14 := (s1.trans s2 I1.pn).trans (s3.trans s4 I3.pn) I2.pn
  exact e.nx _ k2 _ H2 I5 ⟨s14.kp, fun b z => (ow b z).elim (fun z => s14.nw b z) fun z => by rw [z]; exact .inr nH, s14.tr⟩ h2
@[simp] theorem s_ParG {ρ : En} {k : Kt} {E : DEnds} {i j : Nat} {a : WE} {b : WL} : wParG i j a b E ρ k = a ρ k fun r ρ1 k1 => b ρ1 k1 fun zs ρ2 k2 => ∃ x ρ3, frz ρ2 r = some (x, ρ3) ∧ E.nx ((ρ3.set i (.val x)).set j (.own (.l zs))) k2 := rfl
@[simp] theorem s_ParH {ρ : En} {k : Kt} {E : DEnds} {i j : Nat} {a b : WL} : wParH i j a b E ρ k = a ρ k fun zs ρ1 k1 => b ρ1 k1 fun ys ρ2 k2 => E.nx ((ρ2.set i (.own (.l zs))).set j (.own (.l ys))) k2 := rfl
end
end DL

set_option Elab.async false
set_option linter.all false
set_option maxRecDepth 100000
set_option maxHeartbeats 1000000
/-! ELva: x[i] = e of an owned list; abs -/
namespace DL
open PySem PySem.Spec PyProof.Rows L2
section
variable {X : Cx} {pos : Pos}
end
def fAbs : FN := fun ds P => match ds with
  | [.int i] => P (.int (if i < 0 then -i else i))
  | _ => False
@[simp] theorem s_abs {i : Int} {P : D → Prop} : fAbs [.int i] P = P (.int (if i < 0 then -i else i)) := rfl
@[simp] theorem s_SetIt {i : Nat} {b a : WE} {E : DEnds} {ρ : En} {k : Kt} : wSetIt i b a E ρ k = a ρ k fun r ρ1 k1 => ∃ y ρ2, frz ρ1 r = some (y, ρ2) ∧ (∃ ds, ρ2[i]? = some (.own (.l ds))) ∧ b ρ2 k1 fun r2 ρ3 k3 => ∃ (j : Int) (n : Nat) (ds : List D), deref ρ3 r2 = some (.int j) ∧ ρ3[i]? = some (.own (.l ds)) ∧ ixN ds.length j = some n ∧ E.nx (ρ3.set i (.own (.l (ds.set n y)))) k3 := rfl
end DL

set_option Elab.async false
set_option linter.all false
set_option maxRecDepth 100000
set_option maxHeartbeats 1000000
/-! ELpc: x, y = e, [..] where x is seen by an inner comprehension (the pair is made and taken apart) -/
namespace DL
open PySem PySem.Spec PyProof.Rows L2
section
variable {X : Cx} {pos : Pos}
end
end DL

set_option Elab.async false
set_option linter.all false
set_option maxRecDepth 100000
set_option maxHeartbeats 1000000
/-! ELzn: zip of two tuples, the pair kept whole (for pair in zip(a, b)) -/
namespace DL
open PySem PySem.Spec PyProof.Rows L2 PySem.W
section
variable {prog : Program} {w : World} {A : Around} {E : Value → Shared → Prop} {s : Shared}
/-- a zip, whatever it holds out -/
abbrev IsZg (h : Heap) (z TI TO : Addr) (v : Value) (f : Bool) : Prop :=
  h.get? z = some { cls := .type "zip", dict := none, data := .fields #[v, .bool f, .bool false, .ref TI, .ref TO], slots := #[] }
/-- its tuple is free, or is out -/
theorem zg_free {z TI TO : Addr} {v : Value} {f : Bool} {Q : Bool → Shared → Prop} (hz : IsZg s.heap z TI TO v f) (hv : v = .none ∨ ∃ T : Addr, v = rawInt T)
    (h1 : Q true s) (h2 : ∀ (T : Addr) (h' : Heap), v = rawInt T → IsZg h' z TI TO v true → Heap.SameBut z s.heap h' → Q false { s with heap := h' }) : wpAny (model prog w) A (Builtin.SmallTypes.ownedTupleIsFree (.ref z)) Q E s := by
  rcases hv with rfl | ⟨T, rfl⟩
  · unfold Builtin.SmallTypes.ownedTupleIsFree
    exact wpAny_bind (wpAny_field hz rfl (x := Value.none) rfl (wpAny_pure h1))
  · cases q : s.heap.get? T with
    | some o => exact wpAny_tupleHeld_zip hz q fun h' a b => h2 T h' rfl a b
    | none =>
      unfold Builtin.SmallTypes.ownedTupleIsFree
      refine wpAny_bind (wpAny_field hz rfl (x := rawInt (T : Int)) rfl ?_)
      show wpAny _ _ (loadIfAlive (Int.toNat (T : Int)) >>= _) _ _ _
      rw [Int.toNat_natCast]
      have ld : ∀ {R : Option Obj → Shared → Prop}, R none s → wpAny (model prog w) A (loadIfAlive T) R E s := fun {R} hr => by
        have h' : R (s.heap.get? T) s := by rw [q]; exact hr
        exact fun _ _ _ => h'
      refine wpAny_bind (ld ?_)
      simp only [Option.isNone_none, if_true]
      exact wpAny_pure h1
end
def iZipN (K : PySem.W.Frag) (ta : TA) : TI := fun σ H R => ta σ H fun vs H1 => ∃ a b xs ys, vs = [.ref a, .ref b] ∧ SqT K H1 a xs ∧ SqT K H1 b ys ∧ R (RZ.ItzT K a b) H1
section
variable {X : Cx} {pos ps' : Pos}
/-- for p in zip(a, b), tuples -/
def wZipT (a : WA) : WL := fun ρ k Q => a ρ k fun rs ρ1 k1 => ∃ ds ρ2 xs ys, frzL ρ1 rs = some (ds, ρ2) ∧ ds = [.tup xs, .tup ys] ∧ Q (zipD xs ys) ρ2 k1
@[simp] theorem s_ZipT {a : WA} {ρ : En} {k : Kt} {Q : List D → En → Kt → Prop} : wZipT a ρ k Q = a ρ k fun rs ρ1 k1 => ∃ ds ρ2 xs ys, frzL ρ1 rs = some (ds, ρ2) ∧ ds = [.tup xs, .tup ys] ∧ Q (zipD xs ys) ρ2 k1 := rfl
end
end DL

set_option Elab.async false
set_option linter.all false
set_option maxRecDepth 100000
set_option maxHeartbeats 1000000
/-! ELeq: == and != by an own __eq__; isinstance among own classes; fields that several classes have; calls whose answers hold no lists -/
namespace DL
open PySem PySem.Spec PyProof.Rows L2
/-! ### != of an instance whose class has an own __eq__ and the common __ne__ -/
section
variable {prog : Program} {w : World} {A : Around} {E : Value → Shared → Prop} {s : Shared} {K : PySem.W.Frag} {x C f : Addr} {ox : Obj} {od : Option Obj} {b tb : Value}
theorem ne_body {Q : Fin → Shared → Prop} (hu : A.units < cLine) (X : K.In s.heap) (I : PySem.W.InstAt s.heap x ox C od) (he : PySem.W.findIn K (.ref C) "__eq__" = some (some (.ref f))) (hf : PySem.W.isFn K (.ref f) = true)
    (hc : wpAny (model prog w) A (call (.ref f) [.ref x, b]) (fun v s' => ∃ r, v = .bool r ∧ Q (.done (.ret (.bool (!r)))) s') E s) : wpAny (model prog w) A (Builtin.«object.__ne__» ⟨[.ref x, b], []⟩) Q E s := by
  unfold Builtin.«object.__ne__»
  repeat (first
    | with_reducible refine wpAny_cRoomFor hu ?_
    | (refine wpAny_bind (m := callSpecialIfBound? (.ref x) (Str.ofString "__eq__") [b]) (PySem.W.ifBound_K X I he hf (wpAny_mono hc (fun v s' hr => by
          obtain ⟨r, rfl, hq⟩ := hr
          repeat (first | exact hq | exact wpAny_pure hq | exact wpAny_truthy_bool hq | (refine wpAny_bind (m := truthy (.bool _)) (wpAny_truthy_bool ?_)) | wp_step)) fun _ _ e => e)))
    | wp_step)
theorem bound_ne {M : Model} {args : List Value} {Q : Option Value → Shared → Prop} (X : K.In s.heap) (I : PySem.W.InstAt s.heap x ox C od) (hs : PySem.W.findIn K (.ref C) "__ne__" = some (some (.builtin "object.__ne__")))
    (h : wpAny M A (call (.builtin "object.__ne__") (.ref x :: args)) (fun v => Q (some v)) E s) : wpAny M A (callSpecialIfBound? (.ref x) "__ne__" args) Q E s := by
  simp only [callSpecialIfBound?, bindSpecialIfBound?]
  refine wpAny_holding (wpAny_bind (wpAny_bind (wpAny_bind (I.type.here ((PySem.W.looks_findIn X hs).here (wpAny_bind (wpAny_askSetting (wpAny_ite ?_))))))))
  have fin : wpAny M A (call (.builtin "object.__ne__") ([.ref x] ++ args) >>= fun v => pure (some v)) Q E s := wpAny_bind (wpAny_mono h (fun _ _ h' => wpAny_pure h') fun _ _ h' => h')
  split
  · exact wpAny_bind (wpAny_of_eq (F.cmp_object.ne.bind _) (wpAny_pure (by exact fin)))
  · exact wpAny_tryCatch (wpAny_bind (wpAny_of_eq (F.cmp_object.ne.bind _) (wpAny_pure (by exact fin))))
theorem ne_K {Q : Value → Shared → Prop} (hu : A.units + 1 < cLine) (X : K.In s.heap) (I : PySem.W.InstAt s.heap x ox C od) (hb : PySem.W.Looks (model prog w) s.heap (typeOf b) tb) (hn : PySem.W.notFirst K C tb = true)
    (hs : PySem.W.findIn K (.ref C) "__ne__" = some (some (.builtin "object.__ne__"))) (he : PySem.W.findIn K (.ref C) "__eq__" = some (some (.ref f))) (hf : PySem.W.isFn K (.ref f) = true) (hm : PySem.W.mroIn K C (.type "object") = some true)
    (h : wpAny (model prog w) A.in1 (call (.ref f) [.ref x, b]) (fun v s' => ∃ r, v = .bool r ∧ Q (.bool (!r)) s') E s) : wpAny (model prog w) A (richCompare .NotEq (.ref x) b) Q E s := by
  have inner : wpAny (model prog w) A (call (.builtin "object.__ne__") [.ref x, b]) (fun v s' => ∃ r, v = .bool r ∧ Q (.bool r) s') E s := by
    refine wpAny_call (codeAny_call_builtin F.cmp_object.ne.plain F.cmpEntry_ne (PySem.W.check_slot F.cmpKind_ne F.cmpSplit_ne (I.type.andThen (PySem.W.looks_mroIn X hm)) (F.cmpArgs_ne _ _) (ne_body (A := A.in1) hu X I he hf (wpAny_mono h (fun v s' z => ?_) fun _ _ e => e))))
    obtain ⟨r, rfl, hq⟩ := z
    first | exact ⟨r, rfl, _, rfl, hq⟩ | exact ⟨r, rfl, ⟨_, rfl, hq⟩⟩
  have one : wpAny (model prog w) A (tryCompare (.ref x) "__ne__" b) (fun r s' => ∃ v, r = some v ∧ Q v s') E s := by
    unfold tryCompare
    refine wpAny_bind (bound_ne X I hs (wpAny_mono inner (fun v s' z => ?_) fun _ _ e => e))
    obtain ⟨r, rfl, hq⟩ := z
    exact wpAny_pure ⟨_, rfl, hq⟩
  unfold richCompare
  simp only [oneThing_ref]
  refine wpAny_holding (wpAny_bind (wpAny_cRoomFor (by omega) (wpAny_bind (I.type.here (wpAny_bind (hb.here ?_))))))
  split
  · rename_i q
    have e : PySem.W.subIn K tb (.ref C) = some false := by
      rcases Bool.or_eq_true_iff.mp hn with e | e
      · rw [beq_iff_eq.mp e] at q; simp at q
      · exact beq_iff_eq.mp e
    refine wpAny_bind ((PySem.W.looks_subIn X e).here ?_)
    simp only [Bool.false_eq_true, if_false]
    refine wpAny_bind (wpAny_mono one (fun r s' z => ?_) fun _ _ e => e)
    obtain ⟨v, rfl, hq⟩ := z
    exact wpAny_pure hq
  · refine wpAny_bind (wpAny_pure ?_)
    simp only [Bool.false_eq_true, if_false]
    refine wpAny_bind (wpAny_mono one (fun r s' z => ?_) fun _ _ e => e)
    obtain ⟨v, rfl, hq⟩ := z
    exact wpAny_pure hq
end
/-! ### == and != in the layer -/
section
variable {X : Cx} {pos : Pos}
structure OwnEq (P : Program) (w : World) (K : PySem.W.Frag) (mg : Str → Option Value) (base : Heap) (n : Nat) (C : Addr) (wf : WF) : Prop where
  it : ∃ g, PySem.W.findIn K (.ref C) "__eq__" = some (some (.ref g)) ∧ PySem.W.isFn K (.ref g) = true ∧ FnR P w K mg base (L2.CX P w) n g (spD 2 wf)
  ne : PySem.W.findIn K (.ref C) "__ne__" = some (some (.builtin "object.__ne__"))
  ob : PySem.W.mroIn K C (.type "object") = some true
structure OwnTb (P : Program) (w : World) (K : PySem.W.Frag) (mg : Str → Option Value) (base : Heap) (n : Nat) (tbl : List (Addr × WF)) : Prop where
  ok : ∀ p ∈ tbl, OwnEq P w K mg base n p.1 p.2
  nf : ∀ p ∈ tbl, ∀ q ∈ tbl, PySem.W.notFirst K p.1 (.ref q.1) = true
theorem nf_same {K : PySem.W.Frag} {C : Addr} : PySem.W.notFirst K C (.ref C) = true := by
  unfold PySem.W.notFirst
  rw [beq_self_eq_true, Bool.true_or]
theorem kit_own2 {K : PySem.W.Frag} {C C' : Addr} {b : Bool} (hne : C' ≠ C) (h2 : PySem.W.isClsIn K C = true) (h3 : PySem.W.typeIn K (.ref C) = some (.type "type")) (h4 : PySem.W.subIn K (.ref C') (.ref C) = some b) : PySem.W.kitOne K (.ref C') (.ref C) = some b := by
  unfold PySem.W.kitOne PySem.W.kitCls
  dsimp only
  rw [if_neg (show ¬ ((Value.ref C' == Value.ref C) = true) by simp [hne]), if_pos (by rw [h3, show (PySem.W.clsIn K C).isSome = true from h2]; rfl)]
  exact h4
theorem kit_sub {K : PySem.W.Frag} {C C' : Addr} (h2 : PySem.W.isClsIn K C = true) (h3 : PySem.W.typeIn K (.ref C) = some (.type "type")) (h4 : PySem.W.subIn K (.ref C') (.ref C) = some false) (h5 : PySem.W.subIn K (.ref C) (.ref C) = some true) : PySem.W.kitOne K (.ref C') (.ref C) = some false := kit_own2 (fun z => by rw [z, h5] at h4; cases h4) h2 h3 h4
theorem _root_.L2.FnR.app0 {P : Program} {w : World} {K : PySem.W.Frag} {mg : Str → Option Value} {base : Heap} {CX : CXT} {k : Nat} {f : Addr} {sp : Sp} (F : FnR P w K mg base CX k f (fun vs H Q E => sp (vs ++ []) H Q E)) : FnR P w K mg base CX k f sp :=
  F.imp fun vs H Q E h => by rw [List.append_nil]; exact h
def rOwnD (X : Cx) (tbl : List (Addr × WF)) (neg : Bool) : R2 := fun x y H Q => ∃ C wf C' wf' a dx fs b dy gs, (C, wf) ∈ tbl ∧ (C', wf') ∈ tbl ∧ x = .ref a ∧ y = .ref b ∧ H a = some (.ins C dx fs) ∧ H b = some (.ins C' dy gs) ∧
  spD 2 wf [.ref a, .ref b] H (fun v H' => ∃ t, v = .bl t ∧ Q (.bl (if neg then !t else t)) H') (EX X)
theorem op_neOwn {n : Nat} {tbl : List (Addr × WF)} (T : OwnTb X.prog X.w X.K X.mg X.base n tbl) (hr : Room (n + 1) X.A) (hu : X.A.units + 1 < cLine) : OpR X (compareOp .NotEq) (rOwnD X tbl true) := by
  intro pins s σ H x y v u Q I rx ry h
  obtain ⟨C, wf, C', wf', a, dx, fs, b, dy, gs, h1, h2, rfl, rfl, ha, hb, q⟩ := h
  cases (show v = Value.ref a from rx)
  cases (show u = Value.ref b from ry)
  obtain ⟨mA, J, _⟩ := ins_get I.hok ha
  obtain ⟨mB, J', _⟩ := ins_get I.hok hb
  obtain ⟨od, J, _⟩ := J.look
  obtain ⟨od', J', _⟩ := J'.look
  obtain ⟨g, e1, e2, F⟩ := (T.ok _ h1).it
  show wpAny (model X.prog X.w) X.A (richCompare .NotEq (.ref a) (.ref b)) (EP X pins σ Q) X.xe s
  refine ne_K (tb := .ref C') hu I.kIn J J'.type (T.nf _ h1 _ h2) (T.ok _ h1).ne e1 e2 (T.ok _ h1).ob ?_
  refine wpAny_mono (wpAny_call (SlX.run_at (us := [.ref a, .ref b]) (ws := [.ref a, .ref b]) F hr.in1 I.env0.in1 passX I (.cons rfl (.cons rfl .nil)) q)) (fun w s' z => ?_) fun _ _ x => x
  obtain ⟨z', H', I', rz, t, rfl, qz⟩ := z
  cases (show w = Value.bool t from rz)
  exact ⟨t, rfl, .bl (!t), H', I', rfl, by simpa using qz⟩
/-- a == b, a != b of instances -/
def wOwn (neg : Bool) (tbl : List (Addr × WF)) (a b : WE) : WE := fun ρ k Q => a ρ k fun x ρ1 k1 => b ρ1 k1 fun y ρ2 k2 => ∃ ds ρ3, frzL ρ2 [x, y] = some (ds, ρ3) ∧ ∃ C ns es wf C' ns' es' wf', ds = [.ins C ns es, .ins C' ns' es'] ∧ (C, wf) ∈ tbl ∧ (C', wf') ∈ tbl ∧
  wf ds k2 fun r k3 => ∃ t, r = .bl t ∧ Q (.val (.bl (if neg then !t else t))) ρ3 k3
theorem ownCore0 {a b : Expr} {op : CmpOp} {neg : Bool} {tbl : List (Addr × WF)} {wa wb : WE} (ha : DE X a wa) (hb : DE X b wb) :
    ∃ ta tb, PE X a ta ∧ PE X b tb ∧ ∀ (O : Addr → Prop) (p : Pn) [XL X p] (ρ : En) (k : Kt) (σ : L2.St) (H : Hp) (Q : R → En → Kt → Prop) (J : VK), Rel O p ρ k σ H → wOwn neg tbl wa wb ρ k Q →
      (∀ v H' r ρ' k', Rel O p ρ' k' σ H' → Step p ρ σ H ρ' σ H' → RRep O ρ' σ H' v r → Q r ρ' k' → J v H') → tOp (rOwnD X tbl neg) ta tb σ H J := by
  obtain ⟨ta, pa, ra⟩ := ha
  obtain ⟨tb, pb, rb⟩ := hb
  refine ⟨ta, tb, pa, pb, fun O p _ ρ k σ H Q J I h g => ?_⟩
  refine ra O p ρ k σ H _ _ I h fun v H1 x ρ1 k1 I1 s1 q1 h1 => ?_
  refine rb O p ρ1 k1 σ H1 _ _ I1 h1 fun u H2 y ρ2 k2 I2 s2 q2 h2 => ?_
  obtain ⟨ds, ρ3, e3, C, ns, es, wf, C', ns', es', wf', rfl, m1, m2, h3⟩ := h2
  obtain ⟨I3, s3, r3⟩ := frzL_ok (rs := [x, y]) I2 (.cons (RRep.step I1 s2 q1) (.cons q2 .nil)) e3
  have xl : XL X p := inferInstance
  match r3 with
  | .cons (.ins (a := a') (dx := dx) nb1 e1 e2 e2l l1) (.cons (.ins (a := b') (dx := dy) nb2 e4 e5 e5l l2) .nil) =>
    refine ⟨C, wf, C', wf', a', dx, _, b', dy, _, m1, m2, rfl, rfl, e1, e4, rfl, Bn O ρ3 σ, p, k2, _, _, .cons (.ins nb1 e1 e2 e2l l1) (.cons (.ins nb2 e4 e5 e5l l2) .nil), I3.btn, I3.pn, fun a z => .inl (I3.po a z), I3.kx, h3, fun v H' d k' kp pn kx r q => ?_, fun x cls d k' H' kp pn rx hx σ' => xl.go x k' cls d σ' H' pn (fun a o h n => kp a o (I3.bs a o h n) n) rx hx⟩
    obtain ⟨t, rfl, q⟩ := q
    cases r
    have s4 : Step p ρ3 σ H2 ρ3 σ H' := ⟨fun a o h n1 n2 => kp a o h n1, fun _ z => .inl z, fun a h => by
      by_cases hp : penA p a
      · exact pn.there (penB.of hp)
      · cases q : H2 a with
        | none => exact absurd q h
        | some o => rw [kp a o q hp]; simp⟩
    have keep : ∀ a o, H2 a = some o → ¬ penB p a → H' a = some o := fun a o h n => kp a o h fun z => n (penB.of z)
    have I4 : Rel O p ρ3 k' σ H' := ⟨I3.len, fun i d h => let ⟨v, e, q⟩ := I3.val i d h; ⟨v, e, Rep.step I3 s4 q⟩,
      fun i ds h => let ⟨a, o, e1, e2, e3, q⟩ := I3.own i ds h; ⟨a, o, e1, keep a _ e2 (fun z => e3 (I3.po a (.inl z))), e3, RepO.step I3 s4 q⟩, I3.inj, fun a z => by
        by_cases hp : penB p a
        · exact pn.nt hp
        · cases q : H2 a with
          | none => exact absurd q (I3.ot a z).1
          | some o => rw [keep a o q hp]; exact nt_kept (I3.ot a z) q, pn, I3.po, kx, fun a o h n => kp a o (I3.bs a o h n) n, I3.bo, I3.sf⟩
    exact ⟨t, rfl, g _ H' (.val (.bl _)) ρ3 k' I4 (((s1.trans s2 I1.pn).trans s3 I2.pn).trans s4 I3.pn) (.bl _) q⟩
theorem ownCoreT {a b : Expr} {op : CmpOp} {neg : Bool} {tbl : List (Addr × WF)} {wa wb : WE} (ho : OpR X (compareOp op) (rOwnD X tbl neg)) (ha : DE X a wa) (hb : DE X b wb) (hm : behindInMarks op b = false) : DT X (.Compare a [op] [b] pos) (wTest (wOwn neg tbl wa wb)) := by
  obtain ⟨ta, tb, pa, pb, rr⟩ := ownCore0 (op := op) (neg := neg) (tbl := tbl) ha hb
  refine ⟨_, pt_cmpR ho pa pb hm, fun O p _ ρ k σ H Q J I h g => ?_⟩
  refine rr O p ρ k σ H (fun r ρ' k' => ∃ b, deref ρ' r = some (.bl b) ∧ Q b ρ' k') _ I h fun v H' r ρ' k' I' s' q' h' => ?_
  obtain ⟨b, e, hq⟩ := h'
  have := deref_ok I' q' e
  cases this with
  | own _ ro _ => cases ro <;> rename_i z <;> cases z
  | any r =>
    cases r
    exact ⟨b, rfl, g b H' ρ' k' I' s' hq⟩
end
/-! ### isinstance among the program's own classes -/
structure OwnCs (K : PySem.W.Frag) (Cs : List Addr) : Prop where
  f : ∀ C ∈ Cs, ClsF K C
  ne : ∀ C ∈ Cs, ∀ C' ∈ Cs, C' ≠ C → PySem.W.kitOne K (.ref C') (.ref C) = some false
def isM (Cs : List Addr) (C : Addr) : D → Option Bool
  | .ins C' _ _ => if C' ∈ Cs then some (decide (C' = C)) else none
  | .non => some false
  | .bl _ => some false
  | .int _ => some false
  | .str _ => some false
  | .lst _ => some false
  | .tup _ => some false
  | _ => none
def fIsM (Cs : List Addr) (C : Addr) : FN := fun ds P => match ds with
  | [d, .obj c] => ∃ b, c = C ∧ isM Cs C d = some b ∧ P (.bl b)
  | _ => False
def anyM (Cs : List Addr) (d : D) : List Addr → Option Bool
  | [] => some false
  | C :: r => match isM Cs C d with
    | some true => some true
    | some false => anyM Cs d r
    | none => none
def fIsMT (Cs : List Addr) : FN := fun ds P => match ds with
  | [d, .tup ts] => ∃ cs b, ts = cs.map D.obj ∧ cs ≠ [] ∧ (∀ C ∈ cs, C ∈ Cs) ∧ anyM Cs d cs = some b ∧ P (.bl b)
  | _ => False
section
variable {X : Cx} {pos : Pos}
/-- e.f where more classes than one have the field f -/
def wFldM (Cs : List Addr) (f : Str) (a : WE) : WE := fun ρ k Q => a ρ k fun r ρ1 k1 => ∃ C ns ds d, C ∈ Cs ∧ deref ρ1 r = some (.ins C ns ds) ∧ (ns.zip ds).lookup f = some d ∧ Q (.val d) ρ1 k1
/-- an expression that only reads what this body owns, and whose answer holds no list: what was owned stays owned -/
def wLean (w : WE) : WE := fun ρ k Q => noI ρ = true ∧ w (fzn ρ) k fun r ρ1 k1 => ∃ d ρ2, frz ρ1 r = some (d, ρ2) ∧ leanD d = true ∧ Q (.val d) ρ (k1.1, k.2)
end
section
variable {X : Cx} {pos : Pos}
/-- a, b, c = a new list, e2, e3 -/
def wPar3F (i j l : Nat) (a : WL) (b c : WE) : WS := fun E ρ k => a ρ k fun zs ρ1 k1 => b ρ1 k1 fun r2 ρ2 k2 => c ρ2 k2 fun r3 ρ3 k3 => ∃ ds ρ4, frzL ρ3 [r2, r3] = some (ds, ρ4) ∧ ∃ y z, ds = [y, z] ∧ E.nx (((ρ4.set i (.own (.l zs))).set j (.val y)).set l (.val z)) k3
end
section
variable {ρ : En} {k : Kt} {Q : R → En → Kt → Prop} {a b : WE} {P : D → Prop}
@[simp] theorem s_Par3F {E : DEnds} {i j l : Nat} {a : WL} {b c : WE} : wPar3F i j l a b c E ρ k = a ρ k fun zs ρ1 k1 => b ρ1 k1 fun r2 ρ2 k2 => c ρ2 k2 fun r3 ρ3 k3 => ∃ ds ρ4, frzL ρ3 [r2, r3] = some (ds, ρ4) ∧ ∃ y z, ds = [y, z] ∧ E.nx (((ρ4.set i (.own (.l zs))).set j (.val y)).set l (.val z)) k3 := rfl
@[simp] theorem s_isMT {Cs : List Addr} {ds : List D} : fIsMT Cs ds P = match ds with
  | [d, .tup ts] => ∃ cs b, ts = cs.map D.obj ∧ cs ≠ [] ∧ (∀ C ∈ cs, C ∈ Cs) ∧ anyM Cs d cs = some b ∧ P (.bl b)
  | _ => False := rfl
@[simp] theorem s_Own {neg : Bool} {tbl : List (Addr × WF)} : wOwn neg tbl a b ρ k Q = a ρ k fun x ρ1 k1 => b ρ1 k1 fun y ρ2 k2 => ∃ ds ρ3, frzL ρ2 [x, y] = some (ds, ρ3) ∧ ∃ C ns es wf C' ns' es' wf', ds = [.ins C ns es, .ins C' ns' es'] ∧ (C, wf) ∈ tbl ∧ (C', wf') ∈ tbl ∧
  wf ds k2 fun r k3 => ∃ t, r = .bl t ∧ Q (.val (.bl (if neg then !t else t))) ρ3 k3 := rfl
@[simp] theorem s_FldM {Cs : List Addr} {f : Str} : wFldM Cs f a ρ k Q = a ρ k fun r ρ1 k1 => ∃ C ns ds d, C ∈ Cs ∧ deref ρ1 r = some (.ins C ns ds) ∧ (ns.zip ds).lookup f = some d ∧ Q (.val d) ρ1 k1 := rfl
@[simp] theorem s_Lean : wLean a ρ k Q = (noI ρ = true ∧ a (fzn ρ) k fun r ρ1 k1 => ∃ d ρ2, frz ρ1 r = some (d, ρ2) ∧ leanD d = true ∧ Q (.val d) ρ (k1.1, k.2)) := rfl
@[simp] theorem s_isM {Cs : List Addr} {C : Addr} {d : D} : fIsM Cs C [d, .obj C] P = ∃ b, isM Cs C d = some b ∧ P (.bl b) := by
  refine propext ⟨fun ⟨b, _, h⟩ => ⟨b, h⟩, fun ⟨b, h⟩ => ⟨b, rfl, h⟩⟩
end
end DL

set_option Elab.async false
set_option linter.all false
set_option maxRecDepth 100000
set_option maxHeartbeats 4000000
/-! ELtn: != of two tuples that hold own instances, all of them equal -/
namespace DL
open PySem PySem.Spec PyProof.Rows L2
section
open PySem.SeqAt AutoSeq1 MeetsSeq MeetsSeq2 MeetsSeq3 SeqRoads2
variable {prog : Program} {w : World} {A : Around} {R : Result → Shared → Prop}
end
section
variable {X : Cx} {n : Nat} {D : Eqv}
def kt0 : Kt := (0, ⟨none, fun _ _ => False, []⟩)
def pn0 : Pn := { pen := none, base := fun _ => none, xc := fun _ _ => False }
/-- own instances that an own == tells equal -/
def DOwn (tbl : List (Addr × WF)) : Eqv := fun x y H => ∃ C wf C' wf' a dx fs b dy gs d e, (C, wf) ∈ tbl ∧ (C', wf') ∈ tbl ∧ x = .ref a ∧ y = .ref b ∧ H a = some (.ins C dx fs) ∧ H b = some (.ins C' dy gs) ∧
  Rep (fun _ => False) H (.ref a) d ∧ Rep (fun _ => False) H (.ref b) e ∧ wf [d, e] kt0 fun r _ => r = .bl true
def DStr : Eqv := fun x y _ => (∃ s, x = .str s ∧ y = .str s) ∨ ∃ i : Int, x = .int i ∧ y = .int i
def rTN (K : PySem.W.Frag) (D : Eqv) : R2 := fun x y H Q => DTup K D x y H ∧ ∀ H', Ext H H' → Q (.bl false) H'
end
/-- pairs that == tells equal -/
inductive PairE (tbl : List (Addr × WF)) : List D → List D → Prop
  | nil : PairE tbl [] []
  | str {s : Str} {us vs : List D} : PairE tbl us vs → PairE tbl (.str s :: us) (.str s :: vs)
  | int {i : Int} {us vs : List D} : PairE tbl us vs → PairE tbl (.int i :: us) (.int i :: vs)
  | own {C C' : Addr} {ns ns' : List Str} {es es' us vs : List D} {wf wf' : WF} : (C, wf) ∈ tbl → (C', wf') ∈ tbl → (wf [.ins C ns es, .ins C' ns' es'] kt0 fun r _ => r = .bl true) → PairE tbl us vs → PairE tbl (.ins C ns es :: us) (.ins C' ns' es' :: vs)
/-- a != b of tuples, all pairs equal -/
def wTupNe (tbl : List (Addr × WF)) (a b : WE) : WE := fun ρ k Q => a ρ k fun x ρ1 k1 => b ρ1 k1 fun y ρ2 k2 => ∃ ds ρ3, frzL ρ2 [x, y] = some (ds, ρ3) ∧ ∃ us vs, ds = [.tup us, .tup vs] ∧ PairE tbl us vs ∧ Q (.val (.bl false)) ρ3 k2
@[simp] theorem s_TupNe {tbl : List (Addr × WF)} {a b : WE} {ρ : En} {k : Kt} {Q : R → En → Kt → Prop} : wTupNe tbl a b ρ k Q = a ρ k fun x ρ1 k1 => b ρ1 k1 fun y ρ2 k2 => ∃ ds ρ3, frzL ρ2 [x, y] = some (ds, ρ3) ∧ ∃ us vs, ds = [.tup us, .tup vs] ∧ PairE tbl us vs ∧ Q (.val (.bl false)) ρ3 k2 := rfl
section
variable {X : Cx} {pos : Pos} {n : Nat} {tbl : List (Addr × WF)} {a b : Expr} {wa wb : WE}
end
/-! ### an own instance == a tuple -/
section
variable {X : Cx} {pos : Pos} {n : Nat} {tbl : List (Addr × WF)} {a b : Expr} {wa wb : WE}
def rOwnT (X : Cx) (tbl : List (Addr × WF)) : R2 := fun x y H Q => ∃ C wf a dx fs b xs, (C, wf) ∈ tbl ∧ x = .ref a ∧ y = .ref b ∧ H a = some (.ins C dx fs) ∧ H b = some (.tup xs) ∧
  spD 2 wf [.ref a, .ref b] H (fun v H' => ∃ t, v = .bl t ∧ Q (.bl t) H') (EX X)
/-- a == b, an instance and a tuple -/
def wOwnT (tbl : List (Addr × WF)) (a b : WE) : WE := fun ρ k Q => a ρ k fun x ρ1 k1 => b ρ1 k1 fun y ρ2 k2 => ∃ ds ρ3, frzL ρ2 [x, y] = some (ds, ρ3) ∧ ∃ C ns es wf us, ds = [.ins C ns es, .tup us] ∧ (C, wf) ∈ tbl ∧ wf ds k2 fun r k3 => ∃ t, r = .bl t ∧ Q (.val (.bl t)) ρ3 k3
@[simp] theorem s_OwnT {tbl : List (Addr × WF)} {a b : WE} {ρ : En} {k : Kt} {Q : R → En → Kt → Prop} : wOwnT tbl a b ρ k Q = a ρ k fun x ρ1 k1 => b ρ1 k1 fun y ρ2 k2 => ∃ ds ρ3, frzL ρ2 [x, y] = some (ds, ρ3) ∧ ∃ C ns es wf us, ds = [.ins C ns es, .tup us] ∧ (C, wf) ∈ tbl ∧ wf ds k2 fun r k3 => ∃ t, r = .bl t ∧ Q (.val (.bl t)) ρ3 k3 := rfl
end
end DL

set_option Elab.async false
set_option linter.all false
set_option maxRecDepth 100000
set_option maxHeartbeats 1000000
/-! ELw: plain facts: sorting, texts of data, equality of data -/
namespace DL
open PySem PySem.Spec PyProof.Rows L2
/-! sorting -/
abbrev pD (p : Int × Int) : D := .tup [.int p.1, .int p.2]
def leP (p q : Int × Int) : Bool := decide (p.1 < q.1 ∨ (p.1 = q.1 ∧ p.2 ≤ q.2))
def sortP (xs : List (Int × Int)) : List (Int × Int) := xs.mergeSort leP
theorem sortP_perm (xs : List (Int × Int)) : (sortP xs).Perm xs := List.mergeSort_perm _ _
theorem pyL_pairs (xs : List (Int × Int)) : pyL (xs.map pD) = xs.map fun p => PyData.tuple [.int p.1, .int p.2] := by
  induction xs with
  | nil => rfl
  | cons x r ih => rw [List.map_cons, pyL, ih]; rfl
theorem isPyL_pairs (xs : List (Int × Int)) : isPyL (xs.map pD) = true := by
  induction xs with
  | nil => rfl
  | cons x r ih => rw [List.map_cons, isPyL, ih]; rfl
theorem t_sortP {xs : List (Int × Int)} {P : List D → Prop} (h : P ((sortP xs).map pD)) : fSortD [.lst (xs.map pD)] P := by
  refine ⟨isPyL_pairs xs, ?_, ?_, fun x hx => ?_, ?_⟩
  · rw [pyL_pairs]
    exact PySem.W.AllAlike.of fun _ _ => by simp [PySem.W.alike, PySem.W.alikeAll]
  · rw [pyL_pairs]
    exact PySem.W.Sortable.tuples fun _ => ⟨_, _, rfl⟩
  · obtain ⟨i, _, rfl⟩ := List.mem_map.mp hx
    simp [py, pyL, PyData.depth, PyData.depthAll]
  · have e : (xs.map pD).mergeSort leD = (sortP xs).map pD := by
      rw [sortP, List.map_mergeSort (s := leD)]
      intro a _ b _
      exact congrFun (congrFun (PySem.W.dataLe_ii (fun i : Int × Int => i.1) (fun i => i.2)) a) b |>.symm
    rw [e]
    exact h
/-! code points -/
open PyData (strOk canLay0 canLayAll0)
theorem sOk_iff {x : Str} : strOk x = true ↔ ∀ c ∈ x.cps.toList, c < 0x110000 := by
  unfold strOk
  rw [Array.all_eq_true_iff_forall_mem]
  constructor
  · intro h c hc
    have := h c (Array.mem_toList_iff.mp hc)
    simpa using this
  · intro h c hc
    have := h c (Array.mem_toList_iff.mpr hc)
    simpa using this
theorem sOk_str (s : String) : strOk (Str.ofString s) = true := by
  rw [sOk_iff, Str.ofString_eq_toList]
  intro c hc
  rw [List.toList_toArray] at hc
  obtain ⟨x, _, rfl⟩ := List.mem_map.mp hc
  have := x.valid
  simp only [UInt32.isValidChar, Nat.isValidChar] at this
  show x.val.toNat < _
  omega
theorem sOk_app {x y : Str} (h : strOk x = true) (h' : strOk y = true) : strOk (x ++ y) = true := by
  rw [sOk_iff] at *
  intro c hc
  have e : (x ++ y).cps.toList = x.cps.toList ++ y.cps.toList := by show (x.cps ++ y.cps).toList = _; rw [Array.toList_append]
  rw [e] at hc
  rcases List.mem_append.mp hc with z | z
  · exact h c z
  · exact h' c z
theorem sOk_join {sep : Str} (hs : strOk sep = true) : ∀ {xs : List Str}, (∀ x ∈ xs, strOk x = true) → strOk (Str.join sep xs) = true
  | [], _ => by unfold Str.join Str.empty strOk; simp
  | [x], h => h x List.mem_cons_self
  | x :: y :: r, h => sOk_app (sOk_app (h x List.mem_cons_self) hs) (sOk_join hs fun z hz => h z (List.mem_cons_of_mem _ hz))
theorem sOk_char {q c : Nat} (hq : q < 0x110000) (hc : c < 0x110000) : ∀ x ∈ Builtin.Str.reprChar q c, x < 0x110000 := by
  intro x hx
  have hx' : ∀ w, x ∈ List.replicate (w - ((Nat.toDigits 16 c).map Char.toNat).length) 48 ++ (Nat.toDigits 16 c).map Char.toNat → x < 0x110000 := by
    intro w h
    rcases List.mem_append.mp h with z | z
    · rw [(List.mem_replicate.mp z).2]; decide
    · obtain ⟨y, _, rfl⟩ := List.mem_map.mp z
      have := y.valid
      simp only [UInt32.isValidChar, Nat.isValidChar] at this
      show y.val.toNat < _
      omega
  unfold Builtin.Str.reprChar at hx
  simp only at hx
  split at hx
  · simp at hx; omega
  · split at hx
    · simp at hx; omega
    · split at hx
      · simp at hx; omega
      · split at hx
        · simp at hx; omega
        · split at hx
          · simp at hx; omega
          · split at hx
            · rcases List.mem_append.mp hx with z | z
              · simp at z; omega
              · exact hx' 2 z
            · split at hx
              · rcases List.mem_append.mp hx with z | z
                · simp at z; omega
                · exact hx' 4 z
              · rcases List.mem_append.mp hx with z | z
                · simp at z; omega
                · exact hx' 8 z
theorem sOk_repr {x : Str} (h : strOk x = true) : strOk (reprText x) = true := by
  rw [sOk_iff] at h ⊢
  have hq : reprQuote x < 0x110000 := by unfold reprQuote; split <;> decide
  have key : ∀ (l : List Nat) (acc : Array Nat), (∀ c ∈ l, c < 0x110000) → (∀ c ∈ acc.toList, c < 0x110000) → ∀ c ∈ (l.foldl (fun out c => out ++ (Builtin.Str.reprChar (reprQuote x) c).toArray) acc).toList, c < 0x110000 := by
    intro l
    induction l with
    | nil => intro acc _ h; exact h
    | cons c r ih =>
      intro acc h1 h2
      rw [List.foldl_cons]
      refine ih _ (fun z hz => h1 z (List.mem_cons_of_mem _ hz)) fun z hz => ?_
      rw [Array.toList_append] at hz
      rcases List.mem_append.mp hz with z' | z'
      · exact h2 z z'
      · exact sOk_char hq (h1 c List.mem_cons_self) z (by simpa using z')
  intro c hc
  have e : (reprText x).cps.toList = (x.cps.foldl (fun out c => out ++ (Builtin.Str.reprChar (reprQuote x) c).toArray) #[reprQuote x]).toList ++ [reprQuote x] := by
    unfold reprText
    rw [Array.toList_push]
  rw [e, ← Array.foldl_toList] at hc
  rcases List.mem_append.mp hc with z | z
  · exact key _ _ h (by intro c hc; simp at hc; omega) c z
  · simp at z; omega
mutual
theorem sOk_shown : ∀ d : PyData, d.canLay0 = true → strOk d.shown = true
  | .none, _ => by simp only [PyData.shown]; exact sOk_str _
  | .bool b, _ => by simp only [PyData.shown]; cases b <;> exact sOk_str _
  | .int i, _ => by simp only [PyData.shown]; exact sOk_str _
  | .str x, h => by simp only [PyData.shown]; exact sOk_repr (by simpa only [canLay0] using h)
  | .list xs, h => by
    rw [PyData.shown_list]
    exact sOk_app (sOk_app (sOk_str _) (sOk_join (sOk_str _) (sOk_all xs (by simpa only [canLay0] using h)))) (sOk_str _)
  | .tuple xs, h => by
    rw [PyData.shown_tuple]
    exact sOk_app (sOk_app (sOk_str _) (sOk_join (sOk_str _) (sOk_all xs (by simpa only [canLay0] using h)))) (sOk_str _)
  | .dict _, h => by simp [canLay0] at h
theorem sOk_all : ∀ xs : List PyData, canLayAll0 xs = true → ∀ x ∈ PyData.shownAll xs, strOk x = true
  | [], _, x, hx => by simp [PyData.shownAll] at hx
  | d :: xs, h, x, hx => by
    rw [canLayAll0, Bool.and_eq_true] at h
    rw [PyData.shownAll_cons] at hx
    rcases List.mem_cons.mp hx with rfl | hx
    · exact sOk_shown d h.1
    · exact sOk_all xs h.2 x hx
end
/-! small data -/
mutual
def dW : D → Nat
  | .int _ => 41
  | .str x => x.cps.size + 1
  | .lst xs => dWL xs + 1
  | .tup xs => dWL xs + 1
  | _ => 1
def dWL : List D → Nat
  | [] => 0
  | x :: xs => dW x + dWL xs
end
mutual
def dOk : D → Bool
  | .non => true
  | .bl _ => true
  | .int i => decide (i.natAbs < 10 ^ 12)
  | .str x => strOk x
  | .lst xs => dOkL xs
  | .tup xs => dOkL xs
  | _ => false
def dOkL : List D → Bool
  | [] => true
  | x :: xs => dOk x && dOkL xs
end
structure SmD (d : D) : Prop where
  p : toPy d = some (py d)
  i : isPy d = true
  c : (py d).canLay0 = true
  s : (py d).intsShort 13 = true
  w : (py d).weight + 1 ≤ dW d
  o : (py d).showable = true
structure SmL (xs : List D) : Prop where
  p : toPyL xs = some (pyL xs)
  i : isPyL xs = true
  c : canLayAll0 (pyL xs) = true
  s : PyData.intsShortAll 13 (pyL xs) = true
  w : PyData.weightAll (pyL xs) ≤ dWL xs
  o : PyData.showableAll (pyL xs) = true
mutual
theorem smD : ∀ d : D, dOk d = true → SmD d
  | .non, _ => ⟨rfl, rfl, rfl, rfl, by decide, rfl⟩
  | .bl _, _ => ⟨rfl, rfl, rfl, rfl, by simp [dW, py, PyData.weight], rfl⟩
  | .int i, h => by
    rw [dOk, decide_eq_true_eq] at h
    have lg : i.natAbs.log2 < 40 ∨ i.natAbs = 0 := by
      by_cases z : i.natAbs = 0
      · exact .inr z
      · exact .inl ((Nat.log2_lt z).mpr (by omega))
    refine ⟨rfl, rfl, by simp [py, canLay0], by rw [py]; simp only [PyData.intsShort, decide_eq_true_eq]; exact PyData.shown_int_le h, ?_, ?_⟩
    · rw [py, PyData.weight, dW]
      split
      · omega
      · rename_i z
        simp only [beq_iff_eq] at z
        omega
    · rw [py, PyData.showable, decide_eq_true_eq]
      rcases lg with z | z
      · omega
      · rw [z]; decide
  | .str x, h => ⟨rfl, rfl, by simpa [py, canLay0, dOk] using h, rfl, by simp [py, PyData.weight, dW], rfl⟩
  | .lst xs, h => by
    have q := smL xs (by simpa [dOk] using h)
    exact ⟨by rw [toPy, q.p]; rfl, by rw [isPy]; exact q.i, by rw [py, canLay0]; exact q.c, by rw [py, PyData.intsShort]; exact q.s, by rw [py, PyData.weight, dW]; have := q.w; omega, by rw [py, PyData.showable]; exact q.o⟩
  | .tup xs, h => by
    have q := smL xs (by simpa [dOk] using h)
    exact ⟨by rw [toPy, q.p]; rfl, by rw [isPy]; exact q.i, by rw [py, canLay0]; exact q.c, by rw [py, PyData.intsShort]; exact q.s, by rw [py, PyData.weight, dW]; have := q.w; omega, by rw [py, PyData.showable]; exact q.o⟩
  | .ty _, h => by simp [dOk] at h
  | .obj _, h => by simp [dOk] at h
  | .dK _ _, h => by simp [dOk] at h
  | .dT _ _, h => by simp [dOk] at h
  | .ins _ _ _, h => by simp [dOk] at h
theorem smL : ∀ xs : List D, dOkL xs = true → SmL xs
  | [], _ => ⟨rfl, rfl, rfl, rfl, by simp [pyL, PyData.weightAll], rfl⟩
  | x :: xs, h => by
    rw [dOkL, Bool.and_eq_true] at h
    have a := smD x h.1
    have b := smL xs h.2
    exact ⟨by rw [toPyL, a.p, b.p]; rfl, by rw [isPyL, a.i, b.i]; rfl, by rw [pyL, canLayAll0, a.c, b.c]; rfl, by rw [pyL, PyData.intsShortAll, a.s, b.s]; rfl, by rw [pyL, PyData.weightAll, dWL]; have := a.w; have := b.w; omega, by rw [pyL, PyData.showableAll, a.o, b.o]; rfl⟩
end
/-- the value has a text -/
def Rp (d : D) : Prop := ∃ s, strOk s = true ∧ ∀ P : D → Prop, P (.str s) → rpK (toPy d) P
theorem rp_of {d : D} (h : dOk d = true) (hd : (py d).depth ≤ 50) (hw : dW d ≤ 2 ^ 20) : Rp d := by
  have q := smD d h
  have l0 : PyData.layable0 (py d) = true := by
    have := q.w
    simp only [PyData.layable0, q.c, Bool.true_and, Bool.and_eq_true, decide_eq_true_eq]
    omega
  exact ⟨(py d).shown, sOk_shown _ q.c, fun P h => ⟨py d, q.p, q.o, PyData.shown_fits_of_layable0 (B := 13) (by decide) (by decide) l0 q.s, hd, h⟩⟩
/-! equality -/
mutual
theorem eqv_refl : ∀ d : PyData, d.canLay0 = true → PyData.eqv d d = true
  | .none, _ => by simp only [PyData.eqv]
  | .bool _, _ => by simp [PyData.eqv]
  | .int _, _ => by simp [PyData.eqv]
  | .str _, _ => by simp [PyData.eqv]
  | .list xs, h => by simp only [PyData.eqv]; exact eqv_reflL xs (by simpa [canLay0] using h)
  | .tuple xs, h => by simp only [PyData.eqv]; exact eqv_reflL xs (by simpa [canLay0] using h)
  | .dict _, h => by simp [canLay0] at h
theorem eqv_reflL : ∀ xs : List PyData, canLayAll0 xs = true → PyData.eqvAll xs xs = true
  | [], _ => by simp only [PyData.eqvAll]
  | x :: xs, h => by
    rw [canLayAll0, Bool.and_eq_true] at h
    rw [PyData.eqvAll, eqv_refl x h.1, eqv_reflL xs h.2]; rfl
end
theorem eqD_refl {d : D} (h : okD d = true) : eqD d d = true := by
  unfold okD SeqAt.shaped at h
  simp only [Bool.and_eq_true] at h
  exact eqv_refl _ h.2.1
end DL

set_option Elab.async false
set_option linter.all false
set_option maxRecDepth 100000
set_option maxHeartbeats 1000000
/-! ELx: more rules: membership, pop, while, counting draws -/
namespace DL
open PySem PySem.Spec PyProof.Rows L2
def upto (n : Nat) : List Int := (List.range n).map fun i : Nat => (i : Int)
theorem upto_len (n : Nat) : (upto n).length = n := by rw [upto, List.length_map, List.length_range]
theorem upto_mem {n : Nat} {i : Int} : i ∈ upto n ↔ 0 ≤ i ∧ i < n := by
  unfold upto
  rw [List.mem_map]
  constructor
  · rintro ⟨x, hx, rfl⟩
    have := List.mem_range.mp hx
    omega
  · rintro ⟨h0, h1⟩
    exact ⟨i.toNat, List.mem_range.mpr (by omega), by omega⟩
theorem upto_nodup (n : Nat) : (upto n).Nodup := List.Pairwise.map _ (fun a b h => by omega) List.nodup_range
theorem upto_get {n i : Nat} (h : i < n) : (upto n)[i]? = some (i : Int) := by
  rw [upto, List.getElem?_map, List.getElem?_range h]; rfl
@[simp] theorem s_rg01 {n : Nat} : rngD 0 n 1 = (upto n).map .int := by
  unfold rngD upto
  rw [List.map_map]
  refine List.map_congr_left fun i _ => ?_
  show D.int ((0 : Int) + (i : Int) * 1) = D.int (i : Int)
  rw [Int.zero_add, Int.mul_one]
theorem all_flat_ints (xs : List Int) : (xs.map D.int).all flatD = true := by
  induction xs with
  | nil => rfl
  | cons x r ih => rw [List.map_cons, List.all_cons, ih]; rfl
@[simp] theorem s_inI {i : Int} {xs : List Int} : inOk (.int i) (.lst (xs.map .int)) = some (xs.map .int) := by
  rw [s_inl, all_flat_ints]; rfl
@[simp] theorem s_inT {i : Int} {xs : List Int} : inOk (.int i) (.tup (xs.map .int)) = some (xs.map .int) := by
  rw [s_int, all_flat_ints]; rfl
theorem s_memI' {i : Int} {xs : List Int} : ((xs.map D.int).any fun y => eqD y (.int i)) = decide (i ∈ xs) := by
  induction xs with
  | nil => rfl
  | cons x r ih =>
    rw [List.map_cons, List.any_cons, ih, eqD_int]
    by_cases h : x = i <;> by_cases h' : i ∈ r <;> simp [h, h', Ne.symm, eq_comm]
@[simp] theorem s_memI {i : Int} {xs : List Int} : memD (.int i) (xs.map .int) = decide (i ∈ xs) := s_memI'
@[simp] theorem s_PopAt {i : Nat} {a : WE} {ρ : En} {k : Kt} {Q : R → En → Kt → Prop} : wPopAt i a ρ k Q = ((∃ ds, ρ[i]? = some (.own (.l ds))) ∧ a ρ k fun r ρ1 k1 => ∃ (j : Int) (n : Nat) (y : D) (ds : List D), deref ρ1 r = some (.int j) ∧ ρ1[i]? = some (.own (.l ds)) ∧ -(2 ^ 63) ≤ j ∧ j < 2 ^ 63 ∧ seqIndex? j ds.length = some n ∧ ds[n]? = some y ∧ Q (.val y) (ρ1.set i (.own (.l (ds.eraseIdx n)))) k1) := rfl
@[simp] theorem s_LRng1 {a : WE} {ρ : En} {k : Kt} {Q : List D → En → Kt → Prop} : wLRng1 a ρ k Q = a ρ k fun r ρ1 k1 => ∃ n : Int, deref ρ1 r = some (.int n) ∧ RgOk 0 n ∧ Q (rngD 0 (n - 0).toNat 1) ρ1 k1 := rfl
@[simp] theorem s_at0 {α : Type} {x : α} {xs : List α} : atI (x :: xs) 0 = some x := atI_z (n := 0) rfl rfl
@[simp] theorem s_at1 {α : Type} {x y : α} {xs : List α} : atI (x :: y :: xs) 1 = some y := atI_z (n := 1) rfl rfl
@[simp] theorem s_lkM {a b : D} : List.lookup (Str.ofString "many") ([Str.ofString "many", Str.ofString "arrows"].zip [a, b]) = some a := rfl
@[simp] theorem s_lkA {a b : D} : List.lookup (Str.ofString "arrows") ([Str.ofString "many", Str.ofString "arrows"].zip [a, b]) = some b := rfl
@[simp] theorem s_lkV {a : D} : List.lookup (Str.ofString "value") ([Str.ofString "value"].zip [a]) = some a := rfl
@[simp] theorem s_eqbl {a b : Bool} : eqD (.bl a) (.bl b) = (a == b) := by simp [eqD, py, PyData.eqv]
@[simp] theorem s_mxz {i : Int} {n : Nat} {P : D → Prop} : fMulX (.tup [.int i]) (.int n) P = (1 ≤ n ∧ n ≤ 1000 ∧ P (.tup ((List.replicate n i).map .int))) := by
  rw [s_mxt]
  have e : (List.replicate n [D.int i]).flatten = (List.replicate n i).map .int := by
    induction n with
    | zero => rfl
    | succ n ih => rw [List.replicate_succ, List.flatten_cons, ih, List.replicate_succ, List.map_cons]; rfl
  refine propext ⟨fun h => ?_, fun h => ?_⟩
  · split at h
    · have : n = 1 := by omega
      subst this
      exact ⟨by omega, by omega, h⟩
    · rw [Int.toNat_natCast, e] at h
      exact ⟨by omega, by omega, h.2⟩
  · split
    · have : n = 1 := by omega
      subst this
      exact h.2.2
    · rw [Int.toNat_natCast, e]
      exact ⟨⟨by simp, by omega, by omega, by simp⟩, h.2.2⟩
@[simp] theorem s_lkW1 {a b : D} : List.lookup (Str.ofString "value") ([Str.ofString "value", Str.ofString "what"].zip [a, b]) = some a := rfl
@[simp] theorem s_lkW2 {a b : D} : List.lookup (Str.ofString "what") ([Str.ofString "value", Str.ofString "what"].zip [a, b]) = some b := rfl
/-- draws were made, nothing else -/
def Dr (m : Nat) (k k' : Kt) : Prop := k'.2 = k.2 ∧ k'.1 ≤ k.1 + m
theorem Dr.refl {m : Nat} {k : Kt} : Dr m k k := ⟨rfl, Nat.le_add_right _ _⟩
theorem Dr.trans {m n l : Nat} {k k1 k2 : Kt} (a : Dr m k k1) (b : Dr n k1 k2) (h : m + n ≤ l) : Dr l k k2 := ⟨b.1.trans a.1, by have := a.2; have := b.2; omega⟩
theorem Dr.le {m l : Nat} {k k1 : Kt} (a : Dr m k k1) (h : m ≤ l) : Dr l k k1 := ⟨a.1, by have := a.2; omega⟩
theorem Dr.pen {m : Nat} {k k1 : Kt} {a : Option Addr} (d : Dr m k k1) (h : k.2.pen = a) : k1.2.pen = a := by rw [d.1]; exact h
theorem Dr.rsk {m : Nat} {k k1 : Kt} (d : Dr m (nxk k) k1) : Dr m k (DL.rsk k k1) := ⟨by
  have := d.1
  show KP.mk _ _ _ = k.2
  rw [this]
  rfl, d.2⟩
theorem t_dr {a : Addr} {n : Int} {k : Kt} {P : D → Kt → Prop} (hk : k.2.pen = some a) (h0 : 0 < n) (h1 : n < 1073741824) (hc : k.1 < 1000000000000) (h : ∀ (x : Int) (k' : Kt), 0 ≤ x → x < n → Dr 1 k k' → P (.int x) k') : wfDraw [.obj a, .int n] k P :=
  t_draw hk h0 h1 hc fun x a b => h x _ a b ⟨rfl, Nat.le_refl _⟩
/-- a comprehension that draws -/
theorem lc_dr {α : Type} {vs : List Nat} {tg : WG} {ts : WT} {el : WE} {ρ : En} {Q : List D → En → Kt → Prop} (u : α → D) (xs : List α) (T : α → D → Prop) (m : Nat) (B : Nat) (hl : xs.length ≤ sizeLine) :
    ∀ (k : Kt), k.1 + m * xs.length ≤ B → (∀ x ∈ xs, ∀ (k1 : Kt) (R : Option D → En → Kt → Prop), k1.2 = k.2 → k1.1 + m ≤ B → (∀ y k', T x y → Dr m k1 k' → R (some y) ρ k') → lcStep vs tg ts el (u x) ρ k1 R) →
    (∀ ys k', ys.length = xs.length → (∀ (i : Nat) (x : α) (y : D), xs[i]? = some x → ys[i]? = some y → T x y) → Dr (m * xs.length) k k' → Q ys ρ k') → lcW vs tg ts el (xs.map u) [] ρ k Q := by
  have key : ∀ (xs : List α) (acc : List D) (k : Kt), acc.length + xs.length ≤ sizeLine → k.1 + m * xs.length ≤ B → (∀ x ∈ xs, ∀ (k1 : Kt) (R : Option D → En → Kt → Prop), k1.2 = k.2 → k1.1 + m ≤ B → (∀ y k', T x y → Dr m k1 k' → R (some y) ρ k') → lcStep vs tg ts el (u x) ρ k1 R) →
      (∀ ys k', ys.length = xs.length → (∀ (i : Nat) (x : α) (y : D), xs[i]? = some x → ys[i]? = some y → T x y) → Dr (m * xs.length) k k' → Q (acc ++ ys) ρ k') → lcW vs tg ts el (xs.map u) acc ρ k Q := by
    intro xs
    induction xs with
    | nil =>
      intro acc k _ _ _ q
      rw [List.map_nil, l_n]
      have := q [] k rfl (fun i x y h => by simp at h) .refl
      rwa [List.append_nil] at this
    | cons x r ih =>
      intro acc k hl hB h q
      rw [List.length_cons] at hl
      rw [List.length_cons, Nat.mul_succ] at hB
      have s := h x List.mem_cons_self k (fun o ρ' k' => match o with
        | some y => acc.length < sizeLine ∧ lcW vs tg ts el (r.map u) (acc ++ [y]) ρ' k' Q
        | none => lcW vs tg ts el (r.map u) acc ρ' k' Q) rfl (by omega) fun y k' hy d => ⟨by omega, ih (acc ++ [y]) k' (by rw [List.length_append]; simp; omega) (by have := d.2; omega)
          (fun z hz k1 R e => h z (List.mem_cons_of_mem _ hz) k1 R (e.trans d.1)) fun ys k'' e t d' => by
            have q' := q (y :: ys) k'' (by rw [List.length_cons, e, List.length_cons]) (fun i a b ha hb => by
              cases i with
              | zero => simp at ha hb; subst ha; subst hb; exact hy
              | succ i => exact t i a b (by simpa using ha) (by simpa using hb)) (d.trans d' (by rw [List.length_cons, Nat.mul_succ]; omega))
            rwa [show acc ++ [y] ++ ys = acc ++ y :: ys by simp]⟩
      exact s
  intro k hB h q
  exact key xs [] k (by rw [List.length_nil, Nat.zero_add]; exact hl) hB h fun ys k' a b d => by rw [List.nil_append]; exact q ys k' a b d
theorem wfI_eq {C : Addr} {N : Nat} {w : WS} {ds : List D} {k : Kt} {P : D → Kt → Prop} : wfI C N w ds k P = w { nx := fun ρ k' => ∃ ns es, ρ[0]? = some (.own (.i C ns es)) ∧ P (.ins C ns es) k', rt := fun _ _ => False } (.own (.i C [] []) :: (ds.map .val ++ List.replicate (N - 1 - ds.length) .un)) k := rfl
def noS : Slot → Bool
  | .own (.i _ _ _) => false
  | _ => true
@[simp] theorem s_noc {s : Slot} {r : En} : noI (s :: r) = (noS s && noI r) := by
  unfold noI
  rw [List.all_cons]
  cases s with
  | un => rfl
  | val d => rfl
  | own o => cases o <;> rfl
@[simp] theorem s_noS1 {d : D} : noS (.val d) = true := rfl
@[simp] theorem s_noS2 {ds : List D} : noS (.own (.l ds)) = true := rfl
@[simp] theorem s_noS3 : noS .un = true := rfl
def fzS : Slot → Slot
  | .own o => .val o.toD
  | s => s
@[simp] theorem s_fzc {s : Slot} {r : En} : fzn (s :: r) = fzS s :: fzn r := by cases s <;> rfl
@[simp] theorem s_fzS1 {d : D} : fzS (.val d) = .val d := rfl
@[simp] theorem s_fzS2 {o : OD} : fzS (.own o) = .val o.toD := rfl
@[simp] theorem s_fzS3 : fzS .un = .un := rfl
/-- what is heard -/
theorem heard_in {tabs : List (Addr × Str)} {tag : Str} {cs : List (Addr × List Part)} {wb : WE} {ρ : En} {k : Kt} {Q : R → En → Kt → Prop} (T : D) (h1 : ∀ Q' : R → En → Kt → Prop, Q' (.val T) ρ k → wHeard tabs tag cs wb ρ k Q') (h2 : Q (.val T) ρ k) : wHeard tabs tag cs wb ρ k Q := h1 Q h2
/-! kinds -/
def intD : D → Bool
  | .int _ => true
  | _ => false
def rowD : D → Bool
  | .lst _ => true
  | .tup _ => true
  | _ => false
@[simp] theorem s_k1 : kitB "NoneType" "int" = some false := by decide +kernel
@[simp] theorem s_k2 : kitB "bool" "int" = some true := by decide +kernel
@[simp] theorem s_k3 : kitB "str" "int" = some false := by decide +kernel
@[simp] theorem s_k4 : kitB "list" "int" = some false := by decide +kernel
@[simp] theorem s_k5 : kitB "tuple" "int" = some false := by decide +kernel
@[simp] theorem s_k6 : kitB "NoneType" "bool" = some false := by decide +kernel
@[simp] theorem s_k7 : kitB "bool" "bool" = some true := by decide +kernel
@[simp] theorem s_k8 : kitB "NoneType" "tuple" = some false := by decide +kernel
@[simp] theorem s_k9 : kitB "bool" "tuple" = some false := by decide +kernel
@[simp] theorem s_k10 : kitB "int" "tuple" = some false := by decide +kernel
@[simp] theorem s_k11 : kitB "str" "tuple" = some false := by decide +kernel
@[simp] theorem s_k12 : kitB "list" "tuple" = some false := by decide +kernel
@[simp] theorem s_k13 : kitB "tuple" "tuple" = some true := by decide +kernel
@[simp] theorem s_k14 : kitAnyB "NoneType" ["list", "tuple"] = some false := by decide +kernel
@[simp] theorem s_k15 : kitAnyB "bool" ["list", "tuple"] = some false := by decide +kernel
@[simp] theorem s_k16 : kitAnyB "int" ["list", "tuple"] = some false := by decide +kernel
@[simp] theorem s_k17 : kitAnyB "str" ["list", "tuple"] = some false := by decide +kernel
@[simp] theorem s_isC1 {C : Addr} {ns : List Str} {ds : List D} : isC C (.ins C ns ds) = some true := by simp [isC]
end DL

set_option Elab.async false
set_option linter.all false
set_option maxRecDepth 100000
set_option maxHeartbeats 1000000
/-! ELy: what hangs together: two ways to gather it -/
namespace DL
open PySem PySem.Spec PyProof.Rows L2
def Adj (ar : List (Int × Int)) (x y : Int) : Prop := (x, y) ∈ ar ∨ (y, x) ∈ ar
inductive Reach (ar : List (Int × Int)) (pts : List Int) (s : Int) : Int → Prop
  | start : Reach ar pts s s
  | step {x y : Int} : Reach ar pts s x → Adj ar x y → y ∈ pts → Reach ar pts s y
structure Comp (ar : List (Int × Int)) (pts : List Int) (s : Int) (lot : List Int) : Prop where
  nd : lot.Nodup
  st : s ∈ lot
  rc : ∀ x ∈ lot, Reach ar pts s x
  cl : ∀ x ∈ lot, ∀ y ∈ pts, Adj ar x y → y ∈ lot
theorem Comp.all {ar : List (Int × Int)} {pts : List Int} {s : Int} {lot : List Int} (h : Comp ar pts s lot) {x : Int} (r : Reach ar pts s x) : x ∈ lot := by
  induction r with
  | start => exact h.st
  | step _ a b ih => exact h.cl _ ih _ b a
theorem Comp.mem {ar : List (Int × Int)} {pts : List Int} {s : Int} {lot : List Int} (h : Comp ar pts s lot) {x : Int} : x ∈ lot ↔ Reach ar pts s x := ⟨h.rc x, h.all⟩
theorem sort_same {xs ys : List Int} (a : xs.Nodup) (b : ys.Nodup) (h : ∀ x, x ∈ xs ↔ x ∈ ys) : sortUp xs = sortUp ys := by
  refine sortUp_unique ?_ (sortUp_sorted xs)
  exact (sortUp_perm xs).trans ((List.perm_ext_iff_of_nodup a b).mpr h)
theorem Comp.same {ar ar' : List (Int × Int)} {pts : List Int} {s : Int} {lot lot' : List Int} (h : Comp ar pts s lot) (h' : Comp ar' pts s lot') (e : ∀ p, p ∈ ar ↔ p ∈ ar') : sortUp lot = sortUp lot' := by
  have r1 : ∀ {ar ar' : List (Int × Int)} {x : Int}, (∀ p, p ∈ ar ↔ p ∈ ar') → Reach ar pts s x → Reach ar' pts s x := by
    intro ar ar' x e r
    induction r with
    | start => exact .start
    | step _ a b ih => exact .step ih (a.imp (e _).mp (e _).mp) b
  refine sort_same h.nd h'.nd fun x => ?_
  rw [h.mem, h'.mem]
  exact ⟨r1 e, r1 fun p => (e p).symm⟩
/-! along one point's arrows -/
def jwStep (pts : List Int) (x : Int) (lot : List Int) (p : Int × Int) : List Int := if p.1 = x ∧ p.2 ∈ pts ∧ p.2 ∉ lot then lot ++ [p.2] else lot
theorem jw_facts {ar : List (Int × Int)} {pts : List Int} {s x : Int} (hx : Reach ar pts s x) : ∀ (es : List (Int × Int)) (lot : List Int), (∀ p ∈ es, Adj ar p.1 p.2) → lot.Nodup → (∀ y ∈ lot, Reach ar pts s y) → (∀ y ∈ lot, y = s ∨ y ∈ pts) →
    (es.foldl (jwStep pts x) lot).Nodup ∧ (∀ y ∈ es.foldl (jwStep pts x) lot, Reach ar pts s y) ∧ (∀ y ∈ es.foldl (jwStep pts x) lot, y = s ∨ y ∈ pts) ∧ (∃ t, es.foldl (jwStep pts x) lot = lot ++ t) ∧ ∀ p ∈ es, p.1 = x → p.2 ∈ pts → p.2 ∈ es.foldl (jwStep pts x) lot
  | [], lot, _, h1, h2, h3 => ⟨h1, h2, h3, ⟨[], by simp⟩, fun _ h => by cases h⟩
  | p :: r, lot, ha, h1, h2, h3 => by
    have hs : (jwStep pts x lot p).Nodup ∧ (∀ y ∈ jwStep pts x lot p, Reach ar pts s y) ∧ (∀ y ∈ jwStep pts x lot p, y = s ∨ y ∈ pts) ∧ (∃ t, jwStep pts x lot p = lot ++ t) ∧ (p.1 = x → p.2 ∈ pts → p.2 ∈ jwStep pts x lot p) := by
      unfold jwStep
      split
      · rename_i c
        refine ⟨List.nodup_append.mpr ⟨h1, by simp, fun a ha b hb e => by rw [List.mem_singleton.mp hb] at e; rw [e] at ha; exact c.2.2 ha⟩, fun y hy => ?_, fun y hy => ?_, ⟨_, rfl⟩, fun _ _ => by simp⟩
        · rcases List.mem_append.mp hy with z | z
          · exact h2 y z
          · rw [List.mem_singleton.mp z]
            have := ha p List.mem_cons_self
            rw [c.1] at this
            exact .step hx this c.2.1
        · rcases List.mem_append.mp hy with z | z
          · exact h3 y z
          · rw [List.mem_singleton.mp z]; exact .inr c.2.1
      · rename_i c
        exact ⟨h1, h2, h3, ⟨[], by simp⟩, fun e1 e2 => Classical.byContradiction fun z => c ⟨e1, e2, z⟩⟩
    obtain ⟨a1, a2, a3, ⟨t, et⟩, a5⟩ := hs
    obtain ⟨b1, b2, b3, ⟨t', et'⟩, b5⟩ := jw_facts hx r (jwStep pts x lot p) (fun q hq => ha q (List.mem_cons_of_mem _ hq)) a1 a2 a3
    rw [List.foldl_cons]
    refine ⟨b1, b2, b3, ⟨t ++ t', by rw [et', et, List.append_assoc]⟩, fun q hq e1 e2 => ?_⟩
    rcases List.mem_cons.mp hq with rfl | hq
    · rw [et']; exact List.mem_append_left _ (a5 e1 e2)
    · exact b5 q hq e1 e2
structure Good (ar : List (Int × Int)) (pts : List Int) (s : Int) (lot : List Int) (at' : Nat) : Prop where
  nd : lot.Nodup
  st : s ∈ lot
  rc : ∀ x ∈ lot, Reach ar pts s x
  sb : ∀ x ∈ lot, x = s ∨ x ∈ pts
  cl : ∀ i x, i < at' → lot[i]? = some x → ∀ y ∈ pts, Adj ar x y → y ∈ lot
theorem Good.len {ar : List (Int × Int)} {pts : List Int} {s : Int} {lot : List Int} {n : Nat} (h : Good ar pts s lot n) : lot.length ≤ pts.length + 1 :=
  h.nd.length_le_of_subset (l₂ := s :: pts) fun x hx => by
    rcases h.sb x hx with rfl | z
    · exact List.mem_cons_self
    · exact List.mem_cons_of_mem _ z
theorem Good.zero {ar : List (Int × Int)} {pts : List Int} {s : Int} : Good ar pts s [s] 0 := ⟨by simp, by simp, fun x hx => by rw [List.mem_singleton.mp hx]; exact .start, fun x hx => .inl (List.mem_singleton.mp hx), fun i x h => by omega⟩
theorem Good.fin {ar : List (Int × Int)} {pts : List Int} {s : Int} {lot : List Int} {n : Nat} (h : Good ar pts s lot n) (hl : lot.length ≤ n) : Comp ar pts s lot := ⟨h.nd, h.st, h.rc, fun x hx => by
  obtain ⟨i, hi, e⟩ := List.getElem_of_mem hx
  exact h.cl i x (by omega) (by rw [List.getElem?_eq_getElem hi, e])⟩
theorem Good.next {ar : List (Int × Int)} {pts : List Int} {s : Int} {lot : List Int} {n : Nat} {x : Int} (h : Good ar pts s lot n) (hx : lot[n]? = some x) : Good ar pts s ((ar ++ ar.map fun p => (p.2, p.1)).foldl (jwStep pts x) lot) (n + 1) := by
  have hm : x ∈ lot := List.mem_of_getElem? hx
  have adj : ∀ p, p ∈ (ar ++ ar.map fun p => (p.2, p.1)) ↔ Adj ar p.1 p.2 := fun p => by
    unfold Adj
    rw [List.mem_append, List.mem_map]
    constructor
    · rintro (z | ⟨q, hq, rfl⟩)
      · exact .inl z
      · exact .inr hq
    · rintro (z | z)
      · exact .inl z
      · exact .inr ⟨_, z, rfl⟩
  obtain ⟨a1, a2, a3, ⟨t, et⟩, a5⟩ := jw_facts (h.rc x hm) _ lot (fun p hp => (adj p).mp hp) h.nd h.rc h.sb
  refine ⟨a1, by rw [et]; exact List.mem_append_left _ h.st, a2, a3, fun i y hi e z hz ad => ?_⟩
  by_cases hi' : i < n
  · have hl : i < lot.length := by
      have := (List.getElem?_eq_some_iff.mp hx).1
      omega
    have e' : lot[i]? = some y := by
      rw [et, List.getElem?_append_left hl] at e
      exact e
    rw [et]
    exact List.mem_append_left _ (h.cl i y hi' e' z hz ad)
  · have : i = n := by omega
    subst this
    have hl : i < lot.length := (List.getElem?_eq_some_iff.mp hx).1
    rw [et, List.getElem?_append_left hl, hx] at e
    cases e
    exact a5 (x, z) ((adj (x, z)).mpr ad) rfl hz
/-! lap by lap -/
def lotH (pts : List Int) (a b : Int) (lot : List Int) : List Int := if a ∈ lot ∧ b ∈ pts ∧ b ∉ lot then lot ++ [b] else lot
def lotStep (pts : List Int) (lot : List Int) (p : Int × Int) : List Int := lotH pts p.2 p.1 (lotH pts p.1 p.2 lot)
def lotN (ar : List (Int × Int)) (pts : List Int) (s : Int) : Nat → List Int
  | 0 => [s]
  | m + 1 => ar.foldl (lotStep pts) (lotN ar pts s m)
structure Lot (ar : List (Int × Int)) (pts : List Int) (s : Int) (lot : List Int) : Prop where
  nd : lot.Nodup
  st : s ∈ lot
  rc : ∀ x ∈ lot, Reach ar pts s x
  sb : ∀ x ∈ lot, x = s ∨ x ∈ pts
theorem Lot.h {ar : List (Int × Int)} {pts : List Int} {s : Int} {lot : List Int} (h : Lot ar pts s lot) {a b : Int} (ad : Adj ar a b) : Lot ar pts s (lotH pts a b lot) ∧ lot.length ≤ (lotH pts a b lot).length ∧ ((lotH pts a b lot).length = lot.length → lotH pts a b lot = lot ∧ (a ∈ lot → b ∈ pts → b ∈ lot)) := by
  unfold lotH
  split
  · rename_i c
    refine ⟨⟨List.nodup_append.mpr ⟨h.nd, by simp, fun x hx y hy e => by rw [List.mem_singleton.mp hy] at e; rw [e] at hx; exact c.2.2 hx⟩, List.mem_append_left _ h.st, fun y hy => ?_, fun y hy => ?_⟩, by simp, fun e => by simp at e⟩
    · rcases List.mem_append.mp hy with z | z
      · exact h.rc y z
      · rw [List.mem_singleton.mp z]; exact .step (h.rc a c.1) ad c.2.1
    · rcases List.mem_append.mp hy with z | z
      · exact h.sb y z
      · rw [List.mem_singleton.mp z]; exact .inr c.2.1
  · rename_i c
    exact ⟨h, Nat.le_refl _, fun _ => ⟨rfl, fun e1 e2 => Classical.byContradiction fun z => c ⟨e1, e2, z⟩⟩⟩
theorem Lot.step {ar : List (Int × Int)} {pts : List Int} {s : Int} {lot : List Int} (h : Lot ar pts s lot) {p : Int × Int} (hp : p ∈ ar) : Lot ar pts s (lotStep pts lot p) ∧ lot.length ≤ (lotStep pts lot p).length ∧ ((lotStep pts lot p).length = lot.length → lotStep pts lot p = lot ∧ (p.1 ∈ lot → p.2 ∈ pts → p.2 ∈ lot) ∧ (p.2 ∈ lot → p.1 ∈ pts → p.1 ∈ lot)) := by
  obtain ⟨a1, a2, a3⟩ := h.h (a := p.1) (b := p.2) (.inl hp)
  obtain ⟨b1, b2, b3⟩ := a1.h (a := p.2) (b := p.1) (.inr hp)
  unfold lotStep
  refine ⟨b1, by omega, fun e => ?_⟩
  obtain ⟨e1, q1⟩ := a3 (by omega)
  rw [e1] at b3 e ⊢
  obtain ⟨e2, q2⟩ := b3 e
  exact ⟨e2, q1, q2⟩
theorem Lot.fold {ar : List (Int × Int)} {pts : List Int} {s : Int} : ∀ (es : List (Int × Int)) (lot : List Int), (∀ p ∈ es, p ∈ ar) → Lot ar pts s lot → Lot ar pts s (es.foldl (lotStep pts) lot) ∧ lot.length ≤ (es.foldl (lotStep pts) lot).length ∧ ((es.foldl (lotStep pts) lot).length = lot.length → es.foldl (lotStep pts) lot = lot ∧ ∀ p ∈ es, (p.1 ∈ lot → p.2 ∈ pts → p.2 ∈ lot) ∧ (p.2 ∈ lot → p.1 ∈ pts → p.1 ∈ lot))
  | [], lot, _, h => ⟨h, Nat.le_refl _, fun _ => ⟨rfl, fun _ h => by cases h⟩⟩
  | p :: r, lot, hs, h => by
    obtain ⟨a1, a2, a3⟩ := h.step (hs p List.mem_cons_self)
    obtain ⟨b1, b2, b3⟩ := Lot.fold r (lotStep pts lot p) (fun q hq => hs q (List.mem_cons_of_mem _ hq)) a1
    rw [List.foldl_cons]
    refine ⟨b1, by omega, fun e => ?_⟩
    obtain ⟨e1, q1⟩ := a3 (by omega)
    rw [e1] at b3 e ⊢
    obtain ⟨e2, q2⟩ := b3 e
    refine ⟨e2, fun q hq => ?_⟩
    rcases List.mem_cons.mp hq with rfl | hq
    · exact q1
    · exact q2 q hq
theorem Lot.len {ar : List (Int × Int)} {pts : List Int} {s : Int} {lot : List Int} (h : Lot ar pts s lot) : lot.length ≤ pts.length + 1 :=
  h.nd.length_le_of_subset (l₂ := s :: pts) fun x hx => by
    rcases h.sb x hx with rfl | z
    · exact List.mem_cons_self
    · exact List.mem_cons_of_mem _ z
/-- the sorted lot -/
noncomputable def compS (ar : List (Int × Int)) (pts : List Int) (s : Int) : List Int := open Classical in if h : ∃ lot, Comp ar pts s lot then sortUp h.choose else []
theorem Comp.eq {ar ar' : List (Int × Int)} {pts : List Int} {s : Int} {lot : List Int} (h : Comp ar' pts s lot) (e : ∀ p, p ∈ ar ↔ p ∈ ar') : sortUp lot = compS ar pts s := by
  have hx : Comp ar pts s lot := by
    have ea : ∀ x y, Adj ar' x y ↔ Adj ar x y := fun x y => by unfold Adj; rw [e, e]
    refine ⟨h.nd, h.st, fun x hx => ?_, fun x hx y hy ad => h.cl x hx y hy ((ea x y).mpr ad)⟩
    have r := h.rc x hx
    induction r with
    | start => exact .start
    | step r a b ih => exact .step (ih (h.mem.mpr r)) ((ea _ _).mp a) b
  have hh : ∃ lot, Comp ar pts s lot := ⟨lot, hx⟩
  unfold compS
  rw [dif_pos hh]
  exact hx.same hh.choose_spec fun _ => .rfl
/-! numbered items -/
def enI : Nat → List Int → List (Int × Int)
  | _, [] => []
  | i, x :: r => ((i : Int), x) :: enI (i + 1) r
@[simp] theorem s_enI : ∀ {xs : List Int} {i : Nat}, enumD i (xs.map .int) = (enI i xs).map pD
  | [], _ => rfl
  | x :: r, i => by rw [List.map_cons, s_en1, enI, List.map_cons, s_enI (xs := r)]
def heldL (xs : List Int) : List Int := (enI 0 xs).filterMap fun p => if p.2 ≠ 0 then some p.1 else none
end DL

set_option Elab.async false
set_option linter.all false
set_option maxRecDepth 100000
set_option maxHeartbeats 1000000
/-! ELz: forms of rows over arrows; mirrors -/
namespace DL
open PySem PySem.Spec PyProof.Rows L2
/-- the item at a place -/
def gI (a : List Int) (i : Int) : Int := a.getD i.toNat 0
def dotL (a b : List Int) : Int := ((a.zip b).map fun p => p.1 * p.2).sum
def arS (ar : List (Int × Int)) (a b : List Int) : Int := (ar.map fun p => gI a p.1 * gI b p.2).sum
def fE (ar : List (Int × Int)) (a b : List Int) : Int := dotL a b - arS ar a b
def outS (ar : List (Int × Int)) (i : Int) (a : List Int) : Int := (ar.map fun p => if p.1 = i then gI a p.2 else 0).sum
def inS (ar : List (Int × Int)) (i : Int) (a : List Int) : Int := (ar.map fun p => if p.2 = i then gI a p.1 else 0).sum
def mItem (ar : List (Int × Int)) (i : Int) (a : List Int) : Int := -gI a i + outS ar i a + inS ar i a
def mir (ar : List (Int × Int)) (a : List Int) (i : Int) : List Int := a.set i.toNat (mItem ar i a)
theorem mir_len {ar : List (Int × Int)} {a : List Int} {i : Int} : (mir ar a i).length = a.length := by rw [mir, List.length_set]
theorem gI_set {a : List Int} {i j x : Int} (hi : 0 ≤ i ∧ i < a.length) (hj : 0 ≤ j) : gI (a.set i.toNat x) j = if j = i then x else gI a j := by
  unfold gI
  rw [List.getD_eq_getElem?_getD, List.getD_eq_getElem?_getD, List.getElem?_set]
  by_cases h : j = i
  · subst h
    rw [if_pos rfl, if_pos rfl, if_pos (by omega)]; rfl
  · rw [if_neg (by omega), if_neg h]
theorem outS_set {a : List Int} {i x : Int} (hi : 0 ≤ i ∧ i < a.length) : ∀ ar : List (Int × Int), (∀ p ∈ ar, 0 ≤ p.1 ∧ 0 ≤ p.2 ∧ p.1 ≠ p.2) → outS ar i (a.set i.toNat x) = outS ar i a ∧ inS ar i (a.set i.toNat x) = inS ar i a
  | [], _ => ⟨rfl, rfl⟩
  | p :: r, h => by
    obtain ⟨e1, e2⟩ := outS_set (x := x) hi r fun q hq => h q (List.mem_cons_of_mem _ hq)
    have hp := h p List.mem_cons_self
    simp only [outS, inS, List.map_cons, List.sum_cons] at e1 e2 ⊢
    rw [gI_set hi hp.1, gI_set hi hp.2.1, e1, e2]
    constructor
    · by_cases h1 : p.1 = i
      · rw [if_pos h1, if_pos h1, if_neg fun z => hp.2.2 (h1.trans z.symm)]
      · rw [if_neg h1, if_neg h1]
    · by_cases h1 : p.2 = i
      · rw [if_pos h1, if_pos h1, if_neg fun z => hp.2.2 (z.trans h1.symm)]
      · rw [if_neg h1, if_neg h1]
/-! units -/
def unL (n : Nat) (i : Int) : List Int := (upto n).map fun j => if j = i then 1 else 0
/-! turned at a giver or taker -/
def flipA (i : Int) (ar : List (Int × Int)) : List (Int × Int) := ar.map fun p => if i = p.1 ∨ i = p.2 then (p.2, p.1) else p
/-! how large -/
end DL

set_option Elab.async false
set_option linter.all false
set_option maxRecDepth 100000
set_option maxHeartbeats 1000000
/-! ELzb: rounds of mirrors in a hall's order; ways -/
namespace DL
open PySem PySem.Spec PyProof.Rows L2
/-- an order of the points that the arrows keep -/
structure Ord (n : Nat) (ar : List (Int × Int)) (F : List Int) : Prop where
  nd : F.Nodup
  mem : ∀ x, x ∈ F ↔ 0 ≤ x ∧ x < n
  cl : ∀ pre post, F = pre ++ post → ∀ q ∈ ar, q.2 ∈ pre → q.1 ∈ pre
def swapA (ar : List (Int × Int)) : List (Int × Int) := ar.map fun p => (p.2, p.1)
def InA (n : Nat) (ar : List (Int × Int)) : Prop := ∀ p ∈ ar, (0 ≤ p.1 ∧ p.1 < n) ∧ (0 ≤ p.2 ∧ p.2 < n) ∧ p.1 ≠ p.2
theorem InA.low {n : Nat} {ar : List (Int × Int)} (h : InA n ar) : ∀ p ∈ ar, 0 ≤ p.1 ∧ 0 ≤ p.2 ∧ p.1 ≠ p.2 := fun p hp => ⟨(h p hp).1.1, (h p hp).2.1.1, (h p hp).2.2⟩
theorem InA.swap {n : Nat} {ar : List (Int × Int)} (h : InA n ar) : InA n (swapA ar) := fun p hp => by
  obtain ⟨q, hq, rfl⟩ := List.mem_map.mp hp
  have := h q hq
  exact ⟨this.2.1, this.1, Ne.symm this.2.2⟩
theorem Ord.swap {n : Nat} {ar : List (Int × Int)} {F : List Int} (h : Ord n ar F) (hi : InA n ar) : Ord n (swapA ar) F.reverse := by
  refine ⟨(List.reverse_perm F).nodup_iff.mpr h.nd, fun x => by rw [List.mem_reverse]; exact h.mem x, fun pre post e q hq hm => ?_⟩
  obtain ⟨p, hp, rfl⟩ := List.mem_map.mp hq
  have e2 : F = post.reverse ++ pre.reverse := by rw [← List.reverse_append, ← e, List.reverse_reverse]
  refine Classical.byContradiction fun z => ?_
  have hin : p.2 ∈ F := (h.mem _).mpr (hi p hp).2.1
  rw [e2] at hin
  rcases List.mem_append.mp hin with w | w
  · have w2 := h.cl _ _ e2 p hp w
    have nd := h.nd
    rw [e2] at nd
    exact (List.nodup_append.mp nd).2.2 _ w2 _ (List.mem_reverse.mpr hm) rfl
  · exact z (List.mem_reverse.mp w)
theorem Ord.len {n : Nat} {ar : List (Int × Int)} {F : List Int} (h : Ord n ar F) : F.length = n := by
  have := ((List.perm_ext_iff_of_nodup h.nd (upto_nodup n)).mpr fun x => by rw [h.mem, upto_mem]).length_eq
  rwa [upto_len] at this
/-- one round -/
def rnd (ar : List (Int × Int)) (F : List Int) (a : List Int) : List Int := F.reverse.foldl (mir ar) a
/-! the form by points -/
theorem sum_congr {α : Type} {f g : α → Int} : ∀ {xs : List α}, (∀ x ∈ xs, f x = g x) → (xs.map f).sum = (xs.map g).sum
  | [], _ => rfl
  | x :: r, h => by rw [List.map_cons, List.map_cons, List.sum_cons, List.sum_cons, h x List.mem_cons_self, sum_congr fun y hy => h y (List.mem_cons_of_mem _ hy)]
theorem sum_one (f : Int → Int) (q x : Int) : ∀ {xs : List Int}, xs.Nodup → (xs.map fun p => f p * if q = p then x else 0).sum = if q ∈ xs then f q * x else 0
  | [], _ => rfl
  | y :: r, h => by
    obtain ⟨h1, h2⟩ := List.nodup_cons.mp h
    rw [List.map_cons, List.sum_cons, sum_one f q x h2]
    by_cases e : q = y
    · subst e
      rw [if_pos rfl, if_neg h1, if_pos List.mem_cons_self]
      omega
    · rw [if_neg e]
      by_cases m : q ∈ r
      · rw [if_pos m, if_pos (List.mem_cons_of_mem _ m)]; omega
      · rw [if_neg m, if_neg fun z => (List.mem_cons.mp z).elim e m]; omega
theorem sum_add {α : Type} (f g : α → Int) : ∀ xs : List α, (xs.map fun x => f x + g x).sum = (xs.map f).sum + (xs.map g).sum
  | [] => rfl
  | x :: r => by simp only [List.map_cons, List.sum_cons, sum_add f g r]; omega
theorem sum_sub {α : Type} (f g : α → Int) : ∀ xs : List α, (xs.map fun x => f x - g x).sum = (xs.map f).sum - (xs.map g).sum
  | [] => rfl
  | x :: r => by simp only [List.map_cons, List.sum_cons, sum_sub f g r]; omega
theorem dotL_sum {a b : List Int} (h : a.length = b.length) : dotL a b = ((upto a.length).map fun p => gI a p * gI b p).sum := by
  have key : ∀ (a b : List Int), a.length = b.length → dotL a b = ((List.range a.length).map fun i => a.getD i 0 * b.getD i 0).sum := by
    intro a
    induction a with
    | nil => intro b _; cases b <;> rfl
    | cons x r ih =>
      intro b h
      cases b with
      | nil => simp at h
      | cons y s =>
        have := ih s (by simpa using h)
        rw [List.length_cons, List.range_succ_eq_map, List.map_cons, List.sum_cons, List.map_map]
        simp only [dotL, List.zip_cons_cons, List.map_cons, List.sum_cons] at this ⊢
        rw [this]
        rfl
  rw [key a b h]
  unfold upto
  rw [List.map_map]
  refine sum_congr fun i _ => ?_
  simp [gI]
theorem arS_col {n : Nat} {b c : List Int} : ∀ ar : List (Int × Int), InA n ar → arS ar b c = ((upto n).map fun p => gI c p * inS ar p b).sum
  | [], _ => by
    have : ∀ xs : List Int, (xs.map fun p => gI c p * inS [] p b).sum = 0 := by
      intro xs
      induction xs with
      | nil => rfl
      | cons x r ih => rw [List.map_cons, List.sum_cons, ih]; simp [inS]
    rw [this]; rfl
  | q :: r, h => by
    have ih := arS_col (b := b) (c := c) r fun p hp => h p (List.mem_cons_of_mem _ hp)
    have hq := h q List.mem_cons_self
    have e : ∀ p ∈ upto n, gI c p * inS (q :: r) p b = (gI c p * if q.2 = p then gI b q.1 else 0) + gI c p * inS r p b := fun p _ => by
      simp only [inS, List.map_cons, List.sum_cons]
      rw [Int.mul_add]
    rw [sum_congr e, sum_add, sum_one (gI c) q.2 (gI b q.1) (upto_nodup n), if_pos (upto_mem.mpr hq.2.1), ← ih]
    simp only [arS, List.map_cons, List.sum_cons]
    rw [Int.mul_comm]
theorem fE_col {n : Nat} {ar : List (Int × Int)} {b c : List Int} (hb : b.length = n) (hc : c.length = n) (hi : InA n ar) : fE ar b c = ((upto n).map fun p => gI c p * (gI b p - inS ar p b)).sum := by
  rw [fE, dotL_sum (hb.trans hc.symm), arS_col ar hi, hb, ← sum_sub]
  exact sum_congr fun p _ => by rw [Int.mul_sub, Int.mul_comm (gI b p)]
/-! ways -/
def Ways (n : Nat) (ar : List (Int × Int)) (i : Int) (w : List Int) : Prop := w.length = n ∧ ∀ x : Int, 0 ≤ x → x < n → gI w x = (if x = i then 1 else 0) + inS ar x w
theorem Ways.form {n : Nat} {ar : List (Int × Int)} {i : Int} {w b : List Int} (h : Ways n ar i w) (hi : InA n ar) (h0 : 0 ≤ i ∧ i < n) (hb : b.length = n) : fE ar w b = gI b i := by
  rw [fE_col h.1 hb hi]
  have e : ∀ p ∈ upto n, gI b p * (gI w p - inS ar p w) = gI b p * if i = p then 1 else 0 := fun p hp => by
    have := h.2 p (upto_mem.mp hp).1 (upto_mem.mp hp).2
    congr 1
    by_cases z : p = i
    · rw [if_pos z] at this; rw [if_pos z.symm]; omega
    · rw [if_neg z] at this; rw [if_neg (Ne.symm z)]; omega
  rw [sum_congr e, sum_one (gI b) i 1 (upto_nodup n), if_pos (upto_mem.mpr h0)]
  omega
/-- as the program takes them -/
def wayStep (pt : Int) (w : List Int) (q : Int × Int) : List Int := if q.1 = pt then w.set q.2.toNat (gI w q.2 + gI w pt) else w
def waysF (ar : List (Int × Int)) (F : List Int) (w : List Int) : List Int := F.foldl (fun w pt => ar.foldl (wayStep pt) w) w
/-! by lists of ends -/
def cnt (x : Int) (E : List Int) : Int := (E.map fun e => if e = x then 1 else 0).sum
def nexts (ar : List (Int × Int)) (e : Int) : List Int := ar.filterMap fun q => if q.1 = e then some q.2 else none
def endsN (ar : List (Int × Int)) (i : Int) : Nat → List Int
  | 0 => [i]
  | t + 1 => (endsN ar i t).flatMap (nexts ar)
def tally (w : List Int) (E : List Int) : List Int := E.foldl (fun w e => w.set e.toNat (gI w e + 1)) w
def foundN (n : Nat) (ar : List (Int × Int)) (i : Int) : Nat → List Int
  | 0 => List.replicate n 0
  | t + 1 => tally (foundN n ar i t) (endsN ar i t)
theorem nexts_len (ar : List (Int × Int)) (e : Int) : (nexts ar e).length ≤ ar.length := List.length_filterMap_le _ _
theorem flat_len {ar : List (Int × Int)} : ∀ E : List Int, (E.flatMap (nexts ar)).length ≤ E.length * ar.length
  | [] => by simp
  | e :: r => by
    rw [List.flatMap_cons, List.length_append, List.length_cons, Nat.add_mul]
    have := flat_len (ar := ar) r
    have := nexts_len ar e
    omega
end DL

set_option Elab.async false
set_option linter.all false
set_option maxRecDepth 100000
set_option maxHeartbeats 4000000
/-! a bool < an int -/
namespace DL
open PySem PySem.Spec PyProof.Rows L2
section
variable {X : Cx}
abbrev rLtB : R2 := fun x y H Q => rI0 (fun i j => .bl (decide (i < j))) x y H Q ∨ (∃ a j, x = .bl a ∧ y = .int j ∧ Q (.bl (decide ((if a = true then (1 : Int) else 0) < j))) H)
end
def fLtB : F2 := fun d e P => match d, e with
  | .int i, .int j => P (.bl (decide (i < j)))
  | .bl a, .int j => P (.bl (decide ((if a = true then (1 : Int) else 0) < j)))
  | _, _ => False
end DL

set_option Elab.async false
set_option linter.all false
set_option maxRecDepth 100000
/-! rows in which None or a bool may stand -/
namespace DL
open PySem PySem.Spec PyProof.Rows L2
@[simp] theorem s_ltB1 {i j : Int} {P : D → Prop} : fLtB (.int i) (.int j) P = P (.bl (decide (i < j))) := rfl
@[simp] theorem s_ltB2 {a : Bool} {j : Int} {P : D → Prop} : fLtB (.bl a) (.int j) P = P (.bl (decide ((if a = true then (1 : Int) else 0) < j))) := rfl
def NbOk (x : D) : Prop := (∃ i : Int, x = .int i ∧ -(2 ^ 64) < i ∧ i < 2 ^ 64) ∨ x = .non ∨ x = .bl true
def lb1 : D → Bool
  | .int i => decide (i < 1)
  | .bl a => decide ((if a = true then (1 : Int) else 0) < 1)
  | _ => false
def enP : Nat → List D → List (Int × D)
  | _, [] => []
  | k, x :: r => ((k : Int), x) :: enP (k + 1) r
def pE (p : Int × D) : D := .tup [.int p.1, p.2]
def wrongL (xs : List D) : List Int := (enP 0 xs).filterMap fun p => if lb1 p.2 = true then some p.1 else none
/-! divisors -/
def gcdL (ys : List Int) : Nat := ys.foldl (fun f y => Nat.gcd y.toNat f) 0
end DL

set_option Elab.async false
set_option linter.all false
set_option maxRecDepth 100000
set_option maxHeartbeats 1000000
/-! ELzm: zip of two rows, each a list or a tuple -/
namespace DL
open PySem PySem.Spec PyProof.Rows L2 PySem.W
/-- an iterator over a list (true) or a tuple -/
def ItK (b : Bool) (h : Heap) (i l : Addr) (k : Nat) : Prop := match b with
  | true => h.IsListIter i l k
  | false => h.IsTupleIter i l k
def SqK (b : Bool) (h : Heap) (l : Addr) (xs : Array Value) : Prop := match b with
  | true => h.IsList l xs
  | false => h.IsTuple l xs
theorem ItK.ext {b : Bool} {h h' : Heap} {i l c : Addr} {k : Nat} (x : ItK b h i l k) (hs : Heap.ExtBut c h h') (n : i ≠ c) : ItK b h' i l k := by
  cases b with
  | true => exact Heap.IsListIter.extBut x hs n
  | false => exact Heap.IsTupleIter.extBut x hs n
theorem SqK.ext {b : Bool} {h h' : Heap} {l c : Addr} {xs : Array Value} (x : SqK b h l xs) (hs : Heap.ExtBut c h h') (n : l ≠ c) : SqK b h' l xs := by
  cases b with
  | true => exact Heap.IsList.extBut x hs n
  | false => exact Heap.IsTuple.extBut x hs n
theorem ItK.at {b : Bool} {h h' : Heap} {i l : Addr} {k : Nat} (x : ItK b h i l k) (e : ∀ o, h.get? i = some o → h'.get? i = some o) : ItK b h' i l k := by
  cases b with
  | true => exact Heap.IsListIter.at x e
  | false => exact Heap.IsTupleIter.at x e
theorem ItK.obj {b : Bool} {h : Heap} {i l : Addr} {k : Nat} (x : ItK b h i l k) : ∃ o, h.get? i = some o ∧ ∀ v, o.data ≠ .cell v := by
  cases b with
  | true =>
    obtain ⟨o, e, _, d⟩ := x
    exact ⟨o, e, fun v q => by rw [d] at q; cases q⟩
  | false =>
    obtain ⟨o, e, _, d⟩ := x
    exact ⟨o, e, fun v q => by rw [d] at q; cases q⟩
section
variable {prog : Program} {w : World} {A : Around} {E : Value → Shared → Prop} {s : Shared}
theorem nextK_item {b : Bool} {i l : Addr} {k : Nat} {xs : Array Value} {x : Value} {Q : Value → Shared → Prop} (hi : ItK b s.heap i l k) (hl : SqK b s.heap l xs) (hx : xs[k]? = some x)
    (hQ : ∀ h', ItK b h' i l (k + 1) → Heap.SameBut i s.heap h' → Q x { s with heap := h' }) : wpAny (model prog w) A (Builtin.SmallTypes.nextOf (.ref i)) Q E s := by
  cases b with
  | true => exact wpAny_nextOf_list_item hi hl hx hQ
  | false => exact RZ.nextOf_tuple_item hi hl hx hQ
theorem nextK_end {b : Bool} {i l : Addr} {k : Nat} {xs : Array Value} {Q : Value → Shared → Prop} (hh : A.handled = none) (hi : ItK b s.heap i l k) (hl : SqK b s.heap l xs) (hx : xs[k]? = none)
    (hE : ∀ h' e, Heap.ExtBut i s.heap h' → (∃ o, h'.get? e = some o ∧ o.cls = .type "StopIteration") → E (.ref e) { s with heap := h' }) : wpAny (model prog w) A (Builtin.SmallTypes.nextOf (.ref i)) Q E s := by
  cases b with
  | true => exact wpAny_nextOf_list_end hh hi hl hx hE
  | false => exact RZ.nextOf_tuple_end hh hi hl hx hE
def itC (b : Bool) : String := match b with
  | true => "list_iterator"
  | false => "tuple_iterator"
abbrev zmH1 (b1 : Bool) (h : Heap) (l1 : Addr) : Heap := h.push { cls := .type (itC b1), data := .fields #[.ref l1, .int 0 0] }
abbrev zmH2 (b1 b2 : Bool) (h : Heap) (l1 l2 : Addr) : Heap := (zmH1 b1 h l1).push { cls := .type (itC b2), data := .fields #[.ref l2, .int 0 0] }
abbrev zmH3 (b1 b2 : Bool) (h : Heap) (l1 l2 : Addr) : Heap := (zmH2 b1 b2 h l1 l2).push { cls := .type "tuple", data := .seq #[.ref h.objs.size, .ref (zmH1 b1 h l1).objs.size] }
abbrev zmH4 (b1 b2 : Bool) (h : Heap) (l1 l2 : Addr) : Heap := (zmH3 b1 b2 h l1 l2).push { cls := .type "tuple", data := .seq #[.none, .none] }
abbrev zmH5 (b1 b2 : Bool) (h : Heap) (l1 l2 : Addr) : Heap := (zmH4 b1 b2 h l1 l2).push { cls := .type "zip", data := .fields #[.none, .bool false, .bool false, .ref (zmH2 b1 b2 h l1 l2).objs.size, .ref (zmH3 b1 b2 h l1 l2).objs.size] }
theorem meets_zm (b1 b2 : Bool) (l1 l2 : Addr) (xs ys : Array Value) :
    Meets (Builtin.«zip.__new__» ⟨[.type "zip", .ref l1, .ref l2], []⟩) (fun _ R s => SqK b1 s.heap l1 xs ∧ SqK b2 s.heap l2 ys ∧
      R (.ok (.ret (.ref (zmH4 b1 b2 s.heap l1 l2).objs.size))) { s with heap := zmH5 b1 b2 s.heap l1 l2 }) :=
  .of_wp fun prog w A R s h => by
    obtain ⟨hp, g, d, tk, os⟩ := s; obtain ⟨e1, e2, h⟩ := h
    have hsub := sub_zip
    cases b1 with
    | true =>
      have L1 : Heap.IsList (Shared.heap ⟨hp, g, d, tk, os⟩) l1 xs := e1
      cases b2 with
      | true =>
        have L2 : Heap.IsList (Shared.heap ⟨hp.push { cls := .type "list_iterator", data := .fields #[.ref l1, .int 0 0] }, g, d, tk, os⟩) l2 ys := Heap.IsList.push e2 _
        wp_walk using wpAny_pyIter_list L1, wpAny_pyIter_list L2
        exact ⟨_, rfl, h⟩
      | false =>
        have L2 : Heap.IsTuple (Shared.heap ⟨hp.push { cls := .type "list_iterator", data := .fields #[.ref l1, .int 0 0] }, g, d, tk, os⟩) l2 ys := Heap.IsTuple.push e2 _
        wp_walk using wpAny_pyIter_list L1, wpAny_pyIter_tuple L2
        exact ⟨_, rfl, h⟩
    | false =>
      have L1 : Heap.IsTuple (Shared.heap ⟨hp, g, d, tk, os⟩) l1 xs := e1
      cases b2 with
      | true =>
        have L2 : Heap.IsList (Shared.heap ⟨hp.push { cls := .type "tuple_iterator", data := .fields #[.ref l1, .int 0 0] }, g, d, tk, os⟩) l2 ys := Heap.IsList.push e2 _
        wp_walk using wpAny_pyIter_tuple L1, wpAny_pyIter_list L2
        exact ⟨_, rfl, h⟩
      | false =>
        have L2 : Heap.IsTuple (Shared.heap ⟨hp.push { cls := .type "tuple_iterator", data := .fields #[.ref l1, .int 0 0] }, g, d, tk, os⟩) l2 ys := Heap.IsTuple.push e2 _
        wp_walk using wpAny_pyIter_tuple L1, wpAny_pyIter_tuple L2
        exact ⟨_, rfl, h⟩
theorem call_zm {b1 b2 : Bool} {l1 l2 : Addr} {xs ys : Array Value} {Q : Value → Shared → Prop} (e1 : SqK b1 s.heap l1 xs) (e2 : SqK b2 s.heap l2 ys)
    (h : ∀ h', IsZip h' (s.heap.objs.size + 4) (s.heap.objs.size + 2) (s.heap.objs.size + 3) .none → IsPair h' (s.heap.objs.size + 2) (.ref s.heap.objs.size) (.ref (s.heap.objs.size + 1)) →
      IsPair h' (s.heap.objs.size + 3) .none .none → ItK b1 h' s.heap.objs.size l1 0 → ItK b2 h' (s.heap.objs.size + 1) l2 0 → h'.objs.size = s.heap.objs.size + 5 →
      (∀ c o, s.heap.get? c = some o → h'.get? c = some o) → Q (.ref (s.heap.objs.size + 4)) { s with heap := h' }) :
    wpAny (model prog w) A (call (.type "zip") [.ref l1, .ref l2]) Q E s := by
  refine callType_new F.called_zip (by decide) (F.typeCall_zip_2 _ _) (F.newCall_zip_2 _ _) (fun obj => F.args_object_init_3 obj _ _) F.entry_zip_new (meets_zm b1 b2 l1 l2 xs ys) ⟨e1, e2, ?_⟩
  have y1 : (zmH1 b1 s.heap l1).objs.size = s.heap.objs.size + 1 := Heap.size_push ..
  have y2 : (zmH2 b1 b2 s.heap l1 l2).objs.size = s.heap.objs.size + 2 := by rw [Heap.size_push, y1]
  have y3 : (zmH3 b1 b2 s.heap l1 l2).objs.size = s.heap.objs.size + 3 := by rw [Heap.size_push, y2]
  have y4 : (zmH4 b1 b2 s.heap l1 l2).objs.size = s.heap.objs.size + 4 := by rw [Heap.size_push, y3]
  have y5 : (zmH5 b1 b2 s.heap l1 l2).objs.size = s.heap.objs.size + 5 := by rw [Heap.size_push, y4]
  have g5 : (zmH5 b1 b2 s.heap l1 l2).get? (zmH4 b1 b2 s.heap l1 l2).objs.size = some _ := Heap.get?_push_size _ rfl
  have g4 : (zmH5 b1 b2 s.heap l1 l2).get? (zmH3 b1 b2 s.heap l1 l2).objs.size = some _ := Heap.get?_push_of_some _ (Heap.get?_push_size _ rfl)
  have g3 : (zmH5 b1 b2 s.heap l1 l2).get? (zmH2 b1 b2 s.heap l1 l2).objs.size = some _ := Heap.get?_push_of_some _ (Heap.get?_push_of_some _ (Heap.get?_push_size _ rfl))
  have g2 : (zmH5 b1 b2 s.heap l1 l2).get? (zmH1 b1 s.heap l1).objs.size = some _ := Heap.get?_push_of_some _ (Heap.get?_push_of_some _ (Heap.get?_push_of_some _ (Heap.get?_push_size _ rfl)))
  have g1 : (zmH5 b1 b2 s.heap l1 l2).get? s.heap.objs.size = some _ := Heap.get?_push_of_some _ (Heap.get?_push_of_some _ (Heap.get?_push_of_some _ (Heap.get?_push_of_some _ (Heap.get?_push_size _ rfl))))
  show _ ∧ _
  rw [y2, y3, y4] at g5
  rw [y1, y2] at g3
  rw [y3] at g4
  rw [y1] at g2
  rw [y4]
  have j1 : ItK b1 (zmH5 b1 b2 s.heap l1 l2) s.heap.objs.size l1 0 := by cases b1 <;> exact ⟨_, g1, rfl, rfl⟩
  have j2 : ItK b2 (zmH5 b1 b2 s.heap l1 l2) (s.heap.objs.size + 1) l2 0 := by cases b2 <;> exact ⟨_, g2, rfl, rfl⟩
  exact ⟨⟨_, g5, rfl⟩, h _ g5 g3 g4 j1 j2 y5 fun c o x => Heap.get?_push_of_some _ (Heap.get?_push_of_some _ (Heap.get?_push_of_some _ (Heap.get?_push_of_some _ (Heap.get?_push_of_some _ x))))⟩
end
/-- a list (true) or a tuple that is tracked -/
def SqV (b : Bool) (K : PySem.W.Frag) (H : Hp) (a : Addr) (xs : List V) : Prop := match b with
  | true => SqL K H a xs
  | false => SqT K H a xs
theorem SqV.inv {b : Bool} {X : Cx} {pins : List (Addr × Obj)} {σ : L2.St} {H : Hp} {s : Shared} {a : Addr} {xs : List V} (I : Inv X pins σ H s) (h : SqV b X.K H a xs) : ∃ its : List Value, Vals xs its ∧ SqK b s.heap a its.toArray := by
  cases b with
  | true => obtain ⟨its, rv, p, _⟩ := I.list h; exact ⟨its, rv, p.isList⟩
  | false => obtain ⟨its, rv, p, _⟩ := I.tuple h; exact ⟨its, rv, p⟩
theorem SqV.inj {b : Bool} {X : Cx} {pins : List (Addr × Obj)} {σ : L2.St} {H : Hp} {s : Shared} {a : Addr} {xs ys : List V} (I : Inv X pins σ H s) (h : SqV b X.K H a xs) (h' : SqV b X.K H a ys) : xs = ys := by
  cases b with
  | true => exact I.list_inj h h'
  | false => exact I.tuple_inj h h'
theorem SqK.lt {b : Bool} {h : Heap} {l : Addr} {xs : Array Value} (x : SqK b h l xs) : l < h.objs.size := by
  cases b with
  | true => obtain ⟨o, e, _⟩ := x; exact Heap.lt_size e
  | false => obtain ⟨o, e, _⟩ := x; exact Heap.lt_size e
/-- both rows as they stand at each turn -/
def ItzK (b1 b2 : Bool) (K : PySem.W.Frag) (a b : Addr) : It :=
  ⟨fun i H => ∃ (xs ys : List V) (x y : V), SqV b1 K H a xs ∧ SqV b2 K H b ys ∧ xs[i]? = some x ∧ ys[i]? = some y,
    fun i H v H' => ∃ T x y, v = .ref T ∧ H T = none ∧ H' = upd H T (.tup [x, y]) ∧ (∀ xs, SqV b1 K H a xs → xs[i]? = some x) ∧ ∀ ys, SqV b2 K H b ys → ys[i]? = some y,
    fun i H => ∃ xs ys : List V, SqV b1 K H a xs ∧ SqV b2 K H b ys ∧ (xs.length ≤ i ∨ ys.length ≤ i)⟩
def iZipK (K : PySem.W.Frag) (ta : TA) : TI := fun σ H R => ta σ H fun vs H1 => ∃ b1 b2 a b xs ys, vs = [.ref a, .ref b] ∧ SqV b1 K H1 a xs ∧ SqV b2 K H1 b ys ∧ R (ItzK b1 b2 K a b) H1
end DL

set_option Elab.async false
set_option linter.all false
set_option maxRecDepth 100000
set_option maxHeartbeats 1000000
/-! ELzk: for x, y in zip(a, b), each a list or a tuple -/
namespace DL
open PySem PySem.Spec PyProof.Rows L2 PySem.W
def seqR : D → Option (Bool × List D)
  | .lst xs => some (true, xs)
  | .tup xs => some (false, xs)
  | _ => none
def zipArgK : List D → Option (List D × List D)
  | [x, y] => match seqR x, seqR y with
    | some (_, xs), some (_, ys) => some (xs, ys)
    | _, _ => none
  | _ => none
theorem seq_rep {B : Addr → Prop} {H : Hp} {K : PySem.W.Frag} {v : V} {d : D} {t : Bool} {xs : List D} (r : Rep B H v d) (h : seqR d = some (t, xs)) : ∃ (a : Addr) (us : List V), v = .ref a ∧ ¬ B a ∧ (∀ H' : Hp, H' a = H a → SqV t K H' a us) ∧ RepL B H us xs ∧ H a ≠ none := by
  cases r with
  | lst na ea la => cases h; exact ⟨_, _, rfl, na, fun H' e => SqL.of (e.trans ea), la, by rw [ea]; simp⟩
  | tup na ea la => cases h; exact ⟨_, _, rfl, na, fun H' e => SqT.of (e.trans ea), la, by rw [ea]; simp⟩
  | non => cases h
  | bl => cases h
  | int => cases h
  | str => cases h
  | ty => cases h
  | obj => cases h
  | dK => cases h
  | dT => cases h
  | ins => cases h
def wZipM (a : WA) : WL := fun ρ k Q => a ρ k fun rs ρ1 k1 => ∃ ds ρ2 xs ys, frzL ρ1 rs = some (ds, ρ2) ∧ zipArgK ds = some (xs, ys) ∧ Q (zipD xs ys) ρ2 k1
@[simp] theorem s_ZipM {wa : WA} {ρ : En} {k : Kt} {QL : List D → En → Kt → Prop} : wZipM wa ρ k QL = wa ρ k fun rs ρ1 k1 => ∃ ds ρ2 xs ys, frzL ρ1 rs = some (ds, ρ2) ∧ zipArgK ds = some (xs, ys) ∧ QL (zipD xs ys) ρ2 k1 := rfl
@[simp] theorem s_zk1 {xs ys : List D} : zipArgK [.lst xs, .lst ys] = some (xs, ys) := rfl
@[simp] theorem s_zk2 {xs ys : List D} : zipArgK [.tup xs, .tup ys] = some (xs, ys) := rfl
@[simp] theorem s_zk3 {xs ys : List D} : zipArgK [.lst xs, .tup ys] = some (xs, ys) := rfl
@[simp] theorem s_zk4 {xs ys : List D} : zipArgK [.tup xs, .lst ys] = some (xs, ys) := rfl
section
variable {X : Cx} {pos ps' : Pos}
end
end DL

set_option Elab.async false
set_option linter.all false
set_option maxRecDepth 100000
set_option maxHeartbeats 1000000
/-! ELco: falling mirrors end alike, whichever of them is taken -/
namespace DL
open PySem PySem.Spec PyProof.Rows L2
def NN (n : Nat) (a : List Int) : Prop := ∀ i : Int, 0 ≤ i → i < n → 0 ≤ gI a i
/-- a row against a unit, both ways -/
def pr (ar : List (Int × Int)) (i : Int) (a : List Int) : Int := 2 * gI a i - outS ar i a - inS ar i a
/-- arrows between two points, either way -/
def mul (ar : List (Int × Int)) (i j : Int) : Int := (ar.map fun p => if (p.1 = i ∧ p.2 = j) ∨ (p.1 = j ∧ p.2 = i) then 1 else 0).sum
theorem mItem_pr {ar : List (Int × Int)} {i : Int} {a : List Int} : mItem ar i a = gI a i - pr ar i a := by rw [mItem, pr]; omega
theorem mul_comm' {i j : Int} {ar : List (Int × Int)} : mul ar i j = mul ar j i := by
  unfold mul
  refine congrArg List.sum (List.map_congr_left fun p _ => ?_)
  by_cases h : (p.1 = i ∧ p.2 = j) ∨ (p.1 = j ∧ p.2 = i)
  · rw [if_pos h, if_pos h.symm]
  · rw [if_neg h, if_neg fun z => h z.symm]
theorem pr_set {a : List Int} {i j x : Int} (hi : 0 ≤ i ∧ i < a.length) (hj : 0 ≤ j) (hne : j ≠ i) : ∀ ar : List (Int × Int), (∀ p ∈ ar, 0 ≤ p.1 ∧ 0 ≤ p.2 ∧ p.1 ≠ p.2) →
    outS ar j (a.set i.toNat x) + inS ar j (a.set i.toNat x) = outS ar j a + inS ar j a + mul ar i j * (x - gI a i)
  | [], _ => by simp [outS, inS, mul]
  | p :: r, h => by
    have ih := pr_set (x := x) hi hj hne r fun q hq => h q (List.mem_cons_of_mem _ hq)
    have hp := h p List.mem_cons_self
    simp only [outS, inS, mul, List.map_cons, List.sum_cons] at ih ⊢
    rw [gI_set hi hp.1, gI_set hi hp.2.1, Int.add_mul]
    by_cases h1 : p.1 = j
    · rw [if_pos h1, if_pos h1, if_neg (show ¬ p.2 = j by omega), if_neg (show ¬ p.2 = j by omega)]
      by_cases h2 : p.2 = i
      · rw [if_pos h2, if_pos (.inr ⟨h1, h2⟩), h2]; omega
      · rw [if_neg h2, if_neg (by omega)]; omega
    · rw [if_neg h1, if_neg h1]
      by_cases h2 : p.2 = j
      · rw [if_pos h2, if_pos h2]
        by_cases h3 : p.1 = i
        · rw [if_pos h3, if_pos (.inl ⟨h3, h2⟩), h3]; omega
        · rw [if_neg h3, if_neg (by omega)]; omega
      · rw [if_neg h2, if_neg h2, if_neg (by omega)]; omega
theorem gI_mirO {ar : List (Int × Int)} {a : List Int} {i j : Int} (hi : 0 ≤ i ∧ i < a.length) (hj : 0 ≤ j) : gI (mir ar a i) j = if j = i then gI a i - pr ar i a else gI a j := by rw [mir, gI_set hi hj, mItem_pr]
theorem pr_mir {ar : List (Int × Int)} {a : List Int} {i j : Int} (hi : 0 ≤ i ∧ i < a.length) (hj : 0 ≤ j) (hne : j ≠ i) (h : ∀ p ∈ ar, 0 ≤ p.1 ∧ 0 ≤ p.2 ∧ p.1 ≠ p.2) : pr ar j (mir ar a i) = pr ar j a + mul ar i j * pr ar i a := by
  have e := pr_set (x := mItem ar i a) hi hj hne ar h
  unfold pr
  rw [gI_mirO hi hj, if_neg hne]
  have e2 : mItem ar i a - gI a i = - pr ar i a := by rw [mItem_pr]; omega
  rw [e2, Int.mul_neg] at e
  rw [mir]
  unfold pr at e
  omega
theorem pr_mirS {ar : List (Int × Int)} {a : List Int} {i : Int} (hi : 0 ≤ i ∧ i < a.length) (h : ∀ p ∈ ar, 0 ≤ p.1 ∧ 0 ≤ p.2 ∧ p.1 ≠ p.2) : pr ar i (mir ar a i) = - pr ar i a := by
  have e := (outS_set (x := mItem ar i a) hi ar h)
  unfold pr
  rw [gI_mirO hi hi.1, if_pos rfl, mir, e.1, e.2]
  unfold pr
  omega
inductive Kd where
  | wd (e : List Int)
  | no
  | rl
def Kd.rt : Kd → Bool
  | .no => false
  | _ => true
def Kd.re : Kd → Bool
  | .rl => true
  | _ => false
def Kd.wi : Kd → Bool
  | .wd _ => true
  | _ => false
/-- where falling mirrors can end -/
inductive RK (n : Nat) (ar : List (Int × Int)) (hg : List Int → Prop) : List Int → Kd → Prop
  | wide {a : List Int} : (∀ i : Int, 0 ≤ i → i < n → pr ar i a ≤ 0) → hg a → RK n ar hg a (.wd a)
  | apart {a : List Int} : (∀ i : Int, 0 ≤ i → i < n → pr ar i a ≤ 0) → ¬ hg a → RK n ar hg a .no
  | real {i : Int} : 0 ≤ i → i < n → RK n ar hg (unL n i) .rl
  | neg {a : List Int} {i : Int} : 0 ≤ i → i < n → 0 < pr ar i a → a ≠ unL n i → mItem ar i a < 0 → RK n ar hg a .no
  | step {a : List Int} {i : Int} {κ : Kd} : 0 ≤ i → i < n → 0 < pr ar i a → a ≠ unL n i → 0 ≤ mItem ar i a → RK n ar hg (mir ar a i) κ → RK n ar hg a κ
theorem sum_set' : ∀ {xs : List Int} {m : Nat} {y : Int}, m < xs.length → (xs.set m y).sum = xs.sum - xs.getD m 0 + y
  | [], m, y, h => by simp at h
  | x :: r, 0, y, h => by simp; omega
  | x :: r, m + 1, y, h => by
    have := sum_set' (xs := r) (m := m) (y := y) (by simpa using h)
    simp only [List.set_cons_succ, List.sum_cons, List.getD_cons_succ]
    omega
theorem sum_mir {ar : List (Int × Int)} {a : List Int} {i : Int} (hi : 0 ≤ i ∧ i < a.length) : (mir ar a i).sum = a.sum - pr ar i a := by
  rw [mir, sum_set' (by omega), mItem_pr]
  have : a.getD i.toNat 0 = gI a i := rfl
  omega
theorem NN.mem {n : Nat} {a : List Int} (ha : a.length = n) (h : NN n a) : ∀ x ∈ a, 0 ≤ x := fun x hx => by
  obtain ⟨m, hm, rfl⟩ := List.getElem_of_mem hx
  have := h m (by omega) (by omega)
  unfold gI at this
  rwa [List.getD_eq_getElem?_getD, Int.toNat_natCast, List.getElem?_eq_getElem hm] at this
theorem NN.of {n : Nat} {a : List Int} (h : ∀ x ∈ a, 0 ≤ x) : NN n a := fun i h0 h1 => by
  unfold gI
  rw [List.getD_eq_getElem?_getD]
  cases q : a[i.toNat]? with
  | none => exact Int.le_refl 0
  | some y => exact h y (List.mem_of_getElem? q)
theorem sum_nn' : ∀ {xs : List Int}, (∀ x ∈ xs, 0 ≤ x) → 0 ≤ xs.sum
  | [], _ => by simp
  | x :: r, h => by
    have := sum_nn' (xs := r) fun y hy => h y (List.mem_cons_of_mem _ hy)
    have := h x List.mem_cons_self
    rw [List.sum_cons]
    omega
theorem NN.sum {n : Nat} {a : List Int} (ha : a.length = n) (h : NN n a) : 0 ≤ a.sum := sum_nn' (h.mem ha)
theorem NN.mir {n : Nat} {ar : List (Int × Int)} {a : List Int} {i : Int} (ha : a.length = n) (hi : 0 ≤ i ∧ i < n) (h : NN n a) (hm : 0 ≤ mItem ar i a) : NN n (mir ar a i) := fun j j0 j1 => by
  rw [gI_mirO (by omega) j0]
  rw [mItem_pr] at hm
  split
  · exact hm
  · exact h j j0 j1
variable {n : Nat} {ar : List (Int × Int)} {hg : List Int → Prop}
theorem RK.ex (hin : InA n ar) : ∀ (m : Nat) {a : List Int}, a.length = n → NN n a → a.sum < m → ∃ κ, RK n ar hg a κ
  | 0, a, ha, h0, hm => by
    have := h0.sum ha
    omega
  | m + 1, a, ha, h0, hm => by
    by_cases h : ∀ i : Int, 0 ≤ i → i < n → pr ar i a ≤ 0
    · by_cases g : hg a
      · exact ⟨_, .wide h g⟩
      · exact ⟨_, .apart h g⟩
    · obtain ⟨i, i0, i1, hp⟩ : ∃ i : Int, 0 ≤ i ∧ i < n ∧ 0 < pr ar i a := Classical.byContradiction fun z => h fun i i0 i1 => by
        by_cases q : pr ar i a ≤ 0
        · exact q
        · exact (z ⟨i, i0, i1, by omega⟩).elim
      by_cases u : a = unL n i
      · subst u; exact ⟨_, .real i0 i1⟩
      · by_cases mm : mItem ar i a < 0
        · exact ⟨_, .neg i0 i1 hp u mm⟩
        · obtain ⟨κ, hκ⟩ := RK.ex hin m (a := mir ar a i) (by rw [mir_len, ha]) (h0.mir ha ⟨i0, i1⟩ (by omega)) (by rw [sum_mir (by omega)]; omega)
          exact ⟨κ, .step i0 i1 hp u (by omega) hκ⟩
/-- what falling at a point gives -/
def Fall (n : Nat) (ar : List (Int × Int)) (hg : List Int → Prop) (a : List Int) (i : Int) (κ : Kd) : Prop := (mItem ar i a < 0 ∧ κ = .no) ∨ (0 ≤ mItem ar i a ∧ RK n ar hg (mir ar a i) κ)
theorem Fall.rk {a : List Int} {i : Int} {κ : Kd} (h : Fall n ar hg a i κ) (i0 : 0 ≤ i) (i1 : i < n) (hp : 0 < pr ar i a) (u : a ≠ unL n i) : RK n ar hg a κ := by
  rcases h with ⟨h1, rfl⟩ | ⟨h1, h2⟩
  · exact .neg i0 i1 hp u h1
  · exact .step i0 i1 hp u h1 h2
/-- what a mirror does to both -/
structure Two (ar : List (Int × Int)) (a : List Int) (i j : Int) : Prop where
  s1 : (mir ar a i).sum = a.sum - pr ar i a
  e12 : pr ar j (mir ar a i) = pr ar j a + mul ar i j * pr ar i a
  e11 : pr ar i (mir ar a i) = - pr ar i a
  g1 : gI (mir ar a i) j = gI a j
  g11 : gI (mir ar a i) i = gI a i - pr ar i a
theorem two (hin : InA n ar) {a : List Int} (ha : a.length = n) {i j : Int} (hi : 0 ≤ i ∧ i < n) (hj : 0 ≤ j ∧ j < n) (hij : i ≠ j) : Two ar a i j :=
  ⟨sum_mir (by omega), pr_mir (by omega) hj.1 (Ne.symm hij) hin.low, pr_mirS (by omega) hin.low, by rw [gI_mirO (by omega) hj.1, if_neg (Ne.symm hij)], by rw [gI_mirO (by omega) hi.1, if_pos rfl]⟩
abbrev Ih (n : Nat) (ar : List (Int × Int)) (hg : List Int → Prop) (a : List Int) : Prop := ∀ (b : List Int) (κ κ' : Kd), b.length = n → NN n b → b.sum < a.sum → RK n ar hg b κ → RK n ar hg b κ' → κ = κ'
/-- what is behind two mirrors -/
structure Three (n : Nat) (ar : List (Int × Int)) (a : List Int) (i j : Int) : Prop where
  l3 : (mir ar (mir ar a i) j).length = n
  i3 : mItem ar j (mir ar a i) = gI a j - pr ar j a - pr ar i a
  p3 : pr ar j (mir ar a i) = pr ar j a + pr ar i a
  e3 : pr ar i (mir ar (mir ar a i) j) = pr ar j a
  g3 : gI (mir ar (mir ar a i) j) i = gI a i - pr ar i a
  i5 : mItem ar i (mir ar (mir ar a i) j) = gI a i - pr ar i a - pr ar j a
theorem three (hin : InA n ar) {a : List Int} (ha : a.length = n) {i j : Int} (hi : 0 ≤ i ∧ i < n) (hj : 0 ≤ j ∧ j < n) (hij : i ≠ j) (m : mul ar i j = 1) : Three n ar a i j := by
  have l1 : (mir ar a i).length = n := by rw [mir_len, ha]
  obtain ⟨s1, e12, e11, g1, g11⟩ := two hin ha hi hj hij
  rw [m, Int.one_mul] at e12
  have e3 : pr ar i (mir ar (mir ar a i) j) = pr ar j a := by rw [pr_mir (by omega) hi.1 hij hin.low, mul_comm', m, e11, e12]; omega
  have g3 : gI (mir ar (mir ar a i) j) i = gI a i - pr ar i a := by rw [gI_mirO (by omega) hi.1, if_neg hij, g11]
  exact ⟨by rw [mir_len, l1], by rw [mItem_pr, e12, g1]; omega, e12, e3, g3, by rw [mItem_pr, e3, g3]⟩
end DL

set_option Elab.async false
set_option linter.all false
set_option maxRecDepth 100000
set_option maxHeartbeats 1000000
/-! ELls: rules of comprehensions with two fors -/
namespace DL
open PySem PySem.Spec PyProof.Rows L2
@[simp] theorem s_Lc2 {vs vs1 : List Nat} {it it1 : WL} {tg tg1 : WG} {ts ts1 : WT} {el : WE} {ρ : En} {k : Kt} {Q : List D → En → Kt → Prop} : wLc2 vs vs1 it tg ts it1 tg1 ts1 el ρ k Q = it ρ k fun ds ρ1 k1 => lc2W vs vs1 tg ts it1 tg1 ts1 el ds [] (wipeE ρ1 vs) (nxk k1) fun zs ρ2 k2 => Q zs ρ2 (rsk k1 k2) := rfl
/-- a turn of the outer loop -/
def lc2Step (vs vs1 : List Nat) (tg : WG) (ts : WT) (it1 : WL) (tg1 : WG) (ts1 : WT) (el : WE) (d : D) (acc : List D) (ρ : En) (k : Kt) (R : List D → En → Kt → Prop) : Prop := tg d ρ k fun ρ1 k1 => ts ρ1 k1 fun b ρ2 k2 => if b = true then it1 ρ2 k2 fun es ρ3 k3 => lcW vs1 tg1 ts1 el es acc (wipeE ρ3 vs1) k3 fun acc' ρ4 k4 => R acc' (wipeE ρ4 vs) k4
      else R acc (wipeE ρ2 vs) k2
end DL

set_option Elab.async false
set_option linter.all false
set_option maxRecDepth 100000
set_option maxHeartbeats 1000000
/-! ELso: rows sorted by their sums -/
namespace DL
open PySem PySem.Spec PyProof.Rows L2
/-- a row behind its sum -/
def tT (a : List Int) : D := .tup [.int a.sum, .tup (a.map .int)]
def leS (a b : List Int) : Prop := a.sum < b.sum ∨ (a.sum = b.sum ∧ a ≤ b)
instance (a b : List Int) : Decidable (leS a b) := by unfold leS; infer_instance
def sortT (xs : List (List Int)) : List (List Int) := xs.mergeSort fun a b => decide (leS a b)
/-! rows of rows -/
end DL

set_option Elab.async false
set_option linter.all false
set_option maxRecDepth 100000
set_option maxHeartbeats 4000000
/-! ELdt: determinants by whole steps: what the loops over a table in place compute; a table as a list of lists that nobody else holds -/
namespace DL
open PySem PySem.Spec PyProof.Rows L2
abbrev Rows := List (List Int)
def gG (rows : Rows) (i j : Nat) : Int := (rows.getD i []).getD j 0
def cellV (last : Int) (k i j : Nat) (rows : Rows) : Int := (gG rows i j * gG rows k k - gG rows i k * gG rows k j).fdiv last
def elimCell (last : Int) (k i j : Nat) (rows : Rows) : Rows := rows.set i ((rows.getD i []).set j (cellV last k i j rows))
def smZ (x : Int) : Bool := decide (x.natAbs < 4611686018427387904)
def cellOk (last : Int) (k i j : Nat) (rows : Rows) : Bool := last != 0 && decide (last.natAbs < 1073741824) && smZ (gG rows i j) && smZ (gG rows i k)
def elimR (last : Int) (k i : Nat) : Nat → Nat → Rows → Option Rows
  | 0, _, rows => some rows
  | m + 1, j, rows => if cellOk last k i j rows = true then elimR last k i m (j + 1) (elimCell last k i j rows) else none
def elimI (n : Nat) (last : Int) (k : Nat) : Nat → Nat → Rows → Option Rows
  | 0, _, rows => some rows
  | m + 1, i, rows => (elimR last k i (n - (k + 1)) (k + 1) rows).bind (elimI n last k m (i + 1))
def swapR (rows : Rows) (k h : Nat) : Rows := (rows.set k (rows.getD h [])).set h (rows.getD k [])
def headsN (n : Nat) (rows : Rows) (k : Nat) : List Nat := (List.range' k (n - k)).filter fun i => decide (gG rows i k ≠ 0)
def headAt (fst : Bool) : List Nat → Option Nat
  | [] => none
  | h :: t => some (if fst then h else (h :: t).getLast (by simp))
def detK (fst : Bool) (n : Nat) : Nat → Nat → Int → Int → Rows → Option Int
  | 0, _, _, sign, rows => some (sign * gG rows (n - 1) (n - 1))
  | m + 1, k, last, sign, rows => match headAt fst (headsN n rows k) with
    | none => some 0
    | some h => (elimI n last k (n - (k + 1)) (k + 1) (if h ≠ k then swapR rows k h else rows)).bind fun rows2 => detK fst n m (k + 1) (gG rows2 k k) (if h ≠ k then -sign else sign) rows2
def detF (fst : Bool) (rows : Rows) : Option Int := detK fst rows.length (rows.length - 1) 0 1 1 rows
def wfDet (fst : Bool) : WF := fun ds k P => ∃ (rows : Rows) (v : Int), ds = [.lst (rows.map fun r => .lst (r.map .int))] ∧ rows ≠ [] ∧ rows.length ≤ 1000 ∧ (∀ r ∈ rows, r.length = rows.length) ∧ detF fst rows = some v ∧ P (.int v) k

/-- a table in place: the list L of lists as, all new since H0 -/
structure Grid (H0 H : Hp) (L : Addr) (as : List Addr) (n : Nat) (rows : Rows) : Prop where
  l : H L = some (.lst (as.map V.ref))
  an : as.length = n
  rn : rows.length = n
  rl : ∀ r ∈ rows, r.length = n
  ra : ∀ (i : Nat) (a : Addr) (r : List Int), as[i]? = some a → rows[i]? = some r → H a = some (.lst (r.map V.int))
  inj : ∀ (i j : Nat) (a : Addr), as[i]? = some a → as[j]? = some a → i = j
  ne : L ∉ as
  kp : AExt H0 H
  fL : H0 L = none
  fa : ∀ a ∈ as, H0 a = none
section
variable {H0 H : Hp} {L : Addr} {as : List Addr} {n : Nat} {rows : Rows}
theorem Grid.wide (G : Grid H0 H L as n rows) {i : Nat} (hi : i < n) : (rows.getD i []).length = n := by
  have h : i < rows.length := by rw [G.rn]; exact hi
  rw [List.getD_eq_getElem?_getD, List.getElem?_eq_getElem h]
  exact G.rl _ (List.getElem_mem h)
theorem Grid.row (G : Grid H0 H L as n rows) {i : Nat} (hi : i < n) : ∃ a, as[i]? = some a ∧ H a = some (.lst ((rows.getD i []).map V.int)) := by
  have h : i < rows.length := by rw [G.rn]; exact hi
  have h' : i < as.length := by rw [G.an]; exact hi
  refine ⟨as[i], List.getElem?_eq_getElem h', ?_⟩
  rw [List.getD_eq_getElem?_getD, List.getElem?_eq_getElem h]
  exact G.ra i _ _ (List.getElem?_eq_getElem h') (List.getElem?_eq_getElem h)
theorem Grid.cell (G : Grid H0 H L as n rows) {i j : Nat} (hi : i < n) (hj : j < n) : ((rows.getD i []).map V.int)[j]? = some (.int (gG rows i j)) := by
  have w := G.wide hi
  have h : j < (rows.getD i []).length := by rw [w]; exact hj
  unfold gG
  generalize rows.getD i [] = r at h ⊢
  rw [List.getElem?_map, List.getD_eq_getElem?_getD, List.getElem?_eq_getElem h]
  rfl
theorem Grid.fresh (G : Grid H0 H L as n rows) {D : Addr} (hD : H D = none) : D ≠ L ∧ D ∉ as ∧ H0 D = none := by
  refine ⟨fun z => (by rw [z, G.l] at hD; cases hD), fun z => ?_, ?_⟩
  · obtain ⟨i, hi, e⟩ := List.mem_iff_getElem.mp z
    obtain ⟨a, e1, e2⟩ := G.row (i := i) (by rw [← G.an]; exact hi)
    rw [List.getElem?_eq_getElem hi, e] at e1
    cases e1
    rw [e2] at hD
    cases hD
  · cases e : H0 D with
    | none => rfl
    | some o => rw [G.kp _ _ e] at hD; cases hD
theorem Grid.other (G : Grid H0 H L as n rows) {D : Addr} {o : HO} (h : D ≠ L ∧ D ∉ as ∧ H0 D = none) : Grid H0 (upd H D o) L as n rows where
  l := by rw [upd_ne (Ne.symm h.1)]; exact G.l
  an := G.an
  rn := G.rn
  rl := G.rl
  ra := fun i a r h1 h2 => by
    have na : a ≠ D := fun z => h.2.1 (by rw [← z]; exact List.mem_of_getElem? h1)
    rw [upd_ne na]
    exact G.ra i a r h1 h2
  inj := G.inj
  ne := G.ne
  kp := fun b u hb => by
    have nb : b ≠ D := fun z => by rw [z, h.2.2] at hb; cases hb
    rw [upd_ne nb]
    exact G.kp b u hb
  fL := G.fL
  fa := G.fa
theorem mem_of_get? {α : Type} {xs : List α} {i : Nat} {x : α} (h : xs[i]? = some x) : x ∈ xs := by
  obtain ⟨h1, h2⟩ := List.getElem?_eq_some_iff.mp h
  rw [← h2]; exact List.getElem_mem h1
theorem Grid.put (G : Grid H0 H L as n rows) {i : Nat} {a : Addr} {r : List Int} (hi : i < n) (ha : as[i]? = some a) (hr : r.length = n) : Grid H0 (upd H a (.lst (r.map V.int))) L as n (rows.set i r) where
  l := by
    have na : L ≠ a := fun e => G.ne (by rw [e]; exact mem_of_get? ha)
    rw [upd_ne na]; exact G.l
  an := G.an
  rn := by rw [List.length_set]; exact G.rn
  rl := fun x hx => by
    rcases List.mem_or_eq_of_mem_set hx with h | h
    · exact G.rl x h
    · rw [h]; exact hr
  ra := fun m b s h1 h2 => by
    by_cases e : m = i
    · subst e
      rw [ha] at h1
      cases h1
      rw [List.getElem?_set_self (by rw [G.rn]; exact hi)] at h2
      cases h2
      exact upd_same
    · rw [List.getElem?_set_ne (Ne.symm e)] at h2
      have nb : b ≠ a := fun z => e (G.inj m i b h1 (by rw [z]; exact ha))
      rw [upd_ne nb]
      exact G.ra m b s h1 h2
  inj := G.inj
  ne := G.ne
  kp := fun b o h => by
    have nb : b ≠ a := fun z => by rw [z, G.fa a (mem_of_get? ha)] at h; cases h
    rw [upd_ne nb]; exact G.kp b o h
  fL := G.fL
  fa := G.fa
theorem get_set2 {α : Type} {xs : List α} {k h m : Nat} {x y : α} (hk : k < xs.length) (hh : h < xs.length) : ((xs.set k x).set h y)[m]? = if m = h then some y else if m = k then some x else xs[m]? := by
  by_cases e : m = h
  · subst e
    rw [if_pos rfl, List.getElem?_set_self (by rw [List.length_set]; exact hh)]
  · rw [if_neg e, List.getElem?_set_ne (Ne.symm e)]
    by_cases e2 : m = k
    · subst e2
      rw [if_pos rfl, List.getElem?_set_self hk]
    · rw [if_neg e2, List.getElem?_set_ne (Ne.symm e2)]
theorem Grid.swap (G : Grid H0 H L as n rows) {k h : Nat} {a b : Addr} (hk : k < n) (hh : h < n) (ne : h ≠ k) (ha : as[k]? = some a) (hb : as[h]? = some b) :
    Grid H0 (upd H L (.lst (((as.map V.ref).set k (.ref b)).set h (.ref a)))) L ((as.set k b).set h a) n (swapR rows k h) where
  l := by rw [upd_same, List.map_set, List.map_set]
  an := by rw [List.length_set, List.length_set]; exact G.an
  rn := by rw [swapR, List.length_set, List.length_set]; exact G.rn
  rl := fun x hx => by
    rcases List.mem_or_eq_of_mem_set hx with h1 | h1
    · rcases List.mem_or_eq_of_mem_set h1 with h2 | h2
      · exact G.rl x h2
      · rw [h2]; exact G.wide hh
    · rw [h1]; exact G.wide hk
  ra := fun m c s h1 h2 => by
    rw [get_set2 (by rw [G.an]; exact hk) (by rw [G.an]; exact hh)] at h1
    rw [swapR, get_set2 (by rw [G.rn]; exact hk) (by rw [G.rn]; exact hh)] at h2
    have look : ∀ (i : Nat) (c : Addr), i < n → as[i]? = some c → (upd H L (.lst (((as.map V.ref).set k (.ref b)).set h (.ref a)))) c = some (.lst ((rows.getD i []).map V.int)) := fun i c hi hc => by
      obtain ⟨c', e1, e2⟩ := G.row hi
      rw [hc] at e1
      cases e1
      have nc : c ≠ L := fun z => G.ne (by rw [← z]; exact mem_of_get? hc)
      rw [upd_ne nc]; exact e2
    by_cases e : m = h
    · rw [if_pos e] at h1 h2
      cases h1; cases h2
      exact look k _ hk ha
    · rw [if_neg e] at h1 h2
      by_cases e2 : m = k
      · rw [if_pos e2] at h1 h2
        cases h1; cases h2
        exact look h _ hh hb
      · rw [if_neg e2] at h1 h2
        have nc : c ≠ L := fun z => G.ne (by rw [← z]; exact mem_of_get? h1)
        rw [upd_ne nc]; exact G.ra m c s h1 h2
  inj := fun i j c h1 h2 => by
    have hne : a ≠ b := fun z => ne (G.inj h k b hb (by rw [← z]; exact ha))
    rw [get_set2 (by rw [G.an]; exact hk) (by rw [G.an]; exact hh)] at h1 h2
    by_cases e : i = h
    · rw [if_pos e] at h1
      cases h1
      by_cases f : j = h
      · omega
      · rw [if_neg f] at h2
        by_cases f2 : j = k
        · rw [if_pos f2] at h2; cases h2; exact absurd rfl hne
        · rw [if_neg f2] at h2
          exact absurd (G.inj j k _ h2 ha) f2
    · rw [if_neg e] at h1
      by_cases e2 : i = k
      · rw [if_pos e2] at h1
        cases h1
        by_cases f : j = h
        · rw [if_pos f] at h2; cases h2; exact absurd rfl hne
        · rw [if_neg f] at h2
          by_cases f2 : j = k
          · omega
          · rw [if_neg f2] at h2
            exact absurd (G.inj j h _ h2 hb) f
      · rw [if_neg e2] at h1
        by_cases f : j = h
        · rw [if_pos f] at h2; cases h2; exact absurd (G.inj i k _ h1 ha) e2
        · rw [if_neg f] at h2
          by_cases f2 : j = k
          · rw [if_pos f2] at h2; cases h2; exact absurd (G.inj i h _ h1 hb) e
          · rw [if_neg f2] at h2
            exact G.inj i j c h1 h2
  ne := fun hx => by
    rcases List.mem_or_eq_of_mem_set hx with h1 | h1
    · rcases List.mem_or_eq_of_mem_set h1 with h2 | h2
      · exact G.ne h2
      · exact G.ne (by rw [h2]; exact mem_of_get? hb)
    · exact G.ne (by rw [h1]; exact mem_of_get? ha)
  kp := fun c o hc => by
    have nc : c ≠ L := fun z => by rw [z, G.fL] at hc; cases hc
    rw [upd_ne nc]; exact G.kp c o hc
  fL := G.fL
  fa := fun c hc => by
    rcases List.mem_or_eq_of_mem_set hc with h1 | h1
    · rcases List.mem_or_eq_of_mem_set h1 with h2 | h2
      · exact G.fa c h2
      · rw [h2]; exact G.fa b (mem_of_get? hb)
    · rw [h1]; exact G.fa a (mem_of_get? ha)
end
theorem atI_last {α : Type} {xs : List α} {n : Nat} {x : α} (hn : xs.length = n) (h0 : 0 < n) (h : xs[n - 1]? = some x) : atI xs (-1) = some x := by
  unfold atI ixN
  rw [if_neg (by decide), if_pos (by omega)]
  show xs[((-1 : Int) + (xs.length : Int)).toNat]? = some x
  rw [hn, show ((-1 : Int) + (n : Int)).toNat = n - 1 by omega]
  exact h
section
variable {K : PySem.W.Frag} {H0 H : Hp} {L : Addr} {as : List Addr} {n : Nat} {rows : Rows} {σ : L2.St} {Q : VK}
abbrev tV (i : Nat) : TE := fun σ H Q => ∃ v, σ[i]? = some (some v) ∧ Q v H
end
def rListOf (K : PySem.W.Frag) : List V → Hp → VK → Prop := fun xs H Q => ∃ p ys, xs = [V.ref p] ∧ (SqL K H p ys ∨ SqT K H p ys) ∧ ∀ l, H l = none → Q (.ref l) (upd H l (.lst ys))
end DL

set_option Elab.async false
set_option linter.all false
set_option maxRecDepth 100000
set_option maxHeartbeats 4000000
/-! ELpp: three names stored at once -/
namespace DL
open PySem PySem.Spec PyProof.Rows L2
section
variable {X : Cx} {pos : Pos}
/-- a, b, c = e1, e2, e3 -/
def wPar3 (i j l : Nat) (a b c : WE) : WS := fun E ρ k => a ρ k fun r1 ρ1 k1 => b ρ1 k1 fun r2 ρ2 k2 => c ρ2 k2 fun r3 ρ3 k3 => ∃ ds ρ4, frzL ρ3 [r1, r2, r3] = some (ds, ρ4) ∧ ∃ x y z, ds = [x, y, z] ∧ E.nx (((ρ4.set i (.val x)).set j (.val y)).set l (.val z)) k3
end
@[simp] theorem s_Par3 {ρ : En} {k : Kt} {E : DEnds} {i j l : Nat} {a b c : WE} : wPar3 i j l a b c E ρ k = a ρ k fun r1 ρ1 k1 => b ρ1 k1 fun r2 ρ2 k2 => c ρ2 k2 fun r3 ρ3 k3 => ∃ ds ρ4, frzL ρ3 [r1, r2, r3] = some (ds, ρ4) ∧ ∃ x y z, ds = [x, y, z] ∧ E.nx (((ρ4.set i (.val x)).set j (.val y)).set l (.val z)) k3 := rfl
end DL

set_option Elab.async false
set_option linter.all false
set_option maxRecDepth 100000
/-! ELfc: numbers made plain before they are kept: for reckoning in the kernel -/
namespace DL
open PySem PySem.Spec PyProof.Rows L2
def fN {α : Type} (n : Nat) (k : Nat → α) : α := match n with
  | 0 => k 0
  | m + 1 => k (Nat.succ m)
def fI {α : Type} (x : Int) (k : Int → α) : α := match x with
  | .ofNat n => fN n fun m => k (.ofNat m)
  | .negSucc n => fN n fun m => k (.negSucc m)
def fL {α : Type} : List Int → (List Int → α) → α
  | [], k => k []
  | x :: r, k => fI x fun x' => fL r fun r' => k (x' :: r')
def fR {α : Type} : Rows → (Rows → α) → α
  | [], k => k []
  | x :: r, k => fL x fun x' => fR r fun r' => k (x' :: r')
def fA {α : Type} : List (Int × Int) → (List (Int × Int) → α) → α
  | [], k => k []
  | (x, y) :: r, k => fI x fun x' => fI y fun y' => fA r fun r' => k ((x', y') :: r')
/-! determinants -/
def elimR2 (last : Int) (k i : Nat) : Nat → Nat → Rows → Option Rows
  | 0, _, rows => some rows
  | m + 1, j, rows => match cellOk last k i j rows with
    | true => fI (cellV last k i j rows) fun v => fR (rows.set i ((rows.getD i []).set j v)) fun rows' => elimR2 last k i m (j + 1) rows'
    | false => none
def elimI2 (n : Nat) (last : Int) (k : Nat) : Nat → Nat → Rows → Option Rows
  | 0, _, rows => some rows
  | m + 1, i, rows => match elimR2 last k i (n - (k + 1)) (k + 1) rows with
    | some rows' => elimI2 n last k m (i + 1) rows'
    | none => none
def detK2 (fst : Bool) (n : Nat) : Nat → Nat → Int → Int → Rows → Option Int
  | 0, _, _, sign, rows => some (sign * gG rows (n - 1) (n - 1))
  | m + 1, k, last, sign, rows => match headAt fst (headsN n rows k) with
    | none => some 0
    | some h => fR (if h ≠ k then swapR rows k h else rows) fun rows1 => match elimI2 n last k (n - (k + 1)) (k + 1) rows1 with
      | none => none
      | some rows2 => fI (gG rows2 k k) fun l => fI (if h ≠ k then -sign else sign) fun s => detK2 fst n m (k + 1) l s rows2
def detF2 (fst : Bool) (rows : Rows) : Option Int := detK2 fst rows.length (rows.length - 1) 0 1 1 rows
end DL

set_option Elab.async false
set_option linter.all false
set_option maxRecDepth 100000
set_option maxHeartbeats 4000000
/-! ELst: sorted(set(x)) of rows of one length -/
namespace DL
open PySem PySem.Spec PyProof.Rows L2
def fSortSet : FN := fun ds P => ∃ (d : Nat) (B : Int) (xs : List (List Int)), ds = [.lst (xs.map fun r => .tup (r.map .int))] ∧ 1 ≤ d ∧ (∀ r ∈ xs, r.length = d ∧ ∀ m ∈ r, 0 ≤ m ∧ m < B) ∧ xs.length < 64 ∧
  ∀ ys : List (List Int), ys.Nodup → (∀ y, y ∈ ys ↔ y ∈ xs) → P (.lst (ys.map fun r => .tup (r.map .int)))
def rSortSet (K : PySem.W.Frag) (P : Program) (w : World) : List V → Hp → VK → Prop := fun vs H Q => rSetOfT K P w vs H fun v H1 => rSortedT K P w [v] H1 Q
section
variable {X : Cx} {pos pos2 ps1 ps2 : Pos} {e : Expr} {wa : WA}
end
@[simp] theorem s_sortSet {xs : List D} {P : D → Prop} : fSortSet [.lst xs] P = ∃ (d : Nat) (B : Int) (rs : List (List Int)), [D.lst xs] = [.lst (rs.map fun r => .tup (r.map .int))] ∧ 1 ≤ d ∧ (∀ r ∈ rs, r.length = d ∧ ∀ m ∈ r, 0 ≤ m ∧ m < B) ∧ rs.length < 64 ∧
  ∀ ys : List (List Int), ys.Nodup → (∀ y, y ∈ ys ↔ y ∈ rs) → P (.lst (ys.map fun r => .tup (r.map .int))) := rfl
end DL

set_option Elab.async false
set_option linter.all false
set_option maxRecDepth 100000
set_option maxHeartbeats 4000000
/-! ELsd: sorted(set(x)) of rows of any lengths -/
namespace DL
open PySem PySem.Spec PyProof.Rows L2 PySem.W
def tIn (ns : List Int) : PyData := .tuple (ns.map .int)
abbrev leT (q r : Addr × List Int) : Bool := dataLe false (fun q : Addr × List Int => tIn q.2) q r
section
variable {P : Program} {w : World} {A : Around} {E : Value → Shared → Prop} {s : Shared}
end
def rSortedTD (K : PySem.W.Frag) (P : Program) (w : World) : List V → Hp → VK → Prop := fun vs H Q => ∃ (a : Addr) (L : List (Addr × List Int)), vs = [V.ref a] ∧ H a = some (SetTO P w a L) ∧ (∀ p ∈ L, SqT K H p.1 (p.2.map V.int)) ∧
  (∀ L1 : List (Addr × List Int), (∀ q ∈ L1, q ∈ L) → AllAlike (L1.map fun q => tIn q.2) ∧ Sortable (L1.map fun q => tIn q.2)) ∧
  ∀ (L1 : List (Addr × List Int)) (p : Addr), L1.Perm L → (L1.map (·.2)).Nodup → H p = none → Q (.ref p) (upd H p (.lst ((L1.mergeSort leT).map fun q => V.ref q.1)))
section
variable {X : Cx}
end
def rSortSetN (K : PySem.W.Frag) (P : Program) (w : World) : List V → Hp → VK → Prop := fun vs H Q => rSetOfT K P w vs H fun v H1 => rSortedTD K P w [v] H1 Q
def ltL : List Int → List Int → Bool
  | [], [] => false
  | [], _ :: _ => true
  | _ :: _, [] => false
  | x :: a, y :: b => if x = y then ltL a b else decide (x < y)
/-- sorted(set(rows)): the rows, each once, ascending -/
def fSortSetN : FN := fun ds P => ∃ rows : List (List Int), ds = [.lst (rows.map fun r => .tup (r.map .int))] ∧ rows.length < 64 ∧ (∀ r ∈ rows, r ≠ []) ∧
  ∀ ys : List (List Int), ys.Nodup → (∀ y, y ∈ ys ↔ y ∈ rows) → ys.Pairwise (fun a b => ltL b a = false) → P (.lst (ys.map fun r => .tup (r.map .int)))
section
variable {X : Cx} {pos pos2 ps1 ps2 : Pos} {e : Expr} {wa : WA}
end
@[simp] theorem s_sortSetN {xs : List D} {P : D → Prop} : fSortSetN [.lst xs] P = ∃ rows : List (List Int), [D.lst xs] = [.lst (rows.map fun r => .tup (r.map .int))] ∧ rows.length < 64 ∧ (∀ r ∈ rows, r ≠ []) ∧
  ∀ ys : List (List Int), ys.Nodup → (∀ y, y ∈ ys ↔ y ∈ rows) → ys.Pairwise (fun a b => ltL b a = false) → P (.lst (ys.map fun r => .tup (r.map .int))) := rfl
end DL

set_option Elab.async false
set_option linter.all false
set_option maxRecDepth 100000
/-! ELfm: mirrors, rounds, orders and ways, reckoned quickly (in the kernel) -/
namespace DL
open PySem PySem.Spec PyProof.Rows L2
def gN : List Int → Nat → Int
  | [], _ => 0
  | x :: _, 0 => x
  | _ :: r, i + 1 => gN r i
/-- an item put in its place, the row laid anew -/
def fS {α : Type} : List Int → Nat → Int → (List Int → α) → α
  | [], _, _, k => k []
  | _ :: r, 0, v, k => k (v :: r)
  | x :: r, i + 1, v, k => fS r i v fun r' => k (x :: r')
def nbS (a : List Int) : List Nat → Int
  | [] => 0
  | j :: r => gN a j + nbS a r
def nbL (i : Int) : List (Int × Int) → List Nat
  | [] => []
  | p :: r => if p.1 = i then p.2.toNat :: nbL i r else if p.2 = i then p.1.toNat :: nbL i r else nbL i r
def fNs {α : Type} : List Nat → (List Nat → α) → α
  | [], k => k []
  | x :: r, k => fN x fun x' => fNs r fun r' => k (x' :: r')
def fNt {α : Type} : List (List Nat) → (List (List Nat) → α) → α
  | [], k => k []
  | x :: r, k => fNs x fun x' => fNt r fun r' => k (x' :: r')
def lN : List (List Nat) → Nat → List Nat
  | [], _ => []
  | x :: _, 0 => x
  | _ :: r, i + 1 => lN r i
def nbT (n : Nat) (ar : List (Int × Int)) : List (List Nat) := (List.range n).map fun i : Nat => nbL (i : Int) ar
def fmirK {α : Type} (nb : List (List Nat)) (a : List Int) (i : Nat) (k : List Int → α) : α := fI (nbS a (lN nb i) - gN a i) fun v => fS a i v k
def froundK {α : Type} (nb : List (List Nat)) : List Nat → List Int → (List Int → α) → α
  | [], a, k => k a
  | i :: r, a, k => fmirK nb a i fun a' => froundK nb r a' k
def negB : List Int → Bool
  | [] => false
  | .negSucc _ :: _ => true
  | .ofNat _ :: r => negB r
def posB : List Int → Bool
  | [] => false
  | .negSucc _ :: r => posB r
  | .ofNat 0 :: r => posB r
  | .ofNat (_ + 1) :: _ => true
/-- a row led on as long as it is of sizes: the rows, the end -/
def ledR (g : List Int → List Int) : Nat → List Int → List (List Int) × List Int
  | 0, a => ([], a)
  | f + 1, a => if negB a = true then ([], a) else (a :: (ledR g f (g a)).1, (ledR g f (g a)).2)
def ledK {α : Type} (nb : List (List Nat)) (F : List Nat) : Nat → List Int → List (List Int) → (List (List Int) → List Int → α) → α
  | 0, a, acc, k => k acc a
  | f + 1, a, acc, k => match negB a with
    | true => k acc a
    | false => froundK nb F a fun a' => ledK nb F f a' (a :: acc) k
/-! rows as numbers -/
def codeN : List Int → Nat
  | [] => 0
  | x :: r => x.toNat + 64 * codeN r
def memN (c : Nat) : List Nat → Bool
  | [] => false
  | x :: r => match Nat.beq c x with
    | true => true
    | false => memN c r
/-! arrows in order -/
def insP (p : Int × Int) : List (Int × Int) → List (Int × Int)
  | [] => [p]
  | q :: r => if leP p q then p :: q :: r else q :: insP p r
def isortP : List (Int × Int) → List (Int × Int)
  | [] => []
  | p :: r => insP p (isortP r)
theorem insP_perm (p : Int × Int) : ∀ xs, (insP p xs).Perm (p :: xs)
  | [] => .refl _
  | q :: r => by
    rw [insP]
    split
    · exact .refl _
    · exact ((insP_perm p r).cons q).trans (.swap p q r)
theorem isortP_perm : ∀ xs, (isortP xs).Perm xs
  | [] => .refl _
  | p :: r => (insP_perm p _).trans ((isortP_perm r).cons p)
theorem leP_total (p q : Int × Int) : leP p q = true ∨ leP q p = true := by
  simp only [leP, decide_eq_true_eq]; omega
theorem leP_trans {p q r : Int × Int} (h : leP p q = true) (g : leP q r = true) : leP p r = true := by
  simp only [leP, decide_eq_true_eq] at h g ⊢; omega
theorem leP_anti {p q : Int × Int} (h : leP p q = true) (g : leP q p = true) : p = q := by
  simp only [leP, decide_eq_true_eq] at h g
  exact Prod.ext (by omega) (by omega)
theorem insP_sorted (p : Int × Int) : ∀ xs : List (Int × Int), xs.Pairwise (fun a b => leP a b = true) → (insP p xs).Pairwise fun a b => leP a b = true
  | [], _ => by simp [insP]
  | q :: r, h => by
    rw [List.pairwise_cons] at h
    rw [insP]
    split
    · next e => exact List.pairwise_cons.mpr ⟨fun x hx => (List.mem_cons.mp hx).elim (fun z => by rw [z]; exact e) fun z => leP_trans e (h.1 x z), List.pairwise_cons.mpr h⟩
    · next e =>
      refine List.pairwise_cons.mpr ⟨fun x hx => ?_, insP_sorted p r h.2⟩
      rcases List.mem_cons.mp ((insP_perm p r).mem_iff.mp hx) with z | z
      · rw [z]; exact (leP_total p q).resolve_left e
      · exact h.1 x z
theorem isortP_sorted : ∀ xs : List (Int × Int), (isortP xs).Pairwise fun a b => leP a b = true
  | [] => .nil
  | p :: r => insP_sorted p _ (isortP_sorted r)
theorem isortP_eq {xs ys : List (Int × Int)} (h : xs.Perm ys) : isortP xs = sortP ys := by
  have s2 : (sortP ys).Pairwise fun a b => leP a b = true := List.pairwise_mergeSort (le := leP) (fun a b c h g => leP_trans h g) (fun a b => by rcases leP_total a b with z | z <;> simp [z]) ys
  have key : ∀ {l m : List (Int × Int)}, l.Perm m → l.Pairwise (fun a b => leP a b = true) → m.Pairwise (fun a b => leP a b = true) → l = m := by
    intro l
    induction l with
    | nil => intro m h _ _; exact h.symm.eq_nil.symm
    | cons x r ih =>
      intro m h hl hm
      cases m with
      | nil => exact absurd h.eq_nil (by simp)
      | cons y s =>
        rw [List.pairwise_cons] at hl hm
        have e : x = y := by
          rcases List.mem_cons.mp (h.mem_iff.mp List.mem_cons_self) with z | z
          · exact z
          · rcases List.mem_cons.mp (h.mem_iff.mpr List.mem_cons_self) with z' | z'
            · exact z'.symm
            · exact leP_anti (hl.1 y z') (hm.1 x z)
        subst e
        rw [ih h.cons_inv hl.2 hm.2]
  exact key ((isortP_perm xs).trans (h.trans (sortP_perm ys).symm)) (isortP_sorted xs) s2
end DL

set_option Elab.async false
set_option linter.all false
set_option maxRecDepth 100000
/-! ELfw: rows of ways reckoned quickly; signs of rows -/
namespace DL
open PySem PySem.Spec PyProof.Rows L2
def wayK {α : Type} (pt : Int) : List (Int × Int) → List Int → (List Int → α) → α
  | [], w, k => k w
  | p :: r, w, k => if p.1 = pt then fI (gI w p.2 + gI w pt) fun v => fS w p.2.toNat v fun w' => wayK pt r w' k else wayK pt r w k
def waysK {α : Type} (ar : List (Int × Int)) : List Int → List Int → (List Int → α) → α
  | [], w, k => k w
  | pt :: r, w, k => wayK pt ar w fun w' => waysK ar r w' k
def eqB : List Int → List Int → Bool
  | [], [] => true
  | x :: a, y :: b => if x = y then eqB a b else false
  | _, _ => false
/-- the places behind one -/
def behind (i : Int) : List Int → List Int
  | [] => []
  | x :: r => if x = i then r else behind i r
def smB64 : List Int → Bool
  | [] => true
  | x :: r => if 0 ≤ x ∧ x < 64 then smB64 r else false
def nodN : List Nat → Bool
  | [] => true
  | x :: r => match memN x r with
    | true => false
    | false => nodN r
/-! one row added to another -/
def addL : List Int → List Int → List Int
  | x :: a, y :: b => (x + y) :: addL a b
  | _, _ => []
end DL

set_option Elab.async false
set_option linter.all false
set_option maxRecDepth 100000
set_option maxHeartbeats 4000000
/-! ELsr: rows of ints sorted -/
namespace DL
open PySem PySem.Spec PyProof.Rows L2
abbrev tI (a : List Int) : D := .tup (a.map .int)
def sortR (xs : List (List Int)) : List (List Int) := xs.mergeSort fun a b => decide (a ≤ b)
end DL

set_option Elab.async false
set_option linter.all false
set_option maxRecDepth 100000
set_option maxHeartbeats 4000000
/-! ELdp: leading determinants above nought make a form positive, up to five -/
namespace DL
open PySem PySem.Spec PyProof.Rows L2
def c3 (a00 a01 a0i a0j a11 a1i a1j aij : Int) : Int := a00 * (a11 * aij - a1j * a1i) - a01 * (a01 * aij - a1j * a0i) + a0j * (a01 * a1i - a11 * a0i)
end DL

set_option Elab.async false
set_option linter.all false
set_option maxRecDepth 100000
set_option maxHeartbeats 4000000
/-! ELdq: what the steps of a determinant leave; when they come to an end -/
namespace DL
open PySem PySem.Spec PyProof.Rows L2
def Sq (n : Nat) (rows : Rows) : Prop := rows.length = n ∧ ∀ r ∈ rows, r.length = n
theorem Sq.row {n : Nat} {rows : Rows} (h : Sq n rows) {i : Nat} (hi : i < n) : (rows.getD i []).length = n := by
  rw [List.getD_eq_getElem?_getD, List.getElem?_eq_getElem (by rw [h.1]; exact hi)]
  exact h.2 _ (List.getElem_mem _)
theorem Sq.set {n : Nat} {rows : Rows} (h : Sq n rows) {i : Nat} {r : List Int} (hr : r.length = n) : Sq n (rows.set i r) :=
  ⟨by rw [List.length_set]; exact h.1, fun x hx => by
    rcases List.mem_or_eq_of_mem_set hx with h1 | h1
    · exact h.2 x h1
    · rw [h1]; exact hr⟩
mutual
def Ek (A : Nat → Nat → Int) : Nat → Nat → Nat → Int
  | 0, i, j => A i j
  | k + 1, i, j => (Ek A k i j * Ek A k k k - Ek A k i k * Ek A k k j).fdiv (lastE A k)
def lastE (A : Nat → Nat → Int) : Nat → Int
  | 0 => 1
  | k + 1 => Ek A k k k
end
/-- an end there is -/
def Bd (B : Int) (rows : Rows) : Prop := ∀ a b, -B ≤ gG rows a b ∧ gG rows a b ≤ B
def okB : Nat → Int → Bool
  | 0, _ => true
  | m + 1, B => decide (1 ≤ B) && decide (B < 4611686018427387904) && (decide (m = 0) || decide (B < 1073741824)) && okB m (2 * (B * B))
end DL

set_option Elab.async false
set_option linter.all false
set_option maxRecDepth 100000
set_option maxHeartbeats 4000000
/-! ELde: determinants up to five, by whole steps, whichever row leads -/
namespace DL
open PySem PySem.Spec PyProof.Rows L2
abbrev Mt := Nat → Nat → Int
def t2 (M : Mt) (i j : Nat) : Int := M 0 i * M 1 j - M 0 j * M 1 i
def t3 (M : Mt) (i j k : Nat) : Int := M 2 k * t2 M i j - M 2 j * t2 M i k + M 2 i * t2 M j k
def t4 (M : Mt) (i j k l : Nat) : Int := M 3 l * t3 M i j k - M 3 k * t3 M i j l + M 3 j * t3 M i k l - M 3 i * t3 M j k l
def mk (M : Mt) : Nat → Nat → Nat → Int
  | 0, a, b => M a b
  | 1, a, b => M 0 0 * M a b - M 0 b * M a 0
  | 2, a, b => M a b * t2 M 0 1 - M a 1 * t2 M 0 b + M a 0 * t2 M 1 b
  | 3, a, b => M a b * t3 M 0 1 2 - M a 2 * t3 M 0 1 b + M a 1 * t3 M 0 2 b - M a 0 * t3 M 1 2 b
  | _, a, b => M a b * t4 M 0 1 2 3 - M a 3 * t4 M 0 1 2 b + M a 2 * t4 M 0 1 3 b - M a 1 * t4 M 0 2 3 b + M a 0 * t4 M 1 2 3 b
theorem st0 (M : Mt) (a b : Nat) : mk M 0 a b * mk M 0 0 0 - mk M 0 a 0 * mk M 0 0 b = mk M 1 a b := by
  simp only [mk]; grind
def cR (M : Mt) (k : Nat) (w : Nat → Int) : Mt := fun i j => if j = k then w i else M i j
def swM (M : Mt) (k h : Nat) : Mt := fun i j => if i = k then M h j else if i = h then M k j else M i j
end DL

set_option Elab.async false
set_option linter.all false
set_option maxRecDepth 100000
set_option maxHeartbeats 4000000
/-! ELdh: what the steps of a determinant come to, whichever row leads -/
namespace DL
open PySem PySem.Spec PyProof.Rows L2
def lastM (M : Mt) : Nat → Int
  | 0 => 1
  | k + 1 => mk M k k k
end DL

set_option Elab.async false
set_option linter.all false
set_option maxRecDepth 100000
set_option maxHeartbeats 1000000
/-! ELtx: texts: split, join, str(int), int(text), a sign in a text, list(text), text[::-1] -/
namespace DL
open PySem PySem.Spec PyProof.Rows L2
section
variable {X : Cx} {pos : Pos}
/-- a.split(b) -/
def wSplit (wo we : WE) : WL := fun ρ k Q => wo ρ k fun x ρ1 k1 => ∃ a : Str, deref ρ1 x = some (.str a) ∧ we ρ1 k1 fun y ρ2 k2 => ∃ b : Str, deref ρ2 y = some (.str b) ∧ (b.length == 0) = false ∧ a.length + 2 ≤ sizeLine ∧ Q ((Txt.split a b).map .str) ρ2 k2
/-- a.join(b) -/
def wJoin (wo we : WE) : WE := fun ρ k Q => wo ρ k fun x ρ1 k1 => ∃ a : Str, deref ρ1 x = some (.str a) ∧ we ρ1 k1 fun y ρ2 k2 => ∃ (d : D) (ys : List Str), deref ρ2 y = some d ∧ (d = .lst (ys.map .str) ∨ d = .tup (ys.map .str)) ∧ (ys.map (·.length)).sum + ys.length * a.length ≤ 16777216 ∧ Q (.val (.str (Txt.join a ys))) ρ2 k2
/-- str(i) -/
def fStrI : FN := fun ds P => ∃ i : Int, ds = [.int i] ∧ i.natAbs.log2 < 1920 ∧ P (.str (toString i))
/-- int(text) -/
def fIntS : FN := fun ds P => ∃ (a : Str) (n : Int), ds = [.str a] ∧ PySem.intText? a = some n ∧ a.length ≤ 640 ∧ P (.int n)
/-- a sign in a text -/
def fInSg : F2 := fun x y P => ∃ (c : Nat) (z : Str), x = .str ⟨#[c]⟩ ∧ y = .str z ∧ P (.bl (decide (c ∈ z.cps.toList)))
def fNotInSg : F2 := fun x y P => ∃ (c : Nat) (z : Str), x = .str ⟨#[c]⟩ ∧ y = .str z ∧ P (.bl (!decide (c ∈ z.cps.toList)))
/-- list(text) -/
def fListS : FL := fun ds P => ∃ a : Str, ds = [.str a] ∧ a.length ≤ sizeLine ∧ P (a.cps.toList.map fun c => .str ⟨#[c]⟩)
def rListS : List V → Hp → VK → Prop := fun xs H Q => ∃ a : Str, xs = [.str a] ∧ a.length ≤ sizeLine ∧ ∀ q, H q = none → Q (.ref q) (upd H q (.lst (a.cps.toList.map fun c => V.str ⟨#[c]⟩)))
/-- text[::-1] -/
def revT (z : Str) : Str := ⟨((Builtin.Str.strSliceIndices none none (-1) z.length).filterMap (z.cps[·]?)).toArray⟩
def tRevT (te : TE) : TE := fun σ H Q => te σ H fun x H1 => ∃ z, x = .str z ∧ z.length ≤ sizeLine ∧ Q (.str (revT z)) H1
def fRevT : F1 := fun d P => ∃ z : Str, d = .str z ∧ z.length ≤ sizeLine ∧ P (.str (revT z))
end
section
variable {ρ : En} {k : Kt} {wo we : WE} {Q : R → En → Kt → Prop} {QL : List D → En → Kt → Prop} {P : D → Prop} {PL : List D → Prop} {d e : D} {ds : List D}
@[simp] theorem s_Split : wSplit wo we ρ k QL = wo ρ k fun x ρ1 k1 => ∃ a : Str, deref ρ1 x = some (.str a) ∧ we ρ1 k1 fun y ρ2 k2 => ∃ b : Str, deref ρ2 y = some (.str b) ∧ (b.length == 0) = false ∧ a.length + 2 ≤ sizeLine ∧ QL ((Txt.split a b).map .str) ρ2 k2 := rfl
@[simp] theorem s_Join : wJoin wo we ρ k Q = wo ρ k fun x ρ1 k1 => ∃ a : Str, deref ρ1 x = some (.str a) ∧ we ρ1 k1 fun y ρ2 k2 => ∃ (d : D) (ys : List Str), deref ρ2 y = some d ∧ (d = .lst (ys.map .str) ∨ d = .tup (ys.map .str)) ∧ (ys.map (·.length)).sum + ys.length * a.length ≤ 16777216 ∧ Q (.val (.str (Txt.join a ys))) ρ2 k2 := rfl
@[simp] theorem s_StrI : fStrI ds P = ∃ i : Int, ds = [.int i] ∧ i.natAbs.log2 < 1920 ∧ P (.str (toString i)) := rfl
@[simp] theorem s_IntS : fIntS ds P = ∃ (a : Str) (n : Int), ds = [.str a] ∧ PySem.intText? a = some n ∧ a.length ≤ 640 ∧ P (.int n) := rfl
@[simp] theorem s_InSg : fInSg d e P = ∃ (c : Nat) (z : Str), d = .str ⟨#[c]⟩ ∧ e = .str z ∧ P (.bl (decide (c ∈ z.cps.toList))) := rfl
@[simp] theorem s_NotInSg : fNotInSg d e P = ∃ (c : Nat) (z : Str), d = .str ⟨#[c]⟩ ∧ e = .str z ∧ P (.bl (!decide (c ∈ z.cps.toList))) := rfl
@[simp] theorem s_ListS : fListS ds PL = ∃ a : Str, ds = [.str a] ∧ a.length ≤ sizeLine ∧ PL (a.cps.toList.map fun c => .str ⟨#[c]⟩) := rfl
@[simp] theorem s_RevT : fRevT d P = ∃ z : Str, d = .str z ∧ z.length ≤ sizeLine ∧ P (.str (revT z)) := rfl
end
end DL

set_option Elab.async false
set_option linter.all false
set_option maxRecDepth 100000
set_option maxHeartbeats 1000000
/-! ELpo: x.pop() of an own list -/
namespace DL
open PySem PySem.Spec PyProof.Rows L2
section
variable {X : Cx} {pos : Pos}
def wPop0 (i : Nat) : WE := fun ρ k Q => ∃ (ds : List D) (y : D), ρ[i]? = some (.own (.l ds)) ∧ ds[ds.length - 1]? = some y ∧ Q (.val y) (ρ.set i (.own (.l ds.dropLast))) k
@[simp] theorem s_Pop0 {i : Nat} {ρ : En} {k : Kt} {Q : R → En → Kt → Prop} : wPop0 i ρ k Q = ∃ (ds : List D) (y : D), ρ[i]? = some (.own (.l ds)) ∧ ds[ds.length - 1]? = some y ∧ Q (.val y) (ρ.set i (.own (.l ds.dropLast))) k := rfl
end
end DL

set_option Elab.async false
set_option linter.all false
set_option maxRecDepth 100000
set_option maxHeartbeats 1000000
/-! ELrt: the end of a law of which several defs make lambdas (several tables of code objects) -/
namespace DL
open PySem PySem.Spec PyProof.Rows L2
open LamX (TabS Tabs TabB)
def lawHs (K : PySem.W.Frag) (a : Addr) (Ts : List (Addr × Addr)) (o : Obj) (xs : List V) : Hp := fun b => if b ∈ Ts.map (·.2) then some (.tbl #[]) else if b = a ∧ K.lookup a = none then some (.frz o (.lst xs)) else none
end DL

set_option Elab.async false
set_option linter.all false
set_option maxRecDepth 100000
set_option maxHeartbeats 200000
/-! ELsl: sorted() of a list that may hold one item alone, of any kind; else as fSortD -/
namespace DL
open PySem PySem.Spec PyProof.Rows L2
def rSort1 (K : PySem.W.Frag) : List V → Hp → VK → Prop := fun vs H Q => ∃ (a : Addr) (xs : List V), vs = [V.ref a] ∧ SqL K H a xs ∧ xs.length ≤ 1 ∧ ∀ p, H p = none → Q (.ref p) (upd H p (.lst xs))
section
variable {X : Cx}
def rSortE (K : PySem.W.Frag) : List V → Hp → VK → Prop := fun vs H Q => rSort1 K vs H Q ∨ rSortedDt K vs H Q
def fSort1 : FL := fun ds P => match ds with
  | [.lst xs] => xs.length ≤ 1 ∧ P xs
  | _ => False
def fSortE : FL := fun ds P => fSort1 ds P ∨ fSortD ds P
end
end DL

set_option Elab.async false
set_option linter.all false
set_option maxRecDepth 100000
set_option maxHeartbeats 1000000
/-! ELld: f(lambda a=0: e): a lambda with a parameter that has a default -/
namespace DL
open PySem PySem.Spec PyProof.Rows L2
open LamX (TabS Tabs CodeO lamEnv lamCx TabB)
/-- the function object: as for a lambda without parameters, but dV are its defaults -/
abbrev ldFn (q : Str) (params : Arguments) (body : Expr) (scope : Scope) (cl : List (Str × Addr)) (pm cdv ct dV : Value) : FuncData :=
  { name := "<lambda>", qualname := q, params := params, body := .expr body, scope := scope, globals := mainGlobals, closure := cl, defaults := dV, kwdefaults := .none, doc := .none, pyModule := pm, annotations := none, code := cdv, closureTuple := ct, builtins := builtinsNs }
abbrev ldObj (q : Str) (params : Arguments) (body : Expr) (scope : Scope) (cl : List (Str × Addr)) (pm : Value) (cd : Value) (ct dV : Value) : Obj :=
  { cls := .type "function", data := .func (ldFn q params body scope cl pm cd ct dV) }
section
variable {M : Model} {A : Around} {E Q : Value → Shared → Prop} {s : Shared} {q : Str} {params : Arguments} {body : Expr} {scope : Scope} {env : Env} {c P : Addr} {ps : Array Value} {pos : Pos} {fl : Nat} {mg : Str → Option Value} {cs : List (Str × Addr)} {dV : Value}
theorem ld_tailN (e1 : closureFor scope env = pure cs) (e2 : env.globals = mainGlobals) (n : s.heap.Ns mainGlobals mg) (e3 : env.code = .ref c) (C : PySem.W.CodeHd s.heap c P) (gP : s.heap.get? P = some { cls := .none, data := .fields ps }) (tr : TriplesOk ps.toList) (no : codeAmong pos ps.toList = none) (ne : mainGlobals ≠ P) (bt : s.heap.BuiltinsAt mg P)
    (go : ∀ c' ct h1 tk, Heap.ExtBut P s.heap h1 → s.heap.objs.size ≤ c' → c' < h1.objs.size → h1.CodeRec (.ref c') q → h1.get? P = some { cls := .none, data := .fields (ps ++ #[rawInt pos.line, rawInt pos.col, .ref c']) } →
      Q (.ref h1.objs.size) { s with heap := h1.push (ldObj q params body scope cs ((mg "__name__").getD .none) (.ref c') ct dV), toks := tk }) : wpAny M A (makeTail "<lambda>" q params (.expr body) scope env dV .none none pos fl) Q E s := by
  obtain ⟨bm, ob, b1, b2, _, b3, b4, b5, b6, b7⟩ := bt
  unfold makeTail
  rw [e1, e2]
  refine wpAny_bind (wpAny_pure ?_)
  cases cs with
  | nil =>
    simp only [if_true, List.isEmpty_nil]
    refine wpAny_bind (wpAny_pure (wpAny_bind (wpAny_functionCodeX e3 (C.code gP tr) (C.tab gP) no fun c' h1 tk up ge lt _ rc tb _ => ?_)))
    have n1 := n.extBut up ne
    refine wpAny_bind (wpAny_builtinsFor n1 b1 b2 (up _ _ b3 b4) b5 b6 b7 (wpAny_bind (wpAny_nsGet n1 ?_)))
    exact wpAny_bind (wpAny_pure (wpAny_newObj_type (go c' .none h1 tk up ge lt rc tb.2) (by size_fits)))
  | cons y r =>
    simp only [Bool.false_eq_true, List.isEmpty_cons, if_false]
    refine wpAny_bind (wpAny_newTextTuple ?_)
    have C1 : ∀ o : Obj, PySem.W.CodeHd (s.heap.push o) c P := fun o => C.keeps fun b x e => Heap.get?_push_of_some o e
    refine wpAny_bind (wpAny_functionCodeX e3 ((C1 _).code (Heap.get?_push_of_some _ gP) tr) ((C1 _).tab (Heap.get?_push_of_some _ gP)) no fun c' h1 tk up ge lt _ rc tb _ => ?_)
    have n1 := (n.push _).extBut up ne
    have up1 : Heap.ExtBut P s.heap h1 := fun b o nb e => up b o nb (Heap.get?_push_of_some _ e)
    have ge1 : s.heap.objs.size ≤ c' := Nat.le_trans (by rw [Heap.size_push]; omega) ge
    refine wpAny_bind (wpAny_builtinsFor n1 b1 b2 (up1 _ _ b3 b4) b5 b6 b7 (wpAny_bind (wpAny_nsGet n1 ?_)))
    exact wpAny_bind (wpAny_pure (wpAny_newObj_type (go c' _ h1 tk up1 ge1 lt rc tb.2) (by size_fits)))
theorem ld_tailY {cv : Value} (e1 : closureFor scope env = pure cs) (e2 : env.globals = mainGlobals) (n : s.heap.Ns mainGlobals mg) (e3 : env.code = .ref c) (C : PySem.W.CodeHd s.heap c P) (gP : s.heap.get? P = some { cls := .none, data := .fields ps }) (tr : TriplesOk ps.toList) (yes : codeAmong pos ps.toList = some cv) (bt : s.heap.BuiltinsAt mg P)
    (go : ∀ (ct : Value) (h1 : Heap) (tk : Tok), (∀ b o, s.heap.get? b = some o → h1.get? b = some o) → s.heap.objs.size ≤ h1.objs.size →
      Q (.ref h1.objs.size) { s with heap := h1.push (ldObj q params body scope cs ((mg "__name__").getD .none) cv ct dV), toks := tk }) : wpAny M A (makeTail "<lambda>" q params (.expr body) scope env dV .none none pos fl) Q E s := by
  obtain ⟨bm, ob, b1, b2, _, b3, b4, b5, b6, b7⟩ := bt
  unfold makeTail
  rw [e1, e2]
  refine wpAny_bind (wpAny_pure ?_)
  cases cs with
  | nil =>
    simp only [if_true, List.isEmpty_nil]
    refine wpAny_bind (wpAny_pure (wpAny_bind (wpAny_functionCode_hit e3 (C.code gP tr) yes ?_)))
    refine wpAny_bind (wpAny_builtinsFor n b1 b2 b4 b5 b6 b7 (wpAny_bind (wpAny_nsGet n ?_)))
    exact wpAny_bind (wpAny_pure (wpAny_newObj_type (go .none s.heap s.toks (fun _ _ z => z) (Nat.le_refl _)) (by size_fits)))
  | cons y r =>
    simp only [Bool.false_eq_true, List.isEmpty_cons, if_false]
    refine wpAny_bind (wpAny_newTextTuple ?_)
    have C1 : ∀ o : Obj, PySem.W.CodeHd (s.heap.push o) c P := fun o => C.keeps fun b x e => Heap.get?_push_of_some o e
    refine wpAny_bind (wpAny_functionCode_hit e3 ((C1 _).code (Heap.get?_push_of_some _ gP) tr) yes ?_)
    refine wpAny_bind (wpAny_builtinsFor (n.push _) b1 b2 (Heap.get?_push_of_some _ b4) b5 b6 b7 (wpAny_bind (wpAny_nsGet (n.push _) ?_)))
    exact wpAny_bind (wpAny_pure (wpAny_newObj_type (go _ _ s.toks (fun b o z => Heap.get?_push_of_some _ z) (by rw [Heap.size_push]; omega)) (by size_fits)))
end
section
variable {X : Cx} {pins : List (Addr × Obj)} {σ : L2.St} {H : Hp} {s : Shared}
/-- the tuple of its defaults -/
abbrev dfO (v : Value) : Obj := { cls := .type "tuple", data := .seq [v].toArray }
theorem lam_newD {T : List (Addr × Str)} {c P : Addr} {params : Arguments} {body : Expr} {scope : Scope} {pos : Pos} {z : Int} {jz : Nat} {pz : Pos} {E Q : Value → Shared → Prop} (I : Inv X pins σ H s) (B : TabB X.base X.mg c P) (ec : X.env.code = .ref c) (hm : (P, X.env.qual ++ "<lambda>") ∈ T)
    (hu : ∀ z ∈ T, z.1 = P → z.2 = X.env.qual ++ "<lambda>") (hT : Tabs T H) (hd : defaultsOf params X.env = ([eval (.Constant (.int z) jz pz) X.env], [])) (hkw : params.kwonlyargs = []) (hfree : ∀ y ∈ scope.names, y.2 = .free → ∃ c, X.env.cells.lookup y.1 = some c)
    (go : ∀ (f c' D : Addr) (tz : Tok) (pm ct : Value) (H1 : Hp) (s1 : Shared), Inv X pins σ H1 s1 → (∀ b o, b ≠ P → H b = some o → H1 b = some o) → Tabs T H1 → s1.heap.get? f = some (ldObj (X.env.qual ++ "<lambda>") params body scope (cloFrom X.env.cells scope.names []) pm (.ref c') ct (.ref D)) → H1 f = none → f ∉ frs X.stack → s1.heap.get? D = some (dfO (.int z tz)) → H1 D = none → D ∉ frs X.stack → H1 c' = some (CodeO c' (X.env.qual ++ "<lambda>")) → Q (.ref f) s1) :
    wpAny (model X.prog X.w) X.A (eval (.Lambda params body scope pos) X.env) Q E s := by
  rw [arm_eval_Lambda, hd]
  show wpAny _ _ (evalAll [eval (.Constant (.int z) jz pz) X.env] >>= fun dv => holding dv (evalAllOpt []) >>= fun kdv => makeFunction "<lambda>" (X.env.qual ++ "<lambda>") params (.expr body) scope X.env dv kdv [] pos pos.line) Q E s
  refine wpAny_bind ?_
  unfold evalAll
  refine wpAny_bind (wpAny_Constant_int ?_)
  refine wpAny_bind (wpAny_holding (wpAny_pure (wpAny_pure ?_)))
  refine wpAny_bind (wpAny_holding (wpAny_pure ?_))
  rw [makeFunction_eq, hkw]
  simp only [List.zip_nil_left, List.filterMap_nil, List.isEmpty_nil, List.isEmpty_cons, Bool.false_eq_true, if_true, if_false, pure_bind]
  refine wpAny_bind (wpAny_newTextTuple ?_)
  have I0 : Inv X pins σ H { s with heap := s.heap.push (dfO (.int z s.toks)), toks := s.toks + 1 } := I.kept fun b u e => Heap.get?_push_of_some _ e
  have gD : (s.heap.push (dfO (.int z s.toks))).get? s.heap.objs.size = some (dfO (.int z s.toks)) := Heap.get?_push_size _ rfl
  have hD : H s.heap.objs.size = none := I.hok.fresh (Nat.le_refl _)
  have oD : s.heap.objs.size ∉ frs X.stack := fun y => by
    rcases List.mem_cons.mp (I.stkSub _ y) with e | e
    · exact absurd (e ▸ I.lt) (Nat.lt_irrefl _)
    · exact I.nofs (Nat.le_refl _) e
  show wpAny _ _ _ _ _ { s with heap := s.heap.push (dfO (.int z s.toks)), toks := s.toks + 1 }
  generalize hs2 : ({ s with heap := s.heap.push (dfO (.int z s.toks)), toks := s.toks + 1 } : Shared) = s2 at I0 ⊢
  have gD2 : s2.heap.get? s.heap.objs.size = some (dfO (.int z s.toks)) := by rw [← hs2]; exact gD
  show wpAny _ _ (makeTail "<lambda>" (X.env.qual ++ "<lambda>") params (.expr body) scope X.env (.ref s.heap.objs.size) .none none pos pos.line) _ _ s2
  generalize s.heap.objs.size = D at gD2 hD oD
  clear gD hs2
  obtain ⟨ps, eP, tr, am⟩ := hT _ hm
  have nDP : D ≠ P := fun y => by rw [y, eP] at hD; cases hD
  have hb : s2.heap.BuiltinsAt X.mg P := B.bm.keeps I0.bk
  have gP : s2.heap.get? P = some { cls := .none, data := .fields ps } := I0.hok P _ eP
  have out : ∀ {f : Addr}, s2.heap.objs.size ≤ f → f ∉ frs X.stack := fun {f} le y => by
    rcases List.mem_cons.mp (I0.stkSub _ y) with e | e
    · exact absurd (Nat.lt_of_lt_of_le (e ▸ I0.lt) le) (Nat.lt_irrefl _)
    · exact I0.nofs le e
  cases q : codeAmong pos ps.toList with
  | some cv =>
    obtain ⟨c', rfl, co⟩ := am pos cv q
    refine ld_tailY (mg := X.mg) (c := c) (P := P) (ps := ps) (closure_ok hfree) I0.ok.glob (I0.mod.glob.keeps I0.bk) ec (B.code.keeps I0.bk) gP tr q hb fun ct h1 tk up le => ?_
    have I1 : Inv X pins σ H { s2 with heap := h1.push (ldObj (X.env.qual ++ "<lambda>") params body scope (cloFrom X.env.cells scope.names []) ((X.mg "__name__").getD .none) (.ref c') ct (.ref D)), toks := tk } := I0.kept fun b o e => Heap.get?_push_of_some _ (up b o e)
    exact go h1.objs.size c' D s.toks _ ct H _ I1 (fun _ _ _ e => e) hT (Heap.get?_push_size _ rfl) (I0.hok.fresh le) (out le) (Heap.get?_push_of_some _ (up _ _ gD2)) hD oD co
  | none =>
    refine ld_tailN (mg := X.mg) (c := c) (P := P) (ps := ps) (closure_ok hfree) I0.ok.glob (I0.mod.glob.keeps I0.bk) ec (B.code.keeps I0.bk) gP tr q B.gP hb fun c' ct h1 tk up ge lt rec tab => ?_
    obtain ⟨c2, oc, vs, t, e2, eo, ed, ev⟩ := rec
    cases e2
    have le : s2.heap.objs.size ≤ h1.objs.size := Nat.le_trans ge (Nat.le_of_lt lt)
    have nC : H c' = none := I0.hok.fresh ge
    have nP : P ≠ c' := ne_of_none eP nC
    have I1 := LamX.inv_table (t' := tk) (more := #[rawInt pos.line, rawInt pos.col, .ref c']) (h' := h1.push (ldObj (X.env.qual ++ "<lambda>") params body scope (cloFrom X.env.cells scope.names []) ((X.mg "__name__").getD .none) (.ref c') ct (.ref D))) I0 eP (fun b o hb e => Heap.get?_push_of_some _ (up b o hb e)) (Heap.get?_push_of_some _ tab) ge ⟨oc, vs, t, Heap.get?_push_of_some _ eo, ed, ev⟩
    have kp : ∀ b o, b ≠ P → H b = some o → upd (upd H P (.tbl (ps ++ #[rawInt pos.line, rawInt pos.col, .ref c']))) c' (CodeO c' (X.env.qual ++ "<lambda>")) b = some o := fun b o hb e => by rw [upd_ne (ne_of_none e nC), upd_ne hb]; exact e
    have kc : ∀ b q, H b = some (CodeO b q) → b ≠ P := fun b q e z => by rw [z, eP] at e; unfold CodeO at e; cases e
    have eL : (ps ++ #[rawInt pos.line, rawInt pos.col, .ref c']).toList = ps.toList ++ [rawInt pos.line, rawInt pos.col, .ref c'] := by simp
    have neC : h1.objs.size ≠ c' := Nat.ne_of_gt lt
    have neP : h1.objs.size ≠ P := Nat.ne_of_gt (Nat.lt_of_lt_of_le (Heap.lt_size gP) le)
    have ltD : D < s2.heap.objs.size := Heap.lt_size gD2
    have neD : D ≠ c' := Nat.ne_of_lt (Nat.lt_of_lt_of_le ltD ge)
    refine go h1.objs.size c' D s.toks _ ct _ _ I1 kp (fun z hz => ?_) (Heap.get?_push_size _ rfl) (by rw [upd_ne neC, upd_ne neP]; exact I0.hok.fresh le) (out le) (Heap.get?_push_of_some _ (up _ _ nDP gD2)) (by rw [upd_ne neD, upd_ne nDP]; exact hD) oD upd_same
    by_cases hb : z.1 = P
    · rw [hu z hz hb, hb]
      refine ⟨_, by rw [upd_ne nP, upd_same], by rw [eL]; exact PySem.TriplesOk_snoc _ _ _ _ tr, fun p' cv hcv => ?_⟩
      rw [eL] at hcv
      rcases LamX.among_app _ tr hcv with y | y
      · obtain ⟨c0, e1, e3⟩ := am p' cv y
        exact ⟨c0, e1, kp _ _ (kc _ _ e3) e3⟩
      · exact ⟨c', y, upd_same⟩
    · obtain ⟨ps', a1, a2, a3⟩ := hT z hz
      refine ⟨ps', kp _ _ hb a1, a2, fun p' cv hcv => ?_⟩
      obtain ⟨c0, e1, e3⟩ := a3 p' cv hcv
      exact ⟨c0, e1, kp _ _ (kc _ _ e3) e3⟩
end
/-! ### the lambda's names -/
/-- one parameter x, no other name of its own; captured ones and globals -/
structure LamSD (sc scope : Scope) (x : Str) : Prop where
  kind : scope.kind = .function
  co : scope.isCoroutine = false
  gen : scope.isGenerator = false
  own : ∀ y ∈ scope.names, (y.2 = .local → y.1 = x) ∧ y.2 ≠ .cell
  par : scope.names.lookup x = some .local
  free : ∀ y ∈ scope.names, y.2 = .free → sc.names.lookup y.1 = some .cell ∨ sc.names.lookup y.1 = some .free
def lamSDB (sc scope : Scope) (x : Str) : Bool :=
  decide (scope.kind = .function) && (!scope.isCoroutine && (!scope.isGenerator && (decide (scope.names.lookup x = some .local) && scope.names.all fun y => (!decide (y.2 = .local) || decide (y.1 = x)) && (!decide (y.2 = .cell) && (!decide (y.2 = .free) || (decide (sc.names.lookup y.1 = some .cell) || decide (sc.names.lookup y.1 = some .free)))))))
theorem lamSD_by {sc scope : Scope} {x : Str} (h : lamSDB sc scope x = true) : LamSD sc scope x := by
  unfold lamSDB at h
  simp only [Bool.and_eq_true, Bool.or_eq_true, Bool.not_eq_true', List.all_eq_true, decide_eq_true_eq, decide_eq_false_iff_not] at h
  obtain ⟨h1, h2, h3, h4, h5⟩ := h
  refine ⟨h1, h2, h3, fun y hy => ⟨fun e => ((h5 y hy).1).resolve_left fun z => z e, (h5 y hy).2.1⟩, h4, fun y hy e => ?_⟩
  rcases (h5 y hy).2.2 with z | z | z
  · exact absurd e z
  · exact .inl z
  · exact .inr z
theorem LamSD.has {X : Cx} {scope : Scope} {x : Str} (L : LamSD X.env.scope scope x) (ok : X.Ok) : ∀ y ∈ scope.names, y.2 = .free → ∃ c, X.env.cells.lookup y.1 = some c := fun y hy e => (L.free y hy e).elim (fun q => ok.has _ (.inl q)) fun q => ok.has _ (.inr q)
section
variable {X : Cx} {pins : List (Addr × Obj)} {σ : L2.St} {H HZ : Hp} {s s1 : Shared}
theorem lam_startD {A : Around} {outer : List Env} {E : XK} {scope : Scope} {f c' : Addr} {x : Str} {dv : Value} {g₁ : Heap} {tk : Nat} (I : Inv X pins σ H s) (L : LamSD X.env.scope scope x) (hxN : x ∉ X.N) (e0 : Env0 X.prog X.w X.K X.mg X.base A outer s1 HZ) (hd : A.handled = none)
    (un : Un (frs X.stack) [] H HZ s.heap s1.heap) (hns : g₁.Ns s1.heap.objs.size fun y => [(x, dv)].reverse.lookup y) (kp : ∀ b o, s1.heap.get? b = some o → g₁.get? b = some o) :
    Inv (lamCx X A outer s1 HZ E scope f c') [] σ HZ { s1 with heap := g₁, toks := tk } := by
  have fr := L.has I.ok
  have up : ∀ {y c}, (cloFrom X.env.cells scope.names []).lookup y = some c → X.env.cells.lookup y = some c := fun {y c} e => by
    rcases cloFrom_mem (PySem.mem_of_lookup e) with hm | ⟨m1, m2⟩
    · cases hm
    · obtain ⟨c1, q1⟩ := fr _ m1 rfl
      have q1 : X.env.cells.lookup y = some c1 := q1
      have q2 : c = c1 := by
        rw [m2, q1] <;> rfl
      rw [q2]
      exact q1
  have down : ∀ {y}, scope.names.lookup y = some .free → ∃ c, (cloFrom X.env.cells scope.names []).lookup y = some c := fun {y} e => by
    have m1 : (y, NameKind.free) ∈ scope.names := PySem.mem_of_lookup e
    exact mem_lookup (cloFrom_has (cells := X.env.cells) (acc := []) m1)
  have cellUp : ∀ {c : Addr} {v : Option Value}, H c = none → s.heap.IsCell c v → g₁.IsCell c v := fun {c v} n0 ⟨o, ho, od⟩ => by
    obtain ⟨sl, q⟩ := un.any ho n0 (by simp)
    exact ⟨_, kp _ _ q, od⟩
  have no0 : ∀ b : Addr, b ∉ (lamCx X A outer s1 HZ E scope f c').ex := fun b z => absurd (show b ∈ ([] : List Addr) from z) (by simp)
  refine ⟨⟨e0.mod, L.kind, rfl, rfl, Nat.le_refl _, fun y z c e1 e2 => I.ok.inj y z c (up e1) (up e2), fun y hy => ?_, fun y c z _ => ?_, fun _ => hd, Around.frames_deeper e0.frames, .inr ⟨rfl, rfl⟩, fun b z => absurd z (no0 b), e0.bs, e0.bsz, fun b _ _ => no0 b,
      fun b z => absurd z (no0 b), e0.funs, e0.frf⟩,
    rfl, e0.bare, Un.kept kp, ⟨_, hns, fun i y v e1 e2 e3 => ?_⟩, fun y c e => ?_, e0.hok.fresh (Nat.le_refl _), fun y c e => ?_, fun q hq => absurd (show q ∈ ([] : List (Addr × Obj)) ++ [] from hq) (by simp), e0.hok.kept kp, I.len⟩
  · rcases (show scope.names.lookup y = some .cell ∨ scope.names.lookup y = some .free from hy) with hy | hy
    · exact absurd rfl (L.own _ (PySem.mem_of_lookup hy)).2
    · exact down hy
  · cases (show false = true from z)
  · have e3 : Vis scope y := e3
    rcases e3 with q | q | q
    · have ey := (L.own _ (PySem.mem_of_lookup q)).1 rfl
      have ey : y = x := ey
      subst ey
      exact absurd (List.mem_of_getElem? (show X.N[i]? = some y from e1)) hxN
    · exact absurd rfl (L.own _ (PySem.mem_of_lookup q)).2
    · obtain ⟨m, hn, hl⟩ := I.loc
      have seen : Vis X.env.scope y := (L.free _ (PySem.mem_of_lookup q) rfl).elim (fun z => .inr (.inl z)) fun z => .inr (.inr z)
      obtain ⟨w', r, hw⟩ := hl i y v e1 e2 seen
      obtain ⟨c2, h2⟩ := down q
      refine ⟨w', r, .inr ⟨.inr q, c2, h2, ?_⟩⟩
      have c1 := up h2
      rcases hw with ⟨k1, _⟩ | ⟨_, c3, e5, z⟩
      · have k1 : X.env.scope.names.lookup y = some .local := k1
        rcases L.free _ (PySem.mem_of_lookup q) rfl with k2 | k2 <;> rw [show X.env.scope.names.lookup y = _ from k2] at k1 <;> cases k1
      · rw [c1] at e5
        cases e5
        exact cellUp (I.freeC y _ c1) z
  · obtain ⟨w', z⟩ := I.cell y c (up e)
    exact ⟨w', cellUp (I.freeC y c (up e)) z⟩
  · obtain ⟨v, o, ho, od⟩ := I.cell y c (up e)
    exact un.free c o ho (I.freeC y c (up e)) (by simp)
/-- x() of such a lambda, in the def that got it -/
theorem pe_actD {CXg : CXT} {Eg : XK} {Ng : List Str} {qg : Str} {sg : Scope} {g f c' D : Addr} {cdg pm ctv : Value} {params : Arguments} {body : Expr} {scope : Scope} {k i : Nat} {a x : Str} {z : Int} {tz : Tok} {pn : List (Addr × Obj)} {xe : Value → Shared → Prop} {W : WX} {E : XK} {tb : TE} {p1 p2 : Pos}
    (I : Inv X pins σ H s) (L : LamSD X.env.scope scope x) (hxN : x ∉ X.N) (hf : s.heap.get? f = some (ldObj (X.env.qual ++ "<lambda>") params body scope (cloFrom X.env.cells scope.names []) pm (.ref c') ctv (.ref D))) (hfn : H f = none) (hfr : f ∉ frs X.stack)
    (hD : s.heap.get? D = some (dfO (.int z tz))) (hDn : H D = none) (hDr : D ∉ frs X.stack)
    (hbind : ∃ kk, bindArgs (ldFn (X.env.qual ++ "<lambda>") params body scope (cloFrom X.env.cells scope.names []) pm (.ref c') ctv (.ref D)) ⟨[], []⟩ = seqItems? (.ref D) >>= kk ∧ kk (some [Value.int z tz].toArray) = pure [(x, .int z tz)])
    (tk : Takes ((cxOf CXg X.prog X.w X.K X.mg X.base Ng qg sg g cdg X.A X.stack s H Eg).tr pn xe) W) (hW : ∀ cls d σ' H', E cls d H' → W cls d σ' H') (hr : Room (k + 1) (X.A.deeper (envOfC qg sg s.heap.objs.size g cdg)))
    (hbody : ∀ (A : Around) (outer : List Env) (s : Shared) (H : Hp), Room k (A.deeper (lamEnv X scope s.heap.objs.size f c')) → PE (lamCx X A outer s H E scope f c') body tb)
    (hN : Ng[i]? = some a) (hv : Vis sg a) (hd : (a == ("__debug__" : Str)) = false := by decide) (hcd : (a == ("__classdict__" : Str)) = false := by decide) :
    PE ((cxOf CXg X.prog X.w X.K X.mg X.base Ng qg sg g cdg X.A X.stack s H Eg).tr pn xe) (.Call (.Name a p1) [] [] p2)
      (fun σZ HZ Q => σZ[i]? = some (some (.ref f)) ∧ HZ c' = some (CodeO c' (X.env.qual ++ "<lambda>")) ∧ tb σ HZ Q) := by
  refine ⟨fun pinsZ sZ σZ HZ Q IZ ⟨hs, hc, ht⟩ => ?_⟩
  refine wpAny_Call_Name_kw (thn ((pe_var (pos := p1) (i := i) hN hv hd hcd).run pinsZ sZ σZ HZ (fun v H1 => v = .ref f ∧ H1 = HZ) IZ ⟨.ref f, hs, rfl, rfl⟩) fun u s1 ⟨v, H1, I1, r1, ev, eH⟩ => ?_)
  subst ev
  rw [eH] at I1
  obtain rfl : u = Value.ref f := r1
  have atF : s1.heap.get? f = some (ldObj (X.env.qual ++ "<lambda>") params body scope (cloFrom X.env.cells scope.names []) pm (.ref c') ctv (.ref D)) := I1.base.keep f _ hf hfn hfr (fun y => nomatch (show f ∈ ([] : List Addr) from y))
  have atD : s1.heap.get? D = some (dfO (.int z tz)) := I1.base.keep D _ hD hDn hDr (fun y => nomatch (show D ∈ ([] : List Addr) from y))
  refine PySem.W.callWith_F0 ⟨_, _, _, _, atF⟩ ?_
  have un : Un (frs X.stack) [] H HZ s.heap s1.heap := I1.base
  obtain ⟨⟨oc, vs, t, hoc, hdc, hvc⟩, _, _⟩ := I1.hok c' _ hc
  have rc : codeAny (model X.prog X.w) (X.A.deeper (envOfC qg sg s.heap.objs.size g cdg)) (.call (.ref f) ⟨[], []⟩) (CR (L2.CX X.prog X.w) (envOfC qg sg s.heap.objs.size g cdg :: X.stack) X.prog X.w HZ s1 Q E) s1 := by
    refine PySem.W.kla_callFunE hr.depth atF rfl L.co L.gen rfl ⟨c', oc, vs, t, rfl, hoc, hdc, hvc⟩ ?_
    obtain ⟨kk, b1, b2⟩ := hbind
    rw [b1]
    refine wpAny_bind (wpAny_seqItems atD rfl ?_)
    rw [b2]
    refine wpAny_pure (wpAny_newFunctionEnv (fun y hy => (L.own y hy).2) (fun y hy => by rw [List.mem_singleton.mp hy]; exact L.par) (fun g₁ hns hsb => ⟨I1.nolimit.fresh _ hsb, ?_⟩) L.kind)
    show codeAny _ _ (.expr body (lamEnv X scope s1.heap.objs.size f c')) _ _
    have kp : ∀ b o, s1.heap.get? b = some o → g₁.get? b = some o := fun b o e => hsb.extBut b o (Nat.ne_of_lt (Heap.lt_size e)) (Heap.get?_push_of_some _ e)
    have J : Inv (lamCx X (X.A.deeper (envOfC qg sg s.heap.objs.size g cdg)) (envOfC qg sg s.heap.objs.size g cdg :: X.stack) s1 HZ E scope f c') [] σ HZ { s1 with heap := g₁, toks := s1.toks + [(x, Value.int z tz)].length } := lam_startD I L hxN I1.env0 hr.hd un hns kp
    refine PySem.W.kla_codeExpr (wpAny_mono ((hbody _ _ s1 HZ (hr.deeper _)).run [] _ _ HZ Q J ht) (fun v s' ⟨w', H', J', rv, qq⟩ => ?_) fun e s' qq => qq)
    exact ⟨w', H', J'.os, J'.bare, J'.base, J'.hok, rv, qq⟩
  have out : Passes (L2.CX X.prog X.w) ((cxOf CXg X.prog X.w X.K X.mg X.base Ng qg sg g cdg X.A X.stack s H Eg).tr pn xe) E := passes_call tk hW
  refine wpAny_call (codeAny_mono rc fun r s' qq => ?_)
  cases r with
  | error e => exact out pinsZ σZ HZ s1 e s' I1 qq
  | ok fl =>
    cases fl with
    | ret u => exact I1.after qq
    | next => exact qq.elim
    | brk => exact qq.elim
    | cont => exact qq.elim
end
section
variable {X : Cx} {x a n tag : Str} {g c P : Addr} {st : Stmt} {fd : FuncData} {k : Nat} {l : List HC} {cs : List (Addr × List Part)} {tabs : List (Addr × Str)} {params : Arguments} {body : Expr} {scope : Scope} {pos ps lpos : Pos} {wb : WE} {xx : Str} {z0 : Int} {jz : Nat} {pz : Pos}
/-- f(lambda x=0: e), f the def that hears -/
theorem de_heardD (F : Fun X.K x x st g fd) (Sg : FnScope [a, n] [a] (defScope st)) (hb : Binds X.K fd [a] []) (hB : HeardB a n tag l (defBody st)) (hC : ClsL X.K X.mg (defScope st) l cs) (hex : ∀ q ∈ cs, ∀ q' ∈ cs, PySem.W.exmOne X.K (.ref q.1) (.ref q'.1) = some (decide (q.1 = q'.1))) (hsz : ∀ q ∈ cs, q.2.length ≤ 100)
    (hva : Vis (defScope st) a) (hln : (defScope st).names.lookup n = some .local) (hrg : (defScope st).names.lookup ("repr" : Str) = some .globalImplicit) (hrm : X.mg "repr" = none) (htp : ∀ q ∈ cs, ∀ y ∈ q.2, y.tp = true → (defScope st).names.lookup ("tuple" : Str) = some .globalImplicit ∧ X.mg "tuple" = none) (hgd : ∀ q ∈ cs, ∀ y ∈ q.2, y.rp = true → X.A.guards = some [])
    (hg : Gl X x) (hm : X.mg x = some (.ref g)) (B : TabB X.base X.mg c P) (ec : X.env.code = .ref c) (hmT : (P, X.env.qual ++ "<lambda>") ∈ tabs) (hu : ∀ z ∈ tabs, z.1 = P → z.2 = X.env.qual ++ "<lambda>") (hr : Room (k + 2) X.A) (L : LamSD X.env.scope scope xx) (hxN : xx ∉ X.N) (hdef : defaultsOf params X.env = ([eval (.Constant (.int z0) jz pz) X.env], [])) (hkw : params.kwonlyargs = [])
    (hbind : ∀ (q : Str) (cl : List (Str × Addr)) (pm cv ctv : Value) (D' : Addr) (v : Value), ∃ kk, bindArgs (ldFn q params body scope cl pm cv ctv (.ref D')) ⟨[], []⟩ = seqItems? (.ref D') >>= kk ∧ kk (some [v].toArray) = pure [(xx, v)])
    (hbody : ∀ (A : Around) (outer : List Env) (s : Shared) (H : Hp) (E : XK) (f c' : Addr), Room k (A.deeper (lamEnv X scope s.heap.objs.size f c')) → DE (lamCx X A outer s H E scope f c') body wb)
    (hdb : (x == ("__debug__" : Str)) = false := by decide) (had : (a == ("__debug__" : Str)) = false := by decide) (hac : (a == ("__classdict__" : Str)) = false := by decide) (hnd : (n == ("__debug__" : Str)) = false := by decide) (hnc : (n == ("__classdict__" : Str)) = false := by decide) :
    DE X (.Call (.Name x ps) [.Lambda params body scope lpos] [] pos) (wHeard tabs tag cs wb) := by
  refine ⟨fun σ H J => ∃ (O : Addr → Prop) (p : Pn) (ρ : En) (k : Kt) (Q : R → En → Kt → Prop), Rel O p ρ k σ H ∧ wHeard tabs tag cs wb ρ k Q ∧ ∀ v H' r ρ' k', Rel O p ρ' k' σ H' → Step p ρ σ H ρ' σ H' → RRep O ρ' σ H' v r → Q r ρ' k' → J v H', ⟨fun pins s σ H J I h => ?_⟩, fun O p _ ρ k σ H Q J I h g => ⟨O, p, ρ, k, Q, I, h, g⟩⟩
  obtain ⟨O, p, ρ, kk, Q, R0, ⟨etab, hni, hw⟩, gJ⟩ := h
  obtain ⟨oc, od, kV, doc, pm0, an, cdv, ct, osl, efd, lk, hcg⟩ := F.ex
  rw [efd] at lk hb
  have eT : tabs = p.tabs := etab.symm.trans R0.pn.2.1
  rw [eT] at hmT hu
  refine wpAny_Call_Name_kw (ld_glob I hg hm ?_ hdb)
  refine PySem.W.callWith_K (h₀ := X.base) I.ok.mod.kin F.kp ?_ (by rfl) (by rfl)
  show wpAny _ _ (spliced ((false, eval (.Lambda params body scope lpos) X.env) :: backTo pos (starEach [] X.env))) _ _ s
  refine Calls.spliced_cons (lam_newD I B ec hmT hu R0.pn.2.2 hdef hkw (L.has I.ok) fun f c' D' tz pm ctv H1 s1 I1 k1 T1 hf hfn hfr hD hDn hDr hco => Calls.spliced_nil ⟨I1.kIn, ?_⟩)
  obtain ⟨R1, S1⟩ := R0.table ⟨_, hmT⟩ k1 T1
  have rc : codeAny (model X.prog X.w) X.A (.call (.ref g) ⟨[.ref f], []⟩) (CR C8.CX0 X.stack X.prog X.w H1 s1 J C8.E0) s1 := by
    refine LamX.run_ofS (N := [a, n]) (ps := [a]) (us := [.ref f]) (vs := [.ref f]) lk hcg Sg hr I1.env0 (hb s1 [.ref f] I1.kIn rfl) (.cons rfl .nil) rfl fun hr' => ?_
    have fin : ∀ {H' : Hp} {t : Addr} {vs : List V} {ds : List D} {k' : Kt} {W : XD → Nat → Prop} {p' : Pn}, p' = { p with base := H1, xc := W, hb := O } → Kept p' H' → penI p' k' H' → H' t = none → Q (.val (.tup ds)) ρ (k'.1, kk.2) → (Rel O p ρ (k'.1, kk.2) σ H' → RepL (Bn O ρ σ) H' vs ds) → J (.ref t) (upd H' t (.tup vs)) := fun {H' t vs ds k' W p'} ep kp pn ht hq hr => by
      subst ep
      obtain ⟨R2, S2⟩ := R1.back kp pn
      have x2 : AExt H' (upd H' t (.tup vs)) := AExt.upd ht
      exact gJ _ _ (.val (.tup ds)) ρ _ (R2.ext x2) ((S1.trans S2 R1.pn).trans (Step.ext x2) R2.pn) (.tup (fresh_not R2.bt ht) upd_same ((hr R2).ext x2)) hq
    generalize defBody st = bg at hB ⊢
    cases hB with
    | @mk j kk2 p1 p2 p3 p4 p5 p6 h0 hs rest hh =>
    refine ⟨_, pss_cons (ps_try_hds (X := cxOf C8.CX0 X.prog X.w X.K X.mg X.base [a, n] x (defScope st) g cdv X.A X.stack s1 H1 C8.E0) (i := 1) (n := n) (Wout := fun _ _ _ _ => False)
      (tb := fun W D σ' H' => ∃ Ech : XK, (∀ cls d σ' H', Ech cls d H' → W cls d σ' H') ∧ σ'[0]? = some (some (.ref f)) ∧ H' c' = some (CodeO c' (X.env.qual ++ "<lambda>")) ∧ tBody wb Ech σ H' (fun v H2 => [V.str tag, v].length ≤ sizeLine ∧ ∀ t, H2 t = none → D.rt (.ref t) (upd H2 t (.tup [.str tag, v]))))
      rfl rfl Sg.nd rfl hln LamX.takes0 (fun W pn xe tk _ => ⟨fun ps' s' σ' H' D I' h' => ?_⟩) (clauses_ok (B := O) (Z := cxOf C8.CX0 X.prog X.w X.K X.mg X.base [a, n] x (defScope st) g cdv X.A X.stack s1 H1 C8.E0) (i := 1) (n := n) rfl rfl rfl rfl (.inl hln) hnd hnc (room65 hr') hrg hrm (fun h => h) hh hC htp hgd)) pss_never, ?_⟩
    · obtain ⟨Ech, hW, h1, h2, h3⟩ := h'
      have act := pe_actD (CXg := C8.CX0) (Eg := C8.E0) (tb := tBody wb Ech) (a := a) (i := 0) (p1 := p2) (p2 := p3) I1 L hxN hf hfn hfr hD hDn hDr (hbind _ _ _ _ _ _ _) tk hW hr' (fun A outer s H hr2 => tBody_ok (L2.takes_of rfl rfl rfl rfl) (hbody A outer s H Ech f c' hr2)) rfl hva had hac
      exact (pss_one (ps_ret (pe_tup (pa_cons pe_str (pa_cons act pa_nil))))).run ps' s' σ' H' D I' ⟨h1, h2, h3⟩
    · refine ⟨fun cls d H' => ∃ x, RepX O H' cls d x ∧ hdsD x cs (fun dd => ∀ H2, AExt H' H2 → ∀ vs ds t, dd = .tup ds → RepL O H2 vs ds → H2 t = none → J (.ref t) (upd H2 t (.tup vs))), fun cls d σ' H' ⟨x, rx, h⟩ => hds_wish rfl rx hex hsz hC (fun _ h => h) h fun H2 x2 vs ds t rl hp ht => hp H2 x2 vs ds t rfl rl ht, rfl, hco, ?_⟩
      refine ⟨O, _, fzn ρ, _, _, R1.lam _, hw, fun x k' cls d H' pn kp rx hxc => ⟨x, rx, hdsD_mono hxc fun dd ⟨ds, e1, hfl, hq⟩ H2 x2 vs ds' t e2 rl ht => ?_⟩, fun v H' r ρ1 k1 I' s' q hQ => ?_⟩
      · subst e1
        cases e2
        exact fin rfl (fun a o h n => x2 a o (kp a o h n)) (pn.ext x2) ht hq fun R2 => tup_repL R2 hni rl hfl
      · obtain ⟨d, ρ2, e1, hl, hq⟩ := hQ
        obtain ⟨I2, s2, r2⟩ := frz_ok I' q e1
        exact ⟨by rw [sizeLine_eq]; exact (by decide : (2 : Nat) ≤ 16777216), fun t ht => fin rfl I2.bs I2.pn ht hq fun R2 => .cons (.str _) (.cons (lean_rep R2 hni (fun a z => .inl z) r2 hl) .nil)⟩
  refine wpAny_call (codeAny_mono rc fun r s2 hq => ?_)
  cases r with
  | error e => exact (show False from hq).elim
  | ok fl =>
    cases fl with
    | ret u => exact I1.after hq
    | next => exact hq.elim
    | brk => exact hq.elim
    | cont => exact hq.elim
end
end DL

set_option Elab.async false
set_option linter.all false
set_option maxRecDepth 100000
set_option maxHeartbeats 1000000
/-! ELlz: list(zip(a, b)), each a list or a tuple, as a new list of new tuples -/
namespace DL
open PySem PySem.Spec PyProof.Rows L2 PySem.W
section
variable {prog : Program} {w : World} {A : Around} {E : Value → Shared → Prop} {s : Shared}
theorem zl_item {kb1 kb2 : Bool} {z TI TO i1 i2 l1 l2 : Addr} {k1 k2 : Nat} {xs ys : Array Value} {x y a b v : Value} {f : Bool} {Q : Value → Shared → Prop} (D : ZipApart z TI TO i1 i2 l1 l2)
    (hz : IsZg s.heap z TI TO v f) (hv : v = .none ∨ ∃ T : Addr, v = rawInt T) (pI : IsPair s.heap TI (.ref i1) (.ref i2)) (pO : IsPair s.heap TO a b)
    (it1 : ItK kb1 s.heap i1 l1 k1) (it2 : ItK kb2 s.heap i2 l2 k2) (t1 : SqK kb1 s.heap l1 xs) (t2 : SqK kb2 s.heap l2 ys) (hx : xs[k1]? = some x) (hy : ys[k2]? = some y)
    (hQ : ∀ (h' : Heap) (T : Addr) (f' : Bool), IsZg h' z TI TO (rawInt T) f' → (∃ c d, IsPair h' TO c d) → ItK kb1 h' i1 l1 (k1 + 1) → ItK kb2 h' i2 l2 (k2 + 1) → IsPair h' s.heap.objs.size x y → h'.objs.size = s.heap.objs.size + 1 →
      (∀ c o, c ≠ z → c ≠ TO → c ≠ i1 → c ≠ i2 → s.heap.get? c = some o → h'.get? c = some o) → Q (.ref s.heap.objs.size) { s with heap := h' }) :
    wpAny (model prog w) A (Builtin.«zip.__next__» ⟨[.ref z], []⟩) (fun fin s' => ∃ u, fin = .done (.ret u) ∧ Q u s') E s := by
  show wpAny _ _ (field (.ref z) 2 >>= _) _ _ _
  refine wpAny_bind (wpAny_field hz rfl (x := Value.bool false) rfl ?_); show wpAny _ _ (field (.ref z) 3 >>= _) _ _ _
  refine wpAny_bind (wpAny_field hz rfl (x := Value.ref TI) rfl (wpAny_bind (wpAny_seqItems pI rfl ?_)))
  show wpAny _ _ (Builtin.SmallTypes.ownedTupleIsFree (Value.ref z) >>= _) _ _ _
  refine wpAny_bind (zg_free hz hv ?_ fun T g1 ev gz1 b1 => ?_)
  · simp only [if_true]
    refine wpAny_bind (wpAny_rule (wpAny_bind (wpAny_field hz rfl (x := Value.ref TO) rfl (wpAny_bind (wpAny_setField_rec hz (by simp) fun g1 gz1 b1 => ?_)))))
    replace gz1 : IsZg g1 z TI TO .ellipsis f := gz1
    refine wpAny_bind ?_; simp only [List.zipIdx_cons, List.zipIdx_nil, List.forIn_cons, List.forIn_nil]
    refine wpAny_bind (wpAny_bind (wpAny_onRaise ?_)); show wpAny _ _ (Builtin.SmallTypes.nextOf (Value.ref i1) >>= _) _ _ _
    refine wpAny_bind (nextK_item (it1.ext b1.extBut D.i1z) (t1.ext b1.extBut D.l1z) hx fun g2 j2 b2 => wpAny_pure ?_)
    have p2 : IsPair g2 TO a b := b2.extBut _ _ D.TOi1 (b1.extBut _ _ D.TOz pO)
    refine wpAny_bind (wpAny_seqItems p2 rfl (wpAny_bind (wpAny_updateSeq_pair p2 fun g3 p3 b3 => ?_)))
    replace p3 : IsPair g3 TO x b := p3
    refine wpAny_bind (wpAny_letGo (wpAny_pure (wpAny_bind (wpAny_bind (wpAny_onRaise ?_))))); show wpAny _ _ (Builtin.SmallTypes.nextOf (Value.ref i2) >>= _) _ _ _
    refine wpAny_bind (nextK_item (((it2.ext b1.extBut D.i2z).ext b2.extBut D.i12.symm).ext b3.extBut D.TOi2.symm) (((t2.ext b1.extBut D.l2z).ext b2.extBut D.l2i1).ext b3.extBut D.l2TO) hy fun g4 j4 b4 => wpAny_pure ?_)
    have p4 : IsPair g4 TO x b := b4.extBut _ _ D.TOi2 p3
    refine wpAny_bind (wpAny_seqItems p4 rfl (wpAny_bind (wpAny_updateSeq_pair p4 fun g5 p5 b5 => ?_)))
    replace p5 : IsPair g5 TO x y := p5
    refine wpAny_bind (wpAny_letGo (wpAny_pure (wpAny_pure (wpAny_bind (wpAny_seqItems p5 rfl (wpAny_bind (wpAny_newTuple ?_)))))))
    have ez : g5.objs.size = s.heap.objs.size := by rw [b5.1, b4.1, b3.1, b2.1, b1.1]
    have z5 : IsZg g5 z TI TO .ellipsis f := b5.extBut _ _ D.TOz.symm (b4.extBut _ _ D.i2z.symm (b3.extBut _ _ D.TOz.symm (b2.extBut _ _ D.i1z.symm gz1)))
    have k5 : ∀ c o, c ≠ z → c ≠ TO → c ≠ i1 → c ≠ i2 → s.heap.get? c = some o → g5.get? c = some o := fun c o c1 c2 c3 c4 e => b5.extBut _ _ c2 (b4.extBut _ _ c4 (b3.extBut _ _ c2 (b2.extBut _ _ c3 (b1.extBut _ _ c1 e))))
    have i5 : ItK kb1 g5 i1 l1 (k1 + 1) := ((j2.ext b3.extBut D.TOi1.symm).ext b4.extBut D.i12).ext b5.extBut D.TOi1.symm
    have m5 : ItK kb2 g5 i2 l2 (k2 + 1) := j4.ext b5.extBut D.TOi2.symm
    have lz : z < g5.objs.size := Heap.lt_size z5
    show wpAny _ _ (Builtin.SmallTypes.ownedTupleHandOut (Value.ref z) (.ref g5.objs.size) >>= _) _ _ _
    refine wpAny_bind ?_; unfold Builtin.SmallTypes.ownedTupleHandOut
    have z6 : IsZg (g5.push { cls := .type "tuple", data := .seq #[x, y] }) z TI TO .ellipsis f := Heap.get?_push_of_some _ z5
    refine wpAny_bind (wpAny_setField_rec z6 (by simp) fun g7 z7 b7 => ?_)
    replace z7 : IsZg g7 z TI TO (rawInt g5.objs.size) f := z7
    refine wpAny_setField_rec z7 (by simp) fun g8 z8 b8 => ?_
    replace z8 : IsZg g8 z TI TO (rawInt g5.objs.size) false := z8
    have up : ∀ c o, c ≠ z → g5.get? c = some o → g8.get? c = some o := fun c o c1 e => b8.extBut _ _ c1 (b7.extBut _ _ c1 (Heap.get?_push_of_some _ e))
    have p8 : IsPair g8 g5.objs.size x y := b8.extBut _ _ (Nat.ne_of_gt lz) (b7.extBut _ _ (Nat.ne_of_gt lz) (Heap.get?_push_size _ rfl))
    have e8 : g8.objs.size = g5.objs.size + 1 := by rw [b8.1, b7.1, Heap.size_push]
    rw [ez] at z8 p8 e8
    refine wpAny_pure ⟨_, rfl, ?_⟩; show Q (.ref g5.objs.size) _; rw [ez]
    exact hQ g8 _ _ z8 ⟨_, _, up _ _ D.TOz p5⟩ (i5.at fun o e => up _ o D.i1z e) (m5.at fun o e => up _ o D.i2z e) p8 e8 fun c o c1 c2 c3 c4 e => up c o c1 (k5 c o c1 c2 c3 c4 e)
  · simp only [Bool.false_eq_true, if_false]
    refine wpAny_bind ?_; rw [← Array.forIn_toList]; simp only [List.forIn_cons, List.forIn_nil]
    refine wpAny_bind (wpAny_bind (wpAny_holding ?_)); show wpAny _ _ (Builtin.SmallTypes.nextOf (Value.ref i1) >>= _) _ _ _
    refine wpAny_bind (nextK_item (s := { s with heap := g1 }) (it1.ext b1.extBut D.i1z) (t1.ext b1.extBut D.l1z) hx fun g2 j2 b2 => wpAny_pure (wpAny_pure (wpAny_bind (wpAny_bind (wpAny_holding ?_)))))
    show wpAny _ _ (Builtin.SmallTypes.nextOf (Value.ref i2) >>= _) _ _ _
    refine wpAny_bind (nextK_item (s := { s with heap := g2 }) ((it2.ext b1.extBut D.i2z).ext b2.extBut D.i12.symm) ((t2.ext b1.extBut D.l2z).ext b2.extBut D.l2i1) hy fun g3 j3 b3 => wpAny_pure (wpAny_pure (wpAny_pure ?_)))
    show wpAny _ _ (newTuple [x, y] >>= _) _ _ _; refine wpAny_bind (wpAny_newTuple ?_)
    have ez : g3.objs.size = s.heap.objs.size := by rw [b3.1, b2.1, b1.1]
    have z3 : IsZg g3 z TI TO v true := b3.extBut _ _ D.i2z.symm (b2.extBut _ _ D.i1z.symm gz1)
    have k3 : ∀ c o, c ≠ z → c ≠ TO → c ≠ i1 → c ≠ i2 → s.heap.get? c = some o → g3.get? c = some o := fun c o c1 _ c3 c4 e => b3.extBut _ _ c4 (b2.extBut _ _ c3 (b1.extBut _ _ c1 e))
    have i3 : ItK kb1 g3 i1 l1 (k1 + 1) := j2.ext b3.extBut D.i12
    have p3 : IsPair g3 TO a b := b3.extBut _ _ D.TOi2 (b2.extBut _ _ D.TOi1 (b1.extBut _ _ D.TOz pO))
    refine wpAny_pure ⟨_, rfl, ?_⟩; show Q (.ref g3.objs.size) _
    have hp : IsPair (g3.push { cls := .type "tuple", data := .seq #[x, y] }) g3.objs.size x y := Heap.get?_push_size _ rfl
    have z4 : (g3.push { cls := .type "tuple", data := .seq #[x, y] }).objs.size = g3.objs.size + 1 := Heap.size_push ..
    rw [ez] at hp z4 ⊢; rw [ev] at z3
    exact hQ _ T true (Heap.get?_push_of_some _ z3) ⟨_, _, Heap.get?_push_of_some _ p3⟩ (i3.at fun o e => Heap.get?_push_of_some _ e) (j3.at fun o e => Heap.get?_push_of_some _ e) hp z4 fun c o c1 c2 c3 c4 e => Heap.get?_push_of_some _ (k3 c o c1 c2 c3 c4 e)
theorem zl_end {kb1 kb2 : Bool} {z TI TO i1 i2 l1 l2 : Addr} {k1 k2 : Nat} {xs ys : Array Value} {a b v : Value} {f : Bool} {Q : Fin → Shared → Prop} (hh : A.handled = none) (D : ZipApart z TI TO i1 i2 l1 l2)
    (hz : IsZg s.heap z TI TO v f) (hv : v = .none ∨ ∃ T : Addr, v = rawInt T) (pI : IsPair s.heap TI (.ref i1) (.ref i2)) (pO : IsPair s.heap TO a b)
    (it1 : ItK kb1 s.heap i1 l1 k1) (it2 : ItK kb2 s.heap i2 l2 k2) (t1 : SqK kb1 s.heap l1 xs) (t2 : SqK kb2 s.heap l2 ys) (hend : xs[k1]? = none ∨ ys[k2]? = none)
    (hE : ∀ h' e, (∀ c o, c ≠ z → c ≠ TO → c ≠ i1 → c ≠ i2 → s.heap.get? c = some o → h'.get? c = some o) → (∃ o, h'.get? e = some o ∧ o.cls = .type "StopIteration") → E (.ref e) { s with heap := h' }) :
    wpAny (model prog w) A (Builtin.«zip.__next__» ⟨[.ref z], []⟩) Q E s := by
  show wpAny _ _ (field (.ref z) 2 >>= _) _ _ _
  refine wpAny_bind (wpAny_field hz rfl (x := Value.bool false) rfl ?_); show wpAny _ _ (field (.ref z) 3 >>= _) _ _ _
  refine wpAny_bind (wpAny_field hz rfl (x := Value.ref TI) rfl (wpAny_bind (wpAny_seqItems pI rfl ?_)))
  show wpAny _ _ (Builtin.SmallTypes.ownedTupleIsFree (Value.ref z) >>= _) _ _ _
  refine wpAny_bind (zg_free hz hv ?_ fun T g1 ev gz1 b1 => ?_)
  · simp only [if_true]
    refine wpAny_bind (wpAny_rule (wpAny_bind (wpAny_field hz rfl (x := Value.ref TO) rfl (wpAny_bind (wpAny_setField_rec hz (by simp) fun g1 gz1 b1 => ?_)))))
    replace gz1 : IsZg g1 z TI TO .ellipsis f := gz1
    refine wpAny_bind ?_; simp only [List.zipIdx_cons, List.zipIdx_nil, List.forIn_cons, List.forIn_nil]
    refine wpAny_bind (wpAny_bind (wpAny_onRaise ?_)); show wpAny _ _ (Builtin.SmallTypes.nextOf (Value.ref i1) >>= _) _ _ _
    cases hx : xs[k1]? with
    | none =>
      refine wpAny_bind (nextK_end hh (it1.ext b1.extBut D.i1z) (t1.ext b1.extBut D.l1z) hx fun g2 e b2 he => ?_)
      obtain ⟨oe, hoe, hce⟩ := he
      have z2 : IsZg g2 z TI TO .ellipsis f := b2 _ _ D.i1z.symm gz1
      have ne : e ≠ z := fun u => by subst u; rw [z2] at hoe; cases hoe; simp at hce
      exact wpAny_setField_rec z2 (by simp) fun g3 _ b3 => hE g3 e (fun c o c1 _ c3 _ u => b3.extBut _ _ c1 (b2 _ _ c3 (b1.extBut _ _ c1 u))) ⟨oe, b3.extBut _ _ ne hoe, hce⟩
    | some x =>
      have hy : ys[k2]? = none := by rcases hend with h | h; rw [hx] at h; cases h; exact h
      refine wpAny_bind (nextK_item (it1.ext b1.extBut D.i1z) (t1.ext b1.extBut D.l1z) hx fun g2 j2 b2 => wpAny_pure ?_)
      have p2 : IsPair g2 TO a b := b2.extBut _ _ D.TOi1 (b1.extBut _ _ D.TOz pO)
      refine wpAny_bind (wpAny_seqItems p2 rfl (wpAny_bind (wpAny_updateSeq_pair p2 fun g3 p3 b3 => wpAny_bind (wpAny_letGo (wpAny_pure (wpAny_bind (wpAny_bind (wpAny_onRaise ?_))))))))
      show wpAny _ _ (Builtin.SmallTypes.nextOf (Value.ref i2) >>= _) _ _ _
      refine wpAny_bind (nextK_end hh (((it2.ext b1.extBut D.i2z).ext b2.extBut D.i12.symm).ext b3.extBut D.TOi2.symm) (((t2.ext b1.extBut D.l2z).ext b2.extBut D.l2i1).ext b3.extBut D.l2TO) hy fun g4 e b4 he => ?_)
      obtain ⟨oe, hoe, hce⟩ := he
      have z4 : IsZg g4 z TI TO .ellipsis f := b4 _ _ D.i2z.symm (b3.extBut _ _ D.TOz.symm (b2.extBut _ _ D.i1z.symm gz1))
      have ne : e ≠ z := fun u => by subst u; rw [z4] at hoe; cases hoe; simp at hce
      exact wpAny_setField_rec z4 (by simp) fun g5 _ b5 => hE g5 e (fun c o c1 c2 c3 c4 u => b5.extBut _ _ c1 (b4 _ _ c4 (b3.extBut _ _ c2 (b2.extBut _ _ c3 (b1.extBut _ _ c1 u))))) ⟨oe, b5.extBut _ _ ne hoe, hce⟩
  · simp only [Bool.false_eq_true, if_false]
    refine wpAny_bind ?_; rw [← Array.forIn_toList]; simp only [List.forIn_cons, List.forIn_nil]
    refine wpAny_bind (wpAny_bind (wpAny_holding ?_)); show wpAny _ _ (Builtin.SmallTypes.nextOf (Value.ref i1) >>= _) _ _ _
    cases hx : xs[k1]? with
    | none =>
      refine wpAny_bind (nextK_end (s := { s with heap := g1 }) hh (it1.ext b1.extBut D.i1z) (t1.ext b1.extBut D.l1z) hx fun g2 e b2 he => ?_)
      exact hE g2 e (fun c o c1 _ c3 _ u => b2 _ _ c3 (b1.extBut _ _ c1 u)) he
    | some x =>
      have hy : ys[k2]? = none := by rcases hend with h | h; rw [hx] at h; cases h; exact h
      refine wpAny_bind (nextK_item (s := { s with heap := g1 }) (it1.ext b1.extBut D.i1z) (t1.ext b1.extBut D.l1z) hx fun g2 j2 b2 => wpAny_pure (wpAny_pure (wpAny_bind (wpAny_bind (wpAny_holding ?_)))))
      show wpAny _ _ (Builtin.SmallTypes.nextOf (Value.ref i2) >>= _) _ _ _
      refine wpAny_bind (nextK_end (s := { s with heap := g2 }) hh ((it2.ext b1.extBut D.i2z).ext b2.extBut D.i12.symm) ((t2.ext b1.extBut D.l2z).ext b2.extBut D.l2i1) hy fun g3 e b3 he => ?_)
      exact hE g3 e (fun c o c1 _ c3 c4 u => b3 _ _ c4 (b2.extBut _ _ c3 (b1.extBut _ _ c1 u))) he
theorem zl_next {kb1 kb2 : Bool} {z TI TO i1 i2 l1 l2 : Addr} {k1 k2 : Nat} {xs ys : Array Value} {x y a b v : Value} {f : Bool} {Q : Option Value → Shared → Prop} (D : ZipApart z TI TO i1 i2 l1 l2)
    (hz : IsZg s.heap z TI TO v f) (hv : v = .none ∨ ∃ T : Addr, v = rawInt T) (pI : IsPair s.heap TI (.ref i1) (.ref i2)) (pO : IsPair s.heap TO a b)
    (it1 : ItK kb1 s.heap i1 l1 k1) (it2 : ItK kb2 s.heap i2 l2 k2) (t1 : SqK kb1 s.heap l1 xs) (t2 : SqK kb2 s.heap l2 ys) (hx : xs[k1]? = some x) (hy : ys[k2]? = some y)
    (hQ : ∀ (h' : Heap) (T : Addr) (f' : Bool), IsZg h' z TI TO (rawInt T) f' → (∃ c d, IsPair h' TO c d) → ItK kb1 h' i1 l1 (k1 + 1) → ItK kb2 h' i2 l2 (k2 + 1) → IsPair h' s.heap.objs.size x y → h'.objs.size = s.heap.objs.size + 1 →
      (∀ c o, c ≠ z → c ≠ TO → c ≠ i1 → c ≠ i2 → s.heap.get? c = some o → h'.get? c = some o) → Q (some (.ref s.heap.objs.size)) { s with heap := h' }) : wpAny (model prog w) A (pyNext (.ref z)) Q E s := by
  have ty : s.TypeIs (.ref z) "zip" := ⟨_, hz, rfl⟩
  unfold pyNext
  exact wpAny_bind (wpAny_attempt (wpAny_callSpecial?_slot (name := Str.ofString "__next__") ty F.slot_zip_next (wpAny_call_entry F.slot_zip_next ty F.entry_zip_next
      (zl_item D hz hv pI pO it1 it2 t1 t2 hx hy fun h' T f' a1 a2 a3 a4 a5 a6 a7 => wpAny_pure (hQ h' T f' a1 a2 a3 a4 a5 a6 a7)) (F.args_zip_next_1 _))))
theorem zl_stop {kb1 kb2 : Bool} {z TI TO i1 i2 l1 l2 : Addr} {k1 k2 : Nat} {xs ys : Array Value} {a b v : Value} {f : Bool} {Q : Option Value → Shared → Prop} (hh : A.handled = none) (D : ZipApart z TI TO i1 i2 l1 l2)
    (hz : IsZg s.heap z TI TO v f) (hv : v = .none ∨ ∃ T : Addr, v = rawInt T) (pI : IsPair s.heap TI (.ref i1) (.ref i2)) (pO : IsPair s.heap TO a b)
    (it1 : ItK kb1 s.heap i1 l1 k1) (it2 : ItK kb2 s.heap i2 l2 k2) (t1 : SqK kb1 s.heap l1 xs) (t2 : SqK kb2 s.heap l2 ys) (hend : xs[k1]? = none ∨ ys[k2]? = none)
    (hQ : ∀ h', (∀ c o, c ≠ z → c ≠ TO → c ≠ i1 → c ≠ i2 → s.heap.get? c = some o → h'.get? c = some o) → Q none { s with heap := h' }) : wpAny (model prog w) A (pyNext (.ref z)) Q E s := by
  have ty : s.TypeIs (.ref z) "zip" := ⟨_, hz, rfl⟩
  unfold pyNext
  refine wpAny_bind (wpAny_attempt (wpAny_callSpecial?_slot (name := Str.ofString "__next__") ty F.slot_zip_next (wpAny_call_entry F.slot_zip_next ty F.entry_zip_next (zl_end hh D hz hv pI pO it1 it2 t1 t2 hend fun h' e hk he => ?_) (F.args_zip_next_1 _))))
  obtain ⟨o, ho, hc⟩ := he
  exact wpAny_bind (wpAny_isInstance (T := "StopIteration") (b := true) ⟨o, ho, hc⟩ isSubtype_stop (wpAny_pure (hQ _ hk)))
end
/-- the loop of list.extend over a zip, at item i: h0, H0 as they stood before, S the new list -/
structure LzI (h0 : Heap) (H0 : Hp) (b1 b2 : Bool) (S z TI TO i1 i2 a b : Addr) (xs ys : List V) (i : Nat) (h : Heap) (acc : Array Value) (Hc : Hp) (ts : List Addr) : Prop where
  zg : ∃ v f, IsZg h z TI TO v f ∧ (v = .none ∨ ∃ T : Addr, v = rawInt T)
  pI : IsPair h TI (.ref i1) (.ref i2)
  pO : ∃ x y, IsPair h TO x y
  j1 : ItK b1 h i1 a i
  j2 : ItK b2 h i2 b i
  keep : ∀ c o, h0.get? c = some o → h.get? c = some o
  lst : ∃ c, h.get? S = some { cls := .type "list", dict := none, data := .seq acc c, slots := #[] }
  acc : acc.toList = ts.map Value.ref
  len : ts.length = i
  ext : AExt H0 Hc
  low : ∀ c, c < h0.objs.size → Hc c = H0 c
  nil : ∀ c, h.objs.size ≤ c → Hc c = none
  noS : Hc S = none
  tup : ∀ (j : Nat) (T : Addr), ts[j]? = some T → ∃ x y, xs[j]? = some x ∧ ys[j]? = some y ∧ H0 T = none ∧ Hc T = some (.tup [x, y])
  new : ∀ c u, H0 c = none → Hc c = some u → (c ≠ S ∧ c ≠ z ∧ c ≠ TI ∧ c ≠ TO ∧ c ≠ i1 ∧ c ≠ i2) ∧ ∃ x y v w, u = .tup [x, y] ∧ RelV x v ∧ RelV y w ∧ IsPair h c v w
theorem lz_step {h0 h' : Heap} {H0 Hc : Hp} {b1 b2 : Bool} {S z TI TO i1 i2 a b T : Addr} {xs ys : List V} {i c0 : Nat} {h : Heap} {acc : Array Value} {ts : List Addr} {x y : V} {u w : Value} {f' : Bool}
    (hab : ∀ c ∈ [S, z, TI, TO, i1, i2], h0.objs.size ≤ c ∧ c < h.objs.size) (hne : S ≠ z ∧ S ≠ TI ∧ S ≠ TO ∧ S ≠ i1 ∧ S ≠ i2) (L : LzI h0 H0 b1 b2 S z TI TO i1 i2 a b xs ys i h acc Hc ts) (D : ZipApart z TI TO i1 i2 a b)
    (hx : xs[i]? = some x) (hy : ys[i]? = some y) (rx : RelV x u) (ry : RelV y w) (hS : h.get? S = some { cls := .type "list", dict := none, data := .seq acc c0, slots := #[] }) (hH : ∀ c, h0.objs.size ≤ c → H0 c = none)
    (g1 : IsZg h' z TI TO (rawInt T) f') (g2 : ∃ c d, IsPair h' TO c d) (g3 : ItK b1 h' i1 a (i + 1)) (g4 : ItK b2 h' i2 b (i + 1)) (g5 : IsPair h' h.objs.size u w) (g6 : h'.objs.size = h.objs.size + 1)
    (g7 : ∀ c o, c ≠ z → c ≠ TO → c ≠ i1 → c ≠ i2 → h.get? c = some o → h'.get? c = some o) :
    LzI h0 H0 b1 b2 S z TI TO i1 i2 a b xs ys (i + 1) (h'.update S (Obj.mapSeq (·.push (.ref h.objs.size)))) (acc.push (.ref h.objs.size)) (upd Hc h.objs.size (.tup [x, y])) (ts ++ [h.objs.size]) := by
  obtain ⟨n1, n2, n3, n4, n5⟩ := hne
  have ls : S < h.objs.size := (hab S (by simp)).2
  have hS' : h'.get? S = some { cls := .type "list", dict := none, data := .seq acc c0, slots := #[] } := g7 S _ n1 n3 n4 n5 hS
  have oth : ∀ c o, c ≠ S → h'.get? c = some o → (h'.update S (Obj.mapSeq (·.push (.ref h.objs.size)))).get? c = some o := fun c o n e => (Heap.get?_update_other _ _ (Ne.symm n)).trans e
  have lo : ∀ c o, h0.get? c = some o → c ≠ S ∧ c ≠ z ∧ c ≠ TO ∧ c ≠ i1 ∧ c ≠ i2 := fun c o e => by
    have l := Heap.lt_size e
    exact ⟨fun q => absurd (Nat.lt_of_lt_of_le l (q ▸ (hab S (by simp)).1)) (Nat.lt_irrefl _), fun q => absurd (Nat.lt_of_lt_of_le l (q ▸ (hab z (by simp)).1)) (Nat.lt_irrefl _), fun q => absurd (Nat.lt_of_lt_of_le l (q ▸ (hab TO (by simp)).1)) (Nat.lt_irrefl _), fun q => absurd (Nat.lt_of_lt_of_le l (q ▸ (hab i1 (by simp)).1)) (Nat.lt_irrefl _), fun q => absurd (Nat.lt_of_lt_of_le l (q ▸ (hab i2 (by simp)).1)) (Nat.lt_irrefl _)⟩
  have hn : Hc h.objs.size = none := L.nil _ (Nat.le_refl _)
  have h0n : h0.objs.size ≤ h.objs.size := Nat.le_trans (hab S (by simp)).1 (Nat.le_of_lt (hab S (by simp)).2)
  have hT0 : H0 h.objs.size = none := hH _ h0n
  exact {
    zg := ⟨_, _, oth _ _ (Ne.symm n1) g1, .inr ⟨_, rfl⟩⟩
    pI := oth _ _ (Ne.symm n2) (g7 _ _ D.TIz D.TITO D.TIi1 D.TIi2 L.pI)
    pO := let ⟨p, q, e⟩ := g2; ⟨p, q, oth _ _ (Ne.symm n3) e⟩
    j1 := g3.at fun o e => oth _ _ (Ne.symm n4) e
    j2 := g4.at fun o e => oth _ _ (Ne.symm n5) e
    keep := fun c o e => by
      obtain ⟨m1, m2, m3, m4, m5⟩ := lo c o e
      exact oth _ _ m1 (g7 _ _ m2 m3 m4 m5 (L.keep c o e))
    lst := ⟨_, Heap.get?_update_self _ hS' rfl⟩
    acc := by rw [Array.toList_push, L.acc]; simp
    len := by rw [List.length_append, L.len]; rfl
    ext := fun c o e => by
      have q := L.ext c o e
      rw [upd_ne (ne_of_none q hn)]; exact q
    low := fun c l => by rw [upd_ne (Nat.ne_of_lt (Nat.lt_of_lt_of_le l h0n))]; exact L.low c l
    nil := fun c l => by
      rw [Heap.size_update, g6] at l
      rw [upd_ne (Nat.ne_of_gt (Nat.lt_of_succ_le l))]; exact L.nil c (Nat.le_of_lt (Nat.lt_of_succ_le l))
    noS := by rw [upd_ne (Nat.ne_of_lt ls)]; exact L.noS
    tup := fun j T' e => by
      rcases Nat.lt_or_ge j ts.length with l | l
      · rw [List.getElem?_append_left l] at e
        obtain ⟨x', y', e1, e2, e3, e4⟩ := L.tup j T' e
        exact ⟨x', y', e1, e2, e3, by rw [upd_ne (ne_of_none e4 hn)]; exact e4⟩
      · rw [List.getElem?_append_right l] at e
        have : j = ts.length := by
          rcases Nat.lt_or_ge (j - ts.length) 1 with z | z
          · omega
          · rw [List.getElem?_eq_none (by simpa using z)] at e; cases e
        subst this
        rw [Nat.sub_self] at e
        cases e
        rw [L.len]
        exact ⟨x, y, hx, hy, hT0, upd_same⟩
    new := fun c u' e1 e2 => by
      by_cases q : c = h.objs.size
      · subst q
        rw [upd_same] at e2
        cases e2
        refine ⟨⟨?_, ?_, ?_, ?_, ?_, ?_⟩, x, y, u, w, rfl, rx, ry, oth _ _ (Nat.ne_of_gt ls) g5⟩
        · exact Nat.ne_of_gt (hab S (by simp)).2
        · exact Nat.ne_of_gt (hab z (by simp)).2
        · exact Nat.ne_of_gt (hab TI (by simp)).2
        · exact Nat.ne_of_gt (hab TO (by simp)).2
        · exact Nat.ne_of_gt (hab i1 (by simp)).2
        · exact Nat.ne_of_gt (hab i2 (by simp)).2
      · rw [upd_ne q] at e2
        obtain ⟨⟨m1, m2, m3, m4, m5, m6⟩, x', y', v', w', e3, r1, r2, p⟩ := L.new c u' e1 e2
        exact ⟨⟨m1, m2, m3, m4, m5, m6⟩, x', y', v', w', e3, r1, r2, oth _ _ m1 (g7 _ _ m2 m4 m5 m6 p)⟩ }
section
variable {prog : Program} {w : World} {A : Around} {R : Result → Shared → Prop}
theorem lz_loop {h0 : Heap} {H0 : Hp} {b1 b2 : Bool} {S z TI TO i1 i2 a b : Addr} {xs ys : List V} {its its2 : List Value} (hh : A.handled = none) (D : ZipApart z TI TO i1 i2 a b) (hne : S ≠ z ∧ S ≠ TI ∧ S ≠ TO ∧ S ≠ i1 ∧ S ≠ i2)
    (rv : Vals xs its) (rv2 : Vals ys its2) (tk : ∀ h, (∀ c o, h0.get? c = some o → h.get? c = some o) → SqK b1 h a its.toArray ∧ SqK b2 h b its2.toArray)
    (hn : xs.length ≤ sizeLine) (hH : ∀ c, h0.objs.size ≤ c → H0 c = none) (res : Value) :
    ∀ (k i : Nat) (s : Shared) (acc : Array Value) (Hc : Hp) (ts : List Addr), min xs.length ys.length - i = k → i ≤ min xs.length ys.length → (∀ c ∈ [S, z, TI, TO, i1, i2], h0.objs.size ≤ c ∧ c < s.heap.objs.size) →
      LzI h0 H0 b1 b2 S z TI TO i1 i2 a b xs ys i s.heap acc Hc ts →
      (∀ (h' : Heap) (Hc' : Hp) (ts' : List Addr), (∀ c o, h0.get? c = some o → h'.get? c = some o) → (∃ acc' c, h'.get? S = some { cls := .type "list", dict := none, data := .seq acc' c, slots := #[] } ∧ acc'.toList = ts'.map Value.ref) → ts'.length = min xs.length ys.length →
        AExt H0 Hc' → (∀ c, c < h0.objs.size → Hc' c = H0 c) → Hc' S = none → (∀ (j : Nat) (T : Addr), ts'[j]? = some T → ∃ x y, xs[j]? = some x ∧ ys[j]? = some y ∧ H0 T = none ∧ Hc' T = some (.tup [x, y])) →
        (∀ c u, H0 c = none → Hc' c = some u → ∃ x y v w, u = .tup [x, y] ∧ RelV x v ∧ RelV y w ∧ IsPair h' c v w) → R (.ok (.ret res)) { s with heap := h' }) →
    codeAny (model prog w) A (.builtin "list.extend.loop" ⟨[.ref S, .ref z, res], []⟩) R s := by
  intro k
  induction k with
  | zero =>
    intro i s acc Hc ts hk hi hab L hR
    have hin : i = min xs.length ys.length := by omega
    refine codeAny_builtin F.entry_extend_loop ?_
    rw [Around.under_plainId F.plain_extend_loop _]
    show wpAny _ A.in1 (pyNext (.ref z) >>= _) _ _ s
    obtain ⟨v, f, hz, hv⟩ := L.zg
    obtain ⟨p, q, pO⟩ := L.pO
    obtain ⟨k1, k2⟩ := tk _ L.keep
    have l1 := rv.length
    have l2 := rv2.length
    have he : its.toArray[i]? = Option.none ∨ its2.toArray[i]? = Option.none := by
      rcases Nat.le_total xs.length ys.length with q | q
      · exact .inl (by simp; omega)
      · exact .inr (by simp; omega)
    refine wpAny_bind (zl_stop (A := A.in1) hh D hz hv L.pI pO L.j1 L.j2 k1 k2 he fun h' hk' => wpAny_pure ?_)
    have lo : ∀ c, c ≠ z → c ≠ TO → c ≠ i1 → c ≠ i2 → ∀ o, s.heap.get? c = some o → h'.get? c = some o := fun c a1 a2 a3 a4 o e => hk' c o a1 a2 a3 a4 e
    obtain ⟨n1, n2, n3, n4, n5⟩ := hne
    obtain ⟨cc, hS⟩ := L.lst
    refine hR h' Hc ts (fun c o e => ?_) ⟨acc, cc, lo S n1 n3 n4 n5 _ hS, L.acc⟩ (L.len.trans hin) L.ext L.low L.noS L.tup fun c u e1 e2 => ?_
    · have l := Heap.lt_size e
      exact lo c (fun q => absurd (Nat.lt_of_lt_of_le l (q ▸ (hab z (by simp)).1)) (Nat.lt_irrefl _)) (fun q => absurd (Nat.lt_of_lt_of_le l (q ▸ (hab TO (by simp)).1)) (Nat.lt_irrefl _)) (fun q => absurd (Nat.lt_of_lt_of_le l (q ▸ (hab i1 (by simp)).1)) (Nat.lt_irrefl _)) (fun q => absurd (Nat.lt_of_lt_of_le l (q ▸ (hab i2 (by simp)).1)) (Nat.lt_irrefl _)) o (L.keep c o e)
    · obtain ⟨⟨_, m2, _, m4, m5, m6⟩, x', y', v', w', e3, r1, r2, p⟩ := L.new c u e1 e2
      exact ⟨x', y', v', w', e3, r1, r2, lo c m2 m4 m5 m6 _ p⟩
  | succ k ih =>
    intro i s acc Hc ts hk hi hab L hR
    have hlt : i < min xs.length ys.length := by omega
    refine codeAny_builtin F.entry_extend_loop ?_
    rw [Around.under_plainId F.plain_extend_loop _]
    show wpAny _ A.in1 (pyNext (.ref z) >>= _) _ _ s
    obtain ⟨v, f, hz, hv⟩ := L.zg
    obtain ⟨p, q, pO⟩ := L.pO
    obtain ⟨k1, k2⟩ := tk _ L.keep
    have hx : xs[i]? = some xs[i] := List.getElem?_eq_getElem (by omega)
    have hy : ys[i]? = some ys[i] := List.getElem?_eq_getElem (by omega)
    obtain ⟨u, hu, ru⟩ := rv.get hx
    obtain ⟨u2, hu2, ru2⟩ := rv2.get hy
    refine wpAny_bind (zl_next (A := A.in1) D hz hv L.pI pO L.j1 L.j2 k1 k2 (x := u) (y := u2) (by simpa using hu) (by simpa using hu2) fun h' T f' a1 a2 a3 a4 a5 a6 a7 => ?_)
    obtain ⟨cc, hS⟩ := L.lst
    obtain ⟨n1, n2, n3, n4, n5⟩ := hne
    have hS' := a7 S _ n1 n3 n4 n5 hS
    show wpAny _ A.in1 (updateSeq S (·.push (.ref s.heap.objs.size)) >>= _) _ _ _
    refine wpAny_bind ?_
    have sz : acc.size = i := by rw [← Array.length_toList, L.acc, List.length_map, L.len]
    have L' := lz_step hab ⟨n1, n2, n3, n4, n5⟩ L D hx hy ru ru2 hS hH a1 a2 a3 a4 a5 a6 a7
    refine wpAny_updateSeq hS' rfl (wpAny_pure ⟨plainId_quiet F.plain_extend_loop _, ih (i + 1) _ _ _ _ (by omega) (by omega) (fun c hc => ?_) L' fun h'' Hc' ts' z1 z2 z3 z4 z5 z6 z7 z8 => ?_⟩)
      (by rw [sz]; omega) (by show (acc.push (.ref s.heap.objs.size)).size ≤ sizeLine + 1; rw [Array.size_push, sz]; omega)
    · obtain ⟨c1, c2⟩ := hab c hc
      refine ⟨c1, ?_⟩
      show c < (h'.update S _).objs.size
      rw [Heap.size_update, a6]; exact Nat.lt_succ_of_lt c2
    · exact hR h'' Hc' ts' z1 z2 z3 z4 z5 z6 z7 z8
end
theorem lz_nolen : typeLookup (.type "zip") "__len__" = pure none := by rw [typeLookup_type, builtinLookup_eq_fast]; kernel_rfl
theorem lz_nohint : typeLookup (.type "zip") "__length_hint__" = pure none := by rw [typeLookup_type, builtinLookup_eq_fast]; kernel_rfl
section
variable {prog : Program} {w : World} {A : Around} {E : Value → Shared → Prop} {s : Shared}
theorem call_list_zl {h0 : Heap} {H0 : Hp} {b1 b2 : Bool} {z TI TO i1 i2 a b : Addr} {xs ys : List V} {its its2 : List Value} {Q : Value → Shared → Prop} (hh : A.handled = none) (D : ZipApart z TI TO i1 i2 a b)
    (rv : Vals xs its) (rv2 : Vals ys its2) (tk : ∀ h, (∀ c o, h0.get? c = some o → h.get? c = some o) → SqK b1 h a its.toArray ∧ SqK b2 h b its2.toArray) (hn : xs.length ≤ sizeLine) (hH : ∀ c, h0.objs.size ≤ c → H0 c = none)
    (hz : IsZg s.heap z TI TO .none false) (pI : IsPair s.heap TI (.ref i1) (.ref i2)) (pO : ∃ x y, IsPair s.heap TO x y) (j1 : ItK b1 s.heap i1 a 0) (j2 : ItK b2 s.heap i2 b 0) (k0 : ∀ c o, h0.get? c = some o → s.heap.get? c = some o)
    (hab : ∀ c ∈ [z, TI, TO, i1, i2], h0.objs.size ≤ c ∧ c < s.heap.objs.size)
    (hQ : ∀ (S : Addr) (h' : Heap) (tk' : Nat) (Hc : Hp) (ts : List Addr), (∀ c o, h0.get? c = some o → h'.get? c = some o) → (∃ acc c, h'.get? S = some { cls := .type "list", dict := none, data := .seq acc c, slots := #[] } ∧ acc.toList = ts.map Value.ref) → ts.length = min xs.length ys.length →
        h0.objs.size ≤ S → AExt H0 Hc → (∀ c, c < h0.objs.size → Hc c = H0 c) → Hc S = none → (∀ (j : Nat) (T : Addr), ts[j]? = some T → ∃ x y, xs[j]? = some x ∧ ys[j]? = some y ∧ H0 T = none ∧ Hc T = some (.tup [x, y])) →
        (∀ c u, H0 c = none → Hc c = some u → ∃ x y v w, u = .tup [x, y] ∧ RelV x v ∧ RelV y w ∧ IsPair h' c v w) → Q (.ref S) { s with heap := h', toks := tk' }) :
    wpAny (model prog w) A (call (.type "list") [.ref z]) Q E s := by
  have lz : z < s.heap.objs.size := Heap.lt_size hz
  have h0s : h0.objs.size ≤ s.heap.objs.size := Nat.le_trans (hab z (by simp)).1 (Nat.le_of_lt lz)
  refine callType_codes (Q₁ := fun obj s₁ => obj = .ref s.heap.objs.size ∧ s₁ = { s with heap := s.heap.push { cls := .type "list", data := .seq #[] } }) F.called_list (F.typeCall_list_1 _) F.entry_list_init
    (code_list_new _ ⟨rfl, rfl⟩) fun obj s₁ h₁ => ?_
  obtain ⟨rfl, rfl⟩ := h₁
  have hS : (s.heap.push { cls := .type "list", data := .seq #[] }).get? s.heap.objs.size = some { cls := .type "list", data := .seq #[] } := Heap.get?_push_size _ rfl
  refine ⟨⟨_, hS, rfl⟩, F.args_list_init_2 _ _, ?_⟩
  show wpAny _ _ (do let old ← Builtin.List.listItems (.ref s.heap.objs.size); Builtin.List.listUpdate (.ref s.heap.objs.size) (fun _ => #[]); letGo old.toList.reverse; Builtin.List.listExtendWith (.ref s.heap.objs.size) (.ref z) .none) _ _ _
  refine wpAny_bind ?_
  unfold Builtin.List.listItems
  refine wpAny_bind (wpAny_seqItems hS rfl (wpAny_pure ?_))
  show wpAny _ _ (updateSeq s.heap.objs.size (fun _ => #[]) >>= fun _ => letGo (#[] : Array Value).toList.reverse >>= fun _ => Builtin.List.listExtendWith (.ref s.heap.objs.size) (.ref z) .none) _ _ _
  refine wpAny_bind (wpAny_updateSeq hS rfl ?_)
  have hS2 := Heap.get?_update_self (Obj.mapSeq (fun _ => (#[] : Array Value))) hS rfl
  have oth : ∀ b o, s.heap.get? b = some o → ((s.heap.push { cls := .type "list", data := .seq #[] }).update s.heap.objs.size (Obj.mapSeq (fun _ => (#[] : Array Value)))).get? b = some o :=
    fun b o e => (Heap.get?_update_other _ _ (Nat.ne_of_gt (Heap.lt_size e))).trans (Heap.get?_push_of_some _ e)
  refine wpAny_bind (wpAny_letGo ?_)
  unfold Builtin.List.listExtendWith
  have hT : ∀ (g : Heap) (tk : Nat), g.get? z = s.heap.get? z → Shared.TypeIs { s with heap := g, toks := tk } (.ref z) "zip" := fun g tk e => ⟨_, e.trans hz, rfl⟩
  have hz2 := oth z _ hz
  refine wpAny_bind (wpAny_typeOf (T := "zip") ⟨_, hz2, rfl⟩ ?_)
  have h1 : Builtin.List.listSameRef (.ref s.heap.objs.size) (.ref z) = false := by simp [Builtin.List.listSameRef, Nat.ne_of_gt lz]
  have h2 : (Value.type "zip" == Value.type "list") = false := by decide
  have h3 : (Value.type "zip" == Value.type "tuple") = false := by decide
  simp only [h1, h2, h3, Bool.or_false, Bool.false_eq_true, if_false]
  refine wpAny_bind (wpAny_pyIter_zip hz2 ?_)
  refine wpAny_bind (wpAny_holding ?_)
  unfold Builtin.List.listLengthHint
  refine wpAny_bind (wpAny_specialOf (T := "zip") ⟨_, hz2, rfl⟩ lz_nolen ?_)
  show wpAny _ _ (specialOf (Value.ref z) (Str.ofString "__length_hint__") >>= _) _ _ _
  refine wpAny_bind (wpAny_specialOf (T := "zip") ⟨_, hz2, rfl⟩ lz_nohint ?_)
  refine wpAny_pure ?_
  show wpAny _ _ (rule "list.extend.makes-room" >>= fun _ => Builtin.List.listTouch (.ref s.heap.objs.size) >>= fun _ =>
    again (.builtin "list.extend.loop" ⟨[.ref s.heap.objs.size, .ref z, .none], []⟩)) _ _ _
  refine wpAny_bind (wpAny_rule ?_)
  refine wpAny_bind ?_
  show wpAny _ _ (updateSeq s.heap.objs.size (·.push .none) >>= fun _ => updateSeq s.heap.objs.size (·.pop)) _ _ _
  refine wpAny_bind (wpAny_updateSeq hS2 rfl ?_)
  have hS3 := Heap.get?_update_self (Obj.mapSeq (·.push Value.none)) hS2 rfl
  refine wpAny_updateSeq hS3 rfl ?_
  have hS4 := Heap.get?_update_self (Obj.mapSeq (·.pop)) hS3 rfl
  have oth2 : ∀ b o, s.heap.get? b = some o → ((((s.heap.push { cls := .type "list", data := .seq #[] }).update s.heap.objs.size (Obj.mapSeq (fun _ => (#[] : Array Value)))).update s.heap.objs.size (Obj.mapSeq (·.push Value.none))).update s.heap.objs.size (Obj.mapSeq (·.pop))).get? b = some o :=
    fun b o e => (Heap.get?_update_other _ _ (Nat.ne_of_gt (Heap.lt_size e))).trans ((Heap.get?_update_other _ _ (Nat.ne_of_gt (Heap.lt_size e))).trans (oth b o e))
  obtain ⟨p, q, pO⟩ := pO
  have sz : ((((s.heap.push { cls := .type "list", data := .seq #[] }).update s.heap.objs.size (Obj.mapSeq (fun _ => (#[] : Array Value)))).update s.heap.objs.size (Obj.mapSeq (·.push Value.none))).update s.heap.objs.size (Obj.mapSeq (·.pop))).objs.size = s.heap.objs.size + 1 := by
    rw [Heap.size_update, Heap.size_update, Heap.size_update, Heap.size_push]
  refine wpAny_pure ⟨plainId_quiet F.plain_extend_loop _, ?_⟩
  dsimp only at hS4 oth2 sz ⊢
  revert hS4 oth2 sz
  generalize ((((s.heap.push { cls := .type "list", data := .seq #[] }).update s.heap.objs.size (Obj.mapSeq (fun _ => (#[] : Array Value)))).update s.heap.objs.size (Obj.mapSeq (·.push Value.none))).update s.heap.objs.size (Obj.mapSeq (·.pop))) = g
  intro hS4 oth2 sz
  have hh1 : A.in1.handled = none := hh
  have L0 : LzI h0 H0 b1 b2 s.heap.objs.size z TI TO i1 i2 a b xs ys 0 g #[] H0 [] :=
    { zg := ⟨_, _, oth2 _ _ hz, .inl rfl⟩
      pI := oth2 _ _ pI
      pO := ⟨p, q, oth2 _ _ pO⟩
      j1 := j1.at fun o e => oth2 _ _ e
      j2 := j2.at fun o e => oth2 _ _ e
      keep := fun c o e => oth2 _ _ (k0 c o e)
      lst := ⟨_, hS4⟩
      acc := rfl
      len := rfl
      ext := AExt.refl _
      low := fun _ _ => rfl
      nil := fun c l => hH c (by rw [sz] at l; exact Nat.le_trans h0s (Nat.le_of_lt (Nat.lt_of_succ_le l)))
      noS := hH _ h0s
      tup := fun j T e => by simp at e
      new := fun c u e1 e2 => by rw [e1] at e2; cases e2 }
  refine lz_loop (A := A.in1) (S := s.heap.objs.size) (its := its) (its2 := its2) hh1 D ⟨Nat.ne_of_gt lz, Nat.ne_of_gt (hab TI (by simp)).2, Nat.ne_of_gt (hab TO (by simp)).2, Nat.ne_of_gt (hab i1 (by simp)).2, Nat.ne_of_gt (hab i2 (by simp)).2⟩ rv rv2 tk hn hH _
    (min xs.length ys.length) 0 { s with heap := g } #[] H0 [] rfl (Nat.zero_le _) (fun c hc => ?_) L0 fun h' Hc' ts' z1 z2 z3 z4 z5 z6 z7 z8 => ?_
  · show h0.objs.size ≤ c ∧ c < g.objs.size
    rw [sz]
    rcases List.mem_cons.mp hc with rfl | hc
    · exact ⟨h0s, Nat.lt_succ_self _⟩
    · exact ⟨(hab c hc).1, Nat.lt_succ_of_lt (hab c hc).2⟩
  · exact ⟨rfl, hQ _ h' _ Hc' ts' z1 z2 z3 h0s z4 z5 z6 z7 z8⟩
end
/-- several new objects -/
theorem inv_grown {X : Cx} {pins : List (Addr × Obj)} {σ : L2.St} {H H' : Hp} {s : Shared} {h' : Heap} {t' : Nat} (I : Inv X pins σ H s) (k : ∀ b o, s.heap.get? b = some o → h'.get? b = some o) (ext : AExt H H') (low : ∀ b, b < s.heap.objs.size → H' b = H b)
    (new : ∀ b u, H b = none → H' b = some u → ObjOk X.prog X.w H' h' b u) : Inv X pins σ H' { s with heap := h', toks := t' } := by
  refine I.step (g' := s.gens) (d' := s.drawn) (ch := []) (fun b hb => by cases hb) (fun b o _ _ _ e _ => k b o e) (fun b o _ _ _ e _ => ⟨o.slots, k b o e⟩)
    (fun b o _ e n => ?_) (fun b o _ e => ⟨o, k b o e⟩) (fun b xs e => ext _ _ e) (fun b o u e => ext _ _ e) (fun b ps e => ⟨#[], ?_⟩) (fun m hm => ?_) (fun b u e => ?_) I.bare
  · rw [low b (Heap.lt_size e)]; exact n
  · rw [ext _ _ e]; simp
  · obtain ⟨o, es, ep, ho, r⟩ := hm
    exact ⟨o, es, ep, k _ o ho, r⟩
  · cases q : H b with
    | none => exact new b u q e
    | some u' =>
      have := ext _ _ q
      rw [e] at this
      cases this
      exact (I.hok b u q).stay (fun c v _ q => k c v q) (fun c q => ext _ _ q) fun c xs q => ext _ _ q
def tLZip (K : PySem.W.Frag) (ta : TA) : TE := fun σ H Q => ta σ H fun vs H1 => ∃ b1 b2 a b xs ys, vs = [.ref a, .ref b] ∧ SqV b1 K H1 a xs ∧ SqV b2 K H1 b ys ∧ xs.length ≤ sizeLine ∧
  ∀ (S : Addr) (Hc : Hp) (ts : List Addr), ts.length = min xs.length ys.length → AExt H1 Hc → Hc S = none → (∀ (j : Nat) (T : Addr), ts[j]? = some T → ∃ x y, xs[j]? = some x ∧ ys[j]? = some y ∧ H1 T = none ∧ Hc T = some (.tup [x, y])) → Q (.ref S) (upd Hc S (.lst (ts.map V.ref)))
theorem lz_refs : ∀ ts : List Addr, Vals (ts.map V.ref) (ts.map Value.ref)
  | [] => .nil
  | t :: r => .cons rfl (lz_refs r)
theorem SqV.keep {b : Bool} {X : Cx} {pins : List (Addr × Obj)} {σ : L2.St} {H : Hp} {s : Shared} {a : Addr} {xs : List V} (I : Inv X pins σ H s) (h : SqV b X.K H a xs) : ∃ its : List Value, Vals xs its ∧ SqK b s.heap a its.toArray ∧ ∀ h' : Heap, (∀ c o, s.heap.get? c = some o → h'.get? c = some o) → SqK b h' a its.toArray := by
  cases b with
  | true =>
    obtain ⟨its, rv, p, _⟩ := I.list h
    refine ⟨its, rv, p.isList, fun h' k => ?_⟩
    obtain ⟨o, e, c⟩ := p.isList
    exact ⟨o, k _ _ e, c⟩
  | false =>
    obtain ⟨its, rv, p, _⟩ := I.tuple h
    refine ⟨its, rv, p, fun h' k => ?_⟩
    obtain ⟨o, e, c⟩ := p
    exact ⟨o, k _ _ e, c⟩
theorem lz_five {n c : Nat} (h : c = n + 4 ∨ c = n + 2 ∨ c = n + 3 ∨ c = n ∨ c = n + 1) : n ≤ c ∧ c < n + 5 := by omega
theorem pe_lzip {X : Cx} {e e2 : Expr} {ta : TA} {p1 p2 pos pos2 : Pos} (hc : X.calm = true) (hg : Gl X "list") (hm : X.mg "list" = none) (hg2 : Gl X "zip") (hm2 : X.mg "zip" = none) (ha : PA X [e, e2] ta)
    (hs : starEach [e, e2] X.env = (false, eval e X.env) :: starEach [e2] X.env := by rfl) (hpl : (backTo pos2 (starEach [e2] X.env)).any (·.1) = false := by rfl)
    (na : starEach [.Call (.Name "zip" p1) [e, e2] [] pos2] X.env = (false, eval (.Call (.Name "zip" p1) [e, e2] [] pos2) X.env) :: starEach [] X.env := by rfl) :
    PE X (.Call (.Name "list" p2) [.Call (.Name "zip" p1) [e, e2] [] pos2] [] pos) (tLZip X.K ta) := by
  refine ⟨fun pins s σ H Q I h => ?_⟩
  refine Call_ (ld_blt I hg hm PyProof.Rows.boot_list (PyProof.Rows.callWith_type1 (args_cons (Call_ (ld_blt I hg2 hm2 PyProof.Rows.boot_zip (PyProof.Rows.callWith_type1 (thn (ha.run pos2 pins s σ H _ I h) fun us s1 ⟨vs, H1, I1, rr, qq⟩ => ?_) hs hpl))) na) na))
  obtain ⟨b1, b2, a, b, xs, ys, ex, hqx, hqy, hn, q⟩ := qq
  subst ex
  cases rr with
  | cons r rr =>
    cases rr with
    | cons r' rr =>
      cases rr; cases r; cases r'
      obtain ⟨its, rv, p1, k1⟩ := hqx.keep I1
      obtain ⟨its2, rv2, p2, k2⟩ := hqy.keep I1
      refine call_zm p1 p2 fun h' gz pI pO h1 h2 hsz hk => args_nil ?_
      refine call_list_zl (s := { s1 with heap := h' }) (h0 := s1.heap) (H0 := H1) (I1.ok.hd hc) (PySem.W.ktu_apart s1.heap.objs.size a b p1.lt p2.lt) rv rv2 (fun g k => ⟨k1 g k, k2 g k⟩) hn (fun c l => I1.hok.fresh l) gz pI ⟨_, _, pO⟩ h1 h2 hk (fun c hcm => ?_)
        fun S g tk Hc ts z1 z2 z3 z0 z4 z5 z6 z7 z8 => ?_
      · show s1.heap.objs.size ≤ c ∧ c < h'.objs.size
        have e' : c = s1.heap.objs.size + 4 ∨ c = s1.heap.objs.size + 2 ∨ c = s1.heap.objs.size + 3 ∨ c = s1.heap.objs.size ∨ c = s1.heap.objs.size + 1 := by simpa using hcm
        rw [hsz]
        exact lz_five e'
      · obtain ⟨acc, cc, hS, ea⟩ := z2
        have I2 : Inv X pins σ (upd Hc S (.lst (ts.map V.ref))) { s1 with heap := g, toks := tk } := inv_grown I1 z1 (z4.trans (AExt.upd z6)) (fun c l => by rw [upd_ne (Nat.ne_of_lt (Nat.lt_of_lt_of_le l z0))]; exact z5 c l) fun c u e1 e2 => by
          by_cases q : c = S
          · subst q
            rw [upd_same] at e2
            cases e2
            refine ⟨by rw [List.length_map, z3]; exact Nat.le_trans (Nat.min_le_left _ _) hn, ts.map Value.ref, cc, lz_refs ts, ?_⟩
            rw [← ea]; simpa using hS
          · rw [upd_ne q] at e2
            obtain ⟨x, y, v, w', rfl, r1, r2, p⟩ := z8 c u e1 e2
            exact ⟨by show 2 ≤ sizeLine; decide, [v, w'], .cons r1 (.cons r2 .nil), ⟨_, p, rfl, _, rfl⟩⟩
        exact ⟨.ref S, _, I2, rfl, q S Hc ts z3 z4 z6 z7⟩
/-- list(zip(a, b)) -/
def wLZip (a : WA) : WL := fun ρ k Q => a ρ k fun rs ρ1 k1 => ∃ ds ρ2 xs ys, frzL ρ1 rs = some (ds, ρ2) ∧ zipArgK ds = some (xs, ys) ∧ xs.length ≤ sizeLine ∧ Q (zipD xs ys) ρ2 k1
@[simp] theorem s_LZip {wa : WA} {ρ : En} {k : Kt} {QL : List D → En → Kt → Prop} : wLZip wa ρ k QL = wa ρ k fun rs ρ1 k1 => ∃ ds ρ2 xs ys, frzL ρ1 rs = some (ds, ρ2) ∧ zipArgK ds = some (xs, ys) ∧ xs.length ≤ sizeLine ∧ QL (zipD xs ys) ρ2 k1 := rfl
theorem repL_of_get {B : Addr → Prop} {H : Hp} : ∀ {vs : List V} {ds : List D}, vs.length = ds.length → (∀ (i : Nat) (v : V) (d : D), vs[i]? = some v → ds[i]? = some d → Rep B H v d) → RepL B H vs ds
  | [], [], _, _ => .nil
  | [], _ :: _, h, _ => by cases h
  | _ :: _, [], h, _ => by cases h
  | v :: vs, d :: ds, h, r => .cons (r 0 v d rfl rfl) (repL_of_get (by simpa using h) fun i v' d' e1 e2 => r (i + 1) v' d' (by simpa using e1) (by simpa using e2))
section
variable {X : Cx}
theorem df_lzip {e e2 : Expr} {wa : WA} {p1 p2 pos pos2 : Pos} (hc : X.calm = true) (hg : Gl X "list") (hm : X.mg "list" = none) (hg2 : Gl X "zip") (hm2 : X.mg "zip" = none) (ha : DA X [e, e2] wa)
    (hs : starEach [e, e2] X.env = (false, eval e X.env) :: starEach [e2] X.env := by rfl) (hpl : (backTo pos2 (starEach [e2] X.env)).any (·.1) = false := by rfl)
    (na : starEach [.Call (.Name "zip" p1) [e, e2] [] pos2] X.env = (false, eval (.Call (.Name "zip" p1) [e, e2] [] pos2) X.env) :: starEach [] X.env := by rfl) :
    DF X (.Call (.Name "list" p2) [.Call (.Name "zip" p1) [e, e2] [] pos2] [] pos) (wLZip wa) := by
  obtain ⟨t, pa, rr⟩ := ha
  refine ⟨_, pe_lzip hc hg hm hg2 hm2 pa hs hpl na, fun O p _ ρ k σ H Q J I h g => ?_⟩
  refine rr O p ρ k σ H _ _ I h fun vs H1 rs ρ1 k1 I1 s1 q1 h1 => ?_
  obtain ⟨ds, ρ2, xs, ys, e1, e2, hn, h1⟩ := h1
  obtain ⟨I2, s2, r2⟩ := frzL_ok I1 q1 e1
  have two : ∃ x y t1 t2, ds = [x, y] ∧ seqR x = some (t1, xs) ∧ seqR y = some (t2, ys) := by
    unfold zipArgK at e2
    split at e2
    · split at e2
      · cases e2; exact ⟨_, _, _, _, rfl, by assumption, by assumption⟩
      · cases e2
    · cases e2
  obtain ⟨dx, dy, t1, t2, rfl, ex, ey⟩ := two
  cases r2 with
  | cons ra rb =>
    cases rb with
    | cons rb rn =>
      cases rn
      obtain ⟨a, us, rfl, na, qa, la, ha⟩ := seq_rep (K := X.K) ra ex
      obtain ⟨b, ws, rfl, nb, qb, lb, hb⟩ := seq_rep (K := X.K) rb ey
      refine ⟨t1, t2, a, b, us, ws, rfl, qa _ rfl, qb _ rfl, by rw [la.length]; exact hn, fun S Hc ts lt x3 hS tup => ?_⟩
      have x4 : AExt Hc (upd Hc S (.lst (ts.map V.ref))) := AExt.upd hS
      have I3 := I2.ext x3
      have s12 := s1.trans s2 I1.pn
      refine g S (ts.map V.ref) _ (zipD xs ys) ρ2 k1 (I3.more hS) (s12.trans ((Step.ext x3).trans (Step.ext x4) I3.pn) I2.pn) ((s12.trans (Step.ext x3) I2.pn).new hS) upd_same ?_ h1
      refine repL_of_get (by rw [List.length_map, zipD_length, lt, la.length, lb.length]) fun i v d ev ed => ?_
      rw [List.getElem?_map] at ev
      cases qt : ts[i]? with
      | none => rw [qt] at ev; cases ev
      | some T =>
        rw [qt] at ev
        cases ev
        obtain ⟨x, y, gx, gy, nT, hT⟩ := tup i T qt
        obtain ⟨dx, dy, ex', ey', rfl⟩ := zipD_get ed
        obtain ⟨x', ex'', rx⟩ := la.get ex'
        obtain ⟨y', ey'', ry⟩ := lb.get ey'
        rw [gx] at ex''; cases ex''
        rw [gy] at ey''; cases ey''
        have nS : H1 S = none := (s12.trans (Step.ext x3) I2.pn).new hS |> fun _ => by
          cases z : H1 S with
          | none => rfl
          | some o => have := x3 _ _ z; rw [hS] at this; cases this
        have mo : ∀ {u : V} {e : D}, Rep (Bn O ρ2 σ) H1 u e → Rep (Bn (fun b => O b ∨ b = S) ρ2 σ) (upd Hc S (.lst (ts.map V.ref))) u e := fun r => r.mono (fun a o h _ => x4 _ _ (x3 _ _ h)) fun a z => by
          rcases z with (z | z) | z
          · exact .inl (.inl z)
          · exact .inr (z ▸ nS)
          · exact .inl (.inr z)
        refine .tup (fun z => ?_) (x4 _ _ hT) (.cons (mo rx) (.cons (mo ry) .nil))
        rcases z with (z | z) | z
        · exact fresh_not I2.bt nT (.inl z)
        · rw [z] at hT; rw [hS] at hT; cases hT
        · exact fresh_not I2.bt nT (.inr z)
end
end DL

set_option Elab.async false
set_option linter.all false
set_option maxRecDepth 100000
set_option maxHeartbeats 1000000
/-! ELdd: {2: a, 3: b} and x[y], keys ints -/
namespace DL
open PySem PySem.Spec PyProof.Rows L2
theorem RepS.dK {B : Addr → Prop} {H : Hp} {v : V} {ks : List Key} {ds : List D} (h : RepS B H v (.dK ks ds)) : ∃ a vs, v = .ref a ∧ H a = some (.dK (ks.zip vs)) ∧ ks.length = vs.length ∧ RepL B H vs ds := by
  cases h with
  | any h => cases h with | dK h1 h2 e1 e2 h3 => exact ⟨_, _, rfl, by rw [h2, e1], e2, h3⟩
  | own h1 h2 e => cases h2 with
    | l r => cases e
    | k l r => cases e; exact ⟨_, _, rfl, h1, l, r⟩
    | t _ r => cases e
    | i _ r => cases e
section
variable {X : Cx} {pos : Pos} {a b : Expr} {wa wb : WE}
/-- x[y], y an int -/
def wDGetK (a b : WE) : WE := fun ρ k Q => a ρ k fun x ρ1 k1 => b ρ1 k1 fun y ρ2 k2 => ∃ ks ds i d, deref ρ2 x = some (.dK ks ds) ∧ deref ρ2 y = some (.int i) ∧ valD ks ds (.inl i) = some d ∧ Q (.val d) ρ2 k2
@[simp] theorem s_DGetK {ρ : En} {k : Kt} {Q : R → En → Kt → Prop} : wDGetK wa wb ρ k Q = wa ρ k fun x ρ1 k1 => wb ρ1 k1 fun y ρ2 k2 => ∃ ks ds i d, deref ρ2 x = some (.dK ks ds) ∧ deref ρ2 y = some (.int i) ∧ valD ks ds (.inl i) = some d ∧ Q (.val d) ρ2 k2 := rfl
theorem de_dgetK (hu : X.A.units + 65 < cLine) (ha : DE X a wa) (hb : DE X b wb) (hs : NoSl b := by exact fun _ _ => rfl) : DE X (.Subscript a b pos) (wDGetK wa wb) := by
  obtain ⟨ta, pa, ra⟩ := ha
  obtain ⟨tb, pb, rb⟩ := hb
  refine ⟨_, pe_dget (by omega) pa pb hs, fun O p _ ρ k σ H Q J I h g => ?_⟩
  refine ra O p ρ k σ H _ _ I h fun v H1 r ρ1 k1 I1 s1 q1 h1 => ?_
  refine rb O p ρ1 k1 σ H1 _ _ I1 h1 fun u H2 r2 ρ2 k2 I2 s2 q2 h2 => ?_
  obtain ⟨ks, ds, i, d, e1, e2, e4, h2⟩ := h2
  obtain ⟨x, vs, rfl, ex, _, rl⟩ := (deref_ok I2 (RRep.step I1 s2 q1) e1).dK
  obtain rfl := (deref_ok I2 q2 e2).int
  obtain ⟨w, e5, rw'⟩ := valD_some rl e4
  exact ⟨x, w, rfl, by rw [← e5]; exact DGet.k (k := .inl i) ex, g w H2 (.val d) ρ2 k2 I2 (s1.trans s2 I1.pn) rw' h2⟩
/-- the pairs of a display whose keys are ints as written -/
def DPr (X : Cx) (pos : Pos) (keys : List (Option Expr)) (values : List Expr) (ks : List Int) (w : WA) : Prop := ∃ trs, PPs X pos keys values trs ∧
  ∀ (O : Addr → Prop) (p : Pn) [XL X p] (ρ : En) (k : Kt) (σ : L2.St) (H : Hp) (Q : List R → En → Kt → Prop) (J : List (V × V) → Hp → Prop), Rel O p ρ k σ H → w ρ k Q →
    (∀ vs H' rs ρ' k', Rel O p ρ' k' σ H' → Step p ρ σ H ρ' σ H' → RRepL O ρ' σ H' vs rs → ks.length = vs.length → Q rs ρ' k' → J ((ks.map V.int).zip vs) H') → tPairs trs σ H J
theorem dpr_nil : DPr X pos [] [] [] wNil := ⟨_, pps_nil, fun _ _ _ ρ k _ H _ _ I h f => f [] H [] ρ k I .refl .nil rfl h⟩
theorem dpr_cons {ke v : Expr} {keys : List (Option Expr)} {values : List Expr} {ks : List Int} {i : Int} {w : WE} {ws : WA} (hk : DE X ke (wC (.int i))) (hv : DE X v w) (hr : DPr X pos keys values ks ws) : DPr X pos (some ke :: keys) (v :: values) (i :: ks) (wCons w ws) := by
  obtain ⟨tk, pk, rk⟩ := hk
  obtain ⟨tv, pv, rv⟩ := hv
  obtain ⟨tr, pr, rr⟩ := hr
  refine ⟨_, pps_cons pk pv pr, fun O p _ ρ k σ H Q J I h f => ?_⟩
  refine rk O p ρ k σ H (fun r ρ' k' => r = .val (.int i) ∧ ρ' = ρ ∧ k' = k) _ I ⟨rfl, rfl, rfl⟩ fun x H0 r0 ρ0 k0 I0 s0 q0 h0 => ?_
  obtain ⟨rfl, rfl, rfl⟩ := h0
  have ex : x = .int i := by
    have q : Rep _ _ x (.int i) := q0
    cases q; rfl
  subst ex
  refine rv O p ρ0 k0 σ H0 _ _ I0 h fun y H1 r1 ρ1 k1 I1 s1 q1 h1 => ?_
  refine rr O p ρ1 k1 σ H1 _ _ I1 h1 fun vs H2 rs ρ2 k2 I2 s2 q2 lv h2 => ?_
  exact f _ H2 _ ρ2 k2 I2 (s0.trans (s1.trans s2 I1.pn) I0.pn) (.cons (RRep.step I1 s2 q1) q2) (by simp [lv]) h2
theorem mergeK_new : ∀ (kvs acc : List (Key × V)), (∀ p ∈ kvs, ∀ q ∈ acc, q.1 ≠ p.1) → (kvs.map (·.1)).Nodup → mergeK acc kvs = acc ++ kvs
  | [], acc, _, _ => by simp [mergeK]
  | p :: r, acc, h, nd => by
    have e : putK acc p.1 p.2 = acc ++ [p] := by
      unfold putK
      rw [if_neg]
      intro z
      obtain ⟨q, hq, e⟩ := List.any_eq_true.mp z
      exact h p List.mem_cons_self q hq (by simpa using e)
    rw [List.map_cons, List.nodup_cons] at nd
    show mergeK (putK acc p.1 p.2) r = _
    rw [e, mergeK_new r (acc ++ [p]) (fun p' hp' q hq => ?_) nd.2, List.append_assoc]; rfl
    rcases List.mem_append.mp hq with hq | hq
    · exact h p' (List.mem_cons_of_mem _ hp') q hq
    · cases List.mem_singleton.mp hq
      exact fun z => nd.1 (List.mem_map.mpr ⟨p', hp', z.symm⟩)
def wDisp (ks : List Int) (wa : WA) : WE := fun ρ k Q => wa ρ k fun rs ρ1 k1 => ∃ ds ρ2, frzL ρ1 rs = some (ds, ρ2) ∧ Q (.val (.dK (ks.map Sum.inl) ds)) ρ2 k1
@[simp] theorem s_Disp {ks : List Int} {wa : WA} {ρ : En} {k : Kt} {Q : R → En → Kt → Prop} : wDisp ks wa ρ k Q = wa ρ k fun rs ρ1 k1 => ∃ ds ρ2, frzL ρ1 rs = some (ds, ρ2) ∧ Q (.val (.dK (ks.map Sum.inl) ds)) ρ2 k1 := rfl
theorem zip_keys : ∀ {ks : List Int} {vs : List V}, (ks.map V.int).zip vs = ((ks.map (Sum.inl : Int → Key)).zip vs).map (fun kv => (kV kv.1, kv.2))
  | [], _ => rfl
  | _ :: _, [] => rfl
  | i :: ks, v :: vs => by
    rw [List.map_cons, List.map_cons, List.zip_cons_cons, List.zip_cons_cons, List.map_cons, ← zip_keys]; rfl
theorem de_disp {keys : List (Option Expr)} {values : List Expr} {ks : List Int} {wa : WA} (h : DPr X pos keys values ks wa) (nd : ks.Nodup) (h15k : ks.length ≤ 15) (hall : keys.all (·.isSome) = true) (hl : keys.length = values.length) (h0 : keys ≠ []) (h15 : keys.length ≤ 15) : DE X (.Dict keys values pos) (wDisp ks wa) := by
  obtain ⟨trs, pp, rr⟩ := h
  refine ⟨_, pe_disp pp hall hl h0 h15, fun O p _ ρ k σ H Q J I h g => ?_⟩
  intro L hL
  refine rr (fun b => O b ∨ b = L) p ρ k σ (upd H L (.dK [])) _ _ (I.more hL) h fun vs H2 rs ρ1 k1 I1 s1 q1 lv h1 => ?_
  obtain ⟨ds, ρ2, e1, h1⟩ := h1
  obtain ⟨I2, s2, r2⟩ := frzL_ok I1 q1 e1
  have nO : ¬ O L := fun z => (I.ot L z).1 hL
  have nP : ∀ z, penB p z → z ≠ L := fun z hz e => I.pn.there hz (e ▸ hL)
  have nW : ¬ Own ρ σ L := fun z => I.bt L (.inr z) hL
  have sA := ((Step.ext (AExt.upd hL)).trans s1 (I.more hL).pn).trans s2 I1.pn
  have eL : H2 L = some (.dK []) := s2.kp L _ (s1.kp L _ upd_same (fun z => nP L (penB.of z) rfl) (fun z => (I.more (o := .dK []) hL).ownNot z (.inr rfl))) (fun z => nP L (penB.of z) rfl) fun z => I1.ownNot z (.inr rfl)
  have bL : p.base L = none := by
    cases q : p.base L with
    | none => rfl
    | some o => exact absurd (I.bs L o q fun z => nP L (penB.of z) rfl) (by rw [hL]; simp)
  refine ⟨eL, (ks.map Sum.inl).zip vs, zip_keys, ?_, ?_⟩
  · rw [List.length_zip, List.length_map]; omega
  rw [mergeK_new _ [] (fun _ _ q hq => by cases hq) (by
    rw [List.map_fst_zip (by rw [List.length_map]; omega)]
    exact nd.map _ (fun a b z e => z (Sum.inl.inj e)))]
  rw [List.nil_append]
  have I3 : Rel (fun b => O b ∨ b = L) p ρ2 k1 σ (upd H2 L (.dK ((ks.map Sum.inl).zip vs))) := I2.write (.inr rfl) (fun z => nP L z rfl) bL (fun q e => by rw [eL] at e; cases e)
  refine g _ _ (.val (.dK (ks.map Sum.inl) ds)) ρ2 k1 (I3.less (fun _ z => .inl z) I.po) ⟨fun a o h n1 n2 => ?_, sA.nw, fun a h => ?_⟩ ?_ h1
  · rw [upd_ne (ne_of_none h hL)]; exact sA.kp a o h n1 n2
  · by_cases e : a = L
    · rw [e, upd_same]; simp
    · rw [upd_ne e]; exact sA.tr a h
  · refine .dK (fun z => z.elim nO fun z => I2.ownNot z (.inr rfl)) upd_same rfl (by rw [List.length_map]; exact lv) (r2.mono (fun a o h n => ?_) fun a z => .inl (z.imp .inl id))
    rw [upd_ne fun z => n (.inl (.inr z))]; exact h
end
end DL

set_option linter.all false
/-! what the defs of k50 do, over trees (printed by gen2.py) -/
namespace Lw_k50
open PySem L2 DL
/-- the addresses of the classes; the tables of code objects -/
structure CA where
  tabs : List (Addr × Str)
  C_Hall : Addr
  C_BadNumber : Addr
  C_BadRow : Addr
  C_BadItem : Addr
  C_BadHall : Addr
structure CAok (c : CA) : Prop where
  t : True
  ne_BadNumber_BadRow : c.C_BadNumber ≠ c.C_BadRow
  ne_BadRow_BadNumber : c.C_BadRow ≠ c.C_BadNumber
def Cs_own (c : CA) : List Addr := [c.C_Hall]
def cs__law_heard (c : CA) : List (Addr × List Part) := [(c.C_BadNumber, [.str "number", .fld "what", .rep "value"]), (c.C_BadRow, [.str "row", .rep "value"])]
def w_eq_Hall (c : CA) : WS :=
  (wRet (wAndV (wCB (fIsC c.C_Hall) (wCons (wVar 1) (wCons (wC (.obj c.C_Hall)) wNil))) (wOp fEq (wTup (wCons (wFld c.C_Hall "many" (wVar 0)) (wCons (wFld c.C_Hall "arrows" (wVar 0)) wNil))) (wTup (wCons (wFld c.C_Hall "many" (wVar 1)) (wCons (wFld c.C_Hall "arrows" (wVar 1)) wNil))))))
abbrev wfq_Hall (c : CA) : WF := wfOf 2 (w_eq_Hall c)
def tb_q (c : CA) : List (Addr × WF) := [(c.C_Hall, wfq_Hall c)]
def w_is_integer (c : CA) : WS :=
  (wRet (wAndV (wCB fIsi (wCons (wVar 0) (wCons (wC (.ty "int")) wNil))) (wNotV (wCB fIsi (wCons (wVar 0) (wCons (wC (.ty "bool")) wNil))))))
abbrev wf_is_integer (c : CA) : WF := wfOf 1 (w_is_integer c)
def w_is_count (c : CA) : WS :=
  (wRet (wAndV (wCall 1 (wf_is_integer c) [] (wCons (wVar 0) wNil)) (wAndV (wOp (fCmp fun i j => decide (j ≤ i)) (wVar 0) (wC (.int 0))) (wOrV (wOp fIsN (wVar 1) (wC .non)) (wOp (fCmp fun i j => decide (i ≤ j)) (wVar 0) (wVar 1))))))
abbrev wf_is_count (c : CA) : WF := wfOf 2 (w_is_count c)
def w_is_row (c : CA) : WS :=
  (wRet (wCB fIsiT (wCons (wVar 0) (wCons (wTup (wCons (wC (.ty "list")) (wCons (wC (.ty "tuple")) wNil))) wNil))))
abbrev wf_is_row (c : CA) : WF := wfOf 1 (w_is_row c)
def w_is_arrow (c : CA) : WS :=
  (wSeq (wIf (wOrT (wNotT (wTru (wCB fIsi (wCons (wVar 0) (wCons (wC (.ty "tuple")) wNil))))) (wTest (wOp fNe (wCB fLen (wCons (wVar 0) wNil)) (wC (.int 2))))) (wRet (wC (.bl false))) wNext)
  (wRet (wAndV (wCB fAll (wCons (wNew (wLc [2] (wSeqI (wVar 0)) (gNm 2) (fun ρ k Q => Q true ρ k) (wAndV (wCall 1 (wf_is_integer c) [] (wCons (wVar 2) wNil)) (wChain (fCmp fun i j => decide (i ≤ j)) (fCmp fun i j => decide (i < j)) (wC (.int 0)) (wVar 2) (wVar 1))))) wNil)) (wOp fNe (wOp fIx (wVar 0) (wC (.int 0))) (wOp fIx (wVar 0) (wC (.int 1)))))))
abbrev wf_is_arrow (c : CA) : WF := wfOf 3 (w_is_arrow c)
def w_first_order (c : CA) : WS :=
  (wSeq (wSetF 2 (wLst wNil))
  (wSeq (wFor (wRng1 (wCons (wVar 0) wNil)) (gNm 3)
  (wSeq (wSetF 4 (wLc [5] (wRng1 (wCons (wVar 0) wNil)) (gNm 5) (wAndT (wTest (wOp fNotIn (wVar 5) (wVar 2))) (wNotT (wTru (wCB fAny (wCons (wNew (wLc [6, 7] (wSeqI (wVar 1)) (gTp 2 (gCons (gNm 6) (gCons (gNm 7) gNil))) (fun ρ k Q => Q true ρ k) (wAndV (wOp fEq (wVar 7) (wVar 5)) (wOp fNotIn (wVar 6) (wVar 2))))) wNil))))) (wVar 5)))
  (wIf (wTest (wOp (fCmp fun i j => decide (j < i)) (wCB fLen (wCons (wVar 4) wNil)) (wC (.int 0)))) (wAppend 2 (wOp fIx (wVar 4) (wC (.int 0)))) wNext)))
  (wRet (wCB fTuple (wCons (wVar 2) wNil)))))
abbrev wf_first_order (c : CA) : WF := wfOf 8 (w_first_order c)
def w_hall_fault (c : CA) : WS :=
  (wSeq (wIf (wOrT (wNotT (wTru (wCall 1 (wf_is_integer c) [] (wCons (wVar 0) wNil)))) (wNotT (wTest (wChain (fCmp fun i j => decide (i ≤ j)) (fCmp fun i j => decide (i ≤ j)) (wC (.int 1)) (wVar 0) (wC (.int 7)))))) (wRet (wC (.str "many"))) wNext)
  (wSeq (wIf (wOrT (wNotT (wTru (wCall 1 (wf_is_row c) [] (wCons (wVar 1) wNil)))) (wTest (wOp (fCmp fun i j => decide (j < i)) (wCB fLen (wCons (wVar 1) wNil)) (wC (.int 12))))) (wRet (wC (.str "arrows"))) wNext)
  (wSeq (wIf (wNotT (wTru (wCB fAll (wCons (wNew (wLc [2] (wSeqI (wVar 1)) (gNm 2) (fun ρ k Q => Q true ρ k) (wCall 2 (wf_is_arrow c) [] (wCons (wVar 2) (wCons (wVar 0) wNil))))) wNil)))) (wRet (wC (.str "pair"))) wNext)
  (wRet (wIfE (wTest (wOp fEq (wCB fLen (wCons (wCall 2 (wf_first_order c) [] (wCons (wVar 0) (wCons (wVar 1) wNil))) wNil)) (wVar 0))) (wC .non) (wC (.str "round")))))))
abbrev wf_hall_fault (c : CA) : WF := wfOf 3 (w_hall_fault c)
def w_need_r (c : CA) : WS :=
  (wIf (wOrT (wNotT (wTru (wCall 1 (wf_is_integer c) [] (wCons (wVar 0) wNil)))) (wTest (wOp fNotIn (wVar 0) (wTup (wCons (wC (.int 2)) (wCons (wC (.int 3)) wNil)))))) (wRaise c.C_BadNumber ["what", "value"] (wCons (wC (.str "r")) (wCons (wVar 0) wNil))) wNext)
abbrev wf_need_r (c : CA) : WF := wfOf 1 (w_need_r c)
def w_arm_points (c : CA) : WS :=
  (wRet (wNew (wLRng2 (wOp fMulX (wVar 1) (wOp fSub (wVar 0) (wC (.int 1)))) (wOp fMulX (wOp fAdd (wVar 1) (wC (.int 1))) (wOp fSub (wVar 0) (wC (.int 1)))))))
abbrev wf_arm_points (c : CA) : WF := wfOf 2 (w_arm_points c)
def wi_Hall (c : CA) : WS :=
  (wSeq (wSet 3 (wCall 2 (wf_hall_fault c) [] (wCons (wVar 1) (wCons (wVar 2) wNil))))
  (wSeq (wIf (wTest (wOp fNotN (wVar 3) (wC .non))) (wRaise c.C_BadHall ["why"] (wCons (wVar 3) wNil)) wNext)
  (wSeq (wPutF 0 c.C_Hall "many" (wVar 1))
  (wPutF 0 c.C_Hall "arrows" (wCB fTuple (wCons (wNew (wCF fSortD (wCons (wVar 2) wNil))) wNil))))))
abbrev wfi_Hall (c : CA) : WF := wfI c.C_Hall 4 (wi_Hall c)
def w_hall_of_flags (c : CA) : WS :=
  (wSeq (wParG 1 2 (wOp fMulX (wC (.int 3)) (wOp fSub (wVar 0) (wC (.int 1)))) (wLst wNil))
  (wSeq (wFor (wRng1 (wCons (wC (.int 3)) wNil)) (gNm 3)
  (wSeq (wSet 4 (wOp fAdd (wCall 2 (wf_arm_points c) [] (wCons (wVar 0) (wCons (wVar 3) wNil))) (wNew (wLst (wCons (wVar 1) wNil)))))
  (wExtend 2 (wNew (wLZip (wCons (wVar 4) (wCons (wSl fSl (wVar 4) (wPart (wC (.int 1))) wNoPart) wNil)))))))
  (wRet (wCall 2 (wfi_Hall c) [] (wCons (wOp fAdd (wVar 1) (wC (.int 1))) (wCons (wVar 2) wNil))))))
abbrev wf_hall_of_flags (c : CA) : WF := wfOf 5 (w_hall_of_flags c)
def w_flag_hall (c : CA) : WS :=
  (wSeq (wDrop (wCall 1 (wf_need_r c) [] (wCons (wVar 0) wNil)))
  (wRet (wCall 1 (wf_hall_of_flags c) [] (wCons (wVar 0) wNil))))
abbrev wf_flag_hall (c : CA) : WF := wfOf 1 (w_flag_hall c)
def w_flag_sizes (c : CA) : WS :=
  (wSeq (wDrop (wCall 1 (wf_need_r c) [] (wCons (wVar 0) wNil)))
  (wRet (wCB fTuple (wCons (wOp fAdd (wOp fMulX (wNew (wLRng2 (wC (.int 1)) (wVar 0))) (wC (.int 3))) (wNew (wLst (wCons (wVar 0) wNil)))) wNil))))
abbrev wf_flag_sizes (c : CA) : WF := wfOf 1 (w_flag_sizes c)
def w_is_falling (c : CA) : WS :=
  (wSeq (wIf (wOrT (wNotT (wTru (wCall 1 (wf_is_row c) [] (wCons (wVar 1) wNil)))) (wOrT (wTest (wOp fNe (wCB fLen (wCons (wVar 1) wNil)) (wVar 0))) (wNotT (wTru (wCB fAll (wCons (wNew (wLc [4] (wSeqI (wVar 1)) (gNm 4) (fun ρ k Q => Q true ρ k) (wCall 1 (wf_is_count c) [.non] (wCons (wVar 4) wNil)))) wNil)))))) (wRet (wC (.bl false))) wNext)
  (wRet (wCB fAll (wCons (wNew (wLc [2, 3] (wZip (wCons (wVar 1) (wCons (wSl fSl (wVar 1) (wPart (wC (.int 1))) wNoPart) wNil))) (gTp 2 (gCons (gNm 2) (gCons (gNm 3) gNil))) (fun ρ k Q => Q true ρ k) (wOp (fCmp fun i j => decide (j ≤ i)) (wVar 2) (wVar 3)))) wNil))))
abbrev wf_is_falling (c : CA) : WF := wfOf 5 (w_is_falling c)
def w_need_triple (c : CA) : WS :=
  (wSeq (wDrop (wCall 1 (wf_need_r c) [] (wCons (wVar 0) wNil)))
  (wSeq (wFor (wSeqI (wVar 1)) (gNm 2)
  (wIf (wNotT (wTru (wCall 2 (wf_is_falling c) [] (wCons (wVar 0) (wCons (wVar 2) wNil))))) (wRaise c.C_BadRow ["value"] (wCons (wVar 2) wNil)) wNext))
  (wSeq (wSet 3 (wCB fSum (wCons (wNew (wLc [2] (wSeqI (wVar 1)) (gNm 2) (fun ρ k Q => Q true ρ k) (wCB fSum (wCons (wVar 2) wNil)))) wNil)))
  (wSeq (wIf (wTest (wOp fNe (wOp fMod (wVar 3) (wVar 0)) (wC (.int 0)))) (wRaise c.C_BadNumber ["what", "value"] (wCons (wC (.str "sum")) (wCons (wVar 3) wNil))) wNext)
  (wRet (wTup (wCons (wNew (wLc [2] (wSeqI (wVar 1)) (gNm 2) (fun ρ k Q => Q true ρ k) (wCB fTuple (wCons (wVar 2) wNil)))) (wCons (wOp fDiv (wVar 3) (wVar 0)) wNil))))))))
abbrev wf_need_triple (c : CA) : WF := wfOf 4 (w_need_triple c)
def w_weights_of_triple (c : CA) : WS :=
  (wSeq (wSetF 3 (wLst wNil))
  (wSeq (wFor (wSeqI (wVar 1)) (gNm 4)
  (wExtend 3 (wNew (wLc [5, 6] (wZip (wCons (wVar 4) (wCons (wSl fSl (wVar 4) (wPart (wC (.int 1))) wNoPart) wNil))) (gTp 2 (gCons (gNm 5) (gCons (gNm 6) gNil))) (fun ρ k Q => Q true ρ k) (wOp fSub (wVar 5) (wVar 6))))))
  (wRet (wOp fAdd (wCB fTuple (wCons (wVar 3) wNil)) (wTup (wCons (wOp fSub (wCB fSum (wCons (wNew (wLc [4] (wSeqI (wVar 1)) (gNm 4) (fun ρ k Q => Q true ρ k) (wOp fIx (wVar 4) (wUn fNeg (wC (.int 1)))))) wNil)) (wVar 2)) wNil))))))
abbrev wf_weights_of_triple (c : CA) : WF := wfOf 7 (w_weights_of_triple c)
def w_flag_weights (c : CA) : WS :=
  (wSeq (wAsg (gTp 2 (gCons (gNm 4) (gCons (gNm 5) gNil))) (wCall 2 (wf_need_triple c) [] (wCons (wVar 0) (wCons (wNew (wLst (wCons (wVar 1) (wCons (wVar 2) (wCons (wVar 3) wNil))))) wNil))))
  (wRet (wCall 3 (wf_weights_of_triple c) [] (wCons (wVar 0) (wCons (wVar 4) (wCons (wVar 5) wNil))))))
abbrev wf_flag_weights (c : CA) : WF := wfOf 6 (w_flag_weights c)
def w__law_pick (c : CA) : WS :=
  (wRet (wOp fIx (wVar 1) (wCall 2 wfDraw [] (wCons (wVar 0) (wCons (wCB fLen (wCons (wVar 1) wNil)) wNil)))))
abbrev wf__law_pick (c : CA) : WF := wfOf 2 (w__law_pick c)
def w__law_is_int (c : CA) : WS :=
  (wRet (wAndV (wCB fIsi (wCons (wVar 0) (wCons (wC (.ty "int")) wNil))) (wNotV (wCB fIsi (wCons (wVar 0) (wCons (wC (.ty "bool")) wNil))))))
abbrev wf__law_is_int (c : CA) : WF := wfOf 1 (w__law_is_int c)
def w__law_is_ints (c : CA) : WS :=
  (wRet (wAndV (wCB fIsi (wCons (wVar 0) (wCons (wC (.ty "tuple")) wNil))) (wAndV (wOp fEq (wCB fLen (wCons (wVar 0) wNil)) (wVar 1)) (wOp fEq (wNew (wLc [2] (wSeqI (wVar 0)) (gNm 2) (wNotT (wTru (wCall 1 (wf__law_is_int c) [] (wCons (wVar 2) wNil)))) (wC (.int 1)))) (wNew (wLst wNil))))))
abbrev wf__law_is_ints (c : CA) : WF := wfOf 3 (w__law_is_ints c)
def w__law_weight (c : CA) : WS :=
  (wRet (wCB fSum (wCons (wNew (wLc [2, 3] (wZip (wCons (wVar 0) (wCons (wVar 1) wNil))) (gTp 2 (gCons (gNm 2) (gCons (gNm 3) gNil))) (fun ρ k Q => Q true ρ k) (wOp fMulX (wVar 2) (wVar 3)))) wNil)))
abbrev wf__law_weight (c : CA) : WF := wfOf 4 (w__law_weight c)
def w__law_listed_row (c : CA) : WS :=
  (wRet (wIfE (wTest (wOp fEq (wCall 2 wfDraw [] (wCons (wVar 0) (wCons (wC (.int 2)) wNil))) (wC (.int 0)))) (wNew (wCF fList (wCons (wVar 1) wNil))) (wCB fTuple (wCons (wVar 1) wNil))))
abbrev wf__law_listed_row (c : CA) : WF := wfOf 2 (w__law_listed_row c)
def w__law_own_weights (c : CA) : WS :=
  (wSeq (wSet 2 (wNew (wLst wNil)))
  (wSeq (wFor (wSeqI (wVar 1)) (gNm 3)
  (wSet 2 (wOp fAdd (wVar 2) (wNew (wLc [4] (wRng1 (wCons (wOp fSub (wVar 0) (wC (.int 1))) wNil)) (gNm 4) (fun ρ k Q => Q true ρ k) (wOp fSub (wOp fIx (wVar 3) (wVar 4)) (wOp fIx (wVar 3) (wOp fAdd (wVar 4) (wC (.int 1))))))))))
  (wRet (wOp fAdd (wVar 2) (wNew (wLst (wCons (wOp fSub (wCB fSum (wCons (wNew (wLc [3] (wSeqI (wVar 1)) (gNm 3) (fun ρ k Q => Q true ρ k) (wOp fIx (wVar 3) (wUn fNeg (wC (.int 1)))))) wNil)) (wOp fDiv (wCB fSum (wCons (wNew (wLc [3] (wSeqI (wVar 1)) (gNm 3) (fun ρ k Q => Q true ρ k) (wCB fSum (wCons (wVar 3) wNil)))) wNil)) (wVar 0))) wNil)))))))
abbrev wf__law_own_weights (c : CA) : WF := wfOf 5 (w__law_own_weights c)
def w__law_some_falling (c : CA) : WS :=
  (wRet (wNew (wSortRev true (wCons (wNew (wLc [3] (wRng1 (wCons (wVar 1) wNil)) (gNm 3) (fun ρ k Q => Q true ρ k) (wCall 2 wfDraw [] (wCons (wVar 0) (wCons (wOp fAdd (wVar 2) (wC (.int 1))) wNil))))) wNil))))
abbrev wf__law_some_falling (c : CA) : WF := wfOf 4 (w__law_some_falling c)
def w_law (c : CA) : WS :=
  (wSeq (wSet 2 (wDisp [2, 3] (wCons (wCall 2 (wfi_Hall c) [] (wCons (wC (.int 4)) (wCons (wNew (wLst (wCons (wTup (wCons (wC (.int 0)) (wCons (wC (.int 3)) wNil))) (wCons (wTup (wCons (wC (.int 1)) (wCons (wC (.int 3)) wNil))) (wCons (wTup (wCons (wC (.int 2)) (wCons (wC (.int 3)) wNil))) wNil))))) wNil))) (wCons (wCall 2 (wfi_Hall c) [] (wCons (wC (.int 7)) (wCons (wNew (wLst (wCons (wTup (wCons (wC (.int 0)) (wCons (wC (.int 1)) wNil))) (wCons (wTup (wCons (wC (.int 1)) (wCons (wC (.int 6)) wNil))) (wCons (wTup (wCons (wC (.int 2)) (wCons (wC (.int 3)) wNil))) (wCons (wTup (wCons (wC (.int 3)) (wCons (wC (.int 6)) wNil))) (wCons (wTup (wCons (wC (.int 4)) (wCons (wC (.int 5)) wNil))) (wCons (wTup (wCons (wC (.int 5)) (wCons (wC (.int 6)) wNil))) wNil)))))))) wNil))) wNil))))
  (wSeq (wSet 3 (wDisp [2, 3] (wCons (wTup (wCons (wC (.int 1)) (wCons (wC (.int 1)) (wCons (wC (.int 1)) (wCons (wC (.int 2)) wNil))))) (wCons (wTup (wCons (wC (.int 1)) (wCons (wC (.int 2)) (wCons (wC (.int 1)) (wCons (wC (.int 2)) (wCons (wC (.int 1)) (wCons (wC (.int 2)) (wCons (wC (.int 3)) wNil)))))))) wNil))))
  (wSeq (wFor (wSeqI (wNew (wLst (wCons (wC (.int 2)) (wCons (wC (.int 3)) wNil))))) (gNm 4)
  (wSeq (wSet 5 (wCall 1 (wf_flag_sizes c) [] (wCons (wVar 4) wNil)))
  (wSeq (wIf (wOrT (wTest (wOwn true (tb_q c) (wCall 1 (wf_flag_hall c) [] (wCons (wVar 4) wNil)) (wDGetK (wVar 2) (wVar 4)))) (wOrT (wNotT (wTru (wCall 2 (wf__law_is_ints c) [] (wCons (wVar 5) (wCons (wOp fSub (wOp fMulX (wC (.int 3)) (wVar 4)) (wC (.int 2))) wNil))))) (wTest (wOp fNe (wVar 5) (wDGetK (wVar 3) (wVar 4)))))) (wRet (wC (.bl false))) wNext)
  (wFor (wRng1 (wCons (wC (.int 4)) wNil)) (gNm 6)
  (wSeq (wSetF 7 (wLc [17] (wRng1 (wCons (wC (.int 3)) wNil)) (gNm 17) (fun ρ k Q => Q true ρ k) (wCall 3 (wf__law_some_falling c) [] (wCons (wVar 1) (wCons (wVar 4) (wCons (wCall 2 (wf__law_pick c) [] (wCons (wVar 1) (wCons (wIfE (wTest (wOp fEq (wVar 4) (wC (.int 2)))) (wNew (wLst (wCons (wC (.int 3)) (wCons (wC (.int 7)) wNil)))) (wNew (wLst (wCons (wC (.int 2)) (wCons (wC (.int 3)) wNil))))) wNil))) wNil))))))
  (wSeq (wSet 8 (wNew (wLc [18] (wSeqI (wVar 7)) (gNm 18) (fun ρ k Q => Q true ρ k) (wCall 2 (wf__law_listed_row c) [] (wCons (wVar 1) (wCons (wVar 18) wNil))))))
  (wSeq (wSet 9 (wHeard c.tabs "ok" (cs__law_heard c) (wCall 4 (wf_flag_weights c) [] (wCons (wVar 4) (wCons (wOp fIx (wVar 8) (wC (.int 0))) (wCons (wOp fIx (wVar 8) (wC (.int 1))) (wCons (wOp fIx (wVar 8) (wC (.int 2))) wNil)))))))
  (wSeq (wSet 10 (wCB fSum (wCons (wNew (wLc [18] (wSeqI (wVar 7)) (gNm 18) (fun ρ k Q => Q true ρ k) (wCB fSum (wCons (wVar 18) wNil)))) wNil)))
  (wSeq (wIf (wTest (wOp fNe (wOp fMod (wCB fInt (wCons (wVar 10) wNil)) (wVar 4)) (wC (.int 0)))) (wSeq (wIf (wTest (wOp fNe (wVar 9) (wTup (wCons (wC (.str "number")) (wCons (wC (.str "sum")) (wCons (wCB fRepr (wCons (wVar 10) wNil)) wNil)))))) (wRet (wC (.bl false))) wNext)
  wCont) wNext)
  (wSeq (wIf (wOrT (wTest (wOp fNe (wOp fIx (wVar 9) (wC (.int 0))) (wC (.str "ok")))) (wNotT (wTru (wCall 2 (wf__law_is_ints c) [] (wCons (wOp fIx (wVar 9) (wC (.int 1))) (wCons (wOp fSub (wOp fMulX (wC (.int 3)) (wVar 4)) (wC (.int 2))) wNil)))))) (wRet (wC (.bl false))) wNext)
  (wSeq (wIf (wTest (wOp fNe (wNew (wCF fList (wCons (wOp fIx (wVar 9) (wC (.int 1))) wNil))) (wCall 2 (wf__law_own_weights c) [] (wCons (wVar 4) (wCons (wVar 7) wNil))))) (wRet (wC (.bl false))) wNext)
  (wSeq (wIf (wOrT (wTest (wOp fNe (wCall 2 (wf__law_weight c) [] (wCons (wOp fIx (wVar 9) (wC (.int 1))) (wCons (wDGetK (wVar 3) (wVar 4)) wNil))) (wC (.int 0)))) (wTest (wOp fNe (wNew (wLc [18] (wSeqI (wVar 8)) (gNm 18) (fun ρ k Q => Q true ρ k) (wNew (wCF fList (wCons (wVar 18) wNil))))) (wVar 7)))) (wRet (wC (.bl false))) wNext)
  (wSeq (wSetF 11 (wLc [19] (wSeqI (wOp fIx (wVar 7) (wC (.int 0)))) (gNm 19) (fun ρ k Q => Q true ρ k) (wOp fAdd (wVar 19) (wC (.int 5)))))
  (wIf (wTest (wOp fNe (wCall 4 (wf_flag_weights c) [] (wCons (wVar 4) (wCons (wVar 11) (wCons (wOp fIx (wVar 7) (wC (.int 1))) (wCons (wOp fIx (wVar 7) (wC (.int 2))) wNil))))) (wOp fIx (wVar 9) (wC (.int 1))))) (wRet (wC (.bl false))) wNext))))))))))))))
  (wSeq (wSet 4 (wCall 2 (wf__law_pick c) [] (wCons (wVar 1) (wCons (wNew (wLst (wCons (wC (.int 2)) (wCons (wC (.int 3)) wNil)))) wNil))))
  (wSeq (wAsg (gTp 2 (gCons (gNm 12) (gCons (gNm 13) gNil))) (wTup (wCons (wCall 2 (wf__law_pick c) [] (wCons (wVar 1) (wCons (wNew (wLst (wCons (wC (.int 1)) (wCons (wC (.int 4)) (wCons (wC (.int 0)) (wCons (wC .non) (wCons (wC (.bl true)) (wCons (wC (.str "2")) (wCons (wTup (wCons (wC (.int 2)) wNil)) wNil))))))))) wNil))) (wCons (wOp fMulX (wNew (wLst (wCons (wC (.int 2)) wNil))) (wVar 4)) wNil))))
  (wSeq (wSetF 14 (wLst (wCons (wHeard c.tabs "ok" (cs__law_heard c) (wCall 1 (wf_flag_hall c) [] (wCons (wVar 12) wNil))) (wCons (wHeard c.tabs "ok" (cs__law_heard c) (wCall 1 (wf_flag_sizes c) [] (wCons (wVar 12) wNil))) wNil))))
  (wSeq (wAppend 14 (wHeard c.tabs "ok" (cs__law_heard c) (wCall 4 (wf_flag_weights c) [] (wCons (wVar 12) (wCons (wC .non) (wCons (wC .non) (wCons (wC .non) wNil)))))))
  (wSeq (wIf (wTest (wOp fNe (wVar 14) (wOp fMulX (wNew (wLst (wCons (wTup (wCons (wC (.str "number")) (wCons (wC (.str "r")) (wCons (wCB fRepr (wCons (wVar 12) wNil)) wNil)))) wNil))) (wC (.int 3))))) (wRet (wC (.bl false))) wNext)
  (wSeq (wSet 15 (wNew (wLst (wCons (wC .non) (wCons (wC (.int 3)) (wCons (wOp fMulX (wC (.str "1")) (wVar 4)) (wCons (wOp fMulX (wNew (wLst (wCons (wC (.int 1)) wNil))) (wOp fAdd (wVar 4) (wC (.int 1)))) (wCons (wOp fMulX (wNew (wLst (wCons (wC (.int 1)) wNil))) (wOp fSub (wVar 4) (wC (.int 1)))) (wCons (wNew (wLRng1 (wVar 4))) (wCons (wOp fAdd (wOp fMulX (wNew (wLst (wCons (wC (.int 0)) wNil))) (wOp fSub (wVar 4) (wC (.int 1)))) (wNew (wLst (wCons (wUn fNeg (wC (.int 1))) wNil)))) (wCons (wOp fMulX (wNew (wLst (wCons (wC (.bl true)) wNil))) (wVar 4)) wNil)))))))))))
  (wSeq (wSet 16 (wCall 2 (wf__law_pick c) [] (wCons (wVar 1) (wCons (wVar 15) wNil))))
  (wSeq (wSetF 14 (wLst (wCons (wHeard c.tabs "ok" (cs__law_heard c) (wCall 4 (wf_flag_weights c) [] (wCons (wVar 4) (wCons (wVar 16) (wCons (wC .non) (wCons (wC .non) wNil)))))) wNil)))
  (wSeq (wAppend 14 (wHeard c.tabs "ok" (cs__law_heard c) (wCall 4 (wf_flag_weights c) [] (wCons (wVar 4) (wCons (wVar 13) (wCons (wVar 16) (wCons (wC .non) wNil)))))))
  (wSeq (wAppend 14 (wHeard c.tabs "ok" (cs__law_heard c) (wCall 4 (wf_flag_weights c) [] (wCons (wVar 4) (wCons (wVar 13) (wCons (wVar 13) (wCons (wVar 16) wNil)))))))
  (wRet (wOp fEq (wVar 14) (wOp fMulX (wNew (wLst (wCons (wTup (wCons (wC (.str "row")) (wCons (wCB fRepr (wCons (wVar 16) wNil)) wNil))) wNil))) (wC (.int 3))))))))))))))))))
end Lw_k50

set_option Elab.async false
set_option linter.all false
set_option maxRecDepth 100000
/-! the rules of rewriting, bundled -/
namespace Lw_k50
open PySem L2 DL
noncomputable def sxA := And.intro @DL.s_Var ( And.intro @DL.s_varv ( And.intro @DL.s_varo ( And.intro @DL.s_dr1 ( And.intro @DL.s_dr2 ( And.intro @DL.s_toDl ( And.intro @DL.s_toDk ( And.intro @DL.s_toDt ( And.intro @DL.s_toDi ( And.intro @DL.s_fr1 ( And.intro @DL.s_fr2 ( And.intro @DL.s_c2 ( And.intro @DL.s_frC ( And.intro @DL.s_frD ( And.intro @DL.s_C ( And.intro @DL.s_Nil ( And.intro @DL.s_Cons ( And.intro @DL.s_drv ( And.intro @DL.s_drs ( And.intro @DL.s_frv ( And.intro @DL.s_frs ( And.intro @DL.s_dn ( And.intro @DL.s_dc ( And.intro @DL.s_fn ( And.intro @DL.s_fc ( And.intro @DL.s_Op ( And.intro @DL.s_Un ( And.intro @DL.s_Test ( And.intro @DL.s_Chain ( And.intro @DL.s_Tru ( And.intro @DL.s_NotT ( And.intro @DL.s_AndT ( And.intro @DL.s_OrT ( And.intro @DL.s_AndV ( And.intro @DL.s_OrV ( And.intro @DL.s_NotV ( And.intro @DL.s_IfE ( And.intro @DL.s_CB ( And.intro @DL.s_CF ( And.intro @DL.s_New ( And.intro @DL.s_Tup ( And.intro @DL.s_Lst ( And.intro @DL.s_Call ( And.intro @DL.s_SeqI ( And.intro @DL.s_itl ( And.intro @DL.s_itt ( And.intro @DL.s_Rng1 ( And.intro @DL.s_Zip ( And.intro @DL.s_za1 ( And.intro @DL.s_za2 ( And.intro @DL.s_gNm ( And.intro @DL.s_gNil ( And.intro @DL.s_gCons0 ( And.intro @DL.s_gCons ( And.intro @DL.s_gTp ( And.intro @DL.s_gLs ( And.intro @DL.s_Lc ( And.intro @DL.s_Next ( And.intro @DL.s_Seq ( And.intro @DL.s_Cont ( And.intro @DL.s_Drop ( And.intro @DL.s_Ret ( And.intro @DL.s_If ( And.intro @DL.s_Set ( And.intro @DL.s_Asg ( And.intro @DL.s_SetF ( And.intro @DL.s_Append ( And.intro @DL.s_Extend ( And.intro @DL.s_For ( And.intro @DL.s_NoPart ( And.intro @DL.s_Part ( And.intro @DL.s_Sl ( And.intro @DL.s_SortRev ( And.intro @DL.s_startE ( And.intro @DL.s_wn ( And.intro @DL.s_wc ( And.intro @DL.s_rsk ( And.intro @DL.s_nxk1 ( And.intro @DL.s_nxkp ( And.intro @DL.s_rsk1 ( And.intro @DL.s_rskp ( And.intro @DL.s_rskx ( And.intro @DL.s_add ( And.intro @DL.s_addl ( And.intro @DL.s_addt ( And.intro @DL.s_sub ( And.intro @DL.s_div ( And.intro @DL.s_mod ( And.intro @DL.s_neg ( And.intro @DL.s_cmp ( And.intro @DL.s_eq ( And.intro @DL.s_ne ( And.intro @DL.s_notin ( And.intro @DL.s_isN ( And.intro @DL.s_notN ( And.intro @DL.s_isNon0 ( And.intro @DL.s_isNon1 ( And.intro @DL.s_isNon2 ( And.intro @DL.s_isNon3 ( And.intro @DL.s_isNon4 ( And.intro @DL.s_isNon5 ( And.intro @DL.s_ix ( And.intro @DL.s_ixl ( And.intro @DL.s_ixt ( And.intro @DL.s_sll ( And.intro @DL.s_slt ( And.intro @DL.s_len ( And.intro @DL.s_lenl ( And.intro @DL.s_lent ( And.intro @DL.s_sum ( And.intro @DL.s_numl ( And.intro @DL.s_numt ( And.intro @DL.s_intsn ( And.intro @DL.s_intsc ( And.intro @DL.s_ints ( And.intro @DL.s_any ( And.intro @DL.s_all ( And.intro @DL.s_bls0 ( And.intro @DL.s_blsc ( And.intro @DL.s_bls ( And.intro @DL.s_tupl ( And.intro @DL.s_tupt ( And.intro @DL.s_listl ( And.intro @DL.s_listt ( And.intro @DL.s_inti ( And.intro @DL.s_intb ( And.intro @DL.s_isi ( And.intro @DL.s_isiT ( And.intro @DL.s_ty1 ( And.intro @DL.s_ty2 ( And.intro @DL.s_ty3 ( And.intro @DL.s_ty4 ( And.intro @DL.s_ty5 ( And.intro @DL.s_ty6 ( And.intro @DL.s_tys0 ( And.intro @DL.s_tysc ( And.intro @DL.s_kl ( And.intro @DL.s_kt ( And.intro @DL.s_ki ( And.intro @DL.s_kib ( And.intro @DL.s_trub ( And.intro @DL.s_trui ( And.intro @DL.s_trul ( And.intro @DL.s_trut ( And.intro @DL.s_trun ( And.intro @DL.ex2 ( And.intro @DL.s_flati ( And.intro @DL.okD_int ( And.intro @DL.okD_bl ( And.intro @DL.okD_non ( And.intro @DL.eqD_int ( And.intro @DL.okD_lints ( And.intro @DL.okD_tints ( And.intro @DL.eqD_lints ( And.intro @DL.eqD_tints ( And.intro @DL.s_Fld ( And.intro @DL.s_PutF ( And.intro @DL.s_Raise ( And.intro @DL.s_en0 ( And.intro @DL.s_en1 ( And.intro @DL.s_fz0 ( And.intro @DL.s_fz1 ( And.intro @DL.s_fz2 ( And.intro @DL.s_fz3 ( And.intro @DL.s_no0 ( And.intro @DL.s_no1 ( And.intro @DL.s_no2 ( And.intro @DL.s_no3 ( And.intro @DL.s_hd0 ( And.intro @DL.s_hd1 ( And.intro @DL.s_ps0 ( And.intro @DL.s_ps1 ( And.intro @DL.s_p1 ( And.intro @DL.s_p2 ( And.intro @DL.s_p3 ( And.intro @DL.s_repr ( And.intro @DL.s_isC ( And.intro @DL.s_mxi ( And.intro @DL.s_mxl ( And.intro @DL.s_mxs ( And.intro @DL.s_ParG ( And.intro @DL.s_rg01 ( And.intro @DL.s_inI ( And.intro @DL.s_inT ( And.intro @DL.s_memI ( And.intro @DL.s_LRng1 ( And.intro @DL.s_at0 ( And.intro @DL.s_at1 ( And.intro @DL.s_lkM ( And.intro @DL.s_lkA ( And.intro @DL.s_lkV ( And.intro @DL.s_eqbl ( And.intro @DL.s_mxz ( And.intro @DL.s_lkW1 ( And.intro @DL.s_lkW2 ( And.intro @DL.s_noc ( And.intro @DL.s_noS1 ( And.intro @DL.s_noS2 ( And.intro @DL.s_noS3 ( And.intro @DL.s_fzc ( And.intro @DL.s_fzS1 ( And.intro @DL.s_fzS2 ( And.intro @DL.s_fzS3 ( And.intro @DL.s_k1 ( And.intro @DL.s_k2 ( And.intro @DL.s_k3 ( And.intro @DL.s_k4 ( And.intro @DL.s_k5 ( And.intro @DL.s_k6 ( And.intro @DL.s_k7 ( And.intro @DL.s_k8 ( And.intro @DL.s_k9 ( And.intro @DL.s_k10 ( And.intro @DL.s_k11 ( And.intro @DL.s_k12 ( And.intro @DL.s_k13 ( And.intro @DL.s_k14 ( And.intro @DL.s_k15 ( And.intro @DL.s_k16 ( And.intro @DL.s_k17 ( And.intro @DL.s_isC1 ( And.intro @DL.s_enI ( And.intro @DL.s_Own ( And.intro @DL.s_DGetK ( And.intro @DL.s_Disp ( @DL.s_LZip)))))))))))))))))))))))))))))))))))))))))))))))))))))))))))))))))))))))))))))))))))))))))))))))))))))))))))))))))))))))))))))))))))))))))))))))))))))))))))))))))))))))))))))))))))))))))))))))))))))))))))))))))))))))))))))))))
noncomputable def sxB := And.intro @List.flatten_cons.{0} ( And.intro @List.flatten_nil.{0} ( And.intro @List.getElem?_cons_zero.{0} ( And.intro @List.getElem?_cons_succ.{0} ( And.intro @List.set_cons_zero.{0} ( And.intro @List.set_cons_succ.{0} ( And.intro @List.cons_append.{0} ( And.intro @List.nil_append.{0} ( And.intro @List.length_cons.{0} ( And.intro @List.length_nil.{0} ( And.intro @List.replicate_succ.{0} ( And.intro @List.replicate_zero.{0} ( And.intro @Option.some.injEq.{0} ( And.intro @List.cons.injEq.{0} ( And.intro @List.append_nil.{0} ( And.intro @List.length_map.{0,0} ( And.intro @List.map_cons.{0,0} ( And.intro @List.map_nil.{0,0} ( And.intro @Prod.mk.injEq.{0,0} ( And.intro @Option.map_some.{0,0} ( And.intro @Bool.true_and ( And.intro @Bool.and_true ( And.intro @Bool.and_self ( And.intro @DL.upto_len ( And.intro @Int.toNat_natCast ( And.intro @sizeLine_eq ( And.intro @Nat.zero_add ( And.intro @Nat.sub_self ( And.intro @true_and ( And.intro @and_true ( And.intro @Bool.false_eq_true ( And.intro @Bool.not_true ( And.intro @Bool.not_false ( And.intro @D.int.injEq ( And.intro @DL.Slot.own.injEq ( And.intro @DL.OD.l.injEq ( And.intro @DL.OD.i.injEq ( And.intro @D.ins.injEq ( And.intro @DL.Slot.val.injEq ( And.intro @D.bl.injEq ( And.intro @D.lst.injEq ( And.intro @D.tup.injEq ( And.intro @D.str.injEq ( And.intro @and_self ( And.intro @and_assoc ( And.intro @false_and ( @and_false))))))))))))))))))))))))))))))))))))))))))))))
end Lw_k50

set_option Elab.async false
set_option linter.all false
set_option maxRecDepth 100000
set_option maxHeartbeats 4000000
/-! the walk of k50 (printed by gen2.py) -/
namespace Lw_k50
open PySem PySem.Spec PyProof.Rows L2 DL
def topS (i : Nat) : Stmt := PySem.Challenge.pw_sizerooms_k50_whole_flag_halls.main.body.getD i (.Pass ⟨0, 0, 0, 0⟩)
abbrev s_is_integer : Stmt := topS 7
theorem sc_is_integer : FnScope ["value"] ["value"] (defScope s_is_integer) := ⟨rfl, rfl, rfl, by decide +kernel, rfl, by decide +kernel, by decide +kernel⟩
abbrev s_is_count : Stmt := topS 8
theorem sc_is_count : FnScope ["value", "most"] ["value", "most"] (defScope s_is_count) := ⟨rfl, rfl, rfl, by decide +kernel, rfl, by decide +kernel, by decide +kernel⟩
abbrev s_is_row : Stmt := topS 9
theorem sc_is_row : FnScope ["value"] ["value"] (defScope s_is_row) := ⟨rfl, rfl, rfl, by decide +kernel, rfl, by decide +kernel, by decide +kernel⟩
abbrev s_is_arrow : Stmt := topS 13
theorem sc_is_arrow : FnScope ["value", "many", "item"] ["value", "many"] (defScope s_is_arrow) := ⟨rfl, rfl, rfl, by decide +kernel, rfl, by decide +kernel, by decide +kernel⟩
abbrev s_first_order : Stmt := topS 14
theorem sc_first_order : FnScope ["many", "arrows", "found", "lap", "free", "i", "k", "j"] ["many", "arrows"] (defScope s_first_order) := ⟨rfl, rfl, rfl, by decide +kernel, rfl, by decide +kernel, by decide +kernel⟩
abbrev s_hall_fault : Stmt := topS 15
theorem sc_hall_fault : FnScope ["many", "arrows", "arrow"] ["many", "arrows"] (defScope s_hall_fault) := ⟨rfl, rfl, rfl, by decide +kernel, rfl, by decide +kernel, by decide +kernel⟩
abbrev s_need_r : Stmt := topS 18
theorem sc_need_r : FnScope ["r"] ["r"] (defScope s_need_r) := ⟨rfl, rfl, rfl, by decide +kernel, rfl, by decide +kernel, by decide +kernel⟩
abbrev s_arm_points : Stmt := topS 19
theorem sc_arm_points : FnScope ["r", "arm"] ["r", "arm"] (defScope s_arm_points) := ⟨rfl, rfl, rfl, by decide +kernel, rfl, by decide +kernel, by decide +kernel⟩
abbrev s_hall_of_flags : Stmt := topS 20
theorem sc_hall_of_flags : FnScope ["r", "middle", "arrows", "arm", "points"] ["r"] (defScope s_hall_of_flags) := ⟨rfl, rfl, rfl, by decide +kernel, rfl, by decide +kernel, by decide +kernel⟩
abbrev s_flag_hall : Stmt := topS 21
theorem sc_flag_hall : FnScope ["r"] ["r"] (defScope s_flag_hall) := ⟨rfl, rfl, rfl, by decide +kernel, rfl, by decide +kernel, by decide +kernel⟩
abbrev s_flag_sizes : Stmt := topS 22
theorem sc_flag_sizes : FnScope ["r"] ["r"] (defScope s_flag_sizes) := ⟨rfl, rfl, rfl, by decide +kernel, rfl, by decide +kernel, by decide +kernel⟩
abbrev s_is_falling : Stmt := topS 23
theorem sc_is_falling : FnScope ["r", "value", "one", "other", "item"] ["r", "value"] (defScope s_is_falling) := ⟨rfl, rfl, rfl, by decide +kernel, rfl, by decide +kernel, by decide +kernel⟩
abbrev s_need_triple : Stmt := topS 24
theorem sc_need_triple : FnScope ["r", "rows", "row", "total"] ["r", "rows"] (defScope s_need_triple) := ⟨rfl, rfl, rfl, by decide +kernel, rfl, by decide +kernel, by decide +kernel⟩
abbrev s_weights_of_triple : Stmt := topS 25
theorem sc_weights_of_triple : FnScope ["r", "rows", "middle", "found", "row", "one", "other"] ["r", "rows", "middle"] (defScope s_weights_of_triple) := ⟨rfl, rfl, rfl, by decide +kernel, rfl, by decide +kernel, by decide +kernel⟩
abbrev s_flag_weights : Stmt := topS 26
theorem sc_flag_weights : FnScope ["r", "one", "other", "third", "rows", "middle"] ["r", "one", "other", "third"] (defScope s_flag_weights) := ⟨rfl, rfl, rfl, by decide +kernel, rfl, by decide +kernel, by decide +kernel⟩
abbrev s__law_pen : Stmt := topS 28
theorem sc__law_pen : FnScope ["script", "fold", "cell"] ["script"] (defScope s__law_pen) := ⟨rfl, rfl, rfl, by decide +kernel, rfl, by decide +kernel, by decide +kernel⟩
abbrev s__law_draw : Stmt := topS 29
theorem sc__law_draw : FnScope ["pen", "many", "cell", "digit", "mixed"] ["pen", "many"] (defScope s__law_draw) := ⟨rfl, rfl, rfl, by decide +kernel, rfl, by decide +kernel, by decide +kernel⟩
abbrev s__law_pick : Stmt := topS 30
theorem sc__law_pick : FnScope ["pen", "some"] ["pen", "some"] (defScope s__law_pick) := ⟨rfl, rfl, rfl, by decide +kernel, rfl, by decide +kernel, by decide +kernel⟩
abbrev s__law_is_int : Stmt := topS 31
theorem sc__law_is_int : FnScope ["value"] ["value"] (defScope s__law_is_int) := ⟨rfl, rfl, rfl, by decide +kernel, rfl, by decide +kernel, by decide +kernel⟩
abbrev s__law_is_ints : Stmt := topS 32
theorem sc__law_is_ints : FnScope ["value", "many", "item"] ["value", "many"] (defScope s__law_is_ints) := ⟨rfl, rfl, rfl, by decide +kernel, rfl, by decide +kernel, by decide +kernel⟩
abbrev s__law_weight : Stmt := topS 33
theorem sc__law_weight : FnScope ["weights", "row", "weight", "item"] ["weights", "row"] (defScope s__law_weight) := ⟨rfl, rfl, rfl, by decide +kernel, rfl, by decide +kernel, by decide +kernel⟩
abbrev s__law_listed_row : Stmt := topS 34
theorem sc__law_listed_row : FnScope ["pen", "row"] ["pen", "row"] (defScope s__law_listed_row) := ⟨rfl, rfl, rfl, by decide +kernel, rfl, by decide +kernel, by decide +kernel⟩
abbrev s__law_own_weights : Stmt := topS 35
theorem sc__law_own_weights : FnScope ["r", "rows", "found", "row", "i"] ["r", "rows"] (defScope s__law_own_weights) := ⟨rfl, rfl, rfl, by decide +kernel, rfl, by decide +kernel, by decide +kernel⟩
abbrev s__law_some_falling : Stmt := topS 36
theorem sc__law_some_falling : FnScope ["pen", "r", "most", "k"] ["pen", "r", "most"] (defScope s__law_some_falling) := ⟨rfl, rfl, rfl, by decide +kernel, rfl, by decide +kernel, by decide +kernel⟩
abbrev s__law_heard : Stmt := topS 37
theorem sc__law_heard : FnScope ["call", "e"] ["call"] (defScope s__law_heard) := ⟨rfl, rfl, rfl, by decide +kernel, rfl, by decide +kernel, by decide +kernel⟩
abbrev s_law : Stmt := topS 38
theorem sc_law : FnScope ["script", "pen", "halls", "sizes", "r", "told", "lap", "rows", "given", "answer", "total", "more", "number", "fine", "found", "some", "odd", "k", "row", "item"] ["script"] (defScope s_law) := ⟨rfl, rfl, rfl, by decide +kernel, rfl, by decide +kernel, by decide +kernel⟩
abbrev si_Hall : Stmt := clsDef (topS 16) 0
theorem sc_Hi_Hall : FnScope ["self", "many", "arrows", "why"] ["self", "many", "arrows"] (defScope si_Hall) := ⟨rfl, rfl, rfl, by decide +kernel, rfl, by decide +kernel, by decide +kernel⟩
abbrev sq_Hall : Stmt := clsDef (topS 16) 1
theorem sc_Hq_Hall : FnScope ["self", "other"] ["self", "other"] (defScope sq_Hall) := ⟨rfl, rfl, rfl, by decide +kernel, rfl, by decide +kernel, by decide +kernel⟩
abbrev se_BadNumber : Stmt := clsDef (topS 2) 0
theorem bd_BadNumber : SupB ["what", "value"] (defBody se_BadNumber) := .mk (fun _ => rfl) rfl (.cons (by decide) (.cons (by decide) .nil)) (.cons (by decide) (.cons (by decide) .nil))
abbrev se_BadRow : Stmt := clsDef (topS 3) 0
theorem bd_BadRow : SupB ["value"] (defBody se_BadRow) := .mk (fun _ => rfl) rfl (.cons (by decide) .nil) (.cons (by decide) .nil)
abbrev se_BadItem : Stmt := clsDef (topS 4) 0
theorem bd_BadItem : SupB ["value"] (defBody se_BadItem) := .mk (fun _ => rfl) rfl (.cons (by decide) .nil) (.cons (by decide) .nil)
abbrev se_BadHall : Stmt := clsDef (topS 5) 0
theorem bd_BadHall : SupB ["why"] (defBody se_BadHall) := .mk (fun _ => rfl) rfl (.cons (by decide) .nil) (.cons (by decide) .nil)
/-- what the top has left -/
structure Txt (P : Program) (K : PySem.W.Frag) (mg : Str → Option Value) where
  c : CA
  a_is_integer : Addr
  d_is_integer : FuncData
  F_is_integer : Fun K "is_integer" "is_integer" s_is_integer a_is_integer d_is_integer
  m_is_integer : mg "is_integer" = some (.ref a_is_integer)
  a_is_count : Addr
  d_is_count : FuncData
  F_is_count : FunD K "is_count" "is_count" (defArgs s_is_count) (defBody s_is_count) (defScope s_is_count) [.non] [] a_is_count d_is_count
  m_is_count : mg "is_count" = some (.ref a_is_count)
  a_is_row : Addr
  d_is_row : FuncData
  F_is_row : Fun K "is_row" "is_row" s_is_row a_is_row d_is_row
  m_is_row : mg "is_row" = some (.ref a_is_row)
  a_is_arrow : Addr
  d_is_arrow : FuncData
  F_is_arrow : Fun K "is_arrow" "is_arrow" s_is_arrow a_is_arrow d_is_arrow
  m_is_arrow : mg "is_arrow" = some (.ref a_is_arrow)
  a_first_order : Addr
  d_first_order : FuncData
  F_first_order : Fun K "first_order" "first_order" s_first_order a_first_order d_first_order
  m_first_order : mg "first_order" = some (.ref a_first_order)
  a_hall_fault : Addr
  d_hall_fault : FuncData
  F_hall_fault : Fun K "hall_fault" "hall_fault" s_hall_fault a_hall_fault d_hall_fault
  m_hall_fault : mg "hall_fault" = some (.ref a_hall_fault)
  a_need_r : Addr
  d_need_r : FuncData
  F_need_r : Fun K "need_r" "need_r" s_need_r a_need_r d_need_r
  m_need_r : mg "need_r" = some (.ref a_need_r)
  a_arm_points : Addr
  d_arm_points : FuncData
  F_arm_points : Fun K "arm_points" "arm_points" s_arm_points a_arm_points d_arm_points
  m_arm_points : mg "arm_points" = some (.ref a_arm_points)
  a_hall_of_flags : Addr
  d_hall_of_flags : FuncData
  F_hall_of_flags : Fun K "hall_of_flags" "hall_of_flags" s_hall_of_flags a_hall_of_flags d_hall_of_flags
  m_hall_of_flags : mg "hall_of_flags" = some (.ref a_hall_of_flags)
  a_flag_hall : Addr
  d_flag_hall : FuncData
  F_flag_hall : Fun K "flag_hall" "flag_hall" s_flag_hall a_flag_hall d_flag_hall
  m_flag_hall : mg "flag_hall" = some (.ref a_flag_hall)
  a_flag_sizes : Addr
  d_flag_sizes : FuncData
  F_flag_sizes : Fun K "flag_sizes" "flag_sizes" s_flag_sizes a_flag_sizes d_flag_sizes
  m_flag_sizes : mg "flag_sizes" = some (.ref a_flag_sizes)
  a_is_falling : Addr
  d_is_falling : FuncData
  F_is_falling : Fun K "is_falling" "is_falling" s_is_falling a_is_falling d_is_falling
  m_is_falling : mg "is_falling" = some (.ref a_is_falling)
  a_need_triple : Addr
  d_need_triple : FuncData
  F_need_triple : Fun K "need_triple" "need_triple" s_need_triple a_need_triple d_need_triple
  m_need_triple : mg "need_triple" = some (.ref a_need_triple)
  a_weights_of_triple : Addr
  d_weights_of_triple : FuncData
  F_weights_of_triple : Fun K "weights_of_triple" "weights_of_triple" s_weights_of_triple a_weights_of_triple d_weights_of_triple
  m_weights_of_triple : mg "weights_of_triple" = some (.ref a_weights_of_triple)
  a_flag_weights : Addr
  d_flag_weights : FuncData
  F_flag_weights : Fun K "flag_weights" "flag_weights" s_flag_weights a_flag_weights d_flag_weights
  m_flag_weights : mg "flag_weights" = some (.ref a_flag_weights)
  a__law_pen : Addr
  d__law_pen : FuncData
  F__law_pen : Fun K "_law_pen" "_law_pen" s__law_pen a__law_pen d__law_pen
  m__law_pen : mg "_law_pen" = some (.ref a__law_pen)
  a__law_draw : Addr
  d__law_draw : FuncData
  F__law_draw : Fun K "_law_draw" "_law_draw" s__law_draw a__law_draw d__law_draw
  m__law_draw : mg "_law_draw" = some (.ref a__law_draw)
  a__law_pick : Addr
  d__law_pick : FuncData
  F__law_pick : Fun K "_law_pick" "_law_pick" s__law_pick a__law_pick d__law_pick
  m__law_pick : mg "_law_pick" = some (.ref a__law_pick)
  a__law_is_int : Addr
  d__law_is_int : FuncData
  F__law_is_int : Fun K "_law_is_int" "_law_is_int" s__law_is_int a__law_is_int d__law_is_int
  m__law_is_int : mg "_law_is_int" = some (.ref a__law_is_int)
  a__law_is_ints : Addr
  d__law_is_ints : FuncData
  F__law_is_ints : Fun K "_law_is_ints" "_law_is_ints" s__law_is_ints a__law_is_ints d__law_is_ints
  m__law_is_ints : mg "_law_is_ints" = some (.ref a__law_is_ints)
  a__law_weight : Addr
  d__law_weight : FuncData
  F__law_weight : Fun K "_law_weight" "_law_weight" s__law_weight a__law_weight d__law_weight
  m__law_weight : mg "_law_weight" = some (.ref a__law_weight)
  a__law_listed_row : Addr
  d__law_listed_row : FuncData
  F__law_listed_row : Fun K "_law_listed_row" "_law_listed_row" s__law_listed_row a__law_listed_row d__law_listed_row
  m__law_listed_row : mg "_law_listed_row" = some (.ref a__law_listed_row)
  a__law_own_weights : Addr
  d__law_own_weights : FuncData
  F__law_own_weights : Fun K "_law_own_weights" "_law_own_weights" s__law_own_weights a__law_own_weights d__law_own_weights
  m__law_own_weights : mg "_law_own_weights" = some (.ref a__law_own_weights)
  a__law_some_falling : Addr
  d__law_some_falling : FuncData
  F__law_some_falling : Fun K "_law_some_falling" "_law_some_falling" s__law_some_falling a__law_some_falling d__law_some_falling
  m__law_some_falling : mg "_law_some_falling" = some (.ref a__law_some_falling)
  a__law_heard : Addr
  d__law_heard : FuncData
  F__law_heard : Fun K "_law_heard" "_law_heard" s__law_heard a__law_heard d__law_heard
  m__law_heard : mg "_law_heard" = some (.ref a__law_heard)
  a_law : Addr
  d_law : FuncData
  F_law : Fun K "law" "law" s_law a_law d_law
  m_law : mg "law" = some (.ref a_law)
  ai_Hall : Addr
  di_Hall : FuncData
  Fi_Hall : Fun K "__init__" "Hall.__init__" si_Hall ai_Hall di_Hall
  M_Hall : Mk K c.C_Hall ai_Hall
  mC_Hall : mg "Hall" = some (.ref c.C_Hall)
  cl_Hall : Cls K c.C_Hall
  cf_Hall : ClsF K c.C_Hall
  nf_Hall_many : NoAttr K c.C_Hall "many"
  nf_Hall_arrows : NoAttr K c.C_Hall "arrows"
  aq_Hall : Addr
  dq_Hall : FuncData
  Fq_Hall : Fun K "__eq__" "Hall.__eq__" sq_Hall aq_Hall dq_Hall
  fq_Hall : PySem.W.findIn K (.ref c.C_Hall) "__eq__" = some (some (.ref aq_Hall))
  nq_Hall : PySem.W.isFn K (.ref aq_Hall) = true
  nn_Hall : PySem.W.findIn K (.ref c.C_Hall) "__ne__" = some (some (.builtin "object.__ne__"))
  ob_Hall : PySem.W.mroIn K c.C_Hall (.type "object") = some true
  ic_Hall : PySem.W.isClsIn K c.C_Hall = true
  ty_Hall : PySem.W.typeIn K (.ref c.C_Hall) = some (.type "type")
  sb_Hall_Hall : PySem.W.subIn K (.ref c.C_Hall) (.ref c.C_Hall) = some true
  mC_BadNumber : mg "BadNumber" = some (.ref c.C_BadNumber)
  X_BadNumber : SiC P K mg c.C_BadNumber ["what", "value"]
  XF_BadNumber : XfC K c.C_BadNumber
  mC_BadRow : mg "BadRow" = some (.ref c.C_BadRow)
  X_BadRow : SiC P K mg c.C_BadRow ["value"]
  XF_BadRow : XfC K c.C_BadRow
  mC_BadItem : mg "BadItem" = some (.ref c.C_BadItem)
  X_BadItem : SiC P K mg c.C_BadItem ["value"]
  XF_BadItem : XfC K c.C_BadItem
  mC_BadHall : mg "BadHall" = some (.ref c.C_BadHall)
  X_BadHall : SiC P K mg c.C_BadHall ["why"]
  XF_BadHall : XfC K c.C_BadHall
  x_BadNumber_BadNumber : PySem.W.exmOne K (.ref c.C_BadNumber) (.ref c.C_BadNumber) = some true
  x_BadNumber_BadRow : PySem.W.exmOne K (.ref c.C_BadNumber) (.ref c.C_BadRow) = some false
  x_BadRow_BadNumber : PySem.W.exmOne K (.ref c.C_BadRow) (.ref c.C_BadNumber) = some false
  x_BadRow_BadRow : PySem.W.exmOne K (.ref c.C_BadRow) (.ref c.C_BadRow) = some true
  EC_BadRow : ExcC K c.C_BadRow
  kg_BadRow_BadItem : PySem.W.kitOne K (.ref c.C_BadRow) (.ref c.C_BadItem) = some false
  n_all : mg "all" = none
  n_any : mg "any" = none
  n_bool : mg "bool" = none
  n_int : mg "int" = none
  n_isinstance : mg "isinstance" = none
  n_len : mg "len" = none
  n_list : mg "list" = none
  n_range : mg "range" = none
  n_repr : mg "repr" = none
  n_sorted : mg "sorted" = none
  n_sum : mg "sum" = none
  n_super : mg "super" = none
  n_tuple : mg "tuple" = none
  n_zip : mg "zip" = none
  t_MOST_ARROWS : Tok
  c_MOST_ARROWS : mg "MOST_ARROWS" = some (.int 12 t_MOST_ARROWS)
  t_MOST_POINTS : Tok
  c_MOST_POINTS : mg "MOST_POINTS" = some (.int 7 t_MOST_POINTS)
section
variable {P : Program} {w : World} {K : PySem.W.Frag} {mg : Str → Option Value} {base : Heap}

/-! ### the pen -/
theorem ok__law_pen (T : Txt P K mg) : FnOk P w K mg base CX0 1 T.a__law_pen T.d__law_pen ["script"] (spPen K) := by
  refine T.F__law_pen.ok sc__law_pen (fun vs H Q E h => ?_) (fun cdv A outer s H vs Q E hr h => ?_)
  · obtain ⟨a, ns, rfl, _⟩ := h
    rfl
  · obtain ⟨a, ns, rfl, hS, hl, q⟩ := h
    have hu := hu_of hr
    refine ⟨_, pss_cons (ps_set (i := 1) sc__law_pen.nd rfl (.inl rfl) pe_int)
      (pss_cons (ps_for PassesOwn.never rfl (pi_list (pv 0)) (pg_name (i := 2) sc__law_pen.nd rfl (.inl rfl))
        (pss_one (ps_set (i := 1) sc__law_pen.nd rfl (.inl rfl) (pe_op op_modN (pe_callTy call_int1 (by rfl) T.n_int (by decide +kernel) (pa_cons (pe_op op_add (pe_op op_mul (pv 1) pe_int) (pv 2)) pa_nil)) pe_int))))
      (pss_one (ps_ret (pe_disp (pps_cons pe_str (pe_callTy call_list_of (by rfl) T.n_list (by decide +kernel) (pa_cons (pv 0) pa_nil)) (pps_cons pe_str pe_int (pps_cons pe_str pe_int (pps_cons pe_str pe_int (pps_cons pe_str (pv 1) pps_nil)))))
        (by rfl) (by rfl) (fun z => by cases z) (by decide))))), ?_⟩
    refine ⟨.ref a, rfl, a, rfl, ⟨_, hS⟩, ?_⟩
    refine for_list (K := K) (a := a) (xs := ns.map V.int) (fun i σ H' => H' = H ∧ ∃ f y2, σ = [some (.ref a), some (.int f), y2] ∧ 0 ≤ f ∧ f < 1000000007) ⟨rfl, 0, none, rfl, by decide, by decide⟩ (fun i σ H' _ h => h.1 ▸ hS) (fun i x σ H' hx h => ?_) fun σ H' h => ?_
    · obtain ⟨rfl, f, y2, rfl, h0, h1⟩ := h
      obtain ⟨z, rfl⟩ : ∃ z, x = V.int z := by
        rw [List.getElem?_map] at hx
        cases e : ns[i]? with
        | none => rw [e] at hx; cases hx
        | some z => rw [e] at hx; cases hx; exact ⟨z, rfl⟩
      have hm := fmod_lt (x := f * 47 + z) (m := 1000000007) (by decide)
      refine ⟨.int f, rfl, f, 47, rfl, rfl, .inr ⟨by decide, by decide⟩, .int z, rfl, f * 47, z, rfl, rfl, .inl ⟨_, rfl, _, 1000000007, rfl, rfl, (by decide : (1000000007 : Int) ≠ 0), rfl, (f * 47 + z).fmod 1000000007, some (.int z), rfl, hm.1, hm.2⟩⟩
    · obtain ⟨rfl, f, y2, rfl, h0, h1⟩ := h
      intro p hp
      have n5 := five_ok
      refine ⟨.ref a, rfl, a, ns.map V.int, rfl, .inl (hS.elim (fun h => .inl (h.elim (fun h => .inl (AExt.upd hp _ _ h)) fun ⟨o, h⟩ => .inr ⟨o, AExt.upd hp _ _ h⟩)) fun h => .inr h), fun c hc => ?_⟩
      · have ncp : c ≠ p := fun e => by rw [e, upd_same] at hc; cases hc
        have hc0 : H' c = none := by rw [upd_ne ncp] at hc; exact hc
        refine ⟨.int f, rfl, by rw [upd_ne (Ne.symm ncp), upd_same], [(.inr "cells", .ref c), (.inr "at", .int 0), (.inr "digits", .int 0), (.inr "count", .int 0), (.inr "fold", .int f)], rfl, (by decide : 5 ≤ 15), ?_⟩
        refine q _ p c f (fun b o e => ?_) hp hc0 (Ne.symm ncp) (by rw [upd_same]; rfl) (by rw [upd_ne ncp, upd_same]) h0 (by omega)
        rw [upd_ne (ne_of_none e hp), upd_ne (ne_of_none e hc0), upd_ne (ne_of_none e hp)]
        exact e
theorem b__law_pen (T : Txt P K mg) : Binds K T.d__law_pen ["script"] [] := T.F__law_pen.binds (ps := ["script"]) fun _ _ _ _ _ _ us hl => match us, hl with | [_], _ => rfl
theorem ok__law_draw (T : Txt P K mg) : FnOk P w K mg base CX0 1 T.a__law_draw T.d__law_draw ["pen", "many"] (spD 2 wfDraw) := by
  refine T.F__law_draw.ok sc__law_draw (fun vs H Q E h => h.1) (fun cdv A outer s H vs Q E hr h => ?_)
  have hu := hu_of hr
  have m1 := T.n_int
  have m2 := T.n_len
  -- behind the first two statements
  have tail : ∃ t, PSs (cxOf CX0 P w K mg base ["pen", "many", "cell", "digit", "mixed"] "_law_draw" (defScope s__law_draw) T.a__law_draw cdv A outer s H E).nox ((defBody s__law_draw).drop 2) t ∧
      ∀ (a c : Addr) (n : Int) (y2 : Option V) (H2 : Hp) (i2 : Nat) (d2 k2 f2 : Int) (Q : VK) (nx : L2.St → Hp → Prop), 0 < n → n < 1073741824 → H2 a = some (penO c i2 d2 k2 f2) → 0 ≤ d2 → 0 ≤ f2 → f2 < 2147483648 → 0 ≤ k2 → k2 < 1000000000001 →
        (∀ H' d' x, (∀ b, b ≠ a → H' b = H2 b) → H' a = some (penO c i2 d' k2 f2) → 0 ≤ d' → 0 ≤ x → x < n → Q (.int x) H') → t { nx := nx, rt := Q } [some (.ref a), some (.int n), y2, none, none] H2 := by
    refine ⟨_, pss_cons (ps_if (pt_cmpR op_gt (pe_dget hu (pv 0) pe_str (fun _ _ => rfl)) pe_int (nomk _))
      (pss_cons (ps_set (i := 3) sc__law_draw.nd rfl (.inl rfl) (pe_op op_modN (pe_callTy call_int1 (by rfl) m1 (by decide +kernel) (pa_cons (pe_dget hu (pv 0) pe_str (fun _ _ => rfl)) pa_nil)) (pv 1)))
      (pss_cons (ps_dput hu (pv 0) pe_str (pe_op op_fdivN (pe_dget hu (pv 0) pe_str (fun _ _ => rfl)) (pv 1)) rfl)
      (pss_one (ps_ret (pv 3))))) pss_nil)
    (pss_cons (ps_set (i := 4) sc__law_draw.nd rfl (.inl rfl) (pe_op op_add (pe_op op_add (pe_dget hu (pv 0) pe_str (fun _ _ => rfl)) (pe_op op_mul (pe_dget hu (pv 0) pe_str (fun _ _ => rfl)) pe_int)) pe_int))
    (pss_one (ps_ret (pe_op op_modN (pe_op op_fdivN (pe_callTy call_int1 (by rfl) m1 (by decide +kernel) (pa_cons (pe_op op_modN (pe_op op_pow (pv 4) pe_int) pe_int) pa_nil)) pe_int) (pv 1))))), ?_⟩
    intro a c n y2 H2 i2 d2 k2 f2 Q nx n0 n1 ha hd hf0 hf1 hk0 hk1 q
    have nz : n ≠ 0 := by omega
    have nb : n.natAbs < 1073741824 := by omega
    refine ⟨.ref a, rfl, a, .int d2, rfl, get_digits ha, d2, 0, rfl, rfl, _, rfl, ite2 (fun e => ?_) (fun e => ?_)⟩
    · have dm := fmod_lt (x := d2) (m := n) n0
      refine ⟨.ref a, rfl, a, .int d2, rfl, get_digits ha, .inl ⟨d2, rfl, .int n, rfl, d2, n, rfl, rfl, nz, ?_⟩⟩
      refine ⟨.ref a, rfl, a, .int d2, rfl, get_digits ha, .int n, rfl, d2, n, rfl, rfl, ⟨nz, nb⟩, .ref a, rfl, a, _, rfl, put_digits ha, .int (d2.fmod n), rfl, ?_⟩
      exact q _ _ _ (fun b hb => upd_ne hb) upd_same (Int.fdiv_nonneg hd (by omega)) dm.1 dm.2
    · refine ⟨.ref a, rfl, a, .int f2, rfl, get_fold ha, .ref a, rfl, a, .int k2, rfl, get_count ha, k2, 7907, rfl, rfl, .inr ⟨by decide, by decide⟩, f2, k2 * 7907, rfl, rfl, f2 + k2 * 7907, 37, rfl, rfl, ?_⟩
      have b1 : (f2 + k2 * 7907 + 37).natAbs < 2 ^ 64 := by omega
      refine ⟨.int (f2 + k2 * 7907 + 37), rfl, f2 + k2 * 7907 + 37, 17, rfl, rfl, ⟨by decide, by decide, b1⟩, _, 2305843009213693951, rfl, rfl, (by decide : (2305843009213693951 : Int) ≠ 0), .inl ⟨_, rfl, _, 128, rfl, rfl, ⟨by decide, by decide⟩, .int n, rfl, _, n, rfl, rfl, nz, ?_⟩⟩
      exact q _ d2 _ (fun b hb => rfl) ha hd (fmod_lt n0).1 (fmod_lt n0).2
  obtain ⟨t2, p2, r2⟩ := tail
  obtain ⟨_, O, p, k, ds, P', r, ot, pn, po, kx, ⟨a, n, rfl, ea, n0, n1, n2, hP⟩, q, _⟩ := h
  obtain ⟨c, nac, ns, i, d, f, ha, hc, hi, hd, hf0, hf1, back⟩ := pen_open pn ea
  have ev : vs = [.ref a, .int n] := by
    cases r with
    | cons r1 r2 => cases r2 with | cons r2 r3 => cases r3; cases r1; cases r2; rfl
  subst ev
  refine ⟨_, pss_cons (ps_dput hu (pv 0) pe_str (pe_op op_add (pe_dget hu (pv 0) pe_str (fun _ _ => rfl)) pe_int) rfl)
    (pss_cons (ps_if (PW.pt (pw_and (pt_cmpR op_eq (pe_dget hu (pv 0) pe_str (fun _ _ => rfl)) pe_int (nomk _)) (pw_and1 (pt_cmpR op_lt (pe_dget hu (pv 0) pe_str (fun _ _ => rfl)) (pe_callB call_len_seq (by rfl) m2 (by decide +kernel) (pa_cons (pe_dget hu (pv 0) pe_str (fun _ _ => rfl)) pa_nil)) (nomk _)))))
      (pss_cons (ps_set (i := 2) sc__law_draw.nd rfl (.inl rfl) (pe_ix ix_list (pe_dget hu (pv 0) pe_str (fun _ _ => rfl)) (pe_dget hu (pv 0) pe_str (fun _ _ => rfl)) (fun _ _ => rfl)))
      (pss_cons (ps_dput hu (pv 0) pe_str (pe_op op_add (pe_dget hu (pv 0) pe_str (fun _ _ => rfl)) pe_int) rfl)
      (pss_one (ps_if (pt_cmpR op_ge (pv 2) (pe_op op_pow pe_int pe_int) (nomk _))
        (pss_one (ps_dput hu (pv 0) pe_str (pe_op op_sub (pv 2) (pe_op op_pow pe_int pe_int)) rfl))
        (pss_one (ps_dput hu (pv 0) pe_str (pe_op op_modN (pe_callTy call_int1 (by rfl) m1 (by decide +kernel) (pa_cons (pe_op op_add (pe_op op_mul (pe_dget hu (pv 0) pe_str (fun _ _ => rfl)) pe_int) (pv 2)) pa_nil)) pe_int) rfl)))))) pss_nil) p2), ?_⟩
  -- the end: a number in the range
  have fin : ∀ (H2 : Hp) (i2 : Nat) (d2 f2 : Int) (y2 : Option V), (∀ b, b ≠ a → H2 b = H b) → H2 a = some (penO c i2 d2 ((k.1 : Int) + 1) f2) → i2 ≤ ns.length → 0 ≤ d2 → 0 ≤ f2 → f2 < 2147483648 →
      t2 { nx := fun _ H' => Q .non H', rt := Q } [some (.ref a), some (.int n), y2, none, none] H2 := fun H2 i2 d2 f2 y2 ho e1 e2 e3 e4 e5 => by
    refine r2 a c n y2 H2 i2 d2 ((k.1 : Int) + 1) f2 Q _ n0 n1 e1 e3 e4 e5 (by omega) (by omega) fun H' d' x ho' e6 e7 e8 e9 => ?_
    have bk := back H' i2 d' f2 (fun b hb => (ho' b hb).trans (ho b hb)) e6 e2 e7 e4 e5
    refine q (.int x) H' (.int x) (k.1 + 1, k.2) (fun b o e nb => ?_) bk.1 kx (.int x) (hP x e8 e9)
    have hb : b ≠ a := fun z => nb (by rw [z]; exact bk.2)
    rw [ho' b hb, ho b hb]
    exact e
  -- count
  refine ⟨.ref a, rfl, a, _, rfl, get_count ha, (k.1 : Int), 1, rfl, rfl, .ref a, rfl, a, _, rfl, put_count ha, ?_⟩
  have ho1 : ∀ b, b ≠ a → (upd H a (penO c i d ((k.1 : Int) + 1) f)) b = H b := fun b hb => upd_ne hb
  have ha1 : (upd H a (penO c i d ((k.1 : Int) + 1) f)) a = some (penO c i d ((k.1 : Int) + 1) f) := upd_same
  generalize upd H a (penO c i d ((k.1 : Int) + 1) f) = H1 at ho1 ha1 ⊢
  have hc1 : H1 c = some (.lst (ns.map V.int)) := by rw [ho1 c (Ne.symm nac)]; exact hc
  refine ⟨.ref a, rfl, a, _, rfl, get_digits ha1, rfl, _, rfl, ite2 (fun e1 => ?_) (fun e1 => fin H1 i d f none ho1 ha1 hi hd hf0 hf1)⟩
  refine ⟨.ref a, rfl, a, _, rfl, get_at ha1, .ref a, rfl, a, _, rfl, get_cells ha1, c, _, rfl, .inl (SqL.of hc1), (i : Int), ((ns.map V.int).length : Int), rfl, rfl, _, rfl, ite2 (fun e2 => ?_) (fun e2 => fin H1 i d f none ho1 ha1 hi hd hf0 hf1)⟩
  have hlt : i < ns.length := by
    have e3 := of_decide_eq_true e2
    rw [List.length_map] at e3
    omega
  have hg : (ns.map V.int)[i]? = some (.int ns[i]) := by rw [List.getElem?_map, List.getElem?_eq_getElem hlt]; rfl
  refine ⟨.ref a, rfl, a, _, rfl, get_cells ha1, .ref a, rfl, a, _, rfl, get_at ha1, c, _, (i : Int), .int ns[i], rfl, rfl, SqL.of hc1, atI_nat hg, ?_⟩
  refine ⟨.ref a, rfl, a, _, rfl, get_at ha1, (i : Int), 1, rfl, rfl, .ref a, rfl, a, _, rfl, put_at ha1, ?_⟩
  have ho3 : ∀ b, b ≠ a → (upd H1 a (penO c ((i : Int) + 1) d ((k.1 : Int) + 1) f)) b = H b := fun b hb => by rw [upd_ne hb]; exact ho1 b hb
  have ha3 : (upd H1 a (penO c ((i : Int) + 1) d ((k.1 : Int) + 1) f)) a = some (penO c ((i + 1 : Nat) : Int) d ((k.1 : Int) + 1) f) := upd_same
  generalize upd H1 a (penO c ((i : Int) + 1) d ((k.1 : Int) + 1) f) = H3 at ho3 ha3 ⊢
  refine ⟨.int ns[i], rfl, 10, 18, rfl, rfl, ⟨by decide, by decide, by decide⟩, ns[i], _, rfl, rfl, _, rfl, ite2 (fun e4 => ?_) (fun e4 => ?_)⟩
  · have e5 := of_decide_eq_true e4
    refine ⟨.int ns[i], rfl, 10, 18, rfl, rfl, ⟨by decide, by decide, by decide⟩, ns[i], _, rfl, rfl, .ref a, rfl, a, _, rfl, put_digits ha3, ?_⟩
    exact fin _ (i + 1) _ f (some (.int ns[i])) (fun b hb => by rw [upd_ne hb]; exact ho3 b hb) upd_same (by omega) (Int.sub_nonneg_of_le e5) hf0 hf1
  · have hm := fmod_lt (x := f * 69069 + ns[i]) (m := 2147483587) (by decide)
    refine ⟨.ref a, rfl, a, _, rfl, get_fold ha3, f, 69069, rfl, rfl, .inr ⟨by decide, by decide⟩, .int ns[i], rfl, f * 69069, ns[i], rfl, rfl, .inl ⟨_, rfl, _, 2147483587, rfl, rfl, (by decide : (2147483587 : Int) ≠ 0), .ref a, rfl, a, _, rfl, put_fold ha3, ?_⟩⟩
    exact fin _ (i + 1) d _ (some (.int ns[i])) (fun b hb => by rw [upd_ne hb]; exact ho3 b hb) upd_same (by omega) hd hm.1 (by omega)
theorem b__law_draw (T : Txt P K mg) : Binds K T.d__law_draw ["pen", "many"] [] := T.F__law_draw.binds (ps := ["pen", "many"]) fun _ _ _ _ _ _ us hl => match us, hl with | [_, _], _ => rfl

theorem b__law_heard (T : Txt P K mg) : Binds K T.d__law_heard ["call"] [] := T.F__law_heard.binds (ps := ["call"]) fun _ _ _ _ _ _ us hl => match us, hl with | [_], _ => rfl
theorem hB__law_heard : HeardB "call" "e" "ok" [⟨"BadNumber", true, [.str "number", .fld "what", .rep "value"], []⟩, ⟨"BadRow", true, [.str "row", .rep "value"], ["BadItem"]⟩] (defBody s__law_heard) := .mk (.named (.cons .str (.cons .fld (.cons .rep .nil))) (.guard1 (.cons .str (.cons .rep .nil)) (by rfl) .nil))
theorem hC__law_heard (T : Txt P K mg) : ClsL K mg (defScope s__law_heard) [⟨"BadNumber", true, [.str "number", .fld "what", .rep "value"], []⟩, ⟨"BadRow", true, [.str "row", .rep "value"], ["BadItem"]⟩] (cs__law_heard T.c) := (.named rfl (by decide) T.mC_BadNumber T.XF_BadNumber (fun q hq f hf => T.X_BadNumber.nf f (by simp only [List.mem_cons, List.mem_nil_iff, or_false] at hq; rcases hq with rfl | rfl | rfl <;> simp [Part.fs] at hf <;> simp [hf])) (.guard1 rfl (by decide) T.mC_BadRow T.XF_BadRow (fun q hq f hf => T.X_BadRow.nf f (by simp only [List.mem_cons, List.mem_nil_iff, or_false] at hq; rcases hq with rfl | rfl <;> simp [Part.fs] at hf <;> simp [hf])) T.EC_BadRow rfl T.n_isinstance rfl (by decide) T.mC_BadItem T.kg_BadRow_BadItem .nil))
theorem hex__law_heard (T : Txt P K mg) : ∀ q ∈ cs__law_heard T.c, ∀ q' ∈ cs__law_heard T.c, PySem.W.exmOne K (.ref q.1) (.ref q'.1) = some (decide (q.1 = q'.1)) := by
  intro q hq q' hq'
  simp only [cs__law_heard, List.mem_cons, List.mem_nil_iff, or_false] at hq hq'
  rcases hq with rfl | rfl <;> rcases hq' with rfl | rfl
  · exact ex_same T.x_BadNumber_BadNumber
  · exact ex_diff T.x_BadNumber_BadRow T.x_BadRow_BadRow
  · exact ex_diff T.x_BadRow_BadNumber T.x_BadNumber_BadNumber
  · exact ex_same T.x_BadRow_BadRow
theorem htp__law_heard (T : Txt P K mg) : ∀ q ∈ cs__law_heard T.c, ∀ y ∈ q.2, y.tp = true → (defScope s__law_heard).names.lookup ("tuple" : Str) = some .globalImplicit ∧ mg "tuple" = none := by
  intro q hq y hy e
  have h : ((cs__law_heard T.c).all fun q => q.2.all fun y => !y.tp) = true := rfl
  have := List.all_eq_true.mp (List.all_eq_true.mp h q hq) y hy
  rw [e] at this
  cases this
theorem hsz__law_heard (c : CA) : ∀ q ∈ cs__law_heard c, q.2.length ≤ 100 := by
  intro q hq
  simp only [cs__law_heard, List.mem_cons, List.mem_nil_iff, or_false] at hq
  rcases hq with rfl | rfl <;> simp
theorem bq_Hall (T : Txt P K mg) : Binds K T.dq_Hall ["self", "other"] [] := T.Fq_Hall.binds (ps := ["self", "other"]) fun _ _ _ _ _ _ us hl => match us, hl with | [_, _], _ => rfl
theorem okq_Hall (T : Txt P K mg) : FnOk P w K mg base (L2.CX P w) 1 T.aq_Hall T.dq_Hall ["self", "other"] (spD 2 (wfq_Hall T.c)) :=
  fnOf T.Fq_Hall sc_Hq_Hall rfl fun cdv A outer s H E hr => by
  unfold w_eq_Hall
  exact (dss_one (ds_ret (de_and (de_callB call_isi (real_isC T.cf_Hall) (by rfl) T.n_isinstance (by decide +kernel) (da_cons (de_var 1) (da_cons (de_cls (by rfl) T.mC_Hall) da_nil))) (de_one (de_cmp (op_eqD hr.units) real_eq (de_tup (da_cons (de_fld (de_var 0) T.cl_Hall T.nf_Hall_many (by rfl)) (da_cons (de_fld (de_var 0) T.cl_Hall T.nf_Hall_arrows (by rfl)) da_nil))) (de_tup (da_cons (de_fld (de_var 1) T.cl_Hall T.nf_Hall_many (by rfl)) (da_cons (de_fld (de_var 1) T.cl_Hall T.nf_Hall_arrows (by rfl)) da_nil))) (nomk _))))))
theorem tb_own (T : Txt P K mg) : OwnTb P w K mg base 1 (tb_q T.c) := by
  refine ⟨fun p hp => ?_, fun p hp p' hp' => ?_⟩
  · simp only [tb_q, List.mem_cons, List.mem_nil_iff, or_false] at hp
    rcases hp with rfl
    · exact ⟨⟨_, T.fq_Hall, T.nq_Hall, ((okq_Hall T).raw (bq_Hall T) .nil).app0.mono (by decide)⟩, T.nn_Hall, T.ob_Hall⟩
  · simp only [tb_q, List.mem_cons, List.mem_nil_iff, or_false] at hp hp'
    rcases hp with rfl <;> rcases hp' with rfl
    · exact nf_same
theorem b_is_integer (T : Txt P K mg) : Binds K T.d_is_integer ["value"] [] := T.F_is_integer.binds (ps := ["value"]) fun _ _ _ _ _ _ us hl => match us, hl with | [_], _ => rfl
theorem ok_is_integer (T : Txt P K mg) : FnOk P w K mg base (L2.CX P w) 1 T.a_is_integer T.d_is_integer ["value"] (spD 1 (wf_is_integer T.c)) :=
  fnOf T.F_is_integer sc_is_integer rfl fun cdv A outer s H E hr => by
  unfold w_is_integer
  exact (dss_one (ds_ret (de_and (de_callB call_isi real_isi (by rfl) T.n_isinstance (by decide +kernel) (da_cons (de_var 0) (da_cons (de_ty (by rfl) T.n_int (by decide +kernel)) da_nil))) (de_one (de_not (de_callB call_isi real_isi (by rfl) T.n_isinstance (by decide +kernel) (da_cons (de_var 0) (da_cons (de_ty (by rfl) T.n_bool (by decide +kernel)) da_nil))))))))
theorem b_is_count (T : Txt P K mg) : ∃ ds, Vals [.non] ds ∧ Binds K T.d_is_count ["value", "most"] ds := by
  exact T.F_is_count.binds1 (ps := ["value", "most"]) 1 0 (by simp) (by decide) fun _ _ _ _ _ _ _ us its h1 h2 => match us, its, h1, h2 with | [_], [_], _, _ => ⟨_, rfl, rfl⟩
theorem ok_is_count (T : Txt P K mg) : FnOk P w K mg base (L2.CX P w) 2 T.a_is_count T.d_is_count ["value", "most"] (spD 2 (wf_is_count T.c)) :=
  fnOfD T.F_is_count sc_is_count rfl fun cdv A outer s H E hr => by
  unfold w_is_count
  exact (dss_one (ds_ret (de_and (de_call (ok_is_integer T) (hr.mono (by decide)) (by rfl) T.m_is_integer T.F_is_integer.kp (b_is_integer T) .nil (fun _ _ => .nil) rfl (da_cons (de_var 0) da_nil)) (de_and (de_cmp op_ge real_cmp (de_var 0) de_int (nomk _)) (de_one (de_or (de_cmp op_isN real_isN (de_var 1) de_non (nomk _)) (de_one (de_cmp op_le real_cmp (de_var 0) (de_var 1) (nomk _)))))))))
theorem b_is_row (T : Txt P K mg) : Binds K T.d_is_row ["value"] [] := T.F_is_row.binds (ps := ["value"]) fun _ _ _ _ _ _ us hl => match us, hl with | [_], _ => rfl
theorem ok_is_row (T : Txt P K mg) : FnOk P w K mg base (L2.CX P w) 1 T.a_is_row T.d_is_row ["value"] (spD 1 (wf_is_row T.c)) :=
  fnOf T.F_is_row sc_is_row rfl fun cdv A outer s H E hr => by
  unfold w_is_row
  exact (dss_one (ds_ret (de_callB call_isiT real_isiT (by rfl) T.n_isinstance (by decide +kernel) (da_cons (de_var 0) (da_cons (de_tup (da_cons (de_ty (by rfl) T.n_list (by decide +kernel)) (da_cons (de_ty (by rfl) T.n_tuple (by decide +kernel)) da_nil))) da_nil)))))
theorem b_is_arrow (T : Txt P K mg) : Binds K T.d_is_arrow ["value", "many"] [] := T.F_is_arrow.binds (ps := ["value", "many"]) fun _ _ _ _ _ _ us hl => match us, hl with | [_, _], _ => rfl
theorem ok_is_arrow (T : Txt P K mg) : FnOk P w K mg base (L2.CX P w) 2 T.a_is_arrow T.d_is_arrow ["value", "many"] (spD 2 (wf_is_arrow T.c)) :=
  fnOf T.F_is_arrow sc_is_arrow rfl fun cdv A outer s H E hr => by
  unfold w_is_arrow
  exact (dss_cons (ds_if (dt_w (dw_or (dt_not (dt_tru (de_callB call_isi real_isi (by rfl) T.n_isinstance (by decide +kernel) (da_cons (de_var 0) (da_cons (de_ty (by rfl) T.n_tuple (by decide +kernel)) da_nil))))) (dw_or1 (dt_cmp (op_neD hr.units) real_ne (de_callB call_len real_len (by rfl) T.n_len (by decide +kernel) (da_cons (de_var 0) da_nil)) de_int (nomk _))))) (dss_one (ds_ret de_bl)) dss_nil)
  (dss_one (ds_ret (de_and (de_callB (cr_all rfl) real_all (by rfl) T.n_all (by decide +kernel) (da_cons (de_new (df_lc (own := [("item", 2)]) (is := [2]) rfl sc_is_arrow.nd (di_seq (de_var 0)) (blkOk_by (by first | rfl | decide +kernel)) (fun _ _ _ _ _ => (dg_name (i := 2) sc_is_arrow.nd rfl (by first | exact .inl rfl | exact .inr rfl))) (fun _ _ _ _ _ => dts_nil) (fun _ _ _ _ _ => (de_and (de_call (ok_is_integer T) (hr.mono (by decide)) (by rfl) T.m_is_integer T.F_is_integer.kp (b_is_integer T) .nil (fun _ _ => .nil) rfl (da_cons (de_var 2) da_nil)) (de_one (de_chain op_le op_lt real_cmp real_cmp de_int (de_var 2) (de_var 1))))) (by decide))) da_nil)) (de_one (de_cmp (op_neD hr.units) real_ne (de_ix ix_seq real_ix (de_var 0) de_int) (de_ix ix_seq real_ix (de_var 0) de_int) (nomk _)))))))
theorem b_first_order (T : Txt P K mg) : Binds K T.d_first_order ["many", "arrows"] [] := T.F_first_order.binds (ps := ["many", "arrows"]) fun _ _ _ _ _ _ us hl => match us, hl with | [_, _], _ => rfl
theorem ok_first_order (T : Txt P K mg) : FnOk P w K mg base (L2.CX P w) 1 T.a_first_order T.d_first_order ["many", "arrows"] (spD 2 (wf_first_order T.c)) :=
  fnOf T.F_first_order sc_first_order rfl fun cdv A outer s H E hr => by
  unfold w_first_order
  exact (dss_cons (ds_setF 2 sc_first_order.nd rfl (by first | exact .inl rfl | exact .inr rfl) (df_lst da_nil))
  (dss_cons (ds_for (L2.passes_of rfl) rfl (di_range1 (by rfl) T.n_range (da_cons (de_var 0) da_nil)) (dg_name (i := 3) sc_first_order.nd rfl (by first | exact .inl rfl | exact .inr rfl)) (dss_cons (ds_setLc 4 (own := [("i", 5)]) (is := [5]) rfl sc_first_order.nd rfl rfl (sw_true rfl rfl rfl (by first | rfl | decide +kernel)) (di_range1 (by rfl) T.n_range (da_cons (de_var 0) da_nil)) (blkOk_by (by first | rfl | decide +kernel)) (fun _ _ _ _ _ => (dg_name (i := 5) sc_first_order.nd rfl (by first | exact .inl rfl | exact .inr rfl))) (fun _ _ _ _ _ => (dts_one (dt_w (dw_and (dt_cmp (op_notInAll (room65 hr)) real_notIn (de_var 5) (de_var 2) (by rfl)) (dw_and1 (dt_not (dt_tru (de_callB (cr_any rfl) real_any (by rfl) T.n_any (by decide +kernel) (da_cons (de_new (df_lc (own := [("k", 6), ("j", 7)]) (is := [6, 7]) rfl sc_first_order.nd (di_seq (de_var 1)) (blkOk_by (by first | rfl | decide +kernel)) (fun _ _ _ _ _ => (dg_tup rfl (dgs_cons (dg_name (i := 6) sc_first_order.nd rfl (by first | exact .inl rfl | exact .inr rfl)) (dgs_cons (dg_name (i := 7) sc_first_order.nd rfl (by first | exact .inl rfl | exact .inr rfl)) dgs_nil)))) (fun _ _ _ _ _ => dts_nil) (fun _ _ _ _ _ => (de_and (de_cmp (op_eqD hr.units) real_eq (de_var 7) (de_var 5) (nomk _)) (de_one (de_cmp (op_notInAll (room65 hr)) real_notIn (de_var 6) (de_var 2) (by rfl))))) (by decide))) da_nil))))))))) (fun _ _ _ _ _ => (de_var 5)) (by decide))
  (dss_one (ds_if (dt_cmp op_gt real_cmp (de_callB call_len real_len (by rfl) T.n_len (by decide +kernel) (da_cons (de_var 4) da_nil)) de_int (nomk _)) (dss_one (ds_append 2 rfl (by first | exact .inl rfl | exact .inr (.inl rfl)) (de_ix ix_seq real_ix (de_var 4) de_int))) dss_nil))))
  (dss_one (ds_ret (de_callTy call_tuple_of real_tuple (by rfl) T.n_tuple (by decide +kernel) (da_cons (de_var 2) da_nil))))))
theorem b_hall_fault (T : Txt P K mg) : Binds K T.d_hall_fault ["many", "arrows"] [] := T.F_hall_fault.binds (ps := ["many", "arrows"]) fun _ _ _ _ _ _ us hl => match us, hl with | [_, _], _ => rfl
theorem ok_hall_fault (T : Txt P K mg) : FnOk P w K mg base (L2.CX P w) 3 T.a_hall_fault T.d_hall_fault ["many", "arrows"] (spD 2 (wf_hall_fault T.c)) :=
  fnOf T.F_hall_fault sc_hall_fault rfl fun cdv A outer s H E hr => by
  unfold w_hall_fault
  exact (dss_cons (ds_if (dt_w (dw_or (dt_not (dt_tru (de_call (ok_is_integer T) (hr.mono (by decide)) (by rfl) T.m_is_integer T.F_is_integer.kp (b_is_integer T) .nil (fun _ _ => .nil) rfl (da_cons (de_var 0) da_nil)))) (dw_or1 (dt_not (dt_chain op_le op_le real_cmp real_cmp de_int (de_var 0) (de_globI (by rfl) T.c_MOST_POINTS ⟨_, rfl⟩)))))) (dss_one (ds_ret de_str)) dss_nil)
  (dss_cons (ds_if (dt_w (dw_or (dt_not (dt_tru (de_call (ok_is_row T) (hr.mono (by decide)) (by rfl) T.m_is_row T.F_is_row.kp (b_is_row T) .nil (fun _ _ => .nil) rfl (da_cons (de_var 1) da_nil)))) (dw_or1 (dt_cmp op_gt real_cmp (de_callB call_len real_len (by rfl) T.n_len (by decide +kernel) (da_cons (de_var 1) da_nil)) (de_globI (by rfl) T.c_MOST_ARROWS ⟨_, rfl⟩) (nomk _))))) (dss_one (ds_ret de_str)) dss_nil)
  (dss_cons (ds_if (dt_not (dt_tru (de_callB (cr_all rfl) real_all (by rfl) T.n_all (by decide +kernel) (da_cons (de_new (df_lc (own := [("arrow", 2)]) (is := [2]) rfl sc_hall_fault.nd (di_seq (de_var 1)) (blkOk_by (by first | rfl | decide +kernel)) (fun _ _ _ _ _ => (dg_name (i := 2) sc_hall_fault.nd rfl (by first | exact .inl rfl | exact .inr rfl))) (fun _ _ _ _ _ => dts_nil) (fun _ _ _ _ _ => (de_call (ok_is_arrow T) (hr.mono (by decide)) (by rfl) T.m_is_arrow T.F_is_arrow.kp (b_is_arrow T) .nil (fun _ _ => .nil) rfl (da_cons (de_var 2) (da_cons (de_var 0) da_nil)))) (by decide))) da_nil)))) (dss_one (ds_ret de_str)) dss_nil)
  (dss_one (ds_ret (de_if (dt_cmp (op_eqD hr.units) real_eq (de_callB call_len real_len (by rfl) T.n_len (by decide +kernel) (da_cons (de_call (ok_first_order T) (hr.mono (by decide)) (by rfl) T.m_first_order T.F_first_order.kp (b_first_order T) .nil (fun _ _ => .nil) rfl (da_cons (de_var 0) (da_cons (de_var 1) da_nil))) da_nil)) (de_var 0) (nomk _)) de_non de_str))))))
theorem b_need_r (T : Txt P K mg) : Binds K T.d_need_r ["r"] [] := T.F_need_r.binds (ps := ["r"]) fun _ _ _ _ _ _ us hl => match us, hl with | [_], _ => rfl
theorem ok_need_r (T : Txt P K mg) : FnOk P w K mg base (L2.CX P w) 2 T.a_need_r T.d_need_r ["r"] (spD 1 (wf_need_r T.c)) :=
  fnOf T.F_need_r sc_need_r rfl fun cdv A outer s H E hr => by
  unfold w_need_r
  exact (dss_one (ds_if (dt_w (dw_or (dt_not (dt_tru (de_call (ok_is_integer T) (hr.mono (by decide)) (by rfl) T.m_is_integer T.F_is_integer.kp (b_is_integer T) .nil (fun _ _ => .nil) rfl (da_cons (de_var 0) da_nil)))) (dw_or1 (dt_cmp (op_notInAll (room65 hr)) real_notIn (de_var 0) (de_tup (da_cons de_int (da_cons de_int da_nil))) (by rfl))))) (dss_one (ds_raise (k := 0) T.X_BadNumber rfl (hr.mono (by decide)) (by rfl) T.mC_BadNumber (da_cons de_str (da_cons (de_var 0) da_nil)))) dss_nil))
theorem b_arm_points (T : Txt P K mg) : Binds K T.d_arm_points ["r", "arm"] [] := T.F_arm_points.binds (ps := ["r", "arm"]) fun _ _ _ _ _ _ us hl => match us, hl with | [_, _], _ => rfl
theorem ok_arm_points (T : Txt P K mg) : FnOk P w K mg base (L2.CX P w) 1 T.a_arm_points T.d_arm_points ["r", "arm"] (spD 2 (wf_arm_points T.c)) :=
  fnOf T.F_arm_points sc_arm_points rfl fun cdv A outer s H E hr => by
  unfold w_arm_points
  exact (dss_one (ds_ret (de_new (df_listRg2 rfl (by rfl) T.n_list (by rfl) T.n_range (de_op op_mulX real_mulX (de_var 1) (de_op op_sub real_sub (de_var 0) de_int)) (de_op op_mulX real_mulX (de_op op_addAll real_add (de_var 1) de_int) (de_op op_sub real_sub (de_var 0) de_int))))))
theorem bi_Hall (T : Txt P K mg) : Binds K T.di_Hall ["self", "many", "arrows"] [] := T.Fi_Hall.binds (ps := ["self", "many", "arrows"]) fun _ _ _ _ _ _ us hl => match us, hl with | [_, _, _], _ => rfl
theorem oki_Hall (T : Txt P K mg) : FnOk P w K mg base (L2.CX P w) 4 T.ai_Hall T.di_Hall ["self", "many", "arrows"] (spI T.c.C_Hall 2 (wfi_Hall T.c)) :=
  fnInit T.Fi_Hall sc_Hi_Hall rfl fun cdv A outer s H E hr => by
  unfold wi_Hall
  exact (dss_cons (ds_set 3 sc_Hi_Hall.nd rfl (by first | exact .inl rfl | exact .inr rfl) (de_call (ok_hall_fault T) (hr.mono (by decide)) (by rfl) T.m_hall_fault T.F_hall_fault.kp (b_hall_fault T) .nil (fun _ _ => .nil) rfl (da_cons (de_var 1) (da_cons (de_var 2) da_nil))))
  (dss_cons (ds_if (dt_cmp op_notN real_notN (de_var 3) de_non (nomk _)) (dss_one (ds_raise (k := 0) T.X_BadHall rfl (hr.mono (by decide)) (by rfl) T.mC_BadHall (da_cons (de_var 3) da_nil))) dss_nil)
  (dss_cons (ds_putF 0 rfl (by first | exact .inl rfl | exact .inr (.inl rfl)) (de_var 1) T.cl_Hall T.nf_Hall_many)
  (dss_one (ds_putF 0 rfl (by first | exact .inl rfl | exact .inr (.inl rfl)) (de_callTy call_tuple_of real_tuple (by rfl) T.n_tuple (by decide +kernel) (da_cons (de_new (df_callB (cr_sortedDt (room100 hr)) real_sortD (by rfl) T.n_sorted (by decide +kernel) (da_cons (de_var 2) da_nil))) da_nil)) T.cl_Hall T.nf_Hall_arrows)))))
theorem b_hall_of_flags (T : Txt P K mg) : Binds K T.d_hall_of_flags ["r"] [] := T.F_hall_of_flags.binds (ps := ["r"]) fun _ _ _ _ _ _ us hl => match us, hl with | [_], _ => rfl
theorem ok_hall_of_flags (T : Txt P K mg) : FnOk P w K mg base (L2.CX P w) 6 T.a_hall_of_flags T.d_hall_of_flags ["r"] (spD 1 (wf_hall_of_flags T.c)) :=
  fnOf T.F_hall_of_flags sc_hall_of_flags rfl fun cdv A outer s H E hr => by
  unfold w_hall_of_flags
  exact (dss_cons (ds_parG 1 2 rfl sc_hall_of_flags.nd rfl rfl (by decide) rfl rfl (de_op op_mulX real_mulX de_int (de_op op_sub real_sub (de_var 0) de_int)) (df_lst da_nil) (by rfl))
  (dss_cons (ds_for (L2.passes_of rfl) rfl (di_range1 (by rfl) T.n_range (da_cons de_int da_nil)) (dg_name (i := 3) sc_hall_of_flags.nd rfl (by first | exact .inl rfl | exact .inr rfl)) (dss_cons (ds_set 4 sc_hall_of_flags.nd rfl (by first | exact .inl rfl | exact .inr rfl) (de_op op_addAll real_add (de_call (ok_arm_points T) (hr.mono (by decide)) (by rfl) T.m_arm_points T.F_arm_points.kp (b_arm_points T) .nil (fun _ _ => .nil) rfl (da_cons (de_var 0) (da_cons (de_var 3) da_nil))) (de_new (df_lst (da_cons (de_var 1) da_nil)))))
  (dss_one (ds_extend 2 rfl (by first | exact .inl rfl | exact .inr (.inl rfl)) (de_new (df_lzip rfl (by rfl) T.n_list (by rfl) T.n_zip (da_cons (de_var 4) (da_cons (de_slice sl_all real_sl (de_var 4) (do_some de_int) do_none) da_nil))))))))
  (dss_one (ds_ret (de_make T.M_Hall (oki_Hall T) (hr.mono (by decide)) (by rfl) T.mC_Hall (bi_Hall T) .nil (fun _ _ => .nil) rfl (da_cons (de_op op_addAll real_add (de_var 1) de_int) (da_cons (de_var 2) da_nil)))))))
theorem b_flag_hall (T : Txt P K mg) : Binds K T.d_flag_hall ["r"] [] := T.F_flag_hall.binds (ps := ["r"]) fun _ _ _ _ _ _ us hl => match us, hl with | [_], _ => rfl
theorem ok_flag_hall (T : Txt P K mg) : FnOk P w K mg base (L2.CX P w) 7 T.a_flag_hall T.d_flag_hall ["r"] (spD 1 (wf_flag_hall T.c)) :=
  fnOf T.F_flag_hall sc_flag_hall rfl fun cdv A outer s H E hr => by
  unfold w_flag_hall
  exact (dss_cons (ds_expr (de_call (ok_need_r T) (hr.mono (by decide)) (by rfl) T.m_need_r T.F_need_r.kp (b_need_r T) .nil (fun _ _ => .nil) rfl (da_cons (de_var 0) da_nil)))
  (dss_one (ds_ret (de_call (ok_hall_of_flags T) (hr.mono (by decide)) (by rfl) T.m_hall_of_flags T.F_hall_of_flags.kp (b_hall_of_flags T) .nil (fun _ _ => .nil) rfl (da_cons (de_var 0) da_nil)))))
theorem b_flag_sizes (T : Txt P K mg) : Binds K T.d_flag_sizes ["r"] [] := T.F_flag_sizes.binds (ps := ["r"]) fun _ _ _ _ _ _ us hl => match us, hl with | [_], _ => rfl
theorem ok_flag_sizes (T : Txt P K mg) : FnOk P w K mg base (L2.CX P w) 3 T.a_flag_sizes T.d_flag_sizes ["r"] (spD 1 (wf_flag_sizes T.c)) :=
  fnOf T.F_flag_sizes sc_flag_sizes rfl fun cdv A outer s H E hr => by
  unfold w_flag_sizes
  exact (dss_cons (ds_expr (de_call (ok_need_r T) (hr.mono (by decide)) (by rfl) T.m_need_r T.F_need_r.kp (b_need_r T) .nil (fun _ _ => .nil) rfl (da_cons (de_var 0) da_nil)))
  (dss_one (ds_ret (de_callTy call_tuple_of real_tuple (by rfl) T.n_tuple (by decide +kernel) (da_cons (de_op op_addAll real_add (de_op op_mulX real_mulX (de_new (df_listRg2 rfl (by rfl) T.n_list (by rfl) T.n_range de_int (de_var 0))) de_int) (de_new (df_lst (da_cons (de_var 0) da_nil)))) da_nil)))))
theorem b_is_falling (T : Txt P K mg) : Binds K T.d_is_falling ["r", "value"] [] := T.F_is_falling.binds (ps := ["r", "value"]) fun _ _ _ _ _ _ us hl => match us, hl with | [_, _], _ => rfl
theorem ok_is_falling (T : Txt P K mg) : FnOk P w K mg base (L2.CX P w) 3 T.a_is_falling T.d_is_falling ["r", "value"] (spD 2 (wf_is_falling T.c)) :=
  fnOf T.F_is_falling sc_is_falling rfl fun cdv A outer s H E hr => by
  unfold w_is_falling
  exact (dss_cons (ds_if (dt_w (dw_or (dt_not (dt_tru (de_call (ok_is_row T) (hr.mono (by decide)) (by rfl) T.m_is_row T.F_is_row.kp (b_is_row T) .nil (fun _ _ => .nil) rfl (da_cons (de_var 1) da_nil)))) (dw_or (dt_cmp (op_neD hr.units) real_ne (de_callB call_len real_len (by rfl) T.n_len (by decide +kernel) (da_cons (de_var 1) da_nil)) (de_var 0) (nomk _)) (dw_or1 (dt_not (dt_tru (de_callB (cr_all rfl) real_all (by rfl) T.n_all (by decide +kernel) (da_cons (de_new (df_lc (own := [("item", 4)]) (is := [4]) rfl sc_is_falling.nd (di_seq (de_var 1)) (blkOk_by (by first | rfl | decide +kernel)) (fun _ _ _ _ _ => (dg_name (i := 4) sc_is_falling.nd rfl (by first | exact .inl rfl | exact .inr rfl))) (fun _ _ _ _ _ => dts_nil) (fun _ _ _ _ _ => (de_call (dvs := [.non]) (dds := [.non]) (ok_is_count T) (hr.mono (by decide)) (by rfl) T.m_is_count T.F_is_count.kp (b_is_count T).choose_spec.2 (b_is_count T).choose_spec.1 (fun _ _ => .cons .non .nil) rfl (da_cons (de_var 4) da_nil))) (by decide))) da_nil)))))))) (dss_one (ds_ret de_bl)) dss_nil)
  (dss_one (ds_ret (de_callB (cr_all rfl) real_all (by rfl) T.n_all (by decide +kernel) (da_cons (de_new (df_lc (own := [("one", 2), ("other", 3)]) (is := [2, 3]) rfl sc_is_falling.nd (di_zip (by rfl) T.n_zip (da_cons (de_var 1) (da_cons (de_slice sl_all real_sl (de_var 1) (do_some de_int) do_none) da_nil))) (blkOk_by (by first | rfl | decide +kernel)) (fun _ _ _ _ _ => (dg_tup rfl (dgs_cons (dg_name (i := 2) sc_is_falling.nd rfl (by first | exact .inl rfl | exact .inr rfl)) (dgs_cons (dg_name (i := 3) sc_is_falling.nd rfl (by first | exact .inl rfl | exact .inr rfl)) dgs_nil)))) (fun _ _ _ _ _ => dts_nil) (fun _ _ _ _ _ => (de_cmp op_ge real_cmp (de_var 2) (de_var 3) (nomk _))) (by decide))) da_nil)))))
theorem b_need_triple (T : Txt P K mg) : Binds K T.d_need_triple ["r", "rows"] [] := T.F_need_triple.binds (ps := ["r", "rows"]) fun _ _ _ _ _ _ us hl => match us, hl with | [_, _], _ => rfl
theorem ok_need_triple (T : Txt P K mg) : FnOk P w K mg base (L2.CX P w) 4 T.a_need_triple T.d_need_triple ["r", "rows"] (spD 2 (wf_need_triple T.c)) :=
  fnOf T.F_need_triple sc_need_triple rfl fun cdv A outer s H E hr => by
  unfold w_need_triple
  exact (dss_cons (ds_expr (de_call (ok_need_r T) (hr.mono (by decide)) (by rfl) T.m_need_r T.F_need_r.kp (b_need_r T) .nil (fun _ _ => .nil) rfl (da_cons (de_var 0) da_nil)))
  (dss_cons (ds_for (L2.passes_of rfl) rfl (di_seq (de_var 1)) (dg_name (i := 2) sc_need_triple.nd rfl (by first | exact .inl rfl | exact .inr rfl)) (dss_one (ds_if (dt_not (dt_tru (de_call (ok_is_falling T) (hr.mono (by decide)) (by rfl) T.m_is_falling T.F_is_falling.kp (b_is_falling T) .nil (fun _ _ => .nil) rfl (da_cons (de_var 0) (da_cons (de_var 2) da_nil))))) (dss_one (ds_raise (k := 0) T.X_BadRow rfl (hr.mono (by decide)) (by rfl) T.mC_BadRow (da_cons (de_var 2) da_nil))) dss_nil)))
  (dss_cons (ds_set 3 sc_need_triple.nd rfl (by first | exact .inl rfl | exact .inr rfl) (de_callB (cr_sumA rfl) real_sum (by rfl) T.n_sum (by decide +kernel) (da_cons (de_new (df_lc (own := [("row", 2)]) (is := [2]) rfl sc_need_triple.nd (di_seq (de_var 1)) (blkOk_by (by first | rfl | decide +kernel)) (fun _ _ _ _ _ => (dg_name (i := 2) sc_need_triple.nd rfl (by first | exact .inl rfl | exact .inr rfl))) (fun _ _ _ _ _ => dts_nil) (fun _ _ _ _ _ => (de_callB (cr_sumA rfl) real_sum (by rfl) T.n_sum (by decide +kernel) (da_cons (de_var 2) da_nil))) (by decide))) da_nil)))
  (dss_cons (ds_if (dt_cmp (op_neD hr.units) real_ne (de_op op_modN real_mod (de_var 3) (de_var 0)) de_int (nomk _)) (dss_one (ds_raise (k := 0) T.X_BadNumber rfl (hr.mono (by decide)) (by rfl) T.mC_BadNumber (da_cons de_str (da_cons (de_var 3) da_nil)))) dss_nil)
  (dss_one (ds_ret (de_tup (da_cons (de_new (df_lc (own := [("row", 2)]) (is := [2]) rfl sc_need_triple.nd (di_seq (de_var 1)) (blkOk_by (by first | rfl | decide +kernel)) (fun _ _ _ _ _ => (dg_name (i := 2) sc_need_triple.nd rfl (by first | exact .inl rfl | exact .inr rfl))) (fun _ _ _ _ _ => dts_nil) (fun _ _ _ _ _ => (de_callTy call_tuple_of real_tuple (by rfl) T.n_tuple (by decide +kernel) (da_cons (de_var 2) da_nil))) (by decide))) (da_cons (de_op op_fdivN real_div (de_var 3) (de_var 0)) da_nil)))))))))
theorem b_weights_of_triple (T : Txt P K mg) : Binds K T.d_weights_of_triple ["r", "rows", "middle"] [] := T.F_weights_of_triple.binds (ps := ["r", "rows", "middle"]) fun _ _ _ _ _ _ us hl => match us, hl with | [_, _, _], _ => rfl
theorem ok_weights_of_triple (T : Txt P K mg) : FnOk P w K mg base (L2.CX P w) 1 T.a_weights_of_triple T.d_weights_of_triple ["r", "rows", "middle"] (spD 3 (wf_weights_of_triple T.c)) :=
  fnOf T.F_weights_of_triple sc_weights_of_triple rfl fun cdv A outer s H E hr => by
  unfold w_weights_of_triple
  exact (dss_cons (ds_setF 3 sc_weights_of_triple.nd rfl (by first | exact .inl rfl | exact .inr rfl) (df_lst da_nil))
  (dss_cons (ds_for (L2.passes_of rfl) rfl (di_seq (de_var 1)) (dg_name (i := 4) sc_weights_of_triple.nd rfl (by first | exact .inl rfl | exact .inr rfl)) (dss_one (ds_extend 3 rfl (by first | exact .inl rfl | exact .inr (.inl rfl)) (de_new (df_lc (own := [("one", 5), ("other", 6)]) (is := [5, 6]) rfl sc_weights_of_triple.nd (di_zip (by rfl) T.n_zip (da_cons (de_var 4) (da_cons (de_slice sl_all real_sl (de_var 4) (do_some de_int) do_none) da_nil))) (blkOk_by (by first | rfl | decide +kernel)) (fun _ _ _ _ _ => (dg_tup rfl (dgs_cons (dg_name (i := 5) sc_weights_of_triple.nd rfl (by first | exact .inl rfl | exact .inr rfl)) (dgs_cons (dg_name (i := 6) sc_weights_of_triple.nd rfl (by first | exact .inl rfl | exact .inr rfl)) dgs_nil)))) (fun _ _ _ _ _ => dts_nil) (fun _ _ _ _ _ => (de_op op_sub real_sub (de_var 5) (de_var 6))) (by decide))))))
  (dss_one (ds_ret (de_op op_addAll real_add (de_callTy call_tuple_of real_tuple (by rfl) T.n_tuple (by decide +kernel) (da_cons (de_var 3) da_nil)) (de_tup (da_cons (de_op op_sub real_sub (de_callB (cr_sumA rfl) real_sum (by rfl) T.n_sum (by decide +kernel) (da_cons (de_new (df_lc (own := [("row", 4)]) (is := [4]) rfl sc_weights_of_triple.nd (di_seq (de_var 1)) (blkOk_by (by first | rfl | decide +kernel)) (fun _ _ _ _ _ => (dg_name (i := 4) sc_weights_of_triple.nd rfl (by first | exact .inl rfl | exact .inr rfl))) (fun _ _ _ _ _ => dts_nil) (fun _ _ _ _ _ => (de_ix ix_seq real_ix (de_var 4) (de_un un_neg real_neg de_int))) (by decide))) da_nil)) (de_var 2)) da_nil)))))))
theorem b_flag_weights (T : Txt P K mg) : Binds K T.d_flag_weights ["r", "one", "other", "third"] [] := T.F_flag_weights.binds (ps := ["r", "one", "other", "third"]) fun _ _ _ _ _ _ us hl => match us, hl with | [_, _, _, _], _ => rfl
theorem ok_flag_weights (T : Txt P K mg) : FnOk P w K mg base (L2.CX P w) 5 T.a_flag_weights T.d_flag_weights ["r", "one", "other", "third"] (spD 4 (wf_flag_weights T.c)) :=
  fnOf T.F_flag_weights sc_flag_weights rfl fun cdv A outer s H E hr => by
  unfold w_flag_weights
  exact (dss_cons (ds_asg (de_call (ok_need_triple T) (hr.mono (by decide)) (by rfl) T.m_need_triple T.F_need_triple.kp (b_need_triple T) .nil (fun _ _ => .nil) rfl (da_cons (de_var 0) (da_cons (de_new (df_lst (da_cons (de_var 1) (da_cons (de_var 2) (da_cons (de_var 3) da_nil))))) da_nil))) (dg_tup rfl (dgs_cons (dg_name (i := 4) sc_flag_weights.nd rfl (by first | exact .inl rfl | exact .inr rfl)) (dgs_cons (dg_name (i := 5) sc_flag_weights.nd rfl (by first | exact .inl rfl | exact .inr rfl)) dgs_nil))))
  (dss_one (ds_ret (de_call (ok_weights_of_triple T) (hr.mono (by decide)) (by rfl) T.m_weights_of_triple T.F_weights_of_triple.kp (b_weights_of_triple T) .nil (fun _ _ => .nil) rfl (da_cons (de_var 0) (da_cons (de_var 4) (da_cons (de_var 5) da_nil)))))))
theorem b__law_pick (T : Txt P K mg) : Binds K T.d__law_pick ["pen", "some"] [] := T.F__law_pick.binds (ps := ["pen", "some"]) fun _ _ _ _ _ _ us hl => match us, hl with | [_, _], _ => rfl
theorem ok__law_pick (T : Txt P K mg) : FnOk P w K mg base (L2.CX P w) 2 T.a__law_pick T.d__law_pick ["pen", "some"] (spD 2 (wf__law_pick T.c)) :=
  fnOf T.F__law_pick sc__law_pick rfl fun cdv A outer s H E hr => by
  unfold w__law_pick
  exact (dss_one (ds_ret (de_ix ix_seq real_ix (de_var 1) (de_call (fnUp (ok__law_draw T)) (hr.mono (by decide)) (by rfl) T.m__law_draw T.F__law_draw.kp (b__law_draw T) .nil (fun _ _ => .nil) rfl (da_cons (de_var 0) (da_cons (de_callB call_len real_len (by rfl) T.n_len (by decide +kernel) (da_cons (de_var 1) da_nil)) da_nil))))))
theorem b__law_is_int (T : Txt P K mg) : Binds K T.d__law_is_int ["value"] [] := T.F__law_is_int.binds (ps := ["value"]) fun _ _ _ _ _ _ us hl => match us, hl with | [_], _ => rfl
theorem ok__law_is_int (T : Txt P K mg) : FnOk P w K mg base (L2.CX P w) 1 T.a__law_is_int T.d__law_is_int ["value"] (spD 1 (wf__law_is_int T.c)) :=
  fnOf T.F__law_is_int sc__law_is_int rfl fun cdv A outer s H E hr => by
  unfold w__law_is_int
  exact (dss_one (ds_ret (de_and (de_callB call_isi real_isi (by rfl) T.n_isinstance (by decide +kernel) (da_cons (de_var 0) (da_cons (de_ty (by rfl) T.n_int (by decide +kernel)) da_nil))) (de_one (de_not (de_callB call_isi real_isi (by rfl) T.n_isinstance (by decide +kernel) (da_cons (de_var 0) (da_cons (de_ty (by rfl) T.n_bool (by decide +kernel)) da_nil))))))))
theorem b__law_is_ints (T : Txt P K mg) : Binds K T.d__law_is_ints ["value", "many"] [] := T.F__law_is_ints.binds (ps := ["value", "many"]) fun _ _ _ _ _ _ us hl => match us, hl with | [_, _], _ => rfl
theorem ok__law_is_ints (T : Txt P K mg) : FnOk P w K mg base (L2.CX P w) 2 T.a__law_is_ints T.d__law_is_ints ["value", "many"] (spD 2 (wf__law_is_ints T.c)) :=
  fnOf T.F__law_is_ints sc__law_is_ints rfl fun cdv A outer s H E hr => by
  unfold w__law_is_ints
  exact (dss_one (ds_ret (de_and (de_callB call_isi real_isi (by rfl) T.n_isinstance (by decide +kernel) (da_cons (de_var 0) (da_cons (de_ty (by rfl) T.n_tuple (by decide +kernel)) da_nil))) (de_and (de_cmp (op_eqD hr.units) real_eq (de_callB call_len real_len (by rfl) T.n_len (by decide +kernel) (da_cons (de_var 0) da_nil)) (de_var 1) (nomk _)) (de_one (de_cmp (op_eqD hr.units) real_eq (de_new (df_lc (own := [("item", 2)]) (is := [2]) rfl sc__law_is_ints.nd (di_seq (de_var 0)) (blkOk_by (by first | rfl | decide +kernel)) (fun _ _ _ _ _ => (dg_name (i := 2) sc__law_is_ints.nd rfl (by first | exact .inl rfl | exact .inr rfl))) (fun _ _ _ _ _ => (dts_one (dt_not (dt_tru (de_call (ok__law_is_int T) (hr.mono (by decide)) (by rfl) T.m__law_is_int T.F__law_is_int.kp (b__law_is_int T) .nil (fun _ _ => .nil) rfl (da_cons (de_var 2) da_nil)))))) (fun _ _ _ _ _ => de_int) (by decide))) (de_new (df_lst da_nil)) (nomk _)))))))
theorem b__law_weight (T : Txt P K mg) : Binds K T.d__law_weight ["weights", "row"] [] := T.F__law_weight.binds (ps := ["weights", "row"]) fun _ _ _ _ _ _ us hl => match us, hl with | [_, _], _ => rfl
theorem ok__law_weight (T : Txt P K mg) : FnOk P w K mg base (L2.CX P w) 1 T.a__law_weight T.d__law_weight ["weights", "row"] (spD 2 (wf__law_weight T.c)) :=
  fnOf T.F__law_weight sc__law_weight rfl fun cdv A outer s H E hr => by
  unfold w__law_weight
  exact (dss_one (ds_ret (de_callB (cr_sumA rfl) real_sum (by rfl) T.n_sum (by decide +kernel) (da_cons (de_new (df_lc (own := [("weight", 2), ("item", 3)]) (is := [2, 3]) rfl sc__law_weight.nd (di_zip (by rfl) T.n_zip (da_cons (de_var 0) (da_cons (de_var 1) da_nil))) (blkOk_by (by first | rfl | decide +kernel)) (fun _ _ _ _ _ => (dg_tup rfl (dgs_cons (dg_name (i := 2) sc__law_weight.nd rfl (by first | exact .inl rfl | exact .inr rfl)) (dgs_cons (dg_name (i := 3) sc__law_weight.nd rfl (by first | exact .inl rfl | exact .inr rfl)) dgs_nil)))) (fun _ _ _ _ _ => dts_nil) (fun _ _ _ _ _ => (de_op op_mulX real_mulX (de_var 2) (de_var 3))) (by decide))) da_nil))))
theorem b__law_listed_row (T : Txt P K mg) : Binds K T.d__law_listed_row ["pen", "row"] [] := T.F__law_listed_row.binds (ps := ["pen", "row"]) fun _ _ _ _ _ _ us hl => match us, hl with | [_, _], _ => rfl
theorem ok__law_listed_row (T : Txt P K mg) : FnOk P w K mg base (L2.CX P w) 2 T.a__law_listed_row T.d__law_listed_row ["pen", "row"] (spD 2 (wf__law_listed_row T.c)) :=
  fnOf T.F__law_listed_row sc__law_listed_row rfl fun cdv A outer s H E hr => by
  unfold w__law_listed_row
  exact (dss_one (ds_ret (de_if (dt_cmp (op_eqD hr.units) real_eq (de_call (fnUp (ok__law_draw T)) (hr.mono (by decide)) (by rfl) T.m__law_draw T.F__law_draw.kp (b__law_draw T) .nil (fun _ _ => .nil) rfl (da_cons (de_var 0) (da_cons de_int da_nil))) de_int (nomk _)) (de_new (df_callTy call_list_of real_list (by rfl) T.n_list (by decide +kernel) (da_cons (de_var 1) da_nil))) (de_callTy call_tuple_of real_tuple (by rfl) T.n_tuple (by decide +kernel) (da_cons (de_var 1) da_nil)))))
theorem b__law_own_weights (T : Txt P K mg) : Binds K T.d__law_own_weights ["r", "rows"] [] := T.F__law_own_weights.binds (ps := ["r", "rows"]) fun _ _ _ _ _ _ us hl => match us, hl with | [_, _], _ => rfl
theorem ok__law_own_weights (T : Txt P K mg) : FnOk P w K mg base (L2.CX P w) 1 T.a__law_own_weights T.d__law_own_weights ["r", "rows"] (spD 2 (wf__law_own_weights T.c)) :=
  fnOf T.F__law_own_weights sc__law_own_weights rfl fun cdv A outer s H E hr => by
  unfold w__law_own_weights
  exact (dss_cons (ds_set 2 sc__law_own_weights.nd rfl (by first | exact .inl rfl | exact .inr rfl) (de_new (df_lst da_nil)))
  (dss_cons (ds_for (L2.passes_of rfl) rfl (di_seq (de_var 1)) (dg_name (i := 3) sc__law_own_weights.nd rfl (by first | exact .inl rfl | exact .inr rfl)) (dss_one (ds_set 2 sc__law_own_weights.nd rfl (by first | exact .inl rfl | exact .inr rfl) (de_op op_addAll real_add (de_var 2) (de_new (df_lc (own := [("i", 4)]) (is := [4]) rfl sc__law_own_weights.nd (di_range1 (by rfl) T.n_range (da_cons (de_op op_sub real_sub (de_var 0) de_int) da_nil)) (blkOk_by (by first | rfl | decide +kernel)) (fun _ _ _ _ _ => (dg_name (i := 4) sc__law_own_weights.nd rfl (by first | exact .inl rfl | exact .inr rfl))) (fun _ _ _ _ _ => dts_nil) (fun _ _ _ _ _ => (de_op op_sub real_sub (de_ix ix_seq real_ix (de_var 3) (de_var 4)) (de_ix ix_seq real_ix (de_var 3) (de_op op_addAll real_add (de_var 4) de_int)))) (by decide)))))))
  (dss_one (ds_ret (de_op op_addAll real_add (de_var 2) (de_new (df_lst (da_cons (de_op op_sub real_sub (de_callB (cr_sumA rfl) real_sum (by rfl) T.n_sum (by decide +kernel) (da_cons (de_new (df_lc (own := [("row", 3)]) (is := [3]) rfl sc__law_own_weights.nd (di_seq (de_var 1)) (blkOk_by (by first | rfl | decide +kernel)) (fun _ _ _ _ _ => (dg_name (i := 3) sc__law_own_weights.nd rfl (by first | exact .inl rfl | exact .inr rfl))) (fun _ _ _ _ _ => dts_nil) (fun _ _ _ _ _ => (de_ix ix_seq real_ix (de_var 3) (de_un un_neg real_neg de_int))) (by decide))) da_nil)) (de_op op_fdivN real_div (de_callB (cr_sumA rfl) real_sum (by rfl) T.n_sum (by decide +kernel) (da_cons (de_new (df_lc (own := [("row", 3)]) (is := [3]) rfl sc__law_own_weights.nd (di_seq (de_var 1)) (blkOk_by (by first | rfl | decide +kernel)) (fun _ _ _ _ _ => (dg_name (i := 3) sc__law_own_weights.nd rfl (by first | exact .inl rfl | exact .inr rfl))) (fun _ _ _ _ _ => dts_nil) (fun _ _ _ _ _ => (de_callB (cr_sumA rfl) real_sum (by rfl) T.n_sum (by decide +kernel) (da_cons (de_var 3) da_nil))) (by decide))) da_nil)) (de_var 0))) da_nil))))))))
theorem b__law_some_falling (T : Txt P K mg) : Binds K T.d__law_some_falling ["pen", "r", "most"] [] := T.F__law_some_falling.binds (ps := ["pen", "r", "most"]) fun _ _ _ _ _ _ us hl => match us, hl with | [_, _, _], _ => rfl
theorem ok__law_some_falling (T : Txt P K mg) : FnOk P w K mg base (L2.CX P w) 2 T.a__law_some_falling T.d__law_some_falling ["pen", "r", "most"] (spD 3 (wf__law_some_falling T.c)) :=
  fnOf T.F__law_some_falling sc__law_some_falling rfl fun cdv A outer s H E hr => by
  unfold w__law_some_falling
  exact (dss_one (ds_ret (de_new (df_sortRev (by rfl) T.n_sorted (da_cons (de_new (df_lc (own := [("k", 3)]) (is := [3]) rfl sc__law_some_falling.nd (di_range1 (by rfl) T.n_range (da_cons (de_var 1) da_nil)) (blkOk_by (by first | rfl | decide +kernel)) (fun _ _ _ _ _ => (dg_name (i := 3) sc__law_some_falling.nd rfl (by first | exact .inl rfl | exact .inr rfl))) (fun _ _ _ _ _ => dts_nil) (fun _ _ _ _ _ => (de_call (fnUp (ok__law_draw T)) (hr.mono (by decide)) (by rfl) T.m__law_draw T.F__law_draw.kp (b__law_draw T) .nil (fun _ _ => .nil) rfl (da_cons (de_var 0) (da_cons (de_op op_addAll real_add (de_var 2) de_int) da_nil)))) (by decide))) da_nil)))))
theorem ok_law (T : Txt P K mg) {base : Heap} {cl Pt a : Addr} {ns : List Int} {s1 : Shared} {H : Hp} (ht : T.c.tabs = [(Pt, (("law" : Str) ++ ".<locals>.") ++ "<lambda>")]) (TB : LamX.TabB base mg cl Pt) (hT : H Pt = some (.tbl #[])) (hS : SqL K H a (ns.map V.int)) (hl : ns.length ≤ 63)
    (math : ∀ b : Addr, w_law T.c { nx := fun _ _ => False, rt := fun d _ => d = .bl true } (lawE 20 b) (0, ⟨some b, fun _ _ => False, T.c.tabs⟩)) (hr : Room 9 (callerA.deeper (envOfC "law" (defScope s_law) s1.heap.objs.size T.a_law (.ref cl)))) :
    ∃ t, PSs (cxOf (L2.CX P w) P w K mg base ["script", "pen", "halls", "sizes", "r", "told", "lap", "rows", "given", "answer", "total", "more", "number", "fine", "found", "some", "odd", "k", "row", "item"] "law" (defScope s_law) T.a_law (.ref cl) callerA [] s1 H (fun _ _ _ => False)) (defBody s_law) t ∧ t { nx := fun _ H' => V.non = .bl true, rt := fun v _ => v = .bl true } (L2.start ["script", "pen", "halls", "sizes", "r", "told", "lap", "rows", "given", "answer", "total", "more", "number", "fine", "found", "some", "odd", "k", "row", "item"] [.ref a]) H := by
  have hmT : (Pt, (("law" : Str) ++ ".<locals>.") ++ "<lambda>") ∈ T.c.tabs := by rw [ht]; exact List.mem_singleton.mpr rfl
  have hu : ∀ z ∈ T.c.tabs, z.1 = Pt → z.2 = (("law" : Str) ++ ".<locals>.") ++ "<lambda>" := fun z hz _ => by rw [ht] at hz; rw [List.mem_singleton.mp hz]
  have main : DSs (cxOf (L2.CX P w) P w K mg base ["script", "pen", "halls", "sizes", "r", "told", "lap", "rows", "given", "answer", "total", "more", "number", "fine", "found", "some", "odd", "k", "row", "item"] "law" (defScope s_law) T.a_law (.ref cl) callerA [] s1 H (fun _ _ _ => False)) ((defBody s_law).drop 1) (w_law T.c) := by
    unfold w_law
    exact (dss_cons (ds_set 2 sc_law.nd rfl (by first | exact .inl rfl | exact .inr rfl) (de_disp (dpr_cons de_int (de_make T.M_Hall (oki_Hall T) (hr.mono (by decide)) (by rfl) T.mC_Hall (bi_Hall T) .nil (fun _ _ => .nil) rfl (da_cons de_int (da_cons (de_new (df_lst (da_cons (de_tup (da_cons de_int (da_cons de_int da_nil))) (da_cons (de_tup (da_cons de_int (da_cons de_int da_nil))) (da_cons (de_tup (da_cons de_int (da_cons de_int da_nil))) da_nil))))) da_nil))) (dpr_cons de_int (de_make T.M_Hall (oki_Hall T) (hr.mono (by decide)) (by rfl) T.mC_Hall (bi_Hall T) .nil (fun _ _ => .nil) rfl (da_cons de_int (da_cons (de_new (df_lst (da_cons (de_tup (da_cons de_int (da_cons de_int da_nil))) (da_cons (de_tup (da_cons de_int (da_cons de_int da_nil))) (da_cons (de_tup (da_cons de_int (da_cons de_int da_nil))) (da_cons (de_tup (da_cons de_int (da_cons de_int da_nil))) (da_cons (de_tup (da_cons de_int (da_cons de_int da_nil))) (da_cons (de_tup (da_cons de_int (da_cons de_int da_nil))) da_nil)))))))) da_nil))) dpr_nil)) (by decide) (by decide) rfl rfl (by simp) (by decide)))
  (dss_cons (ds_set 3 sc_law.nd rfl (by first | exact .inl rfl | exact .inr rfl) (de_disp (dpr_cons de_int (de_tup (da_cons de_int (da_cons de_int (da_cons de_int (da_cons de_int da_nil))))) (dpr_cons de_int (de_tup (da_cons de_int (da_cons de_int (da_cons de_int (da_cons de_int (da_cons de_int (da_cons de_int (da_cons de_int da_nil)))))))) dpr_nil)) (by decide) (by decide) rfl rfl (by simp) (by decide)))
  (dss_cons (ds_for (L2.passes_of rfl) rfl (di_seq (de_new (df_lst (da_cons de_int (da_cons de_int da_nil))))) (dg_name (i := 4) sc_law.nd rfl (by first | exact .inl rfl | exact .inr rfl)) (dss_cons (ds_set 5 sc_law.nd rfl (by first | exact .inl rfl | exact .inr rfl) (de_call (ok_flag_sizes T) (hr.mono (by decide)) (by rfl) T.m_flag_sizes T.F_flag_sizes.kp (b_flag_sizes T) .nil (fun _ _ => .nil) rfl (da_cons (de_var 4) da_nil)))
  (dss_cons (ds_if (dt_w (dw_or (ownCoreT (op_neOwn (tb_own T) (hr.mono (by decide)) (hu_of hr)) (de_call (ok_flag_hall T) (hr.mono (by decide)) (by rfl) T.m_flag_hall T.F_flag_hall.kp (b_flag_hall T) .nil (fun _ _ => .nil) rfl (da_cons (de_var 4) da_nil)) (de_dgetK (room65 hr) (de_var 2) (de_var 4)) (nomk _)) (dw_or (dt_not (dt_tru (de_call (ok__law_is_ints T) (hr.mono (by decide)) (by rfl) T.m__law_is_ints T.F__law_is_ints.kp (b__law_is_ints T) .nil (fun _ _ => .nil) rfl (da_cons (de_var 5) (da_cons (de_op op_sub real_sub (de_op op_mulX real_mulX de_int (de_var 4)) de_int) da_nil))))) (dw_or1 (dt_cmp (op_neD hr.units) real_ne (de_var 5) (de_dgetK (room65 hr) (de_var 3) (de_var 4)) (nomk _)))))) (dss_one (ds_ret de_bl)) dss_nil)
  (dss_one (ds_for (L2.passes_of rfl) rfl (di_range1 (by rfl) T.n_range (da_cons de_int da_nil)) (dg_name (i := 6) sc_law.nd rfl (by first | exact .inl rfl | exact .inr rfl)) (dss_cons (ds_setLc 7 (own := [("k", 17)]) (is := [17]) rfl sc_law.nd rfl rfl (sw_true rfl rfl rfl (by first | rfl | decide +kernel)) (di_range1 (by rfl) T.n_range (da_cons de_int da_nil)) (blkOk_by (by first | rfl | decide +kernel)) (fun _ _ _ _ _ => (dg_name (i := 17) sc_law.nd rfl (by first | exact .inl rfl | exact .inr rfl))) (fun _ _ _ _ _ => dts_nil) (fun _ _ _ _ _ => (de_call (ok__law_some_falling T) (hr.mono (by decide)) (by rfl) T.m__law_some_falling T.F__law_some_falling.kp (b__law_some_falling T) .nil (fun _ _ => .nil) rfl (da_cons (de_var 1) (da_cons (de_var 4) (da_cons (de_call (ok__law_pick T) (hr.mono (by decide)) (by rfl) T.m__law_pick T.F__law_pick.kp (b__law_pick T) .nil (fun _ _ => .nil) rfl (da_cons (de_var 1) (da_cons (de_if (dt_cmp (op_eqD hr.units) real_eq (de_var 4) de_int (nomk _)) (de_new (df_lst (da_cons de_int (da_cons de_int da_nil)))) (de_new (df_lst (da_cons de_int (da_cons de_int da_nil))))) da_nil))) da_nil))))) (by decide))
  (dss_cons (ds_set 8 sc_law.nd rfl (by first | exact .inl rfl | exact .inr rfl) (de_new (df_lc (own := [("row", 18)]) (is := [18]) rfl sc_law.nd (di_seq (de_var 7)) (blkOk_by (by first | rfl | decide +kernel)) (fun _ _ _ _ _ => (dg_name (i := 18) sc_law.nd rfl (by first | exact .inl rfl | exact .inr rfl))) (fun _ _ _ _ _ => dts_nil) (fun _ _ _ _ _ => (de_call (ok__law_listed_row T) (hr.mono (by decide)) (by rfl) T.m__law_listed_row T.F__law_listed_row.kp (b__law_listed_row T) .nil (fun _ _ => .nil) rfl (da_cons (de_var 1) (da_cons (de_var 18) da_nil)))) (by decide))))
  (dss_cons (ds_set 9 sc_law.nd rfl (by first | exact .inl rfl | exact .inr rfl) (de_heard (k := 7) T.F__law_heard sc__law_heard (b__law_heard T) (hB__law_heard) (hC__law_heard T) (hex__law_heard T) (hsz__law_heard _) (.inl rfl) rfl rfl T.n_repr (htp__law_heard T) (fun _ _ _ _ _ => rfl) (by rfl) T.m__law_heard TB rfl hmT hu (hr.mono (by decide)) (LamX.lamS_by (by first | rfl | decide +kernel)) rfl (fun _ _ _ _ _ => rfl) (fun _ _ _ _ _ _ _ hr => (de_call (ok_flag_weights T) (hr.mono (by decide)) (by rfl) T.m_flag_weights T.F_flag_weights.kp (b_flag_weights T) .nil (fun _ _ => .nil) rfl (da_cons (de_var 4) (da_cons (de_ix ix_seq real_ix (de_var 8) de_int) (da_cons (de_ix ix_seq real_ix (de_var 8) de_int) (da_cons (de_ix ix_seq real_ix (de_var 8) de_int) da_nil))))))))
  (dss_cons (ds_set 10 sc_law.nd rfl (by first | exact .inl rfl | exact .inr rfl) (de_callB (cr_sumA rfl) real_sum (by rfl) T.n_sum (by decide +kernel) (da_cons (de_new (df_lc (own := [("row", 18)]) (is := [18]) rfl sc_law.nd (di_seq (de_var 7)) (blkOk_by (by first | rfl | decide +kernel)) (fun _ _ _ _ _ => (dg_name (i := 18) sc_law.nd rfl (by first | exact .inl rfl | exact .inr rfl))) (fun _ _ _ _ _ => dts_nil) (fun _ _ _ _ _ => (de_callB (cr_sumA rfl) real_sum (by rfl) T.n_sum (by decide +kernel) (da_cons (de_var 18) da_nil))) (by decide))) da_nil)))
  (dss_cons (ds_if (dt_cmp (op_neD hr.units) real_ne (de_op op_modN real_mod (de_callTy call_int1 real_int (by rfl) T.n_int (by decide +kernel) (da_cons (de_var 10) da_nil)) (de_var 4)) de_int (nomk _)) (dss_cons (ds_if (dt_cmp (op_neD hr.units) real_ne (de_var 9) (de_tup (da_cons de_str (da_cons de_str (da_cons (de_callB (call_repr rfl (room65 hr)) real_repr (by rfl) T.n_repr (by decide +kernel) (da_cons (de_var 10) da_nil)) da_nil)))) (nomk _)) (dss_one (ds_ret de_bl)) dss_nil)
  (dss_one ds_continue)) dss_nil)
  (dss_cons (ds_if (dt_w (dw_or (dt_cmp (op_neD hr.units) real_ne (de_ix ix_seq real_ix (de_var 9) de_int) de_str (nomk _)) (dw_or1 (dt_not (dt_tru (de_call (ok__law_is_ints T) (hr.mono (by decide)) (by rfl) T.m__law_is_ints T.F__law_is_ints.kp (b__law_is_ints T) .nil (fun _ _ => .nil) rfl (da_cons (de_ix ix_seq real_ix (de_var 9) de_int) (da_cons (de_op op_sub real_sub (de_op op_mulX real_mulX de_int (de_var 4)) de_int) da_nil)))))))) (dss_one (ds_ret de_bl)) dss_nil)
  (dss_cons (ds_if (dt_cmp (op_neD hr.units) real_ne (de_new (df_callTy call_list_of real_list (by rfl) T.n_list (by decide +kernel) (da_cons (de_ix ix_seq real_ix (de_var 9) de_int) da_nil))) (de_call (ok__law_own_weights T) (hr.mono (by decide)) (by rfl) T.m__law_own_weights T.F__law_own_weights.kp (b__law_own_weights T) .nil (fun _ _ => .nil) rfl (da_cons (de_var 4) (da_cons (de_var 7) da_nil))) (nomk _)) (dss_one (ds_ret de_bl)) dss_nil)
  (dss_cons (ds_if (dt_w (dw_or (dt_cmp (op_neD hr.units) real_ne (de_call (ok__law_weight T) (hr.mono (by decide)) (by rfl) T.m__law_weight T.F__law_weight.kp (b__law_weight T) .nil (fun _ _ => .nil) rfl (da_cons (de_ix ix_seq real_ix (de_var 9) de_int) (da_cons (de_dgetK (room65 hr) (de_var 3) (de_var 4)) da_nil))) de_int (nomk _)) (dw_or1 (dt_cmp (op_neD hr.units) real_ne (de_new (df_lc (own := [("row", 18)]) (is := [18]) rfl sc_law.nd (di_seq (de_var 8)) (blkOk_by (by first | rfl | decide +kernel)) (fun _ _ _ _ _ => (dg_name (i := 18) sc_law.nd rfl (by first | exact .inl rfl | exact .inr rfl))) (fun _ _ _ _ _ => dts_nil) (fun _ _ _ _ _ => (de_new (df_callTy call_list_of real_list (by rfl) T.n_list (by decide +kernel) (da_cons (de_var 18) da_nil)))) (by decide))) (de_var 7) (nomk _))))) (dss_one (ds_ret de_bl)) dss_nil)
  (dss_cons (ds_setLc 11 (own := [("item", 19)]) (is := [19]) rfl sc_law.nd rfl rfl (sw_true rfl rfl rfl (by first | rfl | decide +kernel)) (di_seq (de_ix ix_seq real_ix (de_var 7) de_int)) (blkOk_by (by first | rfl | decide +kernel)) (fun _ _ _ _ _ => (dg_name (i := 19) sc_law.nd rfl (by first | exact .inl rfl | exact .inr rfl))) (fun _ _ _ _ _ => dts_nil) (fun _ _ _ _ _ => (de_op op_addAll real_add (de_var 19) de_int)) (by decide))
  (dss_one (ds_if (dt_cmp (op_neD hr.units) real_ne (de_call (ok_flag_weights T) (hr.mono (by decide)) (by rfl) T.m_flag_weights T.F_flag_weights.kp (b_flag_weights T) .nil (fun _ _ => .nil) rfl (da_cons (de_var 4) (da_cons (de_var 11) (da_cons (de_ix ix_seq real_ix (de_var 7) de_int) (da_cons (de_ix ix_seq real_ix (de_var 7) de_int) da_nil))))) (de_ix ix_seq real_ix (de_var 9) de_int) (nomk _)) (dss_one (ds_ret de_bl)) dss_nil))))))))))))))))
  (dss_cons (ds_set 4 sc_law.nd rfl (by first | exact .inl rfl | exact .inr rfl) (de_call (ok__law_pick T) (hr.mono (by decide)) (by rfl) T.m__law_pick T.F__law_pick.kp (b__law_pick T) .nil (fun _ _ => .nil) rfl (da_cons (de_var 1) (da_cons (de_new (df_lst (da_cons de_int (da_cons de_int da_nil)))) da_nil))))
  (dss_cons (ds_asg (de_tup (da_cons (de_call (ok__law_pick T) (hr.mono (by decide)) (by rfl) T.m__law_pick T.F__law_pick.kp (b__law_pick T) .nil (fun _ _ => .nil) rfl (da_cons (de_var 1) (da_cons (de_new (df_lst (da_cons de_int (da_cons de_int (da_cons de_int (da_cons de_non (da_cons de_bl (da_cons de_str (da_cons (de_tup (da_cons de_int da_nil)) da_nil))))))))) da_nil))) (da_cons (de_op op_mulX real_mulX (de_new (df_lst (da_cons de_int da_nil))) (de_var 4)) da_nil))) (dg_tup rfl (dgs_cons (dg_name (i := 12) sc_law.nd rfl (by first | exact .inl rfl | exact .inr rfl)) (dgs_cons (dg_name (i := 13) sc_law.nd rfl (by first | exact .inl rfl | exact .inr rfl)) dgs_nil))))
  (dss_cons (ds_setF 14 sc_law.nd rfl (by first | exact .inl rfl | exact .inr rfl) (df_lst (da_cons (de_heard (k := 7) T.F__law_heard sc__law_heard (b__law_heard T) (hB__law_heard) (hC__law_heard T) (hex__law_heard T) (hsz__law_heard _) (.inl rfl) rfl rfl T.n_repr (htp__law_heard T) (fun _ _ _ _ _ => rfl) (by rfl) T.m__law_heard TB rfl hmT hu (hr.mono (by decide)) (LamX.lamS_by (by first | rfl | decide +kernel)) rfl (fun _ _ _ _ _ => rfl) (fun _ _ _ _ _ _ _ hr => (de_call (ok_flag_hall T) (hr.mono (by decide)) (by rfl) T.m_flag_hall T.F_flag_hall.kp (b_flag_hall T) .nil (fun _ _ => .nil) rfl (da_cons (de_var 12) da_nil)))) (da_cons (de_heardD (xx := "a") (k := 7) T.F__law_heard sc__law_heard (b__law_heard T) (hB__law_heard) (hC__law_heard T) (hex__law_heard T) (hsz__law_heard _) (.inl rfl) rfl rfl T.n_repr (htp__law_heard T) (fun _ _ _ _ _ => rfl) (by rfl) T.m__law_heard TB rfl hmT hu (hr.mono (by decide)) (lamSD_by (by first | rfl | decide +kernel)) (show ("a" : Str) ∉ (["script", "pen", "halls", "sizes", "r", "told", "lap", "rows", "given", "answer", "total", "more", "number", "fine", "found", "some", "odd", "k", "row", "item"] : List Str) from by decide +kernel) rfl rfl (fun _ _ _ _ _ _ _ => ⟨_, rfl, rfl⟩) (fun _ _ _ _ _ _ _ hr => (de_call (ok_flag_sizes T) (hr.mono (by decide)) (by rfl) T.m_flag_sizes T.F_flag_sizes.kp (b_flag_sizes T) .nil (fun _ _ => .nil) rfl (da_cons (de_var 12) da_nil)))) da_nil))))
  (dss_cons (ds_append 14 rfl (by first | exact .inl rfl | exact .inr (.inl rfl)) (de_heard (k := 7) T.F__law_heard sc__law_heard (b__law_heard T) (hB__law_heard) (hC__law_heard T) (hex__law_heard T) (hsz__law_heard _) (.inl rfl) rfl rfl T.n_repr (htp__law_heard T) (fun _ _ _ _ _ => rfl) (by rfl) T.m__law_heard TB rfl hmT hu (hr.mono (by decide)) (LamX.lamS_by (by first | rfl | decide +kernel)) rfl (fun _ _ _ _ _ => rfl) (fun _ _ _ _ _ _ _ hr => (de_call (ok_flag_weights T) (hr.mono (by decide)) (by rfl) T.m_flag_weights T.F_flag_weights.kp (b_flag_weights T) .nil (fun _ _ => .nil) rfl (da_cons (de_var 12) (da_cons de_non (da_cons de_non (da_cons de_non da_nil))))))))
  (dss_cons (ds_if (dt_cmp (op_neD hr.units) real_ne (de_var 14) (de_op op_mulX real_mulX (de_new (df_lst (da_cons (de_tup (da_cons de_str (da_cons de_str (da_cons (de_callB (call_repr rfl (room65 hr)) real_repr (by rfl) T.n_repr (by decide +kernel) (da_cons (de_var 12) da_nil)) da_nil)))) da_nil))) de_int) (nomk _)) (dss_one (ds_ret de_bl)) dss_nil)
  (dss_cons (ds_set 15 sc_law.nd rfl (by first | exact .inl rfl | exact .inr rfl) (de_new (df_lst (da_cons de_non (da_cons de_int (da_cons (de_op op_mulX real_mulX de_str (de_var 4)) (da_cons (de_op op_mulX real_mulX (de_new (df_lst (da_cons de_int da_nil))) (de_op op_addAll real_add (de_var 4) de_int)) (da_cons (de_op op_mulX real_mulX (de_new (df_lst (da_cons de_int da_nil))) (de_op op_sub real_sub (de_var 4) de_int)) (da_cons (de_new (df_listRg1 rfl (by rfl) T.n_list (by rfl) T.n_range (de_var 4))) (da_cons (de_op op_addAll real_add (de_op op_mulX real_mulX (de_new (df_lst (da_cons de_int da_nil))) (de_op op_sub real_sub (de_var 4) de_int)) (de_new (df_lst (da_cons (de_un un_neg real_neg de_int) da_nil)))) (da_cons (de_op op_mulX real_mulX (de_new (df_lst (da_cons de_bl da_nil))) (de_var 4)) da_nil)))))))))))
  (dss_cons (ds_set 16 sc_law.nd rfl (by first | exact .inl rfl | exact .inr rfl) (de_call (ok__law_pick T) (hr.mono (by decide)) (by rfl) T.m__law_pick T.F__law_pick.kp (b__law_pick T) .nil (fun _ _ => .nil) rfl (da_cons (de_var 1) (da_cons (de_var 15) da_nil))))
  (dss_cons (ds_setF 14 sc_law.nd rfl (by first | exact .inl rfl | exact .inr rfl) (df_lst (da_cons (de_heard (k := 7) T.F__law_heard sc__law_heard (b__law_heard T) (hB__law_heard) (hC__law_heard T) (hex__law_heard T) (hsz__law_heard _) (.inl rfl) rfl rfl T.n_repr (htp__law_heard T) (fun _ _ _ _ _ => rfl) (by rfl) T.m__law_heard TB rfl hmT hu (hr.mono (by decide)) (LamX.lamS_by (by first | rfl | decide +kernel)) rfl (fun _ _ _ _ _ => rfl) (fun _ _ _ _ _ _ _ hr => (de_call (ok_flag_weights T) (hr.mono (by decide)) (by rfl) T.m_flag_weights T.F_flag_weights.kp (b_flag_weights T) .nil (fun _ _ => .nil) rfl (da_cons (de_var 4) (da_cons (de_var 16) (da_cons de_non (da_cons de_non da_nil))))))) da_nil)))
  (dss_cons (ds_append 14 rfl (by first | exact .inl rfl | exact .inr (.inl rfl)) (de_heard (k := 7) T.F__law_heard sc__law_heard (b__law_heard T) (hB__law_heard) (hC__law_heard T) (hex__law_heard T) (hsz__law_heard _) (.inl rfl) rfl rfl T.n_repr (htp__law_heard T) (fun _ _ _ _ _ => rfl) (by rfl) T.m__law_heard TB rfl hmT hu (hr.mono (by decide)) (LamX.lamS_by (by first | rfl | decide +kernel)) rfl (fun _ _ _ _ _ => rfl) (fun _ _ _ _ _ _ _ hr => (de_call (ok_flag_weights T) (hr.mono (by decide)) (by rfl) T.m_flag_weights T.F_flag_weights.kp (b_flag_weights T) .nil (fun _ _ => .nil) rfl (da_cons (de_var 4) (da_cons (de_var 13) (da_cons (de_var 16) (da_cons de_non da_nil))))))))
  (dss_cons (ds_append 14 rfl (by first | exact .inl rfl | exact .inr (.inl rfl)) (de_heard (k := 7) T.F__law_heard sc__law_heard (b__law_heard T) (hB__law_heard) (hC__law_heard T) (hex__law_heard T) (hsz__law_heard _) (.inl rfl) rfl rfl T.n_repr (htp__law_heard T) (fun _ _ _ _ _ => rfl) (by rfl) T.m__law_heard TB rfl hmT hu (hr.mono (by decide)) (LamX.lamS_by (by first | rfl | decide +kernel)) rfl (fun _ _ _ _ _ => rfl) (fun _ _ _ _ _ _ _ hr => (de_call (ok_flag_weights T) (hr.mono (by decide)) (by rfl) T.m_flag_weights T.F_flag_weights.kp (b_flag_weights T) .nil (fun _ _ => .nil) rfl (da_cons (de_var 4) (da_cons (de_var 13) (da_cons (de_var 13) (da_cons (de_var 16) da_nil))))))))
  (dss_one (ds_ret (de_cmp (op_eqD hr.units) real_eq (de_var 14) (de_op op_mulX real_mulX (de_new (df_lst (da_cons (de_tup (da_cons de_str (da_cons (de_callB (call_repr rfl (room65 hr)) real_repr (by rfl) T.n_repr (by decide +kernel) (da_cons (de_var 16) da_nil)) da_nil))) da_nil))) de_int) (nomk _)))))))))))))))))
  obtain ⟨t, p, r⟩ := lawRest main
  refine ⟨_, pss_cons (ps_set (i := 1) sc_law.nd rfl (by first | exact .inl rfl | exact .inr rfl) (pe_call (ok__law_pen T) (hr.mono (by decide)) (by rfl) T.m__law_pen T.F__law_pen.kp (b__law_pen T) .nil pass0 (pa_cons (pv 0) pa_nil))) p, ?_⟩
  refine ⟨.ref a, rfl, a, ns, rfl, hS, hl, fun H' b c f ex n1 n2 ne ea ec f0 f1 => ?_⟩
  exact @r (fun v _ => v = .bl true) b c a ns f H' _ _ 20 (by decide) rfl ne ea ec f0 f1 (math b) (fun _ => rfl) (fun z hz => by rw [ht] at hz; rw [List.mem_singleton.mp hz]; exact LamX.TabS.nil (ex _ _ hT))

end
theorem run_mk {l : PySem.W.OpenLaw} {w : World} {K : PySem.W.Frag} {h : Heap} {mg : Str → Option Value} {fa : Addr} (math : ∀ c : CA, CAok c → ∀ a : Addr, w_law c { nx := fun _ _ => False, rt := fun d _ => d = .bl true } (lawE 20 a) (0, ⟨some a, fun _ _ => False, c.tabs⟩)) (X : K.In h) (G : h.Ns mainGlobals mg) (hfa : mg "law" = some (.ref fa))
    {cl Pt : Addr}
    {f1 : Addr}
    {cd1 : Value}
    {oc1 kV1 dc1 pm1 ct1 : Value} {od1 an1 : Option Addr} {sl1 : Array (Option Value)}
    (a1 : PySem.W.nsIn K mainGlobals "is_integer" = some (some (.ref f1)))
    (l1 : K.lookup f1 = some ⟨oc1, od1, .func (PySem.W.fnOf "is_integer" "is_integer" (defArgs s_is_integer) (defBody s_is_integer) (defScope s_is_integer) .none kV1 dc1 pm1 an1 cd1 ct1), sl1⟩)
    (c1 : PySem.W.codeIn K cd1 "is_integer" = true)
    (k1 : PySem.W.keepIn K (.ref f1) = true)
    {f2 : Addr}
    {cd2 : Value}
    {oc2 kV2 dc2 pm2 ct2 : Value} {od2 an2 : Option Addr} {sl2 : Array (Option Value)} {t2 : Addr} {to2 : Obj} {tm2 : Nat}
    (a2 : PySem.W.nsIn K mainGlobals "is_count" = some (some (.ref f2)))
    (l2 : K.lookup f2 = some ⟨oc2, od2, .func (PySem.W.fnOf "is_count" "is_count" (defArgs s_is_count) (defBody s_is_count) (defScope s_is_count) (.ref t2) kV2 dc2 pm2 an2 cd2 ct2), sl2⟩)
    (c2 : PySem.W.codeIn K cd2 "is_count" = true)
    (k2 : PySem.W.keepIn K (.ref f2) = true)
    (lt2 : K.lookup t2 = some to2)
    (ld2 : to2.data = .seq #[.none] tm2)
    {f3 : Addr}
    {cd3 : Value}
    {oc3 kV3 dc3 pm3 ct3 : Value} {od3 an3 : Option Addr} {sl3 : Array (Option Value)}
    (a3 : PySem.W.nsIn K mainGlobals "is_row" = some (some (.ref f3)))
    (l3 : K.lookup f3 = some ⟨oc3, od3, .func (PySem.W.fnOf "is_row" "is_row" (defArgs s_is_row) (defBody s_is_row) (defScope s_is_row) .none kV3 dc3 pm3 an3 cd3 ct3), sl3⟩)
    (c3 : PySem.W.codeIn K cd3 "is_row" = true)
    (k3 : PySem.W.keepIn K (.ref f3) = true)
    {f4 : Addr}
    {cd4 : Value}
    {oc4 kV4 dc4 pm4 ct4 : Value} {od4 an4 : Option Addr} {sl4 : Array (Option Value)}
    (a4 : PySem.W.nsIn K mainGlobals "is_arrow" = some (some (.ref f4)))
    (l4 : K.lookup f4 = some ⟨oc4, od4, .func (PySem.W.fnOf "is_arrow" "is_arrow" (defArgs s_is_arrow) (defBody s_is_arrow) (defScope s_is_arrow) .none kV4 dc4 pm4 an4 cd4 ct4), sl4⟩)
    (c4 : PySem.W.codeIn K cd4 "is_arrow" = true)
    (k4 : PySem.W.keepIn K (.ref f4) = true)
    {f5 : Addr}
    {cd5 : Value}
    {oc5 kV5 dc5 pm5 ct5 : Value} {od5 an5 : Option Addr} {sl5 : Array (Option Value)}
    (a5 : PySem.W.nsIn K mainGlobals "first_order" = some (some (.ref f5)))
    (l5 : K.lookup f5 = some ⟨oc5, od5, .func (PySem.W.fnOf "first_order" "first_order" (defArgs s_first_order) (defBody s_first_order) (defScope s_first_order) .none kV5 dc5 pm5 an5 cd5 ct5), sl5⟩)
    (c5 : PySem.W.codeIn K cd5 "first_order" = true)
    (k5 : PySem.W.keepIn K (.ref f5) = true)
    {f6 : Addr}
    {cd6 : Value}
    {oc6 kV6 dc6 pm6 ct6 : Value} {od6 an6 : Option Addr} {sl6 : Array (Option Value)}
    (a6 : PySem.W.nsIn K mainGlobals "hall_fault" = some (some (.ref f6)))
    (l6 : K.lookup f6 = some ⟨oc6, od6, .func (PySem.W.fnOf "hall_fault" "hall_fault" (defArgs s_hall_fault) (defBody s_hall_fault) (defScope s_hall_fault) .none kV6 dc6 pm6 an6 cd6 ct6), sl6⟩)
    (c6 : PySem.W.codeIn K cd6 "hall_fault" = true)
    (k6 : PySem.W.keepIn K (.ref f6) = true)
    {f7 : Addr}
    {cd7 : Value}
    {oc7 kV7 dc7 pm7 ct7 : Value} {od7 an7 : Option Addr} {sl7 : Array (Option Value)}
    (a7 : PySem.W.nsIn K mainGlobals "need_r" = some (some (.ref f7)))
    (l7 : K.lookup f7 = some ⟨oc7, od7, .func (PySem.W.fnOf "need_r" "need_r" (defArgs s_need_r) (defBody s_need_r) (defScope s_need_r) .none kV7 dc7 pm7 an7 cd7 ct7), sl7⟩)
    (c7 : PySem.W.codeIn K cd7 "need_r" = true)
    (k7 : PySem.W.keepIn K (.ref f7) = true)
    {f8 : Addr}
    {cd8 : Value}
    {oc8 kV8 dc8 pm8 ct8 : Value} {od8 an8 : Option Addr} {sl8 : Array (Option Value)}
    (a8 : PySem.W.nsIn K mainGlobals "arm_points" = some (some (.ref f8)))
    (l8 : K.lookup f8 = some ⟨oc8, od8, .func (PySem.W.fnOf "arm_points" "arm_points" (defArgs s_arm_points) (defBody s_arm_points) (defScope s_arm_points) .none kV8 dc8 pm8 an8 cd8 ct8), sl8⟩)
    (c8 : PySem.W.codeIn K cd8 "arm_points" = true)
    (k8 : PySem.W.keepIn K (.ref f8) = true)
    {f9 : Addr}
    {cd9 : Value}
    {oc9 kV9 dc9 pm9 ct9 : Value} {od9 an9 : Option Addr} {sl9 : Array (Option Value)}
    (a9 : PySem.W.nsIn K mainGlobals "hall_of_flags" = some (some (.ref f9)))
    (l9 : K.lookup f9 = some ⟨oc9, od9, .func (PySem.W.fnOf "hall_of_flags" "hall_of_flags" (defArgs s_hall_of_flags) (defBody s_hall_of_flags) (defScope s_hall_of_flags) .none kV9 dc9 pm9 an9 cd9 ct9), sl9⟩)
    (c9 : PySem.W.codeIn K cd9 "hall_of_flags" = true)
    (k9 : PySem.W.keepIn K (.ref f9) = true)
    {f10 : Addr}
    {cd10 : Value}
    {oc10 kV10 dc10 pm10 ct10 : Value} {od10 an10 : Option Addr} {sl10 : Array (Option Value)}
    (a10 : PySem.W.nsIn K mainGlobals "flag_hall" = some (some (.ref f10)))
    (l10 : K.lookup f10 = some ⟨oc10, od10, .func (PySem.W.fnOf "flag_hall" "flag_hall" (defArgs s_flag_hall) (defBody s_flag_hall) (defScope s_flag_hall) .none kV10 dc10 pm10 an10 cd10 ct10), sl10⟩)
    (c10 : PySem.W.codeIn K cd10 "flag_hall" = true)
    (k10 : PySem.W.keepIn K (.ref f10) = true)
    {f11 : Addr}
    {cd11 : Value}
    {oc11 kV11 dc11 pm11 ct11 : Value} {od11 an11 : Option Addr} {sl11 : Array (Option Value)}
    (a11 : PySem.W.nsIn K mainGlobals "flag_sizes" = some (some (.ref f11)))
    (l11 : K.lookup f11 = some ⟨oc11, od11, .func (PySem.W.fnOf "flag_sizes" "flag_sizes" (defArgs s_flag_sizes) (defBody s_flag_sizes) (defScope s_flag_sizes) .none kV11 dc11 pm11 an11 cd11 ct11), sl11⟩)
    (c11 : PySem.W.codeIn K cd11 "flag_sizes" = true)
    (k11 : PySem.W.keepIn K (.ref f11) = true)
    {f12 : Addr}
    {cd12 : Value}
    {oc12 kV12 dc12 pm12 ct12 : Value} {od12 an12 : Option Addr} {sl12 : Array (Option Value)}
    (a12 : PySem.W.nsIn K mainGlobals "is_falling" = some (some (.ref f12)))
    (l12 : K.lookup f12 = some ⟨oc12, od12, .func (PySem.W.fnOf "is_falling" "is_falling" (defArgs s_is_falling) (defBody s_is_falling) (defScope s_is_falling) .none kV12 dc12 pm12 an12 cd12 ct12), sl12⟩)
    (c12 : PySem.W.codeIn K cd12 "is_falling" = true)
    (k12 : PySem.W.keepIn K (.ref f12) = true)
    {f13 : Addr}
    {cd13 : Value}
    {oc13 kV13 dc13 pm13 ct13 : Value} {od13 an13 : Option Addr} {sl13 : Array (Option Value)}
    (a13 : PySem.W.nsIn K mainGlobals "need_triple" = some (some (.ref f13)))
    (l13 : K.lookup f13 = some ⟨oc13, od13, .func (PySem.W.fnOf "need_triple" "need_triple" (defArgs s_need_triple) (defBody s_need_triple) (defScope s_need_triple) .none kV13 dc13 pm13 an13 cd13 ct13), sl13⟩)
    (c13 : PySem.W.codeIn K cd13 "need_triple" = true)
    (k13 : PySem.W.keepIn K (.ref f13) = true)
    {f14 : Addr}
    {cd14 : Value}
    {oc14 kV14 dc14 pm14 ct14 : Value} {od14 an14 : Option Addr} {sl14 : Array (Option Value)}
    (a14 : PySem.W.nsIn K mainGlobals "weights_of_triple" = some (some (.ref f14)))
    (l14 : K.lookup f14 = some ⟨oc14, od14, .func (PySem.W.fnOf "weights_of_triple" "weights_of_triple" (defArgs s_weights_of_triple) (defBody s_weights_of_triple) (defScope s_weights_of_triple) .none kV14 dc14 pm14 an14 cd14 ct14), sl14⟩)
    (c14 : PySem.W.codeIn K cd14 "weights_of_triple" = true)
    (k14 : PySem.W.keepIn K (.ref f14) = true)
    {f15 : Addr}
    {cd15 : Value}
    {oc15 kV15 dc15 pm15 ct15 : Value} {od15 an15 : Option Addr} {sl15 : Array (Option Value)}
    (a15 : PySem.W.nsIn K mainGlobals "flag_weights" = some (some (.ref f15)))
    (l15 : K.lookup f15 = some ⟨oc15, od15, .func (PySem.W.fnOf "flag_weights" "flag_weights" (defArgs s_flag_weights) (defBody s_flag_weights) (defScope s_flag_weights) .none kV15 dc15 pm15 an15 cd15 ct15), sl15⟩)
    (c15 : PySem.W.codeIn K cd15 "flag_weights" = true)
    (k15 : PySem.W.keepIn K (.ref f15) = true)
    {f16 : Addr}
    {cd16 : Value}
    {oc16 kV16 dc16 pm16 ct16 : Value} {od16 an16 : Option Addr} {sl16 : Array (Option Value)}
    (a16 : PySem.W.nsIn K mainGlobals "_law_pen" = some (some (.ref f16)))
    (l16 : K.lookup f16 = some ⟨oc16, od16, .func (PySem.W.fnOf "_law_pen" "_law_pen" (defArgs s__law_pen) (defBody s__law_pen) (defScope s__law_pen) .none kV16 dc16 pm16 an16 cd16 ct16), sl16⟩)
    (c16 : PySem.W.codeIn K cd16 "_law_pen" = true)
    (k16 : PySem.W.keepIn K (.ref f16) = true)
    {f17 : Addr}
    {cd17 : Value}
    {oc17 kV17 dc17 pm17 ct17 : Value} {od17 an17 : Option Addr} {sl17 : Array (Option Value)}
    (a17 : PySem.W.nsIn K mainGlobals "_law_draw" = some (some (.ref f17)))
    (l17 : K.lookup f17 = some ⟨oc17, od17, .func (PySem.W.fnOf "_law_draw" "_law_draw" (defArgs s__law_draw) (defBody s__law_draw) (defScope s__law_draw) .none kV17 dc17 pm17 an17 cd17 ct17), sl17⟩)
    (c17 : PySem.W.codeIn K cd17 "_law_draw" = true)
    (k17 : PySem.W.keepIn K (.ref f17) = true)
    {f18 : Addr}
    {cd18 : Value}
    {oc18 kV18 dc18 pm18 ct18 : Value} {od18 an18 : Option Addr} {sl18 : Array (Option Value)}
    (a18 : PySem.W.nsIn K mainGlobals "_law_pick" = some (some (.ref f18)))
    (l18 : K.lookup f18 = some ⟨oc18, od18, .func (PySem.W.fnOf "_law_pick" "_law_pick" (defArgs s__law_pick) (defBody s__law_pick) (defScope s__law_pick) .none kV18 dc18 pm18 an18 cd18 ct18), sl18⟩)
    (c18 : PySem.W.codeIn K cd18 "_law_pick" = true)
    (k18 : PySem.W.keepIn K (.ref f18) = true)
    {f19 : Addr}
    {cd19 : Value}
    {oc19 kV19 dc19 pm19 ct19 : Value} {od19 an19 : Option Addr} {sl19 : Array (Option Value)}
    (a19 : PySem.W.nsIn K mainGlobals "_law_is_int" = some (some (.ref f19)))
    (l19 : K.lookup f19 = some ⟨oc19, od19, .func (PySem.W.fnOf "_law_is_int" "_law_is_int" (defArgs s__law_is_int) (defBody s__law_is_int) (defScope s__law_is_int) .none kV19 dc19 pm19 an19 cd19 ct19), sl19⟩)
    (c19 : PySem.W.codeIn K cd19 "_law_is_int" = true)
    (k19 : PySem.W.keepIn K (.ref f19) = true)
    {f20 : Addr}
    {cd20 : Value}
    {oc20 kV20 dc20 pm20 ct20 : Value} {od20 an20 : Option Addr} {sl20 : Array (Option Value)}
    (a20 : PySem.W.nsIn K mainGlobals "_law_is_ints" = some (some (.ref f20)))
    (l20 : K.lookup f20 = some ⟨oc20, od20, .func (PySem.W.fnOf "_law_is_ints" "_law_is_ints" (defArgs s__law_is_ints) (defBody s__law_is_ints) (defScope s__law_is_ints) .none kV20 dc20 pm20 an20 cd20 ct20), sl20⟩)
    (c20 : PySem.W.codeIn K cd20 "_law_is_ints" = true)
    (k20 : PySem.W.keepIn K (.ref f20) = true)
    {f21 : Addr}
    {cd21 : Value}
    {oc21 kV21 dc21 pm21 ct21 : Value} {od21 an21 : Option Addr} {sl21 : Array (Option Value)}
    (a21 : PySem.W.nsIn K mainGlobals "_law_weight" = some (some (.ref f21)))
    (l21 : K.lookup f21 = some ⟨oc21, od21, .func (PySem.W.fnOf "_law_weight" "_law_weight" (defArgs s__law_weight) (defBody s__law_weight) (defScope s__law_weight) .none kV21 dc21 pm21 an21 cd21 ct21), sl21⟩)
    (c21 : PySem.W.codeIn K cd21 "_law_weight" = true)
    (k21 : PySem.W.keepIn K (.ref f21) = true)
    {f22 : Addr}
    {cd22 : Value}
    {oc22 kV22 dc22 pm22 ct22 : Value} {od22 an22 : Option Addr} {sl22 : Array (Option Value)}
    (a22 : PySem.W.nsIn K mainGlobals "_law_listed_row" = some (some (.ref f22)))
    (l22 : K.lookup f22 = some ⟨oc22, od22, .func (PySem.W.fnOf "_law_listed_row" "_law_listed_row" (defArgs s__law_listed_row) (defBody s__law_listed_row) (defScope s__law_listed_row) .none kV22 dc22 pm22 an22 cd22 ct22), sl22⟩)
    (c22 : PySem.W.codeIn K cd22 "_law_listed_row" = true)
    (k22 : PySem.W.keepIn K (.ref f22) = true)
    {f23 : Addr}
    {cd23 : Value}
    {oc23 kV23 dc23 pm23 ct23 : Value} {od23 an23 : Option Addr} {sl23 : Array (Option Value)}
    (a23 : PySem.W.nsIn K mainGlobals "_law_own_weights" = some (some (.ref f23)))
    (l23 : K.lookup f23 = some ⟨oc23, od23, .func (PySem.W.fnOf "_law_own_weights" "_law_own_weights" (defArgs s__law_own_weights) (defBody s__law_own_weights) (defScope s__law_own_weights) .none kV23 dc23 pm23 an23 cd23 ct23), sl23⟩)
    (c23 : PySem.W.codeIn K cd23 "_law_own_weights" = true)
    (k23 : PySem.W.keepIn K (.ref f23) = true)
    {f24 : Addr}
    {cd24 : Value}
    {oc24 kV24 dc24 pm24 ct24 : Value} {od24 an24 : Option Addr} {sl24 : Array (Option Value)}
    (a24 : PySem.W.nsIn K mainGlobals "_law_some_falling" = some (some (.ref f24)))
    (l24 : K.lookup f24 = some ⟨oc24, od24, .func (PySem.W.fnOf "_law_some_falling" "_law_some_falling" (defArgs s__law_some_falling) (defBody s__law_some_falling) (defScope s__law_some_falling) .none kV24 dc24 pm24 an24 cd24 ct24), sl24⟩)
    (c24 : PySem.W.codeIn K cd24 "_law_some_falling" = true)
    (k24 : PySem.W.keepIn K (.ref f24) = true)
    {f25 : Addr}
    {cd25 : Value}
    {oc25 kV25 dc25 pm25 ct25 : Value} {od25 an25 : Option Addr} {sl25 : Array (Option Value)}
    (a25 : PySem.W.nsIn K mainGlobals "_law_heard" = some (some (.ref f25)))
    (l25 : K.lookup f25 = some ⟨oc25, od25, .func (PySem.W.fnOf "_law_heard" "_law_heard" (defArgs s__law_heard) (defBody s__law_heard) (defScope s__law_heard) .none kV25 dc25 pm25 an25 cd25 ct25), sl25⟩)
    (c25 : PySem.W.codeIn K cd25 "_law_heard" = true)
    (k25 : PySem.W.keepIn K (.ref f25) = true)
    {f26 : Addr}
    {oc26 kV26 dc26 pm26 ct26 : Value} {od26 an26 : Option Addr} {sl26 : Array (Option Value)}
    (a26 : PySem.W.nsIn K mainGlobals "law" = some (some (.ref f26)))
    (l26 : K.lookup f26 = some ⟨oc26, od26, .func (PySem.W.fnOf "law" "law" (defArgs s_law) (defBody s_law) (defScope s_law) .none kV26 dc26 pm26 an26 (.ref cl) ct26), sl26⟩)
    (c26 : PySem.W.codeIn K (.ref cl) "law" = true)
    (k26 : PySem.W.keepIn K (.ref f26) = true)
    (z_all : PySem.W.nsIn K mainGlobals "all" = some none)
    (z_any : PySem.W.nsIn K mainGlobals "any" = some none)
    (z_bool : PySem.W.nsIn K mainGlobals "bool" = some none)
    (z_int : PySem.W.nsIn K mainGlobals "int" = some none)
    (z_isinstance : PySem.W.nsIn K mainGlobals "isinstance" = some none)
    (z_len : PySem.W.nsIn K mainGlobals "len" = some none)
    (z_list : PySem.W.nsIn K mainGlobals "list" = some none)
    (z_range : PySem.W.nsIn K mainGlobals "range" = some none)
    (z_repr : PySem.W.nsIn K mainGlobals "repr" = some none)
    (z_sorted : PySem.W.nsIn K mainGlobals "sorted" = some none)
    (z_sum : PySem.W.nsIn K mainGlobals "sum" = some none)
    (z_super : PySem.W.nsIn K mainGlobals "super" = some none)
    (z_tuple : PySem.W.nsIn K mainGlobals "tuple" = some none)
    (z_zip : PySem.W.nsIn K mainGlobals "zip" = some none)
    {t_MOST_ARROWS : Tok}
    (y_MOST_ARROWS : PySem.W.nsIn K mainGlobals "MOST_ARROWS" = some (some (.int 12 t_MOST_ARROWS)))
    {t_MOST_POINTS : Tok}
    (y_MOST_POINTS : PySem.W.nsIn K mainGlobals "MOST_POINTS" = some (some (.int 7 t_MOST_POINTS)))
    (on : PySem.W.specialIn K (.builtin "object.__class__") "__get__" = some (some (.builtin "getset_descriptor.__get__")))
    (ot : PySem.W.takesIn K (.builtin "object.__class__") = some true)
    {C_Hall fi_Hall : Addr}
    {oi_Hall ki_Hall ui_Hall pi_Hall cdi_Hall cti_Hall : Value} {odi_Hall ani_Hall : Option Addr} {sli_Hall : Array (Option Value)}
    (aC_Hall : PySem.W.nsIn K mainGlobals "Hall" = some (some (.ref C_Hall)))
    (ii_Hall : PySem.W.findIn K (.ref C_Hall) "__init__" = some (some (.ref fi_Hall)))
    (li_Hall : K.lookup fi_Hall = some ⟨oi_Hall, odi_Hall, .func (PySem.W.fnOf "__init__" "Hall.__init__" (defArgs si_Hall) (defBody si_Hall) (defScope si_Hall) .none ki_Hall ui_Hall pi_Hall ani_Hall cdi_Hall cti_Hall), sli_Hall⟩)
    (ci_Hall : PySem.W.codeIn K cdi_Hall "Hall.__init__" = true)
    (kf_Hall : PySem.W.keepIn K (.ref fi_Hall) = true)
    (mk_Hall : PySem.W.makesIn K C_Hall = true)
    (fn_Hall : PySem.W.isFn K (.ref fi_Hall) = true)
    (kC_Hall : PySem.W.keepIn K (.ref C_Hall) = true)
    (pg_Hall : PySem.W.plainGet K C_Hall Str.empty = true)
    (hd_Hall : PySem.W.hasDictIn K C_Hall = true)
    (po_Hall : PySem.W.plainOver K C_Hall = true)
    (sa_Hall : PySem.W.findIn K (.ref C_Hall) "__setattr__" = some (some (.builtin "object.__setattr__")))
    (ga_Hall : PySem.W.findIn K (.ref C_Hall) "__class__" = some (some (.builtin "object.__class__")))
    (ob_Hall : PySem.W.mroIn K C_Hall (.type "object") = some true)
    (ic_Hall : PySem.W.isClsIn K C_Hall = true)
    (ty_Hall : PySem.W.typeIn K (.ref C_Hall) = some (.type "type"))
    (b0_Hall : PySem.W.subIn K (.type "NoneType") (.ref C_Hall) = some false)
    (b1_Hall : PySem.W.subIn K (.type "bool") (.ref C_Hall) = some false)
    (b2_Hall : PySem.W.subIn K (.type "int") (.ref C_Hall) = some false)
    (b3_Hall : PySem.W.subIn K (.type "str") (.ref C_Hall) = some false)
    (b4_Hall : PySem.W.subIn K (.type "list") (.ref C_Hall) = some false)
    (b5_Hall : PySem.W.subIn K (.type "tuple") (.ref C_Hall) = some false)
    (b6_Hall : PySem.W.subIn K (.type "dict") (.ref C_Hall) = some false)
    (nf_Hall_many : PySem.W.findIn K (.ref C_Hall) "many" = some none)
    (nf_Hall_arrows : PySem.W.findIn K (.ref C_Hall) "arrows" = some none)
    {fq_Hall : Addr}
    {oq_Hall kq_Hall uq_Hall pq_Hall cdq_Hall ctq_Hall : Value} {odq_Hall anq_Hall : Option Addr} {slq_Hall : Array (Option Value)}
    (iq_Hall : PySem.W.findIn K (.ref C_Hall) "__eq__" = some (some (.ref fq_Hall)))
    (lq_Hall : K.lookup fq_Hall = some ⟨oq_Hall, odq_Hall, .func (PySem.W.fnOf "__eq__" "Hall.__eq__" (defArgs sq_Hall) (defBody sq_Hall) (defScope sq_Hall) .none kq_Hall uq_Hall pq_Hall anq_Hall cdq_Hall ctq_Hall), slq_Hall⟩)
    (cq_Hall : PySem.W.codeIn K cdq_Hall "Hall.__eq__" = true)
    (kfq_Hall : PySem.W.keepIn K (.ref fq_Hall) = true)
    (fnq_Hall : PySem.W.isFn K (.ref fq_Hall) = true)
    (nnq_Hall : PySem.W.findIn K (.ref C_Hall) "__ne__" = some (some (.builtin "object.__ne__")))
    (sbq_Hall_Hall : PySem.W.subIn K (.ref C_Hall) (.ref C_Hall) = some true)
    {S_B N_B : Addr}
    {nm_B q_B : Str} {bs_B sub_B : List Value} {sn_B : List Str} {ab_B : Bool} {col_B : Option Bool} {dd_B : Option Addr} {j0 j1 j2 j3 j5 : Option Value}
    (aS : PySem.W.nsIn K mainGlobals "SizeError" = some (some (.ref S_B)))
    (xS : K.lookup S_B = some (excClassObj nm_B q_B S_B N_B bs_B [.type "ValueError", .type "Exception", .type "BaseException", .type "object"] true sn_B sub_B ab_B col_B dd_B j0 j1 j2 j3 j5 "ValueError.__new__"))
    (iS : PySem.W.findIn K (.ref S_B) "__init__" = some (some (.builtin "ValueError.__init__")))
    (opq : PySem.W.nsIn K cStatics "thirdparty.any" = some none)
    {C_BadNumber N_BadNumber fe_BadNumber cda_BadNumber cc_BadNumber : Addr}
    {nm_BadNumber q_BadNumber : Str} {bs_BadNumber sub_BadNumber : List Value} {sn_BadNumber : List Str} {ab_BadNumber : Bool} {col_BadNumber : Option Bool} {dd_BadNumber : Option Addr} {k0_BadNumber k1_BadNumber k2_BadNumber k3_BadNumber k5_BadNumber : Option Value}
    {oe_BadNumber ke_BadNumber ue_BadNumber pe_BadNumber cte_BadNumber ccl_BadNumber cxl_BadNumber : Value} {ode_BadNumber ane_BadNumber cdd_BadNumber cxd_BadNumber : Option Addr} {sle_BadNumber ccs_BadNumber cxs_BadNumber : Array (Option Value)} {cvs_BadNumber : Array Value}
    (aC_BadNumber : PySem.W.nsIn K mainGlobals "BadNumber" = some (some (.ref C_BadNumber)))
    (xC_BadNumber : K.lookup C_BadNumber = some (excClassObj nm_BadNumber q_BadNumber C_BadNumber N_BadNumber bs_BadNumber [.ref S_B, .type "ValueError", .type "Exception", .type "BaseException", .type "object"] true sn_BadNumber sub_BadNumber ab_BadNumber col_BadNumber dd_BadNumber k0_BadNumber k1_BadNumber k2_BadNumber k3_BadNumber k5_BadNumber "ValueError.__new__"))
    (sa_BadNumber : PySem.W.findIn K (.ref C_BadNumber) "__setattr__" = some (some (.builtin "object.__setattr__")))
    (ga_BadNumber : PySem.W.findIn K (.ref C_BadNumber) "__getattribute__" = some (some (.builtin "BaseException.__getattribute__")))
    (gg_BadNumber : PySem.W.findIn K (.ref C_BadNumber) "__getattr__" = some none)
    (eC_BadNumber : PySem.W.subIn K (.ref C_BadNumber) (.type "BaseException") = some true)
    (vC_BadNumber : PySem.W.subIn K (.ref C_BadNumber) (.type "ValueError") = some true)
    (tC_BadNumber : PySem.W.typeIn K (.ref C_BadNumber) = some (.type "type"))
    (kC_BadNumber : PySem.W.keepIn K (.ref C_BadNumber) = true)
    (hC_BadNumber : PySem.W.hasDictIn K C_BadNumber = true)
    (ic_BadNumber : PySem.W.isClsIn K C_BadNumber = true)
    (mC_BadNumber : PySem.W.mroIn K C_BadNumber (.ref C_BadNumber) = some true)
    (ie_BadNumber : PySem.W.findIn K (.ref C_BadNumber) "__init__" = some (some (.ref fe_BadNumber)))
    (te_BadNumber : PySem.W.typeIn K (.ref fe_BadNumber) = some (.type "function"))
    (le_BadNumber : K.lookup fe_BadNumber = some ⟨oe_BadNumber, ode_BadNumber, .func (PySem.W.ksFn "__init__" "BadNumber.__init__" (defArgs se_BadNumber) (defBody se_BadNumber) (defScope se_BadNumber) .none ke_BadNumber ue_BadNumber pe_BadNumber ane_BadNumber (.ref cda_BadNumber) cte_BadNumber cc_BadNumber), sle_BadNumber⟩)
    (ce_BadNumber : PySem.W.codeIn K (.ref cda_BadNumber) "BadNumber.__init__" = true)
    (lc_BadNumber : K.lookup cda_BadNumber = some ⟨ccl_BadNumber, cdd_BadNumber, .fields cvs_BadNumber, ccs_BadNumber⟩)
    {file_BadNumber : Str}
    {tf_BadNumber : Tok}
    (fl_BadNumber : cvs_BadNumber[2]? = some (.str file_BadNumber tf_BadNumber))
    (fz_BadNumber : ((l.prog.main.file : Str) == file_BadNumber) = true)
    (lx_BadNumber : K.lookup cc_BadNumber = some ⟨cxl_BadNumber, cxd_BadNumber, .cell (some (.ref C_BadNumber)), cxs_BadNumber⟩)
    (nf_BadNumber_what : PySem.W.findIn K (.ref C_BadNumber) "what" = some none)
    (nf_BadNumber_value : PySem.W.findIn K (.ref C_BadNumber) "value" = some none)
    {C_BadRow N_BadRow fe_BadRow cda_BadRow cc_BadRow : Addr}
    {nm_BadRow q_BadRow : Str} {bs_BadRow sub_BadRow : List Value} {sn_BadRow : List Str} {ab_BadRow : Bool} {col_BadRow : Option Bool} {dd_BadRow : Option Addr} {k0_BadRow k1_BadRow k2_BadRow k3_BadRow k5_BadRow : Option Value}
    {oe_BadRow ke_BadRow ue_BadRow pe_BadRow cte_BadRow ccl_BadRow cxl_BadRow : Value} {ode_BadRow ane_BadRow cdd_BadRow cxd_BadRow : Option Addr} {sle_BadRow ccs_BadRow cxs_BadRow : Array (Option Value)} {cvs_BadRow : Array Value}
    (aC_BadRow : PySem.W.nsIn K mainGlobals "BadRow" = some (some (.ref C_BadRow)))
    (xC_BadRow : K.lookup C_BadRow = some (excClassObj nm_BadRow q_BadRow C_BadRow N_BadRow bs_BadRow [.ref S_B, .type "ValueError", .type "Exception", .type "BaseException", .type "object"] true sn_BadRow sub_BadRow ab_BadRow col_BadRow dd_BadRow k0_BadRow k1_BadRow k2_BadRow k3_BadRow k5_BadRow "ValueError.__new__"))
    (sa_BadRow : PySem.W.findIn K (.ref C_BadRow) "__setattr__" = some (some (.builtin "object.__setattr__")))
    (ga_BadRow : PySem.W.findIn K (.ref C_BadRow) "__getattribute__" = some (some (.builtin "BaseException.__getattribute__")))
    (gg_BadRow : PySem.W.findIn K (.ref C_BadRow) "__getattr__" = some none)
    (eC_BadRow : PySem.W.subIn K (.ref C_BadRow) (.type "BaseException") = some true)
    (vC_BadRow : PySem.W.subIn K (.ref C_BadRow) (.type "ValueError") = some true)
    (tC_BadRow : PySem.W.typeIn K (.ref C_BadRow) = some (.type "type"))
    (kC_BadRow : PySem.W.keepIn K (.ref C_BadRow) = true)
    (hC_BadRow : PySem.W.hasDictIn K C_BadRow = true)
    (ic_BadRow : PySem.W.isClsIn K C_BadRow = true)
    (mC_BadRow : PySem.W.mroIn K C_BadRow (.ref C_BadRow) = some true)
    (ie_BadRow : PySem.W.findIn K (.ref C_BadRow) "__init__" = some (some (.ref fe_BadRow)))
    (te_BadRow : PySem.W.typeIn K (.ref fe_BadRow) = some (.type "function"))
    (le_BadRow : K.lookup fe_BadRow = some ⟨oe_BadRow, ode_BadRow, .func (PySem.W.ksFn "__init__" "BadRow.__init__" (defArgs se_BadRow) (defBody se_BadRow) (defScope se_BadRow) .none ke_BadRow ue_BadRow pe_BadRow ane_BadRow (.ref cda_BadRow) cte_BadRow cc_BadRow), sle_BadRow⟩)
    (ce_BadRow : PySem.W.codeIn K (.ref cda_BadRow) "BadRow.__init__" = true)
    (lc_BadRow : K.lookup cda_BadRow = some ⟨ccl_BadRow, cdd_BadRow, .fields cvs_BadRow, ccs_BadRow⟩)
    {file_BadRow : Str}
    {tf_BadRow : Tok}
    (fl_BadRow : cvs_BadRow[2]? = some (.str file_BadRow tf_BadRow))
    (fz_BadRow : ((l.prog.main.file : Str) == file_BadRow) = true)
    (lx_BadRow : K.lookup cc_BadRow = some ⟨cxl_BadRow, cxd_BadRow, .cell (some (.ref C_BadRow)), cxs_BadRow⟩)
    (nf_BadRow_value : PySem.W.findIn K (.ref C_BadRow) "value" = some none)
    {C_BadItem N_BadItem fe_BadItem cda_BadItem cc_BadItem : Addr}
    {nm_BadItem q_BadItem : Str} {bs_BadItem sub_BadItem : List Value} {sn_BadItem : List Str} {ab_BadItem : Bool} {col_BadItem : Option Bool} {dd_BadItem : Option Addr} {k0_BadItem k1_BadItem k2_BadItem k3_BadItem k5_BadItem : Option Value}
    {oe_BadItem ke_BadItem ue_BadItem pe_BadItem cte_BadItem ccl_BadItem cxl_BadItem : Value} {ode_BadItem ane_BadItem cdd_BadItem cxd_BadItem : Option Addr} {sle_BadItem ccs_BadItem cxs_BadItem : Array (Option Value)} {cvs_BadItem : Array Value}
    (aC_BadItem : PySem.W.nsIn K mainGlobals "BadItem" = some (some (.ref C_BadItem)))
    (xC_BadItem : K.lookup C_BadItem = some (excClassObj nm_BadItem q_BadItem C_BadItem N_BadItem bs_BadItem [.ref S_B, .type "ValueError", .type "Exception", .type "BaseException", .type "object"] true sn_BadItem sub_BadItem ab_BadItem col_BadItem dd_BadItem k0_BadItem k1_BadItem k2_BadItem k3_BadItem k5_BadItem "ValueError.__new__"))
    (sa_BadItem : PySem.W.findIn K (.ref C_BadItem) "__setattr__" = some (some (.builtin "object.__setattr__")))
    (ga_BadItem : PySem.W.findIn K (.ref C_BadItem) "__getattribute__" = some (some (.builtin "BaseException.__getattribute__")))
    (gg_BadItem : PySem.W.findIn K (.ref C_BadItem) "__getattr__" = some none)
    (eC_BadItem : PySem.W.subIn K (.ref C_BadItem) (.type "BaseException") = some true)
    (vC_BadItem : PySem.W.subIn K (.ref C_BadItem) (.type "ValueError") = some true)
    (tC_BadItem : PySem.W.typeIn K (.ref C_BadItem) = some (.type "type"))
    (kC_BadItem : PySem.W.keepIn K (.ref C_BadItem) = true)
    (hC_BadItem : PySem.W.hasDictIn K C_BadItem = true)
    (ic_BadItem : PySem.W.isClsIn K C_BadItem = true)
    (mC_BadItem : PySem.W.mroIn K C_BadItem (.ref C_BadItem) = some true)
    (ie_BadItem : PySem.W.findIn K (.ref C_BadItem) "__init__" = some (some (.ref fe_BadItem)))
    (te_BadItem : PySem.W.typeIn K (.ref fe_BadItem) = some (.type "function"))
    (le_BadItem : K.lookup fe_BadItem = some ⟨oe_BadItem, ode_BadItem, .func (PySem.W.ksFn "__init__" "BadItem.__init__" (defArgs se_BadItem) (defBody se_BadItem) (defScope se_BadItem) .none ke_BadItem ue_BadItem pe_BadItem ane_BadItem (.ref cda_BadItem) cte_BadItem cc_BadItem), sle_BadItem⟩)
    (ce_BadItem : PySem.W.codeIn K (.ref cda_BadItem) "BadItem.__init__" = true)
    (lc_BadItem : K.lookup cda_BadItem = some ⟨ccl_BadItem, cdd_BadItem, .fields cvs_BadItem, ccs_BadItem⟩)
    {file_BadItem : Str}
    {tf_BadItem : Tok}
    (fl_BadItem : cvs_BadItem[2]? = some (.str file_BadItem tf_BadItem))
    (fz_BadItem : ((l.prog.main.file : Str) == file_BadItem) = true)
    (lx_BadItem : K.lookup cc_BadItem = some ⟨cxl_BadItem, cxd_BadItem, .cell (some (.ref C_BadItem)), cxs_BadItem⟩)
    (nf_BadItem_value : PySem.W.findIn K (.ref C_BadItem) "value" = some none)
    {C_BadHall N_BadHall fe_BadHall cda_BadHall cc_BadHall : Addr}
    {nm_BadHall q_BadHall : Str} {bs_BadHall sub_BadHall : List Value} {sn_BadHall : List Str} {ab_BadHall : Bool} {col_BadHall : Option Bool} {dd_BadHall : Option Addr} {k0_BadHall k1_BadHall k2_BadHall k3_BadHall k5_BadHall : Option Value}
    {oe_BadHall ke_BadHall ue_BadHall pe_BadHall cte_BadHall ccl_BadHall cxl_BadHall : Value} {ode_BadHall ane_BadHall cdd_BadHall cxd_BadHall : Option Addr} {sle_BadHall ccs_BadHall cxs_BadHall : Array (Option Value)} {cvs_BadHall : Array Value}
    (aC_BadHall : PySem.W.nsIn K mainGlobals "BadHall" = some (some (.ref C_BadHall)))
    (xC_BadHall : K.lookup C_BadHall = some (excClassObj nm_BadHall q_BadHall C_BadHall N_BadHall bs_BadHall [.ref S_B, .type "ValueError", .type "Exception", .type "BaseException", .type "object"] true sn_BadHall sub_BadHall ab_BadHall col_BadHall dd_BadHall k0_BadHall k1_BadHall k2_BadHall k3_BadHall k5_BadHall "ValueError.__new__"))
    (sa_BadHall : PySem.W.findIn K (.ref C_BadHall) "__setattr__" = some (some (.builtin "object.__setattr__")))
    (ga_BadHall : PySem.W.findIn K (.ref C_BadHall) "__getattribute__" = some (some (.builtin "BaseException.__getattribute__")))
    (gg_BadHall : PySem.W.findIn K (.ref C_BadHall) "__getattr__" = some none)
    (eC_BadHall : PySem.W.subIn K (.ref C_BadHall) (.type "BaseException") = some true)
    (vC_BadHall : PySem.W.subIn K (.ref C_BadHall) (.type "ValueError") = some true)
    (tC_BadHall : PySem.W.typeIn K (.ref C_BadHall) = some (.type "type"))
    (kC_BadHall : PySem.W.keepIn K (.ref C_BadHall) = true)
    (hC_BadHall : PySem.W.hasDictIn K C_BadHall = true)
    (ic_BadHall : PySem.W.isClsIn K C_BadHall = true)
    (mC_BadHall : PySem.W.mroIn K C_BadHall (.ref C_BadHall) = some true)
    (ie_BadHall : PySem.W.findIn K (.ref C_BadHall) "__init__" = some (some (.ref fe_BadHall)))
    (te_BadHall : PySem.W.typeIn K (.ref fe_BadHall) = some (.type "function"))
    (le_BadHall : K.lookup fe_BadHall = some ⟨oe_BadHall, ode_BadHall, .func (PySem.W.ksFn "__init__" "BadHall.__init__" (defArgs se_BadHall) (defBody se_BadHall) (defScope se_BadHall) .none ke_BadHall ue_BadHall pe_BadHall ane_BadHall (.ref cda_BadHall) cte_BadHall cc_BadHall), sle_BadHall⟩)
    (ce_BadHall : PySem.W.codeIn K (.ref cda_BadHall) "BadHall.__init__" = true)
    (lc_BadHall : K.lookup cda_BadHall = some ⟨ccl_BadHall, cdd_BadHall, .fields cvs_BadHall, ccs_BadHall⟩)
    {file_BadHall : Str}
    {tf_BadHall : Tok}
    (fl_BadHall : cvs_BadHall[2]? = some (.str file_BadHall tf_BadHall))
    (fz_BadHall : ((l.prog.main.file : Str) == file_BadHall) = true)
    (lx_BadHall : K.lookup cc_BadHall = some ⟨cxl_BadHall, cxd_BadHall, .cell (some (.ref C_BadHall)), cxs_BadHall⟩)
    (nf_BadHall_why : PySem.W.findIn K (.ref C_BadHall) "why" = some none)
    (tp : (l.prog.main.scope.names.lookup ("super" : Str)).isSome = false)
    (gk_BadRow : PySem.W.findIn K (.ref C_BadRow) "__class__" = some (some (.builtin "object.__class__")))
    (go_BadRow : PySem.W.mroIn K C_BadRow (.type "object") = some true)
    (sgg_BadItem : PySem.W.subIn K (.ref C_BadItem) (.ref C_BadItem) = some true)
    (sg_BadRow_BadItem : PySem.W.subIn K (.ref C_BadRow) (.ref C_BadItem) = some false)
    (s_BadNumber_BadNumber : PySem.W.subIn K (.ref C_BadNumber) (.ref C_BadNumber) = some true)
    (s_BadNumber_BadRow : PySem.W.subIn K (.ref C_BadNumber) (.ref C_BadRow) = some false)
    (s_BadRow_BadNumber : PySem.W.subIn K (.ref C_BadRow) (.ref C_BadNumber) = some false)
    (s_BadRow_BadRow : PySem.W.subIn K (.ref C_BadRow) (.ref C_BadRow) = some true)
    {ocl : Option Addr} {lvs : Array Value} {lsl : Array (Option Value)} {lf : Str} {ltf lg ltt : Tok} {flg txt : Int} {inF : Bool}
    (lcl : K.lookup cl = some ⟨.type "code", ocl, .fields lvs, lsl⟩)
    (v11 : lvs[11]? = some (.ref Pt))
    (v18 : lvs.getD 18 .none = .str lf ltf)
    (v7 : lvs.getD 7 .none = .int flg lg)
    (v9 : lvs.getD 9 .none = .bool inF)
    (v10 : lvs.getD 10 .none = .int txt ltt)
    (ncp : cl ≠ Pt)
    (nT : K.lookup Pt = none)
    (tb : h.get? Pt = some { cls := .none, data := .fields #[] }) :
    ∃ c Pt : Addr, h.get? Pt = some { cls := .none, data := .fields #[] } ∧ K.lookup Pt = none ∧ PySem.W.CodeHd h c Pt ∧
      ∀ (base : Heap) (s : Shared) (H : Hp) (a : Addr) (ns : List Int), ns.length ≤ 63 → K.In base → base.Ns mainGlobals mg → LamX.TabB base mg c Pt → Env0 l.prog w K mg base callerA [] s H → H Pt = some (.tbl #[]) → SqL K H a (ns.map V.int) →
        codeAny (model l.prog w) callerA (.call (.ref fa) ⟨[.ref a], []⟩) (CR (L2.CX l.prog w) [] l.prog w H s (fun v _ => v = .bl true) (fun _ _ _ => False)) s := by
  have e : f26 = fa := by
    have e := hfa.symm.trans (PySem.W.mg_of X G a26)
    cases e
    rfl
  subst e
  refine ⟨cl, Pt, tb, nT, ⟨_, lvs, lf, ltf, flg, lg, inF, txt, ltt, X _ _ lcl, rfl, rfl, v11, by rw [Array.getD_eq_getD_getElem?, v11]; rfl, v18, v7, v9, v10, ncp⟩, fun base s H a ns hl hK hG TB e0 hT hS => ?_⟩
  let T : Txt l.prog K mg := { c := { tabs := [(Pt, (("law" : Str) ++ ".<locals>.") ++ "<lambda>")], C_Hall := C_Hall, C_BadNumber := C_BadNumber, C_BadRow := C_BadRow, C_BadItem := C_BadItem, C_BadHall := C_BadHall }, a_is_integer := f1, d_is_integer := _, F_is_integer := fun_mk (st := s_is_integer) l1 c1 k1, m_is_integer := PySem.W.mg_of X G a1, a_is_count := f2, d_is_count := _, F_is_count := ⟨⟨_, _, _, _, _, _, _, _, _, _, rfl, l2, c2, .inr ⟨by simp, t2, to2, _, _, rfl, lt2, ld2, .cons rfl .nil⟩, .inl rfl⟩, k2⟩, m_is_count := PySem.W.mg_of X G a2, a_is_row := f3, d_is_row := _, F_is_row := fun_mk (st := s_is_row) l3 c3 k3, m_is_row := PySem.W.mg_of X G a3, a_is_arrow := f4, d_is_arrow := _, F_is_arrow := fun_mk (st := s_is_arrow) l4 c4 k4, m_is_arrow := PySem.W.mg_of X G a4, a_first_order := f5, d_first_order := _, F_first_order := fun_mk (st := s_first_order) l5 c5 k5, m_first_order := PySem.W.mg_of X G a5, a_hall_fault := f6, d_hall_fault := _, F_hall_fault := fun_mk (st := s_hall_fault) l6 c6 k6, m_hall_fault := PySem.W.mg_of X G a6, a_need_r := f7, d_need_r := _, F_need_r := fun_mk (st := s_need_r) l7 c7 k7, m_need_r := PySem.W.mg_of X G a7, a_arm_points := f8, d_arm_points := _, F_arm_points := fun_mk (st := s_arm_points) l8 c8 k8, m_arm_points := PySem.W.mg_of X G a8, a_hall_of_flags := f9, d_hall_of_flags := _, F_hall_of_flags := fun_mk (st := s_hall_of_flags) l9 c9 k9, m_hall_of_flags := PySem.W.mg_of X G a9, a_flag_hall := f10, d_flag_hall := _, F_flag_hall := fun_mk (st := s_flag_hall) l10 c10 k10, m_flag_hall := PySem.W.mg_of X G a10, a_flag_sizes := f11, d_flag_sizes := _, F_flag_sizes := fun_mk (st := s_flag_sizes) l11 c11 k11, m_flag_sizes := PySem.W.mg_of X G a11, a_is_falling := f12, d_is_falling := _, F_is_falling := fun_mk (st := s_is_falling) l12 c12 k12, m_is_falling := PySem.W.mg_of X G a12, a_need_triple := f13, d_need_triple := _, F_need_triple := fun_mk (st := s_need_triple) l13 c13 k13, m_need_triple := PySem.W.mg_of X G a13, a_weights_of_triple := f14, d_weights_of_triple := _, F_weights_of_triple := fun_mk (st := s_weights_of_triple) l14 c14 k14, m_weights_of_triple := PySem.W.mg_of X G a14, a_flag_weights := f15, d_flag_weights := _, F_flag_weights := fun_mk (st := s_flag_weights) l15 c15 k15, m_flag_weights := PySem.W.mg_of X G a15, a__law_pen := f16, d__law_pen := _, F__law_pen := fun_mk (st := s__law_pen) l16 c16 k16, m__law_pen := PySem.W.mg_of X G a16, a__law_draw := f17, d__law_draw := _, F__law_draw := fun_mk (st := s__law_draw) l17 c17 k17, m__law_draw := PySem.W.mg_of X G a17, a__law_pick := f18, d__law_pick := _, F__law_pick := fun_mk (st := s__law_pick) l18 c18 k18, m__law_pick := PySem.W.mg_of X G a18, a__law_is_int := f19, d__law_is_int := _, F__law_is_int := fun_mk (st := s__law_is_int) l19 c19 k19, m__law_is_int := PySem.W.mg_of X G a19, a__law_is_ints := f20, d__law_is_ints := _, F__law_is_ints := fun_mk (st := s__law_is_ints) l20 c20 k20, m__law_is_ints := PySem.W.mg_of X G a20, a__law_weight := f21, d__law_weight := _, F__law_weight := fun_mk (st := s__law_weight) l21 c21 k21, m__law_weight := PySem.W.mg_of X G a21, a__law_listed_row := f22, d__law_listed_row := _, F__law_listed_row := fun_mk (st := s__law_listed_row) l22 c22 k22, m__law_listed_row := PySem.W.mg_of X G a22, a__law_own_weights := f23, d__law_own_weights := _, F__law_own_weights := fun_mk (st := s__law_own_weights) l23 c23 k23, m__law_own_weights := PySem.W.mg_of X G a23, a__law_some_falling := f24, d__law_some_falling := _, F__law_some_falling := fun_mk (st := s__law_some_falling) l24 c24 k24, m__law_some_falling := PySem.W.mg_of X G a24, a__law_heard := f25, d__law_heard := _, F__law_heard := fun_mk (st := s__law_heard) l25 c25 k25, m__law_heard := PySem.W.mg_of X G a25, a_law := f26, d_law := _, F_law := fun_mk (st := s_law) l26 c26 k26, m_law := PySem.W.mg_of X G a26, ai_Hall := fi_Hall, di_Hall := _, Fi_Hall := fun_mk (st := si_Hall) li_Hall ci_Hall kf_Hall, M_Hall := ⟨mk_Hall, ii_Hall, fn_Hall, kC_Hall⟩, mC_Hall := PySem.W.mg_of X G aC_Hall, cl_Hall := ⟨pg_Hall, hd_Hall, po_Hall, sa_Hall⟩, cf_Hall := clsF_mk ⟨pg_Hall, hd_Hall, po_Hall, sa_Hall⟩ ga_Hall on ot ob_Hall ic_Hall ty_Hall b0_Hall b1_Hall b2_Hall b3_Hall b4_Hall b5_Hall b6_Hall, nf_Hall_many := nf_Hall_many, nf_Hall_arrows := nf_Hall_arrows, aq_Hall := fq_Hall, dq_Hall := _, Fq_Hall := fun_mk (st := sq_Hall) lq_Hall cq_Hall kfq_Hall, fq_Hall := iq_Hall, nq_Hall := fnq_Hall, nn_Hall := nnq_Hall, ob_Hall := ob_Hall, ic_Hall := ic_Hall, ty_Hall := ty_Hall, sb_Hall_Hall := sbq_Hall_Hall, mC_BadNumber := PySem.W.mg_of X G aC_BadNumber, XF_BadNumber := ⟨ga_BadNumber, gg_BadNumber, eC_BadNumber, hC_BadNumber⟩, X_BadNumber := { fI := fe_BadNumber, cda := cda_BadNumber, cc := cc_BadNumber, oc := _, od := _, osl := _, qual := "BadNumber.__init__", params := defArgs se_BadNumber, body := defBody se_BadNumber, scope := defScope se_BadNumber, dV := .none, kV := _, doc := _, pm := _, an := _, ct := _, ccl := _, cdd := _, cvs := _, ccs := _, file := _, tf := _, cl := _, cld := _, csl := _, ox := oexC_mk (dd' := 0) xC_BadNumber sa_BadNumber eC_BadNumber tC_BadNumber kC_BadNumber, iC := ie_BadNumber, tI := te_BadNumber, lk := le_BadNumber, cd := ce_BadNumber, lc := lc_BadNumber, fl := fl_BadNumber, fe := fz_BadNumber, lx := lx_BadNumber, su := mC_BadNumber, ms := PySem.W.mg_none_of X G z_super, op := opq, ih := super_init xC_BadNumber xS iS, ve := vC_BadNumber, nf := (fun f hf => by simp only [List.mem_cons, List.mem_nil_iff, or_false] at hf; rcases hf with rfl | rfl <;> assumption), bd := bd_BadNumber, kd := rfl, co := rfl, gn := rfl, ce := (by decide +kernel), ks := rfl, kc := rfl, kl := (by decide +kernel), hp := ⟨_, rfl, rfl⟩, tp := tp, bi := (fun s us hl => match us, hl with | [_, _, _], _ => .of_eq rfl), nm := (fun us hl => match us, hl with | [_, _, _], _ => ⟨rfl, rfl, rfl, trivial⟩), le := (by decide) }, mC_BadRow := PySem.W.mg_of X G aC_BadRow, XF_BadRow := ⟨ga_BadRow, gg_BadRow, eC_BadRow, hC_BadRow⟩, X_BadRow := { fI := fe_BadRow, cda := cda_BadRow, cc := cc_BadRow, oc := _, od := _, osl := _, qual := "BadRow.__init__", params := defArgs se_BadRow, body := defBody se_BadRow, scope := defScope se_BadRow, dV := .none, kV := _, doc := _, pm := _, an := _, ct := _, ccl := _, cdd := _, cvs := _, ccs := _, file := _, tf := _, cl := _, cld := _, csl := _, ox := oexC_mk (dd' := 0) xC_BadRow sa_BadRow eC_BadRow tC_BadRow kC_BadRow, iC := ie_BadRow, tI := te_BadRow, lk := le_BadRow, cd := ce_BadRow, lc := lc_BadRow, fl := fl_BadRow, fe := fz_BadRow, lx := lx_BadRow, su := mC_BadRow, ms := PySem.W.mg_none_of X G z_super, op := opq, ih := super_init xC_BadRow xS iS, ve := vC_BadRow, nf := (fun f hf => by simp only [List.mem_cons, List.mem_nil_iff, or_false] at hf; rcases hf with rfl <;> assumption), bd := bd_BadRow, kd := rfl, co := rfl, gn := rfl, ce := (by decide +kernel), ks := rfl, kc := rfl, kl := (by decide +kernel), hp := ⟨_, rfl, rfl⟩, tp := tp, bi := (fun s us hl => match us, hl with | [_, _], _ => .of_eq rfl), nm := (fun us hl => match us, hl with | [_, _], _ => ⟨rfl, rfl, trivial⟩), le := (by decide) }, mC_BadItem := PySem.W.mg_of X G aC_BadItem, XF_BadItem := ⟨ga_BadItem, gg_BadItem, eC_BadItem, hC_BadItem⟩, X_BadItem := { fI := fe_BadItem, cda := cda_BadItem, cc := cc_BadItem, oc := _, od := _, osl := _, qual := "BadItem.__init__", params := defArgs se_BadItem, body := defBody se_BadItem, scope := defScope se_BadItem, dV := .none, kV := _, doc := _, pm := _, an := _, ct := _, ccl := _, cdd := _, cvs := _, ccs := _, file := _, tf := _, cl := _, cld := _, csl := _, ox := oexC_mk (dd' := 0) xC_BadItem sa_BadItem eC_BadItem tC_BadItem kC_BadItem, iC := ie_BadItem, tI := te_BadItem, lk := le_BadItem, cd := ce_BadItem, lc := lc_BadItem, fl := fl_BadItem, fe := fz_BadItem, lx := lx_BadItem, su := mC_BadItem, ms := PySem.W.mg_none_of X G z_super, op := opq, ih := super_init xC_BadItem xS iS, ve := vC_BadItem, nf := (fun f hf => by simp only [List.mem_cons, List.mem_nil_iff, or_false] at hf; rcases hf with rfl <;> assumption), bd := bd_BadItem, kd := rfl, co := rfl, gn := rfl, ce := (by decide +kernel), ks := rfl, kc := rfl, kl := (by decide +kernel), hp := ⟨_, rfl, rfl⟩, tp := tp, bi := (fun s us hl => match us, hl with | [_, _], _ => .of_eq rfl), nm := (fun us hl => match us, hl with | [_, _], _ => ⟨rfl, rfl, trivial⟩), le := (by decide) }, mC_BadHall := PySem.W.mg_of X G aC_BadHall, XF_BadHall := ⟨ga_BadHall, gg_BadHall, eC_BadHall, hC_BadHall⟩, X_BadHall := { fI := fe_BadHall, cda := cda_BadHall, cc := cc_BadHall, oc := _, od := _, osl := _, qual := "BadHall.__init__", params := defArgs se_BadHall, body := defBody se_BadHall, scope := defScope se_BadHall, dV := .none, kV := _, doc := _, pm := _, an := _, ct := _, ccl := _, cdd := _, cvs := _, ccs := _, file := _, tf := _, cl := _, cld := _, csl := _, ox := oexC_mk (dd' := 0) xC_BadHall sa_BadHall eC_BadHall tC_BadHall kC_BadHall, iC := ie_BadHall, tI := te_BadHall, lk := le_BadHall, cd := ce_BadHall, lc := lc_BadHall, fl := fl_BadHall, fe := fz_BadHall, lx := lx_BadHall, su := mC_BadHall, ms := PySem.W.mg_none_of X G z_super, op := opq, ih := super_init xC_BadHall xS iS, ve := vC_BadHall, nf := (fun f hf => by simp only [List.mem_cons, List.mem_nil_iff, or_false] at hf; rcases hf with rfl <;> assumption), bd := bd_BadHall, kd := rfl, co := rfl, gn := rfl, ce := (by decide +kernel), ks := rfl, kc := rfl, kl := (by decide +kernel), hp := ⟨_, rfl, rfl⟩, tp := tp, bi := (fun s us hl => match us, hl with | [_, _], _ => .of_eq rfl), nm := (fun us hl => match us, hl with | [_, _], _ => ⟨rfl, rfl, trivial⟩), le := (by decide) }, x_BadNumber_BadNumber := exm_pair eC_BadNumber ic_BadNumber tC_BadNumber s_BadNumber_BadNumber, x_BadNumber_BadRow := exm_pair eC_BadRow ic_BadRow tC_BadRow s_BadNumber_BadRow, x_BadRow_BadNumber := exm_pair eC_BadNumber ic_BadNumber tC_BadNumber s_BadRow_BadNumber, x_BadRow_BadRow := exm_pair eC_BadRow ic_BadRow tC_BadRow s_BadRow_BadRow, EC_BadRow := ⟨ga_BadRow, gg_BadRow, eC_BadRow, hC_BadRow, gk_BadRow, on, ot, go_BadRow⟩, kg_BadRow_BadItem := kit_sub ic_BadItem tC_BadItem sg_BadRow_BadItem sgg_BadItem, n_all := PySem.W.mg_none_of X G z_all, n_any := PySem.W.mg_none_of X G z_any, n_bool := PySem.W.mg_none_of X G z_bool, n_int := PySem.W.mg_none_of X G z_int, n_isinstance := PySem.W.mg_none_of X G z_isinstance, n_len := PySem.W.mg_none_of X G z_len, n_list := PySem.W.mg_none_of X G z_list, n_range := PySem.W.mg_none_of X G z_range, n_repr := PySem.W.mg_none_of X G z_repr, n_sorted := PySem.W.mg_none_of X G z_sorted, n_sum := PySem.W.mg_none_of X G z_sum, n_super := PySem.W.mg_none_of X G z_super, n_tuple := PySem.W.mg_none_of X G z_tuple, n_zip := PySem.W.mg_none_of X G z_zip, t_MOST_ARROWS := t_MOST_ARROWS, c_MOST_ARROWS := PySem.W.mg_of X G y_MOST_ARROWS, t_MOST_POINTS := t_MOST_POINTS, c_MOST_POINTS := PySem.W.mg_of X G y_MOST_POINTS }
  exact law_run (k := 9) l26 c26 sc_law (T.F_law.binds (ps := ["script"]) fun _ _ _ _ _ _ us hl => match us, hl with | [_], _ => rfl) ⟨rfl, by decide, by decide⟩ e0 fun hr => ok_law T rfl TB hT hS hl (math T.c ⟨trivial, exm_ne T.x_BadNumber_BadRow T.x_BadRow_BadRow, exm_ne T.x_BadRow_BadNumber T.x_BadNumber_BadNumber⟩) hr
end Lw_k50

set_option Elab.async false
set_option linter.all false
set_option maxRecDepth 100000
set_option maxHeartbeats 400000
/-! halls: the ground and the hall's own defs -/
namespace Lw_k50
open PySem L2 DL
variable {c : CA} {k : Kt} {P : D → Kt → Prop}
abbrev I (xs : List Int) : D := .tup (xs.map .int)
abbrev L (xs : List Int) : D := .lst (xs.map .int)
theorem t_is_integer {d : D} (hd : (tyD d).isSome = true) (h : P (.bl (intD d)) k) : wf_is_integer c [d] k P := by
  rw [wf_is_integer, s_of, w_is_integer]
  try simp only [Lw_k50.sxA, Lw_k50.sxB, exists_eq_left, exists_eq_left', exists_eq', exists_eq, exists_and_left, eq_self, exists_true_left, exists_const, exists_eq_right, exists_false, if_false, if_true, Int.reduceToNat, Nat.reduceAdd, Nat.reduceSub, Nat.reduceLeDiff, Nat.reduceLT, reduceIte]
  cases d <;> first | (simp [tyD] at hd; done) | (simp only [Lw_k50.sxA, Lw_k50.sxB, exists_eq_left, exists_eq_left', exists_eq', exists_eq, exists_and_left, eq_self, exists_true_left, exists_const, exists_eq_right, exists_false, if_false, if_true, Int.reduceToNat, Nat.reduceAdd, Nat.reduceSub, Nat.reduceLeDiff, Nat.reduceLT, reduceIte]; exact h)
theorem t_is_row {d : D} (hd : (tyD d).isSome = true) (h : P (.bl (rowD d)) k) : wf_is_row c [d] k P := by
  rw [wf_is_row, s_of, w_is_row]
  try simp only [Lw_k50.sxA, Lw_k50.sxB, exists_eq_left, exists_eq_left', exists_eq', exists_eq, exists_and_left, eq_self, exists_true_left, exists_const, exists_eq_right, exists_false, if_false, if_true, Int.reduceToNat, Nat.reduceAdd, Nat.reduceSub, Nat.reduceLeDiff, Nat.reduceLT, reduceIte]
  cases d <;> first | (simp [tyD] at hd; done) | (simp only [Lw_k50.sxA, Lw_k50.sxB, exists_eq_left, exists_eq_left', exists_eq', exists_eq, exists_and_left, eq_self, exists_true_left, exists_const, exists_eq_right, exists_false, if_false, if_true, Int.reduceToNat, Nat.reduceAdd, Nat.reduceSub, Nat.reduceLeDiff, Nat.reduceLT, reduceIte]; exact h)
theorem t_is_arrow {i j n : Int} (h : P (.bl (decide (0 ≤ i ∧ i < n ∧ 0 ≤ j ∧ j < n ∧ i ≠ j))) k) : wf_is_arrow c [pD (i, j), .int n] k P := by
  rw [wf_is_arrow, s_of, w_is_arrow]
  try simp only [Lw_k50.sxA, Lw_k50.sxB, exists_eq_left, exists_eq_left', exists_eq', exists_eq, exists_and_left, eq_self, exists_true_left, exists_const, exists_eq_right, exists_false, if_false, if_true, Int.reduceToNat, Nat.reduceAdd, Nat.reduceSub, Nat.reduceLeDiff, Nat.reduceLT, reduceIte]
  rw [if_neg (by decide)]
  try simp only [Lw_k50.sxA, Lw_k50.sxB, exists_eq_left, exists_eq_left', exists_eq', exists_eq, exists_and_left, eq_self, exists_true_left, exists_const, exists_eq_right, exists_false, if_false, if_true, Int.reduceToNat, Nat.reduceAdd, Nat.reduceSub, Nat.reduceLeDiff, Nat.reduceLT, reduceIte, l_c, l_n]
  refine t_is_integer rfl ?_
  try simp only [Lw_k50.sxA, Lw_k50.sxB, exists_eq_left, exists_eq_left', exists_eq', exists_eq, exists_and_left, eq_self, exists_true_left, exists_const, exists_eq_right, exists_false, if_false, if_true, Int.reduceToNat, Nat.reduceAdd, Nat.reduceSub, Nat.reduceLeDiff, Nat.reduceLT, reduceIte, intD]
  have fin : ∀ (b b' : Bool) (k' : Kt), k' = k → (b = decide (0 ≤ i ∧ i < n)) → (b' = decide (0 ≤ j ∧ j < n)) → if ([b, b'].all id) = true then P (D.bl !decide (i = j)) k' else P (D.bl false) k' := by
    intro b b' k' ek e1 e2
    subst ek
    simp only [List.all_cons, List.all_nil, id, Bool.and_true]
    by_cases c1 : 0 ≤ i ∧ i < n
    · by_cases c2 : 0 ≤ j ∧ j < n
      · rw [if_pos (by rw [e1, e2, decide_eq_true c1, decide_eq_true c2]; rfl)]
        have : (!decide (i = j)) = decide (0 ≤ i ∧ i < n ∧ 0 ≤ j ∧ j < n ∧ i ≠ j) := by simp [c1, c2]
        rw [this]
        exact h
      · rw [if_neg (by rw [e2, decide_eq_false c2]; simp)]
        have : false = decide (0 ≤ i ∧ i < n ∧ 0 ≤ j ∧ j < n ∧ i ≠ j) := by symm; rw [decide_eq_false_iff_not]; omega
        rw [this]
        exact h
    · rw [if_neg (by rw [e1, decide_eq_false c1]; simp)]
      have : false = decide (0 ≤ i ∧ i < n ∧ 0 ≤ j ∧ j < n ∧ i ≠ j) := by symm; rw [decide_eq_false_iff_not]; omega
      rw [this]
      exact h
  by_cases a0 : 0 ≤ i
  · rw [if_pos (decide_eq_true a0)]
    refine t_is_integer rfl ?_
    try simp only [Lw_k50.sxA, Lw_k50.sxB, exists_eq_left, exists_eq_left', exists_eq', exists_eq, exists_and_left, eq_self, exists_true_left, exists_const, exists_eq_right, exists_false, if_false, if_true, Int.reduceToNat, Nat.reduceAdd, Nat.reduceSub, Nat.reduceLeDiff, Nat.reduceLT, reduceIte, intD]
    by_cases b0 : 0 ≤ j
    · rw [if_pos (decide_eq_true b0)]
      exact fin _ _ _ rfl (by simp [a0]) (by simp [b0])
    · rw [if_neg (by simp [b0])]
      exact fin _ _ _ rfl (by simp [a0]) (by simp [b0])
  · rw [if_neg (by simp [a0])]
    refine t_is_integer rfl ?_
    try simp only [Lw_k50.sxA, Lw_k50.sxB, exists_eq_left, exists_eq_left', exists_eq', exists_eq, exists_and_left, eq_self, exists_true_left, exists_const, exists_eq_right, exists_false, if_false, if_true, Int.reduceToNat, Nat.reduceAdd, Nat.reduceSub, Nat.reduceLeDiff, Nat.reduceLT, reduceIte, intD]
    by_cases b0 : 0 ≤ j
    · rw [if_pos (decide_eq_true b0)]
      exact fin _ _ _ rfl (by simp [a0]) (by simp [b0])
    · rw [if_neg (by simp [b0])]
      exact fin _ _ _ rfl (by simp [a0]) (by simp [b0])
def foFree (n : Nat) (ar : List (Int × Int)) (found : List Int) : List Int := (upto n).filterMap fun i => if i ∉ found ∧ ¬ (∃ p ∈ ar, p.2 = i ∧ p.1 ∉ found) then some i else none
def foStep (n : Nat) (ar : List (Int × Int)) (found : List Int) : List Int := match foFree n ar found with
    | [] => found
    | x :: _ => found ++ [x]
def foN (n : Nat) (ar : List (Int × Int)) : Nat → List Int
  | 0 => []
  | m + 1 => foStep n ar (foN n ar m)
theorem foN_len (n : Nat) (ar : List (Int × Int)) : ∀ m, (foN n ar m).length ≤ m
  | 0 => Nat.le_refl _
  | m + 1 => by
    have := foN_len n ar m
    rw [foN, foStep]
    split
    · omega
    · rw [List.length_append]; simp; omega
theorem t_first_order {n : Nat} {ar : List (Int × Int)} {A : D} (hA : itemsD A = some (ar.map pD)) (hn : n ≤ 1000) (ha : ar.length ≤ 1000) (h : P (I (foN n ar n)) k) : wf_first_order c [.int n, A] k P := by
  rw [wf_first_order, s_of, w_first_order]
  try simp only [Lw_k50.sxA, Lw_k50.sxB, exists_eq_left, exists_eq_left', exists_eq', exists_eq, exists_and_left, eq_self, exists_true_left, exists_const, exists_eq_right, exists_false, if_false, if_true, Int.reduceToNat, Nat.reduceAdd, Nat.reduceSub, Nat.reduceLeDiff, Nat.reduceLT, reduceIte]
  refine ⟨by omega, by omega, ?_⟩
  refine for_map D.int (fun xs ρ => xs.length ≤ n ∧ ∃ s3 s4, ρ = [.val (.int n), .val A, .own (.l ((foN n ar (n - xs.length)).map .int)), s3, s4, .un, .un, .un]) (fun x rest ρ N hI hN => ?_) (fun ρ hI => ?_) (upto n) _ ⟨by rw [upto_len]; exact Nat.le_refl _, .un, .un, by rw [upto_len, Nat.sub_self]; rfl⟩
  · obtain ⟨hl, s3, s4, rfl⟩ := hI
    rw [List.length_cons] at hl
    have hF' : foN n ar (n - rest.length) = foStep n ar (foN n ar (n - (rest.length + 1))) := by
      rw [show n - rest.length = (n - (rest.length + 1)) + 1 by omega]; rfl
    rw [hF'] at hN
    have hFl := foN_len n ar (n - (rest.length + 1))
    try simp only [Lw_k50.sxA, Lw_k50.sxB, exists_eq_left, exists_eq_left', exists_eq', exists_eq, exists_and_left, eq_self, exists_true_left, exists_const, exists_eq_right, exists_false, if_false, if_true, Int.reduceToNat, Nat.reduceAdd, Nat.reduceSub, Nat.reduceLeDiff, Nat.reduceLT, reduceIte]
    generalize foN n ar (n - (rest.length + 1)) = F at hN hFl ⊢
    refine ⟨by omega, by omega, ?_⟩
    refine lc_filt D.int D.int (fun i => if i ∉ F ∧ ¬ (∃ p ∈ ar, p.2 = i ∧ p.1 ∉ F) then some i else none) (sz (by rw [upto_len]; omega)) (fun i hi R hR => ?_) ?_
    · try simp only [Lw_k50.sxA, Lw_k50.sxB, exists_eq_left, exists_eq_left', exists_eq', exists_eq, exists_and_left, eq_self, exists_true_left, exists_const, exists_eq_right, exists_false, if_false, if_true, Int.reduceToNat, Nat.reduceAdd, Nat.reduceSub, Nat.reduceLeDiff, Nat.reduceLT, reduceIte, lcStep, hA]
      by_cases h1 : i ∈ F
      · rw [if_neg (by simp [h1])]
        rw [if_neg (by simp [h1])] at hR
        exact hR
      · rw [if_pos (by simp [h1])]
        refine lc_map pD D.bl (fun p => decide (p.2 = i ∧ p.1 ∉ F)) (sz (by omega)) (fun p hp R' hR' => ?_) ?_
        · try simp only [Lw_k50.sxA, Lw_k50.sxB, exists_eq_left, exists_eq_left', exists_eq', exists_eq, exists_and_left, eq_self, exists_true_left, exists_const, exists_eq_right, exists_false, if_false, if_true, Int.reduceToNat, Nat.reduceAdd, Nat.reduceSub, Nat.reduceLeDiff, Nat.reduceLT, reduceIte, lcStep]
          by_cases h2 : p.2 = i
          · rw [if_pos (decide_eq_true h2)]
            simpa [h2] using hR'
          · rw [if_neg (by simp [h2])]
            simpa [h2] using hR'
        · try simp only [Lw_k50.sxA, Lw_k50.sxB, exists_eq_left, exists_eq_left', exists_eq', exists_eq, exists_and_left, eq_self, exists_true_left, exists_const, exists_eq_right, exists_false, if_false, if_true, Int.reduceToNat, Nat.reduceAdd, Nat.reduceSub, Nat.reduceLeDiff, Nat.reduceLT, reduceIte]
          have e : (List.map (fun p => decide (p.2 = i ∧ p.1 ∉ F)) ar).any id = decide (∃ p ∈ ar, p.2 = i ∧ p.1 ∉ F) := by
            rw [List.any_map, Bool.eq_iff_iff, List.any_eq_true, decide_eq_true_eq]
            exact ⟨fun ⟨p, hp, q⟩ => ⟨p, hp, by simpa using q⟩, fun ⟨p, hp, q⟩ => ⟨p, hp, by simpa using q⟩⟩
          rw [e]
          by_cases h2 : ∃ p ∈ ar, p.2 = i ∧ p.1 ∉ F
          · rw [if_neg (by simp only [h2, decide_true]; decide)]
            rw [if_neg (fun z => z.2 h2)] at hR
            exact hR
          · rw [if_pos (by simp only [h2, decide_false]; decide)]
            rw [if_pos ⟨h1, h2⟩] at hR
            exact hR
    · rw [show (List.filterMap (fun i => if i ∉ F ∧ ¬ (∃ p ∈ ar, p.2 = i ∧ p.1 ∉ F) then some i else none) (upto n)) = foFree n ar F from rfl]
      try simp only [Lw_k50.sxA, Lw_k50.sxB, exists_eq_left, exists_eq_left', exists_eq', exists_eq, exists_and_left, eq_self, exists_true_left, exists_const, exists_eq_right, exists_false, if_false, if_true, Int.reduceToNat, Nat.reduceAdd, Nat.reduceSub, Nat.reduceLeDiff, Nat.reduceLT, reduceIte]
      cases hX : foFree n ar F with
      | nil =>
        rw [if_neg (by simp)]
        have e : foStep n ar F = F := by rw [foStep, hX]
        rw [e] at hN
        exact hN _ ⟨by omega, _, _, rfl⟩
      | cons y r =>
        rw [if_pos (by simp)]
        try simp only [Lw_k50.sxA, Lw_k50.sxB, exists_eq_left, exists_eq_left', exists_eq', exists_eq, exists_and_left, eq_self, exists_true_left, exists_const, exists_eq_right, exists_false, if_false, if_true, Int.reduceToNat, Nat.reduceAdd, Nat.reduceSub, Nat.reduceLeDiff, Nat.reduceLT, reduceIte, List.length_map]
        have e : foStep n ar F = F ++ [y] := by rw [foStep, hX]
        rw [e, List.map_append] at hN
        exact ⟨by omega, hN _ ⟨by omega, _, _, rfl⟩⟩
  · obtain ⟨hl, s3, s4, rfl⟩ := hI
    try simp only [Lw_k50.sxA, Lw_k50.sxB, exists_eq_left, exists_eq_left', exists_eq', exists_eq, exists_and_left, eq_self, exists_true_left, exists_const, exists_eq_right, exists_false, if_false, if_true, Int.reduceToNat, Nat.reduceAdd, Nat.reduceSub, Nat.reduceLeDiff, Nat.reduceLT, reduceIte]
    exact h
/-- n points, arrows among them that do not lead round -/
structure HallOk (n : Nat) (ar : List (Int × Int)) : Prop where
  n1 : 1 ≤ n
  n7 : n ≤ 7
  len : ar.length ≤ 12
  inn : ∀ p ∈ ar, 0 ≤ p.1 ∧ p.1 < n ∧ 0 ≤ p.2 ∧ p.2 < n
  ac : ∃ r : Int → Nat, ∀ p ∈ ar, r p.1 < r p.2
theorem HallOk.ne {n : Nat} {ar : List (Int × Int)} (h : HallOk n ar) : ∀ p ∈ ar, p.1 ≠ p.2 := fun p hp e => by
  obtain ⟨r, hr⟩ := h.ac
  have := hr p hp
  rw [e] at this
  omega
theorem min_rank (r : Int → Nat) (Q : Int → Prop) : ∀ (m : Nat) (x : Int), Q x → r x ≤ m → ∃ y, Q y ∧ ∀ z, Q z → r y ≤ r z
  | 0, x, hx, hm => ⟨x, hx, fun z _ => by omega⟩
  | m + 1, x, hx, hm => by
    by_cases h : ∃ z, Q z ∧ r z < r x
    · obtain ⟨z, hz, hl⟩ := h
      exact min_rank r Q m z hz (by omega)
    · exact ⟨x, hx, fun z hz => by
        by_cases h' : r x ≤ r z
        · exact h'
        · exact (h ⟨z, hz, by omega⟩).elim⟩
theorem foFree_mem {n : Nat} {ar : List (Int × Int)} {F : List Int} {i : Int} : i ∈ foFree n ar F ↔ (0 ≤ i ∧ i < n) ∧ i ∉ F ∧ ∀ p ∈ ar, p.2 = i → p.1 ∈ F := by
  unfold foFree
  rw [List.mem_filterMap]
  constructor
  · rintro ⟨x, hx, e⟩
    split at e
    · rename_i h
      cases e
      exact ⟨upto_mem.mp hx, h.1, fun p hp e => Classical.byContradiction fun z => h.2 ⟨p, hp, e, z⟩⟩
    · cases e
  · rintro ⟨h1, h2, h3⟩
    exact ⟨i, upto_mem.mpr h1, if_pos ⟨h2, fun ⟨p, hp, e, z⟩ => z (h3 p hp e)⟩⟩
theorem exists_not_mem {n : Nat} {F : List Int} (h : F.length < n) : ∃ x : Int, (0 ≤ x ∧ x < n) ∧ x ∉ F := by
  refine Classical.byContradiction fun z => ?_
  have := (upto_nodup n).length_le_of_subset (l₂ := F) fun x hx => Classical.byContradiction fun y => z ⟨x, upto_mem.mp hx, y⟩
  rw [upto_len] at this
  omega
theorem foN_facts (n : Nat) (ar : List (Int × Int)) : ∀ m, (foN n ar m).Nodup ∧ ∀ x ∈ foN n ar m, 0 ≤ x ∧ x < n
  | 0 => ⟨List.nodup_nil, fun _ h => by cases h⟩
  | m + 1 => by
    obtain ⟨h1, h2⟩ := foN_facts n ar m
    rw [foN, foStep]
    cases hX : foFree n ar (foN n ar m) with
    | nil => exact ⟨h1, h2⟩
    | cons y r =>
      have hy := foFree_mem.mp (show y ∈ foFree n ar (foN n ar m) by rw [hX]; exact List.mem_cons_self)
      refine ⟨List.nodup_append.mpr ⟨h1, List.nodup_cons.mpr ⟨by simp, List.nodup_nil⟩, fun a ha b hb => ?_⟩, fun x hx => ?_⟩
      · rw [List.mem_singleton.mp hb]
        intro e
        rw [e] at ha
        exact hy.2.1 ha
      · rcases List.mem_append.mp hx with z | z
        · exact h2 x z
        · rw [List.mem_singleton.mp z]; exact hy.1
theorem foN_full {n : Nat} {ar : List (Int × Int)} (h : HallOk n ar) : ∀ m, m ≤ n → (foN n ar m).length = m
  | 0, _ => rfl
  | m + 1, hm => by
    have ih := foN_full h m (by omega)
    obtain ⟨h1, h2⟩ := foN_facts n ar m
    obtain ⟨r, hr⟩ := h.ac
    obtain ⟨x, hx, hx'⟩ := exists_not_mem (n := n) (F := foN n ar m) (by omega)
    obtain ⟨y, hy, hm'⟩ := min_rank r (fun x => (0 ≤ x ∧ x < n) ∧ x ∉ foN n ar m) (r x) x ⟨hx, hx'⟩ (Nat.le_refl _)
    have hf : y ∈ foFree n ar (foN n ar m) := foFree_mem.mpr ⟨hy.1, hy.2, fun p hp e => Classical.byContradiction fun z => by
      have a := hr p hp
      have b := h.inn p hp
      have c := hm' p.1 ⟨⟨b.1, b.2.1⟩, z⟩
      rw [e] at a
      omega⟩
    rw [foN, foStep]
    cases hX : foFree n ar (foN n ar m) with
    | nil => rw [hX] at hf; cases hf
    | cons y r => rw [List.length_append, ih]; rfl
theorem rowD_items {A : D} {xs : List D} (h : itemsD A = some xs) (hr : rowD A = true) : A = .lst xs ∨ A = .tup xs := by
  cases A <;> first | (simp [rowD] at hr; done) | (simp [itemsD] at h; subst h; simp)
theorem t_hall_fault {n : Nat} {ar : List (Int × Int)} {A : D} (hA : itemsD A = some (ar.map pD)) (hr : rowD A = true) (H : HallOk n ar) (h : P .non k) : wf_hall_fault c [.int n, A] k P := by
  have hn := H.n7
  have hn1 := H.n1
  have hl := H.len
  have ty : (tyD A).isSome = true := by rcases rowD_items hA hr with rfl | rfl <;> rfl
  have ln : lenD A = some ar.length := by rcases rowD_items hA hr with rfl | rfl <;> simp [lenD]
  rw [wf_hall_fault, s_of, w_hall_fault]
  try simp only [Lw_k50.sxA, Lw_k50.sxB, exists_eq_left, exists_eq_left', exists_eq', exists_eq, exists_and_left, eq_self, exists_true_left, exists_const, exists_eq_right, exists_false, if_false, if_true, Int.reduceToNat, Nat.reduceAdd, Nat.reduceSub, Nat.reduceLeDiff, Nat.reduceLT, reduceIte]
  refine t_is_integer rfl ?_
  try simp only [Lw_k50.sxA, Lw_k50.sxB, exists_eq_left, exists_eq_left', exists_eq', exists_eq, exists_and_left, eq_self, exists_true_left, exists_const, exists_eq_right, exists_false, if_false, if_true, Int.reduceToNat, Nat.reduceAdd, Nat.reduceSub, Nat.reduceLeDiff, Nat.reduceLT, reduceIte, intD]
  rw [if_pos (decide_eq_true (by omega)), if_neg (by simp; omega)]
  refine t_is_row ty ?_
  try simp only [Lw_k50.sxA, Lw_k50.sxB, exists_eq_left, exists_eq_left', exists_eq', exists_eq, exists_and_left, eq_self, exists_true_left, exists_const, exists_eq_right, exists_false, if_false, if_true, Int.reduceToNat, Nat.reduceAdd, Nat.reduceSub, Nat.reduceLeDiff, Nat.reduceLT, reduceIte, hr]
  refine ⟨_, ln, ?_⟩
  rw [if_neg (by simp; omega)]
  try simp only [Lw_k50.sxA, Lw_k50.sxB, exists_eq_left, exists_eq_left', exists_eq', exists_eq, exists_and_left, eq_self, exists_true_left, exists_const, exists_eq_right, exists_false, if_false, if_true, Int.reduceToNat, Nat.reduceAdd, Nat.reduceSub, Nat.reduceLeDiff, Nat.reduceLT, reduceIte, hA]
  refine lc_map pD D.bl (fun _ => true) (sz (by omega)) (fun p hp R hR => ?_) ?_
  · try simp only [Lw_k50.sxA, Lw_k50.sxB, exists_eq_left, exists_eq_left', exists_eq', exists_eq, exists_and_left, eq_self, exists_true_left, exists_const, exists_eq_right, exists_false, if_false, if_true, Int.reduceToNat, Nat.reduceAdd, Nat.reduceSub, Nat.reduceLeDiff, Nat.reduceLT, reduceIte, lcStep]
    refine t_is_arrow ?_
    have := H.inn p hp
    rw [decide_eq_true ⟨this.1, this.2.1, this.2.2.1, this.2.2.2, H.ne p hp⟩]
    exact hR
  · try simp only [Lw_k50.sxA, Lw_k50.sxB, exists_eq_left, exists_eq_left', exists_eq', exists_eq, exists_and_left, eq_self, exists_true_left, exists_const, exists_eq_right, exists_false, if_false, if_true, Int.reduceToNat, Nat.reduceAdd, Nat.reduceSub, Nat.reduceLeDiff, Nat.reduceLT, reduceIte]
    rw [if_neg (by simp)]
    refine t_first_order hA (by omega) (by omega) ?_
    try simp only [Lw_k50.sxA, Lw_k50.sxB, exists_eq_left, exists_eq_left', exists_eq', exists_eq, exists_and_left, eq_self, exists_true_left, exists_const, exists_eq_right, exists_false, if_false, if_true, Int.reduceToNat, Nat.reduceAdd, Nat.reduceSub, Nat.reduceLeDiff, Nat.reduceLT, reduceIte, List.length_map]
    rw [foN_full H n (Nat.le_refl _)]
    rw [if_pos (by simp)]
    exact h
theorem t_Hall {n : Nat} {ar so : List (Int × Int)} (H : HallOk n ar) (e : sortP ar = so) (h : P (D.ins c.C_Hall ["many", "arrows"] [D.int n, D.tup (List.map pD so)]) k) : wfi_Hall c [.int n, .lst (ar.map pD)] k P := by
  rw [wfi_Hall, wfI_eq, wi_Hall]
  try simp only [Lw_k50.sxA, Lw_k50.sxB, exists_eq_left, exists_eq_left', exists_eq', exists_eq, exists_and_left, eq_self, exists_true_left, exists_const, exists_eq_right, exists_false, if_false, if_true, Int.reduceToNat, Nat.reduceAdd, Nat.reduceSub, Nat.reduceLeDiff, Nat.reduceLT, reduceIte]
  refine t_hall_fault rfl rfl H ?_
  try simp only [Lw_k50.sxA, Lw_k50.sxB, exists_eq_left, exists_eq_left', exists_eq', exists_eq, exists_and_left, eq_self, exists_true_left, exists_const, exists_eq_right, exists_false, if_false, if_true, Int.reduceToNat, Nat.reduceAdd, Nat.reduceSub, Nat.reduceLeDiff, Nat.reduceLT, reduceIte]
  refine ⟨by simp, t_sortP ?_⟩
  rw [e]
  exact ⟨by decide, h⟩
def ptD (n : Nat) : D → Bool
  | .int i => decide (0 ≤ i ∧ i < n)
  | _ => false
/-- the row is numbers, one for each point -/
def numB (n : Nat) (d : D) : Bool := match itemsD d with
  | some xs => rowD d && decide (xs.length = n) && xs.all intD
  | none => false
end Lw_k50

set_option Elab.async false
set_option linter.all false
set_option maxRecDepth 100000
set_option maxHeartbeats 400000
/-! the law's own small defs; units -/
namespace Lw_k50
open PySem L2 DL
variable {c : CA} {k : Kt} {P : D → Kt → Prop} {a : Addr}
def unitL (n : Nat) (i : Int) : List Int := (upto n).map fun j => if j = i then 1 else 0
theorem t_pick {xs : List D} (hk : k.2.pen = some a) (hc : k.1 < 1000000000) (h0 : xs ≠ []) (hl : xs.length ≤ 1000) (h : ∀ d ∈ xs, ∀ k', Dr 1 k k' → P d k') : wf__law_pick c [.obj a, .lst xs] k P := by
  have := List.length_pos_iff.mpr h0
  rw [wf__law_pick, s_of, w__law_pick]
  try simp only [Lw_k50.sxA, Lw_k50.sxB, exists_eq_left, exists_eq_left', exists_eq', exists_eq, exists_and_left, eq_self, exists_true_left, exists_const, exists_eq_right, exists_false, if_false, if_true, Int.reduceToNat, Nat.reduceAdd, Nat.reduceSub, Nat.reduceLeDiff, Nat.reduceLT, reduceIte]
  refine t_dr hk (by omega) (by omega) (by omega) fun x k' x0 x1 d => ?_
  try simp only [Lw_k50.sxA, Lw_k50.sxB, exists_eq_left, exists_eq_left', exists_eq', exists_eq, exists_and_left, eq_self, exists_true_left, exists_const, exists_eq_right, exists_false, if_false, if_true, Int.reduceToNat, Nat.reduceAdd, Nat.reduceSub, Nat.reduceLeDiff, Nat.reduceLT, reduceIte]
  obtain ⟨y, hy⟩ : ∃ y, xs[x.toNat]? = some y := ⟨_, List.getElem?_eq_getElem (by omega)⟩
  exact ⟨y, atI_z (n := x.toNat) (by omega) hy, h y (List.mem_of_getElem? hy) k' d⟩
theorem rp_int {i : Int} (h : i.natAbs < 10 ^ 12) : Rp (.int i) := rp_of (by simp only [dOk, decide_eq_true_eq]; exact h) (by simp [py, PyData.depth]) (by simp [dW])
theorem rp_non : Rp .non := rp_of rfl (by simp [py, PyData.depth]) (by simp [dW])
theorem rp_bl {b : Bool} : Rp (.bl b) := rp_of rfl (by simp [py, PyData.depth]) (by simp [dW])
/-- no row of n numbers -/
def NoRow (n : Nat) (d : D) : Prop := (tyD d).isSome = true ∧ (∃ ws, (rowD d = true → itemsD d = some ws ∧ ∀ x ∈ ws, (tyD x).isSome = true) ∧ (rowD d && decide (ws.length = n) && ws.all intD) = false) ∧ Rp d
end Lw_k50

set_option Elab.async false
set_option linter.all false
set_option maxRecDepth 100000
set_option maxHeartbeats 1000000
/-! k50: the flag halls' defs -/
namespace Lw_k50
open PySem L2 DL
variable {c : CA} {k : Kt} {P : D → Kt → Prop} {a : Addr}
theorem t_need_r {r : Int} (hr : r = 2 ∨ r = 3) (h : P .non k) : wf_need_r c [.int r] k P := by
  rw [wf_need_r, s_of, w_need_r]
  try simp only [Lw_k50.sxA, Lw_k50.sxB, exists_eq_left, exists_eq_left', exists_eq', exists_eq, exists_and_left, eq_self, exists_true_left, exists_const, exists_eq_right, exists_false, if_false, if_true, Int.reduceToNat, Nat.reduceAdd, Nat.reduceSub, Nat.reduceLeDiff, Nat.reduceLT, reduceIte]
  refine t_is_integer rfl ?_
  try simp only [Lw_k50.sxA, Lw_k50.sxB, exists_eq_left, exists_eq_left', exists_eq', exists_eq, exists_and_left, eq_self, exists_true_left, exists_const, exists_eq_right, exists_false, if_false, if_true, Int.reduceToNat, Nat.reduceAdd, Nat.reduceSub, Nat.reduceLeDiff, Nat.reduceLT, reduceIte, intD]
  rcases hr with rfl | rfl
  · refine ⟨_, rfl, ?_⟩
    rw [if_neg (by decide)]
    exact h
  · refine ⟨_, rfl, ?_⟩
    rw [if_neg (by decide)]
    exact h
/-- no r -/
def OddR (d : D) : Prop := d = .int 1 ∨ d = .int 4 ∨ d = .int 0 ∨ d = .non ∨ d = .bl true ∨ d = .str (Str.ofString "2") ∨ d = .tup [.int 2]
theorem t_need_r' {d : D} (hd : OddR d) (h : k.2.xc ⟨.ref c.C_BadNumber, ["value", "what"], [d, .str "r"]⟩ k.1) : wf_need_r c [d] k P := by
  have ty : (tyD d).isSome = true := by rcases hd with rfl | rfl | rfl | rfl | rfl | rfl | rfl <;> rfl
  rw [wf_need_r, s_of, w_need_r]
  try simp only [Lw_k50.sxA, Lw_k50.sxB, exists_eq_left, exists_eq_left', exists_eq', exists_eq, exists_and_left, eq_self, exists_true_left, exists_const, exists_eq_right, exists_false, if_false, if_true, Int.reduceToNat, Nat.reduceAdd, Nat.reduceSub, Nat.reduceLeDiff, Nat.reduceLT, reduceIte]
  refine t_is_integer ty ?_
  rcases hd with rfl | rfl | rfl | rfl | rfl | rfl | rfl
  · try simp only [Lw_k50.sxA, Lw_k50.sxB, exists_eq_left, exists_eq_left', exists_eq', exists_eq, exists_and_left, eq_self, exists_true_left, exists_const, exists_eq_right, exists_false, if_false, if_true, Int.reduceToNat, Nat.reduceAdd, Nat.reduceSub, Nat.reduceLeDiff, Nat.reduceLT, reduceIte, intD]
    refine ⟨_, rfl, ?_⟩
    rw [if_pos (by decide)]
    exact h
  · try simp only [Lw_k50.sxA, Lw_k50.sxB, exists_eq_left, exists_eq_left', exists_eq', exists_eq, exists_and_left, eq_self, exists_true_left, exists_const, exists_eq_right, exists_false, if_false, if_true, Int.reduceToNat, Nat.reduceAdd, Nat.reduceSub, Nat.reduceLeDiff, Nat.reduceLT, reduceIte, intD]
    refine ⟨_, rfl, ?_⟩
    rw [if_pos (by decide)]
    exact h
  · try simp only [Lw_k50.sxA, Lw_k50.sxB, exists_eq_left, exists_eq_left', exists_eq', exists_eq, exists_and_left, eq_self, exists_true_left, exists_const, exists_eq_right, exists_false, if_false, if_true, Int.reduceToNat, Nat.reduceAdd, Nat.reduceSub, Nat.reduceLeDiff, Nat.reduceLT, reduceIte, intD]
    refine ⟨_, rfl, ?_⟩
    rw [if_pos (by decide)]
    exact h
  · try simp only [Lw_k50.sxA, Lw_k50.sxB, exists_eq_left, exists_eq_left', exists_eq', exists_eq, exists_and_left, eq_self, exists_true_left, exists_const, exists_eq_right, exists_false, if_false, if_true, Int.reduceToNat, Nat.reduceAdd, Nat.reduceSub, Nat.reduceLeDiff, Nat.reduceLT, reduceIte, intD]
    exact h
  · try simp only [Lw_k50.sxA, Lw_k50.sxB, exists_eq_left, exists_eq_left', exists_eq', exists_eq, exists_and_left, eq_self, exists_true_left, exists_const, exists_eq_right, exists_false, if_false, if_true, Int.reduceToNat, Nat.reduceAdd, Nat.reduceSub, Nat.reduceLeDiff, Nat.reduceLT, reduceIte, intD]
    exact h
  · try simp only [Lw_k50.sxA, Lw_k50.sxB, exists_eq_left, exists_eq_left', exists_eq', exists_eq, exists_and_left, eq_self, exists_true_left, exists_const, exists_eq_right, exists_false, if_false, if_true, Int.reduceToNat, Nat.reduceAdd, Nat.reduceSub, Nat.reduceLeDiff, Nat.reduceLT, reduceIte, intD]
    exact h
  · try simp only [Lw_k50.sxA, Lw_k50.sxB, exists_eq_left, exists_eq_left', exists_eq', exists_eq, exists_and_left, eq_self, exists_true_left, exists_const, exists_eq_right, exists_false, if_false, if_true, Int.reduceToNat, Nat.reduceAdd, Nat.reduceSub, Nat.reduceLeDiff, Nat.reduceLT, reduceIte, intD]
    exact h
theorem r2_s {a b : WE} {ρ : En} {Q : List D → En → Kt → Prop} : wLRng2 a b ρ k Q = a ρ k fun r ρ1 k1 => b ρ1 k1 fun r2 ρ2 k2 => ∃ m n : Int, deref ρ2 r = some (.int m) ∧ deref ρ2 r2 = some (.int n) ∧ RgOk m n ∧ Q (rngD m (n - m).toNat 1) ρ2 k2 := rfl
theorem fw_nil {g : WG} {b : WS} {E : DEnds} {ρ : En} : forW g b E [] ρ k = E.nx ρ k := rfl
theorem fw_cons {g : WG} {b : WS} {E : DEnds} {ρ : En} {d : D} {ds : List D} : forW g b E (d :: ds) ρ k = g d ρ k fun ρ1 k1 => b { nx := fun ρ2 k2 => forW g b E ds ρ2 k2, rt := E.rt, bk := E.nx, ct := fun ρ2 k2 => forW g b E ds ρ2 k2 } ρ1 k1 := rfl
theorem cm {i : Int} {j : Int} (h : -100 ≤ i ∧ i ≤ 100) : CMul i j := .inl ⟨by omega, by omega⟩
theorem t_arm2 {x : Int} (hx : x = 0 ∨ x = 1 ∨ x = 2) (h : P (.lst [.int x]) k) : wf_arm_points c [.int 2, .int x] k P := by
  rw [wf_arm_points, s_of, w_arm_points]
  try simp only [Lw_k50.sxA, Lw_k50.sxB, exists_eq_left, exists_eq_left', exists_eq', exists_eq, exists_and_left, eq_self, exists_true_left, exists_const, exists_eq_right, exists_false, if_false, if_true, Int.reduceToNat, Nat.reduceAdd, Nat.reduceSub, Nat.reduceLeDiff, Nat.reduceLT, reduceIte]
  simp only [r2_s, Lw_k50.sxA, Lw_k50.sxB, exists_eq_left, exists_eq_left', exists_eq', exists_eq, exists_and_left, eq_self, exists_true_left, exists_const, exists_eq_right, exists_false, if_false, if_true, Int.reduceToNat, Nat.reduceAdd, Nat.reduceSub, Nat.reduceLeDiff, Nat.reduceLT, reduceIte]
  rcases hx with rfl | rfl | rfl <;> exact ⟨cm (by decide), cm (by decide), by unfold RgOk; decide, h⟩
theorem t_arm3 {x : Int} (hx : x = 0 ∨ x = 1 ∨ x = 2) (h : P (.lst [.int (2 * x), .int (2 * x + 1)]) k) : wf_arm_points c [.int 3, .int x] k P := by
  rw [wf_arm_points, s_of, w_arm_points]
  try simp only [Lw_k50.sxA, Lw_k50.sxB, exists_eq_left, exists_eq_left', exists_eq', exists_eq, exists_and_left, eq_self, exists_true_left, exists_const, exists_eq_right, exists_false, if_false, if_true, Int.reduceToNat, Nat.reduceAdd, Nat.reduceSub, Nat.reduceLeDiff, Nat.reduceLT, reduceIte]
  simp only [r2_s, Lw_k50.sxA, Lw_k50.sxB, exists_eq_left, exists_eq_left', exists_eq', exists_eq, exists_and_left, eq_self, exists_true_left, exists_const, exists_eq_right, exists_false, if_false, if_true, Int.reduceToNat, Nat.reduceAdd, Nat.reduceSub, Nat.reduceLeDiff, Nat.reduceLT, reduceIte]
  rcases hx with rfl | rfl | rfl <;> exact ⟨cm (by decide), cm (by decide), by unfold RgOk; decide, h⟩
def so2 : List (Int × Int) := [(0, 3), (1, 3), (2, 3)]
def so3 : List (Int × Int) := [(0, 1), (1, 6), (2, 3), (3, 6), (4, 5), (5, 6)]
theorem ok2 : HallOk 4 so2 := ⟨by decide, by decide, by decide, by decide, ⟨fun x => x.toNat, by decide⟩⟩
theorem ok3 : HallOk 7 so3 := ⟨by decide, by decide, by decide, by decide, ⟨fun x => x.toNat, by decide⟩⟩
theorem t_flag_hall2 (h : P (D.ins c.C_Hall ["many", "arrows"] [D.int 4, D.tup (List.map pD so2)]) k) : wf_flag_hall c [.int 2] k P := by
  rw [wf_flag_hall, s_of, w_flag_hall]
  try simp only [Lw_k50.sxA, Lw_k50.sxB, exists_eq_left, exists_eq_left', exists_eq', exists_eq, exists_and_left, eq_self, exists_true_left, exists_const, exists_eq_right, exists_false, if_false, if_true, Int.reduceToNat, Nat.reduceAdd, Nat.reduceSub, Nat.reduceLeDiff, Nat.reduceLT, reduceIte]
  refine t_need_r (.inl rfl) ?_
  try simp only [Lw_k50.sxA, Lw_k50.sxB, exists_eq_left, exists_eq_left', exists_eq', exists_eq, exists_and_left, eq_self, exists_true_left, exists_const, exists_eq_right, exists_false, if_false, if_true, Int.reduceToNat, Nat.reduceAdd, Nat.reduceSub, Nat.reduceLeDiff, Nat.reduceLT, reduceIte]
  rw [wf_hall_of_flags, s_of, w_hall_of_flags]
  try simp only [Lw_k50.sxA, Lw_k50.sxB, exists_eq_left, exists_eq_left', exists_eq', exists_eq, exists_and_left, eq_self, exists_true_left, exists_const, exists_eq_right, exists_false, if_false, if_true, Int.reduceToNat, Nat.reduceAdd, Nat.reduceSub, Nat.reduceLeDiff, Nat.reduceLT, reduceIte]
  refine ⟨cm (by decide), by decide, by decide, ?_⟩
  rw [show List.map D.int (upto 3) = [.int 0, .int 1, .int 2] from rfl]
  simp only [fw_cons, fw_nil, Lw_k50.sxA, Lw_k50.sxB, exists_eq_left, exists_eq_left', exists_eq', exists_eq, exists_and_left, eq_self, exists_true_left, exists_const, exists_eq_right, exists_false, if_false, if_true, Int.reduceToNat, Nat.reduceAdd, Nat.reduceSub, Nat.reduceLeDiff, Nat.reduceLT, reduceIte]
  refine t_arm2 (.inl rfl) ?_
  try simp only [Lw_k50.sxA, Lw_k50.sxB, exists_eq_left, exists_eq_left', exists_eq', exists_eq, exists_and_left, eq_self, exists_true_left, exists_const, exists_eq_right, exists_false, if_false, if_true, Int.reduceToNat, Nat.reduceAdd, Nat.reduceSub, Nat.reduceLeDiff, Nat.reduceLT, reduceIte]
  refine ⟨_, _, rfl, by decide, by decide, ?_⟩
  refine t_arm2 (.inr (.inl rfl)) ?_
  try simp only [Lw_k50.sxA, Lw_k50.sxB, exists_eq_left, exists_eq_left', exists_eq', exists_eq, exists_and_left, eq_self, exists_true_left, exists_const, exists_eq_right, exists_false, if_false, if_true, Int.reduceToNat, Nat.reduceAdd, Nat.reduceSub, Nat.reduceLeDiff, Nat.reduceLT, reduceIte]
  refine ⟨_, _, rfl, by decide, by decide, ?_⟩
  refine t_arm2 (.inr (.inr rfl)) ?_
  try simp only [Lw_k50.sxA, Lw_k50.sxB, exists_eq_left, exists_eq_left', exists_eq', exists_eq, exists_and_left, eq_self, exists_true_left, exists_const, exists_eq_right, exists_false, if_false, if_true, Int.reduceToNat, Nat.reduceAdd, Nat.reduceSub, Nat.reduceLeDiff, Nat.reduceLT, reduceIte]
  refine ⟨_, _, rfl, by decide, by decide, ?_⟩
  exact t_Hall (n := 4) (ar := so2) (so := so2) ok2 ((isortP_eq (.refl _)).symm.trans (by decide)) h
theorem t_flag_hall3 (h : P (D.ins c.C_Hall ["many", "arrows"] [D.int 7, D.tup (List.map pD so3)]) k) : wf_flag_hall c [.int 3] k P := by
  rw [wf_flag_hall, s_of, w_flag_hall]
  try simp only [Lw_k50.sxA, Lw_k50.sxB, exists_eq_left, exists_eq_left', exists_eq', exists_eq, exists_and_left, eq_self, exists_true_left, exists_const, exists_eq_right, exists_false, if_false, if_true, Int.reduceToNat, Nat.reduceAdd, Nat.reduceSub, Nat.reduceLeDiff, Nat.reduceLT, reduceIte]
  refine t_need_r (.inr rfl) ?_
  try simp only [Lw_k50.sxA, Lw_k50.sxB, exists_eq_left, exists_eq_left', exists_eq', exists_eq, exists_and_left, eq_self, exists_true_left, exists_const, exists_eq_right, exists_false, if_false, if_true, Int.reduceToNat, Nat.reduceAdd, Nat.reduceSub, Nat.reduceLeDiff, Nat.reduceLT, reduceIte]
  rw [wf_hall_of_flags, s_of, w_hall_of_flags]
  try simp only [Lw_k50.sxA, Lw_k50.sxB, exists_eq_left, exists_eq_left', exists_eq', exists_eq, exists_and_left, eq_self, exists_true_left, exists_const, exists_eq_right, exists_false, if_false, if_true, Int.reduceToNat, Nat.reduceAdd, Nat.reduceSub, Nat.reduceLeDiff, Nat.reduceLT, reduceIte]
  refine ⟨cm (by decide), by decide, by decide, ?_⟩
  rw [show List.map D.int (upto 3) = [.int 0, .int 1, .int 2] from rfl]
  simp only [fw_cons, fw_nil, Lw_k50.sxA, Lw_k50.sxB, exists_eq_left, exists_eq_left', exists_eq', exists_eq, exists_and_left, eq_self, exists_true_left, exists_const, exists_eq_right, exists_false, if_false, if_true, Int.reduceToNat, Nat.reduceAdd, Nat.reduceSub, Nat.reduceLeDiff, Nat.reduceLT, reduceIte]
  refine t_arm3 (.inl rfl) ?_
  try simp only [Lw_k50.sxA, Lw_k50.sxB, exists_eq_left, exists_eq_left', exists_eq', exists_eq, exists_and_left, eq_self, exists_true_left, exists_const, exists_eq_right, exists_false, if_false, if_true, Int.reduceToNat, Nat.reduceAdd, Nat.reduceSub, Nat.reduceLeDiff, Nat.reduceLT, reduceIte]
  refine ⟨_, _, rfl, by decide, by decide, ?_⟩
  refine t_arm3 (.inr (.inl rfl)) ?_
  try simp only [Lw_k50.sxA, Lw_k50.sxB, exists_eq_left, exists_eq_left', exists_eq', exists_eq, exists_and_left, eq_self, exists_true_left, exists_const, exists_eq_right, exists_false, if_false, if_true, Int.reduceToNat, Nat.reduceAdd, Nat.reduceSub, Nat.reduceLeDiff, Nat.reduceLT, reduceIte]
  refine ⟨_, _, rfl, by decide, by decide, ?_⟩
  refine t_arm3 (.inr (.inr rfl)) ?_
  try simp only [Lw_k50.sxA, Lw_k50.sxB, exists_eq_left, exists_eq_left', exists_eq', exists_eq, exists_and_left, eq_self, exists_true_left, exists_const, exists_eq_right, exists_false, if_false, if_true, Int.reduceToNat, Nat.reduceAdd, Nat.reduceSub, Nat.reduceLeDiff, Nat.reduceLT, reduceIte]
  refine ⟨_, _, rfl, by decide, by decide, ?_⟩
  exact t_Hall (n := 7) (ar := so3) (so := so3) ok3 ((isortP_eq (.refl _)).symm.trans (by decide)) h
theorem t_flag_sizes2 (h : P (I [1, 1, 1, 2]) k) : wf_flag_sizes c [.int 2] k P := by
  rw [wf_flag_sizes, s_of, w_flag_sizes]
  try simp only [Lw_k50.sxA, Lw_k50.sxB, exists_eq_left, exists_eq_left', exists_eq', exists_eq, exists_and_left, eq_self, exists_true_left, exists_const, exists_eq_right, exists_false, if_false, if_true, Int.reduceToNat, Nat.reduceAdd, Nat.reduceSub, Nat.reduceLeDiff, Nat.reduceLT, reduceIte]
  refine t_need_r (.inl rfl) ?_
  simp only [r2_s, Lw_k50.sxA, Lw_k50.sxB, exists_eq_left, exists_eq_left', exists_eq', exists_eq, exists_and_left, eq_self, exists_true_left, exists_const, exists_eq_right, exists_false, if_false, if_true, Int.reduceToNat, Nat.reduceAdd, Nat.reduceSub, Nat.reduceLeDiff, Nat.reduceLT, reduceIte]
  exact ⟨by unfold RgOk; decide, by decide, by decide, by decide, by decide, h⟩
theorem t_flag_sizes3 (h : P (I [1, 2, 1, 2, 1, 2, 3]) k) : wf_flag_sizes c [.int 3] k P := by
  rw [wf_flag_sizes, s_of, w_flag_sizes]
  try simp only [Lw_k50.sxA, Lw_k50.sxB, exists_eq_left, exists_eq_left', exists_eq', exists_eq, exists_and_left, eq_self, exists_true_left, exists_const, exists_eq_right, exists_false, if_false, if_true, Int.reduceToNat, Nat.reduceAdd, Nat.reduceSub, Nat.reduceLeDiff, Nat.reduceLT, reduceIte]
  refine t_need_r (.inr rfl) ?_
  simp only [r2_s, Lw_k50.sxA, Lw_k50.sxB, exists_eq_left, exists_eq_left', exists_eq', exists_eq, exists_and_left, eq_self, exists_true_left, exists_const, exists_eq_right, exists_false, if_false, if_true, Int.reduceToNat, Nat.reduceAdd, Nat.reduceSub, Nat.reduceLeDiff, Nat.reduceLT, reduceIte]
  exact ⟨by unfold RgOk; decide, by decide, by decide, by decide, by decide, h⟩
def cntD : D → Bool
  | .int i => decide (0 ≤ i)
  | _ => false
theorem t_is_count {d : D} (hd : (tyD d).isSome = true) (h : P (.bl (cntD d)) k) : wf_is_count c [d, .non] k P := by
  rw [wf_is_count, s_of, w_is_count]
  try simp only [Lw_k50.sxA, Lw_k50.sxB, exists_eq_left, exists_eq_left', exists_eq', exists_eq, exists_and_left, eq_self, exists_true_left, exists_const, exists_eq_right, exists_false, if_false, if_true, Int.reduceToNat, Nat.reduceAdd, Nat.reduceSub, Nat.reduceLeDiff, Nat.reduceLT, reduceIte]
  refine t_is_integer hd ?_
  cases d <;> first | (simp only [Lw_k50.sxA, Lw_k50.sxB, exists_eq_left, exists_eq_left', exists_eq', exists_eq, exists_and_left, eq_self, exists_true_left, exists_const, exists_eq_right, exists_false, if_false, if_true, Int.reduceToNat, Nat.reduceAdd, Nat.reduceSub, Nat.reduceLeDiff, Nat.reduceLT, reduceIte, intD]; exact h) | simp only [Lw_k50.sxA, Lw_k50.sxB, exists_eq_left, exists_eq_left', exists_eq', exists_eq, exists_and_left, eq_self, exists_true_left, exists_const, exists_eq_right, exists_false, if_false, if_true, Int.reduceToNat, Nat.reduceAdd, Nat.reduceSub, Nat.reduceLeDiff, Nat.reduceLT, reduceIte, intD]
  rename_i i
  by_cases e : 0 ≤ i
  · rw [if_pos (decide_eq_true e)]
    rw [cntD, decide_eq_true e] at h; exact h
  · rw [if_neg (by simp [e])]
    rw [cntD, decide_eq_false e] at h; exact h
def fal (xs : List Int) : Bool := ((xs.zip (xs.drop 1)).map fun p => decide (p.2 ≤ p.1)).all id
theorem fl_row {r : Nat} {d : D} (hd : (tyD d).isSome = true) (hr : rowD d = false) (h : P (.bl false) k) : wf_is_falling c [.int r, d] k P := by
  rw [wf_is_falling, s_of, w_is_falling]
  try simp only [Lw_k50.sxA, Lw_k50.sxB, exists_eq_left, exists_eq_left', exists_eq', exists_eq, exists_and_left, eq_self, exists_true_left, exists_const, exists_eq_right, exists_false, if_false, if_true, Int.reduceToNat, Nat.reduceAdd, Nat.reduceSub, Nat.reduceLeDiff, Nat.reduceLT, reduceIte]
  refine t_is_row hd ?_
  try simp only [Lw_k50.sxA, Lw_k50.sxB, exists_eq_left, exists_eq_left', exists_eq', exists_eq, exists_and_left, eq_self, exists_true_left, exists_const, exists_eq_right, exists_false, if_false, if_true, Int.reduceToNat, Nat.reduceAdd, Nat.reduceSub, Nat.reduceLeDiff, Nat.reduceLT, reduceIte, hr]
  exact h
theorem fl_len {r : Nat} {d : D} {xs : List D} (hr : rowD d = true) (hi : itemsD d = some xs) (hl : xs.length ≠ r) (h : P (.bl false) k) : wf_is_falling c [.int r, d] k P := by
  have ty : (tyD d).isSome = true := by rcases rowD_items hi hr with rfl | rfl <;> rfl
  have ln : lenD d = some xs.length := by rcases rowD_items hi hr with rfl | rfl <;> rfl
  rw [wf_is_falling, s_of, w_is_falling]
  try simp only [Lw_k50.sxA, Lw_k50.sxB, exists_eq_left, exists_eq_left', exists_eq', exists_eq, exists_and_left, eq_self, exists_true_left, exists_const, exists_eq_right, exists_false, if_false, if_true, Int.reduceToNat, Nat.reduceAdd, Nat.reduceSub, Nat.reduceLeDiff, Nat.reduceLT, reduceIte]
  refine t_is_row ty ?_
  try simp only [Lw_k50.sxA, Lw_k50.sxB, exists_eq_left, exists_eq_left', exists_eq', exists_eq, exists_and_left, eq_self, exists_true_left, exists_const, exists_eq_right, exists_false, if_false, if_true, Int.reduceToNat, Nat.reduceAdd, Nat.reduceSub, Nat.reduceLeDiff, Nat.reduceLT, reduceIte, hr]
  refine ⟨_, ln, ?_⟩
  rw [if_pos (by simp; omega)]
  exact h
theorem fl_cnt {r : Nat} {d : D} {xs : List D} (h3 : r ≤ 3) (hr : rowD d = true) (hi : itemsD d = some xs) (ht : ∀ x ∈ xs, (tyD x).isSome = true) (hl : xs.length = r) (hc : xs.all cntD = false) (h : P (.bl false) k) : wf_is_falling c [.int r, d] k P := by
  have ty : (tyD d).isSome = true := by rcases rowD_items hi hr with rfl | rfl <;> rfl
  have ln : lenD d = some xs.length := by rcases rowD_items hi hr with rfl | rfl <;> rfl
  rw [wf_is_falling, s_of, w_is_falling]
  try simp only [Lw_k50.sxA, Lw_k50.sxB, exists_eq_left, exists_eq_left', exists_eq', exists_eq, exists_and_left, eq_self, exists_true_left, exists_const, exists_eq_right, exists_false, if_false, if_true, Int.reduceToNat, Nat.reduceAdd, Nat.reduceSub, Nat.reduceLeDiff, Nat.reduceLT, reduceIte]
  refine t_is_row ty ?_
  try simp only [Lw_k50.sxA, Lw_k50.sxB, exists_eq_left, exists_eq_left', exists_eq', exists_eq, exists_and_left, eq_self, exists_true_left, exists_const, exists_eq_right, exists_false, if_false, if_true, Int.reduceToNat, Nat.reduceAdd, Nat.reduceSub, Nat.reduceLeDiff, Nat.reduceLT, reduceIte, hr]
  refine ⟨_, ln, ?_⟩
  rw [if_neg (by simp; omega)]
  refine ⟨_, hi, ?_⟩
  have e : xs = xs.map id := by simp
  rw [e]
  refine lc_map id D.bl cntD (sz (by omega)) (fun x hx R hR => ?_) ?_
  · try simp only [Lw_k50.sxA, Lw_k50.sxB, exists_eq_left, exists_eq_left', exists_eq', exists_eq, exists_and_left, eq_self, exists_true_left, exists_const, exists_eq_right, exists_false, if_false, if_true, Int.reduceToNat, Nat.reduceAdd, Nat.reduceSub, Nat.reduceLeDiff, Nat.reduceLT, reduceIte, lcStep, id]
    exact t_is_count (ht x hx) hR
  · try simp only [Lw_k50.sxA, Lw_k50.sxB, exists_eq_left, exists_eq_left', exists_eq', exists_eq, exists_and_left, eq_self, exists_true_left, exists_const, exists_eq_right, exists_false, if_false, if_true, Int.reduceToNat, Nat.reduceAdd, Nat.reduceSub, Nat.reduceLeDiff, Nat.reduceLT, reduceIte]
    have e2 : (List.map cntD xs).all id = false := by rw [List.all_map]; exact hc
    rw [e2]
    simpa using h
theorem zip_pD (xs ys : List Int) : zipD (xs.map .int) (ys.map .int) = (xs.zip ys).map pD := by
  unfold zipD
  rw [List.zipWith_map, List.zip, List.map_zipWith]
theorem fl_int {r : Nat} {d : D} {xs : List Int} (h3 : r ≤ 3) (hr : rowD d = true) (hi : itemsD d = some (xs.map .int)) (hl : xs.length = r) (h0 : ∀ x ∈ xs, 0 ≤ x) (h : P (.bl (fal xs)) k) : wf_is_falling c [.int r, d] k P := by
  have ty : (tyD d).isSome = true := by rcases rowD_items hi hr with rfl | rfl <;> rfl
  have ln : lenD d = some xs.length := by rcases rowD_items hi hr with rfl | rfl <;> simp [lenD]
  rw [wf_is_falling, s_of, w_is_falling]
  try simp only [Lw_k50.sxA, Lw_k50.sxB, exists_eq_left, exists_eq_left', exists_eq', exists_eq, exists_and_left, eq_self, exists_true_left, exists_const, exists_eq_right, exists_false, if_false, if_true, Int.reduceToNat, Nat.reduceAdd, Nat.reduceSub, Nat.reduceLeDiff, Nat.reduceLT, reduceIte]
  refine t_is_row ty ?_
  try simp only [Lw_k50.sxA, Lw_k50.sxB, exists_eq_left, exists_eq_left', exists_eq', exists_eq, exists_and_left, eq_self, exists_true_left, exists_const, exists_eq_right, exists_false, if_false, if_true, Int.reduceToNat, Nat.reduceAdd, Nat.reduceSub, Nat.reduceLeDiff, Nat.reduceLT, reduceIte, hr]
  refine ⟨_, ln, ?_⟩
  rw [if_neg (by simp; omega)]
  refine ⟨_, hi, ?_⟩
  refine lc_map D.int D.bl (fun _ => true) (sz (by omega)) (fun x hx R hR => ?_) ?_
  · try simp only [Lw_k50.sxA, Lw_k50.sxB, exists_eq_left, exists_eq_left', exists_eq', exists_eq, exists_and_left, eq_self, exists_true_left, exists_const, exists_eq_right, exists_false, if_false, if_true, Int.reduceToNat, Nat.reduceAdd, Nat.reduceSub, Nat.reduceLeDiff, Nat.reduceLT, reduceIte, lcStep]
    refine t_is_count rfl ?_
    rw [cntD, decide_eq_true (h0 x hx)]
    exact hR
  · try simp only [Lw_k50.sxA, Lw_k50.sxB, exists_eq_left, exists_eq_left', exists_eq', exists_eq, exists_and_left, eq_self, exists_true_left, exists_const, exists_eq_right, exists_false, if_false, if_true, Int.reduceToNat, Nat.reduceAdd, Nat.reduceSub, Nat.reduceLeDiff, Nat.reduceLT, reduceIte]
    rw [if_neg (by simp)]
    rcases rowD_items hi hr with rfl | rfl
    · try simp only [Lw_k50.sxA, Lw_k50.sxB, exists_eq_left, exists_eq_left', exists_eq', exists_eq, exists_and_left, eq_self, exists_true_left, exists_const, exists_eq_right, exists_false, if_false, if_true, Int.reduceToNat, Nat.reduceAdd, Nat.reduceSub, Nat.reduceLeDiff, Nat.reduceLT, reduceIte]
      have ec : cutD (xs.map D.int) (some 1) none = (xs.drop 1).map .int := by rw [show (1 : Int) = ((1 : Nat) : Int) from rfl, cut_from, List.map_drop]
      rw [ec, zip_pD]
      refine lc_map pD D.bl (fun p => decide (p.2 ≤ p.1)) (sz (by rw [List.length_zip]; omega)) (fun p hp R hR => ?_) ?_
      · try simp only [Lw_k50.sxA, Lw_k50.sxB, exists_eq_left, exists_eq_left', exists_eq', exists_eq, exists_and_left, eq_self, exists_true_left, exists_const, exists_eq_right, exists_false, if_false, if_true, Int.reduceToNat, Nat.reduceAdd, Nat.reduceSub, Nat.reduceLeDiff, Nat.reduceLT, reduceIte, lcStep]
        exact hR
      · try simp only [Lw_k50.sxA, Lw_k50.sxB, exists_eq_left, exists_eq_left', exists_eq', exists_eq, exists_and_left, eq_self, exists_true_left, exists_const, exists_eq_right, exists_false, if_false, if_true, Int.reduceToNat, Nat.reduceAdd, Nat.reduceSub, Nat.reduceLeDiff, Nat.reduceLT, reduceIte]
        exact h
    · try simp only [Lw_k50.sxA, Lw_k50.sxB, exists_eq_left, exists_eq_left', exists_eq', exists_eq, exists_and_left, eq_self, exists_true_left, exists_const, exists_eq_right, exists_false, if_false, if_true, Int.reduceToNat, Nat.reduceAdd, Nat.reduceSub, Nat.reduceLeDiff, Nat.reduceLT, reduceIte]
      have ec : cutD (xs.map D.int) (some 1) none = (xs.drop 1).map .int := by rw [show (1 : Int) = ((1 : Nat) : Int) from rfl, cut_from, List.map_drop]
      rw [ec, zip_pD]
      refine lc_map pD D.bl (fun p => decide (p.2 ≤ p.1)) (sz (by rw [List.length_zip]; omega)) (fun p hp R hR => ?_) ?_
      · try simp only [Lw_k50.sxA, Lw_k50.sxB, exists_eq_left, exists_eq_left', exists_eq', exists_eq, exists_and_left, eq_self, exists_true_left, exists_const, exists_eq_right, exists_false, if_false, if_true, Int.reduceToNat, Nat.reduceAdd, Nat.reduceSub, Nat.reduceLeDiff, Nat.reduceLT, reduceIte, lcStep]
        exact hR
      · try simp only [Lw_k50.sxA, Lw_k50.sxB, exists_eq_left, exists_eq_left', exists_eq', exists_eq, exists_and_left, eq_self, exists_true_left, exists_const, exists_eq_right, exists_false, if_false, if_true, Int.reduceToNat, Nat.reduceAdd, Nat.reduceSub, Nat.reduceLeDiff, Nat.reduceLT, reduceIte]
        exact h
/-- a row as it is given: a list (true) or a tuple -/
def uD (p : Bool × List Int) : D := if p.1 then L p.2 else I p.2
theorem uD_row (p : Bool × List Int) : rowD (uD p) = true ∧ itemsD (uD p) = some (p.2.map .int) := by
  unfold uD
  cases p.1 <;> exact ⟨rfl, rfl⟩
/-- a falling row of r numbers -/
structure Rw (r : Nat) (xs : List Int) : Prop where
  len : xs.length = r
  fa : fal xs = true
  lo : ∀ x ∈ xs, 0 ≤ x
  hi : ∀ x ∈ xs, x ≤ 100
theorem nums_u (p : Bool × List Int) : numsD (uD p) = some p.2 := by
  unfold uD
  cases p.1 <;> exact intsD_map _
def tot (rows : List (Bool × List Int)) : Int := (rows.map fun p => p.2.sum).sum
theorem t_need_triple {r : Nat} {rows : List (Bool × List Int)} (hr : r = 2 ∨ r = 3) (hl : rows.length ≤ 3) (hR : ∀ p ∈ rows, Rw r p.2) (h : if tot rows % (r : Int) = 0 then P (.tup [.lst (rows.map fun p => I p.2), .int (tot rows / (r : Int))]) k else k.2.xc ⟨.ref c.C_BadNumber, ["value", "what"], [.int (tot rows), .str "sum"]⟩ k.1) : wf_need_triple c [.int r, .lst (rows.map uD)] k P := by
  rw [wf_need_triple, s_of, w_need_triple]
  try simp only [Lw_k50.sxA, Lw_k50.sxB, exists_eq_left, exists_eq_left', exists_eq', exists_eq, exists_and_left, eq_self, exists_true_left, exists_const, exists_eq_right, exists_false, if_false, if_true, Int.reduceToNat, Nat.reduceAdd, Nat.reduceSub, Nat.reduceLeDiff, Nat.reduceLT, reduceIte]
  refine t_need_r (by omega) ?_
  try simp only [Lw_k50.sxA, Lw_k50.sxB, exists_eq_left, exists_eq_left', exists_eq', exists_eq, exists_and_left, eq_self, exists_true_left, exists_const, exists_eq_right, exists_false, if_false, if_true, Int.reduceToNat, Nat.reduceAdd, Nat.reduceSub, Nat.reduceLeDiff, Nat.reduceLT, reduceIte]
  refine for_map uD (fun rest ρ => (∀ p ∈ rest, Rw r p.2) ∧ ∃ s2, ρ = [.val (.int r), .val (.lst (rows.map uD)), s2, .un]) (fun p rest ρ N hI hN => ?_) (fun ρ hI => ?_) rows _ ⟨hR, _, rfl⟩
  · obtain ⟨h1, s2, rfl⟩ := hI
    have hp := h1 p List.mem_cons_self
    try simp only [Lw_k50.sxA, Lw_k50.sxB, exists_eq_left, exists_eq_left', exists_eq', exists_eq, exists_and_left, eq_self, exists_true_left, exists_const, exists_eq_right, exists_false, if_false, if_true, Int.reduceToNat, Nat.reduceAdd, Nat.reduceSub, Nat.reduceLeDiff, Nat.reduceLT, reduceIte]
    refine fl_int (by omega) (uD_row p).1 (uD_row p).2 hp.len hp.lo ?_
    rw [hp.fa]
    try simp only [Lw_k50.sxA, Lw_k50.sxB, exists_eq_left, exists_eq_left', exists_eq', exists_eq, exists_and_left, eq_self, exists_true_left, exists_const, exists_eq_right, exists_false, if_false, if_true, Int.reduceToNat, Nat.reduceAdd, Nat.reduceSub, Nat.reduceLeDiff, Nat.reduceLT, reduceIte]
    exact hN _ ⟨fun q hq => h1 q (List.mem_cons_of_mem _ hq), _, rfl⟩
  · obtain ⟨_, s2, rfl⟩ := hI
    try simp only [Lw_k50.sxA, Lw_k50.sxB, exists_eq_left, exists_eq_left', exists_eq', exists_eq, exists_and_left, eq_self, exists_true_left, exists_const, exists_eq_right, exists_false, if_false, if_true, Int.reduceToNat, Nat.reduceAdd, Nat.reduceSub, Nat.reduceLeDiff, Nat.reduceLT, reduceIte]
    refine lc_map uD D.int (fun p => p.2.sum) (sz (by omega)) (fun p hp R hR => ?_) ?_
    · try simp only [Lw_k50.sxA, Lw_k50.sxB, exists_eq_left, exists_eq_left', exists_eq', exists_eq, exists_and_left, eq_self, exists_true_left, exists_const, exists_eq_right, exists_false, if_false, if_true, Int.reduceToNat, Nat.reduceAdd, Nat.reduceSub, Nat.reduceLeDiff, Nat.reduceLT, reduceIte, lcStep]
      exact ⟨_, nums_u p, hR⟩
    · try simp only [Lw_k50.sxA, Lw_k50.sxB, exists_eq_left, exists_eq_left', exists_eq', exists_eq, exists_and_left, eq_self, exists_true_left, exists_const, exists_eq_right, exists_false, if_false, if_true, Int.reduceToNat, Nat.reduceAdd, Nat.reduceSub, Nat.reduceLeDiff, Nat.reduceLT, reduceIte]
      have e0 : (List.map (fun p : Bool × List Int => p.snd.sum) rows).sum = tot rows := rfl
      rw [e0, Int.fmod_eq_emod_of_nonneg _ (by omega)]
      refine ⟨by omega, ?_⟩
      by_cases e : tot rows % (r : Int) = 0
      · rw [if_pos e] at h
        rw [if_neg (by simp [e])]
        refine lc_map uD I (fun p => p.2) (sz (by omega)) (fun p hp R hR => ?_) ?_
        · try simp only [Lw_k50.sxA, Lw_k50.sxB, exists_eq_left, exists_eq_left', exists_eq', exists_eq, exists_and_left, eq_self, exists_true_left, exists_const, exists_eq_right, exists_false, if_false, if_true, Int.reduceToNat, Nat.reduceAdd, Nat.reduceSub, Nat.reduceLeDiff, Nat.reduceLT, reduceIte, lcStep]
          unfold uD
          cases p.1
          · exact hR
          · exact hR
        · try simp only [Lw_k50.sxA, Lw_k50.sxB, exists_eq_left, exists_eq_left', exists_eq', exists_eq, exists_and_left, eq_self, exists_true_left, exists_const, exists_eq_right, exists_false, if_false, if_true, Int.reduceToNat, Nat.reduceAdd, Nat.reduceSub, Nat.reduceLeDiff, Nat.reduceLT, reduceIte]
          rw [List.map_map, Int.fdiv_eq_ediv_of_nonneg _ (by omega)]
          exact ⟨⟨by omega, by omega⟩, h⟩
      · rw [if_neg e] at h
        rw [if_pos (by simp [e])]
        exact h
def difs (xs : List Int) : List Int := (xs.zip (xs.drop 1)).map fun p => p.1 - p.2
def lastI (xs : List Int) : Int := xs.getD (xs.length - 1) 0
theorem ec1 (xs : List Int) : cutD (xs.map D.int) (some 1) none = (xs.drop 1).map .int := by rw [show (1 : Int) = ((1 : Nat) : Int) from rfl, cut_from, List.map_drop]
theorem ix_last {r : Nat} {xs : List Int} (hr : r = 2 ∨ r = 3) (hl : xs.length = r) : atI (xs.map D.int) (-1) = some (.int (lastI xs)) := by
  refine atI_last (n := r) (by rw [List.length_map, hl]) (by omega) ?_
  rw [List.getElem?_map, lastI, hl, List.getD_eq_getElem?_getD, List.getElem?_eq_getElem (by omega)]
  rfl
theorem difs_len {r : Nat} {xs : List Int} (h : xs.length = r) : (difs xs).length = r - 1 := by
  rw [difs, List.length_map, List.length_zip, List.length_drop]; omega
theorem flat_len {r : Nat} : ∀ {rows : List (List Int)}, (∀ p ∈ rows, p.length = r) → (rows.map difs).flatten.length = rows.length * (r - 1)
  | [], _ => by simp
  | p :: rs, h => by
    rw [List.map_cons, List.flatten_cons, List.length_append, difs_len (h p List.mem_cons_self), flat_len fun q hq => h q (List.mem_cons_of_mem _ hq), List.length_cons, Nat.succ_mul]
    omega
theorem t_weights_of_triple {r : Nat} {rows : List (List Int)} {m : Int} (hr : r = 2 ∨ r = 3) (hl : rows.length ≤ 3) (hR : ∀ p ∈ rows, Rw r p) (h : P (I ((rows.map difs).flatten ++ [(rows.map lastI).sum - m])) k) : wf_weights_of_triple c [.int r, .lst (rows.map I), .int m] k P := by
  rw [wf_weights_of_triple, s_of, w_weights_of_triple]
  try simp only [Lw_k50.sxA, Lw_k50.sxB, exists_eq_left, exists_eq_left', exists_eq', exists_eq, exists_and_left, eq_self, exists_true_left, exists_const, exists_eq_right, exists_false, if_false, if_true, Int.reduceToNat, Nat.reduceAdd, Nat.reduceSub, Nat.reduceLeDiff, Nat.reduceLT, reduceIte]
  refine for_map I (fun rest ρ => ∃ pre s4 s5 s6, pre ++ rest = rows ∧ ρ = [.val (.int r), .val (.lst (rows.map I)), .val (.int m), .own (.l ((pre.map difs).flatten.map .int)), s4, s5, s6]) (fun p rest ρ N hI hN => ?_) (fun ρ hI => ?_) rows _ ⟨[], _, _, _, rfl, rfl⟩
  · obtain ⟨pre, s4, s5, s6, e, rfl⟩ := hI
    try simp only [Lw_k50.sxA, Lw_k50.sxB, exists_eq_left, exists_eq_left', exists_eq', exists_eq, exists_and_left, eq_self, exists_true_left, exists_const, exists_eq_right, exists_false, if_false, if_true, Int.reduceToNat, Nat.reduceAdd, Nat.reduceSub, Nat.reduceLeDiff, Nat.reduceLT, reduceIte]
    have hp := hR p (by rw [← e]; simp)
    have le : pre.length + (rest.length + 1) = rows.length := by rw [← e]; simp
    have lp := flat_len (r := r) (rows := pre) fun q hq => (hR q (by rw [← e]; simp [hq])).len
    rw [ec1, zip_pD]
    refine lc_map pD D.int (fun p => p.1 - p.2) (sz (by rw [List.length_zip, List.length_drop]; have := hp.len; omega)) (fun q hq R hR => ?_) ?_
    · try simp only [Lw_k50.sxA, Lw_k50.sxB, exists_eq_left, exists_eq_left', exists_eq', exists_eq, exists_and_left, eq_self, exists_true_left, exists_const, exists_eq_right, exists_false, if_false, if_true, Int.reduceToNat, Nat.reduceAdd, Nat.reduceSub, Nat.reduceLeDiff, Nat.reduceLT, reduceIte, lcStep]
      exact hR
    · try simp only [Lw_k50.sxA, Lw_k50.sxB, exists_eq_left, exists_eq_left', exists_eq', exists_eq, exists_and_left, eq_self, exists_true_left, exists_const, exists_eq_right, exists_false, if_false, if_true, Int.reduceToNat, Nat.reduceAdd, Nat.reduceSub, Nat.reduceLeDiff, Nat.reduceLT, reduceIte]
      have b1 : pre.length * (r - 1) ≤ 3 * 2 := Nat.mul_le_mul (by omega) (by omega)
      refine ⟨?_, hN _ ⟨pre ++ [p], .val (I p), .un, .un, by rw [List.append_assoc]; exact e, ?_⟩⟩
      · rw [lp, List.length_zip, List.length_drop]
        have := hp.len
        omega
      · rw [List.map_append, List.flatten_append, List.map_append, List.map_cons, List.map_nil, List.flatten_cons, List.flatten_nil, List.append_nil]; rfl
  · obtain ⟨pre, s4, s5, s6, e, rfl⟩ := hI
    rw [List.append_nil] at e
    subst e
    try simp only [Lw_k50.sxA, Lw_k50.sxB, exists_eq_left, exists_eq_left', exists_eq', exists_eq, exists_and_left, eq_self, exists_true_left, exists_const, exists_eq_right, exists_false, if_false, if_true, Int.reduceToNat, Nat.reduceAdd, Nat.reduceSub, Nat.reduceLeDiff, Nat.reduceLT, reduceIte]
    refine lc_map I D.int lastI (sz (by omega)) (fun p hp R hR' => ?_) ?_
    · try simp only [Lw_k50.sxA, Lw_k50.sxB, exists_eq_left, exists_eq_left', exists_eq', exists_eq, exists_and_left, eq_self, exists_true_left, exists_const, exists_eq_right, exists_false, if_false, if_true, Int.reduceToNat, Nat.reduceAdd, Nat.reduceSub, Nat.reduceLeDiff, Nat.reduceLT, reduceIte, lcStep]
      exact ⟨_, ix_last hr (hR p hp).len, hR'⟩
    · try simp only [Lw_k50.sxA, Lw_k50.sxB, exists_eq_left, exists_eq_left', exists_eq', exists_eq, exists_and_left, eq_self, exists_true_left, exists_const, exists_eq_right, exists_false, if_false, if_true, Int.reduceToNat, Nat.reduceAdd, Nat.reduceSub, Nat.reduceLeDiff, Nat.reduceLT, reduceIte]
      have lp := flat_len (r := r) (rows := pre) fun q hq => (hR q hq).len
      have b1 : pre.length * (r - 1) ≤ 3 * 2 := Nat.mul_le_mul (by omega) (by omega)
      have em : ∀ (A : List Int) (x : Int), A.map D.int ++ [D.int x] = (A ++ [x]).map .int := fun A x => by rw [List.map_append]; rfl
      rw [em]
      exact ⟨by rw [lp]; omega, h⟩
/-- the weights of three rows -/
def wts (r : Nat) (rows : List (Bool × List Int)) : List Int := ((rows.map fun p => p.2).map difs).flatten ++ [((rows.map fun p => p.2).map lastI).sum - tot rows / (r : Int)]
theorem t_flag_weights {r : Nat} {p q s : Bool × List Int} (hr : r = 2 ∨ r = 3) (hp : Rw r p.2) (hq : Rw r q.2) (hs : Rw r s.2) (h : if tot [p, q, s] % (r : Int) = 0 then P (I (wts r [p, q, s])) k else k.2.xc ⟨.ref c.C_BadNumber, ["value", "what"], [.int (tot [p, q, s]), .str "sum"]⟩ k.1) : wf_flag_weights c [.int r, uD p, uD q, uD s] k P := by
  rw [wf_flag_weights, s_of, w_flag_weights]
  try simp only [Lw_k50.sxA, Lw_k50.sxB, exists_eq_left, exists_eq_left', exists_eq', exists_eq, exists_and_left, eq_self, exists_true_left, exists_const, exists_eq_right, exists_false, if_false, if_true, Int.reduceToNat, Nat.reduceAdd, Nat.reduceSub, Nat.reduceLeDiff, Nat.reduceLT, reduceIte]
  refine t_need_triple (rows := [p, q, s]) hr (by simp) (by simp [hp, hq, hs]) ?_
  by_cases e : tot [p, q, s] % (r : Int) = 0
  · rw [if_pos e] at h ⊢
    try simp only [Lw_k50.sxA, Lw_k50.sxB, exists_eq_left, exists_eq_left', exists_eq', exists_eq, exists_and_left, eq_self, exists_true_left, exists_const, exists_eq_right, exists_false, if_false, if_true, Int.reduceToNat, Nat.reduceAdd, Nat.reduceSub, Nat.reduceLeDiff, Nat.reduceLT, reduceIte]
    exact t_weights_of_triple (rows := [p.2, q.2, s.2]) hr (by simp) (by simp [hp, hq, hs]) h
  · rw [if_neg e] at h ⊢
    exact h
/-- no falling row -/
def NoF (c : CA) (r : Nat) (d : D) : Prop := (tyD d).isSome = true ∧ Rp d ∧ ∀ (P : D → Kt → Prop) (k : Kt), P (.bl false) k → wf_is_falling c [.int r, d] k P
theorem t_fw_1 {r : Nat} {d : D} (hr : r = 2 ∨ r = 3) (hd : NoF c r d) (h : k.2.xc ⟨.ref c.C_BadRow, ["value"], [d]⟩ k.1) : wf_flag_weights c [.int r, d, .non, .non] k P := by
  rw [wf_flag_weights, s_of, w_flag_weights]
  try simp only [Lw_k50.sxA, Lw_k50.sxB, exists_eq_left, exists_eq_left', exists_eq', exists_eq, exists_and_left, eq_self, exists_true_left, exists_const, exists_eq_right, exists_false, if_false, if_true, Int.reduceToNat, Nat.reduceAdd, Nat.reduceSub, Nat.reduceLeDiff, Nat.reduceLT, reduceIte]
  rw [wf_need_triple, s_of, w_need_triple]
  try simp only [Lw_k50.sxA, Lw_k50.sxB, exists_eq_left, exists_eq_left', exists_eq', exists_eq, exists_and_left, eq_self, exists_true_left, exists_const, exists_eq_right, exists_false, if_false, if_true, Int.reduceToNat, Nat.reduceAdd, Nat.reduceSub, Nat.reduceLeDiff, Nat.reduceLT, reduceIte]
  refine t_need_r (by omega) ?_
  simp only [fw_cons, fw_nil, Lw_k50.sxA, Lw_k50.sxB, exists_eq_left, exists_eq_left', exists_eq', exists_eq, exists_and_left, eq_self, exists_true_left, exists_const, exists_eq_right, exists_false, if_false, if_true, Int.reduceToNat, Nat.reduceAdd, Nat.reduceSub, Nat.reduceLeDiff, Nat.reduceLT, reduceIte]
  refine hd.2.2 _ _ ?_
  try simp only [Lw_k50.sxA, Lw_k50.sxB, exists_eq_left, exists_eq_left', exists_eq', exists_eq, exists_and_left, eq_self, exists_true_left, exists_const, exists_eq_right, exists_false, if_false, if_true, Int.reduceToNat, Nat.reduceAdd, Nat.reduceSub, Nat.reduceLeDiff, Nat.reduceLT, reduceIte]
  exact h
theorem t_fw_2 {r : Nat} {d : D} {p : Bool × List Int} (hr : r = 2 ∨ r = 3) (hp : Rw r p.2) (hd : NoF c r d) (h : k.2.xc ⟨.ref c.C_BadRow, ["value"], [d]⟩ k.1) : wf_flag_weights c [.int r, uD p, d, .non] k P := by
  rw [wf_flag_weights, s_of, w_flag_weights]
  try simp only [Lw_k50.sxA, Lw_k50.sxB, exists_eq_left, exists_eq_left', exists_eq', exists_eq, exists_and_left, eq_self, exists_true_left, exists_const, exists_eq_right, exists_false, if_false, if_true, Int.reduceToNat, Nat.reduceAdd, Nat.reduceSub, Nat.reduceLeDiff, Nat.reduceLT, reduceIte]
  rw [wf_need_triple, s_of, w_need_triple]
  try simp only [Lw_k50.sxA, Lw_k50.sxB, exists_eq_left, exists_eq_left', exists_eq', exists_eq, exists_and_left, eq_self, exists_true_left, exists_const, exists_eq_right, exists_false, if_false, if_true, Int.reduceToNat, Nat.reduceAdd, Nat.reduceSub, Nat.reduceLeDiff, Nat.reduceLT, reduceIte]
  refine t_need_r (by omega) ?_
  simp only [fw_cons, fw_nil, Lw_k50.sxA, Lw_k50.sxB, exists_eq_left, exists_eq_left', exists_eq', exists_eq, exists_and_left, eq_self, exists_true_left, exists_const, exists_eq_right, exists_false, if_false, if_true, Int.reduceToNat, Nat.reduceAdd, Nat.reduceSub, Nat.reduceLeDiff, Nat.reduceLT, reduceIte]
  refine fl_int (by omega) (uD_row p).1 (uD_row p).2 hp.len hp.lo ?_
  rw [hp.fa]
  try simp only [Lw_k50.sxA, Lw_k50.sxB, exists_eq_left, exists_eq_left', exists_eq', exists_eq, exists_and_left, eq_self, exists_true_left, exists_const, exists_eq_right, exists_false, if_false, if_true, Int.reduceToNat, Nat.reduceAdd, Nat.reduceSub, Nat.reduceLeDiff, Nat.reduceLT, reduceIte]
  refine hd.2.2 _ _ ?_
  try simp only [Lw_k50.sxA, Lw_k50.sxB, exists_eq_left, exists_eq_left', exists_eq', exists_eq, exists_and_left, eq_self, exists_true_left, exists_const, exists_eq_right, exists_false, if_false, if_true, Int.reduceToNat, Nat.reduceAdd, Nat.reduceSub, Nat.reduceLeDiff, Nat.reduceLT, reduceIte]
  exact h
theorem t_fw_3 {r : Nat} {d : D} {p q : Bool × List Int} (hr : r = 2 ∨ r = 3) (hp : Rw r p.2) (hq : Rw r q.2) (hd : NoF c r d) (h : k.2.xc ⟨.ref c.C_BadRow, ["value"], [d]⟩ k.1) : wf_flag_weights c [.int r, uD p, uD q, d] k P := by
  rw [wf_flag_weights, s_of, w_flag_weights]
  try simp only [Lw_k50.sxA, Lw_k50.sxB, exists_eq_left, exists_eq_left', exists_eq', exists_eq, exists_and_left, eq_self, exists_true_left, exists_const, exists_eq_right, exists_false, if_false, if_true, Int.reduceToNat, Nat.reduceAdd, Nat.reduceSub, Nat.reduceLeDiff, Nat.reduceLT, reduceIte]
  rw [wf_need_triple, s_of, w_need_triple]
  try simp only [Lw_k50.sxA, Lw_k50.sxB, exists_eq_left, exists_eq_left', exists_eq', exists_eq, exists_and_left, eq_self, exists_true_left, exists_const, exists_eq_right, exists_false, if_false, if_true, Int.reduceToNat, Nat.reduceAdd, Nat.reduceSub, Nat.reduceLeDiff, Nat.reduceLT, reduceIte]
  refine t_need_r (by omega) ?_
  simp only [fw_cons, fw_nil, Lw_k50.sxA, Lw_k50.sxB, exists_eq_left, exists_eq_left', exists_eq', exists_eq, exists_and_left, eq_self, exists_true_left, exists_const, exists_eq_right, exists_false, if_false, if_true, Int.reduceToNat, Nat.reduceAdd, Nat.reduceSub, Nat.reduceLeDiff, Nat.reduceLT, reduceIte]
  refine fl_int (by omega) (uD_row p).1 (uD_row p).2 hp.len hp.lo ?_
  rw [hp.fa]
  try simp only [Lw_k50.sxA, Lw_k50.sxB, exists_eq_left, exists_eq_left', exists_eq', exists_eq, exists_and_left, eq_self, exists_true_left, exists_const, exists_eq_right, exists_false, if_false, if_true, Int.reduceToNat, Nat.reduceAdd, Nat.reduceSub, Nat.reduceLeDiff, Nat.reduceLT, reduceIte]
  refine fl_int (by omega) (uD_row q).1 (uD_row q).2 hq.len hq.lo ?_
  rw [hq.fa]
  try simp only [Lw_k50.sxA, Lw_k50.sxB, exists_eq_left, exists_eq_left', exists_eq', exists_eq, exists_and_left, eq_self, exists_true_left, exists_const, exists_eq_right, exists_false, if_false, if_true, Int.reduceToNat, Nat.reduceAdd, Nat.reduceSub, Nat.reduceLeDiff, Nat.reduceLT, reduceIte]
  refine hd.2.2 _ _ ?_
  try simp only [Lw_k50.sxA, Lw_k50.sxB, exists_eq_left, exists_eq_left', exists_eq', exists_eq, exists_and_left, eq_self, exists_true_left, exists_const, exists_eq_right, exists_false, if_false, if_true, Int.reduceToNat, Nat.reduceAdd, Nat.reduceSub, Nat.reduceLeDiff, Nat.reduceLT, reduceIte]
  exact h
theorem t_fw_r {d e f g : D} (hd : OddR d) (h : k.2.xc ⟨.ref c.C_BadNumber, ["value", "what"], [d, .str "r"]⟩ k.1) : wf_flag_weights c [d, e, f, g] k P := by
  rw [wf_flag_weights, s_of, w_flag_weights]
  try simp only [Lw_k50.sxA, Lw_k50.sxB, exists_eq_left, exists_eq_left', exists_eq', exists_eq, exists_and_left, eq_self, exists_true_left, exists_const, exists_eq_right, exists_false, if_false, if_true, Int.reduceToNat, Nat.reduceAdd, Nat.reduceSub, Nat.reduceLeDiff, Nat.reduceLT, reduceIte]
  rw [wf_need_triple, s_of, w_need_triple]
  try simp only [Lw_k50.sxA, Lw_k50.sxB, exists_eq_left, exists_eq_left', exists_eq', exists_eq, exists_and_left, eq_self, exists_true_left, exists_const, exists_eq_right, exists_false, if_false, if_true, Int.reduceToNat, Nat.reduceAdd, Nat.reduceSub, Nat.reduceLeDiff, Nat.reduceLT, reduceIte]
  exact t_need_r' hd h
theorem t_fh_r {d : D} (hd : OddR d) (h : k.2.xc ⟨.ref c.C_BadNumber, ["value", "what"], [d, .str "r"]⟩ k.1) : wf_flag_hall c [d] k P := by
  rw [wf_flag_hall, s_of, w_flag_hall]
  try simp only [Lw_k50.sxA, Lw_k50.sxB, exists_eq_left, exists_eq_left', exists_eq', exists_eq, exists_and_left, eq_self, exists_true_left, exists_const, exists_eq_right, exists_false, if_false, if_true, Int.reduceToNat, Nat.reduceAdd, Nat.reduceSub, Nat.reduceLeDiff, Nat.reduceLT, reduceIte]
  exact t_need_r' hd h
theorem t_fs_r {d : D} (hd : OddR d) (h : k.2.xc ⟨.ref c.C_BadNumber, ["value", "what"], [d, .str "r"]⟩ k.1) : wf_flag_sizes c [d] k P := by
  rw [wf_flag_sizes, s_of, w_flag_sizes]
  try simp only [Lw_k50.sxA, Lw_k50.sxB, exists_eq_left, exists_eq_left', exists_eq', exists_eq, exists_and_left, eq_self, exists_true_left, exists_const, exists_eq_right, exists_false, if_false, if_true, Int.reduceToNat, Nat.reduceAdd, Nat.reduceSub, Nat.reduceLeDiff, Nat.reduceLT, reduceIte]
  exact t_need_r' hd h
end Lw_k50

set_option Elab.async false
set_option linter.all false
set_option maxRecDepth 100000
set_option maxHeartbeats 1000000
/-! k50: the law's own defs -/
namespace Lw_k50
open PySem L2 DL
variable {c : CA} {k : Kt} {P : D → Kt → Prop} {a : Addr}
theorem t_law_is_int {d : D} (hd : (tyD d).isSome = true) (h : P (.bl (intD d)) k) : wf__law_is_int c [d] k P := by
  rw [wf__law_is_int, s_of, w__law_is_int]
  try simp only [Lw_k50.sxA, Lw_k50.sxB, exists_eq_left, exists_eq_left', exists_eq', exists_eq, exists_and_left, eq_self, exists_true_left, exists_const, exists_eq_right, exists_false, if_false, if_true, Int.reduceToNat, Nat.reduceAdd, Nat.reduceSub, Nat.reduceLeDiff, Nat.reduceLT, reduceIte]
  cases d <;> first | (simp [tyD] at hd; done) | (simp only [Lw_k50.sxA, Lw_k50.sxB, exists_eq_left, exists_eq_left', exists_eq', exists_eq, exists_and_left, eq_self, exists_true_left, exists_const, exists_eq_right, exists_false, if_false, if_true, Int.reduceToNat, Nat.reduceAdd, Nat.reduceSub, Nat.reduceLeDiff, Nat.reduceLT, reduceIte]; exact h)
theorem t_is_ints {xs : List Int} {n : Int} (hl : (xs.length : Int) = n) (hx : xs.length ≤ 1000) (h : P (.bl true) k) : wf__law_is_ints c [I xs, .int n] k P := by
  rw [wf__law_is_ints, s_of, w__law_is_ints]
  try simp only [Lw_k50.sxA, Lw_k50.sxB, exists_eq_left, exists_eq_left', exists_eq', exists_eq, exists_and_left, eq_self, exists_true_left, exists_const, exists_eq_right, exists_false, if_false, if_true, Int.reduceToNat, Nat.reduceAdd, Nat.reduceSub, Nat.reduceLeDiff, Nat.reduceLT, reduceIte]
  rw [if_pos (decide_eq_true hl)]
  refine lc_filt D.int D.int (fun _ => none) (sz (by omega)) (fun x hx R hR => ?_) ?_
  · try simp only [Lw_k50.sxA, Lw_k50.sxB, exists_eq_left, exists_eq_left', exists_eq', exists_eq, exists_and_left, eq_self, exists_true_left, exists_const, exists_eq_right, exists_false, if_false, if_true, Int.reduceToNat, Nat.reduceAdd, Nat.reduceSub, Nat.reduceLeDiff, Nat.reduceLT, reduceIte, lcStep]
    refine t_law_is_int rfl ?_
    try simp only [Lw_k50.sxA, Lw_k50.sxB, exists_eq_left, exists_eq_left', exists_eq', exists_eq, exists_and_left, eq_self, exists_true_left, exists_const, exists_eq_right, exists_false, if_false, if_true, Int.reduceToNat, Nat.reduceAdd, Nat.reduceSub, Nat.reduceLeDiff, Nat.reduceLT, reduceIte, intD]
    exact hR
  · have e0 : List.filterMap (fun _ : Int => (none : Option Int)) xs = [] := by
      rw [List.filterMap_eq_nil_iff]; intros; rfl
    rw [e0]
    try simp only [Lw_k50.sxA, Lw_k50.sxB, exists_eq_left, exists_eq_left', exists_eq', exists_eq, exists_and_left, eq_self, exists_true_left, exists_const, exists_eq_right, exists_false, if_false, if_true, Int.reduceToNat, Nat.reduceAdd, Nat.reduceSub, Nat.reduceLeDiff, Nat.reduceLT, reduceIte]
    exact ⟨by decide, by decide, h⟩
theorem t_weight {ws xs : List Int} (hl : ws.length ≤ 1000) (hx : ∀ x ∈ xs, -100 ≤ x ∧ x ≤ 100) (h : P (.int ((ws.zip xs).map fun p => p.1 * p.2).sum) k) : wf__law_weight c [I ws, I xs] k P := by
  rw [wf__law_weight, s_of, w__law_weight]
  try simp only [Lw_k50.sxA, Lw_k50.sxB, exists_eq_left, exists_eq_left', exists_eq', exists_eq, exists_and_left, eq_self, exists_true_left, exists_const, exists_eq_right, exists_false, if_false, if_true, Int.reduceToNat, Nat.reduceAdd, Nat.reduceSub, Nat.reduceLeDiff, Nat.reduceLT, reduceIte]
  rw [zip_pD]
  refine lc_map pD D.int (fun p => p.1 * p.2) (sz (by rw [List.length_zip]; omega)) (fun p hp R hR => ?_) ?_
  · try simp only [Lw_k50.sxA, Lw_k50.sxB, exists_eq_left, exists_eq_left', exists_eq', exists_eq, exists_and_left, eq_self, exists_true_left, exists_const, exists_eq_right, exists_false, if_false, if_true, Int.reduceToNat, Nat.reduceAdd, Nat.reduceSub, Nat.reduceLeDiff, Nat.reduceLT, reduceIte, lcStep]
    have := hx _ (List.of_mem_zip hp).2
    exact ⟨.inr ⟨by omega, by omega⟩, hR⟩
  · try simp only [Lw_k50.sxA, Lw_k50.sxB, exists_eq_left, exists_eq_left', exists_eq', exists_eq, exists_and_left, eq_self, exists_true_left, exists_const, exists_eq_right, exists_false, if_false, if_true, Int.reduceToNat, Nat.reduceAdd, Nat.reduceSub, Nat.reduceLeDiff, Nat.reduceLT, reduceIte]
    exact h
theorem t_listed_row {xs : List Int} (hk : k.2.pen = some a) (hc : k.1 < 1000000000) (h : ∀ b k', Dr 1 k k' → P (uD (b, xs)) k') : wf__law_listed_row c [.obj a, L xs] k P := by
  rw [wf__law_listed_row, s_of, w__law_listed_row]
  try simp only [Lw_k50.sxA, Lw_k50.sxB, exists_eq_left, exists_eq_left', exists_eq', exists_eq, exists_and_left, eq_self, exists_true_left, exists_const, exists_eq_right, exists_false, if_false, if_true, Int.reduceToNat, Nat.reduceAdd, Nat.reduceSub, Nat.reduceLeDiff, Nat.reduceLT, reduceIte]
  refine t_dr hk (by omega) (by omega) (by omega) fun x k' x0 x1 d => ?_
  try simp only [Lw_k50.sxA, Lw_k50.sxB, exists_eq_left, exists_eq_left', exists_eq', exists_eq, exists_and_left, eq_self, exists_true_left, exists_const, exists_eq_right, exists_false, if_false, if_true, Int.reduceToNat, Nat.reduceAdd, Nat.reduceSub, Nat.reduceLeDiff, Nat.reduceLT, reduceIte]
  by_cases e : x = 0
  · rw [if_pos (decide_eq_true e)]
    exact h true k' d
  · rw [if_neg (by simp [e])]
    exact h false k' d
theorem t_own_weights {r : Nat} {rows : List (List Int)} (hr : r = 2 ∨ r = 3) (hl : rows.length ≤ 3) (hR : ∀ p ∈ rows, Rw r p) (h : P (L ((rows.map difs).flatten ++ [(rows.map lastI).sum - (rows.map List.sum).sum / (r : Int)])) k) : wf__law_own_weights c [.int r, .lst (rows.map L)] k P := by
  rw [wf__law_own_weights, s_of, w__law_own_weights]
  try simp only [Lw_k50.sxA, Lw_k50.sxB, exists_eq_left, exists_eq_left', exists_eq', exists_eq, exists_and_left, eq_self, exists_true_left, exists_const, exists_eq_right, exists_false, if_false, if_true, Int.reduceToNat, Nat.reduceAdd, Nat.reduceSub, Nat.reduceLeDiff, Nat.reduceLT, reduceIte]
  refine for_map L (fun rest ρ => ∃ pre s3, pre ++ rest = rows ∧ ρ = [.val (.int r), .val (.lst (rows.map L)), .val (L (pre.map difs).flatten), s3, .un]) (fun p rest ρ N hI hN => ?_) (fun ρ hI => ?_) rows _ ⟨[], _, rfl, rfl⟩
  · obtain ⟨pre, s3, e, rfl⟩ := hI
    have hp := hR p (by rw [← e]; simp)
    have lp := flat_len (r := r) (rows := pre) fun q hq => (hR q (by rw [← e]; simp [hq])).len
    have le : pre.length + (rest.length + 1) = rows.length := by rw [← e]; simp
    have b1 : pre.length * (r - 1) ≤ 3 * 2 := Nat.mul_le_mul (by omega) (by omega)
    have hpl := hp.len
    try simp only [Lw_k50.sxA, Lw_k50.sxB, exists_eq_left, exists_eq_left', exists_eq', exists_eq, exists_and_left, eq_self, exists_true_left, exists_const, exists_eq_right, exists_false, if_false, if_true, Int.reduceToNat, Nat.reduceAdd, Nat.reduceSub, Nat.reduceLeDiff, Nat.reduceLT, reduceIte]
    refine ⟨by omega, by omega, ?_⟩
    rw [show ((r : Int) - 1).toNat = r - 1 by omega]
    refine lc_map D.int D.int (fun i => (p[i.toNat]?).getD 0 - (p[i.toNat + 1]?).getD 0) (sz (by rw [upto_len]; omega)) (fun i hi R hR' => ?_) ?_
    · have hi := upto_mem.mp hi
      obtain ⟨u, hu⟩ : ∃ u, p[i.toNat]? = some u := ⟨_, List.getElem?_eq_getElem (by omega)⟩
      obtain ⟨v, hv⟩ : ∃ v, p[i.toNat + 1]? = some v := ⟨_, List.getElem?_eq_getElem (by omega)⟩
      rw [hu, hv] at hR'
      try simp only [Lw_k50.sxA, Lw_k50.sxB, exists_eq_left, exists_eq_left', exists_eq', exists_eq, exists_and_left, eq_self, exists_true_left, exists_const, exists_eq_right, exists_false, if_false, if_true, Int.reduceToNat, Nat.reduceAdd, Nat.reduceSub, Nat.reduceLeDiff, Nat.reduceLT, reduceIte, lcStep]
      refine ⟨_, atI_z (n := i.toNat) (by omega) (by rw [List.getElem?_map, hu]; rfl), _, atI_z (n := i.toNat + 1) (by omega) (by rw [List.getElem?_map, hv]; rfl), ?_⟩
      try simp only [Lw_k50.sxA, Lw_k50.sxB, exists_eq_left, exists_eq_left', exists_eq', exists_eq, exists_and_left, eq_self, exists_true_left, exists_const, exists_eq_right, exists_false, if_false, if_true, Int.reduceToNat, Nat.reduceAdd, Nat.reduceSub, Nat.reduceLeDiff, Nat.reduceLT, reduceIte]
      exact hR'
    · try simp only [Lw_k50.sxA, Lw_k50.sxB, exists_eq_left, exists_eq_left', exists_eq', exists_eq, exists_and_left, eq_self, exists_true_left, exists_const, exists_eq_right, exists_false, if_false, if_true, Int.reduceToNat, Nat.reduceAdd, Nat.reduceSub, Nat.reduceLeDiff, Nat.reduceLT, reduceIte]
      have ed : (upto (r - 1)).map (fun i => (p[i.toNat]?).getD 0 - (p[i.toNat + 1]?).getD 0) = difs p := by
        rcases hr with rfl | rfl
        · match p, hpl with
          | [x, y], _ => rfl
        · match p, hpl with
          | [x, y, z], _ => rfl
      rw [ed, ← List.map_append]
      refine ⟨by omega, hN _ ⟨pre ++ [p], .val (L p), by rw [List.append_assoc]; exact e, ?_⟩⟩
      rw [show (List.map difs (pre ++ [p])).flatten = (pre.map difs).flatten ++ difs p by simp]
  · obtain ⟨pre, s3, e, rfl⟩ := hI
    rw [List.append_nil] at e
    subst e
    try simp only [Lw_k50.sxA, Lw_k50.sxB, exists_eq_left, exists_eq_left', exists_eq', exists_eq, exists_and_left, eq_self, exists_true_left, exists_const, exists_eq_right, exists_false, if_false, if_true, Int.reduceToNat, Nat.reduceAdd, Nat.reduceSub, Nat.reduceLeDiff, Nat.reduceLT, reduceIte]
    refine lc_map L D.int lastI (sz (by omega)) (fun p hp R hR' => ?_) ?_
    · try simp only [Lw_k50.sxA, Lw_k50.sxB, exists_eq_left, exists_eq_left', exists_eq', exists_eq, exists_and_left, eq_self, exists_true_left, exists_const, exists_eq_right, exists_false, if_false, if_true, Int.reduceToNat, Nat.reduceAdd, Nat.reduceSub, Nat.reduceLeDiff, Nat.reduceLT, reduceIte, lcStep]
      exact ⟨_, ix_last hr (hR p hp).len, hR'⟩
    · try simp only [Lw_k50.sxA, Lw_k50.sxB, exists_eq_left, exists_eq_left', exists_eq', exists_eq, exists_and_left, eq_self, exists_true_left, exists_const, exists_eq_right, exists_false, if_false, if_true, Int.reduceToNat, Nat.reduceAdd, Nat.reduceSub, Nat.reduceLeDiff, Nat.reduceLT, reduceIte]
      refine lc_map L D.int List.sum (sz (by omega)) (fun p hp R hR' => ?_) ?_
      · try simp only [Lw_k50.sxA, Lw_k50.sxB, exists_eq_left, exists_eq_left', exists_eq', exists_eq, exists_and_left, eq_self, exists_true_left, exists_const, exists_eq_right, exists_false, if_false, if_true, Int.reduceToNat, Nat.reduceAdd, Nat.reduceSub, Nat.reduceLeDiff, Nat.reduceLT, reduceIte, lcStep]
        exact hR'
      · try simp only [Lw_k50.sxA, Lw_k50.sxB, exists_eq_left, exists_eq_left', exists_eq', exists_eq, exists_and_left, eq_self, exists_true_left, exists_const, exists_eq_right, exists_false, if_false, if_true, Int.reduceToNat, Nat.reduceAdd, Nat.reduceSub, Nat.reduceLeDiff, Nat.reduceLT, reduceIte]
        have lp := flat_len (r := r) (rows := pre) fun q hq => (hR q hq).len
        have b1 : pre.length * (r - 1) ≤ 3 * 2 := Nat.mul_le_mul (by omega) (by omega)
        have em : ∀ (A : List Int) (x : Int), A.map D.int ++ [D.int x] = (A ++ [x]).map .int := fun A x => by rw [List.map_append]; rfl
        rw [em, Int.fdiv_eq_ediv_of_nonneg _ (by omega)]
        exact ⟨⟨by omega, by omega⟩, by rw [lp]; omega, h⟩
theorem t_some_falling {r m : Nat} (hr : r = 2 ∨ r = 3) (hm : m ≤ 7) (hk : k.2.pen = some a) (hc : k.1 < 100000000) (h : ∀ xs k', Rw r xs → (∀ x ∈ xs, x ≤ 7) → Dr r k k' → P (L xs) k') : wf__law_some_falling c [.obj a, .int r, .int m] k P := by
  rw [wf__law_some_falling, s_of, w__law_some_falling]
  try simp only [Lw_k50.sxA, Lw_k50.sxB, exists_eq_left, exists_eq_left', exists_eq', exists_eq, exists_and_left, eq_self, exists_true_left, exists_const, exists_eq_right, exists_false, if_false, if_true, Int.reduceToNat, Nat.reduceAdd, Nat.reduceSub, Nat.reduceLeDiff, Nat.reduceLT, reduceIte]
  refine ⟨by omega, by omega, ?_⟩
  refine lc_dr D.int (upto r) (fun _ y => ∃ x : Int, y = .int x ∧ 0 ≤ x ∧ x ≤ 7) 1 (k.1 + r) (sz (by rw [upto_len]; omega)) _ (by rw [upto_len]; simp) (fun x hx k1 R e1 b1 hR => ?_) fun ys k' hl ht hd => ?_
  · try simp only [Lw_k50.sxA, Lw_k50.sxB, exists_eq_left, exists_eq_left', exists_eq', exists_eq, exists_and_left, eq_self, exists_true_left, exists_const, exists_eq_right, exists_false, if_false, if_true, Int.reduceToNat, Nat.reduceAdd, Nat.reduceSub, Nat.reduceLeDiff, Nat.reduceLT, reduceIte, lcStep]
    refine t_dr (by rw [e1]; exact hk) (by omega) (by omega) (by omega) fun x k2 x0 x1 d => ?_
    exact hR _ k2 ⟨_, rfl, by omega, by omega⟩ d
  · obtain ⟨ns, rfl, e, hns⟩ := ofInts (ys := ys) (p := fun x => 0 ≤ x ∧ x ≤ 7) fun y hy => by
      obtain ⟨i, hi, e⟩ := List.getElem_of_mem hy
      exact ht i (i : Int) y (upto_get (by rw [upto_len] at hl; omega)) (by rw [List.getElem?_eq_getElem hi, e])
    try simp only [Lw_k50.sxA, Lw_k50.sxB, exists_eq_left, exists_eq_left', exists_eq', exists_eq, exists_and_left, eq_self, exists_true_left, exists_const, exists_eq_right, exists_false, if_false, if_true, Int.reduceToNat, Nat.reduceAdd, Nat.reduceSub, Nat.reduceLeDiff, Nat.reduceLT, reduceIte]
    rw [upto_len] at hl hd
    have hp := sortUp_perm ns
    have lr : (sortUp ns).reverse.length = r := by rw [List.length_reverse, hp.length_eq]; rw [List.length_map] at hl; exact hl
    refine h _ _ ⟨lr, ?_, fun x hx => (hns x (hp.mem_iff.mp (List.mem_reverse.mp hx))).1, fun x hx => by have := (hns x (hp.mem_iff.mp (List.mem_reverse.mp hx))).2; omega⟩ (fun x hx => (hns x (hp.mem_iff.mp (List.mem_reverse.mp hx))).2) (Dr.rsk (hd.le (by omega)))
    have so : (sortUp ns).reverse.Pairwise fun a b => b ≤ a := List.pairwise_reverse.mpr (sortUp_sorted ns)
    generalize (sortUp ns).reverse = xs at lr so
    rcases hr with rfl | rfl
    · match xs, lr, so with
      | [x, y], _, so => simp at so; simp [fal, so]
    · match xs, lr, so with
      | [x, y, z], _, so => simp at so; simp [fal, so]
end Lw_k50

set_option Elab.async false
set_option linter.all false
set_option maxRecDepth 100000
set_option maxHeartbeats 2000000
/-! k50: the law -/
namespace Lw_k50
open PySem L2 DL
variable {c : CA} {k : Kt} {P : D → Kt → Prop} {a : Addr}
theorem seq_hide {A B : WS} {E : DEnds} {ρ : En} {k : Kt} (h : ∀ T : WS, T = B → wSeq A T E ρ k) : wSeq A B E ρ k := h B rfl
theorem hd_number {d : D} {Q : D → Prop} {s x : Str} (hR : ∀ P : D → Prop, P (.str s) → rpK (toPy d) P) (h : Q (.tup [.str "number", .str x, .str s])) : hdsD ⟨.ref c.C_BadNumber, ["value", "what"], [d, .str x]⟩ (cs__law_heard c) Q := by
  unfold cs__law_heard
  try simp only [Lw_k50.sxA, Lw_k50.sxB, exists_eq_left, exists_eq_left', exists_eq', exists_eq, exists_and_left, eq_self, exists_true_left, exists_const, exists_eq_right, exists_false, if_false, if_true, Int.reduceToNat, Nat.reduceAdd, Nat.reduceSub, Nat.reduceLeDiff, Nat.reduceLT, reduceIte]
  exact hR _ h
theorem hd_row (hc : CAok c) {d : D} {Q : D → Prop} {s : Str} (hR : ∀ P : D → Prop, P (.str s) → rpK (toPy d) P) (h : Q (.tup [.str "row", .str s])) : hdsD ⟨.ref c.C_BadRow, ["value"], [d]⟩ (cs__law_heard c) Q := by
  unfold cs__law_heard
  try simp only [Lw_k50.sxA, Lw_k50.sxB, exists_eq_left, exists_eq_left', exists_eq', exists_eq, exists_and_left, eq_self, exists_true_left, exists_const, exists_eq_right, exists_false, if_false, if_true, Int.reduceToNat, Nat.reduceAdd, Nat.reduceSub, Nat.reduceLeDiff, Nat.reduceLT, reduceIte]
  have n1 : ¬ (Value.ref c.C_BadRow = .ref c.C_BadNumber) := fun z => hc.ne_BadRow_BadNumber (by injection z)
  rw [if_neg n1]
  exact hR _ h
theorem lean_ints (z : List Int) : leanD (I z) = true := by
  have : ∀ ys : List Int, leanL (ys.map .int) = true := fun ys => by
    induction ys with
    | nil => rfl
    | cons y r ih => rw [List.map_cons, leanL, ih]; rfl
  rw [I, leanD]; exact this z
theorem okD_rowsL (xs : List (List Int)) : okD (.lst (xs.map L)) = true := by
  have h : isPyL (xs.map L) = true ∧ PyData.canLayAll0 (pyL (xs.map L)) = true ∧ PyData.depthAll (pyL (xs.map L)) ≤ 1 := by
    induction xs with
    | nil => exact ⟨rfl, rfl, by simp [pyL, PyData.depthAll]⟩
    | cons x r ih =>
      obtain ⟨a1, a2, a3⟩ := ih
      refine ⟨by simp [isPyL, isPy, isPyL_ints, a1], by simp [pyL, py, PyData.canLayAll0, PyData.canLay0, canLay_ints, a2], ?_⟩
      simp only [List.map_cons, pyL, py, PyData.depthAll, PyData.depth, depth_ints]
      omega
  simp only [okD, isPy, py, SeqAt.shaped, PyData.canLay0, PyData.depth, h.1, h.2.1]
  simp
  omega
theorem sum_b {r : Nat} {xs : List Int} (hr : r = 2 ∨ r = 3) (h : Rw r xs) : 0 ≤ xs.sum ∧ xs.sum ≤ 3000 := by
  have h1 := h.len
  have h2 := h.lo
  have h3 := h.hi
  rcases hr with rfl | rfl
  · match xs, h1, h2, h3 with
    | [x, y], _, h2, h3 =>
      have := h2 x (by simp); have := h2 y (by simp); have := h3 x (by simp); have := h3 y (by simp)
      simp only [List.sum_cons, List.sum_nil]; omega
  · match xs, h1, h2, h3 with
    | [x, y, z], _, h2, h3 =>
      have := h2 x (by simp); have := h2 y (by simp); have := h3 x (by simp); have := h3 y (by simp); have := h2 z (by simp); have := h3 z (by simp)
      simp only [List.sum_cons, List.sum_nil]; omega
theorem okD_sss {a b d : Str} (h : PyData.strOk a = true) (h' : PyData.strOk b = true) (h'' : PyData.strOk d = true) : okD (.tup [.str a, .str b, .str d]) = true := by
  simp [okD, isPy, isPyL, py, pyL, SeqAt.shaped, PyData.canLay0, PyData.canLayAll0, PyData.depth, PyData.depthAll, h, h', h'']
theorem okD_l3 {a b d : Str} (h : PyData.strOk a = true) (h' : PyData.strOk b = true) (h'' : PyData.strOk d = true) : okD (.lst [.tup [.str a, .str b, .str d], .tup [.str a, .str b, .str d], .tup [.str a, .str b, .str d]]) = true := by
  simp [okD, isPy, isPyL, py, pyL, SeqAt.shaped, PyData.canLay0, PyData.canLayAll0, PyData.depth, PyData.depthAll, h, h', h'']
theorem okD_l3s {a b : Str} (h : PyData.strOk a = true) (h' : PyData.strOk b = true) : okD (.lst [.tup [.str a, .str b], .tup [.str a, .str b], .tup [.str a, .str b]]) = true := by
  simp [okD, isPy, isPyL, py, pyL, SeqAt.shaped, PyData.canLay0, PyData.canLayAll0, PyData.depth, PyData.depthAll, h, h']
theorem rp_oddR {d : D} (h : OddR d) : Rp d := by
  rcases h with rfl | rfl | rfl | rfl | rfl | rfl | rfl
  · exact rp_int (by decide)
  · exact rp_int (by decide)
  · exact rp_int (by decide)
  · exact rp_non
  · exact rp_bl
  · exact rp_of (by rw [dOk]; decide +kernel) (by simp [py, PyData.depth]) (by rw [dW]; decide +kernel)
  · exact rp_of (by simp [dOk, dOkL]) (by simp [py, pyL, PyData.depth, PyData.depthAll]) (by simp [dW, dWL])
theorem rep_flat1 {n : Nat} {d : D} : (List.replicate n [d]).flatten = List.replicate n d := by
  induction n with
  | zero => rfl
  | succ n ih => rw [List.replicate_succ, List.flatten_cons, ih]; rfl
theorem nof_row {r : Nat} {d : D} (hd : (tyD d).isSome = true) (hr : rowD d = false) (hp : Rp d) : NoF c r d := ⟨hd, hp, fun P k h => fl_row hd hr h⟩
theorem nof_len {r : Nat} {xs : List D} (hl : xs.length ≠ r) (hp : Rp (.lst xs)) : NoF c r (.lst xs) := ⟨rfl, hp, fun P k h => fl_len rfl rfl hl h⟩
theorem nof_cnt {r : Nat} {xs : List D} (h3 : r ≤ 3) (ht : ∀ x ∈ xs, (tyD x).isSome = true) (hl : xs.length = r) (hc : xs.all cntD = false) (hp : Rp (.lst xs)) : NoF c r (.lst xs) := ⟨rfl, hp, fun P k h => fl_cnt h3 rfl rfl ht hl hc h⟩
theorem nof_fal {r : Nat} {xs : List Int} (h3 : r ≤ 3) (hl : xs.length = r) (h0 : ∀ x ∈ xs, 0 ≤ x) (hf : fal xs = false) (hp : Rp (L xs)) : NoF c r (L xs) := ⟨rfl, hp, fun P k h => fl_int h3 rfl rfl hl h0 (by rw [hf]; exact h)⟩
theorem nof_all {r : Nat} {d : D} (hr : r = 2 ∨ r = 3) (hd : d ∈ [D.non, D.int 3, D.str (strTimes (Str.ofString "1") (r : Int)), D.lst (List.replicate ((r : Int) + 1).toNat [D.int 1]).flatten, D.lst (List.replicate ((r : Int) - 1).toNat [D.int 1]).flatten, D.lst (List.map D.int (upto ((r : Int) - 0).toNat)), D.lst ((List.replicate ((r : Int) - 1).toNat [D.int 0]).flatten ++ [D.int (-1)]), D.lst (List.replicate r [D.bl true]).flatten]) : NoF c r d := by
  simp only [List.mem_cons, List.not_mem_nil, or_false] at hd
  rcases hr with rfl | rfl
  · rcases hd with rfl | rfl | rfl | rfl | rfl | rfl | rfl | rfl
    · exact nof_row rfl rfl rp_non
    · exact nof_row rfl rfl (rp_int (by decide))
    · exact nof_row rfl rfl (rp_of (by rw [dOk]; decide +kernel) (by simp [py, PyData.depth]) (by rw [dW]; decide +kernel))
    · exact nof_len (xs := [.int 1, .int 1, .int 1]) (by decide) (rp_of (by simp [dOk, dOkL]) (by simp [py, pyL, PyData.depth, PyData.depthAll]) (by simp [dW, dWL]))
    · exact nof_len (xs := [.int 1]) (by decide) (rp_of (by simp [dOk, dOkL]) (by simp [py, pyL, PyData.depth, PyData.depthAll]) (by simp [dW, dWL]))
    · exact nof_fal (xs := [0, 1]) (by decide) rfl (by decide) (by decide) (rp_of (by simp [dOk, dOkL]) (by simp [py, pyL, PyData.depth, PyData.depthAll]) (by simp [dW, dWL]))
    · exact nof_cnt (xs := [.int 0, .int (-1)]) (by decide) (by simp [tyD]) rfl (by decide) (rp_of (by simp [dOk, dOkL]) (by simp [py, pyL, PyData.depth, PyData.depthAll]) (by simp [dW, dWL]))
    · exact nof_cnt (xs := [.bl true, .bl true]) (by decide) (by simp [tyD]) rfl (by decide) (rp_of (by simp [dOk, dOkL]) (by simp [py, pyL, PyData.depth, PyData.depthAll]) (by simp [dW, dWL]))
  · rcases hd with rfl | rfl | rfl | rfl | rfl | rfl | rfl | rfl
    · exact nof_row rfl rfl rp_non
    · exact nof_row rfl rfl (rp_int (by decide))
    · exact nof_row rfl rfl (rp_of (by rw [dOk]; decide +kernel) (by simp [py, PyData.depth]) (by rw [dW]; decide +kernel))
    · exact nof_len (xs := [.int 1, .int 1, .int 1, .int 1]) (by decide) (rp_of (by simp [dOk, dOkL]) (by simp [py, pyL, PyData.depth, PyData.depthAll]) (by simp [dW, dWL]))
    · exact nof_len (xs := [.int 1, .int 1]) (by decide) (rp_of (by simp [dOk, dOkL]) (by simp [py, pyL, PyData.depth, PyData.depthAll]) (by simp [dW, dWL]))
    · exact nof_fal (xs := [0, 1, 2]) (by decide) rfl (by decide) (by decide) (rp_of (by simp [dOk, dOkL]) (by simp [py, pyL, PyData.depth, PyData.depthAll]) (by simp [dW, dWL]))
    · exact nof_cnt (xs := [.int 0, .int 0, .int (-1)]) (by decide) (by simp [tyD]) rfl (by decide) (rp_of (by simp [dOk, dOkL]) (by simp [py, pyL, PyData.depth, PyData.depthAll]) (by simp [dW, dWL]))
    · exact nof_cnt (xs := [.bl true, .bl true, .bl true]) (by decide) (by simp [tyD]) rfl (by decide) (rp_of (by simp [dOk, dOkL]) (by simp [py, pyL, PyData.depth, PyData.depthAll]) (by simp [dW, dWL]))
theorem okS (s : String) : okD (.str (Str.ofString s)) = true := by simp [okD, isPy, py, SeqAt.shaped, PyData.canLay0, PyData.depth, sOk_str]
theorem wts_len {r : Nat} {p q s : Bool × List Int} (hp : Rw r p.2) (hq : Rw r q.2) (hs : Rw r s.2) : (wts r [p, q, s]).length = 3 * (r - 1) + 1 := by
  rw [wts, List.length_append, flat_len (r := r) (by simp [hp.len, hq.len, hs.len])]
  rfl
theorem rw_cases {r : Nat} {xs : List Int} (hr : r = 2 ∨ r = 3) (h : Rw r xs) : (r = 2 ∧ ∃ x y, xs = [x, y]) ∨ (r = 3 ∧ ∃ x y z, xs = [x, y, z]) := by
  have h1 := h.len
  rcases hr with rfl | rfl
  · match xs, h1 with
    | [x, y], _ => exact .inl ⟨rfl, x, y, rfl⟩
  · match xs, h1 with
    | [x, y, z], _ => exact .inr ⟨rfl, x, y, z, rfl⟩
def szR (r : Nat) : List Int := if r = 2 then [1, 1, 1, 2] else [1, 2, 1, 2, 1, 2, 3]
theorem wts_zero {r : Nat} {p q s : Bool × List Int} (hr : r = 2 ∨ r = 3) (hp : Rw r p.2) (hq : Rw r q.2) (hs : Rw r s.2) (e : tot [p, q, s] % (r : Int) = 0) : (((wts r [p, q, s]).zip (szR r)).map fun w => w.1 * w.2).sum = 0 := by
  obtain ⟨b1, p⟩ := p
  obtain ⟨b2, q⟩ := q
  obtain ⟨b3, s⟩ := s
  rcases rw_cases hr hp with ⟨rfl, x, y, h1⟩ | ⟨rfl, x, y, z, h1⟩
  · rcases rw_cases hr hq with ⟨_, x', y', h2⟩ | ⟨z, _⟩
    · rcases rw_cases hr hs with ⟨_, x'', y'', h3⟩ | ⟨z, _⟩
      · subst h1 h2 h3
        simp [wts, tot, szR, difs, lastI] at e ⊢
        omega
      · omega
    · omega
  · rcases rw_cases hr hq with ⟨w, _⟩ | ⟨_, x', y', z', h2⟩
    · omega
    · rcases rw_cases hr hs with ⟨w, _⟩ | ⟨_, x'', y'', z'', h3⟩
      · omega
      · subst h1 h2 h3
        simp [wts, tot, szR, difs, lastI] at e ⊢
        omega
theorem wts_more {r : Nat} {b : Bool} {p q s : Bool × List Int} (hr : r = 2 ∨ r = 3) (hp : Rw r p.2) (hq : Rw r q.2) (hs : Rw r s.2) : tot [(true, p.2.map (· + 5)), (true, q.2), (true, s.2)] % (r : Int) = tot [p, q, s] % (r : Int) ∧ wts r [(true, p.2.map (· + 5)), (true, q.2), (true, s.2)] = wts r [p, q, s] := by
  obtain ⟨b1, p⟩ := p
  obtain ⟨b2, q⟩ := q
  obtain ⟨b3, s⟩ := s
  rcases rw_cases hr hp with ⟨rfl, x, y, h1⟩ | ⟨rfl, x, y, z, h1⟩
  · rcases rw_cases hr hq with ⟨_, x', y', h2⟩ | ⟨z, _⟩
    · rcases rw_cases hr hs with ⟨_, x'', y'', h3⟩ | ⟨z, _⟩
      · subst h1 h2 h3
        simp [wts, tot, szR, difs, lastI]
        omega
      · omega
    · omega
  · rcases rw_cases hr hq with ⟨w, _⟩ | ⟨_, x', y', z', h2⟩
    · omega
    · rcases rw_cases hr hs with ⟨w, _⟩ | ⟨_, x'', y'', z'', h3⟩
      · omega
      · subst h1 h2 h3
        simp [wts, tot, szR, difs, lastI]
        omega
theorem rw_more {r : Nat} {xs : List Int} (hr : r = 2 ∨ r = 3) (h : Rw r xs) (h7 : ∀ x ∈ xs, x ≤ 7) : Rw r (xs.map (· + 5)) := by
  refine ⟨by rw [List.length_map]; exact h.len, ?_, fun x hx => ?_, fun x hx => ?_⟩
  · have hf := h.fa
    rcases rw_cases hr h with ⟨rfl, x, y, rfl⟩ | ⟨rfl, x, y, z, rfl⟩
    · simp [fal] at hf ⊢; omega
    · simp [fal] at hf ⊢; omega
  · obtain ⟨y, hy, rfl⟩ := List.mem_map.mp hx
    have := h.lo y hy; omega
  · obtain ⟨y, hy, rfl⟩ := List.mem_map.mp hx
    have := h7 y hy; omega
def hallsD (c : CA) : D := .dK [.inl 2, .inl 3] [(D.ins c.C_Hall ["many", "arrows"] [D.int 4, D.tup (List.map pD so2)]), (D.ins c.C_Hall ["many", "arrows"] [D.int 7, D.tup (List.map pD so3)])]
def sizesD : D := .dK [.inl 2, .inl 3] [I [1, 1, 1, 2], I [1, 2, 1, 2, 1, 2, 3]]
def lapB (c : CA) : WS := (wSeq (wSetF 7 (wLc [17] (wRng1 (wCons (wC (.int 3)) wNil)) (gNm 17) (fun ρ k Q => Q true ρ k) (wCall 3 (wf__law_some_falling c) [] (wCons (wVar 1) (wCons (wVar 4) (wCons (wCall 2 (wf__law_pick c) [] (wCons (wVar 1) (wCons (wIfE (wTest (wOp fEq (wVar 4) (wC (.int 2)))) (wNew (wLst (wCons (wC (.int 3)) (wCons (wC (.int 7)) wNil)))) (wNew (wLst (wCons (wC (.int 2)) (wCons (wC (.int 3)) wNil))))) wNil))) wNil))))))
  (wSeq (wSet 8 (wNew (wLc [18] (wSeqI (wVar 7)) (gNm 18) (fun ρ k Q => Q true ρ k) (wCall 2 (wf__law_listed_row c) [] (wCons (wVar 1) (wCons (wVar 18) wNil))))))
  (wSeq (wSet 9 (wHeard c.tabs "ok" (cs__law_heard c) (wCall 4 (wf_flag_weights c) [] (wCons (wVar 4) (wCons (wOp fIx (wVar 8) (wC (.int 0))) (wCons (wOp fIx (wVar 8) (wC (.int 1))) (wCons (wOp fIx (wVar 8) (wC (.int 2))) wNil)))))))
  (wSeq (wSet 10 (wCB fSum (wCons (wNew (wLc [18] (wSeqI (wVar 7)) (gNm 18) (fun ρ k Q => Q true ρ k) (wCB fSum (wCons (wVar 18) wNil)))) wNil)))
  (wSeq (wIf (wTest (wOp fNe (wOp fMod (wCB fInt (wCons (wVar 10) wNil)) (wVar 4)) (wC (.int 0)))) (wSeq (wIf (wTest (wOp fNe (wVar 9) (wTup (wCons (wC (.str "number")) (wCons (wC (.str "sum")) (wCons (wCB fRepr (wCons (wVar 10) wNil)) wNil)))))) (wRet (wC (.bl false))) wNext)
  wCont) wNext)
  (wSeq (wIf (wOrT (wTest (wOp fNe (wOp fIx (wVar 9) (wC (.int 0))) (wC (.str "ok")))) (wNotT (wTru (wCall 2 (wf__law_is_ints c) [] (wCons (wOp fIx (wVar 9) (wC (.int 1))) (wCons (wOp fSub (wOp fMulX (wC (.int 3)) (wVar 4)) (wC (.int 2))) wNil)))))) (wRet (wC (.bl false))) wNext)
  (wSeq (wIf (wTest (wOp fNe (wNew (wCF fList (wCons (wOp fIx (wVar 9) (wC (.int 1))) wNil))) (wCall 2 (wf__law_own_weights c) [] (wCons (wVar 4) (wCons (wVar 7) wNil))))) (wRet (wC (.bl false))) wNext)
  (wSeq (wIf (wOrT (wTest (wOp fNe (wCall 2 (wf__law_weight c) [] (wCons (wOp fIx (wVar 9) (wC (.int 1))) (wCons (wDGetK (wVar 3) (wVar 4)) wNil))) (wC (.int 0)))) (wTest (wOp fNe (wNew (wLc [18] (wSeqI (wVar 8)) (gNm 18) (fun ρ k Q => Q true ρ k) (wNew (wCF fList (wCons (wVar 18) wNil))))) (wVar 7)))) (wRet (wC (.bl false))) wNext)
  (wSeq (wSetF 11 (wLc [19] (wSeqI (wOp fIx (wVar 7) (wC (.int 0)))) (gNm 19) (fun ρ k Q => Q true ρ k) (wOp fAdd (wVar 19) (wC (.int 5)))))
  (wIf (wTest (wOp fNe (wCall 4 (wf_flag_weights c) [] (wCons (wVar 4) (wCons (wVar 11) (wCons (wOp fIx (wVar 7) (wC (.int 1))) (wCons (wOp fIx (wVar 7) (wC (.int 2))) wNil))))) (wOp fIx (wVar 9) (wC (.int 1))))) (wRet (wC (.bl false))) wNext))))))))))
theorem lap_for {r : Nat} (hc : CAok c) (hr : r = 2 ∨ r = 3) {E : DEnds} {told : D} {k0 : Kt} (hp : k0.2 = ⟨some a, fun _ _ => False, c.tabs⟩) (hb : k0.1 ≤ 1000)
    (hE : ∀ (k' : Kt) (s6 s7 s8 s9 s10 s11 : Slot), (noS s6 = true ∧ noS s7 = true ∧ noS s8 = true ∧ noS s9 = true ∧ noS s10 = true ∧ noS s11 = true) → Dr 80 k0 k' → E.nx [.un, .val (.obj a), .val (hallsD c), .val sizesD, .val (.int r), .val told, s6, s7, s8, s9, s10, s11, .un, .un, .un, .un, .un, .un, .un, .un] k')
    {s6 s7 s8 s9 s10 s11 : Slot} (hs : noS s6 = true ∧ noS s7 = true ∧ noS s8 = true ∧ noS s9 = true ∧ noS s10 = true ∧ noS s11 = true) :
    forW (gNm 6) (lapB c) E (List.map D.int (upto 4)) [.un, .val (.obj a), .val (hallsD c), .val sizesD, .val (.int r), .val told, s6, s7, s8, s9, s10, s11, .un, .un, .un, .un, .un, .un, .un, .un] k0 := by
  refine for_inv (fun rest ρ k' => Dr (20 * (4 - rest.length)) k0 k' ∧ rest.length ≤ 4 ∧ ∃ s6 s7 s8 s9 s10 s11 : Slot, (noS s6 = true ∧ noS s7 = true ∧ noS s8 = true ∧ noS s9 = true ∧ noS s10 = true ∧ noS s11 = true) ∧ ρ = [.un, .val (.obj a), .val (hallsD c), .val sizesD, .val (.int r), .val told, s6, s7, s8, s9, s10, s11, .un, .un, .un, .un, .un, .un, .un, .un]) (fun d rest ρ k' N hI hN => ?_) (fun ρ k' hI => ?_) _ _ _ ⟨Dr.refl, by simp [upto_len], _, _, _, _, _, _, hs, rfl⟩
  · obtain ⟨hd, hl, s6, s7, s8, s9, s10, s11, ⟨n6, n7, n8, n9, n10, n11⟩, rfl⟩ := hI
    rw [List.length_cons] at hl hd
    have b0 := hd.2
    have hp0 : k'.2.pen = some a := by rw [hd.1, hp]
    unfold lapB
    try simp only [Lw_k50.sxA, Lw_k50.sxB, exists_eq_left, exists_eq_left', exists_eq', exists_eq, exists_and_left, eq_self, exists_true_left, exists_const, exists_eq_right, exists_false, if_false, if_true, Int.reduceToNat, Nat.reduceAdd, Nat.reduceSub, Nat.reduceLeDiff, Nat.reduceLT, reduceIte]
    refine ⟨by decide, by decide, ?_⟩
    refine lc_dr D.int (upto 3) (fun _ y => ∃ xs, y = L xs ∧ Rw r xs ∧ ∀ x ∈ xs, x ≤ 7) 4 (k'.1 + 12) (sz (by rw [upto_len]; omega)) _ (by rw [upto_len]; simp [nxk]) (fun x hx k1 R e1 b1 hR => ?_) fun ys k2 hl2 ht hd2 => ?_
    · have hp1 : k1.2.pen = some a := by rw [e1]; exact hp0
      try simp only [Lw_k50.sxA, Lw_k50.sxB, exists_eq_left, exists_eq_left', exists_eq', exists_eq, exists_and_left, eq_self, exists_true_left, exists_const, exists_eq_right, exists_false, if_false, if_true, Int.reduceToNat, Nat.reduceAdd, Nat.reduceSub, Nat.reduceLeDiff, Nat.reduceLT, reduceIte, lcStep]
      have go : ∀ (dm : D) (k2 : Kt), (∃ m : Nat, dm = .int m ∧ m ≤ 7) → Dr 1 k1 k2 → wf__law_some_falling c [D.obj a, D.int r, dm] k2 fun d_2 k2 => R (some d_2) [Slot.un, Slot.val (D.obj a), Slot.val (hallsD c), Slot.val sizesD, Slot.val (D.int ↑r), Slot.val told, Slot.val d, s7, s8, s9, s10, s11, Slot.un, Slot.un, Slot.un, Slot.un, Slot.un, Slot.un, Slot.un, Slot.un] k2 := by
        rintro dm k2 ⟨m, rfl, hm⟩ d1
        have := d1.2
        exact t_some_falling hr hm (d1.pen hp1) (by omega) fun xs k3 hw h7 d2 => hR _ k3 ⟨xs, rfl, hw, h7⟩ (d1.trans d2 (by omega))
      by_cases e : r = 2
      · rw [if_pos (decide_eq_true (by omega))]
        refine t_pick hp1 (by omega) (by simp) (by simp) fun dm hdm k2 d1 => go dm k2 ?_ d1
        simp only [List.mem_cons, List.not_mem_nil, or_false] at hdm
        rcases hdm with rfl | rfl
        · exact ⟨3, rfl, by decide⟩
        · exact ⟨7, rfl, by decide⟩
      · rw [if_neg (by simp only [decide_eq_true_eq]; omega)]
        refine t_pick hp1 (by omega) (by simp) (by simp) fun dm hdm k2 d1 => go dm k2 ?_ d1
        simp only [List.mem_cons, List.not_mem_nil, or_false] at hdm
        rcases hdm with rfl | rfl
        · exact ⟨2, rfl, by decide⟩
        · exact ⟨3, rfl, by decide⟩
    · obtain ⟨x, y, z, rfl, hx, hy, hz⟩ : ∃ x y z : List Int, ys = [x, y, z].map L ∧ (Rw r x ∧ ∀ i ∈ x, i ≤ 7) ∧ (Rw r y ∧ ∀ i ∈ y, i ≤ 7) ∧ (Rw r z ∧ ∀ i ∈ z, i ≤ 7) := by
        rw [upto_len] at hl2
        match ys, hl2, ht with
        | [u, v, w], _, ht =>
          obtain ⟨x, rfl, hx⟩ := ht 0 0 u rfl rfl
          obtain ⟨y, rfl, hy⟩ := ht 1 1 v rfl rfl
          obtain ⟨z, rfl, hz⟩ := ht 2 2 w rfl rfl
          exact ⟨x, y, z, rfl, hx, hy, hz⟩
      have d1 : Dr 12 k' (rsk k' k2) := Dr.rsk (hd2.le (by rw [upto_len]; omega))
      have d01 := hd.trans d1 (Nat.le_refl _)
      generalize rsk k' k2 = k3 at d1 d01 ⊢
      have c1 := d01.2
      have hp3 : k3.2.pen = some a := by rw [d01.1, hp]
      try simp only [Lw_k50.sxA, Lw_k50.sxB, exists_eq_left, exists_eq_left', exists_eq', exists_eq, exists_and_left, eq_self, exists_true_left, exists_const, exists_eq_right, exists_false, if_false, if_true, Int.reduceToNat, Nat.reduceAdd, Nat.reduceSub, Nat.reduceLeDiff, Nat.reduceLT, reduceIte]
      refine lc_dr L [x, y, z] (fun xs y => ∃ b, y = uD (b, xs)) 1 (k3.1 + 3) (sz (by simp)) _ (by simp [nxk]) (fun w hw k1 R e1 b1 hR => ?_) fun ys k4 hl4 ht4 hd4 => ?_
      · try simp only [Lw_k50.sxA, Lw_k50.sxB, exists_eq_left, exists_eq_left', exists_eq', exists_eq, exists_and_left, eq_self, exists_true_left, exists_const, exists_eq_right, exists_false, if_false, if_true, Int.reduceToNat, Nat.reduceAdd, Nat.reduceSub, Nat.reduceLeDiff, Nat.reduceLT, reduceIte, lcStep]
        exact t_listed_row (by rw [e1]; exact hp3) (by omega) fun b k5 d5 => hR _ k5 ⟨b, rfl⟩ d5
      · obtain ⟨p, q, s, rfl, rfl, rfl, rfl⟩ : ∃ p q s : Bool × List Int, ys = [uD p, uD q, uD s] ∧ x = p.2 ∧ y = q.2 ∧ z = s.2 := by
          match ys, hl4, ht4 with
          | [u, v, w], _, ht =>
            obtain ⟨b1, rfl⟩ := ht 0 x u rfl rfl
            obtain ⟨b2, rfl⟩ := ht 1 y v rfl rfl
            obtain ⟨b3, rfl⟩ := ht 2 z w rfl rfl
            exact ⟨(b1, x), (b2, y), (b3, z), rfl, rfl, rfl, rfl⟩
        have d2 : Dr 3 k3 (rsk k3 k4) := Dr.rsk (hd4.le (by simp))
        have d02 := d01.trans d2 (Nat.le_refl _)
        generalize rsk k3 k4 = k5 at d2 d02 ⊢
        have hk5 : k5.2 = ⟨some a, fun _ _ => False, c.tabs⟩ := by rw [d02.1, hp]
        try simp only [Lw_k50.sxA, Lw_k50.sxB, exists_eq_left, exists_eq_left', exists_eq', exists_eq, exists_and_left, eq_self, exists_true_left, exists_const, exists_eq_right, exists_false, if_false, if_true, Int.reduceToNat, Nat.reduceAdd, Nat.reduceSub, Nat.reduceLeDiff, Nat.reduceLT, reduceIte]
        have tb : 0 ≤ tot [p, q, s] ∧ tot [p, q, s] ≤ 9000 := by
          have := sum_b hr hx.1; have := sum_b hr hy.1; have := sum_b hr hz.1
          show 0 ≤ [p.2.sum, q.2.sum, s.2.sum].sum ∧ [p.2.sum, q.2.sum, s.2.sum].sum ≤ 9000
          simp only [List.sum_cons, List.sum_nil]; omega
        have et : List.sum (List.map List.sum [p.2, q.2, s.2]) = tot [p, q, s] := rfl
        have nxt : ∀ (s9 s10 s11 : Slot), noS s9 = true → noS s10 = true → noS s11 = true → N [.un, .val (.obj a), .val (hallsD c), .val sizesD, .val (.int r), .val told, .val d, .val (.lst [L p.2, L q.2, L s.2]), .val (.lst [uD p, uD q, uD s]), s9, s10, s11, .un, .un, .un, .un, .un, .un, .un, .un] k5 := fun s9 s10 s11 m9 m10 m11 => hN _ _ ⟨d02.le (by omega), by omega, _, _, _, _, _, _, ⟨rfl, rfl, rfl, m9, m10, m11⟩, rfl⟩
        by_cases e : tot [p, q, s] % (r : Int) = 0
        · refine heard_in (.tup [.str "ok", I (wts r [p, q, s])]) (fun Q' hQ => ?_) ?_
          · try simp only [Lw_k50.sxA, Lw_k50.sxB, exists_eq_left, exists_eq_left', exists_eq', exists_eq, exists_and_left, eq_self, exists_true_left, exists_const, exists_eq_right, exists_false, if_false, if_true, Int.reduceToNat, Nat.reduceAdd, Nat.reduceSub, Nat.reduceLeDiff, Nat.reduceLT, reduceIte, DL.s_Heard, n9, n10, n11]
            refine ⟨by rw [hk5], uD s, rfl, t_flag_weights hr hx.1 hy.1 hz.1 ?_⟩
            rw [if_pos e]
            try simp only [Lw_k50.sxA, Lw_k50.sxB, exists_eq_left, exists_eq_left', exists_eq', exists_eq, exists_and_left, eq_self, exists_true_left, exists_const, exists_eq_right, exists_false, if_false, if_true, Int.reduceToNat, Nat.reduceAdd, Nat.reduceSub, Nat.reduceLeDiff, Nat.reduceLT, reduceIte]
            exact ⟨lean_ints _, hQ⟩
          · try simp only [Lw_k50.sxA, Lw_k50.sxB, exists_eq_left, exists_eq_left', exists_eq', exists_eq, exists_and_left, eq_self, exists_true_left, exists_const, exists_eq_right, exists_false, if_false, if_true, Int.reduceToNat, Nat.reduceAdd, Nat.reduceSub, Nat.reduceLeDiff, Nat.reduceLT, reduceIte]
            refine lc_map L D.int List.sum (xs := [p.2, q.2, s.2]) (sz (by simp)) (fun p hp R hR' => ?_) ?_
            · try simp only [Lw_k50.sxA, Lw_k50.sxB, exists_eq_left, exists_eq_left', exists_eq', exists_eq, exists_and_left, eq_self, exists_true_left, exists_const, exists_eq_right, exists_false, if_false, if_true, Int.reduceToNat, Nat.reduceAdd, Nat.reduceSub, Nat.reduceLeDiff, Nat.reduceLT, reduceIte, lcStep]
              exact hR'
            · try simp only [Lw_k50.sxA, Lw_k50.sxB, exists_eq_left, exists_eq_left', exists_eq', exists_eq, exists_and_left, eq_self, exists_true_left, exists_const, exists_eq_right, exists_false, if_false, if_true, Int.reduceToNat, Nat.reduceAdd, Nat.reduceSub, Nat.reduceLeDiff, Nat.reduceLT, reduceIte]
              have hRR : ∀ w ∈ [p.2, q.2, s.2], Rw r w := by simp [hx.1, hy.1, hz.1]
              rw [show List.sum [p.2.sum, q.2.sum, s.2.sum] = tot [p, q, s] from rfl, Int.fmod_eq_emod_of_nonneg _ (by omega), e, if_neg (by decide)]
              refine ⟨by omega, okS "ok", okS "ok", ?_⟩
              rw [eqD_refl (okS "ok"), if_neg (by decide)]
              have wl := wts_len hx.1 hy.1 hz.1
              refine ⟨cm (by decide), t_is_ints (by rw [wl]; omega) (by rw [wl]; omega) ?_⟩
              try simp only [Lw_k50.sxA, Lw_k50.sxB, exists_eq_left, exists_eq_left', exists_eq', exists_eq, exists_and_left, eq_self, exists_true_left, exists_const, exists_eq_right, exists_false, if_false, if_true, Int.reduceToNat, Nat.reduceAdd, Nat.reduceSub, Nat.reduceLeDiff, Nat.reduceLT, reduceIte]
              refine t_own_weights (rows := [p.2, q.2, s.2]) hr (by simp) hRR ?_
              rw [show L ((List.map difs [p.2, q.2, s.2]).flatten ++ [(List.map lastI [p.2, q.2, s.2]).sum - (List.map List.sum [p.2, q.2, s.2]).sum / (r : Int)]) = L (wts r [p, q, s]) from rfl]
              refine ⟨okD_lints _, ?_⟩
              rw [eqD_refl (okD_lints _), if_neg (by decide)]
              refine ⟨_, _, rfl, I (szR r), by rcases hr with rfl | rfl <;> rfl, t_weight (by rw [wl]; omega) (by rcases hr with rfl | rfl <;> decide) ?_⟩
              rw [wts_zero hr hx.1 hy.1 hz.1 e]
              refine ⟨okD_int _, ?_⟩
              rw [eqD_refl (okD_int _), if_neg (by decide)]
              refine lc_map uD L (fun w => w.2) (xs := [p, q, s]) (sz (by simp)) (fun w hw R hR' => ?_) ?_
              · try simp only [Lw_k50.sxA, Lw_k50.sxB, exists_eq_left, exists_eq_left', exists_eq', exists_eq, exists_and_left, eq_self, exists_true_left, exists_const, exists_eq_right, exists_false, if_false, if_true, Int.reduceToNat, Nat.reduceAdd, Nat.reduceSub, Nat.reduceLeDiff, Nat.reduceLT, reduceIte, lcStep]
                unfold uD
                cases w.1 <;> exact hR'
              · try simp only [Lw_k50.sxA, Lw_k50.sxB, exists_eq_left, exists_eq_left', exists_eq', exists_eq, exists_and_left, eq_self, exists_true_left, exists_const, exists_eq_right, exists_false, if_false, if_true, Int.reduceToNat, Nat.reduceAdd, Nat.reduceSub, Nat.reduceLeDiff, Nat.reduceLT, reduceIte]
                have ok := okD_rowsL [p.2, q.2, s.2]
                simp only [List.map_cons, List.map_nil] at ok
                refine ⟨ok, ok, ?_⟩
                rw [eqD_refl ok, if_neg (by decide)]
                refine lc_map D.int D.int (fun i => i + 5) (sz (by rw [hx.1.len]; omega)) (fun w hw R hR' => ?_) ?_
                · try simp only [Lw_k50.sxA, Lw_k50.sxB, exists_eq_left, exists_eq_left', exists_eq', exists_eq, exists_and_left, eq_self, exists_true_left, exists_const, exists_eq_right, exists_false, if_false, if_true, Int.reduceToNat, Nat.reduceAdd, Nat.reduceSub, Nat.reduceLeDiff, Nat.reduceLT, reduceIte, lcStep]
                  exact hR'
                · try simp only [Lw_k50.sxA, Lw_k50.sxB, exists_eq_left, exists_eq_left', exists_eq', exists_eq, exists_and_left, eq_self, exists_true_left, exists_const, exists_eq_right, exists_false, if_false, if_true, Int.reduceToNat, Nat.reduceAdd, Nat.reduceSub, Nat.reduceLeDiff, Nat.reduceLT, reduceIte]
                  refine ⟨L s.2, rfl, ?_⟩
                  obtain ⟨m1, m2⟩ := wts_more (b := true) hr hx.1 hy.1 hz.1
                  refine t_flag_weights (p := (true, p.2.map (· + 5))) (q := (true, q.2)) (s := (true, s.2)) hr (rw_more hr hx.1 hx.2) hy.1 hz.1 ?_
                  rw [m1, if_pos e, m2]
                  refine ⟨okD_tints _, ?_⟩
                  rw [eqD_refl (okD_tints _), if_neg (by decide)]
                  exact nxt _ _ _ rfl rfl rfl
        · obtain ⟨sr, hsr, hR⟩ := rp_int (i := tot [p, q, s]) (by omega)
          refine heard_in (.tup [.str "number", .str "sum", .str sr]) (fun Q' hQ => ?_) ?_
          · try simp only [Lw_k50.sxA, Lw_k50.sxB, exists_eq_left, exists_eq_left', exists_eq', exists_eq, exists_and_left, eq_self, exists_true_left, exists_const, exists_eq_right, exists_false, if_false, if_true, Int.reduceToNat, Nat.reduceAdd, Nat.reduceSub, Nat.reduceLeDiff, Nat.reduceLT, reduceIte, DL.s_Heard, n9, n10, n11]
            refine ⟨by rw [hk5], uD s, rfl, t_flag_weights hr hx.1 hy.1 hz.1 ?_⟩
            rw [if_neg e]
            refine hd_number hR ?_
            exact ⟨_, rfl, rfl, hQ⟩
          · try simp only [Lw_k50.sxA, Lw_k50.sxB, exists_eq_left, exists_eq_left', exists_eq', exists_eq, exists_and_left, eq_self, exists_true_left, exists_const, exists_eq_right, exists_false, if_false, if_true, Int.reduceToNat, Nat.reduceAdd, Nat.reduceSub, Nat.reduceLeDiff, Nat.reduceLT, reduceIte]
            refine lc_map L D.int List.sum (xs := [p.2, q.2, s.2]) (sz (by simp)) (fun p hp R hR' => ?_) ?_
            · try simp only [Lw_k50.sxA, Lw_k50.sxB, exists_eq_left, exists_eq_left', exists_eq', exists_eq, exists_and_left, eq_self, exists_true_left, exists_const, exists_eq_right, exists_false, if_false, if_true, Int.reduceToNat, Nat.reduceAdd, Nat.reduceSub, Nat.reduceLeDiff, Nat.reduceLT, reduceIte, lcStep]
              exact hR'
            · try simp only [Lw_k50.sxA, Lw_k50.sxB, exists_eq_left, exists_eq_left', exists_eq', exists_eq, exists_and_left, eq_self, exists_true_left, exists_const, exists_eq_right, exists_false, if_false, if_true, Int.reduceToNat, Nat.reduceAdd, Nat.reduceSub, Nat.reduceLeDiff, Nat.reduceLT, reduceIte]
              rw [show List.sum [p.2.sum, q.2.sum, s.2.sum] = tot [p, q, s] from rfl, Int.fmod_eq_emod_of_nonneg _ (by omega), if_pos (by simp [e])]
              refine ⟨by omega, hR _ ?_⟩
              have ok := okD_sss (sOk_str "number") (sOk_str "sum") hsr
              refine ⟨ok, ok, ?_⟩
              rw [eqD_refl ok, if_neg (by decide)]
              exact nxt _ _ _ rfl rfl n11
  · obtain ⟨hd, hl, s6, s7, s8, s9, s10, s11, n, rfl⟩ := hI
    exact hE _ _ _ _ _ _ _ n hd
theorem pairs_py : ∀ ar : List (Int × Int), isPyL (ar.map pD) = true ∧ PyData.canLayAll0 (pyL (ar.map pD)) = true ∧ PyData.depthAll (pyL (ar.map pD)) ≤ 1 := fun ar => by
    induction ar with
    | nil => exact ⟨rfl, rfl, by decide⟩
    | cons p r ih =>
      obtain ⟨a, b, d⟩ := ih
      refine ⟨by rw [List.map_cons, isPyL, a]; rfl, by rw [List.map_cons, pyL, PyData.canLayAll0, b]; rfl, ?_⟩
      rw [List.map_cons, pyL, PyData.depthAll]
      have : (py (pD p)).depth = 1 := by simp [py, pyL, PyData.depth, PyData.depthAll]
      omega
theorem eqv_pairs : ∀ xs ys : List (Int × Int), PyData.eqvAll (pyL (xs.map pD)) (pyL (ys.map pD)) = decide (xs = ys)
  | [], [] => rfl
  | [], _ :: _ => rfl
  | _ :: _, [] => rfl
  | x :: xs, y :: ys => by
    rw [List.map_cons, List.map_cons, pyL, pyL, PyData.eqvAll, eqv_pairs xs ys]
    have : PyData.eqv (py (pD x)) (py (pD y)) = decide (x = y) := by
      obtain ⟨x1, x2⟩ := x
      obtain ⟨y1, y2⟩ := y
      simp only [py, pyL, PyData.eqv, PyData.eqvAll, Bool.and_true, Prod.mk.injEq, Bool.decide_and]
      rfl
    rw [this]
    by_cases h : x = y <;> by_cases h' : xs = ys <;> simp [h, h']
theorem eq_pairsT (xs ys : List (Int × Int)) : eqD (.tup (xs.map pD)) (.tup (ys.map pD)) = decide (xs = ys) := by rw [eqD, py, py, PyData.eqv, eqv_pairs]
theorem ok_hall (n : Int) (ar : List (Int × Int)) : okD (.tup [.int n, .tup (ar.map pD)]) = true := by
  obtain ⟨x, y, z⟩ := pairs_py ar
  simp only [okD, isPy, isPyL, x, py, pyL, SeqAt.shaped, PyData.canLay0, PyData.canLayAll0, y, PyData.depth, PyData.depthAll, Bool.true_and, Bool.and_true, decide_eq_true_eq]
  omega
theorem eq_hall (n m : Int) (ar as : List (Int × Int)) : eqD (.tup [.int n, .tup (ar.map pD)]) (.tup [.int m, .tup (as.map pD)]) = decide (n = m ∧ ar = as) := by
  have := eq_pairsT ar as
  rw [eqD] at this
  simp only [eqD, py, pyL, PyData.eqv, PyData.eqvAll, Bool.and_true, Bool.decide_and] at this ⊢
  rw [this]; rfl
theorem t_eq_hall {n m : Nat} {ar as : List (Int × Int)} (h : P (.bl (decide (n = m ∧ ar = as))) k) : wfq_Hall c [(D.ins c.C_Hall ["many", "arrows"] [D.int n, D.tup (List.map pD ar)]), (D.ins c.C_Hall ["many", "arrows"] [D.int m, D.tup (List.map pD as)])] k P := by
  rw [wfq_Hall, s_of, w_eq_Hall]
  try simp only [Lw_k50.sxA, Lw_k50.sxB, exists_eq_left, exists_eq_left', exists_eq', exists_eq, exists_and_left, eq_self, exists_true_left, exists_const, exists_eq_right, exists_false, if_false, if_true, Int.reduceToNat, Nat.reduceAdd, Nat.reduceSub, Nat.reduceLeDiff, Nat.reduceLT, reduceIte]
  refine ⟨ok_hall _ _, ok_hall _ _, ?_⟩
  rw [eq_hall]
  have e : decide ((n : Int) = m ∧ ar = as) = decide (n = m ∧ ar = as) := by
    by_cases q : n = m ∧ ar = as
    · rw [decide_eq_true q, decide_eq_true ⟨by omega, q.2⟩]
    · rw [decide_eq_false q, decide_eq_false fun z => q ⟨by omega, z.2⟩]
  rw [e]
  exact h
theorem mt_H : (c.C_Hall, wfq_Hall c) ∈ tb_q c := by simp [tb_q]
theorem t_fs {r : Nat} (hr : r = 2 ∨ r = 3) (h : P (I (szR r)) k) : wf_flag_sizes c [.int r] k P := by
  rcases hr with rfl | rfl
  · exact t_flag_sizes2 h
  · exact t_flag_sizes3 h
def nR (r : Nat) : Nat := if r = 2 then 4 else 7
def soR (r : Nat) : List (Int × Int) := if r = 2 then so2 else so3
def halR (c : CA) (r : Nat) : D := D.ins c.C_Hall ["many", "arrows"] [D.int (nR r : Nat), D.tup ((soR r).map pD)]
theorem t_fh {r : Nat} (hr : r = 2 ∨ r = 3) (h : P (halR c r) k) : wf_flag_hall c [.int r] k P := by
  rcases hr with rfl | rfl
  · exact t_flag_hall2 h
  · exact t_flag_hall3 h
theorem math : ∀ c : CA, CAok c → ∀ a : Addr, w_law c { nx := fun _ _ => False, rt := fun d _ => d = .bl true } (lawE 20 a) (0, ⟨some a, fun _ _ => False, c.tabs⟩) := by
  intro c hc a
  unfold lawE w_law
  refine seq_hide fun T0 hT0 => ?_
  try simp only [Lw_k50.sxA, Lw_k50.sxB, exists_eq_left, exists_eq_left', exists_eq', exists_eq, exists_and_left, eq_self, exists_true_left, exists_const, exists_eq_right, exists_false, if_false, if_true, Int.reduceToNat, Nat.reduceAdd, Nat.reduceSub, Nat.reduceLeDiff, Nat.reduceLT, reduceIte]
  refine t_Hall (n := 4) (ar := so2) (so := so2) ok2 ((isortP_eq (.refl _)).symm.trans (by decide)) ?_
  refine t_Hall (n := 7) (ar := so3) (so := so3) ok3 ((isortP_eq (.refl _)).symm.trans (by decide)) ?_
  subst hT0
  refine seq_hide fun T0 hT0 => ?_
  try simp only [Lw_k50.sxA, Lw_k50.sxB, exists_eq_left, exists_eq_left', exists_eq', exists_eq, exists_and_left, eq_self, exists_true_left, exists_const, exists_eq_right, exists_false, if_false, if_true, Int.reduceToNat, Nat.reduceAdd, Nat.reduceSub, Nat.reduceLeDiff, Nat.reduceLT, reduceIte]
  subst hT0
  refine seq_hide fun T0 hT0 => ?_
  try simp only [Lw_k50.sxA, Lw_k50.sxB, exists_eq_left, exists_eq_left', exists_eq', exists_eq, exists_and_left, eq_self, exists_true_left, exists_const, exists_eq_right, exists_false, if_false, if_true, Int.reduceToNat, Nat.reduceAdd, Nat.reduceSub, Nat.reduceLeDiff, Nat.reduceLT, reduceIte]
  refine for_inv (fun rest ρ k' => rest.length ≤ 2 ∧ (∀ d ∈ rest, ∃ r : Nat, (r = 2 ∨ r = 3) ∧ d = .int r) ∧ Dr (100 * (2 - rest.length)) (0, ⟨some a, fun _ _ => False, c.tabs⟩) k' ∧ ∃ s4 s5 s6 s7 s8 s9 s10 s11 : Slot, (noS s4 = true ∧ noS s5 = true ∧ noS s6 = true ∧ noS s7 = true ∧ noS s8 = true ∧ noS s9 = true ∧ noS s10 = true ∧ noS s11 = true) ∧ ρ = [.un, .val (.obj a), .val (hallsD c), .val sizesD, s4, s5, s6, s7, s8, s9, s10, s11, .un, .un, .un, .un, .un, .un, .un, .un]) (fun d rest ρ k' N hI hN => ?_) (fun ρ k' hI => ?_) _ _ _ ⟨by simp, fun d hd => ?_, Dr.refl, _, _, _, _, _, _, _, _, ⟨rfl, rfl, rfl, rfl, rfl, rfl, rfl, rfl⟩, rfl⟩
  · obtain ⟨hl, hr, hd, s4, s5, s6, s7, s8, s9, s10, s11, ⟨n4, n5, n6, n7, n8, n9, n10, n11⟩, rfl⟩ := hI
    obtain ⟨r, hr2, rfl⟩ := hr _ List.mem_cons_self
    rw [List.length_cons] at hl hd
    have b0 := hd.2
    dsimp only at b0
    have hk' : k'.2 = ⟨some a, fun _ _ => False, c.tabs⟩ := hd.1
    try simp only [Lw_k50.sxA, Lw_k50.sxB, exists_eq_left, exists_eq_left', exists_eq', exists_eq, exists_and_left, eq_self, exists_true_left, exists_const, exists_eq_right, exists_false, if_false, if_true, Int.reduceToNat, Nat.reduceAdd, Nat.reduceSub, Nat.reduceLeDiff, Nat.reduceLT, reduceIte]
    refine t_fs hr2 ?_
    try simp only [Lw_k50.sxA, Lw_k50.sxB, exists_eq_left, exists_eq_left', exists_eq', exists_eq, exists_and_left, eq_self, exists_true_left, exists_const, exists_eq_right, exists_false, if_false, if_true, Int.reduceToNat, Nat.reduceAdd, Nat.reduceSub, Nat.reduceLeDiff, Nat.reduceLT, reduceIte]
    refine t_fh hr2 ?_
    try simp only [Lw_k50.sxA, Lw_k50.sxB, exists_eq_left, exists_eq_left', exists_eq', exists_eq, exists_and_left, eq_self, exists_true_left, exists_const, exists_eq_right, exists_false, if_false, if_true, Int.reduceToNat, Nat.reduceAdd, Nat.reduceSub, Nat.reduceLeDiff, Nat.reduceLT, reduceIte]
    refine ⟨_, _, rfl, halR c r, by rcases hr2 with rfl | rfl <;> rfl, ?_⟩
    refine ⟨_, _, _, rfl, wfq_Hall c, _, _, _, rfl, mt_H, wfq_Hall c, mt_H, t_eq_hall (n := nR r) (m := nR r) ?_⟩
    rw [decide_eq_true ⟨rfl, rfl⟩]
    refine ⟨true, rfl, ?_⟩
    rw [if_neg (by decide)]
    refine ⟨cm (by decide), t_is_ints (by rcases hr2 with rfl | rfl <;> rfl) (by rcases hr2 with rfl | rfl <;> decide) ?_⟩
    try simp only [Lw_k50.sxA, Lw_k50.sxB, exists_eq_left, exists_eq_left', exists_eq', exists_eq, exists_and_left, eq_self, exists_true_left, exists_const, exists_eq_right, exists_false, if_false, if_true, Int.reduceToNat, Nat.reduceAdd, Nat.reduceSub, Nat.reduceLeDiff, Nat.reduceLT, reduceIte]
    refine ⟨_, _, rfl, I (szR r), by rcases hr2 with rfl | rfl <;> rfl, okD_tints _, ?_⟩
    rw [eqD_refl (okD_tints _), if_neg (by decide)]
    exact ⟨by decide, by decide, lap_for hc hr2 hk' (by omega) (fun k2 s6 s7 s8 s9 s10 s11 hs d2 => hN _ _ ⟨by omega, fun x hx => hr x (List.mem_cons_of_mem _ hx), hd.trans d2 (by omega), _, _, _, _, _, _, _, _, ⟨rfl, rfl, hs⟩, rfl⟩) ⟨n6, n7, n8, n9, n10, n11⟩⟩
  · obtain ⟨hl, hr, hd, s4, s5, s6, s7, s8, s9, s10, s11, ⟨n4, n5, n6, n7, n8, n9, n10, n11⟩, rfl⟩ := hI
    have b0 := hd.2
    dsimp only [List.length_nil] at b0
    have hk' : k'.2 = ⟨some a, fun _ _ => False, c.tabs⟩ := hd.1
    have hp0 : k'.2.pen = some a := by rw [hk']
    show T0 _ _ _
    subst hT0
    try simp only [Lw_k50.sxA, Lw_k50.sxB, exists_eq_left, exists_eq_left', exists_eq', exists_eq, exists_and_left, eq_self, exists_true_left, exists_const, exists_eq_right, exists_false, if_false, if_true, Int.reduceToNat, Nat.reduceAdd, Nat.reduceSub, Nat.reduceLeDiff, Nat.reduceLT, reduceIte]
    refine t_pick hp0 (by omega) (by simp) (by simp) fun dr hdr k1 d1 => ?_
    obtain ⟨r, hr2, rfl⟩ : ∃ r : Nat, (r = 2 ∨ r = 3) ∧ dr = .int r := by
      simp only [List.mem_cons, List.not_mem_nil, or_false] at hdr
      rcases hdr with rfl | rfl
      · exact ⟨2, .inl rfl, rfl⟩
      · exact ⟨3, .inr rfl, rfl⟩
    have d01 := hd.trans d1 (Nat.le_refl _)
    have b1 := d01.2
    dsimp only [List.length_nil] at b1
    have hp1 : k1.2.pen = some a := by rw [d01.1]
    try simp only [Lw_k50.sxA, Lw_k50.sxB, exists_eq_left, exists_eq_left', exists_eq', exists_eq, exists_and_left, eq_self, exists_true_left, exists_const, exists_eq_right, exists_false, if_false, if_true, Int.reduceToNat, Nat.reduceAdd, Nat.reduceSub, Nat.reduceLeDiff, Nat.reduceLT, reduceIte]
    refine t_pick hp1 (by omega) (by simp) (by simp) fun num hnum k2 d2 => ?_
    have d02 := d01.trans d2 (Nat.le_refl _)
    have b2 := d02.2
    dsimp only [List.length_nil] at b2
    have hp2 : k2.2.pen = some a := by rw [d02.1]
    have hk2 : k2.2 = ⟨some a, fun _ _ => False, c.tabs⟩ := d02.1
    have ho : OddR num := by
      simp only [List.mem_cons, List.not_mem_nil, or_false] at hnum
      exact hnum
    try simp only [Lw_k50.sxA, Lw_k50.sxB, exists_eq_left, exists_eq_left', exists_eq', exists_eq, exists_and_left, eq_self, exists_true_left, exists_const, exists_eq_right, exists_false, if_false, if_true, Int.reduceToNat, Nat.reduceAdd, Nat.reduceSub, Nat.reduceLeDiff, Nat.reduceLT, reduceIte]
    obtain ⟨sn, hsn, hRn⟩ := rp_oddR ho
    refine ⟨by omega, by omega, by omega, ?_⟩
    refine heard_in (.tup [.str "number", .str "r", .str sn]) (fun Q' hQ => ?_) ?_
    · try simp only [Lw_k50.sxA, Lw_k50.sxB, exists_eq_left, exists_eq_left', exists_eq', exists_eq, exists_and_left, eq_self, exists_true_left, exists_const, exists_eq_right, exists_false, if_false, if_true, Int.reduceToNat, Nat.reduceAdd, Nat.reduceSub, Nat.reduceLeDiff, Nat.reduceLT, reduceIte, DL.s_Heard, n5, n6, n7, n8, n9, n10, n11]
      refine ⟨by rw [hk2], t_fh_r ho ?_⟩
      refine hd_number hRn ?_
      exact ⟨_, rfl, rfl, hQ⟩
    try simp only [Lw_k50.sxA, Lw_k50.sxB, exists_eq_left, exists_eq_left', exists_eq', exists_eq, exists_and_left, eq_self, exists_true_left, exists_const, exists_eq_right, exists_false, if_false, if_true, Int.reduceToNat, Nat.reduceAdd, Nat.reduceSub, Nat.reduceLeDiff, Nat.reduceLT, reduceIte]
    refine heard_in (.tup [.str "number", .str "r", .str sn]) (fun Q' hQ => ?_) ?_
    · try simp only [Lw_k50.sxA, Lw_k50.sxB, exists_eq_left, exists_eq_left', exists_eq', exists_eq, exists_and_left, eq_self, exists_true_left, exists_const, exists_eq_right, exists_false, if_false, if_true, Int.reduceToNat, Nat.reduceAdd, Nat.reduceSub, Nat.reduceLeDiff, Nat.reduceLT, reduceIte, DL.s_Heard, n5, n6, n7, n8, n9, n10, n11]
      refine ⟨by rw [hk2], t_fs_r ho ?_⟩
      refine hd_number hRn ?_
      exact ⟨_, rfl, rfl, hQ⟩
    try simp only [Lw_k50.sxA, Lw_k50.sxB, exists_eq_left, exists_eq_left', exists_eq', exists_eq, exists_and_left, eq_self, exists_true_left, exists_const, exists_eq_right, exists_false, if_false, if_true, Int.reduceToNat, Nat.reduceAdd, Nat.reduceSub, Nat.reduceLeDiff, Nat.reduceLT, reduceIte]
    refine heard_in (.tup [.str "number", .str "r", .str sn]) (fun Q' hQ => ?_) ?_
    · try simp only [Lw_k50.sxA, Lw_k50.sxB, exists_eq_left, exists_eq_left', exists_eq', exists_eq, exists_and_left, eq_self, exists_true_left, exists_const, exists_eq_right, exists_false, if_false, if_true, Int.reduceToNat, Nat.reduceAdd, Nat.reduceSub, Nat.reduceLeDiff, Nat.reduceLT, reduceIte, DL.s_Heard, n5, n6, n7, n8, n9, n10, n11]
      refine ⟨by rw [hk2], t_fw_r ho ?_⟩
      refine hd_number hRn ?_
      exact ⟨_, rfl, rfl, hQ⟩
    try simp only [Lw_k50.sxA, Lw_k50.sxB, exists_eq_left, exists_eq_left', exists_eq', exists_eq, exists_and_left, eq_self, exists_true_left, exists_const, exists_eq_right, exists_false, if_false, if_true, Int.reduceToNat, Nat.reduceAdd, Nat.reduceSub, Nat.reduceLeDiff, Nat.reduceLT, reduceIte]
    refine hRn _ ?_
    have ok1 := okD_l3 (sOk_str "number") (sOk_str "r") hsn
    have l1 : (Str.ofString "1").length ≤ 1000 := by decide +kernel
    have lz : (List.replicate ((r : Int) - 1).toNat [D.int 0]).flatten.length ≤ 16777215 := by rw [rep_flat1, List.length_replicate]; omega
    refine ⟨by decide, by decide, by decide, ok1, ok1, ?_⟩
    rw [eqD_refl ok1, if_neg (by decide)]
    refine ⟨by omega, by omega, l1, by omega, by omega, by omega, by omega, by omega, by omega, by unfold RgOk; omega, by omega, by omega, by omega, lz, by omega, by omega, by omega, ?_⟩
    refine t_pick hp2 (by omega) (by simp) (by simp) fun odd hodd k3 d3 => ?_
    have d03 := d02.trans d3 (Nat.le_refl _)
    have hk3 : k3.2 = ⟨some a, fun _ _ => False, c.tabs⟩ := d03.1
    have no := nof_all (c := c) hr2 hodd
    obtain ⟨so, hso, hRo⟩ := no.2.1
    rw [rep_flat1, show List.replicate r (D.int 2) = (List.replicate r 2).map .int by rw [List.map_replicate]]
    have rw2 : Rw r (List.replicate r 2) := by rcases hr2 with rfl | rfl <;> exact ⟨rfl, by decide, by decide, by decide⟩
    try simp only [Lw_k50.sxA, Lw_k50.sxB, exists_eq_left, exists_eq_left', exists_eq', exists_eq, exists_and_left, eq_self, exists_true_left, exists_const, exists_eq_right, exists_false, if_false, if_true, Int.reduceToNat, Nat.reduceAdd, Nat.reduceSub, Nat.reduceLeDiff, Nat.reduceLT, reduceIte]
    refine heard_in (.tup [.str "row", .str so]) (fun Q' hQ => ?_) ?_
    · try simp only [Lw_k50.sxA, Lw_k50.sxB, exists_eq_left, exists_eq_left', exists_eq', exists_eq, exists_and_left, eq_self, exists_true_left, exists_const, exists_eq_right, exists_false, if_false, if_true, Int.reduceToNat, Nat.reduceAdd, Nat.reduceSub, Nat.reduceLeDiff, Nat.reduceLT, reduceIte, DL.s_Heard, n5, n6, n7, n8, n9, n10, n11]
      refine ⟨by rw [hk3], t_fw_1 hr2 no ?_⟩
      refine hd_row hc hRo ?_
      exact ⟨_, rfl, rfl, hQ⟩
    try simp only [Lw_k50.sxA, Lw_k50.sxB, exists_eq_left, exists_eq_left', exists_eq', exists_eq, exists_and_left, eq_self, exists_true_left, exists_const, exists_eq_right, exists_false, if_false, if_true, Int.reduceToNat, Nat.reduceAdd, Nat.reduceSub, Nat.reduceLeDiff, Nat.reduceLT, reduceIte]
    refine heard_in (.tup [.str "row", .str so]) (fun Q' hQ => ?_) ?_
    · try simp only [Lw_k50.sxA, Lw_k50.sxB, exists_eq_left, exists_eq_left', exists_eq', exists_eq, exists_and_left, eq_self, exists_true_left, exists_const, exists_eq_right, exists_false, if_false, if_true, Int.reduceToNat, Nat.reduceAdd, Nat.reduceSub, Nat.reduceLeDiff, Nat.reduceLT, reduceIte, DL.s_Heard, n5, n6, n7, n8, n9, n10, n11]
      refine ⟨by rw [hk3], t_fw_2 (p := (true, List.replicate r 2)) hr2 rw2 no ?_⟩
      refine hd_row hc hRo ?_
      exact ⟨_, rfl, rfl, hQ⟩
    try simp only [Lw_k50.sxA, Lw_k50.sxB, exists_eq_left, exists_eq_left', exists_eq', exists_eq, exists_and_left, eq_self, exists_true_left, exists_const, exists_eq_right, exists_false, if_false, if_true, Int.reduceToNat, Nat.reduceAdd, Nat.reduceSub, Nat.reduceLeDiff, Nat.reduceLT, reduceIte]
    refine heard_in (.tup [.str "row", .str so]) (fun Q' hQ => ?_) ?_
    · try simp only [Lw_k50.sxA, Lw_k50.sxB, exists_eq_left, exists_eq_left', exists_eq', exists_eq, exists_and_left, eq_self, exists_true_left, exists_const, exists_eq_right, exists_false, if_false, if_true, Int.reduceToNat, Nat.reduceAdd, Nat.reduceSub, Nat.reduceLeDiff, Nat.reduceLT, reduceIte, DL.s_Heard, n5, n6, n7, n8, n9, n10, n11]
      refine ⟨by rw [hk3], t_fw_3 (p := (true, List.replicate r 2)) (q := (true, List.replicate r 2)) hr2 rw2 rw2 no ?_⟩
      refine hd_row hc hRo ?_
      exact ⟨_, rfl, rfl, hQ⟩
    try simp only [Lw_k50.sxA, Lw_k50.sxB, exists_eq_left, exists_eq_left', exists_eq', exists_eq, exists_and_left, eq_self, exists_true_left, exists_const, exists_eq_right, exists_false, if_false, if_true, Int.reduceToNat, Nat.reduceAdd, Nat.reduceSub, Nat.reduceLeDiff, Nat.reduceLT, reduceIte]
    refine hRo _ ?_
    have ok3 := okD_l3s (sOk_str "row") hso
    exact ⟨by decide, by decide, by decide, ok3, ok3, eqD_refl ok3⟩
  · simp only [List.mem_cons, List.not_mem_nil, or_false] at hd
    rcases hd with rfl | rfl
    · exact ⟨2, .inl rfl, rfl⟩
    · exact ⟨3, .inr rfl, rfl⟩
end Lw_k50

open PySem PySem.W PyProof.Rows
set_option maxHeartbeats 0 in
theorem PySem.Challenge.cw_sizerooms_k50_whole_flag_halls_holds : PySem.Challenge.rw_sizerooms_k50_whole_flag_halls.Holds := by
  w_on; o_law; k_head; (case hw => w_witness2)
  k_fill
  refine DL.walk_hear (l := PySem.Challenge.rw_sizerooms_k50_whole_flag_halls) (n := 63) rfl (by decide) rfl (fun w h Y => PySem.W.km_in_of Y) ?F
  case F =>
    intro w mg fa h Y KX G hmg
    refine' Lw_k50.run_mk (l := PySem.Challenge.rw_sizerooms_k50_whole_flag_halls) Lw_k50.math KX G hmg ?a1 ?l1 ?c1 ?k1 ?a2 ?l2 ?c2 ?k2 ?lt2 ?ld2 ?a3 ?l3 ?c3 ?k3 ?a4 ?l4 ?c4 ?k4 ?a5 ?l5 ?c5 ?k5 ?a6 ?l6 ?c6 ?k6 ?a7 ?l7 ?c7 ?k7 ?a8 ?l8 ?c8 ?k8 ?a9 ?l9 ?c9 ?k9 ?a10 ?l10 ?c10 ?k10 ?a11 ?l11 ?c11 ?k11 ?a12 ?l12 ?c12 ?k12 ?a13 ?l13 ?c13 ?k13 ?a14 ?l14 ?c14 ?k14 ?a15 ?l15 ?c15 ?k15 ?a16 ?l16 ?c16 ?k16 ?a17 ?l17 ?c17 ?k17 ?a18 ?l18 ?c18 ?k18 ?a19 ?l19 ?c19 ?k19 ?a20 ?l20 ?c20 ?k20 ?a21 ?l21 ?c21 ?k21 ?a22 ?l22 ?c22 ?k22 ?a23 ?l23 ?c23 ?k23 ?a24 ?l24 ?c24 ?k24 ?a25 ?l25 ?c25 ?k25 ?a26 ?l26 ?c26 ?k26 ?z_all ?z_any ?z_bool ?z_int ?z_isinstance ?z_len ?z_list ?z_range ?z_repr ?z_sorted ?z_sum ?z_super ?z_tuple ?z_zip ?y_MOST_ARROWS ?y_MOST_POINTS ?on ?ot ?aC_Hall ?ii_Hall ?li_Hall ?ci_Hall ?kf_Hall ?mk_Hall ?fn_Hall ?kC_Hall ?pg_Hall ?hd_Hall ?po_Hall ?sa_Hall ?ga_Hall ?ob_Hall ?ic_Hall ?ty_Hall ?b0_Hall ?b1_Hall ?b2_Hall ?b3_Hall ?b4_Hall ?b5_Hall ?b6_Hall ?nf_Hall_many ?nf_Hall_arrows ?iq_Hall ?lq_Hall ?cq_Hall ?kfq_Hall ?fnq_Hall ?nnq_Hall ?sbq_Hall_Hall ?aS ?xS ?iS ?opq ?aC_BadNumber ?xC_BadNumber ?sa_BadNumber ?ga_BadNumber ?gg_BadNumber ?eC_BadNumber ?vC_BadNumber ?tC_BadNumber ?kC_BadNumber ?hC_BadNumber ?ic_BadNumber ?mC_BadNumber ?ie_BadNumber ?te_BadNumber ?le_BadNumber ?ce_BadNumber ?lc_BadNumber ?fl_BadNumber ?fz_BadNumber ?lx_BadNumber ?nf_BadNumber_what ?nf_BadNumber_value ?aC_BadRow ?xC_BadRow ?sa_BadRow ?ga_BadRow ?gg_BadRow ?eC_BadRow ?vC_BadRow ?tC_BadRow ?kC_BadRow ?hC_BadRow ?ic_BadRow ?mC_BadRow ?ie_BadRow ?te_BadRow ?le_BadRow ?ce_BadRow ?lc_BadRow ?fl_BadRow ?fz_BadRow ?lx_BadRow ?nf_BadRow_value ?aC_BadItem ?xC_BadItem ?sa_BadItem ?ga_BadItem ?gg_BadItem ?eC_BadItem ?vC_BadItem ?tC_BadItem ?kC_BadItem ?hC_BadItem ?ic_BadItem ?mC_BadItem ?ie_BadItem ?te_BadItem ?le_BadItem ?ce_BadItem ?lc_BadItem ?fl_BadItem ?fz_BadItem ?lx_BadItem ?nf_BadItem_value ?aC_BadHall ?xC_BadHall ?sa_BadHall ?ga_BadHall ?gg_BadHall ?eC_BadHall ?vC_BadHall ?tC_BadHall ?kC_BadHall ?hC_BadHall ?ic_BadHall ?mC_BadHall ?ie_BadHall ?te_BadHall ?le_BadHall ?ce_BadHall ?lc_BadHall ?fl_BadHall ?fz_BadHall ?lx_BadHall ?nf_BadHall_why ?tp ?gk_BadRow ?go_BadRow ?sgg_BadItem ?sg_BadRow_BadItem ?s_BadNumber_BadNumber ?s_BadNumber_BadRow ?s_BadRow_BadNumber ?s_BadRow_BadRow ?lcl ?v11 ?v18 ?v7 ?v9 ?v10 ?ncp ?nT ?tb
    (case a1 => k_is); (case l1 => k_is); (case c1 => k_is); (case k1 => k_is); (case a2 => k_is); (case l2 => k_is); (case c2 => k_is); (case k2 => k_is); (case lt2 => k_is); (case ld2 => rfl); (case a3 => k_is); (case l3 => k_is); (case c3 => k_is); (case k3 => k_is); (case a4 => k_is); (case l4 => k_is); (case c4 => k_is); (case k4 => k_is); (case a5 => k_is); (case l5 => k_is); (case c5 => k_is); (case k5 => k_is); (case a6 => k_is); (case l6 => k_is); (case c6 => k_is); (case k6 => k_is); (case a7 => k_is); (case l7 => k_is); (case c7 => k_is); (case k7 => k_is); (case a8 => k_is); (case l8 => k_is); (case c8 => k_is); (case k8 => k_is); (case a9 => k_is); (case l9 => k_is); (case c9 => k_is); (case k9 => k_is); (case a10 => k_is); (case l10 => k_is); (case c10 => k_is); (case k10 => k_is); (case a11 => k_is); (case l11 => k_is); (case c11 => k_is); (case k11 => k_is); (case a12 => k_is); (case l12 => k_is); (case c12 => k_is); (case k12 => k_is); (case a13 => k_is); (case l13 => k_is); (case c13 => k_is); (case k13 => k_is); (case a14 => k_is); (case l14 => k_is); (case c14 => k_is); (case k14 => k_is); (case a15 => k_is); (case l15 => k_is); (case c15 => k_is); (case k15 => k_is); (case a16 => k_is); (case l16 => k_is); (case c16 => k_is); (case k16 => k_is); (case a17 => k_is); (case l17 => k_is); (case c17 => k_is); (case k17 => k_is); (case a18 => k_is); (case l18 => k_is); (case c18 => k_is); (case k18 => k_is); (case a19 => k_is); (case l19 => k_is); (case c19 => k_is); (case k19 => k_is); (case a20 => k_is); (case l20 => k_is); (case c20 => k_is); (case k20 => k_is); (case a21 => k_is); (case l21 => k_is); (case c21 => k_is); (case k21 => k_is); (case a22 => k_is); (case l22 => k_is); (case c22 => k_is); (case k22 => k_is); (case a23 => k_is); (case l23 => k_is); (case c23 => k_is); (case k23 => k_is); (case a24 => k_is); (case l24 => k_is); (case c24 => k_is); (case k24 => k_is); (case a25 => k_is); (case l25 => k_is); (case c25 => k_is); (case k25 => k_is); (case a26 => k_is); (case l26 => k_is); (case c26 => k_is); (case k26 => k_is); (case z_all => k_is); (case z_any => k_is); (case z_bool => k_is); (case z_int => k_is); (case z_isinstance => k_is); (case z_len => k_is); (case z_list => k_is); (case z_range => k_is); (case z_repr => k_is); (case z_sorted => k_is); (case z_sum => k_is); (case z_super => k_is); (case z_tuple => k_is); (case z_zip => k_is); (case y_MOST_ARROWS => k_is); (case y_MOST_POINTS => k_is); (case on => k_is); (case ot => k_is); (case aC_Hall => k_is); (case ii_Hall => k_is); (case li_Hall => k_is); (case ci_Hall => k_is); (case kf_Hall => k_is); (case mk_Hall => k_is); (case fn_Hall => k_is); (case kC_Hall => k_is); (case pg_Hall => k_is); (case hd_Hall => k_is); (case po_Hall => k_is); (case sa_Hall => k_is); (case ga_Hall => k_is); (case ob_Hall => k_is); (case ic_Hall => k_is); (case ty_Hall => k_is); (case b0_Hall => k_is); (case b1_Hall => k_is); (case b2_Hall => k_is); (case b3_Hall => k_is); (case b4_Hall => k_is); (case b5_Hall => k_is); (case b6_Hall => k_is); (case nf_Hall_many => k_is); (case nf_Hall_arrows => k_is); (case iq_Hall => k_is); (case lq_Hall => k_is); (case cq_Hall => k_is); (case kfq_Hall => k_is); (case fnq_Hall => k_is); (case nnq_Hall => k_is); (case sbq_Hall_Hall => k_is); (case aS => k_is); (case xS => k_is); (case iS => k_is); (case opq => k_is); (case aC_BadNumber => k_is); (case xC_BadNumber => k_is); (case sa_BadNumber => k_is); (case ga_BadNumber => k_is); (case gg_BadNumber => k_is); (case eC_BadNumber => k_is); (case vC_BadNumber => k_is); (case tC_BadNumber => k_is); (case kC_BadNumber => k_is); (case hC_BadNumber => k_is); (case ic_BadNumber => k_is); (case mC_BadNumber => k_is); (case ie_BadNumber => k_is); (case te_BadNumber => k_is); (case le_BadNumber => k_is); (case ce_BadNumber => k_is); (case lc_BadNumber => k_is); (case fl_BadNumber => rfl); (case fz_BadNumber => first | rfl | decide +kernel); (case lx_BadNumber => k_is); (case nf_BadNumber_what => k_is); (case nf_BadNumber_value => k_is); (case aC_BadRow => k_is); (case xC_BadRow => k_is); (case sa_BadRow => k_is); (case ga_BadRow => k_is); (case gg_BadRow => k_is); (case eC_BadRow => k_is); (case vC_BadRow => k_is); (case tC_BadRow => k_is); (case kC_BadRow => k_is); (case hC_BadRow => k_is); (case ic_BadRow => k_is); (case mC_BadRow => k_is); (case ie_BadRow => k_is); (case te_BadRow => k_is); (case le_BadRow => k_is); (case ce_BadRow => k_is); (case lc_BadRow => k_is); (case fl_BadRow => rfl); (case fz_BadRow => first | rfl | decide +kernel); (case lx_BadRow => k_is); (case nf_BadRow_value => k_is); (case aC_BadItem => k_is); (case xC_BadItem => k_is); (case sa_BadItem => k_is); (case ga_BadItem => k_is); (case gg_BadItem => k_is); (case eC_BadItem => k_is); (case vC_BadItem => k_is); (case tC_BadItem => k_is); (case kC_BadItem => k_is); (case hC_BadItem => k_is); (case ic_BadItem => k_is); (case mC_BadItem => k_is); (case ie_BadItem => k_is); (case te_BadItem => k_is); (case le_BadItem => k_is); (case ce_BadItem => k_is); (case lc_BadItem => k_is); (case fl_BadItem => rfl); (case fz_BadItem => first | rfl | decide +kernel); (case lx_BadItem => k_is); (case nf_BadItem_value => k_is); (case aC_BadHall => k_is); (case xC_BadHall => k_is); (case sa_BadHall => k_is); (case ga_BadHall => k_is); (case gg_BadHall => k_is); (case eC_BadHall => k_is); (case vC_BadHall => k_is); (case tC_BadHall => k_is); (case kC_BadHall => k_is); (case hC_BadHall => k_is); (case ic_BadHall => k_is); (case mC_BadHall => k_is); (case ie_BadHall => k_is); (case te_BadHall => k_is); (case le_BadHall => k_is); (case ce_BadHall => k_is); (case lc_BadHall => k_is); (case fl_BadHall => rfl); (case fz_BadHall => first | rfl | decide +kernel); (case lx_BadHall => k_is); (case nf_BadHall_why => k_is); (case tp => first | rfl | decide +kernel); (case gk_BadRow => k_is); (case go_BadRow => k_is); (case sgg_BadItem => k_is); (case sg_BadRow_BadItem => k_is); (case s_BadNumber_BadNumber => k_is); (case s_BadNumber_BadRow => k_is); (case s_BadRow_BadNumber => k_is); (case s_BadRow_BadRow => k_is); (case lcl => k_is); (case v11 => rfl); (case v18 => rfl); (case v7 => rfl); (case v9 => rfl); (case v10 => rfl); (case ncp => decide); (case nT => first | rfl | decide +kernel); (case tb => exact PySem.W.km_tabs_of Y _ (by first | decide | simp))

