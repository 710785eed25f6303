import PyProof.Rows.All
import Wide.All
import OpenK.AllK
import Wide.FinOn
import Lean
import PySem.Challenge.RW_nu0270_01
set_option Elab.async false
set_option maxRecDepth 100000
set_option linter.unusedVariables false
set_option linter.unusedSimpArgs false
set_option autoImplicit false
namespace Mine
open PySem

/-- plain values: what a Python value says, no heap in it; a list, a dict, a made object is its address -/
inductive PV where
  | none
  | bool (b : Bool)
  | int (i : Int)
  | str (s : Str)
  | tup (l : List PV)
  | loc (a : Addr)

mutual
noncomputable def PV.beq : PV → PV → Bool
  | .none, .none => true
  | .bool a, .bool b => a == b
  | .int a, .int b => a == b
  | .str a, .str b => a == b
  | .tup l, .tup m => PV.beqs l m
  | .loc a, .loc b => a == b
  | _, _ => false
noncomputable def PV.beqs : List PV → List PV → Bool
  | [], [] => true
  | p :: ps, q :: qs => PV.beq p q && PV.beqs ps qs
  | _, _ => false
end
mutual
theorem PV.beq_iff : ∀ (p q : PV), PV.beq p q = true ↔ p = q
  | .none, q => by cases q <;> simp [PV.beq]
  | .bool a, q => by cases q <;> simp [PV.beq]
  | .int a, q => by cases q <;> simp [PV.beq]
  | .str a, q => by cases q <;> simp [PV.beq]
  | .tup l, q => by
    cases q <;> simp [PV.beq]
    exact PV.beqs_iff _ _
  | .loc a, q => by cases q <;> simp [PV.beq]
theorem PV.beqs_iff : ∀ (ps qs : List PV), PV.beqs ps qs = true ↔ ps = qs
  | [], qs => by cases qs <;> simp [PV.beqs]
  | p :: ps, qs => by
    cases qs with
    | nil => simp [PV.beqs]
    | cons q qs => simp only [PV.beqs, Bool.and_eq_true, List.cons.injEq]; rw [PV.beq_iff p q, PV.beqs_iff ps qs]
end
/-- plain objects: what stands at an address that the call may change -/
inductive PO where
  | list (l : List PV)
  | dictS (l : List (Str × PV))
  | dictI (l : List (Int × PV))
  | dictT (l : List (List Int))
  | inst (C dx : Addr)
  | attrs (l : List (Str × PV))

noncomputable abbrev PS := Addr → Option PO
noncomputable def PS.set (st : PS) (a : Addr) (o : PO) : PS := fun b => if b = a then some o else st b
@[simp] theorem PS.set_self (st : PS) (a : Addr) (o : PO) : st.set a o a = some o := by simp [PS.set]
theorem PS.set_ne (st : PS) {a b : Addr} (o : PO) (h : b ≠ a) : st.set a o b = st b := by simp [PS.set, h]
theorem PS.set_set (st : PS) (a : Addr) (o o' : PO) : (st.set a o).set a o' = st.set a o' := by
  funext b; simp only [PS.set]; split <;> rfl
theorem PS.set_same {st : PS} {a : Addr} {o : PO} (h : st a = some o) : st.set a o = st := by
  funext b; simp only [PS.set]; split
  · rename_i e; rw [e, h]
  · rfl

/-- a tuple's object -/
noncomputable def TupAt (h : Heap) (a : Addr) (vs : List Value) : Prop := ∃ n, h.get? a = some { cls := .type "tuple", data := .seq vs.toArray n }

mutual
noncomputable def Rep (h : Heap) : PV → Value → Prop
  | .none, v => v = .none
  | .bool b, v => v = .bool b
  | .int i, v => ∃ t, v = .int i t
  | .str s, v => ∃ t, v = .str s t
  | .tup l, v => ∃ a vs, v = .ref a ∧ TupAt h a vs ∧ RepL h l vs
  | .loc a, v => v = .ref a
noncomputable def RepL (h : Heap) : List PV → List Value → Prop
  | [], vs => vs = []
  | p :: ps, vs => ∃ v vs', vs = v :: vs' ∧ Rep h p v ∧ RepL h ps vs'
end

theorem RepL.nil {h : Heap} : RepL h [] [] := by unfold RepL; rfl
theorem RepL.cons {h : Heap} {p : PV} {ps : List PV} {v : Value} {vs : List Value} (a : Rep h p v) (b : RepL h ps vs) : RepL h (p :: ps) (v :: vs) := by
  unfold RepL; exact ⟨v, vs, rfl, a, b⟩
theorem RepL.length {h : Heap} : ∀ {ps : List PV} {vs : List Value}, RepL h ps vs → vs.length = ps.length
  | [], vs, r => by unfold RepL at r; subst r; rfl
  | p :: ps, vs, r => by
    unfold RepL at r
    obtain ⟨v, vs', rfl, _, r⟩ := r
    simp [r.length]
theorem RepL.append {h : Heap} : ∀ {ps qs : List PV} {vs us : List Value}, RepL h ps vs → RepL h qs us → RepL h (ps ++ qs) (vs ++ us)
  | [], qs, vs, us, r, q => by unfold RepL at r; subst r; exact q
  | p :: ps, qs, vs, us, r, q => by
    unfold RepL at r
    obtain ⟨v, vs', rfl, a, r⟩ := r
    exact .cons a (r.append q)
theorem RepL.get {h : Heap} : ∀ {ps : List PV} {vs : List Value}, RepL h ps vs → ∀ {i : Nat} {p : PV}, ps[i]? = some p → ∃ v, vs[i]? = some v ∧ Rep h p v
  | [], vs, r, i, p, e => by simp at e
  | q :: ps, vs, r, i, p, e => by
    unfold RepL at r
    obtain ⟨v, vs', rfl, a, r⟩ := r
    cases i with
    | zero => simp at e; subst e; exact ⟨v, rfl, a⟩
    | succ i => simp at e; simpa using r.get e
theorem RepL.get' {h : Heap} : ∀ {ps : List PV} {vs : List Value}, RepL h ps vs → ∀ {i : Nat} {v : Value}, vs[i]? = some v → ∃ p, ps[i]? = some p ∧ Rep h p v
  | [], vs, r, i, v, e => by unfold RepL at r; subst r; simp at e
  | q :: ps, vs, r, i, v, e => by
    unfold RepL at r
    obtain ⟨w, vs', rfl, a, r⟩ := r
    cases i with
    | zero => simp at e; subst e; exact ⟨q, rfl, a⟩
    | succ i => simp at e; simpa using r.get' e
theorem RepL.cons_inv {h : Heap} {p : PV} {ps : List PV} {vs : List Value} (r : RepL h (p :: ps) vs) : ∃ v vs', vs = v :: vs' ∧ Rep h p v ∧ RepL h ps vs' := by
  unfold RepL at r; exact r
theorem RepL.nil_inv {h : Heap} {vs : List Value} (r : RepL h [] vs) : vs = [] := by unfold RepL at r; exact r
theorem RepL.drop {h : Heap} : ∀ {ps : List PV} {vs : List Value}, RepL h ps vs → ∀ n, RepL h (ps.drop n) (vs.drop n)
  | [], vs, r, n => by rw [r.nil_inv]; simp; exact .nil
  | p :: ps, vs, r, n => by
    obtain ⟨v, vs', rfl, a, r'⟩ := r.cons_inv
    cases n with
    | zero => exact r
    | succ n => simpa using r'.drop n
theorem RepL.take {h : Heap} : ∀ {ps : List PV} {vs : List Value}, RepL h ps vs → ∀ n, RepL h (ps.take n) (vs.take n)
  | [], vs, r, n => by rw [r.nil_inv]; simp; exact .nil
  | p :: ps, vs, r, n => by
    obtain ⟨v, vs', rfl, a, r'⟩ := r.cons_inv
    cases n with
    | zero => simp; exact .nil
    | succ n => simpa using .cons a (r'.take n)
theorem RepL.of_get {h : Heap} : ∀ {ps : List PV} {vs : List Value}, vs.length = ps.length → (∀ (i : Nat) (p : PV) (v : Value), ps[i]? = some p → vs[i]? = some v → Rep h p v) → RepL h ps vs
  | [], vs, hl, _ => by have : vs = [] := List.eq_nil_of_length_eq_zero hl; subst this; exact .nil
  | p :: ps, vs, hl, k => by
    cases vs with
    | nil => simp at hl
    | cons v vs => exact .cons (k 0 p v rfl rfl) (RepL.of_get (by simpa using hl) fun i q u a b => k (i + 1) q u (by simpa using a) (by simpa using b))

/-- the tuples stay: what of a heap a value's reading needs -/
noncomputable def TupsStay (h h' : Heap) : Prop := ∀ a vs, TupAt h a vs → TupAt h' a vs
mutual
theorem Rep.stay {h h' : Heap} (k : TupsStay h h') : ∀ {p : PV} {v : Value}, Rep h p v → Rep h' p v
  | .none, v, r => by unfold Rep at r ⊢; exact r
  | .bool b, v, r => by unfold Rep at r ⊢; exact r
  | .int i, v, r => by unfold Rep at r ⊢; exact r
  | .str s, v, r => by unfold Rep at r ⊢; exact r
  | .tup l, v, r => by
    unfold Rep at r ⊢
    obtain ⟨a, vs, e, t, r⟩ := r
    exact ⟨a, vs, e, k _ _ t, RepL.stay k r⟩
  | .loc a, v, r => by unfold Rep at r ⊢; exact r
theorem RepL.stay {h h' : Heap} (k : TupsStay h h') : ∀ {ps : List PV} {vs : List Value}, RepL h ps vs → RepL h' ps vs
  | [], vs, r => by unfold RepL at r ⊢; exact r
  | p :: ps, vs, r => by
    unfold RepL at r ⊢
    obtain ⟨v, vs', e, a, r⟩ := r
    exact ⟨v, vs', e, a.stay k, r.stay k⟩
end

theorem Rep.int' {h : Heap} {i : Int} {v : Value} (r : Rep h (.int i) v) : ∃ t, v = .int i t := by unfold Rep at r; exact r
theorem Rep.str' {h : Heap} {i : Str} {v : Value} (r : Rep h (.str i) v) : ∃ t, v = .str i t := by unfold Rep at r; exact r
theorem Rep.bool' {h : Heap} {b : Bool} {v : Value} (r : Rep h (.bool b) v) : v = .bool b := by unfold Rep at r; exact r
theorem Rep.none' {h : Heap} {v : Value} (r : Rep h .none v) : v = .none := by unfold Rep at r; exact r
theorem Rep.loc' {h : Heap} {a : Addr} {v : Value} (r : Rep h (.loc a) v) : v = .ref a := by unfold Rep at r; exact r
theorem Rep.tup' {h : Heap} {l : List PV} {v : Value} (r : Rep h (.tup l) v) : ∃ a vs, v = .ref a ∧ TupAt h a vs ∧ RepL h l vs := by unfold Rep at r; exact r
theorem Rep.int {h : Heap} {i : Int} {t : Tok} : Rep h (.int i) (.int i t) := by unfold Rep; exact ⟨t, rfl⟩
theorem Rep.str {h : Heap} {i : Str} {t : Tok} : Rep h (.str i) (.str i t) := by unfold Rep; exact ⟨t, rfl⟩
theorem Rep.bool {h : Heap} {b : Bool} : Rep h (.bool b) (.bool b) := by unfold Rep; rfl
theorem Rep.none {h : Heap} : Rep h .none .none := by unfold Rep; rfl
theorem Rep.loc {h : Heap} {a : Addr} : Rep h (.loc a) (.ref a) := by unfold Rep; rfl
theorem Rep.tup {h : Heap} {l : List PV} {a : Addr} {vs : List Value} (t : TupAt h a vs) (r : RepL h l vs) : Rep h (.tup l) (.ref a) := by unfold Rep; exact ⟨a, vs, rfl, t, r⟩


/-- a made object's own names, in order -/
noncomputable def AttrsAre (h : Heap) : List (Str × PV) → List DictEntry → Prop
  | [], es => es = []
  | (x, p) :: l, es => ∃ hs t v es', es = ⟨hs, .str x t, v⟩ :: es' ∧ Rep h p v ∧ AttrsAre h l es'
theorem AttrsAre.stay {h h' : Heap} (k : TupsStay h h') : ∀ {l : List (Str × PV)} {es : List DictEntry}, AttrsAre h l es → AttrsAre h' l es
  | [], es, r => r
  | (x, p) :: l, es, r => by
    obtain ⟨hs, t, v, es', e, a, r⟩ := r
    exact ⟨hs, t, v, es', e, a.stay k, r.stay k⟩

/-- what is fixed while the call runs -/
structure Cx where
  prog : Program
  w : World
  K : PySem.W.Frag
  B : Heap
  os : OsState

noncomputable def ObjRep (c : Cx) (h : Heap) (a : Addr) : PO → Prop
  | .list l => ∃ vs, h.PlainList a (List.toArray vs) ∧ RepL h l vs
  | .dictS l => a ≠ sysModules ∧ ∃ vs, vs.length = l.length ∧ h.DictOf (strKind c.prog c.w) a ((l.map (·.1)).zip vs) ∧ RepL h (l.map (·.2)) vs
  | .dictI l => a ≠ sysModules ∧ ∃ vs, vs.length = l.length ∧ h.DictOf (intKind c.prog c.w) a ((l.map (·.1)).zip vs) ∧ RepL h (l.map (·.2)) vs
  | .dictT l => a ≠ sysModules ∧ ∃ (o : Obj) (es : Array DictEntry) (ep : Nat) (xs : List (List Int × Addr × Value)), h.get? a = some o ∧ o.ExactDict ∧ o.data = .dict es ep ∧ es.toList = xs.map (entryOfKey (tupleKind (intKind c.prog c.w))) ∧ xs.map (·.1) = l ∧ l.Nodup ∧ ∀ x ∈ xs, Rep h (.tup (x.1.map .int)) (.ref x.2.1)
  | .inst C dx => h.get? a = some { cls := .ref C, dict := some dx, data := .plain }
  | .attrs l => ∃ es n, h.get? a = some { cls := .type "dict", data := .dict (List.toArray es) n } ∧ AttrsAre h l es

theorem ObjRep.is {c : Cx} {h : Heap} {a : Addr} {o : PO} (r : ObjRep c h a o) : ∃ x, h.get? a = some x ∧ x.cls ≠ .type "tuple" := by
  cases o with
  | list l => obtain ⟨vs, ⟨n, e⟩, _⟩ := r; exact ⟨_, e, by simp⟩
  | dictS l => obtain ⟨_, vs, _, ⟨o, es, ep, e, x, _⟩, _⟩ := r; exact ⟨_, e, by rw [x.1]; simp⟩
  | dictI l => obtain ⟨_, vs, _, ⟨o, es, ep, e, x, _⟩, _⟩ := r; exact ⟨_, e, by rw [x.1]; simp⟩
  | dictT l => obtain ⟨_, o, es, ep, xs, e, x, _⟩ := r; exact ⟨_, e, by rw [x.1]; simp⟩
  | inst C dx => exact ⟨_, r, by simp⟩
  | attrs l => obtain ⟨es, n, e, _⟩ := r; exact ⟨_, e, by simp⟩
theorem ObjRep.of_get {c : Cx} {h h' : Heap} {a : Addr} {o : PO} (r : ObjRep c h a o) (k : TupsStay h h') (e : h'.get? a = h.get? a) : ObjRep c h' a o := by
  cases o with
  | list l => obtain ⟨vs, ⟨n, x⟩, q⟩ := r; exact ⟨vs, ⟨n, e.trans x⟩, q.stay k⟩
  | dictS l => obtain ⟨hs, vs, hl, ⟨o, es, ep, x, y⟩, q⟩ := r; exact ⟨hs, vs, hl, ⟨o, es, ep, e.trans x, y⟩, q.stay k⟩
  | dictI l => obtain ⟨hs, vs, hl, ⟨o, es, ep, x, y⟩, q⟩ := r; exact ⟨hs, vs, hl, ⟨o, es, ep, e.trans x, y⟩, q.stay k⟩
  | dictT l => obtain ⟨hs, o, es, ep, xs, x, x1, x2, x3, x4, x5, q⟩ := r; exact ⟨hs, o, es, ep, xs, e.trans x, x1, x2, x3, x4, x5, fun y hy => (q y hy).stay k⟩
  | inst C dx => exact e.trans r
  | attrs l => obtain ⟨es, n, x, q⟩ := r; exact ⟨es, n, e.trans x, q.stay k⟩

structure StRel (c : Cx) (st : PS) (s : Shared) : Prop where
  base : ∀ b o, c.B.get? b = some o → s.heap.get? b = some o
  new : ∀ b po, st b = some po → c.B.get? b = none
  rep : ∀ b po, st b = some po → ObjRep c s.heap b po
  gens : s.gens = #[]
  os : s.os = c.os

/-- from one state to a later one: what the store does not name stays -/
noncomputable def Evo (st : PS) (h : Heap) (st' : PS) (h' : Heap) : Prop := ∀ b o, h.get? b = some o → (∃ o', h'.get? b = some o') ∧ (st b = none → h'.get? b = some o ∧ st' b = none)
noncomputable def EvoX (ex : Addr → Prop) (st : PS) (h : Heap) (st' : PS) (h' : Heap) : Prop := ∀ b o, h.get? b = some o → (∃ o', h'.get? b = some o') ∧ (st b = none → ¬ ex b → h'.get? b = some o ∧ st' b = none)
theorem Evo.refl (st : PS) (h : Heap) : Evo st h st h := fun _ o e => ⟨⟨o, e⟩, fun n => ⟨e, n⟩⟩
theorem Evo.trans {st st₁ st₂ : PS} {h h₁ h₂ : Heap} (x : Evo st h st₁ h₁) (y : Evo st₁ h₁ st₂ h₂) : Evo st h st₂ h₂ := fun b o e => ⟨let ⟨o', e'⟩ := (x b o e).1; (y b o' e').1, fun n => let ⟨a, m⟩ := (x b o e).2 n; (y b o a).2 m⟩
theorem EvoX.refl (ex : Addr → Prop) (st : PS) (h : Heap) : EvoX ex st h st h := fun _ o e => ⟨⟨o, e⟩, fun n _ => ⟨e, n⟩⟩
theorem EvoX.trans {ex : Addr → Prop} {st st₁ st₂ : PS} {h h₁ h₂ : Heap} (x : EvoX ex st h st₁ h₁) (y : EvoX ex st₁ h₁ st₂ h₂) : EvoX ex st h st₂ h₂ := fun b o e => ⟨let ⟨o', e'⟩ := (x b o e).1; (y b o' e').1, fun n q => let ⟨a, m⟩ := (x b o e).2 n q; (y b o a).2 m q⟩
theorem Evo.x {ex : Addr → Prop} {st st' : PS} {h h' : Heap} (x : Evo st h st' h') : EvoX ex st h st' h' := fun b o e => ⟨(x b o e).1, fun n _ => (x b o e).2 n⟩
theorem EvoX.mono {ex ex' : Addr → Prop} {st st' : PS} {h h' : Heap} (x : EvoX ex st h st' h') (k : ∀ b, ex b → ex' b) : EvoX ex' st h st' h' := fun b o e => ⟨(x b o e).1, fun n q => (x b o e).2 n fun r => q (k b r)⟩

theorem StRel.tup {c : Cx} {st : PS} {s : Shared} (R : StRel c st s) {a : Addr} {vs : List Value} (t : TupAt s.heap a vs) : st a = none := by
  cases e : st a with
  | none => rfl
  | some po =>
    obtain ⟨x, hx, hc⟩ := (R.rep a po e).is
    obtain ⟨n, ht⟩ := t
    rw [hx] at ht; cases ht; exact absurd rfl hc
theorem StRel.stay {c : Cx} {st st' : PS} {s : Shared} {h' : Heap} (R : StRel c st s) (x : Evo st s.heap st' h') : TupsStay s.heap h' := fun a vs t =>
  let n := R.tup t; let ⟨k, e⟩ := t; ⟨k, ((x a _ e).2 n).1⟩
theorem StRel.stayX {c : Cx} {ex : Addr → Prop} {st st' : PS} {s : Shared} {h' : Heap} (R : StRel c st s) (hx : ∀ b o, ex b → s.heap.get? b = some o → ∀ vs n, o.data ≠ .seq vs n) (x : EvoX ex st s.heap st' h') : TupsStay s.heap h' := fun a vs t =>
  let n := R.tup t; let ⟨k, e⟩ := t; ⟨k, ((x a _ e).2 n fun q => hx a _ q e _ _ rfl).1⟩
theorem StRel.none_of_free {c : Cx} {st : PS} {s : Shared} (R : StRel c st s) {a : Addr} (e : s.heap.get? a = none) : st a = none := by
  cases h : st a with
  | none => rfl
  | some po => obtain ⟨x, hx, _⟩ := (R.rep a po h).is; rw [e] at hx; cases hx
theorem StRel.toks {c : Cx} {st : PS} {s : Shared} (R : StRel c st s) (t : Nat) : StRel c st { s with toks := t } := ⟨R.base, R.new, R.rep, R.gens, R.os⟩

theorem get?_size (h : Heap) : h.get? h.objs.size = none := by
  cases e : h.get? h.objs.size with
  | none => rfl
  | some o => exact absurd (Heap.lt_size e) (Nat.lt_irrefl _)
theorem get?_none_of_le {h : Heap} {a : Addr} (e : h.objs.size ≤ a) : h.get? a = none := by
  cases q : h.get? a with
  | none => rfl
  | some o => exact absurd (Heap.lt_size q) (Nat.not_lt.mpr e)

/-- a heap that only grew -/
theorem StRel.grow {c : Cx} {st : PS} {s : Shared} {h' : Heap} {tk : Nat} (R : StRel c st s) (k : ∀ b o, s.heap.get? b = some o → h'.get? b = some o) : StRel c st { s with heap := h', toks := tk } := by
  refine ⟨fun b o e => k b o (R.base b o e), R.new, fun b po e => ?_, R.gens, R.os⟩
  have r := R.rep b po e
  obtain ⟨x, hx, _⟩ := r.is
  exact r.of_get (fun a vs ⟨n, t⟩ => ⟨n, k _ _ t⟩) ((k _ _ hx).trans hx.symm)
theorem Evo.grow {st : PS} {h h' : Heap} (k : ∀ b o, h.get? b = some o → h'.get? b = some o) : Evo st h st h' := fun b o e => ⟨⟨o, k b o e⟩, fun n => ⟨k b o e, n⟩⟩

/-- a new object that the store is told of -/
theorem StRel.alloc {c : Cx} {st : PS} {s : Shared} {a : Addr} {po : PO} {h' : Heap} {tk : Nat} (R : StRel c st s) (hn : s.heap.get? a = none) (k : ∀ b o, s.heap.get? b = some o → h'.get? b = some o) (r : ObjRep c h' a po) :
    StRel c (st.set a po) { s with heap := h', toks := tk } := by
  have R' := R.grow (tk := tk) k
  refine ⟨R'.base, fun b po' e => ?_, fun b po' e => ?_, R.gens, R.os⟩
  · by_cases q : b = a
    · subst q
      cases e' : c.B.get? b with
      | none => rfl
      | some o => rw [R.base b o e'] at hn; cases hn
    · rw [PS.set_ne _ _ q] at e; exact R.new b po' e
  · by_cases q : b = a
    · subst q; rw [PS.set_self] at e; cases e; exact r
    · rw [PS.set_ne _ _ q] at e; exact R'.rep b po' e
theorem Evo.alloc {st : PS} {h h' : Heap} {a : Addr} {po : PO} (hn : h.get? a = none) (k : ∀ b o, h.get? b = some o → h'.get? b = some o) : Evo st h (st.set a po) h' := fun b o e =>
  ⟨⟨o, k b o e⟩, fun n => ⟨k b o e, by rw [PS.set_ne _ _ (by rintro rfl; rw [hn] at e; cases e)]; exact n⟩⟩

/-- an object of the store that is changed -/
theorem StRel.upd {c : Cx} {st : PS} {s : Shared} {a : Addr} {po po' : PO} {h' : Heap} {tk : Nat} (R : StRel c st s) (ha : st a = some po) (k : Heap.SameBut a s.heap h') (r : ObjRep c h' a po') :
    StRel c (st.set a po') { s with heap := h', toks := tk } := by
  have hB := R.new a po ha
  have ts : TupsStay s.heap h' := fun b vs t => by
    have hb : b ≠ a := by rintro rfl; rw [R.tup t] at ha; cases ha
    obtain ⟨n, t⟩ := t
    exact ⟨n, (k.2 b hb).trans t⟩
  refine ⟨fun b o e => ?_, fun b po' e => ?_, fun b po' e => ?_, R.gens, R.os⟩
  · have hb : b ≠ a := by rintro rfl; rw [hB] at e; cases e
    exact (k.2 b hb).trans (R.base b o e)
  · by_cases q : b = a
    · subst q; exact hB
    · rw [PS.set_ne _ _ q] at e; exact R.new b po' e
  · by_cases q : b = a
    · subst q; rw [PS.set_self] at e; cases e; exact r
    · rw [PS.set_ne _ _ q] at e
      exact (R.rep b po' e).of_get ts (k.2 b q)
theorem Evo.upd {c : Cx} {st : PS} {h h' : Heap} {a : Addr} {po po' : PO} (ha : st a = some po) (k : Heap.SameBut a h h') (r : ObjRep c h' a po') : Evo st h (st.set a po') h' := fun b o e => by
  refine ⟨?_, fun n => ?_⟩
  · by_cases hb : b = a
    · subst hb; obtain ⟨x, hx, _⟩ := r.is; exact ⟨x, hx⟩
    · exact ⟨o, (k.2 b hb).trans e⟩
  · have hb : b ≠ a := by rintro rfl; rw [ha] at n; cases n
    exact ⟨(k.2 b hb).trans e, by rw [PS.set_ne _ _ hb]; exact n⟩
theorem Evo.gone {st st' : PS} {h h' : Heap} (x : Evo st h st' h') {a : Addr} (e : h'.get? a = none) : h.get? a = none := by
  cases q : h.get? a with
  | none => rfl
  | some o => obtain ⟨o', e'⟩ := (x a o q).1; rw [e] at e'; cases e'
theorem EvoX.gone {ex : Addr → Prop} {st st' : PS} {h h' : Heap} (x : EvoX ex st h st' h') {a : Addr} (e : h'.get? a = none) : h.get? a = none := by
  cases q : h.get? a with
  | none => rfl
  | some o => obtain ⟨o', e'⟩ := (x a o q).1; rw [e] at e'; cases e' 

/-- an object made since, no longer told of -/
theorem StRel.forget {c : Cx} {st st' : PS} {s : Shared} (R : StRel c st' s) (k : ∀ b po, st b = some po → st' b = some po) : StRel c st s :=
  ⟨R.base, fun b po e => R.new b po (k b po e), fun b po e => R.rep b po (k b po e), R.gens, R.os⟩

noncomputable def ownAt (env : Env) (b : Addr) : Prop := b = env.locals ∨ ∃ n, env.cells.lookup n = some b

noncomputable def varOf (env : Env) (m cm : Str → Option Value) (x : Str) : Option Value := match env.kindOf x with
  | some .local => m x
  | some .cell => if (env.cells.lookup x).isSome = true then cm x else none
  | some .free => if (env.cells.lookup x).isSome = true then cm x else none
  | _ => none

noncomputable abbrev Vars := List (Str × PV)

structure FrameAt (c : Cx) (env : Env) (ρ : Vars) (st : PS) (h : Heap) : Prop where
  ex : ∃ m cm, h.Ns env.locals m ∧ (∀ n a, env.cells.lookup n = some a → h.IsCell a (cm n)) ∧ ∀ x p, ρ.lookup x = some p → ∃ v, varOf env m cm x = some v ∧ Rep h p v
  apart : ∀ n n' a, env.cells.lookup n = some a → env.cells.lookup n' = some a → n = n'
  own : ∀ b, ownAt env b → st b = none ∧ c.B.get? b = none
  off : ∀ n a, env.cells.lookup n = some a → a ≠ env.locals

theorem FrameAt.evo {c : Cx} {env : Env} {ρ : Vars} {st st' : PS} {s : Shared} {h' : Heap} (F : FrameAt c env ρ st s.heap) (R : StRel c st s) (x : Evo st s.heap st' h') : FrameAt c env ρ st' h' := by
  obtain ⟨⟨m, cm, hn, hc, hv⟩, ap, own, off⟩ := F
  have there : ∀ b, ownAt env b → ∀ o, s.heap.get? b = some o → h'.get? b = some o := fun b q o e => ((x b o e).2 (own b q).1).1
  have cellAt : ∀ n a, env.cells.lookup n = some a → ownAt env a := fun n a e => .inr ⟨n, e⟩
  refine ⟨⟨m, cm, hn.at' fun o e => there _ (.inl rfl) o e, fun n a e => ?_, fun y p e => ?_⟩, ap, fun b q => ⟨?_, (own b q).2⟩, off⟩
  · obtain ⟨o, ho, hd⟩ := hc n a e; exact ⟨o, there _ (cellAt n a e) o ho, hd⟩
  · obtain ⟨v, e1, r⟩ := hv y p e; exact ⟨v, e1, r.stay (R.stay x)⟩
  · rcases q with rfl | ⟨n, q⟩
    · obtain ⟨o, _, _, ho, _⟩ := hn; exact ((x _ o ho).2 (own _ (.inl rfl)).1).2
    · obtain ⟨o, ho, _⟩ := hc n b q
      exact ((x _ o ho).2 (own _ (.inr ⟨n, q⟩)).1).2

/-- what the machine has round it: no exception in hand, room for n more levels -/
structure Room (n : Nat) (A : Around) : Prop where
  handled : A.handled = none
  depth : A.depth + n < 990
  units : A.units + 20 * n < 9800
theorem Room.mono {n m : Nat} {A : Around} (r : Room n A) (h : m ≤ n) : Room m A := ⟨r.handled, by have := r.depth; omega, by have := r.units; omega⟩
theorem Room.in1 {n : Nat} {A : Around} (r : Room (n + 1) A) : Room n A.in1 := ⟨r.handled, by show A.depth + n < 990; have := r.depth; omega, by show A.units + 1 + 20 * n < 9800; have := r.units; omega⟩
theorem Room.deeper {n : Nat} {A : Around} {env : Env} (r : Room (n + 1) A) : Room n (A.deeper env) := ⟨r.handled, by show A.depth + 1 + n < 990; have := r.depth; omega, by show A.units + 3 + 20 * n < 9800; have := r.units; omega⟩
theorem Room.mark {n : Nat} {A : Around} (r : Room n A) : Room n (A.mark none) := ⟨by simp [Around.mark, r.handled], r.depth, r.units⟩
theorem Room.u {n : Nat} {A : Around} (r : Room n A) : A.units < cLine := by show A.units < 9900; have := r.units; omega
theorem Room.d {n : Nat} {A : Around} (r : Room n A) : A.depth < recursionLimit := by show A.depth < 1000; have := r.depth; omega
end Mine

namespace Mine
open PySem

noncomputable abbrev Cx.M (c : Cx) : Model := model c.prog c.w
noncomputable abbrev NoE : Value → Shared → Prop := fun _ _ => False

noncomputable def Out (c : Cx) (st : PS) (h : Heap) (Q : PV → PS → Prop) : Value → Shared → Prop := fun v s' => ∃ p st', StRel c st' s' ∧ Evo st h st' s'.heap ∧ Rep s'.heap p v ∧ Q p st'
noncomputable def OutL (c : Cx) (st : PS) (h : Heap) (Q : List PV → PS → Prop) : List Value → Shared → Prop := fun vs s' => ∃ ps st', StRel c st' s' ∧ Evo st h st' s'.heap ∧ RepL s'.heap ps vs ∧ Q ps st'
noncomputable def OutB (c : Cx) (st : PS) (h : Heap) (Q : Bool → PS → Prop) : Bool → Shared → Prop := fun b s' => ∃ st', StRel c st' s' ∧ Evo st h st' s'.heap ∧ Q b st'
noncomputable def OutU (c : Cx) (st : PS) (h : Heap) (Q : PS → Prop) : Unit → Shared → Prop := fun _ s' => ∃ st', StRel c st' s' ∧ Evo st h st' s'.heap ∧ Q st'

section
variable (c : Cx) (n : Nat) (env : Env) (ρ : Vars)
noncomputable def WPe (e : Expr) (st : PS) (Q : PV → PS → Prop) : Prop :=
  ∀ A s, Room n A → StRel c st s → FrameAt c env ρ st s.heap → wpAny c.M A (eval e env) (Out c st s.heap Q) NoE s
noncomputable def WPl (es : List Expr) (st : PS) (Q : List PV → PS → Prop) : Prop :=
  ∀ A s pos, Room n A → StRel c st s → FrameAt c env ρ st s.heap → wpAny c.M A (spliced (backTo pos (starEach es env))) (OutL c st s.heap Q) NoE s
noncomputable def WPb (e : Expr) (st : PS) (Q : Bool → PS → Prop) : Prop :=
  ∀ A s, Room n A → StRel c st s → FrameAt c env ρ st s.heap → wpAny c.M A (isTrue e env (eval e env)) (OutB c st s.heap Q) NoE s
noncomputable def WP1 (f : Value → Sem Value) (p : PV) (st : PS) (Q : PV → PS → Prop) : Prop :=
  ∀ A s v, Room n A → StRel c st s → Rep s.heap p v → wpAny c.M A (f v) (Out c st s.heap Q) NoE s
noncomputable def WP2 (f : Value → Value → Sem Value) (p q : PV) (st : PS) (Q : PV → PS → Prop) : Prop :=
  ∀ A s v u, Room n A → StRel c st s → Rep s.heap p v → Rep s.heap q u → wpAny c.M A (f v u) (Out c st s.heap Q) NoE s
noncomputable def WPt (p : PV) (st : PS) (Q : Bool → PS → Prop) : Prop :=
  ∀ A s v, Room n A → StRel c st s → Rep s.heap p v → wpAny c.M A (truthy v) (OutB c st s.heap Q) NoE s
/-- a call of a value by plain values -/
noncomputable def WPc (f : Value) (ps : List PV) (st : PS) (Q : PV → PS → Prop) : Prop :=
  ∀ A s vs, Room n A → StRel c st s → RepL s.heap ps vs → wpAny c.M A (call f vs) (Out c st s.heap Q) NoE s
end

section
variable {c : Cx} {st : PS} {s : Shared} {A : Around}

theorem Out.here {Q : PV → PS → Prop} {p : PV} {v : Value} {h : Heap} {st0 : PS} (R : StRel c st s) (x : Evo st0 h st s.heap) (r : Rep s.heap p v) (q : Q p st) : Out c st0 h Q v s := ⟨p, st, R, x, r, q⟩
theorem Out.from {Q : PV → PS → Prop} {v : Value} {h h1 : Heap} {st0 st1 : PS} (x : Evo st0 h st1 h1) (o : Out c st1 h1 Q v s) : Out c st0 h Q v s :=
  let ⟨p, st', R, y, r, q⟩ := o; ⟨p, st', R, x.trans y, r, q⟩
theorem OutL.from {Q : List PV → PS → Prop} {v : List Value} {h h1 : Heap} {st0 st1 : PS} (x : Evo st0 h st1 h1) (o : OutL c st1 h1 Q v s) : OutL c st0 h Q v s :=
  let ⟨p, st', R, y, r, q⟩ := o; ⟨p, st', R, x.trans y, r, q⟩
theorem OutB.from {Q : Bool → PS → Prop} {v : Bool} {h h1 : Heap} {st0 st1 : PS} (x : Evo st0 h st1 h1) (o : OutB c st1 h1 Q v s) : OutB c st0 h Q v s :=
  let ⟨st', R, y, q⟩ := o; ⟨st', R, x.trans y, q⟩
theorem Out.mono {Q Q' : PV → PS → Prop} {v : Value} {h : Heap} (o : Out c st h Q v s) (k : ∀ p st', Q p st' → Q' p st') : Out c st h Q' v s :=
  let ⟨p, st', R, y, r, q⟩ := o; ⟨p, st', R, y, r, k _ _ q⟩
theorem OutB.mono {Q Q' : Bool → PS → Prop} {v : Bool} {h : Heap} (o : OutB c st h Q v s) (k : ∀ p st', Q p st' → Q' p st') : OutB c st h Q' v s :=
  let ⟨st', R, y, q⟩ := o; ⟨st', R, y, k _ _ q⟩

theorem wp_then {α : Type} {t : Sem α} {P P' : α → Shared → Prop} {E : Value → Shared → Prop} (h : wpAny c.M A t P NoE s) (k : ∀ a s', P a s' → P' a s') : wpAny c.M A t P' E s :=
  wpAny_mono h k fun _ _ e => e.elim
end

section
variable {c : Cx} {n : Nat} {env : Env} {ρ : Vars} {st : PS} {Q : PV → PS → Prop}

theorem WPe.mono {e : Expr} {Q' : PV → PS → Prop} (h : WPe c n env ρ e st Q) (k : ∀ p st', Q p st' → Q' p st') : WPe c n env ρ e st Q' :=
  fun A s r R F => wp_then (h A s r R F) fun _ _ o => o.mono k
theorem WPb.mono {e : Expr} {Q Q' : Bool → PS → Prop} (h : WPb c n env ρ e st Q) (k : ∀ p st', Q p st' → Q' p st') : WPb c n env ρ e st Q' :=
  fun A s r R F => wp_then (h A s r R F) fun _ _ o => o.mono k
theorem WPc.mono {f : Value} {ps : List PV} {Q' : PV → PS → Prop} (h : WPc c n f ps st Q) (k : ∀ p st', Q p st' → Q' p st') : WPc c n f ps st Q' :=
  fun A s vs r R F => wp_then (h A s vs r R F) fun _ _ o => o.mono k
theorem WPc.room {f : Value} {ps : List PV} {m : Nat} (h : WPc c n f ps st Q) (k : n ≤ m) : WPc c m f ps st Q :=
  fun A s vs r R F => h A s vs (r.mono k) R F

-- constants
theorem e_int {i : Int} {k : Nat} {pos : Pos} (h : Q (.int i) st) : WPe c n env ρ (.Constant (.int i) k pos) st Q :=
  fun A s r R F => wpAny_Constant_int ⟨_, _, R.toks _, Evo.refl _ _, .int, h⟩
theorem e_str {x : Str} {k : Nat} {pos : Pos} (h : Q (.str x) st) : WPe c n env ρ (.Constant (.str x) k pos) st Q :=
  fun A s r R F => Calls.Constant_str ⟨_, _, R.toks _, Evo.refl _ _, .str, h⟩
theorem e_bool {b : Bool} {k : Nat} {pos : Pos} (h : Q (.bool b) st) : WPe c n env ρ (.Constant (.bool b) k pos) st Q :=
  fun A s r R F => wpAny_Constant_bool ⟨_, _, R, Evo.refl _ _, .bool, h⟩
theorem e_none {k : Nat} {pos : Pos} (h : Q .none st) : WPe c n env ρ (.Constant .none k pos) st Q :=
  fun A s r R F => wpAny_Constant_none ⟨_, _, R, Evo.refl _ _, .none, h⟩

-- names
noncomputable def isVar (env : Env) (x : Str) : Bool := env.scope.kind == .function && (match env.kindOf x with | some .local => true | some .cell => true | some .free => !(x == ("__classdict__" : Str)) | _ => false) && !(x == ("__debug__" : Str))
theorem load_var {x : Str} {p : PV} {A : Around} {s : Shared} (hk : isVar env x = true) (hv : ρ.lookup x = some p) (R : StRel c st s) (F : FrameAt c env ρ st s.heap) (h : Q p st) :
    wpAny c.M A (loadName env x) (Out c st s.heap Q) NoE s := by
  obtain ⟨⟨m, cm, hn, hc, hvs⟩, _, _, _⟩ := F
  obtain ⟨v, e, r⟩ := hvs x p hv
  simp only [isVar, Bool.and_eq_true, beq_iff_eq, Bool.not_eq_true', beq_eq_false_iff_ne] at hk
  obtain ⟨⟨k1, k2⟩, k3⟩ := hk
  have fin : Out c st s.heap Q v s := ⟨_, _, R, Evo.refl _ _, r, h⟩
  unfold varOf at e
  cases hkd : env.kindOf x with
  | none => rw [hkd] at e; cases e
  | some kd =>
    rw [hkd] at e k2
    cases kd with
    | «local» => exact wpAny_loadName_local k1 hkd hn e fin
    | cell =>
      dsimp only at e
      split at e
      · rename_i q
        obtain ⟨a, ha⟩ := Option.isSome_iff_exists.mp q
        exact wpAny_loadName_cell k1 hkd ha (e ▸ hc x a ha) fin
      · cases e
    | free =>
      dsimp only at e
      split at e
      · rename_i q
        obtain ⟨a, ha⟩ := Option.isSome_iff_exists.mp q
        exact wpAny_loadName_free k1 hkd ha (e ▸ hc x a ha) fin (by simpa using k2)
      · cases e
    | _ => cases e
theorem e_var {x : Str} {pos : Pos} {p : PV} (hk : isVar env x = true) (hv : ρ.lookup x = some p) (h : Q p st) : WPe c n env ρ (.Name x pos) st Q :=
  fun A s r R F => wpAny_Name (load_var hk hv R F h) (by simp [isVar] at hk ⊢; exact hk.2)

-- lists of expressions
theorem l_nil {Q : List PV → PS → Prop} (h : Q [] st) : WPl c n env ρ [] st Q :=
  fun A s pos r R F => Calls.spliced_nil ⟨_, _, R, Evo.refl _ _, .nil, h⟩
noncomputable def notStar : Expr → Bool
  | .Starred _ _ => false
  | _ => true
theorem starEach_cons {e : Expr} {es : List Expr} (h : notStar e = true) : starEach (e :: es) env = (false, eval e env) :: starEach es env := by
  cases e <;> first | rfl | cases h
theorem l_cons {e : Expr} {es : List Expr} {Q : List PV → PS → Prop} (hs : notStar e = true) (h : WPe c n env ρ e st fun p st1 => WPl c n env ρ es st1 fun ps st2 => Q (p :: ps) st2) : WPl c n env ρ (e :: es) st Q := by
  intro A s pos r R F
  rw [starEach_cons hs]
  refine Calls.spliced_cons (wp_then (h A s r R F) fun v s1 o => ?_)
  obtain ⟨p, st1, R1, x1, r1, q1⟩ := o
  refine wp_then (q1 A s1 pos r R1 (F.evo R x1)) fun vs s2 o => ?_
  obtain ⟨ps, st2, R2, x2, r2, q2⟩ := o
  exact ⟨_, _, R2, x1.trans x2, .cons (r1.stay (R1.stay x2)) r2, q2⟩

-- displays
theorem alloc_tuple {A : Around} {s : Shared} {ps : List PV} {vs : List Value} (R : StRel c st s) (r : RepL s.heap ps vs) (hz : ps.length ≤ 2 ^ 20) (h : Q (.tup ps) st) : wpAny c.M A (newTuple vs) (Out c st s.heap Q) NoE s := by
  refine wpAny_newTuple ?_ (by rw [r.length]; exact Nat.le_trans hz (by rw [sizeLine_eq]; omega))
  have k : ∀ b o, s.heap.get? b = some o → (s.heap.push { cls := .type "tuple", data := .seq vs.toArray }).get? b = some o := fun b o e => Heap.get?_push_of_some _ e
  exact ⟨.tup ps, st, R.grow (tk := s.toks) k, Evo.grow k, .tup ⟨0, Heap.get?_push_size _ rfl⟩ (r.stay fun a us ⟨n, t⟩ => ⟨n, k _ _ t⟩), h⟩
theorem alloc_list {A : Around} {s : Shared} {ps : List PV} {vs : List Value} (R : StRel c st s) (r : RepL s.heap ps vs) (hz : ps.length ≤ 2 ^ 20) (h : ∀ a, st a = none → c.B.get? a = none → Q (.loc a) (st.set a (.list ps))) : wpAny c.M A (newList vs) (Out c st s.heap Q) NoE s := by
  refine wpAny_newList ?_ (by rw [r.length]; exact Nat.le_trans hz (by rw [sizeLine_eq]; omega))
  have k : ∀ b o, s.heap.get? b = some o → (s.heap.push { cls := .type "list", data := .seq vs.toArray }).get? b = some o := fun b o e => Heap.get?_push_of_some _ e
  have hn := get?_size s.heap
  have hB : c.B.get? s.heap.objs.size = none := by
    cases e : c.B.get? s.heap.objs.size with
    | none => rfl
    | some o => rw [R.base _ o e] at hn; cases hn
  exact ⟨.loc s.heap.objs.size, _, R.alloc (po := .list ps) (tk := s.toks) hn k ⟨vs, ⟨0, Heap.get?_push_size _ rfl⟩, r.stay fun a us ⟨n, t⟩ => ⟨n, k _ _ t⟩⟩, Evo.alloc hn k, .loc, h _ (R.none_of_free hn) hB⟩
theorem e_tuple {es : List Expr} {k : Nat} {pos : Pos} (h : WPl c n env ρ es st fun ps st1 => ps.length ≤ 2 ^ 20 ∧ Q (.tup ps) st1) : WPe c n env ρ (.Tuple es k pos) st Q := by
  intro A s r R F
  refine PyProof.Rows.Tuple_ (wp_then (h A s pos r R F) fun vs s1 o => ?_)
  obtain ⟨ps, st1, R1, x1, r1, hz, q1⟩ := o
  exact wp_then (alloc_tuple R1 r1 hz q1) fun _ _ o => o.from x1
theorem e_list {es : List Expr} {pos : Pos} (h : WPl c n env ρ es st fun ps st1 => ps.length ≤ 2 ^ 20 ∧ ∀ a, st1 a = none → c.B.get? a = none → Q (.loc a) (st1.set a (.list ps))) : WPe c n env ρ (.List es pos) st Q := by
  intro A s r R F
  refine PyProof.Rows.List_ (wp_then (h A s pos r R F) fun vs s1 o => ?_)
  obtain ⟨ps, st1, R1, x1, r1, hz, q1⟩ := o
  exact wp_then (alloc_list R1 r1 hz q1) fun _ _ o => o.from x1

-- operators
theorem e_bin {l r : Expr} {op : Operator} {pos : Pos} (h : WPe c n env ρ l st fun p st1 => WPe c n env ρ r st1 fun q st2 => WP2 c n (binaryOp op) p q st2 Q) : WPe c n env ρ (.BinOp l op r pos) st Q := by
  intro A s rm R F
  refine wpAny_BinOp (wp_then (h A s rm R F) fun v s1 o => ?_)
  obtain ⟨p, st1, R1, x1, r1, q1⟩ := o
  refine wp_then (q1 A s1 rm R1 (F.evo R x1)) fun u s2 o => ?_
  obtain ⟨q, st2, R2, x2, r2, q2⟩ := o
  exact wp_then (q2 A s2 v u rm R2 (r1.stay (R1.stay x2)) r2) fun _ _ o => o.from (x1.trans x2)
theorem e_cmp {l r : Expr} {op : CmpOp} {pos : Pos} (h : WPe c n env ρ l st fun p st1 => WPe c n env ρ r st1 fun q st2 => WP2 c n (compareOp op) p q st2 Q) (hm : behindInMarks op r = false) : WPe c n env ρ (.Compare l [op] [r] pos) st Q := by
  intro A s rm R F
  refine wpAny_Compare1 (wp_then (h A s rm R F) fun v s1 o => ?_) hm
  obtain ⟨p, st1, R1, x1, r1, q1⟩ := o
  refine wp_then (q1 A s1 rm R1 (F.evo R x1)) fun u s2 o => ?_
  obtain ⟨q, st2, R2, x2, r2, q2⟩ := o
  exact wp_then (q2 A s2 v u rm R2 (r1.stay (R1.stay x2)) r2) fun _ _ o => o.from (x1.trans x2)

-- tests
theorem b_cmp {l r : Expr} {op : CmpOp} {pos : Pos} {Q : Bool → PS → Prop} (h : WPe c n env ρ l st fun p st1 => WPe c n env ρ r st1 fun q st2 => WP2 c n (compareOp op) p q st2 fun b st3 => ∃ b', b = .bool b' ∧ Q b' st3) (hm : behindInMarks op r = false) : WPb c n env ρ (.Compare l [op] [r] pos) st Q := by
  intro A s rm R F
  refine wpAny_isTrue_Compare1 (wp_then (h A s rm R F) fun v s1 o => ?_) hm
  obtain ⟨p, st1, R1, x1, r1, q1⟩ := o
  refine wp_then (q1 A s1 rm R1 (F.evo R x1)) fun u s2 o => ?_
  obtain ⟨q, st2, R2, x2, r2, q2⟩ := o
  refine wp_then (q2 A s2 v u rm R2 (r1.stay (R1.stay x2)) r2) fun v s3 o => ?_
  obtain ⟨p', st3, R3, x3, r3, b', rfl, q3⟩ := o
  rw [r3.bool']
  exact wpAny_truthy_bool ⟨_, R3, (x1.trans x2).trans x3, q3⟩
theorem b_not {x : Expr} {pos : Pos} {Q : Bool → PS → Prop} (h : WPb c n env ρ x st fun b st1 => Q (!b) st1) : WPb c n env ρ (.UnaryOp .Not x pos) st Q := by
  intro A s rm R F
  show wpAny _ _ (do return !(← isTrue x env (eval x env))) _ _ _
  exact wpAny_bind (wp_then (h A s rm R F) fun b s1 o => wpAny_pure o)
theorem e_if {t b o : Expr} {pos : Pos} (h : WPb c n env ρ t st fun x st1 => if x = true then WPe c n env ρ b st1 Q else WPe c n env ρ o st1 Q) : WPe c n env ρ (.IfExp t b o pos) st Q := by
  intro A s rm R F
  show wpAny _ _ (do if ← isTrue t env (eval t env) then eval b env else eval o env) _ _ _
  refine wpAny_bind (wp_then (h A s rm R F) fun x s1 o => ?_)
  obtain ⟨st1, R1, x1, q⟩ := o
  cases x with
  | true => exact wp_then (q A s1 rm R1 (F.evo R x1)) fun _ _ o => o.from x1
  | false => exact wp_then (q A s1 rm R1 (F.evo R x1)) fun _ _ o => o.from x1
theorem allTrue_cons_and {x : Expr} {rest : List Expr} {A : Around} {s : Shared} {P : Bool → Shared → Prop} (h : wpAny c.M A (isTrue x env (eval x env)) (fun b s1 => if b = true then wpAny c.M A (allTrue .And rest env) P NoE s1 else P false s1) NoE s) :
    wpAny c.M A (allTrue .And (x :: rest) env) P NoE s := by
  show wpAny _ _ (do match BoolOp.And, ← isTrue x env (eval x env) with
    | .And, false => pure false
    | .Or, true => pure true
    | _, _ => allTrue .And rest env) _ _ _
  refine wpAny_bind (wp_then h fun b s1 o => ?_)
  cases b with
  | true => exact o
  | false => exact wpAny_pure o
theorem b_and2 {x y : Expr} {pos : Pos} {Q : Bool → PS → Prop} (h : WPb c n env ρ x st fun b st1 => if b = true then WPb c n env ρ y st1 Q else Q false st1) : WPb c n env ρ (.BoolOp .And [x, y] pos) st Q := by
  intro A s rm R F
  show wpAny _ _ (allTrue .And [x, y] env) _ _ _
  refine allTrue_cons_and (wp_then (h A s rm R F) fun b s1 o => ?_)
  obtain ⟨st1, R1, x1, q⟩ := o
  cases b with
  | false => exact ⟨_, R1, x1, q⟩
  | true =>
    refine allTrue_cons_and (wp_then (q A s1 rm R1 (F.evo R x1)) fun b s2 o => ?_)
    cases b with
    | true => exact wpAny_pure (o.from x1)
    | false => exact o.from x1
end
end Mine

namespace Mine
open PySem

inductive PF where
  | next | brk | cont
  | ret (p : PV)
noncomputable def FlowRep (h : Heap) : PF → Flow → Prop
  | .next, f => f = .next
  | .brk, f => f = .brk
  | .cont, f => f = .cont
  | .ret p, f => ∃ v, f = .ret v ∧ Rep h p v

noncomputable def OutF (c : Cx) (env : Env) (st : PS) (h : Heap) (Q : PF → Vars → PS → Prop) : Flow → Shared → Prop := fun f s' =>
  ∃ pf ρ' st', StRel c st' s' ∧ EvoX (ownAt env) st h st' s'.heap ∧ FrameAt c env ρ' st' s'.heap ∧ FlowRep s'.heap pf f ∧ Q pf ρ' st'
noncomputable def OutV (c : Cx) (env : Env) (st : PS) (h : Heap) (Q : Vars → PS → Prop) : Unit → Shared → Prop := fun _ s' =>
  ∃ ρ' st', StRel c st' s' ∧ EvoX (ownAt env) st h st' s'.heap ∧ FrameAt c env ρ' st' s'.heap ∧ Q ρ' st'
section
variable (c : Cx) (n : Nat) (env : Env) (ρ : Vars)
noncomputable def WPs (ss : List Stmt) (st : PS) (Q : PF → Vars → PS → Prop) : Prop :=
  ∀ A s, Room n A → StRel c st s → FrameAt c env ρ st s.heap → wpAny c.M A (execs ss env) (OutF c env st s.heap Q) NoE s
noncomputable def WPx (x : Stmt) (st : PS) (Q : PF → Vars → PS → Prop) : Prop :=
  ∀ A s, Room n A → StRel c st s → FrameAt c env ρ st s.heap → wpAny c.M A (exec x env) (OutF c env st s.heap Q) NoE s
/-- a value laid into a target -/
noncomputable def WPa (t : Expr) (p : PV) (st : PS) (Q : Vars → PS → Prop) : Prop :=
  ∀ A s v, Room n A → StRel c st s → FrameAt c env ρ st s.heap → Rep s.heap p v → wpAny c.M A (assign t env v) (OutV c env st s.heap Q) NoE s
end

section
variable {c : Cx} {n : Nat} {env : Env} {ρ : Vars} {st : PS} {s : Shared} {A : Around}
theorem OutF.from {Q : PF → Vars → PS → Prop} {f : Flow} {h h1 : Heap} {st0 st1 : PS} (x : EvoX (ownAt env) st0 h st1 h1) (o : OutF c env st1 h1 Q f s) : OutF c env st0 h Q f s :=
  let ⟨p, ρ', st', R, y, F, r, q⟩ := o; ⟨p, ρ', st', R, x.trans y, F, r, q⟩
theorem OutV.from {Q : Vars → PS → Prop} {f : Unit} {h h1 : Heap} {st0 st1 : PS} (x : EvoX (ownAt env) st0 h st1 h1) (o : OutV c env st1 h1 Q f s) : OutV c env st0 h Q f s :=
  let ⟨ρ', st', R, y, F, q⟩ := o; ⟨ρ', st', R, x.trans y, F, q⟩
theorem OutF.mono {Q Q' : PF → Vars → PS → Prop} {f : Flow} {h : Heap} (o : OutF c env st h Q f s) (k : ∀ p r st', Q p r st' → Q' p r st') : OutF c env st h Q' f s :=
  let ⟨p, ρ', st', R, y, F, r, q⟩ := o; ⟨p, ρ', st', R, y, F, r, k _ _ _ q⟩
theorem WPs.mono {ss : List Stmt} {Q Q' : PF → Vars → PS → Prop} (h : WPs c n env ρ ss st Q) (k : ∀ p r st', Q p r st' → Q' p r st') : WPs c n env ρ ss st Q' :=
  fun A s r R F => wp_then (h A s r R F) fun _ _ o => o.mono k

/-- the names that are known may be fewer -/
noncomputable def Sub (ρ' ρ : Vars) : Prop := ∀ x p, ρ'.lookup x = some p → ρ.lookup x = some p
theorem FrameAt.weaken {ρ' : Vars} {h : Heap} (F : FrameAt c env ρ st h) (k : Sub ρ' ρ) : FrameAt c env ρ' st h := by
  obtain ⟨⟨m, cm, hn, hc, hv⟩, ap, own, off⟩ := F
  exact ⟨⟨m, cm, hn, hc, fun x p e => hv x p (k x p e)⟩, ap, own, off⟩
theorem WPs.weaken {ρ' : Vars} {ss : List Stmt} {Q : PF → Vars → PS → Prop} (h : WPs c n env ρ' ss st Q) (k : Sub ρ' ρ) : WPs c n env ρ ss st Q :=
  fun A s r R F => h A s r R (F.weaken k)

theorem FrameAt.noSeq {h : Heap} (F : FrameAt c env ρ st h) : ∀ b o, ownAt env b → h.get? b = some o → ∀ vs n, o.data ≠ .seq vs n := by
  obtain ⟨⟨m, cm, hn, hc, hv⟩, ap, own, off⟩ := F
  intro b o q e vs k
  rcases q with rfl | ⟨x, q⟩
  · obtain ⟨o', es, ep, ho, hd, _⟩ := hn
    rw [e] at ho; cases ho; rw [hd]; simp
  · obtain ⟨o', ho, hd⟩ := hc x b q
    rw [e] at ho; cases ho; rw [hd]; simp
theorem FrameAt.stay {st' : PS} {h' : Heap} (F : FrameAt c env ρ st s.heap) (R : StRel c st s) (x : EvoX (ownAt env) st s.heap st' h') : TupsStay s.heap h' := R.stayX F.noSeq x

noncomputable def isOwn (env : Env) (x : Str) : Bool := env.scope.kind == .function && (match env.kindOf x with | some .local => true | some .cell => (env.cells.lookup x).isSome | _ => false)

/-- a name is stored -/
theorem store_var {x : Str} {p : PV} {v : Value} {Q : Vars → PS → Prop} (hk : isOwn env x = true) (R : StRel c st s) (F : FrameAt c env ρ st s.heap) (r : Rep s.heap p v) (h : Q ((x, p) :: ρ) st) :
    wpAny c.M A (storeName env x v) (OutV c env st s.heap Q) NoE s := by
  have F0 := F
  obtain ⟨⟨m, cm, hn, hc, hv⟩, ap, own, off⟩ := F
  simp only [isOwn, Bool.and_eq_true, beq_iff_eq] at hk
  obtain ⟨k1, k2⟩ := hk
  have R' : ∀ (h' : Heap) (a : Addr) (tk : Nat), ownAt env a → (∃ o, h'.get? a = some o) → Heap.SameBut a s.heap h' → StRel c st { s with heap := h', toks := tk } ∧ EvoX (ownAt env) st s.heap st h' ∧ TupsStay s.heap h' := by
    intro h' a tk ho hx hs
    have ex : EvoX (ownAt env) st s.heap st h' := fun b o e => ⟨if q : b = a then q ▸ hx else ⟨o, (hs.2 b q).trans e⟩, fun nn q => ⟨(hs.2 b (by rintro rfl; exact q ho)).trans e, nn⟩⟩
    have ts := F0.stay R ex
    refine ⟨⟨fun b o e => ?_, R.new, fun b po e => ?_, R.gens, R.os⟩, ex, ts⟩
    · have hb : b ≠ a := by rintro rfl; rw [(own b ho).2] at e; cases e
      exact (hs.2 b hb).trans (R.base b o e)
    · have hb : b ≠ a := by rintro rfl; rw [(own b ho).1] at e; cases e
      exact (R.rep b po e).of_get ts (hs.2 b hb)
  cases hkd : env.kindOf x with
  | none => rw [hkd] at k2; cases k2
  | some kd =>
    rw [hkd] at k2
    cases kd with
    | «local» =>
      refine wpAny_storeName_local hkd hn (fun h' hn' hs => ?_) (by rw [k1]; rfl)
      obtain ⟨R1, x1, ts⟩ := R' h' env.locals (s.toks + 1) (.inl rfl) (by obtain ⟨o, _, _, ho, _⟩ := hn'; exact ⟨o, ho⟩) hs
      refine ⟨_, st, R1, x1, ⟨⟨_, cm, hn', fun y a e => (hc y a e).sameBut hs (off y a e), fun y q e => ?_⟩, ap, own, off⟩, h⟩
      by_cases hy : y = x
      · subst hy
        simp only [List.lookup_cons, beq_self_eq_true, Option.some.injEq] at e
        subst e
        exact ⟨v, by simp [varOf, hkd], r.stay ts⟩
      · have hb : (y == x) = false := beq_eq_false_iff_ne.mpr hy
        simp only [List.lookup_cons, hb] at e
        obtain ⟨u, e1, r1⟩ := hv y q e
        exact ⟨u, by simp only [varOf, hy, if_false] at e1 ⊢; exact e1, r1.stay ts⟩
    | cell =>
      dsimp only at k2
      obtain ⟨a, ha⟩ := Option.isSome_iff_exists.mp k2
      refine wpAny_storeName_cell k1 hkd ha (hc x a ha) fun h' hc' hs => ?_
      obtain ⟨R1, x1, ts⟩ := R' h' a s.toks (.inr ⟨x, ha⟩) (by obtain ⟨o, ho, _⟩ := hc'; exact ⟨o, ho⟩) hs
      refine ⟨_, st, R1, x1, ⟨⟨m, fun y => if y = x then some v else cm y, hn.sameBut hs (Ne.symm (off x a ha)), fun y b e => ?_, fun y q e => ?_⟩, ap, own, off⟩, h⟩
      · by_cases hy : y = x
        · subst hy; rw [ha] at e; cases e; simpa using hc'
        · show Heap.IsCell h' b (if y = x then some v else cm y)
          rw [if_neg hy]
          exact (hc y b e).sameBut hs fun q => hy (ap y x b e (q ▸ ha))
      · by_cases hy : y = x
        · subst hy
          simp only [List.lookup_cons, beq_self_eq_true, Option.some.injEq] at e
          subst e
          exact ⟨v, by simp [varOf, hkd, ha], r.stay ts⟩
        · have hb : (y == x) = false := beq_eq_false_iff_ne.mpr hy
          simp only [List.lookup_cons, hb] at e
          obtain ⟨u, e1, r1⟩ := hv y q e
          exact ⟨u, by simp only [varOf, hy, if_false] at e1 ⊢; exact e1, r1.stay ts⟩
    | _ => cases k2

-- statements
theorem s_nil {Q : PF → Vars → PS → Prop} (h : Q .next ρ st) : WPs c n env ρ [] st Q :=
  fun A s r R F => wpAny_execs_nil ⟨.next, _, _, R, EvoX.refl _ _ _, F, rfl, h⟩
noncomputable def Cont (c : Cx) (n : Nat) (env : Env) (rest : List Stmt) (Q : PF → Vars → PS → Prop) : PF → Vars → PS → Prop
  | .next, ρ', st' => WPs c n env ρ' rest st' Q
  | f, ρ', st' => Q f ρ' st'
theorem s_cons {x : Stmt} {rest : List Stmt} {Q : PF → Vars → PS → Prop} (h : WPx c n env ρ x st (Cont c n env rest Q)) : WPs c n env ρ (x :: rest) st Q := by
  intro A s r R F
  refine wpAny_execs_cons (wp_then (h A s r R F) fun f s1 o => ?_)
  obtain ⟨pf, ρ1, st1, R1, x1, F1, fr, q⟩ := o
  cases pf with
  | next =>
    have e : f = .next := fr
    subst e
    exact wp_then (q A s1 r R1 F1) fun _ _ o => o.from x1
  | brk => have e : f = .brk := fr; subst e; exact ⟨.brk, ρ1, st1, R1, x1, F1, fr, q⟩
  | cont => have e : f = .cont := fr; subst e; exact ⟨.cont, ρ1, st1, R1, x1, F1, fr, q⟩
  | ret p => obtain ⟨v, e, rp⟩ := id fr; subst e; exact ⟨.ret p, ρ1, st1, R1, x1, F1, fr, q⟩
theorem x_ret {e : Expr} {pos : Pos} {Q : PF → Vars → PS → Prop} (h : WPe c n env ρ e st fun p st1 => Q (.ret p) ρ st1) : WPx c n env ρ (.Return (some e) pos) st Q := by
  intro A s r R F
  refine wpAny_Return_some (wp_then (h A s r R F) fun v s1 o => ?_)
  obtain ⟨p, st1, R1, x1, r1, q⟩ := o
  exact ⟨.ret p, ρ, st1, R1, x1.x, F.evo R x1, ⟨v, rfl, r1⟩, q⟩
theorem x_if {t : Expr} {b o : List Stmt} {pos : Pos} {Q : PF → Vars → PS → Prop} (h : WPb c n env ρ t st fun x st1 => if x = true then WPs c n env ρ b st1 Q else WPs c n env ρ o st1 Q) : WPx c n env ρ (.If t b o pos) st Q := by
  intro A s r R F
  refine wpAny_If (wp_then (h A s r R F) fun x s1 q => ?_)
  obtain ⟨st1, R1, x1, q⟩ := q
  cases x with
  | true => exact wp_then (q A s1 r R1 (F.evo R x1)) fun _ _ o => o.from x1.x
  | false => exact wp_then (q A s1 r R1 (F.evo R x1)) fun _ _ o => o.from x1.x
theorem x_expr {e : Expr} {pos : Pos} {Q : PF → Vars → PS → Prop} (h : WPe c n env ρ e st fun _ st1 => Q .next ρ st1) (hi : interactive env = false) (hs : swapsWith e none pos.line env = pure false) : WPx c n env ρ (.Expr e pos) st Q := by
  intro A s r R F
  refine wpAny_Expr_any (wp_then (h A s r R F) fun v s1 o => ?_) hi hs
  obtain ⟨p, st1, R1, x1, r1, q⟩ := o
  exact ⟨.next, ρ, st1, R1, x1.x, F.evo R x1, rfl, q⟩
theorem x_assign {x : Str} {e : Expr} {p1 pos : Pos} {Q : PF → Vars → PS → Prop} (h : WPe c n env ρ e st fun p st1 => Q .next ((x, p) :: ρ) st1) (hk : isOwn env x = true)
    (hs : swapsWith e (some (.Name x p1)) pos.line env = pure false) : WPx c n env ρ (.Assign [.Name x p1] e pos) st Q := by
  intro A s r R F
  refine wpAny_Assign_Name (wp_then (h A s r R F) fun v s1 o => ?_) hs
  obtain ⟨p, st1, R1, x1, r1, q⟩ := o
  refine wp_then (store_var (Q := fun ρ' st' => Q .next ρ' st') hk R1 (F.evo R x1) r1 q) fun _ s2 o => ?_
  obtain ⟨ρ2, st2, R2, x2, F2, q2⟩ := o
  exact ⟨.next, ρ2, st2, R2, x1.x.trans x2, F2, rfl, q2⟩
theorem a_name {x : Str} {p : PV} {pos : Pos} {Q : Vars → PS → Prop} (hk : isOwn env x = true) (h : Q ((x, p) :: ρ) st) : WPa c n env ρ (.Name x pos) p st Q :=
  fun A s v r R F rp => wpAny_assign_Name (store_var hk R F rp h)

theorem unpack_rep {p : List PV} {v : Value} {E : Value → Shared → Prop} {P : List Value → Shared → Prop} (hr : Room n A) (R : StRel c st s) (r : Rep s.heap (.tup p) v)
    (h : ∀ vs s', StRel c st s' → Evo st s.heap st s'.heap → RepL s'.heap p vs → P vs s') : wpAny c.M A (unpackItems v p.length none) P E s := by
  obtain ⟨a, vs, rfl, t, rl⟩ := r.tup'
  obtain ⟨k, hk⟩ := t
  have hl := rl.length
  have ht : s.heap.IsTuple a (List.toArray vs) := ⟨_, hk, rfl, k, rfl⟩
  have e : p.length = (List.toArray vs).size := by simp [hl]
  rw [e]
  refine wpAny_unpackItems_tuple hr.handled ht fun h' x => ?_
  have kk : ∀ b o, s.heap.get? b = some o → h'.get? b = some o := fun b o e => x b o (Nat.ne_of_lt (Heap.lt_size e)) e
  have := h (List.toArray vs).toList { s with heap := h' } (R.grow (tk := s.toks) kk) (Evo.grow kk) (by simpa using rl.stay fun b us ⟨n, t⟩ => ⟨n, kk _ _ t⟩)
  exact this

/-- two names, two values, the stores changed about -/
theorem x_pair_swapped {x y : Str} {e : Expr} {elts : List Expr} {k : Nat} {tp pos : Pos} {Q : PF → Vars → PS → Prop}
    (h : WPe c n env ρ e st fun p st1 => ∃ a b, p = .tup [a, b] ∧ Q .next ((x, a) :: (y, b) :: ρ) st1) (hx : isOwn env x = true) (hy : isOwn env y = true)
    (hs : swapsWithSole [.Tuple elts k tp] e pos.line env = pure false) (hw : swappedStores [.Tuple elts k tp] e env = pure (some [x, y])) : WPx c n env ρ (.Assign [.Tuple elts k tp] e pos) st Q := by
  intro A s r R F
  refine PyProof.Rows.Assign_Tuple_swapped (names := [x, y]) (wp_then (h A s r R F) fun v s1 o => ?_) hs hw
  obtain ⟨p, st1, R1, x1, r1, a, b, rfl, q⟩ := o
  refine unpack_rep (p := [a, b]) r R1 r1 fun vs s2 R2 x2 rl => ?_
  obtain ⟨va, vs, rfl, ra, rl⟩ := rl.cons_inv
  obtain ⟨vb, vs, rfl, rb, rl⟩ := rl.cons_inv
  have hnil := rl.nil_inv; subst hnil
  have F2 := (F.evo R x1).evo R1 x2
  show wpAny _ _ (assignInOrder [fun v => bindName env y v, fun v => bindName env x v] [vb, va]) _ _ _
  refine wpAny_assignInOrder_more (wpAny_bindName (wp_then (store_var (Q := fun ρ' st' => ρ' = (y, b) :: ρ ∧ st1 = st') hy R2 F2 rb ⟨rfl, rfl⟩) fun _ s3 o => ?_))
  obtain ⟨_, _, R3, x3, F3, rfl, rfl⟩ := o
  refine wpAny_assignInOrder_more (wpAny_bindName (wp_then (store_var (Q := fun ρ' st' => ρ' = (x, a) :: (y, b) :: ρ ∧ st1 = st') hx R3 F3 (ra.stay (F2.stay R2 x3)) ⟨rfl, rfl⟩) fun _ s4 o => ?_))
  obtain ⟨_, _, R4, x4, F4, rfl, rfl⟩ := o
  exact wpAny_assignInOrder_none ⟨.next, _, _, R4, ((x1.x.trans x2.x).trans x3).trans x4, F4, rfl, q⟩

theorem x_setitem {o i e : Expr} {p1 pos : Pos} {Q : PF → Vars → PS → Prop}
    (h : WPe c n env ρ e st fun p st1 => WPe c n env ρ o st1 fun po st2 => WPe c n env ρ i st2 fun pi st3 =>
      ∀ A s v vo vi, Room n A → StRel c st3 s → Rep s.heap p v → Rep s.heap po vo → Rep s.heap pi vi → wpAny c.M A (setItem vo vi v) (OutU c st3 s.heap fun st4 => Q .next ρ st4) NoE s)
    (hs : swapsWith e (some (.Subscript o i p1)) pos.line env = pure false) : WPx c n env ρ (.Assign [.Subscript o i p1] e pos) st Q := by
  intro A s r R F
  refine wpAny_Assign_Subscript (wp_then (h A s r R F) fun v s1 q => ?_) hs
  obtain ⟨p, st1, R1, x1, r1, q⟩ := q
  have F1 := F.evo R x1
  refine wp_then (q A s1 r R1 F1) fun vo s2 q => ?_
  obtain ⟨po, st2, R2, x2, r2, q⟩ := q
  have F2 := F1.evo R1 x2
  refine wp_then (q A s2 r R2 F2) fun vi s3 q => ?_
  obtain ⟨pi, st3, R3, x3, r3, q⟩ := q
  have F3 := F2.evo R2 x3
  refine wp_then (q A s3 v vo vi r R3 ((r1.stay (R1.stay x2)).stay (R2.stay x3)) (r2.stay (R2.stay x3)) r3) fun _ s4 o => ?_
  obtain ⟨st4, R4, x4, q⟩ := o
  exact ⟨.next, ρ, st4, R4, (((x1.trans x2).trans x3).trans x4).x, F3.evo R3 x4, rfl, q⟩
theorem x_setattr {o e : Expr} {a : Str} {p1 pos : Pos} {Q : PF → Vars → PS → Prop}
    (h : WPe c n env ρ e st fun p st1 => WPe c n env ρ o st1 fun po st2 =>
      ∀ A s v vo, Room n A → StRel c st2 s → Rep s.heap p v → Rep s.heap po vo → wpAny c.M A (setAttr vo a v) (OutU c st2 s.heap fun st4 => Q .next ρ st4) NoE s)
    (hs : swapsWith e (some (.Attribute o a p1)) pos.line env = pure false) : WPx c n env ρ (.Assign [.Attribute o a p1] e pos) st Q := by
  intro A s r R F
  refine plainObj_wpAny_Assign_Attribute (wp_then (h A s r R F) fun v s1 q => ?_) hs
  obtain ⟨p, st1, R1, x1, r1, q⟩ := q
  have F1 := F.evo R x1
  refine wp_then (q A s1 r R1 F1) fun vo s2 q => ?_
  obtain ⟨po, st2, R2, x2, r2, q⟩ := q
  have F2 := F1.evo R1 x2
  refine wp_then (q A s2 v vo r R2 (r1.stay (R1.stay x2)) r2) fun _ s4 o => ?_
  obtain ⟨st4, R4, x4, q⟩ := o
  exact ⟨.next, ρ, st4, R4, ((x1.trans x2).trans x4).x, F2.evo R2 x4, rfl, q⟩
end
end Mine

namespace Mine
open PySem

/-- a built-in name, no global hides it -/
noncomputable def Blt (c : Cx) (x : Str) (v : Value) : Prop := ∃ mg mb, c.B.Ns mainGlobals mg ∧ mg x = none ∧ c.B.Ns builtinsNs mb ∧ mb x = some v
noncomputable def Glb (c : Cx) (x : Str) (v : Value) : Prop := ∃ mg, c.B.Ns mainGlobals mg ∧ mg x = some v
noncomputable def isGlob (env : Env) (x : Str) : Bool := env.scope.kind == .function && env.kindOf x == some .globalImplicit && !(x == ("__debug__" : Str)) && env.globals == mainGlobals && env.builtins == builtinsNs
section
variable {c : Cx} {n : Nat} {env : Env} {ρ : Vars} {st : PS} {s : Shared} {A : Around} {E : Value → Shared → Prop}
theorem name_blt {x : Str} {v : Value} {pos : Pos} {P : Value → Shared → Prop} (hb : Blt c x v) (hk : isGlob env x = true) (R : StRel c st s) (h : P v s) : wpAny c.M A (eval (.Name x pos) env) P E s := by
  simp only [isGlob, Bool.and_eq_true, beq_iff_eq, Bool.not_eq_true'] at hk
  obtain ⟨⟨⟨⟨k1, k2⟩, k3⟩, k4⟩, k5⟩ := hk
  obtain ⟨mg, mb, h1, h2, h3, h4⟩ := hb
  exact Calls.Name_function_global k1 k2 (Calls.loadGlobal_builtin (by rw [k4]; exact h1.keeps R.base) h2 (by rw [k5]; exact h3.keeps R.base) h4 h) k3
theorem name_glb {x : Str} {v : Value} {pos : Pos} {P : Value → Shared → Prop} (hb : Glb c x v) (hk : isGlob env x = true) (R : StRel c st s) (h : P v s) : wpAny c.M A (eval (.Name x pos) env) P E s := by
  simp only [isGlob, Bool.and_eq_true, beq_iff_eq, Bool.not_eq_true'] at hk
  obtain ⟨⟨⟨⟨k1, k2⟩, k3⟩, k4⟩, k5⟩ := hk
  obtain ⟨mg, h1, h2⟩ := hb
  exact Calls.Name_function_global k1 k2 (Calls.loadGlobal_global (by rw [k4]; exact h1.keeps R.base) h2 h) k3
end

inductive Src where
  | tup (l : List PV)
  | lst (a : Addr) (l : List PV)
  | rng (lo hi : Int)
noncomputable def Src.items : Src → List PV
  | .tup l => l
  | .lst _ l => l
  | .rng lo hi => (List.range (hi - lo).toNat).map fun (i : Nat) => .int (lo + i)
noncomputable def Src.okAt : Src → PS → Prop
  | .lst a l, st => st a = some (.list l)
  | _, _ => True
noncomputable def IterAt (h : Heap) : Src → Addr → Nat → Prop
  | .tup l, I, i => ∃ t vs, h.IsTupleIter I t i ∧ TupAt h t vs ∧ RepL h l vs
  | .lst a l, I, i => h.IsListIter I a i
  | .rng lo hi, I, i => IsRangeIter h I (lo + i) ((hi - lo).toNat - (i : Int)) 1
noncomputable def iterFields (h : Heap) (I : Addr) : Prop := ∃ o vs, h.get? I = some o ∧ o.data = .fields vs
theorem IterAt.fields {h : Heap} {src : Src} {I : Addr} {i : Nat} (x : IterAt h src I i) : iterFields h I := by
  cases src with
  | tup l => obtain ⟨t, vs, ⟨o, ho, _, hd⟩, _⟩ := x; exact ⟨o, _, ho, hd⟩
  | lst a l => obtain ⟨o, ho, _, hd⟩ := x; exact ⟨o, _, ho, hd⟩
  | rng lo hi => exact ⟨_, _, x, rfl⟩
theorem IterAt.stay {h h' : Heap} {src : Src} {I : Addr} {i : Nat} (x : IterAt h src I i) (ts : TupsStay h h') (k : ∀ o, h.get? I = some o → h'.get? I = some o) : IterAt h' src I i := by
  cases src with
  | tup l => obtain ⟨t, vs, ⟨o, ho, r⟩, ta, rl⟩ := x; exact ⟨t, vs, ⟨o, k o ho, r⟩, ts _ _ ta, rl.stay ts⟩
  | lst a l => obtain ⟨o, ho, r⟩ := x; exact ⟨o, k o ho, r⟩
  | rng lo hi => exact k _ x

section
variable {c : Cx} {n : Nat} {env : Env} {ρ : Vars} {st : PS} {s : Shared} {A : Around} {E : Value → Shared → Prop}

/-- what a step of an iterator changes: its own object -/
theorem iter_upd {I : Addr} {h' : Heap} {tk : Nat} (R : StRel c st s) (hf : iterFields s.heap I) (hI : st I = none) (hB : c.B.get? I = none) (hs : Heap.ExtBut I s.heap h') (hx : ∃ o, h'.get? I = some o) :
    StRel c st { s with heap := h', toks := tk } ∧ EvoX (· = I) st s.heap st h' ∧ TupsStay s.heap h' := by
  have ts : TupsStay s.heap h' := fun a vs ⟨k, t⟩ => ⟨k, hs a _ (by rintro rfl; obtain ⟨o, vs', ho, hd⟩ := hf; rw [t] at ho; cases ho; cases hd) t⟩
  refine ⟨⟨fun b o e => hs b o (by rintro rfl; rw [hB] at e; cases e) (R.base b o e), R.new, fun b po e => ?_, R.gens, R.os⟩, fun b o e => ⟨if q : b = I then q ▸ hx else ⟨o, hs b o q e⟩, fun nn q => ⟨hs b o q e, nn⟩⟩, ts⟩
  obtain ⟨x, hx, _⟩ := (R.rep b po e).is
  exact (R.rep b po e).of_get ts ((hs b x (by rintro rfl; rw [hI] at e; cases e) hx).trans hx.symm)

theorem iter_item {src : Src} {I : Addr} {i : Nat} {p : PV} {P : Option Value → Shared → Prop} (R : StRel c st s) (x : IterAt s.heap src I i) (hI : st I = none) (hB : c.B.get? I = none) (ok : src.okAt st) (hp : src.items[i]? = some p)
    (h : ∀ v s', StRel c st s' → EvoX (· = I) st s.heap st s'.heap → TupsStay s.heap s'.heap → IterAt s'.heap src I (i + 1) → Rep s'.heap p v → P (some v) s') : wpAny c.M A (pyNext (.ref I)) P E s := by
  have hf := x.fields
  cases src with
  | tup l =>
    obtain ⟨t, vs, hit, ⟨k, ht⟩, rl⟩ := x
    obtain ⟨v, hv, r⟩ := rl.get hp
    refine wpAny_pyNext_tuple_item hit ⟨_, ht, rfl, k, rfl⟩ (x := v) (by simpa using hv) fun h' hit' hs => ?_
    obtain ⟨R1, x1, ts⟩ := iter_upd (tk := s.toks) R hf hI hB hs.extBut (by obtain ⟨o, ho, _⟩ := hit'; exact ⟨o, ho⟩)
    exact h v _ R1 x1 ts ⟨t, vs, hit', ts _ _ ⟨k, ht⟩, rl.stay ts⟩ (r.stay ts)
  | lst a l =>
    obtain ⟨vs, hl, rl⟩ := R.rep a _ ok
    obtain ⟨v, hv, r⟩ := rl.get hp
    refine wpAny_pyNext_list_item x hl.isList (x := v) (by simpa using hv) fun h' hit' hs => ?_
    obtain ⟨R1, x1, ts⟩ := iter_upd (tk := s.toks) R hf hI hB hs.extBut (by obtain ⟨o, ho, _⟩ := hit'; exact ⟨o, ho⟩)
    exact h v _ R1 x1 ts hit' (r.stay ts)
  | rng lo hi =>
    have hlt : i < (hi - lo).toNat := by
      have := List.getElem?_eq_some_iff.mp hp
      obtain ⟨a, _⟩ := this
      simpa [Src.items] using a
    have hpe : p = .int (lo + i) := by
      simp only [Src.items, List.getElem?_map] at hp
      rw [List.getElem?_range hlt] at hp
      simpa using hp.symm
    subst hpe
    refine wpAny_pyNext_range_item x (by omega) fun h' hit' hs => ?_
    obtain ⟨R1, x1, ts⟩ := iter_upd (tk := s.toks + 1) R hf hI hB hs.extBut ⟨_, hit'⟩
    refine h _ _ R1 x1 ts ?_ .int
    show IsRangeIter h' I (lo + ((i + 1 : Nat) : Int)) ((hi - lo).toNat - ((i + 1 : Nat) : Int)) 1
    have e1 : lo + ((i + 1 : Nat) : Int) = lo + i + 1 := by omega
    have e2 : ((hi - lo).toNat : Int) - ((i + 1 : Nat) : Int) = (hi - lo).toNat - (i : Int) - 1 := by omega
    rw [e1, e2]; exact hit'

theorem iter_done {src : Src} {I : Addr} {i : Nat} {P : Option Value → Shared → Prop} (hr : A.handled = none) (R : StRel c st s) (x : IterAt s.heap src I i) (hI : st I = none) (hB : c.B.get? I = none) (ok : src.okAt st) (hp : i = src.items.length)
    (h : ∀ s', StRel c st s' → (∀ b o, b ≠ I → s.heap.get? b = some o → s'.heap.get? b = some o) → TupsStay s.heap s'.heap → P none s') : wpAny c.M A (pyNext (.ref I)) P E s := by
  have hf := x.fields
  have fin : ∀ h', Heap.ExtBut I s.heap h' → P none { s with heap := h' } := fun h' hs => by
    have ts : TupsStay s.heap h' := fun a vs ⟨k, t⟩ => ⟨k, hs a _ (by rintro rfl; obtain ⟨o, vs', ho, hd⟩ := hf; rw [t] at ho; cases ho; cases hd) t⟩
    refine h _ ⟨fun b o e => hs b o (by rintro rfl; rw [hB] at e; cases e) (R.base b o e), R.new, fun b po e => ?_, R.gens, R.os⟩ (fun b o q e => hs b o q e) ts
    obtain ⟨x, hx, _⟩ := (R.rep b po e).is
    exact (R.rep b po e).of_get ts ((hs b x (by rintro rfl; rw [hI] at e; cases e) hx).trans hx.symm)
  cases src with
  | tup l =>
    obtain ⟨t, vs, hit, ⟨k, ht⟩, rl⟩ := x
    exact wpAny_pyNext_tuple_end hr hit ⟨_, ht, rfl, k, rfl⟩ (by have := rl.length; simp [this, hp, Src.items]) fin
  | lst a l =>
    obtain ⟨vs, hl, rl⟩ := R.rep a _ ok
    exact wpAny_pyNext_list_end hr x hl.isList (by have := rl.length; simp [this, hp, Src.items]) fin
  | rng lo hi =>
    exact wpAny_pyNext_range_end hr x (by simp [hp, Src.items]) fin
end

section
variable (c : Cx) (n : Nat) (env : Env) (ρ : Vars)
noncomputable def OutI (c : Cx) (st : PS) (h : Heap) (Q : Src → PS → Prop) : Value → Shared → Prop := fun it s2 =>
  ∃ I src st', it = .ref I ∧ StRel c st' s2 ∧ Evo st h st' s2.heap ∧ IterAt s2.heap src I 0 ∧ st' I = none ∧ c.B.get? I = none ∧ h.get? I = none ∧ src.okAt st' ∧ Q src st'
/-- an expression that a loop runs over -/
noncomputable def WPi (e : Expr) (st : PS) (Q : Src → PS → Prop) : Prop :=
  ∀ A s, Room n A → StRel c st s → FrameAt c env ρ st s.heap → wpAny c.M A (eval e env) (fun x s1 => wpAny c.M A (pyIter x) (OutI c st s.heap Q) NoE s1) NoE s
end
section
variable {c : Cx} {n : Nat} {env : Env} {ρ : Vars} {st : PS} {s : Shared} {A : Around} {E : Value → Shared → Prop}
theorem new_addr {h : Heap} (R : StRel c st s) : st s.heap.objs.size = none ∧ c.B.get? s.heap.objs.size = none := by
  have hn := get?_size s.heap
  refine ⟨R.none_of_free hn, ?_⟩
  cases e : c.B.get? s.heap.objs.size with
  | none => rfl
  | some o => rw [R.base _ o e] at hn; cases hn

theorem iter_of {p : PV} {v : Value} {Q : Src → PS → Prop} (R : StRel c st s) (r : Rep s.heap p v)
    (h : (∃ l, p = .tup l ∧ Q (.tup l) st) ∨ (∃ a l, p = .loc a ∧ st a = some (.list l) ∧ Q (.lst a l) st)) : wpAny c.M A (pyIter v) (OutI c st s.heap Q) NoE s := by
  have nw := new_addr (h := s.heap) R
  rcases h with ⟨l, rfl, q⟩ | ⟨a, l, rfl, ha, q⟩
  · obtain ⟨t, vs, rfl, ⟨k, ht⟩, rl⟩ := r.tup'
    refine wpAny_pyIter_tuple ⟨_, ht, rfl, k, rfl⟩ ?_
    have kk : ∀ b o, s.heap.get? b = some o → (s.heap.push { cls := .type "tuple_iterator", data := .fields #[.ref t, .int 0 0] }).get? b = some o := fun b o e => Heap.get?_push_of_some _ e
    exact ⟨s.heap.objs.size, .tup l, st, rfl, R.grow (tk := s.toks) kk, Evo.grow kk, ⟨t, vs, ⟨_, Heap.get?_push_size _ rfl, rfl, rfl⟩, ⟨k, kk _ _ ht⟩, rl.stay fun a us ⟨n, t⟩ => ⟨n, kk _ _ t⟩⟩, nw.1, nw.2, get?_size _, trivial, q⟩
  · rw [r.loc']
    obtain ⟨vs, hl, rl⟩ := R.rep a _ ha
    refine wpAny_pyIter_list hl.isList ?_
    have kk : ∀ b o, s.heap.get? b = some o → (s.heap.push { cls := .type "list_iterator", data := .fields #[.ref a, .int 0 0] }).get? b = some o := fun b o e => Heap.get?_push_of_some _ e
    exact ⟨s.heap.objs.size, .lst a l, st, rfl, R.grow (tk := s.toks) kk, Evo.grow kk, ⟨_, Heap.get?_push_size _ rfl, rfl, rfl⟩, nw.1, nw.2, get?_size _, ha, q⟩
end
end Mine

namespace Mine
open PySem

section
variable {c : Cx} {n : Nat} {env : Env} {ρ : Vars} {st : PS} {s : Shared} {A : Around} {E : Value → Shared → Prop}

theorem OutI.from {Q : Src → PS → Prop} {v : Value} {h h1 : Heap} {st0 st1 : PS} (x : Evo st0 h st1 h1) (o : OutI c st1 h1 Q v s) : OutI c st0 h Q v s :=
  let ⟨I, src, st', e, R, y, it, n1, n2, n3, ok, q⟩ := o; ⟨I, src, st', e, R, x.trans y, it, n1, n2, x.gone n3, ok, q⟩

theorem i_val {e : Expr} {Q : Src → PS → Prop} (h : WPe c n env ρ e st fun p st1 => (∃ l, p = .tup l ∧ Q (.tup l) st1) ∨ (∃ a l, p = .loc a ∧ st1 a = some (.list l) ∧ Q (.lst a l) st1)) : WPi c n env ρ e st Q := by
  intro A s r R F
  refine wp_then (h A s r R F) fun v s1 o => ?_
  obtain ⟨p, st1, R1, x1, r1, q⟩ := o
  exact wp_then (iter_of R1 r1 q) fun _ _ o => o.from x1

/-- a call by a built-in name, plain arguments -/
theorem starEach_all {es : List Expr} (h : es.all notStar = true) : (starEach es env).any (·.1) = false := by
  induction es with
  | nil => rfl
  | cons e es ih =>
    simp only [List.all_cons, Bool.and_eq_true] at h
    rw [starEach_cons h.1, List.any_cons, ih h.2]; rfl
theorem backTo_any (pos : Pos) (ts : List (Bool × Sem Value)) : (backTo pos ts).any (·.1) = ts.any (·.1) := by
  induction ts with
  | nil => rfl
  | cons t ts ih => obtain ⟨b, t⟩ := t; simp only [backTo, List.map_cons, List.any_cons] at ih ⊢; rw [ih]
theorem evalArgs_of {f : Value} {es : List Expr} {pos : Pos} {P : Args → Shared → Prop} (hs : es.all notStar = true) (h : wpAny c.M A (spliced (backTo pos (starEach es env))) (fun vs s1 => P ⟨vs, []⟩ s1) E s) :
    wpAny c.M A (evalArgs f true (backTo pos (starEach es env)) []) P E s := by
  cases es with
  | nil =>
    unfold evalArgs
    show wpAny c.M A (spliced [] >>= _) P E s
    refine wpAny_bind (wpAny_mono h (fun vs s' h' => ?_) fun _ _ x => x)
    exact wpAny_holding (wpAny_bind (wpAny_pure (wpAny_bind (wpAny_pure (wpAny_pure h')))))
  | cons e es =>
    simp only [List.all_cons, Bool.and_eq_true] at hs
    rw [starEach_cons hs.1] at h ⊢
    exact Calls.evalArgs_plain h

/-- calls by a name -/
theorem c_builtin {f : Str} {id : String} {es : List Expr} {p1 pos : Pos} {Q : PV → PS → Prop} (hb : Blt c f (.builtin id)) (hk : isGlob env f = true) (hs : es.all notStar = true)
    (h : WPl c n env ρ es st fun ps st1 => WPc c n (.builtin id) ps st1 Q) : WPe c n env ρ (.Call (.Name f p1) es [] pos) st Q := by
  intro A s r R F
  refine wpAny_Call_ofName (name_blt hb hk R ?_)
  refine Calls.callWith_builtin (by rw [backTo_any]; exact starEach_all hs) (evalArgs_of hs (wp_then (h A s pos r R F) fun vs s1 o => ?_))
  obtain ⟨ps, st1, R1, x1, r1, q⟩ := o
  exact wp_then (q A s1 vs r R1 r1) fun _ _ o => o.from x1
theorem c_type {f : Str} {T : String} {es : List Expr} {p1 pos : Pos} {Q : PV → PS → Prop} (hb : Blt c f (.type T)) (hk : isGlob env f = true) (hs : es.all notStar = true)
    (h : WPl c n env ρ es st fun ps st1 => WPc c n (.type T) ps st1 Q) : WPe c n env ρ (.Call (.Name f p1) es [] pos) st Q := by
  intro A s r R F
  refine wpAny_Call_ofName (name_blt hb hk R ?_)
  refine callWith_type (by rw [backTo_any]; exact starEach_all hs) (evalArgs_of hs (wp_then (h A s pos r R F) fun vs s1 o => ?_))
  obtain ⟨ps, st1, R1, x1, r1, q⟩ := o
  exact wp_then (q A s1 vs r R1 r1) fun _ _ o => o.from x1
theorem c_fn {f : Str} {a : Addr} {es : List Expr} {p1 pos : Pos} {Q : PV → PS → Prop} (hb : Glb c f (.ref a)) (hf : ∃ o fd, c.B.get? a = some o ∧ o.data = .func fd) (hk : isGlob env f = true) (hs : es.all notStar = true)
    (h : WPl c n env ρ es st fun ps st1 => WPc c n (.ref a) ps st1 Q) : WPe c n env ρ (.Call (.Name f p1) es [] pos) st Q := by
  intro A s r R F
  obtain ⟨o, fd, ho, hd⟩ := hf
  refine wpAny_Call_ofName (name_glb hb hk R ?_)
  refine Calls.callWith_function (o := o) (fd := fd) (evalArgs_of hs (wp_then (h A s pos r R F) fun vs s1 q => ?_))
  obtain ⟨ps, st1, R1, x1, r1, q⟩ := q
  exact ⟨⟨R1.base _ _ ho, hd⟩, wp_then (q A s1 vs r R1 r1) fun _ _ o => o.from x1⟩

-- range as what a loop runs over
theorem range_at {lo hi : Int} {t u v : Tok} {r : Addr} {Q : Src → PS → Prop} (R : StRel c st s) (hr : IsRange s.heap r lo hi 1 t u v) (h1 : -(2 ^ 60) ≤ lo ∧ lo < 2 ^ 60) (h2 : -(2 ^ 60) ≤ hi ∧ hi < 2 ^ 60) (h : Q (.rng lo hi) st) :
    wpAny c.M A (pyIter (.ref r)) (OutI c st s.heap Q) NoE s := by
  have nw := new_addr (h := s.heap) R
  refine wpAny_pyIter_range hr (small_one (by omega) (by omega) (by omega) (by omega)) ?_
  rw [rangeSize_one]
  have kk : ∀ b o, s.heap.get? b = some o → (s.heap.push { cls := .type "range_iterator", data := .fields #[rawInt lo, rawInt (if lo < hi then hi - lo else 0), rawInt 1] }).get? b = some o := fun b o e => Heap.get?_push_of_some _ e
  refine ⟨s.heap.objs.size, .rng lo hi, st, rfl, R.grow (tk := s.toks) kk, Evo.grow kk, ?_, nw.1, nw.2, get?_size _, trivial, h⟩
  show IsRangeIter _ _ (lo + ((0 : Nat) : Int)) ((hi - lo).toNat - ((0 : Nat) : Int)) 1
  have e : (if lo < hi then hi - lo else 0) = ((hi - lo).toNat : Int) - ((0 : Nat) : Int) := by split <;> omega
  have e2 : lo + ((0 : Nat) : Int) = lo := by omega
  rw [e2, ← e]
  exact Heap.get?_push_size _ rfl
theorem i_range {e : Expr} {p1 pos : Pos} {Q : Src → PS → Prop} (hb : Blt c "range" (.type "range")) (hk : isGlob env "range" = true) (hs : notStar e = true)
    (h : WPe c n env ρ e st fun p st1 => ∃ i, p = .int i ∧ (-(2 ^ 60) ≤ i ∧ i < 2 ^ 60) ∧ Q (.rng 0 i) st1) : WPi c n env ρ (.Call (.Name "range" p1) [e] [] pos) st Q := by
  intro A s r R F
  refine wpAny_Call_ofName (name_blt hb hk R ?_)
  have hs' : [e].all notStar = true := by simp [hs]
  refine callWith_type (by rw [backTo_any]; exact starEach_all hs') (evalArgs_of hs' ?_)
  rw [starEach_cons hs]
  refine Calls.spliced_cons (wp_then (h A s r R F) fun v s1 o => Calls.spliced_nil ?_)
  obtain ⟨p, st1, R1, x1, r1, i, rfl, hi, q⟩ := o
  obtain ⟨t, rfl⟩ := r1.int'
  refine call_range_1 ?_
  have kk : ∀ b o, s1.heap.get? b = some o → (s1.heap.push { cls := .type "range", data := .fields #[.int 0 s1.toks, .int i t, .int 1 (s1.toks + 1)] }).get? b = some o := fun b o e => Heap.get?_push_of_some _ e
  exact wp_then (range_at (R1.grow (tk := s1.toks + 1 + 1) kk) (IsRange.new ..) (by omega) hi q) fun _ _ o => o.from (x1.trans (Evo.grow kk))
theorem i_range2 {e e' : Expr} {p1 pos : Pos} {Q : Src → PS → Prop} (hb : Blt c "range" (.type "range")) (hk : isGlob env "range" = true) (hs : notStar e = true) (hs' : notStar e' = true)
    (h : WPe c n env ρ e st fun p st1 => WPe c n env ρ e' st1 fun q st2 => ∃ i j, p = .int i ∧ q = .int j ∧ (-(2 ^ 60) ≤ i ∧ i < 2 ^ 60) ∧ (-(2 ^ 60) ≤ j ∧ j < 2 ^ 60) ∧ Q (.rng i j) st2) : WPi c n env ρ (.Call (.Name "range" p1) [e, e'] [] pos) st Q := by
  intro A s r R F
  refine wpAny_Call_ofName (name_blt hb hk R ?_)
  have hss : [e, e'].all notStar = true := by simp [hs, hs']
  refine callWith_type (by rw [backTo_any]; exact starEach_all hss) (evalArgs_of hss ?_)
  rw [starEach_cons hs, starEach_cons hs']
  refine Calls.spliced_cons (wp_then (h A s r R F) fun v s1 o => ?_)
  obtain ⟨p, st1, R1, x1, r1, o⟩ := o
  refine Calls.spliced_cons (wp_then (o A s1 r R1 (F.evo R x1)) fun u s2 o => Calls.spliced_nil ?_)
  obtain ⟨q, st2, R2, x2, r2, i, j, rfl, rfl, hi, hj, q⟩ := o
  obtain ⟨t, rfl⟩ := r1.int'
  obtain ⟨t', rfl⟩ := r2.int'
  refine call_range_2 ?_
  have kk : ∀ b o, s2.heap.get? b = some o → (s2.heap.push { cls := .type "range", data := .fields #[.int i t, .int j t', .int 1 s2.toks] }).get? b = some o := fun b o e => Heap.get?_push_of_some _ e
  exact wp_then (range_at (R2.grow (tk := s2.toks + 1) kk) (IsRange.new ..) hi hj q) fun _ _ o => o.from ((x1.trans x2).trans (Evo.grow kk))

theorem FrameAt.keep {st' : PS} {h h' : Heap} (F : FrameAt c env ρ st h) (k : ∀ b o, ownAt env b → h.get? b = some o → h'.get? b = some o ∧ st' b = none) (ts : TupsStay h h') : FrameAt c env ρ st' h' := by
  obtain ⟨⟨m, cm, hn, hc, hv⟩, ap, own, off⟩ := F
  refine ⟨⟨m, cm, hn.at' fun o e => (k _ o (.inl rfl) e).1, fun n a e => ?_, fun y p e => ?_⟩, ap, fun b q => ⟨?_, (own b q).2⟩, off⟩
  · obtain ⟨o, ho, hd⟩ := hc n a e; exact ⟨o, (k a o (.inr ⟨n, e⟩) ho).1, hd⟩
  · obtain ⟨v, e1, r⟩ := hv y p e; exact ⟨v, e1, r.stay ts⟩
  · rcases q with rfl | ⟨n, q⟩
    · obtain ⟨o, _, _, ho, _⟩ := hn; exact (k _ o (.inl rfl) ho).2
    · obtain ⟨o, ho, _⟩ := hc n b q
      exact (k _ o (.inr ⟨n, q⟩) ho).2
theorem FrameAt.there {h : Heap} (F : FrameAt c env ρ st h) {b : Addr} (q : ownAt env b) : ∃ o, h.get? b = some o := by
  obtain ⟨⟨m, cm, hn, hc, hv⟩, ap, own, off⟩ := F
  rcases q with rfl | ⟨n, q⟩
  · obtain ⟨o, _, _, ho, _⟩ := hn; exact ⟨o, ho⟩
  · obtain ⟨o, ho, _⟩ := hc n b q; exact ⟨o, ho⟩
theorem EvoX.skip {ex : Addr → Prop} {st1 st2 : PS} {h h1 h2 : Heap} {I : Addr} (x : EvoX ex st h st1 h1) (hI : h.get? I = none) (y : EvoX (· = I) st1 h1 st2 h2) : EvoX ex st h st2 h2 := fun b o e => by
  have hb : b ≠ I := by rintro rfl; rw [hI] at e; cases e
  refine ⟨?_, fun n q => ?_⟩
  · obtain ⟨o', e'⟩ := (x b o e).1; exact (y b o' e').1
  · obtain ⟨a, m⟩ := (x b o e).2 n q; exact (y b o a).2 m hb
theorem EvoX.skipEnd {ex : Addr → Prop} {st1 : PS} {h h1 h2 : Heap} {I : Addr} (x : EvoX ex st h st1 h1) (hI : h.get? I = none) (y : ∀ b o, b ≠ I → h1.get? b = some o → h2.get? b = some o) : EvoX ex st h st1 h2 := fun b o e => by
  have hb : b ≠ I := by rintro rfl; rw [hI] at e; cases e
  refine ⟨?_, fun n q => ?_⟩
  · obtain ⟨o', e'⟩ := (x b o e).1; exact ⟨o', y b o' hb e'⟩
  · obtain ⟨a, m⟩ := (x b o e).2 n q; exact ⟨y b o hb a, m⟩

theorem store_assign {x : Str} {p : PV} {v : Value} {px : Pos} (hk : isOwn env x = true) (R : StRel c st s) (F : FrameAt c env ρ st s.heap) (r : Rep s.heap p v) :
    wpAny c.M A (assign (.Name x px) env v) (fun _ s' => StRel c st s' ∧ EvoX (ownAt env) st s.heap st s'.heap ∧ FrameAt c env ((x, p) :: ρ) st s'.heap) NoE s := by
  refine wpAny_assign_Name (wp_then (store_var (Q := fun ρ' st' => ρ' = (x, p) :: ρ ∧ st = st') hk R F r ⟨rfl, rfl⟩) fun _ s' o => ?_)
  obtain ⟨_, _, R', x', F', rfl, rfl⟩ := o
  exact ⟨R', x', F'⟩

/-- a for over a source, by what holds between its turns -/
theorem x_for {x : Str} {iter : Expr} {body : List Stmt} {px pos : Pos} {Q : PF → Vars → PS → Prop}
    (h : WPi c n env ρ iter st fun src st1 => ∃ J : Nat → Vars → PS → Prop, J 0 ρ st1 ∧ (∀ i ρ' st', J i ρ' st' → src.okAt st') ∧
      (∀ i p ρ' st', src.items[i]? = some p → J i ρ' st' → WPs c n env ((x, p) :: ρ') body st' fun pf ρ2 st2 => match pf with
        | .next => J (i + 1) ρ2 st2
        | .cont => J (i + 1) ρ2 st2
        | .brk => Q .next ρ2 st2
        | .ret q => Q (.ret q) ρ2 st2) ∧
      (∀ ρ' st', J src.items.length ρ' st' → Q .next ρ' st'))
    (hx : isOwn env x = true) (hs : ∀ x, foldedSetIterable iter env x = pure x) : WPx c n env ρ (.For (.Name x px) iter body [] pos) st Q := by
  intro A s r R F
  refine wpAny_For (wp_then (h A s r R F) fun v s1 o => wp_then o fun it s2 o => ?_) hs
  obtain ⟨I, src, st1, rfl, R1, x1, it, n1, n2, n3, ok, J, J0, Jok, turn, fin⟩ := o
  have hIo : ¬ ownAt env I := fun q => by obtain ⟨o, e⟩ := F.there q; rw [n3] at e; cases e
  refine codeAny_forLoop (R := fun r s' => match r with | .ok f => OutF c env st s.heap Q f s' | .error e => cameBackBy c.M A env NoE e s')
    (fun k s3 => ∃ i ρ' st', k = src.items.length - i ∧ i ≤ src.items.length ∧ StRel c st' s3 ∧ FrameAt c env ρ' st' s3.heap ∧ EvoX (ownAt env) st s.heap st' s3.heap ∧ IterAt s3.heap src I i ∧ st' I = none ∧ J i ρ' st') ?_
    src.items.length ⟨0, ρ, st1, rfl, Nat.zero_le _, R1, F.evo R x1, x1.x, it, n1, J0⟩
  rintro k s3 ⟨i, ρ', st', rfl, hi, R3, F3, x3, it3, nI, hJ⟩
  by_cases hlt : i < src.items.length
  · refine iter_item R3 it3 nI n2 (Jok _ _ _ hJ) (List.getElem?_eq_getElem hlt) fun v s4 R4 x4 ts4 it4 r4 => ?_
    have F4 : FrameAt c env ρ' st' s4.heap := F3.keep (fun b o q e => (x4 b o e).2 (F3.own b q).1 (by rintro rfl; exact hIo q)) ts4
    refine wp_then (store_assign hx R4 F4 r4) fun _ s5 o => ?_
    obtain ⟨R5, x5, F5⟩ := o
    refine wp_then (turn i _ ρ' st' (List.getElem?_eq_getElem hlt) hJ A s5 r R5 F5) fun f s6 o => ?_
    obtain ⟨pf, ρ6, st6, R6, x6, F6, fr, q⟩ := o
    have hts5 : TupsStay s4.heap s5.heap := F4.stay R4 x5
    have x36 : EvoX (ownAt env) st s.heap st6 s6.heap := ((x3.skip n3 x4).trans x5).trans x6
    have it5 : IterAt s5.heap src I (i + 1) := it4.stay hts5 fun o e => ((x5 I o e).2 nI hIo).1
    have it6 : IterAt s6.heap src I (i + 1) := it5.stay (F5.stay R5 x6) fun o e => ((x6 I o e).2 nI hIo).1
    have nI6 : st6 I = none := by
      obtain ⟨o, _, e, _⟩ := it5.fields
      exact ((x6 I o e).2 nI hIo).2
    cases pf with
    | next =>
      have e : f = .next := fr
      subst e
      exact ⟨src.items.length - (i + 1), by omega, i + 1, ρ6, st6, rfl, hlt, R6, F6, x36, it6, nI6, q⟩
    | cont =>
      have e : f = .cont := fr
      subst e
      exact ⟨src.items.length - (i + 1), by omega, i + 1, ρ6, st6, rfl, hlt, R6, F6, x36, it6, nI6, q⟩
    | brk =>
      have e : f = .brk := fr
      subst e
      exact ⟨.next, ρ6, st6, R6, x36, F6, rfl, q⟩
    | ret p =>
      obtain ⟨v, e, rp⟩ := fr
      subst e
      exact ⟨.ret p, ρ6, st6, R6, x36, F6, ⟨v, rfl, rp⟩, q⟩
  · have hi' : i = src.items.length := by omega
    refine iter_done r.handled R3 it3 nI n2 (Jok _ _ _ hJ) hi' fun s4 R4 k4 ts4 => ?_
    refine wpAny_execs_nil ?_
    subst hi'
    exact ⟨.next, ρ', st', R4, x3.skipEnd n3 k4, F3.keep (fun b o q e => ⟨k4 b o (by rintro rfl; exact hIo q) e, (F3.own b q).1⟩) ts4, rfl, fin ρ' st' hJ⟩
end
end Mine

namespace Mine
open PySem

section
variable {c : Cx} {n : Nat} {env : Env} {ρ : Vars} {st : PS} {s : Shared} {A : Around} {E : Value → Shared → Prop}

/-- a while, by what holds between its turns and a number that falls -/
theorem x_while {t : Expr} {body : List Stmt} {pos : Pos} {Q : PF → Vars → PS → Prop} (J : Nat → Vars → PS → Prop) (k0 : Nat) (h0 : J k0 ρ st)
    (turn : ∀ k ρ' st', J k ρ' st' → WPb c n env ρ' t st' fun b st1 => if b = true then WPs c n env ρ' body st1 (fun pf ρ2 st2 => match pf with
        | .next => ∃ k', k' < k ∧ J k' ρ2 st2
        | .cont => ∃ k', k' < k ∧ J k' ρ2 st2
        | .brk => Q .next ρ2 st2
        | .ret q => Q (.ret q) ρ2 st2) else Q .next ρ' st1) : WPx c n env ρ (.While t body [] pos) st Q := by
  intro A s r R F
  refine wpAny_While ?_
  refine codeAny_whileLoop (R := fun r s' => match r with | .ok f => OutF c env st s.heap Q f s' | .error e => cameBackBy c.M A env NoE e s')
    (fun k s3 => ∃ ρ' st', StRel c st' s3 ∧ FrameAt c env ρ' st' s3.heap ∧ EvoX (ownAt env) st s.heap st' s3.heap ∧ J k ρ' st') ?_ k0 ⟨ρ, st, R, F, EvoX.refl _ _ _, h0⟩
  rintro k s3 ⟨ρ', st', R3, F3, x3, hJ⟩
  refine wp_then (turn k ρ' st' hJ A s3 r R3 F3) fun b s4 o => ?_
  obtain ⟨st4, R4, x4, q⟩ := o
  have F4 := F3.evo R3 x4
  cases b with
  | false =>
    simp only [Bool.false_eq_true, if_false] at q ⊢
    exact wpAny_execs_nil ⟨.next, ρ', st4, R4, x3.trans x4.x, F4, rfl, q⟩
  | true =>
    simp only [if_true] at q ⊢
    refine wp_then (q A s4 r R4 F4) fun f s5 o => ?_
    obtain ⟨pf, ρ5, st5, R5, x5, F5, fr, q⟩ := o
    have x35 := (x3.trans x4.x).trans x5
    cases pf with
    | next =>
      have e : f = .next := fr
      subst e
      obtain ⟨k', hk, hJ'⟩ := q
      exact ⟨k', hk, ρ5, st5, R5, F5, x35, hJ'⟩
    | cont =>
      have e : f = .cont := fr
      subst e
      obtain ⟨k', hk, hJ'⟩ := q
      exact ⟨k', hk, ρ5, st5, R5, F5, x35, hJ'⟩
    | brk =>
      have e : f = .brk := fr
      subst e
      exact ⟨.next, ρ5, st5, R5, x35, F5, rfl, q⟩
    | ret p =>
      obtain ⟨v, e, rp⟩ := fr
      subst e
      exact ⟨.ret p, ρ5, st5, R5, x35, F5, ⟨v, rfl, rp⟩, q⟩
end

-- comprehensions: the names that one takes along
noncomputable def closGo (cells : List (Str × Addr)) : List (Str × NameKind) → List (Str × Addr) → List (Str × Addr)
  | [], cs => cs
  | (x, k) :: r, cs => closGo cells r (if k == .free then (x, (cells.lookup x).getD 0) :: cs else cs)
noncomputable def closOf (scope : Scope) (env : Env) : List (Str × Addr) := closGo env.cells scope.names []
noncomputable def takesWell (scope : Scope) (env : Env) : Bool := scope.names.all fun x => !(x.2 == .free) || ((env.cells.lookup x.1).isSome && (env.kindOf x.1 == some .cell || env.kindOf x.1 == some .free))
theorem closureFor_go {env : Env} : ∀ (l : List (Str × NameKind)) (cs : List (Str × Addr)), (l.all fun x => !(x.2 == .free) || (env.cells.lookup x.1).isSome) = true →
    (forIn l cs fun x cs => match x with
      | (name, kind) => if kind == .free then (do let a ← cellOf env name; pure (ForInStep.yield ((name, a) :: cs))) else pure (ForInStep.yield cs) : Sem (List (Str × Addr))) = pure (closGo env.cells l cs)
  | [], cs, _ => by rw [List.forIn_nil]; rfl
  | (x, k) :: r, cs, h => by
    simp only [List.all_cons, Bool.and_eq_true] at h
    rw [List.forIn_cons]
    have ih := closureFor_go (env := env) r
    cases hk : k == NameKind.free with
    | false =>
      simp only [hk, Bool.false_eq_true, if_false, pure_bind]
      rw [ih cs h.2, closGo]
      simp [hk]
    | true =>
      have h1 := h.1
      simp only [hk, Bool.not_true, Bool.false_or] at h1
      obtain ⟨a, ha⟩ := Option.isSome_iff_exists.mp h1
      have e : cellOf env x = pure a := by unfold cellOf; rw [ha]
      simp only [hk, if_true, e, pure_bind]
      rw [ih _ h.2, closGo]
      simp [hk, ha]
theorem closureFor_eq {scope : Scope} {env : Env} (h : takesWell scope env = true) : closureFor scope env = pure (closOf scope env) := by
  unfold closureFor closOf
  have h' : (scope.names.all fun x => !(x.2 == .free) || (env.cells.lookup x.1).isSome) = true := by
    unfold takesWell at h
    rw [List.all_eq_true] at h ⊢
    intro x hx
    have := h x hx
    simp only [Bool.or_eq_true, Bool.and_eq_true] at this ⊢
    rcases this with q | q
    · exact .inl q
    · exact .inr q.1
  have := closureFor_go (env := env) scope.names [] h'
  simp only [bind_pure]
  exact this
theorem closGo_mem {cells : List (Str × Addr)} : ∀ (l : List (Str × NameKind)) (cs : List (Str × Addr)) (x : Str) (a : Addr), (closGo cells l cs).lookup x = some a →
    cs.lookup x = some a ∨ ((x, NameKind.free) ∈ l ∧ (cells.lookup x).getD 0 = a)
  | [], cs, x, a, e => .inl e
  | (y, k) :: r, cs, x, a, e => by
    unfold closGo at e
    rcases closGo_mem r _ x a e with q | ⟨q1, q2⟩
    · split at q
      · rename_i hk
        have hk' : k = .free := beq_iff_eq.mp hk
        by_cases hx : x = y
        · subst hx
          simp only [List.lookup_cons, beq_self_eq_true, Option.some.injEq] at q
          exact .inr ⟨by rw [hk']; exact List.mem_cons_self, q⟩
        · have hb : (x == y) = false := beq_eq_false_iff_ne.mpr hx
          simp only [List.lookup_cons, hb] at q
          exact .inl q
      · exact .inl q
    · exact .inr ⟨List.mem_cons_of_mem _ q1, q2⟩
theorem closGo_has {cells : List (Str × Addr)} : ∀ (l : List (Str × NameKind)) (cs : List (Str × Addr)) (x : Str), ((x, NameKind.free) ∈ l ∨ (cs.lookup x).isSome = true) → ((closGo cells l cs).lookup x).isSome = true
  | [], cs, x, h => by
    rcases h with h | h
    · cases h
    · exact h
  | (y, k) :: r, cs, x, h => by
    unfold closGo
    refine closGo_has r _ x ?_
    rcases h with h | h
    · rcases List.mem_cons.mp h with e | h
      · cases e
        right
        simp
      · exact .inl h
    · right
      split
      · simp only [List.lookup_cons]
        split
        · rfl
        · exact h
      · exact h
theorem closOf_lookup {scope : Scope} {env : Env} (h : takesWell scope env = true) {x : Str} {a : Addr} (e : (closOf scope env).lookup x = some a) :
    (x, NameKind.free) ∈ scope.names ∧ env.cells.lookup x = some a ∧ (env.kindOf x = some .cell ∨ env.kindOf x = some .free) := by
  rcases closGo_mem _ _ _ _ e with q | ⟨q1, q2⟩
  · cases q
  · refine ⟨q1, ?_⟩
    have := List.all_eq_true.mp h _ q1
    simp only [beq_self_eq_true, Bool.not_true, Bool.false_or, Bool.and_eq_true, Bool.or_eq_true, beq_iff_eq] at this
    obtain ⟨b, hb⟩ := Option.isSome_iff_exists.mp this.1
    rw [hb] at q2
    exact ⟨by rw [hb, ← q2]; rfl, this.2⟩

/-- the names round it that a comprehension sees -/
noncomputable def capt (scope : Scope) (ρ : Vars) : Vars := ρ.filter fun q => scope.names.lookup q.1 == some .free
theorem lookup_filter {p : Str → Bool} : ∀ {ρ : Vars} {x : Str} {v : PV}, (ρ.filter fun q => p q.1).lookup x = some v → ρ.lookup x = some v ∧ p x = true
  | [], x, v, e => by simp at e
  | (y, u) :: r, x, v, e => by
    cases hp : p y with
    | true =>
      rw [List.filter_cons_of_pos (by simpa using hp)] at e
      cases hx : x == y with
      | true =>
        simp only [List.lookup_cons, hx] at e ⊢
        exact ⟨e, by rw [beq_iff_eq.mp hx]; exact hp⟩
      | false =>
        simp only [List.lookup_cons, hx] at e ⊢
        exact lookup_filter e
    | false =>
      rw [List.filter_cons_of_neg (by simp [hp])] at e
      obtain ⟨e1, e2⟩ := lookup_filter e
      refine ⟨?_, e2⟩
      cases hx : x == y with
      | true => rw [beq_iff_eq.mp hx, hp] at e2; cases e2
      | false => simp only [List.lookup_cons, hx]; exact e1

section
variable {c : Cx} {n : Nat} {env : Env} {ρ : Vars} {st : PS} {s : Shared} {A : Around} {E : Value → Shared → Prop}
theorem relabel_free {scope : Scope} {env : Env} {x : Str} (h : scope.names.lookup x = some .free) : (relabel scope env).names.lookup x = some .cell ∨ (relabel scope env).names.lookup x = some .free := by
  unfold relabel
  dsimp only
  generalize scope.names = l at h ⊢
  induction l with
  | nil => simp at h
  | cons y r ih =>
    obtain ⟨y, k⟩ := y
    simp only [List.map_cons]
    cases hx : x == y with
    | true =>
      simp only [List.lookup_cons, hx, Option.some.injEq] at h
      subst h
      split <;> simp [List.lookup_cons, hx]
    | false =>
      simp only [List.lookup_cons, hx] at h
      split <;> simp only [List.lookup_cons, hx] <;> exact ih h

/-- the frame of a comprehension, as it is made -/
theorem comp_frame {scope : Scope} {h : Heap} {C : Addr} {m : Str → Option Value} (hw : takesWell scope env = true) (F : FrameAt c env ρ st h) (hn : h.Ns C m) (nC : st C = none) (nB : c.B.get? C = none) (hC : ∀ x a, env.cells.lookup x = some a → a ≠ C) :
    FrameAt c (compEnvC scope (closOf scope env) C env) (capt scope ρ) st h := by
  obtain ⟨⟨m0, cm, hn0, hc, hv⟩, ap, own, off⟩ := F
  refine ⟨⟨m, cm, hn, fun x a e => hc x a (closOf_lookup hw e).2.1, fun x p e => ?_⟩, fun x y a e e' => ap x y a (closOf_lookup hw e).2.1 (closOf_lookup hw e').2.1, fun b q => ?_, fun x a e => hC x a (closOf_lookup hw e).2.1⟩
  · obtain ⟨e1, e2⟩ := lookup_filter (p := fun y => scope.names.lookup y == some .free) e
    obtain ⟨v, ev, r⟩ := hv x p e1
    have e2' : scope.names.lookup x = some .free := beq_iff_eq.mp e2
    have hm : (x, NameKind.free) ∈ scope.names := mem_of_lookup e2'
    have hs : ((closOf scope env).lookup x).isSome = true := closGo_has _ _ _ (.inl hm)
    obtain ⟨a, ha⟩ := Option.isSome_iff_exists.mp hs
    obtain ⟨_, h2, h3⟩ := closOf_lookup hw ha
    have ev' : cm x = some v := by
      unfold varOf at ev
      rcases h3 with h3 | h3 <;> rw [h3] at ev <;> dsimp only at ev <;> rw [h2] at ev <;> simpa using ev
    refine ⟨v, ?_, r⟩
    unfold varOf
    have hk : (compEnvC scope (closOf scope env) C env).kindOf x = (relabel scope env).names.lookup x := rfl
    rw [hk]
    show (match (relabel scope env).names.lookup x with
      | some .local => m x
      | some .cell => if ((closOf scope env).lookup x).isSome = true then cm x else none
      | some .free => if ((closOf scope env).lookup x).isSome = true then cm x else none
      | _ => none) = some v
    rcases relabel_free (env := env) e2' with q | q <;> rw [q] <;> dsimp only <;> rw [if_pos hs] <;> exact ev'
  · rcases q with rfl | ⟨x, q⟩
    · exact ⟨nC, nB⟩
    · exact own b (.inr ⟨x, (closOf_lookup hw q).2.1⟩)
end
end Mine

namespace Mine
open PySem

section
variable {c : Cx} {n : Nat} {env : Env} {ρ : Vars} {st : PS} {s : Shared} {A : Around} {E : Value → Shared → Prop}

/-- a local is stored: only the frame's own table changes -/
theorem store_loc {x : Str} {p : PV} {v : Value} (hk : env.scope.kind = .function) (hl : env.kindOf x = some .local) (R : StRel c st s) (F : FrameAt c env ρ st s.heap) (r : Rep s.heap p v) :
    wpAny c.M A (storeName env x v) (fun _ s' => StRel c st s' ∧ EvoX (· = env.locals) st s.heap st s'.heap ∧ TupsStay s.heap s'.heap ∧ FrameAt c env ((x, p) :: ρ) st s'.heap) NoE s := by
  have F0 := F
  obtain ⟨⟨m, cm, hn, hc, hv⟩, ap, own, off⟩ := F
  refine wpAny_storeName_local hl hn (fun h' hn' hs => ?_) (by rw [hk]; rfl)
  have hx : ∃ o, h'.get? env.locals = some o := by obtain ⟨o, _, _, ho, _⟩ := hn'; exact ⟨o, ho⟩
  have ex : EvoX (· = env.locals) st s.heap st h' := fun b o e => ⟨if q : b = env.locals then q ▸ hx else ⟨o, (hs.2 b q).trans e⟩, fun nn q => ⟨(hs.2 b q).trans e, nn⟩⟩
  have ts := F0.stay R (ex.mono fun b q => .inl q)
  refine ⟨⟨fun b o e => ?_, R.new, fun b po e => ?_, R.gens, R.os⟩, ex, ts, ⟨⟨_, cm, hn', fun y a e => (hc y a e).sameBut hs (off y a e), fun y q e => ?_⟩, ap, own, off⟩⟩
  · have hb : b ≠ env.locals := by rintro rfl; rw [(own _ (.inl rfl)).2] at e; cases e
    exact (hs.2 b hb).trans (R.base b o e)
  · have hb : b ≠ env.locals := by rintro rfl; rw [(own _ (.inl rfl)).1] at e; cases e
    exact (R.rep b po e).of_get ts (hs.2 b hb)
  · by_cases hy : y = x
    · subst hy
      simp only [List.lookup_cons, beq_self_eq_true, Option.some.injEq] at e
      subst e
      exact ⟨v, by simp [varOf, hl], r.stay ts⟩
    · have hb : (y == x) = false := beq_eq_false_iff_ne.mpr hy
      simp only [List.lookup_cons, hb] at e
      obtain ⟨u, e1, r1⟩ := hv y q e
      exact ⟨u, by simp only [varOf, hy, if_false] at e1 ⊢; exact e1, r1.stay ts⟩

/-- the tests of a comprehension: none or one -/
noncomputable def WPts (c : Cx) (n : Nat) (env : Env) (ρ : Vars) : List Expr → PS → (Bool → PS → Prop) → Prop
  | [], st, Q => Q true st
  | [t], st, Q => WPb c n env ρ t st Q
  | _, _, _ => False
noncomputable abbrev testsOf (ifs : List Expr) (cenv : Env) : Sem Bool := forIn ifs true fun c r => if r = true then do let ok ← isTrue c cenv (eval c cenv); pure (ForInStep.yield ok) else pure (ForInStep.yield r)
theorem tests_run {ifs : List Expr} {Q : Bool → PS → Prop} (h : WPts c n env ρ ifs st Q) (r : Room n A) (R : StRel c st s) (F : FrameAt c env ρ st s.heap) : wpAny c.M A (testsOf ifs env) (OutB c st s.heap Q) NoE s := by
  match ifs, h with
  | [], h => exact wpAny_tests_nil ⟨st, R, Evo.refl _ _, h⟩
  | [t], h => exact wpAny_tests_one (h A s r R F)

noncomputable abbrev TurnP (M : Model) (A : Around) (cenv : Env) (x : Str) (px : Pos) (ifs : List Expr) (elt : Expr) (I D : Addr) (k : Nat) (Inv : Nat → Shared → Prop) (Rn : Shared → Prop) (s : Shared) : Prop :=
  wpAny M A (pyNext (.ref I)) (fun r s₁ => match r with
    | none => Rn s₁
    | some v => wpAny M A (assign (.Name x px) cenv v) (fun _ s₂ => wpAny M A (testsOf ifs cenv) (fun ok s₃ =>
        if ok = true then wpAny M A (eval elt cenv) (fun y s₄ => wpAny M A (call (.builtin "list.append") [.ref D, y]) (fun _ s₅ => ∃ m, m < k ∧ Inv m s₅) NoE s₄) NoE s₃
        else ∃ m, m < k ∧ Inv m s₃) NoE s₂) NoE s₁) NoE s

noncomputable def compEx (cenv : Env) (D I b : Addr) : Prop := b = cenv.locals ∨ b = D ∨ b = I

/-- what a loop did, its iterator left out -/
noncomputable def Past (I : Addr) (ex : Addr → Prop) (st : PS) (h : Heap) (st' : PS) (h' : Heap) : Prop := ∀ b o, b ≠ I → h.get? b = some o → (∃ o', h'.get? b = some o') ∧ (st b = none → ¬ ex b → h'.get? b = some o ∧ st' b = none)
theorem Past.chain {I : Addr} {ex : Addr → Prop} {st st1 st' : PS} {h h1 h' : Heap} (x : EvoX ex st h st1 h1) (hI : h.get? I = none) (y : Past I ex st1 h1 st' h') : EvoX ex st h st' h' := fun b o e => by
  have hb : b ≠ I := by rintro rfl; rw [hI] at e; cases e
  refine ⟨?_, fun n q => ?_⟩
  · obtain ⟨o', e'⟩ := (x b o e).1; exact (y b o' hb e').1
  · obtain ⟨a, m⟩ := (x b o e).2 n q; exact (y b o hb a).2 m q

structure ListAt (h : Heap) (D : Addr) (acc : List PV) : Prop where
  ex : ∃ vs, h.PlainList D (List.toArray vs) ∧ RepL h acc vs
theorem ListAt.stay {h h' : Heap} {D : Addr} {acc : List PV} (x : ListAt h D acc) (ts : TupsStay h h') (k : ∀ o, h.get? D = some o → h'.get? D = some o) : ListAt h' D acc := by
  obtain ⟨vs, p, r⟩ := x
  exact ⟨vs, p.at k, r.stay ts⟩
theorem ListAt.there {h : Heap} {D : Addr} {acc : List PV} (x : ListAt h D acc) : ∃ o, h.get? D = some o := by
  obtain ⟨vs, ⟨k, e⟩, r⟩ := x; exact ⟨_, e⟩
theorem ListAt.ne_iter {h : Heap} {D I : Addr} {acc : List PV} (x : ListAt h D acc) (y : iterFields h I) : D ≠ I := by
  rintro rfl
  obtain ⟨vs, ⟨k, e⟩, r⟩ := x
  obtain ⟨o, ws, ho, hd⟩ := y
  rw [e] at ho; cases ho; cases hd

theorem comp_loop {cenv : Env} {ρc : Vars} {x : Str} {px : Pos} {ifs : List Expr} {elt : Expr} {src : Src} {I D : Addr} {st1 : PS} {s2 : Shared} {acc0 : List PV} {code : Code} {Rr : Result → Shared → Prop} (J : Nat → List PV → PS → Prop)
    (hcode : ∀ (Inv : Nat → Shared → Prop), (∀ k s, Inv k s → TurnP c.M A cenv x px ifs elt I D k Inv (Rr (.ok .next)) s) → ∀ k s, Inv k s → codeAny c.M A code Rr s)
    (hk : cenv.scope.kind = .function) (hl : cenv.kindOf x = some .local) (hx : ρc.lookup x = none) (r : Room n A)
    (R1 : StRel c st1 s2) (F1 : FrameAt c cenv ρc st1 s2.heap) (it : IterAt s2.heap src I 0) (nI : st1 I = none) (nIB : c.B.get? I = none) (hI : ¬ ownAt cenv I)
    (pl : ListAt s2.heap D acc0) (nD : st1 D = none) (nDB : c.B.get? D = none) (hD : ¬ ownAt cenv D)
    (J0 : J 0 acc0 st1) (Jok : ∀ i acc st', J i acc st' → src.okAt st' ∧ acc.length ≤ 2 ^ 20)
    (turn : ∀ i p acc st', src.items[i]? = some p → J i acc st' → WPts c n cenv ((x, p) :: ρc) ifs st' fun b st2 => if b = true then WPe c n cenv ((x, p) :: ρc) elt st2 fun q st3 => J (i + 1) (acc ++ [q]) st3 else J (i + 1) acc st2)
    (fin : ∀ acc st' s', StRel c st' s' → FrameAt c cenv ρc st' s'.heap → Past I (fun b => b = cenv.locals ∨ b = D) st1 s2.heap st' s'.heap → ListAt s'.heap D acc → st' D = none → J src.items.length acc st' → Rr (.ok .next) s') :
    codeAny c.M A code Rr s2 := by
  refine hcode (fun k s3 => ∃ i acc st', k = src.items.length - i ∧ i ≤ src.items.length ∧ StRel c st' s3 ∧ FrameAt c cenv ρc st' s3.heap ∧ EvoX (compEx cenv D I) st1 s2.heap st' s3.heap ∧ IterAt s3.heap src I i ∧ st' I = none ∧ ListAt s3.heap D acc ∧ st' D = none ∧ J i acc st') ?_
    src.items.length s2 ⟨0, acc0, st1, rfl, Nat.zero_le _, R1, F1, EvoX.refl _ _ _, it, nI, pl, nD, J0⟩
  rintro k s3 ⟨i, acc, st', rfl, hi, R3, F3, x3, it3, nI3, pl3, nD3, hJ⟩
  have hDI : D ≠ I := pl3.ne_iter it3.fields
  have hCI : cenv.locals ≠ I := fun e => hI (e ▸ .inl rfl)
  have hCD : cenv.locals ≠ D := fun e => hD (e ▸ .inl rfl)
  by_cases hlt : i < src.items.length
  · refine iter_item R3 it3 nI3 nIB (Jok _ _ _ hJ).1 (List.getElem?_eq_getElem hlt) fun v s4 R4 x4 ts4 it4 r4 => ?_
    have F4 : FrameAt c cenv ρc st' s4.heap := F3.keep (fun b o q e => (x4 b o e).2 (F3.own b q).1 (by rintro rfl; exact hI q)) ts4
    have pl4 : ListAt s4.heap D acc := pl3.stay ts4 fun o e => ((x4 D o e).2 nD3 hDI).1
    refine wpAny_assign_Name (wp_then (store_loc hk hl R4 F4 r4) fun _ s5 o => ?_)
    obtain ⟨R5, x5, ts5, F5⟩ := o
    have pl5 : ListAt s5.heap D acc := pl4.stay ts5 fun o e => ((x5 D o e).2 nD3 (Ne.symm hCD)).1
    have it5 : IterAt s5.heap src I (i + 1) := it4.stay ts5 fun o e => ((x5 I o e).2 nI3 (Ne.symm hCI)).1
    refine wp_then (tests_run (turn i _ acc st' (List.getElem?_eq_getElem hlt) hJ) r R5 F5) fun ok s6 o => ?_
    obtain ⟨st6, R6, x6, q⟩ := o
    have F6 := F5.evo R5 x6
    have x36 : EvoX (compEx cenv D I) st1 s2.heap st6 s6.heap := ((x3.trans (x4.mono fun b q => .inr (.inr q))).trans (x5.mono fun b q => .inl q)).trans x6.x
    have keep6 : ∀ b, st' b = none → (∃ o, s5.heap.get? b = some o) → st6 b = none := fun b e ⟨o, ho⟩ => ((x6 b o ho).2 e).2
    have it6 : IterAt s6.heap src I (i + 1) := it5.stay (R5.stay x6) fun o e => ((x6 I o e).2 nI3).1
    have pl6 : ListAt s6.heap D acc := pl5.stay (R5.stay x6) fun o e => ((x6 D o e).2 nD3).1
    have nI6 : st6 I = none := keep6 I nI3 (by obtain ⟨o, _, e, _⟩ := it5.fields; exact ⟨o, e⟩)
    have nD6 : st6 D = none := keep6 D nD3 pl5.there
    have back : ∀ {p : PV} {st7 : PS} {h7 : Heap}, FrameAt c cenv ((x, p) :: ρc) st7 h7 → FrameAt c cenv ρc st7 h7 := fun G => G.weaken fun y q e => by
      have hy : y ≠ x := by rintro rfl; rw [hx] at e; cases e
      have hb : (y == x) = false := beq_eq_false_iff_ne.mpr hy
      simp only [List.lookup_cons, hb]; exact e
    cases ok with
    | false =>
      simp only [Bool.false_eq_true, if_false] at q ⊢
      exact ⟨src.items.length - (i + 1), by omega, i + 1, acc, st6, rfl, hlt, R6, back F6, x36, it6, nI6, pl6, nD6, q⟩
    | true =>
      simp only [if_true] at q ⊢
      refine wp_then (q A s6 r R6 F6) fun y s7 o => ?_
      obtain ⟨p7, st7, R7, x7, r7, q7⟩ := o
      have it7 : IterAt s7.heap src I (i + 1) := it6.stay (R6.stay x7) fun o e => ((x7 I o e).2 nI6).1
      have pl7 : ListAt s7.heap D acc := pl6.stay (R6.stay x7) fun o e => ((x7 D o e).2 nD6).1
      have nI7 : st7 I = none := by obtain ⟨o, _, e, _⟩ := it6.fields; exact ((x7 I o e).2 nI6).2
      have nD7 : st7 D = none := by obtain ⟨o, e⟩ := pl6.there; exact ((x7 D o e).2 nD6).2
      have F7 := F6.evo R6 x7
      obtain ⟨vs, pv, rl⟩ := pl7
      have hz : (List.toArray vs).size ≤ sizeLine := by
        have := (Jok _ _ _ hJ).2
        have := rl.length
        rw [sizeLine_eq, List.size_toArray]; omega
      refine wpAny_list_append_plain (hsz := hz) pv fun h8 pv8 hs8 => ?_
      have ts8 : TupsStay s7.heap h8 := fun a us ⟨k, t⟩ => ⟨k, (hs8.2 a (by rintro rfl; obtain ⟨k', e⟩ := pv; rw [t] at e; simp at e)).trans t⟩
      have hx8 : ∃ o, h8.get? D = some o := by obtain ⟨k, e⟩ := pv8; exact ⟨_, e⟩
      have x8 : EvoX (· = D) st7 s7.heap st7 h8 := fun b o e => ⟨if q : b = D then q ▸ hx8 else ⟨o, (hs8.2 b q).trans e⟩, fun nn q => ⟨(hs8.2 b q).trans e, nn⟩⟩
      have R8 : StRel c st7 { s7 with heap := h8 } := by
        refine ⟨fun b o e => (hs8.2 b (by rintro rfl; rw [nDB] at e; cases e)).trans (R7.base b o e), R7.new, fun b po e => ?_, R7.gens, R7.os⟩
        exact (R7.rep b po e).of_get ts8 (hs8.2 b (by rintro rfl; rw [nD7] at e; cases e))
      refine ⟨src.items.length - (i + 1), by omega, i + 1, acc ++ [p7], st7, rfl, hlt, R8, back (F7.keep (fun b o q e => (x8 b o e).2 (F7.own b q).1 (by rintro rfl; exact hD q)) ts8),
        (x36.trans x7.x).trans (x8.mono fun b q => .inr (.inl q)), it7.stay ts8 fun o e => ((x8 I o e).2 nI7 (Ne.symm hDI)).1, nI7, ⟨vs ++ [y], by simpa using pv8, (rl.append (.cons r7 .nil)).stay ts8⟩, nD7, q7⟩
  · have hi' : i = src.items.length := by omega
    subst hi'
    refine iter_done r.handled R3 it3 nI3 nIB (Jok _ _ _ hJ).1 rfl fun s4 R4 k4 ts4 => ?_
    refine fin acc st' s4 R4 (F3.keep (fun b o q e => ⟨k4 b o (by rintro rfl; exact hI q) e, (F3.own b q).1⟩) ts4) (fun b o hb e => ?_) (pl3.stay ts4 fun o e => k4 D o hDI e) nD3 hJ
    refine ⟨?_, fun nn q => ?_⟩
    · obtain ⟨o', e'⟩ := (x3 b o e).1; exact ⟨o', k4 b o' hb e'⟩
    · obtain ⟨a, m⟩ := (x3 b o e).2 nn (by rintro (h | h | h); exact q (.inl h); exact q (.inr h); exact hb h)
      exact ⟨k4 b o hb a, m⟩
end
end Mine

namespace Mine
open PySem

theorem compTurn_out (elt i0 i1 t0 t1 : Expr) (scope : Scope) (pos : Pos) (it acc : Value) (env : Env) :
    compTurn (.ListComp elt [⟨t0, i0, [], 0⟩, ⟨t1, i1, [], 0⟩] scope pos) 0 it acc env = (standAt i0.pos >>= fun _ => pyNext it >>= fun r => match r with
      | none => pure (.done .next)
      | some v => letOwnedTupleGo t0 it v >>= fun _ => assign t0 env v >>= fun _ =>
        (eval i1 env >>= fun x => standAt i1.pos >>= fun _ => foldedSetIterable i1 env x >>= fun x => holding [x] (pyIter x) >>= fun it' => runOwn (.compStart (.ListComp elt [⟨t0, i0, [], 0⟩, ⟨t1, i1, [], 0⟩] scope pos) 1 it' acc env) env >>= fun _ =>
          again (.compLoop (.ListComp elt [⟨t0, i0, [], 0⟩, ⟨t1, i1, [], 0⟩] scope pos) 0 it acc env))) := by rfl
theorem compTurn_in (elt i0 i1 t0 t1 : Expr) (scope : Scope) (pos : Pos) (it acc : Value) (env : Env) :
    compTurn (.ListComp elt [⟨t0, i0, [], 0⟩, ⟨t1, i1, [], 0⟩] scope pos) 1 it acc env = (standAt i1.pos >>= fun _ => pyNext it >>= fun r => match r with
      | none => pure (.done .next)
      | some v => letOwnedTupleGo t1 it v >>= fun _ => assign t1 env v >>= fun _ =>
        (eval elt env >>= fun x => call (.builtin "list.append") [acc, x] >>= fun _ => pure ()) >>= fun _ =>
          again (.compLoop (.ListComp elt [⟨t0, i0, [], 0⟩, ⟨t1, i1, [], 0⟩] scope pos) 1 it acc env)) := by rfl

section
variable {c : Cx} {n : Nat} {env : Env} {ρ : Vars} {st : PS} {s : Shared} {A : Around} {E : Value → Shared → Prop} {R : Result → Shared → Prop}

theorem noE_any {α : Type} {t : Sem α} {P : α → Shared → Prop} (h : wpAny c.M A t P NoE s) : wpAny c.M A t P E s := wp_then h fun _ _ x => x

theorem loop_one {elt iter : Expr} {x : Str} {px : Pos} {ifs : List Expr} {scope : Scope} {pos : Pos} {cenv : Env} {I D : Addr} (Inv : Nat → Shared → Prop)
    (turn : ∀ k s, Inv k s → TurnP c.M A cenv x px ifs elt I D k Inv (R (.ok .next)) s) (k : Nat) (s : Shared) (h : Inv k s) :
    codeAny c.M A (.compLoop (.ListComp elt [⟨.Name x px, iter, ifs, 0⟩] scope pos) 0 (.ref I) (.ref D) cenv) R s := by
  refine codeAny_compLoop_tests Inv (fun k s hI => wp_then (turn k s hI) fun r s1 o => ?_) k h
  cases r with
  | none => exact o
  | some v =>
    refine wp_then o fun _ s2 o => wp_then o fun ok s3 o => ?_
    cases ok with
    | false => simpa using o
    | true =>
      simp only [if_true] at o ⊢
      exact wp_then o fun y s4 o => noE_any o

theorem loop_in {elt i0 i1 t0 : Expr} {y : Str} {py : Pos} {scope : Scope} {pos : Pos} {cenv : Env} {I D : Addr} (Inv : Nat → Shared → Prop)
    (turn : ∀ k s, Inv k s → TurnP c.M A cenv y py [] elt I D k Inv (R (.ok .next)) s) (k : Nat) (s : Shared) (h : Inv k s) :
    codeAny c.M A (.compLoop (.ListComp elt [⟨t0, i0, [], 0⟩, ⟨.Name y py, i1, [], 0⟩] scope pos) 1 (.ref I) (.ref D) cenv) R s := by
  refine codeAny_loop rfl Inv (fun k s hI => ?_) k h
  show wpAny _ _ ((compTurn (.ListComp elt [⟨t0, i0, [], 0⟩, ⟨.Name y py, i1, [], 0⟩] scope pos) 1 (.ref I) (.ref D) cenv).onRaise (fun x => do noteFrame x cenv; theTreesLotGoes x)) _ _ s
  refine wpAny_noted ?_
  rw [compTurn_in]
  refine wpAny_bind (wpAny_standAt (wpAny_bind (wp_then (turn k s hI) fun r s₁ h₁ => ?_)))
  cases r with
  | none => exact wpAny_pure h₁
  | some v =>
    refine wpAny_bind (wpAny_of_eq (a := ()) rfl ?_)
    refine wpAny_bind (wp_then h₁ fun _ s₂ h₂ => wpAny_bind (wpAny_bind ?_))
    have h₂' := h₂
    refine wp_then (P := fun y s₄ => wpAny c.M A (call (.builtin "list.append") [.ref D, y]) (fun _ s₅ => ∃ m, m < k ∧ Inv m s₅) NoE s₄) ?_ fun y s₄ h₄ => ?_
    · have : wpAny c.M A (testsOf [] cenv) (fun ok s₃ => if ok = true then wpAny c.M A (eval elt cenv) (fun y s₄ => wpAny c.M A (call (.builtin "list.append") [.ref D, y]) (fun _ s₅ => ∃ m, m < k ∧ Inv m s₅) NoE s₄) NoE s₃ else ∃ m, m < k ∧ Inv m s₃) NoE s₂ := h₂
      intro Γ p hΓ
      have q := this Γ p hΓ
      exact (show wpAny c.M A (eval elt cenv) (fun y s₄ => wpAny c.M A (call (.builtin "list.append") [.ref D, y]) (fun _ s₅ => ∃ m, m < k ∧ Inv m s₅) NoE s₄) NoE s₂ from by simpa using q) Γ p hΓ
    · exact wpAny_bind (wp_then h₄ fun _ s₅ h₅ => wpAny_pure (wpAny_pure ⟨rfl, h₅⟩))

noncomputable abbrev TurnP2 (M : Model) (A : Around) (cenv : Env) (x : Str) (px : Pos) (e i1 : Expr) (I D : Addr) (k : Nat) (Inv : Nat → Shared → Prop) (Rn : Shared → Prop) (s : Shared) : Prop :=
  wpAny M A (pyNext (.ref I)) (fun r s₁ => match r with
    | none => Rn s₁
    | some v => wpAny M A (assign (.Name x px) cenv v) (fun _ s₂ => wpAny M A (eval i1 cenv) (fun xv s₃ => wpAny M A (pyIter xv) (fun it' s₄ =>
        codeAny M A (.compStart e 1 it' (.ref D) cenv) (fun r s₅ => match r with | .ok _ => ∃ m, m < k ∧ Inv m s₅ | .error _ => False) s₄) NoE s₃) NoE s₂) NoE s₁) NoE s
theorem loop_out {elt i0 i1 t1 : Expr} {x : Str} {px : Pos} {scope : Scope} {pos : Pos} {cenv : Env} {I D : Addr} (Inv : Nat → Shared → Prop) (hs : ∀ v, foldedSetIterable i1 cenv v = pure v)
    (turn : ∀ k s, Inv k s → TurnP2 c.M A cenv x px (.ListComp elt [⟨.Name x px, i0, [], 0⟩, ⟨t1, i1, [], 0⟩] scope pos) i1 I D k Inv (R (.ok .next)) s) (k : Nat) (s : Shared) (h : Inv k s) :
    codeAny c.M A (.compLoop (.ListComp elt [⟨.Name x px, i0, [], 0⟩, ⟨t1, i1, [], 0⟩] scope pos) 0 (.ref I) (.ref D) cenv) R s := by
  refine codeAny_loop rfl Inv (fun k s hI => ?_) k h
  show wpAny _ _ ((compTurn (.ListComp elt [⟨.Name x px, i0, [], 0⟩, ⟨t1, i1, [], 0⟩] scope pos) 0 (.ref I) (.ref D) cenv).onRaise (fun x => do noteFrame x cenv; theTreesLotGoes x)) _ _ s
  refine wpAny_noted ?_
  rw [compTurn_out]
  refine wpAny_bind (wpAny_standAt (wpAny_bind (wp_then (turn k s hI) fun r s₁ h₁ => ?_)))
  cases r with
  | none => exact wpAny_pure h₁
  | some v =>
    refine wpAny_bind (wpAny_of_eq (a := ()) rfl ?_)
    refine wpAny_bind (wp_then h₁ fun _ s₂ h₂ => wpAny_bind (wp_then h₂ fun xv s₃ h₃ => ?_))
    refine wpAny_bind (wpAny_standAt (wpAny_bind (wpAny_of_eq (hs xv) (wpAny_bind (wpAny_holding (wp_then h₃ fun it' s₄ h₄ => ?_))))))
    refine wpAny_bind (wpAny_runOwn (codeAny_mono h₄ fun r s₅ h₅ => ?_))
    cases r with
    | error e => exact h₅.elim
    | ok f => exact wpAny_pure ⟨rfl, h₅⟩

theorem start_one {e : Expr} {d : Nat} {it acc : Value} {cenv : Env} {g : Comprehension} (hq : (Code.compLoop e d it acc cenv).quiet = true) (hf : ∀ it, (Code.compStart e d it acc cenv).isFrame = false) (hq' : ∀ it', (Code.compLoop e d it' acc cenv).quiet = true)
    (hg : (clausesOf e)[d]? = some g) (ha : (g.is_async != 0) = false) (hu : A.under (.compStart e d it acc cenv) = A)
    (h0 : codeAny c.M A (.compLoop e d it acc cenv) R s) (h : wpAny c.M A (pyIter it) (fun it' s' => codeAny c.M A (.compLoop e d it' acc cenv) R s') NoE s) : codeAny c.M A (.compStart e d it acc cenv) R s := by
  refine codeAny_of_tree ?_
  rw [hu]
  show wpAny _ _ (if (Code.compStart e d it acc cenv).isFrame = true then (compStart e d it acc cenv).onRaise (leaving cenv) else (compStart e d it acc cenv).onRaise (fun x => do noteFrame x cenv; standAt theWindowsPlace)) _ _ s
  rw [hf, if_neg (by decide)]
  refine wpAny_notedAt ?_
  unfold compStart
  rw [hg]
  simp only [Option.elim, ha, Bool.false_eq_true, if_false]
  refine wpAny_bind (wpAny_askSetting (wpAny_ite ?_))
  split
  · exact wpAny_pure ⟨hq, h0⟩
  · refine wpAny_bind (wpAny_rule (wpAny_bind (wpAny_standAt (wpAny_bind (wp_then h fun it' s' h' => wpAny_pure ⟨hq' it', h'⟩)))))

theorem iter_self {src : Src} {I : Addr} {i : Nat} {P : Value → Shared → Prop} (x : IterAt s.heap src I i) (h : P (.ref I) s) : wpAny c.M A (pyIter (.ref I)) P E s := by
  cases src with
  | tup l => obtain ⟨t, vs, hit, _⟩ := x; exact wpAny_pyIter_tupleiter hit h
  | lst a l => exact wpAny_pyIter_listiter x h
  | rng lo hi => exact wpAny_pyIter_rangeiter x h
end
end Mine

namespace Mine
open PySem

section
variable {c : Cx} {n : Nat} {env : Env} {ρ : Vars} {st : PS} {s : Shared} {A : Around} {E : Value → Shared → Prop}

theorem Past.mono {I : Addr} {ex ex' : Addr → Prop} {st st' : PS} {h h' : Heap} (x : Past I ex st h st' h') (k : ∀ b, ex b → ex' b) : Past I ex' st h st' h' := fun b o hb e => ⟨(x b o hb e).1, fun nn q => (x b o hb e).2 nn fun r => q (k b r)⟩

theorem comp_loop2 {cenv : Env} {ρc : Vars} {x y : Str} {px py : Pos} {elt i0 i1 : Expr} {scope : Scope} {pos : Pos} {src : Src} {I D : Addr} {st1 : PS} {s2 : Shared} {acc0 : List PV} {Rr : Result → Shared → Prop} (J : Nat → List PV → PS → Prop)
    (hs : ∀ v, foldedSetIterable i1 cenv v = pure v)
    (hk : cenv.scope.kind = .function) (hl : cenv.kindOf x = some .local) (hl' : cenv.kindOf y = some .local) (hx : ρc.lookup x = none) (hy : ρc.lookup y = none) (hxy : (y == x) = false) (r : Room n A)
    (R1 : StRel c st1 s2) (F1 : FrameAt c cenv ρc st1 s2.heap) (it : IterAt s2.heap src I 0) (nI : st1 I = none) (nIB : c.B.get? I = none) (hI : ¬ ownAt cenv I)
    (pl : ListAt s2.heap D acc0) (nD : st1 D = none) (nDB : c.B.get? D = none) (hD : ¬ ownAt cenv D)
    (J0 : J 0 acc0 st1) (Jok : ∀ i acc st', J i acc st' → src.okAt st')
    (turn : ∀ i p acc st', src.items[i]? = some p → J i acc st' → WPi c n cenv ((x, p) :: ρc) i1 st' fun src2 st2 => ∃ J2 : Nat → List PV → PS → Prop, J2 0 acc st2 ∧ (∀ j a st3, J2 j a st3 → src2.okAt st3 ∧ a.length ≤ 2 ^ 20) ∧
      (∀ j q a st3, src2.items[j]? = some q → J2 j a st3 → WPe c n cenv ((y, q) :: (x, p) :: ρc) elt st3 fun u st4 => J2 (j + 1) (a ++ [u]) st4) ∧ (∀ a st3, J2 src2.items.length a st3 → J (i + 1) a st3))
    (fin : ∀ acc st' s', StRel c st' s' → FrameAt c cenv ρc st' s'.heap → Past I (fun b => b = cenv.locals ∨ b = D) st1 s2.heap st' s'.heap → ListAt s'.heap D acc → st' D = none → J src.items.length acc st' → Rr (.ok .next) s') :
    codeAny c.M A (.compLoop (.ListComp elt [⟨.Name x px, i0, [], 0⟩, ⟨.Name y py, i1, [], 0⟩] scope pos) 0 (.ref I) (.ref D) cenv) Rr s2 := by
  refine loop_out (fun k s3 => ∃ i acc st', k = src.items.length - i ∧ i ≤ src.items.length ∧ StRel c st' s3 ∧ FrameAt c cenv ρc st' s3.heap ∧ EvoX (compEx cenv D I) st1 s2.heap st' s3.heap ∧ IterAt s3.heap src I i ∧ st' I = none ∧ ListAt s3.heap D acc ∧ st' D = none ∧ J i acc st') hs ?_
    src.items.length s2 ⟨0, acc0, st1, rfl, Nat.zero_le _, R1, F1, EvoX.refl _ _ _, it, nI, pl, nD, J0⟩
  rintro k s3 ⟨i, acc, st', rfl, hi, R3, F3, x3, it3, nI3, pl3, nD3, hJ⟩
  have hDI : D ≠ I := pl3.ne_iter it3.fields
  have hCI : cenv.locals ≠ I := fun e => hI (e ▸ .inl rfl)
  have hCD : cenv.locals ≠ D := fun e => hD (e ▸ .inl rfl)
  by_cases hlt : i < src.items.length
  · refine iter_item R3 it3 nI3 nIB (Jok _ _ _ hJ) (List.getElem?_eq_getElem hlt) fun v s4 R4 x4 ts4 it4 r4 => ?_
    have F4 : FrameAt c cenv ρc st' s4.heap := F3.keep (fun b o q e => (x4 b o e).2 (F3.own b q).1 (by rintro rfl; exact hI q)) ts4
    have pl4 : ListAt s4.heap D acc := pl3.stay ts4 fun o e => ((x4 D o e).2 nD3 hDI).1
    refine wpAny_assign_Name (wp_then (store_loc hk hl R4 F4 r4) fun _ s5 o => ?_)
    obtain ⟨R5, x5, ts5, F5⟩ := o
    have pl5 : ListAt s5.heap D acc := pl4.stay ts5 fun o e => ((x5 D o e).2 nD3 (Ne.symm hCD)).1
    have it5 : IterAt s5.heap src I (i + 1) := it4.stay ts5 fun o e => ((x5 I o e).2 nI3 (Ne.symm hCI)).1
    refine wp_then (turn i _ acc st' (List.getElem?_eq_getElem hlt) hJ A s5 r R5 F5) fun xv s5' o => wp_then o fun it' s6 o => ?_
    obtain ⟨I2, src2, st6, rfl, R6, x6, it26, nI2, nI2B, fI2, ok2, J2, J20, J2ok, turn2, fin2⟩ := o
    have F6 := F5.evo R5 x6
    have hI2 : ¬ ownAt cenv I2 := fun q => by obtain ⟨o, e⟩ := F5.there q; rw [fI2] at e; cases e
    have keep6 : ∀ b, st' b = none → (∃ o, s5.heap.get? b = some o) → st6 b = none := fun b e ⟨o, ho⟩ => ((x6 b o ho).2 e).2
    have it6 : IterAt s6.heap src I (i + 1) := it5.stay (R5.stay x6) fun o e => ((x6 I o e).2 nI3).1
    have pl6 : ListAt s6.heap D acc := pl5.stay (R5.stay x6) fun o e => ((x6 D o e).2 nD3).1
    have nI6 : st6 I = none := keep6 I nI3 (by obtain ⟨o, _, e, _⟩ := it5.fields; exact ⟨o, e⟩)
    have nD6 : st6 D = none := keep6 D nD3 pl5.there
    have hII2 : I ≠ I2 := by rintro rfl; obtain ⟨o, _, e, _⟩ := it5.fields; rw [fI2] at e; cases e
    have x36 : EvoX (compEx cenv D I) st1 s2.heap st6 s6.heap := ((x3.trans (x4.mono fun b q => .inr (.inr q))).trans (x5.mono fun b q => .inl q)).trans x6.x
    have fI2' : s2.heap.get? I2 = none := ((x3.trans (x4.mono fun b q => .inr (.inr q))).trans (x5.mono fun b q => .inl q)).gone fI2
    have inner : codeAny c.M A (.compLoop (.ListComp elt [⟨.Name x px, i0, [], 0⟩, ⟨.Name y py, i1, [], 0⟩] scope pos) 1 (.ref I2) (.ref D) cenv) (fun r s₅ => match r with
        | .ok _ => ∃ m, m < src.items.length - i ∧ (fun k s3 => ∃ i acc st', k = src.items.length - i ∧ i ≤ src.items.length ∧ StRel c st' s3 ∧ FrameAt c cenv ρc st' s3.heap ∧ EvoX (compEx cenv D I) st1 s2.heap st' s3.heap ∧ IterAt s3.heap src I i ∧ st' I = none ∧ ListAt s3.heap D acc ∧ st' D = none ∧ J i acc st') m s₅
        | .error _ => False) s6 := by
      have hyc : ((x, src.items[i]) :: ρc).lookup y = none := by simp only [List.lookup_cons, hxy]; exact hy
      refine comp_loop (ρc := (x, src.items[i]) :: ρc) (ifs := []) J2 (fun Inv t k s h => loop_in Inv t k s h) hk hl' hyc r R6 F6 it26 nI2 nI2B hI2 pl6 nD6 nDB hD J20 J2ok (fun j q a st3 hq hj => ?_) fun a st7 s7 R7 F7 p7 pl7 nD7 hJ7 => ?_
      · exact turn2 j q a st3 hq hj
      · have it7 : IterAt s7.heap src I (i + 1) := it6.stay (fun b us ⟨k, t⟩ => ?_) fun o e => ((p7 I o hII2 e).2 nI6 (by rintro (h | h); exact hCI h.symm; exact hDI h.symm)).1
        · have nI7 : st7 I = none := by obtain ⟨o, _, e, _⟩ := it6.fields; exact ((p7 I o hII2 e).2 nI6 (by rintro (h | h); exact hCI h.symm; exact hDI h.symm)).2
          exact ⟨src.items.length - (i + 1), by omega, i + 1, a, st7, rfl, hlt, R7, F7.weaken fun z q e => by
            have hz : z ≠ x := by rintro rfl; rw [hx] at e; cases e
            have hb : (z == x) = false := beq_eq_false_iff_ne.mpr hz
            simp only [List.lookup_cons, hb]; exact e, Past.chain x36 fI2' (p7.mono fun b q => q.elim .inl fun q => .inr (.inl q)), it7, nI7, pl7, nD7, fin2 a st7 hJ7⟩
        · have hb1 : b ≠ I2 := by rintro rfl; obtain ⟨o, vs, ho, hd⟩ := it26.fields; rw [t] at ho; cases ho; cases hd
          have hb2 : ¬ (b = cenv.locals ∨ b = D) := by
            rintro (h | h)
            · exact F6.noSeq b _ (.inl h) t us.toArray k rfl
            · subst h; obtain ⟨vs, ⟨k', e⟩, _⟩ := pl6; rw [t] at e; simp at e
          exact ⟨k, ((p7 b _ hb1 t).2 (R6.tup ⟨k, t⟩) hb2).1⟩
    exact start_one (g := ⟨.Name y py, i1, [], 0⟩) rfl (fun _ => rfl) (fun _ => rfl) rfl rfl rfl inner (iter_self it26 inner)
  · have hi' : i = src.items.length := by omega
    subst hi'
    refine iter_done r.handled R3 it3 nI3 nIB (Jok _ _ _ hJ) rfl fun s4 R4 k4 ts4 => ?_
    refine fin acc st' s4 R4 (F3.keep (fun b o q e => ⟨k4 b o (by rintro rfl; exact hI q) e, (F3.own b q).1⟩) ts4) (fun b o hb e => ?_) (pl3.stay ts4 fun o e => k4 D o hDI e) nD3 hJ
    refine ⟨?_, fun nn q => ?_⟩
    · obtain ⟨o', e'⟩ := (x3 b o e).1; exact ⟨o', k4 b o' hb e'⟩
    · obtain ⟨a, m⟩ := (x3 b o e).2 nn (by rintro (h | h | h); exact q (.inl h); exact q (.inr h); exact hb h)
      exact ⟨k4 b o hb a, m⟩

/-- what a comprehension ends with -/
noncomputable def CompEnd (c : Cx) (env : Env) (ρ : Vars) (st : PS) (h0 : Heap) (Q : PV → PS → Prop) (D C : Addr) (s' : Shared) : Prop :=
  ∃ st2, StRel c st2 s' ∧ FrameAt c env ρ st2 s'.heap ∧ Evo st h0 st2 s'.heap ∧ st2 C = none ∧ c.B.get? C = none ∧ h0.get? C = none ∧ ¬ ownAt env C ∧ (∃ m, s'.heap.Ns C m) ∧ Q (.loc D) st2

/-- a table of the comprehension's own is changed -/
theorem drop_ns {C : Addr} {m : Str → Option Value} {h' : Heap} {tk : Nat} (R : StRel c st s) (hn : s.heap.Ns C m) (nC : st C = none) (nB : c.B.get? C = none) (hs : Heap.SameBut C s.heap h') :
    StRel c st { s with heap := h', toks := tk } ∧ TupsStay s.heap h' := by
  have ts : TupsStay s.heap h' := fun a us ⟨k, t⟩ => ⟨k, (hs.2 a (by rintro rfl; obtain ⟨o, _, _, ho, hd, _⟩ := hn; rw [t] at ho; cases ho; cases hd)).trans t⟩
  refine ⟨⟨fun b o e => (hs.2 b (by rintro rfl; rw [nB] at e; cases e)).trans (R.base b o e), R.new, fun b po e => ?_, R.gens, R.os⟩, ts⟩
  exact (R.rep b po e).of_get ts (hs.2 b (by rintro rfl; rw [nC] at e; cases e))

theorem comp_post_none {Q : PV → PS → Prop} {D C : Addr} {h0 : Heap} {r : Result} {s' : Shared} (hr : ∃ f, r = .ok f) (x : CompEnd c env ρ st h0 Q D C s') : compPost c.M A NoE none (Out c st h0 Q) (.ref D) C r s' := by
  obtain ⟨f, rfl⟩ := hr
  obtain ⟨st2, R, F, x, nC, nB, fC, hC, ⟨m, hn⟩, q⟩ := x
  refine ⟨m, hn, fun h' hs => ?_⟩
  obtain ⟨R', ts⟩ := drop_ns (tk := s'.toks) R hn nC nB hs
  refine ⟨.loc D, st2, R', fun b o e => ?_, .loc, q⟩
  have hb : b ≠ C := by rintro rfl; rw [fC] at e; cases e
  refine ⟨?_, fun nn => ?_⟩
  · obtain ⟨o', e'⟩ := (x b o e).1; exact ⟨o', (hs.2 b hb).trans e'⟩
  · obtain ⟨a, m⟩ := (x b o e).2 nn; exact ⟨(hs.2 b hb).trans a, m⟩

theorem comp_post_use {y : Str} {py : Pos} {Q : PF → Vars → PS → Prop} {D C : Addr} {h0 : Heap} {r : Result} {s' : Shared} (hr : ∃ f, r = .ok f) (hy : isOwn env y = true)
    (x : CompEnd c env ρ st h0 (fun p st' => Q .next ((y, p) :: ρ) st') D C s') : compPost c.M A NoE (some (assign (.Name y py) env)) (fun _ s'' => OutF c env st h0 Q .next s'') (.ref D) C r s' := by
  obtain ⟨f, rfl⟩ := hr
  obtain ⟨st2, R, F, x, nC, nB, fC, hC, ⟨m, hn⟩, q⟩ := x
  refine wp_then (store_assign hy R F .loc) fun _ s2 o => ?_
  obtain ⟨R2, x2, F2⟩ := o
  have hn2 : s2.heap.Ns C m := hn.at' fun o e => ((x2 C o e).2 nC hC).1
  refine ⟨m, hn2, fun h' hs => ?_⟩
  obtain ⟨R', ts⟩ := drop_ns (tk := s2.toks) R2 hn2 nC nB hs
  refine ⟨.next, _, st2, R', fun b o e => ?_, F2.keep (fun b o q e => ⟨(hs.2 b (by rintro rfl; exact hC q)).trans e, (F2.own b q).1⟩) ts, rfl, q⟩
  have hb : b ≠ C := by rintro rfl; rw [fC] at e; cases e
  refine ⟨?_, fun nn q => ?_⟩
  · obtain ⟨o', e'⟩ := (x b o e).1; obtain ⟨o', e'⟩ := (x2 b o' e').1; exact ⟨o', (hs.2 b hb).trans e'⟩
  · obtain ⟨a, m⟩ := (x b o e).2 nn; obtain ⟨a, m⟩ := (x2 b o a).2 m q; exact ⟨(hs.2 b hb).trans a, m⟩
end
end Mine

namespace Mine
open PySem

/-- where a comprehension's loop begins -/
structure CompAt (c : Cx) (env : Env) (ρ : Vars) (scope : Scope) (st : PS) (h0 : Heap) (src : Src) (st1 : PS) (I D C : Addr) (s4 : Shared) : Prop where
  R : StRel c st1 s4
  Fc : FrameAt c (compEnvC scope (closOf scope env) C env) (capt scope ρ) st1 s4.heap
  F : FrameAt c env ρ st1 s4.heap
  x : Evo st h0 st1 s4.heap
  it : IterAt s4.heap src I 0
  nI : st1 I = none
  nIB : c.B.get? I = none
  fI : h0.get? I = none
  nD : st1 D = none
  nDB : c.B.get? D = none
  fD : h0.get? D = none
  nC : st1 C = none
  nCB : c.B.get? C = none
  fC : h0.get? C = none
  hI : ¬ ownAt env I
  hD : ¬ ownAt env D
  hC : ¬ ownAt env C
  hIc : ¬ ownAt (compEnvC scope (closOf scope env) C env) I
  hDc : ¬ ownAt (compEnvC scope (closOf scope env) C env) D
  pl : ListAt s4.heap D []

section
variable {c : Cx} {n : Nat} {env : Env} {ρ : Vars} {st : PS} {s : Shared} {A : Around} {E : Value → Shared → Prop}

theorem comp_end {scope : Scope} {h0 : Heap} {src : Src} {st1 st' : PS} {I D C : Addr} {s4 s' : Shared} {acc : List PV} {Q : PV → PS → Prop} {ρc : Vars} (a : CompAt c env ρ scope st h0 src st1 I D C s4)
    (R' : StRel c st' s') (F' : FrameAt c (compEnvC scope (closOf scope env) C env) ρc st' s'.heap) (p : Past I (fun b => b = C ∨ b = D) st1 s4.heap st' s'.heap) (pl : ListAt s'.heap D acc) (nD : st' D = none)
    (q : ∀ D, st' D = none → c.B.get? D = none → Q (.loc D) (st'.set D (.list acc))) : CompEnd c env ρ st h0 Q D C s' := by
  have ts : TupsStay s4.heap s'.heap := fun b us ⟨k, t⟩ => by
    have hb1 : b ≠ I := by rintro rfl; obtain ⟨o, vs, ho, hd⟩ := a.it.fields; rw [t] at ho; cases ho; cases hd
    have hb2 : ¬ (b = C ∨ b = D) := by
      rintro (h | h)
      · exact a.Fc.noSeq b _ (.inl h) t us.toArray k rfl
      · subst h; obtain ⟨vs, ⟨k', e⟩, _⟩ := a.pl; rw [t] at e; simp at e
    exact ⟨k, ((p b _ hb1 t).2 (a.R.tup ⟨k, t⟩) hb2).1⟩
  have hCD : C ≠ D := by rintro rfl; exact a.hDc (.inl rfl)
  obtain ⟨vs, pv, rl⟩ := pl
  have R2 : StRel c (st'.set D (.list acc)) s' := by
    refine ⟨R'.base, fun b po e => ?_, fun b po e => ?_, R'.gens, R'.os⟩
    · by_cases h : b = D
      · subst h; exact a.nDB
      · rw [PS.set_ne _ _ h] at e; exact R'.new b po e
    · by_cases h : b = D
      · subst h; rw [PS.set_self] at e; cases e; exact ⟨vs, pv, rl⟩
      · rw [PS.set_ne _ _ h] at e; exact R'.rep b po e
  have keep : ∀ b o, ownAt env b → s4.heap.get? b = some o → s'.heap.get? b = some o ∧ (st'.set D (.list acc)) b = none := fun b o q e => by
    have h1 : b ≠ I := by rintro rfl; exact a.hI q
    have h2 : b ≠ D := by rintro rfl; exact a.hD q
    have h3 : b ≠ C := by rintro rfl; exact a.hC q
    obtain ⟨k1, k2⟩ := (p b o h1 e).2 (a.F.own b q).1 (by rintro (h | h); exact h3 h; exact h2 h)
    exact ⟨k1, by rw [PS.set_ne _ _ h2]; exact k2⟩
  obtain ⟨⟨m, cm, hn, _⟩, _, own', _⟩ := F'
  refine ⟨st'.set D (.list acc), R2, a.F.keep keep ts, fun b o e => ?_, ?_, a.nCB, a.fC, a.hC, ⟨m, hn⟩, q D nD a.nDB⟩
  · have h1 : b ≠ I := by rintro rfl; rw [a.fI] at e; cases e
    have h2 : b ≠ D := by rintro rfl; rw [a.fD] at e; cases e
    have h3 : b ≠ C := by rintro rfl; rw [a.fC] at e; cases e
    refine ⟨?_, fun nn => ?_⟩
    · obtain ⟨o', e'⟩ := (a.x b o e).1; exact (p b o' h1 e').1
    · obtain ⟨k, m⟩ := (a.x b o e).2 nn
      obtain ⟨k1, k2⟩ := (p b o h1 k).2 m (by rintro (h | h); exact h3 h; exact h2 h)
      exact ⟨k1, by rw [PS.set_ne _ _ h2]; exact k2⟩
  · rw [PS.set_ne _ _ hCD]; exact (own' C (.inl rfl)).1

noncomputable def compOk (scope : Scope) (env : Env) : Bool := takesWell scope env && scope.kind == .function && (scope.names.all fun x => !(x.2 == .local) || scope.names.lookup x.1 == some .local) && (scope.names.all fun x => !(x.2 == .cell))

theorem comp_begin {e iter : Expr} {scope : Scope} {pos : Pos} {g : Comprehension} {gs : List Comprehension} {use : Option (Value → Sem Unit)} {Qv : Value → Shared → Prop} {P : Src → PS → Prop}
    (hcl : clausesOf e = g :: gs) (hs : ∀ x, foldedSetIterable g.iter env x = pure x) (ok : compOk scope env = true) (r : Room n A) (R : StRel c st s) (F : FrameAt c env ρ st s.heap) (hi : WPi c n env ρ iter st P)
    (h : ∀ I src st1 s4 D C, P src st1 → src.okAt st1 → CompAt c env ρ scope st s.heap src st1 I D C s4 →
      codeAny c.M A (.compStart e 0 (.ref I) (.ref D) (compEnvC scope (closOf scope env) C env)) (compPost c.M A NoE use Qv (.ref D) C) s4) :
    wpAny c.M A (comprehension e scope env pos (newList []) false (eval iter env) use) Qv NoE s := by
  simp only [compOk, Bool.and_eq_true, beq_iff_eq] at ok
  obtain ⟨⟨⟨k1, k2⟩, k3⟩, k4⟩ := ok
  have hnames : ∀ x ∈ scope.names, x.2 = .local → scope.names.lookup x.1 = some .local := fun x hx hl => by
    have := List.all_eq_true.mp k3 x hx
    simpa [hl] using this
  have hcell : ∀ x ∈ scope.names, x.2 ≠ .cell := fun x hx => by
    have := List.all_eq_true.mp k4 x hx
    simpa using this
  refine wpAny_comprehension_free hcl hs (closureFor_eq k1) k2 hnames (wp_then (hi A s r R F) fun v s1 o => wp_then o fun it s2 o => ?_)
  obtain ⟨I, src, st1, rfl, R2, x2, it2, nI, nIB, fI, okI, p⟩ := o
  have F2 := F.evo R x2
  refine wpAny_newObj_type (wpAny_newFunctionEnv hcell (by intro y hy; simp at hy) (fun h₁ hns₁ hsb₁ => ?_) k2)
  dsimp only at hns₁ hsb₁ ⊢
  generalize hH2 : s2.heap.push { cls := .type "list", dict := none, data := .seq ([] : List Value).toArray } = H2 at hns₁ hsb₁ ⊢
  have hC : H2.objs.size = s2.heap.objs.size + 1 := by rw [← hH2, Heap.size_push]
  have hDC : s2.heap.objs.size ≠ H2.objs.size := by rw [hC]; exact Nat.ne_of_lt (Nat.lt_succ_self _)
  have below : ∀ b o, s2.heap.get? b = some o → b ≠ H2.objs.size ∧ b ≠ s2.heap.objs.size := fun b o e => by
    have hlt : b < s2.heap.objs.size := Heap.lt_size e
    exact ⟨by rw [hC]; exact Nat.ne_of_lt (Nat.lt_succ_of_lt hlt), Nat.ne_of_lt hlt⟩
  have old : ∀ b o, s2.heap.get? b = some o → h₁.get? b = some o := fun b o e => hsb₁.extBut b o (below b o e).1 (Heap.get?_push_of_some _ (hH2 ▸ Heap.get?_push_of_some _ e))
  have fD : s2.heap.get? s2.heap.objs.size = none := get?_size _
  have fC : s2.heap.get? H2.objs.size = none := get?_none_of_le (by rw [hC]; omega)
  have nB : ∀ b, s2.heap.get? b = none → c.B.get? b = none := fun b e => by
    cases q : c.B.get? b with
    | none => rfl
    | some o => rw [R2.base b o q] at e; cases e
  have hown : ∀ b, s2.heap.get? b = none → ¬ ownAt env b := fun b e q => by obtain ⟨o, ho⟩ := F2.there q; rw [e] at ho; cases ho
  have hIo : ¬ ownAt env I := fun q => by obtain ⟨o, ho⟩ := F.there q; rw [fI] at ho; cases ho
  have R4 : ∀ tk, StRel c st1 { s2 with heap := h₁, toks := tk } := fun tk => R2.grow old
  have hIC : I ≠ H2.objs.size := by obtain ⟨o, _, e, _⟩ := it2.fields; exact (below I o e).1
  have hID : I ≠ s2.heap.objs.size := by obtain ⟨o, _, e, _⟩ := it2.fields; exact (below I o e).2
  have ocomp : ∀ b, b ≠ H2.objs.size → ¬ ownAt env b → ¬ ownAt (compEnvC scope (closOf scope env) H2.objs.size env) b := fun b hb q q' => by
    rcases q' with h | ⟨x, h⟩
    · exact hb h
    · exact q (.inr ⟨x, (closOf_lookup k1 h).2.1⟩)
  have ts : TupsStay s2.heap h₁ := fun a us ⟨k, t⟩ => ⟨k, old _ _ t⟩
  have F4 : FrameAt c env ρ st1 h₁ := F2.keep (fun b o q e => ⟨old b o e, (F2.own b q).1⟩) ts
  have nC : st1 H2.objs.size = none := R2.none_of_free fC
  refine h I src st1 _ _ _ p okI ⟨R4 _, comp_frame k1 F4 hns₁ nC (nB _ fC) (fun x a e => by
      rintro rfl; exact hown _ fC (.inr ⟨x, e⟩)), F4, x2.trans (Evo.grow old), it2.stay ts fun o e => old _ _ e, nI, nIB, fI,
    R2.none_of_free fD, nB _ fD, x2.gone fD, nC, nB _ fC, x2.gone fC, hIo, hown _ fD, hown _ fC, ocomp _ hIC hIo, ocomp _ hDC (hown _ fD), ?_⟩
  refine ⟨[], ⟨0, hsb₁.extBut _ _ hDC (Heap.get?_push_of_some _ (hH2 ▸ Heap.get?_push_size _ rfl))⟩, .nil⟩

theorem capt_none {scope : Scope} {ρ : Vars} {x : Str} (h : scope.names.lookup x = some .local) : (capt scope ρ).lookup x = none := by
  cases e : (capt scope ρ).lookup x with
  | none => rfl
  | some v =>
    obtain ⟨_, q⟩ := lookup_filter (p := fun y => scope.names.lookup y == some .free) e
    rw [h] at q; cases q

/-- what the writer of a comprehension's walk says: one clause -/
noncomputable def Comp1 (c : Cx) (n : Nat) (env : Env) (ρ : Vars) (x : Str) (ifs : List Expr) (elt iter : Expr) (scope : Scope) (st : PS) (Q : PV → PS → Prop) : Prop :=
  WPi c n env ρ iter st fun src st1 => ∃ J : Nat → List PV → PS → Prop, J 0 [] st1 ∧ (∀ i acc st', J i acc st' → src.okAt st' ∧ acc.length ≤ 2 ^ 20) ∧
    (∀ C i p acc st', src.items[i]? = some p → J i acc st' → WPts c n (compEnvC scope (closOf scope env) C env) ((x, p) :: capt scope ρ) ifs st' fun b st2 =>
      if b = true then WPe c n (compEnvC scope (closOf scope env) C env) ((x, p) :: capt scope ρ) elt st2 fun q st3 => J (i + 1) (acc ++ [q]) st3 else J (i + 1) acc st2) ∧
    (∀ acc st', J src.items.length acc st' → ∀ D, st' D = none → c.B.get? D = none → Q (.loc D) (st'.set D (.list acc)))
noncomputable def Comp2 (c : Cx) (n : Nat) (env : Env) (ρ : Vars) (x y : Str) (elt iter i1 : Expr) (scope : Scope) (st : PS) (Q : PV → PS → Prop) : Prop :=
  WPi c n env ρ iter st fun src st1 => ∃ J : Nat → List PV → PS → Prop, J 0 [] st1 ∧ (∀ i acc st', J i acc st' → src.okAt st') ∧
    (∀ C i p acc st', src.items[i]? = some p → J i acc st' → WPi c n (compEnvC scope (closOf scope env) C env) ((x, p) :: capt scope ρ) i1 st' fun src2 st2 => ∃ J2 : Nat → List PV → PS → Prop, J2 0 acc st2 ∧
      (∀ j a st3, J2 j a st3 → src2.okAt st3 ∧ a.length ≤ 2 ^ 20) ∧
      (∀ j q a st3, src2.items[j]? = some q → J2 j a st3 → WPe c n (compEnvC scope (closOf scope env) C env) ((y, q) :: (x, p) :: capt scope ρ) elt st3 fun u st4 => J2 (j + 1) (a ++ [u]) st4) ∧
      (∀ a st3, J2 src2.items.length a st3 → J (i + 1) a st3)) ∧
    (∀ acc st', J src.items.length acc st' → ∀ D, st' D = none → c.B.get? D = none → Q (.loc D) (st'.set D (.list acc)))

theorem comp1_code {elt iter : Expr} {x : Str} {px : Pos} {ifs : List Expr} {scope : Scope} {pos : Pos} {Q : PV → PS → Prop} {src : Src} {st1 : PS} {I D C : Addr} {s4 : Shared} {h0 : Heap} {Rr : Result → Shared → Prop}
    (r : Room n A) (ok : compOk scope env = true) (hx : scope.names.lookup x = some .local) (a : CompAt c env ρ scope st h0 src st1 I D C s4)
    (J : Nat → List PV → PS → Prop) (J0 : J 0 [] st1) (Jok : ∀ i acc st', J i acc st' → src.okAt st' ∧ acc.length ≤ 2 ^ 20)
    (turn : ∀ i p acc st', src.items[i]? = some p → J i acc st' → WPts c n (compEnvC scope (closOf scope env) C env) ((x, p) :: capt scope ρ) ifs st' fun b st2 =>
      if b = true then WPe c n (compEnvC scope (closOf scope env) C env) ((x, p) :: capt scope ρ) elt st2 fun q st3 => J (i + 1) (acc ++ [q]) st3 else J (i + 1) acc st2)
    (fin : ∀ acc st', J src.items.length acc st' → ∀ D, st' D = none → c.B.get? D = none → Q (.loc D) (st'.set D (.list acc)))
    (hR : ∀ s', CompEnd c env ρ st h0 Q D C s' → Rr (.ok .next) s') :
    codeAny c.M A (.compStart (.ListComp elt [⟨.Name x px, iter, ifs, 0⟩] scope pos) 0 (.ref I) (.ref D) (compEnvC scope (closOf scope env) C env)) Rr s4 := by
  simp only [compOk, Bool.and_eq_true, beq_iff_eq] at ok
  obtain ⟨⟨⟨k1, k2⟩, k3⟩, k4⟩ := ok
  have loop : codeAny c.M A (.compLoop (.ListComp elt [⟨.Name x px, iter, ifs, 0⟩] scope pos) 0 (.ref I) (.ref D) (compEnvC scope (closOf scope env) C env)) Rr s4 := by
    refine comp_loop (px := px) (cenv := compEnvC scope (closOf scope env) C env) (ρc := capt scope ρ) (ifs := ifs) J (fun Inv t k s h => loop_one Inv t k s h) (by simp [compEnvC, relabel, k2]) (lookup_relabel_local hx) (capt_none hx) r a.R a.Fc a.it a.nI a.nIB a.hIc a.pl a.nD a.nDB a.hDc J0 Jok turn fun acc st' s' R' F' p pl nD hJ => ?_
    exact hR s' (comp_end a R' F' p pl nD (fin acc st' hJ))
  exact start_one (g := ⟨.Name x px, iter, ifs, 0⟩) rfl (fun _ => rfl) (fun _ => rfl) rfl rfl rfl loop (iter_self a.it loop)
theorem comp2_code {elt iter i1 : Expr} {x y : Str} {px py : Pos} {scope : Scope} {pos : Pos} {Q : PV → PS → Prop} {src : Src} {st1 : PS} {I D C : Addr} {s4 : Shared} {h0 : Heap} {Rr : Result → Shared → Prop}
    (r : Room n A) (ok : compOk scope env = true) (hx : scope.names.lookup x = some .local) (hy : scope.names.lookup y = some .local) (hxy : (y == x) = false) (hs : ∀ C v, foldedSetIterable i1 (compEnvC scope (closOf scope env) C env) v = pure v) (a : CompAt c env ρ scope st h0 src st1 I D C s4)
    (J : Nat → List PV → PS → Prop) (J0 : J 0 [] st1) (Jok : ∀ i acc st', J i acc st' → src.okAt st')
    (turn : ∀ i p acc st', src.items[i]? = some p → J i acc st' → WPi c n (compEnvC scope (closOf scope env) C env) ((x, p) :: capt scope ρ) i1 st' fun src2 st2 => ∃ J2 : Nat → List PV → PS → Prop, J2 0 acc st2 ∧
      (∀ j a st3, J2 j a st3 → src2.okAt st3 ∧ a.length ≤ 2 ^ 20) ∧
      (∀ j q a st3, src2.items[j]? = some q → J2 j a st3 → WPe c n (compEnvC scope (closOf scope env) C env) ((y, q) :: (x, p) :: capt scope ρ) elt st3 fun u st4 => J2 (j + 1) (a ++ [u]) st4) ∧
      (∀ a st3, J2 src2.items.length a st3 → J (i + 1) a st3))
    (fin : ∀ acc st', J src.items.length acc st' → ∀ D, st' D = none → c.B.get? D = none → Q (.loc D) (st'.set D (.list acc)))
    (hR : ∀ s', CompEnd c env ρ st h0 Q D C s' → Rr (.ok .next) s') :
    codeAny c.M A (.compStart (.ListComp elt [⟨.Name x px, iter, [], 0⟩, ⟨.Name y py, i1, [], 0⟩] scope pos) 0 (.ref I) (.ref D) (compEnvC scope (closOf scope env) C env)) Rr s4 := by
  simp only [compOk, Bool.and_eq_true, beq_iff_eq] at ok
  obtain ⟨⟨⟨k1, k2⟩, k3⟩, k4⟩ := ok
  have loop : codeAny c.M A (.compLoop (.ListComp elt [⟨.Name x px, iter, [], 0⟩, ⟨.Name y py, i1, [], 0⟩] scope pos) 0 (.ref I) (.ref D) (compEnvC scope (closOf scope env) C env)) Rr s4 := by
    refine comp_loop2 (cenv := compEnvC scope (closOf scope env) C env) (ρc := capt scope ρ) J (hs C) (by simp [compEnvC, relabel, k2]) (lookup_relabel_local hx) (lookup_relabel_local hy) (capt_none hx) (capt_none hy) hxy r a.R a.Fc a.it a.nI a.nIB a.hIc a.pl a.nD a.nDB a.hDc J0 Jok turn fun acc st' s' R' F' p pl nD hJ => ?_
    exact hR s' (comp_end a R' F' p pl nD (fin acc st' hJ))
  exact start_one (g := ⟨.Name x px, iter, [], 0⟩) rfl (fun _ => rfl) (fun _ => rfl) rfl rfl rfl loop (iter_self a.it loop)

theorem e_comp1 {elt iter : Expr} {x : Str} {px : Pos} {ifs : List Expr} {scope : Scope} {pos : Pos} {Q : PV → PS → Prop} (h : Comp1 c n env ρ x ifs elt iter scope st Q) (ok : compOk scope env = true) (hx : scope.names.lookup x = some .local)
    (hs : ∀ v, foldedSetIterable iter env v = pure v) : WPe c n env ρ (.ListComp elt [⟨.Name x px, iter, ifs, 0⟩] scope pos) st Q := by
  intro A s r R F
  rw [eval_ListComp]
  refine comp_begin (use := none) (g := ⟨.Name x px, iter, ifs, 0⟩) rfl hs ok r R F h fun I src st1 s4 D C p okI a => ?_
  obtain ⟨J, J0, Jok, turn, fin⟩ := p
  exact comp1_code r ok hx a J J0 Jok (turn C) fin fun s' ce => comp_post_none ⟨_, rfl⟩ ce
theorem e_comp2 {elt iter i1 : Expr} {x y : Str} {px py : Pos} {scope : Scope} {pos : Pos} {Q : PV → PS → Prop} (h : Comp2 c n env ρ x y elt iter i1 scope st Q) (ok : compOk scope env = true) (hx : scope.names.lookup x = some .local)
    (hy : scope.names.lookup y = some .local) (hxy : (y == x) = false) (hs : ∀ v, foldedSetIterable iter env v = pure v) (hs' : ∀ C v, foldedSetIterable i1 (compEnvC scope (closOf scope env) C env) v = pure v) :
    WPe c n env ρ (.ListComp elt [⟨.Name x px, iter, [], 0⟩, ⟨.Name y py, i1, [], 0⟩] scope pos) st Q := by
  intro A s r R F
  rw [eval_ListComp]
  refine comp_begin (use := none) (g := ⟨.Name x px, iter, [], 0⟩) rfl hs ok r R F h fun I src st1 s4 D C p okI a => ?_
  obtain ⟨J, J0, Jok, turn, fin⟩ := p
  exact comp2_code r ok hx hy hxy hs' a J J0 Jok (turn C) fin fun s' ce => comp_post_none ⟨_, rfl⟩ ce
theorem x_comp1 {elt iter : Expr} {x y : Str} {px py : Pos} {ifs : List Expr} {scope : Scope} {pos spos : Pos} {Q : PF → Vars → PS → Prop} (h : Comp1 c n env ρ x ifs elt iter scope st fun p st' => Q .next ((y, p) :: ρ) st') (ok : compOk scope env = true) (hx : scope.names.lookup x = some .local)
    (hy : isOwn env y = true) (hs : ∀ v, foldedSetIterable iter env v = pure v) (hw : swapsWith (.ListComp elt [⟨.Name x px, iter, ifs, 0⟩] scope pos) (some (.Name y py)) spos.line env = pure true) :
    WPx c n env ρ (.Assign [.Name y py] (.ListComp elt [⟨.Name x px, iter, ifs, 0⟩] scope pos) spos) st Q := by
  intro A s r R F
  rw [exec_Assign_Name_used _ _ _ _ hw]
  refine wpAny_bind (wpAny_standAt (wpAny_bind ?_))
  show wpAny _ A (do let _ ← comprehension (.ListComp elt [⟨.Name x px, iter, ifs, 0⟩] scope pos) scope env _ (newList []) false (eval iter env) (some (assign (.Name y py) env))) _ _ s
  refine wpAny_bind (wp_then (P := fun _ s' => OutF c env st s.heap Q .next s') ?_ fun _ s' hq => wpAny_pure (wpAny_pure hq))
  refine comp_begin (use := some (assign (.Name y py) env)) (g := ⟨.Name x px, iter, ifs, 0⟩) rfl hs ok r R F h fun I src st1 s4 D C p okI a => ?_
  obtain ⟨J, J0, Jok, turn, fin⟩ := p
  exact comp1_code r ok hx a J J0 Jok (turn C) fin fun s' ce => comp_post_use ⟨_, rfl⟩ hy ce
theorem x_comp2 {elt iter i1 : Expr} {x y z : Str} {px py pz : Pos} {scope : Scope} {pos spos : Pos} {Q : PF → Vars → PS → Prop} (h : Comp2 c n env ρ x y elt iter i1 scope st fun p st' => Q .next ((z, p) :: ρ) st') (ok : compOk scope env = true) (hx : scope.names.lookup x = some .local)
    (hy : scope.names.lookup y = some .local) (hxy : (y == x) = false) (hz : isOwn env z = true) (hs : ∀ v, foldedSetIterable iter env v = pure v) (hs' : ∀ C v, foldedSetIterable i1 (compEnvC scope (closOf scope env) C env) v = pure v)
    (hw : swapsWith (.ListComp elt [⟨.Name x px, iter, [], 0⟩, ⟨.Name y py, i1, [], 0⟩] scope pos) (some (.Name z pz)) spos.line env = pure true) :
    WPx c n env ρ (.Assign [.Name z pz] (.ListComp elt [⟨.Name x px, iter, [], 0⟩, ⟨.Name y py, i1, [], 0⟩] scope pos) spos) st Q := by
  intro A s r R F
  rw [exec_Assign_Name_used _ _ _ _ hw]
  refine wpAny_bind (wpAny_standAt (wpAny_bind ?_))
  show wpAny _ A (do let _ ← comprehension (.ListComp elt [⟨.Name x px, iter, [], 0⟩, ⟨.Name y py, i1, [], 0⟩] scope pos) scope env _ (newList []) false (eval iter env) (some (assign (.Name z pz) env))) _ _ s
  refine wpAny_bind (wp_then (P := fun _ s' => OutF c env st s.heap Q .next s') ?_ fun _ s' hq => wpAny_pure (wpAny_pure hq))
  refine comp_begin (use := some (assign (.Name z pz) env)) (g := ⟨.Name x px, iter, [], 0⟩) rfl hs ok r R F h fun I src st1 s4 D C p okI a => ?_
  obtain ⟨J, J0, Jok, turn, fin⟩ := p
  exact comp2_code r ok hx hy hxy hs' a J J0 Jok (turn C) fin fun s' ce => comp_post_use ⟨_, rfl⟩ hz ce
end
end Mine

namespace Mine
open PySem

section
variable {c : Cx} {n : Nat} {env : Env} {ρ : Vars} {st : PS} {s : Shared} {A : Around} {E : Value → Shared → Prop} {Q : PV → PS → Prop}

-- ints
theorem o_add {a b : Int} (h : Q (.int (a + b)) st) : WP2 c n (binaryOp .Add) (.int a) (.int b) st Q := by
  intro A s v u r R rv ru
  obtain ⟨t, rfl⟩ := rv.int'
  obtain ⟨t', rfl⟩ := ru.int'
  exact PyProof.Rows.add_int ⟨_, _, R.toks _, Evo.refl _ _, .int, h⟩
theorem o_sub {a b : Int} (h : Q (.int (a - b)) st) : WP2 c n (binaryOp .Sub) (.int a) (.int b) st Q := by
  intro A s v u r R rv ru
  obtain ⟨t, rfl⟩ := rv.int'
  obtain ⟨t', rfl⟩ := ru.int'
  exact PyProof.Rows.sub_int' ⟨_, _, R.toks _, Evo.refl _ _, .int, h⟩
theorem o_mul {a b : Int} (ha : Builtin.Int.intBits a ≤ 64) (h : Q (.int (a * b)) st) : WP2 c n (binaryOp .Mult) (.int a) (.int b) st Q := by
  intro A s v u r R rv ru
  obtain ⟨t, rfl⟩ := rv.int'
  obtain ⟨t', rfl⟩ := ru.int'
  exact PyProof.Rows.mul_int ⟨_, _, R.toks _, Evo.refl _ _, .int, h⟩ (.of_left ha)
theorem o_div {a b : Int} (hb : b ≠ 0) (hs : b.natAbs < 1073741824) (h : Q (.int (a.fdiv b)) st) : WP2 c n (binaryOp .FloorDiv) (.int a) (.int b) st Q := by
  intro A s v u r R rv ru
  obtain ⟨t, rfl⟩ := rv.int'
  obtain ⟨t', rfl⟩ := ru.int'
  exact PyProof.Rows.floordiv_int hb ⟨_, _, R.toks _, Evo.refl _ _, .int, h⟩ (.inl (PyProof.noPylong_small hs))
theorem o_mod {a b : Int} (hb : b ≠ 0) (h : Q (.int (a.fmod b)) st) : WP2 c n (binaryOp .Mod) (.int a) (.int b) st Q := by
  intro A s v u r R rv ru
  obtain ⟨t, rfl⟩ := rv.int'
  obtain ⟨t', rfl⟩ := ru.int'
  exact PyProof.Rows.mod_int' hb ⟨_, _, R.toks _, Evo.refl _ _, .int, h⟩
theorem o_eq {a b : Int} (h : Q (.bool (a == b)) st) : WP2 c n (compareOp .Eq) (.int a) (.int b) st Q := by
  intro A s v u r R rv ru
  obtain ⟨t, rfl⟩ := rv.int'
  obtain ⟨t', rfl⟩ := ru.int'
  exact PyProof.Rows.eq_int ⟨_, _, R, Evo.refl _ _, .bool, h⟩
theorem o_ne {a b : Int} (h : Q (.bool (a != b)) st) : WP2 c n (compareOp .NotEq) (.int a) (.int b) st Q := by
  intro A s v u r R rv ru
  obtain ⟨t, rfl⟩ := rv.int'
  obtain ⟨t', rfl⟩ := ru.int'
  exact PyProof.Rows.ne_int ⟨_, _, R, Evo.refl _ _, .bool, h⟩
theorem o_lt {a b : Int} (h : Q (.bool (decide (a < b))) st) : WP2 c n (compareOp .Lt) (.int a) (.int b) st Q := by
  intro A s v u r R rv ru
  obtain ⟨t, rfl⟩ := rv.int'
  obtain ⟨t', rfl⟩ := ru.int'
  exact PyProof.Rows.lt_int ⟨_, _, R, Evo.refl _ _, .bool, h⟩
theorem o_gt {a b : Int} (h : Q (.bool (decide (b < a))) st) : WP2 c n (compareOp .Gt) (.int a) (.int b) st Q := by
  intro A s v u r R rv ru
  obtain ⟨t, rfl⟩ := rv.int'
  obtain ⟨t', rfl⟩ := ru.int'
  exact PyProof.Rows.gt_int ⟨_, _, R, Evo.refl _ _, .bool, h⟩
theorem o_le {a b : Int} (h : Q (.bool (decide (a ≤ b))) st) : WP2 c n (compareOp .LtE) (.int a) (.int b) st Q := by
  intro A s v u r R rv ru
  obtain ⟨t, rfl⟩ := rv.int'
  obtain ⟨t', rfl⟩ := ru.int'
  exact PyProof.Rows.le_int ⟨_, _, R, Evo.refl _ _, .bool, h⟩
theorem o_eqs {a b : Str} (h : Q (.bool (a == b)) st) : WP2 c n (compareOp .Eq) (.str a) (.str b) st Q := by
  intro A s v u r R rv ru
  obtain ⟨t, rfl⟩ := rv.str'
  obtain ⟨t', rfl⟩ := ru.str'
  exact PyProof.Rows.eq_str ⟨_, _, R, Evo.refl _ _, .bool, h⟩
theorem o_eqb {a b : Bool} (h : Q (.bool (a == b)) st) : WP2 c n (compareOp .Eq) (.bool a) (.bool b) st Q := by
  intro A s v u r R rv ru
  obtain rfl := rv.bool'
  obtain rfl := ru.bool'
  exact PyProof.Rows.eq_bool ⟨_, _, R, Evo.refl _ _, .bool, h⟩
theorem o_adds {a b : Str} (hz : a.length + b.length ≤ 2 ^ 20) (h : Q (.str (a ++ b)) st) : WP2 c n (binaryOp .Add) (.str a) (.str b) st Q := by
  intro A s v u r R rv ru
  obtain ⟨t, rfl⟩ := rv.str'
  obtain ⟨t', rfl⟩ := ru.str'
  exact PyProof.Rows.add_str (fun _ _ => ⟨_, _, R.toks _, Evo.refl _ _, .str, h⟩) (by rw [sizeLine_eq]; omega)
theorem e_neg {e : Expr} {pos : Pos} (h : WPe c n env ρ e st fun p st1 => ∃ i, p = .int i ∧ Q (.int (-i)) st1) : WPe c n env ρ (.UnaryOp .USub e pos) st Q := by
  intro A s r R F
  show wpAny _ _ (do let v ← eval e env; standAt pos; holding [v] (unaryOp .USub v)) _ _ _
  refine wpAny_bind (wp_then (h A s r R F) fun v s1 o => wpAny_bind (wpAny_standAt (wpAny_holding ?_)))
  obtain ⟨p, st1, R1, x1, r1, i, rfl, q⟩ := o
  obtain ⟨t, rfl⟩ := r1.int'
  exact PyProof.Rows.neg_int ⟨_, _, R1.toks _, x1, .int, q⟩
end

-- plain data of nested tuples of ints
mutual
noncomputable def toPD : PV → PyData
  | .none => .none
  | .bool b => .bool b
  | .int i => .int i
  | .str x => .str x
  | .tup l => .tuple (toPDs l)
  | .loc _ => .none
noncomputable def toPDs : List PV → List PyData
  | [] => []
  | p :: ps => toPD p :: toPDs ps
end
noncomputable def okD : Nat → PV → Bool
  | _, .int _ => true
  | n + 1, .tup l => l.all (okD n)
  | _, _ => false
theorem okD_up : ∀ {n m : Nat} {p : PV}, okD n p = true → n ≤ m → okD m p = true
  | n, m, .int i, _, _ => by cases m <;> rfl
  | 0, m, .tup l, h, _ => by simp [okD] at h
  | n + 1, 0, .tup l, h, k => by omega
  | n + 1, m + 1, .tup l, h, k => by
    simp only [okD, List.all_eq_true] at h ⊢
    exact fun x hx => okD_up (h x hx) (by omega)
  | n, m, .none, h, _ => by cases n <;> simp [okD] at h
  | n, m, .bool _, h, _ => by cases n <;> simp [okD] at h
  | n, m, .str _, h, _ => by cases n <;> simp [okD] at h
  | n, m, .loc _, h, _ => by cases n <;> simp [okD] at h

mutual
theorem reads_of {h : Heap} : ∀ (n : Nat) (p : PV) (v : Value), Rep h p v → okD n p = true → ∃ as, Reads h v (toPD p) as
  | n, .int i, v, r, _ => by obtain ⟨t, rfl⟩ := r.int'; exact ⟨_, Reads.int i t⟩
  | 0, .tup l, v, r, k => by simp [okD] at k
  | n + 1, .tup l, v, r, k => by
    obtain ⟨a, vs, rfl, ⟨m, t⟩, rl⟩ := r.tup'
    obtain ⟨as, q⟩ := readsL_of n l vs rl (by simpa [okD] using k)
    rw [toPD]
    exact ⟨as, Reads.tuple t rfl rfl (by simpa using q)⟩
  | n, .none, v, r, k => by cases n <;> simp [okD] at k
  | n, .bool _, v, r, k => by cases n <;> simp [okD] at k
  | n, .str _, v, r, k => by cases n <;> simp [okD] at k
  | n, .loc _, v, r, k => by cases n <;> simp [okD] at k
theorem readsL_of {h : Heap} : ∀ (n : Nat) (l : List PV) (vs : List Value), RepL h l vs → (∀ p ∈ l, okD n p = true) → ∃ as, ReadsAll h vs (toPDs l) as
  | n, [], vs, r, _ => by rw [r.nil_inv, toPDs]; exact ⟨_, ReadsAll.nil⟩
  | n, p :: ps, vs, r, k => by
    obtain ⟨v, vs', rfl, a, r'⟩ := r.cons_inv
    obtain ⟨as, q⟩ := reads_of n p v a (k p (.head _))
    obtain ⟨bs, q'⟩ := readsL_of n ps vs' r' fun x hx => k x (.tail _ hx)
    rw [toPDs]
    exact ⟨_, ReadsAll.cons q q'⟩
end
theorem lay_of : ∀ (n : Nat) (p : PV), okD n p = true → (toPD p).canLay0 = true ∧ (toPD p).depth ≤ n := by
  have all : ∀ (n : Nat), (∀ p, okD n p = true → (toPD p).canLay0 = true ∧ (toPD p).depth ≤ n) → ∀ ps : List PV, (∀ p ∈ ps, okD n p = true) → PyData.canLayAll0 (toPDs ps) = true ∧ PyData.depthAll (toPDs ps) ≤ n := by
    intro n ih ps
    induction ps with
    | nil => intro _; simp [toPDs, PyData.canLayAll0, PyData.depthAll]
    | cons p ps hi =>
      intro h
      have h1 := ih p (h p (.head _))
      have h2 := hi fun e he => h e (.tail _ he)
      simp only [toPDs, PyData.canLayAll0, PyData.depthAll, h1.1, h2.1, Bool.and_self, true_and]
      have a1 := h1.2
      have a2 := h2.2
      omega
  intro n
  induction n with
  | zero => intro p h; cases p <;> simp_all [okD, toPD, PyData.canLay0, PyData.depth]
  | succ n ih =>
    intro p h
    cases p with
    | int i => simp [toPD, PyData.canLay0, PyData.depth]
    | tup l =>
      have q := all n ih l (by simpa [okD] using h)
      have q2 := q.2
      simp only [toPD, PyData.canLay0, PyData.depth, q.1, true_and]
      omega
    | _ => simp [okD] at h
theorem layL_of {n : Nat} {ps : List PV} (h : ∀ p ∈ ps, okD n p = true) : PyData.canLayAll0 (toPDs ps) = true ∧ PyData.depthAll (toPDs ps) ≤ n := by
  have l := lay_of (n + 1) (.tup ps) (by simpa [okD] using h)
  rw [toPD] at l
  simp only [PyData.canLay0, PyData.depth] at l
  exact ⟨l.1, by omega⟩
mutual
theorem eqv_of : ∀ (n k : Nat) (p q : PV), okD n p = true → okD k q = true → PyData.eqv (toPD p) (toPD q) = PV.beq p q
  | n, k, .int i, .int j, _, _ => by simp [toPD, PyData.eqv, PV.beq]
  | n, 0, .int i, .tup m, _, h => by simp [okD] at h
  | n, k + 1, .int i, .tup m, _, _ => by simp [toPD, PyData.eqv, PV.beq]
  | 0, k, .tup l, q, h, _ => by simp [okD] at h
  | n + 1, k, .tup l, .int j, _, _ => by simp [toPD, PyData.eqv, PV.beq]
  | n + 1, 0, .tup l, .tup m, _, h => by simp [okD] at h
  | n + 1, k + 1, .tup l, .tup m, h, h' => by
    simp only [toPD, PyData.eqv, PV.beq]
    exact eqvs_of n k l m (by simpa [okD] using h) (by simpa [okD] using h')
  | n, k, .none, q, h, _ => by cases n <;> simp [okD] at h
  | n, k, .bool _, q, h, _ => by cases n <;> simp [okD] at h
  | n, k, .str _, q, h, _ => by cases n <;> simp [okD] at h
  | n, k, .loc _, q, h, _ => by cases n <;> simp [okD] at h
  | n, k, p, .none, _, h => by cases k <;> simp [okD] at h
  | n, k, p, .bool _, _, h => by cases k <;> simp [okD] at h
  | n, k, p, .str _, _, h => by cases k <;> simp [okD] at h
  | n, k, p, .loc _, _, h => by cases k <;> simp [okD] at h
theorem eqvs_of : ∀ (n k : Nat) (ps qs : List PV), (∀ p ∈ ps, okD n p = true) → (∀ p ∈ qs, okD k p = true) → PyData.eqvAll (toPDs ps) (toPDs qs) = PV.beqs ps qs
  | n, k, [], [], _, _ => by simp [toPDs, PyData.eqvAll, PV.beqs]
  | n, k, [], q :: qs, _, _ => by simp [toPDs, PyData.eqvAll, PV.beqs]
  | n, k, p :: ps, [], _, _ => by simp [toPDs, PyData.eqvAll, PV.beqs]
  | n, k, p :: ps, q :: qs, h, h' => by
    simp only [toPDs, PyData.eqvAll, PV.beqs]
    rw [eqv_of n k p q (h p (.head _)) (h' q (.head _)), eqvs_of n k ps qs (fun x hx => h x (.tail _ hx)) fun x hx => h' x (.tail _ hx)]
end

section
variable {c : Cx} {n : Nat} {env : Env} {ρ : Vars} {st : PS} {s : Shared} {A : Around} {E : Value → Shared → Prop} {Q : PV → PS → Prop}
theorem shaped_of {k : Nat} {p : PV} (hk : k ≤ 60) (h : okD k p = true) : SeqAt.shaped (toPD p) = true := by
  have l := lay_of k p h
  unfold SeqAt.shaped
  rw [l.1, Bool.true_and]
  exact decide_eq_true (by have := l.2; omega)
theorem Room.u64 {n : Nat} {A : Around} (r : Room n A) : A.units + 64 < cLine := by show A.units + 64 < 9900; have := r.units; omega
theorem o_eqd {p q : PV} (hp : okD 8 p = true) (hq : okD 8 q = true) (h : Q (.bool (PV.beq p q)) st) : WP2 c n (compareOp .Eq) p q st Q := by
  intro A s v u r R rv ru
  obtain ⟨as, ra⟩ := reads_of 8 p v rv hp
  obtain ⟨bs, rb⟩ := reads_of 8 q u ru hq
  exact SeqAt.compareEq_shaped ra rb (shaped_of (by decide) hp) (shaped_of (by decide) hq) r.u64 ⟨_, _, R, Evo.refl _ _, by rw [eqv_of 8 8 p q hp hq]; exact .bool, h⟩
theorem o_ned {p q : PV} (hp : okD 8 p = true) (hq : okD 8 q = true) (h : Q (.bool (!PV.beq p q)) st) : WP2 c n (compareOp .NotEq) p q st Q := by
  intro A s v u r R rv ru
  obtain ⟨as, ra⟩ := reads_of 8 p v rv hp
  obtain ⟨bs, rb⟩ := reads_of 8 q u ru hq
  exact SeqAt.compareNe_shaped ra rb (shaped_of (by decide) hp) (shaped_of (by decide) hq) r.u64 ⟨_, _, R, Evo.refl _ _, by rw [eqv_of 8 8 p q hp hq]; exact .bool, h⟩
theorem reads_list {a : Addr} {l : List PV} (R : StRel c st s) (ha : st a = some (.list l)) (h : ∀ p ∈ l, okD 8 p = true) : (∃ as, Reads s.heap (.ref a) (.list (toPDs l)) as) ∧ SeqAt.shaped (.list (toPDs l)) = true := by
  obtain ⟨vs, ⟨k, e⟩, rl⟩ := R.rep a _ ha
  obtain ⟨as, q⟩ := readsL_of 8 l vs rl h
  have l := layL_of h
  refine ⟨⟨_, Reads.list e rfl rfl (by simpa using q)⟩, ?_⟩
  unfold SeqAt.shaped
  simp only [PyData.canLay0, PyData.depth, l.1, Bool.true_and]
  exact decide_eq_true (by have := l.2; omega)
theorem o_eql {a b : Addr} {l m : List PV} (ha : st a = some (.list l)) (hb : st b = some (.list m)) (hp : ∀ p ∈ l, okD 8 p = true) (hq : ∀ p ∈ m, okD 8 p = true) (h : Q (.bool (PV.beqs l m)) st) : WP2 c n (compareOp .Eq) (.loc a) (.loc b) st Q := by
  intro A s v u r R rv ru
  obtain rfl := rv.loc'
  obtain rfl := ru.loc'
  obtain ⟨⟨as, ra⟩, sa⟩ := reads_list R ha hp
  obtain ⟨⟨bs, rb⟩, sb⟩ := reads_list R hb hq
  exact SeqAt.compareEq_shaped ra rb sa sb r.u64 ⟨_, _, R, Evo.refl _ _, by simp only [PyData.eqv]; rw [eqvs_of 8 8 l m hp hq]; exact .bool, h⟩
theorem o_nel {a b : Addr} {l m : List PV} (ha : st a = some (.list l)) (hb : st b = some (.list m)) (hp : ∀ p ∈ l, okD 8 p = true) (hq : ∀ p ∈ m, okD 8 p = true) (h : Q (.bool (!PV.beqs l m)) st) : WP2 c n (compareOp .NotEq) (.loc a) (.loc b) st Q := by
  intro A s v u r R rv ru
  obtain rfl := rv.loc'
  obtain rfl := ru.loc'
  obtain ⟨⟨as, ra⟩, sa⟩ := reads_list R ha hp
  obtain ⟨⟨bs, rb⟩, sb⟩ := reads_list R hb hq
  exact SeqAt.compareNe_shaped ra rb sa sb r.u64 ⟨_, _, R, Evo.refl _ _, by simp only [PyData.eqv]; rw [eqvs_of 8 8 l m hp hq]; exact .bool, h⟩
theorem eqBool_of {p q : PV} {v u : Value} {P : Bool → Shared → Prop} {k : Nat} (r : Room k A) (rv : Rep s.heap p v) (ru : Rep s.heap q u) (hp : okD 8 p = true) (hq : okD 8 q = true) (h : P (PV.beq p q) s) : wpAny c.M A (eqBool v u) P E s := by
  obtain ⟨as, ra⟩ := reads_of 8 p v rv hp
  obtain ⟨bs, rb⟩ := reads_of 8 q u ru hq
  have l1 := lay_of 8 p hp
  have l2 := lay_of 8 q hq
  refine SeqAt.eqAt_reads _ _ A s v u as bs ra rb l1.1 l2.1 ?_ c.prog c.w E P (by rw [eqv_of 8 8 p q hp hq]; exact h)
  have := r.u64
  have h2 : min (toPD p).depth (toPD q).depth ≤ (toPD p).depth := Nat.min_le_left _ _
  have := l1.2
  omega
end
end Mine

namespace Mine
open PySem

noncomputable def lexLt {α : Type} [DecidableEq α] (lt : α → α → Bool) : List α → List α → Bool
  | [], [] => false
  | [], _ :: _ => true
  | _ :: _, [] => false
  | a :: as, b :: bs => if a = b then lexLt lt as bs else lt a b

/-- an order of plain values that the machine's < tells, at n levels of room -/
structure Ltd (c : Cx) {α : Type} [DecidableEq α] (n : Nat) (enc : α → PV) (lt : α → α → Bool) (d : Nat) : Prop where
  inj : ∀ a b, PV.beq (enc a) (enc b) = decide (a = b)
  ok : ∀ a, okD d (enc a) = true
  ltR : ∀ A s v u a b P E, Room n A → Rep s.heap (enc a) v → Rep s.heap (enc b) u → P (.bool (lt a b)) s → wpAny c.M A (richCompare .Lt v u) P E s
  one : ∀ A s v u a b P E, Room n A → Rep s.heap (enc a) v → Rep s.heap (enc b) u → P (lt a b) s → wpAny c.M A (PyProof.Rows.oneLt' true v u) P E s
theorem Ltd.any {c : Cx} {α : Type} [DecidableEq α] {n : Nat} {enc : α → PV} {lt : α → α → Bool} {d : Nat} (L : Ltd c n enc lt d) (fl : Bool) {A : Around} {s : Shared} {v u : Value} {a b : α} {P : Bool → Shared → Prop} {E : Value → Shared → Prop}
    (r : Room n A) (rv : Rep s.heap (enc a) v) (ru : Rep s.heap (enc b) u) (h : P (lt a b) s) : wpAny c.M A (PyProof.Rows.oneLt' fl v u) P E s := by
  cases fl with
  | true => exact L.one A s v u a b P E r rv ru h
  | false =>
    rw [PyProof.Rows.oneLt'_eq]
    simp only [Bool.false_eq_true, if_false]
    exact wpAny_bind (L.ltR A s v u a b _ E r rv ru (wpAny_truthy_bool h))

section
variable {c : Cx} {n : Nat} {s : Shared} {A : Around} {E : Value → Shared → Prop}
theorem beqs_map {α : Type} [DecidableEq α] {enc : α → PV} (h : ∀ a b, PV.beq (enc a) (enc b) = decide (a = b)) : ∀ as bs : List α, PV.beqs (as.map enc) (bs.map enc) = decide (as = bs)
  | [], [] => by simp [PV.beqs]
  | [], b :: bs => by simp [PV.beqs]
  | a :: as, [] => by simp [PV.beqs]
  | a :: as, b :: bs => by
    simp only [List.map_cons, PV.beqs, h a b, beqs_map h as bs, List.cons.injEq]
    by_cases h1 : a = b <;> by_cases h2 : as = bs <;> simp [h1, h2]

theorem ltd_int : Ltd c n PV.int (fun a b : Int => decide (a < b)) 0 where
  inj a b := by simp [PV.beq]; rfl
  ok a := rfl
  ltR A s v u a b P E r rv ru h := by
    obtain ⟨t, rfl⟩ := rv.int'
    obtain ⟨t', rfl⟩ := ru.int'
    exact PyProof.Rows.lt_int (a := a) (b := b) (t := t) (u := t') h
  one A s v u a b P E r rv ru h := by
    obtain ⟨t, rfl⟩ := rv.int'
    obtain ⟨t', rfl⟩ := ru.int'
    exact PyProof.Rows.oneLt_int h

theorem tuple_lt_tree {α : Type} [DecidableEq α] {enc : α → PV} {lt : α → α → Bool} {d : Nat} (L : Ltd c n enc lt d) (hd : d ≤ 7) {as bs : List α} {a b : Addr} {vs us : List Value} {P : Fin → Shared → Prop} (r : Room n A)
    (ta : TupAt s.heap a vs) (tb : TupAt s.heap b us) (ra : RepL s.heap (as.map enc) vs) (rb : RepL s.heap (bs.map enc) us) (h : P (.done (.ret (.bool (lexLt lt as bs)))) s) :
    wpAny c.M A (Builtin.«tuple.__lt__» ⟨[.ref a, .ref b], []⟩) P E s := by
  obtain ⟨na, ta⟩ := ta
  obtain ⟨nb, tb⟩ := tb
  show wpAny _ _ (isInstance (.ref b) (.type "tuple") >>= _) _ _ s
  refine wpAny_bind (wpAny_isInstance ⟨_, tb, rfl⟩ isSubtype_tuple_tuple ?_)
  simp only [Bool.not_true, Bool.false_eq_true, if_false]
  refine wpAny_bind (wpAny_tupleItemsOf ta rfl ?_)
  refine wpAny_bind (wpAny_tupleItemsOf tb rfl ?_)
  refine wpAny_bind ?_
  refine wpAny_forIn_list _
    (fun rest r s' => r.1 = none ∧ s' = s ∧ ∃ as' bs' xs' ys', rest = List.zip xs' ys' ∧ RepL s.heap (as'.map enc) xs' ∧ RepL s.heap (bs'.map enc) ys' ∧ lexLt lt as' bs' = lexLt lt as bs ∧ decide (xs'.length < ys'.length) = decide (vs.length < us.length))
    _ ?_ ?_ _ _ ⟨rfl, rfl, as, bs, vs, us, by simp, ra, rb, rfl, rfl⟩
  · rintro ⟨u, v⟩ rest q s' ⟨hq, rfl, as', bs', xs', ys', hz, hx, hy, hl, hs⟩
    cases as' with
    | nil => rw [hx.nil_inv] at hz; simp at hz
    | cons a1 as'' =>
      obtain ⟨x1, xs'', rfl, rx, hx'⟩ := hx.cons_inv
      cases bs' with
      | nil => rw [hy.nil_inv] at hz; simp at hz
      | cons b1 bs'' =>
        obtain ⟨y1, ys'', rfl, ry, hy'⟩ := hy.cons_inv
        simp only [List.zip_cons_cons, List.cons.injEq, Prod.mk.injEq] at hz
        obtain ⟨⟨rfl, rfl⟩, rfl⟩ := hz
        refine wpAny_bind (eqBool_of r rx ry (okD_up (L.ok a1) (by omega)) (okD_up (L.ok b1) (by omega)) ?_)
        rw [L.inj]
        by_cases hk : a1 = b1
        · subst hk
          rw [decide_eq_true rfl]
          simp only [Bool.not_true, Bool.false_eq_true, if_false]
          refine wpAny_pure ⟨rfl, rfl, as'', bs'', xs'', ys'', rfl, hx', hy', ?_, ?_⟩
          · rw [← hl]; simp [lexLt]
          · rw [← hs]; simp
        · rw [decide_eq_false hk]
          simp only [Bool.not_false, if_true]
          refine wpAny_bind (wpAny_rule (wpAny_bind (L.ltR _ _ _ _ a1 b1 _ _ r rx ry ?_)))
          refine wpAny_bind (wpAny_pure (wpAny_pure ?_))
          have e : lexLt lt as bs = lt a1 b1 := by rw [← hl]; simp [lexLt, hk]
          rw [e] at h
          exact wpAny_pure h
  · rintro ⟨q1, q2⟩ s' ⟨hq, rfl, as', bs', xs', ys', hz, hx, hy, hl, hs⟩
    simp only at hq
    subst hq
    have e : lexLt lt as bs = decide (vs.length < us.length) := by
      rw [← hl, ← hs]
      cases as' with
      | nil =>
        rw [hx.nil_inv]
        cases bs' with
        | nil => rw [hy.nil_inv]; simp [lexLt]
        | cons b1 bs'' => obtain ⟨y1, ys'', rfl, _⟩ := hy.cons_inv; simp [lexLt]
      | cons a1 as'' =>
        obtain ⟨x1, xs'', rfl, _⟩ := hx.cons_inv
        cases bs' with
        | nil => rw [hy.nil_inv]; simp [lexLt]
        | cons b1 bs'' => obtain ⟨y1, ys'', rfl, _⟩ := hy.cons_inv; simp at hz
    rw [e] at h
    show wpAny _ _ (ret (Builtin.Tuple.tupleCompareSizes .Lt (List.toArray vs).size (List.toArray us).size)) _ _ _
    exact wpAny_pure (by simpa [Builtin.Tuple.tupleCompareSizes] using h)

theorem ltd_tup {α : Type} [DecidableEq α] {enc : α → PV} {lt : α → α → Bool} {d : Nat} (L : Ltd c n enc lt d) (hd : d ≤ 7) : Ltd c (n + 1) (fun l : List α => PV.tup (l.map enc)) (lexLt lt) (d + 1) where
  inj a b := by simp only [PV.beq]; exact beqs_map L.inj a b
  ok a := by simp only [okD, List.all_map, List.all_eq_true]; exact fun x _ => L.ok x
  ltR A s v u a b P E r rv ru h := by
    obtain ⟨x, vs, rfl, ta, ra⟩ := rv.tup'
    obtain ⟨y, us, rfl, tb, rb⟩ := ru.tup'
    obtain ⟨na, ha⟩ := id ta
    obtain ⟨nb, hb⟩ := id tb
    refine wpAny_richCompare_same_room (op := .Lt) (T := "tuple") ⟨_, ha, rfl⟩ ⟨_, hb, rfl⟩ F.slot_tuple_lt ?_ r.u
    exact wpAny_call_entry F.slot_tuple_lt ⟨_, ha, rfl⟩ F.entry_tuple_lt (tuple_lt_tree L hd r.in1 ta tb ra rb ⟨_, rfl, (by simp), h⟩) (F.args_tuple_lt_2 _ _)
  one A s v u a b P E r rv ru h := by
    obtain ⟨x, vs, rfl, ta, ra⟩ := rv.tup'
    obtain ⟨y, us, rfl, tb, rb⟩ := ru.tup'
    obtain ⟨na, ha⟩ := id ta
    obtain ⟨nb, hb⟩ := id tb
    rw [PyProof.Rows.oneLt'_eq]
    simp only [if_true]
    refine wpAny_bind (wpAny_cRoomFor r.u ?_)
    refine wpAny_bind (wpAny_callSpecialIfBound?_slot (T := "tuple") (id := "tuple.__lt__") ⟨_, ha, rfl⟩ F.slot_tuple_lt ?_)
    exact wpAny_call_entry F.slot_tuple_lt ⟨_, ha, rfl⟩ F.entry_tuple_lt (tuple_lt_tree L hd r.in1 ta tb ra rb ⟨_, rfl, wpAny_truthy_bool h⟩) (F.args_tuple_lt_2 _ _)
end
end Mine

namespace Mine
open PySem PySem.W PyProof.Rows

/-- a tree of questions, run by f: it asks within n, and what it gives -/
noncomputable def Sp (n : Nat) (f : Nat → Nat → Bool) {α : Type} : KasT α → (α → Prop) → Prop
  | .ret a, Post => Post a
  | .ask i j k, Post => i < n ∧ j < n ∧ Sp n f (k (f i j)) Post
theorem Sp.mono {n : Nat} {f : Nat → Nat → Bool} {α : Type} {P P' : α → Prop} (k : ∀ a, P a → P' a) : ∀ {t : KasT α}, Sp n f t P → Sp n f t P'
  | .ret a, h => k a h
  | .ask i j q, h => ⟨h.1, h.2.1, Sp.mono k h.2.2⟩
theorem Sp.bind {n : Nat} {f : Nat → Nat → Bool} {α β : Type} {g : α → KasT β} {P : β → Prop} : ∀ {t : KasT α}, Sp n f t (fun a => Sp n f (g a) P) → Sp n f (t.bind g) P
  | .ret a, h => h
  | .ask i j q, h => ⟨h.1, h.2.1, Sp.bind h.2.2⟩
theorem Sp.wp {n : Nat} {f : Nat → Nat → Bool} {α : Type} {P : α → Prop} {cmp : Nat → Nat → (Bool → Shared → Prop) → Shared → Prop} {Q : α → Shared → Prop} {s : Shared}
    (hc : ∀ i j, i < n → j < n → ∀ C : Bool → Shared → Prop, C (f i j) s → cmp i j C s) (hq : ∀ a, P a → Q a s) : ∀ {t : KasT α}, Sp n f t P → t.kasWp cmp Q s
  | .ret a, h => hq a h
  | .ask i j q, h => hc i j h.1 h.2.1 _ (Sp.wp hc hq h.2.2)

section
variable {n : Nat} {r : Nat → Nat}
noncomputable abbrev byR (r : Nat → Nat) (i j : Nat) : Bool := decide (r i < r j)
noncomputable abbrev gk (r : Nat → Nat) (p : Array Nat) (k : Nat) : Nat := r (p.getD k 0)
structure V (n : Nat) (p : Array Nat) : Prop where
  perm : p.Perm (List.range n).toArray
theorem V.size {p : Array Nat} (v : V n p) : p.size = n := by have := v.perm.size_eq; simpa using this
theorem V.lt {p : Array Nat} (v : V n p) {k : Nat} (h : k < n) : p.getD k 0 < n := by
  have hs : k < p.size := by rw [v.size]; exact h
  have e : p.getD k 0 = p[k] := by simp [Array.getD, hs]
  rw [e]
  have hm : p[k] ∈ (List.range n).toArray := v.perm.mem_iff.mp (Array.getElem_mem hs)
  simpa using hm
noncomputable def Inc (r : Nat → Nat) (p : Array Nat) (m : Nat) : Prop := ∀ i j, i ≤ j → j < m → gk r p i ≤ gk r p j
noncomputable def Dec (r : Nat → Nat) (p : Array Nat) (m : Nat) : Prop := ∀ i j, i ≤ j → j < m → gk r p j ≤ gk r p i
theorem Inc.step {p : Array Nat} {m : Nat} (h : Inc r p m) (h1 : 1 ≤ m) (hn : gk r p (m - 1) ≤ gk r p m) : Inc r p (m + 1) := by
  intro i j hij hj
  by_cases hjm : j = m
  · subst hjm
    by_cases hi : i = j
    · subst hi; exact Nat.le_refl _
    · exact Nat.le_trans (h i (j - 1) (by omega) (by omega)) hn
  · exact h i j hij (by omega)
theorem Dec.step {p : Array Nat} {m : Nat} (h : Dec r p m) (h1 : 1 ≤ m) (hn : gk r p m ≤ gk r p (m - 1)) : Dec r p (m + 1) := by
  intro i j hij hj
  by_cases hjm : j = m
  · subst hjm
    by_cases hi : i = j
    · subst hi; exact Nat.le_refl _
    · exact Nat.le_trans hn (h i (j - 1) (by omega) (by omega))
  · exact h i j hij (by omega)

theorem sp_asc {p : Array Nat} (v : V n p) : ∀ (f m : Nat), 1 ≤ m → m + f = n → Inc r p m → Sp n (byR r) (kas_asc p f m) fun m' => m ≤ m' ∧ m' ≤ n ∧ Inc r p m' ∧ (m' = n ∨ gk r p m' < gk r p (m' - 1))
  | 0, m, h1, hf, hi => ⟨Nat.le_refl _, by omega, hi, .inl (by omega)⟩
  | f + 1, m, h1, hf, hi => by
    refine ⟨v.lt (by omega), v.lt (by omega), ?_⟩
    by_cases hc : gk r p m < gk r p (m - 1)
    · rw [show byR r (p.getD m 0) (p.getD (m - 1) 0) = true from decide_eq_true hc]; (dsimp only); rw [if_pos rfl]
      exact ⟨Nat.le_refl _, by omega, hi, .inr hc⟩
    · rw [show byR r (p.getD m 0) (p.getD (m - 1) 0) = false from decide_eq_false hc]; (dsimp only); rw [if_neg Bool.false_ne_true]
      exact (sp_asc v f (m + 1) (by omega) (by omega) (hi.step h1 (by omega))).mono fun a ha => ⟨by omega, ha.2⟩

theorem rev_get {p : Array Nat} {i j : Nat} (hj : j ≤ p.size) (k : Nat) : gk r (kas_rev p i j) k = if i ≤ k ∧ k < j then gk r p (i + j - 1 - k) else gk r p k := by
  have e := getElem?_mirror_all (xs := p) (i := i) hj k
  unfold gk kas_rev
  simp only [Array.getD_eq_getD_getElem?]
  rw [e]
  split <;> rfl
theorem rev_v {p : Array Nat} (v : V n p) (i j : Nat) : V n (kas_rev p i j) := ⟨(mirror_perm _ _ _ _).trans v.perm⟩
theorem rev_same {p : Array Nat} {i j : Nat} (hj : j ≤ p.size) (he : ∀ k, i ≤ k → k < j → gk r p k = gk r p (j - 1)) (k : Nat) : gk r (kas_rev p i j) k = gk r p k := by
  rw [rev_get hj]
  split
  · rename_i h; rw [he _ (by omega) (by omega), he k h.1 h.2]
  · rfl
theorem Dec.congr {p p' : Array Nat} {m : Nat} (h : Dec r p m) (e : ∀ k, gk r p' k = gk r p k) : Dec r p' m := fun i j a b => by rw [e, e]; exact h i j a b

theorem sp_desc : ∀ (f : Nat) (p : Array Nat) (m q : Nat), V n p → 1 ≤ m → q + 1 ≤ m → m + f = n → Dec r p m → (∀ k, m - (q + 1) ≤ k → k < m → gk r p k = gk r p (m - 1)) →
    Sp n (byR r) (kas_desc f p m q) fun x => V n x.1 ∧ m ≤ x.2.1 ∧ x.2.1 ≤ n ∧ x.2.2 + 1 ≤ x.2.1 ∧ Dec r x.1 x.2.1 ∧ ∀ k, x.2.1 - (x.2.2 + 1) ≤ k → k < x.2.1 → gk r x.1 k = gk r x.1 (x.2.1 - 1)
  | 0, p, m, q, v, h1, hq, hf, hd, he => ⟨v, Nat.le_refl _, by show m ≤ n; omega, hq, hd, he⟩
  | f + 1, p, m, q, v, h1, hq, hf, hd, he => by
    refine ⟨v.lt (by omega), v.lt (by omega), ?_⟩
    by_cases hc : gk r p m < gk r p (m - 1)
    · rw [show byR r (p.getD m 0) (p.getD (m - 1) 0) = true from decide_eq_true hc]; (dsimp only); rw [if_pos rfl]
      by_cases hq0 : q > 0
      · rw [if_pos hq0]
        have same := rev_same (r := r) (p := p) (i := m - (q + 1)) (j := m) (by rw [v.size]; omega) he
        refine (sp_desc f (kas_rev p (m - (q + 1)) m) (m + 1) 0 (rev_v v _ _) (by omega) (by omega) (by omega) ((hd.congr same).step h1 ?_) ?_).mono fun a ha => ⟨ha.1, by omega, ha.2.2⟩
        · rw [same, same]; omega
        · intro k a b; have : k = m := by omega
          subst this; simp
      · rw [if_neg hq0]
        refine (sp_desc f p (m + 1) 0 v (by omega) (by omega) (by omega) (hd.step h1 (by omega)) ?_).mono fun a ha => ⟨ha.1, by omega, ha.2.2⟩
        intro k a b; have : k = m := by omega
        subst this; simp
    · rw [show byR r (p.getD m 0) (p.getD (m - 1) 0) = false from decide_eq_false hc]; (dsimp only); rw [if_neg Bool.false_ne_true]
      refine ⟨v.lt (by omega), v.lt (by omega), ?_⟩
      by_cases hc' : gk r p (m - 1) < gk r p m
      · rw [show byR r (p.getD (m - 1) 0) (p.getD m 0) = true from decide_eq_true hc']; (dsimp only); rw [if_pos rfl]
        exact ⟨v, Nat.le_refl _, by show m ≤ n; omega, hq, hd, he⟩
      · rw [show byR r (p.getD (m - 1) 0) (p.getD m 0) = false from decide_eq_false hc']; (dsimp only); rw [if_neg Bool.false_ne_true]
        have eqm : gk r p m = gk r p (m - 1) := by omega
        refine (sp_desc f p (m + 1) (q + 1) v (by omega) (by omega) (by omega) (hd.step h1 (by omega)) ?_).mono fun a ha => ⟨ha.1, by omega, ha.2.2⟩
        intro k a b
        simp only [Nat.add_sub_cancel]
        by_cases hk : k = m
        · subst hk; rfl
        · rw [he k (by omega) (by omega)]; exact eqm.symm

theorem inc_of_dec {p : Array Nat} {m : Nat} (v : V n p) (hm : m ≤ n) (h : Dec r p m) : Inc r (kas_rev p 0 m) m := by
  intro i j hij hj
  rw [rev_get (by rw [v.size]; exact hm), rev_get (by rw [v.size]; exact hm), if_pos ⟨Nat.zero_le _, by omega⟩, if_pos ⟨Nat.zero_le _, hj⟩]
  exact h _ _ (by omega) (by omega)
noncomputable abbrev CountPost (n : Nat) (r : Nat → Nat) (x : Nat × Array Nat) : Prop := V n x.2 ∧ 1 ≤ x.1 ∧ x.1 ≤ n ∧ Inc r x.2 x.1
theorem sp_tail3 {p : Array Nat} {m : Nat} (v : V n p) (h1 : 1 ≤ m) (hm : m ≤ n) (hd : Dec r p m) : Sp n (byR r) (kas_tail3 m n p) (CountPost n r) := by
  unfold kas_tail3
  refine Sp.bind ((sp_asc (rev_v v 0 m) (n - m) m h1 (by omega) (inc_of_dec v hm hd)).mono fun a ha => ?_)
  exact ⟨rev_v v 0 m, by omega, ha.2.1, ha.2.2.1⟩
theorem sp_descPart {p : Array Nat} {m : Nat} (v : V n p) (h1 : 1 ≤ m) (hm : m < n) (hd : Dec r p m) (hs : gk r p m < gk r p (m - 1)) : Sp n (byR r) (kas_descPart m n p) (CountPost n r) := by
  unfold kas_descPart
  refine Sp.bind ((sp_desc (n - (m + 1)) p (m + 1) 0 v (by omega) (by omega) (by omega) (hd.step h1 (by omega)) ?_).mono fun x hx => ?_)
  · intro k a b; have : k = m := by omega
    subst this; simp
  · obtain ⟨vx, a1, a2, a3, a4, a5⟩ := hx
    by_cases hq : x.2.2 > 0
    · rw [if_pos hq]
      have same := rev_same (r := r) (p := x.1) (i := x.2.1 - (x.2.2 + 1)) (j := x.2.1) (by rw [vx.size]; exact a2) a5
      exact sp_tail3 (rev_v vx _ _) (by omega) a2 (a4.congr same)
    · rw [if_neg hq]
      exact sp_tail3 vx (by omega) a2 a4
theorem sp_count {p : Array Nat} (v : V n p) (hn : 1 ≤ n) : Sp n (byR r) (kas_count n p) (CountPost n r) := by
  unfold kas_count
  refine Sp.bind ((sp_asc v (n - 1) 1 (Nat.le_refl _) (by omega) ?_).mono fun m hm => ?_)
  · intro i j a b; have : i = j := by omega
    subst this; exact Nat.le_refl _
  · obtain ⟨a1, a2, a3, a4⟩ := hm
    by_cases hmn : (m == n) = true
    · rw [if_pos hmn]; exact ⟨v, a1, a2, a3⟩
    · rw [if_neg hmn]
      have hlt : m < n := by
        have : m ≠ n := by simpa using hmn
        omega
      have hs : gk r p m < gk r p (m - 1) := by rcases a4 with h | h; omega; exact h
      by_cases h1 : m > 1
      · rw [if_pos h1]
        refine ⟨v.lt (by omega), v.lt (by omega), ?_⟩
        by_cases hc : gk r p 0 < gk r p (m - 1)
        · rw [show byR r (p.getD 0 0) (p.getD (m - 1) 0) = true from decide_eq_true hc]; (dsimp only); rw [if_pos rfl]
          exact ⟨v, a1, a2, a3⟩
        · rw [show byR r (p.getD 0 0) (p.getD (m - 1) 0) = false from decide_eq_false hc]; (dsimp only); rw [if_neg Bool.false_ne_true]
          have all : ∀ k, k < m → gk r p k = gk r p (m - 1) := fun k hk => by
            have b1 := a3 0 k (Nat.zero_le _) hk
            have b2 := a3 k (m - 1) (by omega) (by omega)
            omega
          have same := rev_same (r := r) (p := p) (i := 0) (j := m) (by rw [v.size]; exact a2) fun k _ hk => all k hk
          refine sp_descPart (rev_v v 0 m) a1 hlt ?_ (by rw [same, same]; exact hs)
          intro i j a b
          rw [same, same, all i (by omega), all j b]
          exact Nat.le_refl _
      · rw [if_neg h1]
        have hm1 : m = 1 := by omega
        subst hm1
        refine sp_descPart v a1 hlt ?_ hs
        intro i j a b; have : i = j := by omega
        subst this; exact Nat.le_refl _

theorem sp_place {p : Array Nat} {k : Nat} (v : V n p) (hk : k < n) (hi : Inc r p k) : ∀ (f l u : Nat), l ≤ u → u ≤ k → u - l ≤ f → (∀ i, i < l → gk r p i ≤ gk r p k) → (∀ i, u ≤ i → i < k → gk r p k < gk r p i) →
    Sp n (byR r) (kas_place p k f l u) fun x => x ≤ k ∧ (∀ i, i < x → gk r p i ≤ gk r p k) ∧ ∀ i, x ≤ i → i < k → gk r p k < gk r p i
  | 0, l, u, hlu, huk, hf, h1, h2 => by
    have e : l = u := by omega
    subst e
    exact ⟨huk, h1, h2⟩
  | f + 1, l, u, hlu, huk, hf, h1, h2 => by
    unfold kas_place
    by_cases hge : l ≥ u
    · rw [if_pos hge]
      have : l = u := by omega
      subst this
      exact ⟨huk, h1, h2⟩
    · rw [if_neg hge]
      refine ⟨v.lt hk, v.lt (by omega), ?_⟩
      by_cases hc : gk r p k < gk r p ((l + u) / 2)
      · rw [show byR r (p.getD k 0) (p.getD ((l + u) / 2) 0) = true from decide_eq_true hc]; (dsimp only); rw [if_pos rfl]
        exact sp_place v hk hi f l ((l + u) / 2) (by omega) (by omega) (by omega) h1 fun i a b => Nat.lt_of_lt_of_le hc (hi _ _ a b)
      · rw [show byR r (p.getD k 0) (p.getD ((l + u) / 2) 0) = false from decide_eq_false hc]; (dsimp only); rw [if_neg Bool.false_ne_true]
        refine sp_place v hk hi f ((l + u) / 2 + 1) u (by omega) huk (by omega) (fun i a => ?_) h2
        exact Nat.le_trans (hi i ((l + u) / 2) (by omega) (by omega)) (by omega)
theorem bub_get {p : Array Nat} {src d : Nat} (hs : src < p.size) (hd : d ≤ src) (k : Nat) : gk r (bubble p src d) k = if k = src - d then gk r p src else if src - d < k ∧ k ≤ src then gk r p (k - 1) else gk r p k := by
  have e := getElem?_bubble (xs := p) hs d hd k
  unfold gk
  simp only [Array.getD_eq_getD_getElem?]
  rw [e]
  split
  · rfl
  · split <;> rfl
theorem bub_v {p : Array Nat} (v : V n p) (i j : Nat) : V n (bubble p i j) := ⟨(bubble_perm _ _ _).trans v.perm⟩
theorem sp_bin : ∀ (f : Nat) (p : Array Nat) (k : Nat), V n p → Inc r p k → k + f = n → Sp n (byR r) (kas_bin f p k) fun x => V n x ∧ Inc r x n
  | 0, p, k, v, hi, hf => by
    have e : k = n := by omega
    subst e
    exact ⟨v, hi⟩
  | f + 1, p, k, v, hi, hf => by
    unfold kas_bin
    refine Sp.bind ((sp_place v (by omega) hi k 0 k (Nat.zero_le _) (Nat.le_refl _) (by omega) (fun i h => by omega) fun i a b => by omega).mono fun l hl => ?_)
    obtain ⟨a1, a2, a3⟩ := hl
    refine sp_bin f (bubble p k (k - l)) (k + 1) (bub_v v _ _) ?_ (by omega)
    intro i j hij hj
    have g := bub_get (r := r) (p := p) (src := k) (d := k - l) (by rw [v.size]; omega) (by omega)
    have e : k - (k - l) = l := by omega
    rw [e] at g
    rw [g i, g j]
    by_cases hi1 : i = l
    · rw [if_pos hi1]
      by_cases hj1 : j = l
      · rw [if_pos hj1]; exact Nat.le_refl _
      · rw [if_neg hj1, if_pos ⟨by omega, by omega⟩]
        exact Nat.le_of_lt (a3 (j - 1) (by omega) (by omega))
    · rw [if_neg hi1]
      by_cases hi2 : l < i ∧ i ≤ k
      · rw [if_pos hi2, if_neg (by omega), if_pos ⟨by omega, by omega⟩]
        exact hi _ _ (by omega) (by omega)
      · rw [if_neg hi2]
        by_cases hj1 : j = l
        · rw [if_pos hj1]; exact a2 i (by omega)
        · rw [if_neg hj1]
          by_cases hj2 : l < j ∧ j ≤ k
          · rw [if_pos hj2]; exact hi _ _ (by omega) (by omega)
          · rw [if_neg hj2]; exact hi _ _ hij (by omega)
theorem sp_sort (hn : 1 ≤ n) : Sp n (byR r) (kas_sort n) fun x => V n x ∧ Inc r x n := by
  unfold kas_sort
  refine Sp.bind ((sp_count (p := (List.range n).toArray) ⟨Array.Perm.refl _⟩ hn).mono fun x hx => ?_)
  obtain ⟨v, a1, a2, a3⟩ := hx
  by_cases hlt : x.1 < n
  · rw [if_pos hlt]
    have e : max x.1 1 = x.1 := by omega
    rw [e]
    exact sp_bin _ _ _ v a3 (by omega)
  · rw [if_neg hlt]
    have e : x.1 = n := by omega
    rw [e] at a3
    exact ⟨v, a3⟩
end
end Mine

namespace Mine
open PySem PySem.W PyProof.Rows

/-- a strict total order -/
structure Ordd {α : Type} (lt : α → α → Bool) : Prop where
  irrefl : ∀ a, lt a a = false
  trans : ∀ a b c, lt a b = true → lt b c = true → lt a c = true
  total : ∀ a b, lt a b = false → lt b a = false → a = b
theorem ordd_int : Ordd (fun a b : Int => decide (a < b)) where
  irrefl a := by simp
  trans a b c h1 h2 := by simp at *; omega
  total a b h1 h2 := by simp at *; omega
theorem ordd_lex {α : Type} [DecidableEq α] {lt : α → α → Bool} (O : Ordd lt) : Ordd (lexLt lt) where
  irrefl a := by induction a with
    | nil => rfl
    | cons a as ih => simp [lexLt, ih]
  trans a := by
    induction a with
    | nil => intro b c h1 h2; cases b <;> cases c <;> simp_all [lexLt]
    | cons a as ih =>
      intro b c h1 h2
      cases b with
      | nil => simp [lexLt] at h1
      | cons b bs =>
        cases c with
        | nil => simp [lexLt] at h2
        | cons c cs =>
          simp only [lexLt] at h1 h2 ⊢
          by_cases e1 : a = b
          · subst e1
            rw [if_pos rfl] at h1
            by_cases e2 : a = c
            · subst e2; rw [if_pos rfl] at h2 ⊢; exact ih _ _ h1 h2
            · rw [if_neg e2] at h2 ⊢; exact h2
          · rw [if_neg e1] at h1
            by_cases e2 : b = c
            · subst e2; rw [if_neg e1]; exact h1
            · rw [if_neg e2] at h2
              by_cases e3 : a = c
              · subst e3
                have := O.trans _ _ _ h1 h2
                rw [O.irrefl] at this; cases this
              · rw [if_neg e3]; exact O.trans _ _ _ h1 h2
  total a := by
    induction a with
    | nil => intro b h1 h2; cases b <;> simp_all [lexLt]
    | cons a as ih =>
      intro b h1 h2
      cases b with
      | nil => simp [lexLt] at h2
      | cons b bs =>
        simp only [lexLt] at h1 h2
        by_cases e : a = b
        · subst e
          rw [if_pos rfl] at h1 h2
          rw [ih _ h1 h2]
        · rw [if_neg e] at h1
          rw [if_neg (Ne.symm e)] at h2
          exact absurd (O.total _ _ h1 h2) e
noncomputable def Asc {α : Type} (lt : α → α → Bool) (l : List α) : Prop := l.Pairwise fun a b => lt b a = false
/-- two sorted lists of the same items are one list -/
theorem asc_unique {α : Type} {lt : α → α → Bool} (O : Ordd lt) : ∀ {l m : List α}, l.Perm m → Asc lt l → Asc lt m → l = m := by
  intro l
  induction l with
  | nil => intro m p _ _; exact p.nil_eq
  | cons a l ih =>
    intro m p h1 h2
    cases m with
    | nil => exact absurd p.length_eq (by simp)
    | cons b m =>
      have hab : a = b := by
        have ha : a ∈ b :: m := p.mem_iff.mp List.mem_cons_self
        have hb : b ∈ a :: l := p.mem_iff.mpr List.mem_cons_self
        rcases List.mem_cons.mp ha with e | ha
        · exact e
        · rcases List.mem_cons.mp hb with e | hb
          · exact e.symm
          · exact O.total _ _ ((List.pairwise_cons.mp h2).1 a ha) ((List.pairwise_cons.mp h1).1 b hb)
      subst hab
      rw [ih (List.Perm.cons_inv p) (List.pairwise_cons.mp h1).2 (List.pairwise_cons.mp h2).2]

theorem countP_lt {α : Type} {p q : α → Bool} : ∀ {l : List α}, (∀ x ∈ l, p x = true → q x = true) → (∃ x ∈ l, q x = true ∧ p x = false) → l.countP p < l.countP q
  | [], _, ⟨x, hx, _⟩ => by cases hx
  | y :: l, h, ⟨x, hx, h1, h2⟩ => by
    rw [List.countP_cons, List.countP_cons]
    have mono : l.countP p ≤ l.countP q := List.countP_mono_left fun z hz => h z (.tail _ hz)
    rcases List.mem_cons.mp hx with e | hx
    · subst e; rw [h1, h2]; simp; omega
    · have := countP_lt (fun z hz => h z (.tail _ hz)) ⟨x, hx, h1, h2⟩
      have hy := h y (.head _)
      cases hp : p y with
      | false => cases hq : q y <;> simp <;> omega
      | true => rw [hy hp]; simp; omega
noncomputable def rankIn {α : Type} (lt : α → α → Bool) (l : List α) (a : α) : Nat := l.countP fun x => lt x a
theorem rank_lt {α : Type} {lt : α → α → Bool} (O : Ordd lt) {l : List α} {a b : α} (ha : a ∈ l) : lt a b = decide (rankIn lt l a < rankIn lt l b) := by
  cases h : lt a b with
  | true =>
    refine (decide_eq_true ?_).symm
    exact countP_lt (fun x _ hx => O.trans _ _ _ hx h) ⟨a, ha, h, O.irrefl a⟩
  | false =>
    refine (decide_eq_false ?_).symm
    refine Nat.not_lt.mpr (List.countP_mono_left fun x _ hx => ?_)
    cases h2 : lt b a with
    | true => exact O.trans _ _ _ hx h2
    | false => rw [O.total _ _ h h2]; exact hx

theorem keyLt_general (x y : Value) : keyLt' general' x y = oneLt' false x y := rfl
section
variable {c : Cx} {n : Nat} {st : PS} {s : Shared} {A : Around} {E : Value → Shared → Prop}
theorem looks_here {α : Type} {t : Sem α} {r : α} {P : α → Shared → Prop} (x : Looks c.M s.heap t r) (h : P r s) : wpAny c.M A t P E s := x.here h

/-- a kind of keys under which the machine's question tells the order -/
noncomputable def KindOk (c : Cx) (n : Nat) {α : Type} (enc : α → PV) (lt : α → α → Bool) (κ : SortKind) : Prop :=
  ∀ (A : Around) (s : Shared) (v u : Value) (a b : α) (P : Bool → Shared → Prop) (E : Value → Shared → Prop), Room n A → Rep s.heap (enc a) v → Rep s.heap (enc b) u → P (lt a b) s → wpAny c.M A (keyLt' κ v u) P E s
theorem kind_one {α : Type} [DecidableEq α] {enc : α → PV} {lt : α → α → Bool} {d : Nat} (L : Ltd c n enc lt d) : KindOk c n enc lt oneType' := fun A s v u a b P E r rv ru h => by
  rw [keyLt'_oneType]; exact L.any true r rv ru h
theorem kind_gen {α : Type} [DecidableEq α] {enc : α → PV} {lt : α → α → Bool} {d : Nat} (L : Ltd c n enc lt d) : KindOk c n enc lt general' := fun A s v u a b P E r rv ru h => by
  rw [keyLt_general]; exact L.any false r rv ru h
theorem kind_tup {α : Type} [DecidableEq α] {enc : α → PV} {lt : α → α → Bool} {d : Nat} (L : Ltd c n enc lt d) (hd : d ≤ 7) (fl : Bool) : KindOk c n (fun l : List α => PV.tup (l.map enc)) (lexLt lt) (tuples' fl) := by
  intro A s v u as bs P E r rv ru h
  obtain ⟨x, vs, rfl, ⟨nx, tx⟩, ra⟩ := rv.tup'
  obtain ⟨y, us, rfl, ⟨ny, ty⟩, rb⟩ := ru.tup'
  refine kat_lt tx rfl ty rfl ?_
  have go : ∀ (as' bs' : List α) (vs' us' : List Value) (i : Nat), RepL s.heap (as'.map enc) vs' → RepL s.heap (bs'.map enc) us' → lexLt lt as' bs' = lexLt lt as bs → decide (vs'.length < us'.length) = decide ((List.toArray vs).size < (List.toArray us).size) →
      KatLex c.prog c.w A fl (decide ((List.toArray vs).size < (List.toArray us).size)) P (vs'.zip us') i s := by
    intro as'
    induction as' with
    | nil =>
      intro bs' vs' us' i ha hb hl hs
      rw [ha.nil_inv] at hs ⊢
      refine kat_nil ?_
      rw [← hs]
      cases bs' with
      | nil => rw [hb.nil_inv]; rw [← hl] at h; simpa [lexLt] using h
      | cons b1 bs'' => obtain ⟨y1, ys, rfl, _⟩ := hb.cons_inv; rw [← hl] at h; simpa [lexLt] using h
    | cons a1 as'' ih =>
      intro bs' vs' us' i ha hb hl hs
      obtain ⟨x1, xs, rfl, rx, ha'⟩ := ha.cons_inv
      cases bs' with
      | nil =>
        rw [hb.nil_inv] at hs ⊢
        refine kat_nil ?_
        rw [← hs]
        rw [← hl] at h; simpa [lexLt] using h
      | cons b1 bs'' =>
        obtain ⟨y1, ys, rfl, ry, hb'⟩ := hb.cons_inv
        refine kat_cons (eqBool_of r rx ry (okD_up (L.ok a1) (by omega)) (okD_up (L.ok b1) (by omega)) ?_)
        rw [L.inj]
        by_cases hk : a1 = b1
        · subst hk
          rw [decide_eq_true rfl]
          refine kat_yes (ih bs'' xs ys (i + 1) ha' hb' ?_ ?_)
          · rw [← hl]; simp [lexLt]
          · rw [← hs]; simp
        · rw [decide_eq_false hk]
          refine kat_no (L.any _ r rx ry ?_)
          rw [← hl] at h; simpa [lexLt, hk] using h
  exact go as bs (List.toArray vs).toList (List.toArray us).toList 0 (by simpa using ra) (by simpa using rb) rfl (by simp)

/-- what is asked of a key's kind: whatever comes, it is one under which the order is told -/
structure Keyd (c : Cx) (n : Nat) {α : Type} [DecidableEq α] (enc : α → PV) (lt : α → α → Bool) : Prop where
  ord : Ordd lt
  kind : ∀ (A : Around) (s : Shared) (as : List α) (vs : List Value) (P : SortKind → Shared → Prop) (E : Value → Shared → Prop), Room n A → 2 ≤ as.length → RepL s.heap (as.map enc) vs → (∀ κ, KindOk c n enc lt κ → P κ s) → wpAny c.M A (keyKind' vs.toArray) P E s

theorem mapM_any {β : Type} {f : Value → Sem β} (B : β → Prop) : ∀ (vs : List Value) {P : List β → Shared → Prop}, (∀ v ∈ vs, ∃ b, B b ∧ ∀ Q' : β → Shared → Prop, Q' b s → wpAny c.M A (f v) Q' E s) → (∀ bs : List β, (∀ b ∈ bs, B b) → P bs s) → wpAny c.M A (vs.mapM f) P E s
  | [], P, _, h => by rw [List.mapM_nil]; exact wpAny_pure (h [] fun _ h => nomatch h)
  | v :: vs, P, hf, h => by
    rw [List.mapM_cons]
    obtain ⟨b, hB, hb⟩ := hf v (.head _)
    refine wpAny_bind (hb _ ?_)
    refine wpAny_bind (mapM_any B vs (fun u hu => hf u (.tail _ hu)) fun bs hbs => ?_)
    exact wpAny_pure (h _ fun x hx => by
      rcases List.mem_cons.mp hx with rfl | hx
      · exact hB
      · exact hbs x hx)
noncomputable def Typed (c : Cx) (A : Around) (E : Value → Shared → Prop) (s : Shared) (v : Value) : Prop := ∃ T, ∀ Q' : Value → Shared → Prop, Q' T s → wpAny c.M A (typeOf v) Q' E s
theorem typed_of {d : Nat} {p : PV} {v : Value} (r : Rep s.heap p v) (h : okD d p = true) : Typed c A E s v := by
  cases p with
  | int i => obtain ⟨t, rfl⟩ := r.int'; exact ⟨.type "int", fun Q' hq => wpAny_pure hq⟩
  | tup l => obtain ⟨a, vs, rfl, ⟨k, t⟩, _⟩ := r.tup'; exact ⟨.type "tuple", fun Q' hq => wpAny_typeOf (T := "tuple") ⟨_, t, rfl⟩ hq⟩
  | _ => cases d <;> simp [okD] at h

theorem keyd_int : Keyd c n PV.int (fun a b : Int => decide (a < b)) where
  ord := ordd_int
  kind A s as vs P E r h2 rl h := by
    refine kas_kind (T := .type "int") (by rw [rl.length, List.length_map]; exact h2) (fun v hv => ?_) (by decide) (by decide) (h _ (kind_one ltd_int))
    obtain ⟨i, hi⟩ := List.mem_iff_getElem?.mp hv
    obtain ⟨p, hp, rv⟩ := rl.get' hi
    rw [List.getElem?_map] at hp
    obtain ⟨a, _, rfl⟩ := Option.map_eq_some_iff.mp hp
    obtain ⟨t, rfl⟩ := rv.int'
    exact Looks.of_pure rfl

theorem keyd_tup {α : Type} [DecidableEq α] {enc : α → PV} {lt : α → α → Bool} {d : Nat} (O : Ordd lt) (L : Ltd c n enc lt d) (hd : d ≤ 7) : Keyd c (n + 1) (fun l : List α => PV.tup (l.map enc)) (lexLt lt) where
  ord := ordd_lex O
  kind A s as vs P E r h2 rl h := by
    have L' := ltd_tup L hd
    have g1 := h general' (kind_gen L')
    have g2 := h oneType' (kind_one L')
    have g3 := fun fl => h (tuples' fl) fun A s v u a b P E r rv ru h => kind_tup L hd fl A s v u a b P E (r.mono (Nat.le_succ _)) rv ru h
    have each : ∀ v ∈ vs, ∃ a us k, v = .ref a ∧ s.heap.get? a = some { cls := .type "tuple", data := .seq (List.toArray us) k } ∧ ∀ u, (List.toArray us)[0]? = some u → Typed c A E s u := fun v hv => by
      obtain ⟨i, hi⟩ := List.mem_iff_getElem?.mp hv
      obtain ⟨p, hp, rv⟩ := rl.get' hi
      rw [List.getElem?_map] at hp
      obtain ⟨a, _, rfl⟩ := Option.map_eq_some_iff.mp hp
      obtain ⟨a, us, rfl, ⟨k, t⟩, ru⟩ := rv.tup'
      refine ⟨a, us, k, rfl, t, fun u hu => ?_⟩
      obtain ⟨q, hq, rq⟩ := ru.get' (i := 0) (by simpa using hu)
      rw [List.getElem?_map] at hq
      obtain ⟨b, _, rfl⟩ := Option.map_eq_some_iff.mp hq
      exact typed_of rq (L.ok b)
    rw [keyKind'_eq, List.mapM_toArray, map_eq_pure_bind]
    refine wpAny_bind (wpAny_bind (mapM_any (fun b => ∀ u, b = some u → Typed c A E s u) vs (fun v hv => ?_) fun firsts hfs => wpAny_pure ?_))
    · obtain ⟨a, us, k, rfl, t, ht⟩ := each v hv
      refine ⟨(List.toArray us)[0]?, ht, fun Q' hq => ?_⟩
      rw [kas_first_eq]
      refine wpAny_bind (wpAny_typeOf (T := "tuple") ⟨_, t, rfl⟩ ?_)
      rw [if_neg (by decide)]
      exact wpAny_bind (listItems_at t rfl (wpAny_pure hq))
    · split
      · refine wpAny_bind (wpAny_rule ?_)
        have e : (List.toArray firsts).filterMap id = List.toArray (firsts.filterMap id) := by simp
        rw [e, oneTypeOnly'_eq, List.mapM_toArray, map_eq_pure_bind]
        refine wpAny_bind (wpAny_bind (wpAny_bind (mapM_any (fun _ => True) (firsts.filterMap id) (fun v hv => ?_) fun ts _ => wpAny_pure ?_)))
        · obtain ⟨b, hb, e⟩ := List.mem_filterMap.mp hv
          obtain ⟨T, hT⟩ := hfs b hb v e
          exact ⟨T, trivial, hT⟩
        · split
          · split <;> exact wpAny_pure (wpAny_pure (g3 _))
          · exact wpAny_pure (wpAny_pure (g3 _))
      · split
        · exact wpAny_pure g1
        · rw [oneTypeOnly'_eq, List.mapM_toArray, map_eq_pure_bind]
          refine wpAny_bind (wpAny_bind (wpAny_bind (mapM_any (fun _ => True) vs (fun v hv => ?_) fun ts _ => wpAny_pure ?_)))
          · obtain ⟨a, us, k, rfl, t, _⟩ := each v hv
            exact ⟨.type "tuple", trivial, fun Q' hq => wpAny_typeOf (T := "tuple") ⟨_, t, rfl⟩ hq⟩
          · split
            · split
              · exact wpAny_pure (by split <;> exact wpAny_pure (by assumption))
              · exact wpAny_pure (by split <;> exact wpAny_pure (by assumption))
            · exact wpAny_pure (by split <;> exact wpAny_pure (by assumption))
end
end Mine

namespace Mine
open PySem PySem.W PyProof.Rows

theorem repL_getD {h : Heap} {α : Type} [Inhabited α] {enc : α → PV} {as : List α} {vs : List Value} (r : RepL h (as.map enc) vs) {i : Nat} (hi : i < as.length) : Rep h (enc (as.getD i default)) (vs.getD i Value.none) := by
  have e : (as.map enc)[i]? = some (enc (as.getD i default)) := by
    rw [List.getElem?_map, List.getD_eq_getElem?_getD, List.getElem?_eq_getElem hi]; rfl
  obtain ⟨v, hv, rv⟩ := r.get e
  have ev : vs.getD i Value.none = v := by rw [List.getD_eq_getElem?_getD, hv]; rfl
  rw [ev]; exact rv

section
variable {c : Cx} {n : Nat} {st : PS} {s : Shared} {A : Around} {E : Value → Shared → Prop}

theorem sort_out {α : Type} [DecidableEq α] [Inhabited α] {enc : α → PV} {lt : α → α → Bool} (O : Ordd lt) {as : List α} {p : Array Nat} (v : V as.length p) (hi : Inc (fun i => rankIn lt as (as.getD i default)) p as.length) :
    (p.toList.map fun i => as.getD i default).Perm as ∧ Asc lt (p.toList.map fun i => as.getD i default) := by
  have hp : p.toList.Perm (List.range as.length) := by have := Array.perm_iff_toList_perm.mp v.perm; simpa using this
  have hr : (List.range as.length).map (fun i => as.getD i default) = as := by
    apply List.ext_getElem
    · simp
    · intro i h1 h2; simp [List.getD_eq_getElem?_getD, List.getElem?_eq_getElem h2]
  refine ⟨?_, ?_⟩
  · have := hp.map fun i => as.getD i default
    rwa [hr] at this
  · unfold Asc
    rw [List.pairwise_map, List.pairwise_iff_getElem]
    intro i j h1 h2 hij
    have hs : p.size = as.length := v.size
    rw [Array.length_toList] at h1 h2
    have ei : p.toList[i] = p.getD i 0 := by simp [Array.getD, h1]
    have ej : p.toList[j] = p.getD j 0 := by simp [Array.getD, h2]
    rw [ei, ej]
    have hj : p.getD j 0 < as.length := v.lt (by omega)
    have hm : as.getD (p.getD j 0) default ∈ as := by
      rw [List.getD_eq_getElem?_getD, List.getElem?_eq_getElem hj]
      exact List.getElem_mem hj
    rw [rank_lt O hm]
    have := hi i j (by omega) (by omega)
    unfold gk at this
    dsimp only at this
    exact decide_eq_false (by omega)

/-- what the sort leaves: the list at D sorted, all else kept -/
noncomputable def SortedAt (c : Cx) {α : Type} (enc : α → PV) (lt : α → α → Bool) (as : List α) (s : Shared) (D : Addr) (s' : Shared) : Prop :=
  ∃ bs h3 k vs', bs.Perm as ∧ Asc lt bs ∧ s' = { s with heap := h3 } ∧ (∀ b o, b ≠ D → s.heap.get? b = some o → h3.get? b = some o) ∧ h3.get? D = some (seqObj "list" (List.toArray vs') k) ∧ RepL h3 (bs.map enc) vs'

theorem sort_core {α : Type} [DecidableEq α] [Inhabited α] {enc : α → PV} {lt : α → α → Bool} (K : Keyd c n enc lt) {as : List α} {vs : List Value} {D : Addr} {k : Nat} {P : PySem.Fin → Shared → Prop} (r : Room n A)
    (hD : s.heap.get? D = some (seqObj "list" (List.toArray vs) k)) (rl : RepL s.heap (as.map enc) vs) (h64 : as.length < 64)
    (h : ∀ s', SortedAt c enc lt as s D s' → P (.done (.ret .none)) s') : wpAny c.M A (Builtin.«list.sort» ⟨[.ref D], []⟩) P E s := by
  rw [list_sort_plain]
  have hl : vs.length = as.length := by rw [rl.length, List.length_map]
  have ha : D < s.heap.objs.size := Heap.lt_size hD
  refine wpAny_bind (listItems_at hD rfl ?_)
  refine wpAny_bind (listUpdate_at hD rfl ?_ (by rw [List.size_toArray, sizeLine_eq]; omega) (Nat.zero_le _))
  obtain ⟨e1, ho1⟩ : ∃ e1, (s.heap.update D (Obj.mapSeq fun _ => (#[] : Array Value))).get? D = some (seqObj "list" #[] e1) := ⟨_, get?_update_seq hD fun _ => #[]⟩
  refine wpAny_bind (seqEpoch_at ho1 rfl ?_)
  refine wpAny_bind (wpAny_newTuple ?_ (by show vs.length ≤ _; rw [sizeLine_eq]; omega))
  refine wpAny_bind (wpAny_newList ?_ (Nat.zero_le _))
  refine wpAny_holding ?_
  show wpAny c.M A _ P E { s with heap := ((s.heap.update D (Obj.mapSeq fun _ => (#[] : Array Value))).push (seqObj "tuple" vs.toArray 0)).push (seqObj "list" #[] 0) }
  generalize hH : ((s.heap.update D (Obj.mapSeq fun _ => (#[] : Array Value))).push (seqObj "tuple" vs.toArray 0)).push (seqObj "list" #[] 0) = H
  have keepH : ∀ b o, b ≠ D → s.heap.get? b = some o → H.get? b = some o := fun b o hb e => by
    rw [← hH]
    refine Heap.get?_push_of_some _ (Heap.get?_push_of_some _ ?_)
    exact (Heap.get?_update_other _ _ (Ne.symm hb)).trans e
  have hoH : H.get? D = some (seqObj "list" #[] e1) := by rw [← hH]; exact Heap.get?_push_of_some _ (Heap.get?_push_of_some _ ho1)
  have tsH : TupsStay s.heap H := fun a us ⟨j, t⟩ => ⟨j, keepH a _ (by rintro rfl; rw [hD] at t; simp at t) t⟩
  have rlH := rl.stay tsH
  have tail : ∀ (out : List Value) (bs : List α), bs.Perm as → Asc lt bs → RepL H (bs.map enc) out →
      P (.done (.ret .none)) { s with heap := H.update D (Obj.mapSeq fun _ => List.toArray out) } := fun out bs hp hs ro => by
    have so := get?_update_seq hoH fun _ => List.toArray out
    have ts2 : TupsStay H (H.update D (Obj.mapSeq fun _ => List.toArray out)) := fun a us ⟨j, t⟩ => ⟨j, (Heap.get?_update_other _ _ (by rintro rfl; rw [hoH] at t; simp at t)).trans t⟩
    exact h _ ⟨bs, _, _, out, hp, hs, rfl, fun b o hb e => (Heap.get?_update_other _ _ (Ne.symm hb)).trans (keepH b o hb e), so, ro.stay ts2⟩
  by_cases h2 : vs.toArray.size < 2
  · rw [if_pos h2, if_pos h2]
    refine wpAny_bind (wpAny_pure ?_)
    refine wpAny_bind (wpAny_pure (a := ((), SortSt.mk' general' (vs.toArray.zip vs.toArray) #[] 7 none)) ?_)
    dsimp only
    refine wpAny_bind (seqEpoch_at hoH rfl ?_)
    have e : (arrOf (SortSt.mk' general' (vs.toArray.zip vs.toArray) #[] 7 none)).map (·.2) = List.toArray vs := by
      show (vs.toArray.zip vs.toArray).map (·.2) = _
      apply Array.toList_inj.mp
      rw [Array.toList_map, Array.toList_zip]
      exact List.map_snd_zip (Nat.le_refl _)
    rw [e]
    refine wpAny_bind (listUpdate_at hoH rfl ?_ (Nat.zero_le _) (by rw [List.size_toArray, sizeLine_eq]; omega))
    simp only [bne_self_eq_false, Bool.false_eq_true, if_false]
    refine wpAny_pure (tail vs as (List.Perm.refl _) ?_ rlH)
    have hs : as.length < 2 := by rw [← hl]; simpa using h2
    match as, hs with
    | [], _ => exact List.Pairwise.nil
    | [_], _ => exact List.pairwise_singleton _ _
    | _ :: _ :: _, h => simp at h; omega
  · rw [if_neg h2, if_neg h2]
    have hn2 : 2 ≤ vs.length := by rw [List.size_toArray] at h2; omega
    refine wpAny_bind (K.kind A { s with heap := H } as vs _ _ r (by omega) rlH fun κ hκ => ?_)
    have sp := (sp_sort (n := vs.length) (r := fun i => rankIn lt as (as.getD i default)) (by omega)).wp (s := ({ s with heap := H } : Shared)) (cmp := kas_ask c.prog c.w A κ vs)
      (Q := fun p s'' => s'' = ({ s with heap := H } : Shared) ∧ V vs.length p ∧ Inc (fun i => rankIn lt as (as.getD i default)) p vs.length) (fun i j hi hj C hC => ?_) fun p hp => ⟨rfl, hp⟩
    · refine wpAny_bind (wpAny_mono (kat_run (Q := fun st' s' => s' = ({ s with heap := H } : Shared) ∧ ∃ p : Array Nat, p.size = vs.length ∧ arrOf st' = p.map (kas_item (vs.toArray.zip vs.toArray)) ∧ failedOf st' = none ∧ V vs.length p ∧ Inc (fun i => rankIn lt as (as.getD i default)) p vs.length)
        rfl hn2 (by omega) (fun p' st' s' a1 a2 a3 a4 => ⟨a4.1, p', a1, a2, a3, a4.2⟩) sp) ?_ fun _ _ e => e)
      rintro ⟨⟨⟩, st'⟩ s' ⟨rfl, p, hp, har, hf, hv, hi⟩
      dsimp only
      rw [kat_snds rfl har]
      refine wpAny_bind (seqEpoch_at hoH rfl ?_)
      have hsz : (List.toArray (p.toList.map fun i => vs.getD i Value.none)).size = vs.length := by rw [List.size_toArray, List.length_map, Array.length_toList, hp]
      refine wpAny_bind (listUpdate_at hoH rfl ?_ (Nat.zero_le _) (Nat.le_trans (Nat.le_of_eq hsz) (by rw [sizeLine_eq]; omega)))
      rw [hf]
      simp only [bne_self_eq_false, Bool.false_eq_true, if_false]
      rw [hl] at hv hi
      obtain ⟨o1, o2⟩ := sort_out (enc := enc) K.ord hv hi
      refine wpAny_pure (tail _ _ o1 o2 ?_)
      rw [List.map_map]
      have go : ∀ l : List Nat, (∀ i ∈ l, i < as.length) → RepL H (l.map (enc ∘ fun i => as.getD i default)) (l.map fun i => vs.getD i Value.none) := by
        intro l
        induction l with
        | nil => intro _; exact .nil
        | cons i l ih => intro hl'; exact .cons (repL_getD rlH (hl' i (.head _))) (ih fun j hj => hl' j (.tail _ hj))
      refine go _ fun i hi' => ?_
      have hpm : p.toList.Perm (List.range as.length) := by have := Array.perm_iff_toList_perm.mp hv.perm; simpa using this
      simpa using hpm.mem_iff.mp hi'
    · show wpAny c.M A (keyLt' κ (vs.getD i Value.none) (vs.getD j Value.none)) C NoE { s with heap := H }
      rw [hl] at hi hj
      refine hκ A _ _ _ (as.getD i default) (as.getD j default) C NoE r (repL_getD rlH hi) (repL_getD rlH hj) ?_
      have hm : as.getD i default ∈ as := by
        rw [List.getD_eq_getElem?_getD, List.getElem?_eq_getElem hi]
        exact List.getElem_mem hi
      rw [rank_lt K.ord hm]
      exact hC

/-- sorted, once its argument's items are collected -/
theorem sorted_of {α : Type} [DecidableEq α] [Inhabited α] {enc : α → PV} {lt : α → α → Bool} (K : Keyd c n enc lt) {as : List α} {v : Value} {Q : PV → PS → Prop} (r : Room (n + 3) A) (R : StRel c st s) (h64 : as.length < 64)
    (hc : ∀ (P : List Value → Shared → Prop), (∀ h' tk vs, (∀ b o, s.heap.get? b = some o → h'.get? b = some o) → RepL h' (as.map enc) vs → P vs { s with heap := h', toks := tk }) → wpAny c.M A.in1 (collect v) P (fun e s' => E e s') s)
    (h : ∀ bs a, bs.Perm as → Asc lt bs → st a = none → c.B.get? a = none → Q (.loc a) (st.set a (.list (bs.map enc)))) : wpAny c.M A (call (.builtin "sorted") [v]) (Out c st s.heap Q) E s := by
  refine Calls.call_function_entry kind_sorted plain_sorted entry_sorted (args_sorted1 _) ?_
  unfold Builtin.«sorted»
  refine wpAny_bind (m := checkCount "sorted" 1 1 _) (wpAny_pure ?_)
  refine wpAny_bind (hc _ fun h' tk vs kk rl => ?_)
  have hl : vs.length = as.length := by rw [rl.length, List.length_map]
  refine wpAny_bind (wpAny_newList ?_ (by rw [sizeLine_eq]; omega))
  have hD : (h'.push (seqObj "list" vs.toArray 0)).get? h'.objs.size = some (seqObj "list" vs.toArray 0) := Heap.get?_push_size _ rfl
  have fD : s.heap.get? h'.objs.size = none := by
    cases e : s.heap.get? h'.objs.size with
    | none => rfl
    | some o => exact absurd (Heap.lt_size (kk _ _ e)) (Nat.lt_irrefl _)
  refine wpAny_bind (wpAny_holding (wpAny_call_entry slot_list_sort ⟨_, hD, rfl⟩ entry_list_sort (sort_core K (r.in1.in1.mono (Nat.le_succ _)) hD (rl.stay fun a us ⟨j, t⟩ => ⟨j, Heap.get?_push_of_some _ t⟩) h64 fun s' o => ⟨_, rfl, ?_⟩) (args_list_sort _)))
  obtain ⟨bs, h3, k, vs', p1, p2, rfl, k3, hD3, rl3⟩ := o
  have kk3 : ∀ b o, s.heap.get? b = some o → h3.get? b = some o := fun b o e => k3 b o (by rintro rfl; rw [fD] at e; cases e) (Heap.get?_push_of_some _ (kk b o e))
  have nB : c.B.get? h'.objs.size = none := by
    cases e : c.B.get? h'.objs.size with
    | none => rfl
    | some o => rw [R.base _ _ e] at fD; cases fD
  have ns := R.none_of_free fD
  exact wpAny_pure ⟨_, rfl, .loc h'.objs.size, _, R.alloc (po := .list (bs.map enc)) (tk := tk) fD kk3 ⟨vs', ⟨k, hD3⟩, rl3⟩, Evo.alloc fD kk3, .loc, h bs _ p1 p2 ns nB⟩

-- sorted of a list, of a tuple, of a dict with int keys
theorem c_sorted_list {α : Type} [DecidableEq α] [Inhabited α] {enc : α → PV} {lt : α → α → Bool} (K : Keyd c n enc lt) {as : List α} {a : Addr} {Q : PV → PS → Prop} (ha : st a = some (.list (as.map enc))) (h64 : as.length < 64)
    (h : ∀ bs a, bs.Perm as → Asc lt bs → st a = none → c.B.get? a = none → Q (.loc a) (st.set a (.list (bs.map enc)))) : WPc c (n + 3) (.builtin "sorted") [.loc a] st Q := by
  intro A s vs r R rl
  obtain ⟨v, vs', rfl, rv, rl'⟩ := rl.cons_inv
  obtain rfl := rl'.nil_inv
  obtain rfl := rv.loc'
  obtain ⟨us, ⟨k, e⟩, ru⟩ := R.rep a _ ha
  refine sorted_of K r R h64 (fun P hP => ?_) h
  have hl : us.length = as.length := by rw [ru.length, List.length_map]
  refine wpAny_collect_seq a (.inl rfl) e rfl rfl (fun h' kk => ?_) (by rw [sizeLine_eq, List.size_toArray]; omega)
  exact hP h' s.toks _ kk (by simpa using ru.stay fun a us ⟨j, t⟩ => ⟨j, kk _ _ t⟩)
theorem c_sorted_tup {α : Type} [DecidableEq α] [Inhabited α] {enc : α → PV} {lt : α → α → Bool} (K : Keyd c n enc lt) {as : List α} {Q : PV → PS → Prop} (h64 : as.length < 64)
    (h : ∀ bs a, bs.Perm as → Asc lt bs → st a = none → c.B.get? a = none → Q (.loc a) (st.set a (.list (bs.map enc)))) : WPc c (n + 3) (.builtin "sorted") [.tup (as.map enc)] st Q := by
  intro A s vs r R rl
  obtain ⟨v, vs', rfl, rv, rl'⟩ := rl.cons_inv
  obtain rfl := rl'.nil_inv
  obtain ⟨a, us, rfl, ⟨k, e⟩, ru⟩ := rv.tup'
  refine sorted_of K r R h64 (fun P hP => ?_) h
  have hl : us.length = as.length := by rw [ru.length, List.length_map]
  refine wpAny_collect_seq a (.inr rfl) e rfl rfl (fun h' kk => ?_) (by rw [sizeLine_eq, List.size_toArray]; omega)
  exact hP h' s.toks _ kk (by simpa using ru.stay fun a us ⟨j, t⟩ => ⟨j, kk _ _ t⟩)
theorem c_sorted_dictI {l : List (Int × PV)} {a : Addr} {Q : PV → PS → Prop} (ha : st a = some (.dictI l)) (h64 : l.length < 64)
    (h : ∀ bs a, bs.Perm (l.map (·.1)) → Asc (fun a b : Int => decide (a < b)) bs → st a = none → c.B.get? a = none → Q (.loc a) (st.set a (.list (bs.map .int)))) : WPc c (n + 3) (.builtin "sorted") [.loc a] st Q := by
  intro A s vs r R rl
  obtain ⟨v, vs', rfl, rv, rl'⟩ := rl.cons_inv
  obtain rfl := rl'.nil_inv
  obtain rfl := rv.loc'
  obtain ⟨hne, us, hl, hm, ru⟩ := R.rep a _ ha
  obtain ⟨ep, hat⟩ := hm.dictAt
  refine sorted_of (keyd_int (n := n)) r R (by simpa using h64) (fun P hP => ?_) h
  have hz : ((l.map (·.1)).zip us).length = l.length := by simp [hl]
  refine kdu_collect (kdl_dict (kvs := (l.map (·.1)).zip us) (ep := ep) (beq_eq_false_iff_ne.mpr hne)) r.handled hat (by rw [hz, sizeLine_eq]; omega) fun h' tk acc kk hacc => ?_
  refine hP h' tk _ kk ?_
  refine RepL.of_get ?_ fun i p v hp hv => ?_
  · rw [Array.length_toList, hacc.1, hz]; simp
  · rw [List.map_map, List.getElem?_map] at hp
    obtain ⟨x, hx, rfl⟩ := Option.map_eq_some_iff.mp hp
    obtain ⟨k, u, e1, e2⟩ := hacc.2 i v (by rw [← Array.getElem?_toList]; exact hv)
    have hlt : i < l.length := (List.getElem?_eq_some_iff.mp hx).1
    have e3 : k = x.1 := by
      have h1 := List.getElem?_eq_some_iff.mp e1
      obtain ⟨_, h1⟩ := h1
      have h2 := List.getElem?_eq_some_iff.mp hx
      obtain ⟨_, h2⟩ := h2
      rw [List.getElem_zip] at h1
      have := congrArg Prod.fst h1
      simp only [List.getElem_map] at this
      rw [h2] at this; exact this.symm
    subst e3
    obtain ⟨t, rfl⟩ := Value.isInt_shape e2
    exact .int
end
end Mine

namespace Mine
open PySem PySem.W PyProof.Rows

noncomputable def WPg (c : Cx) (n : Nat) (o i : Expr) (p q : PV) (st : PS) (Q : PV → PS → Prop) : Prop :=
  ∀ A s v u, Room n A → StRel c st s → Rep s.heap p v → Rep s.heap q u → wpAny c.M A (subscriptTail o i v u) (Out c st s.heap Q) NoE s
noncomputable def notSlice : Expr → Bool
  | .Slice _ _ _ _ => false
  | _ => true
theorem sub_plain {i : Expr} {o x : Value} (h : notSlice i = true) : subscripted i false o x = operate [o, x] (getItem o x) := by cases i <;> first | rfl | cases h
theorem TupAt.isTup {h : Heap} {a : Addr} {vs : List Value} (t : TupAt h a vs) : IsTup h a vs.toArray := let ⟨n, e⟩ := t; ⟨_, e, rfl, n, rfl⟩

section
variable {c : Cx} {n : Nat} {env : Env} {ρ : Vars} {st : PS} {s : Shared} {A : Around} {E : Value → Shared → Prop} {Q : PV → PS → Prop}

theorem e_item {o i : Expr} {pos : Pos} (h : WPe c n env ρ o st fun p st1 => WPe c n env ρ i st1 fun q st2 => WPg c n o i p q st2 Q) : WPe c n env ρ (.Subscript o i pos) st Q := by
  intro A s rm R F
  refine PyProof.Rows.Subscript_ (wp_then (h A s rm R F) fun v s1 o => ?_)
  obtain ⟨p, st1, R1, x1, r1, q1⟩ := o
  refine wp_then (q1 A s1 rm R1 (F.evo R x1)) fun u s2 o => ?_
  obtain ⟨q, st2, R2, x2, r2, q2⟩ := o
  exact wp_then (q2 A s2 v u rm R2 (r1.stay (R1.stay x2)) r2) fun _ _ o => o.from (x1.trans x2)
theorem g_tup {o i : Expr} {l : List PV} {k : Int} {p : PV} (hi : notSlice i = true) (h0 : 0 ≤ k) (h1 : k < 2 ^ 60) (hp : l[k.toNat]? = some p) (h : Q p st) : WPg c n o i (.tup l) (.int k) st Q := by
  intro A s v u r R rv ru
  obtain ⟨a, vs, rfl, t, rl⟩ := rv.tup'
  obtain ⟨t', rfl⟩ := ru.int'
  obtain ⟨x, hx, rx⟩ := rl.get hp
  have hlt : k.toNat < vs.length := (List.getElem?_eq_some_iff.mp hx).1
  refine item_tupleT t.isTup (j := k.toNat) (x := x) (by omega) (by omega) ?_ hx ⟨_, _, R, Evo.refl _ _, rx, h⟩ (sub_plain hi)
  unfold seqIndex?
  have e : (if k < 0 then k + (vs.length : Int) else k) = k := if_neg (by omega)
  simp only [e]
  rw [if_pos (by simp only [Bool.and_eq_true, decide_eq_true_eq]; omega)]
theorem g_list {o i : Expr} {a : Addr} {l : List PV} {k : Int} {p : PV} (hi : notSlice i = true) (ha : st a = some (.list l)) (h0 : 0 ≤ k) (h1 : k < 2 ^ 60) (hp : l[k.toNat]? = some p) (h : Q p st) : WPg c n o i (.loc a) (.int k) st Q := by
  intro A s v u r R rv ru
  obtain rfl := rv.loc'
  obtain ⟨t', rfl⟩ := ru.int'
  obtain ⟨vs, pl, rl⟩ := R.rep a _ ha
  obtain ⟨x, hx, rx⟩ := rl.get hp
  exact tail_any pl.isList.typeIs slot_list_getitem.lookup (wpAny_getItem_list (x := x) pl.isList h0 (by omega) (by simpa using hx) ⟨_, _, R, Evo.refl _ _, rx, h⟩) (sub_plain hi)
theorem g_list_last {o i : Expr} {a : Addr} {l : List PV} {p : PV} (hi : notSlice i = true) (ha : st a = some (.list (l ++ [p]))) (hz : l.length < 2 ^ 60) (h : Q p st) : WPg c n o i (.loc a) (.int (-1)) st Q := by
  intro A s v u r R rv ru
  obtain rfl := rv.loc'
  obtain ⟨t', rfl⟩ := ru.int'
  obtain ⟨vs, pl, rl⟩ := R.rep a _ ha
  have hl := rl.length
  obtain ⟨x, hx, rx⟩ := rl.get (i := l.length) (p := p) (by simp)
  simp only [List.length_append, List.length_cons, List.length_nil] at hl
  refine tail_any pl.isList.typeIs slot_list_getitem.lookup (wpAny_getItem_list_neg (x := x) pl.isList (by omega) (by rw [List.size_toArray]; omega) (by omega) ?_ ⟨_, _, R, Evo.refl _ _, rx, h⟩) (sub_plain hi)
  have : (-1 + ((List.toArray vs).size : Int)).toNat = l.length := by rw [List.size_toArray]; omega
  rw [this]; simpa using hx

-- len
theorem c_len_list {l : List PV} {a : Addr} (ha : st a = some (.list l)) (hz : l.length < 2 ^ 60) (h : Q (.int l.length) st) : WPc c n (.builtin "len") [.loc a] st Q := by
  intro A s vs r R rl
  obtain ⟨v, vs', rfl, rv, rl'⟩ := rl.cons_inv
  obtain rfl := rl'.nil_inv
  obtain rfl := rv.loc'
  obtain ⟨us, pl, ru⟩ := R.rep a _ ha
  refine Calls.call_len_list pl.isList (by rw [List.size_toArray, ru.length]; omega) ?_
  rw [List.size_toArray, ru.length]
  exact ⟨_, _, R.toks _, Evo.refl _ _, .int, h⟩
theorem c_len_tup {l : List PV} (hz : l.length < 2 ^ 60) (h : Q (.int l.length) st) : WPc c n (.builtin "len") [.tup l] st Q := by
  intro A s vs r R rl
  obtain ⟨v, vs', rfl, rv, rl'⟩ := rl.cons_inv
  obtain rfl := rl'.nil_inv
  obtain ⟨a, us, rfl, t, ru⟩ := rv.tup'
  refine PyProof.Rows.len_tuple t.isTup (by rw [List.size_toArray, ru.length]; omega) ?_
  rw [List.size_toArray, ru.length]
  exact ⟨_, _, R.toks _, Evo.refl _ _, .int, h⟩
theorem c_tuple {l : List PV} {a : Addr} (ha : st a = some (.list l)) (hz : l.length ≤ 2 ^ 20) (h : Q (.tup l) st) : WPc c n (.type "tuple") [.loc a] st Q := by
  intro A s vs r R rl
  obtain ⟨v, vs', rfl, rv, rl'⟩ := rl.cons_inv
  obtain rfl := rl'.nil_inv
  obtain rfl := rv.loc'
  obtain ⟨us, pl, ru⟩ := R.rep a _ ha
  refine call_tuple_list pl.isList (fun h' k => ?_) (by rw [List.size_toArray, ru.length, sizeLine_eq]; omega)
  have kk : ∀ b o, s.heap.get? b = some o → (h'.push { cls := .type "tuple", data := .seq us.toArray }).get? b = some o := fun b o e => Heap.get?_push_of_some _ (k b o e)
  exact ⟨.tup l, st, R.grow (tk := s.toks) kk, Evo.grow kk, .tup ⟨0, Heap.get?_push_size _ rfl⟩ (ru.stay fun b us ⟨n, t⟩ => ⟨n, kk _ _ t⟩), h⟩
theorem c_list {l : List PV} {a : Addr} (ha : st a = some (.list l)) (hz : l.length ≤ 2 ^ 20) (h : ∀ b, st b = none → c.B.get? b = none → Q (.loc b) (st.set b (.list l))) : WPc c n (.type "list") [.loc a] st Q := by
  intro A s vs r R rl
  obtain ⟨v, vs', rfl, rv, rl'⟩ := rl.cons_inv
  obtain rfl := rl'.nil_inv
  obtain rfl := rv.loc'
  obtain ⟨us, ⟨k, e⟩, ru⟩ := R.rep a _ ha
  refine call_list_seq a (.inl rfl) e rfl rfl (fun h' c' k hD => ?_) (by rw [List.size_toArray, ru.length, sizeLine_eq]; omega)
  have nw := new_addr (h := s.heap) R
  exact ⟨.loc s.heap.objs.size, _, R.alloc (po := .list l) (tk := s.toks) (get?_size _) k ⟨us, ⟨c', hD⟩, ru.stay fun b us ⟨n, t⟩ => ⟨n, k _ _ t⟩⟩, Evo.alloc (get?_size _) k, .loc, h _ nw.1 nw.2⟩
theorem c_int {i : Int} (h : Q (.int i) st) : WPc c n (.type "int") [.int i] st Q := by
  intro A s vs r R rl
  obtain ⟨v, vs', rfl, rv, rl'⟩ := rl.cons_inv
  obtain rfl := rl'.nil_inv
  obtain ⟨t, rfl⟩ := rv.int'
  exact call_int_int ⟨_, _, R, Evo.refl _ _, .int, h⟩
theorem c_str {i : Int} (hi : i.natAbs.log2 < 1920) (h : Q (.str (toString i)) st) : WPc c n (.type "str") [.int i] st Q := by
  intro A s vs r R rl
  obtain ⟨v, vs', rfl, rv, rl'⟩ := rl.cons_inv
  obtain rfl := rl'.nil_inv
  obtain ⟨t, rfl⟩ := rv.int'
  exact PySem.P.str_of_int hi ⟨_, _, R.toks _, Evo.refl _ _, .str, h⟩

-- list of a range
theorem c_list_range {e : Expr} {p0 p1 pos0 pos : Pos} (hl : Blt c "list" (.type "list")) (hkl : isGlob env "list" = true) (hb : Blt c "range" (.type "range")) (hk : isGlob env "range" = true) (hs : notStar e = true)
    (h : WPe c n env ρ e st fun p st1 => ∃ i : Nat, p = .int i ∧ i < 2 ^ 20 ∧ ∀ a, st1 a = none → c.B.get? a = none → Q (.loc a) (st1.set a (.list ((List.range i).map fun (j : Nat) => PV.int j)))) :
    WPe c n env ρ (.Call (.Name "list" p0) [.Call (.Name "range" p1) [e] [] pos0] [] pos) st Q := by
  intro A s r R F
  refine wpAny_Call_ofName (name_blt hl hkl R ?_)
  have hs0 : ([.Call (.Name "range" p1) [e] [] pos0] : List Expr).all notStar = true := rfl
  refine PySem.callWith_type (by rw [backTo_any]; exact starEach_all hs0) (evalArgs_of hs0 ?_)
  rw [starEach_cons rfl]
  refine Calls.spliced_cons ?_
  refine wpAny_Call_ofName (name_blt hb hk R ?_)
  have hs' : [e].all notStar = true := by simp [hs]
  refine PySem.callWith_type (by rw [backTo_any]; exact starEach_all hs') (evalArgs_of hs' ?_)
  rw [starEach_cons hs]
  refine Calls.spliced_cons (wp_then (h A s r R F) fun v s1 o => Calls.spliced_nil ?_)
  obtain ⟨p, st1, R1, x1, r1, i, rfl, hi, q⟩ := o
  obtain ⟨t, rfl⟩ := r1.int'
  refine call_range_1 (Calls.spliced_nil ?_)
  have kk : ∀ b o, s1.heap.get? b = some o → (s1.heap.push { cls := .type "range", data := .fields #[.int 0 s1.toks, .int i t, .int 1 (s1.toks + 1)] }).get? b = some o := fun b o e => Heap.get?_push_of_some _ e
  have R2 := R1.grow (tk := s1.toks + 1 + 1) kk
  refine call_list_range (n := i) r.handled (IsRange.new ..) (small_one (by omega) (by omega) (by omega) (by omega)) (by rw [rangeSize_one]; split <;> omega) (by omega) fun h' tk acc' c' k hD hacc => ?_
  have nw := new_addr (h := s.heap) R2
  refine ⟨.loc _, _, R2.alloc (po := .list ((List.range i).map fun (j : Nat) => PV.int j)) (tk := tk) (get?_size _) k ⟨acc'.toList, ⟨c', by simpa using hD⟩, RepL.of_get (by simp [hacc.1]) fun j p v hp hv => ?_⟩, (x1.trans (Evo.grow kk)).trans (Evo.alloc (get?_size _) k), .loc, q _ nw.1 nw.2⟩
  rw [List.getElem?_map] at hp
  obtain ⟨m, hm, rfl⟩ := Option.map_eq_some_iff.mp hp
  have hlt := (List.getElem?_eq_some_iff.mp hm).1
  rw [List.length_range] at hlt
  rw [List.getElem?_range hlt] at hm
  cases hm
  obtain ⟨t, rfl⟩ := hacc.2 j v (by rw [← Array.getElem?_toList]; exact hv)
  have : (0 : Int) + (j : Int) * 1 = j := by omega
  rw [this]; exact .int

-- isinstance
inductive IsA : PV → String → Bool → Prop
  | i_t (i : Int) : IsA (.int i) "tuple" false
  | i_i (i : Int) : IsA (.int i) "int" true
  | i_b (i : Int) : IsA (.int i) "bool" false
  | s_t (x : Str) : IsA (.str x) "tuple" false
  | t_t (l : List PV) : IsA (.tup l) "tuple" true
theorem e_isi {f x : Str} {T : String} {e : Expr} {p0 p1 pos : Pos} (hb : Blt c f (.builtin "isinstance")) (hk : isGlob env f = true) (hx : Blt c x (.type T)) (hkx : isGlob env x = true) (hs : notStar e = true)
    (h : WPe c n env ρ e st fun p st1 => ∃ b, IsA p T b ∧ Q (.bool b) st1) : WPe c n env ρ (.Call (.Name f p0) [e, .Name x p1] [] pos) st Q := by
  intro A s r R F
  refine wpAny_Call_ofName (name_blt hb hk R ?_)
  have hs0 : ([e, .Name x p1] : List Expr).all notStar = true := by simp [hs]; rfl
  refine Calls.callWith_builtin (by rw [backTo_any]; exact starEach_all hs0) (evalArgs_of hs0 ?_)
  rw [starEach_cons hs, starEach_cons rfl]
  refine Calls.spliced_cons (wp_then (h A s r R F) fun v s1 o => Calls.spliced_cons ?_)
  obtain ⟨p, st1, R1, x1, r1, b, hb, q⟩ := o
  refine name_blt hx hkx R1 (Calls.spliced_nil ?_)
  cases hb with
  | i_t i => obtain ⟨t, rfl⟩ := r1.int'; exact IsiPair.int_tuple ⟨_, _, R1.toks _, x1, .bool, q⟩
  | i_i i => obtain ⟨t, rfl⟩ := r1.int'; exact IsiPair.int_int ⟨_, _, R1, x1, .bool, q⟩
  | i_b i => obtain ⟨t, rfl⟩ := r1.int'; exact IsiPair.int_bool ⟨_, _, R1.toks _, x1, .bool, q⟩
  | s_t i => obtain ⟨t, rfl⟩ := r1.str'; exact IsiPair.str_tuple ⟨_, _, R1.toks _, x1, .bool, q⟩
  | t_t l => obtain ⟨a, vs, rfl, ⟨k, t⟩, _⟩ := r1.tup'; exact IsiPair.tuple_tuple t rfl ⟨_, _, R1, x1, .bool, q⟩

-- a test that is any expression giving a bool
noncomputable def plainTest : Expr → Bool
  | .UnaryOp .Not _ _ => false
  | .BoolOp _ _ _ => false
  | .IfExp _ _ _ _ => false
  | .Compare _ _ _ _ => false
  | _ => true
theorem isTrue_plain {e : Expr} {t : Sem Value} (h : plainTest e = true) : isTrue e env t = (do let v ← t; standAt e.pos; holding [v] (truthy v)) := by
  cases e with
  | UnaryOp op x p => cases op <;> first | rfl | cases h
  | BoolOp => cases h
  | IfExp => cases h
  | Compare => cases h
  | _ => rfl
theorem b_val {e : Expr} {Q : Bool → PS → Prop} (hp : plainTest e = true) (h : WPe c n env ρ e st fun p st1 => ∃ b, p = .bool b ∧ Q b st1) : WPb c n env ρ e st Q := by
  intro A s r R F
  rw [isTrue_plain hp]
  refine wpAny_bind (wp_then (h A s r R F) fun v s1 o => ?_)
  obtain ⟨p, st1, R1, x1, r1, b, rfl, q⟩ := o
  obtain rfl := r1.bool'
  exact wpAny_bind (wpAny_standAt (wpAny_holding (wpAny_truthy_bool ⟨_, R1, x1, q⟩)))
theorem allTrue_cons_or {x : Expr} {rest : List Expr} {A : Around} {s : Shared} {P : Bool → Shared → Prop} (h : wpAny c.M A (isTrue x env (eval x env)) (fun b s1 => if b = true then P true s1 else wpAny c.M A (allTrue .Or rest env) P NoE s1) NoE s) :
    wpAny c.M A (allTrue .Or (x :: rest) env) P NoE s := by
  show wpAny _ _ (do match BoolOp.Or, ← isTrue x env (eval x env) with
    | .And, false => pure false
    | .Or, true => pure true
    | _, _ => allTrue .Or rest env) _ _ _
  refine wpAny_bind (wp_then h fun b s1 o => ?_)
  cases b with
  | true => exact wpAny_pure o
  | false => exact o
noncomputable def WPor (c : Cx) (n : Nat) (env : Env) (ρ : Vars) : List Expr → PS → (Bool → PS → Prop) → Prop
  | [], st, Q => Q false st
  | x :: rest, st, Q => WPb c n env ρ x st fun b st1 => if b = true then Q true st1 else WPor c n env ρ rest st1 Q
theorem or_run {xs : List Expr} {Q : Bool → PS → Prop} (h : WPor c n env ρ xs st Q) (r : Room n A) (R : StRel c st s) (F : FrameAt c env ρ st s.heap) : wpAny c.M A (allTrue .Or xs env) (OutB c st s.heap Q) NoE s := by
  induction xs generalizing st s with
  | nil => exact wpAny_pure ⟨st, R, Evo.refl _ _, h⟩
  | cons x rest ih =>
    refine allTrue_cons_or (wp_then (h A s r R F) fun b s1 o => ?_)
    obtain ⟨st1, R1, x1, q⟩ := o
    cases b with
    | true => exact ⟨_, R1, x1, q⟩
    | false => exact wp_then (ih q R1 (F.evo R x1)) fun _ _ o => o.from x1
theorem b_or {xs : List Expr} {pos : Pos} {Q : Bool → PS → Prop} (h : WPor c n env ρ xs st Q) : WPb c n env ρ (.BoolOp .Or xs pos) st Q := fun A s r R F => or_run h r R F

-- sums
theorem o_addl {a b : Addr} {l m : List PV} (ha : st a = some (.list l)) (hb : st b = some (.list m)) (hz : l.length + m.length ≤ 2 ^ 20) (h : ∀ d, st d = none → c.B.get? d = none → Q (.loc d) (st.set d (.list (l ++ m)))) :
    WP2 c n (binaryOp .Add) (.loc a) (.loc b) st Q := by
  intro A s v u r R rv ru
  obtain rfl := rv.loc'
  obtain rfl := ru.loc'
  obtain ⟨vs, ⟨k, ho⟩, rl⟩ := R.rep a _ ha
  obtain ⟨us, ⟨k', ho'⟩, rl'⟩ := R.rep b _ hb
  have e : List.toArray vs ++ List.toArray us = List.toArray (vs ++ us) := by simp
  have hsz : (List.toArray vs).size + (List.toArray us).size ≤ sizeLine := by rw [List.size_toArray, List.size_toArray, rl.length, rl'.length, sizeLine_eq]; omega
  refine concat_meets ⟨_, ho, rfl⟩ ⟨_, ho', rfl⟩ noFill_list_add seq_list_add PySem.F.slot_list_add PySem.F.entry_list_add (PySem.F.args_list_add_2 _ _) (list_addW a b (List.toArray vs) (List.toArray us) k k' none none #[] #[] hsz) ⟨ho, ho', ?_⟩
  rw [e]
  have kk : ∀ b o, s.heap.get? b = some o → (s.heap.push { cls := .type "list", data := .seq (vs ++ us).toArray }).get? b = some o := fun b o e => Heap.get?_push_of_some _ e
  have nw := new_addr (h := s.heap) R
  have ts : TupsStay s.heap (s.heap.push { cls := .type "list", data := .seq (vs ++ us).toArray }) := fun b us ⟨n, t⟩ => ⟨n, kk _ _ t⟩
  exact ⟨.loc s.heap.objs.size, _, R.alloc (po := .list (l ++ m)) (tk := s.toks) (get?_size _) kk ⟨_, ⟨0, Heap.get?_push_size _ rfl⟩, (rl.stay ts).append (rl'.stay ts)⟩, Evo.alloc (get?_size _) kk, .loc, h _ nw.1 nw.2⟩
theorem o_addt {l m : List PV} (hz : l.length + m.length ≤ 2 ^ 20) (h : Q (.tup (l ++ m)) st) : WP2 c n (binaryOp .Add) (.tup l) (.tup m) st Q := by
  intro A s v u r R rv ru
  obtain ⟨a, vs, rfl, ⟨k, ho⟩, rl⟩ := rv.tup'
  obtain ⟨b, us, rfl, ⟨k', ho'⟩, rl'⟩ := ru.tup'
  have e : List.toArray vs ++ List.toArray us = List.toArray (vs ++ us) := by simp
  by_cases hv : vs = []
  · have hl : l = [] := by have := rl.length; subst hv; exact List.eq_nil_of_length_eq_zero this.symm
    subst hl
    exact concat_meets ⟨_, ho, rfl⟩ ⟨_, ho', rfl⟩ noFill_tuple_add seq_tuple_add PySem.F.slot_tuple_add PySem.F.entry_tuple_add (PySem.F.args_tuple_add_2 _ _)
      (tuple_addW0 a b vs.toArray us.toArray k k' none none #[] #[] (by simp [hv])) ⟨ho, ho', ⟨_, _, R, Evo.refl _ _, .tup ⟨k', ho'⟩ rl', h⟩⟩
  · by_cases hw : us = []
    · have hl : m = [] := by have := rl'.length; subst hw; exact List.eq_nil_of_length_eq_zero this.symm
      subst hl
      rw [List.append_nil] at h
      exact concat_meets ⟨_, ho, rfl⟩ ⟨_, ho', rfl⟩ noFill_tuple_add seq_tuple_add PySem.F.slot_tuple_add PySem.F.entry_tuple_add (PySem.F.args_tuple_add_2 _ _)
        (tuple_addW1 a b vs.toArray us.toArray k k' none none #[] #[] (by simpa using hv) (by simp [hw])) ⟨ho, ho', ⟨_, _, R, Evo.refl _ _, .tup ⟨k, ho⟩ rl, h⟩⟩
    · have hsz : (List.toArray vs).size + (List.toArray us).size ≤ sizeLine := by rw [List.size_toArray, List.size_toArray, rl.length, rl'.length, sizeLine_eq]; omega
      refine concat_meets ⟨_, ho, rfl⟩ ⟨_, ho', rfl⟩ noFill_tuple_add seq_tuple_add PySem.F.slot_tuple_add PySem.F.entry_tuple_add (PySem.F.args_tuple_add_2 _ _)
        (tuple_addW2 a b vs.toArray us.toArray k k' none none #[] #[] (by simpa using hv) (by simpa using hw) hsz) ⟨ho, ho', ?_⟩
      rw [e]
      have kk : ∀ b o, s.heap.get? b = some o → (s.heap.push { cls := .type "tuple", data := .seq (vs ++ us).toArray }).get? b = some o := fun b o e => Heap.get?_push_of_some _ e
      have ts : TupsStay s.heap (s.heap.push { cls := .type "tuple", data := .seq (vs ++ us).toArray }) := fun b us ⟨n, t⟩ => ⟨n, kk _ _ t⟩
      exact ⟨.tup (l ++ m), st, R.grow (tk := s.toks) kk, Evo.grow kk, .tup ⟨0, Heap.get?_push_size _ rfl⟩ ((rl.stay ts).append (rl'.stay ts)), h⟩
end
end Mine

namespace Mine
open PySem PySem.W PyProof.Rows

noncomputable def isNameE : Expr → Bool
  | .Name _ _ => true
  | _ => false
section
variable {c : Cx} {n : Nat} {env : Env} {ρ : Vars} {st : PS} {s : Shared} {A : Around} {E : Value → Shared → Prop} {Q : PV → PS → Prop}

theorem part_of {v : Value} {k : Option Int} {P : Option Int → Shared → Prop} (hv : IsPart v k) (h : P k s) : wpAny c.M A (Builtin.Slice.slicePartIndex v) P E s := by
  cases hv with
  | none => exact slicePart_none h
  | int i t => exact slicePart_int h
theorem getItem_tup_cut {t sl : Addr} {items : Array Value} {vl vu : Value} {lo hi : Option Int} {a b : Nat} {P : Value → Shared → Prop} (ht : s.heap.get? t = some { cls := .type "tuple", data := .seq items n }) (hs : s.heap.IsSliceOf sl vl vu .none) (pl : IsPart vl lo) (pu : IsPart vu hi)
    (adj : Builtin.Slice.sliceAdjust lo hi 1 (items.size : Int) = ((a : Int), (b : Int))) (hab : a ≤ b) (hb : b ≤ items.size) (h1 : a = 0 → b = items.size → P (.ref t) s)
    (h2 : P (.ref s.heap.objs.size) { s with heap := s.heap.push { cls := .type "tuple", data := .seq ((items.toList.drop a).take (b - a)).toArray } })
    (hsz : items.size ≤ sizeLine) : wpAny c.M A (getItem (.ref t) (.ref sl)) P E s := by
  obtain ⟨os, hos, hcs, hds⟩ := id hs
  have hTs : s.TypeIs (.ref sl) "slice" := ⟨os, hos, hcs⟩
  have hT : s.TypeIs (.ref t) "tuple" := ⟨_, ht, rfl⟩
  have hdrop : sizeOk (.seq ((items.toList.drop a).take (b - a)).toArray) := by
    show ((items.toList.drop a).take (b - a)).toArray.size ≤ sizeLine
    rw [List.size_toArray, List.length_take, List.length_drop, Array.length_toList]
    omega
  unfold getItem
  try with_reducible refine wpAny_holding ?_
  first | refine wpAny_bind (wpAny_pure ?_) | skip
  refine wpAny_bind (wpAny_sequenceKey hT (by decide) ?_)
  refine wpAny_bind (wpAny_callSpecial?_slot (name := Str.ofString "__getitem__") hT PyProof.Rows.slot_tuple_getitem
    (wpAny_call_entry PyProof.Rows.slot_tuple_getitem hT PyProof.Rows.entry_tuple_getitem ?_ (args_tuple_getitem _ _)))
  show wpAny _ _ (Builtin.Tuple.tupleItemsOf (.ref t) >>= _) _ _ s
  refine wpAny_bind (wpAny_tupleItemsOf ht rfl ?_)
  refine wpAny_bind (wpAny_typeOf hTs ?_)
  rw [if_pos (by decide)]
  refine wpAny_bind (m := Builtin.Slice.sliceApplied _ _) ?_
  unfold Builtin.Slice.sliceApplied Builtin.Slice.sliceFields
  refine wpAny_bind (wpAny_bind (wpAny_field hos hds (x := vl) rfl (wpAny_bind (wpAny_field hos hds (x := vu) rfl (wpAny_bind (wpAny_field hos hds (x := .none) rfl (wpAny_pure ?_)))))))
  refine wpAny_bind (slicePart_none ?_)
  show wpAny _ _ (if ((1 : Int) == 0) = true then _ else _) _ _ s
  rw [if_neg (by decide)]
  refine wpAny_bind (part_of pl (wpAny_bind (part_of pu (wpAny_bind (wpAny_pure ?_)))))
  show wpAny _ _ (match Builtin.Slice.sliceAdjust lo hi 1 (items.size : Int) with | (lo, hi) => pure (lo, (1 : Int), Builtin.Slice.slicePlaces lo hi 1)) _ _ s
  rw [adj]
  refine wpAny_pure ?_
  have hp : Builtin.Slice.slicePlaces (a : Int) (b : Int) 1 = b - a := by
    unfold Builtin.Slice.slicePlaces
    simp only [show (1 : Int) > 0 by omega, if_true, Int.ediv_one]
    split <;> omega
  show wpAny _ _ (if ((a : Int) == 0 && (1 : Int) == 1 && (Builtin.Slice.slicePlaces (a : Int) (b : Int) 1) == items.size) = true then _ else _) _ _ s
  rw [hp]
  have e : (fun (k : Nat) => items[((a : Int) + (k : Int) * 1).toNat]?) = fun k => items[a + k]? := by
    funext k
    have : ((a : Int) + (k : Int) * 1).toNat = a + k := by omega
    rw [this]
  have pk : ((List.range (b - a)).filterMap fun (k : Nat) => items[((a : Int) + (k : Int) * 1).toNat]?).toArray = ((items.toList.drop a).take (b - a)).toArray := by
    rw [e]
    have := pick_run items a (b - a)
    rw [List.filterMap_map] at this
    exact congrArg List.toArray this
  by_cases hw : a = 0 ∧ b = items.size
  · obtain ⟨rfl, rfl⟩ := hw
    rw [if_pos (by simp)]
    unfold Builtin.Tuple.tupleIsExact
    refine wpAny_bind (wpAny_bind (wpAny_typeOf hT (wpAny_pure ?_)))
    rw [if_pos (by decide)]
    exact wpAny_bind (wpAny_rule (wpAny_pure ⟨_, rfl, wpAny_pure (h1 rfl rfl)⟩))
  · rw [if_neg (by simp only [Bool.and_eq_true, beq_iff_eq]; omega)]
    dsimp only
    rw [pk]
    exact wpAny_bind (m := Builtin.Tuple.tupleExact _) (wpAny_newObj_type (wpAny_pure ⟨_, rfl, wpAny_pure h2⟩) hdrop)

theorem adj_to (b n : Nat) (hb : b ≤ n) : Builtin.Slice.sliceAdjust none (some (b : Int)) 1 (n : Int) = (((0 : Nat) : Int), (b : Int)) := by
  unfold Builtin.Slice.sliceAdjust
  simp only [show ¬ ((1 : Int) < 0) by omega, show ¬ ((b : Int) < 0) by omega, if_false]
  congr 1
  omega
theorem tup_cut {o : Expr} {l? u? : Option Expr} {sp : Pos} {l : List PV} {v : Value} {vl vu : Value} {lo hi : Option Int} {a b : Nat} (R : StRel c st s) (rv : Rep s.heap (.tup l) v) (hz : l.length ≤ 2 ^ 20) (pl : IsPart vl lo) (pu : IsPart vu hi)
    (adj : Builtin.Slice.sliceAdjust lo hi 1 (l.length : Int) = ((a : Int), (b : Int))) (hab : a ≤ b) (hb : b ≤ l.length) (h : Q (.tup ((l.drop a).take (b - a))) st) :
    wpAny c.M A (subscriptTail o (.Slice l? u? none sp) v (.ref s.heap.objs.size)) (Out c st s.heap Q) NoE { s with heap := s.heap.push { cls := .type "slice", data := .fields #[vl, vu, .none] } } := by
  obtain ⟨t, vs, rfl, ⟨k, ht⟩, rl⟩ := rv.tup'
  have hl := rl.length
  have k1 : ∀ b o, s.heap.get? b = some o → (s.heap.push { cls := .type "slice", data := .fields #[vl, vu, .none] }).get? b = some o := fun b o e => Heap.get?_push_of_some _ e
  have ts1 : TupsStay s.heap _ := fun b us ⟨n, t⟩ => ⟨n, k1 _ _ t⟩
  have ht1 := k1 _ _ ht
  have hT : ({ s with heap := s.heap.push { cls := .type "slice", data := .fields #[vl, vu, .none] } } : Shared).TypeIs (.ref t) "tuple" := ⟨_, ht1, rfl⟩
  refine tail_any hT PyProof.Rows.slot_tuple_getitem.lookup (getItem_tup_cut (a := a) (b := b) ht1 (Heap.IsSliceOf.new ..) pl pu (by rw [List.size_toArray, hl]; exact adj) hab (by rw [List.size_toArray, hl]; exact hb) (fun h0 h1 => ?_) ?_ (by rw [List.size_toArray, hl, sizeLine_eq]; omega)) rfl
  · rw [List.size_toArray, hl] at h1
    subst h0; subst h1
    have e : (l.drop 0).take (l.length - 0) = l := by simp
    rw [e] at h
    exact ⟨.tup l, st, R.grow (tk := s.toks) k1, Evo.grow k1, .tup ⟨k, ht1⟩ (rl.stay ts1), h⟩
  · have k2 : ∀ y o, s.heap.get? y = some o → ((s.heap.push { cls := .type "slice", data := .fields #[vl, vu, .none] }).push { cls := .type "tuple", data := .seq (((List.toArray vs).toList.drop a).take (b - a)).toArray }).get? y = some o := fun y o e => Heap.get?_push_of_some _ (k1 y o e)
    exact ⟨_, st, R.grow (tk := s.toks) k2, Evo.grow k2, .tup ⟨0, Heap.get?_push_size _ rfl⟩ (((rl.drop a).take (b - a)).stay fun b us ⟨n, t⟩ => ⟨n, k2 _ _ t⟩), h⟩
theorem e_cut_to {o u : Expr} {sp pos : Pos} (h : WPe c n env ρ o st fun p st1 => WPe c n env ρ u st1 fun q st2 => ∃ (l : List PV) (k : Nat), p = .tup l ∧ q = .int k ∧ k ≤ l.length ∧ l.length ≤ 2 ^ 20 ∧ Q (.tup (l.take k)) st2) :
    WPe c n env ρ (.Subscript o (.Slice none (some u) none sp) pos) st Q := by
  intro A s rm R F
  refine PyProof.Rows.Subscript_ (wp_then (h A s rm R F) fun v s1 o => ?_)
  obtain ⟨p, st1, R1, x1, r1, q1⟩ := o
  rw [arm_eval_Slice]
  refine wpAny_bind (wpAny_pure (wpAny_bind (wpAny_holding (wp_then (q1 A s1 rm R1 (F.evo R x1)) fun u s2 o => wpAny_bind (wpAny_holding (wpAny_pure ?_))))))
  obtain ⟨q, st2, R2, x2, r2, l, k, rfl, rfl, hk, hz, q⟩ := o
  obtain ⟨t', rfl⟩ := r2.int'
  refine wpAny_newObj_type ?_ (by simp [sizeOk]; rw [sizeLine_eq]; omega)
  refine wp_then (tup_cut (a := 0) (b := k) (Q := Q) R2 (r1.stay (R1.stay x2)) hz .none (.int _ _) (adj_to _ _ hk) (Nat.zero_le _) hk ?_) fun _ _ o => o.from (x1.trans x2)
  simpa using q
theorem e_cut_from {o u : Expr} {sp pos : Pos} (h : WPe c n env ρ o st fun p st1 => WPe c n env ρ u st1 fun q st2 => ∃ (l : List PV) (k : Nat), p = .tup l ∧ q = .int k ∧ k ≤ l.length ∧ l.length ≤ 2 ^ 20 ∧ Q (.tup (l.drop k)) st2) :
    WPe c n env ρ (.Subscript o (.Slice (some u) none none sp) pos) st Q := by
  intro A s rm R F
  refine PyProof.Rows.Subscript_ (wp_then (h A s rm R F) fun v s1 o => ?_)
  obtain ⟨p, st1, R1, x1, r1, q1⟩ := o
  rw [arm_eval_Slice]
  refine wpAny_bind (wp_then (q1 A s1 rm R1 (F.evo R x1)) fun u s2 o => wpAny_bind (wpAny_holding (wpAny_pure (wpAny_bind (wpAny_holding (wpAny_pure ?_))))))
  obtain ⟨q, st2, R2, x2, r2, l, k, rfl, rfl, hk, hz, q⟩ := o
  obtain ⟨t', rfl⟩ := r2.int'
  refine wpAny_newObj_type ?_ (by simp [sizeOk]; rw [sizeLine_eq]; omega)
  refine wp_then (tup_cut (a := k) (b := l.length) (Q := Q) R2 (r1.stay (R1.stay x2)) hz (.int _ _) .none (adjust_from _ _ hk) hk (Nat.le_refl _) ?_) fun _ _ o => o.from (x1.trans x2)
  rw [List.take_of_length_le (by simp)]
  exact q

-- methods of built-in types
noncomputable def objTy : PO → String
  | .list _ => "list"
  | .dictS _ => "dict"
  | .dictI _ => "dict"
  | .dictT _ => "dict"
  | .inst _ _ => "object"
  | .attrs _ => "dict"
noncomputable def isInst : PO → Bool
  | .inst _ _ => true
  | _ => false
theorem ObjRep.ty {h : Heap} {a : Addr} {po : PO} (r : ObjRep c h a po) (hi : isInst po = false) : ∃ o, h.get? a = some o ∧ o.cls = .type (objTy po) ∧ o.dict = none := by
  cases po with
  | list l => obtain ⟨vs, ⟨k, e⟩, _⟩ := r; exact ⟨_, e, rfl, rfl⟩
  | dictS l => obtain ⟨_, vs, _, ⟨o, es, ep, e, x, _⟩, _⟩ := r; exact ⟨_, e, x.1, x.2.1⟩
  | dictI l => obtain ⟨_, vs, _, ⟨o, es, ep, e, x, _⟩, _⟩ := r; exact ⟨_, e, x.1, x.2.1⟩
  | dictT l => obtain ⟨_, o, es, ep, xs, e, x, _⟩ := r; exact ⟨_, e, x.1, x.2.1⟩
  | inst C dx => cases hi
  | attrs l => obtain ⟨es, k, e, _⟩ := r; exact ⟨_, e, rfl, rfl⟩
noncomputable def notCall : Expr → Bool
  | .Call _ _ _ _ => false
  | _ => true
theorem base_plain {o : Expr} {x : Str} {m : Sem Value} (h : notCall o = true) : attributeBase o x env m = m := by
  cases o <;> first | rfl | cases h
theorem starEach_all' {es : List Expr} (h : es.all notStar = true) : (starEach es env).all (fun x => !x.1) = true := by
  induction es with
  | nil => rfl
  | cons e es ih =>
    simp only [List.all_cons, Bool.and_eq_true] at h
    rw [starEach_cons h.1, List.all_cons, ih h.2]; rfl
theorem backTo_all (pos : Pos) (ts : List (Bool × Sem Value)) : (backTo pos ts).all (fun x => !x.1) = ts.all (fun x => !x.1) := by
  induction ts with
  | nil => rfl
  | cons t ts ih => obtain ⟨b, t⟩ := t; simp only [backTo, List.map_cons, List.all_cons] at ih ⊢; rw [ih]
theorem e_meth {o : Expr} {x : Str} {apos pos : Pos} {args : List Expr} {T id : String} (hT : PlainAttrs T) (slot : Slot T x id) (hty : typeOf (.builtin id) = pure (.type "method_descriptor")) (ho : notCall o = true) (hs : args.all notStar = true) (hn : args.length < 29)
    (hline : (apos.endLine == pos.line) = true)
    (h : WPe c n env ρ o st fun p st1 => ∃ a po, p = .loc a ∧ st1 a = some po ∧ isInst po = false ∧ objTy po = T ∧ WPl c n env ρ args st1 fun ps st2 => WPc c n (.builtin id) (.loc a :: ps) st2 Q) :
    WPe c n env ρ (.Call (.Attribute o x apos) args [] pos) st Q := by
  intro A s r R F
  refine wpAny_Call_method (base_plain ho) (by rw [backTo_all, starEach_all' hs]; simp [backToKw, keywordEach]; omega) hline hT slot hty (wp_then (h A s r R F) fun v s1 o => ?_)
  obtain ⟨p, st1, R1, x1, r1, a, po, rfl, ha, hi, hT', q⟩ := o
  obtain rfl := r1.loc'
  obtain ⟨ob, hob, hc, hd⟩ := (R1.rep a po ha).ty hi
  refine ⟨⟨ob, hob, by rw [hc, hT']⟩, fun b e => by cases e; exact ⟨ob, hob, hd⟩, ?_⟩
  refine Calls.callWith_builtin (by rw [backTo_any]; exact starEach_all hs) (evalArgs_of hs (wp_then (q A s1 pos r R1 (F.evo R x1)) fun vs s2 o => ?_))
  obtain ⟨ps, st2, R2, x2, r2, q⟩ := o
  exact wp_then (q A s2 _ r R2 (.cons .loc r2)) fun _ _ o => o.from (x1.trans x2)

theorem c_append {a : Addr} {l : List PV} {q : PV} (ha : st a = some (.list l)) (hz : l.length ≤ 2 ^ 20) (h : Q .none (st.set a (.list (l ++ [q])))) : WPc c n (.builtin "list.append") [.loc a, q] st Q := by
  intro A s vs r R rl
  obtain ⟨v, vs', rfl, rv, rl'⟩ := rl.cons_inv
  obtain ⟨u, vs', rfl, ru, rl'⟩ := rl'.cons_inv
  obtain rfl := rl'.nil_inv
  obtain rfl := rv.loc'
  obtain ⟨us, pl, rs⟩ := R.rep a _ ha
  obtain ⟨k, e⟩ := id pl
  refine wpAny_call_entry PySem.F.slot_list_append pl.isList.typeIs PySem.F.entry_list_append ?_ (PySem.F.args_list_append_2 _ _)
  show wpAny _ _ (Builtin.List.listUpdate (.ref a) (·.push u) >>= fun _ => ret .none) _ _ s
  refine wpAny_bind (listUpdate_at e rfl (wpAny_pure ⟨_, rfl, ?_⟩) (by rw [List.size_toArray, rs.length, sizeLine_eq]; omega) (by rw [Array.size_push, List.size_toArray, rs.length, sizeLine_eq]; omega))
  have so := get?_update_seq e (·.push u)
  have sb : Heap.SameBut a s.heap (s.heap.update a (Obj.mapSeq (·.push u))) := Heap.SameBut.update ..
  have ts : TupsStay s.heap (s.heap.update a (Obj.mapSeq (·.push u))) := fun b vs ⟨n, t⟩ => ⟨n, (sb.2 b (by rintro rfl; rw [e] at t; simp at t)).trans t⟩
  have ro : ObjRep c (s.heap.update a (Obj.mapSeq (·.push u))) a (.list (l ++ [q])) := ⟨us ++ [u], ⟨_, by simpa using so⟩, (rs.stay ts).append (.cons (ru.stay ts) .nil)⟩
  exact ⟨_, _, R.upd (tk := s.toks) ha sb ro, Evo.upd ha sb ro, .none, h⟩
theorem c_pop {a : Addr} {l : List PV} {q : PV} (ha : st a = some (.list (l ++ [q]))) (hz : l.length < 2 ^ 20) (h : Q q (st.set a (.list l))) : WPc c n (.builtin "list.pop") [.loc a] st Q := by
  intro A s vs r R rl
  obtain ⟨v, vs', rfl, rv, rl'⟩ := rl.cons_inv
  obtain rfl := rl'.nil_inv
  obtain rfl := rv.loc'
  obtain ⟨us, pl, rs⟩ := R.rep a _ ha
  have hl := rs.length
  simp only [List.length_append, List.length_cons, List.length_nil] at hl
  obtain ⟨x, hx, rx⟩ := rs.get (i := l.length) (p := q) (by simp)
  obtain ⟨k, e⟩ := id pl
  refine wpAny_call_entry PySem.F.slot_list_pop pl.isList.typeIs PySem.F.entry_list_pop ?_ (PySem.F.args_list_pop_1 _)
  have hne : (List.toArray us).isEmpty = false := by cases us <;> simp at hl ⊢
  have e1 : seqIndex? (-1) (List.toArray us).size = some l.length := by
    rw [PySem.seqIndex_neg (by omega) (by rw [List.size_toArray]; omega)]
    congr 1
    rw [List.size_toArray]; omega
  show wpAny _ _ (Builtin.List.listItems (.ref a) >>= _) _ _ s
  refine wpAny_bind (listItems_at e rfl ?_)
  rw [hne]
  simp only [Bool.false_eq_true, if_false]
  rw [e1]
  have e2 : (List.toArray us)[l.length]? = some x := by simpa using hx
  simp only [Option.bind_some, e2, Option.map_some]
  have ee : (List.toArray us).eraseIdxIfInBounds l.length = List.toArray (us.take l.length) := by
    apply Array.toList_inj.mp
    unfold Array.eraseIdxIfInBounds
    rw [dif_pos (by rw [List.size_toArray]; omega)]
    simp [List.eraseIdx_eq_take_drop_succ]
    omega
  refine wpAny_bind (listUpdate_at e rfl (wpAny_pure ⟨_, rfl, ?_⟩) (by rw [List.size_toArray, sizeLine_eq]; omega) (by
    rw [ee, List.size_toArray, List.length_take, sizeLine_eq]; omega))
  have so := get?_update_seq e (·.eraseIdxIfInBounds l.length)
  rw [ee] at so
  have sb : Heap.SameBut a s.heap (s.heap.update a (Obj.mapSeq (·.eraseIdxIfInBounds l.length))) := Heap.SameBut.update ..
  have ts : TupsStay s.heap (s.heap.update a (Obj.mapSeq (·.eraseIdxIfInBounds l.length))) := fun b vs ⟨n, t⟩ => ⟨n, (sb.2 b (by rintro rfl; rw [e] at t; simp at t)).trans t⟩
  have ro : ObjRep c (s.heap.update a (Obj.mapSeq (·.eraseIdxIfInBounds l.length))) a (.list l) := ⟨us.take l.length, ⟨_, so⟩, by have := (rs.take l.length).stay ts; simpa using this⟩
  exact ⟨q, _, R.upd (tk := s.toks) ha sb ro, Evo.upd ha sb ro, rx.stay ts, h⟩
theorem c_extend {a b : Addr} {l m : List PV} (ha : st a = some (.list l)) (hb : st b = some (.list m)) (hz : l.length + m.length ≤ 2 ^ 20) (h : Q .none (st.set a (.list (l ++ m)))) : WPc c n (.builtin "list.extend") [.loc a, .loc b] st Q := by
  intro A s vs r R rl
  obtain ⟨v, vs', rfl, rv, rl'⟩ := rl.cons_inv
  obtain ⟨u, vs', rfl, ru, rl'⟩ := rl'.cons_inv
  obtain rfl := rl'.nil_inv
  obtain rfl := rv.loc'
  obtain rfl := ru.loc'
  obtain ⟨us, pl, rs⟩ := R.rep a _ ha
  obtain ⟨ws, pm, rw'⟩ := R.rep b _ hb
  have h1 := rs.length
  have h2 := rw'.length
  obtain ⟨k, e⟩ := id pl
  obtain ⟨k2, e'⟩ := id pm
  refine wpAny_call_entry PySem.F.slot_list_extend pl.isList.typeIs PySem.F.entry_list_extend ?_ (PySem.F.args_list_extend_2 _ _)
  show wpAny _ _ (Builtin.List.listExtendWith (.ref a) (.ref b) .none) _ _ s
  unfold Builtin.List.listExtendWith
  refine wpAny_bind (wpAny_typeOf (T := "list") ⟨_, e', rfl⟩ ?_)
  have c1 : (Builtin.List.listSameRef (.ref a) (.ref b) || Value.type "list" == Value.type "list" || Value.type "list" == Value.type "tuple") = true := by simp
  simp only [c1, if_true]
  refine wpAny_bind (listItems_at e' rfl ?_)
  refine wpAny_bind (listItems_at e rfl ?_)
  have c2 : Builtin.List.listTooLong ((List.toArray us).size + (List.toArray ws).size) = false := by
    unfold Builtin.List.listTooLong
    rw [List.size_toArray, List.size_toArray]
    exact decide_eq_false (by rw [sizeLine_eq]; omega)
  rw [c2, Bool.and_false]
  simp only [Bool.false_eq_true, if_false]
  refine wpAny_bind (listUpdate_at e rfl (wpAny_pure ⟨_, rfl, ?_⟩) (by rw [List.size_toArray, sizeLine_eq]; omega) (by simp only [Array.size_append, List.size_toArray]; rw [sizeLine_eq]; omega))
  have so := get?_update_seq e (· ++ List.toArray ws)
  have sb : Heap.SameBut a s.heap (s.heap.update a (Obj.mapSeq (· ++ List.toArray ws))) := Heap.SameBut.update ..
  have ts : TupsStay s.heap (s.heap.update a (Obj.mapSeq (· ++ List.toArray ws))) := fun b vs ⟨n, t⟩ => ⟨n, (sb.2 b (by rintro rfl; rw [e] at t; simp at t)).trans t⟩
  have ro : ObjRep c (s.heap.update a (Obj.mapSeq (· ++ List.toArray ws))) a (.list (l ++ m)) := ⟨us ++ ws, ⟨_, by simpa using so⟩, (rs.stay ts).append (rw'.stay ts)⟩
  exact ⟨_, _, R.upd (tk := s.toks) ha sb ro, Evo.upd ha sb ro, .none, h⟩
end
end Mine

namespace Mine
open PySem PySem.W PyProof.Rows

section
variable {K : Type} [DecidableEq K]
noncomputable def look (l : List (K × PV)) (k : K) : Option PV := (l.find? fun x => decide (x.1 = k)).map (·.2)
noncomputable def putK (l : List (K × PV)) (k : K) (p : PV) : List (K × PV) := if l.any (fun x => decide (x.1 = k)) then l.map (fun x => if x.1 = k then (x.1, p) else x) else l ++ [(k, p)]
theorem valueAt_zip {h : Heap} : ∀ {l : List (K × PV)} {vs : List Value}, RepL h (l.map (·.2)) vs → ∀ {k : K} {p : PV}, look l k = some p → ∃ v, valueAt ((l.map (·.1)).zip vs) k = some v ∧ Rep h p v
  | [], vs, r, k, p, e => by simp [look] at e
  | x :: l, vs, r, k, p, e => by
    obtain ⟨v, vs', rfl, rv, r'⟩ := r.cons_inv
    by_cases hx : x.1 = k
    · simp only [look, List.find?_cons, hx, decide_true, Option.map_some, Option.some.injEq] at e
      subst e
      exact ⟨v, by simp [valueAt, hx], rv⟩
    · have e' : look l k = some p := by simpa [look, hx] using e
      obtain ⟨u, hu, ru⟩ := valueAt_zip r' e'
      exact ⟨u, by simpa [valueAt, hx] using hu, ru⟩
theorem valueAt_zip_none {h : Heap} : ∀ {l : List (K × PV)} {vs : List Value}, RepL h (l.map (·.2)) vs → ∀ {k : K}, look l k = none → valueAt ((l.map (·.1)).zip vs) k = none
  | [], vs, r, k, e => by simp [valueAt]
  | x :: l, vs, r, k, e => by
    obtain ⟨v, vs', rfl, rv, r'⟩ := r.cons_inv
    by_cases hx : x.1 = k
    · simp [look, hx] at e
    · have e' : look l k = none := by simpa [look, hx] using e
      have := valueAt_zip_none r' e'
      simpa [valueAt, hx] using this
theorem valueAt_isSome {h : Heap} {l : List (K × PV)} {vs : List Value} (r : RepL h (l.map (·.2)) vs) (k : K) : (valueAt ((l.map (·.1)).zip vs) k).isSome = (look l k).isSome := by
  cases e : look l k with
  | none => rw [valueAt_zip_none r e]; rfl
  | some p => obtain ⟨v, hv, _⟩ := valueAt_zip r e; rw [hv]; rfl
theorem stored_zip {h : Heap} {l : List (K × PV)} {vs : List Value} (r : RepL h (l.map (·.2)) vs) (k : K) {p : PV} {v : Value} (rv : Rep h p v) :
    ∃ vs', vs'.length = (putK l k p).length ∧ stored ((l.map (·.1)).zip vs) k v = ((putK l k p).map (·.1)).zip vs' ∧ RepL h ((putK l k p).map (·.2)) vs' := by
  have hany : ∀ {l : List (K × PV)} {vs : List Value}, RepL h (l.map (·.2)) vs → ((l.map (·.1)).zip vs).any (fun kv => decide (kv.1 = k)) = l.any (fun x => decide (x.1 = k)) := by
    intro l
    induction l with
    | nil => intro vs _; simp
    | cons x l ih =>
      intro vs r
      obtain ⟨u, vs', rfl, ru, r'⟩ := r.cons_inv
      simp only [List.map_cons, List.zip_cons_cons, List.any_cons]
      rw [ih r']
  unfold stored putK
  rw [hany r]
  cases hb : l.any (fun x => decide (x.1 = k)) with
  | true =>
    simp only [if_true]
    clear hb hany
    induction l generalizing vs with
    | nil => exact ⟨[], rfl, by simp, .nil⟩
    | cons x l ih =>
      obtain ⟨u, vs', rfl, ru, r'⟩ := r.cons_inv
      obtain ⟨ws, h1, h2, h3⟩ := ih r'
      by_cases hx : x.1 = k
      · exact ⟨v :: ws, by simpa using h1, by simp only [List.map_cons, List.zip_cons_cons, hx, if_true]; rw [h2], by simp only [List.map_cons, hx, if_true]; exact .cons rv h3⟩
      · exact ⟨u :: ws, by simpa using h1, by simp only [List.map_cons, List.zip_cons_cons, hx, if_false]; rw [h2], by simp only [List.map_cons, hx, if_false]; exact .cons ru h3⟩
  | false =>
    simp only [Bool.false_eq_true, if_false]
    have hl := r.length
    rw [List.length_map] at hl
    refine ⟨vs ++ [v], by simp [hl], ?_, ?_⟩
    · rw [List.map_append, List.zip_append (by simp [hl])]; rfl
    · rw [List.map_append]; exact r.append (.cons rv .nil)
end

section
variable {c : Cx} {n : Nat} {env : Env} {ρ : Vars} {st : PS} {s : Shared} {A : Around} {E : Value → Shared → Prop} {Q : PV → PS → Prop}

/-- the module's own table stands below: no new table is the machine's table of modules -/
noncomputable def Sys (c : Cx) : Prop := ∃ o, c.B.get? mainGlobals = some o
theorem StRel.size_ne (R : StRel c st s) (hs : Sys c) : s.heap.objs.size ≠ sysModules := by
  obtain ⟨o, e⟩ := hs
  have := Heap.lt_size (R.base _ _ e)
  have e3 : mainGlobals = 3 := rfl
  have e1 : sysModules = 1 := rfl
  rw [e3] at this
  rw [e1]
  intro h
  rw [h] at this
  exact absurd this (by decide)

theorem strIs (x : Str) (t : Tok) : (PySem.strKind c.prog c.w).is x (.str x t) = true := by
  show Value.isStrOf x (.str x t) = true
  simp [Value.isStrOf]
theorem intIs (x : Int) (t : Tok) : (PySem.intKind c.prog c.w).is x (.int x t) = true := by
  show Value.isInt x (.int x t) = true
  simp [Value.isInt]

-- items
theorem g_dictS {o i : Expr} {a : Addr} {l : List (Str × PV)} {x : Str} {p : PV} (hi : notSlice i = true) (ha : st a = some (.dictS l)) (hp : look l x = some p) (h : Q p st) : WPg c n o i (.loc a) (.str x) st Q := by
  intro A s v u r R rv ru
  obtain rfl := rv.loc'
  obtain ⟨t', rfl⟩ := ru.str'
  obtain ⟨hne, vs, hl, hm, rl⟩ := R.rep a _ ha
  obtain ⟨w, hw, rw'⟩ := valueAt_zip rl hp
  exact tail_any hm.typeIs slot_dict_getitem.lookup (wpAny_getItem_of (strIs _ _) hm.mapOf hw ⟨_, _, R.toks _, Evo.refl _ _, rw', h⟩) (sub_plain hi)
theorem g_dictI {o i : Expr} {a : Addr} {l : List (Int × PV)} {x : Int} {p : PV} (hi : notSlice i = true) (ha : st a = some (.dictI l)) (hp : look l x = some p) (h : Q p st) : WPg c n o i (.loc a) (.int x) st Q := by
  intro A s v u r R rv ru
  obtain rfl := rv.loc'
  obtain ⟨t', rfl⟩ := ru.int'
  obtain ⟨hne, vs, hl, hm, rl⟩ := R.rep a _ ha
  obtain ⟨w, hw, rw'⟩ := valueAt_zip rl hp
  exact tail_any hm.typeIs slot_dict_getitem.lookup (wpAny_getItem_of (intIs _ _) hm.mapOf hw ⟨_, _, R.toks _, Evo.refl _ _, rw', h⟩) (sub_plain hi)
theorem o_inS {a : Addr} {l : List (Str × PV)} {x : Str} (ha : st a = some (.dictS l)) (h : Q (.bool (look l x).isSome) st) : WP2 c n (compareOp .In) (.str x) (.loc a) st Q := by
  intro A s v u r R rv ru
  obtain ⟨t', rfl⟩ := rv.str'
  obtain rfl := ru.loc'
  obtain ⟨hne, vs, hl, hm, rl⟩ := R.rep a _ ha
  exact wpAny_in_of (strIs _ _) (beq_eq_false_iff_ne.mpr hne) hm.mapOf ⟨_, _, R.toks _, Evo.refl _ _, by rw [valueAt_isSome rl]; exact .bool, h⟩
theorem o_inI {a : Addr} {l : List (Int × PV)} {x : Int} (ha : st a = some (.dictI l)) (h : Q (.bool (look l x).isSome) st) : WP2 c n (compareOp .In) (.int x) (.loc a) st Q := by
  intro A s v u r R rv ru
  obtain ⟨t', rfl⟩ := rv.int'
  obtain rfl := ru.loc'
  obtain ⟨hne, vs, hl, hm, rl⟩ := R.rep a _ ha
  exact wpAny_in_of (intIs _ _) (beq_eq_false_iff_ne.mpr hne) hm.mapOf ⟨_, _, R.toks _, Evo.refl _ _, by rw [valueAt_isSome rl]; exact .bool, h⟩
theorem c_len_dictS {a : Addr} {l : List (Str × PV)} (ha : st a = some (.dictS l)) (hz : l.length < 2 ^ 60) (h : Q (.int l.length) st) : WPc c n (.builtin "len") [.loc a] st Q := by
  intro A s vs r R rl
  obtain ⟨v, vs', rfl, rv, rl'⟩ := rl.cons_inv
  obtain rfl := rl'.nil_inv
  obtain rfl := rv.loc'
  obtain ⟨hne, us, hl, hm, ru⟩ := R.rep a _ ha
  have e : (((l.map (·.1)).zip us).length : Int) = l.length := by simp [hl]
  refine call_len_dict (beq_eq_false_iff_ne.mpr hne) hm (by omega) ?_
  rw [e]
  exact ⟨_, _, R.toks _, Evo.refl _ _, .int, h⟩

-- stores
noncomputable def WPset (c : Cx) (n : Nat) (p po pi : PV) (st : PS) (Q : PS → Prop) : Prop :=
  ∀ A s v vo vi, Room n A → StRel c st s → Rep s.heap p v → Rep s.heap po vo → Rep s.heap pi vi → wpAny c.M A (setItem vo vi v) (OutU c st s.heap Q) NoE s
theorem set_dictS {a : Addr} {l : List (Str × PV)} {x : Str} {p : PV} {Q : PS → Prop} (ha : st a = some (.dictS l)) (hz : l.length ≤ 2 ^ 20) (h : Q (st.set a (.dictS (putK l x p)))) : WPset c n p (.loc a) (.str x) st Q := by
  intro A s v vo vi r R rv ro ri
  obtain rfl := ro.loc'
  obtain ⟨t, rfl⟩ := ri.str'
  obtain ⟨hne, vs, hl, hm, rl⟩ := R.rep a _ ha
  refine wpAny_setItem_pairs (strIs _ _) hm (fun h' hm' sb => ?_) (by rw [List.length_zip, sizeLine_eq]; simp; omega)
  have ts : TupsStay s.heap h' := fun b us ⟨n, t⟩ => ⟨n, (sb.2 b (by rintro rfl; obtain ⟨o, es, ep, ho, x, _⟩ := hm; rw [t] at ho; cases ho; exact absurd x.1 (by simp))).trans t⟩
  obtain ⟨vs', h1, h2, h3⟩ := stored_zip rl x rv
  rw [h2] at hm'
  have ob : ObjRep c h' a (.dictS (putK l x p)) := ⟨hne, vs', h1, hm', h3.stay ts⟩
  exact ⟨_, R.upd (tk := s.toks + 1) ha sb ob, Evo.upd ha sb ob, h⟩
theorem set_dictI {a : Addr} {l : List (Int × PV)} {x : Int} {p : PV} {Q : PS → Prop} (ha : st a = some (.dictI l)) (hz : l.length ≤ 2 ^ 20) (h : Q (st.set a (.dictI (putK l x p)))) : WPset c n p (.loc a) (.int x) st Q := by
  intro A s v vo vi r R rv ro ri
  obtain rfl := ro.loc'
  obtain ⟨t, rfl⟩ := ri.int'
  obtain ⟨hne, vs, hl, hm, rl⟩ := R.rep a _ ha
  refine wpAny_setItem_pairs (intIs _ _) hm (fun h' hm' sb => ?_) (by rw [List.length_zip, sizeLine_eq]; simp; omega)
  have ts : TupsStay s.heap h' := fun b us ⟨n, t⟩ => ⟨n, (sb.2 b (by rintro rfl; obtain ⟨o, es, ep, ho, x, _⟩ := hm; rw [t] at ho; cases ho; exact absurd x.1 (by simp))).trans t⟩
  obtain ⟨vs', h1, h2, h3⟩ := stored_zip rl x rv
  rw [h2] at hm'
  have ob : ObjRep c h' a (.dictI (putK l x p)) := ⟨hne, vs', h1, hm', h3.stay ts⟩
  exact ⟨_, R.upd (tk := s.toks + 1) ha sb ob, Evo.upd ha sb ob, h⟩

-- get
theorem c_getI {a : Addr} {l : List (Int × PV)} {x : Int} {q : PV} (ha : st a = some (.dictI l)) (h : Q ((look l x).getD q) st) : WPc c n (.builtin "dict.get") [.loc a, .int x, q] st Q := by
  intro A s vs r R rl
  obtain ⟨v, vs', rfl, rv, rl'⟩ := rl.cons_inv
  obtain ⟨u, vs', rfl, ru, rl'⟩ := rl'.cons_inv
  obtain ⟨w, vs', rfl, rw', rl'⟩ := rl'.cons_inv
  obtain rfl := rl'.nil_inv
  obtain rfl := rv.loc'
  obtain ⟨t, rfl⟩ := ru.int'
  obtain ⟨hne, us, hl, hm, rs⟩ := R.rep a _ ha
  refine call_meetsIn PySem.F.slot_dict_get hm.typeIs PySem.F.entry_dict_get (PySem.F.args_dict_get_3 _ _ _) (meets_dict_get_default (PySem.intKind c.prog c.w) a (intIs x t) (beq_eq_false_iff_ne.mpr hne) w) ⟨_, hm.mapOf, ?_⟩
  refine ⟨_, _, R.toks _, Evo.refl _ _, ?_, h⟩
  cases e : look l x with
  | none => rw [valueAt_zip_none rs e]; exact rw'
  | some p => obtain ⟨v, hv, r⟩ := valueAt_zip rs e; rw [hv]; exact r

-- displays
theorem e_dict0S {pos : Pos} (hs : Sys c) (h : ∀ a, st a = none → c.B.get? a = none → Q (.loc a) (st.set a (.dictS []))) : WPe c n env ρ (.Dict [] [] pos) st Q := by
  intro A s r R F
  refine wpAny_Dict_empty ?_
  have kk : ∀ b o, s.heap.get? b = some o → (s.heap.push { cls := Value.type "dict", data := Data.dict #[] }).get? b = some o := fun b o e => Heap.get?_push_of_some _ e
  have nw := new_addr (h := s.heap) R
  exact ⟨_, _, R.alloc (po := .dictS []) (tk := s.toks) (get?_size _) kk ⟨R.size_ne hs, [], rfl, Heap.DictOf.new _, .nil⟩, Evo.alloc (get?_size _) kk, .loc, h _ nw.1 nw.2⟩
theorem e_dict0I {pos : Pos} (hs : Sys c) (h : ∀ a, st a = none → c.B.get? a = none → Q (.loc a) (st.set a (.dictI []))) : WPe c n env ρ (.Dict [] [] pos) st Q := by
  intro A s r R F
  refine wpAny_Dict_empty ?_
  have kk : ∀ b o, s.heap.get? b = some o → (s.heap.push { cls := Value.type "dict", data := Data.dict #[] }).get? b = some o := fun b o e => Heap.get?_push_of_some _ e
  have nw := new_addr (h := s.heap) R
  exact ⟨_, _, R.alloc (po := .dictI []) (tk := s.toks) (get?_size _) kk ⟨R.size_ne hs, [], rfl, Heap.DictOf.new _, .nil⟩, Evo.alloc (get?_size _) kk, .loc, h _ nw.1 nw.2⟩
end
end Mine

namespace Mine
open PySem

theorem list_no_keys : typeLookup (.type "list") "keys" = pure none := by rw [typeLookup_type, builtinLookup_eq_fast]; kernel_rfl
theorem entry_upd_loop : entryFor table "dict.update.loop" = some Builtin.«dict.update.loop» := entryFor_of_fast (by kernel_rfl)
theorem plain_upd_loop : plainId "dict.update.loop" = true := by decide +kernel

section
variable {prog : Program} {w : World} {A : Around} {E : Value → Shared → Prop} {s : Shared}
theorem keys_miss {a : Addr} {xs : Array Value} {k : Nat} {Q : Option Value → Shared → Prop} (hx : s.heap.get? a = some { cls := .type "list", data := .seq xs k }) (hA : A.handled = none)
    (h : ∀ h' tk, (∀ b ob, s.heap.get? b = some ob → h'.get? b = some ob) → Q none { s with heap := h', toks := tk }) : wpAny (model prog w) A (getAttr? (.ref a) "keys") Q E s := by
  obtain ⟨hp, g, d, tk, os⟩ := s
  have hT : ∀ tk', (⟨hp, g, d, tk', os⟩ : Shared).TypeIs (.ref a) "list" := fun _ => ⟨_, hx, rfl⟩
  have f1 := sub_AttributeError
  have f3 := F.slot_list_getattribute.lookup
  have f4 := F.slot_list_getattribute.bind (.ref a)
  have f5 := am_list_getattr_none
  unfold getAttr? getAttrBy? getAttrBy
  repeat (any_goals (first | assumption | exact hT _ | ((with_reducible show wpAny _ _ (call (Value.builtin "list.__getattribute__") _ _) _ _ _); refine call_meets F.slot_list_getattribute (hT _) am_entry_list_getattribute (F.args_list_getattribute_2 _ _) (meets_getattribute_miss_list a xs k #[] "keys" _ list_no_keys (by decide) (by rw [sizeLine_eq]; decide)) ⟨hx, hA, fun h' tk' e hx' => ?_⟩) | wp_step))
  obtain ⟨t', u', he⟩ := hx'.there
  show wpAny _ _ (getattributeRaised _ _ _ _ _ _ _) _ _ _
  unfold getattributeRaised
  repeat (any_goals (first | assumption | wp_step))
  exact h h' tk' hx'.keeps
end

section
variable {c : Cx} {n : Nat} {env : Env} {ρ : Vars} {st : PS} {s : Shared} {A : Around} {E : Value → Shared → Prop} {Q : PV → PS → Prop}
theorem itemsAre_of {h : Heap} : ∀ {ks : List Int} {vs : List Value}, RepL h (ks.map .int) vs → ItemsAre (intKind c.prog c.w) ks vs
  | [], vs, r => by rw [r.nil_inv]; exact .nil
  | k :: ks, vs, r => by
    obtain ⟨v, vs', rfl, rv, r'⟩ := r.cons_inv
    obtain ⟨t, rfl⟩ := rv.int'
    exact .cons (intIs k t) (itemsAre_of r')
theorem key_of {h : Heap} {ks : List Int} {v : Value} (r : Rep h (.tup (ks.map .int)) v) : ∃ a, v = .ref a ∧ (tupleKind (intKind c.prog c.w)).is h ks a := by
  obtain ⟨a, vs, rfl, ⟨n, t⟩, rl⟩ := r.tup'
  exact ⟨a, rfl, _, _, n, t, rfl, rfl, by simpa using itemsAre_of rl⟩
theorem dictT_of {h : Heap} {a : Addr} {l : List (List Int)} (r : ObjRep c h a (.dictT l)) : ∃ xs : List (List Int × Addr × Value), xs.map (·.1) = l ∧ h.DictOfH (tupleKind (intKind c.prog c.w)) a xs ∧ (∀ x ∈ xs, Rep h (.tup (x.1.map .int)) (.ref x.2.1)) := by
  obtain ⟨_, o, es, ep, xs, e1, e2, e3, e4, e5, e6, e7⟩ := r
  refine ⟨xs, e5, ⟨o, es, ep, e1, e2, e3, e4, fun x hx => ?_, by rw [e5]; exact e6⟩, e7⟩
  obtain ⟨b, hb, hk⟩ := key_of (c := c) (e7 x hx)
  cases hb; exact hk
theorem atKey_none {xs : List (List Int × Addr × Value)} {k : List Int} (h : k ∉ xs.map (·.1)) : atKey xs k = none := by
  unfold atKey
  rw [List.find?_eq_none.mpr, Option.map_none]
  intro x hx
  simp only [decide_eq_true_eq]
  rintro rfl
  exact h (List.mem_map.mpr ⟨x, hx, rfl⟩)
theorem atKey_isSome {xs : List (List Int × Addr × Value)} {k : List Int} : (atKey xs k).isSome = decide (k ∈ xs.map (·.1)) := by
  by_cases h : k ∈ xs.map (·.1)
  · rw [decide_eq_true h]
    obtain ⟨x, hx, rfl⟩ := List.mem_map.mp h
    unfold atKey
    rw [Option.isSome_map, List.find?_isSome]
    exact ⟨x, hx, by simp⟩
  · rw [decide_eq_false h, atKey_none h]; rfl
theorem o_notinT {a : Addr} {l : List (List Int)} {k : List Int} (ha : st a = some (.dictT l)) (h : Q (.bool (!decide (k ∈ l))) st) : WP2 c n (compareOp .NotIn) (.tup (k.map .int)) (.loc a) st Q := by
  intro A s v u r R rv ru
  obtain ⟨b, rfl, hk⟩ := key_of (c := c) rv
  obtain rfl := ru.loc'
  obtain ⟨xs, rfl, hm, _⟩ := dictT_of (R.rep a _ ha)
  have hd : (a == sysModules) = false := beq_eq_false_iff_ne.mpr (R.rep a _ ha).1
  show wpAny _ _ (do return Value.bool (!(← contains (.ref a) (.ref b)))) _ _ s
  refine wpAny_bind ?_
  unfold contains
  try with_reducible refine wpAny_holding ?_
  refine wpAny_bind (wpAny_specialOf hm.typeIs slot_dict_contains.lookup ?_)
  show wpAny _ _ (if (some (Value.builtin "dict.__contains__") == some Value.none) = true then _ else _) _ _ s
  rw [if_neg (by rw [beq_builtin_none]; exact Bool.false_ne_true)]
  refine wpAny_bind (wpAny_callSpecialUnlessNone?_slot (name := Str.ofString "__contains__") hm.typeIs slot_dict_contains
    (wpAny_call_entry slot_dict_contains hm.typeIs entry_dict_contains ?_ (args_dict_contains _ _)))
  show wpAny _ _ (dictGet a (.ref b) >>= _) _ _ s
  refine wpAny_bind (wpAny_dictGet_heap (show A.units + 1 < cLine from by have := r.u64; omega) hk hm ?_)
  have e := atKey_isSome (xs := xs) (k := k)
  cases hf : atKey xs k with
  | some p =>
    rw [hf] at e
    show wpAny _ _ (ret (.bool true)) _ _ _
    refine wpAny_pure ⟨_, rfl, wpAny_truthy_bool (wpAny_pure ⟨_, _, R.toks _, Evo.refl _ _, ?_, h⟩)⟩
    rw [← e]; exact .bool
  | none =>
    rw [hf] at e
    show wpAny _ _ (Builtin.Dict.pendingKey? a (.ref b) >>= _) _ _ _
    refine wpAny_bind (wpAny_pendingKey_other hd (wpAny_pure ⟨_, rfl, wpAny_truthy_bool (wpAny_pure ⟨_, _, R.toks _, Evo.refl _ _, ?_, h⟩)⟩))
    rw [← e]; exact .bool

noncomputable def pairOf (k : List Int) : PV := .tup [.tup (k.map .int), .bool true]
set_option maxHeartbeats 4000000 in
theorem upd_loop {a D I : Addr} {ks : List (List Int)} {vs : List Value} {Rr : Result → Shared → Prop} (hDa : D ≠ a) (hDI : D ≠ I) (hIa : I ≠ a) (hnd : ks.Nodup) (hz : ks.length ≤ 2 ^ 20) (hA : A.handled = none) (hu : A.units + 64 < cLine) :
    ∀ (k i : Nat) (s : Shared), ks.length - i = k → i ≤ ks.length → s.heap.PlainList a vs.toArray → RepL s.heap (ks.map pairOf) vs → s.heap.IsListIter I a i → ObjRep c s.heap D (.dictT (ks.take i)) →
    (∀ h' tk, (∀ b o, b ≠ D → b ≠ I → s.heap.get? b = some o → h'.get? b = some o) → ObjRep c h' D (.dictT ks) → Rr (.ok (.ret .none)) { s with heap := h', toks := tk }) →
    codeAny c.M A (.builtin "dict.update.loop" ⟨[.ref D, .ref I, rawInt i, .none], []⟩) Rr s := by
  intro k
  induction k with
  | zero =>
    intro i s hk hi pl rl it hD hR
    have hin : i = ks.length := by omega
    subst hin
    refine codeAny_builtin entry_upd_loop ?_
    rw [Around.under_plainId plain_upd_loop _]
    show wpAny _ A.in1 (pyNext (.ref I) >>= _) _ _ s
    refine wpAny_bind (wpAny_pyNext_list_end hA it pl.isList (by have := rl.length; simp at this; simp [this]) fun h' hs => ?_)
    show wpAny _ A.in1 (Builtin.Dict.addKeywords D [] >>= _) _ _ _
    refine wpAny_bind (wpAny_pure (wpAny_pure ?_))
    have ts : TupsStay s.heap h' := fun b us ⟨n, t⟩ => ⟨n, hs b _ (by rintro rfl; obtain ⟨o, ho, _, hd⟩ := it; rw [t] at ho; cases ho; simp at hd) t⟩
    refine hR h' s.toks (fun b o h1 h2 e => hs b o h2 e) ?_
    rw [List.take_length] at hD
    obtain ⟨x, hx, _⟩ := hD.is
    exact hD.of_get ts ((hs _ _ hDI hx).trans hx.symm)
  | succ k ih =>
    intro i s hk hi pl rl it hD hR
    have hlt : i < ks.length := by omega
    refine codeAny_builtin entry_upd_loop ?_
    rw [Around.under_plainId plain_upd_loop _]
    show wpAny _ A.in1 (pyNext (.ref I) >>= _) _ _ s
    obtain ⟨x, hx, rx⟩ := rl.get (i := i) (p := pairOf ks[i]) (by simp [List.getElem?_eq_getElem hlt])
    refine wpAny_bind (wpAny_pyNext_list_item it pl.isList (x := x) (by simpa using hx) fun h' it' hs => ?_)
    have ts : TupsStay s.heap h' := fun b us ⟨n, t⟩ => ⟨n, (hs.2 b (by rintro rfl; obtain ⟨o, ho, _, hd⟩ := it; rw [t] at ho; cases ho; simp at hd)).trans t⟩
    have rx' := rx.stay ts
    obtain ⟨b, us, rfl, ⟨m, tb⟩, ru⟩ := rx'.tup'
    obtain ⟨u1, us, rfl, r1, ru⟩ := ru.cons_inv
    obtain ⟨u2, us, rfl, r2, ru⟩ := ru.cons_inv
    obtain rfl := ru.nil_inv
    obtain rfl := r2.bool'
    obtain ⟨ka, rfl, hk1⟩ := key_of (c := c) r1
    dsimp only
    refine wpAny_bind (wpAny_holding (wpAny_bind (wpAny_tryCatch ?_)))
    unfold Builtin.Dict.pairItems
    refine wpAny_bind (wpAny_typeOf (T := "tuple") ⟨_, tb, rfl⟩ ?_)
    rw [if_pos (by decide)]
    refine wpAny_bind (wpAny_seqItems tb rfl (wpAny_pure ?_))
    have hD' : ObjRep c h' D (.dictT (ks.take i)) := by
      obtain ⟨x, hx, _⟩ := hD.is
      exact hD.of_get ts (hs.2 _ hDI)
    obtain ⟨xs, hxs, hm, hreps⟩ := dictT_of hD'
    refine (wpAny_holding (wpAny_dictSet_heap (show A.units + 1 < cLine by omega) hk1 hm (fun h2 hm2 sb => ?_) ?_))
    · have hnot : ks[i] ∉ ks.take i := by
        intro hmem
        have := List.nodup_iff_pairwise_ne.mp hnd
        rw [List.pairwise_iff_getElem] at this
        obtain ⟨j, hj, e⟩ := List.mem_iff_getElem.mp hmem
        rw [List.length_take] at hj
        rw [List.getElem_take] at e
        exact this j i (by omega) hlt (by omega) e
      rw [storedH_new (atKey_none (by rw [hxs]; exact hnot))] at hm2
      have ts2 : TupsStay h' h2 := fun y us ⟨n, t⟩ => ⟨n, (sb.2 y (by rintro rfl; obtain ⟨o, es, ep, ho, x, _⟩ := hm; rw [t] at ho; cases ho; exact absurd x.1 (by simp))).trans t⟩
      have keep : ∀ y o, y ≠ D → y ≠ I → s.heap.get? y = some o → h2.get? y = some o := fun y o q1 q2 e => (sb.2 y q1).trans ((hs.2 y q2).trans e)
      refine wpAny_pure ⟨plainId_quiet plain_upd_loop _, ?_⟩
      obtain ⟨kp, ep⟩ := id pl
      have ei : (i : Int) + 1 = ((i + 1 : Nat) : Int) := by omega
      rw [ei]
      obtain ⟨io, ih1, ih2⟩ := it'
      refine ih (i + 1) _ (by omega) hlt ⟨kp, keep _ _ (Ne.symm hDa) (Ne.symm hIa) ep⟩ ((rl.stay ts).stay ts2) ⟨io, (sb.2 I (Ne.symm hDI)).trans ih1, ih2⟩ ?_ fun h3 tk k3 o3 => hR h3 tk (fun y o q1 q2 e => k3 y o q1 q2 (keep y o q1 q2 e)) o3
      obtain ⟨o2, es2, ep2, g1, g2, g3, g4, g5, g6⟩ := hm2
      refine ⟨hD.1, o2, es2, ep2, _, g1, g2, g3, g4, ?_, ?_, fun y hy => ?_⟩
      · rw [List.map_append, hxs, List.take_add_one, List.getElem?_eq_getElem hlt]; rfl
      · exact hnd.sublist (List.take_sublist _ _)
      · rcases List.mem_append.mp hy with hy | hy
        · exact (hreps y hy).stay ts2
        · obtain rfl := List.mem_singleton.mp hy
          exact r1.stay ts2
    · have : xs.length = i := by rw [← List.length_map (f := (·.1)), hxs, List.length_take]; omega
      rw [this, sizeLine_eq]; omega

theorem c_dict_pairs {a : Addr} {ks : List (List Int)} (hs : Sys c) (ha : st a = some (.list (ks.map pairOf))) (hnd : ks.Nodup) (hz : ks.length ≤ 2 ^ 20) (h : ∀ d, st d = none → c.B.get? d = none → Q (.loc d) (st.set d (.dictT ks))) : WPc c (n + 3) (.type "dict") [.loc a] st Q := by
  intro A s vs r R rl
  obtain ⟨v, vs', rfl, rv, rl'⟩ := rl.cons_inv
  obtain rfl := rl'.nil_inv
  obtain rfl := rv.loc'
  obtain ⟨us, ⟨k, e⟩, ru⟩ := R.rep a _ ha
  refine callType_codes (Q₁ := fun obj s₁ => obj = .ref s.heap.objs.size ∧ s₁ = { s with heap := s.heap.push { cls := .type "dict", data := .dict #[] } }) F.kt_called_dict (F.kt_typeCall_dict_1 _) F.entry_dict_init (kt_code_dict_new _ ⟨rfl, rfl⟩) ?_
  rintro obj s₁ ⟨rfl, rfl⟩
  have k1 : ∀ b o, s.heap.get? b = some o → (s.heap.push { cls := .type "dict", data := .dict #[] }).get? b = some o := fun b o e => Heap.get?_push_of_some _ e
  have gD : (s.heap.push { cls := .type "dict", data := .dict #[] }).get? s.heap.objs.size = some { cls := .type "dict", data := .dict #[] } := Heap.get?_push_size _ rfl
  have hT : ({ s with heap := s.heap.push { cls := .type "dict", data := .dict #[] } } : Shared).TypeIs (.ref s.heap.objs.size) "dict" := ⟨_, gD, rfl⟩
  have hDa : s.heap.objs.size ≠ a := Ne.symm (Nat.ne_of_lt (Heap.lt_size e))
  refine ⟨hT, F.args_dict_init_2 _ _, ?_⟩
  unfold Builtin.«dict.__init__»
  refine wpAny_bind ?_
  unfold Builtin.Dict.selfAndRest
  refine wpAny_bind (wpAny_notOrdered_dict hT ?_)
  show wpAny _ _ (pure (s.heap.objs.size, [Value.ref a])) _ _ _
  refine wpAny_pure ?_
  show wpAny _ _ (Builtin.Dict.updateFrom "dict.__init__" s.heap.objs.size (.ref a) [] .none) _ _ _
  unfold Builtin.Dict.updateFrom
  refine wpAny_bind (wpAny_typeOf (T := "list") ⟨_, k1 _ _ e, rfl⟩ ?_)
  rw [if_pos (by decide)]
  refine wpAny_bind (keys_miss (k1 _ _ e) r.handled fun h2 tk k2 => ?_)
  simp only [Option.isNone_none, if_true]
  refine wpAny_bind (wpAny_rule ?_)
  refine wpAny_bind (wpAny_pyIter_list (items := us.toArray) ⟨_, k2 _ _ (k1 _ _ e), rfl, _, rfl⟩ ?_)
  have gD2 := k2 _ _ gD
  have k3 : ∀ b o, s.heap.get? b = some o → (h2.push { cls := .type "list_iterator", data := .fields #[.ref a, .int 0 0] }).get? b = some o := fun b o e => Heap.get?_push_of_some _ (k2 _ _ (k1 b o e))
  have gD3 : (h2.push { cls := .type "list_iterator", data := .fields #[.ref a, .int 0 0] }).get? s.heap.objs.size = some { cls := .type "dict", data := .dict #[] } := Heap.get?_push_of_some _ gD2
  have ts3 : TupsStay s.heap (h2.push { cls := .type "list_iterator", data := .fields #[.ref a, .int 0 0] }) := fun b us ⟨n, t⟩ => ⟨n, k3 _ _ t⟩
  have hI1 : h2.objs.size ≠ s.heap.objs.size := Ne.symm (Nat.ne_of_lt (Heap.lt_size gD2))
  have hI2 : h2.objs.size ≠ a := Ne.symm (Nat.ne_of_lt (Heap.lt_size (k2 _ _ (k1 _ _ e))))
  refine wpAny_pure ⟨plainId_quiet plain_upd_loop _, ?_⟩
  refine upd_loop (c := c) (A := A.in1) (ks := ks) (vs := us) hDa (Ne.symm hI1) hI2 hnd hz r.handled (by show A.units + 1 + 64 < 9900; have := r.units; omega) ks.length 0 _ (by omega) (Nat.zero_le _) ?_ ?_ ?_ ?_ ?_
  · exact ⟨k, k3 _ _ e⟩
  · exact ru.stay ts3
  · exact ⟨_, Heap.get?_push_size _ rfl, rfl, rfl⟩
  · exact ⟨R.size_ne hs, { cls := .type "dict", data := .dict #[] }, #[], 0, [], gD3, ⟨rfl, rfl, rfl⟩, rfl, rfl, by simp, by simp, by simp⟩
  intro h4 tk4 k4 o4
  have k5 : ∀ b o, s.heap.get? b = some o → h4.get? b = some o := fun b o e => k4 b o (Nat.ne_of_lt (Heap.lt_size e)) (by rintro rfl; have := Heap.lt_size (k2 _ _ (k1 _ _ e)); exact Nat.lt_irrefl _ this) (k3 b o e)
  have nw := new_addr (h := s.heap) R
  exact ⟨rfl, _, _, R.alloc (po := .dictT ks) (tk := tk4) (get?_size _) k5 o4, Evo.alloc (get?_size _) k5, .loc, h _ nw.1 nw.2⟩

-- a new table with two pairs
theorem StRel.adopt {a : Addr} {po : PO} {h' : Heap} {tk : Nat} (R : StRel c st s) (ha : st a = none) (hB : c.B.get? a = none) (ht : ∀ vs, ¬ TupAt s.heap a vs) (k : Heap.SameBut a s.heap h') (r : ObjRep c h' a po) :
    StRel c (st.set a po) { s with heap := h', toks := tk } := by
  have ts : TupsStay s.heap h' := fun b vs t => by
    have hb : b ≠ a := by rintro rfl; exact ht _ t
    obtain ⟨n, t⟩ := t
    exact ⟨n, (k.2 b hb).trans t⟩
  refine ⟨fun b o e => ?_, fun b po' e => ?_, fun b po' e => ?_, R.gens, R.os⟩
  · have hb : b ≠ a := by rintro rfl; rw [hB] at e; cases e
    exact (k.2 b hb).trans (R.base b o e)
  · by_cases q : b = a
    · subst q; exact hB
    · rw [PS.set_ne _ _ q] at e; exact R.new b po' e
  · by_cases q : b = a
    · subst q; rw [PS.set_self] at e; cases e; exact r
    · rw [PS.set_ne _ _ q] at e
      exact (R.rep b po' e).of_get ts (k.2 b q)
end
end Mine

namespace Mine
open PySem PySem.W

/-- a call of a function of the program, at the level of code -/
noncomputable def WPk (c : Cx) (n : Nat) (f : Addr) (ps : List PV) (st : PS) (Q : PV → PS → Prop) : Prop :=
  ∀ A s vs, Room n A → StRel c st s → RepL s.heap ps vs → codeAny c.M A (.call (.ref f) ⟨vs, []⟩) (fun r s' => match r with | .ok (.ret v) => Out c st s.heap Q v s' | _ => False) s

section
variable {c : Cx} {n : Nat} {env : Env} {ρ : Vars} {st : PS} {s : Shared} {A : Around} {E : Value → Shared → Prop} {Q : PV → PS → Prop}

theorem WPk.call {f : Addr} {ps : List PV} (h : WPk c n f ps st Q) : WPc c n (.ref f) ps st Q := fun A s vs r R rl =>
  wpAny_call (codeAny_mono (h A s vs r R rl) fun r s' o => by
    rcases r with e | (v | _ | _ | _) <;> first | exact o | exact o.elim)
theorem WPk.room {f : Addr} {ps : List PV} {m : Nat} (h : WPk c n f ps st Q) (k : n ≤ m) : WPk c m f ps st Q := fun A s vs r R rl => h A s vs (r.mono k) R rl
theorem WPk.mono {f : Addr} {ps : List PV} {Q' : PV → PS → Prop} (h : WPk c n f ps st Q) (k : ∀ p st', Q p st' → Q' p st') : WPk c n f ps st Q' := fun A s vs r R rl =>
  codeAny_mono (h A s vs r R rl) fun r s' o => by
    rcases r with e | (v | _ | _ | _) <;> first | exact o.mono k | exact o.elim

theorem bindL_other {kf : Str → Option NameKind} : ∀ (binds : List (Str × Value)) (m : Str → Option Value) (x : Str), x ∉ binds.map (·.1) → bindL kf binds m x = m x
  | [], m, x, h => rfl
  | (y, v) :: r, m, x, h => by
    simp only [List.map_cons, List.mem_cons, not_or] at h
    unfold bindL
    rw [bindL_other r _ x h.2]
    split
    · simp [h.1]
    · rfl
theorem bindC_other {kf : Str → Option NameKind} : ∀ (binds : List (Str × Value)) (m : Str → Option Value) (x : Str), x ∉ binds.map (·.1) → bindC kf binds m x = m x
  | [], m, x, h => rfl
  | (y, v) :: r, m, x, h => by
    simp only [List.map_cons, List.mem_cons, not_or] at h
    unfold bindC
    rw [bindC_other r _ x h.2]
    split
    · rfl
    · simp [h.1]
theorem bound_of {kf : Str → Option NameKind} {h : Heap} : ∀ {names : List Str} {ps : List PV} {vs : List Value} (m cm : Str → Option Value), names.Nodup → RepL h ps vs → ∀ {x : Str} {p : PV}, (names.zip ps).lookup x = some p →
    ∃ v, Rep h p v ∧ x ∈ names ∧ (kf x = some .local → bindL kf (names.zip vs) m x = some v) ∧ (kf x ≠ some .local → bindC kf (names.zip vs) cm x = some v)
  | [], ps, vs, m, cm, nd, r, x, p, e => by simp at e
  | y :: names, [], vs, m, cm, nd, r, x, p, e => by simp at e
  | y :: names, q :: ps, vs, m, cm, nd, r, x, p, e => by
    obtain ⟨u, vs', rfl, ru, r'⟩ := r.cons_inv
    rw [List.nodup_cons] at nd
    by_cases hx : x = y
    · subst hx
      simp only [List.zip_cons_cons, List.lookup_cons, beq_self_eq_true, Option.some.injEq] at e
      subst e
      have hn : x ∉ (names.zip vs').map (·.1) := fun hm => by
        obtain ⟨z, hz, rfl⟩ := List.mem_map.mp hm
        exact nd.1 (List.of_mem_zip hz).1
      refine ⟨u, ru, .head _, fun hk => ?_, fun hk => ?_⟩
      · simp only [List.zip_cons_cons, bindL]
        rw [bindL_other _ _ _ hn, if_pos hk]; simp
      · simp only [List.zip_cons_cons, bindC]
        rw [bindC_other _ _ _ hn, if_neg hk]; simp
    · have hb : (x == y) = false := beq_eq_false_iff_ne.mpr hx
      simp only [List.zip_cons_cons, List.lookup_cons, hb] at e
      obtain ⟨v, a, b, k1, k2⟩ := bound_of (kf := kf) (if kf y = some .local then fun z => if z = y then some u else m z else m) (if kf y = some .local then cm else fun z => if z = y then some u else cm z) nd.2 r' e
      exact ⟨v, a, .tail _ b, fun hk => by simp only [List.zip_cons_cons, bindL]; exact k1 hk, fun hk => by simp only [List.zip_cons_cons, bindC]; exact k2 hk⟩

noncomputable def fnEnv (names : List (Str × NameKind)) (more : List (Str × Const)) (L f : Addr) (qual : Str) (code : Value) : Env :=
  newEnv ⟨.function, names, false, false, more⟩ L mainGlobals (cellsFrom (L + 1) names []) qual (some f) code none builtinsNs
theorem cellsFrom_isSome : ∀ (l : List (Str × NameKind)) (n m : Nat) (acc acc' : List (Str × Addr)) (x : Str), ((acc.lookup x).isSome = (acc'.lookup x).isSome) → ((cellsFrom n l acc).lookup x).isSome = ((cellsFrom m l acc').lookup x).isSome
  | [], n, m, acc, acc', x, h => h
  | (y, k) :: r, n, m, acc, acc', x, h => by
    unfold cellsFrom
    split
    · refine cellsFrom_isSome r _ _ _ _ x ?_
      by_cases hx : x = y
      · subst hx; simp
      · have hb : (x == y) = false := beq_eq_false_iff_ne.mpr hx
        simp only [List.lookup_cons, hb]; exact h
    · exact cellsFrom_isSome r _ _ _ _ x h
noncomputable def paramsOk (names : List (Str × NameKind)) (xs : List Str) : Bool := xs.all fun x => names.lookup x == some .local || (names.lookup x == some .cell && ((cellsFrom 0 names []).lookup x).isSome)

theorem k_fn {f : Addr} {o : Obj} {fd : FuncData} {names : List (Str × NameKind)} {more : List (Str × Const)} {ss : List Stmt} {xs : List Str} {ps : List PV} (hB : c.B.get? f = some o) (hd : o.data = .func fd) (hcd : c.B.CodeRec fd.code fd.qualname) (hl : c.B.NoLimit)
    (hsc : fd.scope = ⟨.function, names, false, false, more⟩) (hb : fd.body = .stmts ss) (hg : fd.globals = mainGlobals) (hbu : fd.builtins = builtinsNs) (hclo : fd.closure = []) (hbind : ∀ vs : List Value, vs.length = xs.length → bindArgs fd ⟨vs, []⟩ = pure (xs.zip vs))
    (hlen : ps.length = xs.length) (hnd : xs.Nodup) (hok : paramsOk names xs = true)
    (h : ∀ L, WPs c n (fnEnv names more L f (fd.qualname ++ ".<locals>.") fd.code) (xs.zip ps) ss st fun pf _ st' => match pf with | .ret p => Q p st' | .next => Q .none st' | _ => False) : WPk c (n + 1) f ps st Q := by
  intro A s vs r R rl
  have hvl : vs.length = xs.length := by rw [rl.length, hlen]
  have kinds : ∀ x ∈ xs, names.lookup x = some .local ∨ (names.lookup x = some .cell ∧ ∀ m, ((cellsFrom m names []).lookup x).isSome = true) := fun x hx => by
    have := List.all_eq_true.mp hok x hx
    simp only [Bool.or_eq_true, Bool.and_eq_true, beq_iff_eq] at this
    rcases this with q | ⟨q1, q2⟩
    · exact .inl q
    · exact .inr ⟨q1, fun m => by rw [cellsFrom_isSome names m 0 [] [] x rfl]; exact q2⟩
  have henv : callEnvC fd s.heap.objs.size f = fnEnv names more s.heap.objs.size f (fd.qualname ++ ".<locals>.") fd.code := by
    unfold callEnvC fnEnv; rw [hsc, hg, hbu]
  refine codeAny_call_cells (binds := xs.zip vs) r.d (R.base _ _ hB) hd (hl.keeps R.base) (hcd.keeps R.base) hb (hbind vs hvl) hclo (fun x hx => ?_) (fun s₁ ic => ?_) (by rw [hsc]) (by rw [hsc]) (by rw [hsc])
  · rw [hsc]
    rcases kinds x.1 (List.of_mem_zip hx).1 with q | ⟨q1, q2⟩
    · exact .inl q
    · exact .inr ⟨q1, q2 _⟩
  · rw [henv] at ic ⊢
    obtain ⟨⟨⟨h1, tk, rfl⟩, ns, keep, fresh⟩, cell, apart, above⟩ := ic
    have lks : ∀ x a, (fnEnv names more s.heap.objs.size f (fd.qualname ++ ".<locals>.") fd.code).cells.lookup x = some a → s.heap.objs.size < a := fun x a e => above x a (mem_of_lookup e)
    have own : ∀ b, ownAt (fnEnv names more s.heap.objs.size f (fd.qualname ++ ".<locals>.") fd.code) b → s.heap.get? b = none := fun b q => by
      rcases q with rfl | ⟨x, q⟩
      · exact get?_size _
      · exact get?_none_of_le (Nat.le_of_lt (lks x b q))
    have R1 : StRel c st { s with heap := h1, toks := tk } := R.grow keep
    have ts : TupsStay s.heap h1 := fun b us ⟨n, t⟩ => ⟨n, keep _ _ t⟩
    have F : FrameAt c (fnEnv names more s.heap.objs.size f (fd.qualname ++ ".<locals>.") fd.code) (xs.zip ps) st h1 := by
      refine ⟨⟨_, _, ns, cell, fun x p e => ?_⟩, fun x y a e e' => name_of_addr apart (mem_of_lookup e) (mem_of_lookup e'), fun b q => ⟨R.none_of_free (own b q), ?_⟩, fun x a e => Nat.ne_of_gt (lks x a e)⟩
      · obtain ⟨v, rv, hx, k1, k2⟩ := bound_of (kf := (fnEnv names more s.heap.objs.size f (fd.qualname ++ ".<locals>.") fd.code).kindOf) (fun _ => none) (fun _ => none) hnd rl e
        refine ⟨v, ?_, rv.stay ts⟩
        unfold varOf
        have hk : (fnEnv names more s.heap.objs.size f (fd.qualname ++ ".<locals>.") fd.code).kindOf x = names.lookup x := rfl
        rcases kinds x hx with q | ⟨q1, q2⟩
        · rw [hk, q]; exact k1 (hk.trans q)
        · rw [hk, q1]
          dsimp only
          have : ((fnEnv names more s.heap.objs.size f (fd.qualname ++ ".<locals>.") fd.code).cells.lookup x).isSome = true := q2 _
          rw [if_pos this]
          exact k2 (by rw [hk, q1]; simp)
      · cases e : c.B.get? b with
        | none => rfl
        | some o => have := R.base _ _ e; rw [own b q] at this; cases this
    refine wpAny_mono (h s.heap.objs.size _ _ r.deeper R1 F) (fun fl s' o => ?_) fun _ _ e => e.elim
    obtain ⟨pf, ρ', st', R', x, F', fr, q⟩ := o
    have ev : Evo st s.heap st' s'.heap := fun b o e => by
      have hno : ¬ ownAt (fnEnv names more s.heap.objs.size f (fd.qualname ++ ".<locals>.") fd.code) b := fun q => by rw [own b q] at e; cases e
      obtain ⟨a1, a2⟩ := x b o (keep b o e)
      exact ⟨a1, fun nn => a2 nn hno⟩
    cases pf with
    | ret p => obtain ⟨v, rfl, rp⟩ := fr; exact ⟨p, st', R', ev, rp, q⟩
    | next => obtain rfl : fl = .next := fr; exact ⟨.none, st', R', ev, .none, q⟩
    | brk => exact q.elim
    | cont => exact q.elim

-- chains of two comparisons, as a test
theorem markedEach_plain {op1 op2 : CmpOp} {m r : Expr} (h1 : behindInMarks op1 m = false) (h2 : behindInMarks op2 r = false) : markedEach [op1, op2] [m, r] (evalEach [m, r] env) = [eval m env, eval r env] := by
  simp [markedEach, evalEach, markedBehindIn_of_false h1, markedBehindIn_of_false h2]
end
end Mine

namespace Mine
open PySem PySem.W

section
variable {c : Cx} {n : Nat} {env : Env} {ρ : Vars} {st : PS} {s : Shared} {A : Around} {E : Value → Shared → Prop} {Q : PV → PS → Prop}

theorem b_chain {l m r : Expr} {op1 op2 : CmpOp} {pos : Pos} {Q : Bool → PS → Prop} (h1 : behindInMarks op1 m = false) (h2 : behindInMarks op2 r = false)
    (h : WPe c n env ρ l st fun p st1 => WPe c n env ρ m st1 fun q st2 => WP2 c n (compareOp op1) p q st2 fun b st3 => ∃ b', b = .bool b' ∧
      if b' = true then WPe c n env ρ r st3 fun u st4 => WP2 c n (compareOp op2) q u st4 fun b st5 => ∃ b'', b = .bool b'' ∧ Q b'' st5 else Q false st3) :
    WPb c n env ρ (.Compare l [op1, op2] [m, r] pos) st Q := by
  intro A s rm R F
  show wpAny _ _ (do testChain pos (← eval l env) [op1, op2] (markedEach [op1, op2] [m, r] (evalEach [m, r] env))) _ _ _
  rw [markedEach_plain h1 h2]
  refine wpAny_bind (wp_then (h A s rm R F) fun v s1 o => ?_)
  obtain ⟨p, st1, R1, x1, r1, q1⟩ := o
  have F1 := F.evo R x1
  show wpAny _ _ (do
    let rv ← holding [v] (eval m env)
    standAt pos
    let c ← holding [v, rv] (compareOp op1 v rv)
    release [v, rv] [c]
    if ← holding [c, rv] (truthy c) then testChain pos rv [op2] [eval r env] else pure false) _ _ _
  refine wpAny_bind (wpAny_holding (wp_then (q1 A s1 rm R1 F1) fun u s2 o => ?_))
  obtain ⟨q, st2, R2, x2, r2, q2⟩ := o
  have F2 := F1.evo R1 x2
  refine wpAny_bind (wpAny_standAt (wpAny_bind (wpAny_holding (wp_then (q2 A s2 v u rm R2 (r1.stay (R1.stay x2)) r2) fun b s3 o => ?_))))
  obtain ⟨pb, st3, R3, x3, r3, b', rfl, q3⟩ := o
  obtain rfl := r3.bool'
  refine wpAny_bind (wpAny_release (wpAny_bind (wpAny_holding (wpAny_truthy_bool ?_))))
  have x13 := (x1.trans x2).trans x3
  cases b' with
  | false => exact wpAny_pure ⟨st3, R3, x13, q3⟩
  | true =>
    simp only [if_true] at q3 ⊢
    show wpAny _ _ (do
      let rv ← holding [u] (eval r env)
      standAt pos
      let c ← operate [u, rv] (compareOp op2 u rv)
      holding [c] (truthy c)) _ _ _
    refine wpAny_bind (wpAny_holding (wp_then (q3 A s3 rm R3 (F2.evo R2 x3)) fun z s4 o => ?_))
    obtain ⟨pz, st4, R4, x4, r4, q4⟩ := o
    refine wpAny_bind (wpAny_standAt (wpAny_bind (wpAny_operating (wp_then (q4 A s4 u z rm R4 ((r2.stay (R2.stay x3)).stay (R3.stay x4)) r4) fun b s5 o => ?_))))
    obtain ⟨pb, st5, R5, x5, r5, b'', rfl, q5⟩ := o
    obtain rfl := r5.bool'
    exact wpAny_holding (wpAny_truthy_bool ⟨st5, R5, (x13.trans x4).trans x5, q5⟩)

-- attributes of instances
noncomputable def lookA (l : List (Str × PV)) (x : Str) : Option PV := l.lookup x
noncomputable def putA : List (Str × PV) → Str → PV → List (Str × PV)
  | [], x, p => [(x, p)]
  | (y, q) :: r, x, p => if y == x then (y, p) :: r else (y, q) :: putA r x p
theorem isStr_str (y x : Str) (t : Tok) : (Value.str y t).isStr x = (y == x) := rfl
theorem getL_of {h : Heap} {x : Str} : ∀ {l : List (Str × PV)} {es : List DictEntry}, AttrsAre h l es → match l.find? (fun q => q.1 == x) with
    | some q => ∃ v, getL x es = some (some v) ∧ Rep h q.2 v
    | none => getL x es = some none
  | [], es, r => by
    have e : es = [] := r
    subst e; rfl
  | (y, p) :: l, es, r => by
    obtain ⟨hs, t, v, es', rfl, rv, r'⟩ := r
    cases hy : y == x with
    | true =>
      simp only [List.find?_cons, hy]
      exact ⟨v, by simp [getL, isStr_str, hy], rv⟩
    | false =>
      have ih := getL_of (x := x) r'
      simp only [List.find?_cons, hy]
      cases hf : l.find? (fun q => q.1 == x) with
      | some q =>
        rw [hf] at ih
        obtain ⟨u, hu, ru⟩ := ih
        refine ⟨u, ?_, ru⟩
        unfold getL at hu ⊢
        simp only [List.find?_cons, isStr_str, hy]
        cases hg : es'.find? (·.key.isStr x) with
        | some e => rw [hg] at hu; exact hu
        | none => rw [hg] at hu; simp only at hu; split at hu <;> cases hu
      | none =>
        rw [hf] at ih
        simp only at ih ⊢
        unfold getL at ih ⊢
        simp only [List.find?_cons, isStr_str, hy]
        cases hg : es'.find? (·.key.isStr x) with
        | some e => rw [hg] at ih; cases ih
        | none =>
          rw [hg] at ih
          simp only at ih ⊢
          split at ih
          · cases ih
          · rename_i hne
            rw [if_neg]
            intro hc
            rw [List.any_cons] at hc
            rcases Bool.or_eq_true_iff.mp hc with hc | hc
            · cases hc
            · exact hne hc
theorem putL_of {h : Heap} {x : Str} {hsh : Int} {tk : Tok} {p : PV} {v : Value} (rv : Rep h p v) : ∀ {l : List (Str × PV)} {es : List DictEntry}, AttrsAre h l es → AttrsAre h (putA l x p) (putL x hsh (.str x tk) v es)
  | [], es, r => by
    have e : es = [] := r
    subst e
    exact ⟨hsh, tk, v, [], rfl, rv, rfl⟩
  | (y, q) :: l, es, r => by
    obtain ⟨hs, t, u, es', rfl, ru, r'⟩ := r
    unfold putA putL
    cases hy : y == x with
    | true =>
      simp only [isStr_str, hy, if_true]
      exact ⟨hs, t, v, es', rfl, rv, r'⟩
    | false =>
      simp only [isStr_str, hy, Bool.false_eq_true, if_false]
      exact ⟨hs, t, u, _, rfl, ru, putL_of rv r'⟩
theorem putA_length : ∀ (l : List (Str × PV)) (x : Str) (p : PV), (putA l x p).length ≤ l.length + 1
  | [], x, p => by simp [putA]
  | (y, q) :: l, x, p => by
    have := putA_length l x p
    unfold putA; split <;> simp <;> omega
theorem AttrsAre.length {h : Heap} : ∀ {l : List (Str × PV)} {es : List DictEntry}, AttrsAre h l es → es.length = l.length
  | [], es, r => by
    have e : es = [] := r
    subst e; rfl
  | (y, q) :: l, es, r => by
    obtain ⟨hs, t, u, es', rfl, ru, r'⟩ := r
    simp [r'.length]

/-- what the module's own objects are, as the rules ask it -/
structure Own (c : Cx) : Prop where
  inK : c.K.In c.B

theorem instAt {x C dx : Addr} {l : List (Str × PV)} (R : StRel c st s) (hx : st x = some (.inst C dx)) (hd : st dx = some (.attrs l)) :
    ∃ es m, InstAt s.heap x { cls := .ref C, dict := some dx, data := .plain } C (some (dictOf es m)) ∧ s.heap.get? dx = some (dictOf es m) ∧ AttrsAre s.heap l es := by
  have r1 := R.rep x _ hx
  obtain ⟨es, m, e, al⟩ := R.rep dx _ hd
  exact ⟨es, m, ⟨r1, rfl, rfl, e⟩, e, al⟩
theorem handed_of {h : Heap} {p : PV} {v : Value} (r : Rep h p v) : handedIn v = true := by
  cases p with
  | none => rw [r.none']; rfl
  | bool b => rw [r.bool']; rfl
  | int i => obtain ⟨t, rfl⟩ := r.int'; rfl
  | str i => obtain ⟨t, rfl⟩ := r.str'; rfl
  | tup l => obtain ⟨a, vs, rfl, _⟩ := r.tup'; rfl
  | loc a => rw [r.loc']; rfl
/-- the class has no such name, and reads plainly -/
structure Reads1 (K : Frag) (C : Addr) (x : Str) : Prop where
  hg : plainGet K C x = true
  hh : hasDictIn K C = true
  ha : findIn K (.ref C) x = some none
theorem e_attr {o : Expr} {x : Str} {pos : Pos} (O : Own c) (ho : notCall o = true)
    (h : WPe c n env ρ o st fun p st1 => ∃ y C dx l q, p = .loc y ∧ st1 y = some (.inst C dx) ∧ st1 dx = some (.attrs l) ∧ l.find? (fun z => z.1 == x) = some q ∧ Reads1 c.K C x ∧ Q q.2 st1) : WPe c n env ρ (.Attribute o x pos) st Q := by
  intro A s r R F
  rw [arm_eval_Attribute, base_plain ho]
  refine wpAny_bind (wp_then (h A s r R F) fun v s1 o => wpAny_bind (wpAny_standAt ?_))
  obtain ⟨p, st1, R1, x1, r1, y, C, dx, l, q, rfl, hy, hd, hl, ⟨hg, hh, ha⟩, q1⟩ := o
  obtain rfl := r1.loc'
  obtain ⟨es, m, I, he, al⟩ := instAt R1 hy hd
  have gl := getL_of (x := x) al
  rw [hl] at gl
  obtain ⟨u, hu, ru⟩ := gl
  refine wpAny_bind (wpAny_holding (get_value (O.inK.keeps R1.base) I (plainGet_of hg).1 (findObj_own hh ha rfl hu) (handed_of ru) ?_))
  exact wpAny_bind (wpAny_letTemporaryGo (wpAny_pure ⟨_, _, R1.toks _, x1, ru, q1⟩))

/-- a method of the class is a function of the program -/
structure Meth1 (K : Frag) (C : Addr) (x : Str) (f : Addr) : Prop where
  hg : plainGet K C x = true
  hf : findIn K (.ref C) x = some (some (.ref f))
  ht : isFn K (.ref f) = true
  hk : keepIn K (.ref f) = true
theorem e_call_inst {o : Expr} {x : Str} {apos pos : Pos} {args : List Expr} {f : Addr} (O : Own c) (ho : notCall o = true) (hs : args.all notStar = true) (hn : args.length < 29) (hline : (apos.endLine == pos.line) = true)
    (h : WPe c n env ρ o st fun p st1 => ∃ y C dx l, p = .loc y ∧ st1 y = some (.inst C dx) ∧ st1 dx = some (.attrs l) ∧ l.find? (fun z => z.1 == x) = none ∧ Meth1 c.K C x f ∧ WPl c n env ρ args st1 fun ps st2 => WPc c n (.ref f) (.loc y :: ps) st2 Q) :
    WPe c n env ρ (.Call (.Attribute o x apos) args [] pos) st Q := by
  intro A s r R F
  rw [arm_eval_Call, base_plain ho]
  refine wpAny_bind (wp_then (h A s r R F) fun v s1 o => wpAny_bind (wpAny_standAt ?_))
  obtain ⟨p, st1, R1, x1, r1, y, C, dx, l, rfl, hy, hd, hl, ⟨hg, hf, ht, hk⟩, q1⟩ := o
  obtain rfl := r1.loc'
  obtain ⟨es, m, I, he, al⟩ := instAt R1 hy hd
  have gl := getL_of (x := x) al
  rw [hl] at gl
  have X1 := O.inK.keeps R1.base
  have hform : methodCallForm (args.length + ([] : List Keyword).length) (backTo pos (starEach args env)) (backToKw pos (keywordEach [] env)) = true := by
    show ((backTo pos (starEach args env)).all (fun x => !x.1) && (backToKw pos (keywordEach [] env)).all (fun x => x.1.isSome) && decide (args.length + ([] : List Keyword).length + (if ([] : List Keyword).isEmpty then 0 else 1) < 30)) = true
    rw [backTo_all, starEach_all' hs]; simp [backToKw, keywordEach]; omega
  have hpos : methodCallPos true o env apos pos = pure pos := by unfold methodCallPos; simp [hline]
  unfold methodCall
  rw [hform]
  refine wpAny_bind (wpAny_holding (method_fn X1 I (plainGet_of hg).1 (plainGet_of hg).2 hf (beq_iff_eq.mp ht) (by show (lookIn x (dictOf es m)).map _ = _; rw [lookIn_dict, gl]; rfl) ?_))
  refine wpAny_bind (wpAny_of_eq hpos ?_)
  have hp : ((backTo pos (starEach args env)).any (·.1) || (backToKw pos (keywordEach [] env)).any (·.1.isNone)) = false := by rw [backTo_any, starEach_all hs]; rfl
  refine callWith_of (P := fun h => c.K.In h) hp (fun h X => keeps_K hk h X) (evalArgs_of hs (wp_then (q1 A s1 pos r R1 (F.evo R x1)) fun vs s2 o => ?_))
  obtain ⟨ps, st2, R2, x2, r2, q2⟩ := o
  exact ⟨O.inK.keeps R2.base, wp_then (q2 A s2 _ r R2 (.cons .loc r2)) fun _ _ o => o.from (x1.trans x2)⟩

/-- the class stores plainly -/
structure Sets1 (K : Frag) (C : Addr) (x : Str) : Prop where
  hs : findIn K (.ref C) "__setattr__" = some (some (.builtin "object.__setattr__"))
  hp : plainOver K C = true
  ht : takerIn K C x = some none
  hh : hasDictIn K C = true
noncomputable def WPsa (c : Cx) (n : Nat) (x : Str) (p po : PV) (st : PS) (Q : PS → Prop) : Prop :=
  ∀ A s v vo, Room n A → StRel c st s → Rep s.heap p v → Rep s.heap po vo → wpAny c.M A (setAttr vo x v) (OutU c st s.heap Q) NoE s
theorem getL_isSome {h : Heap} {x : Str} {l : List (Str × PV)} {es : List DictEntry} (al : AttrsAre h l es) : (getL x es).isSome = true := by
  have g := getL_of (x := x) al
  cases hf : l.find? (fun q => q.1 == x) with
  | some q => rw [hf] at g; obtain ⟨v, hv, _⟩ := g; rw [hv]; rfl
  | none => rw [hf] at g; simp only at g; rw [g]; rfl
theorem set_attr {x : Str} {p : PV} {y C dx : Addr} {l : List (Str × PV)} {Q : PS → Prop} (O : Own c) (S : Sets1 c.K C x) (hy : st y = some (.inst C dx)) (hd : st dx = some (.attrs l)) (hz : l.length ≤ 900) (h : Q (st.set dx (.attrs (putA l x p)))) : WPsa c n x p (.loc y) st Q := by
  intro A s v vo r R rv ro
  obtain rfl := ro.loc'
  obtain ⟨es, m, I, he, al⟩ := instAt R hy hd
  have X := O.inK.keeps R.base
  obtain ⟨cd, hc, hd'⟩ := any_some S.hh
  refine set_plain X I S.hs (osa_open (s := { s with toks := s.toks + 1 }) X I S.hp S.ht fun b => ?_)
  obtain ⟨hx, hcl, hn, -⟩ := I
  have hl := getL_isSome (x := x) al
  have e1 : ∀ k tk, Obj.putName x k (.str x tk) v (dictOf es m) = dictOf (putL x k (.str x tk) v es) (putN x es m) := fun k tk => putName_dict ..
  have lenL : ∀ k tk, (putL x k (.str x tk) v es).length ≤ 1000 := fun k tk => by
    have := (putL_of (hsh := k) (tk := tk) (x := x) rv al).length
    have h2 := putA_length l x p
    omega
  refine wpAny_bind (wpAny_pure (wpAny_bind (wpAny_bind (wpAny_loadPart hx (wpAny_bind (Looks.here (s := { s with toks := s.toks + 1 }) (looks_clsIn X hc) ?_))))))
  rw [hd']
  refine wpAny_pure (a := some dx) (wpAny_bind (wpAny_pure (wpAny_bind ?_)))
  unfold nsSet
  refine wpAny_bind (wpAny_bind (wpAny_askSetting (wpAny_pure (wpAny_bind (wpAny_mkText (wpAny_bind (wpAny_loadPart he ?_)))))))
  have cc : (!(List.toArray es).any (·.key.isStr x) && (List.toArray es).any (·.refKey)) = false := by
    rw [← Array.any_toList, ← Array.any_toList]
    unfold getL at hl
    split at hl
    · rename_i en hen
      rw [List.any_eq_true.mpr ⟨en, List.mem_of_find?_eq_some hen, List.find?_some hen⟩]; rfl
    · split at hl
      · cases hl
      · rename_i z; rw [Bool.not_eq_true] at z; rw [z, Bool.and_false]
  dsimp only
  rw [aRefKeyMayBeTheName_at, cc]
  refine wpAny_updatePart he ?_
  have D' : ∀ k tk, (s.heap.update dx (Obj.putName x k (.str x tk) v)).get? dx = some (dictOf (putL x k (.str x tk) v es) (putN x es m)) := fun k tk => by
    rw [← e1]; exact Heap.get?_update_self _ he (by rw [e1]; rfl)
  refine wpAny_bind (wpAny_lookBehind (D' _ _) (pastItsLine_dict (by rw [List.size_toArray, sizeLine_eq]; have := lenL; exact Nat.le_trans (lenL _ _) (by omega))) ?_)
  refine wpAny_pure ?_
  have sb : ∀ k tk, Heap.SameBut dx s.heap (s.heap.update dx (Obj.putName x k (.str x tk) v)) := fun k tk => Heap.SameBut.update ..
  have ts : ∀ k tk, TupsStay s.heap (s.heap.update dx (Obj.putName x k (.str x tk) v)) := fun k tk b vs ⟨n, t⟩ => ⟨n, ((sb k tk).2 b (by rintro rfl; rw [he] at t; simp at t)).trans t⟩
  have ob : ∀ k tk, ObjRep c (s.heap.update dx (Obj.putName x k (.str x tk) v)) dx (.attrs (putA l x p)) := fun k tk => ⟨_, _, D' k tk, putL_of (rv.stay (ts k tk)) (al.stay (ts k tk))⟩
  exact ⟨_, R.upd hd (sb _ _) (ob _ _), Evo.upd hd (sb _ _) (ob _ _), h⟩

/-- the class makes plain instances, by a function of the program -/
structure Make1 (K : Frag) (C fI : Addr) : Prop where
  hm : makesIn K C = true
  hi : findIn K (.ref C) "__init__" = some (some (.ref fI))
  hf : typeIn K (.ref fI) = some (.type "function")
theorem c_make {C fI : Addr} {ps : List PV} (O : Own c) (M : Make1 c.K C fI)
    (h : ∀ x dx, st x = none → st dx = none → x ≠ dx → WPk c n fI (.loc x :: ps) ((st.set dx (.attrs [])).set x (.inst C dx)) fun p st' => p = .none ∧ Q (.loc x) st') : WPk c (n + 2) C ps st Q := by
  intro A s vs r R rl
  have hn1 : s.heap.get? s.heap.objs.size = none := get?_size _
  have k1 : ∀ b o, s.heap.get? b = some o → (s.heap.push emptyDict).get? b = some o := fun b o e => Heap.get?_push_of_some _ e
  have R1 := R.alloc (po := .attrs []) (tk := s.toks) hn1 k1 ⟨[], 0, Heap.get?_push_size _ rfl, rfl⟩
  have ev1 := Evo.alloc (st := st) (po := .attrs []) hn1 k1
  have hsz : (s.heap.push emptyDict).objs.size = s.heap.objs.size + 1 := Heap.size_push ..
  have hn2 : (s.heap.push emptyDict).get? (s.heap.objs.size + 1) = none := by rw [← hsz]; exact get?_size _
  have k2 : ∀ b o, (s.heap.push emptyDict).get? b = some o → ((s.heap.push emptyDict).push (instObj C s.heap.objs.size)).get? b = some o := fun b o e => Heap.get?_push_of_some _ e
  have gx : ((s.heap.push emptyDict).push (instObj C s.heap.objs.size)).get? (s.heap.objs.size + 1) = some (instObj C s.heap.objs.size) := by rw [← hsz]; exact Heap.get?_push_size _ rfl
  have R2 := R1.alloc (po := .inst C s.heap.objs.size) (tk := s.toks) hn2 k2 gx
  have ev2 := ev1.trans (Evo.alloc (po := .inst C s.heap.objs.size) hn2 k2)
  have X := O.inK.keeps R.base
  have ts : TupsStay s.heap ((s.heap.push emptyDict).push (instObj C s.heap.objs.size)) := fun b us ⟨n, t⟩ => ⟨n, k2 _ _ (k1 _ _ t)⟩
  have ne : s.heap.objs.size + 1 ≠ s.heap.objs.size := Nat.succ_ne_self _
  have hw := h (s.heap.objs.size + 1) s.heap.objs.size (by rw [← R1.none_of_free hn2]; exact (PS.set_ne _ _ ne).symm) (R.none_of_free hn1) ne
  obtain ⟨hh, g, d, t, os⟩ := s
  refine make_core (makes_of X M.hm) (looks_findIn X M.hi) (fun self => bind_fn X self M.hf) (.inl rfl) ?_
  have room : Room n (A.under (.builtin "type.__call__" ⟨.ref C :: vs, []⟩)) := by
    have e1 : (A.under (.builtin "type.__call__" ⟨.ref C :: vs, []⟩)).depth ≤ A.depth + 1 := by
      show A.depth + Code.weight _ ≤ _
      have : Code.weight (.builtin "type.__call__" ⟨.ref C :: vs, []⟩) ≤ 1 := Nat.le_of_eq rfl
      omega
    have e2 : (A.under (.builtin "type.__call__" ⟨.ref C :: vs, []⟩)).units ≤ A.units + 3 := by
      show A.units + Code.cUnits _ ≤ _
      have : Code.cUnits (.builtin "type.__call__" ⟨.ref C :: vs, []⟩) ≤ 3 := by first | exact Nat.le_of_eq rfl | (show (1:Nat) ≤ 3; omega) | (show (2:Nat) ≤ 3; omega)
      omega
    exact ⟨r.handled, by have := r.depth; omega, by have := r.units; omega⟩
  refine codeAny_mono (hw _ _ _ room R2 (.cons .loc (rl.stay ts))) fun r s' o => ?_
  rcases r with e | (v | _ | _ | _) <;> first | exact o.elim | skip
  obtain ⟨p, st', R', x', rp, rfl, q⟩ := o
  exact ⟨rp.none', .loc _, st', R', ev2.trans x', .loc, q⟩
end
end Mine

namespace Mine
open PySem PySem.W

section
variable {c : Cx} {n : Nat} {env : Env} {ρ : Vars} {st : PS} {s : Shared} {A : Around} {E : Value → Shared → Prop} {Q : PV → PS → Prop}

-- a table with two pairs
theorem dict_begin {K : Type} [DecidableEq K] {knd : KeyKind c.prog c.w K} {k1 v1 k2 v2 : Expr} {pos : Pos} (is : K → PV) (isv : ∀ (k : K) (h : Heap) (v : Value), Rep h (is k) v → knd.is k v = true) (mk : List (K × PV) → PO)
    (mkr : ∀ (h : Heap) (a : Addr) (l : List (K × PV)) (vs : List Value), a ≠ sysModules → vs.length = l.length → h.DictOf knd a ((l.map (·.1)).zip vs) → RepL h (l.map (·.2)) vs → ObjRep c h a (mk l)) (hs : Sys c)
    (h : WPe c n env ρ k1 st fun p1 st1 => WPe c n env ρ v1 st1 fun q1 st2 => WPe c n env ρ k2 st2 fun p2 st3 => WPe c n env ρ v2 st3 fun q2 st4 => ∃ i j, p1 = is i ∧ p2 = is j ∧
      ∀ a, st4 a = none → c.B.get? a = none → Q (.loc a) (st4.set a (mk (putK (putK [] i q1) j q2)))) : WPe c n env ρ (.Dict [some k1, some k2] [v1, v2] pos) st Q := by
  intro A s r R F
  refine wpAny_Dict_pairs (knd := knd) (pairs := [(eval k1 env, do let x ← eval v1 env; standAt pos; pure x), (eval k2 env, do let x ← eval v2 env; standAt pos; pure x)]) rfl (by simp) (by simp) ?_
  have kk : ∀ b o, s.heap.get? b = some o → (s.heap.push { cls := .type "dict", data := .dict #[] }).get? b = some o := fun b o e => Heap.get?_push_of_some _ e
  have gD : (s.heap.push { cls := .type "dict", data := .dict #[] }).get? s.heap.objs.size = some { cls := .type "dict", data := .dict #[] } := Heap.get?_push_size _ rfl
  have R0 : StRel c st { s with heap := s.heap.push { cls := .type "dict", data := .dict #[] } } := R.grow (tk := s.toks) kk
  have x0 : Evo st s.heap st (s.heap.push { cls := .type "dict", data := .dict #[] }) := Evo.grow kk
  have F0 := F.evo R x0
  have nw := new_addr (h := s.heap) R
  refine evalPairs_cons (wp_then (h A _ r R0 F0) fun u1 s1 o => ?_)
  obtain ⟨p1, st1, R1, x1, r1, o⟩ := o
  have F1 := F0.evo R0 x1
  refine wpAny_bind (wp_then (o A s1 r R1 F1) fun w1 s2 o => wpAny_bind (wpAny_standAt (wpAny_pure ?_)))
  obtain ⟨q1, st2, R2, x2, t1, o⟩ := o
  have F2 := F1.evo R1 x2
  refine evalPairs_cons (wp_then (o A s2 r R2 F2) fun u2 s3 o => ?_)
  obtain ⟨p2, st3, R3, x3, r2, o⟩ := o
  have F3 := F2.evo R2 x3
  refine wpAny_bind (wp_then (o A s3 r R3 F3) fun w2 s4 o => wpAny_bind (wpAny_standAt (wpAny_pure ?_)))
  obtain ⟨q2, st4, R4, x4, t2, i, j, rfl, rfl, q⟩ := o
  refine evalPairs_nil ?_
  have x04 := ((x1.trans x2).trans x3).trans x4
  obtain ⟨gD4, nD4⟩ := (x04 _ _ gD).2 nw.1
  have e1 := isv _ _ _ r1
  have e2 := isv _ _ _ r2
  have t1' := ((t1.stay (R2.stay x3)).stay (R3.stay x4))
  refine ⟨[(i, w1), (j, w2)], ⟨e1, rfl, e2, rfl, trivial⟩, (Heap.DictOf.new s.heap).at fun o e => (by rw [gD] at e; rw [← e]; exact gD4), fun h' hm sb => ?_⟩
  obtain ⟨va, l1, m1, ra⟩ := stored_zip (l := ([] : List (K × PV))) (vs := []) (h := s4.heap) .nil i t1'
  obtain ⟨vb, l2, m2, rb⟩ := stored_zip ra j t2
  have em : merged [] [(i, w1), (j, w2)] = stored (stored [] i w1) j w2 := rfl
  have e0 : (([] : List (K × PV)).map (·.1)).zip ([] : List Value) = [] := rfl
  rw [e0] at m1
  rw [em, m1, m2] at hm
  have nt : ∀ vs, ¬ TupAt s4.heap s.heap.objs.size vs := fun vs ⟨k, t⟩ => by rw [gD4] at t; simp at t
  have ts : TupsStay s4.heap h' := fun b vs t => by
    have hb : b ≠ s.heap.objs.size := by rintro rfl; exact nt _ t
    obtain ⟨k, t⟩ := t
    exact ⟨k, (sb.2 b hb).trans t⟩
  have ob := mkr h' s.heap.objs.size _ vb (R.size_ne hs) l2 hm (rb.stay ts)
  refine ⟨.loc s.heap.objs.size, _, R4.adopt nD4 nw.2 nt sb ob, ?_, .loc, q _ nD4 nw.2⟩
  intro b o e
  have hb : b ≠ s.heap.objs.size := Nat.ne_of_lt (Heap.lt_size e)
  obtain ⟨a1, a2⟩ := (x0.trans x04) b o e
  refine ⟨?_, fun nn => ?_⟩
  · obtain ⟨o', e'⟩ := a1; exact ⟨o', (sb.2 b hb).trans e'⟩
  · obtain ⟨y1, y2⟩ := a2 nn; exact ⟨(sb.2 b hb).trans y1, by rw [PS.set_ne _ _ hb]; exact y2⟩
theorem e_dict2I {k1 v1 k2 v2 : Expr} {pos : Pos} (hs : Sys c)
    (h : WPe c n env ρ k1 st fun p1 st1 => WPe c n env ρ v1 st1 fun q1 st2 => WPe c n env ρ k2 st2 fun p2 st3 => WPe c n env ρ v2 st3 fun q2 st4 => ∃ i j, p1 = .int i ∧ p2 = .int j ∧
      ∀ a, st4 a = none → c.B.get? a = none → Q (.loc a) (st4.set a (.dictI (putK (putK [] i q1) j q2)))) : WPe c n env ρ (.Dict [some k1, some k2] [v1, v2] pos) st Q :=
  dict_begin (knd := PySem.intKind c.prog c.w) .int (fun k h v r => by obtain ⟨t, rfl⟩ := r.int'; exact intIs k t) .dictI (fun h a l vs h1 h2 h3 h4 => ⟨h1, vs, h2, h3, h4⟩) hs h
theorem e_dict2S {k1 v1 k2 v2 : Expr} {pos : Pos} (hs : Sys c)
    (h : WPe c n env ρ k1 st fun p1 st1 => WPe c n env ρ v1 st1 fun q1 st2 => WPe c n env ρ k2 st2 fun p2 st3 => WPe c n env ρ v2 st3 fun q2 st4 => ∃ i j, p1 = .str i ∧ p2 = .str j ∧
      ∀ a, st4 a = none → c.B.get? a = none → Q (.loc a) (st4.set a (.dictS (putK (putK [] i q1) j q2)))) : WPe c n env ρ (.Dict [some k1, some k2] [v1, v2] pos) st Q :=
  dict_begin (knd := PySem.strKind c.prog c.w) .str (fun k h v r => by obtain ⟨t, rfl⟩ := r.str'; exact strIs k t) .dictS (fun h a l vs h1 h2 h3 h4 => ⟨h1, vs, h2, h3, h4⟩) hs h
end

-- what stands in the list that was given: it lies below
noncomputable def LstB (c : Cx) (a : Addr) (ns : List Int) : Prop := ∃ vs o k, c.B.get? a = some o ∧ o.cls = .type "list" ∧ o.data = .seq (List.toArray vs) k ∧ (∀ h, RepL h (ns.map .int) vs)
section
variable {c : Cx} {n : Nat} {env : Env} {ρ : Vars} {st : PS} {s : Shared} {A : Around} {E : Value → Shared → Prop} {Q : PV → PS → Prop}
theorem okD_ints (ns : List Int) : ∀ p ∈ ns.map PV.int, okD 8 p = true := fun p hp => by obtain ⟨i, _, rfl⟩ := List.mem_map.mp hp; rfl
theorem o_neB {a b : Addr} {ns : List Int} (hB : LstB c a ns) (hb : st b = some (.list [])) (h : Q (.bool (!ns.isEmpty)) st) : WP2 c n (compareOp .NotEq) (.loc a) (.loc b) st Q := by
  intro A s v u r R rv ru
  obtain rfl := rv.loc'
  obtain rfl := ru.loc'
  obtain ⟨vs, o, k, ho, hc, hd, rl⟩ := hB
  obtain ⟨as, q⟩ := readsL_of 8 (ns.map .int) vs (rl s.heap) (okD_ints ns)
  have l := layL_of (okD_ints ns)
  have ra : Reads s.heap (.ref a) (.list (toPDs (ns.map .int))) _ := Reads.list (R.base _ _ ho) hc hd (by simpa using q)
  have sa : SeqAt.shaped (.list (toPDs (ns.map .int))) = true := by
    unfold SeqAt.shaped
    simp only [PyData.canLay0, PyData.depth, l.1, Bool.true_and]
    exact decide_eq_true (by have := l.2; omega)
  obtain ⟨⟨bs, rb⟩, sb⟩ := reads_list R hb (by simp)
  refine SeqAt.compareNe_shaped ra rb sa sb r.u64 ⟨_, _, R, Evo.refl _ _, ?_, h⟩
  have e : (!PyData.eqv (.list (toPDs (ns.map .int))) (.list (toPDs []))) = !ns.isEmpty := by
    simp only [PyData.eqv]; rw [eqvs_of 8 8 _ _ (okD_ints ns) (by simp)]
    cases ns <;> rfl
  rw [e]; exact .bool
theorem e_cutB {x : Str} {px : Pos} {u : Expr} {sp pos : Pos} (h : WPe c n env ρ (.Name x px) st fun p st1 => WPe c n env ρ u st1 fun q st2 => ∃ a ns k, p = .loc a ∧ q = .int ((k : Nat) : Int) ∧ LstB c a ns ∧ ns.length ≤ 2 ^ 20 ∧
      ∀ d, st2 d = none → c.B.get? d = none → Q (.loc d) (st2.set d (.list ((ns.take k).map .int)))) : WPe c n env ρ (.Subscript (.Name x px) (.Slice none (some u) none sp) pos) st Q := by
  intro A s rm R F
  refine wpAny_Subscript_list_slice (wp_then (h A s rm R F) fun v s1 o => ?_) (fun _ _ => rfl)
  obtain ⟨p, st1, R1, x1, r1, q1⟩ := o
  rw [evalPart_none, evalPart_some]
  refine wpAny_pure (wp_then (q1 A s1 rm R1 (F.evo R x1)) fun u s2 o => ?_)
  obtain ⟨q, st2, R2, x2, r2, a, ns, k, rfl, rfl, ⟨vs, o, m, ho, hc, hd, rl⟩, hz, hq⟩ := o
  obtain rfl := r1.loc'
  obtain ⟨t, rfl⟩ := r2.int'
  have hl := (rl s2.heap).length
  rw [List.length_map] at hl
  refine ⟨a, _, none, some (k : Int), rfl, ⟨o, R2.base _ _ ho, hc, m, hd⟩, by rw [List.size_toArray, hl, sizeLine_eq]; omega, .none, .int _ _, ?_⟩
  rw [slicePick_upto']
  have k1 : ∀ b o, s2.heap.get? b = some o → (s2.heap.push { cls := .type "slice", data := .fields #[.none, .int k t, .none] }).get? b = some o := fun b o e => Heap.get?_push_of_some _ e
  have R3 := R2.grow (tk := s2.toks) k1
  have k2 : ∀ b o, (s2.heap.push { cls := .type "slice", data := .fields #[.none, .int k t, .none] }).get? b = some o → ((s2.heap.push { cls := .type "slice", data := .fields #[.none, .int k t, .none] }).push { cls := .type "list", data := .seq ((List.toArray vs).toList.take k).toArray }).get? b = some o := fun b o e => Heap.get?_push_of_some _ e
  have hsz : (s2.heap.push { cls := .type "slice", data := .fields #[.none, .int k t, .none] }).objs.size = s2.heap.objs.size + 1 := Heap.size_push ..
  have nw := new_addr (h := s2.heap) R3
  have e3 : ({ s2 with heap := s2.heap.push { cls := .type "slice", data := .fields #[.none, .int k t, .none] } } : Shared).heap.objs.size = s2.heap.objs.size + 1 := hsz
  have gn : (s2.heap.push { cls := .type "slice", data := .fields #[.none, .int k t, .none] }).get? (s2.heap.objs.size + 1) = none := by rw [← hsz]; exact get?_size _
  have gs : ((s2.heap.push { cls := .type "slice", data := .fields #[.none, .int k t, .none] }).push { cls := .type "list", data := .seq ((List.toArray vs).toList.take k).toArray }).get? (s2.heap.objs.size + 1) = some { cls := .type "list", data := .seq ((List.toArray vs).toList.take k).toArray } := by rw [← hsz]; exact Heap.get?_push_size _ rfl
  have rr : ∀ h, RepL h ((ns.take k).map .int) ((List.toArray vs).toList.take k) := fun h => by
    have := (rl h).take k
    rw [← List.map_take] at this; exact this
  rw [e3] at nw
  exact ⟨_, _, R3.alloc (po := .list ((ns.take k).map .int)) (tk := s2.toks) gn k2 ⟨_, ⟨0, gs⟩, rr _⟩, ((x1.trans x2).trans (Evo.grow k1)).trans (Evo.alloc gn k2), .loc, hq _ nw.1 nw.2⟩
end
end Mine

namespace Mine
open PySem PySem.W

/-- of two stores, the first knows less -/
noncomputable def Le (st2 st : PS) : Prop := ∀ b po, st2 b = some po → st b = some po
theorem Le.refl (st : PS) : Le st st := fun _ _ e => e
theorem Le.trans {a b d : PS} (x : Le a b) (y : Le b d) : Le a d := fun _ _ e => y _ _ (x _ _ e)
theorem Le.set {st : PS} {a : Addr} {po : PO} (h : st a = none) : Le st (st.set a po) := fun b q e => by
  rw [PS.set_ne _ _ (by rintro rfl; rw [h] at e; cases e)]; exact e
theorem Le.set2 {st2 st : PS} (x : Le st2 st) (a : Addr) (po : PO) : Le (st2.set a po) (st.set a po) := fun b q e => by
  by_cases h : b = a
  · subst h; rw [PS.set_self] at e ⊢; exact e
  · rw [PS.set_ne _ _ h] at e ⊢; exact x _ _ e
theorem Le.none {st2 st : PS} (x : Le st2 st) {b : Addr} (e : st b = none) : st2 b = none := by
  cases h : st2 b with
  | none => rfl
  | some po => rw [x _ _ h] at e; cases e
theorem Evo.sub {st st' st2 : PS} {h h' : Heap} (x : Evo st h st' h') (l : Le st2 st') : Evo st h st2 h' := fun b o e => ⟨(x b o e).1, fun nn => ⟨((x b o e).2 nn).1, l.none ((x b o e).2 nn).2⟩⟩
theorem EvoX.sub {ex : Addr → Prop} {st st' st2 : PS} {h h' : Heap} (x : EvoX ex st h st' h') (l : Le st2 st') : EvoX ex st h st2 h' := fun b o e => ⟨(x b o e).1, fun nn q => ⟨((x b o e).2 nn q).1, l.none ((x b o e).2 nn q).2⟩⟩
theorem Evo.pre {st st' st2 : PS} {h h' : Heap} (x : Evo st2 h st' h') (l : Le st2 st) : Evo st h st' h' := fun b o e => ⟨(x b o e).1, fun nn => (x b o e).2 (l.none nn)⟩
theorem EvoX.pre {ex : Addr → Prop} {st st' st2 : PS} {h h' : Heap} (x : EvoX ex st2 h st' h') (l : Le st2 st) : EvoX ex st h st' h' := fun b o e => ⟨(x b o e).1, fun nn q => (x b o e).2 (l.none nn) q⟩
theorem FrameAt.sub {c : Cx} {env : Env} {ρ : Vars} {st st2 : PS} {h : Heap} (F : FrameAt c env ρ st h) (l : Le st2 st) : FrameAt c env ρ st2 h := ⟨F.ex, F.apart, fun b q => ⟨l.none (F.own b q).1, (F.own b q).2⟩, F.off⟩

section
variable {c : Cx} {n : Nat} {env : Env} {ρ : Vars} {st st2 : PS} {s : Shared} {A : Around} {Q : PV → PS → Prop}
theorem Out.sub {v : Value} {h : Heap} (o : Out c st h (fun p st' => ∃ st2, Le st2 st' ∧ Q p st2) v s) : Out c st h Q v s :=
  let ⟨p, st', R, x, r, st2, l, q⟩ := o; ⟨p, st2, R.forget l, x.sub l, r, q⟩
theorem Out.pre {v : Value} {h : Heap} (l : Le st2 st) (o : Out c st2 h Q v s) : Out c st h Q v s :=
  let ⟨p, st', R, x, r, q⟩ := o; ⟨p, st', R, x.pre l, r, q⟩
theorem OutF.sub {Q : PF → Vars → PS → Prop} {f : Flow} {h : Heap} (o : OutF c env st h (fun p r st' => ∃ st2, Le st2 st' ∧ Q p r st2) f s) : OutF c env st h Q f s :=
  let ⟨p, ρ', st', R, x, F, r, st2, l, q⟩ := o; ⟨p, ρ', st2, R.forget l, x.sub l, F.sub l, r, q⟩
theorem OutF.pre {Q : PF → Vars → PS → Prop} {f : Flow} {h : Heap} (l : Le st2 st) (o : OutF c env st2 h Q f s) : OutF c env st h Q f s :=
  let ⟨p, ρ', st', R, x, F, r, q⟩ := o; ⟨p, ρ', st', R, x.pre l, F, r, q⟩
theorem WPe.sub {e : Expr} (h : WPe c n env ρ e st fun p st' => ∃ st2, Le st2 st' ∧ Q p st2) : WPe c n env ρ e st Q := fun A s r R F => wp_then (h A s r R F) fun _ _ o => o.sub
theorem WPe.drop {e : Expr} (l : Le st2 st) (h : WPe c n env ρ e st2 Q) : WPe c n env ρ e st Q := fun A s r R F => wp_then (h A s r (R.forget l) (F.sub l)) fun _ _ o => o.pre l
theorem WPs.sub {ss : List Stmt} {Q : PF → Vars → PS → Prop} (h : WPs c n env ρ ss st fun p r st' => ∃ st2, Le st2 st' ∧ Q p r st2) : WPs c n env ρ ss st Q := fun A s r R F => wp_then (h A s r R F) fun _ _ o => o.sub
theorem WPs.drop {ss : List Stmt} {Q : PF → Vars → PS → Prop} (l : Le st2 st) (h : WPs c n env ρ ss st2 Q) : WPs c n env ρ ss st Q := fun A s r R F => wp_then (h A s r (R.forget l) (F.sub l)) fun _ _ o => o.pre l
theorem WPk.sub {f : Addr} {ps : List PV} (h : WPk c n f ps st fun p st' => ∃ st2, Le st2 st' ∧ Q p st2) : WPk c n f ps st Q := fun A s vs r R rl =>
  codeAny_mono (h A s vs r R rl) fun r s' o => by
    rcases r with e | (v | _ | _ | _) <;> first | exact o.sub | exact o.elim
theorem WPk.drop {f : Addr} {ps : List PV} (l : Le st2 st) (h : WPk c n f ps st2 Q) : WPk c n f ps st Q := fun A s vs r R rl =>
  codeAny_mono (h A s vs r (R.forget l) rl) fun r s' o => by
    rcases r with e | (v | _ | _ | _) <;> first | exact o.pre l | exact o.elim
theorem WPb.sub {e : Expr} {Q : Bool → PS → Prop} (h : WPb c n env ρ e st fun p st' => ∃ st2, Le st2 st' ∧ Q p st2) : WPb c n env ρ e st Q := fun A s r R F => wp_then (h A s r R F) fun _ _ o =>
  let ⟨st', R, x, st2, l, q⟩ := o; ⟨st2, R.forget l, x.sub l, q⟩
theorem WPb.drop {e : Expr} {Q : Bool → PS → Prop} (l : Le st2 st) (h : WPb c n env ρ e st2 Q) : WPb c n env ρ e st Q := fun A s r R F => wp_then (h A s r (R.forget l) (F.sub l)) fun _ _ o =>
  let ⟨st', R, x, q⟩ := o; ⟨st', R, x.pre l, q⟩
theorem WPx.drop {ss : Stmt} {Q : PF → Vars → PS → Prop} (l : Le st2 st) (h : WPx c n env ρ ss st2 Q) : WPx c n env ρ ss st Q := fun A s r R F => wp_then (h A s r (R.forget l) (F.sub l)) fun _ _ o => o.pre l
theorem WPe.weaken {ρ' : Vars} {e : Expr} (h : WPe c n env ρ' e st Q) (k : Sub ρ' ρ) : WPe c n env ρ e st Q := fun A s r R F => h A s r R (F.weaken k)
theorem WPb.weaken {ρ' : Vars} {e : Expr} {Q : Bool → PS → Prop} (h : WPb c n env ρ' e st Q) (k : Sub ρ' ρ) : WPb c n env ρ e st Q := fun A s r R F => h A s r R (F.weaken k)
theorem Sub.refl (ρ : Vars) : Sub ρ ρ := fun _ _ e => e
theorem Sub.cons {ρ0 ρ : Vars} {x : Str} {p : PV} (h : Sub ρ0 ρ) (hx : ρ0.lookup x = none) : Sub ρ0 ((x, p) :: ρ) := fun y q e => by
  have hy : (y == x) = false := by
    rw [beq_eq_false_iff_ne]; rintro rfl; rw [hx] at e; cases e
  simp only [List.lookup_cons, hy]; exact h y q e
theorem Sub.both {ρ0 ρ : Vars} {x : Str} {p : PV} (h : Sub ρ0 ρ) : Sub ((x, p) :: ρ0) ((x, p) :: ρ) := fun y q e => by
  cases hy : y == x with
  | true => simp only [List.lookup_cons, hy] at e ⊢; exact e
  | false => simp only [List.lookup_cons, hy] at e ⊢; exact h y q e
/-- what a turn leaves -/
noncomputable abbrev TurnS (Q : PF → Vars → PS → Prop) (J : Nat → Vars → PS → Prop) (i : Nat) : PF → Vars → PS → Prop := fun pf ρ2 st2 => ∃ st3, Le st3 st2 ∧ match pf with
  | .next => J (i + 1) ρ2 st3
  | .cont => J (i + 1) ρ2 st3
  | .brk => Q .next ρ2 st3
  | .ret q => Q (.ret q) ρ2 st3
inductive ForS (c : Cx) (n : Nat) (env : Env) (ρ : Vars) (x : Str) (body : List Stmt) (Q : PF → Vars → PS → Prop) (src : Src) (st1 : PS) : Prop
  | mk (J : Nat → Vars → PS → Prop) (h0 : J 0 ρ st1) (hok : ∀ i ρ' st', J i ρ' st' → src.okAt st')
      (turn : ∀ i p ρ' st', src.items[i]? = some p → J i ρ' st' → WPs c n env ((x, p) :: ρ') body st' (TurnS Q J i))
      (fin : ∀ ρ' st', J src.items.length ρ' st' → Q .next ρ' st')
/-- a for over a source, some names and some of the store kept -/
theorem x_forS {x : Str} {iter : Expr} {body : List Stmt} {px pos : Pos} {Q : PF → Vars → PS → Prop}
    (h : WPi c n env ρ iter st (ForS c n env ρ x body Q))
    (hx : isOwn env x = true) (hs : ∀ x, foldedSetIterable iter env x = pure x) : WPx c n env ρ (.For (.Name x px) iter body [] pos) st Q := by
  refine x_for (fun A s r R F => wp_then (h A s r R F) fun v s1 o => wp_then o fun it s2 o => ?_) hx hs
  obtain ⟨I, src, st1, e, R1, x1, it, n1, n2, n3, ok, J, J0, Jok, turn, fin⟩ := o
  exact ⟨I, src, st1, e, R1, x1, it, n1, n2, n3, ok, J, J0, Jok, fun i p ρ' st' hp hj => WPs.sub (turn i p ρ' st' hp hj), fin⟩
end

/-- the module's own names and the built-in ones, as they stand below -/
structure Tops (c : Cx) (K : Params → Frag) : Prop where
  eq : c.K = K c.w.params
  inK : c.K.In c.B
  g : ∃ mg mb, c.B.Ns mainGlobals mg ∧ c.B.Ns builtinsNs mb ∧ ∀ x : Str, x ≠ "__name__" → mb x = bootBuiltins x
  nolimit : c.B.NoLimit
section
variable {c : Cx} {K : Params → Frag} {n : Nat} {env : Env} {ρ : Vars} {st : PS} {Q : PV → PS → Prop}
theorem Tops.own (T : Tops c K) : Own c := ⟨T.inK⟩
theorem Tops.in' (T : Tops c K) : (K c.w.params).In c.B := T.eq ▸ T.inK
theorem Tops.sys (T : Tops c K) : Sys c := let ⟨_, _, ⟨o, _, _, h, _⟩, _⟩ := T.g; ⟨o, h⟩
theorem Tops.glb (T : Tops c K) {x : Str} {v : Value} (e : nsIn (K c.w.params) mainGlobals x = some (some v)) : Glb c x v := let ⟨mg, mb, h1, _⟩ := T.g; ⟨mg, h1, mg_of T.in' h1 e⟩
theorem Tops.blt (T : Tops c K) {x : Str} {v : Value} (e : nsIn (K c.w.params) mainGlobals x = some none) (hv : bootBuiltins x = some v) (hn : x ≠ "__name__") : Blt c x v :=
  let ⟨mg, mb, h1, h2, h3⟩ := T.g; ⟨mg, mb, h1, mg_none_of T.in' h1 e, h2, (h3 x hn).trans hv⟩
noncomputable abbrev FnQ (Q : PV → PS → Prop) : PF → Vars → PS → Prop := fun pf _ st' => match pf with | .ret p => Q p st' | .next => Q .none st' | _ => False
theorem fnk (T : Tops c K) {f : Addr} {o : Obj} {fd : FuncData} {names : List (Str × NameKind)} {more : List (Str × Const)} {ss : List Stmt} {xs : List Str} {ps : List PV} (hB : (K c.w.params).lookup f = some o) (hd : o.data = .func fd) (hcd : codeIn (K c.w.params) fd.code fd.qualname = true)
    (hsc : fd.scope = ⟨.function, names, false, false, more⟩) (hb : fd.body = .stmts ss) (hg : fd.globals = mainGlobals) (hbu : fd.builtins = builtinsNs) (hclo : fd.closure = []) (hbind : ∀ vs : List Value, vs.length = xs.length → bindArgs fd ⟨vs, []⟩ = pure (xs.zip vs))
    (hlen : ps.length = xs.length) (hnd : xs.Nodup) (hok : paramsOk names xs = true)
    (h : ∀ L qual code, WPs c n (fnEnv names more L f qual code) (xs.zip ps) ss st (FnQ Q)) : WPk c (n + 1) f ps st Q :=
  k_fn (T.in' f o hB) hd (codeRec_of T.in' hcd) T.nolimit hsc hb hg hbu hclo hbind hlen hnd hok fun L => h L _ _
end
end Mine

namespace Mine
open PySem PySem.W

section
variable {c : Cx} {n : Nat} {env : Env} {ρ : Vars} {st st2 : PS} {s : Shared} {A : Around} {Q : PV → PS → Prop}
inductive MapS (c : Cx) (n : Nat) (env : Env) (ρ : Vars) (x : Str) (elt : Expr) (scope : Scope) (Q : PV → PS → Prop) (src : Src) (st1 : PS) : Prop
  | mk (ok : src.okAt st1) (hz : src.items.length ≤ 2 ^ 20) (g : List PV) (hg : g.length = src.items.length)
      (turn : ∀ (C : Addr) (i : Nat) (p q : PV), src.items[i]? = some p → g[i]? = some q → WPe c n (compEnvC scope (closOf scope env) C env) ((x, p) :: capt scope ρ) elt st1 fun r st' => r = q ∧ Le st1 st')
      (fin : ∀ D, st1 D = none → c.B.get? D = none → Q (.loc D) (st1.set D (.list g)))
/-- a comprehension whose turns leave the store -/
theorem comp_map {x : Str} {elt iter : Expr} {scope : Scope}
    (h : WPi c n env ρ iter st (MapS c n env ρ x elt scope Q)) : Comp1 c n env ρ x [] elt iter scope st Q := by
  intro A s r R F
  refine wp_then (h A s r R F) fun v s1 o => wp_then o fun it s2 o => ?_
  obtain ⟨I, src, st1, e, R1, x1, it, n1, n2, n3, ok, hok, hz, g, hg, turn, fin⟩ := o
  refine ⟨I, src, st1, e, R1, x1, it, n1, n2, n3, ok, fun i acc st' => st' = st1 ∧ acc = g.take i, ⟨rfl, by simp⟩, fun i acc st' ⟨e1, e2⟩ => ⟨e1 ▸ hok, by rw [e2, List.length_take]; omega⟩, fun C i p acc st' hp ⟨e1, e2⟩ => ?_, fun acc st' ⟨e1, e2⟩ D d1 d2 => ?_⟩
  · subst e1; subst e2
    simp only [WPts, if_true]
    have hi : i < g.length := by rw [hg]; exact (List.getElem?_eq_some_iff.mp hp).1
    refine WPe.sub ((turn C i p g[i] hp (List.getElem?_eq_getElem hi)).mono fun r st3 ⟨e3, l⟩ => ⟨_, l, rfl, ?_⟩)
    rw [e3, List.take_add_one, List.getElem?_eq_getElem hi]; rfl
  · subst e1; subst e2
    rw [← hg, List.take_length]
    exact fin D d1 d2
inductive FilS (c : Cx) (n : Nat) (env : Env) (ρ : Vars) (x : Str) (t elt : Expr) (scope : Scope) (Q : PV → PS → Prop) (src : Src) (st1 : PS) : Prop
  | mk (ok : src.okAt st1) (hz : src.items.length ≤ 2 ^ 20) (g : List (Option PV)) (hg : g.length = src.items.length)
      (test : ∀ (C : Addr) (i : Nat) (p : PV) (q : Option PV), src.items[i]? = some p → g[i]? = some q → WPb c n (compEnvC scope (closOf scope env) C env) ((x, p) :: capt scope ρ) t st1 fun b st' => b = q.isSome ∧ Le st1 st')
      (turn : ∀ (C : Addr) (i : Nat) (p q : PV), src.items[i]? = some p → g[i]? = some (some q) → WPe c n (compEnvC scope (closOf scope env) C env) ((x, p) :: capt scope ρ) elt st1 fun r st' => r = q ∧ Le st1 st')
      (fin : ∀ D, st1 D = none → c.B.get? D = none → Q (.loc D) (st1.set D (.list (g.filterMap id))))
/-- with a test -/
theorem comp_filter {x : Str} {t elt iter : Expr} {scope : Scope}
    (h : WPi c n env ρ iter st (FilS c n env ρ x t elt scope Q)) : Comp1 c n env ρ x [t] elt iter scope st Q := by
  intro A s r R F
  refine wp_then (h A s r R F) fun v s1 o => wp_then o fun it s2 o => ?_
  obtain ⟨I, src, st1, e, R1, x1, it, n1, n2, n3, ok, hok, hz, g, hg, test, turn, fin⟩ := o
  refine ⟨I, src, st1, e, R1, x1, it, n1, n2, n3, ok, fun i acc st' => st' = st1 ∧ acc = (g.take i).filterMap id, ⟨rfl, by simp⟩, fun i acc st' ⟨e1, e2⟩ => ⟨e1 ▸ hok, by rw [e2]; have := List.length_filterMap_le (id : Option PV → Option PV) (g.take i); rw [List.length_take] at this; omega⟩, fun C i p acc st' hp ⟨e1, e2⟩ => ?_, fun acc st' ⟨e1, e2⟩ D d1 d2 => ?_⟩
  · subst e1; subst e2
    have hi : i < g.length := by rw [hg]; exact (List.getElem?_eq_some_iff.mp hp).1
    show WPb _ _ _ _ _ _ _
    refine WPb.sub ((test C i p g[i] hp (List.getElem?_eq_getElem hi)).mono fun b st3 ⟨e3, l⟩ => ⟨_, l, ?_⟩)
    subst e3
    cases hq : g[i] with
    | none =>
      refine ⟨rfl, ?_⟩
      rw [List.take_add_one, List.getElem?_eq_getElem hi, hq]; simp
    | some q =>
      show WPe _ _ _ _ _ _ _
      refine WPe.sub ((turn C i p q hp (by rw [List.getElem?_eq_getElem hi, hq])).mono fun r st3 ⟨e3, l⟩ => ⟨_, l, rfl, ?_⟩)
      rw [e3, List.take_add_one, List.getElem?_eq_getElem hi, hq]; simp
  · subst e1; subst e2
    rw [← hg, List.take_length]
    exact fin D d1 d2
end

section
variable {c : Cx} {n : Nat} {env : Env} {ρ : Vars} {st : PS}
/-- what stands behind a statement -/
noncomputable abbrev Nxt (c : Cx) (n : Nat) (env : Env) (rest : List Stmt) (Q : PF → Vars → PS → Prop) : PF → Vars → PS → Prop := fun pf ρ' st' => match pf with
  | .next => WPs c n env ρ' rest st' Q
  | .brk => Q .brk ρ' st'
  | .cont => Q .cont ρ' st'
  | .ret p => Q (.ret p) ρ' st'
theorem s_step {x : Stmt} {rest : List Stmt} {Q : PF → Vars → PS → Prop} (h : WPx c n env ρ x st (Nxt c n env rest Q)) : WPs c n env ρ (x :: rest) st Q :=
  s_cons fun A s r R F => wp_then (h A s r R F) fun _ _ o => o.mono fun pf ρ' st' q => by cases pf <;> exact q
end
section
variable {c : Cx} {K : Params → Frag} {n : Nat} {env : Env} {ρ : Vars} {st : PS} {Q : PV → PS → Prop}
theorem t_builtin {f : Str} {id : String} {es : List Expr} {p1 pos : Pos} (T : Tops c K) (e : nsIn (K c.w.params) mainGlobals f = some none) (hv : bootBuiltins f = some (.builtin id)) (hn : (f == "__name__") = false) (hk : isGlob env f = true) (hs : es.all notStar = true)
    (h : WPl c n env ρ es st fun ps st1 => WPc c n (.builtin id) ps st1 Q) : WPe c n env ρ (.Call (.Name f p1) es [] pos) st Q := c_builtin (T.blt e hv (by rintro rfl; simp at hn)) hk hs h
theorem t_type {f : Str} {id : String} {es : List Expr} {p1 pos : Pos} (T : Tops c K) (e : nsIn (K c.w.params) mainGlobals f = some none) (hv : bootBuiltins f = some (.type id)) (hn : (f == "__name__") = false) (hk : isGlob env f = true) (hs : es.all notStar = true)
    (h : WPl c n env ρ es st fun ps st1 => WPc c n (.type id) ps st1 Q) : WPe c n env ρ (.Call (.Name f p1) es [] pos) st Q := c_type (T.blt e hv (by rintro rfl; simp at hn)) hk hs h
theorem t_fn {f : Str} {a : Addr} {o : Obj} {fd : FuncData} {es : List Expr} {p1 pos : Pos} (T : Tops c K) (e : nsIn (K c.w.params) mainGlobals f = some (some (.ref a))) (hL : (K c.w.params).lookup a = some o) (hd : o.data = .func fd) (hk : isGlob env f = true) (hs : es.all notStar = true)
    (h : WPl c n env ρ es st fun ps st1 => WPc c n (.ref a) ps st1 Q) : WPe c n env ρ (.Call (.Name f p1) es [] pos) st Q := c_fn (T.glb e) ⟨o, fd, T.in' _ _ hL, hd⟩ hk hs h
theorem t_range {e : Expr} {p1 pos : Pos} {Q : Src → PS → Prop} (T : Tops c K) (e1 : nsIn (K c.w.params) mainGlobals "range" = some none) (hv : bootBuiltins "range" = some (.type "range")) (hk : isGlob env "range" = true) (hs : notStar e = true)
    (h : WPe c n env ρ e st fun p st1 => ∃ i, p = .int i ∧ (-(2 ^ 60) ≤ i ∧ i < 2 ^ 60) ∧ Q (.rng 0 i) st1) : WPi c n env ρ (.Call (.Name "range" p1) [e] [] pos) st Q := i_range (T.blt e1 hv (by decide)) hk hs h
theorem t_range2 {e e' : Expr} {p1 pos : Pos} {Q : Src → PS → Prop} (T : Tops c K) (e1 : nsIn (K c.w.params) mainGlobals "range" = some none) (hv : bootBuiltins "range" = some (.type "range")) (hk : isGlob env "range" = true) (hs : notStar e = true) (hs' : notStar e' = true)
    (h : WPe c n env ρ e st fun p st1 => WPe c n env ρ e' st1 fun q st2 => ∃ i j, p = .int i ∧ q = .int j ∧ (-(2 ^ 60) ≤ i ∧ i < 2 ^ 60) ∧ (-(2 ^ 60) ≤ j ∧ j < 2 ^ 60) ∧ Q (.rng i j) st2) : WPi c n env ρ (.Call (.Name "range" p1) [e, e'] [] pos) st Q := i_range2 (T.blt e1 hv (by decide)) hk hs hs' h
theorem t_list_range {e : Expr} {p0 p1 pos0 pos : Pos} (T : Tops c K) (e0 : nsIn (K c.w.params) mainGlobals "list" = some none) (hv0 : bootBuiltins "list" = some (.type "list")) (hkl : isGlob env "list" = true) (e1 : nsIn (K c.w.params) mainGlobals "range" = some none) (hv : bootBuiltins "range" = some (.type "range")) (hk : isGlob env "range" = true) (hs : notStar e = true)
    (h : WPe c n env ρ e st fun p st1 => ∃ i : Nat, p = .int i ∧ i < 2 ^ 20 ∧ ∀ a, st1 a = none → c.B.get? a = none → Q (.loc a) (st1.set a (.list ((List.range i).map fun (j : Nat) => PV.int j)))) :
    WPe c n env ρ (.Call (.Name "list" p0) [.Call (.Name "range" p1) [e] [] pos0] [] pos) st Q := c_list_range (T.blt e0 hv0 (by decide)) hkl (T.blt e1 hv (by decide)) hk hs h
theorem t_isi {x : Str} {N : String} {e : Expr} {p0 p1 pos : Pos} (T : Tops c K) (e0 : nsIn (K c.w.params) mainGlobals "isinstance" = some none) (hv0 : bootBuiltins "isinstance" = some (.builtin "isinstance")) (hk : isGlob env "isinstance" = true) (e1 : nsIn (K c.w.params) mainGlobals x = some none) (hv1 : bootBuiltins x = some (.type N)) (hn : (x == "__name__") = false) (hkx : isGlob env x = true) (hs : notStar e = true)
    (h : WPe c n env ρ e st fun p st1 => ∃ b, IsA p N b ∧ Q (.bool b) st1) : WPe c n env ρ (.Call (.Name "isinstance" p0) [e, .Name x p1] [] pos) st Q := e_isi (T.blt e0 hv0 (by decide)) hk (T.blt e1 hv1 (by rintro rfl; simp at hn)) hkx hs h
end
-- the plain values
noncomputable def encRow (r : List Int) : PV := .tup (r.map .int)
noncomputable def encSet (S : List (List Int)) : PV := .tup (S.map encRow)
noncomputable def swapOf (a b c : Int) : Int := if c = b then a else if c = a then b else c
noncomputable def swapRow (a b : Int) (r : List Int) : List Int := r.map (swapOf a b)
theorem look_table (a b c : Int) : ((look (putK (putK [] a (.int b)) b (.int a)) c).getD (.int c)) = .int (swapOf a b c) := by
  have e0 : putK ([] : List (Int × PV)) a (.int b) = [(a, .int b)] := rfl
  rw [e0]
  unfold swapOf putK
  by_cases h : a = b
  · subst h
    simp only [List.any_cons, decide_true, List.any_nil, Bool.or_false, if_true, List.map_cons, List.map_nil]
    unfold look
    by_cases h2 : a = c
    · simp [h2]
    · simp [h2, Ne.symm h2]
  · simp only [List.any_cons, h, decide_false, List.any_nil, Bool.or_self, Bool.false_eq_true, if_false]
    unfold look
    by_cases h2 : a = c
    · subst h2; simp [h]
    · by_cases h3 : b = c
      · subst h3; simp [h]
      · simp [h2, h3, Ne.symm h2, Ne.symm h3]
end Mine

set_option maxHeartbeats 8000000
namespace Mine
open PySem PySem.W PyProof.Rows
noncomputable abbrev pw := PySem.Challenge.pw_nu0270_01
noncomputable abbrev rw' := PySem.Challenge.rw_nu0270_01.row
noncomputable abbrev Fn := Arguments × FuncBody × Scope
noncomputable def fnOf (s : Stmt) : Fn := match s with
  | .FunctionDef _ args body _ _ _ sc _ _ _ => (args, .stmts body, sc)
  | _ => (⟨[], [], none, [], [], none, []⟩, .stmts [], ⟨.function, [], false, false, []⟩)
noncomputable def bodyOf (s : Stmt) : List Stmt := match s with
  | .ClassDef _ _ _ body .. => body
  | _ => []
noncomputable def topFn (i : Nat) : Fn := fnOf (pw.main.body.getD i default)
noncomputable def ownFn (i j : Nat) : Fn := fnOf ((bodyOf (pw.main.body.getD i default)).getD j default)
noncomputable def o2 (P : Params) : Obj := ⟨.none, none, (.dict #[⟨PyData.keyHash P "type.__subclasses__.Exception.0", (.str "type.__subclasses__.Exception.0" 270), (.int 76 0)⟩, ⟨PyData.keyHash P "type.__subclasses__.Exception.n", (.str "type.__subclasses__.Exception.n" 271), (.int 1 0)⟩] 2), #[]⟩
noncomputable def o3 (P : Params) : Obj := ⟨(.type "dict"), none, (.dict #[⟨PyData.keyHash P "__name__", (.str "__name__" 165), (.str "law_nu0270_01" 482)⟩, ⟨PyData.keyHash P "__doc__", (.str "__doc__" 166), .none⟩, ⟨PyData.keyHash P "__package__", (.str "__package__" 167), .none⟩, ⟨PyData.keyHash P "__loader__", (.str "__loader__" 168), (.builtin "__main__.__loader__#opaque")⟩, ⟨PyData.keyHash P "__spec__", (.str "__spec__" 169), .none⟩, ⟨PyData.keyHash P "__annotations__", (.str "__annotations__" 170), (.ref 6)⟩, ⟨PyData.keyHash P "__builtins__", (.str "__builtins__" 171), (.ref 4)⟩, ⟨PyData.keyHash P "__file__", (.str "__file__" 173), (.str "/claim/cut.py" 172)⟩, ⟨PyData.keyHash P "__cached__", (.str "__cached__" 174), .none⟩, ⟨PyData.keyHash P "_wall", (.str "_wall" 193), (.ref 21)⟩, ⟨PyData.keyHash P "swapped", (.str "swapped" 201), (.ref 26)⟩, ⟨PyData.keyHash P "are_alike", (.str "are_alike" 211), (.ref 33)⟩, ⟨PyData.keyHash P "parts_of", (.str "parts_of" 217), (.ref 38)⟩, ⟨PyData.keyHash P "constants_of", (.str "constants_of" 223), (.ref 43)⟩, ⟨PyData.keyHash P "lots_of", (.str "lots_of" 233), (.ref 50)⟩, ⟨PyData.keyHash P "FinderError", (.str "FinderError" 273), (.ref 76)⟩, ⟨PyData.keyHash P "BoundFault", (.str "BoundFault" 289), (.ref 89)⟩, ⟨PyData.keyHash P "minus", (.str "minus" 297), (.ref 96)⟩, ⟨PyData.keyHash P "is_within", (.str "is_within" 305), (.ref 103)⟩, ⟨PyData.keyHash P "Universe", (.str "Universe" 377), (.ref 155)⟩, ⟨PyData.keyHash P "Bounds", (.str "Bounds" 481), (.ref 232)⟩, ⟨PyData.keyHash P "_law_draw", (.str "_law_draw" 493), (.ref 243)⟩, ⟨PyData.keyHash P "_law_rows", (.str "_law_rows" 499), (.ref 248)⟩, ⟨PyData.keyHash P "_law_set", (.str "_law_set" 505), (.ref 253)⟩, ⟨PyData.keyHash P "_law_constant", (.str "_law_constant" 515), (.ref 260)⟩, ⟨PyData.keyHash P "_law_node", (.str "_law_node" 529), (.ref 267)⟩, ⟨PyData.keyHash P "_law_orders", (.str "_law_orders" 535), (.ref 272)⟩, ⟨PyData.keyHash P "_law_is_kept", (.str "_law_is_kept" 541), (.ref 277)⟩, ⟨PyData.keyHash P "_law_are_right", (.str "_law_are_right" 547), (.ref 282)⟩, ⟨PyData.keyHash P "law", (.str "law" 553), (.ref 287)⟩] 30), #[]⟩
noncomputable def o25 (P : Params) : Obj := ⟨(.type "code"), none, (.fields #[(.str "swapped" 196), (.str "swapped" 197), (.str "/claim/cut.py" 198), (.int 5 0), (.int 3 0), (.int 0 0), (.int 0 0), (.int 3 0), (.ref 22), (.bool true), (.int 181 0), (.ref 23), .none, .none, .none, (.ref 24), (.int 199 0), (.int 5 0), (.str "/claim/cut.py" 200)]), #[]⟩
noncomputable def o26 (P : Params) : Obj := ⟨(.type "function"), none, (.func { name := "swapped", qualname := "swapped", params := (topFn 2).1, body := (topFn 2).2.1, scope := (topFn 2).2.2, globals := 3, closure := [], defaults := .none, kwdefaults := .none, doc := .none, pyModule := (.str "relfinder.symmetry" 194), annotations := none, code := (.ref 25), closureTuple := .none, builtins := 0 }), #[]⟩
noncomputable def o32 (P : Params) : Obj := ⟨(.type "code"), none, (.fields #[(.str "are_alike" 202), (.str "are_alike" 203), (.str "/claim/cut.py" 204), (.int 8 0), (.int 3 0), (.int 0 0), (.int 0 0), (.int 3 0), (.ref 27), (.bool true), (.int 181 0), (.ref 28), .none, (.ref 29), (.ref 30), (.ref 31), (.int 209 0), (.int 8 0), (.str "/claim/cut.py" 210)]), #[]⟩
noncomputable def o33 (P : Params) : Obj := ⟨(.type "function"), none, (.func { name := "are_alike", qualname := "are_alike", params := (topFn 3).1, body := (topFn 3).2.1, scope := (topFn 3).2.2, globals := 3, closure := [], defaults := .none, kwdefaults := .none, doc := .none, pyModule := (.str "relfinder.symmetry" 194), annotations := none, code := (.ref 32), closureTuple := .none, builtins := 0 }), #[]⟩
noncomputable def o37 (P : Params) : Obj := ⟨(.type "code"), none, (.fields #[(.str "parts_of" 212), (.str "parts_of" 213), (.str "/claim/cut.py" 214), (.int 13 0), (.int 2 0), (.int 0 0), (.int 0 0), (.int 3 0), (.ref 34), (.bool true), (.int 181 0), (.ref 35), .none, .none, .none, (.ref 36), (.int 215 0), (.int 13 0), (.str "/claim/cut.py" 216)]), #[]⟩
noncomputable def o38 (P : Params) : Obj := ⟨(.type "function"), none, (.func { name := "parts_of", qualname := "parts_of", params := (topFn 4).1, body := (topFn 4).2.1, scope := (topFn 4).2.2, globals := 3, closure := [], defaults := .none, kwdefaults := .none, doc := .none, pyModule := (.str "relfinder.symmetry" 194), annotations := none, code := (.ref 37), closureTuple := .none, builtins := 0 }), #[]⟩
noncomputable def o42 (P : Params) : Obj := ⟨(.type "code"), none, (.fields #[(.str "constants_of" 218), (.str "constants_of" 219), (.str "/claim/cut.py" 220), (.int 22 0), (.int 1 0), (.int 0 0), (.int 0 0), (.int 3 0), (.ref 39), (.bool true), (.int 181 0), (.ref 40), .none, .none, .none, (.ref 41), (.int 221 0), (.int 22 0), (.str "/claim/cut.py" 222)]), #[]⟩
noncomputable def o43 (P : Params) : Obj := ⟨(.type "function"), none, (.func { name := "constants_of", qualname := "constants_of", params := (topFn 5).1, body := (topFn 5).2.1, scope := (topFn 5).2.2, globals := 3, closure := [], defaults := .none, kwdefaults := .none, doc := .none, pyModule := (.str "relfinder.symmetry" 194), annotations := none, code := (.ref 42), closureTuple := .none, builtins := 0 }), #[]⟩
noncomputable def o49 (P : Params) : Obj := ⟨(.type "code"), none, (.fields #[(.str "lots_of" 224), (.str "lots_of" 225), (.str "/claim/cut.py" 226), (.int 31 0), (.int 2 0), (.int 0 0), (.int 0 0), (.int 3 0), (.ref 44), (.bool true), (.int 181 0), (.ref 45), .none, (.ref 46), (.ref 47), (.ref 48), (.int 231 0), (.int 31 0), (.str "/claim/cut.py" 232)]), #[]⟩
noncomputable def o50 (P : Params) : Obj := ⟨(.type "function"), none, (.func { name := "lots_of", qualname := "lots_of", params := (topFn 6).1, body := (topFn 6).2.1, scope := (topFn 6).2.2, globals := 3, closure := [], defaults := .none, kwdefaults := .none, doc := .none, pyModule := (.str "relfinder.symmetry" 194), annotations := none, code := (.ref 49), closureTuple := .none, builtins := 0 }), #[]⟩
noncomputable def o95 (P : Params) : Obj := ⟨(.type "code"), none, (.fields #[(.str "minus" 292), (.str "minus" 293), (.str "/claim/cut.py" 294), (.int 48 0), (.int 2 0), (.int 0 0), (.int 0 0), (.int 3 0), (.ref 92), (.bool true), (.int 181 0), (.ref 93), .none, .none, .none, (.ref 94), (.int 295 0), (.int 48 0), (.str "/claim/cut.py" 296)]), #[]⟩
noncomputable def o96 (P : Params) : Obj := ⟨(.type "function"), none, (.func { name := "minus", qualname := "minus", params := (topFn 11).1, body := (topFn 11).2.1, scope := (topFn 11).2.2, globals := 3, closure := [], defaults := .none, kwdefaults := .none, doc := .none, pyModule := (.str "relfinder.sets" 290), annotations := none, code := (.ref 95), closureTuple := .none, builtins := 0 }), #[]⟩
noncomputable def o102 (P : Params) : Obj := ⟨(.type "code"), none, (.fields #[(.str "is_within" 298), (.str "is_within" 299), (.str "/claim/cut.py" 300), (.int 51 0), (.int 2 0), (.int 0 0), (.int 0 0), (.int 3 0), (.ref 97), (.bool true), (.int 181 0), (.ref 98), .none, (.ref 99), (.ref 100), (.ref 101), (.int 303 0), (.int 51 0), (.str "/claim/cut.py" 304)]), #[]⟩
noncomputable def o103 (P : Params) : Obj := ⟨(.type "function"), none, (.func { name := "is_within", qualname := "is_within", params := (topFn 12).1, body := (topFn 12).2.1, scope := (topFn 12).2.2, globals := 3, closure := [], defaults := .none, kwdefaults := .none, doc := .none, pyModule := (.str "relfinder.sets" 290), annotations := none, code := (.ref 102), closureTuple := .none, builtins := 0 }), #[]⟩
noncomputable def o116 (P : Params) : Obj := ⟨(.type "code"), none, (.fields #[(.str "__init__" 320), (.str "Universe.__init__" 321), (.str "/claim/cut.py" 322), (.int 56 0), (.int 2 0), (.int 0 0), (.int 0 0), (.int 3 0), (.ref 111), (.bool true), (.int 181 0), (.ref 112), .none, (.ref 113), (.ref 114), (.ref 115), (.int 326 0), (.int 56 0), (.str "/claim/cut.py" 327)]), #[]⟩
noncomputable def o117 (P : Params) : Obj := ⟨(.type "function"), none, (.func { name := "__init__", qualname := "Universe.__init__", params := (ownFn 14 0).1, body := (ownFn 14 0).2.1, scope := (ownFn 14 0).2.2, globals := 3, closure := [], defaults := .none, kwdefaults := .none, doc := .none, pyModule := (.str "relfinder.universe" 306), annotations := none, code := (.ref 116), closureTuple := .none, builtins := 0 }), #[]⟩
noncomputable def o123 (P : Params) : Obj := ⟨(.type "code"), none, (.fields #[(.str "size" 329), (.str "Universe.size" 330), (.str "/claim/cut.py" 331), (.int 64 0), (.int 1 0), (.int 0 0), (.int 0 0), (.int 3 0), (.ref 118), (.bool true), (.int 181 0), (.ref 119), .none, (.ref 120), (.ref 121), (.ref 122), (.int 333 0), (.int 64 0), (.str "/claim/cut.py" 334)]), #[]⟩
noncomputable def o124 (P : Params) : Obj := ⟨(.type "function"), none, (.func { name := "size", qualname := "Universe.size", params := (ownFn 14 1).1, body := (ownFn 14 1).2.1, scope := (ownFn 14 1).2.2, globals := 3, closure := [], defaults := .none, kwdefaults := .none, doc := .none, pyModule := (.str "relfinder.universe" 306), annotations := none, code := (.ref 123), closureTuple := .none, builtins := 0 }), #[]⟩
noncomputable def o154 (P : Params) : Obj := ⟨(.type "dict"), none, (.dict #[⟨PyData.keyHash P "__module__", (.str "__module__" 315), (.str "relfinder.universe" 306)⟩, ⟨PyData.keyHash P "__firstlineno__", (.str "__firstlineno__" 319), (.int 54 318)⟩, ⟨PyData.keyHash P "__init__", (.str "__init__" 328), (.ref 117)⟩, ⟨PyData.keyHash P "size", (.str "size" 335), (.ref 124)⟩, ⟨PyData.keyHash P "name", (.str "name" 343), (.ref 131)⟩, ⟨PyData.keyHash P "atom", (.str "atom" 351), (.ref 138)⟩, ⟨PyData.keyHash P "text_of", (.str "text_of" 359), (.ref 145)⟩, ⟨PyData.keyHash P "set_text", (.str "set_text" 367), (.ref 152)⟩, ⟨PyData.keyHash P "__static_attributes__", (.str "__static_attributes__" 370), (.ref 153)⟩, ⟨PyData.keyHash P "__dict__", (.str "__dict__" 372), (.ref 156)⟩, ⟨PyData.keyHash P "__weakref__", (.str "__weakref__" 374), (.ref 157)⟩, ⟨PyData.keyHash P "__doc__", (.str "__doc__" 375), .none⟩] 4), #[]⟩
noncomputable def o155 (P : Params) : Obj := ⟨(.type "type"), none, (.cls { name := "Universe", bases := [(.type "object")], mro := [(.ref 155), (.type "object")], ns := 154, qualname := "Universe", hasDict := true, slotNames := [], subclasses := [], abstract := false, collection := none, hasDel := false }), #[none, none, (some (.str "Universe" 308)), (some (.str "Universe" 316)), (some (.builtin "object.__new__")), (some (.bool true))]⟩
noncomputable def o172 (P : Params) : Obj := ⟨(.type "code"), none, (.fields #[(.str "__init__" 390), (.str "Bounds.__init__" 391), (.str "/claim/cut.py" 392), (.int 82 0), (.int 2 0), (.int 0 0), (.int 0 0), (.int 3 0), (.ref 167), (.bool true), (.int 181 0), (.ref 168), .none, (.ref 169), (.ref 170), (.ref 171), (.int 395 0), (.int 82 0), (.str "/claim/cut.py" 396)]), #[]⟩
noncomputable def o173 (P : Params) : Obj := ⟨(.type "function"), none, (.func { name := "__init__", qualname := "Bounds.__init__", params := (ownFn 15 0).1, body := (ownFn 15 0).2.1, scope := (ownFn 15 0).2.2, globals := 3, closure := [], defaults := .none, kwdefaults := .none, doc := .none, pyModule := (.str "relfinder.universe" 306), annotations := none, code := (.ref 172), closureTuple := .none, builtins := 0 }), #[]⟩
noncomputable def o179 (P : Params) : Obj := ⟨(.type "code"), none, (.fields #[(.str "add" 398), (.str "Bounds.add" 399), (.str "/claim/cut.py" 400), (.int 87 0), (.int 5 0), (.int 0 0), (.int 0 0), (.int 3 0), (.ref 174), (.bool true), (.int 181 0), (.ref 175), .none, (.ref 176), (.ref 177), (.ref 178), (.int 406 0), (.int 87 0), (.str "/claim/cut.py" 407)]), #[]⟩
noncomputable def o180 (P : Params) : Obj := ⟨(.type "function"), none, (.func { name := "add", qualname := "Bounds.add", params := (ownFn 15 1).1, body := (ownFn 15 1).2.1, scope := (ownFn 15 1).2.2, globals := 3, closure := [], defaults := .none, kwdefaults := .none, doc := .none, pyModule := (.str "relfinder.universe" 306), annotations := none, code := (.ref 179), closureTuple := .none, builtins := 0 }), #[]⟩
noncomputable def o186 (P : Params) : Obj := ⟨(.type "code"), none, (.fields #[(.str "want_set" 409), (.str "Bounds.want_set" 410), (.str "/claim/cut.py" 411), (.int 100 0), (.int 4 0), (.int 0 0), (.int 0 0), (.int 3 0), (.ref 181), (.bool true), (.int 181 0), (.ref 182), .none, (.ref 183), (.ref 184), (.ref 185), (.int 419 0), (.int 100 0), (.str "/claim/cut.py" 420)]), #[]⟩
noncomputable def o187 (P : Params) : Obj := ⟨(.type "function"), none, (.func { name := "want_set", qualname := "Bounds.want_set", params := (ownFn 15 2).1, body := (ownFn 15 2).2.1, scope := (ownFn 15 2).2.2, globals := 3, closure := [], defaults := .none, kwdefaults := .none, doc := .none, pyModule := (.str "relfinder.universe" 306), annotations := none, code := (.ref 186), closureTuple := .none, builtins := 0 }), #[]⟩
noncomputable def o207 (P : Params) : Obj := ⟨(.type "code"), none, (.fields #[(.str "size" 440), (.str "Bounds.size" 441), (.str "/claim/cut.py" 442), (.int 119 0), (.int 1 0), (.int 0 0), (.int 0 0), (.int 3 0), (.ref 202), (.bool true), (.int 181 0), (.ref 203), .none, (.ref 204), (.ref 205), (.ref 206), (.int 444 0), (.int 119 0), (.str "/claim/cut.py" 445)]), #[]⟩
noncomputable def o208 (P : Params) : Obj := ⟨(.type "function"), none, (.func { name := "size", qualname := "Bounds.size", params := (ownFn 15 5).1, body := (ownFn 15 5).2.1, scope := (ownFn 15 5).2.2, globals := 3, closure := [], defaults := .none, kwdefaults := .none, doc := .none, pyModule := (.str "relfinder.universe" 306), annotations := none, code := (.ref 207), closureTuple := .none, builtins := 0 }), #[]⟩
noncomputable def o214 (P : Params) : Obj := ⟨(.type "code"), none, (.fields #[(.str "lower" 447), (.str "Bounds.lower" 448), (.str "/claim/cut.py" 449), (.int 122 0), (.int 2 0), (.int 0 0), (.int 0 0), (.int 3 0), (.ref 209), (.bool true), (.int 181 0), (.ref 210), .none, (.ref 211), (.ref 212), (.ref 213), (.int 452 0), (.int 122 0), (.str "/claim/cut.py" 453)]), #[]⟩
noncomputable def o215 (P : Params) : Obj := ⟨(.type "function"), none, (.func { name := "lower", qualname := "Bounds.lower", params := (ownFn 15 6).1, body := (ownFn 15 6).2.1, scope := (ownFn 15 6).2.2, globals := 3, closure := [], defaults := .none, kwdefaults := .none, doc := .none, pyModule := (.str "relfinder.universe" 306), annotations := none, code := (.ref 214), closureTuple := .none, builtins := 0 }), #[]⟩
noncomputable def o221 (P : Params) : Obj := ⟨(.type "code"), none, (.fields #[(.str "upper" 455), (.str "Bounds.upper" 456), (.str "/claim/cut.py" 457), (.int 125 0), (.int 2 0), (.int 0 0), (.int 0 0), (.int 3 0), (.ref 216), (.bool true), (.int 181 0), (.ref 217), .none, (.ref 218), (.ref 219), (.ref 220), (.int 460 0), (.int 125 0), (.str "/claim/cut.py" 461)]), #[]⟩
noncomputable def o222 (P : Params) : Obj := ⟨(.type "function"), none, (.func { name := "upper", qualname := "Bounds.upper", params := (ownFn 15 7).1, body := (ownFn 15 7).2.1, scope := (ownFn 15 7).2.2, globals := 3, closure := [], defaults := .none, kwdefaults := .none, doc := .none, pyModule := (.str "relfinder.universe" 306), annotations := none, code := (.ref 221), closureTuple := .none, builtins := 0 }), #[]⟩
noncomputable def o231 (P : Params) : Obj := ⟨(.type "dict"), none, (.dict #[⟨PyData.keyHash P "__module__", (.str "__module__" 385), (.str "relfinder.universe" 306)⟩, ⟨PyData.keyHash P "__firstlineno__", (.str "__firstlineno__" 389), (.int 80 388)⟩, ⟨PyData.keyHash P "__init__", (.str "__init__" 397), (.ref 173)⟩, ⟨PyData.keyHash P "add", (.str "add" 408), (.ref 180)⟩, ⟨PyData.keyHash P "want_set", (.str "want_set" 421), (.ref 187)⟩, ⟨PyData.keyHash P "exactly", (.str "exactly" 431), (.ref 194)⟩, ⟨PyData.keyHash P "bound", (.str "bound" 439), (.ref 201)⟩, ⟨PyData.keyHash P "size", (.str "size" 446), (.ref 208)⟩, ⟨PyData.keyHash P "lower", (.str "lower" 454), (.ref 215)⟩, ⟨PyData.keyHash P "upper", (.str "upper" 462), (.ref 222)⟩, ⟨PyData.keyHash P "number_of", (.str "number_of" 470), (.ref 229)⟩, ⟨PyData.keyHash P "__static_attributes__", (.str "__static_attributes__" 474), (.ref 230)⟩, ⟨PyData.keyHash P "__dict__", (.str "__dict__" 476), (.ref 233)⟩, ⟨PyData.keyHash P "__weakref__", (.str "__weakref__" 478), (.ref 234)⟩, ⟨PyData.keyHash P "__doc__", (.str "__doc__" 479), .none⟩] 4), #[]⟩
noncomputable def o232 (P : Params) : Obj := ⟨(.type "type"), none, (.cls { name := "Bounds", bases := [(.type "object")], mro := [(.ref 232), (.type "object")], ns := 231, qualname := "Bounds", hasDict := true, slotNames := [], subclasses := [], abstract := false, collection := none, hasDel := false }), #[none, none, (some (.str "Bounds" 378)), (some (.str "Bounds" 386)), (some (.builtin "object.__new__")), (some (.bool true))]⟩
noncomputable def o242 (P : Params) : Obj := ⟨(.type "code"), none, (.fields #[(.str "_law_draw" 484), (.str "_law_draw" 485), (.str "/claim/cut.py" 486), (.int 131 0), (.int 2 0), (.int 0 0), (.int 0 0), (.int 3 0), (.ref 237), (.bool true), (.int 181 0), (.ref 238), .none, (.ref 239), (.ref 240), (.ref 241), (.int 491 0), (.int 131 0), (.str "/claim/cut.py" 492)]), #[]⟩
noncomputable def o243 (P : Params) : Obj := ⟨(.type "function"), none, (.func { name := "_law_draw", qualname := "_law_draw", params := (topFn 17).1, body := (topFn 17).2.1, scope := (topFn 17).2.2, globals := 3, closure := [], defaults := .none, kwdefaults := .none, doc := .none, pyModule := (.str "law_nu0270_01" 482), annotations := none, code := (.ref 242), closureTuple := .none, builtins := 0 }), #[]⟩
noncomputable def o247 (P : Params) : Obj := ⟨(.type "code"), none, (.fields #[(.str "_law_rows" 494), (.str "_law_rows" 495), (.str "/claim/cut.py" 496), (.int 135 0), (.int 2 0), (.int 0 0), (.int 0 0), (.int 3 0), (.ref 244), (.bool true), (.int 181 0), (.ref 245), .none, .none, .none, (.ref 246), (.int 497 0), (.int 135 0), (.str "/claim/cut.py" 498)]), #[]⟩
noncomputable def o248 (P : Params) : Obj := ⟨(.type "function"), none, (.func { name := "_law_rows", qualname := "_law_rows", params := (topFn 18).1, body := (topFn 18).2.1, scope := (topFn 18).2.2, globals := 3, closure := [], defaults := .none, kwdefaults := .none, doc := .none, pyModule := (.str "law_nu0270_01" 482), annotations := none, code := (.ref 247), closureTuple := .none, builtins := 0 }), #[]⟩
noncomputable def o252 (P : Params) : Obj := ⟨(.type "code"), none, (.fields #[(.str "_law_set" 500), (.str "_law_set" 501), (.str "/claim/cut.py" 502), (.int 137 0), (.int 3 0), (.int 0 0), (.int 0 0), (.int 3 0), (.ref 249), (.bool true), (.int 181 0), (.ref 250), .none, .none, .none, (.ref 251), (.int 503 0), (.int 137 0), (.str "/claim/cut.py" 504)]), #[]⟩
noncomputable def o253 (P : Params) : Obj := ⟨(.type "function"), none, (.func { name := "_law_set", qualname := "_law_set", params := (topFn 19).1, body := (topFn 19).2.1, scope := (topFn 19).2.2, globals := 3, closure := [], defaults := .none, kwdefaults := .none, doc := .none, pyModule := (.str "law_nu0270_01" 482), annotations := none, code := (.ref 252), closureTuple := .none, builtins := 0 }), #[]⟩
noncomputable def o259 (P : Params) : Obj := ⟨(.type "code"), none, (.fields #[(.str "_law_constant" 506), (.str "_law_constant" 507), (.str "/claim/cut.py" 508), (.int 151 0), (.int 4 0), (.int 0 0), (.int 0 0), (.int 3 0), (.ref 254), (.bool true), (.int 181 0), (.ref 255), .none, (.ref 256), (.ref 257), (.ref 258), (.int 513 0), (.int 151 0), (.str "/claim/cut.py" 514)]), #[]⟩
noncomputable def o260 (P : Params) : Obj := ⟨(.type "function"), none, (.func { name := "_law_constant", qualname := "_law_constant", params := (topFn 20).1, body := (topFn 20).2.1, scope := (topFn 20).2.2, globals := 3, closure := [], defaults := .none, kwdefaults := .none, doc := .none, pyModule := (.str "law_nu0270_01" 482), annotations := none, code := (.ref 259), closureTuple := .none, builtins := 0 }), #[]⟩
noncomputable def o266 (P : Params) : Obj := ⟨(.type "code"), none, (.fields #[(.str "_law_node" 516), (.str "_law_node" 517), (.str "/claim/cut.py" 518), (.int 154 0), (.int 4 0), (.int 0 0), (.int 0 0), (.int 3 0), (.ref 261), (.bool true), (.int 181 0), (.ref 262), .none, (.ref 263), (.ref 264), (.ref 265), (.int 527 0), (.int 154 0), (.str "/claim/cut.py" 528)]), #[]⟩
noncomputable def o267 (P : Params) : Obj := ⟨(.type "function"), none, (.func { name := "_law_node", qualname := "_law_node", params := (topFn 21).1, body := (topFn 21).2.1, scope := (topFn 21).2.2, globals := 3, closure := [], defaults := .none, kwdefaults := .none, doc := .none, pyModule := (.str "law_nu0270_01" 482), annotations := none, code := (.ref 266), closureTuple := .none, builtins := 0 }), #[]⟩
noncomputable def o271 (P : Params) : Obj := ⟨(.type "code"), none, (.fields #[(.str "_law_orders" 530), (.str "_law_orders" 531), (.str "/claim/cut.py" 532), (.int 170 0), (.int 1 0), (.int 0 0), (.int 0 0), (.int 3 0), (.ref 268), (.bool true), (.int 181 0), (.ref 269), .none, .none, .none, (.ref 270), (.int 533 0), (.int 170 0), (.str "/claim/cut.py" 534)]), #[]⟩
noncomputable def o272 (P : Params) : Obj := ⟨(.type "function"), none, (.func { name := "_law_orders", qualname := "_law_orders", params := (topFn 22).1, body := (topFn 22).2.1, scope := (topFn 22).2.2, globals := 3, closure := [], defaults := .none, kwdefaults := .none, doc := .none, pyModule := (.str "law_nu0270_01" 482), annotations := none, code := (.ref 271), closureTuple := .none, builtins := 0 }), #[]⟩
noncomputable def o276 (P : Params) : Obj := ⟨(.type "code"), none, (.fields #[(.str "_law_is_kept" 536), (.str "_law_is_kept" 537), (.str "/claim/cut.py" 538), (.int 175 0), (.int 2 0), (.int 0 0), (.int 0 0), (.int 3 0), (.ref 273), (.bool true), (.int 181 0), (.ref 274), .none, .none, .none, (.ref 275), (.int 539 0), (.int 175 0), (.str "/claim/cut.py" 540)]), #[]⟩
noncomputable def o277 (P : Params) : Obj := ⟨(.type "function"), none, (.func { name := "_law_is_kept", qualname := "_law_is_kept", params := (topFn 23).1, body := (topFn 23).2.1, scope := (topFn 23).2.2, globals := 3, closure := [], defaults := .none, kwdefaults := .none, doc := .none, pyModule := (.str "law_nu0270_01" 482), annotations := none, code := (.ref 276), closureTuple := .none, builtins := 0 }), #[]⟩
noncomputable def o281 (P : Params) : Obj := ⟨(.type "code"), none, (.fields #[(.str "_law_are_right" 542), (.str "_law_are_right" 543), (.str "/claim/cut.py" 544), (.int 180 0), (.int 3 0), (.int 0 0), (.int 0 0), (.int 3 0), (.ref 278), (.bool true), (.int 181 0), (.ref 279), .none, .none, .none, (.ref 280), (.int 545 0), (.int 180 0), (.str "/claim/cut.py" 546)]), #[]⟩
noncomputable def o282 (P : Params) : Obj := ⟨(.type "function"), none, (.func { name := "_law_are_right", qualname := "_law_are_right", params := (topFn 24).1, body := (topFn 24).2.1, scope := (topFn 24).2.2, globals := 3, closure := [], defaults := .none, kwdefaults := .none, doc := .none, pyModule := (.str "law_nu0270_01" 482), annotations := none, code := (.ref 281), closureTuple := .none, builtins := 0 }), #[]⟩
noncomputable def o286 (P : Params) : Obj := ⟨(.type "code"), none, (.fields #[(.str "law" 548), (.str "law" 549), (.str "/claim/cut.py" 550), (.int 200 0), (.int 1 0), (.int 0 0), (.int 0 0), (.int 3 0), (.ref 283), (.bool true), (.int 181 0), (.ref 284), .none, .none, .none, (.ref 285), (.int 551 0), (.int 200 0), (.str "/claim/cut.py" 552)]), #[]⟩
noncomputable def o287 (P : Params) : Obj := ⟨(.type "function"), none, (.func { name := "law", qualname := "law", params := (topFn 25).1, body := (topFn 25).2.1, scope := (topFn 25).2.2, globals := 3, closure := [], defaults := .none, kwdefaults := .none, doc := .none, pyModule := (.str "law_nu0270_01" 482), annotations := none, code := (.ref 286), closureTuple := .none, builtins := 0 }), #[]⟩
noncomputable def os0 (P : Params) (r : List Obj) : List Obj :=
  boot_o_0 P ::
  boot_o_1 P :: r
noncomputable def os4 (P : Params) (r : List Obj) : List Obj :=
  boot_o_4 P ::
  boot_o_5 P ::
  boot_o_6 P ::
  boot_o_7 P ::
  boot_o_8 P ::
  boot_o_9 P ::
  boot_o_10 P ::
  ⟨(.type "tuple"), none, (.seq #[] 0), #[]⟩ :: r
noncomputable def os13 (P : Params) (r : List Obj) : List Obj :=
  ⟨(.type "code"), none, (.fields #[(.str "<module>" 182), (.str "<module>" 183), (.str "/claim/cut.py" 184), (.int 1 0), (.int 0 0), (.int 0 0), (.int 0 0), (.int 0 0), (.ref 11), (.bool false), (.int 181 0), (.ref 12), .none, .none, .none, .none, (.int 185 0), (.int 1 0), (.str "/claim/cut.py" 186)]), #[]⟩ ::
  ⟨(.type "frame"), none, .plain, #[(some (.ref 13)), (some (.ref 3)), (some (.ref 3)), none, (some (.str "__main__" 164)), none, (some (.ref 0))]⟩ :: r
noncomputable def os15 (P : Params) (r : List Obj) : List Obj :=
  ⟨(.type "tuple"), none, (.seq #[] 0), #[]⟩ ::
  ⟨.none, none, (.fields #[]), #[]⟩ ::
  ⟨(.type "tuple"), none, (.seq #[(.str "k" 190)] 0), #[]⟩ ::
  ⟨(.type "tuple"), none, (.seq #[] 0), #[]⟩ ::
  ⟨.none, none, (.func { name := "_wall", qualname := "_wall", params := (topFn 0).1, body := (topFn 0).2.1, scope := (topFn 0).2.2, globals := 0, closure := [], defaults := .none, kwdefaults := .none, doc := .none, pyModule := .none, annotations := none, code := .none, closureTuple := .none, builtins := 0 }), #[]⟩ ::
  ⟨(.type "code"), none, (.fields #[(.str "_wall" 187), (.str "_wall" 188), (.str "/claim/cut.py" 189), (.int 1 0), (.int 1 0), (.int 0 0), (.int 0 0), (.int 3 0), (.ref 15), (.bool true), (.int 181 0), (.ref 16), .none, (.ref 17), (.ref 18), (.ref 19), (.int 191 0), (.int 1 0), (.str "/claim/cut.py" 192)]), #[]⟩ ::
  ⟨(.type "function"), none, (.func { name := "_wall", qualname := "_wall", params := (topFn 0).1, body := (topFn 0).2.1, scope := (topFn 0).2.2, globals := 3, closure := [], defaults := .none, kwdefaults := .none, doc := .none, pyModule := (.str "__main__" 164), annotations := none, code := (.ref 20), closureTuple := .none, builtins := 0 }), #[]⟩ ::
  ⟨(.type "tuple"), none, (.seq #[] 0), #[]⟩ ::
  ⟨.none, none, (.fields #[]), #[]⟩ ::
  ⟨.none, none, (.func { name := "swapped", qualname := "swapped", params := (topFn 2).1, body := (topFn 2).2.1, scope := (topFn 2).2.2, globals := 0, closure := [], defaults := .none, kwdefaults := .none, doc := .none, pyModule := .none, annotations := none, code := .none, closureTuple := .none, builtins := 0 }), #[]⟩ ::
  o25 P ::
  o26 P ::
  ⟨(.type "tuple"), none, (.seq #[] 0), #[]⟩ ::
  ⟨.none, none, (.fields #[]), #[]⟩ ::
  ⟨(.type "tuple"), none, (.seq #[(.str "some" 205), (.str "a" 206), (.str "b" 207), (.str "one" 208)] 0), #[]⟩ ::
  ⟨(.type "tuple"), none, (.seq #[] 0), #[]⟩ ::
  ⟨.none, none, (.func { name := "are_alike", qualname := "are_alike", params := (topFn 3).1, body := (topFn 3).2.1, scope := (topFn 3).2.2, globals := 0, closure := [], defaults := .none, kwdefaults := .none, doc := .none, pyModule := .none, annotations := none, code := .none, closureTuple := .none, builtins := 0 }), #[]⟩ ::
  o32 P ::
  o33 P ::
  ⟨(.type "tuple"), none, (.seq #[] 0), #[]⟩ ::
  ⟨.none, none, (.fields #[]), #[]⟩ ::
  ⟨.none, none, (.func { name := "parts_of", qualname := "parts_of", params := (topFn 4).1, body := (topFn 4).2.1, scope := (topFn 4).2.2, globals := 0, closure := [], defaults := .none, kwdefaults := .none, doc := .none, pyModule := .none, annotations := none, code := .none, closureTuple := .none, builtins := 0 }), #[]⟩ ::
  o37 P ::
  o38 P ::
  ⟨(.type "tuple"), none, (.seq #[] 0), #[]⟩ ::
  ⟨.none, none, (.fields #[]), #[]⟩ ::
  ⟨.none, none, (.func { name := "constants_of", qualname := "constants_of", params := (topFn 5).1, body := (topFn 5).2.1, scope := (topFn 5).2.2, globals := 0, closure := [], defaults := .none, kwdefaults := .none, doc := .none, pyModule := .none, annotations := none, code := .none, closureTuple := .none, builtins := 0 }), #[]⟩ ::
  o42 P ::
  o43 P ::
  ⟨(.type "tuple"), none, (.seq #[] 0), #[]⟩ ::
  ⟨.none, none, (.fields #[]), #[]⟩ ::
  ⟨(.type "tuple"), none, (.seq #[(.str "bounds" 227), (.str "constants" 228), (.str "some" 229), (.str "r" 230)] 0), #[]⟩ ::
  ⟨(.type "tuple"), none, (.seq #[] 0), #[]⟩ ::
  ⟨.none, none, (.func { name := "lots_of", qualname := "lots_of", params := (topFn 6).1, body := (topFn 6).2.1, scope := (topFn 6).2.2, globals := 0, closure := [], defaults := .none, kwdefaults := .none, doc := .none, pyModule := .none, annotations := none, code := .none, closureTuple := .none, builtins := 0 }), #[]⟩ ::
  o49 P ::
  o50 P ::
  ⟨(.type "tuple"), none, (.seq #[(.type "Exception")] 0), #[]⟩ ::
  ⟨(.type "builtin_function_or_method"), none, (.fields #[(.builtin "type.__prepare__"), (.type "type")]), #[]⟩ ::
  ⟨(.type "dict"), none, (.dict #[⟨PyData.keyHash P "__module__", (.str "__module__" 243), (.str "relfinder.errors" 234)⟩, ⟨PyData.keyHash P "__qualname__", (.str "__qualname__" 245), (.str "FinderError" 244)⟩, ⟨PyData.keyHash P "__firstlineno__", (.str "__firstlineno__" 247), (.int 37 246)⟩, ⟨PyData.keyHash P "__init__", (.str "__init__" 256), (.ref 66)⟩, ⟨PyData.keyHash P "told", (.str "told" 263), (.ref 73)⟩, ⟨PyData.keyHash P "__static_attributes__", (.str "__static_attributes__" 265), (.ref 74)⟩, ⟨PyData.keyHash P "__classcell__", (.str "__classcell__" 266), (.ref 54)⟩] 7), #[]⟩ ::
  ⟨(.type "cell"), none, (.cell (some (.ref 76))), #[]⟩ ::
  ⟨(.type "tuple"), none, (.seq #[] 0), #[]⟩ ::
  ⟨.none, none, (.fields #[(.int 39 0), (.int 4 0), (.ref 65), (.int 43 0), (.int 4 0), (.ref 72)]), #[]⟩ ::
  ⟨(.type "code"), none, (.fields #[(.str "FinderError" 238), (.str "FinderError" 239), (.str "/claim/cut.py" 240), (.int 37 0), (.int 0 0), (.int 0 0), (.int 0 0), (.int 0 0), (.ref 55), (.bool false), (.int 181 0), (.ref 56), .none, .none, .none, .none, (.int 241 0), (.int 37 0), (.str "/claim/cut.py" 242)]), #[]⟩ ::
  ⟨(.type "frame"), none, .plain, #[(some (.ref 57)), (some (.ref 3)), (some (.ref 53)), none, (some (.str "relfinder.errors" 234)), none, (some (.ref 0))]⟩ ::
  ⟨(.type "tuple"), none, (.seq #[(.ref 54)] 0), #[]⟩ ::
  ⟨(.type "tuple"), none, (.seq #[(.str "__class__" 251)] 0), #[]⟩ ::
  ⟨.none, none, (.fields #[]), #[]⟩ ::
  ⟨(.type "tuple"), none, (.seq #[(.str "self" 252), (.str "what" 253)] 0), #[]⟩ ::
  ⟨(.type "tuple"), none, (.seq #[] 0), #[]⟩ ::
  ⟨.none, none, (.func { name := "__init__", qualname := "FinderError.__init__", params := (ownFn 8 0).1, body := (ownFn 8 0).2.1, scope := (ownFn 8 0).2.2, globals := 0, closure := [], defaults := .none, kwdefaults := .none, doc := .none, pyModule := .none, annotations := none, code := .none, closureTuple := .none, builtins := 0 }), #[]⟩ ::
  ⟨(.type "code"), none, (.fields #[(.str "__init__" 248), (.str "FinderError.__init__" 249), (.str "/claim/cut.py" 250), (.int 39 0), (.int 2 0), (.int 0 0), (.int 0 0), (.int 3 0), (.ref 60), (.bool true), (.int 181 0), (.ref 61), .none, (.ref 62), (.ref 63), (.ref 64), (.int 254 0), (.int 39 0), (.str "/claim/cut.py" 255)]), #[]⟩ ::
  ⟨(.type "function"), none, (.func { name := "__init__", qualname := "FinderError.__init__", params := (ownFn 8 0).1, body := (ownFn 8 0).2.1, scope := (ownFn 8 0).2.2, globals := 3, closure := [("__class__", 54)], defaults := .none, kwdefaults := .none, doc := .none, pyModule := (.str "relfinder.errors" 234), annotations := none, code := (.ref 65), closureTuple := (.ref 59), builtins := 0 }), #[]⟩ ::
  ⟨(.type "tuple"), none, (.seq #[] 0), #[]⟩ ::
  ⟨.none, none, (.fields #[]), #[]⟩ ::
  ⟨(.type "tuple"), none, (.seq #[(.str "self" 260)] 0), #[]⟩ ::
  ⟨(.type "tuple"), none, (.seq #[] 0), #[]⟩ ::
  ⟨.none, none, (.func { name := "told", qualname := "FinderError.told", params := (ownFn 8 1).1, body := (ownFn 8 1).2.1, scope := (ownFn 8 1).2.2, globals := 0, closure := [], defaults := .none, kwdefaults := .none, doc := .none, pyModule := .none, annotations := none, code := .none, closureTuple := .none, builtins := 0 }), #[]⟩ ::
  ⟨(.type "code"), none, (.fields #[(.str "told" 257), (.str "FinderError.told" 258), (.str "/claim/cut.py" 259), (.int 43 0), (.int 1 0), (.int 0 0), (.int 0 0), (.int 3 0), (.ref 67), (.bool true), (.int 181 0), (.ref 68), .none, (.ref 69), (.ref 70), (.ref 71), (.int 261 0), (.int 43 0), (.str "/claim/cut.py" 262)]), #[]⟩ ::
  ⟨(.type "function"), none, (.func { name := "told", qualname := "FinderError.told", params := (ownFn 8 1).1, body := (ownFn 8 1).2.1, scope := (ownFn 8 1).2.2, globals := 3, closure := [], defaults := .none, kwdefaults := .none, doc := .none, pyModule := (.str "relfinder.errors" 234), annotations := none, code := (.ref 72), closureTuple := .none, builtins := 0 }), #[]⟩ ::
  ⟨(.type "tuple"), none, (.seq #[(.str "what" 264)] 0), #[]⟩ ::
  ⟨(.type "dict"), none, (.dict #[⟨PyData.keyHash P "__module__", (.str "__module__" 243), (.str "relfinder.errors" 234)⟩, ⟨PyData.keyHash P "__firstlineno__", (.str "__firstlineno__" 247), (.int 37 246)⟩, ⟨PyData.keyHash P "__init__", (.str "__init__" 256), (.ref 66)⟩, ⟨PyData.keyHash P "told", (.str "told" 263), (.ref 73)⟩, ⟨PyData.keyHash P "__static_attributes__", (.str "__static_attributes__" 265), (.ref 74)⟩, ⟨PyData.keyHash P "__weakref__", (.str "__weakref__" 268), (.ref 77)⟩, ⟨PyData.keyHash P "__doc__", (.str "__doc__" 269), .none⟩] 4), #[]⟩ :: r
noncomputable def os77 (P : Params) (r : List Obj) : List Obj :=
  ⟨(.type "getset_descriptor"), none, (.fields #[(.str "__weakref__" 267), (.ref 76), (.builtin "ExceptionGroup.__weakref__"), .none]), #[]⟩ ::
  ⟨(.type "super"), none, (.fields #[(.ref 76), (.ref 76), (.ref 76)]), #[]⟩ ::
  ⟨(.type "builtin_function_or_method"), none, (.fields #[(.builtin "object.__init_subclass__"), (.ref 76)]), #[]⟩ :: r
noncomputable def os80 (P : Params) (r : List Obj) : List Obj :=
  ⟨(.type "tuple"), none, (.seq #[(.ref 76)] 0), #[]⟩ ::
  ⟨(.type "builtin_function_or_method"), none, (.fields #[(.builtin "type.__prepare__"), (.type "type")]), #[]⟩ ::
  ⟨(.type "dict"), none, (.dict #[⟨PyData.keyHash P "__module__", (.str "__module__" 281), (.str "relfinder.errors" 234)⟩, ⟨PyData.keyHash P "__qualname__", (.str "__qualname__" 283), (.str "BoundFault" 282)⟩, ⟨PyData.keyHash P "__firstlineno__", (.str "__firstlineno__" 285), (.int 45 284)⟩, ⟨PyData.keyHash P "__static_attributes__", (.str "__static_attributes__" 286), (.ref 87)⟩] 4), #[]⟩ ::
  ⟨(.type "tuple"), none, (.seq #[] 0), #[]⟩ ::
  ⟨.none, none, (.fields #[]), #[]⟩ ::
  ⟨(.type "code"), none, (.fields #[(.str "BoundFault" 276), (.str "BoundFault" 277), (.str "/claim/cut.py" 278), (.int 45 0), (.int 0 0), (.int 0 0), (.int 0 0), (.int 0 0), (.ref 83), (.bool false), (.int 181 0), (.ref 84), .none, .none, .none, .none, (.int 279 0), (.int 45 0), (.str "/claim/cut.py" 280)]), #[]⟩ ::
  ⟨(.type "frame"), none, .plain, #[(some (.ref 85)), (some (.ref 3)), (some (.ref 82)), none, (some (.str "relfinder.errors" 234)), none, (some (.ref 0))]⟩ ::
  ⟨(.type "tuple"), none, (.seq #[] 0), #[]⟩ ::
  ⟨(.type "dict"), none, (.dict #[⟨PyData.keyHash P "__module__", (.str "__module__" 281), (.str "relfinder.errors" 234)⟩, ⟨PyData.keyHash P "__firstlineno__", (.str "__firstlineno__" 285), (.int 45 284)⟩, ⟨PyData.keyHash P "__static_attributes__", (.str "__static_attributes__" 286), (.ref 87)⟩, ⟨PyData.keyHash P "__doc__", (.str "__doc__" 287), .none⟩] 2), #[]⟩ ::
  ⟨(.type "type"), none, (.cls { name := "BoundFault", bases := [(.ref 76)], mro := [(.ref 89), (.ref 76), (.type "Exception"), (.type "BaseException"), (.type "object")], ns := 88, qualname := "BoundFault", hasDict := true, slotNames := [], subclasses := [], abstract := false, collection := none, hasDel := false }), #[(some (.ref 80)), none, (some (.str "BoundFault" 274)), (some (.str "BoundFault" 282)), (some (.builtin "Exception.__new__")), (some (.bool true))]⟩ ::
  ⟨(.type "super"), none, (.fields #[(.ref 89), (.ref 89), (.ref 89)]), #[]⟩ ::
  ⟨(.type "builtin_function_or_method"), none, (.fields #[(.builtin "object.__init_subclass__"), (.ref 89)]), #[]⟩ ::
  ⟨(.type "tuple"), none, (.seq #[] 0), #[]⟩ ::
  ⟨.none, none, (.fields #[]), #[]⟩ ::
  ⟨.none, none, (.func { name := "minus", qualname := "minus", params := (topFn 11).1, body := (topFn 11).2.1, scope := (topFn 11).2.2, globals := 0, closure := [], defaults := .none, kwdefaults := .none, doc := .none, pyModule := .none, annotations := none, code := .none, closureTuple := .none, builtins := 0 }), #[]⟩ ::
  o95 P ::
  o96 P ::
  ⟨(.type "tuple"), none, (.seq #[] 0), #[]⟩ ::
  ⟨.none, none, (.fields #[]), #[]⟩ ::
  ⟨(.type "tuple"), none, (.seq #[(.str "s" 301), (.str "t" 302)] 0), #[]⟩ ::
  ⟨(.type "tuple"), none, (.seq #[] 0), #[]⟩ ::
  ⟨.none, none, (.func { name := "is_within", qualname := "is_within", params := (topFn 12).1, body := (topFn 12).2.1, scope := (topFn 12).2.2, globals := 0, closure := [], defaults := .none, kwdefaults := .none, doc := .none, pyModule := .none, annotations := none, code := .none, closureTuple := .none, builtins := 0 }), #[]⟩ ::
  o102 P ::
  o103 P :: r
noncomputable def os104 (P : Params) (r : List Obj) : List Obj :=
  ⟨(.type "tuple"), none, (.seq #[] 0), #[]⟩ ::
  ⟨(.type "builtin_function_or_method"), none, (.fields #[(.builtin "type.__prepare__"), (.type "type")]), #[]⟩ ::
  ⟨(.type "dict"), none, (.dict #[⟨PyData.keyHash P "__module__", (.str "__module__" 315), (.str "relfinder.universe" 306)⟩, ⟨PyData.keyHash P "__qualname__", (.str "__qualname__" 317), (.str "Universe" 316)⟩, ⟨PyData.keyHash P "__firstlineno__", (.str "__firstlineno__" 319), (.int 54 318)⟩, ⟨PyData.keyHash P "__init__", (.str "__init__" 328), (.ref 117)⟩, ⟨PyData.keyHash P "size", (.str "size" 335), (.ref 124)⟩, ⟨PyData.keyHash P "name", (.str "name" 343), (.ref 131)⟩, ⟨PyData.keyHash P "atom", (.str "atom" 351), (.ref 138)⟩, ⟨PyData.keyHash P "text_of", (.str "text_of" 359), (.ref 145)⟩, ⟨PyData.keyHash P "set_text", (.str "set_text" 367), (.ref 152)⟩, ⟨PyData.keyHash P "__static_attributes__", (.str "__static_attributes__" 370), (.ref 153)⟩] 10), #[]⟩ ::
  ⟨(.type "tuple"), none, (.seq #[] 0), #[]⟩ ::
  ⟨.none, none, (.fields #[(.int 56 0), (.int 4 0), (.ref 116), (.int 64 0), (.int 4 0), (.ref 123), (.int 67 0), (.int 4 0), (.ref 130), (.int 70 0), (.int 4 0), (.ref 137), (.int 75 0), (.int 4 0), (.ref 144), (.int 78 0), (.int 4 0), (.ref 151)]), #[]⟩ ::
  ⟨(.type "code"), none, (.fields #[(.str "Universe" 310), (.str "Universe" 311), (.str "/claim/cut.py" 312), (.int 54 0), (.int 0 0), (.int 0 0), (.int 0 0), (.int 0 0), (.ref 107), (.bool false), (.int 181 0), (.ref 108), .none, .none, .none, .none, (.int 313 0), (.int 54 0), (.str "/claim/cut.py" 314)]), #[]⟩ ::
  ⟨(.type "frame"), none, .plain, #[(some (.ref 109)), (some (.ref 3)), (some (.ref 106)), none, (some (.str "relfinder.universe" 306)), none, (some (.ref 0))]⟩ ::
  ⟨(.type "tuple"), none, (.seq #[] 0), #[]⟩ ::
  ⟨.none, none, (.fields #[]), #[]⟩ ::
  ⟨(.type "tuple"), none, (.seq #[(.str "self" 323), (.str "names" 324), (.str "name" 325)] 0), #[]⟩ ::
  ⟨(.type "tuple"), none, (.seq #[] 0), #[]⟩ ::
  ⟨.none, none, (.func { name := "__init__", qualname := "Universe.__init__", params := (ownFn 14 0).1, body := (ownFn 14 0).2.1, scope := (ownFn 14 0).2.2, globals := 0, closure := [], defaults := .none, kwdefaults := .none, doc := .none, pyModule := .none, annotations := none, code := .none, closureTuple := .none, builtins := 0 }), #[]⟩ ::
  o116 P ::
  o117 P ::
  ⟨(.type "tuple"), none, (.seq #[] 0), #[]⟩ ::
  ⟨.none, none, (.fields #[]), #[]⟩ ::
  ⟨(.type "tuple"), none, (.seq #[(.str "self" 332)] 0), #[]⟩ ::
  ⟨(.type "tuple"), none, (.seq #[] 0), #[]⟩ ::
  ⟨.none, none, (.func { name := "size", qualname := "Universe.size", params := (ownFn 14 1).1, body := (ownFn 14 1).2.1, scope := (ownFn 14 1).2.2, globals := 0, closure := [], defaults := .none, kwdefaults := .none, doc := .none, pyModule := .none, annotations := none, code := .none, closureTuple := .none, builtins := 0 }), #[]⟩ ::
  o123 P ::
  o124 P ::
  ⟨(.type "tuple"), none, (.seq #[] 0), #[]⟩ ::
  ⟨.none, none, (.fields #[]), #[]⟩ ::
  ⟨(.type "tuple"), none, (.seq #[(.str "self" 339), (.str "a" 340)] 0), #[]⟩ ::
  ⟨(.type "tuple"), none, (.seq #[] 0), #[]⟩ ::
  ⟨.none, none, (.func { name := "name", qualname := "Universe.name", params := (ownFn 14 2).1, body := (ownFn 14 2).2.1, scope := (ownFn 14 2).2.2, globals := 0, closure := [], defaults := .none, kwdefaults := .none, doc := .none, pyModule := .none, annotations := none, code := .none, closureTuple := .none, builtins := 0 }), #[]⟩ ::
  ⟨(.type "code"), none, (.fields #[(.str "name" 336), (.str "Universe.name" 337), (.str "/claim/cut.py" 338), (.int 67 0), (.int 2 0), (.int 0 0), (.int 0 0), (.int 3 0), (.ref 125), (.bool true), (.int 181 0), (.ref 126), .none, (.ref 127), (.ref 128), (.ref 129), (.int 341 0), (.int 67 0), (.str "/claim/cut.py" 342)]), #[]⟩ ::
  ⟨(.type "function"), none, (.func { name := "name", qualname := "Universe.name", params := (ownFn 14 2).1, body := (ownFn 14 2).2.1, scope := (ownFn 14 2).2.2, globals := 3, closure := [], defaults := .none, kwdefaults := .none, doc := .none, pyModule := (.str "relfinder.universe" 306), annotations := none, code := (.ref 130), closureTuple := .none, builtins := 0 }), #[]⟩ ::
  ⟨(.type "tuple"), none, (.seq #[] 0), #[]⟩ ::
  ⟨.none, none, (.fields #[]), #[]⟩ ::
  ⟨(.type "tuple"), none, (.seq #[(.str "self" 347), (.str "name" 348)] 0), #[]⟩ ::
  ⟨(.type "tuple"), none, (.seq #[] 0), #[]⟩ ::
  ⟨.none, none, (.func { name := "atom", qualname := "Universe.atom", params := (ownFn 14 3).1, body := (ownFn 14 3).2.1, scope := (ownFn 14 3).2.2, globals := 0, closure := [], defaults := .none, kwdefaults := .none, doc := .none, pyModule := .none, annotations := none, code := .none, closureTuple := .none, builtins := 0 }), #[]⟩ ::
  ⟨(.type "code"), none, (.fields #[(.str "atom" 344), (.str "Universe.atom" 345), (.str "/claim/cut.py" 346), (.int 70 0), (.int 2 0), (.int 0 0), (.int 0 0), (.int 3 0), (.ref 132), (.bool true), (.int 181 0), (.ref 133), .none, (.ref 134), (.ref 135), (.ref 136), (.int 349 0), (.int 70 0), (.str "/claim/cut.py" 350)]), #[]⟩ ::
  ⟨(.type "function"), none, (.func { name := "atom", qualname := "Universe.atom", params := (ownFn 14 3).1, body := (ownFn 14 3).2.1, scope := (ownFn 14 3).2.2, globals := 3, closure := [], defaults := .none, kwdefaults := .none, doc := .none, pyModule := (.str "relfinder.universe" 306), annotations := none, code := (.ref 137), closureTuple := .none, builtins := 0 }), #[]⟩ ::
  ⟨(.type "tuple"), none, (.seq #[] 0), #[]⟩ ::
  ⟨.none, none, (.fields #[]), #[]⟩ ::
  ⟨(.type "tuple"), none, (.seq #[(.str "self" 355), (.str "row" 356)] 0), #[]⟩ ::
  ⟨(.type "tuple"), none, (.seq #[] 0), #[]⟩ ::
  ⟨.none, none, (.func { name := "text_of", qualname := "Universe.text_of", params := (ownFn 14 4).1, body := (ownFn 14 4).2.1, scope := (ownFn 14 4).2.2, globals := 0, closure := [], defaults := .none, kwdefaults := .none, doc := .none, pyModule := .none, annotations := none, code := .none, closureTuple := .none, builtins := 0 }), #[]⟩ ::
  ⟨(.type "code"), none, (.fields #[(.str "text_of" 352), (.str "Universe.text_of" 353), (.str "/claim/cut.py" 354), (.int 75 0), (.int 2 0), (.int 0 0), (.int 0 0), (.int 3 0), (.ref 139), (.bool true), (.int 181 0), (.ref 140), .none, (.ref 141), (.ref 142), (.ref 143), (.int 357 0), (.int 75 0), (.str "/claim/cut.py" 358)]), #[]⟩ ::
  ⟨(.type "function"), none, (.func { name := "text_of", qualname := "Universe.text_of", params := (ownFn 14 4).1, body := (ownFn 14 4).2.1, scope := (ownFn 14 4).2.2, globals := 3, closure := [], defaults := .none, kwdefaults := .none, doc := .none, pyModule := (.str "relfinder.universe" 306), annotations := none, code := (.ref 144), closureTuple := .none, builtins := 0 }), #[]⟩ ::
  ⟨(.type "tuple"), none, (.seq #[] 0), #[]⟩ ::
  ⟨.none, none, (.fields #[]), #[]⟩ ::
  ⟨(.type "tuple"), none, (.seq #[(.str "self" 363), (.str "some" 364)] 0), #[]⟩ ::
  ⟨(.type "tuple"), none, (.seq #[] 0), #[]⟩ ::
  ⟨.none, none, (.func { name := "set_text", qualname := "Universe.set_text", params := (ownFn 14 5).1, body := (ownFn 14 5).2.1, scope := (ownFn 14 5).2.2, globals := 0, closure := [], defaults := .none, kwdefaults := .none, doc := .none, pyModule := .none, annotations := none, code := .none, closureTuple := .none, builtins := 0 }), #[]⟩ ::
  ⟨(.type "code"), none, (.fields #[(.str "set_text" 360), (.str "Universe.set_text" 361), (.str "/claim/cut.py" 362), (.int 78 0), (.int 2 0), (.int 0 0), (.int 0 0), (.int 3 0), (.ref 146), (.bool true), (.int 181 0), (.ref 147), .none, (.ref 148), (.ref 149), (.ref 150), (.int 365 0), (.int 78 0), (.str "/claim/cut.py" 366)]), #[]⟩ ::
  ⟨(.type "function"), none, (.func { name := "set_text", qualname := "Universe.set_text", params := (ownFn 14 5).1, body := (ownFn 14 5).2.1, scope := (ownFn 14 5).2.2, globals := 3, closure := [], defaults := .none, kwdefaults := .none, doc := .none, pyModule := (.str "relfinder.universe" 306), annotations := none, code := (.ref 151), closureTuple := .none, builtins := 0 }), #[]⟩ ::
  ⟨(.type "tuple"), none, (.seq #[(.str "names" 368), (.str "numbers" 369)] 0), #[]⟩ ::
  o154 P ::
  o155 P ::
  ⟨(.type "getset_descriptor"), none, (.fields #[(.str "__dict__" 371), (.ref 155), (.builtin "function.__dict__"), (.builtin "function.__dict__#set")]), #[]⟩ ::
  ⟨(.type "getset_descriptor"), none, (.fields #[(.str "__weakref__" 373), (.ref 155), (.builtin "ExceptionGroup.__weakref__"), .none]), #[]⟩ ::
  ⟨(.type "super"), none, (.fields #[(.ref 155), (.ref 155), (.ref 155)]), #[]⟩ ::
  ⟨(.type "builtin_function_or_method"), none, (.fields #[(.builtin "object.__init_subclass__"), (.ref 155)]), #[]⟩ :: r
noncomputable def os160 (P : Params) (r : List Obj) : List Obj :=
  ⟨(.type "tuple"), none, (.seq #[] 0), #[]⟩ ::
  ⟨(.type "builtin_function_or_method"), none, (.fields #[(.builtin "type.__prepare__"), (.type "type")]), #[]⟩ ::
  ⟨(.type "dict"), none, (.dict #[⟨PyData.keyHash P "__module__", (.str "__module__" 385), (.str "relfinder.universe" 306)⟩, ⟨PyData.keyHash P "__qualname__", (.str "__qualname__" 387), (.str "Bounds" 386)⟩, ⟨PyData.keyHash P "__firstlineno__", (.str "__firstlineno__" 389), (.int 80 388)⟩, ⟨PyData.keyHash P "__init__", (.str "__init__" 397), (.ref 173)⟩, ⟨PyData.keyHash P "add", (.str "add" 408), (.ref 180)⟩, ⟨PyData.keyHash P "want_set", (.str "want_set" 421), (.ref 187)⟩, ⟨PyData.keyHash P "exactly", (.str "exactly" 431), (.ref 194)⟩, ⟨PyData.keyHash P "bound", (.str "bound" 439), (.ref 201)⟩, ⟨PyData.keyHash P "size", (.str "size" 446), (.ref 208)⟩, ⟨PyData.keyHash P "lower", (.str "lower" 454), (.ref 215)⟩, ⟨PyData.keyHash P "upper", (.str "upper" 462), (.ref 222)⟩, ⟨PyData.keyHash P "number_of", (.str "number_of" 470), (.ref 229)⟩, ⟨PyData.keyHash P "__static_attributes__", (.str "__static_attributes__" 474), (.ref 230)⟩] 13), #[]⟩ ::
  ⟨(.type "tuple"), none, (.seq #[] 0), #[]⟩ ::
  ⟨.none, none, (.fields #[(.int 82 0), (.int 4 0), (.ref 172), (.int 87 0), (.int 4 0), (.ref 179), (.int 100 0), (.int 4 0), (.ref 186), (.int 113 0), (.int 4 0), (.ref 193), (.int 116 0), (.int 4 0), (.ref 200), (.int 119 0), (.int 4 0), (.ref 207), (.int 122 0), (.int 4 0), (.ref 214), (.int 125 0), (.int 4 0), (.ref 221), (.int 128 0), (.int 4 0), (.ref 228)]), #[]⟩ ::
  ⟨(.type "code"), none, (.fields #[(.str "Bounds" 380), (.str "Bounds" 381), (.str "/claim/cut.py" 382), (.int 80 0), (.int 0 0), (.int 0 0), (.int 0 0), (.int 0 0), (.ref 163), (.bool false), (.int 181 0), (.ref 164), .none, .none, .none, .none, (.int 383 0), (.int 80 0), (.str "/claim/cut.py" 384)]), #[]⟩ ::
  ⟨(.type "frame"), none, .plain, #[(some (.ref 165)), (some (.ref 3)), (some (.ref 162)), none, (some (.str "relfinder.universe" 306)), none, (some (.ref 0))]⟩ ::
  ⟨(.type "tuple"), none, (.seq #[] 0), #[]⟩ ::
  ⟨.none, none, (.fields #[]), #[]⟩ ::
  ⟨(.type "tuple"), none, (.seq #[(.str "self" 393), (.str "universe" 394)] 0), #[]⟩ ::
  ⟨(.type "tuple"), none, (.seq #[] 0), #[]⟩ ::
  ⟨.none, none, (.func { name := "__init__", qualname := "Bounds.__init__", params := (ownFn 15 0).1, body := (ownFn 15 0).2.1, scope := (ownFn 15 0).2.2, globals := 0, closure := [], defaults := .none, kwdefaults := .none, doc := .none, pyModule := .none, annotations := none, code := .none, closureTuple := .none, builtins := 0 }), #[]⟩ ::
  o172 P ::
  o173 P ::
  ⟨(.type "tuple"), none, (.seq #[] 0), #[]⟩ ::
  ⟨.none, none, (.fields #[]), #[]⟩ ::
  ⟨(.type "tuple"), none, (.seq #[(.str "self" 401), (.str "name" 402), (.str "arity" 403), (.str "lower" 404), (.str "upper" 405)] 0), #[]⟩ ::
  ⟨(.type "tuple"), none, (.seq #[] 0), #[]⟩ ::
  ⟨.none, none, (.func { name := "add", qualname := "Bounds.add", params := (ownFn 15 1).1, body := (ownFn 15 1).2.1, scope := (ownFn 15 1).2.2, globals := 0, closure := [], defaults := .none, kwdefaults := .none, doc := .none, pyModule := .none, annotations := none, code := .none, closureTuple := .none, builtins := 0 }), #[]⟩ ::
  o179 P ::
  o180 P ::
  ⟨(.type "tuple"), none, (.seq #[] 0), #[]⟩ ::
  ⟨.none, none, (.fields #[]), #[]⟩ ::
  ⟨(.type "tuple"), none, (.seq #[(.str "self" 412), (.str "name" 413), (.str "arity" 414), (.str "some" 415), (.str "row" 416), (.str "a" 417), (.str "k" 418)] 0), #[]⟩ ::
  ⟨(.type "tuple"), none, (.seq #[] 0), #[]⟩ ::
  ⟨.none, none, (.func { name := "want_set", qualname := "Bounds.want_set", params := (ownFn 15 2).1, body := (ownFn 15 2).2.1, scope := (ownFn 15 2).2.2, globals := 0, closure := [], defaults := .none, kwdefaults := .none, doc := .none, pyModule := .none, annotations := none, code := .none, closureTuple := .none, builtins := 0 }), #[]⟩ ::
  o186 P ::
  o187 P ::
  ⟨(.type "tuple"), none, (.seq #[] 0), #[]⟩ ::
  ⟨.none, none, (.fields #[]), #[]⟩ ::
  ⟨(.type "tuple"), none, (.seq #[(.str "self" 425), (.str "name" 426), (.str "arity" 427), (.str "some" 428)] 0), #[]⟩ ::
  ⟨(.type "tuple"), none, (.seq #[] 0), #[]⟩ ::
  ⟨.none, none, (.func { name := "exactly", qualname := "Bounds.exactly", params := (ownFn 15 3).1, body := (ownFn 15 3).2.1, scope := (ownFn 15 3).2.2, globals := 0, closure := [], defaults := .none, kwdefaults := .none, doc := .none, pyModule := .none, annotations := none, code := .none, closureTuple := .none, builtins := 0 }), #[]⟩ ::
  ⟨(.type "code"), none, (.fields #[(.str "exactly" 422), (.str "Bounds.exactly" 423), (.str "/claim/cut.py" 424), (.int 113 0), (.int 4 0), (.int 0 0), (.int 0 0), (.int 3 0), (.ref 188), (.bool true), (.int 181 0), (.ref 189), .none, (.ref 190), (.ref 191), (.ref 192), (.int 429 0), (.int 113 0), (.str "/claim/cut.py" 430)]), #[]⟩ ::
  ⟨(.type "function"), none, (.func { name := "exactly", qualname := "Bounds.exactly", params := (ownFn 15 3).1, body := (ownFn 15 3).2.1, scope := (ownFn 15 3).2.2, globals := 3, closure := [], defaults := .none, kwdefaults := .none, doc := .none, pyModule := (.str "relfinder.universe" 306), annotations := none, code := (.ref 193), closureTuple := .none, builtins := 0 }), #[]⟩ ::
  ⟨(.type "tuple"), none, (.seq #[] 0), #[]⟩ ::
  ⟨.none, none, (.fields #[]), #[]⟩ ::
  ⟨(.type "tuple"), none, (.seq #[(.str "self" 435), (.str "r" 436)] 0), #[]⟩ ::
  ⟨(.type "tuple"), none, (.seq #[] 0), #[]⟩ ::
  ⟨.none, none, (.func { name := "bound", qualname := "Bounds.bound", params := (ownFn 15 4).1, body := (ownFn 15 4).2.1, scope := (ownFn 15 4).2.2, globals := 0, closure := [], defaults := .none, kwdefaults := .none, doc := .none, pyModule := .none, annotations := none, code := .none, closureTuple := .none, builtins := 0 }), #[]⟩ ::
  ⟨(.type "code"), none, (.fields #[(.str "bound" 432), (.str "Bounds.bound" 433), (.str "/claim/cut.py" 434), (.int 116 0), (.int 2 0), (.int 0 0), (.int 0 0), (.int 3 0), (.ref 195), (.bool true), (.int 181 0), (.ref 196), .none, (.ref 197), (.ref 198), (.ref 199), (.int 437 0), (.int 116 0), (.str "/claim/cut.py" 438)]), #[]⟩ ::
  ⟨(.type "function"), none, (.func { name := "bound", qualname := "Bounds.bound", params := (ownFn 15 4).1, body := (ownFn 15 4).2.1, scope := (ownFn 15 4).2.2, globals := 3, closure := [], defaults := .none, kwdefaults := .none, doc := .none, pyModule := (.str "relfinder.universe" 306), annotations := none, code := (.ref 200), closureTuple := .none, builtins := 0 }), #[]⟩ ::
  ⟨(.type "tuple"), none, (.seq #[] 0), #[]⟩ ::
  ⟨.none, none, (.fields #[]), #[]⟩ ::
  ⟨(.type "tuple"), none, (.seq #[(.str "self" 443)] 0), #[]⟩ ::
  ⟨(.type "tuple"), none, (.seq #[] 0), #[]⟩ ::
  ⟨.none, none, (.func { name := "size", qualname := "Bounds.size", params := (ownFn 15 5).1, body := (ownFn 15 5).2.1, scope := (ownFn 15 5).2.2, globals := 0, closure := [], defaults := .none, kwdefaults := .none, doc := .none, pyModule := .none, annotations := none, code := .none, closureTuple := .none, builtins := 0 }), #[]⟩ ::
  o207 P ::
  o208 P ::
  ⟨(.type "tuple"), none, (.seq #[] 0), #[]⟩ ::
  ⟨.none, none, (.fields #[]), #[]⟩ ::
  ⟨(.type "tuple"), none, (.seq #[(.str "self" 450), (.str "r" 451)] 0), #[]⟩ ::
  ⟨(.type "tuple"), none, (.seq #[] 0), #[]⟩ ::
  ⟨.none, none, (.func { name := "lower", qualname := "Bounds.lower", params := (ownFn 15 6).1, body := (ownFn 15 6).2.1, scope := (ownFn 15 6).2.2, globals := 0, closure := [], defaults := .none, kwdefaults := .none, doc := .none, pyModule := .none, annotations := none, code := .none, closureTuple := .none, builtins := 0 }), #[]⟩ ::
  o214 P ::
  o215 P ::
  ⟨(.type "tuple"), none, (.seq #[] 0), #[]⟩ ::
  ⟨.none, none, (.fields #[]), #[]⟩ ::
  ⟨(.type "tuple"), none, (.seq #[(.str "self" 458), (.str "r" 459)] 0), #[]⟩ ::
  ⟨(.type "tuple"), none, (.seq #[] 0), #[]⟩ ::
  ⟨.none, none, (.func { name := "upper", qualname := "Bounds.upper", params := (ownFn 15 7).1, body := (ownFn 15 7).2.1, scope := (ownFn 15 7).2.2, globals := 0, closure := [], defaults := .none, kwdefaults := .none, doc := .none, pyModule := .none, annotations := none, code := .none, closureTuple := .none, builtins := 0 }), #[]⟩ ::
  o221 P ::
  o222 P ::
  ⟨(.type "tuple"), none, (.seq #[] 0), #[]⟩ ::
  ⟨.none, none, (.fields #[]), #[]⟩ ::
  ⟨(.type "tuple"), none, (.seq #[(.str "self" 466), (.str "name" 467)] 0), #[]⟩ ::
  ⟨(.type "tuple"), none, (.seq #[] 0), #[]⟩ ::
  ⟨.none, none, (.func { name := "number_of", qualname := "Bounds.number_of", params := (ownFn 15 8).1, body := (ownFn 15 8).2.1, scope := (ownFn 15 8).2.2, globals := 0, closure := [], defaults := .none, kwdefaults := .none, doc := .none, pyModule := .none, annotations := none, code := .none, closureTuple := .none, builtins := 0 }), #[]⟩ ::
  ⟨(.type "code"), none, (.fields #[(.str "number_of" 463), (.str "Bounds.number_of" 464), (.str "/claim/cut.py" 465), (.int 128 0), (.int 2 0), (.int 0 0), (.int 0 0), (.int 3 0), (.ref 223), (.bool true), (.int 181 0), (.ref 224), .none, (.ref 225), (.ref 226), (.ref 227), (.int 468 0), (.int 128 0), (.str "/claim/cut.py" 469)]), #[]⟩ ::
  ⟨(.type "function"), none, (.func { name := "number_of", qualname := "Bounds.number_of", params := (ownFn 15 8).1, body := (ownFn 15 8).2.1, scope := (ownFn 15 8).2.2, globals := 3, closure := [], defaults := .none, kwdefaults := .none, doc := .none, pyModule := (.str "relfinder.universe" 306), annotations := none, code := (.ref 228), closureTuple := .none, builtins := 0 }), #[]⟩ ::
  ⟨(.type "tuple"), none, (.seq #[(.str "bounds" 471), (.str "numbers" 472), (.str "universe" 473)] 0), #[]⟩ ::
  o231 P ::
  o232 P ::
  ⟨(.type "getset_descriptor"), none, (.fields #[(.str "__dict__" 475), (.ref 232), (.builtin "function.__dict__"), (.builtin "function.__dict__#set")]), #[]⟩ ::
  ⟨(.type "getset_descriptor"), none, (.fields #[(.str "__weakref__" 477), (.ref 232), (.builtin "ExceptionGroup.__weakref__"), .none]), #[]⟩ ::
  ⟨(.type "super"), none, (.fields #[(.ref 232), (.ref 232), (.ref 232)]), #[]⟩ ::
  ⟨(.type "builtin_function_or_method"), none, (.fields #[(.builtin "object.__init_subclass__"), (.ref 232)]), #[]⟩ :: r
noncomputable def os237 (P : Params) (r : List Obj) : List Obj :=
  ⟨(.type "tuple"), none, (.seq #[] 0), #[]⟩ ::
  ⟨.none, none, (.fields #[]), #[]⟩ ::
  ⟨(.type "tuple"), none, (.seq #[(.str "feed" 487), (.str "top" 488), (.str "k" 489), (.str "cells" 490)] 0), #[]⟩ ::
  ⟨(.type "tuple"), none, (.seq #[] 0), #[]⟩ ::
  ⟨.none, none, (.func { name := "_law_draw", qualname := "_law_draw", params := (topFn 17).1, body := (topFn 17).2.1, scope := (topFn 17).2.2, globals := 0, closure := [], defaults := .none, kwdefaults := .none, doc := .none, pyModule := .none, annotations := none, code := .none, closureTuple := .none, builtins := 0 }), #[]⟩ ::
  o242 P ::
  o243 P ::
  ⟨(.type "tuple"), none, (.seq #[] 0), #[]⟩ ::
  ⟨.none, none, (.fields #[]), #[]⟩ ::
  ⟨.none, none, (.func { name := "_law_rows", qualname := "_law_rows", params := (topFn 18).1, body := (topFn 18).2.1, scope := (topFn 18).2.2, globals := 0, closure := [], defaults := .none, kwdefaults := .none, doc := .none, pyModule := .none, annotations := none, code := .none, closureTuple := .none, builtins := 0 }), #[]⟩ ::
  o247 P ::
  o248 P ::
  ⟨(.type "tuple"), none, (.seq #[] 0), #[]⟩ ::
  ⟨.none, none, (.fields #[]), #[]⟩ ::
  ⟨.none, none, (.func { name := "_law_set", qualname := "_law_set", params := (topFn 19).1, body := (topFn 19).2.1, scope := (topFn 19).2.2, globals := 0, closure := [], defaults := .none, kwdefaults := .none, doc := .none, pyModule := .none, annotations := none, code := .none, closureTuple := .none, builtins := 0 }), #[]⟩ ::
  o252 P ::
  o253 P ::
  ⟨(.type "tuple"), none, (.seq #[] 0), #[]⟩ ::
  ⟨.none, none, (.fields #[]), #[]⟩ ::
  ⟨(.type "tuple"), none, (.seq #[(.str "feed" 509), (.str "n" 510), (.str "arity" 511), (.str "kept" 512)] 0), #[]⟩ ::
  ⟨(.type "tuple"), none, (.seq #[] 0), #[]⟩ ::
  ⟨.none, none, (.func { name := "_law_constant", qualname := "_law_constant", params := (topFn 20).1, body := (topFn 20).2.1, scope := (topFn 20).2.2, globals := 0, closure := [], defaults := .none, kwdefaults := .none, doc := .none, pyModule := .none, annotations := none, code := .none, closureTuple := .none, builtins := 0 }), #[]⟩ ::
  o259 P ::
  o260 P ::
  ⟨(.type "tuple"), none, (.seq #[] 0), #[]⟩ ::
  ⟨.none, none, (.fields #[]), #[]⟩ ::
  ⟨(.type "tuple"), none, (.seq #[(.str "feed" 519), (.str "n" 520), (.str "deep" 521), (.str "kept" 522), (.str "way" 523), (.str "arity" 524), (.str "decls" 525), (.str "comp" 526)] 0), #[]⟩ ::
  ⟨(.type "tuple"), none, (.seq #[] 0), #[]⟩ ::
  ⟨.none, none, (.func { name := "_law_node", qualname := "_law_node", params := (topFn 21).1, body := (topFn 21).2.1, scope := (topFn 21).2.2, globals := 0, closure := [], defaults := .none, kwdefaults := .none, doc := .none, pyModule := .none, annotations := none, code := .none, closureTuple := .none, builtins := 0 }), #[]⟩ ::
  o266 P ::
  o267 P ::
  ⟨(.type "tuple"), none, (.seq #[] 0), #[]⟩ ::
  ⟨.none, none, (.fields #[]), #[]⟩ ::
  ⟨.none, none, (.func { name := "_law_orders", qualname := "_law_orders", params := (topFn 22).1, body := (topFn 22).2.1, scope := (topFn 22).2.2, globals := 0, closure := [], defaults := .none, kwdefaults := .none, doc := .none, pyModule := .none, annotations := none, code := .none, closureTuple := .none, builtins := 0 }), #[]⟩ ::
  o271 P ::
  o272 P ::
  ⟨(.type "tuple"), none, (.seq #[] 0), #[]⟩ ::
  ⟨.none, none, (.fields #[]), #[]⟩ ::
  ⟨.none, none, (.func { name := "_law_is_kept", qualname := "_law_is_kept", params := (topFn 23).1, body := (topFn 23).2.1, scope := (topFn 23).2.2, globals := 0, closure := [], defaults := .none, kwdefaults := .none, doc := .none, pyModule := .none, annotations := none, code := .none, closureTuple := .none, builtins := 0 }), #[]⟩ ::
  o276 P ::
  o277 P ::
  ⟨(.type "tuple"), none, (.seq #[] 0), #[]⟩ ::
  ⟨.none, none, (.fields #[]), #[]⟩ ::
  ⟨.none, none, (.func { name := "_law_are_right", qualname := "_law_are_right", params := (topFn 24).1, body := (topFn 24).2.1, scope := (topFn 24).2.2, globals := 0, closure := [], defaults := .none, kwdefaults := .none, doc := .none, pyModule := .none, annotations := none, code := .none, closureTuple := .none, builtins := 0 }), #[]⟩ ::
  o281 P ::
  o282 P ::
  ⟨(.type "tuple"), none, (.seq #[] 0), #[]⟩ ::
  ⟨.none, none, (.fields #[]), #[]⟩ ::
  ⟨.none, none, (.func { name := "law", qualname := "law", params := (topFn 25).1, body := (topFn 25).2.1, scope := (topFn 25).2.2, globals := 0, closure := [], defaults := .none, kwdefaults := .none, doc := .none, pyModule := .none, annotations := none, code := .none, closureTuple := .none, builtins := 0 }), #[]⟩ ::
  o286 P ::
  o287 P :: r
noncomputable def h_pre (P : Params) : Heap := ⟨⟨os0 P (boot_o_2 P :: boot_o_3 P :: os4 P (⟨.none, none, (.fields #[]), #[]⟩ :: os13 P ([])))⟩, {}⟩
noncomputable def h_p8 (P : Params) : Heap := ⟨⟨os0 P (o2 P :: ⟨(.type "dict"), none, (.dict #[⟨PyData.keyHash P "__name__", (.str "__name__" 165), (.str "relfinder.errors" 234)⟩, ⟨PyData.keyHash P "__doc__", (.str "__doc__" 166), .none⟩, ⟨PyData.keyHash P "__package__", (.str "__package__" 167), .none⟩, ⟨PyData.keyHash P "__loader__", (.str "__loader__" 168), (.builtin "__main__.__loader__#opaque")⟩, ⟨PyData.keyHash P "__spec__", (.str "__spec__" 169), .none⟩, ⟨PyData.keyHash P "__annotations__", (.str "__annotations__" 170), (.ref 6)⟩, ⟨PyData.keyHash P "__builtins__", (.str "__builtins__" 171), (.ref 4)⟩, ⟨PyData.keyHash P "__file__", (.str "__file__" 173), (.str "/claim/cut.py" 172)⟩, ⟨PyData.keyHash P "__cached__", (.str "__cached__" 174), .none⟩, ⟨PyData.keyHash P "_wall", (.str "_wall" 193), (.ref 21)⟩, ⟨PyData.keyHash P "swapped", (.str "swapped" 201), (.ref 26)⟩, ⟨PyData.keyHash P "are_alike", (.str "are_alike" 211), (.ref 33)⟩, ⟨PyData.keyHash P "parts_of", (.str "parts_of" 217), (.ref 38)⟩, ⟨PyData.keyHash P "constants_of", (.str "constants_of" 223), (.ref 43)⟩, ⟨PyData.keyHash P "lots_of", (.str "lots_of" 233), (.ref 50)⟩, ⟨PyData.keyHash P "FinderError", (.str "FinderError" 273), (.ref 76)⟩] 16), #[]⟩ :: os4 P (⟨.none, none, (.fields #[(.int 1 0), (.int 0 0), (.ref 20), (.int 5 0), (.int 0 0), (.ref 25), (.int 8 0), (.int 0 0), (.ref 32), (.int 13 0), (.int 0 0), (.ref 37), (.int 22 0), (.int 0 0), (.ref 42), (.int 31 0), (.int 0 0), (.ref 49), (.int 37 0), (.int 0 0), (.ref 57)]), #[]⟩ :: os13 P (os15 P (⟨(.type "type"), none, (.cls { name := "FinderError", bases := [(.type "Exception")], mro := [(.ref 76), (.type "Exception"), (.type "BaseException"), (.type "object")], ns := 75, qualname := "FinderError", hasDict := true, slotNames := [], subclasses := [], abstract := false, collection := none, hasDel := false }), #[(some (.ref 51)), none, (some (.str "FinderError" 236)), (some (.str "FinderError" 244)), (some (.builtin "Exception.__new__")), (some (.bool true))]⟩ :: os77 P ([])))))⟩, {}⟩
noncomputable def h_p13 (P : Params) : Heap := ⟨⟨os0 P (o2 P :: ⟨(.type "dict"), none, (.dict #[⟨PyData.keyHash P "__name__", (.str "__name__" 165), (.str "relfinder.universe" 306)⟩, ⟨PyData.keyHash P "__doc__", (.str "__doc__" 166), .none⟩, ⟨PyData.keyHash P "__package__", (.str "__package__" 167), .none⟩, ⟨PyData.keyHash P "__loader__", (.str "__loader__" 168), (.builtin "__main__.__loader__#opaque")⟩, ⟨PyData.keyHash P "__spec__", (.str "__spec__" 169), .none⟩, ⟨PyData.keyHash P "__annotations__", (.str "__annotations__" 170), (.ref 6)⟩, ⟨PyData.keyHash P "__builtins__", (.str "__builtins__" 171), (.ref 4)⟩, ⟨PyData.keyHash P "__file__", (.str "__file__" 173), (.str "/claim/cut.py" 172)⟩, ⟨PyData.keyHash P "__cached__", (.str "__cached__" 174), .none⟩, ⟨PyData.keyHash P "_wall", (.str "_wall" 193), (.ref 21)⟩, ⟨PyData.keyHash P "swapped", (.str "swapped" 201), (.ref 26)⟩, ⟨PyData.keyHash P "are_alike", (.str "are_alike" 211), (.ref 33)⟩, ⟨PyData.keyHash P "parts_of", (.str "parts_of" 217), (.ref 38)⟩, ⟨PyData.keyHash P "constants_of", (.str "constants_of" 223), (.ref 43)⟩, ⟨PyData.keyHash P "lots_of", (.str "lots_of" 233), (.ref 50)⟩, ⟨PyData.keyHash P "FinderError", (.str "FinderError" 273), (.ref 76)⟩, ⟨PyData.keyHash P "BoundFault", (.str "BoundFault" 289), (.ref 89)⟩, ⟨PyData.keyHash P "minus", (.str "minus" 297), (.ref 96)⟩, ⟨PyData.keyHash P "is_within", (.str "is_within" 305), (.ref 103)⟩] 19), #[]⟩ :: os4 P (⟨.none, none, (.fields #[(.int 1 0), (.int 0 0), (.ref 20), (.int 5 0), (.int 0 0), (.ref 25), (.int 8 0), (.int 0 0), (.ref 32), (.int 13 0), (.int 0 0), (.ref 37), (.int 22 0), (.int 0 0), (.ref 42), (.int 31 0), (.int 0 0), (.ref 49), (.int 37 0), (.int 0 0), (.ref 57), (.int 45 0), (.int 0 0), (.ref 85), (.int 48 0), (.int 0 0), (.ref 95), (.int 51 0), (.int 0 0), (.ref 102)]), #[]⟩ :: os13 P (os15 P (⟨(.type "type"), none, (.cls { name := "FinderError", bases := [(.type "Exception")], mro := [(.ref 76), (.type "Exception"), (.type "BaseException"), (.type "object")], ns := 75, qualname := "FinderError", hasDict := true, slotNames := [], subclasses := [(.ref 89)], abstract := false, collection := none, hasDel := false }), #[(some (.ref 51)), none, (some (.str "FinderError" 236)), (some (.str "FinderError" 244)), (some (.builtin "Exception.__new__")), (some (.bool true))]⟩ :: os77 P (os80 P ([]))))))⟩, {}⟩
noncomputable def h_p14 (P : Params) : Heap := ⟨⟨os0 P (o2 P :: ⟨(.type "dict"), none, (.dict #[⟨PyData.keyHash P "__name__", (.str "__name__" 165), (.str "relfinder.universe" 306)⟩, ⟨PyData.keyHash P "__doc__", (.str "__doc__" 166), .none⟩, ⟨PyData.keyHash P "__package__", (.str "__package__" 167), .none⟩, ⟨PyData.keyHash P "__loader__", (.str "__loader__" 168), (.builtin "__main__.__loader__#opaque")⟩, ⟨PyData.keyHash P "__spec__", (.str "__spec__" 169), .none⟩, ⟨PyData.keyHash P "__annotations__", (.str "__annotations__" 170), (.ref 6)⟩, ⟨PyData.keyHash P "__builtins__", (.str "__builtins__" 171), (.ref 4)⟩, ⟨PyData.keyHash P "__file__", (.str "__file__" 173), (.str "/claim/cut.py" 172)⟩, ⟨PyData.keyHash P "__cached__", (.str "__cached__" 174), .none⟩, ⟨PyData.keyHash P "_wall", (.str "_wall" 193), (.ref 21)⟩, ⟨PyData.keyHash P "swapped", (.str "swapped" 201), (.ref 26)⟩, ⟨PyData.keyHash P "are_alike", (.str "are_alike" 211), (.ref 33)⟩, ⟨PyData.keyHash P "parts_of", (.str "parts_of" 217), (.ref 38)⟩, ⟨PyData.keyHash P "constants_of", (.str "constants_of" 223), (.ref 43)⟩, ⟨PyData.keyHash P "lots_of", (.str "lots_of" 233), (.ref 50)⟩, ⟨PyData.keyHash P "FinderError", (.str "FinderError" 273), (.ref 76)⟩, ⟨PyData.keyHash P "BoundFault", (.str "BoundFault" 289), (.ref 89)⟩, ⟨PyData.keyHash P "minus", (.str "minus" 297), (.ref 96)⟩, ⟨PyData.keyHash P "is_within", (.str "is_within" 305), (.ref 103)⟩, ⟨PyData.keyHash P "Universe", (.str "Universe" 377), (.ref 155)⟩] 20), #[]⟩ :: os4 P (⟨.none, none, (.fields #[(.int 1 0), (.int 0 0), (.ref 20), (.int 5 0), (.int 0 0), (.ref 25), (.int 8 0), (.int 0 0), (.ref 32), (.int 13 0), (.int 0 0), (.ref 37), (.int 22 0), (.int 0 0), (.ref 42), (.int 31 0), (.int 0 0), (.ref 49), (.int 37 0), (.int 0 0), (.ref 57), (.int 45 0), (.int 0 0), (.ref 85), (.int 48 0), (.int 0 0), (.ref 95), (.int 51 0), (.int 0 0), (.ref 102), (.int 54 0), (.int 0 0), (.ref 109)]), #[]⟩ :: os13 P (os15 P (⟨(.type "type"), none, (.cls { name := "FinderError", bases := [(.type "Exception")], mro := [(.ref 76), (.type "Exception"), (.type "BaseException"), (.type "object")], ns := 75, qualname := "FinderError", hasDict := true, slotNames := [], subclasses := [(.ref 89)], abstract := false, collection := none, hasDel := false }), #[(some (.ref 51)), none, (some (.str "FinderError" 236)), (some (.str "FinderError" 244)), (some (.builtin "Exception.__new__")), (some (.bool true))]⟩ :: os77 P (os80 P (os104 P ([])))))))⟩, {}⟩
noncomputable def h_p15 (P : Params) : Heap := ⟨⟨os0 P (o2 P :: ⟨(.type "dict"), none, (.dict #[⟨PyData.keyHash P "__name__", (.str "__name__" 165), (.str "relfinder.universe" 306)⟩, ⟨PyData.keyHash P "__doc__", (.str "__doc__" 166), .none⟩, ⟨PyData.keyHash P "__package__", (.str "__package__" 167), .none⟩, ⟨PyData.keyHash P "__loader__", (.str "__loader__" 168), (.builtin "__main__.__loader__#opaque")⟩, ⟨PyData.keyHash P "__spec__", (.str "__spec__" 169), .none⟩, ⟨PyData.keyHash P "__annotations__", (.str "__annotations__" 170), (.ref 6)⟩, ⟨PyData.keyHash P "__builtins__", (.str "__builtins__" 171), (.ref 4)⟩, ⟨PyData.keyHash P "__file__", (.str "__file__" 173), (.str "/claim/cut.py" 172)⟩, ⟨PyData.keyHash P "__cached__", (.str "__cached__" 174), .none⟩, ⟨PyData.keyHash P "_wall", (.str "_wall" 193), (.ref 21)⟩, ⟨PyData.keyHash P "swapped", (.str "swapped" 201), (.ref 26)⟩, ⟨PyData.keyHash P "are_alike", (.str "are_alike" 211), (.ref 33)⟩, ⟨PyData.keyHash P "parts_of", (.str "parts_of" 217), (.ref 38)⟩, ⟨PyData.keyHash P "constants_of", (.str "constants_of" 223), (.ref 43)⟩, ⟨PyData.keyHash P "lots_of", (.str "lots_of" 233), (.ref 50)⟩, ⟨PyData.keyHash P "FinderError", (.str "FinderError" 273), (.ref 76)⟩, ⟨PyData.keyHash P "BoundFault", (.str "BoundFault" 289), (.ref 89)⟩, ⟨PyData.keyHash P "minus", (.str "minus" 297), (.ref 96)⟩, ⟨PyData.keyHash P "is_within", (.str "is_within" 305), (.ref 103)⟩, ⟨PyData.keyHash P "Universe", (.str "Universe" 377), (.ref 155)⟩, ⟨PyData.keyHash P "Bounds", (.str "Bounds" 481), (.ref 232)⟩] 21), #[]⟩ :: os4 P (⟨.none, none, (.fields #[(.int 1 0), (.int 0 0), (.ref 20), (.int 5 0), (.int 0 0), (.ref 25), (.int 8 0), (.int 0 0), (.ref 32), (.int 13 0), (.int 0 0), (.ref 37), (.int 22 0), (.int 0 0), (.ref 42), (.int 31 0), (.int 0 0), (.ref 49), (.int 37 0), (.int 0 0), (.ref 57), (.int 45 0), (.int 0 0), (.ref 85), (.int 48 0), (.int 0 0), (.ref 95), (.int 51 0), (.int 0 0), (.ref 102), (.int 54 0), (.int 0 0), (.ref 109), (.int 80 0), (.int 0 0), (.ref 165)]), #[]⟩ :: os13 P (os15 P (⟨(.type "type"), none, (.cls { name := "FinderError", bases := [(.type "Exception")], mro := [(.ref 76), (.type "Exception"), (.type "BaseException"), (.type "object")], ns := 75, qualname := "FinderError", hasDict := true, slotNames := [], subclasses := [(.ref 89)], abstract := false, collection := none, hasDel := false }), #[(some (.ref 51)), none, (some (.str "FinderError" 236)), (some (.str "FinderError" 244)), (some (.builtin "Exception.__new__")), (some (.bool true))]⟩ :: os77 P (os80 P (os104 P (os160 P ([]))))))))⟩, {}⟩
noncomputable def h_p25 (P : Params) : Heap := ⟨⟨os0 P (o2 P :: o3 P :: os4 P (⟨.none, none, (.fields #[(.int 1 0), (.int 0 0), (.ref 20), (.int 5 0), (.int 0 0), (.ref 25), (.int 8 0), (.int 0 0), (.ref 32), (.int 13 0), (.int 0 0), (.ref 37), (.int 22 0), (.int 0 0), (.ref 42), (.int 31 0), (.int 0 0), (.ref 49), (.int 37 0), (.int 0 0), (.ref 57), (.int 45 0), (.int 0 0), (.ref 85), (.int 48 0), (.int 0 0), (.ref 95), (.int 51 0), (.int 0 0), (.ref 102), (.int 54 0), (.int 0 0), (.ref 109), (.int 80 0), (.int 0 0), (.ref 165), (.int 131 0), (.int 0 0), (.ref 242), (.int 135 0), (.int 0 0), (.ref 247), (.int 137 0), (.int 0 0), (.ref 252), (.int 151 0), (.int 0 0), (.ref 259), (.int 154 0), (.int 0 0), (.ref 266), (.int 170 0), (.int 0 0), (.ref 271), (.int 175 0), (.int 0 0), (.ref 276), (.int 180 0), (.int 0 0), (.ref 281), (.int 200 0), (.int 0 0), (.ref 286)]), #[]⟩ :: os13 P (os15 P (⟨(.type "type"), none, (.cls { name := "FinderError", bases := [(.type "Exception")], mro := [(.ref 76), (.type "Exception"), (.type "BaseException"), (.type "object")], ns := 75, qualname := "FinderError", hasDict := true, slotNames := [], subclasses := [(.ref 89)], abstract := false, collection := none, hasDel := false }), #[(some (.ref 51)), none, (some (.str "FinderError" 236)), (some (.str "FinderError" 244)), (some (.builtin "Exception.__new__")), (some (.bool true))]⟩ :: os77 P (os80 P (os104 P (os160 P (os237 P ([])))))))))⟩, {}⟩
/-- the part of the heap behind the top that the walk reads -/
noncomputable def top (P : Params) : Frag := [(2, o2 P), (3, o3 P), (25, o25 P), (26, o26 P), (32, o32 P), (33, o33 P), (37, o37 P), (38, o38 P), (42, o42 P), (43, o43 P), (49, o49 P), (50, o50 P), (95, o95 P), (96, o96 P), (102, o102 P), (103, o103 P), (116, o116 P), (117, o117 P), (123, o123 P), (124, o124 P), (154, o154 P), (155, o155 P), (172, o172 P), (173, o173 P), (179, o179 P), (180, o180 P), (186, o186 P), (187, o187 P), (207, o207 P), (208, o208 P), (214, o214 P), (215, o215 P), (221, o221 P), (222, o222 P), (231, o231 P), (232, o232 P), (242, o242 P), (243, o243 P), (247, o247 P), (248, o248 P), (252, o252 P), (253, o253 P), (259, o259 P), (260, o260 P), (266, o266 P), (267, o267 P), (271, o271 P), (272, o272 P), (276, o276 P), (277, o277 P), (281, o281 P), (282, o282 P), (286, o286 P), (287, o287 P)]
noncomputable def topAt : List Addr := [2, 3, 25, 26, 32, 33, 37, 38, 42, 43, 49, 50, 95, 96, 102, 103, 116, 117, 123, 124, 154, 155, 172, 173, 179, 180, 186, 187, 207, 208, 214, 215, 221, 222, 231, 232, 242, 243, 247, 248, 252, 253, 259, 260, 266, 267, 271, 272, 276, 277, 281, 282, 286, 287]
noncomputable def q : Program := view pw [0, 2, 3, 4, 5, 6, 8, 9, 11, 12, 14, 15, 17, 18, 19, 20, 21, 22, 23, 24, 25]
noncomputable def hook : Hook := kHook top topAt (fun _ => by kernel_rfl)
noncomputable def env1 : Env := { scope := pw.main.scope, locals := mainNs, globals := mainNs, cells := [], code := .ref 13, frame := some 14 }
noncomputable def l_g1 : List Stmt := (pw.main.body.drop 0).take 9
noncomputable def l_g2 : List Stmt := (pw.main.body.drop 9).take 5
noncomputable def l_g3 : List Stmt := (pw.main.body.drop 14).take 1
noncomputable def l_g4 : List Stmt := (pw.main.body.drop 15).take 1
noncomputable def l_g5 : List Stmt := (pw.main.body.drop 16).take 10
noncomputable def body1 : List Stmt := l_g1 ++ (l_g2 ++ (l_g3 ++ (l_g4 ++ (l_g5 ++ []))))
noncomputable def code1 : Code := .body body1 env1
noncomputable def at0 (w : World) (os : OsState) : Shared := ⟨boot_heap w.params, Array.mk [], boot_drawn, boot_toks, os⟩
noncomputable def at_pre (w : World) (os : OsState) : Shared := ⟨h_pre w.params, Array.mk [], {}, 187, os⟩
noncomputable def at_p8 (w : World) (os : OsState) : Shared := ⟨h_p8 w.params, Array.mk [], {}, 274, os⟩
noncomputable def at_p13 (w : World) (os : OsState) : Shared := ⟨h_p13 w.params, Array.mk [], {}, 308, os⟩
noncomputable def at_p14 (w : World) (os : OsState) : Shared := ⟨h_p14 w.params, Array.mk [], {}, 378, os⟩
noncomputable def at_p15 (w : World) (os : OsState) : Shared := ⟨h_p15 w.params, Array.mk [], {}, 482, os⟩
noncomputable def at_p25 (w : World) (os : OsState) : Shared := ⟨h_p25 w.params, Array.mk [], {}, 554, os⟩
theorem size (w : World) : ((boot_heap w.params).isNs mainGlobals && (Array.mk [] : Array GenState).size == 0, (boot_heap w.params).objs.size, (boot_heap w.params).nsMap mainGlobals "__annotations__") = (true, 11, some (Value.ref 6)) := by kernel_rfl
theorem pre : (fun (w : World) (os : OsState) => topGo treeTable pw w 11 (some (.ref 6)) 12 (at0 w os) (topStub pw)) = fun w os => some (at_pre w os, ⟨denote treeTable code1, code1, ⟨0, 0, 0, 0⟩, [topFrame ⟨0, 0, 0, 0⟩]⟩) := by
  rw [PySem.W.Fast.te15667345088766844465, PySem.W.Fast.te14364793385576792824, PySem.W.Fast.te11892475500146522536]
  kernel_rfl
theorem blk : (fun (w : World) (os : OsState) => segRun treeTable pw w 11 (some (.ref 6)) 1 1 (at_pre w os) (blockOf body1 env1 code1 ⟨0, 0, 0, 0⟩ [topFrame ⟨0, 0, 0, 0⟩])) = fun w os => some (.next, at_pre w os, code1, ⟨0, 0, 0, 0⟩) := by
  rw [PySem.W.Fast.te14374325043358763698, PySem.W.Fast.te14364793385576792824]
  kernel_rfl
theorem g1 : (fun (w : World) (os : OsState) => segRun treeTable pw w 11 (some (.ref 6)) 1 465 (at_pre w os) (piecesOf l_g1 env1 code1 ⟨0, 0, 0, 0⟩ [topFrame ⟨0, 0, 0, 0⟩])) = fun w os => some (.next, at_p8 w os, code1, ⟨37, 0, 44, 24⟩) := by
  rw [PySem.W.Fast.te14374325043358763698, PySem.W.Fast.te14364793385576792824]
  kernel_rfl
theorem g2 : (fun (w : World) (os : OsState) => segRun treeTable pw w 11 (some (.ref 6)) 1 288 (at_p8 w os) (piecesOf l_g2 env1 code1 ⟨37, 0, 44, 24⟩ [topFrame ⟨0, 0, 0, 0⟩])) = fun w os => some (.next, at_p13 w os, code1, ⟨53, 0, 53, 8⟩) := by
  rw [PySem.W.Fast.te14374325043358763698, PySem.W.Fast.te14364793385576792824]
  kernel_rfl
theorem g3 : (fun (w : World) (os : OsState) => segRun treeTable pw w 11 (some (.ref 6)) 1 384 (at_p13 w os) (piecesOf l_g3 env1 code1 ⟨53, 0, 53, 8⟩ [topFrame ⟨0, 0, 0, 0⟩])) = fun w os => some (.next, at_p14 w os, code1, ⟨54, 0, 79, 16⟩) := by
  rw [PySem.W.Fast.te14374325043358763698, PySem.W.Fast.te14364793385576792824]
  kernel_rfl
theorem g4 : (fun (w : World) (os : OsState) => segRun treeTable pw w 11 (some (.ref 6)) 1 490 (at_p14 w os) (piecesOf l_g4 env1 code1 ⟨54, 0, 79, 16⟩ [topFrame ⟨0, 0, 0, 0⟩])) = fun w os => some (.next, at_p15 w os, code1, ⟨80, 0, 129, 16⟩) := by
  rw [PySem.W.Fast.te14374325043358763698, PySem.W.Fast.te14364793385576792824]
  kernel_rfl
theorem g5 : (fun (w : World) (os : OsState) => segRun treeTable pw w 11 (some (.ref 6)) 1 266 (at_p15 w os) (piecesOf l_g5 env1 code1 ⟨80, 0, 129, 16⟩ [topFrame ⟨0, 0, 0, 0⟩])) = fun w os => some (.next, at_p25 w os, code1, ⟨200, 0, 215, 64⟩) := by
  rw [PySem.W.Fast.te14374325043358763698, PySem.W.Fast.te14364793385576792824]
  kernel_rfl
theorem fin : (fun (w : World) (os : OsState) => topRun treeTable pw w 11 (some (.ref 6)) 2 (at_p25 w os) ⟨doneF .next, code1, ⟨200, 0, 215, 64⟩, [topFrame ⟨0, 0, 0, 0⟩]⟩) = fun w os => some (at_p25 w os) := by
  rw [PySem.W.Fast.te14082659384304107361, PySem.W.Fast.te14364793385576792824]
  kernel_rfl
theorem run (w : World) (os : OsState) : topRun treeTable pw w 11 (some (.ref 6)) (12 + (1 + (465 + (288 + (384 + (490 + (266 + 2))))))) (at0 w os) (topStub pw) = some (at_p25 w os) :=
  go_top (congrFun (congrFun pre w) os) (piece_block (env := env1) (c := code1) (congrFun (congrFun blk w) os) (piece_app (env := env1) (c := code1) (congrFun (congrFun g1 w) os) (piece_app (env := env1) (c := code1) (congrFun (congrFun g2 w) os) (piece_app (env := env1) (c := code1) (congrFun (congrFun g3 w) os) (piece_app (env := env1) (c := code1) (congrFun (congrFun g4 w) os) (piece_app (env := env1) (c := code1) (congrFun (congrFun g5 w) os) (piece_nil (env := env1) (c := code1) (congrFun (congrFun fin w) os))))))))
theorem looks1 : (fun (w : World) (os : OsState) => staticsOk (importedModules pw.main.body) (boot_heap w.params) (h_p25 w.params) && namesBound pw (h_p25 w.params) && gensDone (at_p25 w os) && laidKept (boot_heap w.params) (h_p25 w.params)) = fun _ _ => true := by
  rw [PySem.W.Fast.te5923862056798008813]
  kernel_rfl
theorem looks2 : (fun (w : World) (os : OsState) => openSeen q [] (importedModules pw.main.body) (fun s => xlAt q [] s && recOk (RowW.records rw'.toRowW) s) true (at_p25 w os)) = fun _ _ => openGood q [] := by
  rw [PySem.W.Fast.te4187177175401517315, PySem.W.Fast.te5923862056798008813]
  kernel_rfl
theorem looks3 : (fun (w : World) (os : OsState) => hook.obs (at_p25 w os)) = fun w _ => hook.val w := by
  kernel_rfl
theorem left : LeftO pw q [] (fun s => xlAt q [] s && recOk (RowW.records rw'.toRowW) s) hook.obs hook.val 3902 true :=
  LeftO.of_pieces (H₀ := boot_heap) (H₁ := h_p25) (boot_open (by kernel_rfl) (by decide) (by intro s; kernel_rfl)) size run (by decide)
    fun w => funext fun os => looks_pair (congrFun (congrFun looks1 w) os) (looks_pair (congrFun (congrFun looks2 w) os) (congrFun (congrFun looks3 w) os))
end Mine


namespace Mine
open PySem PySem.W
theorem said1 : (sreFenced pw.main && ((moduleNames pw.main.body).isEmpty || lookedIntoSs (moduleNames pw.main.body) pw.main.body) && namesResolve pw && pw.boundNames.all (fun n => !worldNames.contains n)) = true := by kernel_rfl
theorem said2 : noRoadLSs { strict := !(importedModules pw.main.body).all cThrough.contains, foot := none, bare := (["vars", "dir", "locals"] : List Str).filter (readsOut pw pw.main.body) } pw.main.body = true := by
  rw [PySem.W.Fast.te8326940854005059898]
  kernel_rfl
theorem said3 : namesMeet pw pw.main.body (fun _ n => attrL n) = true := by
  rw [PySem.W.Fast.te17119622794617984870]
  kernel_rfl
theorem said4 : looksOpen pw = true := look_both (look_both said1 said2) said3
theorem said5 : rw'.wellSaid = true := by
  unfold OpenRow.wellSaid OpenRow.partSaid
  rw [show looksOpen rw'.prog = true from said4]
  kernel_rfl
theorem said : PySem.Challenge.rw_nu0270_01.wellSaid = true := by
  unfold OpenLaw.wellSaid
  rw [show PySem.Challenge.rw_nu0270_01.row.wellSaid = true from said5, PySem.W.Fast.te8326940854005059898, PySem.W.Fast.te17119622794617984870]
  kernel_rfl
end Mine

set_option maxHeartbeats 200000
namespace Mine
open PySem PySem.W
local macro_rules | `(tactic| walk_at "m") => `(tactic| first
  | ((with_reducible refine e_var (p := ?_) ?_ ?_ ?_); rotate_left; rfl; rfl)
  | with_reducible refine e_int ?_
  | with_reducible refine e_str ?_
  | with_reducible refine e_bool ?_
  | ((with_reducible refine l_cons ?_ ?_); rfl)
  | with_reducible refine l_nil ?_
  | with_reducible refine e_bin ?_
  | ((with_reducible refine e_cmp ?_ ?_); rotate_left; rfl)
  | ((with_reducible refine b_cmp ?_ ?_); rotate_left; rfl)
  | with_reducible refine b_not ?_
  | with_reducible refine b_or ?_
  | with_reducible refine b_and2 ?_
  | with_reducible refine e_if ?_
  | with_reducible refine e_cut_to ?_
  | with_reducible refine e_cut_from ?_
  | with_reducible refine e_item ?_
  | with_reducible refine e_tuple ?_
  | with_reducible refine e_list ?_
  | with_reducible refine s_step ?_
  | with_reducible refine s_nil ?_
  | with_reducible refine x_ret ?_
  | with_reducible refine x_if ?_
  | ((with_reducible refine x_assign ?_ ?_ ?_); rotate_left; rfl; rfl)
  | ((with_reducible refine x_expr ?_ ?_ ?_); rotate_left; rfl; rfl)
  | ((with_reducible refine t_isi (K := top) (N := ?_) ?_ ?_ ?_ ?_ ?_ ?_ ?_ ?_ ?_ ?_); rotate_left; assumption; rfl; rfl; rfl; rfl; rfl; rfl; rfl; rfl)
  | ((with_reducible refine t_list_range (K := top) ?_ ?_ ?_ ?_ ?_ ?_ ?_ ?_ ?_); assumption; rfl; rfl; rfl; rfl; rfl; rfl; rfl)
  | ((with_reducible refine t_builtin (K := top) (id := ?_) ?_ ?_ ?_ ?_ ?_ ?_ ?_); rotate_left; assumption; rfl; rfl; rfl; rfl; rfl)
  | ((with_reducible refine t_type (K := top) (id := ?_) ?_ ?_ ?_ ?_ ?_ ?_ ?_); rotate_left; assumption; rfl; rfl; rfl; rfl; rfl)
  | ((with_reducible refine t_fn (K := top) (a := ?_) (o := ?_) (fd := ?_) ?_ ?_ ?_ ?_ ?_ ?_ ?_); rotate_left; rotate_left; rotate_left; assumption; rfl; rfl; rfl; rfl; rfl)
  | ((with_reducible refine t_range (K := top) ?_ ?_ ?_ ?_ ?_ ?_); assumption; rfl; rfl; rfl; rfl)
  | ((with_reducible refine t_range2 (K := top) ?_ ?_ ?_ ?_ ?_ ?_ ?_); assumption; rfl; rfl; rfl; rfl; rfl)
  | ((with_reducible refine b_val ?_ ?_); rfl))
local macro_rules | `(tactic| walk_at "le") => `(tactic| (repeat (first | exact Le.refl _ | refine Le.trans ?_ (Le.set (by assumption)))))
local macro_rules | `(tactic| walk_at "ms") => `(tactic| repeat walk_at "m")
local macro_rules | `(tactic| walk_at "bind") => `(tactic| (intro vs hv; rcases vs with _ | ⟨_, _ | ⟨_, _ | ⟨_, _ | ⟨_, _ | ⟨_, _ | _⟩⟩⟩⟩⟩ <;> first | rfl | simp at hv))

section
variable {c : Cx} {n : Nat} {st : PS} {Q : PV → PS → Prop}
noncomputable abbrev ltR : List Int → List Int → Bool := lexLt fun a b : Int => decide (a < b)
theorem keydR {n : Nat} : Keyd c (n + 1) encRow ltR := keyd_tup ordd_int ltd_int (by omega)
set_option maxHeartbeats 4000000 in
theorem swapped_ok (T : Tops c top) {S : List (List Int)} {a b : Int} (h64 : S.length < 64) (hr : ∀ r ∈ S, r.length ≤ 1000)
    (h : ∀ S', S'.Perm (S.map (swapRow a b)) → Asc ltR S' → Q (encSet S') st) : WPk c (n + 6) 26 [encSet S, .int a, .int b] st Q := by
  refine WPk.sub ?_
  refine fnk T (o := _) (fd := _) (xs := ["tuples", "a", "b"]) rfl rfl rfl rfl rfl rfl rfl rfl (by walk_at "bind") rfl (by decide) rfl fun L ql cd => ?_
  walk_at "ms"
  with_reducible refine e_dict2I T.sys ?_
  walk_at "ms"
  refine ⟨_, _, rfl, rfl, fun D d1 d2 => ?_⟩
  walk_at "ms"
  refine (e_comp1 (comp_map ?_) rfl rfl (fun _ => rfl))
  refine i_val ?_
  walk_at "ms"
  refine .inl ⟨_, rfl, trivial, by simp [Src.items]; omega, S.map fun r => encRow (swapRow a b r), by simp [Src.items], fun C i p q hp hq => ?_, fun D2 e1 e2 => ?_⟩
  · rw [List.getElem?_map] at hq
    obtain ⟨r, hr', rfl⟩ := Option.map_eq_some_iff.mp hq
    have hp' : (S.map encRow)[i]? = some p := hp
    rw [List.getElem?_map, hr'] at hp'
    obtain rfl := Option.some.inj hp'
    have hrl := hr r (List.mem_of_getElem? hr')
    walk_at "ms"
    refine (e_comp1 (comp_map ?_) rfl rfl (fun _ => rfl))
    refine i_val ?_
    walk_at "ms"
    refine .inl ⟨_, rfl, trivial, by simp [Src.items]; omega, r.map fun c => .int (swapOf a b c), by simp [Src.items], fun C2 i2 p2 q2 hp2 hq2 => ?_, fun D3 f1 f2 => ?_⟩
    · rw [List.getElem?_map] at hq2
      obtain ⟨x, hx, rfl⟩ := Option.map_eq_some_iff.mp hq2
      have hp' : (r.map PV.int)[i2]? = some p2 := hp2
      rw [List.getElem?_map, hx] at hp'
      obtain rfl := Option.some.inj hp'
      refine e_meth F.plainAttrs_dict F.slot_dict_get F.type_dict_get rfl rfl (by decide) rfl ?_
      walk_at "ms"
      refine ⟨D, _, rfl, PS.set_self _ _ _, rfl, rfl, ?_⟩
      walk_at "ms"
      exact c_getI (PS.set_self _ _ _) ⟨look_table a b x, Le.refl _⟩
    · walk_at "ms"
      exact c_tuple (PS.set_self _ _ _) (by simp; omega) ⟨by simp [encRow, swapRow], Le.set f1⟩
  · walk_at "ms"
    refine c_sorted_list (n := n + 2) (keydR (n := n + 1)) (as := S.map (swapRow a b)) (by rw [PS.set_self, List.map_map]; rfl) (by simpa using h64) fun bs D3 p1 p2 f1 f2 => ?_
    walk_at "ms"
    refine c_tuple (PS.set_self _ _ _) (by rw [List.length_map, p1.length_eq, List.length_map]; omega) ?_
    exact ⟨st, by walk_at "le", h bs p1 p2⟩
end

section
variable {c : Cx} {n : Nat} {st : PS} {Q : PV → PS → Prop}
/-- a set of rows as the program keeps it -/
structure GoodS (S : List (List Int)) : Prop where
  len : S.length < 64
  row : ∀ r ∈ S, r.length ≤ 2
  asc : Asc ltR S
theorem ltdS {c : Cx} {n : Nat} : Ltd c (n + 2) encSet (lexLt ltR) 2 := ltd_tup (ltd_tup ltd_int (by omega)) (by omega)
theorem beqR (r r' : List Int) : PV.beq (encRow r) (encRow r') = decide (r = r') := by
  simp only [encRow, PV.beq]
  exact beqs_map (fun a b => by simp [PV.beq]; rfl) r r'
theorem beqS (S S' : List (List Int)) : PV.beq (encSet S) (encSet S') = decide (S = S') := by
  simp only [encSet, PV.beq]
  exact beqs_map beqR S S'
theorem okR (r : List Int) : okD 8 (encRow r) = true := by simp [encRow, okD]
theorem okS (S : List (List Int)) : okD 8 (encSet S) = true := by simp [encSet, encRow, okD]
noncomputable def alike (some : List (List (List Int))) (a b : Int) : Prop := ∀ S ∈ some, (S.map (swapRow a b)).Perm S
set_option maxHeartbeats 4000000 in
theorem are_alike_ok (T : Tops c top) {sm : List (List (List Int))} {a b : Int} {l : Addr} (hg : ∀ S ∈ sm, GoodS S) (hl : st l = some (.list (sm.map encSet)))
    (h : ∀ x : Bool, (x = true ↔ alike sm a b) → Q (.bool x) st) : WPk c (n + 8) 33 [.loc l, .int a, .int b] st Q := by
  refine WPk.sub ?_
  refine fnk T (o := _) (fd := _) (xs := ["some", "a", "b"]) rfl rfl rfl rfl rfl rfl rfl rfl (by walk_at "bind") rfl (by decide) rfl fun L ql cd => ?_
  walk_at "ms"
  refine x_forS ?_ rfl (fun _ => rfl)
  refine i_val ?_
  walk_at "ms"
  refine .inr ⟨_, _, rfl, hl, fun i ρ' st' => Sub [("some", .loc l), ("a", .int a), ("b", .int b)] ρ' ∧ st' = st ∧ ∀ S ∈ sm.take i, (S.map (swapRow a b)).Perm S, ⟨Sub.refl _, rfl, by simp⟩, fun i ρ' st' h => h.2.1 ▸ hl, fun i p ρ' st' hp ⟨j1, j2, j3⟩ => ?_, fun ρ' st' ⟨j1, j2, j3⟩ => ?_⟩
  · subst j2
    have hp' : (sm.map encSet)[i]? = some p := hp
    rw [List.getElem?_map] at hp'
    obtain ⟨S, hS, rfl⟩ := Option.map_eq_some_iff.mp hp'
    have gS := hg S (List.mem_of_getElem? hS)
    refine WPs.weaken (ρ' := [("one", encSet S), ("some", .loc l), ("a", .int a), ("b", .int b)]) ?_ j1.both
    walk_at "ms"
    refine (swapped_ok T gS.len (fun r hr => Nat.le_trans (gS.row r hr) (by omega)) fun S' p1 p2 => ?_).call
    walk_at "ms"
    refine o_ned (okS _) (okS _) ⟨_, rfl, ?_⟩
    rw [beqS]
    by_cases e : S' = S
    · subst e
      rw [if_neg (by simp)]
      walk_at "ms"
      refine ⟨_, Le.refl _, (Sub.refl _).cons rfl, rfl, ?_⟩
      intro S2 hS2
      rw [List.take_add_one, hS] at hS2
      rcases List.mem_append.mp hS2 with h2 | h2
      · exact j3 S2 h2
      · obtain rfl := List.mem_singleton.mp h2
        exact p1.symm
    · rw [if_pos (by simp [e])]
      walk_at "ms"
      refine ⟨_, Le.refl _, _, Le.refl _, h false ⟨fun h => (by cases h), fun ha => absurd ?_ e⟩⟩
      exact asc_unique (ordd_lex ordd_int) (p1.trans (ha S (List.mem_of_getElem? hS))) p2 gS.asc
  · subst j2
    have e : (Src.lst l (sm.map encSet)).items.length = sm.length := by simp [Src.items]
    rw [e, List.take_length] at j3
    walk_at "ms"
    exact ⟨_, Le.refl _, h true ⟨fun _ => j3, fun _ => rfl⟩⟩
end

structure PInv (al : Int → Int → Prop) (k : Nat) (ps : List (Int × List Int)) : Prop where
  mem : ∀ x : Int, (∃ p ∈ ps, x ∈ p.1 :: p.2) ↔ 0 ≤ x ∧ x < k
  asc : ∀ p ∈ ps, (p.1 :: p.2).Pairwise (· < ·)
  once : ps.Pairwise fun p q => ∀ x ∈ p.1 :: p.2, x ∉ q.1 :: q.2
  heads : ps.Pairwise fun p q => p.1 < q.1
  same : ∀ p ∈ ps, ∀ x ∈ p.2, al p.1 x
  diff : ps.Pairwise fun p q => ¬ al p.1 q.1
  len : ps.length ≤ k
  lens : ∀ p ∈ ps, p.2.length < k
theorem PInv.zero (al : Int → Int → Prop) : PInv al 0 [] where
  mem x := by
    constructor
    · rintro ⟨p, hp, _⟩; cases hp
    · intro h; omega
  asc p h := by cases h
  once := .nil
  heads := .nil
  same p h := by cases h
  diff := .nil
  len := Nat.le_refl _
  lens p h := by cases h
theorem PInv.lt {al : Int → Int → Prop} {k : Nat} {ps : List (Int × List Int)} (P : PInv al k ps) {p : Int × List Int} (hp : p ∈ ps) {x : Int} (hx : x ∈ p.1 :: p.2) : 0 ≤ x ∧ x < k := (P.mem x).mp ⟨p, hp, hx⟩
theorem PInv.new {al : Int → Int → Prop} {k : Nat} {ps : List (Int × List Int)} (P : PInv al k ps) (h : ∀ p ∈ ps, ¬ al p.1 k) : PInv al (k + 1) (ps ++ [((k : Int), [])]) where
  mem x := by
    constructor
    · rintro ⟨p, hp, hx⟩
      rcases List.mem_append.mp hp with hp | hp
      · have := P.lt hp hx; omega
      · obtain rfl := List.mem_singleton.mp hp
        have : x = k := by simpa using hx
        omega
    · intro hx
      by_cases e : x = k
      · exact ⟨((k : Int), []), by simp, by simp [e]⟩
      · obtain ⟨p, hp, hx'⟩ := (P.mem x).mpr (by omega)
        exact ⟨p, List.mem_append_left _ hp, hx'⟩
  asc p hp := by
    rcases List.mem_append.mp hp with hp | hp
    · exact P.asc p hp
    · obtain rfl := List.mem_singleton.mp hp; simp
  once := List.pairwise_append.mpr ⟨P.once, List.pairwise_singleton _ _, fun p hp q hq x hx hx' => by
    obtain rfl := List.mem_singleton.mp hq
    have := P.lt hp hx
    simp at hx'; omega⟩
  heads := List.pairwise_append.mpr ⟨P.heads, List.pairwise_singleton _ _, fun p hp q hq => by
    obtain rfl := List.mem_singleton.mp hq
    exact (P.lt hp (List.mem_cons_self)).2⟩
  same p hp := by
    rcases List.mem_append.mp hp with hp | hp
    · exact P.same p hp
    · obtain rfl := List.mem_singleton.mp hp; simp
  diff := List.pairwise_append.mpr ⟨P.diff, List.pairwise_singleton _ _, fun p hp q hq => by
    obtain rfl := List.mem_singleton.mp hq
    exact h p hp⟩
  len := by have := P.len; simp; omega
  lens p hp := by
    rcases List.mem_append.mp hp with hp | hp
    · have := P.lens p hp; omega
    · obtain rfl := List.mem_singleton.mp hp; simp
theorem PInv.put {al : Int → Int → Prop} {k : Nat} {pre post : List (Int × List Int)} {p : Int × List Int} (P : PInv al k (pre ++ p :: post)) (h : al p.1 k) : PInv al (k + 1) (pre ++ (p.1, p.2 ++ [(k : Int)]) :: post) := by
  have lt : ∀ q ∈ pre ++ p :: post, ∀ x ∈ q.1 :: q.2, 0 ≤ x ∧ x < k := fun q hq x hx => P.lt hq hx
  have memq : ∀ q, q ∈ pre ++ (p.1, p.2 ++ [(k : Int)]) :: post → q = (p.1, p.2 ++ [(k : Int)]) ∨ q ∈ pre ++ p :: post := fun q hq => by
    rcases List.mem_append.mp hq with hq | hq
    · exact .inr (List.mem_append_left _ hq)
    · rcases List.mem_cons.mp hq with hq | hq
      · exact .inl hq
      · exact .inr (List.mem_append_right _ (.tail _ hq))
  have hpm : p ∈ pre ++ p :: post := by simp
  obtain ⟨o1, o2, o3⟩ := List.pairwise_append.mp P.once
  obtain ⟨o4, o5⟩ := List.pairwise_cons.mp o2
  obtain ⟨a1, a2, a3⟩ := List.pairwise_append.mp P.heads
  obtain ⟨a4, a5⟩ := List.pairwise_cons.mp a2
  obtain ⟨d1, d2, d3⟩ := List.pairwise_append.mp P.diff
  obtain ⟨d4, d5⟩ := List.pairwise_cons.mp d2
  have hx' : ∀ x, x ∈ p.1 :: (p.2 ++ [(k : Int)]) → x ∈ p.1 :: p.2 ∨ x = k := fun x hx => by
    rw [← List.cons_append] at hx
    rcases List.mem_append.mp hx with hx | hx
    · exact .inl hx
    · exact .inr (List.mem_singleton.mp hx)
  exact {
    mem := fun x => by
      constructor
      · rintro ⟨q, hq, hx⟩
        rcases memq q hq with rfl | hq
        · rcases hx' x hx with hx | hx
          · have := lt p hpm x hx; omega
          · omega
        · have := lt q hq x hx; omega
      · intro hx
        by_cases e : x = k
        · exact ⟨(p.1, p.2 ++ [(k : Int)]), by simp, by simp [e]⟩
        · obtain ⟨q, hq, hxq⟩ := (P.mem x).mpr (by omega)
          rcases List.mem_append.mp hq with hq | hq
          · exact ⟨q, List.mem_append_left _ hq, hxq⟩
          · rcases List.mem_cons.mp hq with rfl | hq
            · exact ⟨(q.1, q.2 ++ [(k : Int)]), by simp, by
                rcases List.mem_cons.mp hxq with h | h
                · simp [h]
                · simp [h]⟩
            · exact ⟨q, List.mem_append_right _ (.tail _ hq), hxq⟩
    asc := fun q hq => by
      rcases memq q hq with rfl | hq
      · show (p.1 :: (p.2 ++ [(k : Int)])).Pairwise (· < ·)
        rw [← List.cons_append]
        exact List.pairwise_append.mpr ⟨P.asc p hpm, List.pairwise_singleton _ _, fun x hx y hy => by
          obtain rfl := List.mem_singleton.mp hy
          exact (lt p hpm x hx).2⟩
      · exact P.asc q hq
    once := List.pairwise_append.mpr ⟨o1, List.pairwise_cons.mpr ⟨fun q hq x hx => by
        rcases hx' x hx with hx | rfl
        · exact o4 q hq x hx
        · intro hk; have := lt q (List.mem_append_right _ (.tail _ hq)) _ hk; omega, o5⟩, fun q hq r hr x hx => by
        rcases List.mem_cons.mp hr with rfl | hr
        · intro hk
          rcases hx' x hk with hk | rfl
          · exact o3 q hq p (.head _) x hx hk
          · have := lt q (List.mem_append_left _ hq) _ hx; omega
        · exact o3 q hq r (.tail _ hr) x hx⟩
    heads := List.pairwise_append.mpr ⟨a1, List.pairwise_cons.mpr ⟨fun q hq => a4 q hq, a5⟩, fun q hq r hr => by
        rcases List.mem_cons.mp hr with rfl | hr
        · exact a3 q hq p (.head _)
        · exact a3 q hq r (.tail _ hr)⟩
    same := fun q hq x hx => by
      rcases memq q hq with rfl | hq
      · rcases List.mem_append.mp hx with hx | hx
        · exact P.same p hpm x hx
        · obtain rfl := List.mem_singleton.mp hx; exact h
      · exact P.same q hq x hx
    diff := List.pairwise_append.mpr ⟨d1, List.pairwise_cons.mpr ⟨fun q hq => d4 q hq, d5⟩, fun q hq r hr => by
        rcases List.mem_cons.mp hr with rfl | hr
        · exact d3 q hq p (.head _)
        · exact d3 q hq r (.tail _ hr)⟩
    len := by have := P.len; simp at this ⊢; omega
    lens := fun q hq => by
      rcases memq q hq with rfl | hq
      · have := P.lens p hpm; simp; omega
      · have := P.lens q hq; omega }

theorem split_first {α : Type} (p : α → Prop) : ∀ l : List α, (∀ x ∈ l, ¬ p x) ∨ ∃ pre x post, l = pre ++ x :: post ∧ (∀ y ∈ pre, ¬ p y) ∧ p x
  | [] => .inl fun _ h => nomatch h
  | a :: l => by
    by_cases h : p a
    · exact .inr ⟨[], a, l, rfl, by simp, h⟩
    · rcases split_first p l with q | ⟨pre, x, post, rfl, q1, q2⟩
      · exact .inl fun x hx => by
          rcases List.mem_cons.mp hx with rfl | hx
          · exact h
          · exact q x hx
      · exact .inr ⟨a :: pre, x, post, rfl, fun y hy => by
          rcases List.mem_cons.mp hy with rfl | hy
          · exact h
          · exact q1 y hy, q2⟩
open Classical in
noncomputable def homeOf (al : Int → Prop) (x : Addr × Int × List Int) : Option PV := if al x.2.1 then some (.loc x.1) else none
section
variable {c : Cx} {n : Nat} {st : PS} {Q : PV → PS → Prop}
/-- the parts, each a list of its own -/
structure PAt (st st' : PS) (P : Addr) (pas : List (Addr × Int × List Int)) : Prop where
  le : Le st st'
  free : st P = none
  lst : st' P = some (.list (pas.map fun x => .loc x.1))
  each : ∀ x ∈ pas, st' x.1 = some (.list ((x.2.1 :: x.2.2).map .int)) ∧ st x.1 = none ∧ x.1 ≠ P
  nd : (pas.map (·.1)).Nodup
theorem PAt.add {st' st2 : PS} {P D : Addr} {pas : List (Addr × Int × List Int)} {k : Int} (A : PAt st st' P pas) (g : st' D = none) (h1 : st2 P = some (.list (pas.map (fun x => .loc x.1) ++ [.loc D]))) (h2 : st2 D = some (.list [.int k]))
    (h : ∀ b po, st' b = some po → b ≠ P → st2 b = some po) : PAt st st2 P (pas ++ [(D, k, [])]) where
  le b po e := h b po (A.le _ _ e) (by rintro rfl; rw [A.free] at e; cases e)
  free := A.free
  lst := by rw [h1]; simp
  each x hx := by
    rcases List.mem_append.mp hx with hx | hx
    · obtain ⟨e1, e2, e3⟩ := A.each x hx
      exact ⟨h _ _ e1 e3, e2, e3⟩
    · obtain rfl := List.mem_singleton.mp hx
      exact ⟨h2, A.le.none g, by rintro rfl; rw [A.lst] at g; cases g⟩
  nd := by
    rw [List.map_append]
    refine List.nodup_append.mpr ⟨A.nd, by simp, fun a ha b hb => ?_⟩
    obtain rfl := List.mem_singleton.mp hb
    intro e
    obtain ⟨x, hx, ex⟩ := List.mem_map.mp ha
    have := (A.each x hx).1
    rw [ex, e, g] at this; cases this
theorem PAt.put {st' st2 : PS} {P : Addr} {pre post : List (Addr × Int × List Int)} {x : Addr × Int × List Int} {k : Int} (A : PAt st st' P (pre ++ x :: post)) (h2 : st2 x.1 = some (.list ((x.2.1 :: (x.2.2 ++ [k])).map .int)))
    (h : ∀ b po, st' b = some po → b ≠ x.1 → st2 b = some po) : PAt st st2 P (pre ++ (x.1, x.2.1, x.2.2 ++ [k]) :: post) := by
  have nd := A.nd
  rw [List.map_append, List.map_cons] at nd
  obtain ⟨n1, n2, n3⟩ := List.nodup_append.mp nd
  rw [List.nodup_cons] at n2
  exact {
    le := fun b po e => h b po (A.le _ _ e) (by rintro rfl; rw [(A.each x (by simp)).2.1] at e; cases e)
    free := A.free
    lst := by
      have := h _ _ A.lst (Ne.symm (A.each x (by simp)).2.2)
      simpa using this
    each := fun y hy => by
      rcases List.mem_append.mp hy with hy | hy
      · obtain ⟨e1, e2, e3⟩ := A.each y (List.mem_append_left _ hy)
        exact ⟨h _ _ e1 (fun e => n3 _ (List.mem_map.mpr ⟨y, hy, rfl⟩) _ (.head _) e), e2, e3⟩
      · rcases List.mem_cons.mp hy with rfl | hy
        · have := A.each x (by simp)
          exact ⟨h2, this.2⟩
        · obtain ⟨e1, e2, e3⟩ := A.each y (List.mem_append_right _ (.tail _ hy))
          exact ⟨h _ _ e1 (fun e => n2.1 (e ▸ List.mem_map.mpr ⟨y, hy, rfl⟩)), e2, e3⟩
    nd := by
      have := A.nd
      simpa using this }
set_option maxHeartbeats 8000000 in
theorem parts_of_ok (T : Tops c top) {sm : List (List (List Int))} {m : Nat} {l : Addr} (hm : m ≤ 1000) (hg : ∀ S ∈ sm, GoodS S) (hl : st l = some (.list (sm.map encSet)))
    (h : ∀ ps D, PInv (alike sm) m ps → st D = none → c.B.get? D = none → Q (.loc D) (st.set D (.list (ps.map fun p => encRow (p.1 :: p.2))))) : WPk c (n + 10) 38 [.int m, .loc l] st Q := by
  refine WPk.sub ?_
  refine fnk T (o := _) (fd := _) (xs := ["many", "some"]) rfl rfl rfl rfl rfl rfl rfl rfl (by walk_at "bind") rfl (by decide) rfl fun L ql cd => ?_
  walk_at "ms"
  refine ⟨by simp, fun P f1 f2 => ?_⟩
  walk_at "ms"
  refine x_forS ?_ rfl (fun _ => rfl)
  walk_at "ms"
  refine ⟨_, rfl, by omega, fun i ρ' st' => Sub [("parts", .loc P), ("many", .int m), ("some", .loc l)] ρ' ∧ ∃ pas : List (Addr × Int × List Int), PAt st st' P pas ∧ PInv (alike sm) i (pas.map (·.2)), ⟨Sub.refl _, [], ⟨Le.set f1, f1, by simp, by simp, by simp⟩, PInv.zero _⟩, fun _ _ _ _ => trivial, fun i p ρ' st' hp ⟨j1, pas, A, PI⟩ => ?_, fun ρ' st' ⟨j1, pas, A, PI⟩ => ?_⟩
  · have hi : i < m := by
      have := (List.getElem?_eq_some_iff.mp hp).1
      simpa [Src.items] using this
    have hpe : p = .int i := by
      simp only [Src.items, List.getElem?_map] at hp
      rw [List.getElem?_range (by simpa using hi)] at hp
      simpa using hp.symm
    subst hpe
    have hlen := PI.len
    rw [List.length_map] at hlen
    refine WPs.weaken (ρ' := [("a", .int i), ("parts", .loc P), ("many", .int m), ("some", .loc l)]) ?_ j1.both
    walk_at "m"
    refine x_comp1 (comp_filter ?_) rfl rfl rfl (fun _ => rfl) rfl
    refine i_val ?_
    walk_at "ms"
    refine .inr ⟨_, _, rfl, A.lst, A.lst, by simp [Src.items]; omega, pas.map (homeOf fun x => alike sm x i), by simp [Src.items], fun C j p q hp hq => ?_, fun C j p q hp hq => ?_, fun D2 e1 e2 => ?_⟩
    · have hp' : (pas.map fun x => PV.loc x.1)[j]? = some p := hp
      rw [List.getElem?_map] at hp' hq
      obtain ⟨x, hx, rfl⟩ := Option.map_eq_some_iff.mp hp'
      rw [hx] at hq
      obtain rfl := Option.some.inj hq
      have hxm := List.mem_of_getElem? hx
      obtain ⟨x1, x2, x3⟩ := A.each x hxm
      walk_at "ms"
      refine g_list rfl x1 (by omega) (by omega) rfl ?_
      walk_at "ms"
      refine (are_alike_ok T hg (A.le _ _ hl) fun b hb => ?_).call
      refine ⟨b, rfl, ?_, Le.refl _⟩
      unfold homeOf
      by_cases ha : alike sm x.2.1 i
      · rw [if_pos ha, hb.mpr ha]; rfl
      · rw [if_neg ha]
        cases b with
        | true => exact absurd (hb.mp rfl) ha
        | false => rfl
    · have hp' : (pas.map fun x => PV.loc x.1)[j]? = some p := hp
      rw [List.getElem?_map] at hp' hq
      obtain ⟨x, hx, rfl⟩ := Option.map_eq_some_iff.mp hp'
      rw [hx] at hq
      have hq' := Option.some.inj hq
      unfold homeOf at hq'
      split at hq'
      · cases hq'
        walk_at "ms"
        exact ⟨rfl, Le.refl _⟩
      · cases hq'
    · refine WPs.drop (st2 := st'.set D2 (.list ((pas.map (homeOf fun x => alike sm x i)).filterMap id))) (Le.refl _) ?_
      have eP : D2 ≠ P := by rintro rfl; rw [A.lst] at e1; cases e1
      have lenF : ((pas.map (homeOf fun x => alike sm x i)).filterMap id).length ≤ 1000 := Nat.le_trans (List.length_filterMap_le _ _) (by rw [List.length_map]; omega)
      walk_at "ms"
      refine c_len_list (PS.set_self _ _ _) (by omega) ?_
      walk_at "ms"
      refine o_gt ⟨_, rfl, ?_⟩
      rcases split_first (fun x : Addr × Int × List Int => alike sm x.2.1 i) pas with hno | ⟨pre, x, post, rfl, q1, q2⟩
      · have ef : (pas.map (homeOf fun x => alike sm x i)).filterMap id = [] := by
          rw [List.filterMap_map, List.filterMap_eq_nil_iff]
          intro x hx
          simp only [Function.comp, homeOf, id]
          rw [if_neg (hno x hx)]
        rw [ef, if_neg (by simp)]
        walk_at "ms"
        refine e_meth F.plainAttrs_list F.slot_list_append F.type_list_append rfl rfl (by decide) rfl ?_
        walk_at "ms"
        refine ⟨P, _, rfl, (PS.set_ne _ _ (Ne.symm eP)).trans A.lst, rfl, rfl, ?_⟩
        walk_at "ms"
        refine ⟨by simp, fun D3 g1 g2 => ?_⟩
        walk_at "ms"
        have eP3 : D3 ≠ P := by rintro rfl; rw [PS.set_ne _ _ (Ne.symm eP), A.lst] at g1; cases g1
        have hD23 : D3 ≠ D2 := by rintro rfl; rw [PS.set_self] at g1; cases g1
        rw [PS.set_ne _ _ hD23] at g1
        have gst : st D3 = none := A.le.none g1
        refine c_append (l := pas.map fun x => .loc x.1) (by rw [PS.set_ne _ _ (Ne.symm eP3), PS.set_ne _ _ (Ne.symm eP)]; exact A.lst) (by rw [List.length_map]; omega) ?_
        walk_at "ms"
        refine ⟨_, Le.refl _, ?_, pas ++ [(D3, (i : Int), [])], A.add g1 (PS.set_self _ _ _) ((PS.set_ne _ _ eP3).trans (PS.set_self _ _ _)) fun b po e hb => ?_, ?_⟩
        · exact ((Sub.refl _).cons rfl).cons rfl
        · have h2 : b ≠ D2 := by rintro rfl; rw [e1] at e; cases e
          have h3 : b ≠ D3 := by rintro rfl; rw [g1] at e; cases e
          rw [PS.set_ne _ _ hb, PS.set_ne _ _ h3, PS.set_ne _ _ h2]; exact e
        · rw [List.map_append]
          exact PI.new fun p hp => by
            obtain ⟨x, hx, rfl⟩ := List.mem_map.mp hp
            exact hno x hx
      · obtain ⟨x1, x2, x3⟩ := A.each x (by simp)
        have ef : ∃ rest, ((pre ++ x :: post).map (homeOf fun x => alike sm x i)).filterMap id = .loc x.1 :: rest := by
          refine ⟨(post.map (homeOf fun x => alike sm x i)).filterMap id, ?_⟩
          rw [List.map_append, List.filterMap_append, List.map_cons]
          have e0 : (pre.map (homeOf fun x => alike sm x i)).filterMap id = [] := by
            rw [List.filterMap_map, List.filterMap_eq_nil_iff]
            intro y hy
            simp only [Function.comp, homeOf, id]
            rw [if_neg (q1 y hy)]
          have e1 : homeOf (fun x => alike sm x i) x = some (.loc x.1) := by unfold homeOf; rw [if_pos q2]
          rw [e0, e1]; simp
        obtain ⟨rest, ef⟩ := ef
        rw [ef] at lenF ⊢
        rw [if_pos (by simp)]
        have eX : x.1 ≠ D2 := by rintro e; rw [← e, x1] at e1; cases e1
        walk_at "ms"
        refine e_meth F.plainAttrs_list F.slot_list_append F.type_list_append rfl rfl (by decide) rfl ?_
        walk_at "ms"
        refine g_list rfl (PS.set_self _ _ _) (by omega) (by omega) rfl ?_
        refine ⟨x.1, _, rfl, (PS.set_ne _ _ eX).trans x1, rfl, rfl, ?_⟩
        walk_at "ms"
        have hxl := PI.lens x.2 (List.mem_map.mpr ⟨x, by simp, rfl⟩)
        refine c_append (l := (x.2.1 :: x.2.2).map .int) ((PS.set_ne _ _ eX).trans x1) (by simp; omega) ?_
        walk_at "ms"
        refine ⟨_, Le.refl _, ?_, pre ++ (x.1, x.2.1, x.2.2 ++ [(i : Int)]) :: post, A.put (by rw [PS.set_self]; simp) fun b po e hb => ?_, ?_⟩
        · exact ((Sub.refl _).cons rfl).cons rfl
        · have h2 : b ≠ D2 := by rintro rfl; rw [e1] at e; cases e
          rw [PS.set_ne _ _ hb, PS.set_ne _ _ h2]; exact e
        · rw [List.map_append, List.map_cons] at PI ⊢
          exact PI.put q2
  · have e0 : (Src.rng 0 (m : Int)).items.length = m := by simp [Src.items]
    rw [e0] at PI
    have hlen := PI.len
    rw [List.length_map] at hlen
    refine WPs.weaken (ρ' := [("parts", .loc P), ("many", .int m), ("some", .loc l)]) ?_ j1
    walk_at "ms"
    refine (e_comp1 (comp_map ?_) rfl rfl (fun _ => rfl))
    refine i_val ?_
    walk_at "ms"
    refine .inr ⟨_, _, rfl, A.lst, A.lst, by simp [Src.items]; omega, pas.map fun x => encRow (x.2.1 :: x.2.2), by simp [Src.items], fun C j p q hp hq => ?_, fun D2 e1 e2 => ?_⟩
    · have hp' : (pas.map fun x => PV.loc x.1)[j]? = some p := hp
      rw [List.getElem?_map] at hp' hq
      obtain ⟨x, hx, rfl⟩ := Option.map_eq_some_iff.mp hp'
      rw [hx] at hq
      obtain rfl := Option.some.inj hq
      have hxm := List.mem_of_getElem? hx
      obtain ⟨x1, x2, x3⟩ := A.each x hxm
      have hxl := PI.lens x.2 (List.mem_map.mpr ⟨x, hxm, rfl⟩)
      walk_at "ms"
      exact c_tuple x1 (by simp; omega) ⟨rfl, Le.refl _⟩
    · refine ⟨st.set D2 (.list (pas.map fun x => encRow (x.2.1 :: x.2.2))), A.le.set2 _ _, ?_⟩
      have := h (pas.map (·.2)) D2 PI (A.le.none e1) e2
      rw [List.map_map] at this
      exact this
end

noncomputable def isT : PV → Bool
  | .tup _ => true
  | _ => false
noncomputable def constHead : List PV → Option PV
  | [.str s, _, x] => if s = "tuples" then some x else none
  | _ => none
noncomputable def headOk : List PV → Bool
  | [.str _, _, _] => true
  | [_, _, _] => false
  | _ => true
mutual
noncomputable def consts : PV → List PV
  | .tup l => match constHead l with
    | some x => [x]
    | none => constsL l
  | _ => []
noncomputable def constsL : List PV → List PV
  | [] => []
  | p :: ps => consts p ++ constsL ps
end
mutual
noncomputable def okN : PV → Bool
  | .tup l => headOk l && ((constHead l).isSome || okNs l)
  | .int _ => true
  | .str _ => true
  | _ => false
noncomputable def okNs : List PV → Bool
  | [] => true
  | p :: ps => okN p && okNs ps
end
mutual
noncomputable def sizeN : PV → Nat
  | .tup l => 1 + sizeNs l
  | _ => 1
noncomputable def sizeNs : List PV → Nat
  | [] => 0
  | p :: ps => sizeN p + sizeNs ps
end
theorem sizeN_pos (p : PV) : 1 ≤ sizeN p := by cases p <;> simp [sizeN]
theorem sizeNs_append : ∀ l m : List PV, sizeNs (l ++ m) = sizeNs l + sizeNs m
  | [], m => by simp [sizeNs]
  | p :: l, m => by simp [sizeNs, sizeNs_append l m]; omega
theorem constsL_append : ∀ l m : List PV, constsL (l ++ m) = constsL l ++ constsL m
  | [], m => by simp [constsL]
  | p :: l, m => by simp [constsL, constsL_append l m]
theorem length_sizeNs : ∀ l : List PV, l.length ≤ sizeNs l
  | [] => Nat.le_refl _
  | p :: l => by have := length_sizeNs l; have := sizeN_pos p; simp [sizeNs]; omega
theorem filter_isT : ∀ l : List PV, (l.map fun p => if isT p = true then some p else none).filterMap id = l.filter isT
  | [] => rfl
  | p :: l => by
    have := filter_isT l
    cases hp : isT p <;> simp [hp, this]
theorem headOk3 {l : List PV} (h3 : l.length = 3) (h : headOk l = true) : ∃ s y z, l = [.str s, y, z] := by
  match l, h3 with
  | [a, b, d], _ =>
    cases a with
    | str s => exact ⟨s, b, d, rfl⟩
    | _ => simp [headOk] at h
theorem constHead_some {l : List PV} {X : PV} (hc : constHead l = some X) : ∃ y, l = [.str "tuples", y, X] := by
  unfold constHead at hc
  split at hc
  · rename_i s y z
    by_cases hs : s = "tuples"
    · rw [if_pos hs] at hc; subst hs; cases hc; exact ⟨_, rfl⟩
    · rw [if_neg hs] at hc; cases hc
  · cases hc
theorem sizeNs_filter : ∀ l : List PV, sizeNs (l.filter isT) ≤ sizeNs l
  | [] => Nat.le_refl _
  | p :: l => by
    have := sizeNs_filter l
    rw [List.filter_cons]
    split <;> simp only [sizeNs] <;> omega
theorem constsL_filter : ∀ l : List PV, constsL (l.filter isT) = constsL l
  | [] => rfl
  | p :: l => by
    have := constsL_filter l
    rw [List.filter_cons]
    cases p <;> simp [isT, constsL, consts, this]
theorem okNs_mem : ∀ {l : List PV}, okNs l = true → ∀ p ∈ l, okN p = true
  | [], _, p, h => nomatch h
  | q :: l, h, p, hp => by
    simp only [okNs, Bool.and_eq_true] at h
    rcases List.mem_cons.mp hp with rfl | hp
    · exact h.1
    · exact okNs_mem h.2 p hp
mutual
theorem consts_size : ∀ p : PV, (consts p).length ≤ sizeN p
  | .tup l => by
    unfold consts sizeN
    split
    · simp
    · have := constsL_size l; omega
  | .none => by simp [consts]
  | .bool _ => by simp [consts]
  | .int _ => by simp [consts]
  | .str _ => by simp [consts]
  | .loc _ => by simp [consts]
theorem constsL_size : ∀ l : List PV, (constsL l).length ≤ sizeNs l
  | [] => by simp [constsL]
  | p :: ps => by
    have := consts_size p
    have := constsL_size ps
    simp [constsL, sizeNs]; omega
end
theorem perm_map_inv {α β : Type} {f : α → β} {l : List β} {m : List α} (h : l.Perm (m.map f)) : ∃ l' : List α, l = l'.map f ∧ l'.Perm m := by
  generalize hm : m.map f = k at h
  induction h generalizing m with
  | nil => rw [List.map_eq_nil_iff] at hm; subst hm; exact ⟨[], rfl, .nil⟩
  | cons x p ih =>
    cases m with
    | nil => cases hm
    | cons a m =>
      simp only [List.map_cons, List.cons.injEq] at hm
      obtain ⟨rfl, hm⟩ := hm
      obtain ⟨l', rfl, q⟩ := ih hm
      exact ⟨a :: l', rfl, q.cons a⟩
  | swap x y l =>
    cases m with
    | nil => cases hm
    | cons a m =>
      cases m with
      | nil => simp at hm
      | cons b m =>
        simp only [List.map_cons, List.cons.injEq] at hm
        obtain ⟨rfl, rfl, rfl⟩ := hm
        exact ⟨b :: a :: m, rfl, .swap a b m⟩
  | trans p q ih1 ih2 =>
    obtain ⟨l2, e2, q2⟩ := ih2 hm
    obtain ⟨l1, e1, q1⟩ := ih1 e2.symm
    exact ⟨l1, e1, q1.trans q2⟩
section
variable {c : Cx} {n : Nat} {st : PS} {Q : PV → PS → Prop}
set_option maxHeartbeats 8000000 in
theorem constants_ok (T : Tops c top) {node : PV} (ht : isT node = true) (ho : okN node = true) (hz : sizeN node ≤ 1000)
    (h : ∀ fs D, fs.Perm (consts node) → st D = none → c.B.get? D = none → Q (.loc D) (st.set D (.list fs))) : WPk c (n + 6) 43 [node] st Q := by
  refine WPk.sub ?_
  refine fnk T (o := _) (fd := _) (xs := ["formula"]) rfl rfl rfl rfl rfl rfl rfl rfl (by walk_at "bind") rfl (by decide) rfl fun L ql cd => ?_
  walk_at "m"
  refine x_pair_swapped ?_ rfl rfl rfl rfl
  walk_at "ms"
  refine ⟨by simp, fun A a1 a2 => ?_⟩
  walk_at "ms"
  refine ⟨by simp, fun W w1 w2 => ?_⟩
  walk_at "ms"
  have hAW : A ≠ W := by rintro rfl; rw [PS.set_self] at w1; cases w1
  have wst : st W = none := by rw [← w1]; exact (PS.set_ne _ _ (Ne.symm hAW)).symm
  refine ⟨by simp, _, _, rfl, ?_⟩
  walk_at "m"
  refine x_while (fun k ρ' st' => Sub [("found", .loc A), ("waiting", .loc W)] ρ' ∧ Le st st' ∧ ∃ fs ws, st' A = some (.list fs) ∧ st' W = some (.list ws) ∧ (∀ p ∈ ws, isT p = true ∧ okN p = true) ∧ (fs ++ constsL ws).Perm (consts node) ∧ sizeNs ws = k ∧ k ≤ 1000) (sizeN node) ⟨?_, ?_, [], [node], ?_, PS.set_self _ _ _, ?_, ?_, ?_, hz⟩ fun k ρ' st' ⟨j1, j2, fs, ws, j3, j4, j5, j6, j7, j8⟩ => ?_
  · exact fun x p e => by
      by_cases h1 : x = "found"
      · subst h1; exact e
      · have hb : (x == ("found" : Str)) = false := beq_eq_false_iff_ne.mpr h1
        by_cases h2 : x = "waiting"
        · subst h2; exact e
        · have hb2 : (x == ("waiting" : Str)) = false := beq_eq_false_iff_ne.mpr h2
          simp [List.lookup_cons, hb, hb2] at e
  · exact (Le.set a1).trans (Le.set w1)
  · exact (PS.set_ne _ _ hAW).trans (PS.set_self _ _ _)
  · intro p hp; obtain rfl := List.mem_singleton.mp hp; exact ⟨ht, ho⟩
  · simp [constsL]
  · simp [sizeNs]
  · have lw : ws.length ≤ 1000 := by have := length_sizeNs ws; omega
    have lf : fs.length ≤ 1000 := by
      have h1 := j6.length_eq
      have h2 := consts_size node
      rw [List.length_append] at h1
      exact Nat.le_trans (Nat.le_trans (Nat.le_add_right _ _) (Nat.le_of_eq h1)) (Nat.le_trans h2 hz)
    refine WPb.weaken (ρ' := [("found", .loc A), ("waiting", .loc W)]) ?_ j1
    walk_at "ms"
    refine c_len_list j4 (by omega) ?_
    walk_at "ms"
    refine o_gt ⟨_, rfl, ?_⟩
    rcases List.eq_nil_or_concat ws with rfl | ⟨ws', p, rfl⟩
    · rw [if_neg (by simp)]
      refine WPs.weaken (ρ' := [("found", .loc A), ("waiting", .loc W)]) ?_ j1
      walk_at "ms"
      refine ⟨st.set A (.list fs), fun b po e => ?_, h fs A (by simpa [constsL] using j6) a1 a2⟩
      by_cases hb : b = A
      · subst hb; rw [PS.set_self] at e; rw [j3]; exact e
      · rw [PS.set_ne _ _ hb] at e; exact j2 _ _ e
    · simp only [List.concat_eq_append] at *
      rw [if_pos (by first | (simp; done) | (simp; omega))]
      have hp := j5 p (by simp)
      obtain ⟨l, rfl⟩ : ∃ l, p = .tup l := by
        cases p with
        | tup l => exact ⟨l, rfl⟩
        | _ => cases hp.1
      have hl : sizeNs l ≤ 1000 := by rw [sizeNs_append] at j7; simp [sizeNs, sizeN] at j7; omega
      have hll := length_sizeNs l
      refine WPs.weaken (ρ' := [("found", .loc A), ("waiting", .loc W)]) ?_ j1
      walk_at "ms"
      refine e_meth F.plainAttrs_list F.slot_list_pop F.type_list_pop rfl rfl (by decide) rfl ?_
      walk_at "ms"
      refine ⟨W, _, rfl, j4, rfl, rfl, ?_⟩
      walk_at "ms"
      simp only [List.length_append, List.length_cons, List.length_nil] at lw
      refine c_pop j4 (by omega) ?_
      have sA : (st'.set W (.list ws')) A = some (.list fs) := (PS.set_ne _ _ hAW).trans j3
      have sW : (st'.set W (.list ws')) W = some (.list ws') := PS.set_self _ _ _
      have sL : Le st (st'.set W (.list ws')) := fun b po e => by rw [PS.set_ne _ _ (by rintro rfl; rw [wst] at e; cases e)]; exact j2 _ _ e
      generalize st'.set W (.list ws') = st3 at sA sW sL ⊢
      have j5' : ∀ q ∈ ws', isT q = true ∧ okN q = true := fun q hq => j5 q (List.mem_append_left _ hq)
      have j7' : sizeNs ws' + (1 + sizeNs l) = k := by rw [sizeNs_append] at j7; simpa [sizeNs, sizeN] using j7
      have j6' : (fs ++ (constsL ws' ++ consts (.tup l))).Perm (consts node) := by rw [constsL_append] at j6; simpa [constsL] using j6
      have hk := hp.2
      unfold okN at hk
      simp only [Bool.and_eq_true] at hk
      walk_at "m"
      walk_at "m"
      refine WPb.mono (Q := fun x st' => st' = st3 ∧ x = (constHead l).isSome) ?_ fun x st4 ⟨e1, e2⟩ => ?_
      · walk_at "ms"
        refine c_len_tup (by omega) ?_
        walk_at "ms"
        refine o_eq ⟨_, rfl, ?_⟩
        by_cases h3 : l.length = 3
        · rw [if_pos (by simp [h3])]
          obtain ⟨s, y, z, rfl⟩ := headOk3 h3 hk.1
          walk_at "ms"
          refine g_tup rfl (by omega) (by omega) rfl ?_
          walk_at "ms"
          refine o_eqs ⟨_, rfl, rfl, ?_⟩
          show (s == ("tuples" : Str)) = (if s = "tuples" then some z else none).isSome
          by_cases hs : s = "tuples"
          · subst hs; rfl
          · rw [if_neg hs]; exact beq_eq_false_iff_ne.mpr hs
        · rw [if_neg (by simp; omega)]
          refine ⟨rfl, ?_⟩
          unfold constHead
          split
          · simp at h3
          · rfl
      · subst e1
        subst e2
        cases hc : constHead l with
        | some X =>
          rw [if_pos (Option.isSome_some (a := X))]
          have hl3 := constHead_some hc
          obtain ⟨y, rfl⟩ := hl3
          walk_at "ms"
          refine e_meth F.plainAttrs_list F.slot_list_append F.type_list_append rfl rfl (by decide) rfl ?_
          walk_at "ms"
          refine ⟨A, _, rfl, sA, rfl, rfl, ?_⟩
          walk_at "ms"
          refine g_tup rfl (by omega) (by omega) rfl ?_
          walk_at "ms"
          refine c_append sA (by omega) ?_
          walk_at "ms"
          refine ⟨sizeNs ws', by omega, (Sub.refl _).cons rfl, fun b po e => ?_, fs ++ [X], ws', PS.set_self _ _ _, (PS.set_ne _ _ (Ne.symm hAW)).trans sW, j5', ?_, rfl, by omega⟩
          · rw [PS.set_ne _ _ (by rintro rfl; rw [a1] at e; cases e)]; exact sL _ _ e
          · have e : consts (.tup [.str "tuples", y, X]) = [X] := by unfold consts; rw [hc]
            rw [e] at j6'
            refine List.Perm.trans ?_ j6'
            rw [List.append_assoc]
            exact List.Perm.append_left _ List.perm_append_comm
        | none =>
          rw [if_neg (by simp)]
          have hoks := okNs_mem (by simpa [hc] using hk.2)
          walk_at "ms"
          refine e_meth F.plainAttrs_list F.slot_list_extend F.type_list_extend rfl rfl (by decide) rfl ?_
          walk_at "ms"
          refine ⟨W, _, rfl, sW, rfl, rfl, ?_⟩
          walk_at "ms"
          refine (e_comp1 (comp_filter ?_) rfl rfl (fun _ => rfl))
          refine i_val ?_
          walk_at "ms"
          refine .inl ⟨_, rfl, trivial, by simp [Src.items]; omega, l.map fun p => if isT p = true then some p else none, by simp [Src.items], fun C j p q hp hq => ?_, fun C j p q hp hq => ?_, fun D2 e1 e2 => ?_⟩
          · have hp' : l[j]? = some p := hp
            rw [List.getElem?_map, hp'] at hq
            obtain rfl := Option.some.inj hq
            have hop := hoks p (List.mem_of_getElem? hp')
            walk_at "ms"
            cases p with
            | tup m => exact ⟨_, .t_t _, _, rfl, rfl, Le.refl _⟩
            | int i => exact ⟨_, .i_t _, _, rfl, rfl, Le.refl _⟩
            | str x => exact ⟨_, .s_t _, _, rfl, rfl, Le.refl _⟩
            | none => simp [okN] at hop
            | bool b => simp [okN] at hop
            | loc a => simp [okN] at hop
          · have hp' : l[j]? = some p := hp
            rw [List.getElem?_map, hp'] at hq
            have hq' : (if isT p = true then some p else none) = some q := Option.some.inj hq
            split at hq'
            · cases hq'
              walk_at "ms"
              exact ⟨rfl, Le.refl _⟩
            · cases hq'
          · rw [filter_isT]
            have f1 : D2 ≠ W := by rintro rfl; rw [sW] at e1; cases e1
            have f2 : D2 ≠ A := by rintro rfl; rw [sA] at e1; cases e1
            have lf2 := sizeNs_filter l
            have lf3 := length_sizeNs (l.filter isT)
            walk_at "ms"
            refine c_extend ((PS.set_ne _ _ (Ne.symm f1)).trans sW) (PS.set_self _ _ _) (by omega) ?_
            walk_at "ms"
            refine ⟨sizeNs (ws' ++ l.filter isT), by rw [sizeNs_append]; omega, (Sub.refl _).cons rfl, fun b po e => ?_, fs, ws' ++ l.filter isT, ?_, PS.set_self _ _ _, fun p hp => ?_, ?_, rfl, by rw [sizeNs_append]; omega⟩
            · have hb : st4 b = some po := sL _ _ e
              rw [PS.set_ne _ _ (by rintro rfl; rw [wst] at e; cases e), PS.set_ne _ _ (by rintro rfl; rw [hb] at e1; cases e1)]; exact hb
            · rw [PS.set_ne _ _ hAW, PS.set_ne _ _ (Ne.symm f2)]; exact sA
            · rcases List.mem_append.mp hp with hp | hp
              · exact j5' p hp
              · obtain ⟨h1, h2⟩ := List.mem_filter.mp hp
                exact ⟨h2, hoks p h1⟩
            · have e : consts (.tup l) = constsL l := by unfold consts; rw [hc]
              rw [constsL_append, constsL_filter, ← e]; exact j6'
end

/-- the feed, at its k-th draw -/
noncomputable def feedAt (C : Addr) (k : Int) : PO := .dictS [("cells", .loc C), ("at", .int k)]
noncomputable def Fd (st : PS) (F C : Addr) (k : Int) : PS := st.set F (feedAt C k)
theorem Fd_self (st : PS) (F C : Addr) (k : Int) : Fd st F C k F = some (feedAt C k) := PS.set_self _ _ _
theorem Fd_ne (st : PS) {F b : Addr} (C : Addr) (k : Int) (h : b ≠ F) : Fd st F C k b = st b := PS.set_ne _ _ h
theorem Fd_set (st : PS) (F C : Addr) (k k' : Int) : (Fd st F C k).set F (feedAt C k') = Fd st F C k' := PS.set_set _ _ _ _
theorem Fd_le {st st' : PS} (F C : Addr) (k : Int) (h : Le st st') : Le (Fd st F C k) (Fd st' F C k) := h.set2 _ _
theorem PS.set_comm (st : PS) {a b : Addr} (o o' : PO) (h : a ≠ b) : (st.set a o).set b o' = (st.set b o').set a o := by
  funext x
  simp only [PS.set]
  by_cases h1 : x = b
  · subst h1; simp [Ne.symm h]
  · simp [h1]
section
variable {c : Cx} {n : Nat} {st : PS} {Q : PV → PS → Prop}
/-- the cells that feed the draws -/
structure Cells (st : PS) (F C : Addr) : Prop where
  ne : C ≠ F
  some : ∃ cells : List Int, cells ≠ [] ∧ cells.length ≤ 1000 ∧ st C = some (.list (cells.map .int))
set_option maxHeartbeats 8000000 in
theorem draw_ok (T : Tops c top) {F C : Addr} {k top : Int} (hc : Cells st F C) (hk : 0 ≤ k) (ht : 0 < top)
    (h : ∀ r : Int, 0 ≤ r → r < top → Q (.int r) (Fd st F C (k + 1))) : WPk c (n + 3) 243 [.loc F, .int top] (Fd st F C k) Q := by
  obtain ⟨hne, cells, hcn, hcl, hC⟩ := hc
  refine fnk T (o := _) (fd := _) (xs := ["feed", "top"]) rfl rfl rfl rfl rfl rfl rfl rfl (by walk_at "bind") rfl (by decide) rfl fun L ql cd => ?_
  have hlen : 0 < cells.length := by cases cells with | nil => exact absurd rfl hcn | cons _ _ => simp
  walk_at "m"
  refine x_pair_swapped ?_ rfl rfl rfl rfl
  walk_at "ms"
  refine g_dictS rfl (Fd_self _ _ _ _) rfl ?_
  walk_at "ms"
  refine g_dictS rfl (Fd_self _ _ _ _) rfl ?_
  walk_at "ms"
  refine ⟨by simp, _, _, rfl, ?_⟩
  walk_at "m"
  refine x_setitem ?_ rfl
  walk_at "ms"
  refine o_add ?_
  walk_at "ms"
  refine set_dictS (Fd_self _ _ _ _) (by simp) ?_
  have e : (Fd st F C k).set F (.dictS (putK [(("cells" : Str), PV.loc C), ("at", .int k)] "at" (.int (k + 1)))) = Fd st F C (k + 1) := Fd_set _ _ _ _ _
  rw [e]
  have hC' : Fd st F C (k + 1) C = some (.list (cells.map .int)) := (Fd_ne _ _ _ hne).trans hC
  have hm0 : 0 ≤ k.fmod (cells.length : Int) := Int.fmod_nonneg hk (by omega)
  have hm1 : k.fmod (cells.length : Int) < cells.length := Int.fmod_lt_of_pos _ (by omega)
  obtain ⟨x, hx⟩ : ∃ x, cells[(k.fmod (cells.length : Int)).toNat]? = some x := ⟨_, List.getElem?_eq_getElem (by omega)⟩
  walk_at "ms"
  refine c_len_list hC' (by simp; omega) ?_
  refine o_mod (by simp; omega) ?_
  refine g_list (p := .int x) rfl hC' (by simpa using hm0) (by simp; omega) (by rw [List.getElem?_map, List.length_map, hx]; rfl) ?_
  walk_at "ms"
  refine c_len_list hC' (by simp; omega) ?_
  refine o_div (by simp; omega) (by simp; omega) ?_
  refine o_mul (by decide) ?_
  refine o_add ?_
  walk_at "ms"
  refine o_mod (by omega) ?_
  exact h _ (Int.fmod_nonneg_of_pos _ ht) (Int.fmod_lt_of_pos _ ht)
end

noncomputable def rowsOf (n : Nat) (ar : Int) : List (List Int) := if ar = 1 then (List.range n).map fun (a : Nat) => [(a : Int)] else (List.range n).flatMap fun (a : Nat) => (List.range n).map fun (b : Nat) => [(a : Int), (b : Int)]
theorem rows1 {n : Nat} {r : List Int} (h : r ∈ rowsOf n 1) : ∃ a : Int, r = [a] ∧ 0 ≤ a ∧ a < n := by
  simp only [rowsOf, if_true] at h
  obtain ⟨a, ha, rfl⟩ := List.mem_map.mp h
  have := List.mem_range.mp ha
  exact ⟨a, rfl, by omega, by omega⟩
theorem rows2 {n : Nat} {ar : Int} (har : ar ≠ 1) {r : List Int} (h : r ∈ rowsOf n ar) : ∃ a b : Int, r = [a, b] ∧ 0 ≤ a ∧ a < n ∧ 0 ≤ b ∧ b < n := by
  simp only [rowsOf, har, if_false] at h
  obtain ⟨a, ha, h⟩ := List.mem_flatMap.mp h
  obtain ⟨b, hb, rfl⟩ := List.mem_map.mp h
  have := List.mem_range.mp ha
  have := List.mem_range.mp hb
  exact ⟨a, b, rfl, by omega, by omega, by omega, by omega⟩
theorem rows_good : ∀ (n : Nat), n ≤ 4 → ∀ ar : Int, (rowsOf n ar).Pairwise (fun a b => ltR a b = true) ∧ (rowsOf n ar).length ≤ 16 := by
  intro n hn ar
  by_cases h : ar = 1
  · subst h
    match n, hn with
    | 0, _ => decide
    | 1, _ => decide
    | 2, _ => decide
    | 3, _ => decide
    | 4, _ => decide
    | n + 5, h => omega
  · have e : rowsOf n ar = rowsOf n 2 := by simp [rowsOf, h]
    rw [e]
    match n, hn with
    | 0, _ => decide
    | 1, _ => decide
    | 2, _ => decide
    | 3, _ => decide
    | 4, _ => decide
    | n + 5, h => omega
theorem good_of {n : Nat} (hn : n ≤ 4) {ar : Int} {S : List (List Int)} (h : S.Sublist (rowsOf n ar)) : GoodS S where
  len := by have := h.length_le; have := (rows_good n hn ar).2; omega
  row r hr := by
    have hr' := h.subset hr
    by_cases e : ar = 1
    · subst e; obtain ⟨a, rfl, _⟩ := rows1 hr'; simp
    · obtain ⟨a, b, rfl, _⟩ := rows2 e hr'; simp
  asc := ((rows_good n hn ar).1.sublist h).imp fun {a b} hab => by
    cases hba : ltR b a with
    | false => rfl
    | true =>
      have := (ordd_lex ordd_int).trans _ _ _ hab hba
      rw [(ordd_lex ordd_int).irrefl] at this; cases this
theorem filt (p : List Int → Bool) : ∀ rows : List (List Int), (rows.map fun r => if p r = true then some (encRow r) else none).filterMap id = (rows.filter p).map encRow
  | [] => rfl
  | r :: rows => by
    have := filt p rows
    cases hp : p r <;> simp [hp, this]
section
variable {c : Cx} {n : Nat} {st : PS} {Q : PV → PS → Prop}
set_option maxHeartbeats 8000000 in
theorem rows_ok (T : Tops c top) {m : Nat} {ar : Int} (hm : m ≤ 4) (h : ∀ D, st D = none → c.B.get? D = none → Q (.loc D) (st.set D (.list ((rowsOf m ar).map encRow)))) : WPk c (n + 3) 248 [.int m, .int ar] st Q := by
  refine fnk T (o := _) (fd := _) (xs := ["n", "arity"]) rfl rfl rfl rfl rfl rfl rfl rfl (by walk_at "bind") rfl (by decide) rfl fun L ql cd => ?_
  walk_at "ms"
  refine o_eq ⟨_, rfl, ?_⟩
  by_cases har : ar = 1
  · subst har
    rw [if_pos (by simp)]
    refine e_comp1 (comp_map ?_) rfl rfl (fun _ => rfl)
    walk_at "ms"
    refine ⟨_, rfl, by omega, trivial, by simp [Src.items]; omega, (rowsOf m 1).map encRow, by simp [Src.items, rowsOf], fun C i p q hp hq => ?_, fun D d1 d2 => h D d1 d2⟩
    have hi : i < m := by
      have := (List.getElem?_eq_some_iff.mp hp).1
      simpa [Src.items] using this
    have hpe : p = .int i := by
      simp only [Src.items, List.getElem?_map] at hp
      rw [List.getElem?_range (by simpa using hi)] at hp
      simpa using hp.symm
    subst hpe
    have hqe : q = encRow [(i : Int)] := by
      simp only [rowsOf, if_true, List.getElem?_map] at hq
      rw [List.getElem?_range hi] at hq
      simpa using hq.symm
    subst hqe
    walk_at "ms"
    exact ⟨by simp, rfl, Le.refl _⟩
  · rw [if_neg (by simpa using har)]
    have sub1 : ∀ i a : Nat, i < m → (((List.range m).take (i + 1)).flatMap fun (a : Nat) => (List.range m).map fun (b : Nat) => [(a : Int), (b : Int)]) = (((List.range m).take i).flatMap fun (a : Nat) => (List.range m).map fun (b : Nat) => [(a : Int), (b : Int)]) ++ (List.range m).map fun (b : Nat) => [(i : Int), (b : Int)] := fun i a hi => by
      rw [List.take_add_one, List.getElem?_range hi]
      simp [List.flatMap_append]
    refine e_comp2 ?_ rfl rfl rfl rfl (fun _ => rfl) (fun _ _ => rfl)
    unfold Comp2
    walk_at "ms"
    refine ⟨_, rfl, by omega, fun i acc st' => st' = st ∧ acc = (((List.range m).take i).flatMap fun (a : Nat) => (List.range m).map fun (b : Nat) => [(a : Int), (b : Int)]).map encRow, ⟨rfl, by simp⟩, fun _ _ _ _ => trivial, fun C i p acc st' hp ⟨e1, e2⟩ => ?_, fun acc st' ⟨e1, e2⟩ D d1 d2 => ?_⟩
    · subst e1
      have hi : i < m := by
        have := (List.getElem?_eq_some_iff.mp hp).1
        simpa [Src.items] using this
      have hpe : p = .int i := by
        simp only [Src.items, List.getElem?_map] at hp
        rw [List.getElem?_range (by simpa using hi)] at hp
        simpa using hp.symm
      subst hpe
      walk_at "ms"
      refine ⟨_, rfl, by omega, fun j a st3 => st3 = st' ∧ a = acc ++ (((List.range m).take j).map fun (b : Nat) => encRow [(i : Int), (b : Int)]), ⟨rfl, by simp⟩, fun j a st3 ⟨g1, g2⟩ => ⟨trivial, ?_⟩, fun j q a st3 hq ⟨g1, g2⟩ => ?_, fun a st3 ⟨g1, g2⟩ => ?_⟩
      · have l1 : acc.length ≤ 100 := by
          rw [e2, List.length_map]
          match m, hm with
          | 0, _ => simp
          | 1, _ => match i, hi with
            | 0, _ => decide
          | 2, _ => match i, hi with
            | 0, _ => decide
            | 1, _ => decide
          | 3, _ => match i, hi with
            | 0, _ => decide
            | 1, _ => decide
            | 2, _ => decide
          | 4, _ => match i, hi with
            | 0, _ => decide
            | 1, _ => decide
            | 2, _ => decide
            | 3, _ => decide
          | n + 5, h => omega
        rw [g2, List.length_append, List.length_map, List.length_take, List.length_range]; omega
      · subst g1
        have hj : j < m := by
          have := (List.getElem?_eq_some_iff.mp hq).1
          simpa [Src.items] using this
        have hqe : q = .int j := by
          simp only [Src.items, List.getElem?_map] at hq
          rw [List.getElem?_range (by simpa using hj)] at hq
          simpa using hq.symm
        subst hqe
        walk_at "ms"
        refine ⟨by simp, rfl, ?_⟩
        rw [g2, List.take_add_one, List.getElem?_range hj]
        simp [encRow]
      · subst g1
        refine ⟨rfl, ?_⟩
        have e0 : (Src.rng 0 (m : Int)).items.length = m := by simp [Src.items]
        rw [e0, List.take_of_length_le (by simp)] at g2
        rw [g2, e2, sub1 i 0 hi, List.map_append, List.map_map]; rfl
    · subst e1
      have e0 : (Src.rng 0 (m : Int)).items.length = m := by simp [Src.items]
      rw [e0, List.take_of_length_le (by simp)] at e2
      rw [e2]
      have := h D d1 d2
      simpa [rowsOf, har] using this
end

section
variable {c : Cx} {n : Nat} {st : PS} {Q : PV → PS → Prop}
theorem Cells.set {F C R : Addr} {po : PO} (hc : Cells st F C) (h : st R = none) : Cells (st.set R po) F C := by
  obtain ⟨h1, cells, h2, h3, h4⟩ := hc
  exact ⟨h1, cells, h2, h3, (PS.set_ne _ _ (by rintro rfl; rw [h4] at h; cases h)).trans h4⟩
theorem Fd_none {F C R : Addr} {k : Int} (h : Fd st F C k R = none) : R ≠ F ∧ st R = none := by
  have : R ≠ F := by rintro rfl; rw [Fd_self] at h; cases h
  exact ⟨this, by rw [Fd_ne _ _ _ this] at h; exact h⟩
theorem Fd_comm (st : PS) {F R : Addr} (C : Addr) (k : Int) (po : PO) (h : R ≠ F) : (Fd st F C k).set R po = Fd (st.set R po) F C k := PS.set_comm _ _ _ (Ne.symm h)
set_option maxHeartbeats 16000000 in
theorem set_ok (T : Tops c top) {F C : Addr} {k : Int} {m : Nat} {ar : Int} (hm : m ≤ 4) (hm1 : 1 ≤ m) (har : ar = 1 ∨ ar = 2) (hc : Cells st F C) (hk : 0 ≤ k)
    (h : ∀ S k', 0 ≤ k' → S.Sublist (rowsOf m ar) → Q (encSet S) (Fd st F C k')) : WPk c (n + 6) 253 [.loc F, .int m, .int ar] (Fd st F C k) Q := by
  refine WPk.sub ?_
  refine fnk T (o := _) (fd := _) (xs := ["feed", "n", "arity"]) rfl rfl rfl rfl rfl rfl rfl rfl (by walk_at "bind") rfl (by decide) rfl fun L ql cd => ?_
  have hlen := (rows_good m hm ar).2
  have hpos : 0 < (rowsOf m ar).length := by
    rcases har with rfl | rfl
    · simp [rowsOf]; omega
    · match m, hm, hm1 with
      | 1, _, _ => decide
      | 2, _, _ => decide
      | 3, _, _ => decide
      | 4, _, _ => decide
      | n + 5, h, _ => omega
  have hrow : ∀ r ∈ rowsOf m ar, ∃ (x : Int) (t : List Int), r = x :: t ∧ (ar = 2 → ∃ y, t = [y]) := fun r hr => by
    rcases har with rfl | rfl
    · obtain ⟨a, rfl, _⟩ := rows1 hr; exact ⟨a, [], rfl, fun h => by simp at h⟩
    · obtain ⟨a, b, rfl, _⟩ := rows2 (by decide) hr; exact ⟨a, [b], rfl, fun _ => ⟨b, rfl⟩⟩
  walk_at "m"
  refine x_pair_swapped ?_ rfl rfl rfl rfl
  walk_at "ms"
  refine (rows_ok T hm fun R r1 r2 => ?_).call
  obtain ⟨hRF, hR⟩ := Fd_none r1
  rw [Fd_comm _ _ _ _ hRF]
  have hst1 : (st.set R (.list ((rowsOf m ar).map encRow))) R = some (.list ((rowsOf m ar).map encRow)) := PS.set_self _ _ _
  have hle : Le st (st.set R (.list ((rowsOf m ar).map encRow))) := Le.set hR
  have hc1 : Cells (st.set R (.list ((rowsOf m ar).map encRow))) F C := hc.set hR
  generalize st.set R (.list ((rowsOf m ar).map encRow)) = st1 at hst1 hle hc1 ⊢
  have hR1 : ∀ k', Fd st1 F C k' R = some (.list ((rowsOf m ar).map encRow)) := fun k' => (Fd_ne _ _ _ hRF).trans hst1
  walk_at "ms"
  refine (draw_ok T hc1 hk (by omega) fun way w0 w1 => ?_).call
  walk_at "ms"
  refine ⟨by simp, _, _, rfl, ?_⟩
  have fin : ∀ S k', 0 ≤ k' → S.Sublist (rowsOf m ar) → ∃ st2, Le st2 (Fd st1 F C k') ∧ Q (encSet S) st2 := fun S k' h1 h2 => ⟨_, Fd_le F C k' hle, h S k' h1 h2⟩
  have fin2 : ∀ S k' D po, Fd st1 F C k' D = none → 0 ≤ k' → S.Sublist (rowsOf m ar) → ∃ st2, Le st2 ((Fd st1 F C k').set D po) ∧ Q (encSet S) st2 := fun S k' D po h0 h1 h2 => ⟨_, (Fd_le F C k' hle).trans (Le.set h0), h S k' h1 h2⟩
  walk_at "ms"
  refine o_eq ⟨_, rfl, ?_⟩
  by_cases e0 : way = 0
  · rw [if_pos (by simp [e0])]
    walk_at "ms"
    exact c_tuple (hR1 _) (by simp; omega) (fin _ _ (by omega) (List.Sublist.refl _))
  rw [if_neg (by simpa using e0)]
  walk_at "ms"
  refine o_eq ⟨_, rfl, ?_⟩
  by_cases e1 : way = 1
  · rw [if_pos (by simp [e1])]
    walk_at "ms"
    exact ⟨by simp, fin [] _ (by omega) (List.nil_sublist _)⟩
  rw [if_neg (by simpa using e1)]
  walk_at "ms"
  refine o_eq ⟨_, rfl, ?_⟩
  by_cases e2 : way = 2
  · rw [if_pos (by simp [e2])]
    walk_at "ms"
    refine c_len_list (hR1 _) (by simp; omega) ?_
    walk_at "ms"
    refine (draw_ok T hc1 (by omega) (by simp; omega) fun i i0 i1 => ?_).call
    rw [List.length_map] at i1
    obtain ⟨r, hr⟩ : ∃ r, (rowsOf m ar)[i.toNat]? = some r := ⟨_, List.getElem?_eq_getElem (by omega)⟩
    refine g_list (p := encRow r) rfl (hR1 _) i0 (by omega) (by rw [List.getElem?_map, hr]; rfl) ?_
    walk_at "ms"
    exact ⟨by simp, fin [r] _ (by omega) (List.singleton_sublist.mpr (List.mem_of_getElem? hr))⟩
  rw [if_neg (by simpa using e2)]
  walk_at "ms"
  refine o_eq ⟨_, rfl, ?_⟩
  by_cases e3 : way = 3
  · rw [if_pos (by simp [e3])]
    walk_at "ms"
    refine e_comp1 ?_ rfl rfl (fun _ => rfl)
    unfold Comp1
    refine i_val ?_
    walk_at "ms"
    refine .inr ⟨_, _, rfl, hR1 _, fun i acc st' => ∃ k', 0 ≤ k' ∧ st' = Fd st1 F C k' ∧ ∃ S, acc = S.map encRow ∧ S.Sublist ((rowsOf m ar).take i), ⟨_, by omega, rfl, [], rfl, List.nil_sublist _⟩, fun i acc st' ⟨k', j1, j2, S, j3, j4⟩ => ⟨by rw [j2]; exact hR1 _, by have := j4.length_le; rw [List.length_take] at this; rw [j3, List.length_map]; omega⟩, fun C2 i p acc st' hp ⟨k', j1, j2, S, j3, j4⟩ => ?_, fun acc st' ⟨k', j1, j2, S, j3, j4⟩ D d1 d2 => ?_⟩
    · subst j2
      have hp' : ((rowsOf m ar).map encRow)[i]? = some p := hp
      rw [List.getElem?_map] at hp'
      obtain ⟨r, hr, rfl⟩ := Option.map_eq_some_iff.mp hp'
      show WPb _ _ _ _ _ _ _
      walk_at "ms"
      refine (draw_ok T hc1 j1 (by omega) fun x x0 x1 => ?_).call
      walk_at "ms"
      refine o_eq ⟨_, rfl, ?_⟩
      by_cases hx : x = 0
      · rw [if_pos (by simp [hx])]
        walk_at "ms"
        refine ⟨_, by omega, rfl, S ++ [r], by rw [j3]; simp, ?_⟩
        rw [List.take_add_one, hr]
        exact j4.append (List.Sublist.refl _)
      · rw [if_neg (by simpa using hx)]
        refine ⟨_, by omega, rfl, S, j3, ?_⟩
        rw [List.take_add_one, hr]
        exact j4.trans (List.sublist_append_left _ _)
    · subst j2
      subst j3
      have e0 : (Src.lst R ((rowsOf m ar).map encRow)).items.length = (rowsOf m ar).length := by simp [Src.items]
      rw [e0, List.take_length] at j4
      walk_at "ms"
      exact c_tuple (PS.set_self _ _ _) (by have := j4.length_le; rw [List.length_map]; omega) (fin2 S k' D _ d1 j1 j4)
  rw [if_neg (by simpa using e3)]
  walk_at "ms"
  refine o_eq ⟨_, rfl, ?_⟩
  have flt : ∀ (p : List Int → Bool) k' D, 0 ≤ k' → Fd st1 F C k' D = none → WPc c (n + 5) (.type "tuple") [.loc D] ((Fd st1 F C k').set D (.list (((rowsOf m ar).map fun r => if p r = true then some (encRow r) else none).filterMap id))) fun v st' => ∃ st2, Le st2 st' ∧ Q v st2 := fun p k' D h1 h2 => by
    rw [filt]
    exact c_tuple (PS.set_self _ _ _) (by have := List.length_filter_le p (rowsOf m ar); rw [List.length_map]; omega) (fin2 _ k' D _ h2 h1 List.filter_sublist)
  by_cases e4 : way = 4
  · rw [if_pos (by simp [e4])]
    walk_at "ms"
    refine e_comp1 (comp_filter ?_) rfl rfl (fun _ => rfl)
    refine i_val ?_
    walk_at "ms"
    refine .inr ⟨_, _, rfl, hR1 _, hR1 _, by simp [Src.items]; omega, (rowsOf m ar).map fun r => if (decide (ar = 2) && ((r.getD 0 0 == r.getD 1 0) == decide ((m : Int) < 4))) = true then some (encRow r) else none, by simp [Src.items], fun C2 i p q hp hq => ?_, fun C2 i p q hp hq => ?_, fun D d1 d2 => ?_⟩
    · have hp' : ((rowsOf m ar).map encRow)[i]? = some p := hp
      rw [List.getElem?_map] at hp' hq
      obtain ⟨r, hr, rfl⟩ := Option.map_eq_some_iff.mp hp'
      rw [hr] at hq
      have hq' : (if (decide (ar = 2) && ((r.getD 0 0 == r.getD 1 0) == decide ((m : Int) < 4))) = true then some (encRow r) else none) = q := Option.some.inj hq
      subst hq'
      obtain ⟨x, t, rfl, ht⟩ := hrow r (List.mem_of_getElem? hr)
      walk_at "ms"
      refine o_eq ⟨_, rfl, ?_⟩
      by_cases ha : ar = 2
      · rw [if_pos (by simp [ha])]
        obtain ⟨y, rfl⟩ := ht ha
        walk_at "ms"
        refine g_tup (p := .int x) rfl (by omega) (by omega) rfl ?_
        walk_at "ms"
        refine g_tup (p := .int y) rfl (by omega) (by omega) rfl ?_
        refine o_eq ?_
        walk_at "ms"
        refine o_lt ?_
        refine o_eqb ⟨_, rfl, ?_, Le.refl _⟩
        simp only [ha, decide_true, Bool.true_and, List.getD_cons_zero, List.getD_cons_succ]
        cases ((x == y) == decide ((m : Int) < 4)) <;> rfl
      · rw [if_neg (by simpa using ha)]
        exact ⟨by simp [ha], Le.refl _⟩
    · have hp' : ((rowsOf m ar).map encRow)[i]? = some p := hp
      rw [List.getElem?_map] at hp' hq
      obtain ⟨r, hr, rfl⟩ := Option.map_eq_some_iff.mp hp'
      rw [hr] at hq
      have hq' : (if (decide (ar = 2) && ((r.getD 0 0 == r.getD 1 0) == decide ((m : Int) < 4))) = true then some (encRow r) else none) = some q := Option.some.inj hq
      split at hq'
      · cases hq'
        walk_at "ms"
        exact ⟨rfl, Le.refl _⟩
      · cases hq'
    · walk_at "ms"
      exact flt (fun r => decide (ar = 2) && ((r.getD 0 0 == r.getD 1 0) == decide ((m : Int) < 4))) _ D (by omega) d1
  rw [if_neg (by simpa using e4)]
  walk_at "ms"
  refine o_add ?_
  walk_at "ms"
  refine (draw_ok T hc1 (by omega) (by omega) fun below b0 b1 => ?_).call
  walk_at "ms"
  refine e_comp1 (comp_filter ?_) rfl rfl (fun _ => rfl)
  refine i_val ?_
  walk_at "ms"
  refine .inr ⟨_, _, rfl, hR1 _, hR1 _, by simp [Src.items]; omega, (rowsOf m ar).map fun r => if decide (r.getD 0 0 < below) = true then some (encRow r) else none, by simp [Src.items], fun C2 i p q hp hq => ?_, fun C2 i p q hp hq => ?_, fun D d1 d2 => ?_⟩
  · have hp' : ((rowsOf m ar).map encRow)[i]? = some p := hp
    rw [List.getElem?_map] at hp' hq
    obtain ⟨r, hr, rfl⟩ := Option.map_eq_some_iff.mp hp'
    rw [hr] at hq
    have hq' : (if decide (r.getD 0 0 < below) = true then some (encRow r) else none) = q := Option.some.inj hq
    subst hq'
    obtain ⟨x, t, rfl, ht⟩ := hrow r (List.mem_of_getElem? hr)
    walk_at "ms"
    refine g_tup (p := .int x) rfl (by omega) (by omega) rfl ?_
    walk_at "ms"
    refine o_lt ⟨_, rfl, ?_, Le.refl _⟩
    simp only [List.getD_cons_zero]
    cases decide (x < below) <;> rfl
  · have hp' : ((rowsOf m ar).map encRow)[i]? = some p := hp
    rw [List.getElem?_map] at hp' hq
    obtain ⟨r, hr, rfl⟩ := Option.map_eq_some_iff.mp hp'
    rw [hr] at hq
    have hq' : (if decide (r.getD 0 0 < below) = true then some (encRow r) else none) = some q := Option.some.inj hq
    split at hq'
    · cases hq'
      walk_at "ms"
      exact ⟨rfl, Le.refl _⟩
    · cases hq'
  · walk_at "ms"
    exact flt (fun r => decide (r.getD 0 0 < below)) _ D (by omega) d1
end

section
variable {c : Cx} {n : Nat} {st : PS} {Q : PV → PS → Prop}
noncomputable def leafOf (ar : Int) (S : List (List Int)) : PV := .tup [.str "tuples", .int ar, encSet S]
set_option maxHeartbeats 8000000 in
theorem constant_ok (T : Tops c top) {F C A : Addr} {k : Int} {m : Nat} {ar : Int} {ks : List (List (List Int))} (hm : m ≤ 4) (hm1 : 1 ≤ m) (har : ar = 1 ∨ ar = 2) (hc : Cells st F C) (hk : 0 ≤ k)
    (hAF : A ≠ F) (hA : st A = some (.list (ks.map encSet))) (hz : ks.length ≤ 1000)
    (h : ∀ S k', 0 ≤ k' → S.Sublist (rowsOf m ar) → Q (leafOf ar S) (Fd (st.set A (.list ((ks ++ [S]).map encSet))) F C k')) : WPk c (n + 8) 260 [.loc F, .int m, .int ar, .loc A] (Fd st F C k) Q := by
  refine fnk T (o := _) (fd := _) (xs := ["feed", "n", "arity", "kept"]) rfl rfl rfl rfl rfl rfl rfl rfl (by walk_at "bind") rfl (by decide) rfl fun L ql cd => ?_
  have hA1 : ∀ k', Fd st F C k' A = some (.list (ks.map encSet)) := fun k' => (Fd_ne _ _ _ hAF).trans hA
  walk_at "ms"
  refine e_meth PySem.F.plainAttrs_list PySem.F.slot_list_append PySem.F.type_list_append rfl rfl (by decide) rfl ?_
  walk_at "ms"
  refine ⟨A, _, rfl, hA1 _, rfl, rfl, ?_⟩
  walk_at "ms"
  refine (set_ok T hm hm1 har hc hk fun S k' h1 h2 => ?_).call
  walk_at "ms"
  refine c_append (hA1 _) (by simp; omega) ?_
  rw [Fd_comm _ _ _ _ hAF]
  walk_at "ms"
  refine e_neg ?_
  walk_at "ms"
  refine ⟨1, rfl, ?_⟩
  refine g_list_last (l := ks.map encSet) (p := encSet S) rfl ((Fd_ne _ _ _ hAF).trans (PS.set_self _ _ _)) (by simp; omega) ?_
  walk_at "ms"
  refine ⟨by simp, ?_⟩
  have := h S k' h1 h2
  rw [List.map_append] at this
  exact this
noncomputable def nodeB : Nat → Nat
  | 0 => 70
  | d + 1 => 2 * nodeB d + 90
/-- what a drawn formula is -/
structure NodeR (m d : Nat) (p : PV) (new : List (List (List Int))) : Prop where
  t : isT p = true
  ok : okN p = true
  sz : sizeN p ≤ nodeB d
  eq : consts p = new.map encSet
  sub : ∀ S ∈ new, ∃ ar, S.Sublist (rowsOf m ar)
  len : new.length ≤ 2 ^ d
theorem sizeN_row {r : List Int} (h : r.length ≤ 2) : sizeN (encRow r) ≤ 3 := by
  match r, h with
  | [], _ => simp [encRow, sizeN, sizeNs]
  | [a], _ => simp [encRow, sizeN, sizeNs]
  | [a, b], _ => simp [encRow, sizeN, sizeNs]
theorem sizeN_set {m : Nat} (hm : m ≤ 4) {ar : Int} {S : List (List Int)} (h : S.Sublist (rowsOf m ar)) : sizeN (encSet S) ≤ 49 := by
  have g := good_of hm h
  have hl : S.length ≤ 16 := Nat.le_trans h.length_le (rows_good m hm ar).2
  have : ∀ S : List (List Int), (∀ r ∈ S, r.length ≤ 2) → sizeNs (S.map encRow) ≤ 3 * S.length := by
    intro S
    induction S with
    | nil => intro _; simp [sizeNs]
    | cons r S ih =>
      intro hr
      have h1 := sizeN_row (hr r (.head _))
      have h2 := ih fun x hx => hr x (.tail _ hx)
      simp only [List.map_cons, sizeNs, List.length_cons]; omega
  have h3 := this S g.row
  simp only [encSet, sizeN]; omega
theorem leaf_facts {m : Nat} (hm : m ≤ 4) {ar : Int} {S : List (List Int)} (h : S.Sublist (rowsOf m ar)) : isT (leafOf ar S) = true ∧ okN (leafOf ar S) = true ∧ sizeN (leafOf ar S) ≤ 52 ∧ consts (leafOf ar S) = [encSet S] := by
  have hs := sizeN_set hm h
  refine ⟨rfl, ?_, ?_, ?_⟩
  · simp [leafOf, okN, headOk, constHead]
  · simp only [leafOf, sizeN, sizeNs]; omega
  · simp [leafOf, consts, constHead]
theorem NodeR.some {m : Nat} (hm : m ≤ 4) {ar : Int} {S : List (List Int)} (h : S.Sublist (rowsOf m ar)) (d : Nat) (x : Str) : NodeR m d (.tup [.str x, leafOf ar S]) [S] := by
  obtain ⟨a1, a2, a3, a4⟩ := leaf_facts hm h
  have hb : 70 ≤ nodeB d := by induction d with
    | zero => exact Nat.le_refl _
    | succ d ih => simp only [nodeB]; omega
  refine ⟨rfl, ?_, ?_, ?_, fun S' hS => ⟨ar, by rw [List.mem_singleton.mp hS]; exact h⟩, Nat.one_le_two_pow⟩
  · simp [okN, okNs, headOk, a2]
  · simp only [sizeN, sizeNs]; omega
  · simp [consts, constsL, constHead, a4]
theorem nodeB_pos (d : Nat) : 70 ≤ nodeB d := by induction d with
  | zero => exact Nat.le_refl _
  | succ d ih => simp only [nodeB]; omega
theorem ch1 (a : PV) : constHead [a] = none := by cases a <;> rfl
theorem ch2 (a b : PV) : constHead [a, b] = none := by cases a <;> rfl
theorem ho1 (a : PV) : headOk [a] = true := by cases a <;> rfl
theorem ho2 (a b : PV) : headOk [a, b] = true := by cases a <;> rfl
theorem ch3 {x : Str} (a b : PV) (h : x ≠ "tuples") : constHead [.str x, a, b] = none := if_neg h
theorem NodeR.and {m d : Nat} {p q : PV} {n1 n2 : List (List (List Int))} (h1 : NodeR m d p n1) (h2 : NodeR m d q n2) : NodeR m (d + 1) (.tup [.str "and", .tup [p, q]]) (n1 ++ n2) where
  t := rfl
  ok := by simp [okN, okNs, ho2, h1.ok, h2.ok]
  sz := by have := h1.sz; have := h2.sz; simp only [sizeN, sizeNs, nodeB]; omega
  eq := by simp [consts, constsL, ch2, h1.eq, h2.eq]
  sub S hS := (List.mem_append.mp hS).elim (h1.sub S) (h2.sub S)
  len := by have := h1.len; have := h2.len; rw [List.length_append, Nat.pow_succ]; omega
theorem NodeR.not {m d : Nat} {p : PV} {n1 : List (List (List Int))} (h1 : NodeR m d p n1) : NodeR m (d + 1) (.tup [.str "not", p]) n1 where
  t := rfl
  ok := by simp [okN, okNs, ho2, h1.ok]
  sz := by have := h1.sz; simp only [sizeN, sizeNs, nodeB]; omega
  eq := by simp [consts, constsL, ch2, h1.eq]
  sub := h1.sub
  len := by have := h1.len; rw [Nat.pow_succ]; omega
theorem NodeR.all {m d : Nat} (hm : m ≤ 4) {S : List (List Int)} {ar : Int} (hS : S.Sublist (rowsOf m ar)) {p : PV} {n1 : List (List (List Int))} (h1 : NodeR m d p n1) :
    NodeR m (d + 1) (.tup [.str "all", .tup [.tup [.str "tuples", leafOf ar S], .tup [.str "y", .tup [.str "rel", .int 0]]], p]) ([S] ++ n1) where
  t := rfl
  ok := by obtain ⟨a1, a2, a3, a4⟩ := leaf_facts hm hS; simp [okN, okNs, headOk, a2, h1.ok]
  sz := by obtain ⟨a1, a2, a3, a4⟩ := leaf_facts hm hS; have := h1.sz; have := nodeB_pos d; simp only [sizeN, sizeNs, nodeB]; omega
  eq := by obtain ⟨a1, a2, a3, a4⟩ := leaf_facts hm hS; simp [consts, constsL, ch2, ch3 (x := "all") _ _ (by decide), a4, h1.eq]
  sub S' h := (List.mem_append.mp h).elim (fun h => ⟨ar, by rw [List.mem_singleton.mp h]; exact hS⟩) (h1.sub S')
  len := by have := h1.len; have : 1 ≤ 2 ^ d := Nat.one_le_two_pow; rw [List.length_append, Nat.pow_succ]; simp; omega
theorem NodeR.inn {m d : Nat} (hm : m ≤ 4) {S : List (List Int)} {ar : Int} (hS : S.Sublist (rowsOf m ar)) :
    NodeR m (d + 1) (.tup [.str "in", .tup [.str "join", .tup [.str "univ"], leafOf ar S], .tup [.str "none", .int 1]]) [S] where
  t := rfl
  ok := by obtain ⟨a1, a2, a3, a4⟩ := leaf_facts hm hS; simp [okN, okNs, headOk, a2]
  sz := by obtain ⟨a1, a2, a3, a4⟩ := leaf_facts hm hS; have := nodeB_pos d; simp only [sizeN, sizeNs, nodeB]; omega
  eq := by obtain ⟨a1, a2, a3, a4⟩ := leaf_facts hm hS; simp [consts, constsL, ch1, ch2, ch3 (x := "in") _ _ (by decide), ch3 (x := "join") _ _ (by decide), a4]
  sub S' h := ⟨ar, by rw [List.mem_singleton.mp h]; exact hS⟩
  len := by have : 1 ≤ 2 ^ d := Nat.one_le_two_pow; rw [Nat.pow_succ]; simp; omega
theorem NodeR.eqq {m d : Nat} (hm : m ≤ 4) {S : List (List Int)} {ar : Int} (hS : S.Sublist (rowsOf m ar)) :
    NodeR m (d + 1) (.tup [.str "eq", .tup [.str "count", .tup [.str "comp", .tup [.tup [.str "x", leafOf ar S]], .tup [.str "true"]]], .tup [.str "num", .int 2]]) [S] where
  t := rfl
  ok := by obtain ⟨a1, a2, a3, a4⟩ := leaf_facts hm hS; simp [okN, okNs, headOk, a2]
  sz := by obtain ⟨a1, a2, a3, a4⟩ := leaf_facts hm hS; have := nodeB_pos d; simp only [sizeN, sizeNs, nodeB]; omega
  eq := by obtain ⟨a1, a2, a3, a4⟩ := leaf_facts hm hS; simp [consts, constsL, ch1, ch2, ch3 (x := "eq") _ _ (by decide), ch3 (x := "comp") _ _ (by decide), a4]
  sub S' h := ⟨ar, by rw [List.mem_singleton.mp h]; exact hS⟩
  len := by have : 1 ≤ 2 ^ d := Nat.one_le_two_pow; rw [Nat.pow_succ]; simp; omega
noncomputable def NodeW (c : Cx) (F C A : Addr) (m d : Nat) : Prop := ∀ (n : Nat) (st : PS) (Q : PV → PS → Prop) (k : Int) (ks : List (List (List Int))),
    Cells st F C → 0 ≤ k → st A = some (.list (ks.map encSet)) → ks.length + 2 ^ d ≤ 200 →
    (∀ p new k', 0 ≤ k' → NodeR m d p new → Q p (Fd (st.set A (.list ((ks ++ new).map encSet))) F C k')) → WPk c (n + d + 10) 267 [.loc F, .int m, .int d, .loc A] (Fd st F C k) Q
set_option maxHeartbeats 32000000 in
theorem node_step (T : Tops c top) {F C A : Addr} {m : Nat} (hm : m ≤ 4) (hm1 : 1 ≤ m) (hAF : A ≠ F) (hAC : A ≠ C) (d : Nat) (ih : ∀ d', d = d' + 1 → NodeW c F C A m d') : NodeW c F C A m d := by
  intro n st Q k ks hc hk hA hz h
  have cA : ∀ {st : PS} {po : PO}, Cells st F C → Cells (st.set A po) F C := fun {st po} ⟨h1, cells, h2, h3, h4⟩ => ⟨h1, cells, h2, h3, (PS.set_ne _ _ (Ne.symm hAC)).trans h4⟩
  have p2 : 1 ≤ 2 ^ d := Nat.one_le_two_pow
  refine WPk.sub ?_
  refine fnk T (o := _) (fd := _) (xs := ["feed", "n", "deep", "kept"]) rfl rfl rfl rfl rfl rfl rfl rfl (by walk_at "bind") rfl (by decide) rfl fun L ql cd => ?_
  have fin : ∀ p new k', 0 ≤ k' → NodeR m d p new → ∃ st2, Le st2 (Fd (st.set A (.list ((ks ++ new).map encSet))) F C k') ∧ Q p st2 := fun p new k' h1 h2 => ⟨_, Le.refl _, h p new k' h1 h2⟩
  walk_at "m"
  walk_at "m"
  refine WPe.mono (Q := fun p st1 => ∃ way k1, p = .int way ∧ st1 = Fd st F C k1 ∧ 0 ≤ k1 ∧ (way = 0 ∨ 0 < d)) ?_ fun p st1 ⟨way, k1, e1, e2, hk1, hw⟩ => ?_
  · walk_at "ms"
    refine o_gt ⟨_, rfl, ?_⟩
    by_cases hd0 : 0 < d
    · rw [if_pos (by simp; omega)]
      walk_at "ms"
      exact (draw_ok T hc hk (by omega) fun r r0 r1 => ⟨r, _, rfl, rfl, by omega, .inr hd0⟩).call
    · rw [if_neg (by simp; omega)]
      walk_at "ms"
      exact ⟨0, k, rfl, rfl, hk, .inl rfl⟩
  · subst e1
    subst e2
    walk_at "ms"
    refine o_eq ⟨_, rfl, ?_⟩
    by_cases w0 : way = 0
    · rw [if_pos (by simp [w0])]
      walk_at "ms"
      refine (draw_ok T hc hk1 (by omega) fun r r0 r1 => ?_).call
      refine o_add ?_
      walk_at "ms"
      refine ⟨by simp, fun D d1 d2 => ?_⟩
      obtain ⟨hDF, hD⟩ := Fd_none d1
      rw [Fd_comm _ _ _ _ hDF]
      walk_at "ms"
      refine (draw_ok T (hc.set hD) (by omega) (by omega) fun x x0 x1 => ?_).call
      have hDA : D ≠ A := by rintro rfl; rw [hA] at hD; cases hD
      obtain ⟨y, hy⟩ : ∃ y : Str, [PV.str "some", PV.str "lone"][x.toNat]? = some (.str y) := by
        have : x = 0 ∨ x = 1 := by omega
        rcases this with rfl | rfl
        · exact ⟨_, rfl⟩
        · exact ⟨_, rfl⟩
      refine g_list (p := .str y) rfl ((Fd_ne _ _ _ hDF).trans (PS.set_self _ _ _)) x0 (by omega) hy ?_
      walk_at "ms"
      refine (constant_ok T hm hm1 (by omega) (hc.set hD) (by omega) hAF ((PS.set_ne _ _ (Ne.symm hDA)).trans hA) (by omega) fun S k' h1 h2 => ?_).call
      walk_at "ms"
      refine ⟨by simp, ?_⟩
      obtain ⟨st2, l2, q2⟩ := fin _ [S] k' h1 (NodeR.some hm h2 d y)
      refine ⟨st2, l2.trans (Fd_le F C k' ?_), q2⟩
      exact (Le.set hD).set2 _ _
    rw [if_neg (by simpa using w0)]
    obtain ⟨d', rfl⟩ : ∃ d', d = d' + 1 := ⟨d - 1, by rcases hw with h | h <;> omega⟩
    have ih' := ih d' rfl
    have p2' : 2 ^ (d' + 1) = 2 ^ d' * 2 := Nat.pow_succ ..
    have p1' : 1 ≤ 2 ^ d' := Nat.one_le_two_pow
    have ed : (((d' + 1 : Nat) : Int) - 1) = (d' : Int) := by omega
    walk_at "ms"
    refine o_eq ⟨_, rfl, ?_⟩
    by_cases w1 : way = 1
    · rw [if_pos (by simp [w1])]
      walk_at "ms"
      refine o_sub ?_
      rw [ed]
      walk_at "ms"
      refine ((ih' n _ _ _ ks hc hk1 hA (by omega) fun p1 n1 k2 h1 h2 => ?_).room (by omega)).call
      have hA2 : (st.set A (.list ((ks ++ n1).map encSet))) A = some (.list ((ks ++ n1).map encSet)) := PS.set_self _ _ _
      walk_at "ms"
      refine o_sub ?_
      rw [ed]
      walk_at "ms"
      refine ((ih' n _ _ _ (ks ++ n1) (cA hc) h1 hA2 (by have := h2.len; rw [List.length_append]; omega) fun p2 n2 k3 h3 h4 => ?_).room (by omega)).call
      rw [PS.set_set, List.append_assoc]
      walk_at "ms"
      refine ⟨by simp, ?_⟩
      walk_at "ms"
      exact ⟨by simp, fin _ _ _ h3 (h2.and h4)⟩
    rw [if_neg (by simpa using w1)]
    walk_at "ms"
    refine o_eq ⟨_, rfl, ?_⟩
    by_cases w2 : way = 2
    · rw [if_pos (by simp [w2])]
      walk_at "ms"
      refine (constant_ok T hm hm1 (.inl rfl) hc hk1 hAF hA (by omega) fun S k2 h1 h2 => ?_).call
      have hA2 : (st.set A (.list ((ks ++ [S]).map encSet))) A = some (.list ((ks ++ [S]).map encSet)) := PS.set_self _ _ _
      walk_at "ms"
      refine ⟨by simp, ?_⟩
      walk_at "ms"
      refine ⟨by simp, ?_⟩
      walk_at "ms"
      refine ⟨by simp, ?_⟩
      walk_at "ms"
      refine ⟨by simp, ?_⟩
      walk_at "ms"
      refine o_sub ?_
      rw [ed]
      walk_at "ms"
      refine ((ih' n _ _ _ (ks ++ [S]) (cA hc) h1 hA2 (by rw [List.length_append]; simp; omega) fun p2 n2 k3 h3 h4 => ?_).room (by omega)).call
      rw [PS.set_set, List.append_assoc]
      walk_at "ms"
      exact ⟨by simp, fin _ _ _ h3 (NodeR.all hm h2 h4)⟩
    rw [if_neg (by simpa using w2)]
    walk_at "ms"
    refine o_eq ⟨_, rfl, ?_⟩
    by_cases w3 : way = 3
    · rw [if_pos (by simp [w3])]
      walk_at "ms"
      refine o_sub ?_
      rw [ed]
      walk_at "ms"
      refine ((ih' n _ _ _ ks hc hk1 hA (by omega) fun p1 n1 k2 h1 h2 => ?_).room (by omega)).call
      walk_at "ms"
      exact ⟨by simp, fin _ _ _ h1 h2.not⟩
    rw [if_neg (by simpa using w3)]
    walk_at "ms"
    refine o_eq ⟨_, rfl, ?_⟩
    by_cases w4 : way = 4
    · rw [if_pos (by simp [w4])]
      walk_at "ms"
      refine ⟨by simp, ?_⟩
      walk_at "ms"
      refine (constant_ok T hm hm1 (.inr rfl) hc hk1 hAF hA (by omega) fun S k2 h1 h2 => ?_).call
      walk_at "ms"
      refine ⟨by simp, ?_⟩
      walk_at "ms"
      refine ⟨by simp, ?_⟩
      walk_at "ms"
      exact ⟨by simp, fin _ _ _ h1 (NodeR.inn hm h2)⟩
    rw [if_neg (by simpa using w4)]
    walk_at "ms"
    refine (constant_ok T hm hm1 (.inl rfl) hc hk1 hAF hA (by omega) fun S k2 h1 h2 => ?_).call
    walk_at "ms"
    refine ⟨by simp, ?_⟩
    walk_at "ms"
    refine ⟨by simp, ?_⟩
    walk_at "ms"
    refine ⟨by simp, ?_⟩
    walk_at "ms"
    refine ⟨by simp, ?_⟩
    walk_at "ms"
    refine ⟨by simp, ?_⟩
    walk_at "ms"
    refine ⟨by simp, ?_⟩
    walk_at "ms"
    exact ⟨by simp, fin _ _ _ h1 (NodeR.eqq hm h2)⟩
theorem node_ok (T : Tops c top) {F C A : Addr} {m : Nat} (hm : m ≤ 4) (hm1 : 1 ≤ m) (hAF : A ≠ F) (hAC : A ≠ C) : ∀ d, NodeW c F C A m d
  | 0 => node_step T hm hm1 hAF hAC 0 fun d' h => by omega
  | d + 1 => node_step T hm hm1 hAF hAC (d + 1) fun d' h => by
    obtain rfl : d = d' := by omega
    exact node_ok T hm hm1 hAF hAC d
end

section
variable {c : Cx} {n : Nat} {st : PS} {Q : PV → PS → Prop}
theorem filtS (p : List Int → Bool) : ∀ rows : List (List Int), (rows.map fun r => if p r = true then some (encRow r) else none).filterMap id = (rows.filter p).map encRow := filt p
set_option maxHeartbeats 8000000 in
theorem minus_ok (T : Tops c top) {S S' : List (List Int)} (h1 : S.length ≤ 1000) (h2 : S'.length ≤ 1000) (hnd : S'.Nodup)
    (h : Q (encSet (S.filter fun r => !decide (r ∈ S'))) st) : WPk c (n + 6) 96 [encSet S, encSet S'] st Q := by
  refine WPk.sub ?_
  refine fnk T (o := _) (fd := _) (xs := ["s", "t"]) rfl rfl rfl rfl rfl rfl rfl rfl (by walk_at "bind") rfl (by decide) rfl fun L ql cd => ?_
  walk_at "ms"
  refine e_comp1 (comp_map ?_) rfl rfl (fun _ => rfl)
  refine i_val ?_
  walk_at "ms"
  refine .inl ⟨_, rfl, trivial, by simp [Src.items]; omega, S'.map pairOf, by simp [Src.items], fun C i p q hp hq => ?_, fun D d1 d2 => ?_⟩
  · have hp' : (S'.map encRow)[i]? = some p := hp
    rw [List.getElem?_map] at hp' hq
    obtain ⟨r, hr, rfl⟩ := Option.map_eq_some_iff.mp hp'
    rw [hr] at hq
    obtain rfl := Option.some.inj hq
    walk_at "ms"
    exact ⟨by simp, rfl, Le.refl _⟩
  · walk_at "ms"
    refine c_dict_pairs (n := n + 2) T.sys (PS.set_self _ _ _) hnd (by omega) fun D2 e1 e2 => ?_
    have hD : D2 ≠ D := by rintro rfl; rw [PS.set_self] at e1; cases e1
    walk_at "ms"
    refine e_comp1 (comp_filter ?_) rfl rfl (fun _ => rfl)
    refine i_val ?_
    walk_at "ms"
    refine .inl ⟨_, rfl, trivial, by simp [Src.items]; omega, S.map fun r => if (!decide (r ∈ S')) = true then some (encRow r) else none, by simp [Src.items], fun C i p q hp hq => ?_, fun C i p q hp hq => ?_, fun D3 f1 f2 => ?_⟩
    · have hp' : (S.map encRow)[i]? = some p := hp
      rw [List.getElem?_map] at hp' hq
      obtain ⟨r, hr, rfl⟩ := Option.map_eq_some_iff.mp hp'
      rw [hr] at hq
      have hq' : (if (!decide (r ∈ S')) = true then some (encRow r) else none) = q := Option.some.inj hq
      subst hq'
      walk_at "ms"
      refine o_notinT (PS.set_self _ _ _) ⟨_, rfl, ?_, Le.refl _⟩
      cases (!decide (r ∈ S')) <;> rfl
    · have hp' : (S.map encRow)[i]? = some p := hp
      rw [List.getElem?_map] at hp' hq
      obtain ⟨r, hr, rfl⟩ := Option.map_eq_some_iff.mp hp'
      rw [hr] at hq
      have hq' : (if (!decide (r ∈ S')) = true then some (encRow r) else none) = some q := Option.some.inj hq
      split at hq'
      · cases hq'
        walk_at "ms"
        exact ⟨rfl, Le.refl _⟩
      · cases hq'
    · rw [filt]
      walk_at "ms"
      exact c_tuple (PS.set_self _ _ _) (by have := List.length_filter_le (fun r => !decide (r ∈ S')) S; rw [List.length_map]; omega) ⟨st, by walk_at "le", h⟩
set_option maxHeartbeats 8000000 in
theorem within_ok (T : Tops c top) {S S' : List (List Int)} (h1 : S.length ≤ 1000) (h2 : S'.length ≤ 1000) (hnd : S'.Nodup) (hs : ∀ r ∈ S, r ∈ S')
    (h : Q (.bool true) st) : WPk c (n + 7) 103 [encSet S, encSet S'] st Q := by
  refine fnk T (o := _) (fd := _) (xs := ["s", "t"]) rfl rfl rfl rfl rfl rfl rfl rfl (by walk_at "bind") rfl (by decide) rfl fun L ql cd => ?_
  walk_at "ms"
  refine (minus_ok T h1 h2 hnd ?_).call
  walk_at "ms"
  refine ⟨by simp, ?_⟩
  have e : (S.filter fun r => !decide (r ∈ S')) = [] := by
    rw [List.filter_eq_nil_iff]; intro r hr; simp [hs r hr]
  rw [e]
  exact o_eqd (okS []) rfl h

theorem Tops.reads {K : Params → Frag} (T : Tops c K) {C : Addr} {x : Str} (h : Reads1 (K c.w.params) C x) : Reads1 c.K C x := T.eq ▸ h
theorem Tops.meth {K : Params → Frag} (T : Tops c K) {C f : Addr} {x : Str} (h : Meth1 (K c.w.params) C x f) : Meth1 c.K C x f := T.eq ▸ h
theorem Tops.sets {K : Params → Frag} (T : Tops c K) {C : Addr} {x : Str} (h : Sets1 (K c.w.params) C x) : Sets1 c.K C x := T.eq ▸ h
theorem Tops.make {K : Params → Frag} (T : Tops c K) {C f : Addr} (h : Make1 (K c.w.params) C f) : Make1 c.K C f := T.eq ▸ h
theorem rN (P : Params) : Reads1 (top P) 155 "names" := ⟨rfl, rfl, rfl⟩
theorem rNu (P : Params) : Reads1 (top P) 155 "numbers" := ⟨rfl, rfl, rfl⟩
theorem rBU (P : Params) : Reads1 (top P) 232 "universe" := ⟨rfl, rfl, rfl⟩
theorem rBB (P : Params) : Reads1 (top P) 232 "bounds" := ⟨rfl, rfl, rfl⟩
theorem rBN (P : Params) : Reads1 (top P) 232 "numbers" := ⟨rfl, rfl, rfl⟩
theorem sN (P : Params) : Sets1 (top P) 155 "names" := ⟨rfl, rfl, rfl, rfl⟩
theorem sNu (P : Params) : Sets1 (top P) 155 "numbers" := ⟨rfl, rfl, rfl, rfl⟩
theorem sBU (P : Params) : Sets1 (top P) 232 "universe" := ⟨rfl, rfl, rfl, rfl⟩
theorem sBB (P : Params) : Sets1 (top P) 232 "bounds" := ⟨rfl, rfl, rfl, rfl⟩
theorem sBN (P : Params) : Sets1 (top P) 232 "numbers" := ⟨rfl, rfl, rfl, rfl⟩
theorem mUs (P : Params) : Meth1 (top P) 155 "size" 124 := ⟨rfl, rfl, rfl, rfl⟩
theorem mBa (P : Params) : Meth1 (top P) 232 "add" 180 := ⟨rfl, rfl, rfl, rfl⟩
theorem mBw (P : Params) : Meth1 (top P) 232 "want_set" 187 := ⟨rfl, rfl, rfl, rfl⟩
theorem mBs (P : Params) : Meth1 (top P) 232 "size" 208 := ⟨rfl, rfl, rfl, rfl⟩
theorem mBl (P : Params) : Meth1 (top P) 232 "lower" 215 := ⟨rfl, rfl, rfl, rfl⟩
theorem mBu (P : Params) : Meth1 (top P) 232 "upper" 222 := ⟨rfl, rfl, rfl, rfl⟩
theorem mkU (P : Params) : Make1 (top P) 155 117 := ⟨rfl, rfl, rfl⟩
theorem mkB (P : Params) : Make1 (top P) 232 173 := ⟨rfl, rfl, rfl⟩
end

section
variable {c : Cx} {n : Nat} {env : Env} {ρ : Vars} {st : PS} {Q : PV → PS → Prop}
theorem t_cls {K : Params → Frag} {f : Str} {C : Addr} {es : List Expr} {p1 pos : Pos} (T : Tops c K) (e : nsIn (K c.w.params) mainGlobals f = some (some (.ref C))) (hkeep : keepIn (K c.w.params) (.ref C) = true) (hk : isGlob env f = true) (hs : es.all notStar = true)
    (h : WPl c n env ρ es st fun ps st1 => WPk c n C ps st1 Q) : WPe c n env ρ (.Call (.Name f p1) es [] pos) st Q := by
  intro A s r R F
  refine wpAny_Call_ofName (name_glb (T.glb e) hk R ?_)
  have hp : ((backTo pos (starEach es env)).any (·.1) || (backToKw pos (keywordEach [] env)).any (·.1.isNone)) = false := by rw [backTo_any, starEach_all hs]; rfl
  refine callWith_of (P := fun h => (K c.w.params).In h) hp (fun h X => keeps_K hkeep h X) (evalArgs_of hs (wp_then (h A s pos r R F) fun vs s1 o => ?_))
  obtain ⟨ps, st1, R1, x1, r1, q⟩ := o
  exact ⟨T.in'.keeps R1.base, wp_then (q.call A s1 vs r R1 r1) fun _ _ o => o.from x1⟩
theorem look_put_ne {K : Type} [DecidableEq K] {l : List (K × PV)} {x y : K} {p : PV} (h : x ≠ y) : look (putK l y p) x = look l x := by
  unfold putK
  split
  · rename_i hb
    clear hb
    unfold look
    induction l with
    | nil => rfl
    | cons z l ih =>
      simp only [List.map_cons, List.find?_cons]
      by_cases hz : z.1 = y
      · rw [if_pos hz]
        have : z.1 ≠ x := fun e => h (e.symm.trans hz)
        simp only [this, decide_false]
        exact ih
      · rw [if_neg hz]
        by_cases hx : z.1 = x
        · simp [hx]
        · simp only [hx, decide_false]; exact ih
  · unfold look
    rw [List.find?_append]
    cases l.find? (fun x_1 => decide (x_1.1 = x)) with
    | some z => rfl
    | none => simp [Ne.symm h]
theorem putK_length {K : Type} [DecidableEq K] {l : List (K × PV)} {y : K} {p : PV} : (putK l y p).length ≤ l.length + 1 := by
  unfold putK; split <;> simp
structure UAt (st : PS) (u du nu : Addr) (nm : List Str) : Prop where
  i : st u = some (.inst 155 du)
  d : st du = some (.attrs [("names", .tup (nm.map .str)), ("numbers", .loc nu)])
set_option maxHeartbeats 16000000 in
theorem uinit_ok (T : Tops c top) {u du l : Addr} {nm : List Str} (hu : st u = some (.inst 155 du)) (hdu : st du = some (.attrs [])) (hl : st l = some (.list (nm.map .str))) (hud : u ≠ du) (hnd : nm.Nodup) (hz : nm.length ≤ 100)
    (h : ∀ nu nums, st nu = none → nu ≠ u → nu ≠ du → Q .none ((st.set du (.attrs [("names", .tup (nm.map .str)), ("numbers", .loc nu)])).set nu (.dictS nums))) : WPk c (n + 4) 117 [.loc u, .loc l] st Q := by
  refine fnk T (o := _) (fd := _) (xs := ["self", "names"]) rfl rfl rfl rfl rfl rfl rfl rfl (by walk_at "bind") rfl (by decide) rfl fun L ql cd => ?_
  walk_at "m"
  refine x_setattr ?_ rfl
  walk_at "ms"
  refine c_tuple hl (by simp; omega) ?_
  walk_at "ms"
  refine set_attr T.own (T.sets (sN _)) hu hdu (by simp) ?_
  walk_at "m"
  refine x_setattr ?_ rfl
  refine e_dict0S T.sys fun nu n1 n2 => ?_
  have hn1 : nu ≠ u := by rintro rfl; rw [PS.set_ne _ _ hud, hu] at n1; cases n1
  have hn2 : nu ≠ du := by rintro rfl; rw [PS.set_self] at n1; cases n1
  have hst : st nu = none := by rw [PS.set_ne _ _ hn2] at n1; exact n1
  walk_at "ms"
  refine set_attr T.own (T.sets (sNu _)) ((PS.set_ne _ _ (Ne.symm hn1)).trans ((PS.set_ne _ _ hud).trans hu)) ((PS.set_ne _ _ (Ne.symm hn2)).trans (PS.set_self _ _ _)) (Nat.le_of_ble_eq_true rfl) ?_
  rw [PS.set_comm _ _ _ hn2, PS.set_set]
  have e1 : putA (putA [] "names" (.tup (nm.map .str))) "numbers" (.loc nu) = ([(("names" : Str), PV.tup (nm.map .str)), ("numbers", .loc nu)] : List (Str × PV)) := rfl
  rw [e1]
  have hi : ∀ nums, ((st.set du (.attrs [("names", .tup (nm.map .str)), ("numbers", .loc nu)])).set nu (.dictS nums)) u = some (.inst 155 du) := fun nums => (PS.set_ne _ _ (Ne.symm hn1)).trans ((PS.set_ne _ _ hud).trans hu)
  have hd' : ∀ nums, ((st.set du (.attrs [("names", .tup (nm.map .str)), ("numbers", .loc nu)])).set nu (.dictS nums)) du = some (.attrs [("names", .tup (nm.map .str)), ("numbers", .loc nu)]) := fun nums => (PS.set_ne _ _ (Ne.symm hn2)).trans (PS.set_self _ _ _)
  have hq := fun nums => h nu nums hst hn1 hn2
  walk_at "m"
  refine x_for ?_ rfl (fun _ => rfl)
  refine i_val ?_
  refine e_attr T.own rfl ?_
  walk_at "ms"
  refine ⟨u, 155, du, _, _, rfl, hi _, hd' _, rfl, T.reads (rN _), ?_⟩
  refine .inl ⟨_, rfl, fun i ρ' st' => Sub [("self", .loc u)] ρ' ∧ ∃ nums, st' = (st.set du (.attrs [("names", .tup (nm.map .str)), ("numbers", .loc nu)])).set nu (.dictS nums) ∧ nums.length ≤ i ∧ ∀ x, x ∉ nm.take i → look nums x = none, ⟨?_, [], rfl, Nat.le_refl _, fun _ _ => rfl⟩, fun _ _ _ _ => trivial, fun i p ρ' st' hp ⟨j1, nums, j2, j3, j4⟩ => ?_, fun ρ' st' ⟨j1, nums, j2, j3, j4⟩ => ?_⟩
  · intro y q e
    by_cases hy : y = "self"
    · subst hy; exact e
    · have : (y == ("self" : Str)) = false := beq_eq_false_iff_ne.mpr hy
      simp [List.lookup_cons, this] at e
  · subst j2
    have hp' : (nm.map PV.str)[i]? = some p := hp
    rw [List.getElem?_map] at hp'
    obtain ⟨x, hx, rfl⟩ := Option.map_eq_some_iff.mp hp'
    have hlt := (List.getElem?_eq_some_iff.mp hx).1
    have hxn : x ∉ nm.take i := by
      intro hm
      obtain ⟨j, hj, e⟩ := List.mem_iff_getElem.mp hm
      rw [List.length_take] at hj
      rw [List.getElem_take] at e
      have e2 := (List.getElem?_eq_some_iff.mp hx).2
      have := (List.getElem_inj hnd).mp (e.trans e2.symm)
      omega
    refine WPs.weaken (ρ' := [("name", .str x), ("self", .loc u)]) ?_ j1.both
    walk_at "ms"
    refine e_attr T.own rfl ?_
    walk_at "ms"
    refine ⟨u, 155, du, _, _, rfl, hi _, hd' _, rfl, T.reads (rNu _), ?_⟩
    refine o_inS (PS.set_self _ _ _) ⟨_, rfl, ?_⟩
    rw [j4 x hxn, if_neg (by simp)]
    walk_at "ms"
    refine x_setitem ?_ rfl
    walk_at "ms"
    refine e_attr T.own rfl ?_
    walk_at "ms"
    refine ⟨u, 155, du, _, _, rfl, hi _, hd' _, rfl, T.reads (rNu _), ?_⟩
    walk_at "ms"
    refine c_len_dictS (PS.set_self _ _ _) (by omega) ?_
    refine e_attr T.own rfl ?_
    walk_at "ms"
    refine ⟨u, 155, du, _, _, rfl, hi _, hd' _, rfl, T.reads (rNu _), ?_⟩
    walk_at "ms"
    refine set_dictS (PS.set_self _ _ _) (by omega) ?_
    rw [PS.set_set]
    walk_at "ms"
    refine ⟨(Sub.refl _).cons rfl, _, rfl, by have := putK_length (l := nums) (y := x) (p := .int nums.length); omega, fun y hy => ?_⟩
    rw [List.take_add_one, hx] at hy
    have h1 : y ∉ nm.take i := fun h => hy (List.mem_append_left _ h)
    have h2 : y ≠ x := by rintro rfl; exact hy (by simp)
    rw [look_put_ne h2]; exact j4 y h1
  · subst j2
    walk_at "ms"
    exact hq nums
set_option maxHeartbeats 4000000 in
theorem usize_ok (T : Tops c top) {u du nu : Addr} {nm : List Str} (U : UAt st u du nu nm) (hz : nm.length ≤ 100) (h : Q (.int nm.length) st) : WPk c (n + 2) 124 [.loc u] st Q := by
  refine fnk T (o := _) (fd := _) (xs := ["self"]) rfl rfl rfl rfl rfl rfl rfl rfl (by walk_at "bind") rfl (by decide) rfl fun L ql cd => ?_
  walk_at "ms"
  refine e_attr T.own rfl ?_
  walk_at "ms"
  refine ⟨u, 155, du, _, _, rfl, U.i, U.d, rfl, T.reads (rN _), ?_⟩
  walk_at "ms"
  refine c_len_tup (by simp; omega) ?_
  rw [List.length_map]
  exact h
structure Rel where
  name : Str
  ar : Int
  lo : List (List Int)
  hi : List (List Int)
noncomputable def encRel (r : Rel) : PV := .tup [.str r.name, .int r.ar, encSet r.lo, encSet r.hi]
structure BAt (st : PS) (b u db bl bn : Addr) (nums : List (Str × PV)) (rels : List Rel) : Prop where
  i : st b = some (.inst 232 db)
  d : st db = some (.attrs [("universe", .loc u), ("bounds", .loc bl), ("numbers", .loc bn)])
  l : st bl = some (.list (rels.map encRel))
  n : st bn = some (.dictS nums)
set_option maxHeartbeats 8000000 in
theorem binit_ok (T : Tops c top) {b db u : Addr} (hb : st b = some (.inst 232 db)) (hdb : st db = some (.attrs [])) (hbd : b ≠ db)
    (h : ∀ bl bn, st bl = none → st bn = none → bl ≠ bn → bl ≠ b → bn ≠ b → bl ≠ db → bn ≠ db → Q .none (((st.set db (.attrs [("universe", .loc u), ("bounds", .loc bl), ("numbers", .loc bn)])).set bl (.list [])).set bn (.dictS []))) : WPk c (n + 4) 173 [.loc b, .loc u] st Q := by
  refine fnk T (o := _) (fd := _) (xs := ["self", "universe"]) rfl rfl rfl rfl rfl rfl rfl rfl (by walk_at "bind") rfl (by decide) rfl fun L ql cd => ?_
  walk_at "m"
  refine x_setattr ?_ rfl
  walk_at "ms"
  refine set_attr T.own (T.sets (sBU _)) hb hdb (by simp) ?_
  walk_at "m"
  refine x_setattr ?_ rfl
  walk_at "ms"
  refine ⟨by simp, fun bl l1 l2 => ?_⟩
  have h1 : bl ≠ b := by rintro rfl; rw [PS.set_ne _ _ hbd, hb] at l1; cases l1
  have h2 : bl ≠ db := by rintro rfl; rw [PS.set_self] at l1; cases l1
  have h3 : st bl = none := by rw [PS.set_ne _ _ h2] at l1; exact l1
  walk_at "ms"
  refine set_attr T.own (T.sets (sBB _)) ((PS.set_ne _ _ (Ne.symm h1)).trans ((PS.set_ne _ _ hbd).trans hb)) ((PS.set_ne _ _ (Ne.symm h2)).trans (PS.set_self _ _ _)) (Nat.le_of_ble_eq_true rfl) ?_
  rw [PS.set_comm _ _ _ h2, PS.set_set]
  walk_at "m"
  refine x_setattr ?_ rfl
  refine e_dict0S T.sys fun bn n1 n2 => ?_
  have g0 : bl ≠ bn := by rintro rfl; rw [PS.set_self] at n1; cases n1
  rw [PS.set_ne _ _ (Ne.symm g0)] at n1
  have g1 : bn ≠ b := by rintro rfl; rw [PS.set_ne _ _ hbd, hb] at n1; cases n1
  have g2 : bn ≠ db := by rintro rfl; rw [PS.set_self] at n1; cases n1
  have g3 : st bn = none := by rw [PS.set_ne _ _ g2] at n1; exact n1
  walk_at "ms"
  refine set_attr T.own (T.sets (sBN _)) ((PS.set_ne _ _ (Ne.symm g1)).trans ((PS.set_ne _ _ (Ne.symm h1)).trans ((PS.set_ne _ _ hbd).trans hb))) ((PS.set_ne _ _ (Ne.symm g2)).trans ((PS.set_ne _ _ (Ne.symm h2)).trans (PS.set_self _ _ _))) (Nat.le_of_ble_eq_true rfl) ?_
  rw [PS.set_comm _ _ _ g2, PS.set_comm _ _ _ h2, PS.set_set]
  walk_at "ms"
  exact h bl bn h3 g3 g0 h1 g1 h2 g2
end

section
variable {c : Cx} {n : Nat} {env : Env} {ρ : Vars} {st : PS} {Q : PV → PS → Prop}
theorem o_ltt {r r' : List Int} (h : Q (.bool (ltR r r')) st) : WP2 c (n + 1) (compareOp .Lt) (encRow r) (encRow r') st Q := fun A s v u rm R rv ru =>
  (ltd_tup (c := c) (n := n) ltd_int (by omega)).ltR A s v u r r' _ _ rm rv ru ⟨_, _, R, Evo.refl _ _, .bool, h⟩
theorem row_in {m : Nat} {ar : Int} (har : ar = 1 ∨ ar = 2) {r : List Int} (h : r ∈ rowsOf m ar) : (r.length : Int) = ar ∧ ∀ x ∈ r, 0 ≤ x ∧ x < m := by
  rcases har with rfl | rfl
  · obtain ⟨a, rfl, h1, h2⟩ := rows1 h; exact ⟨rfl, fun x hx => by obtain rfl := List.mem_singleton.mp hx; omega⟩
  · obtain ⟨a, b, rfl, h1, h2, h3, h4⟩ := rows2 (by decide) h
    exact ⟨rfl, fun x hx => by
      rcases List.mem_cons.mp hx with rfl | hx
      · omega
      · obtain rfl := List.mem_singleton.mp hx; omega⟩
set_option maxHeartbeats 16000000 in
theorem want_ok (T : Tops c top) {b u db bl bn du nu : Addr} {nums : List (Str × PV)} {rels : List Rel} {nm : List Str} {x : Str} {ar : Int} {S : List (List Int)} (B : BAt st b u db bl bn nums rels) (U : UAt st u du nu nm) (hm : nm.length ≤ 4) (har : ar = 1 ∨ ar = 2)
    (hS : S.Sublist (rowsOf nm.length ar)) (h : Q .none st) : WPk c (n + 5) 187 [.loc b, .str x, .int ar, encSet S] st Q := by
  have g := good_of hm hS
  refine fnk T (o := _) (fd := _) (xs := ["self", "name", "arity", "some"]) rfl rfl rfl rfl rfl rfl rfl rfl (by walk_at "bind") rfl (by decide) rfl fun L ql cd => ?_
  have s0 : Sub [("self", .loc b), ("name", .str x), ("arity", .int ar), ("some", encSet S)] ([("self", .loc b), ("name", .str x), ("arity", .int ar), ("some", encSet S)] : Vars) := Sub.refl _
  walk_at "ms"
  refine ⟨true, .t_t _, _, rfl, ?_⟩
  rw [if_neg (by simp)]
  walk_at "m"
  walk_at "m"
  refine x_for ?_ rfl (fun _ => rfl)
  refine i_val ?_
  walk_at "ms"
  refine .inl ⟨_, rfl, fun i ρ' st' => Sub [("self", .loc b), ("name", .str x), ("arity", .int ar), ("some", encSet S)] ρ' ∧ st' = st, ⟨s0, rfl⟩, fun _ _ _ _ => trivial, fun i p ρ' st' hp ⟨j1, j2⟩ => ?_, fun ρ' st' ⟨j1, j2⟩ => ?_⟩
  · subst j2
    have hp' : (S.map encRow)[i]? = some p := hp
    rw [List.getElem?_map] at hp'
    obtain ⟨r, hr, rfl⟩ := Option.map_eq_some_iff.mp hp'
    obtain ⟨r1, r2⟩ := row_in har (hS.subset (List.mem_of_getElem? hr))
    have r3 := g.row r (List.mem_of_getElem? hr)
    refine WPs.weaken (ρ' := [("row", encRow r), ("self", .loc b), ("name", .str x), ("arity", .int ar), ("some", encSet S)]) ?_ j1.both
    walk_at "m"
    walk_at "m"
    refine b_or ?_
    simp only [WPor]
    walk_at "ms"
    refine ⟨true, .t_t _, _, rfl, ?_⟩
    rw [if_neg (by simp)]
    walk_at "ms"
    refine c_len_tup (by simp; omega) ?_
    walk_at "ms"
    rw [List.length_map]
    refine o_ne ⟨_, rfl, ?_⟩
    rw [if_neg (by simp [r1]), if_neg (by simp)]
    walk_at "m"
    walk_at "m"
    refine x_for ?_ rfl (fun _ => rfl)
    refine i_val ?_
    walk_at "ms"
    refine .inl ⟨_, rfl, fun i ρ' st2 => Sub [("self", .loc b), ("name", .str x), ("arity", .int ar), ("some", encSet S)] ρ' ∧ st2 = st', ⟨s0.cons rfl, rfl⟩, fun _ _ _ _ => trivial, fun i2 p2 ρ2 st2 hp2 ⟨g1, g2⟩ => ?_, fun ρ2 st2 ⟨g1, g2⟩ => ?_⟩
    · subst g2
      have hp2' : (r.map PV.int)[i2]? = some p2 := hp2
      rw [List.getElem?_map] at hp2'
      obtain ⟨a, ha, rfl⟩ := Option.map_eq_some_iff.mp hp2'
      obtain ⟨a1, a2⟩ := r2 a (List.mem_of_getElem? ha)
      refine WPs.weaken (ρ' := [("a", .int a), ("self", .loc b), ("name", .str x), ("arity", .int ar), ("some", encSet S)]) ?_ g1.both
      walk_at "m"
      walk_at "m"
      refine b_or ?_
      simp only [WPor]
      walk_at "ms"
      refine ⟨true, .i_i _, _, rfl, ?_⟩
      rw [if_neg (by simp)]
      walk_at "ms"
      refine ⟨false, .i_b _, _, rfl, ?_⟩
      rw [if_neg (by simp)]
      walk_at "m"
      refine b_chain rfl rfl ?_
      walk_at "ms"
      refine o_le ⟨_, rfl, ?_⟩
      rw [if_pos (by simpa using a1)]
      refine e_call_inst (f := 124) T.own rfl rfl (by decide) rfl ?_
      refine e_attr T.own rfl ?_
      walk_at "ms"
      refine ⟨b, 232, db, _, _, rfl, B.i, B.d, rfl, T.reads (rBU _), ?_⟩
      refine ⟨u, 155, du, _, rfl, U.i, U.d, rfl, T.meth (mUs _), ?_⟩
      walk_at "ms"
      refine (usize_ok T U (by omega) ?_).call
      refine o_lt ⟨_, rfl, ?_⟩
      have e : (!decide (a < (nm.length : Int))) = false := by simp [a2]
      rw [e, if_neg (by simp), if_neg (by simp)]
      walk_at "ms"
      exact ⟨(Sub.refl _).cons rfl, rfl⟩
    · subst g2
      walk_at "ms"
      exact ⟨g1, rfl⟩
  · subst j2
    refine WPs.weaken (ρ' := [("self", .loc b), ("name", .str x), ("arity", .int ar), ("some", encSet S)]) ?_ j1
    walk_at "m"
    refine x_for ?_ rfl (fun _ => rfl)
    walk_at "ms"
    refine c_len_tup (by simp; have := g.len; omega) ?_
    rw [List.length_map]
    have hgl := g.len
    refine ⟨_, _, rfl, rfl, by omega, by omega, fun i ρ' st2 => Sub [("self", .loc b), ("name", .str x), ("arity", .int ar), ("some", encSet S)] ρ' ∧ st2 = st', ⟨s0, rfl⟩, fun _ _ _ _ => trivial, fun i p ρ2 st2 hp ⟨g1, g2⟩ => ?_, fun ρ2 st2 ⟨g1, g2⟩ => ?_⟩
    · subst g2
      have hi : i + 1 < S.length := by
        have := (List.getElem?_eq_some_iff.mp hp).1
        simp [Src.items] at this
        omega
      have hpe : p = .int ((i + 1 : Nat) : Int) := by
        obtain ⟨h1, h2⟩ := List.getElem?_eq_some_iff.mp hp
        simp only [Src.items, List.getElem_map, List.getElem_range] at h2
        rw [← h2]; congr 1; omega
      subst hpe
      have e1 : S[i]? = some S[i] := List.getElem?_eq_getElem (by omega)
      have e2 : S[i + 1]? = some S[i + 1] := List.getElem?_eq_getElem hi
      have hlt : ltR S[i] S[i + 1] = true := List.pairwise_iff_getElem.mp ((rows_good _ hm ar).1.sublist hS) i (i + 1) (by omega) hi (by omega)
      refine WPs.weaken (ρ' := [("k", .int ((i + 1 : Nat) : Int)), ("self", .loc b), ("name", .str x), ("arity", .int ar), ("some", encSet S)]) ?_ g1.both
      walk_at "ms"
      refine o_sub ?_
      have ei : (((i + 1 : Nat) : Int) - 1) = (i : Int) := by omega
      rw [ei]
      refine g_tup (p := encRow S[i]) rfl (by omega) (by omega) (by rw [List.getElem?_map, Int.toNat_natCast, e1]; rfl) ?_
      walk_at "ms"
      refine g_tup (p := encRow S[i + 1]) rfl (by omega) (by omega) (by rw [List.getElem?_map, Int.toNat_natCast, e2]; rfl) ?_
      refine o_ltt ⟨_, rfl, ?_⟩
      rw [hlt, if_neg (by simp)]
      walk_at "ms"
      exact ⟨(Sub.refl _).cons rfl, rfl⟩
    · subst g2
      walk_at "ms"
      exact h
end

section
variable {c : Cx} {n : Nat} {env : Env} {ρ : Vars} {st : PS} {Q : PV → PS → Prop}
theorem ltR_irrefl (a : List Int) : ltR a a = false := (ordd_lex ordd_int).irrefl a
theorem UAt.le {st' : PS} {u du nu : Addr} {nm : List Str} (U : UAt st u du nu nm) (l : Le st st') : UAt st' u du nu nm := ⟨l _ _ U.i, l _ _ U.d⟩
theorem BAt.le {st' : PS} {b u db bl bn : Addr} {nums : List (Str × PV)} {rels : List Rel} (B : BAt st b u db bl bn nums rels) (l : Le st st') : BAt st' b u db bl bn nums rels := ⟨l _ _ B.i, l _ _ B.d, l _ _ B.l, l _ _ B.n⟩
set_option maxHeartbeats 16000000 in
theorem add_ok (T : Tops c top) {b u db bl bn du nu : Addr} {nums : List (Str × PV)} {rels : List Rel} {nm : List Str} {x : Str} {ar : Int} {lo hi : List (List Int)} (B : BAt st b u db bl bn nums rels) (U : UAt st u du nu nm) (hm : nm.length ≤ 4) (har : ar = 1 ∨ ar = 2)
    (hhi : hi.Sublist (rowsOf nm.length ar)) (hlo : lo.Sublist hi) (hx : look nums x = none) (hz : rels.length ≤ 100) (hz2 : nums.length ≤ 100)
    (h : Q (.int rels.length) ((st.set bn (.dictS (putK nums x (.int rels.length)))).set bl (.list ((rels ++ [(⟨x, ar, lo, hi⟩ : Rel)]).map encRel)))) : WPk c (n + 9) 180 [.loc b, .str x, .int ar, encSet lo, encSet hi] st Q := by
  have hbn : bl ≠ bn := by rintro rfl; have := B.l; rw [B.n] at this; simp at this
  have hbi : b ≠ bn := by rintro rfl; have := B.i; rw [B.n] at this; simp at this
  have hdi : db ≠ bn := by rintro rfl; have := B.d; rw [B.n] at this; simp at this
  have hbi2 : b ≠ bl := by rintro rfl; have := B.i; rw [B.l] at this; simp at this
  have hdi2 : db ≠ bl := by rintro rfl; have := B.d; rw [B.l] at this; simp at this
  have ghi := good_of hm hhi
  have glo := good_of hm (hlo.trans hhi)
  refine fnk T (o := _) (fd := _) (xs := ["self", "name", "arity", "lower", "upper"]) rfl rfl rfl rfl rfl rfl rfl rfl (by walk_at "bind") rfl (by decide) rfl fun L ql cd => ?_
  walk_at "ms"
  refine e_attr T.own rfl ?_
  walk_at "ms"
  refine ⟨b, 232, db, _, _, rfl, B.i, B.d, rfl, T.reads (rBN _), ?_⟩
  refine o_inS B.n ⟨_, rfl, ?_⟩
  rw [hx, if_neg (by simp)]
  walk_at "m"
  walk_at "m"
  walk_at "m"
  refine b_or ?_
  simp only [WPor]
  walk_at "ms"
  refine ⟨true, .i_i _, _, rfl, ?_⟩
  rw [if_neg (by simp)]
  walk_at "ms"
  refine ⟨false, .i_b _, _, rfl, ?_⟩
  rw [if_neg (by simp)]
  walk_at "ms"
  refine o_lt ⟨_, rfl, ?_⟩
  rw [if_neg (by simp; omega), if_neg (by simp)]
  walk_at "ms"
  refine e_call_inst (f := 187) T.own rfl rfl (by decide) rfl ?_
  walk_at "ms"
  refine ⟨b, 232, db, _, rfl, B.i, B.d, rfl, T.meth (mBw _), ?_⟩
  walk_at "ms"
  refine (want_ok T B U hm har (hlo.trans hhi) ?_).call
  walk_at "ms"
  refine e_call_inst (f := 187) T.own rfl rfl (by decide) rfl ?_
  walk_at "ms"
  refine ⟨b, 232, db, _, rfl, B.i, B.d, rfl, T.meth (mBw _), ?_⟩
  walk_at "ms"
  refine (want_ok T B U hm har hhi ?_).call
  walk_at "ms"
  refine (within_ok T (by have := glo.len; omega) (by have := ghi.len; omega) (((rows_good _ hm ar).1.sublist hhi).imp fun {a b} hab => by rintro rfl; rw [ltR_irrefl] at hab; cases hab) (fun r hr => hlo.subset hr) ?_).call
  refine ⟨_, rfl, ?_⟩
  rw [if_neg (by simp)]
  walk_at "m"
  walk_at "m"
  refine x_setitem ?_ rfl
  walk_at "ms"
  refine e_attr T.own rfl ?_
  walk_at "ms"
  refine ⟨b, 232, db, _, _, rfl, B.i, B.d, rfl, T.reads (rBB _), ?_⟩
  walk_at "ms"
  refine c_len_list B.l (by simp; omega) ?_
  refine e_attr T.own rfl ?_
  walk_at "ms"
  refine ⟨b, 232, db, _, _, rfl, B.i, B.d, rfl, T.reads (rBN _), ?_⟩
  walk_at "ms"
  rw [List.length_map]
  refine set_dictS B.n (by omega) ?_
  have B2i : (st.set bn (.dictS (putK nums x (.int rels.length)))) b = some (.inst 232 db) := (PS.set_ne _ _ hbi).trans B.i
  have B2d := (PS.set_ne (st := st) (.dictS (putK nums x (.int rels.length))) hdi).trans B.d
  have B2l : (st.set bn (.dictS (putK nums x (.int rels.length)))) bl = some (.list (rels.map encRel)) := (PS.set_ne _ _ hbn).trans B.l
  generalize st.set bn (.dictS (putK nums x (.int rels.length))) = st2 at B2i B2d B2l h ⊢
  walk_at "ms"
  refine e_meth PySem.F.plainAttrs_list PySem.F.slot_list_append PySem.F.type_list_append rfl rfl (by decide) rfl ?_
  refine e_attr T.own rfl ?_
  walk_at "ms"
  refine ⟨b, 232, db, _, _, rfl, B2i, B2d, rfl, T.reads (rBB _), ?_⟩
  refine ⟨bl, _, rfl, B2l, rfl, rfl, ?_⟩
  walk_at "ms"
  refine ⟨by simp, ?_⟩
  walk_at "ms"
  refine c_append B2l (by simp; omega) ?_
  walk_at "ms"
  refine e_attr T.own rfl ?_
  walk_at "ms"
  refine ⟨b, 232, db, _, _, rfl, (PS.set_ne _ _ hbi2).trans B2i, (PS.set_ne _ _ hdi2).trans B2d, rfl, T.reads (rBB _), ?_⟩
  walk_at "ms"
  refine c_len_list (PS.set_self _ _ _) (by simp; omega) ?_
  walk_at "ms"
  refine o_sub ?_
  have e1 : (((rels.map encRel ++ [PV.tup [.str x, .int ar, encSet lo, encSet hi]]).length : Int) - 1) = rels.length := by simp
  rw [e1]
  rw [List.map_append] at h
  exact h
set_option maxHeartbeats 4000000 in
theorem bsize_ok (T : Tops c top) {b u db bl bn : Addr} {nums : List (Str × PV)} {rels : List Rel} (B : BAt st b u db bl bn nums rels) (hz : rels.length ≤ 100) (h : Q (.int rels.length) st) : WPk c (n + 2) 208 [.loc b] st Q := by
  refine fnk T (o := _) (fd := _) (xs := ["self"]) rfl rfl rfl rfl rfl rfl rfl rfl (by walk_at "bind") rfl (by decide) rfl fun L ql cd => ?_
  walk_at "ms"
  refine e_attr T.own rfl ?_
  walk_at "ms"
  refine ⟨b, 232, db, _, _, rfl, B.i, B.d, rfl, T.reads (rBB _), ?_⟩
  walk_at "ms"
  refine c_len_list B.l (by simp; omega) ?_
  rw [List.length_map]
  exact h
set_option maxHeartbeats 4000000 in
theorem lower_ok (T : Tops c top) {b u db bl bn : Addr} {nums : List (Str × PV)} {rels : List Rel} (B : BAt st b u db bl bn nums rels) {i : Nat} {r : Rel} (hi : rels[i]? = some r) (hz : i ≤ 1000) (h : Q (encSet r.lo) st) : WPk c (n + 2) 215 [.loc b, .int i] st Q := by
  refine fnk T (o := _) (fd := _) (xs := ["self", "r"]) rfl rfl rfl rfl rfl rfl rfl rfl (by walk_at "bind") rfl (by decide) rfl fun L ql cd => ?_
  walk_at "ms"
  refine e_attr T.own rfl ?_
  walk_at "ms"
  refine ⟨b, 232, db, _, _, rfl, B.i, B.d, rfl, T.reads (rBB _), ?_⟩
  walk_at "ms"
  refine g_list (p := encRel r) rfl B.l (by omega) (by omega) (by rw [List.getElem?_map, Int.toNat_natCast, hi]; rfl) ?_
  walk_at "ms"
  exact g_tup rfl (by omega) (by omega) rfl h
set_option maxHeartbeats 4000000 in
theorem upper_ok (T : Tops c top) {b u db bl bn : Addr} {nums : List (Str × PV)} {rels : List Rel} (B : BAt st b u db bl bn nums rels) {i : Nat} {r : Rel} (hi : rels[i]? = some r) (hz : i ≤ 1000) (h : Q (encSet r.hi) st) : WPk c (n + 2) 222 [.loc b, .int i] st Q := by
  refine fnk T (o := _) (fd := _) (xs := ["self", "r"]) rfl rfl rfl rfl rfl rfl rfl rfl (by walk_at "bind") rfl (by decide) rfl fun L ql cd => ?_
  walk_at "ms"
  refine e_attr T.own rfl ?_
  walk_at "ms"
  refine ⟨b, 232, db, _, _, rfl, B.i, B.d, rfl, T.reads (rBB _), ?_⟩
  walk_at "ms"
  refine g_list (p := encRel r) rfl B.l (by omega) (by omega) (by rw [List.getElem?_map, Int.toNat_natCast, hi]; rfl) ?_
  walk_at "ms"
  exact g_tup rfl (by omega) (by omega) rfl h
noncomputable def setsOf (rels : List Rel) : List (List (List Int)) := rels.flatMap fun r => [r.lo, r.hi]
theorem setsOf_take {rels : List Rel} {i : Nat} {r : Rel} (h : rels[i]? = some r) : setsOf (rels.take (i + 1)) = setsOf (rels.take i) ++ [r.lo, r.hi] := by
  unfold setsOf
  rw [List.take_add_one, h, List.flatMap_append]
  simp
theorem setsOf_len (rels : List Rel) : (setsOf rels).length = 2 * rels.length := by
  unfold setsOf
  induction rels with
  | nil => rfl
  | cons r rels ih => simp only [List.flatMap_cons, List.length_append, List.length_cons, List.length_nil] at ih ⊢; omega
set_option maxHeartbeats 16000000 in
theorem lots_ok (T : Tops c top) {b u db bl bn du nu ct : Addr} {nums : List (Str × PV)} {rels : List Rel} {nm : List Str} {cs : List (List (List Int))} (B : BAt st b u db bl bn nums rels) (U : UAt st u du nu nm) (hm : nm.length ≤ 4) (hz : rels.length ≤ 100) (hct : st ct = some (.list (cs.map encSet))) (hcz : cs.length ≤ 200)
    (hg : ∀ S ∈ cs ++ setsOf rels, GoodS S)
    (h : ∀ ps D, PInv (alike (cs ++ setsOf rels)) nm.length ps → st D = none → c.B.get? D = none → Q (.loc D) (st.set D (.list (ps.map fun p => encRow (p.1 :: p.2))))) : WPk c (n + 12) 50 [.loc b, .loc ct] st Q := by
  refine WPk.sub ?_
  refine fnk T (o := _) (fd := _) (xs := ["bounds", "constants"]) rfl rfl rfl rfl rfl rfl rfl rfl (by walk_at "bind") rfl (by decide) rfl fun L ql cd => ?_
  walk_at "ms"
  refine c_list hct (by simp; omega) fun D d1 d2 => ?_
  walk_at "m"
  refine x_forS ?_ rfl (fun _ => rfl)
  walk_at "ms"
  refine e_call_inst (f := 208) T.own rfl rfl (by decide) rfl ?_
  walk_at "ms"
  have l0 : Le st (st.set D (.list (cs.map encSet))) := Le.set d1
  refine ⟨b, 232, db, _, rfl, (B.le l0).i, (B.le l0).d, rfl, T.meth (mBs _), ?_⟩
  walk_at "ms"
  refine (bsize_ok T (B.le l0) hz ?_).call
  have sl := setsOf_len rels
  refine ⟨_, rfl, by omega, fun i ρ' st' => Sub [("some", .loc D), ("bounds", .loc b)] ρ' ∧ Le st st' ∧ st' D = some (.list ((cs ++ setsOf (rels.take i)).map encSet)), ⟨?_, l0, by simp [setsOf]⟩, fun _ _ _ _ => trivial, fun i p ρ' st' hp ⟨j1, j2, j3⟩ => ?_, fun ρ' st' ⟨j1, j2, j3⟩ => ?_⟩
  · intro y q e
    by_cases hy : y = "some"
    · subst hy; exact e
    · have h1 : (y == ("some" : Str)) = false := beq_eq_false_iff_ne.mpr hy
      by_cases hy2 : y = "bounds"
      · subst hy2; exact e
      · have h2 : (y == ("bounds" : Str)) = false := beq_eq_false_iff_ne.mpr hy2
        simp [List.lookup_cons, h1, h2] at e
  · have hi : i < rels.length := by
      have := (List.getElem?_eq_some_iff.mp hp).1
      simpa [Src.items] using this
    have hpe : p = .int i := by
      obtain ⟨h1, h2⟩ := List.getElem?_eq_some_iff.mp hp
      simp only [Src.items, List.getElem_map, List.getElem_range] at h2
      rw [← h2]; congr 1; omega
    subst hpe
    have hr : rels[i]? = some rels[i] := List.getElem?_eq_getElem hi
    have sl2 := setsOf_len (rels.take i)
    rw [List.length_take] at sl2
    refine WPs.weaken (ρ' := [("r", .int i), ("some", .loc D), ("bounds", .loc b)]) ?_ j1.both
    walk_at "ms"
    refine e_meth PySem.F.plainAttrs_list PySem.F.slot_list_extend PySem.F.type_list_extend rfl rfl (by decide) rfl ?_
    walk_at "ms"
    refine ⟨D, _, rfl, j3, rfl, rfl, ?_⟩
    walk_at "ms"
    refine e_call_inst (f := 215) T.own rfl rfl (by decide) rfl ?_
    walk_at "ms"
    refine ⟨b, 232, db, _, rfl, (B.le j2).i, (B.le j2).d, rfl, T.meth (mBl _), ?_⟩
    walk_at "ms"
    refine (lower_ok T (B.le j2) hr (by omega) ?_).call
    walk_at "ms"
    refine e_call_inst (f := 222) T.own rfl rfl (by decide) rfl ?_
    walk_at "ms"
    refine ⟨b, 232, db, _, rfl, (B.le j2).i, (B.le j2).d, rfl, T.meth (mBu _), ?_⟩
    walk_at "ms"
    refine (upper_ok T (B.le j2) hr (by omega) ?_).call
    walk_at "ms"
    refine ⟨by simp, fun D2 e1 e2 => ?_⟩
    have hD2 : D2 ≠ D := by rintro rfl; rw [j3] at e1; cases e1
    walk_at "ms"
    refine c_extend ((PS.set_ne _ _ (Ne.symm hD2)).trans j3) (PS.set_self _ _ _) (by simp; omega) ?_
    walk_at "ms"
    refine ⟨_, Le.refl _, (Sub.refl _).cons rfl, fun y po e => ?_, ?_⟩
    · have hy : st' y = some po := j2 _ _ e
      rw [PS.set_ne _ _ (by rintro rfl; rw [d1] at e; cases e), PS.set_ne _ _ (by rintro rfl; rw [hy] at e1; cases e1)]; exact hy
    · rw [PS.set_self, setsOf_take hr]; simp
  · have e0 : (Src.rng 0 (rels.length : Int)).items.length = rels.length := by simp [Src.items]
    rw [e0, List.take_length] at j3
    refine WPs.weaken (ρ' := [("some", .loc D), ("bounds", .loc b)]) ?_ j1
    walk_at "ms"
    refine e_call_inst (f := 124) T.own rfl rfl (by decide) rfl ?_
    refine e_attr T.own rfl ?_
    walk_at "ms"
    refine ⟨b, 232, db, _, _, rfl, (B.le j2).i, (B.le j2).d, rfl, T.reads (rBU _), ?_⟩
    refine ⟨u, 155, du, _, rfl, (U.le j2).i, (U.le j2).d, rfl, T.meth (mUs _), ?_⟩
    walk_at "ms"
    refine (usize_ok T (U.le j2) (by omega) ?_).call
    walk_at "ms"
    refine (parts_of_ok T (by omega) hg j3 fun ps D2 hp e1 e2 => ?_).call
    exact ⟨_, j2.set2 _ _, h ps D2 hp (j2.none e1) e2⟩
end

theorem Sub.nil {ρ : Vars} : Sub [] ρ := fun y q e => by simp at e
theorem Sub.add {ρ0 ρ : Vars} {x : Str} {p : PV} (h1 : ρ.lookup x = some p) (h : Sub ρ0 ρ) : Sub ((x, p) :: ρ0) ρ := fun y q e => by
  by_cases hy : y = x
  · subst hy
    simp only [List.lookup_cons, beq_self_eq_true, Option.some.injEq] at e
    rw [h1, e]
  · have hb : (y == x) = false := beq_eq_false_iff_ne.mpr hy
    simp only [List.lookup_cons, hb] at e
    exact h y q e
noncomputable def rangeI (k : Nat) : List Int := (List.range k).map fun (j : Nat) => (j : Int)
theorem rangeI_succ (k : Nat) : rangeI (k + 1) = rangeI k ++ [(k : Int)] := by simp [rangeI, List.range_succ]
theorem rangeI_len (k : Nat) : (rangeI k).length = k := by simp [rangeI]
theorem mem_rangeI {k : Nat} {x : Int} : x ∈ rangeI k ↔ 0 ≤ x ∧ x < k := by
  simp only [rangeI, List.mem_map, List.mem_range]
  constructor
  · rintro ⟨a, h, rfl⟩; omega
  · intro h; exact ⟨x.toNat, by omega, by omega⟩
theorem insert_perm {r : List Int} {k : Nat} {i : Nat} (h : r.Perm (rangeI i)) : (r.take k ++ [(i : Int)] ++ r.drop k).Perm (rangeI (i + 1)) := by
  rw [rangeI_succ]
  have h1 : (r.take k ++ [(i : Int)] ++ r.drop k).Perm (r ++ [(i : Int)]) := by
    rw [List.append_assoc]
    have : (r.take k ++ ([(i : Int)] ++ r.drop k)).Perm (r.take k ++ (r.drop k ++ [(i : Int)])) := List.Perm.append_left _ List.perm_append_comm
    refine this.trans ?_
    rw [← List.append_assoc, List.take_append_drop]
  exact h1.trans (h.append_right _)
noncomputable def facN : Nat → Nat
  | 0 => 1
  | n + 1 => facN n * (n + 1)
noncomputable def rowF (row : List Int) (a : Int) : Int := row.getD a.toNat 0
noncomputable def keptBy (sm : List (List (List Int))) (row : List Int) : Prop := ∀ S ∈ sm, (S.map (List.map (rowF row))).Perm S
section
variable {c : Cx} {n : Nat} {env : Env} {ρ : Vars} {st : PS} {Q : PV → PS → Prop}
set_option maxHeartbeats 16000000 in
theorem orders_ok (T : Tops c top) {m : Nat} (hm : m ≤ 4) (h : ∀ (rows : List (List Int)) (D : Addr), (∀ r ∈ rows, r.Perm (rangeI m)) → rows.length ≤ 24 → st D = none → c.B.get? D = none → Q (.loc D) (st.set D (.list (rows.map encRow)))) : WPk c (n + 3) 272 [.int m] st Q := by
  refine WPk.sub ?_
  refine fnk T (o := _) (fd := _) (xs := ["n"]) rfl rfl rfl rfl rfl rfl rfl rfl (by walk_at "bind") rfl (by decide) rfl fun L ql cd => ?_
  walk_at "ms"
  refine ⟨by simp, ?_⟩
  walk_at "ms"
  refine ⟨by simp, fun D0 d1 d2 => ?_⟩
  walk_at "m"
  refine x_forS ?_ rfl (fun _ => rfl)
  walk_at "ms"
  refine ⟨_, rfl, by omega, fun i ρ' st' => ∃ (D : Addr) (rows : List (List Int)), Sub [("found", .loc D), ("n", .int m)] ρ' ∧ Le st st' ∧ st D = none ∧ c.B.get? D = none ∧ st' D = some (.list (rows.map encRow)) ∧ (∀ r ∈ rows, r.Perm (rangeI i)) ∧ rows.length = facN i, ⟨D0, [[]], Sub.add rfl (Sub.add rfl Sub.nil), Le.set d1, d1, d2, PS.set_self _ _ _, by simp [rangeI], rfl⟩, fun _ _ _ _ => trivial, fun i p ρ' st' hp ⟨D, rows, j1, j2, j3, j3b, j4, j5, j6⟩ => ?_, fun ρ' st' ⟨D, rows, j1, j2, j3, j3b, j4, j5, j6⟩ => ?_⟩
  · have hi : i < m := by
      have := (List.getElem?_eq_some_iff.mp hp).1
      simpa [Src.items] using this
    have hpe : p = .int i := by
      obtain ⟨h1, h2⟩ := List.getElem?_eq_some_iff.mp hp
      simp only [Src.items, List.getElem_map, List.getElem_range] at h2
      rw [← h2]; congr 1; omega
    subst hpe
    have hfac : facN i ≤ 24 := by
      match i, (by omega : i < 4) with
      | 0, _ => decide
      | 1, _ => decide
      | 2, _ => decide
      | 3, _ => decide
      | n + 4, h => omega
    refine WPs.weaken (ρ' := [("lap", .int i), ("found", .loc D), ("n", .int m)]) ?_ j1.both
    walk_at "m"
    refine x_comp2 ?_ rfl rfl rfl rfl rfl (fun _ => rfl) (fun _ _ => rfl) rfl
    unfold Comp2
    refine i_val ?_
    walk_at "ms"
    refine .inr ⟨_, _, rfl, j4, fun i2 acc st2 => st2 = st' ∧ ∃ rs : List (List Int), acc = rs.map encRow ∧ (∀ r ∈ rs, r.Perm (rangeI (i + 1))) ∧ rs.length = i2 * (i + 1) ∧ i2 ≤ facN i, ⟨rfl, [], rfl, by simp, by simp, Nat.zero_le _⟩, fun i2 acc st2 h => by rw [h.1]; exact j4, fun C i2 p2 acc st2 hp2 ⟨e1, rs, e2, e3, e4, e5⟩ => ?_, fun acc st2 ⟨e1, rs, e2, e3, e4, e5⟩ D2 f1 f2 => ?_⟩
    · subst e1
      have hp2' : (rows.map encRow)[i2]? = some p2 := hp2
      rw [List.getElem?_map] at hp2'
      obtain ⟨r, hr, rfl⟩ := Option.map_eq_some_iff.mp hp2'
      have hi2 := (List.getElem?_eq_some_iff.mp hr).1
      have hrp := j5 r (List.mem_of_getElem? hr)
      have hrl : r.length = i := by rw [hrp.length_eq, rangeI_len]
      have hmul : i2 * (i + 1) ≤ 24 * 4 := Nat.mul_le_mul (by omega) (by omega)
      walk_at "ms"
      refine o_add ?_
      refine ⟨_, rfl, by omega, fun j a st3 => st3 = st2 ∧ ∃ rs' : List (List Int), a = rs'.map encRow ∧ (∀ r ∈ rs', r.Perm (rangeI (i + 1))) ∧ rs'.length = i2 * (i + 1) + j ∧ j ≤ i + 1, ⟨rfl, rs, e2, e3, by omega, Nat.zero_le _⟩, fun j a st3 ⟨g1, rs', g2, g3, g4, g5⟩ => ⟨trivial, by rw [g2, List.length_map]; omega⟩, fun j q a st3 hq ⟨g1, rs', g2, g3, g4, g5⟩ => ?_, fun a st3 ⟨g1, rs', g2, g3, g4, g5⟩ => ?_⟩
      · subst g1
        have hj : j < i + 1 := by
          have := (List.getElem?_eq_some_iff.mp hq).1
          simp [Src.items] at this; omega
        have hqe : q = .int j := by
          obtain ⟨h1, h2⟩ := List.getElem?_eq_some_iff.mp hq
          simp only [Src.items, List.getElem_map, List.getElem_range] at h2
          rw [← h2]; congr 1; omega
        subst hqe
        walk_at "ms"
        refine ⟨r.map .int, j, rfl, rfl, by simp; omega, by simp; omega, ?_⟩
        walk_at "ms"
        refine ⟨by simp, ?_⟩
        refine o_addt (by simp; omega) ?_
        walk_at "ms"
        refine ⟨r.map .int, j, rfl, rfl, by simp; omega, by simp; omega, ?_⟩
        refine o_addt (by simp; omega) ?_
        refine ⟨rfl, rs' ++ [r.take j ++ [(i : Int)] ++ r.drop j], ?_, fun x hx => ?_, by simp; omega, by omega⟩
        · rw [g2, List.map_append]
          simp [encRow, List.map_take, List.map_drop]
        · rcases List.mem_append.mp hx with hx | hx
          · exact g3 x hx
          · rw [List.mem_singleton.mp hx]; exact insert_perm hrp
      · subst g1
        have e0 : (Src.rng 0 ((i : Int) + 1)).items.length = i + 1 := by simp [Src.items]
        rw [e0] at g4
        exact ⟨rfl, rs', g2, g3, by rw [g4, Nat.add_mul, Nat.one_mul], by omega⟩
    · subst e1
      have e0 : (Src.lst D (rows.map encRow)).items.length = facN i := by simp [Src.items, j6]
      rw [e0] at e4
      walk_at "ms"
      refine ⟨_, Le.refl _, D2, rs, Sub.add rfl (Sub.add rfl Sub.nil), j2.trans (Le.set f1), j2.none f1, f2, by rw [PS.set_self, e2], e3, e4⟩
  · have e0 : (Src.rng 0 (m : Int)).items.length = m := by simp [Src.items]
    rw [e0] at j5 j6
    have hfac : facN m ≤ 24 := by
      match m, hm with
      | 0, _ => decide
      | 1, _ => decide
      | 2, _ => decide
      | 3, _ => decide
      | 4, _ => decide
      | n + 5, h => omega
    refine WPs.weaken (ρ' := [("found", .loc D), ("n", .int m)]) ?_ j1
    walk_at "ms"
    refine ⟨st.set D (.list (rows.map encRow)), fun b po e => ?_, h rows D j5 (by omega) j3 j3b⟩
    by_cases hb : b = D
    · subst hb; rw [PS.set_self] at e; rw [j4]; exact e
    · rw [PS.set_ne _ _ hb] at e; exact j2 _ _ e
set_option maxHeartbeats 8000000 in
theorem kept_ok (T : Tops c top) {sm : List (List (List Int))} {row : List Int} {l : Addr} (hg : ∀ S ∈ sm, GoodS S) (hin : ∀ S ∈ sm, ∀ r ∈ S, ∀ a ∈ r, 0 ≤ a ∧ a < row.length) (hrl : row.length ≤ 100) (hl : st l = some (.list (sm.map encSet)))
    (h : ∀ x : Bool, (x = true ↔ keptBy sm row) → Q (.bool x) st) : WPk c (n + 7) 277 [.loc l, encRow row] st Q := by
  refine WPk.sub ?_
  refine fnk T (o := _) (fd := _) (xs := ["some", "row"]) rfl rfl rfl rfl rfl rfl rfl rfl (by walk_at "bind") rfl (by decide) rfl fun L ql cd => ?_
  walk_at "m"
  refine x_forS ?_ rfl (fun _ => rfl)
  refine i_val ?_
  walk_at "ms"
  refine .inr ⟨_, _, rfl, hl, fun i ρ' st' => Sub [("some", .loc l), ("row", encRow row)] ρ' ∧ st' = st ∧ ∀ S ∈ sm.take i, (S.map (List.map (rowF row))).Perm S, ⟨Sub.refl _, rfl, by simp⟩, fun i ρ' st' h => h.2.1 ▸ hl, fun i p ρ' st' hp ⟨j1, j2, j3⟩ => ?_, fun ρ' st' ⟨j1, j2, j3⟩ => ?_⟩
  · subst j2
    have hp' : (sm.map encSet)[i]? = some p := hp
    rw [List.getElem?_map] at hp'
    obtain ⟨S, hS, rfl⟩ := Option.map_eq_some_iff.mp hp'
    have hSm := List.mem_of_getElem? hS
    have gS := hg S hSm
    have gl := gS.len
    refine WPs.weaken (ρ' := [("one", encSet S), ("some", .loc l), ("row", encRow row)]) ?_ j1.both
    walk_at "ms"
    refine (e_comp1 (comp_map ?_) rfl rfl (fun _ => rfl))
    refine i_val ?_
    walk_at "ms"
    refine .inl ⟨_, rfl, trivial, by simp [Src.items]; omega, S.map fun r => encRow (r.map (rowF row)), by simp [Src.items], fun C i p q hp hq => ?_, fun D2 e1 e2 => ?_⟩
    · rw [List.getElem?_map] at hq
      obtain ⟨r, hr', rfl⟩ := Option.map_eq_some_iff.mp hq
      have hp' : (S.map encRow)[i]? = some p := hp
      rw [List.getElem?_map, hr'] at hp'
      obtain rfl := Option.some.inj hp'
      have hrl := gS.row r (List.mem_of_getElem? hr')
      walk_at "ms"
      refine (e_comp1 (comp_map ?_) rfl rfl (fun _ => rfl))
      refine i_val ?_
      walk_at "ms"
      refine .inl ⟨_, rfl, trivial, by simp [Src.items]; omega, r.map fun a => .int (rowF row a), by simp [Src.items], fun C2 i2 p2 q2 hp2 hq2 => ?_, fun D3 f1 f2 => ?_⟩
      · rw [List.getElem?_map] at hq2
        obtain ⟨x, hx, rfl⟩ := Option.map_eq_some_iff.mp hq2
        have hp' : (r.map PV.int)[i2]? = some p2 := hp2
        rw [List.getElem?_map, hx] at hp'
        obtain rfl := Option.some.inj hp'
        obtain ⟨x0, x1⟩ := hin S hSm r (List.mem_of_getElem? hr') x (List.mem_of_getElem? hx)
        have hg1 : row[x.toNat]? = some (rowF row x) := by
          unfold rowF
          rw [List.getD_eq_getElem?_getD, List.getElem?_eq_getElem (by omega)]; rfl
        walk_at "ms"
        exact g_tup (p := .int (rowF row x)) rfl x0 (by omega) (by rw [List.getElem?_map, hg1]; rfl) ⟨rfl, Le.refl _⟩
      · walk_at "ms"
        exact c_tuple (PS.set_self _ _ _) (by simp; omega) ⟨by simp [encRow], Le.set f1⟩
    · walk_at "ms"
      refine c_sorted_list (n := n + 3) (keydR (n := n + 2)) (as := S.map (List.map (rowF row))) (by rw [PS.set_self, List.map_map]; rfl) (by simpa using gl) fun bs D3 p1 p2 f1 f2 => ?_
      walk_at "ms"
      refine c_tuple (PS.set_self _ _ _) (by rw [List.length_map, p1.length_eq, List.length_map]; omega) ?_
      walk_at "ms"
      refine o_ned (okS bs) (okS _) ⟨_, rfl, ?_⟩
      have ebq : PV.beq (.tup (bs.map encRow)) (encSet S) = decide (bs = S) := beqS bs S
      rw [ebq]
      by_cases e : bs = S
      · subst e
        rw [if_neg (by simp)]
        walk_at "ms"
        refine ⟨_, (Le.set e1).trans (Le.set f1), (Sub.refl _).cons rfl, rfl, ?_⟩
        intro S2 hS2
        rw [List.take_add_one, hS] at hS2
        rcases List.mem_append.mp hS2 with h2 | h2
        · exact j3 S2 h2
        · obtain rfl := List.mem_singleton.mp h2
          exact p1.symm
      · rw [if_pos (by simp [e])]
        walk_at "ms"
        refine ⟨_, (Le.set e1).trans (Le.set f1), _, Le.refl _, h false ⟨fun h => (by cases h), fun ha => absurd ?_ e⟩⟩
        exact asc_unique (ordd_lex ordd_int) (p1.trans (ha S hSm)) p2 gS.asc
  · subst j2
    have e : (Src.lst l (sm.map encSet)).items.length = sm.length := by simp [Src.items]
    rw [e, List.take_length] at j3
    walk_at "ms"
    exact ⟨_, Le.refl _, h true ⟨fun _ => j3, fun _ => rfl⟩⟩
end

/-- an exchange of names keeps every set -/
noncomputable def keepsF (sm : List (List (List Int))) (f : Int → Int) : Prop := ∀ S ∈ sm, (S.map (List.map f)).Perm S
theorem keepsF.comp {sm : List (List (List Int))} {f g : Int → Int} (hf : keepsF sm f) (hg : keepsF sm g) : keepsF sm (fun x => f (g x)) := fun S hS => by
  have e : S.map (List.map fun x => f (g x)) = (S.map (List.map g)).map (List.map f) := by
    rw [List.map_map]; congr 1; funext r; simp [Function.comp]
  rw [e]
  exact ((hg S hS).map _).trans (hf S hS)
theorem keepsF.congr {sm : List (List (List Int))} {f g : Int → Int} (h : ∀ S ∈ sm, ∀ r ∈ S, ∀ x ∈ r, f x = g x) (hf : keepsF sm f) : keepsF sm g := fun S hS => by
  have e : S.map (List.map g) = S.map (List.map f) := List.map_congr_left fun r hr => List.map_congr_left fun x hx => (h S hS r hr x hx).symm
  rw [e]; exact hf S hS
theorem keepsF.id {sm : List (List (List Int))} : keepsF sm (fun x => x) := fun S hS => by
  have e : S.map (List.map fun x : Int => x) = S := by
    have : (List.map fun x : Int => x) = fun r => r := by funext r; simp
    rw [this]; simp
  rw [e]
theorem alike_iff {sm : List (List (List Int))} {a b : Int} : alike sm a b ↔ keepsF sm (swapOf a b) := Iff.rfl
theorem swap_self (a x : Int) : swapOf a a x = x := by unfold swapOf; split <;> simp_all
theorem swap_comm (a b x : Int) : swapOf a b x = swapOf b a x := by
  unfold swapOf; by_cases h1 : x = a <;> by_cases h2 : x = b <;> simp_all
theorem swap_swap (a b x : Int) : swapOf a b (swapOf a b x) = x := by
  unfold swapOf
  by_cases h1 : x = a <;> by_cases h2 : x = b <;> simp_all
theorem alike_refl (sm : List (List (List Int))) (a : Int) : alike sm a a := keepsF.congr (f := fun x => x) (fun _ _ _ _ x _ => (swap_self a x).symm) keepsF.id
theorem alike_symm {sm : List (List (List Int))} {a b : Int} (h : alike sm a b) : alike sm b a := keepsF.congr (fun _ _ _ _ x _ => swap_comm a b x) h
theorem alike_trans {sm : List (List (List Int))} {a b d : Int} (h1 : alike sm a b) (h2 : alike sm b d) : alike sm a d := by
  by_cases e1 : a = b
  · subst e1; exact h2
  by_cases e2 : b = d
  · subst e2; exact h1
  by_cases e3 : a = d
  · subst e3; exact alike_refl _ _
  refine keepsF.congr (fun _ _ _ _ x _ => ?_) (keepsF.comp (alike_iff.mp h1) (keepsF.comp (alike_iff.mp h2) (alike_iff.mp h1)))
  show swapOf a b (swapOf b d (swapOf a b x)) = swapOf a d x
  have hba : b ≠ a := Ne.symm e1
  have hdb : d ≠ b := Ne.symm e2
  have hda : d ≠ a := Ne.symm e3
  by_cases xa : x = a
  · subst xa; simp [swapOf, e1, e2, e3, hba, hdb, hda]
  · by_cases xb : x = b
    · subst xb; simp [swapOf, e1, e2, e3, hba, hdb, hda]
    · by_cases xd : x = d
      · subst xd; simp [swapOf, e1, e2, e3, hba, hdb, hda]
      · simp [swapOf, xa, xb, xd]
section
variable {sm : List (List (List Int))} {k : Nat} {ps : List (Int × List Int)}
theorem PInv.head_alike (P : PInv (alike sm) k ps) {p : Int × List Int} (hp : p ∈ ps) {x : Int} (hx : x ∈ p.1 :: p.2) : alike sm p.1 x := by
  rcases List.mem_cons.mp hx with rfl | hx
  · exact alike_refl _ _
  · exact P.same p hp x hx
theorem PInv.in_same (P : PInv (alike sm) k ps) {p : Int × List Int} (hp : p ∈ ps) {x y : Int} (hx : x ∈ p.1 :: p.2) (hy : y ∈ p.1 :: p.2) : alike sm x y :=
  alike_trans (alike_symm (P.head_alike hp hx)) (P.head_alike hp hy)
theorem PInv.in_diff (P : PInv (alike sm) k ps) {i j : Nat} (hij : i < j) {p q : Int × List Int} (hp : ps[i]? = some p) (hq : ps[j]? = some q) {x y : Int} (hx : x ∈ p.1 :: p.2) (hy : y ∈ q.1 :: q.2) : ¬ alike sm x y := fun h => by
  obtain ⟨hi, rfl⟩ := List.getElem?_eq_some_iff.mp hp
  obtain ⟨hj, rfl⟩ := List.getElem?_eq_some_iff.mp hq
  have := List.pairwise_iff_getElem.mp P.diff i j hi hj hij
  exact this (alike_trans (alike_trans (P.head_alike (List.getElem_mem hi) hx) h) (alike_symm (P.head_alike (List.getElem_mem hj) hy)))
end
/-- a permutation of the names that stays within classes keeps every set -/
theorem perm_keeps {sm : List (List (List Int))} {N : Nat} (hin : ∀ S ∈ sm, ∀ r ∈ S, ∀ x ∈ r, 0 ≤ x ∧ x < (N : Int)) : ∀ (m : Nat), m ≤ N → ∀ f : Int → Int,
    (∀ x : Int, 0 ≤ x → x < N → 0 ≤ f x ∧ f x < N) → (∀ x y : Int, 0 ≤ x → x < N → 0 ≤ y → y < N → f x = f y → x = y) → (∀ x : Int, 0 ≤ x → x < N → alike sm x (f x)) → (∀ x : Int, (m : Int) ≤ x → x < N → f x = x) → keepsF sm f := by
  intro m
  induction m with
  | zero => intro _ f _ _ _ h4; exact keepsF.congr (f := fun x => x) (fun S hS r hr x hx => (h4 x (by have := hin S hS r hr x hx; omega) (hin S hS r hr x hx).2).symm) keepsF.id
  | succ m ih =>
    intro hm f h1 h2 h3 h4
    have hmN : (m : Int) < N := by omega
    obtain ⟨y0, y1⟩ := h1 m (by omega) hmN
    by_cases hy : f m = m
    · refine ih (by omega) f h1 h2 h3 fun x hx hx2 => ?_
      by_cases e : x = m
      · subst e; exact hy
      · exact h4 x (by omega) hx2
    · have ylt : f m < m := by
        by_cases h : f m < m
        · exact h
        · have h5 : ((m + 1 : Nat) : Int) ≤ f m := by omega
          have h6 := h4 (f m) h5 y1
          exact absurd (h2 _ _ y0 y1 (by omega) hmN h6) hy
      have al : alike sm m (f m) := h3 m (by omega) hmN
      have key : keepsF sm (fun x => swapOf m (f m) (f x)) := by
        refine ih (by omega) _ (fun x a b => ?_) (fun x z a b a' b' e => ?_) (fun x a b => ?_) fun x a b => ?_
        · obtain ⟨u, v⟩ := h1 x a b
          show 0 ≤ swapOf m (f m) (f x) ∧ swapOf m (f m) (f x) < N
          unfold swapOf; split
          · omega
          · split <;> omega
        · have e2 := congrArg (swapOf m (f m)) e
          simp only [swap_swap] at e2
          exact h2 x z a b a' b' e2
        · show alike sm x (swapOf m (f m) (f x))
          have hx := h3 x a b
          unfold swapOf
          split
          · rename_i hq; rw [hq] at hx; exact alike_trans hx (alike_symm al)
          · split
            · rename_i hq _ ; exact alike_trans (by rename_i h7; rw [h7] at hx; exact hx) al
            · exact hx
        · show swapOf m (f m) (f x) = x
          by_cases e : x = m
          · subst e; unfold swapOf; rw [if_pos rfl]
          · rw [h4 x (by omega) b]
            unfold swapOf
            rw [if_neg (by omega), if_neg e]
      refine keepsF.congr (fun _ _ _ _ x _ => ?_) (keepsF.comp (alike_iff.mp al) key)
      exact swap_swap _ _ _
theorem rowF_of_perm {N : Nat} {row : List Int} (h : row.Perm (rangeI N)) : (∀ x : Int, 0 ≤ x → x < N → 0 ≤ rowF row x ∧ rowF row x < N) ∧ (∀ x y : Int, 0 ≤ x → x < N → 0 ≤ y → y < N → rowF row x = rowF row y → x = y) := by
  have hl : row.length = N := by rw [h.length_eq, rangeI_len]
  have hnd : row.Nodup := h.nodup_iff.mpr (by
    unfold rangeI
    rw [List.nodup_iff_pairwise_ne, List.pairwise_map]
    exact List.nodup_range.imp fun {a b} hab e => hab (by omega))
  have get : ∀ x : Int, 0 ≤ x → x < N → ∃ hx : x.toNat < row.length, rowF row x = row[x.toNat] := fun x a b => ⟨by omega, by
    unfold rowF; rw [List.getD_eq_getElem?_getD, List.getElem?_eq_getElem (by omega)]; rfl⟩
  refine ⟨fun x a b => ?_, fun x y a b a' b' e => ?_⟩
  · obtain ⟨hx, e⟩ := get x a b
    rw [e]
    exact mem_rangeI.mp (h.mem_iff.mp (List.getElem_mem hx))
  · obtain ⟨hx, e1⟩ := get x a b
    obtain ⟨hy, e2⟩ := get y a' b'
    rw [e1, e2] at e
    have := (List.getElem_inj hnd).mp e
    omega
theorem kept_of_perm {sm : List (List (List Int))} {N : Nat} (hin : ∀ S ∈ sm, ∀ r ∈ S, ∀ x ∈ r, 0 ≤ x ∧ x < (N : Int)) {row : List Int} (h : row.Perm (rangeI N)) (hal : ∀ x : Int, 0 ≤ x → x < N → alike sm x (rowF row x)) : keptBy sm row := by
  obtain ⟨h1, h2⟩ := rowF_of_perm h
  exact perm_keeps hin N (Nat.le_refl _) _ h1 h2 hal fun x a b => by omega
theorem kept_swap {sm : List (List (List Int))} {N : Nat} (hin : ∀ S ∈ sm, ∀ r ∈ S, ∀ x ∈ r, 0 ≤ x ∧ x < (N : Int)) {a b : Int} : keptBy sm ((rangeI N).map (swapOf a b)) ↔ alike sm a b := by
  have e : ∀ x : Int, 0 ≤ x → x < N → rowF ((rangeI N).map (swapOf a b)) x = swapOf a b x := fun x h0 h1 => by
    have : (rangeI N)[x.toNat]? = some x := by
      unfold rangeI
      rw [List.getElem?_map, List.getElem?_range (by omega)]
      simp; omega
    unfold rowF
    rw [List.getD_eq_getElem?_getD, List.getElem?_map, this]; rfl
  constructor
  · exact fun h => keepsF.congr (fun S hS r hr x hx => e x (hin S hS r hr x hx).1 (hin S hS r hr x hx).2) h
  · exact fun h => keepsF.congr (fun S hS r hr x hx => (e x (hin S hS r hr x hx).1 (hin S hS r hr x hx).2).symm) h

noncomputable def encH (L : List (Int × Nat)) : List (Int × PV) := L.map fun z => (z.1, .int z.2)
theorem look_encH_none {L : List (Int × Nat)} {x : Int} (h : x ∉ L.map (·.1)) : look (encH L) x = none := by
  unfold look encH
  rw [List.find?_eq_none.mpr, Option.map_none]
  intro z hz
  obtain ⟨y, hy, rfl⟩ := List.mem_map.mp hz
  simp only [decide_eq_true_eq]
  rintro rfl
  exact h (List.mem_map.mpr ⟨y, hy, rfl⟩)
theorem look_encH {L : List (Int × Nat)} {x : Int} {j : Nat} (hn : (L.map (·.1)).Nodup) (h : (x, j) ∈ L) : look (encH L) x = some (.int j) := by
  unfold look encH
  induction L with
  | nil => cases h
  | cons z L ih =>
    rw [List.map_cons, List.nodup_cons] at hn
    rcases List.mem_cons.mp h with rfl | h
    · simp
    · have : z.1 ≠ x := by rintro rfl; exact hn.1 (List.mem_map.mpr ⟨_, h, rfl⟩)
      simp only [List.map_cons, List.find?_cons, this, decide_false]
      exact ih hn.2 h
theorem putK_new {l : List (Int × PV)} {x : Int} {p : PV} (h : look l x = none) : putK l x p = l ++ [(x, p)] := by
  unfold putK
  rw [if_neg]
  intro hc
  obtain ⟨z, hz, e⟩ := List.any_eq_true.mp hc
  unfold look at h
  rw [Option.map_eq_none_iff, List.find?_eq_none] at h
  exact h z hz e
structure HAt (ps : List (Int × List Int)) (k : Nat) (extra : List Int) (L : List (Int × Nat)) : Prop where
  nd : (L.map (·.1)).Nodup
  mem : ∀ z, z ∈ L ↔ (z.2 < k ∧ ∃ p, ps[z.2]? = some p ∧ z.1 ∈ p.1 :: p.2) ∨ (z.2 = k ∧ z.1 ∈ extra)
theorem nodup_of_asc {l : List Int} (h : l.Pairwise (· < ·)) : l.Nodup := h.imp fun {a b} hab => by omega
theorem HAt.fresh {al : Int → Int → Prop} {N : Nat} {ps : List (Int × List Int)} {k : Nat} {p : Int × List Int} {i : Nat} {a : Int} {L : List (Int × Nat)} (P : PInv al N ps) (hp : ps[k]? = some p) (H : HAt ps k ((p.1 :: p.2).take i) L) (ha : (p.1 :: p.2)[i]? = some a) : a ∉ L.map (·.1) := by
  intro hm
  obtain ⟨z, hz, e⟩ := List.mem_map.mp hm
  obtain ⟨hk, rfl⟩ := List.getElem?_eq_some_iff.mp hp
  have ham := List.mem_of_getElem? ha
  rcases (H.mem z).mp hz with ⟨h1, q, h2, h3⟩ | ⟨h1, h2⟩
  · obtain ⟨hj, rfl⟩ := List.getElem?_eq_some_iff.mp h2
    have := List.pairwise_iff_getElem.mp P.once _ _ hj hk h1 _ h3
    rw [e] at this; exact this ham
  · rw [e] at h2
    obtain ⟨j, hj, e2⟩ := List.mem_iff_getElem.mp h2
    rw [List.length_take] at hj
    rw [List.getElem_take] at e2
    obtain ⟨hi, e3⟩ := List.getElem?_eq_some_iff.mp ha
    have := (List.getElem_inj (nodup_of_asc (P.asc _ (List.getElem_mem hk)))).mp (e2.trans e3.symm)
    omega
theorem HAt.step {ps : List (Int × List Int)} {k : Nat} {l : List Int} {i : Nat} {a : Int} {L : List (Int × Nat)} (H : HAt ps k (l.take i) L) (ha : l[i]? = some a) (hf : a ∉ L.map (·.1)) : HAt ps k (l.take (i + 1)) (L ++ [(a, k)]) where
  nd := by
    rw [List.map_append]
    refine List.nodup_append.mpr ⟨H.nd, by simp, fun x hx y hy e => ?_⟩
    obtain rfl := List.mem_singleton.mp hy
    exact hf (e ▸ hx)
  mem z := by
    rw [List.mem_append, List.take_add_one, ha, H.mem z]
    constructor
    · rintro ((h | ⟨h1, h2⟩) | h)
      · exact .inl h
      · exact .inr ⟨h1, List.mem_append_left _ h2⟩
      · obtain rfl := List.mem_singleton.mp h; exact .inr ⟨rfl, by simp⟩
    · rintro (h | ⟨h1, h2⟩)
      · exact .inl (.inl h)
      · rcases List.mem_append.mp h2 with h2 | h2
        · exact .inl (.inr ⟨h1, h2⟩)
        · refine .inr ?_
          have : z.1 = a := by simpa using h2
          rw [List.mem_singleton]; exact Prod.ext this h1
theorem HAt.next {ps : List (Int × List Int)} {k : Nat} {p : Int × List Int} {L : List (Int × Nat)} (hp : ps[k]? = some p) (H : HAt ps k (p.1 :: p.2) L) : HAt ps (k + 1) [] L where
  nd := H.nd
  mem z := by
    rw [H.mem z]
    constructor
    · rintro (⟨h1, h2⟩ | ⟨h1, h2⟩)
      · exact .inl ⟨by omega, h2⟩
      · exact .inl ⟨by omega, p, by rw [h1]; exact hp, h2⟩
    · rintro (⟨h1, q, h2, h3⟩ | ⟨h1, h2⟩)
      · by_cases e : z.2 = k
        · rw [e, hp] at h2; cases h2; exact .inr ⟨e, h3⟩
        · exact .inl ⟨by omega, q, h2, h3⟩
      · cases h2
section
variable {c : Cx} {n : Nat} {env : Env} {ρ : Vars} {st : PS} {Q : PV → PS → Prop}
set_option maxHeartbeats 32000000 in
theorem right_ok (T : Tops c top) {N : Nat} {P l : Addr} {sm : List (List (List Int))} {ps : List (Int × List Int)} (hN : N ≤ 4) (PI : PInv (alike sm) N ps) (hP : st P = some (.list (ps.map fun p => encRow (p.1 :: p.2)))) (hl : st l = some (.list (sm.map encSet))) (hg : ∀ S ∈ sm, GoodS S)
    (hin : ∀ S ∈ sm, ∀ r ∈ S, ∀ x ∈ r, 0 ≤ x ∧ x < (N : Int)) (h : Q (.bool true) st) : WPk c (n + 9) 282 [.int N, .loc P, .loc l] st Q := by
  refine WPk.sub ?_
  refine fnk T (o := _) (fd := _) (xs := ["n", "parts", "some"]) rfl rfl rfl rfl rfl rfl rfl rfl (by walk_at "bind") rfl (by decide) rfl fun L ql cd => ?_
  have hlen := PI.len
  walk_at "m"
  refine x_assign ?_ rfl rfl
  refine e_dict0I T.sys fun H f1 f2 => ?_
  have l0 : Le st (st.set H (.dictI [])) := Le.set f1
  have lower : ∀ {st' : PS} {x : List (Int × PV)}, Le st st' → Le st (st'.set H (.dictI x)) := fun {st' x} j b po e => by
    rw [PS.set_ne _ _ (by rintro rfl; rw [f1] at e; cases e)]; exact j _ _ e
  walk_at "m"
  refine x_forS ?_ rfl (fun _ => rfl)
  walk_at "ms"
  refine c_len_list (l0 _ _ hP) (by simp; omega) ?_
  rw [List.length_map]
  refine ⟨_, rfl, by omega, fun k ρ' st' => Sub [("homes", .loc H), ("n", .int N), ("parts", .loc P), ("some", .loc l)] ρ' ∧ Le st st' ∧ ∃ L, st' H = some (.dictI (encH L)) ∧ HAt ps k [] L ∧ L.length ≤ 100 * k, ⟨Sub.refl _, l0, [], PS.set_self _ _ _, ⟨by simp, fun z => by simp⟩, by simp⟩, fun _ _ _ _ => trivial, fun k p ρ' st' hp ⟨j1, j2, L, j3, j4, j5⟩ => ?_, fun ρ' st' ⟨j1, j2, L, j3, j4, j5⟩ => ?_⟩
  · have hk : k < ps.length := by
      have := (List.getElem?_eq_some_iff.mp hp).1
      simpa [Src.items] using this
    have hpe : p = .int k := by
      obtain ⟨h1, h2⟩ := List.getElem?_eq_some_iff.mp hp
      simp only [Src.items, List.getElem_map, List.getElem_range] at h2
      rw [← h2]; congr 1; omega
    subst hpe
    obtain ⟨p, hpk⟩ : ∃ p, ps[k]? = some p := ⟨_, List.getElem?_eq_getElem hk⟩
    have hpm := List.mem_of_getElem? hpk
    have hpl := PI.lens p hpm
    have hasc := PI.asc p hpm
    have hP2 := j2 _ _ hP
    have gk : (ps.map fun p => encRow (p.1 :: p.2))[((k : Nat) : Int).toNat]? = some (encRow (p.1 :: p.2)) := by rw [Int.toNat_natCast, List.getElem?_map, hpk]; rfl
    refine WPs.weaken (ρ' := [("k", .int k), ("homes", .loc H), ("n", .int N), ("parts", .loc P), ("some", .loc l)]) ?_ j1.both
    walk_at "m"
    walk_at "m"
    refine b_or ?_
    simp only [WPor]
    walk_at "ms"
    refine g_list rfl hP2 (by omega) (by omega) gk ?_
    walk_at "ms"
    refine ⟨by simp, ?_⟩
    refine o_eqd (okR _) rfl ⟨_, rfl, ?_⟩
    rw [if_neg (by simp [encRow, PV.beq, PV.beqs])]
    walk_at "ms"
    refine g_list rfl hP2 (by omega) (by omega) gk ?_
    walk_at "ms"
    refine g_list rfl hP2 (by omega) (by omega) gk ?_
    walk_at "ms"
    refine c_sorted_tup (n := n + 5) (as := p.1 :: p.2) keyd_int (by simp; omega) fun bs D3 p1 p2 g1 g2 => ?_
    have ebs : bs = p.1 :: p.2 := asc_unique ordd_int p1 p2 (hasc.imp fun {a b} hab => decide_eq_false (by omega))
    subst ebs
    walk_at "ms"
    refine c_tuple (PS.set_self _ _ _) (by simp; omega) ?_
    refine o_ned (okR _) (okR _) ⟨_, rfl, ?_⟩
    rw [if_neg (by rw [show PV.beq (encRow (p.1 :: p.2)) (.tup ((p.1 :: p.2).map .int)) = true from (PV.beq_iff _ _).mpr rfl]; simp)]
    refine WPb.drop (Le.set g1) ?_
    refine WPb.mono (Q := fun x st2 => x = false ∧ st2 = st') ?_ fun x st2 ⟨e1, e2⟩ => ?_
    · walk_at "ms"
      refine o_gt ⟨_, rfl, ?_⟩
      by_cases k0 : 0 < k
      · rw [if_pos (by simp; omega)]
        obtain ⟨q, hq⟩ : ∃ q, ps[k - 1]? = some q := ⟨_, List.getElem?_eq_getElem (by omega)⟩
        have hlt : q.1 < p.1 := by
          obtain ⟨h1, rfl⟩ := List.getElem?_eq_some_iff.mp hpk
          obtain ⟨h2, rfl⟩ := List.getElem?_eq_some_iff.mp hq
          exact List.pairwise_iff_getElem.mp PI.heads (k - 1) k h2 h1 (by omega)
        walk_at "ms"
        refine g_list rfl hP2 (by omega) (by omega) gk ?_
        walk_at "ms"
        refine g_tup (p := .int p.1) rfl (by omega) (by omega) rfl ?_
        walk_at "ms"
        refine o_sub ?_
        have ek : ((k : Int) - 1) = ((k - 1 : Nat) : Int) := by omega
        rw [ek]
        refine g_list (p := encRow (q.1 :: q.2)) rfl hP2 (by omega) (by omega) (by rw [Int.toNat_natCast, List.getElem?_map, hq]; rfl) ?_
        walk_at "ms"
        refine g_tup (p := .int q.1) rfl (by omega) (by omega) rfl ?_
        refine o_le ⟨_, rfl, ?_, rfl⟩
        exact decide_eq_false (by omega)
      · rw [if_neg (by simp; omega)]
        exact ⟨rfl, rfl⟩
    subst e1
    subst e2
    rw [if_neg (by simp), if_neg (by simp)]
    walk_at "m"
    walk_at "m"
    refine x_for ?_ rfl (fun _ => rfl)
    refine i_val ?_
    walk_at "ms"
    refine g_list rfl hP2 (by omega) (by omega) gk ?_
    refine .inl ⟨_, rfl, fun i ρ2 st3 => Sub [("k", .int k), ("homes", .loc H), ("n", .int N), ("parts", .loc P), ("some", .loc l)] ρ2 ∧ Le st st3 ∧ ∃ L, st3 H = some (.dictI (encH L)) ∧ HAt ps k ((p.1 :: p.2).take i) L ∧ L.length ≤ 100 * k + i, ⟨Sub.refl _, j2, L, j3, j4, by omega⟩, fun _ _ _ _ => trivial, fun i q ρ2 st3 hq ⟨g1, g2, L2, g3, g4, g5⟩ => ?_, fun ρ2 st3 ⟨g1, g2, L2, g3, g4, g5⟩ => ?_⟩
    · have hq' : ((p.1 :: p.2).map PV.int)[i]? = some q := hq
      rw [List.getElem?_map] at hq'
      obtain ⟨a, ha, rfl⟩ := Option.map_eq_some_iff.mp hq'
      have hi := (List.getElem?_eq_some_iff.mp ha).1
      simp only [List.length_cons] at hi
      have hf := g4.fresh PI hpk ha
      refine WPs.weaken (ρ' := [("a", .int a), ("k", .int k), ("homes", .loc H), ("n", .int N), ("parts", .loc P), ("some", .loc l)]) ?_ g1.both
      walk_at "ms"
      refine o_inI g3 ⟨_, rfl, ?_⟩
      rw [look_encH_none hf, if_neg (by simp)]
      walk_at "m"
      walk_at "m"
      refine x_setitem ?_ rfl
      walk_at "ms"
      refine set_dictI g3 (by simp [encH]; omega) ?_
      rw [putK_new (look_encH_none hf)]
      walk_at "ms"
      refine ⟨(Sub.refl _).cons rfl, lower g2, L2 ++ [(a, k)], by rw [PS.set_self]; simp [encH], g4.step ha hf, by simp; omega⟩
    · have e0 : (Src.tup ((p.1 :: p.2).map PV.int)).items.length = (p.1 :: p.2).length := by simp [Src.items]
      rw [e0, List.take_length] at g4
      rw [e0] at g5
      walk_at "ms"
      refine ⟨st3, Le.refl _, fun y q e => g1 y q ?_, g2, L2, g3, g4.next hpk, by simp at g5; omega⟩
      exact (Sub.refl _).cons (x := "k") rfl y q e
  · have e0 : (Src.rng 0 (ps.length : Int)).items.length = ps.length := by simp [Src.items]
    rw [e0] at j4 j5
    have keys : (L.map (·.1)).Perm (rangeI N) := by
      refine (List.perm_ext_iff_of_nodup j4.nd ?_).mpr fun x => ?_
      · unfold rangeI
        rw [List.nodup_iff_pairwise_ne, List.pairwise_map]
        exact List.nodup_range.imp fun {a b} hab e => hab (by omega)
      · rw [mem_rangeI, ← PI.mem x]
        constructor
        · intro hx
          obtain ⟨z, hz, rfl⟩ := List.mem_map.mp hx
          rcases (j4.mem z).mp hz with ⟨h1, p, h2, h3⟩ | ⟨_, h2⟩
          · exact ⟨p, List.mem_of_getElem? h2, h3⟩
          · cases h2
        · rintro ⟨p, hp, hx⟩
          obtain ⟨j, hj⟩ := List.mem_iff_getElem?.mp hp
          exact List.mem_map.mpr ⟨(x, j), (j4.mem _).mpr (.inl ⟨(List.getElem?_eq_some_iff.mp hj).1, p, hj, hx⟩), rfl⟩
    have hom : ∀ x : Int, ∃ j : Nat, 0 ≤ x → x < N → look (encH L) x = some (.int j) ∧ ∃ p, ps[j]? = some p ∧ x ∈ p.1 :: p.2 := fun x => by
      by_cases hx : 0 ≤ x ∧ x < N
      · obtain ⟨z, hz, e⟩ := List.mem_map.mp (keys.mem_iff.mpr (mem_rangeI.mpr hx))
        obtain ⟨x', j⟩ := z
        simp only at e
        subst e
        refine ⟨j, fun _ _ => ⟨look_encH j4.nd hz, ?_⟩⟩
        rcases (j4.mem _).mp hz with ⟨h1, p, h2, h3⟩ | ⟨_, h2⟩
        · exact ⟨p, h2, h3⟩
        · cases h2
      · exact ⟨0, fun h1 h2 => absurd ⟨h1, h2⟩ hx⟩
    obtain ⟨home, hhome⟩ := Classical.skolem.mp hom
    have same : ∀ x y : Int, 0 ≤ x → x < N → 0 ≤ y → y < N → home x = home y → alike sm x y := fun x y a b a' b' e => by
      obtain ⟨p, h1, h2⟩ := (hhome x a b).2
      obtain ⟨q, h3, h4⟩ := (hhome y a' b').2
      rw [← e, h1] at h3; cases h3
      exact PI.in_same (List.mem_of_getElem? h1) h2 h4
    have diff : ∀ x y : Int, 0 ≤ x → x < N → 0 ≤ y → y < N → home x ≠ home y → ¬ alike sm x y := fun x y a b a' b' e hal => by
      obtain ⟨p, h1, h2⟩ := (hhome x a b).2
      obtain ⟨q, h3, h4⟩ := (hhome y a' b').2
      rcases Nat.lt_or_gt_of_ne e with hlt | hlt
      · exact PI.in_diff hlt h1 h3 h2 h4 hal
      · exact PI.in_diff hlt h3 h1 h4 h2 (alike_symm hal)
    have hl2 := j2 _ _ hl
    have rl := rangeI_len N
    have asc0 : Asc (fun a b : Int => decide (a < b)) (rangeI N) := by
      unfold Asc rangeI
      rw [List.pairwise_map]
      exact List.pairwise_lt_range.imp fun {a b} hab => decide_eq_false (by omega)
    refine WPs.weaken (ρ' := [("homes", .loc H), ("n", .int N), ("parts", .loc P), ("some", .loc l)]) ?_ j1
    walk_at "ms"
    refine c_sorted_dictI (n := n + 5) j3 (by simp [encH]; have := keys.length_eq; rw [List.length_map, rl] at this; omega) fun bs D3 p1 p2 g1 g2 => ?_
    have ek : (encH L).map (·.1) = L.map (·.1) := by simp [encH, Function.comp]
    rw [ek] at p1
    have ebs : bs = rangeI N := asc_unique ordd_int (p1.trans keys) p2 asc0
    subst ebs
    walk_at "ms"
    refine ⟨N, rfl, by omega, fun D4 g3 g4 => ?_⟩
    have hD34 : D3 ≠ D4 := by rintro rfl; rw [PS.set_self] at g3; cases g3
    refine o_nel ((PS.set_ne _ _ hD34).trans (PS.set_self _ _ _)) (PS.set_self _ _ _) (okD_ints _) (fun p hp => by obtain ⟨i, _, rfl⟩ := List.mem_map.mp hp; rfl) ⟨_, rfl, ?_⟩
    have ebq : PV.beqs ((rangeI N).map .int) ((List.range N).map fun (j : Nat) => PV.int j) = true := (PV.beqs_iff _ _).mpr (by simp [rangeI])
    rw [ebq, if_neg (by simp)]
    refine WPs.drop (st2 := st') ((Le.set g1).trans (Le.set g3)) ?_
    walk_at "m"
    walk_at "m"
    refine x_forS ?_ rfl (fun _ => rfl)
    refine i_val ?_
    walk_at "ms"
    refine (orders_ok T hN fun rows D5 o1 o2 o3 o4 => ?_).call
    have hD5H : D5 ≠ H := by rintro rfl; rw [j3] at o3; cases o3
    refine .inr ⟨_, _, rfl, PS.set_self _ _ _, fun i ρ2 st2 => Sub [("homes", .loc H), ("n", .int N), ("parts", .loc P), ("some", .loc l)] ρ2 ∧ st2 = st'.set D5 (.list (rows.map encRow)), ⟨Sub.refl _, rfl⟩, fun i ρ2 st2 h => by rw [h.2]; exact PS.set_self _ _ _, fun i p ρ2 st2 hp ⟨b1, b2⟩ => ?_, fun ρ2 st2 ⟨b1, b2⟩ => ?_⟩
    · subst b2
      have hOH : (st'.set D5 (.list (rows.map encRow))) H = some (.dictI (encH L)) := (PS.set_ne _ _ (Ne.symm hD5H)).trans j3
      have hOl : (st'.set D5 (.list (rows.map encRow))) l = some (.list (sm.map encSet)) := Le.set o3 _ _ hl2
      generalize st'.set D5 (.list (rows.map encRow)) = stO at hOH hOl ⊢
      have hp' : (rows.map encRow)[i]? = some p := hp
      rw [List.getElem?_map] at hp'
      obtain ⟨r, hr, rfl⟩ := Option.map_eq_some_iff.mp hp'
      have hrp := o1 r (List.mem_of_getElem? hr)
      have hrl : r.length = N := by rw [hrp.length_eq, rl]
      obtain ⟨q1, q2⟩ := rowF_of_perm hrp
      refine WPs.weaken (ρ' := [("row", encRow r), ("homes", .loc H), ("n", .int N), ("parts", .loc P), ("some", .loc l)]) ?_ b1.both
      walk_at "m"
      walk_at "m"
      refine b_and2 ?_
      refine b_cmp ?_ rfl
      refine e_comp1 (comp_filter ?_) rfl rfl (fun _ => rfl)
      walk_at "ms"
      refine ⟨_, rfl, by omega, trivial, by simp [Src.items]; omega, (List.range N).map fun (a : Nat) => if home a ≠ home (rowF r a) then some (PV.int a) else none, by simp [Src.items], fun C a p q hp hq => ?_, fun C a p q hp hq => ?_, fun D6 e1 e2 => ?_⟩
      · have ha : a < N := by
          have := (List.getElem?_eq_some_iff.mp hp).1
          simpa [Src.items] using this
        have hpe : p = .int a := by
          obtain ⟨h1, h2⟩ := List.getElem?_eq_some_iff.mp hp
          simp only [Src.items, List.getElem_map, List.getElem_range] at h2
          rw [← h2]; congr 1; omega
        subst hpe
        rw [List.getElem?_map, List.getElem?_range ha] at hq
        have hq' : (if home a ≠ home (rowF r a) then some (PV.int a) else none) = q := Option.some.inj hq
        subst hq'
        obtain ⟨u1, u2⟩ := q1 a (by omega) (by omega)
        have hg1 : r[((a : Nat) : Int).toNat]? = some (rowF r a) := by
          unfold rowF
          rw [List.getD_eq_getElem?_getD, List.getElem?_eq_getElem (by omega)]; rfl
        walk_at "ms"
        refine g_dictI rfl hOH (hhome a (by omega) (by omega)).1 ?_
        walk_at "ms"
        refine g_tup (p := .int (rowF r a)) rfl (by omega) (by omega) (by rw [List.getElem?_map, hg1]; rfl) ?_
        refine g_dictI rfl hOH (hhome _ u1 u2).1 ?_
        refine o_ne ⟨_, rfl, ?_, Le.refl _⟩
        by_cases e : home a = home (rowF r a)
        · rw [e]; simp
        · rw [if_pos e]; simp; omega
      · have ha : a < N := by
          have := (List.getElem?_eq_some_iff.mp hp).1
          simpa [Src.items] using this
        have hpe : p = .int a := by
          obtain ⟨h1, h2⟩ := List.getElem?_eq_some_iff.mp hp
          simp only [Src.items, List.getElem_map, List.getElem_range] at h2
          rw [← h2]; congr 1; omega
        subst hpe
        rw [List.getElem?_map, List.getElem?_range ha] at hq
        have hq' : (if home a ≠ home (rowF r a) then some (PV.int a) else none) = some q := Option.some.inj hq
        split at hq'
        · cases hq'
          walk_at "ms"
          exact ⟨rfl, Le.refl _⟩
        · cases hq'
      · walk_at "ms"
        refine ⟨by simp, fun D7 e3 e4 => ?_⟩
        have hD67 : D6 ≠ D7 := by rintro rfl; rw [PS.set_self] at e3; cases e3
        refine o_eql ((PS.set_ne _ _ hD67).trans (PS.set_self _ _ _)) (PS.set_self _ _ _) (fun x hx => ?_) (fun x hx => by cases hx) ⟨_, rfl, ?_⟩
        · obtain ⟨z, hz, e⟩ := List.mem_filterMap.mp hx
          obtain ⟨a, _, rfl⟩ := List.mem_map.mp hz
          simp only [id] at e
          split at e
          · cases e; rfl
          · cases e
        · have lO := (Le.set (st := stO) (po := .list (((List.range N).map fun (a : Nat) => if home a ≠ home (rowF r a) then some (PV.int a) else none).filterMap id)) e1).trans (Le.set (po := .list []) e3)
          have fin : ∃ st3, Le st3 (((stO.set D6 (.list (((List.range N).map fun (a : Nat) => if home a ≠ home (rowF r a) then some (PV.int a) else none).filterMap id)))).set D7 (.list [])) ∧ Sub [("homes", .loc H), ("n", .int N), ("parts", .loc P), ("some", .loc l)] (("row", encRow r) :: [("homes", .loc H), ("n", .int N), ("parts", .loc P), ("some", .loc l)] : Vars) ∧ st3 = stO := ⟨stO, lO, (Sub.refl _).cons rfl, rfl⟩
          by_cases hall : ∀ a : Nat, a < N → home a = home (rowF r a)
          · have ef : ((List.range N).map fun (a : Nat) => if home a ≠ home (rowF r a) then some (PV.int a) else none).filterMap id = [] := by
              rw [List.filterMap_map, List.filterMap_eq_nil_iff]
              intro a ha
              simp only [Function.comp, id]
              rw [if_neg (by simpa using hall a (List.mem_range.mp ha))]
            rw [ef] at lO fin ⊢
            rw [if_pos (by rfl)]
            have hk := kept_of_perm hin hrp fun x x0 x1 => same x _ x0 x1 (q1 x x0 x1).1 (q1 x x0 x1).2 (by
              have := hall x.toNat (by omega)
              rwa [Int.toNat_of_nonneg x0] at this)
            walk_at "ms"
            refine (kept_ok T hg (by rw [hrl]; exact hin) (by omega) (lO _ _ hOl) fun x hx => ?_).call
            refine ⟨_, rfl, ?_⟩
            rw [hx.mpr hk, if_neg (by simp)]
            walk_at "ms"
            exact fin
          · have ef : ∃ v t, ((List.range N).map fun (a : Nat) => if home a ≠ home (rowF r a) then some (PV.int a) else none).filterMap id = v :: t := by
              cases hx : ((List.range N).map fun (a : Nat) => if home a ≠ home (rowF r a) then some (PV.int a) else none).filterMap id with
              | cons v t => exact ⟨v, t, rfl⟩
              | nil =>
                exfalso
                rw [List.filterMap_map, List.filterMap_eq_nil_iff] at hx
                refine hall fun a ha => ?_
                have := hx a (List.mem_range.mpr ha)
                simp only [Function.comp, id] at this
                by_cases e : home a = home (rowF r a)
                · exact e
                · rw [if_pos e] at this; cases this
            obtain ⟨v, t, ef⟩ := ef
            rw [ef] at fin ⊢
            rw [if_neg (by simp [PV.beqs]), if_neg (by simp)]
            walk_at "ms"
            exact fin
    · subst b2
      refine WPs.drop (st2 := st') (Le.set o3) ?_
      refine WPs.weaken (ρ' := [("homes", .loc H), ("n", .int N), ("parts", .loc P), ("some", .loc l)]) ?_ b1
      walk_at "m"
      refine x_forS ?_ rfl (fun _ => rfl)
      walk_at "ms"
      refine ⟨_, rfl, by omega, fun i ρ2 st2 => Sub [("homes", .loc H), ("n", .int N), ("parts", .loc P), ("some", .loc l)] ρ2 ∧ st2 = st', ⟨Sub.refl _, rfl⟩, fun _ _ _ _ => trivial, fun i p ρ2 st2 hp ⟨b1, b2⟩ => ?_, fun ρ2 st2 ⟨b1, b2⟩ => ?_⟩
      · subst b2
        have hi : i < N := by
          have := (List.getElem?_eq_some_iff.mp hp).1
          simpa [Src.items] using this
        have hpe : p = .int i := by
          obtain ⟨h1, h2⟩ := List.getElem?_eq_some_iff.mp hp
          simp only [Src.items, List.getElem_map, List.getElem_range] at h2
          rw [← h2]; congr 1; omega
        subst hpe
        refine WPs.weaken (ρ' := [("a", .int i), ("homes", .loc H), ("n", .int N), ("parts", .loc P), ("some", .loc l)]) ?_ b1.both
        walk_at "m"
        refine x_forS ?_ rfl (fun _ => rfl)
        walk_at "ms"
        refine ⟨_, rfl, by omega, fun j ρ3 st3 => Sub [("a", .int i), ("homes", .loc H), ("n", .int N), ("parts", .loc P), ("some", .loc l)] ρ3 ∧ st3 = st2, ⟨Sub.refl _, rfl⟩, fun _ _ _ _ => trivial, fun j p ρ3 st3 hp ⟨b1, b2⟩ => ?_, fun ρ3 st3 ⟨b1, b2⟩ => ?_⟩
        · subst b2
          have hj : j < i := by
            have := (List.getElem?_eq_some_iff.mp hp).1
            simpa [Src.items] using this
          have hpe : p = .int j := by
            obtain ⟨h1, h2⟩ := List.getElem?_eq_some_iff.mp hp
            simp only [Src.items, List.getElem_map, List.getElem_range] at h2
            rw [← h2]; congr 1; omega
          subst hpe
          refine WPs.weaken (ρ' := [("b", .int j), ("a", .int i), ("homes", .loc H), ("n", .int N), ("parts", .loc P), ("some", .loc l)]) ?_ b1.both
          walk_at "ms"
          refine e_comp1 (comp_map ?_) rfl rfl (fun _ => rfl)
          walk_at "ms"
          refine ⟨_, rfl, by omega, trivial, by simp [Src.items]; omega, (rangeI N).map fun x => .int (swapOf j i x), by simp [Src.items, rangeI], fun C a p q hp hq => ?_, fun D6 e1 e2 => ?_⟩
          · have ha : a < N := by
              have := (List.getElem?_eq_some_iff.mp hp).1
              simpa [Src.items] using this
            have hpe : p = .int a := by
              obtain ⟨h1, h2⟩ := List.getElem?_eq_some_iff.mp hp
              simp only [Src.items, List.getElem_map, List.getElem_range] at h2
              rw [← h2]; congr 1; omega
            subst hpe
            have hqe : q = .int (swapOf j i a) := by
              unfold rangeI at hq
              rw [List.getElem?_map, List.getElem?_map, List.getElem?_range ha] at hq
              exact (Option.some.inj hq).symm
            subst hqe
            walk_at "ms"
            refine o_eq ⟨_, rfl, ?_⟩
            unfold swapOf
            by_cases ea : (a : Int) = i
            · rw [if_pos (by simp [ea])]
              walk_at "ms"
              exact ⟨by rw [if_pos ea], Le.refl _⟩
            · rw [if_neg (by simpa using ea)]
              walk_at "ms"
              refine o_eq ⟨_, rfl, ?_⟩
              by_cases eb : (a : Int) = j
              · rw [if_pos (by simp [eb])]
                walk_at "ms"
                exact ⟨by rw [if_neg ea, if_pos eb], Le.refl _⟩
              · rw [if_neg (by simpa using eb)]
                walk_at "ms"
                exact ⟨by rw [if_neg ea, if_neg eb], Le.refl _⟩
          · walk_at "ms"
            refine c_tuple (PS.set_self _ _ _) (by rw [List.length_map, rl]; omega) ?_
            have er : PV.tup ((rangeI N).map fun x => .int (swapOf j i x)) = encRow ((rangeI N).map (swapOf j i)) := by simp [encRow]
            rw [er]
            have lO := Le.set (st := st3) (po := .list ((rangeI N).map fun x => PV.int (swapOf j i x))) e1
            generalize st3.set D6 (.list ((rangeI N).map fun x => PV.int (swapOf j i x))) = stO at lO ⊢
            walk_at "ms"
            refine g_dictI rfl (lO _ _ j3) (hhome i (by omega) (by omega)).1 ?_
            walk_at "ms"
            refine g_dictI rfl (lO _ _ j3) (hhome j (by omega) (by omega)).1 ?_
            refine o_ne ⟨_, rfl, ?_⟩
            have fin : ∃ st4, Le st4 stO ∧ Sub [("a", .int i), ("homes", .loc H), ("n", .int N), ("parts", .loc P), ("some", .loc l)] (("row", encRow ((rangeI N).map (swapOf j i))) :: [("b", .int j), ("a", .int i), ("homes", .loc H), ("n", .int N), ("parts", .loc P), ("some", .loc l)] : Vars) ∧ st4 = st3 := ⟨st3, lO, ((Sub.refl _).cons rfl).cons rfl, rfl⟩
            by_cases eh : home i = home j
            · rw [if_neg (by simp [eh]), if_neg (by simp)]
              walk_at "ms"
              exact fin
            · rw [if_pos (by simp; omega)]
              walk_at "ms"
              refine (kept_ok T hg (fun S hS r hr x hx => ?_) (by rw [List.length_map, rl]; omega) (lO _ _ hl2) fun x hx => ?_).call
              · have := hin S hS r hr x hx
                rw [List.length_map, rl]; exact this
              · have hne := diff j i (by omega) (by omega) (by omega) (by omega) (fun e => eh e.symm)
                have hxf : x = false := by
                  cases x with
                  | false => rfl
                  | true => exact absurd ((kept_swap hin).mp (hx.mp rfl)) hne
                refine ⟨_, rfl, ?_⟩
                rw [hxf, if_neg (by simp)]
                walk_at "ms"
                exact fin
        · subst b2
          walk_at "ms"
          exact ⟨st3, Le.refl _, fun y q e => b1 y q ((Sub.refl _).cons (x := "a") rfl y q e), rfl⟩
      · subst b2
        walk_at "ms"
        exact ⟨st, j2, h⟩
end

theorem Fd_of {st : PS} {F C : Addr} {k : Int} (h : st F = some (feedAt C k)) : Fd st F C k = st := PS.set_same h
theorem alike_congr {sm sm' : List (List (List Int))} (h : ∀ S, S ∈ sm ↔ S ∈ sm') : alike sm = alike sm' := by
  funext a b
  exact propext ⟨fun x S hS => x S ((h S).mpr hS), fun x S hS => x S ((h S).mp hS)⟩
noncomputable def uname (k : Nat) : Str := ("a" : Str) ++ (Str.ofString (toString (k : Int)))
noncomputable def rname (k : Nat) : Str := ("r" : Str) ++ (Str.ofString (toString (k : Int)))
theorem uname_nd : ∀ N : Nat, N ≤ 4 → ((List.range N).map uname).Nodup := by
  intro N hN
  match N, hN with
  | 0, _ => decide
  | 1, _ => decide
  | 2, _ => decide
  | 3, _ => decide
  | 4, _ => decide
  | n + 5, h => omega
theorem rname_ne : rname 1 ≠ rname 0 := by decide
theorem keydS {c : Cx} {n : Nat} : Keyd c (n + 2) encSet (lexLt ltR) := keyd_tup (ordd_lex ordd_int) (ltd_tup ltd_int (by omega)) (by omega)
section
variable {c : Cx} {n : Nat} {env : Env} {ρ : Vars} {st : PS} {Q : PV → PS → Prop}
/-- where the law stands -/
structure LawAt (c : Cx) (st : PS) (F C u du nu b db bl bn sD : Addr) (N i : Nat) (k : Int) (nums : List (Str × PV)) (rels : List Rel) : Prop where
  f : st F = some (feedAt C k)
  k0 : 0 ≤ k
  cells : Cells st F C
  bnF : bn ≠ F
  Cbl : C ≠ bl
  sbl : sD ≠ bl
  U : UAt st u du nu ((List.range N).map uname)
  B : BAt st b u db bl bn nums rels
  s : st sD = some (.list ((setsOf rels).map encSet))
  len : rels.length = i
  nlen : nums.length ≤ i
  fresh : ∀ x, x ∉ (List.range i).map rname → look nums x = none
  sub : ∀ r ∈ rels, ∃ ar, r.hi.Sublist (rowsOf N ar) ∧ r.lo.Sublist r.hi
theorem LawAt.keep {st' : PS} {F C u du nu b db bl bn sD : Addr} {N i : Nat} {k k' : Int} {nums : List (Str × PV)} {rels : List Rel} (W : LawAt c st F C u du nu b db bl bn sD N i k nums rels) (h : ∀ x po, x ≠ F → st x = some po → st' x = some po) (hf : st' F = some (feedAt C k')) (h0 : 0 ≤ k') : LawAt c st' F C u du nu b db bl bn sD N i k' nums rels := by
  have g : ∀ {x : Addr} {po : PO}, st x = some po → po ≠ feedAt C k → st' x = some po := fun {x po} e hp => h x po (by rintro rfl; rw [W.f] at e; exact hp (Option.some.inj e).symm) e
  obtain ⟨c1, cells, c2, c3, c4⟩ := W.cells
  exact ⟨hf, h0, ⟨c1, cells, c2, c3, g c4 (by simp [feedAt])⟩, W.bnF, W.Cbl, W.sbl, ⟨g W.U.i (by simp [feedAt]), g W.U.d (by simp [feedAt])⟩, ⟨g W.B.i (by simp [feedAt]), g W.B.d (by simp [feedAt]), g W.B.l (by simp [feedAt]), h bn _ W.bnF W.B.n⟩, g W.s (by simp [feedAt]), W.len, W.nlen, W.fresh, W.sub⟩
theorem LawAt.draw {F C u du nu b db bl bn sD : Addr} {N i : Nat} {k k' : Int} {nums : List (Str × PV)} {rels : List Rel} (W : LawAt c st F C u du nu b db bl bn sD N i k nums rels) (h0 : 0 ≤ k') : LawAt c (Fd st F C k') F C u du nu b db bl bn sD N i k' nums rels :=
  W.keep (fun x po hx e => (Fd_ne _ _ _ hx).trans e) (Fd_self _ _ _ _) h0
theorem LawAt.new {F C u du nu b db bl bn sD D : Addr} {po : PO} {N i : Nat} {k : Int} {nums : List (Str × PV)} {rels : List Rel} (W : LawAt c st F C u du nu b db bl bn sD N i k nums rels) (h : st D = none) : LawAt c (st.set D po) F C u du nu b db bl bn sD N i k nums rels :=
  W.keep (fun x po hx e => Le.set h _ _ e) (Le.set h _ _ W.f) W.k0
theorem LawAt.add {st7 : PS} {F C u du nu b db bl bn sD sD2 : Addr} {N i : Nat} {k : Int} {nums : List (Str × PV)} {rels : List Rel} {r : Rel} {p : PV} {ar : Int} (W : LawAt c st F C u du nu b db bl bn sD N i k nums rels) (hn : r.name = rname i)
    (l : Le ((st.set bn (.dictS (putK nums r.name p))).set bl (.list ((rels ++ [r]).map encRel))) st7) (h2 : st7 sD2 = some (.list ((setsOf (rels ++ [r])).map encSet))) (hne : sD2 ≠ bl) (hs : r.hi.Sublist (rowsOf N ar)) (hs2 : r.lo.Sublist r.hi) :
    LawAt c st7 F C u du nu b db bl bn sD2 N (i + 1) k (putK nums r.name p) (rels ++ [r]) := by
  have hbn : bl ≠ bn := by rintro rfl; have := W.B.l; rw [W.B.n] at this; simp at this
  have g : ∀ {x : Addr} {po : PO}, st x = some po → x ≠ bl → x ≠ bn → st7 x = some po := fun {x po} e h1 h2 => l _ _ (by rw [PS.set_ne _ _ h1, PS.set_ne _ _ h2]; exact e)
  have nl : ∀ {x : Addr} {po : PO}, st x = some po → (∀ z, po ≠ .list z) → x ≠ bl := fun {x po} e h => by rintro rfl; rw [W.B.l] at e; exact h _ (Option.some.inj e).symm
  have nn : ∀ {x : Addr} {po : PO}, st x = some po → (∀ z, po ≠ .dictS z) → x ≠ bn := fun {x po} e h => by rintro rfl; rw [W.B.n] at e; exact h _ (Option.some.inj e).symm
  obtain ⟨c1, cells, c2, c3, c4⟩ := W.cells
  exact {
    f := g W.f (nl W.f (by simp [feedAt])) (Ne.symm W.bnF)
    k0 := W.k0
    cells := ⟨c1, cells, c2, c3, g c4 W.Cbl (nn c4 (by simp))⟩
    bnF := W.bnF
    Cbl := W.Cbl
    sbl := hne
    U := ⟨g W.U.i (nl W.U.i (by simp)) (nn W.U.i (by simp)), g W.U.d (nl W.U.d (by simp)) (nn W.U.d (by simp))⟩
    B := ⟨g W.B.i (nl W.B.i (by simp)) (nn W.B.i (by simp)), g W.B.d (nl W.B.d (by simp)) (nn W.B.d (by simp)), l _ _ (PS.set_self _ _ _), l _ _ (by rw [PS.set_ne _ _ (Ne.symm hbn)]; exact PS.set_self _ _ _)⟩
    s := h2
    len := by rw [List.length_append, W.len]; rfl
    nlen := Nat.le_trans putK_length (Nat.succ_le_succ W.nlen)
    fresh := fun x hx => by
      rw [List.range_succ, List.map_append] at hx
      have h1 : x ∉ (List.range i).map rname := fun h => hx (List.mem_append_left _ h)
      have h3 : x ≠ r.name := by rw [hn]; rintro rfl; exact hx (by simp)
      rw [look_put_ne h3]; exact W.fresh x h1
    sub := fun r' hr => by
      rcases List.mem_append.mp hr with hr | hr
      · exact W.sub r' hr
      · obtain rfl := List.mem_singleton.mp hr; exact ⟨ar, hs, hs2⟩ }
set_option maxHeartbeats 64000000 in
theorem law_ok (T : Tops c top) {a : Addr} {ns : List Int} (hB : LstB c a ns) (hz : ns.length ≤ 63) (h : ∀ st', Q (.bool true) st') : WPk c (n + 30) 287 [.loc a] st Q := by
  refine fnk T (o := _) (fd := _) (xs := ["script"]) rfl rfl rfl rfl rfl rfl rfl rfl (by walk_at "bind") rfl (by decide) rfl fun L ql cd => ?_
  walk_at "m"
  refine x_assign ?_ rfl rfl
  refine e_dict2S T.sys ?_
  walk_at "m"
  refine WPe.mono (Q := fun p st' => ∃ D cells, p = .loc D ∧ cells ≠ [] ∧ cells.length ≤ 1000 ∧ st' D = some (.list (List.map PV.int cells))) ?_ fun p st' ⟨C, cells, e1, e2, e3, e4⟩ => ?_
  · walk_at "ms"
    refine ⟨by simp, fun D d1 d2 => ?_⟩
    refine o_neB hB (PS.set_self _ _ _) ⟨_, rfl, ?_⟩
    by_cases hn : ns = []
    · subst hn
      rw [if_neg (by simp)]
      walk_at "ms"
      exact ⟨by simp, fun D2 e1 e2 => ⟨D2, [3, 1, 4, 0, 5, 2, 6, 9], rfl, by simp, by simp, PS.set_self _ _ _⟩⟩
    · rw [if_pos (by cases ns with | nil => exact absurd rfl hn | cons _ _ => rfl)]
      have hn2 : ns.take 40 ≠ [] := by cases ns with | nil => exact absurd rfl hn | cons _ _ => simp
      refine e_comp1 (comp_map ?_) rfl rfl (fun _ => rfl)
      refine i_val ?_
      refine e_cutB ?_
      walk_at "ms"
      refine ⟨a, ns, 40, rfl, rfl, hB, by omega, fun D3 g1 g2 => ?_⟩
      refine .inr ⟨_, _, rfl, PS.set_self _ _ _, PS.set_self _ _ _, by simp [Src.items]; omega, (ns.take 40).map .int, by simp [Src.items], fun C2 i p q hp hq => ?_, fun D2 e1 e2 => ⟨D2, ns.take 40, rfl, hn2, by rw [List.length_take]; omega, PS.set_self _ _ _⟩⟩
      have hp' : ((ns.take 40).map PV.int)[i]? = some p := hp
      rw [hp'] at hq
      obtain rfl := Option.some.inj hq
      rw [List.getElem?_map] at hp'
      obtain ⟨x, hx, rfl⟩ := Option.map_eq_some_iff.mp hp'
      walk_at "ms"
      exact c_int ⟨rfl, Le.refl _⟩
  subst e1
  walk_at "ms"
  refine ⟨_, _, rfl, rfl, fun F f1 f2 => ?_⟩
  have hCF : C ≠ F := by rintro rfl; rw [e4] at f1; cases f1
  have hS : (st'.set F (.dictS (putK (putK [] "cells" (.loc C)) "at" (.int 0)))) F = some (feedAt C 0) := PS.set_self _ _ _
  have hSC : Cells (st'.set F (.dictS (putK (putK [] "cells" (.loc C)) "at" (.int 0)))) F C := ⟨hCF, cells, e2, e3, (PS.set_ne _ _ hCF).trans e4⟩
  generalize st'.set F (.dictS (putK (putK [] "cells" (.loc C)) "at" (.int 0))) = S at hS hSC ⊢
  rw [← Fd_of hS]
  walk_at "ms"
  refine (draw_ok T hSC (by omega) (by omega) fun r r0 r1 => ?_).call
  refine o_add ?_
  obtain ⟨N, hN⟩ : ∃ N : Nat, 1 + r = (N : Int) := ⟨(1 + r).toNat, by omega⟩
  have hN1 : 1 ≤ N := by omega
  have hN4 : N ≤ 4 := by omega
  rw [hN]
  have hS1 := Fd_self S F C (0 + 1)
  have hSC1 : Cells (Fd S F C (0 + 1)) F C := by obtain ⟨c1, cells, c2, c3, c4⟩ := hSC; exact ⟨c1, cells, c2, c3, (Fd_ne _ _ _ c1).trans c4⟩
  generalize Fd S F C (0 + 1) = S1 at hS1 hSC1 ⊢
  walk_at "m"
  refine x_pair_swapped ?_ rfl rfl rfl rfl
  walk_at "ms"
  refine t_cls T rfl rfl rfl rfl ?_
  walk_at "ms"
  refine t_cls T rfl rfl rfl rfl ?_
  walk_at "ms"
  refine e_comp1 (comp_map ?_) rfl rfl (fun _ => rfl)
  walk_at "ms"
  refine ⟨_, rfl, by omega, trivial, by simp [Src.items]; omega, ((List.range N).map uname).map .str, by simp [Src.items], fun C2 i p q hp hq => ?_, fun D2 g1 g2 => ?_⟩
  · have ha : i < N := by
      have := (List.getElem?_eq_some_iff.mp hp).1
      simpa [Src.items] using this
    have hpe : p = .int i := by
      obtain ⟨h1, h2⟩ := List.getElem?_eq_some_iff.mp hp
      simp only [Src.items, List.getElem_map, List.getElem_range] at h2
      rw [← h2]; congr 1; omega
    subst hpe
    have hqe : q = .str (uname i) := by
      rw [List.getElem?_map, List.getElem?_map, List.getElem?_range ha] at hq
      exact (Option.some.inj hq).symm
    subst hqe
    walk_at "ms"
    refine c_str (by have : (i : Int).natAbs.log2 ≤ (i : Int).natAbs := Nat.log2_le_self _; omega) ?_
    refine o_adds ?_ ⟨rfl, Le.refl _⟩
    have hi4 : i < 4 := by omega
    match i, hi4 with
    | 0, _ => decide
    | 1, _ => decide
    | 2, _ => decide
    | 3, _ => decide
    | n + 4, h => omega
  walk_at "ms"
  refine c_make T.own (T.make (mkU _)) fun u du u1 u2 u3 => ?_
  have hD2 : (S1.set D2 (.list (((List.range N).map uname).map .str))) D2 = some (.list (((List.range N).map uname).map .str)) := PS.set_self _ _ _
  have kS : ∀ x po, S1 x = some po → (S1.set D2 (.list (((List.range N).map uname).map .str))) x = some po := Le.set g1
  generalize S1.set D2 (.list (((List.range N).map uname).map .str)) = S2 at hD2 kS u1 u2 ⊢
  have ud2 : D2 ≠ du := by rintro rfl; rw [hD2] at u2; cases u2
  have ud1 : D2 ≠ u := by rintro rfl; rw [hD2] at u1; cases u1
  refine uinit_ok T (PS.set_self _ _ _) ((PS.set_ne _ _ (Ne.symm u3)).trans (PS.set_self _ _ _)) (by rw [PS.set_ne _ _ ud1, PS.set_ne _ _ ud2]; exact hD2) u3 (uname_nd N hN4) (by simp; omega) fun nu nums0 n1 n2 n3 => ?_
  refine ⟨rfl, ?_⟩
  have nS2 : S2 nu = none := by rw [PS.set_ne _ _ n2, PS.set_ne _ _ n3] at n1; exact n1
  have U3 : UAt (((((S2.set du (.attrs [])).set u (.inst 155 du)).set du (.attrs [("names", .tup (((List.range N).map uname).map .str)), ("numbers", .loc nu)])).set nu (.dictS nums0))) u du nu ((List.range N).map uname) := by
    refine ⟨?_, ?_⟩
    · rw [PS.set_ne _ _ (Ne.symm n2), PS.set_ne _ _ u3]; exact PS.set_self _ _ _
    · rw [PS.set_ne _ _ (Ne.symm n3)]; exact PS.set_self _ _ _
  have kS3 : ∀ x po, S2 x = some po → (((((S2.set du (.attrs [])).set u (.inst 155 du)).set du (.attrs [("names", .tup (((List.range N).map uname).map .str)), ("numbers", .loc nu)])).set nu (.dictS nums0))) x = some po := fun x po e => by
    rw [PS.set_ne _ _ (by rintro rfl; rw [nS2] at e; cases e), PS.set_ne _ _ (by rintro rfl; rw [u2] at e; cases e), PS.set_ne _ _ (by rintro rfl; rw [u1] at e; cases e), PS.set_ne _ _ (by rintro rfl; rw [u2] at e; cases e)]; exact e
  generalize ((((S2.set du (.attrs [])).set u (.inst 155 du)).set du (.attrs [("names", .tup (((List.range N).map uname).map .str)), ("numbers", .loc nu)])).set nu (.dictS nums0)) = S3 at U3 kS3 ⊢
  walk_at "ms"
  refine c_make T.own (T.make (mkB _)) fun b db b1 b2 b3 => ?_
  refine binit_ok T (PS.set_self _ _ _) ((PS.set_ne _ _ (Ne.symm b3)).trans (PS.set_self _ _ _)) b3 fun bl bn l1 l2 l3 l4 l5 l6 l7 => ?_
  refine ⟨rfl, ?_⟩
  have blS : S3 bl = none := by rw [PS.set_ne _ _ l4, PS.set_ne _ _ l6] at l1; exact l1
  have bnS : S3 bn = none := by rw [PS.set_ne _ _ l5, PS.set_ne _ _ l7] at l2; exact l2
  have B4 : BAt ((((((S3.set db (.attrs [])).set b (.inst 232 db)).set db (.attrs [("universe", .loc u), ("bounds", .loc bl), ("numbers", .loc bn)])).set bl (.list [])).set bn (.dictS []))) b u db bl bn [] [] := by
    refine ⟨?_, ?_, ?_, PS.set_self _ _ _⟩
    · rw [PS.set_ne _ _ (Ne.symm l5), PS.set_ne _ _ (Ne.symm l4), PS.set_ne _ _ b3]; exact PS.set_self _ _ _
    · rw [PS.set_ne _ _ (Ne.symm l7), PS.set_ne _ _ (Ne.symm l6)]; exact PS.set_self _ _ _
    · rw [PS.set_ne _ _ l3]; exact PS.set_self _ _ _
  have kS4 : ∀ x po, S3 x = some po → ((((((S3.set db (.attrs [])).set b (.inst 232 db)).set db (.attrs [("universe", .loc u), ("bounds", .loc bl), ("numbers", .loc bn)])).set bl (.list [])).set bn (.dictS []))) x = some po := fun x po e => by
    rw [PS.set_ne _ _ (by rintro rfl; rw [bnS] at e; cases e), PS.set_ne _ _ (by rintro rfl; rw [blS] at e; cases e), PS.set_ne _ _ (by rintro rfl; rw [b2] at e; cases e), PS.set_ne _ _ (by rintro rfl; rw [b1] at e; cases e), PS.set_ne _ _ (by rintro rfl; rw [b2] at e; cases e)]; exact e
  generalize (((((S3.set db (.attrs [])).set b (.inst 232 db)).set db (.attrs [("universe", .loc u), ("bounds", .loc bl), ("numbers", .loc bn)])).set bl (.list [])).set bn (.dictS [])) = S4 at B4 kS4 ⊢
  have kA : ∀ x po, S1 x = some po → S4 x = some po := fun x po e => kS4 _ _ (kS3 _ _ (kS _ _ e))
  have bnF : bn ≠ F := by rintro rfl; rw [kS3 _ _ (kS _ _ hS1)] at bnS; cases bnS
  walk_at "ms"
  refine ⟨by simp, fun sD s1 s2 => ?_⟩
  walk_at "ms"
  refine ⟨by simp, _, _, rfl, ?_⟩
  have W : LawAt c (S4.set sD (.list [])) F C u du nu b db bl bn sD N 0 (0 + 1) [] [] := by
    obtain ⟨c1, cells, c2, c3, c4⟩ := hSC1
    have k5 := Le.set (st := S4) (po := .list []) s1
    have hCbl : C ≠ bl := by rintro rfl; rw [kS3 _ _ (kS _ _ c4)] at blS; cases blS
    have hsbl : sD ≠ bl := by rintro rfl; rw [B4.l] at s1; cases s1
    exact ⟨k5 _ _ (kA _ _ hS1), by omega, ⟨c1, cells, c2, c3, k5 _ _ (kA _ _ c4)⟩, bnF, hCbl, hsbl, (U3.le kS4).le k5, B4.le k5, PS.set_self _ _ _, rfl, Nat.le_refl _, fun _ _ => rfl, fun r hr => by cases hr⟩
  generalize S4.set sD (.list []) = S5 at W ⊢
  rw [← Fd_of W.f]
  walk_at "m"
  refine x_forS ?_ rfl (fun _ => rfl)
  walk_at "ms"
  refine (draw_ok T W.cells W.k0 (by omega) fun r r0 r1 => ?_).call
  refine o_add ?_
  obtain ⟨M, hM⟩ : ∃ M : Nat, 1 + r = (M : Int) := ⟨(1 + r).toNat, by omega⟩
  have hM2 : M ≤ 2 := by omega
  rw [hM]
  refine ⟨_, rfl, by omega, fun i ρ' st' => ∃ k' rels nums sD, Sub [("some", .loc sD), ("feed", .loc F), ("n", .int N), ("bounds", .loc b)] ρ' ∧ LawAt c st' F C u du nu b db bl bn sD N i k' nums rels, ⟨_, [], [], sD, Sub.add rfl (Sub.add rfl (Sub.add rfl (Sub.add rfl Sub.nil))), W.draw (by omega)⟩, fun _ _ _ _ => trivial, fun i p ρ' st' hp ⟨k', rels, nums, sD, j1, W⟩ => ?_, fun ρ' st' ⟨k', rels, nums, sD, j1, W⟩ => ?_⟩
  · have hi : i < M := by
      have := (List.getElem?_eq_some_iff.mp hp).1
      simpa [Src.items] using this
    have hpe : p = .int i := by
      obtain ⟨h1, h2⟩ := List.getElem?_eq_some_iff.mp hp
      simp only [Src.items, List.getElem_map, List.getElem_range] at h2
      rw [← h2]; congr 1; omega
    subst hpe
    have hk0 := W.k0
    refine WPs.weaken (ρ' := [("lap", .int i), ("some", .loc sD), ("feed", .loc F), ("n", .int N), ("bounds", .loc b)]) ?_ j1.both
    rw [← Fd_of W.f]
    walk_at "ms"
    refine (draw_ok T W.cells W.k0 (by omega) fun r2 q0 q1 => ?_).call
    refine o_add ?_
    have har : 1 + r2 = 1 ∨ 1 + r2 = 2 := by omega
    generalize 1 + r2 = ar at har ⊢
    walk_at "m"
    refine x_pair_swapped ?_ rfl rfl rfl rfl
    walk_at "ms"
    refine (set_ok T hN4 hN1 har W.cells (by omega) fun hi k2 h1 h2 => ?_).call
    walk_at "ms"
    refine (draw_ok T W.cells h1 (by omega) fun way w0 w1 => ?_).call
    walk_at "ms"
    refine ⟨by simp, _, _, rfl, ?_⟩
    have ghi := (good_of hN4 h2).len
    walk_at "m"
    refine x_assign ?_ rfl rfl
    refine WPe.mono (Q := fun p st2 => ∃ lo k4, p = encSet lo ∧ lo.Sublist hi ∧ 0 ≤ k4 ∧ st2 = Fd st' F C k4) (WPe.sub ?_) fun p st2 ⟨lo, k4, e1, e2, e3, e4⟩ => ?_
    · walk_at "ms"
      refine o_eq ⟨_, rfl, ?_⟩
      by_cases y0 : way = 0
      · rw [if_pos (by simp [y0])]
        walk_at "ms"
        exact ⟨by simp, _, Le.refl _, [], _, rfl, List.nil_sublist _, by omega, rfl⟩
      rw [if_neg (by simpa using y0)]
      walk_at "ms"
      refine o_eq ⟨_, rfl, ?_⟩
      by_cases y1 : way = 1
      · rw [if_pos (by simp [y1])]
        walk_at "ms"
        exact ⟨_, Le.refl _, hi, _, rfl, List.Sublist.refl _, by omega, rfl⟩
      rw [if_neg (by simpa using y1)]
      walk_at "ms"
      refine e_comp1 ?_ rfl rfl (fun _ => rfl)
      unfold Comp1
      refine i_val ?_
      walk_at "ms"
      refine .inl ⟨_, rfl, fun j acc st2 => ∃ k', 0 ≤ k' ∧ st2 = Fd st' F C k' ∧ ∃ S, acc = S.map encRow ∧ S.Sublist (hi.take j), ⟨_, by omega, rfl, [], rfl, List.nil_sublist _⟩, fun j acc st2 ⟨k', g1, g2, S, g3, g4⟩ => ⟨trivial, by have := g4.length_le; rw [List.length_take] at this; rw [g3, List.length_map]; omega⟩, fun C2 j p acc st2 hp ⟨k', g1, g2, S, g3, g4⟩ => ?_, fun acc st2 ⟨k', g1, g2, S, g3, g4⟩ D d1 d2 => ?_⟩
      · subst g2
        have hp' : (hi.map encRow)[j]? = some p := hp
        rw [List.getElem?_map] at hp'
        obtain ⟨r, hr, rfl⟩ := Option.map_eq_some_iff.mp hp'
        show WPb _ _ _ _ _ _ _
        walk_at "ms"
        refine (draw_ok T W.cells g1 (by omega) fun x x0 x1 => ?_).call
        walk_at "ms"
        refine o_eq ⟨_, rfl, ?_⟩
        by_cases hx : x = 0
        · rw [if_pos (by simp [hx])]
          walk_at "ms"
          refine ⟨_, by omega, rfl, S ++ [r], by rw [g3]; simp, ?_⟩
          rw [List.take_add_one, hr]
          exact g4.append (List.Sublist.refl _)
        · rw [if_neg (by simpa using hx)]
          refine ⟨_, by omega, rfl, S, g3, ?_⟩
          rw [List.take_add_one, hr]
          exact g4.trans (List.sublist_append_left _ _)
      · subst g2
        subst g3
        have e0 : (Src.tup (hi.map encRow)).items.length = hi.length := by simp [Src.items]
        rw [e0, List.take_length] at g4
        walk_at "ms"
        exact c_tuple (PS.set_self _ _ _) (by have := g4.length_le; rw [List.length_map]; omega) ⟨_, Le.set d1, S, _, rfl, g4, g1, rfl⟩
    · subst e1
      subst e4
      have W4 := W.draw e3
      generalize Fd st' F C k4 = st4 at W4 ⊢
      walk_at "ms"
      refine e_call_inst (f := 180) T.own rfl rfl (by decide) rfl ?_
      walk_at "ms"
      refine ⟨b, 232, db, _, rfl, W4.B.i, W4.B.d, rfl, T.meth (mBa _), ?_⟩
      walk_at "ms"
      refine c_str (by have : (i : Int).natAbs.log2 ≤ (i : Int).natAbs := Nat.log2_le_self _; omega) ?_
      refine o_adds ?_ ?_
      · have hi2 : i < 2 := by omega
        match i, hi2 with
        | 0, _ => decide
        | 1, _ => decide
        | n + 2, h => omega
      have eN : ((List.range N).map uname).length = N := by simp
      have hfr : look nums (rname i) = none := W4.fresh _ (by
        have hi2 : i < 2 := by omega
        match i, hi2 with
        | 0, _ => simp
        | 1, _ => intro hm; exact rname_ne (by simpa using hm)
        | n + 2, h => omega)
      have rl := W4.len
      have nl := W4.nlen
      walk_at "ms"
      refine (add_ok (x := rname i) T W4.B W4.U (by omega) har (by rw [eN]; exact h2) e2 hfr (by omega) (by omega) ?_).call
      have hW := fun st7 sD2 l g h => LawAt.add (st7 := st7) (sD2 := sD2) (r := ⟨rname i, ar, lo, hi⟩) (p := .int rels.length) W4 rfl l g h h2 e2
      have hbn : bl ≠ bn := by rintro rfl; have := W4.B.l; rw [W4.B.n] at this; simp at this
      have sbn : sD ≠ bn := by rintro rfl; have := W4.s; rw [W4.B.n] at this; simp at this
      have hs6 : ((st4.set bn (.dictS (putK nums (rname i) (.int rels.length)))).set bl (.list ((rels ++ [(⟨rname i, ar, lo, hi⟩ : Rel)]).map encRel))) sD = some (.list ((setsOf rels).map encSet)) := by rw [PS.set_ne _ _ W4.sbl, PS.set_ne _ _ sbn]; exact W4.s
      have hbl6 : ((st4.set bn (.dictS (putK nums (rname i) (.int rels.length)))).set bl (.list ((rels ++ [(⟨rname i, ar, lo, hi⟩ : Rel)]).map encRel))) bl = some (.list ((rels ++ [(⟨rname i, ar, lo, hi⟩ : Rel)]).map encRel)) := PS.set_self _ _ _
      generalize ((st4.set bn (.dictS (putK nums (rname i) (.int rels.length)))).set bl (.list ((rels ++ [(⟨rname i, ar, lo, hi⟩ : Rel)]).map encRel))) = st6 at hW hs6 hbl6 ⊢
      walk_at "ms"
      refine ⟨by simp, fun D d1 d2 => ?_⟩
      have hDs : D ≠ sD := by rintro rfl; rw [hs6] at d1; cases d1
      have sl := setsOf_len rels
      refine o_addl ((PS.set_ne _ _ (Ne.symm hDs)).trans hs6) (PS.set_self _ _ _) (by simp; omega) fun D2 g1 g2 => ?_
      walk_at "ms"
      have hD2 : D2 ≠ bl := by
        rintro rfl
        rw [PS.set_ne _ _ (by rintro rfl; rw [hbl6] at d1; cases d1), hbl6] at g1; cases g1
      refine ⟨_, Le.refl _, k4, _, _, D2, Sub.add rfl (Sub.add rfl (Sub.add rfl (Sub.add rfl Sub.nil))), hW _ D2 ((Le.set d1).trans (Le.set g1)) ?_ hD2⟩
      rw [PS.set_self]
      simp [setsOf]
  · have e0 : (Src.rng 0 (M : Int)).items.length = M := by simp [Src.items]
    rw [e0] at W
    refine WPs.weaken (ρ' := [("some", .loc sD), ("feed", .loc F), ("n", .int N), ("bounds", .loc b)]) ?_ j1
    walk_at "ms"
    refine ⟨by simp, fun A a1 a2 => ?_⟩
    have hAF : A ≠ F := by rintro rfl; rw [W.f] at a1; cases a1
    have hAC : A ≠ C := by obtain ⟨c1, cells, c2, c3, c4⟩ := W.cells; rintro rfl; rw [c4] at a1; cases a1
    have W1 := W.new (D := A) (po := .list []) a1
    have hA : (st'.set A (.list [])) A = some (.list ((([] : List (List (List Int)))).map encSet)) := PS.set_self _ _ _
    have hAsD : A ≠ sD := by rintro rfl; rw [W.s] at a1; cases a1
    rw [← Fd_of W1.f]
    walk_at "ms"
    refine ((node_ok T hN4 hN1 hAF hAC 2 n _ _ _ [] W1.cells W1.k0 hA (by decide) fun nd new k2 h1 h2 => ?_).room (by omega)).call
    rw [PS.set_set, List.nil_append]
    have W2 := (W.new (D := A) (po := .list (new.map encSet)) a1).draw h1
    have hA2 : (Fd (st'.set A (.list (new.map encSet))) F C k2) A = some (.list (new.map encSet)) := (Fd_ne _ _ _ hAF).trans (PS.set_self _ _ _)
    generalize Fd (st'.set A (.list (new.map encSet))) F C k2 = st2 at W2 hA2 ⊢
    have hnl := h2.len
    have h16 : new.length ≤ 4 := hnl
    have hsz : sizeN nd ≤ 1000 := Nat.le_trans h2.sz (by decide)
    walk_at "ms"
    refine (constants_ok T h2.t h2.ok hsz fun fs Tt p t1 t2 => ?_).call
    rw [h2.eq] at p
    obtain ⟨tl, rfl, htl⟩ := perm_map_inv p
    have htll := htl.length_eq
    have hTtA : Tt ≠ A := by rintro rfl; rw [hA2] at t1; cases t1
    have W3 := W2.new (D := Tt) (po := .list (tl.map encSet)) t1
    have hT3 : (st2.set Tt (.list (tl.map encSet))) Tt = some (.list (tl.map encSet)) := PS.set_self _ _ _
    have hA3 : (st2.set Tt (.list (tl.map encSet))) A = some (.list (new.map encSet)) := (PS.set_ne _ _ (Ne.symm hTtA)).trans hA2
    generalize st2.set Tt (.list (tl.map encSet)) = st3 at W3 hT3 hA3 ⊢
    walk_at "ms"
    refine c_sorted_list (n := n + 26) (keydS (n := n + 24)) (as := tl) hT3 (by omega) fun bs D5 p1 p2 g1 g2 => ?_
    have hA4 : (st3.set D5 (.list (bs.map encSet))) A = some (.list (new.map encSet)) := Le.set g1 _ _ hA3
    walk_at "ms"
    refine c_sorted_list (n := n + 26) (keydS (n := n + 24)) (as := new) hA4 (by omega) fun bs' D6 p3 p4 g3 g4 => ?_
    have ebs : bs = bs' := asc_unique (ordd_lex (ordd_lex ordd_int)) (p1.trans (htl.trans p3.symm)) p2 p4
    subst ebs
    have hD56 : D5 ≠ D6 := by rintro rfl; rw [PS.set_self] at g3; cases g3
    walk_at "ms"
    have oks : ∀ p ∈ bs.map encSet, okD 8 p = true := fun p hp => by obtain ⟨x, _, rfl⟩ := List.mem_map.mp hp; exact okS x
    refine o_nel ((PS.set_ne _ _ hD56).trans (PS.set_self _ _ _)) (PS.set_self _ _ _) oks oks ⟨_, rfl, ?_⟩
    have ebq : PV.beqs (bs.map encSet) (bs.map encSet) = true := (PV.beqs_iff _ _).mpr rfl
    rw [ebq, if_neg (by simp)]
    refine WPs.drop (st2 := st3) ((Le.set g1).trans (Le.set g3)) ?_
    have eN : ((List.range N).map uname).length = N := by simp
    have rl := W3.len
    have good : ∀ S, S ∈ setsOf rels ++ new → GoodS S ∧ ∀ r ∈ S, ∀ x ∈ r, 0 ≤ x ∧ x < (N : Int) := fun S hS => by
      have key : ∃ ar, S.Sublist (rowsOf N ar) := by
        rcases List.mem_append.mp hS with hS | hS
        · obtain ⟨r, hr, hx⟩ := List.mem_flatMap.mp hS
          obtain ⟨ar, s1, s2⟩ := W3.sub r hr
          rcases List.mem_cons.mp hx with rfl | hx
          · exact ⟨ar, s2.trans s1⟩
          · obtain rfl := List.mem_singleton.mp hx; exact ⟨ar, s1⟩
        · exact h2.sub S hS
      obtain ⟨ar, hs⟩ := key
      refine ⟨good_of hN4 hs, fun r hr x hx => ?_⟩
      have hr' := hs.subset hr
      by_cases e : ar = 1
      · subst e
        obtain ⟨a, rfl, u1, u2⟩ := rows1 hr'
        obtain rfl := List.mem_singleton.mp hx; exact ⟨u1, u2⟩
      · obtain ⟨a, b, rfl, u1, u2, u3, u4⟩ := rows2 e hr'
        rcases List.mem_cons.mp hx with rfl | hx
        · exact ⟨u1, u2⟩
        · obtain rfl := List.mem_singleton.mp hx; exact ⟨u3, u4⟩
    have hmem : ∀ S, S ∈ tl ++ setsOf rels ↔ S ∈ setsOf rels ++ new := fun S => by
      rw [List.mem_append, List.mem_append, htl.mem_iff]; exact Or.comm
    walk_at "ms"
    refine (lots_ok T W3.B W3.U (by rw [eN]; exact hN4) (by omega) hT3 (by omega) (fun S hS => (good S ((hmem S).mp hS)).1) fun ps D7 PI e1 e2 => ?_).call
    rw [alike_congr hmem, eN] at PI
    have W4s := Le.set (po := .list (ps.map fun p => encRow (p.1 :: p.2))) e1 _ _ W3.s
    have hA5 := Le.set (po := .list (ps.map fun p => encRow (p.1 :: p.2))) e1 _ _ hA3
    have hP5 : (st3.set D7 (.list (ps.map fun p => encRow (p.1 :: p.2)))) D7 = some (.list (ps.map fun p => encRow (p.1 :: p.2))) := PS.set_self _ _ _
    generalize st3.set D7 (.list (ps.map fun p => encRow (p.1 :: p.2))) = st5 at W4s hA5 hP5 ⊢
    have sl := setsOf_len rels
    walk_at "ms"
    refine o_addl W4s hA5 (by simp; omega) fun D8 q1 q2 => ?_
    walk_at "ms"
    refine (right_ok (sm := setsOf rels ++ new) T hN4 PI (Le.set q1 _ _ hP5) (by rw [PS.set_self, List.map_append]) (fun S hS => (good S hS).1) (fun S hS => (good S hS).2) (h _)).call
end

theorem repL_ints {h : Heap} {vs : List Value} {ns : List Int} (x : PyProof.Rows.IntsAre vs ns) : RepL h (ns.map .int) vs := by
  induction x with
  | nil => exact .nil
  | cons n t _ ih => exact .cons .int ih
theorem law_join {prog : Program} {w : World} {s₁ : Shared} {mg mb : Str → Option Value} {fa a : Addr} {vs : List Value} {ns : List Int} (KX : (top w.params).In s₁.heap) (hgl : s₁.heap.Ns mainGlobals mg) (hbl : s₁.heap.Ns builtinsNs mb)
    (hbu : ∀ x : Str, x ≠ "__name__" → mb x = bootBuiltins x) (hno : s₁.heap.NoLimit) (hmg : mg "law" = some (.ref fa)) (hL : s₁.heap.IsList a vs.toArray) (hI : PyProof.Rows.IntsAre vs ns) (hz : ns.length ≤ 63) (hg : s₁.gens = #[]) :
    wpAny (model prog w) callerA (call (.ref fa) [.ref a]) (fun v s' => v = .bool true ∧ (∀ b o, s₁.heap.get? b = some o → s'.heap.get? b = some o) ∧ s'.os = s₁.os ∧ s'.gens = #[]) NoE s₁ := by
  have e : mg "law" = some (.ref 287) := mg_of KX hgl rfl
  rw [hmg] at e
  obtain rfl : fa = 287 := by injection (Option.some.inj e)
  have T : Tops ⟨prog, w, top w.params, s₁.heap, s₁.os⟩ top := ⟨rfl, KX, ⟨mg, mb, hgl, hbl, hbu⟩, hno⟩
  have R : StRel ⟨prog, w, top w.params, s₁.heap, s₁.os⟩ (fun _ => none) s₁ := ⟨fun _ _ e => e, fun _ _ e => (nomatch e), fun _ _ e => (nomatch e), hg, rfl⟩
  have hB : LstB ⟨prog, w, top w.params, s₁.heap, s₁.os⟩ a ns := by
    obtain ⟨o, h1, h2, k, h3⟩ := hL
    exact ⟨vs, o, k, h1, h2, h3, fun h => repL_ints hI⟩
  have room : Room (0 + 30) callerA := ⟨rfl, by decide, by decide⟩
  refine wp_then ((law_ok (n := 0) (Q := fun p _ => p = .bool true) T hB hz fun _ => rfl).call callerA s₁ [.ref a] room R (.cons .loc .nil)) fun v s' o => ?_
  obtain ⟨p, st', R', x, r, rfl⟩ := o
  exact ⟨r.bool', R'.base, R'.os, R'.gens⟩

end Mine
open PySem PySem.W PyProof.Rows
set_option maxHeartbeats 8000000 in
theorem PySem.Challenge.cw_nu0270_01_holds : PySem.Challenge.rw_nu0270_01.Holds := by
  refine holds_law Mine.said fun said => ?_
  refine holds_open (q := Mine.q) (loose := []) (Xt := fun s => xlAt Mine.q [] s && recOk (RowW.records Mine.rw'.toRowW) s) (XP := XL Mine.q []) (Yf := Mine.hook.obs) (Ya := Mine.hook.val) (YP := Mine.hook.says) (N := 3902) Mine.left (Hook.of Mine.hook) (Hook.keeps Mine.hook) (fun s e => xl_of s (Bool.and_eq_true_iff.mp e).1) XL.keeps (by rfl) (by rfl) (by rfl) (fun s e => recFacts_of (Bool.and_eq_true_iff.mp e).2) (by rfl) said (by decide +kernel) ⟨rfl, rfl, rfl, rfl, rfl, by decide +kernel⟩ ?hw ?hc
  case hw => w_witness2
  case hc =>
    intro w s₀ s₁ mg mb G Y fa o pm cd doc dV kV ho hd hcd hD hmg hg args vals as hpre hlay hrd hwl hlo
    have KX := kIn_of (K := Mine.top) (as := Mine.topAt) (e := fun _ => by kernel_rfl) Y
    refine Ground.open G ?_
    intro T B D TE TW
    clear B D TE TW hD hcd hd ho
    wrow_args hpre hlay hrd hwl hlo
    rename_i ns _ _ _ _ _ _ _ a vs _ hL _ _ _ hI _ hz _
    refine wpAny_mono (Mine.law_join KX T.g T.b T.builtins T.nolimit hmg hL hI (by omega) hg) (fun v s' h => ?_) (fun _ _ h => h.elim)
    obtain ⟨rfl, h1, h2, h3⟩ := h
    exact GoodW.toG ⟨.inl ⟨_, _, [], rfl, fun _ => rfl, ReadsW.bool true, (by kernel_rfl), fun _ => ⟨List.nodup_nil, fun _ hm => (nomatch hm)⟩⟩, h1, h2, h3⟩
