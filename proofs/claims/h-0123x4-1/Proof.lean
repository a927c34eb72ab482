import JvmDerived
import JvmDerived.Pilot.@@N@@Statement
import JvmDerived.Pilot.@@N@@Code
set_option linter.unusedVariables false
set_option linter.unusedSimpArgs false
namespace Jvm.AM
open Sem ClassFile Op Lib Jvm.Stand Jvm.Free Jvm.LawKit Jvm.RoadKit
/-! ## 1. The abstract objects: one object of the class, its scalars and its arrays by number -/
abbrev S : Type := (Nat → Int32) × (Nat → Int64) × (Nat → List Int32) × (Nat → List Int64)
def upd {A : Type} (g : Nat → A) (f : Nat) (v : A) : Nat → A := fun x => if x = f then v else g x
def gI (s : S) (f : Nat) : Int32 := s.1 f
def gL (s : S) (f : Nat) : Int64 := s.2.1 f
def gA (s : S) (f : Nat) : List Int32 := s.2.2.1 f
def gB (s : S) (f : Nat) : List Int64 := s.2.2.2 f
def sI (s : S) (f : Nat) (v : Int32) : S := (upd s.1 f v, s.2)
def sL (s : S) (f : Nat) (v : Int64) : S := (s.1, upd s.2.1 f v, s.2.2)
def sA (s : S) (f : Nat) (v : List Int32) : S := (s.1, s.2.1, upd s.2.2.1 f v, s.2.2.2)
def sB (s : S) (f : Nat) (v : List Int64) : S := (s.1, s.2.1, s.2.2.1, upd s.2.2.2 f v)
def s0 : S := (fun _ => 0, fun _ => 0, fun _ => [], fun _ => [])
theorem gI_s0 (f : Nat) : gI s0 f = 0 := by simp only [gI, s0]
theorem gL_s0 (f : Nat) : gL s0 f = 0 := by simp only [gL, s0]
theorem gA_s0 (f : Nat) : gA s0 f = [] := by simp only [gA, s0]
theorem gB_s0 (f : Nat) : gB s0 f = [] := by simp only [gB, s0]
theorem gI_sI (s : S) (f g : Nat) (v : Int32) : gI (sI s f v) g = if g = f then v else gI s g := by simp only [gI, gL, gA, gB, sI, sL, sA, sB, upd]
theorem gI_sL (s : S) (f g : Nat) (v : Int64) : gI (sL s f v) g = gI s g := by simp only [gI, gL, gA, gB, sI, sL, sA, sB, upd]
theorem gI_sA (s : S) (f g : Nat) (v : List Int32) : gI (sA s f v) g = gI s g := by simp only [gI, gL, gA, gB, sI, sL, sA, sB, upd]
theorem gI_sB (s : S) (f g : Nat) (v : List Int64) : gI (sB s f v) g = gI s g := by simp only [gI, gL, gA, gB, sI, sL, sA, sB, upd]
theorem gL_sI (s : S) (f g : Nat) (v : Int32) : gL (sI s f v) g = gL s g := by simp only [gI, gL, gA, gB, sI, sL, sA, sB, upd]
theorem gL_sL (s : S) (f g : Nat) (v : Int64) : gL (sL s f v) g = if g = f then v else gL s g := by simp only [gI, gL, gA, gB, sI, sL, sA, sB, upd]
theorem gL_sA (s : S) (f g : Nat) (v : List Int32) : gL (sA s f v) g = gL s g := by simp only [gI, gL, gA, gB, sI, sL, sA, sB, upd]
theorem gL_sB (s : S) (f g : Nat) (v : List Int64) : gL (sB s f v) g = gL s g := by simp only [gI, gL, gA, gB, sI, sL, sA, sB, upd]
theorem gA_sI (s : S) (f g : Nat) (v : Int32) : gA (sI s f v) g = gA s g := by simp only [gI, gL, gA, gB, sI, sL, sA, sB, upd]
theorem gA_sL (s : S) (f g : Nat) (v : Int64) : gA (sL s f v) g = gA s g := by simp only [gI, gL, gA, gB, sI, sL, sA, sB, upd]
theorem gA_sA (s : S) (f g : Nat) (v : List Int32) : gA (sA s f v) g = if g = f then v else gA s g := by simp only [gI, gL, gA, gB, sI, sL, sA, sB, upd]
theorem gA_sB (s : S) (f g : Nat) (v : List Int64) : gA (sB s f v) g = gA s g := by simp only [gI, gL, gA, gB, sI, sL, sA, sB, upd]
theorem gB_sI (s : S) (f g : Nat) (v : Int32) : gB (sI s f v) g = gB s g := by simp only [gI, gL, gA, gB, sI, sL, sA, sB, upd]
theorem gB_sL (s : S) (f g : Nat) (v : Int64) : gB (sL s f v) g = gB s g := by simp only [gI, gL, gA, gB, sI, sL, sA, sB, upd]
theorem gB_sA (s : S) (f g : Nat) (v : List Int32) : gB (sA s f v) g = gB s g := by simp only [gI, gL, gA, gB, sI, sL, sA, sB, upd]
theorem gB_sB (s : S) (f g : Nat) (v : List Int64) : gB (sB s f v) g = if g = f then v else gB s g := by simp only [gI, gL, gA, gB, sI, sL, sA, sB, upd]
def rep {A : Type} (n : Nat) (x : A) : List A := List.replicate n x
theorem rep_length {A : Type} (n : Nat) (x : A) : (rep n x).length = n := by simp only [rep, List.length_replicate]
theorem rep_get {A : Type} (n : Nat) (x : A) (k : Nat) : (rep n x)[k]? = if k < n then some x else none := by simp only [rep, List.getElem?_replicate]
theorem rep_set {A : Type} (n : Nat) (x : A) (k : Nat) : (rep n x).set k x = rep n x := by simp only [rep, List.set_replicate_self]
/-- reading and writing a component -/
def ix {A : Type} (l : List A) (j : Int32) : Option A := if j < 0 then none else l[j.toNatClampNeg]?
def st {A : Type} (l : List A) (j : Int32) (x : A) : Option (List A) := if j < 0 then none else if j.toNatClampNeg < l.length then some (l.set j.toNatClampNeg x) else none
/-- the world of a run: the script array, if there is one; the objects made so far, each with the number of arrays that it has been given -/
abbrev W : Type := Option (List Int32) × List (Nat × S)
/-- the class: name, slots, scalar fields (name, descriptor, type), array fields in the order of their making (name, descriptor, component type, most slots) -/
abbrev CI : Type := String × Nat × List (String × String × FieldType) × List (String × String × FieldType × Nat)
def cN (c : CI) : String := c.1
def cF (c : CI) : Nat := c.2.1
def cS (c : CI) : List (String × String × FieldType) := c.2.2.1
def cA (c : CI) : List (String × String × FieldType × Nat) := c.2.2.2
def cK (c : CI) : Nat := (cA c).length
/-- the program: the sheet's words, the class -/
abbrev PI : Type := List Jvm.Cond × CI
/-- a method: name, bytes, variables, return type, room, most objects, whether it makes cells, cells and slots at its start -/
abbrev Meth : Type := MethodName × ByteArray × Nat × Option FieldType × Room × Nat × Bool × Nat × Nat
def mY (M : Meth) : MethodName := M.1
def mB (M : Meth) : ByteArray := M.2.1
def mL (M : Meth) : Nat := M.2.2.1
def mT (M : Meth) : Option FieldType := M.2.2.2.1
def mR (M : Meth) : Room := M.2.2.2.2.1
def mN (M : Meth) : Nat := M.2.2.2.2.2.1
def mTop (M : Meth) : Bool := M.2.2.2.2.2.2.1
def mUC (M : Meth) : Nat := M.2.2.2.2.2.2.2.1
def mUS (M : Meth) : Nat := M.2.2.2.2.2.2.2.2
/-! ## 2. Abstract references: 0 the script; j + 1 the cell at b + j -/
def con (α b : Nat) : Value → Value
  | .ref 0 => .ref α
  | .ref (j + 1) => .ref (b + j)
  | v => v
def cs (α b : Nat) : Slot → Slot
  | .val v => .val (con α b v)
  | .unset => .unset
  | .second => .second
def cL (α b : Nat) (L : List Slot) : Array Slot := (L.map (cs α b)).toArray
def cV (α b : Nat) (l : List Value) : List Value := l.map (con α b)
theorem con_cat (α b : Nat) (v : Value) : (con α b v).category = v.category := by
  cases v <;> try rfl
  rename_i a; cases a <;> rfl
theorem con_ref (α b : Nat) (v : Value) : (con α b v).isRef = v.isRef := by
  cases v <;> try rfl
  rename_i a; cases a <;> rfl
theorem cL_get {α b : Nat} {L : List Slot} {k : Nat} {x : Slot} (h : L[k]? = some x) : (cL α b L)[k]? = some (cs α b x) := by
  simp [cL, List.getElem?_toArray, List.getElem?_map, h]
theorem cL_size (α b : Nat) (L : List Slot) : (cL α b L).size = L.length := by simp [cL]
theorem cV_sum (α b : Nat) (l : List Value) : ((cV α b l).map fun v => v.category).sum = (l.map fun v => v.category).sum := by
  simp [cV, List.map_map, Function.comp_def, con_cat]
theorem setAt_map {α b : Nat} {l l' : Array Slot} {i : Nat} {x : Slot} (h : setAt l i x = some l') : setAt (l.map (cs α b)) i (cs α b x) = some (l'.map (cs α b)) := by
  unfold setAt at h ⊢
  split at h
  · rename_i q
    cases h
    rw [if_pos (by simpa using q)]
    simp [Array.map_setIfInBounds]
  · cases h
theorem storeSelf_map {α b : Nat} {l l' : Array Slot} {i : Nat} {v : Value} (h : storeSelf l i v = some l') : storeSelf (l.map (cs α b)) i (con α b v) = some (l'.map (cs α b)) := by
  simp only [storeSelf, Option.bind_eq_bind, Option.bind_eq_some_iff] at h ⊢
  obtain ⟨l1, h1, h2⟩ := h
  refine ⟨l1.map (cs α b), setAt_map (x := .val v) h1, ?_⟩
  rw [con_cat]
  split at h2
  · rename_i q
    rw [if_pos q]
    obtain ⟨x, h3, h4⟩ := Option.bind_eq_some_iff.mp h2
    refine Option.bind_eq_some_iff.mpr ⟨cs α b x, by simp [h3], ?_⟩
    cases x with
    | unset => exact setAt_map (x := .second) h4
    | second => exact setAt_map (x := .second) h4
    | val old =>
      simp only [cs, con_cat] at h4 ⊢
      split at h4
      · rename_i q2
        rw [if_pos q2]
        obtain ⟨y, h5, h6⟩ := Option.bind_eq_some_iff.mp h4
        exact Option.bind_eq_some_iff.mpr ⟨_, setAt_map (x := .unset) h5, setAt_map (x := .second) h6⟩
      · rename_i q2
        rw [if_neg q2]
        exact setAt_map (x := .second) h4
  · rename_i q
    rw [if_neg q]
    cases h2; rfl
theorem store_map {α b : Nat} {l l' : Array Slot} {i : Nat} {v : Value} (h : storeLocals l i v = some l') : storeLocals (l.map (cs α b)) i (con α b v) = some (l'.map (cs α b)) := by
  simp only [storeLocals, Option.bind_eq_bind, Option.bind_eq_some_iff] at h ⊢
  obtain ⟨x, h1, h2⟩ := h
  refine ⟨cs α b x, by simp [h1], ?_⟩
  cases x with
  | unset => exact storeSelf_map h2
  | second =>
    obtain ⟨y, h3, h4⟩ := Option.bind_eq_some_iff.mp h2
    exact Option.bind_eq_some_iff.mpr ⟨_, setAt_map (x := .unset) h3, storeSelf_map h4⟩
  | val old =>
    simp only [cs, con_cat] at h2 ⊢
    split at h2
    · rename_i q
      rw [if_pos q]
      obtain ⟨y, h3, h4⟩ := Option.bind_eq_some_iff.mp h2
      exact Option.bind_eq_some_iff.mpr ⟨_, setAt_map (x := .unset) h3, storeSelf_map h4⟩
    · rename_i q
      rw [if_neg q]
      exact storeSelf_map h2
theorem storeC {α b : Nat} {L L' : List Slot} {i : Nat} {v : Value} (h : storeLocals L.toArray i v = some L'.toArray) : storeLocals (cL α b L) i (con α b v) = some (cL α b L') := by
  have := store_map (α := α) (b := b) h
  simpa [cL] using this
theorem setAt_size {l l' : Array Slot} {i : Nat} {x : Slot} (h : setAt l i x = some l') : l'.size = l.size := by
  unfold setAt at h; split at h <;> cases h; simp
theorem storeSelf_size {l l' : Array Slot} {i : Nat} {v : Value} (h : storeSelf l i v = some l') : l'.size = l.size := by
  simp only [storeSelf, Option.bind_eq_bind, Option.bind_eq_some_iff] at h
  obtain ⟨l1, h1, h2⟩ := h
  have e1 := setAt_size h1
  split at h2
  · obtain ⟨x, h3, h4⟩ := Option.bind_eq_some_iff.mp h2
    cases x with
    | unset => exact (setAt_size h4).trans e1
    | second => exact (setAt_size h4).trans e1
    | val old =>
      dsimp only at h4
      split at h4
      · obtain ⟨y, h5, h6⟩ := Option.bind_eq_some_iff.mp h4
        exact (setAt_size h6).trans ((setAt_size h5).trans e1)
      · exact (setAt_size h4).trans e1
  · cases h2; exact e1
theorem store_size {l l' : Array Slot} {i : Nat} {v : Value} (h : storeLocals l i v = some l') : l'.size = l.size := by
  simp only [storeLocals, Option.bind_eq_bind, Option.bind_eq_some_iff] at h
  obtain ⟨x, h1, h2⟩ := h
  cases x with
  | unset => exact storeSelf_size h2
  | second =>
    obtain ⟨y, h3, h4⟩ := Option.bind_eq_some_iff.mp h2
    exact (storeSelf_size h4).trans (setAt_size h3)
  | val old =>
    dsimp only at h2
    split at h2
    · obtain ⟨y, h3, h4⟩ := Option.bind_eq_some_iff.mp h2
      exact (storeSelf_size h4).trans (setAt_size h3)
    · exact storeSelf_size h2
/-- a variable that may be written over by a value of one word -/
def k1 (o : Slot) : Prop := o = .unset ∨ ∃ w, o = .val w ∧ w.category = 1
def k2 (o o2 : Slot) : Prop := (o = .unset ∧ o2 = .unset) ∨ ∃ u, o = .val (.long u) ∧ o2 = .second
theorem setAt_l {L : List Slot} {k : Nat} {x : Slot} (h : k < L.length) : setAt L.toArray k x = some (L.set k x).toArray := by simp [setAt, h]
theorem get_l {L : List Slot} {k : Nat} {o : Slot} (h : L[k]? = some o) : L.toArray[k]? = some o := by rw [List.getElem?_toArray]; exact h
theorem store_u {L : List Slot} {k : Nat} {v : Value} (h : L[k]? = some .unset) : storeLocals L.toArray k v = storeSelf L.toArray k v := by
  simp only [storeLocals, Option.bind_eq_bind, get_l h, Option.bind_some]
theorem store_1 {L : List Slot} {k : Nat} {v w : Value} (h : L[k]? = some (.val w)) (hw : w.category = 1) : storeLocals L.toArray k v = storeSelf L.toArray k v := by
  simp only [storeLocals, Option.bind_eq_bind, get_l h, Option.bind_some]
  rw [if_neg (by rw [hw]; decide)]
theorem store_k {L : List Slot} {k : Nat} {v : Value} {o : Slot} (h : L[k]? = some o) (ho : k1 o) : storeLocals L.toArray k v = storeSelf L.toArray k v := by
  rcases ho with rfl | ⟨w, rfl, hw⟩
  · exact store_u h
  · exact store_1 h hw
theorem store_2 {L : List Slot} {k : Nat} {v w : Value} (h : L[k]? = some (.val w)) (hw : w.category = 2) (l2 : k + 1 < L.length) : storeLocals L.toArray k v = storeSelf (L.set (k + 1) .unset).toArray k v := by
  simp only [storeLocals, Option.bind_eq_bind, get_l h, Option.bind_some]
  rw [if_pos hw, setAt_l l2, Option.bind_some]
theorem self_1 {L : List Slot} {k : Nat} {v : Value} (hv : v.category = 1) (l : k < L.length) : storeSelf L.toArray k v = some (L.set k (.val v)).toArray := by
  simp only [storeSelf, Option.bind_eq_bind, setAt_l l, Option.bind_some]
  rw [if_neg (by rw [hv]; decide)]
theorem self_2 {L : List Slot} {k : Nat} {v : Value} {o : Slot} (hv : v.category = 2) (h : L[k + 1]? = some o) (ho : k1 o ∨ o = .second) (l : k < L.length) : storeSelf L.toArray k v = some ((L.set k (.val v)).set (k + 1) .second).toArray := by
  have l2 := (List.getElem?_eq_some_iff.mp h).1
  have e2 : (L.set k (.val v))[k + 1]? = some o := by rw [List.getElem?_set_ne (by omega)]; exact h
  simp only [storeSelf, Option.bind_eq_bind, setAt_l l, Option.bind_some]
  rw [if_pos hv, get_l e2, Option.bind_some]
  rcases ho with (rfl | ⟨w, rfl, hw⟩) | rfl
  · exact setAt_l (by rw [List.length_set]; exact l2)
  · dsimp only
    rw [if_neg (by rw [hw]; decide)]
    exact setAt_l (by rw [List.length_set]; exact l2)
  · exact setAt_l (by rw [List.length_set]; exact l2)
theorem self_3 {L : List Slot} {k : Nat} {v w : Value} (hv : v.category = 2) (h : L[k + 1]? = some (.val w)) (hw : w.category = 2) (l3 : k + 2 < L.length) (l : k < L.length) : storeSelf L.toArray k v = some (((L.set k (.val v)).set (k + 2) .unset).set (k + 1) .second).toArray := by
  have l2 := (List.getElem?_eq_some_iff.mp h).1
  have e2 : (L.set k (.val v))[k + 1]? = some (.val w) := by rw [List.getElem?_set_ne (by omega)]; exact h
  simp only [storeSelf, Option.bind_eq_bind, setAt_l l, Option.bind_some]
  rw [if_pos hv, get_l e2, Option.bind_some]
  dsimp only
  rw [if_pos hw, setAt_l (by rw [List.length_set]; exact l3), Option.bind_some, setAt_l (by rw [List.length_set, List.length_set]; exact l2)]
theorem stx {L : List Slot} {k : Nat} {o : Slot} {v : Value} (h : L[k]? = some o) (ho : k1 o) (hv : v.category = 1) : storeLocals L.toArray k v = some (L.set k (.val v)).toArray := by
  rw [store_k h ho, self_1 hv (List.getElem?_eq_some_iff.mp h).1]
theorem stx3 {L : List Slot} {k : Nat} {o o2 : Slot} {u : Int64} (h : L[k]? = some o) (h2 : L[k + 1]? = some o2) (ho : k1 o) (ho2 : k1 o2) : storeLocals L.toArray k (.long u) = some ((L.set k (.val (.long u))).set (k + 1) .second).toArray := by
  rw [store_k h ho, self_2 rfl h2 (Or.inl ho2) (List.getElem?_eq_some_iff.mp h).1]
theorem stx2 {L : List Slot} {k : Nat} {o o2 : Slot} {u : Int64} (h : L[k]? = some o) (h2 : L[k + 1]? = some o2) (ho : k2 o o2) : storeLocals L.toArray k (.long u) = some ((L.set k (.val (.long u))).set (k + 1) .second).toArray := by
  have l1 := (List.getElem?_eq_some_iff.mp h).1
  have l2 := (List.getElem?_eq_some_iff.mp h2).1
  rcases ho with ⟨rfl, rfl⟩ | ⟨u', rfl, rfl⟩
  · exact stx3 h h2 (Or.inl rfl) (Or.inl rfl)
  · rw [store_2 h rfl l2, self_2 (o := .unset) rfl (by rw [List.getElem?_set_self l2]) (Or.inl (Or.inl rfl)) (by rw [List.length_set]; exact l1)]
    rw [List.set_comm _ _ (show k + 1 ≠ k by omega), List.set_set]
theorem stx4 {L : List Slot} {k : Nat} {o2 : Slot} {w : Int64} {v : Value} (h : L[k]? = some (.val (.long w))) (h2 : L[k + 1]? = some o2) (hv : v.category = 1) : storeLocals L.toArray k v = some ((L.set (k + 1) .unset).set k (.val v)).toArray := by
  rw [store_2 h rfl (List.getElem?_eq_some_iff.mp h2).1, self_1 hv (by rw [List.length_set]; exact (List.getElem?_eq_some_iff.mp h).1)]
theorem stx5 {L : List Slot} {k : Nat} {o o3 : Slot} {w u : Int64} (h : L[k]? = some o) (ho : k1 o) (h2 : L[k + 1]? = some (.val (.long w))) (h3 : L[k + 2]? = some o3) : storeLocals L.toArray k (.long u) = some (((L.set k (.val (.long u))).set (k + 2) .unset).set (k + 1) .second).toArray := by
  rw [store_k h ho, self_3 rfl h2 rfl (List.getElem?_eq_some_iff.mp h3).1 (List.getElem?_eq_some_iff.mp h).1]
/-- a tail of dead variables -/
def wtf : Slot ⊕ Int64 → List Slot
  | .inl x => [x]
  | .inr u => [.val (.long u), .second]
def WT (D : List Slot) : Prop := ∃ l : List (Slot ⊕ Int64), D = l.flatMap wtf ∧ ∀ x, Sum.inl x ∈ l → k1 x
theorem wt0 : WT [] := ⟨[], rfl, fun _ h => nomatch h⟩
theorem wt1 {x : Slot} {D : List Slot} (h : k1 x) (W : WT D) : WT (x :: D) := by
  obtain ⟨l, rfl, g⟩ := W
  refine ⟨.inl x :: l, by simp [wtf], fun y hy => ?_⟩
  rcases List.mem_cons.mp hy with e | e
  · cases e; exact h
  · exact g y e
theorem wt2 {u : Int64} {D : List Slot} (W : WT D) : WT (.val (.long u) :: .second :: D) := by
  obtain ⟨l, rfl, g⟩ := W
  refine ⟨.inr u :: l, by simp [wtf], fun y hy => ?_⟩
  rcases List.mem_cons.mp hy with e | e
  · cases e
  · exact g y e
theorem wt12 {x y : Slot} {D : List Slot} (h : k2 x y) (W : WT D) : WT (x :: y :: D) := by
  rcases h with ⟨rfl, rfl⟩ | ⟨u, rfl, rfl⟩
  · exact wt1 (Or.inl rfl) (wt1 (Or.inl rfl) W)
  · exact wt2 W
theorem wt_cases {D : List Slot} (W : WT D) : D = [] ∨ (∃ x E, D = x :: E ∧ k1 x ∧ WT E) ∨ ∃ u E, D = .val (.long u) :: .second :: E ∧ WT E := by
  obtain ⟨l, rfl, g⟩ := W
  match l, g with
  | [], _ => exact Or.inl rfl
  | .inl x :: r, g => exact Or.inr (Or.inl ⟨x, r.flatMap wtf, by simp [wtf], g x (List.mem_cons_self ..), r, rfl, fun y hy => g y (List.mem_cons_of_mem _ hy)⟩)
  | .inr u :: r, g => exact Or.inr (Or.inr ⟨u, r.flatMap wtf, by simp [wtf], r, rfl, fun y hy => g y (List.mem_cons_of_mem _ hy)⟩)
theorem stT {L0 D : List Slot} {v : Value} {n : Nat} (W : WT D) (hl : D.length = n + 1) (hv : v.category = 1) : ∃ D', WT D' ∧ D'.length = n ∧ storeLocals (L0 ++ D).toArray L0.length v = some (L0 ++ ([.val v] : List Slot) ++ D').toArray := by
  rcases wt_cases W with rfl | ⟨x, E, rfl, hx, WE⟩ | ⟨u, E, rfl, WE⟩
  · simp at hl
  · refine ⟨E, WE, by simpa using hl, ?_⟩
    rw [stx (o := x) (by simp) hx hv]; simp
  · refine ⟨.unset :: E, wt1 (Or.inl rfl) WE, by simpa using hl, ?_⟩
    rw [stx4 (w := u) (o2 := .second) (by simp) (by rw [List.getElem?_append_right (by omega)]; simp) hv]
    simp [List.set_append]
theorem stT2 {L0 D : List Slot} {u : Int64} {n : Nat} (W : WT D) (hl : D.length = n + 2) : ∃ D', WT D' ∧ D'.length = n ∧ storeLocals (L0 ++ D).toArray L0.length (.long u) = some (L0 ++ ([.val (.long u), .second] : List Slot) ++ D').toArray := by
  rcases wt_cases W with rfl | ⟨x, E, rfl, hx, WE⟩ | ⟨w, E, rfl, WE⟩
  · simp at hl
  · rcases wt_cases WE with rfl | ⟨y, F, rfl, hy, WF⟩ | ⟨w, F, rfl, WF⟩
    · simp at hl
    · refine ⟨F, WF, by simpa using hl, ?_⟩
      rw [stx3 (o := x) (o2 := y) (by simp) (by rw [List.getElem?_append_right (by omega)]; simp) hx hy]
      simp [List.set_append]
    · refine ⟨.unset :: F, wt1 (Or.inl rfl) WF, by simpa using hl, ?_⟩
      rw [stx5 (o := x) (w := w) (o3 := .second) (by simp) hx (by rw [List.getElem?_append_right (by omega)]; simp) (by rw [List.getElem?_append_right (by omega)]; simp)]
      simp [List.set_append]
  · refine ⟨E, WE, by simpa using hl, ?_⟩
    rw [stx2 (o := .val (.long w)) (o2 := .second) (by simp) (by rw [List.getElem?_append_right (by omega)]; simp) (Or.inr ⟨w, rfl, rfl⟩)]
    simp [List.set_append]
/-- the variables at a method's entry -/
def argL : List Value → List Slot
  | [] => []
  | v :: r => if v.category = 2 then .val v :: .second :: argL r else .val v :: argL r
def entryL (as : List Value) (n : Nat) : List Slot := argL as ++ List.replicate (n - (argL as).length) .unset
theorem argL_fold : ∀ (as : List Value) (acc : List Slot), as.foldl (fun acc v => if v.category = 2 then (acc.push (.val v)).push .second else acc.push (.val v)) acc.toArray = (acc ++ argL as).toArray
  | [], acc => by simp [argL]
  | v :: r, acc => by
    simp only [List.foldl_cons, argL]
    split
    · rename_i q
      rw [show ((acc.toArray.push (Slot.val v)).push Slot.second) = (acc ++ [Slot.val v, Slot.second]).toArray by simp, argL_fold r]
      simp
    · rename_i q
      rw [show (acc.toArray.push (Slot.val v)) = (acc ++ [Slot.val v]).toArray by simp, argL_fold r]
      simp
theorem argL_map (α b : Nat) : ∀ as : List Value, argL (cV α b as) = (argL as).map (cs α b)
  | [] => rfl
  | v :: r => by
    have ih := argL_map α b r
    simp only [cV, List.map_cons, argL, con_cat] at ih ⊢
    split <;> simp [ih, cs]
theorem entry_locals (α b : Nat) (as : List Value) (n : Nat) : argsToLocals (cV α b as).toArray n = cL α b (entryL as n) := by
  have h := argL_fold (cV α b as) []
  simp only [List.nil_append] at h
  have h' : (cV α b as).toArray.foldl (fun acc v => if v.category = 2 then (acc.push (Slot.val v)).push Slot.second else acc.push (Slot.val v)) #[] = (argL (cV α b as)).toArray := by
    rw [← h]; simp
  simp only [argsToLocals]
  rw [h', argL_map]
  simp [cL, entryL, List.map_append, cs]
/-! ## 3. What the heap shows -/
def scV (ty : FieldType) (s : S) (f : Nat) : Value := match ty with
  | .long => .long (gL s f)
  | _ => .int (gI s f)
def arV (ty : FieldType) (s : S) (q : Nat) : List Value := match ty with
  | .long => (gB s q).map .long
  | _ => (gA s q).map .int
def Ar (Z : State) (h : Heap) (a : Nat) (ty : FieldType) (vs : List Value) : Prop := ∃ c : Cell, Arr Z h a c ty ∧ c.slots = vs.toArray
def Rep1 (Z : State) (ci : CI) (h : Heap) (b : Nat) (o : Nat × S) : Prop :=
  Exa Z h b (cN ci) ∧ (∀ f x, (cS ci)[f]? = some x → Fld Z h b (cN ci) x.1 x.2.1 (scV x.2.2 o.2 f)) ∧
  (∀ q x, (cA ci)[q]? = some x → Fld Z h b (cN ci) x.1 x.2.1 (if q < o.1 then .ref (b + 1 + q) else .null)) ∧
  (∀ q x, (cA ci)[q]? = some x → q < o.1 → Ar Z h (b + 1 + q) x.2.2.1 (arV x.2.2.1 o.2 q))
def RepW (Z : State) (ci : CI) (α b : Nat) (w : W) (h : Heap) : Prop :=
  (∀ l, w.1 = some l → Ar Z h α .int (l.map .int) ∧ α < b) ∧ ∀ i o, w.2[i]? = some o → Rep1 Z ci h (b + (cK ci + 1) * i) o
def Frm (lo hi : Nat) (h0 h : Heap) : Prop := ∀ (x : Nat) (c : Cell), h0[x]? = some c → (x < lo ∨ hi ≤ x) → h[x]? = some c
def usedC (w : W) : Nat := (w.2.map fun o => 1 + o.1).sum
def usedS (ci : CI) (w : W) : Nat := (w.2.map fun o => cF ci + (((cA ci).take o.1).map fun x => x.2.2.2).sum).sum
/-- what the sheet says of the class -/
def Facts (Z : State) (a0 : Array Value) (ci : CI) : Prop :=
  (Jvm.Cond.instantiable (cN ci) (cF ci)).before a0 Z = true ∧ (Jvm.Cond.initialized (cN ci)).before a0 Z = true ∧
  (∀ (f : Nat) (x : String × String × FieldType), (cS ci)[f]? = some x → Laid Z a0 (cN ci) (cN ci) x.1 x.2.1 ∧ parseFieldDescriptor x.2.1 = some x.2.2) ∧
  (∀ (q : Nat) (x : String × String × FieldType × Nat), (cA ci)[q]? = some x → Laid Z a0 (cN ci) (cN ci) x.1 x.2.1 ∧ parseFieldDescriptor x.2.1 = some (.array x.2.2.1)) ∧
  ((cS ci).map (fun x => x.1) ++ (cA ci).map (fun x => x.1)).Nodup ∧ (∀ f x, (cS ci)[f]? = some x → defaultValue x.2.2 = scV x.2.2 s0 f) ∧ (cN ci ≠ "java/lang/invoke/MethodHandle" ∧ cN ci ≠ "java/lang/invoke/VarHandle")
theorem nq {a b : Nat} (h : a ≠ b) : @Ne Addr a b := h
theorem Ar.frm {Z : State} {h h' : Heap} {a : Nat} {ty : FieldType} {vs : List Value} (A : Ar Z h a ty vs) (k : ∀ c, h[a]? = some c → h'[a]? = some c) : Ar Z h' a ty vs := by
  obtain ⟨c, ⟨q1, q2⟩, q3⟩ := A; exact ⟨c, ⟨k c q1, q2⟩, q3⟩
theorem fld_frm {Z : State} {h h' : Heap} {a : Nat} {C n d : String} {v : Value} (F : Fld Z h a C n d v) (k : ∀ c, h[a]? = some c → h'[a]? = some c) : Fld Z h' a C n d v := by
  obtain ⟨cell, cf, kc, i, f, h1, r⟩ := F; exact ⟨cell, cf, kc, i, f, k _ h1, r⟩
theorem exa_frm {Z : State} {h h' : Heap} {a : Nat} {C : String} (F : Exa Z h a C) (k : ∀ c, h[a]? = some c → h'[a]? = some c) : Exa Z h' a C := by
  obtain ⟨cell, kc, h1, r⟩ := F; exact ⟨cell, kc, k _ h1, r⟩
theorem get_lt {A : Type} {l : List A} {i : Nat} {x : A} (h : l[i]? = some x) : i < l.length := (List.getElem?_eq_some_iff.mp h).1
theorem Rep1.frm {Z : State} {ci : CI} {h h' : Heap} {b : Nat} {o : Nat × S} (F : Rep1 Z ci h b o) (k : ∀ x c, b ≤ x → x < b + (cK ci + 1) → h[x]? = some c → h'[x]? = some c) : Rep1 Z ci h' b o := by
  obtain ⟨f1, f2, f3, f4⟩ := F
  refine ⟨exa_frm f1 fun c => k b c (Nat.le_refl _) (by omega), fun f x hx => fld_frm (f2 f x hx) fun c => k b c (Nat.le_refl _) (by omega), fun q x hx => fld_frm (f3 q x hx) fun c => k b c (Nat.le_refl _) (by omega), fun q x hx hq => (f4 q x hx hq).frm fun c => k _ c (by omega) ?_⟩
  have := get_lt hx
  simp only [cK]; omega
theorem RepW.ext {Z : State} {ci : CI} {α b : Nat} {w : W} {h h' : Heap} (F : RepW Z ci α b w h) (E : Ext h h') : RepW Z ci α b w h' :=
  ⟨fun l hl => ⟨((F.1 l hl).1).frm fun c q => E.2 _ _ q, (F.1 l hl).2⟩, fun i o ho => (F.2 i o ho).frm fun x c _ _ q => E.2 _ _ q⟩
theorem Frm.refl (lo hi : Nat) (h : Heap) : Frm lo hi h h := fun _ _ q _ => q
theorem Frm.trans {lo hi : Nat} {h0 h1 h2 : Heap} (A : Frm lo hi h0 h1) (B : Frm lo hi h1 h2) : Frm lo hi h0 h2 := fun x c q r => B x c (A x c q r) r
theorem Frm.wide {lo hi lo' hi' : Nat} {h0 h1 : Heap} (A : Frm lo hi h0 h1) (q1 : lo' ≤ lo) (q2 : hi ≤ hi') : Frm lo' hi' h0 h1 := fun x c q r => A x c q (by omega)
theorem Frm.ext {lo hi : Nat} {h0 h1 h2 : Heap} (A : Frm lo hi h0 h1) (E : Ext h1 h2) : Frm lo hi h0 h2 := fun x c q r => E.2 _ _ (A x c q r)
theorem Frm.wr {lo hi : Nat} {h0 h1 h2 : Heap} {a : Nat} {sl : Nat} {v : Value} (A : Frm lo hi h0 h1) (Wt : Wr h1 h2 a sl v) (q1 : lo ≤ a) (q2 : a < hi) : Frm lo hi h0 h2 := fun x c q r => by
  have q3 := A x c q r
  obtain ⟨c', e1, -, -, -, e5, -⟩ := wr_at Wt q3
  have : x ≠ a := by omega
  rw [← e5 this]; exact e1
/-! ## 4. The walk -/
def Ok (P : PI) (M : Meth) (Z : State) (a0 : Array Value) (p : Program) (R : Room) (s : State) (m : MethodId) (meth : Method) (c : Code) (b n0 : Nat) (h0 : Heap) (uC uS : Nat) : Prop :=
  (∀ d ∈ P.1, d.before a0 Z = true) ∧ Facts Z a0 P.2 ∧ p.tables.exec = Jvm.exec ∧ Z.Warmed39 s.vm ∧ s.vm.findClass (mY M).cls = some m.cls ∧ c.code = mB M ∧ c.maxLocals = mL M ∧ meth.sig.returnType = mT M ∧ meth.name = (mY M).name ∧ R = mR M ∧ n0 ≤ b ∧
  (mTop M = true → h0.size = b + uC ∧ uC = mUC M ∧ uS = mUS M) ∧ s.heap.size = h0.size
def Inv (P : PI) (M : Meth) (l : Launch) (Z : State) (p : Program) (e : Env) (R : Room) (s : State) (m : MethodId) (args : Array Value) (below : List Frame) (meth : Method) (c : Code) (α b n0 : Nat) (h0 : Heap) (uC uS : Nat) (w : W) (T : State) (locs : List Loc) (cells slots : Nat) : Prop :=
  Stand p l e R s m args below meth c T locs cells slots ∧ RepW Z P.2 α b w T.heap ∧ Frm b (b + (cK P.2 + 1) * mN M) h0 T.heap ∧ Fr n0 locs ∧ T.heap.size = h0.size + cells ∧ cells + uC = usedC w ∧ slots + uS = usedS P.2 w ∧ cells ≤ R.cells ∧ slots ≤ R.slots ∧ w.2.length ≤ mN M
def Lv (e : Env) (T : State) (m : MethodId) (r : Option Value) (fs : List Frame) : Prop := ∀ (f : JFrame) (acts : List Action), f.method = m → f.locked = none → f.entered = [] → (doReturn e (T.setTop f) acts r).1 = T.setFrames fs
/-- from here the invocation comes to its end, with this value and this world -/
def Go (P : PI) (M : Meth) (pc : Nat) (L : List Slot) (st : List Value) (w : W) (out : Option Value × W) : Prop :=
  L.length = mL M → ∀ (l : Launch) (Z : State) (a0 : Array Value) (p : Program) (e : Env) (R : Room) (s : State) (m : MethodId) (args : Array Value) (below : List Frame) (meth : Method) (c : Code) (α b n0 : Nat) (h0 : Heap) (uC uS : Nat),
    Ok P M Z a0 p R s m meth c b n0 h0 uC uS → ∀ (T : State) (locs : List Loc) (cells slots : Nat), Inv P M l Z p e R s m args below meth c α b n0 h0 uC uS w T locs cells slots →
    ∃ (T' : State) (locs' : List Loc) (cells' slots' : Nat), Inv P M l Z p e R s m args below meth c α b n0 h0 uC uS out.2 T' locs' cells' slots' ∧
      ∀ fs, Lv e T' m (out.1.map (con α b)) fs → Steps p.tables e below (T.setTop (mkF m pc (cL α b L) (cV α b st))) (T'.setFrames fs)
section Rules
variable {P : PI} {M : Meth} {pc pc' : Nat} {L L' : List Slot} {st st' : List Value} {w w' : W} {out : Option Value × W} {x y z v : Int32} {u r : Int64}
theorem go_mv (hL : L.length = mL M → L'.length = mL M)
    (H : ∀ {p : Program} {e : Env} {below : List Frame} {T target : State} {m : MethodId} {c : Code}, At T m c below → p.tables.exec = Jvm.exec → c.code = mB M → ∀ α b : Nat, Steps p.tables e below (T.setTop (mkF m pc' (cL α b L') (cV α b st'))) target → Steps p.tables e below (T.setTop (mkF m pc (cL α b L) (cV α b st))) target)
    (k : Go P M pc' L' st' w out) : Go P M pc L st w out := by
  intro hl l Z a0 p e R s m args below meth c α b n0 h0 uC uS ok T locs cells slots I
  obtain ⟨T', l', c', n', I', fin⟩ := k (hL hl) l Z a0 p e R s m args below meth c α b n0 h0 uC uS ok T locs cells slots I
  exact ⟨T', l', c', n', I', fun fs hv => H I.1.here ok.2.2.1 ok.2.2.2.2.2.1 α b (fin fs hv)⟩
theorem go_ch (H : ∀ (l : Launch) (Z : State) (a0 : Array Value) (p : Program) (e : Env) (R : Room) (s : State) (m : MethodId) (args : Array Value) (below : List Frame) (meth : Method) (c : Code) (α b n0 : Nat) (h0 : Heap) (uC uS : Nat),
      Ok P M Z a0 p R s m meth c b n0 h0 uC uS → L.length = mL M → ∀ (T : State) (locs : List Loc) (cells slots : Nat), Inv P M l Z p e R s m args below meth c α b n0 h0 uC uS w T locs cells slots →
      ∃ (T' : State) (locs' : List Loc) (cells' slots' : Nat), Inv P M l Z p e R s m args below meth c α b n0 h0 uC uS w' T' locs' cells' slots' ∧
        ∀ target, Steps p.tables e below (T'.setTop (mkF m pc' (cL α b L) (cV α b st'))) target → Steps p.tables e below (T.setTop (mkF m pc (cL α b L) (cV α b st))) target)
    (k : Go P M pc' L st' w' out) : Go P M pc L st w out := by
  intro hl l Z a0 p e R s m args below meth c α b n0 h0 uC uS ok T locs cells slots I
  obtain ⟨T1, l1, c1, n1, I1, h1⟩ := H l Z a0 p e R s m args below meth c α b n0 h0 uC uS ok hl T locs cells slots I
  obtain ⟨T', l', c', n', I', fin⟩ := k hl l Z a0 p e R s m args below meth c α b n0 h0 uC uS ok T1 l1 c1 n1 I1
  exact ⟨T', l', c', n', I', fun fs hv => h1 _ (fin fs hv)⟩
/-! ### loads, stores, constants -/
theorem go_iloadN {k : Fin 4} (d : decode (mB M) pc = .ok (.iload_n k, 1)) (hl : L[k.val]? = some (.val (.int v))) (g : Go P M (pc + 1) L (.int v :: st) w out) : Go P M pc L (st) w out :=
  go_mv id (fun h hx hc α b r => XS.iloadN (g := mkF _ pc (cL α b L) (cV α b (st))) h hx rfl (hb hc d) (cL_get hl) r) g
theorem go_iload {k : Nat} (d : decode (mB M) pc = .ok (.iload k, 2)) (hl : L[k]? = some (.val (.int v))) (g : Go P M (pc + 2) L (.int v :: st) w out) : Go P M pc L (st) w out :=
  go_mv id (fun h hx hc α b r => XS.iload (g := mkF _ pc (cL α b L) (cV α b (st))) h hx rfl (hb hc d) (cL_get hl) r) g
theorem go_lloadN {k : Fin 4} (d : decode (mB M) pc = .ok (.lload_n k, 1)) (hl : L[k.val]? = some (.val (.long u))) (g : Go P M (pc + 1) L (.long u :: st) w out) : Go P M pc L (st) w out :=
  go_mv id (fun h hx hc α b r => XT.lloadN (g := mkF _ pc (cL α b L) (cV α b (st))) h hx rfl (hb hc d) (cL_get hl) r) g
theorem go_lload {k : Nat} (d : decode (mB M) pc = .ok (.lload k, 2)) (hl : L[k]? = some (.val (.long u))) (g : Go P M (pc + 2) L (.long u :: st) w out) : Go P M pc L (st) w out :=
  go_mv id (fun h hx hc α b r => XT.lload (g := mkF _ pc (cL α b L) (cV α b (st))) h hx rfl (hb hc d) (cL_get hl) r) g
theorem go_aloadN {k : Fin 4} {a : Nat} (d : decode (mB M) pc = .ok (.aload_n k, 1)) (hl : L[k.val]? = some (.val (.ref a))) (g : Go P M (pc + 1) L (.ref a :: st) w out) : Go P M pc L (st) w out :=
  go_mv id (fun h hx hc α b r => XS.aloadN (g := mkF _ pc (cL α b L) (cV α b (st))) h hx rfl (hb hc d) (cL_get hl) (con_ref α b (.ref a)) r) g
theorem go_aload {k : Nat} {a : Nat} (d : decode (mB M) pc = .ok (.aload k, 2)) (hl : L[k]? = some (.val (.ref a))) (g : Go P M (pc + 2) L (.ref a :: st) w out) : Go P M pc L (st) w out :=
  go_mv id (fun h hx hc α b r => XS.aload (g := mkF _ pc (cL α b L) (cV α b (st))) h hx rfl (hb hc d) (cL_get hl) (con_ref α b (.ref a)) r) g
theorem go_istoreN {k : Fin 4} (d : decode (mB M) pc = .ok (.istore_n k, 1)) (hl : storeLocals L.toArray k.val (.int x) = some L'.toArray) (g : Go P M (pc + 1) L' (st) w out) : Go P M pc L (.int x :: st) w out :=
  go_mv (fun q => by have := store_size hl; simp at this; omega) (fun h hx hc α b r => XS.istoreN (g := mkF _ pc (cL α b L) (cV α b (.int x :: st))) h hx rfl (hb hc d) rfl (storeC hl) r) g
theorem go_istore {k : Nat} (d : decode (mB M) pc = .ok (.istore k, 2)) (hl : storeLocals L.toArray k (.int x) = some L'.toArray) (g : Go P M (pc + 2) L' (st) w out) : Go P M pc L (.int x :: st) w out :=
  go_mv (fun q => by have := store_size hl; simp at this; omega) (fun h hx hc α b r => XS.istore (g := mkF _ pc (cL α b L) (cV α b (.int x :: st))) h hx rfl (hb hc d) rfl (storeC hl) r) g
theorem go_lstoreN {k : Fin 4} (d : decode (mB M) pc = .ok (.lstore_n k, 1)) (hl : storeLocals L.toArray k.val (.long u) = some L'.toArray) (g : Go P M (pc + 1) L' (st) w out) : Go P M pc L (.long u :: st) w out :=
  go_mv (fun q => by have := store_size hl; simp at this; omega) (fun h hx hc α b r => XT.lstoreN (g := mkF _ pc (cL α b L) (cV α b (.long u :: st))) h hx rfl (hb hc d) rfl (storeC hl) r) g
theorem go_lstore {k : Nat} (d : decode (mB M) pc = .ok (.lstore k, 2)) (hl : storeLocals L.toArray k (.long u) = some L'.toArray) (g : Go P M (pc + 2) L' (st) w out) : Go P M pc L (.long u :: st) w out :=
  go_mv (fun q => by have := store_size hl; simp at this; omega) (fun h hx hc α b r => XT.lstore (g := mkF _ pc (cL α b L) (cV α b (.long u :: st))) h hx rfl (hb hc d) rfl (storeC hl) r) g
theorem go_astoreN {k : Fin 4} {a : Nat} (d : decode (mB M) pc = .ok (.astore_n k, 1)) (hl : storeLocals L.toArray k.val (.ref a) = some L'.toArray) (g : Go P M (pc + 1) L' (st) w out) : Go P M pc L (.ref a :: st) w out :=
  go_mv (fun q => by have := store_size hl; simp at this; omega) (fun h hx hc α b r => XS.astoreN (g := mkF _ pc (cL α b L) (cV α b (.ref a :: st))) h hx rfl (hb hc d) rfl (con_ref α b (.ref a)) (storeC hl) r) g
theorem go_astore {k : Nat} {a : Nat} (d : decode (mB M) pc = .ok (.astore k, 2)) (hl : storeLocals L.toArray k (.ref a) = some L'.toArray) (g : Go P M (pc + 2) L' (st) w out) : Go P M pc L (.ref a :: st) w out :=
  go_mv (fun q => by have := store_size hl; simp at this; omega) (fun h hx hc α b r => XS.astore (g := mkF _ pc (cL α b L) (cV α b (.ref a :: st))) h hx rfl (hb hc d) rfl (con_ref α b (.ref a)) (storeC hl) r) g
theorem go_istoreNT {k : Fin 4} {L0 L1 D : List Slot} {n : Nat} (d : decode (mB M) pc = .ok (.istore_n k, 1)) (hk : k.val = L0.length) (h1 : L1 = L0 ++ [.val (.int x)]) (W : WT D) (hl : D.length = n + 1) (g : ∀ D', WT D' → D'.length = n → Go P M (pc + 1) (L1 ++ D') st w out) : Go P M pc (L0 ++ D) (.int x :: st) w out := by
  obtain ⟨D', W', l', e⟩ := stT (L0 := L0) (v := .int x) W hl rfl
  subst h1
  exact go_istoreN d (by rw [hk]; exact e) (g D' W' l')
theorem go_istoreT {k : Nat} {L0 L1 D : List Slot} {n : Nat} (d : decode (mB M) pc = .ok (.istore k, 2)) (hk : k = L0.length) (h1 : L1 = L0 ++ [.val (.int x)]) (W : WT D) (hl : D.length = n + 1) (g : ∀ D', WT D' → D'.length = n → Go P M (pc + 2) (L1 ++ D') st w out) : Go P M pc (L0 ++ D) (.int x :: st) w out := by
  obtain ⟨D', W', l', e⟩ := stT (L0 := L0) (v := .int x) W hl rfl
  subst h1
  exact go_istore d (by rw [hk]; exact e) (g D' W' l')
theorem go_astoreNT {k : Fin 4} {L0 L1 D : List Slot} {n : Nat} {a : Nat} (d : decode (mB M) pc = .ok (.astore_n k, 1)) (hk : k.val = L0.length) (h1 : L1 = L0 ++ [.val (.ref a)]) (W : WT D) (hl : D.length = n + 1) (g : ∀ D', WT D' → D'.length = n → Go P M (pc + 1) (L1 ++ D') st w out) : Go P M pc (L0 ++ D) (.ref a :: st) w out := by
  obtain ⟨D', W', l', e⟩ := stT (L0 := L0) (v := .ref a) W hl rfl
  subst h1
  exact go_astoreN d (by rw [hk]; exact e) (g D' W' l')
theorem go_astoreT {k : Nat} {L0 L1 D : List Slot} {n : Nat} {a : Nat} (d : decode (mB M) pc = .ok (.astore k, 2)) (hk : k = L0.length) (h1 : L1 = L0 ++ [.val (.ref a)]) (W : WT D) (hl : D.length = n + 1) (g : ∀ D', WT D' → D'.length = n → Go P M (pc + 2) (L1 ++ D') st w out) : Go P M pc (L0 ++ D) (.ref a :: st) w out := by
  obtain ⟨D', W', l', e⟩ := stT (L0 := L0) (v := .ref a) W hl rfl
  subst h1
  exact go_astore d (by rw [hk]; exact e) (g D' W' l')
theorem go_lstoreNT {k : Fin 4} {L0 L1 D : List Slot} {n : Nat} (d : decode (mB M) pc = .ok (.lstore_n k, 1)) (hk : k.val = L0.length) (h1 : L1 = L0 ++ [.val (.long u), .second]) (W : WT D) (hl : D.length = n + 2) (g : ∀ D', WT D' → D'.length = n → Go P M (pc + 1) (L1 ++ D') st w out) : Go P M pc (L0 ++ D) (.long u :: st) w out := by
  obtain ⟨D', W', l', e⟩ := stT2 (L0 := L0) (u := u) W hl
  subst h1
  exact go_lstoreN d (by rw [hk]; exact e) (g D' W' l')
theorem go_lstoreT {k : Nat} {L0 L1 D : List Slot} {n : Nat} (d : decode (mB M) pc = .ok (.lstore k, 2)) (hk : k = L0.length) (h1 : L1 = L0 ++ [.val (.long u), .second]) (W : WT D) (hl : D.length = n + 2) (g : ∀ D', WT D' → D'.length = n → Go P M (pc + 2) (L1 ++ D') st w out) : Go P M pc (L0 ++ D) (.long u :: st) w out := by
  obtain ⟨D', W', l', e⟩ := stT2 (L0 := L0) (u := u) W hl
  subst h1
  exact go_lstore d (by rw [hk]; exact e) (g D' W' l')
theorem go_iconst {i : Int} (d : decode (mB M) pc = .ok (.iconst i, 1)) (hv : v = Int32.ofInt i) (g : Go P M (pc + 1) L (.int v :: st) w out) : Go P M pc L (st) w out :=
  go_mv id (fun h hx hc α b r => XS.iconst (g := mkF _ pc (cL α b L) (cV α b (st))) h hx rfl (hb hc d) (hv ▸ r)) g
theorem go_bipush {i : Int} (d : decode (mB M) pc = .ok (.bipush i, 2)) (hv : v = (Int8.ofInt i).toInt32) (g : Go P M (pc + 2) L (.int v :: st) w out) : Go P M pc L (st) w out :=
  go_mv id (fun h hx hc α b r => XS.bipush (g := mkF _ pc (cL α b L) (cV α b (st))) h hx rfl (hb hc d) (hv ▸ r)) g
theorem go_sipush {i : Int} (d : decode (mB M) pc = .ok (.sipush i, 3)) (hv : v = (Int16.ofInt i).toInt32) (g : Go P M (pc + 3) L (.int v :: st) w out) : Go P M pc L (st) w out :=
  go_mv id (fun h hx hc α b r => XS.sipush (g := mkF _ pc (cL α b L) (cV α b (st))) h hx rfl (hb hc d) (hv ▸ r)) g
theorem go_lconst {i : Fin 2} (d : decode (mB M) pc = .ok (.lconst i, 1)) (hv : u = Int64.ofNat i) (g : Go P M (pc + 1) L (.long u :: st) w out) : Go P M pc L (st) w out :=
  go_mv id (fun h hx hc α b r => XT.lconst (g := mkF _ pc (cL α b L) (cV α b (st))) h hx rfl (hb hc d) (hv ▸ r)) g
theorem go_dup  (d : decode (mB M) pc = .ok (.dup, 1))  (g : Go P M (pc + 1) L (.int x :: .int x :: st) w out) : Go P M pc L (.int x :: st) w out :=
  go_mv id (fun h hx hc α b r => XS.dup (g := mkF _ pc (cL α b L) (cV α b (.int x :: st))) h hx rfl (hb hc d) rfl rfl r) g
theorem go_dupR {a : Nat} (d : decode (mB M) pc = .ok (.dup, 1))  (g : Go P M (pc + 1) L (.ref a :: .ref a :: st) w out) : Go P M pc L (.ref a :: st) w out :=
  go_mv id (fun h hx hc α b r => XS.dup (g := mkF _ pc (cL α b L) (cV α b (.ref a :: st))) h hx rfl (hb hc d) rfl (con_cat α b (.ref a)) r) g
theorem go_dup2 {a : Nat} (d : decode (mB M) pc = .ok (.dup2, 1))  (g : Go P M (pc + 1) L (.int x :: .ref a :: .int x :: .ref a :: st) w out) : Go P M pc L (.int x :: .ref a :: st) w out :=
  go_mv id (fun h hx hc α b r => XT.dup2 (g := mkF _ pc (cL α b L) (cV α b (.int x :: .ref a :: st))) h hx rfl (hb hc d) rfl rfl (con_cat α b (.ref a)) r) g
theorem go_dup2I  (d : decode (mB M) pc = .ok (.dup2, 1))  (g : Go P M (pc + 1) L (.int x :: .int y :: .int x :: .int y :: st) w out) : Go P M pc L (.int x :: .int y :: st) w out :=
  go_mv id (fun h hx hc α b r => XT.dup2 (g := mkF _ pc (cL α b L) (cV α b (.int x :: .int y :: st))) h hx rfl (hb hc d) rfl rfl rfl r) g
theorem go_dup2L  (d : decode (mB M) pc = .ok (.dup2, 1))  (g : Go P M (pc + 1) L (.long u :: .long u :: st) w out) : Go P M pc L (.long u :: st) w out :=
  go_mv id (fun h hx hc α b r => XT.dup2L (g := mkF _ pc (cL α b L) (cV α b (.long u :: st))) h hx rfl (hb hc d) rfl r) g
theorem go_pop  (d : decode (mB M) pc = .ok (.pop, 1))  (g : Go P M (pc + 1) L (st) w out) : Go P M pc L (.int x :: st) w out :=
  go_mv id (fun h hx hc α b r => XT.pop (g := mkF _ pc (cL α b L) (cV α b (.int x :: st))) h hx rfl (hb hc d) rfl rfl r) g
theorem go_iadd  (d : decode (mB M) pc = .ok (.iadd, 1))  (g : Go P M (pc + 1) L (.int (x + y) :: st) w out) : Go P M pc L (.int y :: .int x :: st) w out :=
  go_mv id (fun h hx hc α b r => XS.iadd (g := mkF _ pc (cL α b L) (cV α b (.int y :: .int x :: st))) h hx rfl (hb hc d) rfl r) g
theorem go_isub  (d : decode (mB M) pc = .ok (.isub, 1))  (g : Go P M (pc + 1) L (.int (x - y) :: st) w out) : Go P M pc L (.int y :: .int x :: st) w out :=
  go_mv id (fun h hx hc α b r => XS.isub (g := mkF _ pc (cL α b L) (cV α b (.int y :: .int x :: st))) h hx rfl (hb hc d) rfl r) g
theorem go_imul  (d : decode (mB M) pc = .ok (.imul, 1))  (g : Go P M (pc + 1) L (.int (x * y) :: st) w out) : Go P M pc L (.int y :: .int x :: st) w out :=
  go_mv id (fun h hx hc α b r => XS.imul (g := mkF _ pc (cL α b L) (cV α b (.int y :: .int x :: st))) h hx rfl (hb hc d) rfl r) g
theorem go_iand  (d : decode (mB M) pc = .ok (.iand, 1))  (g : Go P M (pc + 1) L (.int (x &&& y) :: st) w out) : Go P M pc L (.int y :: .int x :: st) w out :=
  go_mv id (fun h hx hc α b r => XS.iand (g := mkF _ pc (cL α b L) (cV α b (.int y :: .int x :: st))) h hx rfl (hb hc d) rfl r) g
theorem go_ior  (d : decode (mB M) pc = .ok (.ior, 1))  (g : Go P M (pc + 1) L (.int (x ||| y) :: st) w out) : Go P M pc L (.int y :: .int x :: st) w out :=
  go_mv id (fun h hx hc α b r => XT.ior (g := mkF _ pc (cL α b L) (cV α b (.int y :: .int x :: st))) h hx rfl (hb hc d) rfl r) g
theorem go_ixor  (d : decode (mB M) pc = .ok (.ixor, 1))  (g : Go P M (pc + 1) L (.int (x ^^^ y) :: st) w out) : Go P M pc L (.int y :: .int x :: st) w out :=
  go_mv id (fun h hx hc α b r => XT.ixor (g := mkF _ pc (cL α b L) (cV α b (.int y :: .int x :: st))) h hx rfl (hb hc d) rfl r) g
theorem go_ishl  (d : decode (mB M) pc = .ok (.ishl, 1))  (g : Go P M (pc + 1) L (.int (x <<< (y &&& 31)) :: st) w out) : Go P M pc L (.int y :: .int x :: st) w out :=
  go_mv id (fun h hx hc α b r => XT.ishl (g := mkF _ pc (cL α b L) (cV α b (.int y :: .int x :: st))) h hx rfl (hb hc d) rfl r) g
theorem go_ishr  (d : decode (mB M) pc = .ok (.ishr, 1))  (g : Go P M (pc + 1) L (.int (x >>> (y &&& 31)) :: st) w out) : Go P M pc L (.int y :: .int x :: st) w out :=
  go_mv id (fun h hx hc α b r => XT.ishr (g := mkF _ pc (cL α b L) (cV α b (.int y :: .int x :: st))) h hx rfl (hb hc d) rfl r) g
theorem go_iushr  (d : decode (mB M) pc = .ok (.iushr, 1))  (g : Go P M (pc + 1) L (.int (XT.ushr x y) :: st) w out) : Go P M pc L (.int y :: .int x :: st) w out :=
  go_mv id (fun h hx hc α b r => XT.iushr (g := mkF _ pc (cL α b L) (cV α b (.int y :: .int x :: st))) h hx rfl (hb hc d) rfl r) g
theorem go_idiv  (d : decode (mB M) pc = .ok (.idiv, 1)) (hy : y ≠ 0) (g : Go P M (pc + 1) L (.int (x / y) :: st) w out) : Go P M pc L (.int y :: .int x :: st) w out :=
  go_mv id (fun h hx hc α b r => XS.idiv (g := mkF _ pc (cL α b L) (cV α b (.int y :: .int x :: st))) h hx rfl (hb hc d) rfl hy r) g
theorem go_irem  (d : decode (mB M) pc = .ok (.irem, 1)) (hy : y ≠ 0) (g : Go P M (pc + 1) L (.int (x % y) :: st) w out) : Go P M pc L (.int y :: .int x :: st) w out :=
  go_mv id (fun h hx hc α b r => XS.irem (g := mkF _ pc (cL α b L) (cV α b (.int y :: .int x :: st))) h hx rfl (hb hc d) rfl hy (by rw [irem_eq_mod x y]; exact r)) g
theorem go_ineg  (d : decode (mB M) pc = .ok (.ineg, 1))  (g : Go P M (pc + 1) L (.int (-x) :: st) w out) : Go P M pc L (.int x :: st) w out :=
  go_mv id (fun h hx hc α b r => XS.ineg (g := mkF _ pc (cL α b L) (cV α b (.int x :: st))) h hx rfl (hb hc d) rfl r) g
theorem go_ladd  (d : decode (mB M) pc = .ok (.ladd, 1))  (g : Go P M (pc + 1) L (.long (u + r) :: st) w out) : Go P M pc L (.long r :: .long u :: st) w out :=
  go_mv id (fun h hx hc α b k => XT.ladd (g := mkF _ pc (cL α b L) (cV α b (.long r :: .long u :: st))) h hx rfl (hb hc d) rfl k) g
theorem go_lsub  (d : decode (mB M) pc = .ok (.lsub, 1))  (g : Go P M (pc + 1) L (.long (u - r) :: st) w out) : Go P M pc L (.long r :: .long u :: st) w out :=
  go_mv id (fun h hx hc α b k => XT.lsub (g := mkF _ pc (cL α b L) (cV α b (.long r :: .long u :: st))) h hx rfl (hb hc d) rfl k) g
theorem go_lmul  (d : decode (mB M) pc = .ok (.lmul, 1))  (g : Go P M (pc + 1) L (.long (u * r) :: st) w out) : Go P M pc L (.long r :: .long u :: st) w out :=
  go_mv id (fun h hx hc α b k => XT.lmul (g := mkF _ pc (cL α b L) (cV α b (.long r :: .long u :: st))) h hx rfl (hb hc d) rfl k) g
theorem go_land  (d : decode (mB M) pc = .ok (.land, 1))  (g : Go P M (pc + 1) L (.long (u &&& r) :: st) w out) : Go P M pc L (.long r :: .long u :: st) w out :=
  go_mv id (fun h hx hc α b k => XT.land (g := mkF _ pc (cL α b L) (cV α b (.long r :: .long u :: st))) h hx rfl (hb hc d) rfl k) g
theorem go_lor  (d : decode (mB M) pc = .ok (.lor, 1))  (g : Go P M (pc + 1) L (.long (u ||| r) :: st) w out) : Go P M pc L (.long r :: .long u :: st) w out :=
  go_mv id (fun h hx hc α b k => XT.lor (g := mkF _ pc (cL α b L) (cV α b (.long r :: .long u :: st))) h hx rfl (hb hc d) rfl k) g
theorem go_lxor  (d : decode (mB M) pc = .ok (.lxor, 1))  (g : Go P M (pc + 1) L (.long (u ^^^ r) :: st) w out) : Go P M pc L (.long r :: .long u :: st) w out :=
  go_mv id (fun h hx hc α b k => XT.lxor (g := mkF _ pc (cL α b L) (cV α b (.long r :: .long u :: st))) h hx rfl (hb hc d) rfl k) g
theorem go_lshl  (d : decode (mB M) pc = .ok (.lshl, 1))  (g : Go P M (pc + 1) L (.long (u <<< (y.toInt64 &&& 63)) :: st) w out) : Go P M pc L (.int y :: .long u :: st) w out :=
  go_mv id (fun h hx hc α b r => XT.lshl (g := mkF _ pc (cL α b L) (cV α b (.int y :: .long u :: st))) h hx rfl (hb hc d) rfl r) g
theorem go_lshr  (d : decode (mB M) pc = .ok (.lshr, 1))  (g : Go P M (pc + 1) L (.long (u >>> (y.toInt64 &&& 63)) :: st) w out) : Go P M pc L (.int y :: .long u :: st) w out :=
  go_mv id (fun h hx hc α b r => XT.lshr (g := mkF _ pc (cL α b L) (cV α b (.int y :: .long u :: st))) h hx rfl (hb hc d) rfl r) g
theorem go_lushr  (d : decode (mB M) pc = .ok (.lushr, 1))  (g : Go P M (pc + 1) L (.long (XT.ushrL u y) :: st) w out) : Go P M pc L (.int y :: .long u :: st) w out :=
  go_mv id (fun h hx hc α b r => XT.lushr (g := mkF _ pc (cL α b L) (cV α b (.int y :: .long u :: st))) h hx rfl (hb hc d) rfl r) g
theorem go_lcmp  (d : decode (mB M) pc = .ok (.lcmp, 1))  (g : Go P M (pc + 1) L (.int (XT.cmpL u r) :: st) w out) : Go P M pc L (.long r :: .long u :: st) w out :=
  go_mv id (fun h hx hc α b k => XT.lcmp (g := mkF _ pc (cL α b L) (cV α b (.long r :: .long u :: st))) h hx rfl (hb hc d) rfl k) g
theorem go_i2l  (d : decode (mB M) pc = .ok (.i2l, 1))  (g : Go P M (pc + 1) L (.long x.toInt64 :: st) w out) : Go P M pc L (.int x :: st) w out :=
  go_mv id (fun h hx hc α b r => XT.i2l (g := mkF _ pc (cL α b L) (cV α b (.int x :: st))) h hx rfl (hb hc d) rfl r) g
theorem go_l2i  (d : decode (mB M) pc = .ok (.l2i, 1))  (g : Go P M (pc + 1) L (.int u.toInt32 :: st) w out) : Go P M pc L (.long u :: st) w out :=
  go_mv id (fun h hx hc α b r => XT.l2i (g := mkF _ pc (cL α b L) (cV α b (.long u :: st))) h hx rfl (hb hc d) rfl r) g
theorem go_i2b  (d : decode (mB M) pc = .ok (.i2b, 1))  (g : Go P M (pc + 1) L (.int x.toInt8.toInt32 :: st) w out) : Go P M pc L (.int x :: st) w out :=
  go_mv id (fun h hx hc α b r => XT.i2b (g := mkF _ pc (cL α b L) (cV α b (.int x :: st))) h hx rfl (hb hc d) rfl r) g
theorem go_iinc {k : Nat} {i : Int} (d : decode (mB M) pc = .ok (.iinc k i, 3)) (h1 : L[k]? = some (.val (.int x))) (hv : v = Int32.ofInt i) (hl : storeLocals L.toArray k (.int (x + v)) = some L'.toArray) (g : Go P M (pc + 3) L' (st) w out) : Go P M pc L (st) w out :=
  by subst hv; exact go_mv (fun q => by have := store_size hl; simp at this; omega) (fun h hx hc α b r => XS.iinc (g := mkF _ pc (cL α b L) (cV α b (st))) h hx rfl (hb hc d) (cL_get h1) (storeC hl) r) g
theorem go_goto {o : Int} (d : decode (mB M) pc = .ok (.goto o, 3)) (hp : 0 ≤ (pc : Int) + o ∧ ((pc : Int) + o).toNat = pc') (g : Go P M pc' L (st) w out) : Go P M pc L (st) w out :=
  go_mv id (fun h hx hc α b r => XS.goto (g := mkF _ pc (cL α b L) (cV α b (st))) h hx rfl rfl (hb hc d) hp.1 hp.2 r) g
theorem go_ifY {cd : ClassFile.Cond} {o : Int} (d : decode (mB M) pc = .ok (.ifCond cd o, 3)) (hq : ifCond.holds cd x = true) (hp : 0 ≤ (pc : Int) + o ∧ ((pc : Int) + o).toNat = pc') (g : Go P M pc' L (st) w out) : Go P M pc L (.int x :: st) w out :=
  go_mv id (fun h hx hc α b r => XS.ifYes (g := mkF _ pc (cL α b L) (cV α b (.int x :: st))) h hx rfl rfl (hb hc d) rfl hq hp.1 hp.2 r) g
theorem go_ifN {cd : ClassFile.Cond} {o : Int} (d : decode (mB M) pc = .ok (.ifCond cd o, 3)) (hq : ifCond.holds cd x = false) (g : Go P M (pc + 3) L (st) w out) : Go P M pc L (.int x :: st) w out :=
  go_mv id (fun h hx hc α b r => XS.ifNo (g := mkF _ pc (cL α b L) (cV α b (.int x :: st))) h hx rfl (hb hc d) rfl hq r) g
theorem go_icY {cd : ClassFile.Cond} {o : Int} (d : decode (mB M) pc = .ok (.if_icmp cd o, 3)) (hq : if_icmp.holds cd x y = true) (hp : 0 ≤ (pc : Int) + o ∧ ((pc : Int) + o).toNat = pc') (g : Go P M pc' L (st) w out) : Go P M pc L (.int y :: .int x :: st) w out :=
  go_mv id (fun h hx hc α b r => XS.icmpYes (g := mkF _ pc (cL α b L) (cV α b (.int y :: .int x :: st))) h hx rfl rfl (hb hc d) rfl hq hp.1 hp.2 r) g
theorem go_icN {cd : ClassFile.Cond} {o : Int} (d : decode (mB M) pc = .ok (.if_icmp cd o, 3)) (hq : if_icmp.holds cd x y = false) (g : Go P M (pc + 3) L (st) w out) : Go P M pc L (.int y :: .int x :: st) w out :=
  go_mv id (fun h hx hc α b r => XS.icmpNo (g := mkF _ pc (cL α b L) (cV α b (.int y :: .int x :: st))) h hx rfl (hb hc d) rfl hq r) g
theorem go_nonnull {o : Int} (d : decode (mB M) pc = .ok (.ifnonnull o, 3)) (hp : 0 ≤ (pc : Int) + o ∧ ((pc : Int) + o).toNat = pc') (g : Go P M pc' L st w out) : Go P M pc L (.ref 0 :: st) w out :=
  go_mv id (fun h hx hc α b r => XT.ifnonnullYes (g := mkF _ pc (cL α b L) (cV α b (.ref 0 :: st))) (b := α) h hx rfl rfl (hb hc d) rfl hp.1 hp.2 r) g
theorem go_tswIn {dflt low high : Int} {offs : Array Int} {len : Nat} {o : Int} (d : decode (mB M) pc = .ok (.tableswitch dflt low high offs, len)) (hin : ¬ (x.toInt < low ∨ x.toInt > high)) (hoff : offs[(x.toInt - low).toNat]? = some o) (hp : 0 ≤ (pc : Int) + o ∧ ((pc : Int) + o).toNat = pc') (g : Go P M pc' L st w out) : Go P M pc L (.int x :: st) w out :=
  go_mv id (fun h hx hc α b r => XS.tswIn (g := mkF _ pc (cL α b L) (cV α b (.int x :: st))) h hx rfl rfl (hb hc d) rfl hin hoff hp.1 hp.2 r) g
theorem go_tswOut {dflt low high : Int} {offs : Array Int} {len : Nat} (d : decode (mB M) pc = .ok (.tableswitch dflt low high offs, len)) (hout : x.toInt < low ∨ x.toInt > high) (hp : 0 ≤ (pc : Int) + dflt ∧ ((pc : Int) + dflt).toNat = pc') (g : Go P M pc' L st w out) : Go P M pc L (.int x :: st) w out :=
  go_mv id (fun h hx hc α b r => XS.tswOut (g := mkF _ pc (cL α b L) (cV α b (.int x :: st))) h hx rfl rfl (hb hc d) rfl hout hp.1 hp.2 r) g
/-! ### constants of the pool -/
theorem go_ldc {k : Nat} (d : decode (mB M) pc = .ok (.ldc k, 2)) (hk : Jvm.Cond.constant (mY M).cls k v ∈ P.1) (g : Go P M (pc + 2) L (.int v :: st) w out) : Go P M pc L st w out :=
  go_ch (fun l Z a0 p e R s m args below meth c α b n0 h0 uC uS ok hl T locs cells slots I => ⟨T, locs, cells, slots, I, fun target r => Stand.ldcI (g := mkF m pc (cL α b L) (cV α b st)) I.1 ok.2.2.1 ok.2.2.2.2.1 (mvT ok.2.2.2.1 (ok.1 _ hk)) rfl (hb ok.2.2.2.2.2.1 d) r⟩) g
theorem go_ldcW {k : Nat} (d : decode (mB M) pc = .ok (.ldc_w k, 3)) (hk : Jvm.Cond.constant (mY M).cls k v ∈ P.1) (g : Go P M (pc + 3) L (.int v :: st) w out) : Go P M pc L st w out :=
  go_ch (fun l Z a0 p e R s m args below meth c α b n0 h0 uC uS ok hl T locs cells slots I => ⟨T, locs, cells, slots, I, fun target r => Stand.ldcWI (g := mkF m pc (cL α b L) (cV α b st)) I.1 ok.2.2.1 ok.2.2.2.2.1 (mvT ok.2.2.2.1 (ok.1 _ hk)) rfl (hb ok.2.2.2.2.2.1 d) r⟩) g
theorem go_ldc2 {k : Nat} (d : decode (mB M) pc = .ok (.ldc2_w k, 3)) (hk : Jvm.Cond.constantLong (mY M).cls k u ∈ P.1) (g : Go P M (pc + 3) L (.long u :: st) w out) : Go P M pc L st w out :=
  go_ch (fun l Z a0 p e R s m args below meth c α b n0 h0 uC uS ok hl T locs cells slots I => ⟨T, locs, cells, slots, I, fun target r => Stand.ldc2J (g := mkF m pc (cL α b L) (cV α b st)) I.1 ok.2.2.1 ok.2.2.2.2.1 (mvT ok.2.2.2.1 (ok.1 _ hk)) rfl (hb ok.2.2.2.2.2.1 d) r⟩) g
/-! ### returns -/
theorem go_iret (hT : mT M = some .int) (d : decode (mB M) pc = .ok (.ireturn, 1)) : Go P M pc L (.int x :: st) w (some (.int x), w) := by
  intro hl l Z a0 p e R s m args below meth c α b n0 h0 uC uS ok T locs cells slots I
  exact ⟨T, locs, cells, slots, I, fun fs hv => retOut I.1 ok.2.2.1 (t := .int) (ok.2.2.2.2.2.2.2.1.trans hT) rfl (Or.inl ⟨rfl, Or.inl rfl, x, rfl⟩) (hb ok.2.2.2.2.2.1 d) hv⟩
theorem go_zret (hT : mT M = some .boolean) (d : decode (mB M) pc = .ok (.ireturn, 1)) (hz : v = nar .boolean x) : Go P M pc L (.int x :: st) w (some (.int v), w) := by
  intro hl l Z a0 p e R s m args below meth c α b n0 h0 uC uS ok T locs cells slots I
  subst hz
  exact ⟨T, locs, cells, slots, I, fun fs hv => retN I.1 ok.2.2.1 (t := .boolean) (ok.2.2.2.2.2.2.2.1.trans hT) (Or.inl rfl) (hb ok.2.2.2.2.2.1 d) hv⟩
theorem go_lret (hT : mT M = some .long) (d : decode (mB M) pc = .ok (.lreturn, 1)) : Go P M pc L (.long u :: st) w (some (.long u), w) := by
  intro hl l Z a0 p e R s m args below meth c α b n0 h0 uC uS ok T locs cells slots I
  exact ⟨T, locs, cells, slots, I, fun fs hv => retOut I.1 ok.2.2.1 (t := .long) (ok.2.2.2.2.2.2.2.1.trans hT) rfl (Or.inr (Or.inl ⟨rfl, rfl, u, rfl⟩)) (hb ok.2.2.2.2.2.1 d) hv⟩
theorem go_ret (hT : mT M = none) (d : decode (mB M) pc = .ok (.return_, 1)) : Go P M pc L [] w (none, w) := by
  intro hl l Z a0 p e R s m args below meth c α b n0 h0 uC uS ok T locs cells slots I
  exact ⟨T, locs, cells, slots, I, fun fs hv => I.1.returnOut ok.2.2.1 (ok.2.2.2.2.2.2.2.1.trans hT) (hb ok.2.2.2.2.2.1 d) hv⟩
/-! ### fields -/
variable {o o' : Nat × S} {s : S} {k n : Nat}
theorem rep_one {Z : State} {ci : CI} {α b : Nat} {h : Heap} (F : RepW Z ci α b (none, [o]) h) : Rep1 Z ci h b o := by
  have := F.2 0 o rfl
  simpa using this
theorem rep_mk {Z : State} {ci : CI} {α b : Nat} {h : Heap} (F : Rep1 Z ci h b o) : RepW Z ci α b (none, [o]) h :=
  ⟨fun l hl => (nomatch hl), fun i o1 ho => by
    cases i with
    | zero => cases ho; simpa using F
    | succ i => simp at ho⟩
/-- the entry idx names the scalar field number f; of type ty -/
def FldS (P : PI) (idx f : Nat) (ty : FieldType) : Prop := ∃ nm ds, (cS P.2)[f]? = some (nm, ds, ty) ∧ Jvm.Cond.fieldLink (cN P.2) idx (cN P.2) nm ds ∈ P.1
def FldA (P : PI) (idx q : Nat) (ty : FieldType) : Prop := ∃ nm ds cap, (cA P.2)[q]? = some (nm, ds, ty, cap) ∧ Jvm.Cond.fieldLink (cN P.2) idx (cN P.2) nm ds ∈ P.1
theorem go_getV {idx f : Nat} {ty : FieldType} (F : FldS P idx f ty) (hM : (mY M).cls = cN P.2) (d : decode (mB M) pc = .ok (.getfield idx, 3)) {vv : Value} (hv : vv = scV ty s f) (hr : ∀ α b, con α b vv = vv) (g : Go P M (pc + 3) L (vv :: st) (none, [(k, s)]) out) : Go P M pc L (.ref 1 :: st) (none, [(k, s)]) out :=
  go_ch (fun l Z a0 p e R s1 m args below meth c α b n0 h0 uC uS ok hl T locs cells slots I => by
    obtain ⟨nm, ds, f1, f2⟩ := F
    obtain ⟨hw, fa, hx, hZ, hown, hc, hml, hret, hnm, hR, hn0, htop, hsz⟩ := ok
    obtain ⟨X, Rp, Fm, Nl, hs, u1, u2, c1, c2, hN⟩ := I
    have Fd := (rep_one Rp).2.1 f _ f1
    rw [hM] at hown
    obtain ⟨T', X', e', stp⟩ := getF X hx hZ hown (host := "") (Or.inl (hw _ f2)) Via.refl rfl Fd (g := mkF m pc (cL α b L) (cV α b (.ref 1 :: st))) rfl rfl (hb hc d)
    refine ⟨T', locs, cells, slots, ⟨X', by rw [e']; exact Rp, by rw [e']; exact Fm, Nl, by rw [e']; exact hs, u1, u2, c1, c2, hN⟩, fun target r => stp target ?_⟩
    rw [show cV α b (vv :: st) = con α b vv :: cV α b st from rfl, hr, hv] at r
    exact r) g
theorem go_getI {idx f : Nat} (F : FldS P idx f .int) (hM : (mY M).cls = cN P.2) (d : decode (mB M) pc = .ok (.getfield idx, 3)) (g : Go P M (pc + 3) L (.int (gI s f) :: st) (none, [(k, s)]) out) : Go P M pc L (.ref 1 :: st) (none, [(k, s)]) out :=
  go_getV F hM d rfl (fun _ _ => rfl) g
theorem go_getZ {idx f : Nat} (F : FldS P idx f .boolean) (hM : (mY M).cls = cN P.2) (d : decode (mB M) pc = .ok (.getfield idx, 3)) (g : Go P M (pc + 3) L (.int (gI s f) :: st) (none, [(k, s)]) out) : Go P M pc L (.ref 1 :: st) (none, [(k, s)]) out :=
  go_getV F hM d rfl (fun _ _ => rfl) g
theorem go_getJ {idx f : Nat} (F : FldS P idx f .long) (hM : (mY M).cls = cN P.2) (d : decode (mB M) pc = .ok (.getfield idx, 3)) (g : Go P M (pc + 3) L (.long (gL s f) :: st) (none, [(k, s)]) out) : Go P M pc L (.ref 1 :: st) (none, [(k, s)]) out :=
  go_getV F hM d rfl (fun _ _ => rfl) g
theorem go_getA {idx q : Nat} {ty : FieldType} (F : FldA P idx q ty) (hM : (mY M).cls = cN P.2) (d : decode (mB M) pc = .ok (.getfield idx, 3)) (hq : Nat.blt q k = true) (g : Go P M (pc + 3) L (.ref (q + 2) :: st) (none, [(k, s)]) out) : Go P M pc L (.ref 1 :: st) (none, [(k, s)]) out :=
  go_ch (fun l Z a0 p e R s1 m args below meth c α b n0 h0 uC uS ok hl T locs cells slots I => by
    obtain ⟨nm, ds, cap, f1, f2⟩ := F
    obtain ⟨hw, fa, hx, hZ, hown, hc, hml, hret, hnm, hR, hn0, htop, hsz⟩ := ok
    obtain ⟨X, Rp, Fm, Nl, hs, u1, u2, c1, c2, hN⟩ := I
    have Fd := (rep_one Rp).2.2.1 q _ f1
    rw [if_pos (show q < (k, s).1 by simpa [Nat.blt_eq] using hq)] at Fd
    rw [hM] at hown
    obtain ⟨T', X', e', stp⟩ := getF X hx hZ hown (host := "") (Or.inl (hw _ f2)) Via.refl rfl Fd (g := mkF m pc (cL α b L) (cV α b (.ref 1 :: st))) rfl rfl (hb hc d)
    refine ⟨T', locs, cells, slots, ⟨X', by rw [e']; exact Rp, by rw [e']; exact Fm, Nl, by rw [e']; exact hs, u1, u2, c1, c2, hN⟩, fun target r => stp target ?_⟩
    rw [show cV α b (.ref (q + 2) :: st) = .ref (b + (q + 1)) :: cV α b st from rfl] at r
    rw [show b + 1 + q = b + (q + 1) by omega]
    exact r) g
/-- another scalar of the object takes its value -/
theorem rep_put {Z : State} {a0 : Array Value} {ci : CI} {h h' : Heap} {b : Nat} {s s' : S} {k f : Nat} {nm ds : String} {ty : FieldType} {vv : Value} (fa : Facts Z a0 ci) (F : Rep1 Z ci h b (k, s)) (hf : (cS ci)[f]? = some (nm, ds, ty))
    (Wt : Wr h h' b (Jvm.RoadKit.slotOf Z (cN ci) nm ds) vv) (hv : vv = scV ty s' f) (ho : ∀ f' x, (cS ci)[f']? = some x → f' ≠ f → scV x.2.2 s' f' = scV x.2.2 s f') (ha : gA s' = gA s) (hbb : gB s' = gB s) : Rep1 Z ci h' b (k, s') := by
  obtain ⟨f1, f2, f3, f4⟩ := F
  obtain ⟨-, -, g1, g2, g3, -⟩ := fa
  have lt := get_lt hf
  refine ⟨f1.wr Wt, fun f' x hx => ?_, fun q x hx => ?_, fun q x hx hq => ?_⟩
  · by_cases e : f' = f
    · subst e
      cases hf.symm.trans hx
      show Fld Z h' b (cN ci) nm ds (scV ty s' f')
      rw [← hv]; exact (f2 f' _ hf).same Wt
    · have lt' := get_lt hx
      show Fld Z h' b (cN ci) x.1 x.2.1 (scV x.2.2 s' f')
      rw [ho f' x hx e]
      refine (f2 f' x hx).other Wt (Or.inr ?_)
      refine slot_ne (g1 f' x hx).1 (g1 f _ hf).1 ?_ (g1 f' x hx).2 (g1 f _ hf).2
      intro en
      have n1 : ((cS ci).map (fun x => x.1) ++ (cA ci).map (fun x => x.1))[f']? = some x.1 := by rw [List.getElem?_append_left (by simpa using lt')]; simp [hx]
      have n2 : ((cS ci).map (fun x => x.1) ++ (cA ci).map (fun x => x.1))[f]? = some nm := by rw [List.getElem?_append_left (by simpa using lt)]; simp [hf]
      rw [en] at n1
      obtain ⟨i1, j1⟩ := List.getElem?_eq_some_iff.mp n1
      obtain ⟨i2, j2⟩ := List.getElem?_eq_some_iff.mp n2
      exact e ((List.getElem_inj g3).mp (j1.trans j2.symm))
  · refine (f3 q x hx).other Wt (Or.inr ?_)
    have lt' := get_lt hx
    refine slot_ne (g2 q x hx).1 (g1 f _ hf).1 ?_ (g2 q x hx).2 (g1 f _ hf).2
    intro en
    have n1 : ((cS ci).map (fun x => x.1) ++ (cA ci).map (fun x => x.1))[(cS ci).length + q]? = some x.1 := by rw [List.getElem?_append_right (by simp)]; simp [hx]
    have n2 : ((cS ci).map (fun x => x.1) ++ (cA ci).map (fun x => x.1))[f]? = some nm := by rw [List.getElem?_append_left (by simpa using lt)]; simp [hf]
    rw [en] at n1
    obtain ⟨i1, j1⟩ := List.getElem?_eq_some_iff.mp n1
    obtain ⟨i2, j2⟩ := List.getElem?_eq_some_iff.mp n2
    have := (List.getElem_inj g3).mp (j1.trans j2.symm)
    omega
  · obtain ⟨c, A, e⟩ := f4 q x hx hq
    refine ⟨c, A.other Wt (nq (by omega)), e.trans ?_⟩
    show (arV x.2.2.1 s q).toArray = (arV x.2.2.1 s' q).toArray
    unfold arV
    split <;> simp [ha, hbb]
theorem go_putV {idx f : Nat} {ty : FieldType} {vv : Value} {s' : S} (F : FldS P idx f ty) (hM : (mY M).cls = cN P.2)
    (hlays : ∀ nm ds, (cS P.2)[f]? = some (nm, ds, ty) → Jvm.Cond.lays (cN P.2) (cN P.2) nm ds ∈ P.1 ∨ (Jvm.Cond.laysFinal (cN P.2) (cN P.2) nm ds ∈ P.1 ∧ (mY M).name = "<init>"))
    (hpos : 0 < mN M) (hr : ∀ α b, con α b vv = vv) (hn : narrow ty vv = vv) (hfi : fits ty vv = true) (hv : vv = scV ty s' f) (ho : ∀ f' x, (cS P.2)[f']? = some x → f' ≠ f → scV x.2.2 s' f' = scV x.2.2 s f') (ha : gA s' = gA s) (hbb : gB s' = gB s)
    (d : decode (mB M) pc = .ok (.putfield idx, 3)) (g : Go P M (pc + 3) L st (none, [(k, s')]) out) : Go P M pc L (vv :: .ref 1 :: st) (none, [(k, s)]) out :=
  go_ch (fun l Z a0 p e R s1 m args below meth c α b n0 h0 uC uS ok hl T locs cells slots I => by
    obtain ⟨nm, ds, f1, f2⟩ := F
    obtain ⟨hw, fa, hx, hZ, hown, hc, hml, hret, hnm, hR, hn0, htop, hsz⟩ := ok
    obtain ⟨X, Rp, Fm, Nl, hs, u1, u2, c1, c2, hN⟩ := I
    have Rp1 := rep_one Rp
    have Fd := Rp1.2.1 f _ f1
    rw [hM] at hown
    obtain ⟨T', h', X', e', Wt, stp⟩ := putF X hx hZ hown (host := "") (Or.inl (hw _ f2)) Via.refl rfl Fd Rp1.1 ((hlays nm ds f1).imp (fun q => hw _ q) (fun q => ⟨hw _ q.1, rfl, hnm.trans q.2⟩)) fa.1 (fa.2.2.1 f _ f1).2 hn hfi (g := mkF m pc (cL α b L) (vv :: .ref b :: cV α b st)) rfl rfl (hb hc d)
    refine ⟨T', _, cells, slots, ⟨X', rep_mk (by rw [e']; exact rep_put fa Rp1 f1 Wt hv ho ha hbb), by rw [e']; exact Fm.wr Wt (Nat.le_refl _) (by have := Nat.mul_le_mul_left (cK P.2 + 1) hpos; omega), Fr.snoc X' Nl hn0, by rw [e', Wt.size]; exact hs, u1, u2, c1, c2, hN⟩, fun target r => ?_⟩
    rw [show cV α b (vv :: .ref 1 :: st) = con α b vv :: .ref b :: cV α b st from rfl, hr]
    exact stp target r) g
theorem scV_sI (s : S) (f : Nat) (x : Int32) (ty : FieldType) (f' : Nat) (h : f' ≠ f) : scV ty (sI s f x) f' = scV ty s f' := by
  unfold scV; split <;> simp [gI_sI, gL_sI, h]
theorem scV_sL (s : S) (f : Nat) (x : Int64) (ty : FieldType) (f' : Nat) (h : f' ≠ f) : scV ty (sL s f x) f' = scV ty s f' := by
  unfold scV; split <;> simp [gI_sL, gL_sL, h]
/-- the word that lets the field be written -/
def Wrt (P : PI) (M : Meth) (f : Nat) : Prop := ∃ nm ds ty, (cS P.2)[f]? = some (nm, ds, ty) ∧ (Jvm.Cond.lays (cN P.2) (cN P.2) nm ds ∈ P.1 ∨ (Jvm.Cond.laysFinal (cN P.2) (cN P.2) nm ds ∈ P.1 ∧ (mY M).name = "<init>"))
theorem Wrt.use {f : Nat} {ty : FieldType} (h : Wrt P M f) : ∀ nm ds, (cS P.2)[f]? = some (nm, ds, ty) → Jvm.Cond.lays (cN P.2) (cN P.2) nm ds ∈ P.1 ∨ (Jvm.Cond.laysFinal (cN P.2) (cN P.2) nm ds ∈ P.1 ∧ (mY M).name = "<init>") := by
  obtain ⟨nm, ds, ty', h1, h2⟩ := h
  intro nm' ds' h3
  cases h1.symm.trans h3
  exact h2
theorem go_putI {idx f : Nat} (F : FldS P idx f .int) (hM : (mY M).cls = cN P.2) (hl : Wrt P M f) (hp : 0 < mN M) (d : decode (mB M) pc = .ok (.putfield idx, 3)) (g : Go P M (pc + 3) L st (none, [(k, sI s f x)]) out) : Go P M pc L (.int x :: .ref 1 :: st) (none, [(k, s)]) out :=
  go_putV F hM hl.use hp (fun _ _ => rfl) rfl rfl (by simp [scV, gI_sI]) (fun f' y _ h => scV_sI s f x _ f' h) rfl rfl d g
theorem go_putZ {idx f : Nat} (F : FldS P idx f .boolean) (hM : (mY M).cls = cN P.2) (hl : Wrt P M f) (hp : 0 < mN M) (hz : x = 0 ∨ x = 1) (d : decode (mB M) pc = .ok (.putfield idx, 3)) (g : Go P M (pc + 3) L st (none, [(k, sI s f x)]) out) : Go P M pc L (.int x :: .ref 1 :: st) (none, [(k, s)]) out :=
  go_putV F hM hl.use hp (fun _ _ => rfl) (by rcases hz with rfl | rfl <;> rfl) (by rcases hz with rfl | rfl <;> rfl) (by simp [scV, gI_sI]) (fun f' y _ h => scV_sI s f x _ f' h) rfl rfl d g
theorem go_putJ {idx f : Nat} (F : FldS P idx f .long) (hM : (mY M).cls = cN P.2) (hl : Wrt P M f) (hp : 0 < mN M) (d : decode (mB M) pc = .ok (.putfield idx, 3)) (g : Go P M (pc + 3) L st (none, [(k, sL s f u)]) out) : Go P M pc L (.long u :: .ref 1 :: st) (none, [(k, s)]) out :=
  go_putV F hM hl.use hp (fun _ _ => rfl) rfl rfl (by simp [scV, gL_sL]) (fun f' y _ h => scV_sL s f u _ f' h) rfl rfl d g
/-! ### arrays -/
theorem ix_some {A : Type} {l : List A} {j : Int32} {x : A} (h : ix l j = some x) : ¬ j < 0 ∧ l[j.toNatClampNeg]? = some x := by
  unfold ix at h; split at h
  · cases h
  · rename_i q; exact ⟨q, h⟩
theorem st_some {A : Type} {l l' : List A} {j : Int32} {x : A} (h : Jvm.AM.st l j x = some l') : ¬ j < 0 ∧ j.toNatClampNeg < l.length ∧ l' = l.set j.toNatClampNeg x := by
  unfold Jvm.AM.st at h; split at h
  · cases h
  · rename_i q; split at h
    · rename_i q2; cases h; exact ⟨q, q2, rfl⟩
    · cases h
theorem ar_in {c : Cell} {vs : List Value} {j : Int32} {vv : Value} (e : c.slots = vs.toArray) (h1 : ¬ j < 0) (h2 : vs[j.toNatClampNeg]? = some vv) : ¬ (j < 0 ∨ c.slots.size ≤ j.toNatClampNeg) ∧ c.slots[j.toNatClampNeg]? = some vv := by
  have := get_lt h2
  refine ⟨fun q => ?_, by rw [e]; simpa using h2⟩
  rcases q with q | q
  · exact h1 q
  · rw [e] at q; simp at q; omega
theorem go_iaload {q : Nat} {j : Int32} {nm ds : String} {cap : Nat} (ha : (cA P.2)[q]? = some (nm, ds, .int, cap)) (hq : Nat.blt q k = true) (hx : ix (gA s q) j = some v) (d : decode (mB M) pc = .ok (.iaload, 1)) (g : Go P M (pc + 1) L (.int v :: st) (none, [(k, s)]) out) : Go P M pc L (.int j :: .ref (q + 2) :: st) (none, [(k, s)]) out :=
  go_ch (fun l Z a0 p e R s1 m args below meth c α b n0 h0 uC uS ok hl T locs cells slots I => by
    obtain ⟨cl, A, ec⟩ := (rep_one I.2.1).2.2.2 q _ ha (by simpa [Nat.blt_eq] using hq)
    obtain ⟨h1, h2⟩ := ix_some hx
    obtain ⟨h3, h4⟩ := ar_in ec h1 (vv := .int v) (by simp [arV, h2])
    refine ⟨T, locs, cells, slots, I, fun target r => ?_⟩
    refine I.1.iaload ok.2.2.1 (j := j) (v := .int v) A.1 (State.isArrayOf_alike ok.2.2.2.1.alike A.2.1) A.2.2 h3 h4 (g := mkF m pc (cL α b L) (.int j :: .ref (b + 1 + q) :: cV α b st)) rfl rfl (hb ok.2.2.2.2.2.1 d) _ r |> fun t => ?_
    rw [show cV α b (.int j :: .ref (q + 2) :: st) = .int j :: .ref (b + (q + 1)) :: cV α b st from rfl, show b + (q + 1) = b + 1 + q by omega]
    exact t) g
theorem go_laload {q : Nat} {j : Int32} {nm ds : String} {cap : Nat} (ha : (cA P.2)[q]? = some (nm, ds, .long, cap)) (hq : Nat.blt q k = true) (hx : ix (gB s q) j = some u) (d : decode (mB M) pc = .ok (.laload, 1)) (g : Go P M (pc + 1) L (.long u :: st) (none, [(k, s)]) out) : Go P M pc L (.int j :: .ref (q + 2) :: st) (none, [(k, s)]) out :=
  go_ch (fun l Z a0 p e R s1 m args below meth c α b n0 h0 uC uS ok hl T locs cells slots I => by
    obtain ⟨cl, A, ec⟩ := (rep_one I.2.1).2.2.2 q _ ha (by simpa [Nat.blt_eq] using hq)
    obtain ⟨h1, h2⟩ := ix_some hx
    obtain ⟨h3, h4⟩ := ar_in ec h1 (vv := .long u) (by simp [arV, h2])
    refine ⟨T, locs, cells, slots, I, fun target r => ?_⟩
    refine I.1.laload ok.2.2.1 (j := j) (v := .long u) A.1 (State.isArrayOf_alike ok.2.2.2.1.alike A.2.1) A.2.2 h3 h4 (g := mkF m pc (cL α b L) (.int j :: .ref (b + 1 + q) :: cV α b st)) rfl rfl (hb ok.2.2.2.2.2.1 d) _ r |> fun t => ?_
    rw [show cV α b (.int j :: .ref (q + 2) :: st) = .int j :: .ref (b + (q + 1)) :: cV α b st from rfl, show b + (q + 1) = b + 1 + q by omega]
    exact t) g
theorem go_baload {q : Nat} {j : Int32} {nm ds : String} {ty : FieldType} {cap : Nat} (ha : (cA P.2)[q]? = some (nm, ds, ty, cap)) (hty : ty = .boolean ∨ ty = .byte) (hq : Nat.blt q k = true) (hx : ix (gA s q) j = some v) (d : decode (mB M) pc = .ok (.baload, 1)) (g : Go P M (pc + 1) L (.int v :: st) (none, [(k, s)]) out) : Go P M pc L (.int j :: .ref (q + 2) :: st) (none, [(k, s)]) out :=
  go_ch (fun l Z a0 p e R s1 m args below meth c α b n0 h0 uC uS ok hl T locs cells slots I => by
    obtain ⟨cl, A, ec⟩ := (rep_one I.2.1).2.2.2 q _ ha (by simpa [Nat.blt_eq] using hq)
    obtain ⟨h1, h2⟩ := ix_some hx
    refine ⟨T, locs, cells, slots, I, fun target r => ?_⟩
    rw [show cV α b (.int j :: .ref (q + 2) :: st) = .int j :: .ref (b + (q + 1)) :: cV α b st from rfl, show b + (q + 1) = b + 1 + q by omega]
    rcases hty with rfl | rfl
    · obtain ⟨h3, h4⟩ := ar_in ec h1 (vv := .int v) (by simp [arV, h2])
      exact I.1.baloadBooleans ok.2.2.1 (j := j) (v := .int v) A.1 (State.isArrayOf_alike ok.2.2.2.1.alike A.2.1) A.2.2 h3 h4 (g := mkF m pc (cL α b L) (.int j :: .ref (b + 1 + q) :: cV α b st)) rfl rfl (hb ok.2.2.2.2.2.1 d) _ r
    · obtain ⟨h3, h4⟩ := ar_in ec h1 (vv := .int v) (by simp [arV, h2])
      exact I.1.baloadBytes ok.2.2.1 (j := j) (v := .int v) A.1 (State.isArrayOf_alike ok.2.2.2.1.alike A.2.1) A.2.2 h3 h4 (g := mkF m pc (cL α b L) (.int j :: .ref (b + 1 + q) :: cV α b st)) rfl rfl (hb ok.2.2.2.2.2.1 d) _ r) g
theorem go_alen {q : Nat} {nm ds : String} {ty : FieldType} {cap : Nat} (ha : (cA P.2)[q]? = some (nm, ds, ty, cap)) (hty : ty ≠ .long) (hq : Nat.blt q k = true) (d : decode (mB M) pc = .ok (.arraylength, 1)) (g : Go P M (pc + 1) L (.int (gA s q).length.toInt32 :: st) (none, [(k, s)]) out) : Go P M pc L (.ref (q + 2) :: st) (none, [(k, s)]) out :=
  go_ch (fun l Z a0 p e R s1 m args below meth c α b n0 h0 uC uS ok hl T locs cells slots I => by
    obtain ⟨cl, A, ec⟩ := (rep_one I.2.1).2.2.2 q _ ha (by simpa [Nat.blt_eq] using hq)
    refine ⟨T, locs, cells, slots, I, fun target r => ?_⟩
    have e1 : cl.slots.size = (gA s q).length := by rw [ec]; cases ty <;> simp [arV] at hty ⊢
    rw [show cV α b (.ref (q + 2) :: st) = .ref (b + (q + 1)) :: cV α b st from rfl, show b + (q + 1) = b + 1 + q by omega]
    refine I.1.arraylength ok.2.2.1 (cell := cl) A.1 (State.isArrayOf_alike ok.2.2.2.1.alike A.2.1) (g := mkF m pc (cL α b L) (.ref (b + 1 + q) :: cV α b st)) rfl rfl (hb ok.2.2.2.2.2.1 d) _ ?_
    rw [e1]; exact r) g
theorem go_sload {l0 : List Int32} {os : List (Nat × S)} {j : Int32} (hx : ix l0 j = some v) (d : decode (mB M) pc = .ok (.iaload, 1)) (g : Go P M (pc + 1) L (.int v :: st) (some l0, os) out) : Go P M pc L (.int j :: .ref 0 :: st) (some l0, os) out :=
  go_ch (fun l Z a0 p e R s1 m args below meth c α b n0 h0 uC uS ok hl T locs cells slots I => by
    obtain ⟨cl, A, ec⟩ := (I.2.1.1 l0 rfl).1
    obtain ⟨h1, h2⟩ := ix_some hx
    obtain ⟨h3, h4⟩ := ar_in ec h1 (vv := .int v) (by simp [h2])
    exact ⟨T, locs, cells, slots, I, fun target r => I.1.iaload ok.2.2.1 (j := j) (v := .int v) A.1 (State.isArrayOf_alike ok.2.2.2.1.alike A.2.1) A.2.2 h3 h4 (g := mkF m pc (cL α b L) (cV α b (.int j :: .ref 0 :: st))) rfl rfl (hb ok.2.2.2.2.2.1 d) _ r⟩) g
theorem go_slen {l0 : List Int32} {os : List (Nat × S)} (d : decode (mB M) pc = .ok (.arraylength, 1)) (g : Go P M (pc + 1) L (.int l0.length.toInt32 :: st) (some l0, os) out) : Go P M pc L (.ref 0 :: st) (some l0, os) out :=
  go_ch (fun l Z a0 p e R s1 m args below meth c α b n0 h0 uC uS ok hl T locs cells slots I => by
    obtain ⟨cl, A, ec⟩ := (I.2.1.1 l0 rfl).1
    refine ⟨T, locs, cells, slots, I, fun target r => ?_⟩
    have e1 : cl.slots.size = l0.length := by rw [ec]; simp
    refine I.1.arraylength ok.2.2.1 (cell := cl) A.1 (State.isArrayOf_alike ok.2.2.2.1.alike A.2.1) (g := mkF m pc (cL α b L) (cV α b (.ref 0 :: st))) rfl rfl (hb ok.2.2.2.2.2.1 d) _ ?_
    rw [e1]; exact r) g
/-- a component of an array of the object takes its value -/
theorem rep_store {Z : State} {ci : CI} {h h' : Heap} {b : Nat} {s s' : S} {k q i : Nat} {nm ds : String} {ty : FieldType} {cap : Nat} {vv : Value} (F : Rep1 Z ci h b (k, s)) (hf : (cA ci)[q]? = some (nm, ds, ty, cap)) (hq : q < k)
    (Wt : Wr h h' (b + 1 + q) i vv) (hi : i < (arV ty s q).length) (hv : arV ty s' q = (arV ty s q).set i vv) (ho : ∀ q' x, (cA ci)[q']? = some x → q' ≠ q → arV x.2.2.1 s' q' = arV x.2.2.1 s q') (ha : gI s' = gI s) (hbb : gL s' = gL s) : Rep1 Z ci h' b (k, s') := by
  obtain ⟨f1, f2, f3, f4⟩ := F
  refine ⟨f1.wr Wt, fun f x hx => ?_, fun q' x hx => (f3 q' x hx).other Wt (Or.inl (nq (by omega))), fun q' x hx hq' => ?_⟩
  · have e : scV x.2.2 s' f = scV x.2.2 s f := by unfold scV; split <;> simp [ha, hbb]
    show Fld Z h' b (cN ci) x.1 x.2.1 (scV x.2.2 s' f)
    rw [e]
    exact (f2 f x hx).other Wt (Or.inl (nq (by omega)))
  · by_cases e : q' = q
    · subst e
      cases hf.symm.trans hx
      obtain ⟨c, A, ec⟩ := f4 q' _ hf hq
      refine ⟨_, A.same Wt, ?_⟩
      show (c.setSlot i vv).slots = (arV ty s' q').toArray
      rw [hv]
      simp only [Cell.setSlot, ec]
      simp
    · obtain ⟨c, A, ec⟩ := f4 q' x hx hq'
      refine ⟨c, A.other Wt (nq (by omega)), ec.trans ?_⟩
      rw [ho q' x hx e]
theorem arV_sA (s : S) (q : Nat) (l : List Int32) (ty : FieldType) (q' : Nat) (h : q' ≠ q) : arV ty (sA s q l) q' = arV ty s q' := by
  unfold arV; split <;> simp [gA_sA, gB_sA, h]
theorem arV_sB (s : S) (q : Nat) (l : List Int64) (ty : FieldType) (q' : Nat) (h : q' ≠ q) : arV ty (sB s q l) q' = arV ty s q' := by
  unfold arV; split <;> simp [gA_sB, gB_sB, h]
theorem in_of {c : Cell} {vs : List Value} {j : Int32} (e : c.slots = vs.toArray) (h1 : ¬ j < 0) (h2 : j.toNatClampNeg < vs.length) : ¬ (j < 0 ∨ c.slots.size ≤ j.toNatClampNeg) := fun q => by
  rcases q with q | q
  · exact h1 q
  · rw [e] at q; simp at q; omega
theorem go_iastore {q : Nat} {j : Int32} {nm ds : String} {cap : Nat} {l' : List Int32} (ha : (cA P.2)[q]? = some (nm, ds, .int, cap)) (hq : Nat.blt q k = true) (hp : 0 < mN M) (hx : Jvm.AM.st (gA s q) j x = some l') (d : decode (mB M) pc = .ok (.iastore, 1)) (g : Go P M (pc + 1) L st (none, [(k, sA s q l')]) out) : Go P M pc L (.int x :: .int j :: .ref (q + 2) :: st) (none, [(k, s)]) out :=
  go_ch (fun l Z a0 p e R s1 m args below meth c α b n0 h0 uC uS ok hl T locs cells slots I => by
    have hq' : q < k := by simpa [Nat.blt_eq] using hq
    have hqK := get_lt ha
    obtain ⟨X, Rp, Fm, Nl, hs, u1, u2, c1, c2, hN⟩ := I
    obtain ⟨cl, A, ec⟩ := (rep_one Rp).2.2.2 q _ ha hq'
    obtain ⟨h1, h2, rfl⟩ := st_some hx
    have hin := in_of ec h1 (by simpa [arV] using h2)
    obtain ⟨T', h', X', e', Wt, stp⟩ := stI X ok.2.2.1 ok.2.2.2.1 rfl A (x := x) hin (g := mkF m pc (cL α b L) (.int x :: .int j :: .ref (b + 1 + q) :: cV α b st)) rfl rfl (hb ok.2.2.2.2.2.1 d)
    refine ⟨T', _, cells, slots, ⟨X', rep_mk (by rw [e']; exact rep_store (rep_one Rp) ha hq' Wt (by simpa [arV] using h2) (by simp [arV, gA_sA, List.map_set]) (fun q' y _ h => arV_sA s q _ _ q' h) rfl rfl), by rw [e']; exact Fm.wr Wt (by omega) (by have := Nat.mul_le_mul_left (cK P.2 + 1) hp; simp only [cK] at *; omega), Fr.snoc X' Nl (by have := ok.2.2.2.2.2.2.2.2.2.2.1; omega), by rw [e', Wt.size]; exact hs, u1, u2, c1, c2, hN⟩, fun target r => ?_⟩
    rw [show cV α b (.int x :: .int j :: .ref (q + 2) :: st) = .int x :: .int j :: .ref (b + (q + 1)) :: cV α b st from rfl, show b + (q + 1) = b + 1 + q by omega]
    exact stp target r) g
theorem go_lastore {q : Nat} {j : Int32} {nm ds : String} {cap : Nat} {l' : List Int64} (ha : (cA P.2)[q]? = some (nm, ds, .long, cap)) (hq : Nat.blt q k = true) (hp : 0 < mN M) (hx : Jvm.AM.st (gB s q) j u = some l') (d : decode (mB M) pc = .ok (.lastore, 1)) (g : Go P M (pc + 1) L st (none, [(k, sB s q l')]) out) : Go P M pc L (.long u :: .int j :: .ref (q + 2) :: st) (none, [(k, s)]) out :=
  go_ch (fun l Z a0 p e R s1 m args below meth c α b n0 h0 uC uS ok hl T locs cells slots I => by
    have hq' : q < k := by simpa [Nat.blt_eq] using hq
    have hqK := get_lt ha
    obtain ⟨X, Rp, Fm, Nl, hs, u1, u2, c1, c2, hN⟩ := I
    obtain ⟨cl, A, ec⟩ := (rep_one Rp).2.2.2 q _ ha hq'
    obtain ⟨h1, h2, rfl⟩ := st_some hx
    have hin := in_of ec h1 (by simpa [arV] using h2)
    obtain ⟨T', h', X', e', Wt, stp⟩ := stJ X ok.2.2.1 ok.2.2.2.1 rfl A (x := u) hin (g := mkF m pc (cL α b L) (.long u :: .int j :: .ref (b + 1 + q) :: cV α b st)) rfl rfl (hb ok.2.2.2.2.2.1 d)
    refine ⟨T', _, cells, slots, ⟨X', rep_mk (by rw [e']; exact rep_store (rep_one Rp) ha hq' Wt (by simpa [arV] using h2) (by simp [arV, gB_sB, List.map_set]) (fun q' y _ h => arV_sB s q _ _ q' h) rfl rfl), by rw [e']; exact Fm.wr Wt (by omega) (by have := Nat.mul_le_mul_left (cK P.2 + 1) hp; simp only [cK] at *; omega), Fr.snoc X' Nl (by have := ok.2.2.2.2.2.2.2.2.2.2.1; omega), by rw [e', Wt.size]; exact hs, u1, u2, c1, c2, hN⟩, fun target r => ?_⟩
    rw [show cV α b (.long u :: .int j :: .ref (q + 2) :: st) = .long u :: .int j :: .ref (b + (q + 1)) :: cV α b st from rfl, show b + (q + 1) = b + 1 + q by omega]
    exact stp target r) g
theorem go_bastore {q : Nat} {j : Int32} {nm ds : String} {ty : FieldType} {cap : Nat} {l' : List Int32} (ha : (cA P.2)[q]? = some (nm, ds, ty, cap)) (hty : ty = .boolean ∨ ty = .byte) (hq : Nat.blt q k = true) (hp : 0 < mN M) (hv : v = nar ty x) (hx : Jvm.AM.st (gA s q) j v = some l') (d : decode (mB M) pc = .ok (.bastore, 1)) (g : Go P M (pc + 1) L st (none, [(k, sA s q l')]) out) : Go P M pc L (.int x :: .int j :: .ref (q + 2) :: st) (none, [(k, s)]) out :=
  go_ch (fun l Z a0 p e R s1 m args below meth c α b n0 h0 uC uS ok hl T locs cells slots I => by
    have hq' : q < k := by simpa [Nat.blt_eq] using hq
    have hqK := get_lt ha
    obtain ⟨X, Rp, Fm, Nl, hs, u1, u2, c1, c2, hN⟩ := I
    obtain ⟨cl, A, ec⟩ := (rep_one Rp).2.2.2 q _ ha hq'
    obtain ⟨h1, h2, rfl⟩ := st_some hx
    subst hv
    have hlen : j.toNatClampNeg < (arV ty s q).length := by rcases hty with rfl | rfl <;> simpa [arV] using h2
    have hset : arV ty (sA s q ((gA s q).set j.toNatClampNeg (nar ty x))) q = (arV ty s q).set j.toNatClampNeg (.int (nar ty x)) := by rcases hty with rfl | rfl <;> simp [arV, gA_sA, List.map_set]
    have hin := in_of ec h1 hlen
    obtain ⟨T', h', X', e', Wt, stp⟩ : ∃ T' h', Stand p l e R s1 m args below meth c T' (locs ++ [⟨b + 1 + q, j.toNatClampNeg⟩]) cells slots ∧ T'.heap = h' ∧ Wr T.heap h' (b + 1 + q) j.toNatClampNeg (.int (nar ty x)) ∧ ∀ target, Steps p.tables e below (T'.setTop (mkF m (pc + 1) (cL α b L) (cV α b st))) target → Steps p.tables e below (T.setTop (mkF m pc (cL α b L) (.int x :: .int j :: .ref (b + 1 + q) :: cV α b st))) target := by
      rcases hty with rfl | rfl
      · exact stZ X ok.2.2.1 ok.2.2.2.1 rfl A (x := x) hin (g := mkF m pc (cL α b L) (.int x :: .int j :: .ref (b + 1 + q) :: cV α b st)) rfl rfl (hb ok.2.2.2.2.2.1 d)
      · exact stB X ok.2.2.1 ok.2.2.2.1 rfl A (x := x) hin (g := mkF m pc (cL α b L) (.int x :: .int j :: .ref (b + 1 + q) :: cV α b st)) rfl rfl (hb ok.2.2.2.2.2.1 d)
    refine ⟨T', _, cells, slots, ⟨X', rep_mk (by rw [e']; exact rep_store (rep_one Rp) ha hq' Wt hlen hset (fun q' y _ h => arV_sA s q _ _ q' h) rfl rfl), by rw [e']; exact Fm.wr Wt (by omega) (by have := Nat.mul_le_mul_left (cK P.2 + 1) hp; simp only [cK] at *; omega), Fr.snoc X' Nl (by have := ok.2.2.2.2.2.2.2.2.2.2.1; omega), by rw [e', Wt.size]; exact hs, u1, u2, c1, c2, hN⟩, fun target r => ?_⟩
    rw [show cV α b (.int x :: .int j :: .ref (q + 2) :: st) = .int x :: .int j :: .ref (b + (q + 1)) :: cV α b st from rfl, show b + (q + 1) = b + 1 + q by omega]
    exact stp target r) g
/-! ## 5. A method as a whole; calls -/
def Call (P : PI) (M : Meth) (as : List Value) (w : W) (out : Option Value × W) : Prop :=
  ∀ (l : Launch) (Z : State) (a0 : Array Value) (ws : List Jvm.Cond) (α b n0 : Nat) (h0 : Heap), (∀ d ∈ P.1, d.before a0 Z = true) → Facts Z a0 P.2 → n0 ≤ b → RepW Z P.2 α b w h0 → w.2.length ≤ mN M → (mTop M = true → h0.size = b + usedC w ∧ usedC w = mUC M ∧ usedS P.2 w = mUS M) →
    MetFree l (mY M) (head1 (Jvm.Cond.code (mY M) (mB M) (mL M) (mT M) :: ws) (mR M)) (fun a U => a = (cV α b as).toArray ∧ Z.Warmed39 U.vm ∧ U.heap = h0) (fun _ _ _ _ _ => True)
      (fun _ U o U' => ∃ v L, o = .returned v ∧ (v = out.1.map (con α b) ∧ Fr n0 L ∧ RepW Z P.2 α b out.2 U'.heap ∧ Frm b (b + (cK P.2 + 1) * mN M) h0 U'.heap ∧ ∃ k, U'.heap.size = h0.size + k ∧ k + usedC w = usedC out.2) ∧ FrameEnd U o U' L (mR M).cells (mR M).slots)
theorem call_of_go {as : List Value} (hpl : plainName (mY M).cls = true) (hlen : (entryL as (mL M)).length = mL M) (hret : mT M = none → out.1 = none) (g : Go P M 0 (entryL as (mL M)) [] w out) : Call P M as w out := by
  intro l Z a0 ws α b n0 h0 hw fa hn0 Rp hN htop
  refine MetFree.of_bodySF (plainFor_of_name hpl) hisR ?_
  intro p e s m args below meth c s₁ Bd hml0 hP hK
  obtain ⟨rfl, hZ, hh⟩ := hP
  have X0 : Stand p l e (mR M) s m (cV α b as).toArray below meth c s₁ [] 0 0 := Stand.of_body Bd
  have e0 : s₁.heap = h0 := by rw [← hh, Bd.state]; rfl
  obtain ⟨T', L', c', n', I', fin⟩ := g hlen l Z a0 p e (mR M) s m (cV α b as).toArray below meth c α b n0 h0 (usedC w) (usedS P.2 w) ⟨hw, fa, Bd.exec, hZ, findClass_of_methodNamed Bd.named, Bd.bytes, hml0, Bd.returns, (name_of_methodNamed Bd.named Bd.method).1, rfl, hn0, htop, by rw [hh]⟩ s₁ [] 0 0 ⟨X0, by rw [e0]; exact Rp, by rw [e0]; exact Frm.refl _ _ _, Fr.nil _, by rw [e0]; rfl, by simp, by simp, Nat.zero_le _, Nat.zero_le _, hN⟩
  obtain ⟨X', Rp', Fm', Nl', hs', u1', u2', c1', c2', hN'⟩ := I'
  obtain ⟨fs, hr, hrun, hended, hW, hsame⟩ := X'.leave (v := out.1.map (con α b)) (fun h => by rw [Bd.returns] at h; rw [hret h]; rfl)
  refine ⟨_, _, ?_, hrun, hended, _, _, rfl, ⟨rfl, Nl', Rp', Fm', c', hs', u1'⟩, ⟨_, rfl⟩, hW, hsame.mono c1' c2'⟩
  have q := fin fs hr
  rw [← entry_locals] at q
  exact q
def nr : Value → Bool
  | .ref _ => false
  | _ => true
theorem con_nr {α b : Nat} {v : Value} (h : nr v = true) : con α b v = v := by
  cases v <;> first | rfl | cases h
theorem cV_nr {α b : Nat} {l : List Value} (h : l.all nr = true) : cV α b l = l := by
  have : ∀ x ∈ l, con α b x = x := fun x hx => con_nr (List.all_eq_true.mp h x hx)
  unfold cV
  exact (List.map_congr_left this).trans (List.map_id _)
theorem rep_obj {Z : State} {ci : CI} {α b : Nat} {h : Heap} {i : Nat} (F : RepW Z ci α b w h) (ho : w.2[i]? = some o) : RepW Z ci 0 (b + (cK ci + 1) * i) (none, [o]) h := rep_mk (F.2 i o ho)
theorem rep_back {Z : State} {ci : CI} {α α' b : Nat} {h h' : Heap} {i : Nat} (F : RepW Z ci α b w h) (ho : w.2[i]? = some o) (G : RepW Z ci α' (b + (cK ci + 1) * i) (none, [o']) h') (Fm : Frm (b + (cK ci + 1) * i) (b + (cK ci + 1) * i + (cK ci + 1) * 1) h h') : RepW Z ci α b (w.1, w.2.set i o') h' := by
  refine ⟨fun l hl => ⟨((F.1 l hl).1).frm fun c q => Fm _ _ q (Or.inl ?_), (F.1 l hl).2⟩, fun j oj hj => ?_⟩
  · have := (F.1 l hl).2; exact Nat.lt_of_lt_of_le this (Nat.le_add_right _ _)
  · by_cases e : j = i
    · subst e
      rw [show (w.1, w.2.set j o').2 = w.2.set j o' from rfl, List.getElem?_set_self (get_lt ho)] at hj
      cases hj
      exact rep_one G
    · rw [show (w.1, w.2.set i o').2 = w.2.set i o' from rfl, List.getElem?_set_ne (Ne.symm e)] at hj
      refine (F.2 j oj hj).frm fun x c q1 q2 q3 => Fm _ _ q3 ?_
      rcases Nat.lt_or_gt_of_ne e with q | q
      · have := Nat.mul_le_mul_left (cK ci + 1) q
        rw [Nat.mul_succ] at this; omega
      · have := Nat.mul_le_mul_left (cK ci + 1) q
        rw [Nat.mul_succ] at this; omega
theorem sum_set {A : Type} (f : A → Nat) {a a' : A} : ∀ {l : List A} {i : Nat}, l[i]? = some a → ((l.set i a').map f).sum + f a = (l.map f).sum + f a'
  | [], i, h => by simp at h
  | b :: r, 0, h => by simp at h; subst h; simp; omega
  | b :: r, i + 1, h => by
    simp only [List.getElem?_cons_succ] at h
    have := sum_set f (a' := a') h
    simp only [List.set_cons_succ, List.map_cons, List.sum_cons]; omega
def CQ (ci : CI) (Z : State) (α b n0 : Nat) (h0 : Heap) (N : Nat) (w : W) (out : Option Value × W) (v : Option Value) (hp : Heap) (L : List Loc) : Prop := v = out.1.map (con α b) ∧ Fr n0 L ∧ RepW Z ci α b out.2 hp ∧ Frm b (b + (cK ci + 1) * N) h0 hp ∧ ∃ k, hp.size = h0.size + k ∧ k + usedC w = usedC out.2
/-- what a callee that makes nothing must fit into -/
def Small (M M' : Meth) (rest : List Value) : Prop := (mR M').cells = 0 ∧ (mR M').slots = 0 ∧ mTop M' = false ∧ Nat.ble ((mR M').frames + 1) (mR M).frames = true ∧ Nat.ble ((rest.map fun v => v.category).sum + (mL M' + 11) + (mR M').locals) (mR M).locals = true
theorem ret_st {α b b' : Nat} {r : Option Value} {rest : List Value} (hr : r.all nr = true) : (r.map (con 0 b')).toList ++ cV α b rest = cV α b (r.toList ++ rest) := by
  cases r with
  | none => rfl
  | some v => simp only [Option.map_some, Option.toList_some, cV, List.cons_append, List.nil_append, List.map_cons]; rw [con_nr (show nr v = true from hr), con_nr (show nr v = true from hr)]
theorem inv_obj {l : Launch} {Z : State} {p : Program} {e : Env} {R : Room} {s : State} {m : MethodId} {args : Array Value} {below : List Frame} {meth : Method} {c : Code} {α b n0 : Nat} {h0 : Heap} {uC uS : Nat} {T T2 : State} {locs L2 : List Loc} {cells slots rc rs i : Nat}
    (I : Inv P M l Z p e R s m args below meth c α b n0 h0 uC uS w T locs cells slots) (ho : w.2[i]? = some o) (X2 : Stand p l e R s m args below meth c T2 (locs ++ L2) (cells + rc) (slots + rs))
    (N2 : Fr n0 L2) (R2 : RepW Z P.2 0 (b + (cK P.2 + 1) * i) (none, [o']) T2.heap) (F2 : Frm (b + (cK P.2 + 1) * i) (b + (cK P.2 + 1) * i + (cK P.2 + 1) * 1) T.heap T2.heap) (k2 : ∃ k, T2.heap.size = T.heap.size + k ∧ k + usedC (none, [o]) = usedC (none, [o']))
    (hC : o'.1 = o.1 + rc) (hS : usedS P.2 (none, [o']) = usedS P.2 (none, [o]) + rs) (q1 : cells + rc ≤ R.cells) (q2 : slots + rs ≤ R.slots) : Inv P M l Z p e R s m args below meth c α b n0 h0 uC uS (w.1, w.2.set i o') T2 (locs ++ L2) (cells + rc) (slots + rs) := by
  obtain ⟨X, Rp, Fm, Nl, hs, u1, u2, c1, c2, hN⟩ := I
  obtain ⟨k, k1, k3⟩ := k2
  have hi := get_lt ho
  have a1 := sum_set (fun o : Nat × S => 1 + o.1) (a' := o') ho
  have a2 := sum_set (fun o : Nat × S => cF P.2 + (((cA P.2).take o.1).map fun x => x.2.2.2).sum) (a' := o') ho
  have hle : (cK P.2 + 1) * (i + 1) ≤ (cK P.2 + 1) * mN M := Nat.mul_le_mul_left _ (by omega)
  rw [Nat.mul_succ] at hle
  refine ⟨X2, rep_back Rp ho R2 F2, Fm.trans (F2.wide (Nat.le_add_right _ _) (by omega)), Nl.app N2, ?_, ?_, ?_, q1, q2, by simpa using hN⟩
  · simp only [usedC, List.map_cons, List.map_nil, List.sum_cons, List.sum_nil] at k3; omega
  · simp only [usedC] at u1 ⊢; omega
  · simp only [usedS, List.map_cons, List.map_nil, List.sum_cons, List.sum_nil] at u2 hS ⊢; omega
def LinkV (P : PI) (own : String) (idx : Nat) (M' : Meth) : Prop := Jvm.Cond.methodLink own idx (mY M') ∈ P.1 ∧ Jvm.Cond.declares (mY M') ∈ P.1 ∧ Jvm.Cond.selects (cN P.2) (mY M') (mY M') ∈ P.1 ∧ Jvm.Cond.instanceMethod (mY M') ∈ P.1 ∧ Jvm.Cond.code (mY M') (mB M') (mL M') (mT M') ∈ P.1 ∧ (mY M').cls = cN P.2 ∧ mN M' = 1
def LinkP (P : PI) (own : String) (idx : Nat) (M' : Meth) : Prop := Jvm.Cond.methodLink own idx (mY M') ∈ P.1 ∧ Jvm.Cond.instanceMethod (mY M') ∈ P.1 ∧ Jvm.Cond.privateMethod (mY M') ∈ P.1 ∧ Jvm.Cond.code (mY M') (mB M') (mL M') (mT M') ∈ P.1 ∧ (mY M').cls = cN P.2 ∧ mN M' = 1
def LinkS (P : PI) (own : String) (idx : Nat) (M' : Meth) : Prop := Jvm.Cond.methodLink own idx (mY M') ∈ P.1 ∧ Jvm.Cond.static (mY M') ∈ P.1 ∧ Jvm.Cond.initialized (mY M').cls ∈ P.1 ∧ Jvm.Cond.code (mY M') (mB M') (mL M') (mT M') ∈ P.1 ∧ ((mY M').cls ≠ "java/lang/invoke/MethodHandle" ∧ (mY M').cls ≠ "java/lang/invoke/VarHandle")
def LinkI (P : PI) (own : String) (idx : Nat) (M' : Meth) : Prop := Jvm.Cond.methodLink own idx (mY M') ∈ P.1 ∧ Jvm.Cond.instanceMethod (mY M') ∈ P.1 ∧ Jvm.Cond.code (mY M') (mB M') (mL M') (mT M') ∈ P.1 ∧ (mY M').cls = cN P.2 ∧ mN M' = 1 ∧ mT M' = none ∧ (mY M').name = "<init>"
variable {M' : Meth} {i idx id : Nat} {as rest : List Value} {rv : Option Value} {ps : List FieldType} {rt : Option FieldType}
theorem cV_call {α b : Nat} {jd : Nat} (hnr : as.all nr = true) (hst : st = as.reverse ++ .ref (jd + 1) :: rest) : cV α b st = as.reverse ++ .ref (b + jd) :: cV α b rest := by
  subst hst
  have h1 : cV α b as.reverse = as.reverse := cV_nr (by rw [List.all_reverse]; exact hnr)
  unfold cV at h1 ⊢
  rw [List.map_append, h1]; rfl
theorem go_virt (lk : LinkV P (mY M).cls idx M') (pd : parseMethodDescriptor (mY M').desc = some ⟨ps, rt⟩) (hn : as.length = ps.length) (hid : id = (cK P.2 + 1) * i + 1) (hst : st = as.reverse ++ .ref id :: rest) (hnr : as.all nr = true) (hrr : rv.all nr = true) (ho : w.2[i]? = some o) (hw' : w' = (w.1, w.2.set i o')) (hC : o'.1 = o.1) (sm : Small M M' rest)
    (d : decode (mB M) pc = .ok (.invokevirtual idx, 3)) (cl : Call P M' (.ref 1 :: as) (none, [o]) (rv, (none, [o']))) (g : Go P M (pc + 3) L (rv.toList ++ rest) w' out) : Go P M pc L st w out :=
  go_ch (fun l Z a0 p e R s1 m args below meth c α b n0 h0 uC uS ok hl T locs cells slots I => by
    subst hw' hid
    obtain ⟨hw, fa, hx, hZ, hown, hc, hml, hret, hnm, hR, hn0, htop, hsz⟩ := ok
    obtain ⟨k1, k2, k3, k4, k5, k6, k7⟩ := lk
    obtain ⟨z1, z2, z3, z4, z5⟩ := sm
    have C := cl l Z a0 [] 0 (b + (cK P.2 + 1) * i) n0 T.heap hw fa (Nat.le_trans hn0 (Nat.le_add_right _ _)) (rep_obj I.2.1 ho) (by rw [k7]; exact Nat.le_refl _) (fun q => by rw [z3] at q; cases q)
    have Bk := backOf (Q := CQ P.2 Z 0 (b + (cK P.2 + 1) * i) n0 T.heap (mN M') (none, [o]) (rv, (none, [o']))) (R := R) (p := p) (e := e) (below := below) (s := s1) (args := args) (len := 3) (W := (rest.map fun v => v.category).sum) C hZ (hw _ k5) (by rw [k6]; exact fa.2.1) (by rw [hR]; exact Nat.le_of_ble_eq_true z4) (by rw [hR]; exact Nat.le_of_ble_eq_true z5)
    have E := (I.2.1.2 i o ho).1
    obtain ⟨cB, kB, q1, q2, q3⟩ := isOf (T := T) hZ rfl E
    obtain ⟨v, vm1, ⟨T2, Lx, kx, nx⟩, -, X2, ⟨L2, hQ, l2, y2, n2⟩, stp⟩ := I.1.virtualBack hx (y := mY M') (z := mY M') hown (mvT hZ (hw _ k1)) (mvT hZ (hw _ k2)) (notFace_of_selects (args := #[]) (mvT hZ (hw _ k3))) (mvT hZ (hw _ k3)) (mvT hZ (hw _ k4)) (by rw [k6]; exact fa.2.2.2.2.2.2) Bk q1 q3 (g := mkF m pc (cL α b L) (cV α b st)) rfl (by show (cL α b L).size = c.maxLocals; rw [cL_size, hl, hml]) (Steps.refl _) (argsL := as) (rest := cV α b rest) (lenOf pd hn) (cV_call hnr hst)
      (by show 2 * 0 + _ ≤ _; rw [cV_sum]; exact Nat.le_of_eq (Nat.zero_add _)) (hb hc d) (fun _ _ => ⟨by rw [show (cV 0 (b + (cK P.2 + 1) * i) (.ref 1 :: as)) = .ref (b + (cK P.2 + 1) * i) :: cV 0 (b + (cK P.2 + 1) * i) as from rfl, cV_nr hnr], rfl, by rw [z1]; exact I.2.2.2.2.2.2.2.1, by rw [z2]; exact I.2.2.2.2.2.2.2.2.1⟩)
    dsimp only [Pt.U, Pt.locs, Pt.cells, Pt.slots] at X2 l2 y2 n2 stp hQ
    subst l2 y2 n2
    obtain ⟨rfl, N2, R2, F2, k8⟩ := hQ
    rw [k7] at F2
    refine ⟨T2, _, _, _, inv_obj I ho X2 N2 R2 F2 k8 (by rw [z1]; exact hC) (by rw [z2]; simp [usedS, hC]) (by rw [z1]; exact I.2.2.2.2.2.2.2.1) (by rw [z2]; exact I.2.2.2.2.2.2.2.2.1), fun target r => stp.trans ?_⟩
    rw [← ret_st (b' := b + (cK P.2 + 1) * i) hrr] at r
    exact r) g
theorem go_priv (lk : LinkP P (mY M).cls idx M') (pd : parseMethodDescriptor (mY M').desc = some ⟨ps, rt⟩) (hn : as.length = ps.length) (hid : id = (cK P.2 + 1) * i + 1) (hst : st = as.reverse ++ .ref id :: rest) (hnr : as.all nr = true) (hrr : rv.all nr = true) (ho : w.2[i]? = some o) (hw' : w' = (w.1, w.2.set i o')) (hC : o'.1 = o.1) (sm : Small M M' rest)
    (d : decode (mB M) pc = .ok (.invokevirtual idx, 3)) (cl : Call P M' (.ref 1 :: as) (none, [o]) (rv, (none, [o']))) (g : Go P M (pc + 3) L (rv.toList ++ rest) w' out) : Go P M pc L st w out :=
  go_ch (fun l Z a0 p e R s1 m args below meth c α b n0 h0 uC uS ok hl T locs cells slots I => by
    subst hw' hid
    obtain ⟨hw, fa, hx, hZ, hown, hc, hml, hret, hnm, hR, hn0, htop, hsz⟩ := ok
    obtain ⟨k1, k4, k3, k5, k6, k7⟩ := lk
    obtain ⟨z1, z2, z3, z4, z5⟩ := sm
    have C := cl l Z a0 [] 0 (b + (cK P.2 + 1) * i) n0 T.heap hw fa (Nat.le_trans hn0 (Nat.le_add_right _ _)) (rep_obj I.2.1 ho) (by rw [k7]; exact Nat.le_refl _) (fun q => by rw [z3] at q; cases q)
    have Bk := backOf (Q := CQ P.2 Z 0 (b + (cK P.2 + 1) * i) n0 T.heap (mN M') (none, [o]) (rv, (none, [o']))) (R := R) (p := p) (e := e) (below := below) (s := s1) (args := args) (len := 3) (W := (rest.map fun v => v.category).sum) C hZ (hw _ k5) (by rw [k6]; exact fa.2.1) (by rw [hR]; exact Nat.le_of_ble_eq_true z4) (by rw [hR]; exact Nat.le_of_ble_eq_true z5)
    obtain ⟨cell, q1, q2⟩ := (I.2.1.2 i o ho).1.cell
    have hy : (mY M').cls ≠ "java/lang/invoke/MethodHandle" ∧ (mY M').cls ≠ "java/lang/invoke/VarHandle" := by rw [k6]; exact fa.2.2.2.2.2.2
    have hpriv : s1.PrivateAt (mY M') := Cond.privateMethod_at (mvP hZ (hw _ k3) (args := #[]))
    have hin : (Jvm.Cond.instanceMethod (mY M')).before args s1 = true := mvT hZ (hw _ k4)
    obtain ⟨c2, kk, i1, i2, i3, i4, -⟩ := Cond.instantiable_spec fa.1
    obtain ⟨k', j1, j2⟩ := hZ.alike.2.2 _ _ i2
    have hsel : (Jvm.Cond.selects (mY M').cls (mY M') (mY M')).before args s1 = true := selects_self_of_private (c := c2) (k := k') (by rw [k6, hZ.alike.findClass]; exact i1) j1 (by
      have : kk.isInterface = false := by simp only [Bool.or_eq_false_iff] at i4; exact i4.1
      rw [j2]; exact this) hpriv hin hy
    obtain ⟨v, vm1, ⟨T2, Lx, kx, nx⟩, -, X2, ⟨L2, hQ, l2, y2, n2⟩, stp⟩ := I.1.privateBack hx (y := mY M') hown (mvT hZ (hw _ k1)) hin hsel hpriv (mvT hZ (hw _ k5)) hy Bk (g := mkF m pc (cL α b L) (cV α b st)) rfl (by show (cL α b L).size = c.maxLocals; rw [cL_size, hl, hml]) (Steps.refl _) (a := b + (cK P.2 + 1) * i) q1 q2 (argsL := as) (rest := cV α b rest) (lenOf pd hn) (cV_call hnr hst)
      (by show 2 * 0 + _ ≤ _; rw [cV_sum]; exact Nat.le_of_eq (Nat.zero_add _)) (hb hc d) (fun _ _ => ⟨by rw [show (cV 0 (b + (cK P.2 + 1) * i) (.ref 1 :: as)) = .ref (b + (cK P.2 + 1) * i) :: cV 0 (b + (cK P.2 + 1) * i) as from rfl, cV_nr hnr], rfl, by rw [z1]; exact I.2.2.2.2.2.2.2.1, by rw [z2]; exact I.2.2.2.2.2.2.2.2.1⟩)
    dsimp only [Pt.U, Pt.locs, Pt.cells, Pt.slots] at X2 l2 y2 n2 stp hQ
    subst l2 y2 n2
    obtain ⟨rfl, N2, R2, F2, k8⟩ := hQ
    rw [k7] at F2
    refine ⟨T2, _, _, _, inv_obj I ho X2 N2 R2 F2 k8 (by rw [z1]; exact hC) (by rw [z2]; simp [usedS, hC]) (by rw [z1]; exact I.2.2.2.2.2.2.2.1) (by rw [z2]; exact I.2.2.2.2.2.2.2.2.1), fun target r => stp.trans ?_⟩
    rw [← ret_st (b' := b + (cK P.2 + 1) * i) hrr] at r
    exact r) g
theorem go_stat (lk : LinkS P (mY M).cls idx M') (pd : parseMethodDescriptor (mY M').desc = some ⟨ps, rt⟩) (hn : as.length = ps.length) (hst : st = as.reverse ++ rest) (hN' : mN M' ≤ mN M ∧ w.2.length ≤ mN M') (hu : usedC w' = usedC w ∧ usedS P.2 w' = usedS P.2 w ∧ w'.2.length = w.2.length) (sm : Small M M' rest)
    (d : decode (mB M) pc = .ok (.invokestatic idx, 3)) (cl : Call P M' as w (rv, w')) (g : Go P M (pc + 3) L (rv.toList ++ rest) w' out) : Go P M pc L st w out :=
  go_ch (fun l Z a0 p e R s1 m args below meth c α b n0 h0 uC uS ok hl T locs cells slots I => by
    obtain ⟨hw, fa, hx, hZ, hown, hc, hml, hret, hnm, hR, hn0, htop, hsz⟩ := ok
    obtain ⟨k1, k2, k3, k5, k6⟩ := lk
    obtain ⟨z1, z2, z3, z4, z5⟩ := sm
    have C := cl l Z a0 [] α b n0 T.heap hw fa hn0 I.2.1 hN'.2 (fun q => by rw [z3] at q; cases q)
    have Bk := backOf (Q := CQ P.2 Z α b n0 T.heap (mN M') w (rv, w')) (R := R) (p := p) (e := e) (below := below) (s := s1) (args := args) (len := 3) (W := (rest.map fun v => v.category).sum) C hZ (hw _ k5) (hw _ k3) (by rw [hR]; exact Nat.le_of_ble_eq_true z4) (by rw [hR]; exact Nat.le_of_ble_eq_true z5)
    obtain ⟨v, vm1, ⟨T2, Lx, kx, nx⟩, -, X2, ⟨L2, hQ, l2, y2, n2⟩, stp⟩ := Jvm.LawKit.callS I.1 hx (y := mY M') hown (mvT hZ (hw _ k1)) (mvT hZ (hw _ k2)) (mvT hZ (hw _ k3)) (mvT hZ (hw _ k5)) k6 Bk (g := mkF m pc (cL α b L) (cV α b st)) rfl (by show (cL α b L).size = c.maxLocals; rw [cL_size, hl, hml]) (argsL := cV α b as) (rest := cV α b rest) (lenOf pd (by simpa [cV] using hn)) (by subst hst; simp [cV])
      (by show 2 * 0 + _ ≤ _; rw [cV_sum]; exact Nat.le_of_eq (Nat.zero_add _)) (hb hc d) (fun _ _ => ⟨rfl, rfl, by rw [z1]; exact I.2.2.2.2.2.2.2.1, by rw [z2]; exact I.2.2.2.2.2.2.2.2.1⟩)
    dsimp only [Pt.U, Pt.locs, Pt.cells, Pt.slots] at X2 l2 y2 n2 stp hQ
    subst l2 y2 n2
    obtain ⟨rfl, N2, R2, F2, k, k8, k9⟩ := hQ
    obtain ⟨X, Rp, Fm, Nl, hs, u1, u2, c1, c2, hN⟩ := I
    rw [z1, z2] at X2
    refine ⟨T2, _, _, _, ⟨X2, R2, Fm.trans (F2.wide (Nat.le_refl _) (by have := Nat.mul_le_mul_left (cK P.2 + 1) hN'.1; omega)), Nl.app N2, ?_, ?_, ?_, c1, c2, by rw [hu.2.2]; exact hN⟩, fun target r => stp target ?_⟩
    · rw [k8]; have := hu.1; simp only at k9; omega
    · rw [hu.1]; exact u1
    · rw [hu.2.1]; exact u2
    · have e1 : cV α b (rv.toList ++ rest) = (rv.map (con α b)).toList ++ cV α b rest := by cases rv <;> rfl
      rw [e1] at r; exact r) g
/-- a constructor, by its contract -/
theorem go_init {k2 : Nat} {s2 : S} (lk : LinkI P (mY M).cls idx M') (pd : parseMethodDescriptor (mY M').desc = some ⟨ps, rt⟩) (hn : as.length = ps.length) (hid : id = (cK P.2 + 1) * i + 1) (hst : st = as.reverse ++ .ref id :: rest) (hnr : as.all nr = true) (ho : w.2[i]? = some (k, s)) (hw' : w' = (w.1, w.2.set i (k2, s2)))
    (hC : k2 = k + (mR M').cells) (hS : usedS P.2 (none, [(k2, s2)]) = usedS P.2 (none, [(k, s)]) + (mR M').slots) (htM : mTop M = true) (hR1 : Nat.ble (usedC w + (mR M').cells) ((mR M).cells + mUC M) = true) (hR2 : Nat.ble (usedS P.2 w + (mR M').slots) ((mR M).slots + mUS M) = true)
    (hq : usedC w = (cK P.2 + 1) * i + usedC (none, [(k, s)]) ∧ usedC (none, [(k, s)]) = mUC M' ∧ usedS P.2 (none, [(k, s)]) = mUS M') (sm : Nat.ble ((mR M').frames + 1) (mR M).frames = true ∧ Nat.ble ((rest.map fun v => v.category).sum + (mL M' + 11) + (mR M').locals) (mR M).locals = true)
    (d : decode (mB M) pc = .ok (.invokespecial idx, 3)) (cl : Call P M' (.ref 1 :: as) (none, [(k, s)]) (none, (none, [(k2, s2)]))) (g : Go P M (pc + 3) L rest w' out) : Go P M pc L st w out :=
  go_ch (fun l Z a0 p e R s1 m args below meth c α b n0 h0 uC uS ok hl T locs cells slots I => by
    subst hw' hid
    obtain ⟨hw, fa, hx, hZ, hown, hc, hml, hret, hnm, hR, hn0, htop, hsz⟩ := ok
    obtain ⟨k1, k4, k5, k6, k7, k9, k10⟩ := lk
    obtain ⟨z4, z5⟩ := sm
    obtain ⟨t1, t2, t3⟩ := htop htM
    have Ic := I.2.2.2.2.2.1
    have Is := I.2.2.2.2.2.2.1
    have b1 : cells + (mR M').cells ≤ R.cells := by have := Nat.le_of_ble_eq_true hR1; rw [hR]; omega
    have b2 : slots + (mR M').slots ≤ R.slots := by have := Nat.le_of_ble_eq_true hR2; rw [hR]; omega
    have C := cl l Z a0 [] 0 (b + (cK P.2 + 1) * i) n0 T.heap hw fa (Nat.le_trans hn0 (Nat.le_add_right _ _)) (rep_obj I.2.1 ho) (by rw [k7]; exact Nat.le_refl _) (fun _ => ⟨by rw [I.2.2.2.2.1]; have := hq.1; omega, hq.2.1, hq.2.2⟩)
    have Bk := backOf (Q := CQ P.2 Z 0 (b + (cK P.2 + 1) * i) n0 T.heap (mN M') (none, [(k, s)]) (none, (none, [(k2, s2)]))) (R := R) (p := p) (e := e) (below := below) (s := s1) (args := args) (len := 3) (W := (rest.map fun v => v.category).sum) C hZ (hw _ k5) (by rw [k6]; exact fa.2.1) (by rw [hR]; exact Nat.le_of_ble_eq_true z4) (by rw [hR]; exact Nat.le_of_ble_eq_true z5)
    have hy : (mY M').cls ≠ "java/lang/invoke/MethodHandle" ∧ (mY M').cls ≠ "java/lang/invoke/VarHandle" := by rw [k6]; exact fa.2.2.2.2.2.2
    have hcd := hw _ k5
    rw [k9] at hcd
    obtain ⟨v, vm1, ⟨T2, Lx, kx, nx⟩, -, X2, ⟨L2, hQ, l2, y2, n2⟩, stp⟩ := I.1.specialBack hx (y := mY M') k10 hown (mvT hZ (hw _ k1)) (mvT hZ (hw _ k4)) (mvT hZ hcd) hy Bk (g := mkF m pc (cL α b L) (cV α b st)) rfl (by show (cL α b L).size = c.maxLocals; rw [cL_size, hl, hml]) (Steps.refl _) (a := b + (cK P.2 + 1) * i) (argsL := as) (rest := cV α b rest) (lenOf pd hn) (cV_call hnr hst)
      (by show 2 * 0 + _ ≤ _; rw [cV_sum]; exact Nat.le_of_eq (Nat.zero_add _)) (hb hc d) (fun _ _ => ⟨by rw [show (cV 0 (b + (cK P.2 + 1) * i) (.ref 1 :: as)) = .ref (b + (cK P.2 + 1) * i) :: cV 0 (b + (cK P.2 + 1) * i) as from rfl, cV_nr hnr], rfl, b1, b2⟩)
    dsimp only [Pt.U, Pt.locs, Pt.cells, Pt.slots] at X2 l2 y2 n2 stp hQ
    subst l2 y2 n2
    obtain ⟨rfl, N2, R2, F2, k8⟩ := hQ
    rw [k7] at F2
    exact ⟨T2, _, _, _, inv_obj I ho X2 N2 R2 F2 k8 hC hS b1 b2, fun target r => stp.trans r⟩) g
/-- Object's constructor -/
theorem go_objinit {a : Nat} (k1 : Jvm.Cond.methodLink (mY M).cls idx Lib.objectInit ∈ P.1) (k2 : Jvm.Cond.instanceMethod Lib.objectInit ∈ P.1) (k3 : Jvm.Cond.code Lib.objectInit ⟨#[0xb1]⟩ 1 none ∈ P.1) (z4 : Nat.ble 1 (mR M).frames = true) (z5 : Nat.ble ((rest.map fun v => v.category).sum + 12) (mR M).locals = true)
    (d : decode (mB M) pc = .ok (.invokespecial idx, 3)) (g : Go P M (pc + 3) L rest w out) : Go P M pc L (.ref (a + 1) :: rest) w out :=
  go_ch (fun l Z a0 p e R s1 m args below meth c α b n0 h0 uC uS ok hl T locs cells slots I => by
    obtain ⟨hw, fa, hx, hZ, hown, hc, hml, hret, hnm, hR, hn0, htop, hsz⟩ := ok
    obtain ⟨X, Rp, Fm, Nl, hs, u1, u2, c1, c2, hN⟩ := I
    obtain ⟨T', X', e', stp⟩ := initO X hx hZ hown (hw _ k1) (hw _ k2) (hw _ k3) rfl (g := mkF m pc (cL α b L) (cV α b (.ref (a + 1) :: rest))) rfl (by show (cL α b L).size = c.maxLocals; rw [cL_size, hl, hml]) (a := b + a) (rest := cV α b rest) rfl (hb hc d) (by rw [hR]; exact Nat.le_of_ble_eq_true z4) (W := (rest.map fun v => v.category).sum) (by show 2 * 0 + _ ≤ _; rw [cV_sum]; exact Nat.le_of_eq (Nat.zero_add _)) (by rw [hR]; exact Nat.le_of_ble_eq_true z5)
    exact ⟨T', locs, cells, slots, ⟨X', by rw [e']; exact Rp, by rw [e']; exact Fm, Nl, by rw [e']; exact hs, u1, u2, c1, c2, hN⟩, fun target r => stp target r⟩) g
/-- a new object of the class -/
theorem go_new {n : Nat} (k1 : Jvm.Cond.classLink (mY M).cls idx (cN P.2) ∈ P.1) (htM : mTop M = true) (hn : w.2.length = n) (hq : usedC w = (cK P.2 + 1) * n) (hw' : w' = (w.1, w.2 ++ [(0, s0)])) (hN' : Nat.blt n (mN M) = true) (hR1 : Nat.ble (usedC w + 1) ((mR M).cells + mUC M) = true) (hR2 : Nat.ble (usedS P.2 w + cF P.2) ((mR M).slots + mUS M) = true)
    (d : decode (mB M) pc = .ok (.new idx, 3)) (hid : id = (cK P.2 + 1) * n + 1) (g : Go P M (pc + 3) L (.ref id :: st) w' out) : Go P M pc L st w out :=
  go_ch (fun l Z a0 p e R s1 m args below meth c α b n0 h0 uC uS ok hl T locs cells slots I => by
    subst hw' hid
    obtain ⟨hw, fa, hx, hZ, hown, hc, hml, hret, hnm, hR, hn0, htop, hsz⟩ := ok
    obtain ⟨X, Rp, Fm, Nl, hs, u1, u2, c1, c2, hN⟩ := I
    obtain ⟨t1, t2, t3⟩ := htop htM
    have b1 : cells + 1 ≤ R.cells := by have := Nat.le_of_ble_eq_true hR1; rw [hR]; omega
    have b2 : slots + cF P.2 ≤ R.slots := by have := Nat.le_of_ble_eq_true hR2; rw [hR]; omega
    obtain ⟨T2, h2, X2, e2, E2, A2, D2, -, st2⟩ := newO X hx hZ hown (hw _ k1) fa.1 fa.2.1 rfl (g := mkF m pc (cL α b L) (cV α b st)) rfl (hb hc d) b1 b2
    have ha : T.heap.size = b + (cK P.2 + 1) * n := by rw [hs, t1]; omega
    rw [ha] at A2 D2 st2
    have sz2 : T2.heap.size = T.heap.size + 1 := by
      have q1 := X2.heapSize
      have q2 : b + (cK P.2 + 1) * n < h2.size := A2.lt
      rw [e2] at q1 ⊢
      omega
    refine ⟨T2, locs, _, _, ⟨X2, ?_, by rw [e2]; exact Fm.ext E2, Nl, by rw [sz2, hs]; omega, ?_, ?_, b1, b2, ?_⟩, fun target r => st2 target ?_⟩
    · rw [e2]
      refine ⟨fun l1 h1 => (Rp.ext E2).1 l1 h1, fun j oj hj => ?_⟩
      by_cases q : j < w.2.length
      · rw [show (w.1, w.2 ++ [(0, s0)]).2 = w.2 ++ [(0, s0)] from rfl, List.getElem?_append_left q] at hj
        exact (Rp.ext E2).2 j oj hj
      · have hj' := get_lt hj
        simp at hj'
        have ej : j = n := by omega
        subst ej
        rw [show (w.1, w.2 ++ [(0, s0)]).2 = w.2 ++ [(0, s0)] from rfl, List.getElem?_append_right (by omega)] at hj
        rw [hn] at hj; simp at hj; subst hj
        refine ⟨A2, fun f x hx => ?_, fun q x hx => ?_, fun q x _ hq => absurd hq (Nat.not_lt_zero _)⟩
        · have := D2 (fa.2.2.1 f x hx).1 (fa.2.2.1 f x hx).2
          rw [fa.2.2.2.2.2.1 f x hx] at this
          exact this
        · have := D2 (fa.2.2.2.1 q x hx).1 (fa.2.2.2.1 q x hx).2
          rw [if_neg (Nat.not_lt_zero _)]
          exact this
    · simp [usedC] at u1 ⊢; omega
    · simp [usedS] at u2 ⊢; omega
    · simp; have : n < mN M := by simpa [Nat.blt_eq] using hN'
      omega
    · exact r) g
/-- a new array, laid into its field at once -/
theorem rep_new {Z : State} {a0 : Array Value} {ci : CI} {h h1 h2 : Heap} {b : Nat} {s s' : S} {k : Nat} {nm ds : String} {ty : FieldType} {cap : Nat} {cl : Cell} (fa : Facts Z a0 ci) (F : Rep1 Z ci h b (k, s)) (hf : (cA ci)[k]? = some (nm, ds, ty, cap)) (E : Ext h h1) (A : Arr Z h1 (b + 1 + k) cl ty) (ec : cl.slots = (arV ty s' k).toArray)
    (Wt : Wr h1 h2 b (Jvm.RoadKit.slotOf Z (cN ci) nm ds) (.ref (b + 1 + k))) (ho : ∀ q' x, (cA ci)[q']? = some x → q' ≠ k → arV x.2.2.1 s' q' = arV x.2.2.1 s q') (ha : gI s' = gI s) (hbb : gL s' = gL s) : Rep1 Z ci h2 b (k + 1, s') := by
  obtain ⟨f1, f2, f3, f4⟩ := F
  obtain ⟨-, -, g1, g2, g3, -⟩ := fa
  have lt := get_lt hf
  refine ⟨(f1.ext E).wr Wt, fun f x hx => ?_, fun q x hx => ?_, fun q x hx hq => ?_⟩
  · have e : scV x.2.2 s' f = scV x.2.2 s f := by unfold scV; split <;> simp [ha, hbb]
    have lt' := get_lt hx
    show Fld Z h2 b (cN ci) x.1 x.2.1 (scV x.2.2 s' f)
    rw [e]
    refine ((f2 f x hx).ext E).other Wt (Or.inr ?_)
    refine slot_ne (g1 f x hx).1 (g2 k _ hf).1 ?_ (g1 f x hx).2 (g2 k _ hf).2
    intro en
    have n1 : ((cS ci).map (fun x => x.1) ++ (cA ci).map (fun x => x.1))[f]? = some x.1 := by rw [List.getElem?_append_left (by simpa using lt')]; simp [hx]
    have n2 : ((cS ci).map (fun x => x.1) ++ (cA ci).map (fun x => x.1))[(cS ci).length + k]? = some nm := by rw [List.getElem?_append_right (by simp)]; simp [hf]
    rw [en] at n1
    obtain ⟨i1, j1⟩ := List.getElem?_eq_some_iff.mp n1
    obtain ⟨i2, j2⟩ := List.getElem?_eq_some_iff.mp n2
    have := (List.getElem_inj g3).mp (j1.trans j2.symm)
    omega
  · by_cases e : q = k
    · subst e
      cases hf.symm.trans hx
      rw [if_pos (show q < (q + 1, s').1 from Nat.lt_succ_self q)]
      exact ((f3 q _ hf).ext E).same Wt
    · have lt' := get_lt hx
      have e2 : (if q < (k + 1, s').1 then Value.ref (b + 1 + q) else Value.null) = (if q < (k, s).1 then Value.ref (b + 1 + q) else Value.null) := by
        show (if q < k + 1 then _ else _) = (if q < k then _ else _)
        by_cases q1 : q < k
        · rw [if_pos q1, if_pos (by omega)]
        · rw [if_neg q1, if_neg (by omega)]
      rw [e2]
      refine ((f3 q x hx).ext E).other Wt (Or.inr ?_)
      refine slot_ne (g2 q x hx).1 (g2 k _ hf).1 ?_ (g2 q x hx).2 (g2 k _ hf).2
      intro en
      have n1 : ((cS ci).map (fun x => x.1) ++ (cA ci).map (fun x => x.1))[(cS ci).length + q]? = some x.1 := by rw [List.getElem?_append_right (by simp)]; simp [hx]
      have n2 : ((cS ci).map (fun x => x.1) ++ (cA ci).map (fun x => x.1))[(cS ci).length + k]? = some nm := by rw [List.getElem?_append_right (by simp)]; simp [hf]
      rw [en] at n1
      obtain ⟨i1, j1⟩ := List.getElem?_eq_some_iff.mp n1
      obtain ⟨i2, j2⟩ := List.getElem?_eq_some_iff.mp n2
      have := (List.getElem_inj g3).mp (j1.trans j2.symm)
      omega
  · by_cases e : q = k
    · subst e
      cases hf.symm.trans hx
      exact ⟨cl, A.other Wt (nq (by omega)), ec⟩
    · obtain ⟨c, B, eb⟩ := f4 q x hx (by have : q < k + 1 := hq; show q < k; omega)
      refine ⟨c, (B.ext E).other Wt (nq (by omega)), eb.trans ?_⟩
      rw [ho q x hx e]
theorem go_newV {aty : ArrayType} {ty : FieldType} {nm ds : String} {cap : Nat} {n : Int32} {s' : S} (hty : newarray.typeOf aty = ty) (ha : (cA P.2)[k]? = some (nm, ds, ty, cap)) (k0 : Jvm.Cond.arrayClass ty ∈ P.1) (k1 : Jvm.Cond.fieldLink (cN P.2) idx (cN P.2) nm ds ∈ P.1) (hM : (mY M).cls = cN P.2)
    (hlays : Jvm.Cond.lays (cN P.2) (cN P.2) nm ds ∈ P.1 ∨ (Jvm.Cond.laysFinal (cN P.2) (cN P.2) nm ds ∈ P.1 ∧ (mY M).name = "<init>")) (htM : mTop M = true) (hp : 0 < mN M) (hn : ¬ n < 0) (hcap : Nat.ble n.toNatClampNeg cap = true) (hbig : Nat.ble (cap * 8) 536870912 = true)
    (hR1 : Nat.ble (1 + k + 1) ((mR M).cells + mUC M) = true) (hR2 : Nat.ble (usedS P.2 (none, [(k, s)]) + cap) ((mR M).slots + mUS M) = true)
    (hv : arV ty s' k = List.replicate n.toNatClampNeg (defaultValue ty)) (hoth : ∀ q' x, (cA P.2)[q']? = some x → q' ≠ k → arV x.2.2.1 s' q' = arV x.2.2.1 s q') (hgI : gI s' = gI s) (hgL : gL s' = gL s)
    (d : decode (mB M) pc = .ok (.newarray aty, 2)) (d2 : decode (mB M) (pc + 2) = .ok (.putfield idx, 3)) (g : Go P M (pc + 5) L st (none, [(k + 1, s')]) out) : Go P M pc L (.int n :: .ref 1 :: st) (none, [(k, s)]) out :=
  go_ch (fun l Z a0 p e R s1 m args below meth c α b n0 h0 uC uS ok hl T locs cells slots I => by
    obtain ⟨hw, fa, hx, hZ, hown, hc, hml, hret, hnm, hR, hn0, htop, hsz⟩ := ok
    obtain ⟨X, Rp, Fm, Nl, hs, u1, u2, c1, c2, hN⟩ := I
    obtain ⟨t1, t2, t3⟩ := htop htM
    have u1' : cells + uC = 1 + k := by simpa [usedC] using u1
    have b1 : cells + 1 ≤ R.cells := by have := Nat.le_of_ble_eq_true hR1; rw [hR]; omega
    have b2 : slots + cap ≤ R.slots := by have := Nat.le_of_ble_eq_true hR2; rw [hR]; omega
    subst hty
    obtain ⟨T2, h2, cA2, X2, e2, E2, A2, st2⟩ := newP X hx hZ (hw _ k0) rfl (g := mkF m pc (cL α b L) (.int n :: .ref b :: cV α b st)) rfl (hb hc d) rfl hn (Nat.le_of_ble_eq_true hcap) (Nat.le_of_ble_eq_true hbig) b1 b2
    have hadr : T.heap.size = b + 1 + k := by rw [hs, t1]; omega
    rw [hadr] at A2 st2
    have sz2 : T2.heap.size = T.heap.size + 1 := by
      have q1 := X2.heapSize
      have q2 : b + 1 + k < h2.size := A2.lt
      rw [e2] at q1 ⊢
      omega
    have Rp1 := rep_one Rp
    have Fd := Rp1.2.2.1 k _ ha
    rw [if_neg (show ¬ k < (k, s).1 from Nat.lt_irrefl k)] at Fd
    rw [hM] at hown
    obtain ⟨T3, h3, X3, e3, Wt, st3⟩ := putF X2 hx hZ hown (host := "") (Or.inl (hw _ k1)) Via.refl e2 (Fd.ext E2) (Rp1.1.ext E2) (hlays.imp (fun q => hw _ q) (fun q => ⟨hw _ q.1, rfl, hnm.trans q.2⟩)) fa.1 (fa.2.2.2.1 k _ ha).2 (v := .ref (b + 1 + k)) rfl rfl (g := mkF m (pc + 2) (cL α b L) (.ref (b + 1 + k) :: .ref b :: cV α b st)) rfl rfl (hb hc d2)
    refine ⟨T3, _, _, _, ⟨X3, rep_mk (by rw [e3]; exact rep_new fa Rp1 ha E2 A2 (by rw [hv]; simp [newA]) Wt hoth hgI hgL), by rw [e3]; exact (Fm.ext E2).wr Wt (Nat.le_refl _) (by have := Nat.mul_le_mul_left (cK P.2 + 1) hp; omega), Fr.snoc X3 Nl hn0, by rw [e3, Wt.size, ← e2, sz2, hs]; omega, by simp [usedC]; omega, ?_, b1, b2, hN⟩, fun target r => st2 target (st3 target r)⟩
    have hk := get_lt ha
    simp only [usedS, List.map_cons, List.map_nil, List.sum_cons, List.sum_nil] at u2 ⊢
    rw [List.take_add_one, List.map_append, List.sum_append, ha]
    simp [List.map_take] at u2 ⊢; omega) g
theorem go_newI {aty : ArrayType} {ty : FieldType} {nm ds : String} {cap : Nat} {n : Int32} (hty : newarray.typeOf aty = ty) (hi : ty = .int ∨ ty = .boolean ∨ ty = .byte) (ha : (cA P.2)[k]? = some (nm, ds, ty, cap)) (k0 : Jvm.Cond.arrayClass ty ∈ P.1) (k1 : Jvm.Cond.fieldLink (cN P.2) idx (cN P.2) nm ds ∈ P.1) (hM : (mY M).cls = cN P.2)
    (hlays : Jvm.Cond.lays (cN P.2) (cN P.2) nm ds ∈ P.1 ∨ (Jvm.Cond.laysFinal (cN P.2) (cN P.2) nm ds ∈ P.1 ∧ (mY M).name = "<init>")) (htM : mTop M = true) (hp : 0 < mN M) (hn : ¬ n < 0) (hcap : Nat.ble n.toNatClampNeg cap = true) (hbig : Nat.ble (cap * 8) 536870912 = true)
    (hR1 : Nat.ble (1 + k + 1) ((mR M).cells + mUC M) = true) (hR2 : Nat.ble (usedS P.2 (none, [(k, s)]) + cap) ((mR M).slots + mUS M) = true)
    (d : decode (mB M) pc = .ok (.newarray aty, 2)) (d2 : decode (mB M) (pc + 2) = .ok (.putfield idx, 3)) (g : Go P M (pc + 5) L st (none, [(k + 1, sA s k (rep n.toNatClampNeg 0))]) out) : Go P M pc L (.int n :: .ref 1 :: st) (none, [(k, s)]) out :=
  go_newV hty ha k0 k1 hM hlays htM hp hn hcap hbig hR1 hR2 (by rcases hi with rfl | rfl | rfl <;> simp [arV, gA_sA, defaultValue, rep]) (fun q' x _ h => arV_sA s k _ _ q' h) rfl rfl d d2 g
theorem go_newJ {nm ds : String} {cap : Nat} {n : Int32} (ha : (cA P.2)[k]? = some (nm, ds, .long, cap)) (k0 : Jvm.Cond.arrayClass .long ∈ P.1) (k1 : Jvm.Cond.fieldLink (cN P.2) idx (cN P.2) nm ds ∈ P.1) (hM : (mY M).cls = cN P.2)
    (hlays : Jvm.Cond.lays (cN P.2) (cN P.2) nm ds ∈ P.1 ∨ (Jvm.Cond.laysFinal (cN P.2) (cN P.2) nm ds ∈ P.1 ∧ (mY M).name = "<init>")) (htM : mTop M = true) (hp : 0 < mN M) (hn : ¬ n < 0) (hcap : Nat.ble n.toNatClampNeg cap = true) (hbig : Nat.ble (cap * 8) 536870912 = true)
    (hR1 : Nat.ble (1 + k + 1) ((mR M).cells + mUC M) = true) (hR2 : Nat.ble (usedS P.2 (none, [(k, s)]) + cap) ((mR M).slots + mUS M) = true)
    (d : decode (mB M) pc = .ok (.newarray .long, 2)) (d2 : decode (mB M) (pc + 2) = .ok (.putfield idx, 3)) (g : Go P M (pc + 5) L st (none, [(k + 1, sB s k (rep n.toNatClampNeg 0))]) out) : Go P M pc L (.int n :: .ref 1 :: st) (none, [(k, s)]) out :=
  go_newV (aty := .long) (ty := .long) rfl ha k0 k1 hM hlays htM hp hn hcap hbig hR1 hR2 (by simp [arV, gB_sB, defaultValue, rep]) (fun q' x _ h => arV_sB s k _ _ q' h) rfl rfl d d2 g
end Rules
/-! ## the start -/
theorem tsw_out {x : Int32} {lo hi : Int} (h1 : -2147483648 ≤ lo) (h2 : hi < 2147483648) (ks : List Int32) (hk : ks = ((List.range (hi - lo + 1).toNat).map fun (j : Nat) => Int32.ofInt (lo + (j : Int)))) (hx : ∀ k ∈ ks, x ≠ k) : x.toInt < lo ∨ x.toInt > hi := by
  by_cases q1 : x.toInt < lo
  · exact Or.inl q1
  by_cases q2 : x.toInt > hi
  · exact Or.inr q2
  refine absurd rfl (hx x ?_)
  rw [hk, List.mem_map]
  refine ⟨(x.toInt - lo).toNat, List.mem_range.mpr (by omega), ?_⟩
  rw [show lo + (((x.toInt - lo).toNat : Nat) : Int) = x.toInt by omega]
  exact Int32.ofInt_toInt x
theorem list_of_array {V : Type} (a : Array V) (f : Nat → V) (h : ∀ j, j < a.size → a[j]? = some (f j)) : a = ((List.range a.size).map f).toArray := by
  apply Array.ext'
  apply List.ext_getElem?
  intro j
  by_cases q : j < a.size
  · simpa [q] using h j q
  · simp [q]
theorem small_len {n : Nat} {k : Int32} (h : n < 2 ^ 31) (q : n.toInt32 ≤ k) : (n : Int) ≤ k.toInt := by
  have e : (Int32.ofNat n).toInt = n := Int32.toInt_ofNat_of_lt h
  have := Int32.le_iff_toInt_le.mp q
  rwa [show n.toInt32.toInt = n from e] at this
theorem script_of {s : State} {args : Array Value} {t : Term} {k : Int32} (hf : Fit s) (h1 : (Cond.arrayOf t .int).value args s none s [] = some true) (h2 : (Cond.le (.length t) (.int k)).value args s none s [] = some true) :
    ∃ (a : Nat) (l : List Int32), t.eval args s none [] s = some (.ref a) ∧ Ar s s.heap a .int (l.map .int) ∧ a < s.heap.size ∧ (l.length : Int) ≤ k.toInt := by
  obtain ⟨a, ev⟩ := arr_v h1
  obtain ⟨c, A⟩ := Arr.start ev h1
  obtain ⟨x, y, ex, ey, -, -⟩ := cmp_v (Or.inr (Or.inr h2))
  obtain ⟨b, cell, e1, e2, e3, ev2⟩ := Jvm.Lib.length_spec ex
  have ea : b = a := by rw [ev] at e1; cases e1; rfl
  have ec : cell = c := by
    have := Arr.fin (Vm.Alike.refl _) A
    rw [ea, this] at e2; cases e2; rfl
  subst ea ec ev2
  obtain ⟨n, en, S⟩ := Scr.start hf A e3
  have hle : cell.slots.size.toInt32 ≤ k := by
    have ek : (Term.int k).eval args s none [] s = some (.int k) := rfl
    simp only [Cond.value, ex, ek] at h2
    simpa using h2
  refine ⟨b, (List.range cell.slots.size).map fun j => atv cell (Int32.ofNat j), ev, ⟨cell, A, ?_⟩, A.lt, ?_⟩
  · rw [List.map_map]
    refine list_of_array cell.slots _ fun j hj => ?_
    have e4 : (Int32.ofNat j).toNatClampNeg = j := by
      have : (Int32.ofNat j).toInt = j := Int32.toInt_ofNat_of_lt (by omega)
      simp [Int32.toNatClampNeg, this]
    have e5 : ¬ (Int32.ofNat j < 0) := by
      rw [Int32.lt_iff_toInt_lt, Int32.toInt_ofNat_of_lt (by omega)]; simp
    have := S.2.2.2 (Int32.ofNat j) (by rw [e4]; rintro (q | q); exact e5 q; omega)
    rw [e4] at this
    exact this
  · simpa using small_len e3 hle
theorem repW_none (Z : State) (ci : CI) (α b : Nat) (h : Heap) : RepW Z ci α b (none, []) h := ⟨fun l hl => (by cases hl), fun i o ho => (by simp at ho)⟩
theorem repW_some {Z : State} {ci : CI} {α b : Nat} {h : Heap} {l : List Int32} (A : Ar Z h α .int (l.map .int)) (q : α < b) : RepW Z ci α b (some l, []) h := ⟨fun l' hl => by cases hl; exact ⟨A, q⟩, fun i o ho => by simp at ho⟩
end Jvm.AM
/-! ## plain lemmas on ints, arrays and updates -/
namespace Jvm.PL
open Jvm.AM
theorem ofNat_toInt {k : Nat} (h : k < 2147483648) : (Int32.ofNat k).toInt = k := Int32.toInt_ofNat_of_lt h
theorem ofNat_lt {k m : Nat} (hk : k < 2147483648) (hm : m < 2147483648) : Int32.ofNat k < Int32.ofNat m ↔ k < m := by
  rw [Int32.lt_iff_toInt_lt, ofNat_toInt hk, ofNat_toInt hm]; omega
theorem lt_lit {k m : Nat} (hk : k < 2147483648) (hm : m < 2147483648 := by decide) : Int32.ofNat k < (OfNat.ofNat m : Int32) ↔ k < m := ofNat_lt hk hm
theorem ofNat_succ (k : Nat) : Int32.ofNat k + 1 = Int32.ofNat (k + 1) := by
  rw [Int32.ofNat_add]; rfl
theorem ofNat_nonneg {k : Nat} (hk : k < 2147483648) : ¬ Int32.ofNat k < 0 := by rw [Int32.lt_iff_toInt_lt, ofNat_toInt hk]; simp
theorem ofNat_clamp {k : Nat} (hk : k < 2147483648) : (Int32.ofNat k).toNatClampNeg = k := by simp [Int32.toNatClampNeg, ofNat_toInt hk]
theorem ix_ofNat {A : Type} (l : List A) {k : Nat} (hk : k < 2147483648) : ix l (Int32.ofNat k) = l[k]? := by
  unfold ix; rw [if_neg (ofNat_nonneg hk), ofNat_clamp hk]
theorem st_ofNat {A : Type} (l : List A) (x : A) {k : Nat} (hk : k < 2147483648) (hl : k < l.length) : Jvm.AM.st l (Int32.ofNat k) x = some (l.set k x) := by
  unfold Jvm.AM.st; rw [if_neg (ofNat_nonneg hk), ofNat_clamp hk, if_pos hl]
theorem toInt_clamp {v : Int32} (h : ¬ v < 0) : (v.toNatClampNeg : Int) = v.toInt := by
  rw [Int32.lt_iff_toInt_lt] at h
  simp only [Int32.toNatClampNeg]
  have : (0 : Int32).toInt = 0 := rfl
  omega
theorem eq_ofNat {v : Int32} (h : ¬ v < 0) : v = Int32.ofNat v.toNatClampNeg ∧ v.toNatClampNeg < 2147483648 := by
  have h1 := toInt_clamp h
  have h2 := v.toInt_lt
  have h3 : v.toNatClampNeg < 2147483648 := by omega
  refine ⟨Int32.toInt_inj.mp ?_, h3⟩
  rw [ofNat_toInt h3]; exact h1.symm
theorem ix_rep {A : Type} {v : Int32} {n : Nat} {x : A} (h0 : ¬ v < 0) (h1 : v < Int32.ofNat n) (hn : n < 2147483648) : ix (rep n x) v = some x := by
  obtain ⟨e, hl⟩ := eq_ofNat h0
  rw [e] at h1 ⊢
  have h2 := (ofNat_lt hl hn).mp h1
  rw [ix_ofNat _ hl, rep_get, if_pos h2]
theorem ix_nat {A : Type} (l : List A) {v : Int32} (h0 : ¬ v < 0) : ix l v = l[v.toNatClampNeg]? := by unfold ix; rw [if_neg h0]
theorem st_nat {A : Type} (l : List A) {v : Int32} {x : A} (h0 : ¬ v < 0) (hl : v.toNatClampNeg < l.length) : Jvm.AM.st l v x = some (l.set v.toNatClampNeg x) := by
  unfold Jvm.AM.st; rw [if_neg h0, if_pos hl]
theorem clamp_lt {v : Int32} {n : Nat} (h0 : ¬ v < 0) (h1 : v < Int32.ofNat n) (hn : n < 2147483648) : v.toNatClampNeg < n := by
  obtain ⟨e, hl⟩ := eq_ofNat h0
  rw [e] at h1
  exact (ofNat_lt hl hn).mp h1
theorem clamp_inj {v w : Int32} (h0 : ¬ v < 0) (h1 : ¬ w < 0) : v.toNatClampNeg = w.toNatClampNeg ↔ v = w := by
  constructor
  · intro h
    have a := toInt_clamp h0
    have b := toInt_clamp h1
    exact Int32.toInt_inj.mp (by omega)
  · intro h; rw [h]
end Jvm.PL
namespace Jvm.PL
open Jvm.AM
/-- all but the named fields and arrays is as it was -/
def Fx (I L A B : List Nat) (s s' : S) : Prop := (∀ f, f ∉ I → gI s' f = gI s f) ∧ (∀ f, f ∉ L → gL s' f = gL s f) ∧ (∀ f, f ∉ A → gA s' f = gA s f) ∧ (∀ f, f ∉ B → gB s' f = gB s f)
theorem Fx.refl (I L A B : List Nat) (s : S) : Fx I L A B s s := ⟨fun _ _ => rfl, fun _ _ => rfl, fun _ _ => rfl, fun _ _ => rfl⟩
theorem Fx.trans {I L A B : List Nat} {s t u : S} (h : Fx I L A B s t) (k : Fx I L A B t u) : Fx I L A B s u :=
  ⟨fun f q => (k.1 f q).trans (h.1 f q), fun f q => (k.2.1 f q).trans (h.2.1 f q), fun f q => (k.2.2.1 f q).trans (h.2.2.1 f q), fun f q => (k.2.2.2 f q).trans (h.2.2.2 f q)⟩
theorem Fx.mono {I L A B I' L' A' B' : List Nat} {s t : S} (h : Fx I L A B s t) (a : ∀ f ∈ I, f ∈ I') (b : ∀ f ∈ L, f ∈ L') (c : ∀ f ∈ A, f ∈ A') (d : ∀ f ∈ B, f ∈ B') : Fx I' L' A' B' s t :=
  ⟨fun f q => h.1 f fun x => q (a f x), fun f q => h.2.1 f fun x => q (b f x), fun f q => h.2.2.1 f fun x => q (c f x), fun f q => h.2.2.2 f fun x => q (d f x)⟩
theorem Fx.sA {I L A B : List Nat} {s t : S} {f : Nat} {l : List Int32} (h : Fx I L A B s t) (hf : f ∈ A) : Fx I L A B s (Jvm.AM.sA t f l) :=
  ⟨fun g q => (gI_sA _ _ _ _).trans (h.1 g q), fun g q => (gL_sA _ _ _ _).trans (h.2.1 g q), fun g q => by rw [gA_sA, if_neg (fun e : g = f => q (e ▸ hf))]; exact h.2.2.1 g q, fun g q => (gB_sA _ _ _ _).trans (h.2.2.2 g q)⟩
theorem Fx.sI {I L A B : List Nat} {s t : S} {f : Nat} {l : Int32} (h : Fx I L A B s t) (hf : f ∈ I) : Fx I L A B s (Jvm.AM.sI t f l) :=
  ⟨fun g q => by rw [gI_sI, if_neg (fun e : g = f => q (e ▸ hf))]; exact h.1 g q, fun g q => (gL_sI _ _ _ _).trans (h.2.1 g q), fun g q => (gA_sI _ _ _ _).trans (h.2.2.1 g q), fun g q => (gB_sI _ _ _ _).trans (h.2.2.2 g q)⟩
theorem Fx.sL {I L A B : List Nat} {s t : S} {f : Nat} {l : Int64} (h : Fx I L A B s t) (hf : f ∈ L) : Fx I L A B s (Jvm.AM.sL t f l) :=
  ⟨fun g q => (gI_sL _ _ _ _).trans (h.1 g q), fun g q => by rw [gL_sL, if_neg (fun e : g = f => q (e ▸ hf))]; exact h.2.1 g q, fun g q => (gA_sL _ _ _ _).trans (h.2.2.1 g q), fun g q => (gB_sL _ _ _ _).trans (h.2.2.2 g q)⟩
theorem Fx.sB {I L A B : List Nat} {s t : S} {f : Nat} {l : List Int64} (h : Fx I L A B s t) (hf : f ∈ B) : Fx I L A B s (Jvm.AM.sB t f l) :=
  ⟨fun g q => (gI_sB _ _ _ _).trans (h.1 g q), fun g q => (gL_sB _ _ _ _).trans (h.2.1 g q), fun g q => (gA_sB _ _ _ _).trans (h.2.2.1 g q), fun g q => by rw [gB_sB, if_neg (fun e : g = f => q (e ▸ hf))]; exact h.2.2.2 g q⟩
theorem ofNat_add' (a b : Nat) : Int32.ofNat a + Int32.ofNat b = Int32.ofNat (a + b) := (Int32.ofNat_add a b).symm
/-- the first k entries are x -/
def Upto {A : Type} (l : List A) (k : Nat) (x : A) : Prop := ∀ i, i < k → l[i]? = some x
theorem Upto.zero {A : Type} (l : List A) (x : A) : Upto l 0 x := fun _ h => absurd h (Nat.not_lt_zero _)
theorem Upto.set {A : Type} {l : List A} {k : Nat} {x : A} (h : Upto l k x) (hk : k < l.length) : Upto (l.set k x) (k + 1) x := fun i hi => by
  by_cases e : i = k
  · subst e; simp [hk]
  · rw [List.getElem?_set_ne (Ne.symm e)]; exact h i (by omega)
theorem Upto.all {A : Type} {l : List A} {k : Nat} {x : A} (h : Upto l k x) (hk : l.length = k) : l = rep k x := by
  apply List.ext_getElem?
  intro i
  rw [rep_get]
  by_cases q : i < k
  · rw [if_pos q]; exact h i q
  · rw [if_neg q, List.getElem?_eq_none (by omega)]
end Jvm.PL
namespace Jvm.PL
open Jvm.AM
/-- a loop by its invariant; m: the turns that are left -/
theorem run_loop {A B : Type} (L : Nat → A → B) (F : A → B) (I : Nat → A → Prop) (h : ∀ n m a, I (m + 1) a → ∃ a', L (n + 1) a = L n a' ∧ I m a') (h0 : ∀ n a, I 0 a → L (n + 1) a = F a) : ∀ m n a, m < n → I m a → ∃ a', L n a = F a' ∧ I 0 a'
  | 0, n + 1, a, _, i => ⟨a, h0 n a i, i⟩
  | m + 1, n + 1, a, q, i => by
    obtain ⟨a', e, i'⟩ := h n m a i
    obtain ⟨a'', e', i''⟩ := run_loop L F I h h0 m n a' (by omega) i'
    exact ⟨a'', e.trans e', i''⟩
/-- 'for k in 0 .. N' -/
theorem run_for {B : Type} (L : Nat → Int32 → S → B) (F : S → B) (N : Nat) (I : Nat → S → Prop) (h : ∀ n k s, k < N → I k s → ∃ s', L (n + 1) (Int32.ofNat k) s = L n (Int32.ofNat (k + 1)) s' ∧ I (k + 1) s') (h0 : ∀ n s, I N s → L (n + 1) (Int32.ofNat N) s = F s) (n : Nat) (s : S) (hn : N < n) (i : I 0 s) :
    ∃ s', L n (Int32.ofNat 0) s = F s' ∧ I N s' := by
  obtain ⟨a, e, k, hk, ea, ia⟩ := run_loop (fun n (a : Int32 × S) => L n a.1 a.2) (fun a => F a.2) (fun m a => ∃ k, k + m = N ∧ a.1 = Int32.ofNat k ∧ I k a.2)
    (fun n m a ⟨k, h1, h2, h3⟩ => by
      obtain ⟨s', e, i'⟩ := h n k a.2 (by omega) h3
      exact ⟨(Int32.ofNat (k + 1), s'), by show L (n + 1) a.1 a.2 = _; rw [h2]; exact e, k + 1, by omega, rfl, i'⟩)
    (fun n a ⟨k, h1, h2, h3⟩ => by
      have : k = N := by omega
      subst this
      show L (n + 1) a.1 a.2 = _; rw [h2]; exact h0 n a.2 h3) N n (Int32.ofNat 0, s) hn ⟨0, by omega, rfl, i⟩
  have : k = N := by omega
  subst this
  exact ⟨a.2, e, ia⟩
end Jvm.PL
namespace Jvm.PL
open Jvm.AM
/-- the end test of a loop over a script -/
theorem len_lt {n k c : Nat} (hn : n ≤ 100000) (hk : k ≤ 100000) (hc : c ≤ 100000) : (n.toInt32 - Int32.ofNat c) < Int32.ofNat k ↔ n < k + c := by
  rw [Int32.lt_iff_toInt_lt, Int32.toInt_sub, show n.toInt32 = Int32.ofNat n from rfl, ofNat_toInt (by omega), ofNat_toInt (by omega), ofNat_toInt (by omega)]
  have : ((n : Int) - c).bmod (2 ^ 32) = n - c := by
    rw [Int.bmod_eq_of_le] <;> omega
  rw [this]; omega
/-- a loop over a script, c entries a turn: it ends in what every way out says -/
theorem run_script {A B : Type} (L : Nat → Int32 → A → B) (c len : Nat) (hc : 0 < c) (P : B → Prop) (I : Nat → A → Prop) (h : ∀ n k a, k + c ≤ len → I k a → P (L (n + 1) (Int32.ofNat k) a) ∨ ∃ a', L (n + 1) (Int32.ofNat k) a = L n (Int32.ofNat (k + c)) a' ∧ I (k + c) a') (h0 : ∀ n k a, k ≤ len → len < k + c → I k a → P (L (n + 1) (Int32.ofNat k) a)) : ∀ n k a, len < n + k → k ≤ len → I k a → P (L n (Int32.ofNat k) a)
  | 0, k, a, hn, hk, i => by omega
  | n + 1, k, a, hn, hk, i => by
    by_cases q : k + c ≤ len
    · rcases h n k a q i with p | ⟨a', e, i'⟩
      · exact p
      · rw [e]; exact run_script L c len hc P I h h0 n (k + c) a' (by omega) q i'
    · exact h0 n k a hk (by omega) i
theorem ix_some {A : Type} (l : List A) {k : Nat} (hk : k < 2147483648) (hl : k < l.length) : ∃ x, ix l (Int32.ofNat k) = some x := ⟨l[k], by rw [ix_ofNat _ hk, List.getElem?_eq_getElem hl]⟩
theorem ofNat_lit (a b : Nat) : Int32.ofNat a + (OfNat.ofNat b : Int32) = Int32.ofNat (a + b) := ofNat_add' a b
end Jvm.PL
namespace Jvm.PL
open Jvm.AM
theorem upd_same {A : Type} (g : Nat → A) (f : Nat) (a b : A) : upd (upd g f a) f b = upd g f b := by
  funext x; unfold upd; by_cases q : x = f <;> simp [q]
theorem upd_comm {A : Type} (g : Nat → A) {f h : Nat} (n : f ≠ h) (a b : A) : upd (upd g f a) h b = upd (upd g h b) f a := by
  funext x; unfold upd
  by_cases q : x = f
  · have : ¬ f = h := n
    simp [q, this]
  · by_cases r : x = h
    · rw [if_pos r, if_neg q, if_pos r]
    · rw [if_neg r, if_neg q, if_neg q, if_neg r]
theorem sA_same (s : S) (f : Nat) (a b : List Int32) : Jvm.AM.sA (Jvm.AM.sA s f a) f b = Jvm.AM.sA s f b := by
  unfold Jvm.AM.sA; simp only [upd_same]
theorem sA_comm (s : S) {f h : Nat} (n : f ≠ h) (a b : List Int32) : Jvm.AM.sA (Jvm.AM.sA s f a) h b = Jvm.AM.sA (Jvm.AM.sA s h b) f a := by
  unfold Jvm.AM.sA; simp only; rw [upd_comm _ n]
end Jvm.PL
/-! ## rows of bits -/
namespace Jvm.PL
open Jvm.AM Jvm.Free
def bt (w : Int32) (y : Nat) : Bool := w.toBitVec.getLsbD y
theorem bt_zero (y : Nat) : bt 0 y = false := by simp [bt]
theorem bt_or (a b : Int32) (y : Nat) : bt (a ||| b) y = (bt a y || bt b y) := by simp [bt]
theorem bt_and (a b : Int32) (y : Nat) : bt (a &&& b) y = (bt a y && bt b y) := by simp [bt]
theorem bt_ge (w : Int32) {y : Nat} (h : 32 ≤ y) : bt w y = false := by unfold bt; exact BitVec.getLsbD_of_ge _ _ h
theorem bt_m1 {y : Nat} (h : y < 32) : bt (-1) y = true := by
  unfold bt
  rw [show (-1 : Int32).toBitVec = BitVec.allOnes 32 from rfl, BitVec.getLsbD_allOnes]
  simp [h]
theorem bt_not (a : Int32) {y : Nat} (h : y < 32) : bt (a ^^^ (-1)) y = !bt a y := by
  have := bt_m1 h
  unfold bt at *
  rw [Int32.toBitVec_xor, BitVec.getLsbD_xor, this]; simp
theorem bt_andn (a b : Int32) (y : Nat) : bt (a &&& (b ^^^ (-1))) y = (bt a y && !bt b y) := by
  rw [bt_and]
  by_cases h : y < 32
  · rw [bt_not b h]
  · rw [bt_ge a (by omega)]; simp
theorem bt_ext {a b : Int32} (h : ∀ y, y < 32 → bt a y = bt b y) : a = b := by
  apply Int32.toBitVec_inj.mp
  apply BitVec.eq_of_getLsbD_eq
  intro i hi
  exact h i hi
theorem bt_eq0 {w : Int32} : w = 0 ↔ ∀ y, y < 32 → bt w y = false := by
  constructor
  · rintro rfl y _; exact bt_zero y
  · intro h; exact bt_ext fun y hy => by rw [h y hy, bt_zero]
theorem ushr_bit (w : Int32) {y : Nat} (hy : y < 32) : (XT.ushr w (Int32.ofNat y)).toBitVec = w.toBitVec >>> y := by
  unfold XT.ushr
  have h1 : ((Int32.ofNat y &&& 31).toUInt32.toBitVec).toNat = y := by
    show ((Int32.ofNat y &&& 31).toBitVec).toNat = y
    rw [Int32.toBitVec_and, BitVec.toNat_and]
    have e1 : (Int32.ofNat y).toBitVec.toNat = y := by
      show (BitVec.ofNat 32 y).toNat = y
      rw [BitVec.toNat_ofNat]; omega
    have e2 : (31 : Int32).toBitVec.toNat = 31 := rfl
    rw [e1, e2, show 31 = 2 ^ 5 - 1 from rfl, Nat.and_two_pow_sub_one_eq_mod]; omega
  show (w.toUInt32 >>> (Int32.ofNat y &&& 31).toUInt32).toBitVec = _
  rw [UInt32.toBitVec_shiftRight]
  show w.toBitVec >>> ((Int32.ofNat y &&& 31).toUInt32.toBitVec % 32) = _
  rw [BitVec.ushiftRight_eq']
  congr 1
  rw [BitVec.toNat_umod, h1]
  show y % 32 = y
  omega
theorem and1 (w : Int32) : (w &&& 1 = 0) ↔ bt w 0 = false := by
  constructor
  · intro h
    have : bt (w &&& 1) 0 = false := by rw [h, bt_zero]
    rw [bt_and] at this
    simpa [show bt 1 0 = true from rfl] using this
  · intro h
    refine bt_ext fun y hy => ?_
    rw [bt_and, bt_zero]
    cases y with
    | zero => rw [h]; rfl
    | succ y =>
      have : bt 1 (y + 1) = false := by
        unfold bt
        show (1#32).getLsbD (y + 1) = false
        simp [BitVec.getLsbD_one]
      rw [this]; simp
theorem test_bit (w : Int32) {y : Nat} (hy : y < 32) : (XT.ushr w (Int32.ofNat y) &&& 1 = 0) ↔ bt w y = false := by
  rw [and1]
  unfold bt
  rw [ushr_bit w hy]; simp
theorem shl_bit {b : Nat} (hb : b < 32) (y : Nat) : bt ((1 : Int32) <<< (Int32.ofNat b &&& 31)) y = decide (y = b) := by
  have h1 : (Int32.ofNat b &&& 31) = Int32.ofNat b := by
    apply Int32.toBitVec_inj.mp
    rw [Int32.toBitVec_and]
    apply BitVec.eq_of_toNat_eq
    rw [BitVec.toNat_and]
    have e1 : (Int32.ofNat b).toBitVec.toNat = b := by
      show (BitVec.ofNat 32 b).toNat = b
      rw [BitVec.toNat_ofNat]; omega
    have e2 : (31 : Int32).toBitVec.toNat = 31 := rfl
    rw [e1, e2, show 31 = 2 ^ 5 - 1 from rfl, Nat.and_two_pow_sub_one_eq_mod]; omega
  rw [h1]
  unfold bt
  have e : ((1 : Int32) <<< Int32.ofNat b).toBitVec = (1#32) <<< b := by
    rw [Int32.toBitVec_shiftLeft]
    show (1#32) <<< ((Int32.ofNat b).toBitVec.smod 32) = _
    have : (Int32.ofNat b).toBitVec.smod 32 = BitVec.ofNat 32 b := by
      have hz : ∀ b : Fin 32, (Int32.ofNat b.val).toBitVec.smod 32 = BitVec.ofNat 32 b.val := by decide
      exact hz ⟨b, hb⟩
    rw [this, BitVec.shiftLeft_eq']
    congr 1
    rw [BitVec.toNat_ofNat]; omega
  rw [e]
  simp only [BitVec.getLsbD_shiftLeft, BitVec.getLsbD_one]
  by_cases h : y = b
  · subst h; simp [hb]
  · simp [h]; omega
end Jvm.PL
namespace Jvm.Pilot.@@N@@
open Jvm Jvm.ClassFile Sem Op Lib Jvm.Free Jvm.Stand Jvm.LawKit Jvm.RoadKit Jvm.AM Jvm.PL Jvm.Pilot.@@N@@.Jvm.D
def ci1 : CI := ("LatticeEarley", 18, [("inf", "I", .int), ("nodeTotal", "I", .int), ("edgeTotal", "I", .int), ("ruleTotal", "I", .int), ("state", "I", .int), ("bestTotal", "I", .int)], [("edgeFrom", "[I", .int, 16), ("edgeTo", "[I", .int, 16), ("edgeLabel", "[I", .int, 16), ("edgeWeight", "[I", .int, 16), ("ruleHead", "[I", .int, 12), ("ruleWeight", "[I", .int, 12), ("ruleLength", "[I", .int, 12), ("ruleSym", "[I", .int, 36), ("span", "[I", .int, 1024), ("item", "[I", .int, 3072), ("rest", "[I", .int, 3072), ("outer", "[I", .int, 1024)])
def PP : PI := (tables_1, ci1)
def BIG : Nat := 1000000
def m0 : Meth := (⟨"LatticeEarley", "clampNodes", "(I)I"⟩, prog_1_method_16_code, 2, (some .int), { frames := 0, cells := 0, slots := 0, locals := 0 }, 1, false, 0, 0)
def m1 : Meth := (⟨"LatticeEarley", "becomeBuilding", "()V"⟩, prog_1_method_18_code, 1, none, { frames := 0, cells := 0, slots := 0, locals := 0 }, 1, false, 0, 0)
def m2 : Meth := (⟨"LatticeEarley", "clearStore", "()V"⟩, prog_1_method_17_code, 2, none, { frames := 1, cells := 0, slots := 0, locals := 12 }, 1, false, 0, 0)
def m3 : Meth := (⟨"LatticeEarley", "clearTables", "()V"⟩, prog_1_method_19_code, 2, none, { frames := 0, cells := 0, slots := 0, locals := 0 }, 1, false, 0, 0)
def m4 : Meth := (⟨"LatticeEarley", "<init>", "(I)V"⟩, prog_1_method_1_code, 2, none, { frames := 2, cells := 12, slots := 8328, locals := 25 }, 1, true, 1, 18)
def m5 : Meth := (⟨"LatticeEarley", "scanEdges", "()V"⟩, prog_1_method_45_code, 2, none, { frames := 0, cells := 0, slots := 0, locals := 0 }, 1, false, 0, 0)
def m6 : Meth := (⟨"LatticeEarley", "seedItems", "()V"⟩, prog_1_method_46_code, 3, none, { frames := 0, cells := 0, slots := 0, locals := 0 }, 1, false, 0, 0)
def m7 : Meth := (⟨"LatticeEarley", "insideRound", "(II)Z"⟩, prog_1_method_48_code, 5, (some .boolean), { frames := 0, cells := 0, slots := 0, locals := 0 }, 1, false, 0, 0)
def m8 : Meth := (⟨"LatticeEarley", "closeInsideCell", "(II)V"⟩, prog_1_method_47_code, 5, none, { frames := 1, cells := 0, slots := 0, locals := 16 }, 1, false, 0, 0)
def m9 : Meth := (⟨"LatticeEarley", "runInside", "()V"⟩, prog_1_method_44_code, 3, none, { frames := 2, cells := 0, slots := 0, locals := 32 }, 1, false, 0, 0)
def m10 : Meth := (⟨"LatticeEarley", "isCode", "(I)Z"⟩, prog_1_method_28_code, 2, (some .boolean), { frames := 0, cells := 0, slots := 0, locals := 0 }, 1, false, 0, 0)
def m11 : Meth := (⟨"LatticeEarley", "isNode", "(I)Z"⟩, prog_1_method_27_code, 2, (some .boolean), { frames := 0, cells := 0, slots := 0, locals := 0 }, 1, false, 0, 0)
def m12 : Meth := (⟨"LatticeEarley", "spanSlot", "(III)I"⟩, prog_1_method_31_code, 4, (some .int), { frames := 1, cells := 0, slots := 0, locals := 13 }, 1, false, 0, 0)
def m13 : Meth := (⟨"LatticeEarley", "getSpan", "(III)I"⟩, prog_1_method_33_code, 5, (some .int), { frames := 2, cells := 0, slots := 0, locals := 28 }, 1, false, 0, 0)
def m14 : Meth := (⟨"LatticeEarley", "parse", "()Z"⟩, prog_1_method_10_code, 3, (some .boolean), { frames := 3, cells := 0, slots := 0, locals := 46 }, 1, false, 0, 0)
def m15 : Meth := (⟨"LatticeEarley", "status", "()I"⟩, prog_1_method_11_code, 1, (some .int), { frames := 0, cells := 0, slots := 0, locals := 0 }, 1, false, 0, 0)
def m16 : Meth := (⟨"LatticeEarley", "inRange", "(III)Z"⟩, prog_1_method_20_code, 4, (some .boolean), { frames := 0, cells := 0, slots := 0, locals := 0 }, 1, false, 0, 0)
def m17 : Meth := (⟨"LatticeEarley", "edgeRefused", "(IIII)Z"⟩, prog_1_method_21_code, 5, (some .boolean), { frames := 1, cells := 0, slots := 0, locals := 15 }, 1, false, 0, 0)
def m18 : Meth := (⟨"LatticeEarley", "addEdge", "(IIII)I"⟩, prog_1_method_6_code, 6, (some .int), { frames := 2, cells := 0, slots := 0, locals := 31 }, 1, false, 0, 0)
def m19 : Meth := (⟨"LatticeEarley", "edgeCount", "()I"⟩, prog_1_method_4_code, 1, (some .int), { frames := 0, cells := 0, slots := 0, locals := 0 }, 1, false, 0, 0)
def m20 : Meth := (⟨"LatticeEarley", "edgeInfo", "(II)I"⟩, prog_1_method_8_code, 3, (some .int), { frames := 0, cells := 0, slots := 0, locals := 0 }, 1, false, 0, 0)
def m21 : Meth := (x, code, maxLocals, ret, room_1, 1, true, 0, 0)
theorem ar_0 : (cA PP.2)[0]? = some ("edgeFrom", "[I", .int, 16) := rfl
theorem ar_1 : (cA PP.2)[1]? = some ("edgeTo", "[I", .int, 16) := rfl
theorem ar_2 : (cA PP.2)[2]? = some ("edgeLabel", "[I", .int, 16) := rfl
theorem ar_3 : (cA PP.2)[3]? = some ("edgeWeight", "[I", .int, 16) := rfl
theorem ar_4 : (cA PP.2)[4]? = some ("ruleHead", "[I", .int, 12) := rfl
theorem ar_5 : (cA PP.2)[5]? = some ("ruleWeight", "[I", .int, 12) := rfl
theorem ar_6 : (cA PP.2)[6]? = some ("ruleLength", "[I", .int, 12) := rfl
theorem ar_7 : (cA PP.2)[7]? = some ("ruleSym", "[I", .int, 36) := rfl
theorem ar_8 : (cA PP.2)[8]? = some ("span", "[I", .int, 1024) := rfl
theorem ar_9 : (cA PP.2)[9]? = some ("item", "[I", .int, 3072) := rfl
theorem ar_10 : (cA PP.2)[10]? = some ("rest", "[I", .int, 3072) := rfl
theorem ar_11 : (cA PP.2)[11]? = some ("outer", "[I", .int, 1024) := rfl
theorem fs_8 : FldS PP 8 0 .int := ⟨_, _, rfl, List.mem_of_getElem? (i := 10) rfl⟩
theorem fa_14 : FldA PP 14 0 .int := ⟨_, _, _, rfl, List.mem_of_getElem? (i := 13) rfl⟩
theorem fa_18 : FldA PP 18 1 .int := ⟨_, _, _, rfl, List.mem_of_getElem? (i := 15) rfl⟩
theorem fa_21 : FldA PP 21 2 .int := ⟨_, _, _, rfl, List.mem_of_getElem? (i := 17) rfl⟩
theorem fa_24 : FldA PP 24 3 .int := ⟨_, _, _, rfl, List.mem_of_getElem? (i := 19) rfl⟩
theorem fa_27 : FldA PP 27 4 .int := ⟨_, _, _, rfl, List.mem_of_getElem? (i := 21) rfl⟩
theorem fa_30 : FldA PP 30 5 .int := ⟨_, _, _, rfl, List.mem_of_getElem? (i := 23) rfl⟩
theorem fa_33 : FldA PP 33 6 .int := ⟨_, _, _, rfl, List.mem_of_getElem? (i := 25) rfl⟩
theorem fa_36 : FldA PP 36 7 .int := ⟨_, _, _, rfl, List.mem_of_getElem? (i := 27) rfl⟩
theorem fa_39 : FldA PP 39 8 .int := ⟨_, _, _, rfl, List.mem_of_getElem? (i := 29) rfl⟩
theorem fa_42 : FldA PP 42 9 .int := ⟨_, _, _, rfl, List.mem_of_getElem? (i := 31) rfl⟩
theorem fa_45 : FldA PP 45 10 .int := ⟨_, _, _, rfl, List.mem_of_getElem? (i := 33) rfl⟩
theorem fa_48 : FldA PP 48 11 .int := ⟨_, _, _, rfl, List.mem_of_getElem? (i := 35) rfl⟩
theorem fs_55 : FldS PP 55 1 .int := ⟨_, _, rfl, List.mem_of_getElem? (i := 41) rfl⟩
theorem fs_64 : FldS PP 64 2 .int := ⟨_, _, rfl, List.mem_of_getElem? (i := 47) rfl⟩
theorem fs_67 : FldS PP 67 3 .int := ⟨_, _, rfl, List.mem_of_getElem? (i := 49) rfl⟩
theorem fs_95 : FldS PP 95 4 .int := ⟨_, _, rfl, List.mem_of_getElem? (i := 55) rfl⟩
theorem fs_98 : FldS PP 98 5 .int := ⟨_, _, rfl, List.mem_of_getElem? (i := 57) rfl⟩
theorem wr_0 (M : Meth) : Wrt PP M 0 := ⟨_, _, _, rfl, Or.inl (List.mem_of_getElem? (i := 11) rfl)⟩
theorem wr_1 (M : Meth) : Wrt PP M 1 := ⟨_, _, _, rfl, Or.inl (List.mem_of_getElem? (i := 42) rfl)⟩
theorem wr_2 (M : Meth) : Wrt PP M 2 := ⟨_, _, _, rfl, Or.inl (List.mem_of_getElem? (i := 48) rfl)⟩
theorem wr_3 (M : Meth) : Wrt PP M 3 := ⟨_, _, _, rfl, Or.inl (List.mem_of_getElem? (i := 50) rfl)⟩
theorem wr_4 (M : Meth) : Wrt PP M 4 := ⟨_, _, _, rfl, Or.inl (List.mem_of_getElem? (i := 56) rfl)⟩
theorem wr_5 (M : Meth) : Wrt PP M 5 := ⟨_, _, _, rfl, Or.inl (List.mem_of_getElem? (i := 58) rfl)⟩
theorem oid_0 : 1 = (cK PP.2 + 1) * 0 + 1 := rfl
theorem pl_0 : plainName "LatticeEarley" = true := by first | (simp [plainName, overriddenIn]; done) | decide +kernel
theorem pl_1 : plainName "LatticeEarleyL2" = true := by first | (simp [plainName, overriddenIn]; done) | decide +kernel
theorem hm_0 : (mY m0).cls = cN PP.2 := rfl
theorem hn_0 : 0 < mN m0 := by decide
theorem pd_0 : parseMethodDescriptor (mY m0).desc = some ⟨[.int], (some .int)⟩ := by decide +kernel
theorem hm_1 : (mY m1).cls = cN PP.2 := rfl
theorem hn_1 : 0 < mN m1 := by decide
theorem pd_1 : parseMethodDescriptor (mY m1).desc = some ⟨[], none⟩ := by decide +kernel
theorem hm_2 : (mY m2).cls = cN PP.2 := rfl
theorem hn_2 : 0 < mN m2 := by decide
theorem pd_2 : parseMethodDescriptor (mY m2).desc = some ⟨[], none⟩ := by decide +kernel
theorem hm_3 : (mY m3).cls = cN PP.2 := rfl
theorem hn_3 : 0 < mN m3 := by decide
theorem pd_3 : parseMethodDescriptor (mY m3).desc = some ⟨[], none⟩ := by decide +kernel
theorem hm_4 : (mY m4).cls = cN PP.2 := rfl
theorem hn_4 : 0 < mN m4 := by decide
theorem pd_4 : parseMethodDescriptor (mY m4).desc = some ⟨[.int], none⟩ := by decide +kernel
theorem hm_5 : (mY m5).cls = cN PP.2 := rfl
theorem hn_5 : 0 < mN m5 := by decide
theorem pd_5 : parseMethodDescriptor (mY m5).desc = some ⟨[], none⟩ := by decide +kernel
theorem hm_6 : (mY m6).cls = cN PP.2 := rfl
theorem hn_6 : 0 < mN m6 := by decide
theorem pd_6 : parseMethodDescriptor (mY m6).desc = some ⟨[], none⟩ := by decide +kernel
theorem hm_7 : (mY m7).cls = cN PP.2 := rfl
theorem hn_7 : 0 < mN m7 := by decide
theorem pd_7 : parseMethodDescriptor (mY m7).desc = some ⟨[.int, .int], (some .boolean)⟩ := by decide +kernel
theorem hm_8 : (mY m8).cls = cN PP.2 := rfl
theorem hn_8 : 0 < mN m8 := by decide
theorem pd_8 : parseMethodDescriptor (mY m8).desc = some ⟨[.int, .int], none⟩ := by decide +kernel
theorem hm_9 : (mY m9).cls = cN PP.2 := rfl
theorem hn_9 : 0 < mN m9 := by decide
theorem pd_9 : parseMethodDescriptor (mY m9).desc = some ⟨[], none⟩ := by decide +kernel
theorem hm_10 : (mY m10).cls = cN PP.2 := rfl
theorem hn_10 : 0 < mN m10 := by decide
theorem pd_10 : parseMethodDescriptor (mY m10).desc = some ⟨[.int], (some .boolean)⟩ := by decide +kernel
theorem hm_11 : (mY m11).cls = cN PP.2 := rfl
theorem hn_11 : 0 < mN m11 := by decide
theorem pd_11 : parseMethodDescriptor (mY m11).desc = some ⟨[.int], (some .boolean)⟩ := by decide +kernel
theorem hm_12 : (mY m12).cls = cN PP.2 := rfl
theorem hn_12 : 0 < mN m12 := by decide
theorem pd_12 : parseMethodDescriptor (mY m12).desc = some ⟨[.int, .int, .int], (some .int)⟩ := by decide +kernel
theorem hm_13 : (mY m13).cls = cN PP.2 := rfl
theorem hn_13 : 0 < mN m13 := by decide
theorem pd_13 : parseMethodDescriptor (mY m13).desc = some ⟨[.int, .int, .int], (some .int)⟩ := by decide +kernel
theorem hm_14 : (mY m14).cls = cN PP.2 := rfl
theorem hn_14 : 0 < mN m14 := by decide
theorem pd_14 : parseMethodDescriptor (mY m14).desc = some ⟨[], (some .boolean)⟩ := by decide +kernel
theorem hm_15 : (mY m15).cls = cN PP.2 := rfl
theorem hn_15 : 0 < mN m15 := by decide
theorem pd_15 : parseMethodDescriptor (mY m15).desc = some ⟨[], (some .int)⟩ := by decide +kernel
theorem hm_16 : (mY m16).cls = cN PP.2 := rfl
theorem hn_16 : 0 < mN m16 := by decide
theorem pd_16 : parseMethodDescriptor (mY m16).desc = some ⟨[.int, .int, .int], (some .boolean)⟩ := by decide +kernel
theorem hm_17 : (mY m17).cls = cN PP.2 := rfl
theorem hn_17 : 0 < mN m17 := by decide
theorem pd_17 : parseMethodDescriptor (mY m17).desc = some ⟨[.int, .int, .int, .int], (some .boolean)⟩ := by decide +kernel
theorem hm_18 : (mY m18).cls = cN PP.2 := rfl
theorem hn_18 : 0 < mN m18 := by decide
theorem pd_18 : parseMethodDescriptor (mY m18).desc = some ⟨[.int, .int, .int, .int], (some .int)⟩ := by decide +kernel
theorem hm_19 : (mY m19).cls = cN PP.2 := rfl
theorem hn_19 : 0 < mN m19 := by decide
theorem pd_19 : parseMethodDescriptor (mY m19).desc = some ⟨[], (some .int)⟩ := by decide +kernel
theorem hm_20 : (mY m20).cls = cN PP.2 := rfl
theorem hn_20 : 0 < mN m20 := by decide
theorem pd_20 : parseMethodDescriptor (mY m20).desc = some ⟨[.int, .int], (some .int)⟩ := by decide +kernel
theorem hn_21 : 0 < mN m21 := by decide
theorem d0_0 : decode (mB m0) 0 = .ok (.iload_n 1, 1) := by decide +kernel
theorem d0_1 : decode (mB m0) 1 = .ok (.iconst 2, 1) := by decide +kernel
theorem d0_2 : decode (mB m0) 2 = .ok (.if_icmp .ge 5, 3) := by decide +kernel
theorem d0_5 : decode (mB m0) 5 = .ok (.iconst 2, 1) := by decide +kernel
theorem d0_6 : decode (mB m0) 6 = .ok (.ireturn, 1) := by decide +kernel
theorem d0_7 : decode (mB m0) 7 = .ok (.iload_n 1, 1) := by decide +kernel
theorem d0_8 : decode (mB m0) 8 = .ok (.bipush 8, 2) := by decide +kernel
theorem d0_10 : decode (mB m0) 10 = .ok (.if_icmp .le 6, 3) := by decide +kernel
theorem d0_13 : decode (mB m0) 13 = .ok (.bipush 8, 2) := by decide +kernel
theorem d0_15 : decode (mB m0) 15 = .ok (.ireturn, 1) := by decide +kernel
theorem d0_16 : decode (mB m0) 16 = .ok (.iload_n 1, 1) := by decide +kernel
theorem d0_17 : decode (mB m0) 17 = .ok (.ireturn, 1) := by decide +kernel
theorem d1_0 : decode (mB m1) 0 = .ok (.aload_n 0, 1) := by decide +kernel
theorem d1_1 : decode (mB m1) 1 = .ok (.iconst 0, 1) := by decide +kernel
theorem d1_2 : decode (mB m1) 2 = .ok (.putfield 95, 3) := by decide +kernel
theorem d1_5 : decode (mB m1) 5 = .ok (.aload_n 0, 1) := by decide +kernel
theorem d1_6 : decode (mB m1) 6 = .ok (.iconst (-1), 1) := by decide +kernel
theorem d1_7 : decode (mB m1) 7 = .ok (.putfield 98, 3) := by decide +kernel
theorem d1_10 : decode (mB m1) 10 = .ok (.return_, 1) := by decide +kernel
theorem d2_0 : decode (mB m2) 0 = .ok (.aload_n 0, 1) := by decide +kernel
theorem d2_1 : decode (mB m2) 1 = .ok (.iconst 0, 1) := by decide +kernel
theorem d2_2 : decode (mB m2) 2 = .ok (.putfield 64, 3) := by decide +kernel
theorem d2_5 : decode (mB m2) 5 = .ok (.aload_n 0, 1) := by decide +kernel
theorem d2_6 : decode (mB m2) 6 = .ok (.iconst 0, 1) := by decide +kernel
theorem d2_7 : decode (mB m2) 7 = .ok (.putfield 67, 3) := by decide +kernel
theorem d2_10 : decode (mB m2) 10 = .ok (.aload_n 0, 1) := by decide +kernel
theorem d2_11 : decode (mB m2) 11 = .ok (.invokevirtual 74, 3) := by decide +kernel
theorem d2_14 : decode (mB m2) 14 = .ok (.iconst 0, 1) := by decide +kernel
theorem d2_15 : decode (mB m2) 15 = .ok (.istore_n 1, 1) := by decide +kernel
theorem d2_16 : decode (mB m2) 16 = .ok (.iload_n 1, 1) := by decide +kernel
theorem d2_17 : decode (mB m2) 17 = .ok (.bipush 16, 2) := by decide +kernel
theorem d2_19 : decode (mB m2) 19 = .ok (.if_icmp .ge 37, 3) := by decide +kernel
theorem d2_22 : decode (mB m2) 22 = .ok (.aload_n 0, 1) := by decide +kernel
theorem d2_23 : decode (mB m2) 23 = .ok (.getfield 14, 3) := by decide +kernel
theorem d2_26 : decode (mB m2) 26 = .ok (.iload_n 1, 1) := by decide +kernel
theorem d2_27 : decode (mB m2) 27 = .ok (.iconst 0, 1) := by decide +kernel
theorem d2_28 : decode (mB m2) 28 = .ok (.iastore, 1) := by decide +kernel
theorem d2_29 : decode (mB m2) 29 = .ok (.aload_n 0, 1) := by decide +kernel
theorem d2_30 : decode (mB m2) 30 = .ok (.getfield 18, 3) := by decide +kernel
theorem d2_33 : decode (mB m2) 33 = .ok (.iload_n 1, 1) := by decide +kernel
theorem d2_34 : decode (mB m2) 34 = .ok (.iconst 0, 1) := by decide +kernel
theorem d2_35 : decode (mB m2) 35 = .ok (.iastore, 1) := by decide +kernel
theorem d2_36 : decode (mB m2) 36 = .ok (.aload_n 0, 1) := by decide +kernel
theorem d2_37 : decode (mB m2) 37 = .ok (.getfield 21, 3) := by decide +kernel
theorem d2_40 : decode (mB m2) 40 = .ok (.iload_n 1, 1) := by decide +kernel
theorem d2_41 : decode (mB m2) 41 = .ok (.iconst 0, 1) := by decide +kernel
theorem d2_42 : decode (mB m2) 42 = .ok (.iastore, 1) := by decide +kernel
theorem d2_43 : decode (mB m2) 43 = .ok (.aload_n 0, 1) := by decide +kernel
theorem d2_44 : decode (mB m2) 44 = .ok (.getfield 24, 3) := by decide +kernel
theorem d2_47 : decode (mB m2) 47 = .ok (.iload_n 1, 1) := by decide +kernel
theorem d2_48 : decode (mB m2) 48 = .ok (.iconst 0, 1) := by decide +kernel
theorem d2_49 : decode (mB m2) 49 = .ok (.iastore, 1) := by decide +kernel
theorem d2_50 : decode (mB m2) 50 = .ok (.iinc 1 1, 3) := by decide +kernel
theorem d2_53 : decode (mB m2) 53 = .ok (.goto (-37), 3) := by decide +kernel
theorem d2_56 : decode (mB m2) 56 = .ok (.iconst 0, 1) := by decide +kernel
theorem d2_57 : decode (mB m2) 57 = .ok (.istore_n 1, 1) := by decide +kernel
theorem d2_58 : decode (mB m2) 58 = .ok (.iload_n 1, 1) := by decide +kernel
theorem d2_59 : decode (mB m2) 59 = .ok (.bipush 12, 2) := by decide +kernel
theorem d2_61 : decode (mB m2) 61 = .ok (.if_icmp .ge 30, 3) := by decide +kernel
theorem d2_64 : decode (mB m2) 64 = .ok (.aload_n 0, 1) := by decide +kernel
theorem d2_65 : decode (mB m2) 65 = .ok (.getfield 27, 3) := by decide +kernel
theorem d2_68 : decode (mB m2) 68 = .ok (.iload_n 1, 1) := by decide +kernel
theorem d2_69 : decode (mB m2) 69 = .ok (.iconst 0, 1) := by decide +kernel
theorem d2_70 : decode (mB m2) 70 = .ok (.iastore, 1) := by decide +kernel
theorem d2_71 : decode (mB m2) 71 = .ok (.aload_n 0, 1) := by decide +kernel
theorem d2_72 : decode (mB m2) 72 = .ok (.getfield 30, 3) := by decide +kernel
theorem d2_75 : decode (mB m2) 75 = .ok (.iload_n 1, 1) := by decide +kernel
theorem d2_76 : decode (mB m2) 76 = .ok (.iconst 0, 1) := by decide +kernel
theorem d2_77 : decode (mB m2) 77 = .ok (.iastore, 1) := by decide +kernel
theorem d2_78 : decode (mB m2) 78 = .ok (.aload_n 0, 1) := by decide +kernel
theorem d2_79 : decode (mB m2) 79 = .ok (.getfield 33, 3) := by decide +kernel
theorem d2_82 : decode (mB m2) 82 = .ok (.iload_n 1, 1) := by decide +kernel
theorem d2_83 : decode (mB m2) 83 = .ok (.iconst 0, 1) := by decide +kernel
theorem d2_84 : decode (mB m2) 84 = .ok (.iastore, 1) := by decide +kernel
theorem d2_85 : decode (mB m2) 85 = .ok (.iinc 1 1, 3) := by decide +kernel
theorem d2_88 : decode (mB m2) 88 = .ok (.goto (-30), 3) := by decide +kernel
theorem d2_91 : decode (mB m2) 91 = .ok (.iconst 0, 1) := by decide +kernel
theorem d2_92 : decode (mB m2) 92 = .ok (.istore_n 1, 1) := by decide +kernel
theorem d2_93 : decode (mB m2) 93 = .ok (.iload_n 1, 1) := by decide +kernel
theorem d2_94 : decode (mB m2) 94 = .ok (.bipush 36, 2) := by decide +kernel
theorem d2_96 : decode (mB m2) 96 = .ok (.if_icmp .ge 16, 3) := by decide +kernel
theorem d2_99 : decode (mB m2) 99 = .ok (.aload_n 0, 1) := by decide +kernel
theorem d2_100 : decode (mB m2) 100 = .ok (.getfield 36, 3) := by decide +kernel
theorem d2_103 : decode (mB m2) 103 = .ok (.iload_n 1, 1) := by decide +kernel
theorem d2_104 : decode (mB m2) 104 = .ok (.iconst 0, 1) := by decide +kernel
theorem d2_105 : decode (mB m2) 105 = .ok (.iastore, 1) := by decide +kernel
theorem d2_106 : decode (mB m2) 106 = .ok (.iinc 1 1, 3) := by decide +kernel
theorem d2_109 : decode (mB m2) 109 = .ok (.goto (-16), 3) := by decide +kernel
theorem d2_112 : decode (mB m2) 112 = .ok (.return_, 1) := by decide +kernel
theorem d3_0 : decode (mB m3) 0 = .ok (.iconst 0, 1) := by decide +kernel
theorem d3_1 : decode (mB m3) 1 = .ok (.istore_n 1, 1) := by decide +kernel
theorem d3_2 : decode (mB m3) 2 = .ok (.iload_n 1, 1) := by decide +kernel
theorem d3_3 : decode (mB m3) 3 = .ok (.sipush 1024, 3) := by decide +kernel
theorem d3_6 : decode (mB m3) 6 = .ok (.if_icmp .ge 29, 3) := by decide +kernel
theorem d3_9 : decode (mB m3) 9 = .ok (.aload_n 0, 1) := by decide +kernel
theorem d3_10 : decode (mB m3) 10 = .ok (.getfield 39, 3) := by decide +kernel
theorem d3_13 : decode (mB m3) 13 = .ok (.iload_n 1, 1) := by decide +kernel
theorem d3_14 : decode (mB m3) 14 = .ok (.aload_n 0, 1) := by decide +kernel
theorem d3_15 : decode (mB m3) 15 = .ok (.getfield 8, 3) := by decide +kernel
theorem d3_18 : decode (mB m3) 18 = .ok (.iastore, 1) := by decide +kernel
theorem d3_19 : decode (mB m3) 19 = .ok (.aload_n 0, 1) := by decide +kernel
theorem d3_20 : decode (mB m3) 20 = .ok (.getfield 48, 3) := by decide +kernel
theorem d3_23 : decode (mB m3) 23 = .ok (.iload_n 1, 1) := by decide +kernel
theorem d3_24 : decode (mB m3) 24 = .ok (.aload_n 0, 1) := by decide +kernel
theorem d3_25 : decode (mB m3) 25 = .ok (.getfield 8, 3) := by decide +kernel
theorem d3_28 : decode (mB m3) 28 = .ok (.iastore, 1) := by decide +kernel
theorem d3_29 : decode (mB m3) 29 = .ok (.iinc 1 1, 3) := by decide +kernel
theorem d3_32 : decode (mB m3) 32 = .ok (.goto (-30), 3) := by decide +kernel
theorem d3_35 : decode (mB m3) 35 = .ok (.iconst 0, 1) := by decide +kernel
theorem d3_36 : decode (mB m3) 36 = .ok (.istore_n 1, 1) := by decide +kernel
theorem d3_37 : decode (mB m3) 37 = .ok (.iload_n 1, 1) := by decide +kernel
theorem d3_38 : decode (mB m3) 38 = .ok (.sipush 3072, 3) := by decide +kernel
theorem d3_41 : decode (mB m3) 41 = .ok (.if_icmp .ge 29, 3) := by decide +kernel
theorem d3_44 : decode (mB m3) 44 = .ok (.aload_n 0, 1) := by decide +kernel
theorem d3_45 : decode (mB m3) 45 = .ok (.getfield 42, 3) := by decide +kernel
theorem d3_48 : decode (mB m3) 48 = .ok (.iload_n 1, 1) := by decide +kernel
theorem d3_49 : decode (mB m3) 49 = .ok (.aload_n 0, 1) := by decide +kernel
theorem d3_50 : decode (mB m3) 50 = .ok (.getfield 8, 3) := by decide +kernel
theorem d3_53 : decode (mB m3) 53 = .ok (.iastore, 1) := by decide +kernel
theorem d3_54 : decode (mB m3) 54 = .ok (.aload_n 0, 1) := by decide +kernel
theorem d3_55 : decode (mB m3) 55 = .ok (.getfield 45, 3) := by decide +kernel
theorem d3_58 : decode (mB m3) 58 = .ok (.iload_n 1, 1) := by decide +kernel
theorem d3_59 : decode (mB m3) 59 = .ok (.aload_n 0, 1) := by decide +kernel
theorem d3_60 : decode (mB m3) 60 = .ok (.getfield 8, 3) := by decide +kernel
theorem d3_63 : decode (mB m3) 63 = .ok (.iastore, 1) := by decide +kernel
theorem d3_64 : decode (mB m3) 64 = .ok (.iinc 1 1, 3) := by decide +kernel
theorem d3_67 : decode (mB m3) 67 = .ok (.goto (-30), 3) := by decide +kernel
theorem d3_70 : decode (mB m3) 70 = .ok (.return_, 1) := by decide +kernel
theorem d4_0 : decode (mB m4) 0 = .ok (.aload_n 0, 1) := by decide +kernel
theorem d4_1 : decode (mB m4) 1 = .ok (.invokespecial 1, 3) := by decide +kernel
theorem d4_4 : decode (mB m4) 4 = .ok (.aload_n 0, 1) := by decide +kernel
theorem d4_5 : decode (mB m4) 5 = .ok (.ldc 7, 2) := by decide +kernel
theorem d4_7 : decode (mB m4) 7 = .ok (.putfield 8, 3) := by decide +kernel
theorem d4_10 : decode (mB m4) 10 = .ok (.aload_n 0, 1) := by decide +kernel
theorem d4_11 : decode (mB m4) 11 = .ok (.bipush 16, 2) := by decide +kernel
theorem d4_13 : decode (mB m4) 13 = .ok (.newarray .int, 2) := by decide +kernel
theorem d4_15 : decode (mB m4) 15 = .ok (.putfield 14, 3) := by decide +kernel
theorem d4_18 : decode (mB m4) 18 = .ok (.aload_n 0, 1) := by decide +kernel
theorem d4_19 : decode (mB m4) 19 = .ok (.bipush 16, 2) := by decide +kernel
theorem d4_21 : decode (mB m4) 21 = .ok (.newarray .int, 2) := by decide +kernel
theorem d4_23 : decode (mB m4) 23 = .ok (.putfield 18, 3) := by decide +kernel
theorem d4_26 : decode (mB m4) 26 = .ok (.aload_n 0, 1) := by decide +kernel
theorem d4_27 : decode (mB m4) 27 = .ok (.bipush 16, 2) := by decide +kernel
theorem d4_29 : decode (mB m4) 29 = .ok (.newarray .int, 2) := by decide +kernel
theorem d4_31 : decode (mB m4) 31 = .ok (.putfield 21, 3) := by decide +kernel
theorem d4_34 : decode (mB m4) 34 = .ok (.aload_n 0, 1) := by decide +kernel
theorem d4_35 : decode (mB m4) 35 = .ok (.bipush 16, 2) := by decide +kernel
theorem d4_37 : decode (mB m4) 37 = .ok (.newarray .int, 2) := by decide +kernel
theorem d4_39 : decode (mB m4) 39 = .ok (.putfield 24, 3) := by decide +kernel
theorem d4_42 : decode (mB m4) 42 = .ok (.aload_n 0, 1) := by decide +kernel
theorem d4_43 : decode (mB m4) 43 = .ok (.bipush 12, 2) := by decide +kernel
theorem d4_45 : decode (mB m4) 45 = .ok (.newarray .int, 2) := by decide +kernel
theorem d4_47 : decode (mB m4) 47 = .ok (.putfield 27, 3) := by decide +kernel
theorem d4_50 : decode (mB m4) 50 = .ok (.aload_n 0, 1) := by decide +kernel
theorem d4_51 : decode (mB m4) 51 = .ok (.bipush 12, 2) := by decide +kernel
theorem d4_53 : decode (mB m4) 53 = .ok (.newarray .int, 2) := by decide +kernel
theorem d4_55 : decode (mB m4) 55 = .ok (.putfield 30, 3) := by decide +kernel
theorem d4_58 : decode (mB m4) 58 = .ok (.aload_n 0, 1) := by decide +kernel
theorem d4_59 : decode (mB m4) 59 = .ok (.bipush 12, 2) := by decide +kernel
theorem d4_61 : decode (mB m4) 61 = .ok (.newarray .int, 2) := by decide +kernel
theorem d4_63 : decode (mB m4) 63 = .ok (.putfield 33, 3) := by decide +kernel
theorem d4_66 : decode (mB m4) 66 = .ok (.aload_n 0, 1) := by decide +kernel
theorem d4_67 : decode (mB m4) 67 = .ok (.bipush 36, 2) := by decide +kernel
theorem d4_69 : decode (mB m4) 69 = .ok (.newarray .int, 2) := by decide +kernel
theorem d4_71 : decode (mB m4) 71 = .ok (.putfield 36, 3) := by decide +kernel
theorem d4_74 : decode (mB m4) 74 = .ok (.aload_n 0, 1) := by decide +kernel
theorem d4_75 : decode (mB m4) 75 = .ok (.sipush 1024, 3) := by decide +kernel
theorem d4_78 : decode (mB m4) 78 = .ok (.newarray .int, 2) := by decide +kernel
theorem d4_80 : decode (mB m4) 80 = .ok (.putfield 39, 3) := by decide +kernel
theorem d4_83 : decode (mB m4) 83 = .ok (.aload_n 0, 1) := by decide +kernel
theorem d4_84 : decode (mB m4) 84 = .ok (.sipush 3072, 3) := by decide +kernel
theorem d4_87 : decode (mB m4) 87 = .ok (.newarray .int, 2) := by decide +kernel
theorem d4_89 : decode (mB m4) 89 = .ok (.putfield 42, 3) := by decide +kernel
theorem d4_92 : decode (mB m4) 92 = .ok (.aload_n 0, 1) := by decide +kernel
theorem d4_93 : decode (mB m4) 93 = .ok (.sipush 3072, 3) := by decide +kernel
theorem d4_96 : decode (mB m4) 96 = .ok (.newarray .int, 2) := by decide +kernel
theorem d4_98 : decode (mB m4) 98 = .ok (.putfield 45, 3) := by decide +kernel
theorem d4_101 : decode (mB m4) 101 = .ok (.aload_n 0, 1) := by decide +kernel
theorem d4_102 : decode (mB m4) 102 = .ok (.sipush 1024, 3) := by decide +kernel
theorem d4_105 : decode (mB m4) 105 = .ok (.newarray .int, 2) := by decide +kernel
theorem d4_107 : decode (mB m4) 107 = .ok (.putfield 48, 3) := by decide +kernel
theorem d4_110 : decode (mB m4) 110 = .ok (.aload_n 0, 1) := by decide +kernel
theorem d4_111 : decode (mB m4) 111 = .ok (.aload_n 0, 1) := by decide +kernel
theorem d4_112 : decode (mB m4) 112 = .ok (.iload_n 1, 1) := by decide +kernel
theorem d4_113 : decode (mB m4) 113 = .ok (.invokevirtual 51, 3) := by decide +kernel
theorem d4_116 : decode (mB m4) 116 = .ok (.putfield 55, 3) := by decide +kernel
theorem d4_119 : decode (mB m4) 119 = .ok (.aload_n 0, 1) := by decide +kernel
theorem d4_120 : decode (mB m4) 120 = .ok (.invokevirtual 58, 3) := by decide +kernel
theorem d4_123 : decode (mB m4) 123 = .ok (.aload_n 0, 1) := by decide +kernel
theorem d4_124 : decode (mB m4) 124 = .ok (.invokevirtual 61, 3) := by decide +kernel
theorem d4_127 : decode (mB m4) 127 = .ok (.return_, 1) := by decide +kernel
theorem d5_0 : decode (mB m5) 0 = .ok (.iconst 0, 1) := by decide +kernel
theorem d5_1 : decode (mB m5) 1 = .ok (.istore_n 1, 1) := by decide +kernel
theorem d5_2 : decode (mB m5) 2 = .ok (.iload_n 1, 1) := by decide +kernel
theorem d5_3 : decode (mB m5) 3 = .ok (.aload_n 0, 1) := by decide +kernel
theorem d5_4 : decode (mB m5) 4 = .ok (.getfield 64, 3) := by decide +kernel
theorem d5_7 : decode (mB m5) 7 = .ok (.if_icmp .ge 38, 3) := by decide +kernel
theorem d5_10 : decode (mB m5) 10 = .ok (.aload_n 0, 1) := by decide +kernel
theorem d5_11 : decode (mB m5) 11 = .ok (.aload_n 0, 1) := by decide +kernel
theorem d5_12 : decode (mB m5) 12 = .ok (.getfield 21, 3) := by decide +kernel
theorem d5_15 : decode (mB m5) 15 = .ok (.iload_n 1, 1) := by decide +kernel
theorem d5_16 : decode (mB m5) 16 = .ok (.iaload, 1) := by decide +kernel
theorem d5_17 : decode (mB m5) 17 = .ok (.aload_n 0, 1) := by decide +kernel
theorem d5_18 : decode (mB m5) 18 = .ok (.getfield 14, 3) := by decide +kernel
theorem d5_21 : decode (mB m5) 21 = .ok (.iload_n 1, 1) := by decide +kernel
theorem d5_22 : decode (mB m5) 22 = .ok (.iaload, 1) := by decide +kernel
theorem d5_23 : decode (mB m5) 23 = .ok (.aload_n 0, 1) := by decide +kernel
theorem d5_24 : decode (mB m5) 24 = .ok (.getfield 18, 3) := by decide +kernel
theorem d5_27 : decode (mB m5) 27 = .ok (.iload_n 1, 1) := by decide +kernel
theorem d5_28 : decode (mB m5) 28 = .ok (.iaload, 1) := by decide +kernel
theorem d5_29 : decode (mB m5) 29 = .ok (.aload_n 0, 1) := by decide +kernel
theorem d5_30 : decode (mB m5) 30 = .ok (.getfield 24, 3) := by decide +kernel
theorem d5_33 : decode (mB m5) 33 = .ok (.iload_n 1, 1) := by decide +kernel
theorem d5_34 : decode (mB m5) 34 = .ok (.iaload, 1) := by decide +kernel
theorem d5_45 : decode (mB m5) 45 = .ok (.return_, 1) := by decide +kernel
theorem d6_0 : decode (mB m6) 0 = .ok (.iconst 0, 1) := by decide +kernel
theorem d6_1 : decode (mB m6) 1 = .ok (.istore_n 1, 1) := by decide +kernel
theorem d6_2 : decode (mB m6) 2 = .ok (.iload_n 1, 1) := by decide +kernel
theorem d6_3 : decode (mB m6) 3 = .ok (.aload_n 0, 1) := by decide +kernel
theorem d6_4 : decode (mB m6) 4 = .ok (.getfield 67, 3) := by decide +kernel
theorem d6_7 : decode (mB m6) 7 = .ok (.if_icmp .ge 40, 3) := by decide +kernel
theorem d6_10 : decode (mB m6) 10 = .ok (.iconst 0, 1) := by decide +kernel
theorem d6_11 : decode (mB m6) 11 = .ok (.istore_n 2, 1) := by decide +kernel
theorem d6_12 : decode (mB m6) 12 = .ok (.iload_n 2, 1) := by decide +kernel
theorem d6_13 : decode (mB m6) 13 = .ok (.aload_n 0, 1) := by decide +kernel
theorem d6_14 : decode (mB m6) 14 = .ok (.getfield 55, 3) := by decide +kernel
theorem d6_17 : decode (mB m6) 17 = .ok (.if_icmp .ge 24, 3) := by decide +kernel
theorem d6_20 : decode (mB m6) 20 = .ok (.aload_n 0, 1) := by decide +kernel
theorem d6_21 : decode (mB m6) 21 = .ok (.iload_n 1, 1) := by decide +kernel
theorem d6_22 : decode (mB m6) 22 = .ok (.iconst 0, 1) := by decide +kernel
theorem d6_23 : decode (mB m6) 23 = .ok (.iload_n 2, 1) := by decide +kernel
theorem d6_24 : decode (mB m6) 24 = .ok (.iload_n 2, 1) := by decide +kernel
theorem d6_25 : decode (mB m6) 25 = .ok (.aload_n 0, 1) := by decide +kernel
theorem d6_26 : decode (mB m6) 26 = .ok (.getfield 30, 3) := by decide +kernel
theorem d6_29 : decode (mB m6) 29 = .ok (.iload_n 1, 1) := by decide +kernel
theorem d6_30 : decode (mB m6) 30 = .ok (.iaload, 1) := by decide +kernel
theorem d6_41 : decode (mB m6) 41 = .ok (.iinc 1 1, 3) := by decide +kernel
theorem d6_44 : decode (mB m6) 44 = .ok (.goto (-42), 3) := by decide +kernel
theorem d6_47 : decode (mB m6) 47 = .ok (.return_, 1) := by decide +kernel
theorem d7_0 : decode (mB m7) 0 = .ok (.iconst 0, 1) := by decide +kernel
theorem d7_1 : decode (mB m7) 1 = .ok (.istore_n 3, 1) := by decide +kernel
theorem d7_2 : decode (mB m7) 2 = .ok (.iconst 0, 1) := by decide +kernel
theorem d7_3 : decode (mB m7) 3 = .ok (.istore 4, 2) := by decide +kernel
theorem d7_5 : decode (mB m7) 5 = .ok (.iload 4, 2) := by decide +kernel
theorem d7_7 : decode (mB m7) 7 = .ok (.aload_n 0, 1) := by decide +kernel
theorem d7_8 : decode (mB m7) 8 = .ok (.getfield 67, 3) := by decide +kernel
theorem d7_11 : decode (mB m7) 11 = .ok (.if_icmp .ge 35, 3) := by decide +kernel
theorem d7_14 : decode (mB m7) 14 = .ok (.aload_n 0, 1) := by decide +kernel
theorem d7_15 : decode (mB m7) 15 = .ok (.iload 4, 2) := by decide +kernel
theorem d7_17 : decode (mB m7) 17 = .ok (.iload_n 1, 1) := by decide +kernel
theorem d7_18 : decode (mB m7) 18 = .ok (.iload_n 2, 1) := by decide +kernel
theorem d7_46 : decode (mB m7) 46 = .ok (.iload_n 3, 1) := by decide +kernel
theorem d7_47 : decode (mB m7) 47 = .ok (.ireturn, 1) := by decide +kernel
theorem d8_0 : decode (mB m8) 0 = .ok (.iconst 1, 1) := by decide +kernel
theorem d8_1 : decode (mB m8) 1 = .ok (.istore_n 3, 1) := by decide +kernel
theorem d8_2 : decode (mB m8) 2 = .ok (.iconst 0, 1) := by decide +kernel
theorem d8_3 : decode (mB m8) 3 = .ok (.istore 4, 2) := by decide +kernel
theorem d8_5 : decode (mB m8) 5 = .ok (.iload_n 3, 1) := by decide +kernel
theorem d8_6 : decode (mB m8) 6 = .ok (.ifCond .eq 23, 3) := by decide +kernel
theorem d8_9 : decode (mB m8) 9 = .ok (.iload 4, 2) := by decide +kernel
theorem d8_11 : decode (mB m8) 11 = .ok (.bipush 24, 2) := by decide +kernel
theorem d8_13 : decode (mB m8) 13 = .ok (.if_icmp .ge 16, 3) := by decide +kernel
theorem d8_16 : decode (mB m8) 16 = .ok (.aload_n 0, 1) := by decide +kernel
theorem d8_17 : decode (mB m8) 17 = .ok (.iload_n 1, 1) := by decide +kernel
theorem d8_18 : decode (mB m8) 18 = .ok (.iload_n 2, 1) := by decide +kernel
theorem d8_19 : decode (mB m8) 19 = .ok (.invokevirtual 163, 3) := by decide +kernel
theorem d8_22 : decode (mB m8) 22 = .ok (.istore_n 3, 1) := by decide +kernel
theorem d8_23 : decode (mB m8) 23 = .ok (.iinc 4 1, 3) := by decide +kernel
theorem d8_26 : decode (mB m8) 26 = .ok (.goto (-21), 3) := by decide +kernel
theorem d8_29 : decode (mB m8) 29 = .ok (.return_, 1) := by decide +kernel
theorem d9_0 : decode (mB m9) 0 = .ok (.aload_n 0, 1) := by decide +kernel
theorem d9_1 : decode (mB m9) 1 = .ok (.invokevirtual 146, 3) := by decide +kernel
theorem d9_4 : decode (mB m9) 4 = .ok (.aload_n 0, 1) := by decide +kernel
theorem d9_5 : decode (mB m9) 5 = .ok (.invokevirtual 149, 3) := by decide +kernel
theorem d9_8 : decode (mB m9) 8 = .ok (.iconst 0, 1) := by decide +kernel
theorem d9_9 : decode (mB m9) 9 = .ok (.istore_n 1, 1) := by decide +kernel
theorem d9_10 : decode (mB m9) 10 = .ok (.iload_n 1, 1) := by decide +kernel
theorem d9_11 : decode (mB m9) 11 = .ok (.aload_n 0, 1) := by decide +kernel
theorem d9_12 : decode (mB m9) 12 = .ok (.getfield 55, 3) := by decide +kernel
theorem d9_15 : decode (mB m9) 15 = .ok (.if_icmp .ge 27, 3) := by decide +kernel
theorem d9_18 : decode (mB m9) 18 = .ok (.iload_n 1, 1) := by decide +kernel
theorem d9_19 : decode (mB m9) 19 = .ok (.istore_n 2, 1) := by decide +kernel
theorem d9_20 : decode (mB m9) 20 = .ok (.iload_n 2, 1) := by decide +kernel
theorem d9_21 : decode (mB m9) 21 = .ok (.ifCond .lt 15, 3) := by decide +kernel
theorem d9_24 : decode (mB m9) 24 = .ok (.aload_n 0, 1) := by decide +kernel
theorem d9_25 : decode (mB m9) 25 = .ok (.iload_n 2, 1) := by decide +kernel
theorem d9_26 : decode (mB m9) 26 = .ok (.iload_n 1, 1) := by decide +kernel
theorem d9_27 : decode (mB m9) 27 = .ok (.invokevirtual 152, 3) := by decide +kernel
theorem d9_30 : decode (mB m9) 30 = .ok (.iinc 2 (-1), 3) := by decide +kernel
theorem d9_33 : decode (mB m9) 33 = .ok (.goto (-13), 3) := by decide +kernel
theorem d9_36 : decode (mB m9) 36 = .ok (.iinc 1 1, 3) := by decide +kernel
theorem d9_39 : decode (mB m9) 39 = .ok (.goto (-29), 3) := by decide +kernel
theorem d9_42 : decode (mB m9) 42 = .ok (.return_, 1) := by decide +kernel
theorem d10_0 : decode (mB m10) 0 = .ok (.iload_n 1, 1) := by decide +kernel
theorem d10_1 : decode (mB m10) 1 = .ok (.ifCond .lt 13, 3) := by decide +kernel
theorem d10_4 : decode (mB m10) 4 = .ok (.iload_n 1, 1) := by decide +kernel
theorem d10_5 : decode (mB m10) 5 = .ok (.bipush 16, 2) := by decide +kernel
theorem d10_7 : decode (mB m10) 7 = .ok (.if_icmp .ge 7, 3) := by decide +kernel
theorem d10_10 : decode (mB m10) 10 = .ok (.iconst 1, 1) := by decide +kernel
theorem d10_11 : decode (mB m10) 11 = .ok (.goto 4, 3) := by decide +kernel
theorem d10_14 : decode (mB m10) 14 = .ok (.iconst 0, 1) := by decide +kernel
theorem d10_15 : decode (mB m10) 15 = .ok (.ireturn, 1) := by decide +kernel
theorem d11_0 : decode (mB m11) 0 = .ok (.iload_n 1, 1) := by decide +kernel
theorem d11_1 : decode (mB m11) 1 = .ok (.ifCond .lt 15, 3) := by decide +kernel
theorem d11_4 : decode (mB m11) 4 = .ok (.iload_n 1, 1) := by decide +kernel
theorem d11_5 : decode (mB m11) 5 = .ok (.aload_n 0, 1) := by decide +kernel
theorem d11_6 : decode (mB m11) 6 = .ok (.getfield 55, 3) := by decide +kernel
theorem d11_9 : decode (mB m11) 9 = .ok (.if_icmp .ge 7, 3) := by decide +kernel
theorem d11_12 : decode (mB m11) 12 = .ok (.iconst 1, 1) := by decide +kernel
theorem d11_13 : decode (mB m11) 13 = .ok (.goto 4, 3) := by decide +kernel
theorem d11_16 : decode (mB m11) 16 = .ok (.iconst 0, 1) := by decide +kernel
theorem d11_17 : decode (mB m11) 17 = .ok (.ireturn, 1) := by decide +kernel
theorem d12_0 : decode (mB m12) 0 = .ok (.aload_n 0, 1) := by decide +kernel
theorem d12_1 : decode (mB m12) 1 = .ok (.iload_n 1, 1) := by decide +kernel
theorem d12_2 : decode (mB m12) 2 = .ok (.invokevirtual 107, 3) := by decide +kernel
theorem d12_5 : decode (mB m12) 5 = .ok (.ifCond .eq 19, 3) := by decide +kernel
theorem d12_8 : decode (mB m12) 8 = .ok (.aload_n 0, 1) := by decide +kernel
theorem d12_9 : decode (mB m12) 9 = .ok (.iload_n 2, 1) := by decide +kernel
theorem d12_10 : decode (mB m12) 10 = .ok (.invokevirtual 111, 3) := by decide +kernel
theorem d12_13 : decode (mB m12) 13 = .ok (.ifCond .eq 11, 3) := by decide +kernel
theorem d12_16 : decode (mB m12) 16 = .ok (.aload_n 0, 1) := by decide +kernel
theorem d12_17 : decode (mB m12) 17 = .ok (.iload_n 3, 1) := by decide +kernel
theorem d12_18 : decode (mB m12) 18 = .ok (.invokevirtual 111, 3) := by decide +kernel
theorem d12_21 : decode (mB m12) 21 = .ok (.ifCond .ne 5, 3) := by decide +kernel
theorem d12_24 : decode (mB m12) 24 = .ok (.iconst (-1), 1) := by decide +kernel
theorem d12_25 : decode (mB m12) 25 = .ok (.ireturn, 1) := by decide +kernel
theorem d12_26 : decode (mB m12) 26 = .ok (.iload_n 1, 1) := by decide +kernel
theorem d12_27 : decode (mB m12) 27 = .ok (.bipush 64, 2) := by decide +kernel
theorem d12_29 : decode (mB m12) 29 = .ok (.imul, 1) := by decide +kernel
theorem d12_30 : decode (mB m12) 30 = .ok (.iload_n 2, 1) := by decide +kernel
theorem d12_31 : decode (mB m12) 31 = .ok (.bipush 8, 2) := by decide +kernel
theorem d12_33 : decode (mB m12) 33 = .ok (.imul, 1) := by decide +kernel
theorem d12_34 : decode (mB m12) 34 = .ok (.iadd, 1) := by decide +kernel
theorem d12_35 : decode (mB m12) 35 = .ok (.iload_n 3, 1) := by decide +kernel
theorem d12_36 : decode (mB m12) 36 = .ok (.iadd, 1) := by decide +kernel
theorem d12_37 : decode (mB m12) 37 = .ok (.ireturn, 1) := by decide +kernel
theorem d13_0 : decode (mB m13) 0 = .ok (.aload_n 0, 1) := by decide +kernel
theorem d13_1 : decode (mB m13) 1 = .ok (.iload_n 1, 1) := by decide +kernel
theorem d13_2 : decode (mB m13) 2 = .ok (.iload_n 2, 1) := by decide +kernel
theorem d13_3 : decode (mB m13) 3 = .ok (.iload_n 3, 1) := by decide +kernel
theorem d13_4 : decode (mB m13) 4 = .ok (.invokevirtual 139, 3) := by decide +kernel
theorem d13_7 : decode (mB m13) 7 = .ok (.istore 4, 2) := by decide +kernel
theorem d13_9 : decode (mB m13) 9 = .ok (.iload 4, 2) := by decide +kernel
theorem d13_11 : decode (mB m13) 11 = .ok (.ifCond .ge 8, 3) := by decide +kernel
theorem d13_14 : decode (mB m13) 14 = .ok (.aload_n 0, 1) := by decide +kernel
theorem d13_15 : decode (mB m13) 15 = .ok (.getfield 8, 3) := by decide +kernel
theorem d13_18 : decode (mB m13) 18 = .ok (.ireturn, 1) := by decide +kernel
theorem d13_19 : decode (mB m13) 19 = .ok (.aload_n 0, 1) := by decide +kernel
theorem d13_20 : decode (mB m13) 20 = .ok (.getfield 39, 3) := by decide +kernel
theorem d13_23 : decode (mB m13) 23 = .ok (.iload 4, 2) := by decide +kernel
theorem d13_25 : decode (mB m13) 25 = .ok (.iaload, 1) := by decide +kernel
theorem d13_26 : decode (mB m13) 26 = .ok (.ireturn, 1) := by decide +kernel
theorem d14_0 : decode (mB m14) 0 = .ok (.aload_n 0, 1) := by decide +kernel
theorem d14_1 : decode (mB m14) 1 = .ok (.invokevirtual 61, 3) := by decide +kernel
theorem d14_4 : decode (mB m14) 4 = .ok (.aload_n 0, 1) := by decide +kernel
theorem d14_5 : decode (mB m14) 5 = .ok (.invokevirtual 88, 3) := by decide +kernel
theorem d14_8 : decode (mB m14) 8 = .ok (.aload_n 0, 1) := by decide +kernel
theorem d14_9 : decode (mB m14) 9 = .ok (.getfield 55, 3) := by decide +kernel
theorem d14_12 : decode (mB m14) 12 = .ok (.iconst 1, 1) := by decide +kernel
theorem d14_13 : decode (mB m14) 13 = .ok (.isub, 1) := by decide +kernel
theorem d14_14 : decode (mB m14) 14 = .ok (.istore_n 1, 1) := by decide +kernel
theorem d14_15 : decode (mB m14) 15 = .ok (.aload_n 0, 1) := by decide +kernel
theorem d14_16 : decode (mB m14) 16 = .ok (.bipush 8, 2) := by decide +kernel
theorem d14_18 : decode (mB m14) 18 = .ok (.iconst 0, 1) := by decide +kernel
theorem d14_19 : decode (mB m14) 19 = .ok (.iload_n 1, 1) := by decide +kernel
theorem d14_20 : decode (mB m14) 20 = .ok (.invokevirtual 91, 3) := by decide +kernel
theorem d14_23 : decode (mB m14) 23 = .ok (.istore_n 2, 1) := by decide +kernel
theorem d14_24 : decode (mB m14) 24 = .ok (.iload_n 2, 1) := by decide +kernel
theorem d14_25 : decode (mB m14) 25 = .ok (.aload_n 0, 1) := by decide +kernel
theorem d14_26 : decode (mB m14) 26 = .ok (.getfield 8, 3) := by decide +kernel
theorem d14_29 : decode (mB m14) 29 = .ok (.if_icmp .ge 24, 3) := by decide +kernel
theorem d14_32 : decode (mB m14) 32 = .ok (.aload_n 0, 1) := by decide +kernel
theorem d14_33 : decode (mB m14) 33 = .ok (.iconst 1, 1) := by decide +kernel
theorem d14_34 : decode (mB m14) 34 = .ok (.putfield 95, 3) := by decide +kernel
theorem d14_37 : decode (mB m14) 37 = .ok (.aload_n 0, 1) := by decide +kernel
theorem d14_38 : decode (mB m14) 38 = .ok (.iload_n 2, 1) := by decide +kernel
theorem d14_39 : decode (mB m14) 39 = .ok (.putfield 98, 3) := by decide +kernel
theorem d14_42 : decode (mB m14) 42 = .ok (.aload_n 0, 1) := by decide +kernel
theorem d14_53 : decode (mB m14) 53 = .ok (.aload_n 0, 1) := by decide +kernel
theorem d14_54 : decode (mB m14) 54 = .ok (.iconst 2, 1) := by decide +kernel
theorem d14_55 : decode (mB m14) 55 = .ok (.putfield 95, 3) := by decide +kernel
theorem d14_58 : decode (mB m14) 58 = .ok (.aload_n 0, 1) := by decide +kernel
theorem d14_59 : decode (mB m14) 59 = .ok (.iconst (-1), 1) := by decide +kernel
theorem d14_60 : decode (mB m14) 60 = .ok (.putfield 98, 3) := by decide +kernel
theorem d14_63 : decode (mB m14) 63 = .ok (.aload_n 0, 1) := by decide +kernel
theorem d14_64 : decode (mB m14) 64 = .ok (.getfield 95, 3) := by decide +kernel
theorem d14_67 : decode (mB m14) 67 = .ok (.iconst 1, 1) := by decide +kernel
theorem d14_68 : decode (mB m14) 68 = .ok (.if_icmp .ne 7, 3) := by decide +kernel
theorem d14_71 : decode (mB m14) 71 = .ok (.iconst 1, 1) := by decide +kernel
theorem d14_72 : decode (mB m14) 72 = .ok (.goto 4, 3) := by decide +kernel
theorem d14_75 : decode (mB m14) 75 = .ok (.iconst 0, 1) := by decide +kernel
theorem d14_76 : decode (mB m14) 76 = .ok (.ireturn, 1) := by decide +kernel
theorem d15_0 : decode (mB m15) 0 = .ok (.aload_n 0, 1) := by decide +kernel
theorem d15_1 : decode (mB m15) 1 = .ok (.getfield 95, 3) := by decide +kernel
theorem d15_4 : decode (mB m15) 4 = .ok (.ireturn, 1) := by decide +kernel
theorem d16_0 : decode (mB m16) 0 = .ok (.iload_n 1, 1) := by decide +kernel
theorem d16_1 : decode (mB m16) 1 = .ok (.iload_n 2, 1) := by decide +kernel
theorem d16_2 : decode (mB m16) 2 = .ok (.if_icmp .lt 12, 3) := by decide +kernel
theorem d16_5 : decode (mB m16) 5 = .ok (.iload_n 1, 1) := by decide +kernel
theorem d16_6 : decode (mB m16) 6 = .ok (.iload_n 3, 1) := by decide +kernel
theorem d16_7 : decode (mB m16) 7 = .ok (.if_icmp .gt 7, 3) := by decide +kernel
theorem d16_10 : decode (mB m16) 10 = .ok (.iconst 1, 1) := by decide +kernel
theorem d16_11 : decode (mB m16) 11 = .ok (.goto 4, 3) := by decide +kernel
theorem d16_14 : decode (mB m16) 14 = .ok (.iconst 0, 1) := by decide +kernel
theorem d16_15 : decode (mB m16) 15 = .ok (.ireturn, 1) := by decide +kernel
theorem d17_0 : decode (mB m17) 0 = .ok (.aload_n 0, 1) := by decide +kernel
theorem d17_1 : decode (mB m17) 1 = .ok (.getfield 64, 3) := by decide +kernel
theorem d17_4 : decode (mB m17) 4 = .ok (.bipush 16, 2) := by decide +kernel
theorem d17_6 : decode (mB m17) 6 = .ok (.if_icmp .lt 5, 3) := by decide +kernel
theorem d17_9 : decode (mB m17) 9 = .ok (.iconst 1, 1) := by decide +kernel
theorem d17_10 : decode (mB m17) 10 = .ok (.ireturn, 1) := by decide +kernel
theorem d17_11 : decode (mB m17) 11 = .ok (.iload_n 1, 1) := by decide +kernel
theorem d17_12 : decode (mB m17) 12 = .ok (.ifCond .lt 18, 3) := by decide +kernel
theorem d17_15 : decode (mB m17) 15 = .ok (.iload_n 2, 1) := by decide +kernel
theorem d17_16 : decode (mB m17) 16 = .ok (.aload_n 0, 1) := by decide +kernel
theorem d17_17 : decode (mB m17) 17 = .ok (.getfield 55, 3) := by decide +kernel
theorem d17_20 : decode (mB m17) 20 = .ok (.iconst 1, 1) := by decide +kernel
theorem d17_21 : decode (mB m17) 21 = .ok (.isub, 1) := by decide +kernel
theorem d17_22 : decode (mB m17) 22 = .ok (.if_icmp .gt 8, 3) := by decide +kernel
theorem d17_25 : decode (mB m17) 25 = .ok (.iload_n 1, 1) := by decide +kernel
theorem d17_26 : decode (mB m17) 26 = .ok (.iload_n 2, 1) := by decide +kernel
theorem d17_27 : decode (mB m17) 27 = .ok (.if_icmp .lt 5, 3) := by decide +kernel
theorem d17_30 : decode (mB m17) 30 = .ok (.iconst 1, 1) := by decide +kernel
theorem d17_31 : decode (mB m17) 31 = .ok (.ireturn, 1) := by decide +kernel
theorem d17_32 : decode (mB m17) 32 = .ok (.aload_n 0, 1) := by decide +kernel
theorem d17_33 : decode (mB m17) 33 = .ok (.iload_n 3, 1) := by decide +kernel
theorem d17_34 : decode (mB m17) 34 = .ok (.iconst 0, 1) := by decide +kernel
theorem d17_35 : decode (mB m17) 35 = .ok (.bipush 7, 2) := by decide +kernel
theorem d17_37 : decode (mB m17) 37 = .ok (.invokevirtual 129, 3) := by decide +kernel
theorem d17_40 : decode (mB m17) 40 = .ok (.ifCond .ne 5, 3) := by decide +kernel
theorem d17_43 : decode (mB m17) 43 = .ok (.iconst 1, 1) := by decide +kernel
theorem d17_44 : decode (mB m17) 44 = .ok (.ireturn, 1) := by decide +kernel
theorem d17_45 : decode (mB m17) 45 = .ok (.aload_n 0, 1) := by decide +kernel
theorem d17_46 : decode (mB m17) 46 = .ok (.iload 4, 2) := by decide +kernel
theorem d17_48 : decode (mB m17) 48 = .ok (.iconst 0, 1) := by decide +kernel
theorem d17_49 : decode (mB m17) 49 = .ok (.bipush 100, 2) := by decide +kernel
theorem d17_51 : decode (mB m17) 51 = .ok (.invokevirtual 129, 3) := by decide +kernel
theorem d17_54 : decode (mB m17) 54 = .ok (.ifCond .ne 7, 3) := by decide +kernel
theorem d17_57 : decode (mB m17) 57 = .ok (.iconst 1, 1) := by decide +kernel
theorem d17_58 : decode (mB m17) 58 = .ok (.goto 4, 3) := by decide +kernel
theorem d17_61 : decode (mB m17) 61 = .ok (.iconst 0, 1) := by decide +kernel
theorem d17_62 : decode (mB m17) 62 = .ok (.ireturn, 1) := by decide +kernel
theorem d18_0 : decode (mB m18) 0 = .ok (.aload_n 0, 1) := by decide +kernel
theorem d18_1 : decode (mB m18) 1 = .ok (.iload_n 1, 1) := by decide +kernel
theorem d18_2 : decode (mB m18) 2 = .ok (.iload_n 2, 1) := by decide +kernel
theorem d18_3 : decode (mB m18) 3 = .ok (.iload_n 3, 1) := by decide +kernel
theorem d18_4 : decode (mB m18) 4 = .ok (.iload 4, 2) := by decide +kernel
theorem d18_6 : decode (mB m18) 6 = .ok (.invokevirtual 70, 3) := by decide +kernel
theorem d18_9 : decode (mB m18) 9 = .ok (.ifCond .eq 5, 3) := by decide +kernel
theorem d18_12 : decode (mB m18) 12 = .ok (.iconst (-1), 1) := by decide +kernel
theorem d18_13 : decode (mB m18) 13 = .ok (.ireturn, 1) := by decide +kernel
theorem d18_14 : decode (mB m18) 14 = .ok (.aload_n 0, 1) := by decide +kernel
theorem d18_15 : decode (mB m18) 15 = .ok (.getfield 64, 3) := by decide +kernel
theorem d18_18 : decode (mB m18) 18 = .ok (.istore 5, 2) := by decide +kernel
theorem d18_20 : decode (mB m18) 20 = .ok (.aload_n 0, 1) := by decide +kernel
theorem d18_21 : decode (mB m18) 21 = .ok (.getfield 14, 3) := by decide +kernel
theorem d18_24 : decode (mB m18) 24 = .ok (.iload 5, 2) := by decide +kernel
theorem d18_26 : decode (mB m18) 26 = .ok (.iload_n 1, 1) := by decide +kernel
theorem d18_27 : decode (mB m18) 27 = .ok (.iastore, 1) := by decide +kernel
theorem d18_28 : decode (mB m18) 28 = .ok (.aload_n 0, 1) := by decide +kernel
theorem d18_29 : decode (mB m18) 29 = .ok (.getfield 18, 3) := by decide +kernel
theorem d18_32 : decode (mB m18) 32 = .ok (.iload 5, 2) := by decide +kernel
theorem d18_34 : decode (mB m18) 34 = .ok (.iload_n 2, 1) := by decide +kernel
theorem d18_35 : decode (mB m18) 35 = .ok (.iastore, 1) := by decide +kernel
theorem d18_36 : decode (mB m18) 36 = .ok (.aload_n 0, 1) := by decide +kernel
theorem d18_37 : decode (mB m18) 37 = .ok (.getfield 21, 3) := by decide +kernel
theorem d18_40 : decode (mB m18) 40 = .ok (.iload 5, 2) := by decide +kernel
theorem d18_42 : decode (mB m18) 42 = .ok (.iload_n 3, 1) := by decide +kernel
theorem d18_43 : decode (mB m18) 43 = .ok (.iastore, 1) := by decide +kernel
theorem d18_44 : decode (mB m18) 44 = .ok (.aload_n 0, 1) := by decide +kernel
theorem d18_45 : decode (mB m18) 45 = .ok (.getfield 24, 3) := by decide +kernel
theorem d18_48 : decode (mB m18) 48 = .ok (.iload 5, 2) := by decide +kernel
theorem d18_50 : decode (mB m18) 50 = .ok (.iload 4, 2) := by decide +kernel
theorem d18_52 : decode (mB m18) 52 = .ok (.iastore, 1) := by decide +kernel
theorem d18_53 : decode (mB m18) 53 = .ok (.aload_n 0, 1) := by decide +kernel
theorem d18_54 : decode (mB m18) 54 = .ok (.iload 5, 2) := by decide +kernel
theorem d18_56 : decode (mB m18) 56 = .ok (.iconst 1, 1) := by decide +kernel
theorem d18_57 : decode (mB m18) 57 = .ok (.iadd, 1) := by decide +kernel
theorem d18_58 : decode (mB m18) 58 = .ok (.putfield 64, 3) := by decide +kernel
theorem d18_61 : decode (mB m18) 61 = .ok (.aload_n 0, 1) := by decide +kernel
theorem d18_62 : decode (mB m18) 62 = .ok (.invokevirtual 74, 3) := by decide +kernel
theorem d18_65 : decode (mB m18) 65 = .ok (.iload 5, 2) := by decide +kernel
theorem d18_67 : decode (mB m18) 67 = .ok (.ireturn, 1) := by decide +kernel
theorem d19_0 : decode (mB m19) 0 = .ok (.aload_n 0, 1) := by decide +kernel
theorem d19_1 : decode (mB m19) 1 = .ok (.getfield 64, 3) := by decide +kernel
theorem d19_4 : decode (mB m19) 4 = .ok (.ireturn, 1) := by decide +kernel
theorem d20_0 : decode (mB m20) 0 = .ok (.iload_n 1, 1) := by decide +kernel
theorem d20_1 : decode (mB m20) 1 = .ok (.ifCond .lt 11, 3) := by decide +kernel
theorem d20_4 : decode (mB m20) 4 = .ok (.iload_n 1, 1) := by decide +kernel
theorem d20_5 : decode (mB m20) 5 = .ok (.aload_n 0, 1) := by decide +kernel
theorem d20_6 : decode (mB m20) 6 = .ok (.getfield 64, 3) := by decide +kernel
theorem d20_9 : decode (mB m20) 9 = .ok (.if_icmp .lt 5, 3) := by decide +kernel
theorem d20_12 : decode (mB m20) 12 = .ok (.iconst (-1), 1) := by decide +kernel
theorem d20_13 : decode (mB m20) 13 = .ok (.ireturn, 1) := by decide +kernel
theorem d20_14 : decode (mB m20) 14 = .ok (.iload_n 2, 1) := by decide +kernel
theorem d20_15 : decode (mB m20) 15 = .ok (.ifCond .ne 10, 3) := by decide +kernel
theorem d20_18 : decode (mB m20) 18 = .ok (.aload_n 0, 1) := by decide +kernel
theorem d20_19 : decode (mB m20) 19 = .ok (.getfield 14, 3) := by decide +kernel
theorem d20_22 : decode (mB m20) 22 = .ok (.iload_n 1, 1) := by decide +kernel
theorem d20_23 : decode (mB m20) 23 = .ok (.iaload, 1) := by decide +kernel
theorem d20_24 : decode (mB m20) 24 = .ok (.ireturn, 1) := by decide +kernel
theorem d20_25 : decode (mB m20) 25 = .ok (.iload_n 2, 1) := by decide +kernel
theorem d20_26 : decode (mB m20) 26 = .ok (.iconst 1, 1) := by decide +kernel
theorem d20_27 : decode (mB m20) 27 = .ok (.if_icmp .ne 10, 3) := by decide +kernel
theorem d20_30 : decode (mB m20) 30 = .ok (.aload_n 0, 1) := by decide +kernel
theorem d20_31 : decode (mB m20) 31 = .ok (.getfield 18, 3) := by decide +kernel
theorem d20_34 : decode (mB m20) 34 = .ok (.iload_n 1, 1) := by decide +kernel
theorem d20_35 : decode (mB m20) 35 = .ok (.iaload, 1) := by decide +kernel
theorem d20_36 : decode (mB m20) 36 = .ok (.ireturn, 1) := by decide +kernel
theorem d20_37 : decode (mB m20) 37 = .ok (.iload_n 2, 1) := by decide +kernel
theorem d20_38 : decode (mB m20) 38 = .ok (.iconst 2, 1) := by decide +kernel
theorem d20_39 : decode (mB m20) 39 = .ok (.if_icmp .ne 10, 3) := by decide +kernel
theorem d20_42 : decode (mB m20) 42 = .ok (.aload_n 0, 1) := by decide +kernel
theorem d20_43 : decode (mB m20) 43 = .ok (.getfield 21, 3) := by decide +kernel
theorem d20_46 : decode (mB m20) 46 = .ok (.iload_n 1, 1) := by decide +kernel
theorem d20_47 : decode (mB m20) 47 = .ok (.iaload, 1) := by decide +kernel
theorem d20_48 : decode (mB m20) 48 = .ok (.ireturn, 1) := by decide +kernel
theorem d20_49 : decode (mB m20) 49 = .ok (.iload_n 2, 1) := by decide +kernel
theorem d20_50 : decode (mB m20) 50 = .ok (.iconst 3, 1) := by decide +kernel
theorem d20_51 : decode (mB m20) 51 = .ok (.if_icmp .ne 10, 3) := by decide +kernel
theorem d20_54 : decode (mB m20) 54 = .ok (.aload_n 0, 1) := by decide +kernel
theorem d20_55 : decode (mB m20) 55 = .ok (.getfield 24, 3) := by decide +kernel
theorem d20_58 : decode (mB m20) 58 = .ok (.iload_n 1, 1) := by decide +kernel
theorem d20_59 : decode (mB m20) 59 = .ok (.iaload, 1) := by decide +kernel
theorem d20_60 : decode (mB m20) 60 = .ok (.ireturn, 1) := by decide +kernel
theorem d20_61 : decode (mB m20) 61 = .ok (.iconst (-1), 1) := by decide +kernel
theorem d20_62 : decode (mB m20) 62 = .ok (.ireturn, 1) := by decide +kernel
theorem d21_0 : decode (mB m21) 0 = .ok (.new 7, 3) := by decide +kernel
theorem d21_3 : decode (mB m21) 3 = .ok (.dup, 1) := by decide +kernel
theorem d21_4 : decode (mB m21) 4 = .ok (.iload_n 0, 1) := by decide +kernel
theorem d21_5 : decode (mB m21) 5 = .ok (.invokespecial 9, 3) := by decide +kernel
theorem d21_8 : decode (mB m21) 8 = .ok (.astore 5, 2) := by decide +kernel
theorem d21_10 : decode (mB m21) 10 = .ok (.iload_n 0, 1) := by decide +kernel
theorem d21_11 : decode (mB m21) 11 = .ok (.iconst 2, 1) := by decide +kernel
theorem d21_12 : decode (mB m21) 12 = .ok (.if_icmp .ge 7, 3) := by decide +kernel
theorem d21_15 : decode (mB m21) 15 = .ok (.iconst 2, 1) := by decide +kernel
theorem d21_16 : decode (mB m21) 16 = .ok (.goto 15, 3) := by decide +kernel
theorem d21_19 : decode (mB m21) 19 = .ok (.iload_n 0, 1) := by decide +kernel
theorem d21_20 : decode (mB m21) 20 = .ok (.bipush 8, 2) := by decide +kernel
theorem d21_22 : decode (mB m21) 22 = .ok (.if_icmp .le 8, 3) := by decide +kernel
theorem d21_25 : decode (mB m21) 25 = .ok (.bipush 8, 2) := by decide +kernel
theorem d21_27 : decode (mB m21) 27 = .ok (.goto 4, 3) := by decide +kernel
theorem d21_30 : decode (mB m21) 30 = .ok (.iload_n 0, 1) := by decide +kernel
theorem d21_31 : decode (mB m21) 31 = .ok (.istore 6, 2) := by decide +kernel
theorem d21_33 : decode (mB m21) 33 = .ok (.iload_n 1, 1) := by decide +kernel
theorem d21_34 : decode (mB m21) 34 = .ok (.ifCond .lt 42, 3) := by decide +kernel
theorem d21_37 : decode (mB m21) 37 = .ok (.iload_n 2, 1) := by decide +kernel
theorem d21_38 : decode (mB m21) 38 = .ok (.iload 6, 2) := by decide +kernel
theorem d21_40 : decode (mB m21) 40 = .ok (.iconst 1, 1) := by decide +kernel
theorem d21_41 : decode (mB m21) 41 = .ok (.isub, 1) := by decide +kernel
theorem d21_42 : decode (mB m21) 42 = .ok (.if_icmp .gt 34, 3) := by decide +kernel
theorem d21_45 : decode (mB m21) 45 = .ok (.iload_n 1, 1) := by decide +kernel
theorem d21_46 : decode (mB m21) 46 = .ok (.iload_n 2, 1) := by decide +kernel
theorem d21_47 : decode (mB m21) 47 = .ok (.if_icmp .ge 29, 3) := by decide +kernel
theorem d21_50 : decode (mB m21) 50 = .ok (.iload_n 3, 1) := by decide +kernel
theorem d21_51 : decode (mB m21) 51 = .ok (.ifCond .lt 25, 3) := by decide +kernel
theorem d21_54 : decode (mB m21) 54 = .ok (.iload_n 3, 1) := by decide +kernel
theorem d21_55 : decode (mB m21) 55 = .ok (.bipush 7, 2) := by decide +kernel
theorem d21_57 : decode (mB m21) 57 = .ok (.if_icmp .gt 19, 3) := by decide +kernel
theorem d21_60 : decode (mB m21) 60 = .ok (.iload 4, 2) := by decide +kernel
theorem d21_62 : decode (mB m21) 62 = .ok (.ifCond .lt 14, 3) := by decide +kernel
theorem d21_65 : decode (mB m21) 65 = .ok (.iload 4, 2) := by decide +kernel
theorem d21_67 : decode (mB m21) 67 = .ok (.bipush 100, 2) := by decide +kernel
theorem d21_69 : decode (mB m21) 69 = .ok (.if_icmp .gt 7, 3) := by decide +kernel
theorem d21_72 : decode (mB m21) 72 = .ok (.iconst 1, 1) := by decide +kernel
theorem d21_73 : decode (mB m21) 73 = .ok (.goto 4, 3) := by decide +kernel
theorem d21_76 : decode (mB m21) 76 = .ok (.iconst 0, 1) := by decide +kernel
theorem d21_77 : decode (mB m21) 77 = .ok (.istore 7, 2) := by decide +kernel
theorem d21_79 : decode (mB m21) 79 = .ok (.aload 5, 2) := by decide +kernel
theorem d21_81 : decode (mB m21) 81 = .ok (.invokevirtual 12, 3) := by decide +kernel
theorem d21_84 : decode (mB m21) 84 = .ok (.ifCond .eq 5, 3) := by decide +kernel
theorem d21_87 : decode (mB m21) 87 = .ok (.iconst 0, 1) := by decide +kernel
theorem d21_88 : decode (mB m21) 88 = .ok (.ireturn, 1) := by decide +kernel
theorem d21_89 : decode (mB m21) 89 = .ok (.aload 5, 2) := by decide +kernel
theorem d21_91 : decode (mB m21) 91 = .ok (.invokevirtual 16, 3) := by decide +kernel
theorem d21_94 : decode (mB m21) 94 = .ok (.iconst 2, 1) := by decide +kernel
theorem d21_95 : decode (mB m21) 95 = .ok (.if_icmp .eq 5, 3) := by decide +kernel
theorem d21_98 : decode (mB m21) 98 = .ok (.iconst 0, 1) := by decide +kernel
theorem d21_99 : decode (mB m21) 99 = .ok (.ireturn, 1) := by decide +kernel
theorem d21_100 : decode (mB m21) 100 = .ok (.aload 5, 2) := by decide +kernel
theorem d21_102 : decode (mB m21) 102 = .ok (.iload_n 1, 1) := by decide +kernel
theorem d21_103 : decode (mB m21) 103 = .ok (.iload_n 2, 1) := by decide +kernel
theorem d21_104 : decode (mB m21) 104 = .ok (.iload_n 3, 1) := by decide +kernel
theorem d21_105 : decode (mB m21) 105 = .ok (.iload 4, 2) := by decide +kernel
theorem d21_107 : decode (mB m21) 107 = .ok (.invokevirtual 20, 3) := by decide +kernel
theorem d21_110 : decode (mB m21) 110 = .ok (.istore 8, 2) := by decide +kernel
theorem d21_112 : decode (mB m21) 112 = .ok (.aload 5, 2) := by decide +kernel
theorem d21_114 : decode (mB m21) 114 = .ok (.invokevirtual 24, 3) := by decide +kernel
theorem d21_117 : decode (mB m21) 117 = .ok (.istore 9, 2) := by decide +kernel
theorem d21_119 : decode (mB m21) 119 = .ok (.aload 5, 2) := by decide +kernel
theorem d21_121 : decode (mB m21) 121 = .ok (.iconst 0, 1) := by decide +kernel
theorem d21_122 : decode (mB m21) 122 = .ok (.iconst 0, 1) := by decide +kernel
theorem d21_123 : decode (mB m21) 123 = .ok (.invokevirtual 27, 3) := by decide +kernel
theorem d21_126 : decode (mB m21) 126 = .ok (.istore 10, 2) := by decide +kernel
theorem d21_128 : decode (mB m21) 128 = .ok (.aload 5, 2) := by decide +kernel
theorem d21_130 : decode (mB m21) 130 = .ok (.iconst 0, 1) := by decide +kernel
theorem d21_131 : decode (mB m21) 131 = .ok (.iconst 1, 1) := by decide +kernel
theorem d21_132 : decode (mB m21) 132 = .ok (.invokevirtual 27, 3) := by decide +kernel
theorem d21_135 : decode (mB m21) 135 = .ok (.istore 11, 2) := by decide +kernel
theorem d21_137 : decode (mB m21) 137 = .ok (.aload 5, 2) := by decide +kernel
theorem d21_139 : decode (mB m21) 139 = .ok (.iconst 0, 1) := by decide +kernel
theorem d21_140 : decode (mB m21) 140 = .ok (.iconst 2, 1) := by decide +kernel
theorem d21_141 : decode (mB m21) 141 = .ok (.invokevirtual 27, 3) := by decide +kernel
theorem d21_144 : decode (mB m21) 144 = .ok (.istore 12, 2) := by decide +kernel
theorem d21_146 : decode (mB m21) 146 = .ok (.aload 5, 2) := by decide +kernel
theorem d21_148 : decode (mB m21) 148 = .ok (.iconst 0, 1) := by decide +kernel
theorem d21_149 : decode (mB m21) 149 = .ok (.iconst 3, 1) := by decide +kernel
theorem d21_150 : decode (mB m21) 150 = .ok (.invokevirtual 27, 3) := by decide +kernel
theorem d21_153 : decode (mB m21) 153 = .ok (.istore 13, 2) := by decide +kernel
theorem d21_155 : decode (mB m21) 155 = .ok (.aload 5, 2) := by decide +kernel
theorem d21_157 : decode (mB m21) 157 = .ok (.invokevirtual 16, 3) := by decide +kernel
theorem d21_160 : decode (mB m21) 160 = .ok (.istore 14, 2) := by decide +kernel
theorem d21_162 : decode (mB m21) 162 = .ok (.iload 7, 2) := by decide +kernel
theorem d21_164 : decode (mB m21) 164 = .ok (.ifCond .eq 50, 3) := by decide +kernel
theorem d21_167 : decode (mB m21) 167 = .ok (.iload 8, 2) := by decide +kernel
theorem d21_169 : decode (mB m21) 169 = .ok (.ifCond .ne 43, 3) := by decide +kernel
theorem d21_172 : decode (mB m21) 172 = .ok (.iload 9, 2) := by decide +kernel
theorem d21_174 : decode (mB m21) 174 = .ok (.iconst 1, 1) := by decide +kernel
theorem d21_175 : decode (mB m21) 175 = .ok (.if_icmp .ne 37, 3) := by decide +kernel
theorem d21_178 : decode (mB m21) 178 = .ok (.iload 10, 2) := by decide +kernel
theorem d21_180 : decode (mB m21) 180 = .ok (.iload_n 1, 1) := by decide +kernel
theorem d21_181 : decode (mB m21) 181 = .ok (.if_icmp .ne 31, 3) := by decide +kernel
theorem d21_184 : decode (mB m21) 184 = .ok (.iload 11, 2) := by decide +kernel
theorem d21_186 : decode (mB m21) 186 = .ok (.iload_n 2, 1) := by decide +kernel
theorem d21_187 : decode (mB m21) 187 = .ok (.if_icmp .ne 25, 3) := by decide +kernel
theorem d21_190 : decode (mB m21) 190 = .ok (.iload 12, 2) := by decide +kernel
theorem d21_192 : decode (mB m21) 192 = .ok (.iload_n 3, 1) := by decide +kernel
theorem d21_193 : decode (mB m21) 193 = .ok (.if_icmp .ne 19, 3) := by decide +kernel
theorem d21_196 : decode (mB m21) 196 = .ok (.iload 13, 2) := by decide +kernel
theorem d21_198 : decode (mB m21) 198 = .ok (.iload 4, 2) := by decide +kernel
theorem d21_200 : decode (mB m21) 200 = .ok (.if_icmp .ne 12, 3) := by decide +kernel
theorem d21_203 : decode (mB m21) 203 = .ok (.iload 14, 2) := by decide +kernel
theorem d21_205 : decode (mB m21) 205 = .ok (.ifCond .ne 7, 3) := by decide +kernel
theorem d21_208 : decode (mB m21) 208 = .ok (.iconst 1, 1) := by decide +kernel
theorem d21_209 : decode (mB m21) 209 = .ok (.goto 4, 3) := by decide +kernel
theorem d21_212 : decode (mB m21) 212 = .ok (.iconst 0, 1) := by decide +kernel
theorem d21_213 : decode (mB m21) 213 = .ok (.ireturn, 1) := by decide +kernel
theorem d21_214 : decode (mB m21) 214 = .ok (.iload 8, 2) := by decide +kernel
theorem d21_216 : decode (mB m21) 216 = .ok (.iconst (-1), 1) := by decide +kernel
theorem d21_217 : decode (mB m21) 217 = .ok (.if_icmp .ne 42, 3) := by decide +kernel
theorem d21_220 : decode (mB m21) 220 = .ok (.iload 9, 2) := by decide +kernel
theorem d21_222 : decode (mB m21) 222 = .ok (.ifCond .ne 37, 3) := by decide +kernel
theorem d21_225 : decode (mB m21) 225 = .ok (.iload 10, 2) := by decide +kernel
theorem d21_227 : decode (mB m21) 227 = .ok (.iconst (-1), 1) := by decide +kernel
theorem d21_228 : decode (mB m21) 228 = .ok (.if_icmp .ne 31, 3) := by decide +kernel
theorem d21_231 : decode (mB m21) 231 = .ok (.iload 11, 2) := by decide +kernel
theorem d21_233 : decode (mB m21) 233 = .ok (.iconst (-1), 1) := by decide +kernel
theorem d21_234 : decode (mB m21) 234 = .ok (.if_icmp .ne 25, 3) := by decide +kernel
theorem d21_237 : decode (mB m21) 237 = .ok (.iload 12, 2) := by decide +kernel
theorem d21_239 : decode (mB m21) 239 = .ok (.iconst (-1), 1) := by decide +kernel
theorem d21_240 : decode (mB m21) 240 = .ok (.if_icmp .ne 19, 3) := by decide +kernel
theorem d21_243 : decode (mB m21) 243 = .ok (.iload 13, 2) := by decide +kernel
theorem d21_245 : decode (mB m21) 245 = .ok (.iconst (-1), 1) := by decide +kernel
theorem d21_246 : decode (mB m21) 246 = .ok (.if_icmp .ne 13, 3) := by decide +kernel
theorem d21_249 : decode (mB m21) 249 = .ok (.iload 14, 2) := by decide +kernel
theorem d21_251 : decode (mB m21) 251 = .ok (.iconst 2, 1) := by decide +kernel
theorem d21_252 : decode (mB m21) 252 = .ok (.if_icmp .ne 7, 3) := by decide +kernel
theorem d21_255 : decode (mB m21) 255 = .ok (.iconst 1, 1) := by decide +kernel
theorem d21_256 : decode (mB m21) 256 = .ok (.goto 4, 3) := by decide +kernel
theorem d21_259 : decode (mB m21) 259 = .ok (.iconst 0, 1) := by decide +kernel
theorem d21_260 : decode (mB m21) 260 = .ok (.ireturn, 1) := by decide +kernel
theorem cb_7 : (7 : Int32) = (Int8.ofInt (7)).toInt32 := by decide
theorem cb_8 : (8 : Int32) = (Int8.ofInt (8)).toInt32 := by decide
theorem cb_12 : (12 : Int32) = (Int8.ofInt (12)).toInt32 := by decide
theorem cb_16 : (16 : Int32) = (Int8.ofInt (16)).toInt32 := by decide
theorem cb_24 : (24 : Int32) = (Int8.ofInt (24)).toInt32 := by decide
theorem cb_36 : (36 : Int32) = (Int8.ofInt (36)).toInt32 := by decide
theorem cb_64 : (64 : Int32) = (Int8.ofInt (64)).toInt32 := by decide
theorem cb_100 : (100 : Int32) = (Int8.ofInt (100)).toInt32 := by decide
theorem ci_m1 : (-1 : Int32) = Int32.ofInt (-1) := by decide
theorem ci_0 : (0 : Int32) = Int32.ofInt (0) := by decide
theorem ci_1 : (1 : Int32) = Int32.ofInt (1) := by decide
theorem ci_2 : (2 : Int32) = Int32.ofInt (2) := by decide
theorem ci_3 : (3 : Int32) = Int32.ofInt (3) := by decide
theorem cs_1024 : (1024 : Int32) = (Int16.ofInt (1024)).toInt32 := by decide
theorem cs_3072 : (3072 : Int32) = (Int16.ofInt (3072)).toInt32 := by decide
theorem j_1_11 : 0 ≤ ((1 : Nat) : Int) + (11) ∧ (((1 : Nat) : Int) + (11)).toNat = 12 := by decide
theorem j_1_13 : 0 ≤ ((1 : Nat) : Int) + (13) ∧ (((1 : Nat) : Int) + (13)).toNat = 14 := by decide
theorem j_1_15 : 0 ≤ ((1 : Nat) : Int) + (15) ∧ (((1 : Nat) : Int) + (15)).toNat = 16 := by decide
theorem j_2_5 : 0 ≤ ((2 : Nat) : Int) + (5) ∧ (((2 : Nat) : Int) + (5)).toNat = 7 := by decide
theorem j_2_12 : 0 ≤ ((2 : Nat) : Int) + (12) ∧ (((2 : Nat) : Int) + (12)).toNat = 14 := by decide
theorem j_5_19 : 0 ≤ ((5 : Nat) : Int) + (19) ∧ (((5 : Nat) : Int) + (19)).toNat = 24 := by decide
theorem j_6_5 : 0 ≤ ((6 : Nat) : Int) + (5) ∧ (((6 : Nat) : Int) + (5)).toNat = 11 := by decide
theorem j_6_23 : 0 ≤ ((6 : Nat) : Int) + (23) ∧ (((6 : Nat) : Int) + (23)).toNat = 29 := by decide
theorem j_6_29 : 0 ≤ ((6 : Nat) : Int) + (29) ∧ (((6 : Nat) : Int) + (29)).toNat = 35 := by decide
theorem j_7_7 : 0 ≤ ((7 : Nat) : Int) + (7) ∧ (((7 : Nat) : Int) + (7)).toNat = 14 := by decide
theorem j_7_38 : 0 ≤ ((7 : Nat) : Int) + (38) ∧ (((7 : Nat) : Int) + (38)).toNat = 45 := by decide
theorem j_7_40 : 0 ≤ ((7 : Nat) : Int) + (40) ∧ (((7 : Nat) : Int) + (40)).toNat = 47 := by decide
theorem j_9_5 : 0 ≤ ((9 : Nat) : Int) + (5) ∧ (((9 : Nat) : Int) + (5)).toNat = 14 := by decide
theorem j_9_7 : 0 ≤ ((9 : Nat) : Int) + (7) ∧ (((9 : Nat) : Int) + (7)).toNat = 16 := by decide
theorem j_10_6 : 0 ≤ ((10 : Nat) : Int) + (6) ∧ (((10 : Nat) : Int) + (6)).toNat = 16 := by decide
theorem j_11_4 : 0 ≤ ((11 : Nat) : Int) + (4) ∧ (((11 : Nat) : Int) + (4)).toNat = 15 := by decide
theorem j_11_8 : 0 ≤ ((11 : Nat) : Int) + (8) ∧ (((11 : Nat) : Int) + (8)).toNat = 19 := by decide
theorem j_11_35 : 0 ≤ ((11 : Nat) : Int) + (35) ∧ (((11 : Nat) : Int) + (35)).toNat = 46 := by decide
theorem j_12_7 : 0 ≤ ((12 : Nat) : Int) + (7) ∧ (((12 : Nat) : Int) + (7)).toNat = 19 := by decide
theorem j_12_18 : 0 ≤ ((12 : Nat) : Int) + (18) ∧ (((12 : Nat) : Int) + (18)).toNat = 30 := by decide
theorem j_13_4 : 0 ≤ ((13 : Nat) : Int) + (4) ∧ (((13 : Nat) : Int) + (4)).toNat = 17 := by decide
theorem j_13_11 : 0 ≤ ((13 : Nat) : Int) + (11) ∧ (((13 : Nat) : Int) + (11)).toNat = 24 := by decide
theorem j_13_16 : 0 ≤ ((13 : Nat) : Int) + (16) ∧ (((13 : Nat) : Int) + (16)).toNat = 29 := by decide
theorem j_15_10 : 0 ≤ ((15 : Nat) : Int) + (10) ∧ (((15 : Nat) : Int) + (10)).toNat = 25 := by decide
theorem j_15_27 : 0 ≤ ((15 : Nat) : Int) + (27) ∧ (((15 : Nat) : Int) + (27)).toNat = 42 := by decide
theorem j_16_15 : 0 ≤ ((16 : Nat) : Int) + (15) ∧ (((16 : Nat) : Int) + (15)).toNat = 31 := by decide
theorem j_17_24 : 0 ≤ ((17 : Nat) : Int) + (24) ∧ (((17 : Nat) : Int) + (24)).toNat = 41 := by decide
theorem j_19_37 : 0 ≤ ((19 : Nat) : Int) + (37) ∧ (((19 : Nat) : Int) + (37)).toNat = 56 := by decide
theorem j_21_5 : 0 ≤ ((21 : Nat) : Int) + (5) ∧ (((21 : Nat) : Int) + (5)).toNat = 26 := by decide
theorem j_21_15 : 0 ≤ ((21 : Nat) : Int) + (15) ∧ (((21 : Nat) : Int) + (15)).toNat = 36 := by decide
theorem j_22_8 : 0 ≤ ((22 : Nat) : Int) + (8) ∧ (((22 : Nat) : Int) + (8)).toNat = 30 := by decide
theorem j_26_m21 : 0 ≤ ((26 : Nat) : Int) + (-21) ∧ (((26 : Nat) : Int) + (-21)).toNat = 5 := by decide
theorem j_27_4 : 0 ≤ ((27 : Nat) : Int) + (4) ∧ (((27 : Nat) : Int) + (4)).toNat = 31 := by decide
theorem j_27_5 : 0 ≤ ((27 : Nat) : Int) + (5) ∧ (((27 : Nat) : Int) + (5)).toNat = 32 := by decide
theorem j_27_10 : 0 ≤ ((27 : Nat) : Int) + (10) ∧ (((27 : Nat) : Int) + (10)).toNat = 37 := by decide
theorem j_29_24 : 0 ≤ ((29 : Nat) : Int) + (24) ∧ (((29 : Nat) : Int) + (24)).toNat = 53 := by decide
theorem j_32_m30 : 0 ≤ ((32 : Nat) : Int) + (-30) ∧ (((32 : Nat) : Int) + (-30)).toNat = 2 := by decide
theorem j_33_m13 : 0 ≤ ((33 : Nat) : Int) + (-13) ∧ (((33 : Nat) : Int) + (-13)).toNat = 20 := by decide
theorem j_34_42 : 0 ≤ ((34 : Nat) : Int) + (42) ∧ (((34 : Nat) : Int) + (42)).toNat = 76 := by decide
theorem j_39_m29 : 0 ≤ ((39 : Nat) : Int) + (-29) ∧ (((39 : Nat) : Int) + (-29)).toNat = 10 := by decide
theorem j_39_10 : 0 ≤ ((39 : Nat) : Int) + (10) ∧ (((39 : Nat) : Int) + (10)).toNat = 49 := by decide
theorem j_40_5 : 0 ≤ ((40 : Nat) : Int) + (5) ∧ (((40 : Nat) : Int) + (5)).toNat = 45 := by decide
theorem j_41_29 : 0 ≤ ((41 : Nat) : Int) + (29) ∧ (((41 : Nat) : Int) + (29)).toNat = 70 := by decide
theorem j_42_34 : 0 ≤ ((42 : Nat) : Int) + (34) ∧ (((42 : Nat) : Int) + (34)).toNat = 76 := by decide
theorem j_44_m42 : 0 ≤ ((44 : Nat) : Int) + (-42) ∧ (((44 : Nat) : Int) + (-42)).toNat = 2 := by decide
theorem j_47_29 : 0 ≤ ((47 : Nat) : Int) + (29) ∧ (((47 : Nat) : Int) + (29)).toNat = 76 := by decide
theorem j_51_10 : 0 ≤ ((51 : Nat) : Int) + (10) ∧ (((51 : Nat) : Int) + (10)).toNat = 61 := by decide
theorem j_51_25 : 0 ≤ ((51 : Nat) : Int) + (25) ∧ (((51 : Nat) : Int) + (25)).toNat = 76 := by decide
theorem j_53_m37 : 0 ≤ ((53 : Nat) : Int) + (-37) ∧ (((53 : Nat) : Int) + (-37)).toNat = 16 := by decide
theorem j_54_7 : 0 ≤ ((54 : Nat) : Int) + (7) ∧ (((54 : Nat) : Int) + (7)).toNat = 61 := by decide
theorem j_57_19 : 0 ≤ ((57 : Nat) : Int) + (19) ∧ (((57 : Nat) : Int) + (19)).toNat = 76 := by decide
theorem j_58_4 : 0 ≤ ((58 : Nat) : Int) + (4) ∧ (((58 : Nat) : Int) + (4)).toNat = 62 := by decide
theorem j_61_30 : 0 ≤ ((61 : Nat) : Int) + (30) ∧ (((61 : Nat) : Int) + (30)).toNat = 91 := by decide
theorem j_62_14 : 0 ≤ ((62 : Nat) : Int) + (14) ∧ (((62 : Nat) : Int) + (14)).toNat = 76 := by decide
theorem j_67_m30 : 0 ≤ ((67 : Nat) : Int) + (-30) ∧ (((67 : Nat) : Int) + (-30)).toNat = 37 := by decide
theorem j_68_7 : 0 ≤ ((68 : Nat) : Int) + (7) ∧ (((68 : Nat) : Int) + (7)).toNat = 75 := by decide
theorem j_69_7 : 0 ≤ ((69 : Nat) : Int) + (7) ∧ (((69 : Nat) : Int) + (7)).toNat = 76 := by decide
theorem j_72_4 : 0 ≤ ((72 : Nat) : Int) + (4) ∧ (((72 : Nat) : Int) + (4)).toNat = 76 := by decide
theorem j_73_4 : 0 ≤ ((73 : Nat) : Int) + (4) ∧ (((73 : Nat) : Int) + (4)).toNat = 77 := by decide
theorem j_84_5 : 0 ≤ ((84 : Nat) : Int) + (5) ∧ (((84 : Nat) : Int) + (5)).toNat = 89 := by decide
theorem j_88_m30 : 0 ≤ ((88 : Nat) : Int) + (-30) ∧ (((88 : Nat) : Int) + (-30)).toNat = 58 := by decide
theorem j_95_5 : 0 ≤ ((95 : Nat) : Int) + (5) ∧ (((95 : Nat) : Int) + (5)).toNat = 100 := by decide
theorem j_96_16 : 0 ≤ ((96 : Nat) : Int) + (16) ∧ (((96 : Nat) : Int) + (16)).toNat = 112 := by decide
theorem j_109_m16 : 0 ≤ ((109 : Nat) : Int) + (-16) ∧ (((109 : Nat) : Int) + (-16)).toNat = 93 := by decide
theorem j_164_50 : 0 ≤ ((164 : Nat) : Int) + (50) ∧ (((164 : Nat) : Int) + (50)).toNat = 214 := by decide
theorem j_169_43 : 0 ≤ ((169 : Nat) : Int) + (43) ∧ (((169 : Nat) : Int) + (43)).toNat = 212 := by decide
theorem j_175_37 : 0 ≤ ((175 : Nat) : Int) + (37) ∧ (((175 : Nat) : Int) + (37)).toNat = 212 := by decide
theorem j_181_31 : 0 ≤ ((181 : Nat) : Int) + (31) ∧ (((181 : Nat) : Int) + (31)).toNat = 212 := by decide
theorem j_187_25 : 0 ≤ ((187 : Nat) : Int) + (25) ∧ (((187 : Nat) : Int) + (25)).toNat = 212 := by decide
theorem j_193_19 : 0 ≤ ((193 : Nat) : Int) + (19) ∧ (((193 : Nat) : Int) + (19)).toNat = 212 := by decide
theorem j_200_12 : 0 ≤ ((200 : Nat) : Int) + (12) ∧ (((200 : Nat) : Int) + (12)).toNat = 212 := by decide
theorem j_205_7 : 0 ≤ ((205 : Nat) : Int) + (7) ∧ (((205 : Nat) : Int) + (7)).toNat = 212 := by decide
theorem j_209_4 : 0 ≤ ((209 : Nat) : Int) + (4) ∧ (((209 : Nat) : Int) + (4)).toNat = 213 := by decide
theorem j_217_42 : 0 ≤ ((217 : Nat) : Int) + (42) ∧ (((217 : Nat) : Int) + (42)).toNat = 259 := by decide
theorem j_222_37 : 0 ≤ ((222 : Nat) : Int) + (37) ∧ (((222 : Nat) : Int) + (37)).toNat = 259 := by decide
theorem j_228_31 : 0 ≤ ((228 : Nat) : Int) + (31) ∧ (((228 : Nat) : Int) + (31)).toNat = 259 := by decide
theorem j_234_25 : 0 ≤ ((234 : Nat) : Int) + (25) ∧ (((234 : Nat) : Int) + (25)).toNat = 259 := by decide
theorem j_240_19 : 0 ≤ ((240 : Nat) : Int) + (19) ∧ (((240 : Nat) : Int) + (19)).toNat = 259 := by decide
theorem j_246_13 : 0 ≤ ((246 : Nat) : Int) + (13) ∧ (((246 : Nat) : Int) + (13)).toNat = 259 := by decide
theorem j_252_7 : 0 ≤ ((252 : Nat) : Int) + (7) ∧ (((252 : Nat) : Int) + (7)).toNat = 259 := by decide
theorem j_256_4 : 0 ≤ ((256 : Nat) : Int) + (4) ∧ (((256 : Nat) : Int) + (4)).toNat = 260 := by decide
theorem lk_0_51 : LinkP PP "LatticeEarley" 51 m0 := ⟨List.mem_of_getElem? (i := 37) rfl, List.mem_of_getElem? (i := 38) rfl, List.mem_of_getElem? (i := 39) rfl, List.mem_of_getElem? (i := 40) rfl, rfl, rfl⟩
theorem lk_0_58 : LinkP PP "LatticeEarley" 58 m2 := ⟨List.mem_of_getElem? (i := 43) rfl, List.mem_of_getElem? (i := 44) rfl, List.mem_of_getElem? (i := 45) rfl, List.mem_of_getElem? (i := 46) rfl, rfl, rfl⟩
theorem lk_0_61 : LinkP PP "LatticeEarley" 61 m3 := ⟨List.mem_of_getElem? (i := 59) rfl, List.mem_of_getElem? (i := 60) rfl, List.mem_of_getElem? (i := 61) rfl, List.mem_of_getElem? (i := 62) rfl, rfl, rfl⟩
theorem lk_0_70 : LinkP PP "LatticeEarley" 70 m17 := ⟨List.mem_of_getElem? (i := 114) rfl, List.mem_of_getElem? (i := 115) rfl, List.mem_of_getElem? (i := 116) rfl, List.mem_of_getElem? (i := 117) rfl, rfl, rfl⟩
theorem lk_0_74 : LinkP PP "LatticeEarley" 74 m1 := ⟨List.mem_of_getElem? (i := 51) rfl, List.mem_of_getElem? (i := 52) rfl, List.mem_of_getElem? (i := 53) rfl, List.mem_of_getElem? (i := 54) rfl, rfl, rfl⟩
theorem lk_0_88 : LinkP PP "LatticeEarley" 88 m9 := ⟨List.mem_of_getElem? (i := 68) rfl, List.mem_of_getElem? (i := 69) rfl, List.mem_of_getElem? (i := 70) rfl, List.mem_of_getElem? (i := 71) rfl, rfl, rfl⟩
theorem lk_0_91 : LinkP PP "LatticeEarley" 91 m13 := ⟨List.mem_of_getElem? (i := 88) rfl, List.mem_of_getElem? (i := 89) rfl, List.mem_of_getElem? (i := 90) rfl, List.mem_of_getElem? (i := 91) rfl, rfl, rfl⟩
theorem lk_0_107 : LinkP PP "LatticeEarley" 107 m10 := ⟨List.mem_of_getElem? (i := 96) rfl, List.mem_of_getElem? (i := 97) rfl, List.mem_of_getElem? (i := 98) rfl, List.mem_of_getElem? (i := 99) rfl, rfl, rfl⟩
theorem lk_0_111 : LinkP PP "LatticeEarley" 111 m11 := ⟨List.mem_of_getElem? (i := 100) rfl, List.mem_of_getElem? (i := 101) rfl, List.mem_of_getElem? (i := 102) rfl, List.mem_of_getElem? (i := 103) rfl, rfl, rfl⟩
theorem lk_0_129 : LinkP PP "LatticeEarley" 129 m16 := ⟨List.mem_of_getElem? (i := 128) rfl, List.mem_of_getElem? (i := 129) rfl, List.mem_of_getElem? (i := 130) rfl, List.mem_of_getElem? (i := 131) rfl, rfl, rfl⟩
theorem lk_0_139 : LinkP PP "LatticeEarley" 139 m12 := ⟨List.mem_of_getElem? (i := 92) rfl, List.mem_of_getElem? (i := 93) rfl, List.mem_of_getElem? (i := 94) rfl, List.mem_of_getElem? (i := 95) rfl, rfl, rfl⟩
theorem lk_0_146 : LinkP PP "LatticeEarley" 146 m5 := ⟨List.mem_of_getElem? (i := 72) rfl, List.mem_of_getElem? (i := 73) rfl, List.mem_of_getElem? (i := 74) rfl, List.mem_of_getElem? (i := 75) rfl, rfl, rfl⟩
theorem lk_0_149 : LinkP PP "LatticeEarley" 149 m6 := ⟨List.mem_of_getElem? (i := 76) rfl, List.mem_of_getElem? (i := 77) rfl, List.mem_of_getElem? (i := 78) rfl, List.mem_of_getElem? (i := 79) rfl, rfl, rfl⟩
theorem lk_0_152 : LinkP PP "LatticeEarley" 152 m8 := ⟨List.mem_of_getElem? (i := 80) rfl, List.mem_of_getElem? (i := 81) rfl, List.mem_of_getElem? (i := 82) rfl, List.mem_of_getElem? (i := 83) rfl, rfl, rfl⟩
theorem lk_0_163 : LinkP PP "LatticeEarley" 163 m7 := ⟨List.mem_of_getElem? (i := 84) rfl, List.mem_of_getElem? (i := 85) rfl, List.mem_of_getElem? (i := 86) rfl, List.mem_of_getElem? (i := 87) rfl, rfl, rfl⟩
theorem lk_1_9 : LinkI PP "LatticeEarleyL2" 9 m4 := ⟨List.mem_of_getElem? (i := 3) rfl, List.mem_of_getElem? (i := 4) rfl, List.mem_of_getElem? (i := 5) rfl, rfl, rfl, rfl, rfl⟩
theorem lk_1_12 : LinkV PP "LatticeEarleyL2" 12 m14 := ⟨List.mem_of_getElem? (i := 63) rfl, List.mem_of_getElem? (i := 64) rfl, List.mem_of_getElem? (i := 66) rfl, List.mem_of_getElem? (i := 65) rfl, List.mem_of_getElem? (i := 67) rfl, rfl, rfl⟩
theorem lk_1_16 : LinkV PP "LatticeEarleyL2" 16 m15 := ⟨List.mem_of_getElem? (i := 104) rfl, List.mem_of_getElem? (i := 105) rfl, List.mem_of_getElem? (i := 107) rfl, List.mem_of_getElem? (i := 106) rfl, List.mem_of_getElem? (i := 108) rfl, rfl, rfl⟩
theorem lk_1_20 : LinkV PP "LatticeEarleyL2" 20 m18 := ⟨List.mem_of_getElem? (i := 109) rfl, List.mem_of_getElem? (i := 110) rfl, List.mem_of_getElem? (i := 112) rfl, List.mem_of_getElem? (i := 111) rfl, List.mem_of_getElem? (i := 113) rfl, rfl, rfl⟩
theorem lk_1_24 : LinkV PP "LatticeEarleyL2" 24 m19 := ⟨List.mem_of_getElem? (i := 118) rfl, List.mem_of_getElem? (i := 119) rfl, List.mem_of_getElem? (i := 121) rfl, List.mem_of_getElem? (i := 120) rfl, List.mem_of_getElem? (i := 122) rfl, rfl, rfl⟩
theorem lk_1_27 : LinkV PP "LatticeEarleyL2" 27 m20 := ⟨List.mem_of_getElem? (i := 123) rfl, List.mem_of_getElem? (i := 124) rfl, List.mem_of_getElem? (i := 126) rfl, List.mem_of_getElem? (i := 125) rfl, List.mem_of_getElem? (i := 127) rfl, rfl, rfl⟩
theorem facts1 {Z : State} {a0 : Array Value} (hw : ∀ d ∈ tables_1, d.before a0 Z = true) : Facts Z a0 ci1 := by
  refine ⟨hw _ (List.mem_of_getElem? (i := 1) rfl), hw _ (List.mem_of_getElem? (i := 2) rfl), ?_, ?_, by decide, ?_, by decide⟩
  · intro f x hx
    match f, hx with
    | 0, hx => cases hx; exact ⟨Or.inl (hw _ (List.mem_of_getElem? (i := 11) rfl)), by decide⟩
    | 1, hx => cases hx; exact ⟨Or.inl (hw _ (List.mem_of_getElem? (i := 42) rfl)), by decide⟩
    | 2, hx => cases hx; exact ⟨Or.inl (hw _ (List.mem_of_getElem? (i := 48) rfl)), by decide⟩
    | 3, hx => cases hx; exact ⟨Or.inl (hw _ (List.mem_of_getElem? (i := 50) rfl)), by decide⟩
    | 4, hx => cases hx; exact ⟨Or.inl (hw _ (List.mem_of_getElem? (i := 56) rfl)), by decide⟩
    | 5, hx => cases hx; exact ⟨Or.inl (hw _ (List.mem_of_getElem? (i := 58) rfl)), by decide⟩
    | n + 6, hx => simp [cS, ci1] at hx
  · intro q x hx
    match q, hx with
    | 0, hx => cases hx; exact ⟨Or.inl (hw _ (List.mem_of_getElem? (i := 14) rfl)), by decide⟩
    | 1, hx => cases hx; exact ⟨Or.inl (hw _ (List.mem_of_getElem? (i := 16) rfl)), by decide⟩
    | 2, hx => cases hx; exact ⟨Or.inl (hw _ (List.mem_of_getElem? (i := 18) rfl)), by decide⟩
    | 3, hx => cases hx; exact ⟨Or.inl (hw _ (List.mem_of_getElem? (i := 20) rfl)), by decide⟩
    | 4, hx => cases hx; exact ⟨Or.inl (hw _ (List.mem_of_getElem? (i := 22) rfl)), by decide⟩
    | 5, hx => cases hx; exact ⟨Or.inl (hw _ (List.mem_of_getElem? (i := 24) rfl)), by decide⟩
    | 6, hx => cases hx; exact ⟨Or.inl (hw _ (List.mem_of_getElem? (i := 26) rfl)), by decide⟩
    | 7, hx => cases hx; exact ⟨Or.inl (hw _ (List.mem_of_getElem? (i := 28) rfl)), by decide⟩
    | 8, hx => cases hx; exact ⟨Or.inl (hw _ (List.mem_of_getElem? (i := 30) rfl)), by decide⟩
    | 9, hx => cases hx; exact ⟨Or.inl (hw _ (List.mem_of_getElem? (i := 32) rfl)), by decide⟩
    | 10, hx => cases hx; exact ⟨Or.inl (hw _ (List.mem_of_getElem? (i := 34) rfl)), by decide⟩
    | 11, hx => cases hx; exact ⟨Or.inl (hw _ (List.mem_of_getElem? (i := 36) rfl)), by decide⟩
    | n + 12, hx => simp [cA, ci1] at hx
  · intro f x hx
    match f, hx with
    | 0, hx => cases hx; rfl
    | 1, hx => cases hx; rfl
    | 2, hx => cases hx; rfl
    | 3, hx => cases hx; rfl
    | 4, hx => cases hx; rfl
    | 5, hx => cases hx; rfl
    | n + 6, hx => simp [cS, ci1] at hx
def k_clampNodes  (v1 : Int32)  : Int32 :=
  if v1 < (2 : Int32) then
    (2 : Int32)
  else
    if (8 : Int32) < v1 then
      (8 : Int32)
    else
      v1
def k_becomeBuilding   (s : S) : S :=
  sI (sI s 4 (0 : Int32)) 5 (-1 : Int32)
def k_clearStore_93  : Nat → Int32 → S → Option S
  | 0, _, _ => none
  | n + 1, v1, s =>
    if v1 < (36 : Int32) then
      (Jvm.AM.st (gA s 7) v1 (0 : Int32)).bind fun a105 =>
      k_clearStore_93 n (v1 + (1 : Int32)) (sA s 7 a105)
    else
      some s
def k_clearStore_91   (s : S) : Option S :=
  k_clearStore_93 BIG (0 : Int32) s
def k_clearStore_58  : Nat → Int32 → S → Option S
  | 0, _, _ => none
  | n + 1, v1, s =>
    if v1 < (12 : Int32) then
      (Jvm.AM.st (gA s 4) v1 (0 : Int32)).bind fun a70 =>
      (Jvm.AM.st (gA s 5) v1 (0 : Int32)).bind fun a77 =>
      (Jvm.AM.st (gA s 6) v1 (0 : Int32)).bind fun a84 =>
      k_clearStore_58 n (v1 + (1 : Int32)) (sA (sA (sA s 4 a70) 5 a77) 6 a84)
    else
      k_clearStore_91 s
def k_clearStore_56   (s : S) : Option S :=
  k_clearStore_58 BIG (0 : Int32) s
def k_clearStore_16  : Nat → Int32 → S → Option S
  | 0, _, _ => none
  | n + 1, v1, s =>
    if v1 < (16 : Int32) then
      (Jvm.AM.st (gA s 0) v1 (0 : Int32)).bind fun a28 =>
      (Jvm.AM.st (gA s 1) v1 (0 : Int32)).bind fun a35 =>
      (Jvm.AM.st (gA s 2) v1 (0 : Int32)).bind fun a42 =>
      (Jvm.AM.st (gA s 3) v1 (0 : Int32)).bind fun a49 =>
      k_clearStore_16 n (v1 + (1 : Int32)) (sA (sA (sA (sA s 0 a28) 1 a35) 2 a42) 3 a49)
    else
      k_clearStore_56 s
def k_clearStore   (s : S) : Option S :=
  k_clearStore_16 BIG (0 : Int32) (k_becomeBuilding (sI (sI s 2 (0 : Int32)) 3 (0 : Int32)))
def k_clearTables_37  : Nat → Int32 → S → Option S
  | 0, _, _ => none
  | n + 1, v1, s =>
    if v1 < (3072 : Int32) then
      (Jvm.AM.st (gA s 9) v1 (gI s 0)).bind fun a53 =>
      (Jvm.AM.st (gA s 10) v1 (gI s 0)).bind fun a63 =>
      k_clearTables_37 n (v1 + (1 : Int32)) (sA (sA s 9 a53) 10 a63)
    else
      some s
def k_clearTables_35   (s : S) : Option S :=
  k_clearTables_37 BIG (0 : Int32) s
def k_clearTables_2  : Nat → Int32 → S → Option S
  | 0, _, _ => none
  | n + 1, v1, s =>
    if v1 < (1024 : Int32) then
      (Jvm.AM.st (gA s 8) v1 (gI s 0)).bind fun a18 =>
      (Jvm.AM.st (gA s 11) v1 (gI s 0)).bind fun a28 =>
      k_clearTables_2 n (v1 + (1 : Int32)) (sA (sA s 8 a18) 11 a28)
    else
      k_clearTables_35 s
def k_clearTables   (s : S) : Option S :=
  k_clearTables_2 BIG (0 : Int32) s
def k_init  (v1 : Int32)  : Option S :=
  (k_clearStore (sI (sA (sA (sA (sA (sA (sA (sA (sA (sA (sA (sA (sA (sI s0 0 (1073741824 : Int32)) 0 (rep 16 0)) 1 (rep 16 0)) 2 (rep 16 0)) 3 (rep 16 0)) 4 (rep 12 0)) 5 (rep 12 0)) 6 (rep 12 0)) 7 (rep 36 0)) 8 (rep 1024 0)) 9 (rep 3072 0)) 10 (rep 3072 0)) 11 (rep 1024 0)) 1 (k_clampNodes v1))).bind fun r120 =>
  (k_clearTables r120).bind fun r124 =>
  some r124
def k_scanEdges   (s : S) : Option Unit :=
  if (0 : Int32) < (gI s 2) then
    (ix (gA s 2) (0 : Int32)).bind fun a16 =>
    (ix (gA s 0) (0 : Int32)).bind fun a22 =>
    (ix (gA s 1) (0 : Int32)).bind fun a28 =>
    (ix (gA s 3) (0 : Int32)).bind fun a34 =>
    none
  else
    some ()
def k_seedItems_20  (v1 : Int32) (v2 : Int32) (s : S) : Option Unit :=
  (ix (gA s 5) v1).bind fun a30 =>
  none
def k_seedItems_2  : Nat → Int32 → S → Option Unit
  | 0, _, _ => none
  | n + 1, v1, s =>
    if v1 < (gI s 3) then
      if (0 : Int32) < (gI s 1) then
        k_seedItems_20 v1 (0 : Int32) s
      else
        k_seedItems_2 n (v1 + (1 : Int32)) s
    else
      some ()
def k_seedItems   (s : S) : Option Unit :=
  k_seedItems_2 BIG (0 : Int32) s
def k_insideRound  (v1 : Int32) (v2 : Int32) (s : S) : Option Int32 :=
  if (0 : Int32) < (gI s 3) then
    none
  else
    some (0 : Int32)
def k_closeInsideCell_5  : Nat → Int32 → Int32 → Int32 → Int32 → S → Option Unit
  | 0, _, _, _, _, _ => none
  | n + 1, v1, v2, v3, v4, s =>
    if v3 = 0 then
      some ()
    else
      if v4 < (24 : Int32) then
        (k_insideRound v1 v2 s).bind fun r19 =>
        k_closeInsideCell_5 n v1 v2 r19 (v4 + (1 : Int32)) s
      else
        some ()
def k_closeInsideCell  (v1 : Int32) (v2 : Int32) (s : S) : Option Unit :=
  k_closeInsideCell_5 BIG v1 v2 (1 : Int32) (0 : Int32) s
def k_runInside_20 (k10 : Int32 → S → Option Unit) : Nat → Int32 → Int32 → S → Option Unit
  | 0, _, _, _ => none
  | n + 1, v1, v2, s =>
    if v2 < 0 then
      k10 (v1 + (1 : Int32)) s
    else
      (k_closeInsideCell v2 v1 s).bind fun r27 =>
      k_runInside_20 k10 n v1 (v2 + (-1 : Int32)) s
def k_runInside_10  : Nat → Int32 → S → Option Unit
  | 0, _, _ => none
  | n + 1, v1, s =>
    if v1 < (gI s 1) then
      k_runInside_20 (fun v1 s => k_runInside_10 n v1 s) BIG v1 v1 s
    else
      some ()
def k_runInside   (s : S) : Option Unit :=
  (k_scanEdges s).bind fun r1 =>
  (k_seedItems s).bind fun r5 =>
  k_runInside_10 BIG (0 : Int32) s
def k_isCode  (v1 : Int32)  : Int32 :=
  if v1 < 0 then
    (0 : Int32)
  else
    if v1 < (16 : Int32) then
      (1 : Int32)
    else
      (0 : Int32)
def k_isNode  (v1 : Int32) (s : S) : Int32 :=
  if v1 < 0 then
    (0 : Int32)
  else
    if v1 < (gI s 1) then
      (1 : Int32)
    else
      (0 : Int32)
def k_spanSlot  (v1 : Int32) (v2 : Int32) (v3 : Int32) (s : S) : Int32 :=
  if (k_isCode v1) = 0 then
    (-1 : Int32)
  else
    if (k_isNode v2 s) = 0 then
      (-1 : Int32)
    else
      if (k_isNode v3 s) = 0 then
        (-1 : Int32)
      else
        ((v1 * (64 : Int32)) + (v2 * (8 : Int32))) + v3
def k_getSpan  (v1 : Int32) (v2 : Int32) (v3 : Int32) (s : S) : Option Int32 :=
  if (k_spanSlot v1 v2 v3 s) < 0 then
    some (gI s 0)
  else
    (ix (gA s 8) (k_spanSlot v1 v2 v3 s)).bind fun a25 =>
    some a25
def k_parse   (s : S) : Option (Int32 × S) :=
  (k_clearTables s).bind fun r1 =>
  (k_runInside r1).bind fun r5 =>
  (k_getSpan (8 : Int32) (0 : Int32) ((gI r1 1) - (1 : Int32)) r1).bind fun r20 =>
  if r20 < (gI r1 0) then
    none
  else
    if (2 : Int32) = (1 : Int32) then
      some ((1 : Int32), sI (sI r1 4 (2 : Int32)) 5 (-1 : Int32))
    else
      some ((0 : Int32), sI (sI r1 4 (2 : Int32)) 5 (-1 : Int32))
def k_status   (s : S) : Int32 :=
  gI s 4
def k_inRange  (v1 : Int32) (v2 : Int32) (v3 : Int32)  : Int32 :=
  if v1 < v2 then
    (0 : Int32)
  else
    if v3 < v1 then
      (0 : Int32)
    else
      (1 : Int32)
def k_edgeRefused  (v1 : Int32) (v2 : Int32) (v3 : Int32) (v4 : Int32) (s : S) : Int32 :=
  if (gI s 2) < (16 : Int32) then
    if v1 < 0 then
      (1 : Int32)
    else
      if ((gI s 1) - (1 : Int32)) < v2 then
        (1 : Int32)
      else
        if v1 < v2 then
          if (k_inRange v3 (0 : Int32) (7 : Int32)) = 0 then
            (1 : Int32)
          else
            if (k_inRange v4 (0 : Int32) (100 : Int32)) = 0 then
              (1 : Int32)
            else
              (0 : Int32)
        else
          (1 : Int32)
  else
    (1 : Int32)
def k_addEdge  (v1 : Int32) (v2 : Int32) (v3 : Int32) (v4 : Int32) (s : S) : Option (Int32 × S) :=
  if (k_edgeRefused v1 v2 v3 v4 s) = 0 then
    (Jvm.AM.st (gA s 0) (gI s 2) v1).bind fun a27 =>
    (Jvm.AM.st (gA s 1) (gI s 2) v2).bind fun a35 =>
    (Jvm.AM.st (gA s 2) (gI s 2) v3).bind fun a43 =>
    (Jvm.AM.st (gA s 3) (gI s 2) v4).bind fun a52 =>
    some (gI s 2, (k_becomeBuilding (sI (sA (sA (sA (sA s 0 a27) 1 a35) 2 a43) 3 a52) 2 ((gI s 2) + (1 : Int32)))))
  else
    some ((-1 : Int32), s)
def k_edgeCount   (s : S) : Int32 :=
  gI s 2
def k_edgeInfo  (v1 : Int32) (v2 : Int32) (s : S) : Option Int32 :=
  if v1 < 0 then
    some (-1 : Int32)
  else
    if v1 < (gI s 2) then
      if v2 = 0 then
        (ix (gA s 0) v1).bind fun a23 =>
        some a23
      else
        if v2 = (1 : Int32) then
          (ix (gA s 1) v1).bind fun a35 =>
          some a35
        else
          if v2 = (2 : Int32) then
            (ix (gA s 2) v1).bind fun a47 =>
            some a47
          else
            if v2 = (3 : Int32) then
              (ix (gA s 3) v1).bind fun a59 =>
              some a59
            else
              some (-1 : Int32)
    else
      some (-1 : Int32)
def law_77  (v1 : Int32) (v2 : Int32) (v3 : Int32) (v4 : Int32) (p0 : Int32) (t0 : S) : Option (Int32 × S) :=
  (k_parse t0).bind fun r81 =>
  if r81.1 = 0 then
    if (k_status r81.2) = (2 : Int32) then
      (k_addEdge v1 v2 v3 v4 r81.2).bind fun r107 =>
      (k_edgeInfo (0 : Int32) (0 : Int32) r107.2).bind fun r123 =>
      (k_edgeInfo (0 : Int32) (1 : Int32) r107.2).bind fun r132 =>
      (k_edgeInfo (0 : Int32) (2 : Int32) r107.2).bind fun r141 =>
      (k_edgeInfo (0 : Int32) (3 : Int32) r107.2).bind fun r150 =>
      if p0 = 0 then
        if r107.1 = (-1 : Int32) then
          if (k_edgeCount r107.2) = 0 then
            if r123 = (-1 : Int32) then
              if r132 = (-1 : Int32) then
                if r141 = (-1 : Int32) then
                  if r150 = (-1 : Int32) then
                    if (k_status r107.2) = (2 : Int32) then
                      some ((1 : Int32), r107.2)
                    else
                      some ((0 : Int32), r107.2)
                  else
                    some ((0 : Int32), r107.2)
                else
                  some ((0 : Int32), r107.2)
              else
                some ((0 : Int32), r107.2)
            else
              some ((0 : Int32), r107.2)
          else
            some ((0 : Int32), r107.2)
        else
          some ((0 : Int32), r107.2)
      else
        if r107.1 = 0 then
          if (k_edgeCount r107.2) = (1 : Int32) then
            if r123 = v1 then
              if r132 = v2 then
                if r141 = v3 then
                  if r150 = v4 then
                    if (k_status r107.2) = 0 then
                      some ((1 : Int32), r107.2)
                    else
                      some ((0 : Int32), r107.2)
                  else
                    some ((0 : Int32), r107.2)
                else
                  some ((0 : Int32), r107.2)
              else
                some ((0 : Int32), r107.2)
            else
              some ((0 : Int32), r107.2)
          else
            some ((0 : Int32), r107.2)
        else
          some ((0 : Int32), r107.2)
    else
      some ((0 : Int32), r81.2)
  else
    some ((0 : Int32), r81.2)
def law_31  (v1 : Int32) (v2 : Int32) (v3 : Int32) (v4 : Int32) (p0 : Int32) (t0 : S) : Option (Int32 × S) :=
  law_77 v1 v2 v3 v4 (if v1 < 0 then (0 : Int32) else if (p0 - (1 : Int32)) < v2 then (0 : Int32) else if v1 < v2 then if v3 < 0 then (0 : Int32) else if (7 : Int32) < v3 then (0 : Int32) else if v4 < 0 then (0 : Int32) else if (100 : Int32) < v4 then (0 : Int32) else (1 : Int32) else (0 : Int32)) t0
def law  (v0 : Int32) (v1 : Int32) (v2 : Int32) (v3 : Int32) (v4 : Int32)  : Option (Int32 × S) :=
  (k_init v0).bind fun r5 =>
  law_31 v1 v2 v3 v4 (if v0 < (2 : Int32) then (2 : Int32) else if (8 : Int32) < v0 then (8 : Int32) else v0) r5
set_option maxRecDepth 65536 in
set_option maxHeartbeats 4000000 in
theorem k_clampNodes_ok  {s : S} : ∀ (v1 : Int32)   (o : Int32), k_clampNodes v1 = o → Go PP m0 0 [.val (.ref 1), .val (.int v1)] [] (none, [(12, s)]) (some (.int o), (none, [(12, s)])) := by
  intro v1 o hf
  unfold k_clampNodes at hf
  refine go_iloadN (pc := 0) d0_0 rfl (go_iconst (pc := 1) d0_1 ci_2 ?_)
  by_cases h1 : v1 < (2 : Int32)
  · replace hf := (if_pos h1).symm.trans hf
    refine go_icN (pc := 2) d0_2 (XT.ii_ge_f h1) ?_
    refine go_iconst (pc := 5) d0_5 ci_2 ?_
    cases hf
    exact go_iret (pc := 6) rfl d0_6
  · replace hf := (if_neg h1).symm.trans hf
    refine go_icY (pc := 2) (pc' := 7) d0_2 (XT.ii_ge_t h1) j_2_5 ?_
    refine go_iloadN (pc := 7) d0_7 rfl (go_bipush (pc := 8) d0_8 cb_8 ?_)
    by_cases h2 : (8 : Int32) < v1
    · replace hf := (if_pos h2).symm.trans hf
      refine go_icN (pc := 10) d0_10 (XT.ii_le_f h2) ?_
      refine go_bipush (pc := 13) d0_13 cb_8 ?_
      cases hf
      exact go_iret (pc := 15) rfl d0_15
    · replace hf := (if_neg h2).symm.trans hf
      refine go_icY (pc := 10) (pc' := 16) d0_10 (XT.ii_le_t h2) j_10_6 ?_
      refine go_iloadN (pc := 16) d0_16 rfl ?_
      cases hf
      exact go_iret (pc := 17) rfl d0_17
theorem c_k_clampNodes (v1 : Int32) (s : S) : Call PP m0 [.ref 1, .int v1] (none, [(12, s)]) (some (.int (k_clampNodes v1)), (none, [(12, s)])) := call_of_go pl_0 rfl (fun h => nomatch h) (k_clampNodes_ok v1   _ rfl)
set_option maxRecDepth 65536 in
set_option maxHeartbeats 4000000 in
theorem k_becomeBuilding_ok  : ∀  (s : S)  (o : S), k_becomeBuilding s = o → Go PP m1 0 [.val (.ref 1)] [] (none, [(12, s)]) (none, (none, [(12, o)])) := by
  intro s o hf
  unfold k_becomeBuilding at hf
  refine go_aloadN (pc := 0) d1_0 rfl (go_iconst (pc := 1) d1_1 ci_0 (go_putI (pc := 2) fs_95 hm_1 (wr_4 _) hn_1 d1_2 (go_aloadN (pc := 5) d1_5 rfl (go_iconst (pc := 6) d1_6 ci_m1 (go_putI (pc := 7) fs_98 hm_1 (wr_5 _) hn_1 d1_7 ?_)))))
  cases hf
  exact go_ret (pc := 10) rfl d1_10
theorem c_k_becomeBuilding (s : S) : Call PP m1 [.ref 1] (none, [(12, s)]) (none, (none, [(12, (k_becomeBuilding s))])) := call_of_go pl_0 rfl (fun _ => rfl) (k_becomeBuilding_ok s   _ rfl)
set_option maxRecDepth 65536 in
set_option maxHeartbeats 4000000 in
theorem k_clearStore_93_ok  : ∀ (n : Nat) (v1 : Int32) (s : S)  (o : S), k_clearStore_93 n v1 s = some o → Go PP m2 93 [.val (.ref 1), .val (.int v1)] [] (none, [(12, s)]) (none, (none, [(12, o)])) := by
  intro n
  induction n with
  | zero => intro v1 s o hf; exact nomatch hf
  | succ n ih =>
    intro v1 s o hf
    unfold k_clearStore_93 at hf
    refine go_iloadN (pc := 93) d2_93 rfl (go_bipush (pc := 94) d2_94 cb_36 ?_)
    by_cases h1 : v1 < (36 : Int32)
    · replace hf := (if_pos h1).symm.trans hf
      refine go_icN (pc := 96) d2_96 (XT.ii_ge_f h1) ?_
      refine go_aloadN (pc := 99) d2_99 rfl (go_getA (pc := 100) fa_36 hm_2 d2_100 rfl (go_iloadN (pc := 103) d2_103 rfl (go_iconst (pc := 104) d2_104 ci_0 ?_)))
      obtain ⟨a105, e2, hf⟩ := Option.bind_eq_some_iff.mp hf
      refine go_iastore (pc := 105) (q := 7) ar_7 rfl hn_2 e2 d2_105 ?_
      refine go_iinc (pc := 106) (L' := [.val (.ref 1), .val (.int (v1 + (1 : Int32)))]) d2_106 rfl ci_1 rfl (go_goto (pc := 109) (pc' := 93) d2_109 j_109_m16 ?_)
      exact ih (v1 + (1 : Int32)) (sA s 7 a105) _ hf
    · replace hf := (if_neg h1).symm.trans hf
      refine go_icY (pc := 96) (pc' := 112) d2_96 (XT.ii_ge_t h1) j_96_16 ?_
      cases hf
      exact go_ret (pc := 112) rfl d2_112
set_option maxRecDepth 65536 in
set_option maxHeartbeats 4000000 in
theorem k_clearStore_91_ok  : ∀  (s : S) (x1 : Slot) (hx1 : k1 x1) (o : S), k_clearStore_91 s = some o → Go PP m2 91 [.val (.ref 1), x1] [] (none, [(12, s)]) (none, (none, [(12, o)])) := by
  intro s x1 hx1 o hf
  unfold k_clearStore_91 at hf
  refine go_iconst (pc := 91) d2_91 ci_0 (go_istoreN (pc := 92) (L' := [.val (.ref 1), .val (.int (0 : Int32))]) d2_92 (stx rfl hx1 rfl) ?_)
  exact k_clearStore_93_ok BIG (0 : Int32) s _ hf
set_option maxRecDepth 65536 in
set_option maxHeartbeats 4000000 in
theorem k_clearStore_58_ok  : ∀ (n : Nat) (v1 : Int32) (s : S)  (o : S), k_clearStore_58 n v1 s = some o → Go PP m2 58 [.val (.ref 1), .val (.int v1)] [] (none, [(12, s)]) (none, (none, [(12, o)])) := by
  intro n
  induction n with
  | zero => intro v1 s o hf; exact nomatch hf
  | succ n ih =>
    intro v1 s o hf
    unfold k_clearStore_58 at hf
    refine go_iloadN (pc := 58) d2_58 rfl (go_bipush (pc := 59) d2_59 cb_12 ?_)
    by_cases h1 : v1 < (12 : Int32)
    · replace hf := (if_pos h1).symm.trans hf
      refine go_icN (pc := 61) d2_61 (XT.ii_ge_f h1) ?_
      refine go_aloadN (pc := 64) d2_64 rfl (go_getA (pc := 65) fa_27 hm_2 d2_65 rfl (go_iloadN (pc := 68) d2_68 rfl (go_iconst (pc := 69) d2_69 ci_0 ?_)))
      obtain ⟨a70, e2, hf⟩ := Option.bind_eq_some_iff.mp hf
      refine go_iastore (pc := 70) (q := 4) ar_4 rfl hn_2 e2 d2_70 ?_
      refine go_aloadN (pc := 71) d2_71 rfl (go_getA (pc := 72) fa_30 hm_2 d2_72 rfl (go_iloadN (pc := 75) d2_75 rfl (go_iconst (pc := 76) d2_76 ci_0 ?_)))
      obtain ⟨a77, e3, hf⟩ := Option.bind_eq_some_iff.mp hf
      refine go_iastore (pc := 77) (q := 5) ar_5 rfl hn_2 e3 d2_77 ?_
      refine go_aloadN (pc := 78) d2_78 rfl (go_getA (pc := 79) fa_33 hm_2 d2_79 rfl (go_iloadN (pc := 82) d2_82 rfl (go_iconst (pc := 83) d2_83 ci_0 ?_)))
      obtain ⟨a84, e4, hf⟩ := Option.bind_eq_some_iff.mp hf
      refine go_iastore (pc := 84) (q := 6) ar_6 rfl hn_2 e4 d2_84 ?_
      refine go_iinc (pc := 85) (L' := [.val (.ref 1), .val (.int (v1 + (1 : Int32)))]) d2_85 rfl ci_1 rfl (go_goto (pc := 88) (pc' := 58) d2_88 j_88_m30 ?_)
      exact ih (v1 + (1 : Int32)) (sA (sA (sA s 4 a70) 5 a77) 6 a84) _ hf
    · replace hf := (if_neg h1).symm.trans hf
      refine go_icY (pc := 61) (pc' := 91) d2_61 (XT.ii_ge_t h1) j_61_30 ?_
      exact k_clearStore_91_ok s (.val (.int v1)) (Or.inr ⟨_, rfl, rfl⟩) _ hf
set_option maxRecDepth 65536 in
set_option maxHeartbeats 4000000 in
theorem k_clearStore_56_ok  : ∀  (s : S) (x1 : Slot) (hx1 : k1 x1) (o : S), k_clearStore_56 s = some o → Go PP m2 56 [.val (.ref 1), x1] [] (none, [(12, s)]) (none, (none, [(12, o)])) := by
  intro s x1 hx1 o hf
  unfold k_clearStore_56 at hf
  refine go_iconst (pc := 56) d2_56 ci_0 (go_istoreN (pc := 57) (L' := [.val (.ref 1), .val (.int (0 : Int32))]) d2_57 (stx rfl hx1 rfl) ?_)
  exact k_clearStore_58_ok BIG (0 : Int32) s _ hf
set_option maxRecDepth 65536 in
set_option maxHeartbeats 4000000 in
theorem k_clearStore_16_ok  : ∀ (n : Nat) (v1 : Int32) (s : S)  (o : S), k_clearStore_16 n v1 s = some o → Go PP m2 16 [.val (.ref 1), .val (.int v1)] [] (none, [(12, s)]) (none, (none, [(12, o)])) := by
  intro n
  induction n with
  | zero => intro v1 s o hf; exact nomatch hf
  | succ n ih =>
    intro v1 s o hf
    unfold k_clearStore_16 at hf
    refine go_iloadN (pc := 16) d2_16 rfl (go_bipush (pc := 17) d2_17 cb_16 ?_)
    by_cases h1 : v1 < (16 : Int32)
    · replace hf := (if_pos h1).symm.trans hf
      refine go_icN (pc := 19) d2_19 (XT.ii_ge_f h1) ?_
      refine go_aloadN (pc := 22) d2_22 rfl (go_getA (pc := 23) fa_14 hm_2 d2_23 rfl (go_iloadN (pc := 26) d2_26 rfl (go_iconst (pc := 27) d2_27 ci_0 ?_)))
      obtain ⟨a28, e2, hf⟩ := Option.bind_eq_some_iff.mp hf
      refine go_iastore (pc := 28) (q := 0) ar_0 rfl hn_2 e2 d2_28 ?_
      refine go_aloadN (pc := 29) d2_29 rfl (go_getA (pc := 30) fa_18 hm_2 d2_30 rfl (go_iloadN (pc := 33) d2_33 rfl (go_iconst (pc := 34) d2_34 ci_0 ?_)))
      obtain ⟨a35, e3, hf⟩ := Option.bind_eq_some_iff.mp hf
      refine go_iastore (pc := 35) (q := 1) ar_1 rfl hn_2 e3 d2_35 ?_
      refine go_aloadN (pc := 36) d2_36 rfl (go_getA (pc := 37) fa_21 hm_2 d2_37 rfl (go_iloadN (pc := 40) d2_40 rfl (go_iconst (pc := 41) d2_41 ci_0 ?_)))
      obtain ⟨a42, e4, hf⟩ := Option.bind_eq_some_iff.mp hf
      refine go_iastore (pc := 42) (q := 2) ar_2 rfl hn_2 e4 d2_42 ?_
      refine go_aloadN (pc := 43) d2_43 rfl (go_getA (pc := 44) fa_24 hm_2 d2_44 rfl (go_iloadN (pc := 47) d2_47 rfl (go_iconst (pc := 48) d2_48 ci_0 ?_)))
      obtain ⟨a49, e5, hf⟩ := Option.bind_eq_some_iff.mp hf
      refine go_iastore (pc := 49) (q := 3) ar_3 rfl hn_2 e5 d2_49 ?_
      refine go_iinc (pc := 50) (L' := [.val (.ref 1), .val (.int (v1 + (1 : Int32)))]) d2_50 rfl ci_1 rfl (go_goto (pc := 53) (pc' := 16) d2_53 j_53_m37 ?_)
      exact ih (v1 + (1 : Int32)) (sA (sA (sA (sA s 0 a28) 1 a35) 2 a42) 3 a49) _ hf
    · replace hf := (if_neg h1).symm.trans hf
      refine go_icY (pc := 19) (pc' := 56) d2_19 (XT.ii_ge_t h1) j_19_37 ?_
      exact k_clearStore_56_ok s (.val (.int v1)) (Or.inr ⟨_, rfl, rfl⟩) _ hf
set_option maxRecDepth 65536 in
set_option maxHeartbeats 4000000 in
theorem k_clearStore_ok  : ∀  (s : S)  (o : S), k_clearStore s = some o → Go PP m2 0 [.val (.ref 1), .unset] [] (none, [(12, s)]) (none, (none, [(12, o)])) := by
  intro s o hf
  unfold k_clearStore at hf
  refine go_aloadN (pc := 0) d2_0 rfl (go_iconst (pc := 1) d2_1 ci_0 (go_putI (pc := 2) fs_64 hm_2 (wr_2 _) hn_2 d2_2 (go_aloadN (pc := 5) d2_5 rfl (go_iconst (pc := 6) d2_6 ci_0 (go_putI (pc := 7) fs_67 hm_2 (wr_3 _) hn_2 d2_7 (go_aloadN (pc := 10) d2_10 rfl ?_))))))
  refine go_priv (pc := 11) (i := 0) (as := []) (rest := []) (w' := (none, [(12, (k_becomeBuilding (sI (sI s 2 (0 : Int32)) 3 (0 : Int32))))])) lk_0_74 pd_1 rfl oid_0 rfl rfl rfl rfl rfl rfl ⟨rfl, rfl, rfl, rfl, rfl⟩ d2_11 (c_k_becomeBuilding (sI (sI s 2 (0 : Int32)) 3 (0 : Int32))) ?_
  refine go_iconst (pc := 14) d2_14 ci_0 (go_istoreN (pc := 15) (L' := [.val (.ref 1), .val (.int (0 : Int32))]) d2_15 rfl ?_)
  exact k_clearStore_16_ok BIG (0 : Int32) (k_becomeBuilding (sI (sI s 2 (0 : Int32)) 3 (0 : Int32))) _ hf
theorem c_k_clearStore (s : S) (o : S) (hf : k_clearStore s = some o) : Call PP m2 [.ref 1] (none, [(12, s)]) (none, (none, [(12, o)])) := call_of_go pl_0 rfl (fun _ => rfl) (k_clearStore_ok s   _ hf)
set_option maxRecDepth 65536 in
set_option maxHeartbeats 4000000 in
theorem k_clearTables_37_ok  : ∀ (n : Nat) (v1 : Int32) (s : S)  (o : S), k_clearTables_37 n v1 s = some o → Go PP m3 37 [.val (.ref 1), .val (.int v1)] [] (none, [(12, s)]) (none, (none, [(12, o)])) := by
  intro n
  induction n with
  | zero => intro v1 s o hf; exact nomatch hf
  | succ n ih =>
    intro v1 s o hf
    unfold k_clearTables_37 at hf
    refine go_iloadN (pc := 37) d3_37 rfl (go_sipush (pc := 38) d3_38 cs_3072 ?_)
    by_cases h1 : v1 < (3072 : Int32)
    · replace hf := (if_pos h1).symm.trans hf
      refine go_icN (pc := 41) d3_41 (XT.ii_ge_f h1) ?_
      refine go_aloadN (pc := 44) d3_44 rfl (go_getA (pc := 45) fa_42 hm_3 d3_45 rfl (go_iloadN (pc := 48) d3_48 rfl (go_aloadN (pc := 49) d3_49 rfl (go_getI (pc := 50) fs_8 hm_3 d3_50 ?_))))
      obtain ⟨a53, e2, hf⟩ := Option.bind_eq_some_iff.mp hf
      refine go_iastore (pc := 53) (q := 9) ar_9 rfl hn_3 e2 d3_53 ?_
      refine go_aloadN (pc := 54) d3_54 rfl (go_getA (pc := 55) fa_45 hm_3 d3_55 rfl (go_iloadN (pc := 58) d3_58 rfl (go_aloadN (pc := 59) d3_59 rfl (go_getI (pc := 60) fs_8 hm_3 d3_60 ?_))))
      obtain ⟨a63, e3, hf⟩ := Option.bind_eq_some_iff.mp hf
      refine go_iastore (pc := 63) (q := 10) ar_10 rfl hn_3 e3 d3_63 ?_
      refine go_iinc (pc := 64) (L' := [.val (.ref 1), .val (.int (v1 + (1 : Int32)))]) d3_64 rfl ci_1 rfl (go_goto (pc := 67) (pc' := 37) d3_67 j_67_m30 ?_)
      exact ih (v1 + (1 : Int32)) (sA (sA s 9 a53) 10 a63) _ hf
    · replace hf := (if_neg h1).symm.trans hf
      refine go_icY (pc := 41) (pc' := 70) d3_41 (XT.ii_ge_t h1) j_41_29 ?_
      cases hf
      exact go_ret (pc := 70) rfl d3_70
set_option maxRecDepth 65536 in
set_option maxHeartbeats 4000000 in
theorem k_clearTables_35_ok  : ∀  (s : S) (x1 : Slot) (hx1 : k1 x1) (o : S), k_clearTables_35 s = some o → Go PP m3 35 [.val (.ref 1), x1] [] (none, [(12, s)]) (none, (none, [(12, o)])) := by
  intro s x1 hx1 o hf
  unfold k_clearTables_35 at hf
  refine go_iconst (pc := 35) d3_35 ci_0 (go_istoreN (pc := 36) (L' := [.val (.ref 1), .val (.int (0 : Int32))]) d3_36 (stx rfl hx1 rfl) ?_)
  exact k_clearTables_37_ok BIG (0 : Int32) s _ hf
set_option maxRecDepth 65536 in
set_option maxHeartbeats 4000000 in
theorem k_clearTables_2_ok  : ∀ (n : Nat) (v1 : Int32) (s : S)  (o : S), k_clearTables_2 n v1 s = some o → Go PP m3 2 [.val (.ref 1), .val (.int v1)] [] (none, [(12, s)]) (none, (none, [(12, o)])) := by
  intro n
  induction n with
  | zero => intro v1 s o hf; exact nomatch hf
  | succ n ih =>
    intro v1 s o hf
    unfold k_clearTables_2 at hf
    refine go_iloadN (pc := 2) d3_2 rfl (go_sipush (pc := 3) d3_3 cs_1024 ?_)
    by_cases h1 : v1 < (1024 : Int32)
    · replace hf := (if_pos h1).symm.trans hf
      refine go_icN (pc := 6) d3_6 (XT.ii_ge_f h1) ?_
      refine go_aloadN (pc := 9) d3_9 rfl (go_getA (pc := 10) fa_39 hm_3 d3_10 rfl (go_iloadN (pc := 13) d3_13 rfl (go_aloadN (pc := 14) d3_14 rfl (go_getI (pc := 15) fs_8 hm_3 d3_15 ?_))))
      obtain ⟨a18, e2, hf⟩ := Option.bind_eq_some_iff.mp hf
      refine go_iastore (pc := 18) (q := 8) ar_8 rfl hn_3 e2 d3_18 ?_
      refine go_aloadN (pc := 19) d3_19 rfl (go_getA (pc := 20) fa_48 hm_3 d3_20 rfl (go_iloadN (pc := 23) d3_23 rfl (go_aloadN (pc := 24) d3_24 rfl (go_getI (pc := 25) fs_8 hm_3 d3_25 ?_))))
      obtain ⟨a28, e3, hf⟩ := Option.bind_eq_some_iff.mp hf
      refine go_iastore (pc := 28) (q := 11) ar_11 rfl hn_3 e3 d3_28 ?_
      refine go_iinc (pc := 29) (L' := [.val (.ref 1), .val (.int (v1 + (1 : Int32)))]) d3_29 rfl ci_1 rfl (go_goto (pc := 32) (pc' := 2) d3_32 j_32_m30 ?_)
      exact ih (v1 + (1 : Int32)) (sA (sA s 8 a18) 11 a28) _ hf
    · replace hf := (if_neg h1).symm.trans hf
      refine go_icY (pc := 6) (pc' := 35) d3_6 (XT.ii_ge_t h1) j_6_29 ?_
      exact k_clearTables_35_ok s (.val (.int v1)) (Or.inr ⟨_, rfl, rfl⟩) _ hf
set_option maxRecDepth 65536 in
set_option maxHeartbeats 4000000 in
theorem k_clearTables_ok  : ∀  (s : S)  (o : S), k_clearTables s = some o → Go PP m3 0 [.val (.ref 1), .unset] [] (none, [(12, s)]) (none, (none, [(12, o)])) := by
  intro s o hf
  unfold k_clearTables at hf
  refine go_iconst (pc := 0) d3_0 ci_0 (go_istoreN (pc := 1) (L' := [.val (.ref 1), .val (.int (0 : Int32))]) d3_1 rfl ?_)
  exact k_clearTables_2_ok BIG (0 : Int32) s _ hf
theorem c_k_clearTables (s : S) (o : S) (hf : k_clearTables s = some o) : Call PP m3 [.ref 1] (none, [(12, s)]) (none, (none, [(12, o)])) := call_of_go pl_0 rfl (fun _ => rfl) (k_clearTables_ok s   _ hf)
set_option maxRecDepth 65536 in
set_option maxHeartbeats 4000000 in
theorem k_init_ok  : ∀ (v1 : Int32)   (o : S), k_init v1 = some o → Go PP m4 0 [.val (.ref 1), .val (.int v1)] [] (none, [(0, s0)]) (none, (none, [(12, o)])) := by
  intro v1 o hf
  unfold k_init at hf
  refine go_aloadN (pc := 0) d4_0 rfl ?_
  refine go_objinit (pc := 1) (rest := []) (a := 0) (List.mem_of_getElem? (i := 6) rfl) (List.mem_of_getElem? (i := 7) rfl) (List.mem_of_getElem? (i := 8) rfl) rfl rfl d4_1 ?_
  refine go_aloadN (pc := 4) d4_4 rfl (go_ldc (pc := 5) (v := (1073741824 : Int32)) d4_5 (List.mem_of_getElem? (i := 9) rfl) (go_putI (pc := 7) fs_8 hm_4 (wr_0 _) hn_4 d4_7 (go_aloadN (pc := 10) d4_10 rfl (go_bipush (pc := 11) d4_11 cb_16 ?_))))
  refine go_newI (pc := 13) (ty := .int) rfl (by decide) ar_0 (List.mem_of_getElem? (i := 12) rfl) (List.mem_of_getElem? (i := 13) rfl) hm_4 (Or.inl (List.mem_of_getElem? (i := 14) rfl)) rfl hn_4 (by decide) rfl rfl rfl rfl d4_13 d4_15 ?_
  refine go_aloadN (pc := 18) d4_18 rfl (go_bipush (pc := 19) d4_19 cb_16 ?_)
  refine go_newI (pc := 21) (ty := .int) rfl (by decide) ar_1 (List.mem_of_getElem? (i := 12) rfl) (List.mem_of_getElem? (i := 15) rfl) hm_4 (Or.inl (List.mem_of_getElem? (i := 16) rfl)) rfl hn_4 (by decide) rfl rfl rfl rfl d4_21 d4_23 ?_
  refine go_aloadN (pc := 26) d4_26 rfl (go_bipush (pc := 27) d4_27 cb_16 ?_)
  refine go_newI (pc := 29) (ty := .int) rfl (by decide) ar_2 (List.mem_of_getElem? (i := 12) rfl) (List.mem_of_getElem? (i := 17) rfl) hm_4 (Or.inl (List.mem_of_getElem? (i := 18) rfl)) rfl hn_4 (by decide) rfl rfl rfl rfl d4_29 d4_31 ?_
  refine go_aloadN (pc := 34) d4_34 rfl (go_bipush (pc := 35) d4_35 cb_16 ?_)
  refine go_newI (pc := 37) (ty := .int) rfl (by decide) ar_3 (List.mem_of_getElem? (i := 12) rfl) (List.mem_of_getElem? (i := 19) rfl) hm_4 (Or.inl (List.mem_of_getElem? (i := 20) rfl)) rfl hn_4 (by decide) rfl rfl rfl rfl d4_37 d4_39 ?_
  refine go_aloadN (pc := 42) d4_42 rfl (go_bipush (pc := 43) d4_43 cb_12 ?_)
  refine go_newI (pc := 45) (ty := .int) rfl (by decide) ar_4 (List.mem_of_getElem? (i := 12) rfl) (List.mem_of_getElem? (i := 21) rfl) hm_4 (Or.inl (List.mem_of_getElem? (i := 22) rfl)) rfl hn_4 (by decide) rfl rfl rfl rfl d4_45 d4_47 ?_
  refine go_aloadN (pc := 50) d4_50 rfl (go_bipush (pc := 51) d4_51 cb_12 ?_)
  refine go_newI (pc := 53) (ty := .int) rfl (by decide) ar_5 (List.mem_of_getElem? (i := 12) rfl) (List.mem_of_getElem? (i := 23) rfl) hm_4 (Or.inl (List.mem_of_getElem? (i := 24) rfl)) rfl hn_4 (by decide) rfl rfl rfl rfl d4_53 d4_55 ?_
  refine go_aloadN (pc := 58) d4_58 rfl (go_bipush (pc := 59) d4_59 cb_12 ?_)
  refine go_newI (pc := 61) (ty := .int) rfl (by decide) ar_6 (List.mem_of_getElem? (i := 12) rfl) (List.mem_of_getElem? (i := 25) rfl) hm_4 (Or.inl (List.mem_of_getElem? (i := 26) rfl)) rfl hn_4 (by decide) rfl rfl rfl rfl d4_61 d4_63 ?_
  refine go_aloadN (pc := 66) d4_66 rfl (go_bipush (pc := 67) d4_67 cb_36 ?_)
  refine go_newI (pc := 69) (ty := .int) rfl (by decide) ar_7 (List.mem_of_getElem? (i := 12) rfl) (List.mem_of_getElem? (i := 27) rfl) hm_4 (Or.inl (List.mem_of_getElem? (i := 28) rfl)) rfl hn_4 (by decide) rfl rfl rfl rfl d4_69 d4_71 ?_
  refine go_aloadN (pc := 74) d4_74 rfl (go_sipush (pc := 75) d4_75 cs_1024 ?_)
  refine go_newI (pc := 78) (ty := .int) rfl (by decide) ar_8 (List.mem_of_getElem? (i := 12) rfl) (List.mem_of_getElem? (i := 29) rfl) hm_4 (Or.inl (List.mem_of_getElem? (i := 30) rfl)) rfl hn_4 (by decide) rfl rfl rfl rfl d4_78 d4_80 ?_
  refine go_aloadN (pc := 83) d4_83 rfl (go_sipush (pc := 84) d4_84 cs_3072 ?_)
  refine go_newI (pc := 87) (ty := .int) rfl (by decide) ar_9 (List.mem_of_getElem? (i := 12) rfl) (List.mem_of_getElem? (i := 31) rfl) hm_4 (Or.inl (List.mem_of_getElem? (i := 32) rfl)) rfl hn_4 (by decide) rfl rfl rfl rfl d4_87 d4_89 ?_
  refine go_aloadN (pc := 92) d4_92 rfl (go_sipush (pc := 93) d4_93 cs_3072 ?_)
  refine go_newI (pc := 96) (ty := .int) rfl (by decide) ar_10 (List.mem_of_getElem? (i := 12) rfl) (List.mem_of_getElem? (i := 33) rfl) hm_4 (Or.inl (List.mem_of_getElem? (i := 34) rfl)) rfl hn_4 (by decide) rfl rfl rfl rfl d4_96 d4_98 ?_
  refine go_aloadN (pc := 101) d4_101 rfl (go_sipush (pc := 102) d4_102 cs_1024 ?_)
  refine go_newI (pc := 105) (ty := .int) rfl (by decide) ar_11 (List.mem_of_getElem? (i := 12) rfl) (List.mem_of_getElem? (i := 35) rfl) hm_4 (Or.inl (List.mem_of_getElem? (i := 36) rfl)) rfl hn_4 (by decide) rfl rfl rfl rfl d4_105 d4_107 ?_
  refine go_aloadN (pc := 110) d4_110 rfl (go_aloadN (pc := 111) d4_111 rfl (go_iloadN (pc := 112) d4_112 rfl ?_))
  refine go_priv (pc := 113) (i := 0) (as := [.int v1]) (rest := [.ref 1]) (w' := (none, [(12, sA (sA (sA (sA (sA (sA (sA (sA (sA (sA (sA (sA (sI s0 0 (1073741824 : Int32)) 0 (rep 16 0)) 1 (rep 16 0)) 2 (rep 16 0)) 3 (rep 16 0)) 4 (rep 12 0)) 5 (rep 12 0)) 6 (rep 12 0)) 7 (rep 36 0)) 8 (rep 1024 0)) 9 (rep 3072 0)) 10 (rep 3072 0)) 11 (rep 1024 0))])) lk_0_51 pd_0 rfl oid_0 rfl rfl rfl rfl rfl rfl ⟨rfl, rfl, rfl, rfl, rfl⟩ d4_113 (c_k_clampNodes v1 (sA (sA (sA (sA (sA (sA (sA (sA (sA (sA (sA (sA (sI s0 0 (1073741824 : Int32)) 0 (rep 16 0)) 1 (rep 16 0)) 2 (rep 16 0)) 3 (rep 16 0)) 4 (rep 12 0)) 5 (rep 12 0)) 6 (rep 12 0)) 7 (rep 36 0)) 8 (rep 1024 0)) 9 (rep 3072 0)) 10 (rep 3072 0)) 11 (rep 1024 0))) ?_
  refine go_putI (pc := 116) fs_55 hm_4 (wr_1 _) hn_4 d4_116 (go_aloadN (pc := 119) d4_119 rfl ?_)
  obtain ⟨r120, e13, hf⟩ := Option.bind_eq_some_iff.mp hf
  refine go_priv (pc := 120) (i := 0) (as := []) (rest := []) (w' := (none, [(12, r120)])) lk_0_58 pd_2 rfl oid_0 rfl rfl rfl rfl rfl rfl ⟨rfl, rfl, rfl, rfl, rfl⟩ d4_120 (c_k_clearStore (sI (sA (sA (sA (sA (sA (sA (sA (sA (sA (sA (sA (sA (sI s0 0 (1073741824 : Int32)) 0 (rep 16 0)) 1 (rep 16 0)) 2 (rep 16 0)) 3 (rep 16 0)) 4 (rep 12 0)) 5 (rep 12 0)) 6 (rep 12 0)) 7 (rep 36 0)) 8 (rep 1024 0)) 9 (rep 3072 0)) 10 (rep 3072 0)) 11 (rep 1024 0)) 1 (k_clampNodes v1)) _ e13) ?_
  refine go_aloadN (pc := 123) d4_123 rfl ?_
  obtain ⟨r124, e14, hf⟩ := Option.bind_eq_some_iff.mp hf
  refine go_priv (pc := 124) (i := 0) (as := []) (rest := []) (w' := (none, [(12, r124)])) lk_0_61 pd_3 rfl oid_0 rfl rfl rfl rfl rfl rfl ⟨rfl, rfl, rfl, rfl, rfl⟩ d4_124 (c_k_clearTables r120 _ e14) ?_
  cases hf
  exact go_ret (pc := 127) rfl d4_127
theorem c_k_init (v1 : Int32) (o : S) (hf : k_init v1 = some o) : Call PP m4 [.ref 1, .int v1] (none, [(0, s0)]) (none, (none, [(12, o)])) := call_of_go pl_0 rfl (fun _ => rfl) (k_init_ok v1   _ hf)
set_option maxRecDepth 65536 in
set_option maxHeartbeats 4000000 in
theorem k_scanEdges_ok  : ∀  (s : S)  (o : Unit), k_scanEdges s = some o → Go PP m5 0 [.val (.ref 1), .unset] [] (none, [(12, s)]) (none, (none, [(12, s)])) := by
  intro s o hf
  unfold k_scanEdges at hf
  refine go_iconst (pc := 0) d5_0 ci_0 (go_istoreN (pc := 1) (L' := [.val (.ref 1), .val (.int (0 : Int32))]) d5_1 rfl (go_iloadN (pc := 2) d5_2 rfl (go_aloadN (pc := 3) d5_3 rfl (go_getI (pc := 4) fs_64 hm_5 d5_4 ?_))))
  by_cases h1 : (0 : Int32) < (gI s 2)
  · replace hf := (if_pos h1).symm.trans hf
    refine go_icN (pc := 7) d5_7 (XT.ii_ge_f h1) ?_
    refine go_aloadN (pc := 10) d5_10 rfl (go_aloadN (pc := 11) d5_11 rfl (go_getA (pc := 12) fa_21 hm_5 d5_12 rfl (go_iloadN (pc := 15) d5_15 rfl ?_)))
    obtain ⟨a16, e2, hf⟩ := Option.bind_eq_some_iff.mp hf
    refine go_iaload (pc := 16) (q := 2) ar_2 rfl e2 d5_16 ?_
    refine go_aloadN (pc := 17) d5_17 rfl (go_getA (pc := 18) fa_14 hm_5 d5_18 rfl (go_iloadN (pc := 21) d5_21 rfl ?_))
    obtain ⟨a22, e3, hf⟩ := Option.bind_eq_some_iff.mp hf
    refine go_iaload (pc := 22) (q := 0) ar_0 rfl e3 d5_22 ?_
    refine go_aloadN (pc := 23) d5_23 rfl (go_getA (pc := 24) fa_18 hm_5 d5_24 rfl (go_iloadN (pc := 27) d5_27 rfl ?_))
    obtain ⟨a28, e4, hf⟩ := Option.bind_eq_some_iff.mp hf
    refine go_iaload (pc := 28) (q := 1) ar_1 rfl e4 d5_28 ?_
    refine go_aloadN (pc := 29) d5_29 rfl (go_getA (pc := 30) fa_24 hm_5 d5_30 rfl (go_iloadN (pc := 33) d5_33 rfl ?_))
    obtain ⟨a34, e5, hf⟩ := Option.bind_eq_some_iff.mp hf
    refine go_iaload (pc := 34) (q := 3) ar_3 rfl e5 d5_34 ?_
    exact nomatch hf
  · replace hf := (if_neg h1).symm.trans hf
    refine go_icY (pc := 7) (pc' := 45) d5_7 (XT.ii_ge_t h1) j_7_38 ?_
    cases hf
    exact go_ret (pc := 45) rfl d5_45
theorem c_k_scanEdges (s : S) (o : Unit) (hf : k_scanEdges s = some o) : Call PP m5 [.ref 1] (none, [(12, s)]) (none, (none, [(12, s)])) := call_of_go pl_0 rfl (fun _ => rfl) (k_scanEdges_ok s   _ hf)
set_option maxRecDepth 65536 in
set_option maxHeartbeats 4000000 in
theorem k_seedItems_20_ok  : ∀ (v1 : Int32) (v2 : Int32) (s : S)  (o : Unit), k_seedItems_20 v1 v2 s = some o → Go PP m6 20 [.val (.ref 1), .val (.int v1), .val (.int v2)] [] (none, [(12, s)]) (none, (none, [(12, s)])) := by
  intro v1 v2 s o hf
  unfold k_seedItems_20 at hf
  refine go_aloadN (pc := 20) d6_20 rfl (go_iloadN (pc := 21) d6_21 rfl (go_iconst (pc := 22) d6_22 ci_0 (go_iloadN (pc := 23) d6_23 rfl (go_iloadN (pc := 24) d6_24 rfl (go_aloadN (pc := 25) d6_25 rfl (go_getA (pc := 26) fa_30 hm_6 d6_26 rfl (go_iloadN (pc := 29) d6_29 rfl ?_)))))))
  obtain ⟨a30, e1, hf⟩ := Option.bind_eq_some_iff.mp hf
  refine go_iaload (pc := 30) (q := 5) ar_5 rfl e1 d6_30 ?_
  exact nomatch hf
set_option maxRecDepth 65536 in
set_option maxHeartbeats 4000000 in
theorem k_seedItems_2_ok  : ∀ (n : Nat) (v1 : Int32) (s : S) (x2 : Slot) (hx2 : k1 x2) (o : Unit), k_seedItems_2 n v1 s = some o → Go PP m6 2 [.val (.ref 1), .val (.int v1), x2] [] (none, [(12, s)]) (none, (none, [(12, s)])) := by
  intro n
  induction n with
  | zero => intro v1 s x2 hx2 o hf; exact nomatch hf
  | succ n ih =>
    intro v1 s x2 hx2 o hf
    unfold k_seedItems_2 at hf
    refine go_iloadN (pc := 2) d6_2 rfl (go_aloadN (pc := 3) d6_3 rfl (go_getI (pc := 4) fs_67 hm_6 d6_4 ?_))
    by_cases h1 : v1 < (gI s 3)
    · replace hf := (if_pos h1).symm.trans hf
      refine go_icN (pc := 7) d6_7 (XT.ii_ge_f h1) ?_
      refine go_iconst (pc := 10) d6_10 ci_0 (go_istoreN (pc := 11) (L' := [.val (.ref 1), .val (.int v1), .val (.int (0 : Int32))]) d6_11 (stx rfl hx2 rfl) (go_iloadN (pc := 12) d6_12 rfl (go_aloadN (pc := 13) d6_13 rfl (go_getI (pc := 14) fs_55 hm_6 d6_14 ?_))))
      by_cases h2 : (0 : Int32) < (gI s 1)
      · replace hf := (if_pos h2).symm.trans hf
        refine go_icN (pc := 17) d6_17 (XT.ii_ge_f h2) ?_
        exact k_seedItems_20_ok v1 (0 : Int32) s _ hf
      · replace hf := (if_neg h2).symm.trans hf
        refine go_icY (pc := 17) (pc' := 41) d6_17 (XT.ii_ge_t h2) j_17_24 ?_
        refine go_iinc (pc := 41) (L' := [.val (.ref 1), .val (.int (v1 + (1 : Int32))), .val (.int (0 : Int32))]) d6_41 rfl ci_1 rfl (go_goto (pc := 44) (pc' := 2) d6_44 j_44_m42 ?_)
        exact ih (v1 + (1 : Int32)) s (.val (.int (0 : Int32))) (Or.inr ⟨_, rfl, rfl⟩) _ hf
    · replace hf := (if_neg h1).symm.trans hf
      refine go_icY (pc := 7) (pc' := 47) d6_7 (XT.ii_ge_t h1) j_7_40 ?_
      cases hf
      exact go_ret (pc := 47) rfl d6_47
set_option maxRecDepth 65536 in
set_option maxHeartbeats 4000000 in
theorem k_seedItems_ok  : ∀  (s : S)  (o : Unit), k_seedItems s = some o → Go PP m6 0 [.val (.ref 1), .unset, .unset] [] (none, [(12, s)]) (none, (none, [(12, s)])) := by
  intro s o hf
  unfold k_seedItems at hf
  refine go_iconst (pc := 0) d6_0 ci_0 (go_istoreN (pc := 1) (L' := [.val (.ref 1), .val (.int (0 : Int32)), .unset]) d6_1 rfl ?_)
  exact k_seedItems_2_ok BIG (0 : Int32) s .unset (Or.inl rfl) _ hf
theorem c_k_seedItems (s : S) (o : Unit) (hf : k_seedItems s = some o) : Call PP m6 [.ref 1] (none, [(12, s)]) (none, (none, [(12, s)])) := call_of_go pl_0 rfl (fun _ => rfl) (k_seedItems_ok s   _ hf)
set_option maxRecDepth 65536 in
set_option maxHeartbeats 4000000 in
theorem k_insideRound_ok  : ∀ (v1 : Int32) (v2 : Int32) (s : S)  (o : Int32), k_insideRound v1 v2 s = some o → Go PP m7 0 [.val (.ref 1), .val (.int v1), .val (.int v2), .unset, .unset] [] (none, [(12, s)]) (some (.int o), (none, [(12, s)])) := by
  intro v1 v2 s o hf
  unfold k_insideRound at hf
  refine go_iconst (pc := 0) d7_0 ci_0 (go_istoreN (pc := 1) (L' := [.val (.ref 1), .val (.int v1), .val (.int v2), .val (.int (0 : Int32)), .unset]) d7_1 rfl (go_iconst (pc := 2) d7_2 ci_0 (go_istore (pc := 3) (L' := [.val (.ref 1), .val (.int v1), .val (.int v2), .val (.int (0 : Int32)), .val (.int (0 : Int32))]) d7_3 rfl (go_iload (pc := 5) d7_5 rfl (go_aloadN (pc := 7) d7_7 rfl (go_getI (pc := 8) fs_67 hm_7 d7_8 ?_))))))
  by_cases h1 : (0 : Int32) < (gI s 3)
  · replace hf := (if_pos h1).symm.trans hf
    refine go_icN (pc := 11) d7_11 (XT.ii_ge_f h1) ?_
    refine go_aloadN (pc := 14) d7_14 rfl (go_iload (pc := 15) d7_15 rfl (go_iloadN (pc := 17) d7_17 rfl (go_iloadN (pc := 18) d7_18 rfl ?_)))
    exact nomatch hf
  · replace hf := (if_neg h1).symm.trans hf
    refine go_icY (pc := 11) (pc' := 46) d7_11 (XT.ii_ge_t h1) j_11_35 ?_
    refine go_iloadN (pc := 46) d7_46 rfl ?_
    cases hf
    exact go_zret (pc := 47) rfl d7_47 (show (0 : Int32) = nar .boolean (0 : Int32) by decide)
theorem c_k_insideRound (v1 : Int32) (v2 : Int32) (s : S) (o : Int32) (hf : k_insideRound v1 v2 s = some o) : Call PP m7 [.ref 1, .int v1, .int v2] (none, [(12, s)]) (some (.int o), (none, [(12, s)])) := call_of_go pl_0 rfl (fun h => nomatch h) (k_insideRound_ok v1 v2 s   _ hf)
set_option maxRecDepth 65536 in
set_option maxHeartbeats 4000000 in
theorem k_closeInsideCell_5_ok  : ∀ (n : Nat) (v1 : Int32) (v2 : Int32) (v3 : Int32) (v4 : Int32) (s : S)  (o : Unit), k_closeInsideCell_5 n v1 v2 v3 v4 s = some o → Go PP m8 5 [.val (.ref 1), .val (.int v1), .val (.int v2), .val (.int v3), .val (.int v4)] [] (none, [(12, s)]) (none, (none, [(12, s)])) := by
  intro n
  induction n with
  | zero => intro v1 v2 v3 v4 s o hf; exact nomatch hf
  | succ n ih =>
    intro v1 v2 v3 v4 s o hf
    unfold k_closeInsideCell_5 at hf
    refine go_iloadN (pc := 5) d8_5 rfl ?_
    by_cases h1 : v3 = 0
    · replace hf := (if_pos h1).symm.trans hf
      refine go_ifY (pc := 6) (pc' := 29) d8_6 (XT.i0_eq_t h1) j_6_23 ?_
      cases hf
      exact go_ret (pc := 29) rfl d8_29
    · replace hf := (if_neg h1).symm.trans hf
      refine go_ifN (pc := 6) d8_6 (XT.i0_eq_f h1) ?_
      refine go_iload (pc := 9) d8_9 rfl (go_bipush (pc := 11) d8_11 cb_24 ?_)
      by_cases h2 : v4 < (24 : Int32)
      · replace hf := (if_pos h2).symm.trans hf
        refine go_icN (pc := 13) d8_13 (XT.ii_ge_f h2) ?_
        refine go_aloadN (pc := 16) d8_16 rfl (go_iloadN (pc := 17) d8_17 rfl (go_iloadN (pc := 18) d8_18 rfl ?_))
        obtain ⟨r19, e3, hf⟩ := Option.bind_eq_some_iff.mp hf
        refine go_priv (pc := 19) (i := 0) (as := [.int v1, .int v2]) (rest := []) (w' := (none, [(12, s)])) lk_0_163 pd_7 rfl oid_0 rfl rfl rfl rfl rfl rfl ⟨rfl, rfl, rfl, rfl, rfl⟩ d8_19 (c_k_insideRound v1 v2 s _ e3) ?_
        refine go_istoreN (pc := 22) (L' := [.val (.ref 1), .val (.int v1), .val (.int v2), .val (.int r19), .val (.int v4)]) d8_22 rfl (go_iinc (pc := 23) (L' := [.val (.ref 1), .val (.int v1), .val (.int v2), .val (.int r19), .val (.int (v4 + (1 : Int32)))]) d8_23 rfl ci_1 rfl (go_goto (pc := 26) (pc' := 5) d8_26 j_26_m21 ?_))
        exact ih v1 v2 r19 (v4 + (1 : Int32)) s _ hf
      · replace hf := (if_neg h2).symm.trans hf
        refine go_icY (pc := 13) (pc' := 29) d8_13 (XT.ii_ge_t h2) j_13_16 ?_
        cases hf
        exact go_ret (pc := 29) rfl d8_29
set_option maxRecDepth 65536 in
set_option maxHeartbeats 4000000 in
theorem k_closeInsideCell_ok  : ∀ (v1 : Int32) (v2 : Int32) (s : S)  (o : Unit), k_closeInsideCell v1 v2 s = some o → Go PP m8 0 [.val (.ref 1), .val (.int v1), .val (.int v2), .unset, .unset] [] (none, [(12, s)]) (none, (none, [(12, s)])) := by
  intro v1 v2 s o hf
  unfold k_closeInsideCell at hf
  refine go_iconst (pc := 0) d8_0 ci_1 (go_istoreN (pc := 1) (L' := [.val (.ref 1), .val (.int v1), .val (.int v2), .val (.int (1 : Int32)), .unset]) d8_1 rfl (go_iconst (pc := 2) d8_2 ci_0 (go_istore (pc := 3) (L' := [.val (.ref 1), .val (.int v1), .val (.int v2), .val (.int (1 : Int32)), .val (.int (0 : Int32))]) d8_3 rfl ?_)))
  exact k_closeInsideCell_5_ok BIG v1 v2 (1 : Int32) (0 : Int32) s _ hf
theorem c_k_closeInsideCell (v1 : Int32) (v2 : Int32) (s : S) (o : Unit) (hf : k_closeInsideCell v1 v2 s = some o) : Call PP m8 [.ref 1, .int v1, .int v2] (none, [(12, s)]) (none, (none, [(12, s)])) := call_of_go pl_0 rfl (fun _ => rfl) (k_closeInsideCell_ok v1 v2 s   _ hf)
def T_k_runInside_10 (k10 : Int32 → S → Option Unit) : Prop := ∀ (v1 : Int32) (s : S) (x2 : Slot) (hx2 : k1 x2) (o : Unit), k10 v1 s = some o → Go PP m9 10 [.val (.ref 1), .val (.int v1), x2] [] (none, [(12, s)]) (none, (none, [(12, s)]))
set_option maxRecDepth 65536 in
set_option maxHeartbeats 4000000 in
theorem k_runInside_20_ok {k10 : Int32 → S → Option Unit} (hk10 : T_k_runInside_10 k10) : ∀ (n : Nat) (v1 : Int32) (v2 : Int32) (s : S)  (o : Unit), k_runInside_20 k10 n v1 v2 s = some o → Go PP m9 20 [.val (.ref 1), .val (.int v1), .val (.int v2)] [] (none, [(12, s)]) (none, (none, [(12, s)])) := by
  intro n
  induction n with
  | zero => intro v1 v2 s o hf; exact nomatch hf
  | succ n ih =>
    intro v1 v2 s o hf
    unfold k_runInside_20 at hf
    refine go_iloadN (pc := 20) d9_20 rfl ?_
    by_cases h1 : v2 < 0
    · replace hf := (if_pos h1).symm.trans hf
      refine go_ifY (pc := 21) (pc' := 36) d9_21 (XT.i0_lt_t h1) j_21_15 ?_
      refine go_iinc (pc := 36) (L' := [.val (.ref 1), .val (.int (v1 + (1 : Int32))), .val (.int v2)]) d9_36 rfl ci_1 rfl (go_goto (pc := 39) (pc' := 10) d9_39 j_39_m29 ?_)
      exact hk10 (v1 + (1 : Int32)) s (.val (.int v2)) (Or.inr ⟨_, rfl, rfl⟩) _ hf
    · replace hf := (if_neg h1).symm.trans hf
      refine go_ifN (pc := 21) d9_21 (XT.i0_lt_f h1) ?_
      refine go_aloadN (pc := 24) d9_24 rfl (go_iloadN (pc := 25) d9_25 rfl (go_iloadN (pc := 26) d9_26 rfl ?_))
      obtain ⟨r27, e2, hf⟩ := Option.bind_eq_some_iff.mp hf
      refine go_priv (pc := 27) (i := 0) (as := [.int v2, .int v1]) (rest := []) (w' := (none, [(12, s)])) lk_0_152 pd_8 rfl oid_0 rfl rfl rfl rfl rfl rfl ⟨rfl, rfl, rfl, rfl, rfl⟩ d9_27 (c_k_closeInsideCell v2 v1 s _ e2) ?_
      refine go_iinc (pc := 30) (L' := [.val (.ref 1), .val (.int v1), .val (.int (v2 + (-1 : Int32)))]) d9_30 rfl ci_m1 rfl (go_goto (pc := 33) (pc' := 20) d9_33 j_33_m13 ?_)
      exact ih v1 (v2 + (-1 : Int32)) s _ hf
set_option maxRecDepth 65536 in
set_option maxHeartbeats 4000000 in
theorem k_runInside_10_ok  : ∀ (n : Nat) (v1 : Int32) (s : S) (x2 : Slot) (hx2 : k1 x2) (o : Unit), k_runInside_10 n v1 s = some o → Go PP m9 10 [.val (.ref 1), .val (.int v1), x2] [] (none, [(12, s)]) (none, (none, [(12, s)])) := by
  intro n
  induction n with
  | zero => intro v1 s x2 hx2 o hf; exact nomatch hf
  | succ n ih =>
    intro v1 s x2 hx2 o hf
    unfold k_runInside_10 at hf
    refine go_iloadN (pc := 10) d9_10 rfl (go_aloadN (pc := 11) d9_11 rfl (go_getI (pc := 12) fs_55 hm_9 d9_12 ?_))
    by_cases h1 : v1 < (gI s 1)
    · replace hf := (if_pos h1).symm.trans hf
      refine go_icN (pc := 15) d9_15 (XT.ii_ge_f h1) ?_
      refine go_iloadN (pc := 18) d9_18 rfl (go_istoreN (pc := 19) (L' := [.val (.ref 1), .val (.int v1), .val (.int v1)]) d9_19 (stx rfl hx2 rfl) ?_)
      exact k_runInside_20_ok ih BIG v1 v1 s _ hf
    · replace hf := (if_neg h1).symm.trans hf
      refine go_icY (pc := 15) (pc' := 42) d9_15 (XT.ii_ge_t h1) j_15_27 ?_
      cases hf
      exact go_ret (pc := 42) rfl d9_42
set_option maxRecDepth 65536 in
set_option maxHeartbeats 4000000 in
theorem k_runInside_ok  : ∀  (s : S)  (o : Unit), k_runInside s = some o → Go PP m9 0 [.val (.ref 1), .unset, .unset] [] (none, [(12, s)]) (none, (none, [(12, s)])) := by
  intro s o hf
  unfold k_runInside at hf
  refine go_aloadN (pc := 0) d9_0 rfl ?_
  obtain ⟨r1, e1, hf⟩ := Option.bind_eq_some_iff.mp hf
  refine go_priv (pc := 1) (i := 0) (as := []) (rest := []) (w' := (none, [(12, s)])) lk_0_146 pd_5 rfl oid_0 rfl rfl rfl rfl rfl rfl ⟨rfl, rfl, rfl, rfl, rfl⟩ d9_1 (c_k_scanEdges s _ e1) ?_
  refine go_aloadN (pc := 4) d9_4 rfl ?_
  obtain ⟨r5, e2, hf⟩ := Option.bind_eq_some_iff.mp hf
  refine go_priv (pc := 5) (i := 0) (as := []) (rest := []) (w' := (none, [(12, s)])) lk_0_149 pd_6 rfl oid_0 rfl rfl rfl rfl rfl rfl ⟨rfl, rfl, rfl, rfl, rfl⟩ d9_5 (c_k_seedItems s _ e2) ?_
  refine go_iconst (pc := 8) d9_8 ci_0 (go_istoreN (pc := 9) (L' := [.val (.ref 1), .val (.int (0 : Int32)), .unset]) d9_9 rfl ?_)
  exact k_runInside_10_ok BIG (0 : Int32) s .unset (Or.inl rfl) _ hf
theorem c_k_runInside (s : S) (o : Unit) (hf : k_runInside s = some o) : Call PP m9 [.ref 1] (none, [(12, s)]) (none, (none, [(12, s)])) := call_of_go pl_0 rfl (fun _ => rfl) (k_runInside_ok s   _ hf)
set_option maxRecDepth 65536 in
set_option maxHeartbeats 4000000 in
theorem k_isCode_ok  {s : S} : ∀ (v1 : Int32)   (o : Int32), k_isCode v1 = o → Go PP m10 0 [.val (.ref 1), .val (.int v1)] [] (none, [(12, s)]) (some (.int o), (none, [(12, s)])) := by
  intro v1 o hf
  unfold k_isCode at hf
  refine go_iloadN (pc := 0) d10_0 rfl ?_
  by_cases h1 : v1 < 0
  · replace hf := (if_pos h1).symm.trans hf
    refine go_ifY (pc := 1) (pc' := 14) d10_1 (XT.i0_lt_t h1) j_1_13 ?_
    refine go_iconst (pc := 14) d10_14 ci_0 ?_
    cases hf
    exact go_zret (pc := 15) rfl d10_15 (show (0 : Int32) = nar .boolean (0 : Int32) by decide)
  · replace hf := (if_neg h1).symm.trans hf
    refine go_ifN (pc := 1) d10_1 (XT.i0_lt_f h1) ?_
    refine go_iloadN (pc := 4) d10_4 rfl (go_bipush (pc := 5) d10_5 cb_16 ?_)
    by_cases h2 : v1 < (16 : Int32)
    · replace hf := (if_pos h2).symm.trans hf
      refine go_icN (pc := 7) d10_7 (XT.ii_ge_f h2) ?_
      refine go_iconst (pc := 10) d10_10 ci_1 (go_goto (pc := 11) (pc' := 15) d10_11 j_11_4 ?_)
      cases hf
      exact go_zret (pc := 15) rfl d10_15 (show (1 : Int32) = nar .boolean (1 : Int32) by decide)
    · replace hf := (if_neg h2).symm.trans hf
      refine go_icY (pc := 7) (pc' := 14) d10_7 (XT.ii_ge_t h2) j_7_7 ?_
      refine go_iconst (pc := 14) d10_14 ci_0 ?_
      cases hf
      exact go_zret (pc := 15) rfl d10_15 (show (0 : Int32) = nar .boolean (0 : Int32) by decide)
theorem c_k_isCode (v1 : Int32) (s : S) : Call PP m10 [.ref 1, .int v1] (none, [(12, s)]) (some (.int (k_isCode v1)), (none, [(12, s)])) := call_of_go pl_0 rfl (fun h => nomatch h) (k_isCode_ok v1   _ rfl)
set_option maxRecDepth 65536 in
set_option maxHeartbeats 4000000 in
theorem k_isNode_ok  : ∀ (v1 : Int32) (s : S)  (o : Int32), k_isNode v1 s = o → Go PP m11 0 [.val (.ref 1), .val (.int v1)] [] (none, [(12, s)]) (some (.int o), (none, [(12, s)])) := by
  intro v1 s o hf
  unfold k_isNode at hf
  refine go_iloadN (pc := 0) d11_0 rfl ?_
  by_cases h1 : v1 < 0
  · replace hf := (if_pos h1).symm.trans hf
    refine go_ifY (pc := 1) (pc' := 16) d11_1 (XT.i0_lt_t h1) j_1_15 ?_
    refine go_iconst (pc := 16) d11_16 ci_0 ?_
    cases hf
    exact go_zret (pc := 17) rfl d11_17 (show (0 : Int32) = nar .boolean (0 : Int32) by decide)
  · replace hf := (if_neg h1).symm.trans hf
    refine go_ifN (pc := 1) d11_1 (XT.i0_lt_f h1) ?_
    refine go_iloadN (pc := 4) d11_4 rfl (go_aloadN (pc := 5) d11_5 rfl (go_getI (pc := 6) fs_55 hm_11 d11_6 ?_))
    by_cases h2 : v1 < (gI s 1)
    · replace hf := (if_pos h2).symm.trans hf
      refine go_icN (pc := 9) d11_9 (XT.ii_ge_f h2) ?_
      refine go_iconst (pc := 12) d11_12 ci_1 (go_goto (pc := 13) (pc' := 17) d11_13 j_13_4 ?_)
      cases hf
      exact go_zret (pc := 17) rfl d11_17 (show (1 : Int32) = nar .boolean (1 : Int32) by decide)
    · replace hf := (if_neg h2).symm.trans hf
      refine go_icY (pc := 9) (pc' := 16) d11_9 (XT.ii_ge_t h2) j_9_7 ?_
      refine go_iconst (pc := 16) d11_16 ci_0 ?_
      cases hf
      exact go_zret (pc := 17) rfl d11_17 (show (0 : Int32) = nar .boolean (0 : Int32) by decide)
theorem c_k_isNode (v1 : Int32) (s : S) : Call PP m11 [.ref 1, .int v1] (none, [(12, s)]) (some (.int (k_isNode v1 s)), (none, [(12, s)])) := call_of_go pl_0 rfl (fun h => nomatch h) (k_isNode_ok v1 s   _ rfl)
set_option maxRecDepth 65536 in
set_option maxHeartbeats 4000000 in
theorem k_spanSlot_ok  : ∀ (v1 : Int32) (v2 : Int32) (v3 : Int32) (s : S)  (o : Int32), k_spanSlot v1 v2 v3 s = o → Go PP m12 0 [.val (.ref 1), .val (.int v1), .val (.int v2), .val (.int v3)] [] (none, [(12, s)]) (some (.int o), (none, [(12, s)])) := by
  intro v1 v2 v3 s o hf
  unfold k_spanSlot at hf
  refine go_aloadN (pc := 0) d12_0 rfl (go_iloadN (pc := 1) d12_1 rfl ?_)
  refine go_priv (pc := 2) (i := 0) (as := [.int v1]) (rest := []) (w' := (none, [(12, s)])) lk_0_107 pd_10 rfl oid_0 rfl rfl rfl rfl rfl rfl ⟨rfl, rfl, rfl, rfl, rfl⟩ d12_2 (c_k_isCode v1 s) ?_
  by_cases h1 : (k_isCode v1) = 0
  · replace hf := (if_pos h1).symm.trans hf
    refine go_ifY (pc := 5) (pc' := 24) d12_5 (XT.i0_eq_t h1) j_5_19 ?_
    refine go_iconst (pc := 24) d12_24 ci_m1 ?_
    cases hf
    exact go_iret (pc := 25) rfl d12_25
  · replace hf := (if_neg h1).symm.trans hf
    refine go_ifN (pc := 5) d12_5 (XT.i0_eq_f h1) ?_
    refine go_aloadN (pc := 8) d12_8 rfl (go_iloadN (pc := 9) d12_9 rfl ?_)
    refine go_priv (pc := 10) (i := 0) (as := [.int v2]) (rest := []) (w' := (none, [(12, s)])) lk_0_111 pd_11 rfl oid_0 rfl rfl rfl rfl rfl rfl ⟨rfl, rfl, rfl, rfl, rfl⟩ d12_10 (c_k_isNode v2 s) ?_
    by_cases h2 : (k_isNode v2 s) = 0
    · replace hf := (if_pos h2).symm.trans hf
      refine go_ifY (pc := 13) (pc' := 24) d12_13 (XT.i0_eq_t h2) j_13_11 ?_
      refine go_iconst (pc := 24) d12_24 ci_m1 ?_
      cases hf
      exact go_iret (pc := 25) rfl d12_25
    · replace hf := (if_neg h2).symm.trans hf
      refine go_ifN (pc := 13) d12_13 (XT.i0_eq_f h2) ?_
      refine go_aloadN (pc := 16) d12_16 rfl (go_iloadN (pc := 17) d12_17 rfl ?_)
      refine go_priv (pc := 18) (i := 0) (as := [.int v3]) (rest := []) (w' := (none, [(12, s)])) lk_0_111 pd_11 rfl oid_0 rfl rfl rfl rfl rfl rfl ⟨rfl, rfl, rfl, rfl, rfl⟩ d12_18 (c_k_isNode v3 s) ?_
      by_cases h3 : (k_isNode v3 s) = 0
      · replace hf := (if_pos h3).symm.trans hf
        refine go_ifN (pc := 21) d12_21 (XT.i0_ne_f h3) ?_
        refine go_iconst (pc := 24) d12_24 ci_m1 ?_
        cases hf
        exact go_iret (pc := 25) rfl d12_25
      · replace hf := (if_neg h3).symm.trans hf
        refine go_ifY (pc := 21) (pc' := 26) d12_21 (XT.i0_ne_t h3) j_21_5 ?_
        refine go_iloadN (pc := 26) d12_26 rfl (go_bipush (pc := 27) d12_27 cb_64 (go_imul (pc := 29) d12_29 (go_iloadN (pc := 30) d12_30 rfl (go_bipush (pc := 31) d12_31 cb_8 (go_imul (pc := 33) d12_33 (go_iadd (pc := 34) d12_34 (go_iloadN (pc := 35) d12_35 rfl ?_)))))))
        refine go_iadd (pc := 36) d12_36 ?_
        cases hf
        exact go_iret (pc := 37) rfl d12_37
theorem c_k_spanSlot (v1 : Int32) (v2 : Int32) (v3 : Int32) (s : S) : Call PP m12 [.ref 1, .int v1, .int v2, .int v3] (none, [(12, s)]) (some (.int (k_spanSlot v1 v2 v3 s)), (none, [(12, s)])) := call_of_go pl_0 rfl (fun h => nomatch h) (k_spanSlot_ok v1 v2 v3 s   _ rfl)
set_option maxRecDepth 65536 in
set_option maxHeartbeats 4000000 in
theorem k_getSpan_ok  : ∀ (v1 : Int32) (v2 : Int32) (v3 : Int32) (s : S)  (o : Int32), k_getSpan v1 v2 v3 s = some o → Go PP m13 0 [.val (.ref 1), .val (.int v1), .val (.int v2), .val (.int v3), .unset] [] (none, [(12, s)]) (some (.int o), (none, [(12, s)])) := by
  intro v1 v2 v3 s o hf
  unfold k_getSpan at hf
  refine go_aloadN (pc := 0) d13_0 rfl (go_iloadN (pc := 1) d13_1 rfl (go_iloadN (pc := 2) d13_2 rfl (go_iloadN (pc := 3) d13_3 rfl ?_)))
  refine go_priv (pc := 4) (i := 0) (as := [.int v1, .int v2, .int v3]) (rest := []) (w' := (none, [(12, s)])) lk_0_139 pd_12 rfl oid_0 rfl rfl rfl rfl rfl rfl ⟨rfl, rfl, rfl, rfl, rfl⟩ d13_4 (c_k_spanSlot v1 v2 v3 s) ?_
  refine go_istore (pc := 7) (L' := [.val (.ref 1), .val (.int v1), .val (.int v2), .val (.int v3), .val (.int (k_spanSlot v1 v2 v3 s))]) d13_7 rfl (go_iload (pc := 9) d13_9 rfl ?_)
  by_cases h1 : (k_spanSlot v1 v2 v3 s) < 0
  · replace hf := (if_pos h1).symm.trans hf
    refine go_ifN (pc := 11) d13_11 (XT.i0_ge_f h1) ?_
    refine go_aloadN (pc := 14) d13_14 rfl (go_getI (pc := 15) fs_8 hm_13 d13_15 ?_)
    cases hf
    exact go_iret (pc := 18) rfl d13_18
  · replace hf := (if_neg h1).symm.trans hf
    refine go_ifY (pc := 11) (pc' := 19) d13_11 (XT.i0_ge_t h1) j_11_8 ?_
    refine go_aloadN (pc := 19) d13_19 rfl (go_getA (pc := 20) fa_39 hm_13 d13_20 rfl (go_iload (pc := 23) d13_23 rfl ?_))
    obtain ⟨a25, e2, hf⟩ := Option.bind_eq_some_iff.mp hf
    refine go_iaload (pc := 25) (q := 8) ar_8 rfl e2 d13_25 ?_
    cases hf
    exact go_iret (pc := 26) rfl d13_26
theorem c_k_getSpan (v1 : Int32) (v2 : Int32) (v3 : Int32) (s : S) (o : Int32) (hf : k_getSpan v1 v2 v3 s = some o) : Call PP m13 [.ref 1, .int v1, .int v2, .int v3] (none, [(12, s)]) (some (.int o), (none, [(12, s)])) := call_of_go pl_0 rfl (fun h => nomatch h) (k_getSpan_ok v1 v2 v3 s   _ hf)
set_option maxRecDepth 65536 in
set_option maxHeartbeats 4000000 in
theorem k_parse_ok  : ∀  (s : S)  (o : Int32 × S), k_parse s = some o → Go PP m14 0 [.val (.ref 1), .unset, .unset] [] (none, [(12, s)]) (some (.int o.1), (none, [(12, o.2)])) := by
  intro s o hf
  unfold k_parse at hf
  refine go_aloadN (pc := 0) d14_0 rfl ?_
  obtain ⟨r1, e1, hf⟩ := Option.bind_eq_some_iff.mp hf
  refine go_priv (pc := 1) (i := 0) (as := []) (rest := []) (w' := (none, [(12, r1)])) lk_0_61 pd_3 rfl oid_0 rfl rfl rfl rfl rfl rfl ⟨rfl, rfl, rfl, rfl, rfl⟩ d14_1 (c_k_clearTables s _ e1) ?_
  refine go_aloadN (pc := 4) d14_4 rfl ?_
  obtain ⟨r5, e2, hf⟩ := Option.bind_eq_some_iff.mp hf
  refine go_priv (pc := 5) (i := 0) (as := []) (rest := []) (w' := (none, [(12, r1)])) lk_0_88 pd_9 rfl oid_0 rfl rfl rfl rfl rfl rfl ⟨rfl, rfl, rfl, rfl, rfl⟩ d14_5 (c_k_runInside r1 _ e2) ?_
  refine go_aloadN (pc := 8) d14_8 rfl (go_getI (pc := 9) fs_55 hm_14 d14_9 (go_iconst (pc := 12) d14_12 ci_1 (go_isub (pc := 13) d14_13 (go_istoreN (pc := 14) (L' := [.val (.ref 1), .val (.int ((gI r1 1) - (1 : Int32))), .unset]) d14_14 rfl (go_aloadN (pc := 15) d14_15 rfl (go_bipush (pc := 16) d14_16 cb_8 (go_iconst (pc := 18) d14_18 ci_0 ?_)))))))
  refine go_iloadN (pc := 19) d14_19 rfl ?_
  obtain ⟨r20, e3, hf⟩ := Option.bind_eq_some_iff.mp hf
  refine go_priv (pc := 20) (i := 0) (as := [.int (8 : Int32), .int (0 : Int32), .int ((gI r1 1) - (1 : Int32))]) (rest := []) (w' := (none, [(12, r1)])) lk_0_91 pd_13 rfl oid_0 rfl rfl rfl rfl rfl rfl ⟨rfl, rfl, rfl, rfl, rfl⟩ d14_20 (c_k_getSpan (8 : Int32) (0 : Int32) ((gI r1 1) - (1 : Int32)) r1 _ e3) ?_
  refine go_istoreN (pc := 23) (L' := [.val (.ref 1), .val (.int ((gI r1 1) - (1 : Int32))), .val (.int r20)]) d14_23 rfl (go_iloadN (pc := 24) d14_24 rfl (go_aloadN (pc := 25) d14_25 rfl (go_getI (pc := 26) fs_8 hm_14 d14_26 ?_)))
  by_cases h4 : r20 < (gI r1 0)
  · replace hf := (if_pos h4).symm.trans hf
    refine go_icN (pc := 29) d14_29 (XT.ii_ge_f h4) ?_
    refine go_aloadN (pc := 32) d14_32 rfl (go_iconst (pc := 33) d14_33 ci_1 (go_putI (pc := 34) fs_95 hm_14 (wr_4 _) hn_14 d14_34 (go_aloadN (pc := 37) d14_37 rfl (go_iloadN (pc := 38) d14_38 rfl (go_putI (pc := 39) fs_98 hm_14 (wr_5 _) hn_14 d14_39 (go_aloadN (pc := 42) d14_42 rfl ?_))))))
    exact nomatch hf
  · replace hf := (if_neg h4).symm.trans hf
    refine go_icY (pc := 29) (pc' := 53) d14_29 (XT.ii_ge_t h4) j_29_24 ?_
    refine go_aloadN (pc := 53) d14_53 rfl (go_iconst (pc := 54) d14_54 ci_2 (go_putI (pc := 55) fs_95 hm_14 (wr_4 _) hn_14 d14_55 (go_aloadN (pc := 58) d14_58 rfl (go_iconst (pc := 59) d14_59 ci_m1 (go_putI (pc := 60) fs_98 hm_14 (wr_5 _) hn_14 d14_60 (go_aloadN (pc := 63) d14_63 rfl (go_getI (pc := 64) fs_95 hm_14 d14_64 ?_)))))))
    refine go_iconst (pc := 67) d14_67 ci_1 ?_
    by_cases h5 : (2 : Int32) = (1 : Int32)
    · replace hf := (if_pos h5).symm.trans hf
      refine go_icN (pc := 68) d14_68 (XT.ii_ne_f h5) ?_
      refine go_iconst (pc := 71) d14_71 ci_1 (go_goto (pc := 72) (pc' := 76) d14_72 j_72_4 ?_)
      cases hf
      exact go_zret (pc := 76) rfl d14_76 (show (1 : Int32) = nar .boolean (1 : Int32) by decide)
    · replace hf := (if_neg h5).symm.trans hf
      refine go_icY (pc := 68) (pc' := 75) d14_68 (XT.ii_ne_t h5) j_68_7 ?_
      refine go_iconst (pc := 75) d14_75 ci_0 ?_
      cases hf
      exact go_zret (pc := 76) rfl d14_76 (show (0 : Int32) = nar .boolean (0 : Int32) by decide)
theorem c_k_parse (s : S) (o : Int32 × S) (hf : k_parse s = some o) : Call PP m14 [.ref 1] (none, [(12, s)]) (some (.int o.1), (none, [(12, o.2)])) := call_of_go pl_0 rfl (fun h => nomatch h) (k_parse_ok s   _ hf)
set_option maxRecDepth 65536 in
set_option maxHeartbeats 4000000 in
theorem k_status_ok  : ∀  (s : S)  (o : Int32), k_status s = o → Go PP m15 0 [.val (.ref 1)] [] (none, [(12, s)]) (some (.int o), (none, [(12, s)])) := by
  intro s o hf
  unfold k_status at hf
  refine go_aloadN (pc := 0) d15_0 rfl (go_getI (pc := 1) fs_95 hm_15 d15_1 ?_)
  cases hf
  exact go_iret (pc := 4) rfl d15_4
theorem c_k_status (s : S) : Call PP m15 [.ref 1] (none, [(12, s)]) (some (.int (k_status s)), (none, [(12, s)])) := call_of_go pl_0 rfl (fun h => nomatch h) (k_status_ok s   _ rfl)
set_option maxRecDepth 65536 in
set_option maxHeartbeats 4000000 in
theorem k_inRange_ok  {s : S} : ∀ (v1 : Int32) (v2 : Int32) (v3 : Int32)   (o : Int32), k_inRange v1 v2 v3 = o → Go PP m16 0 [.val (.ref 1), .val (.int v1), .val (.int v2), .val (.int v3)] [] (none, [(12, s)]) (some (.int o), (none, [(12, s)])) := by
  intro v1 v2 v3 o hf
  unfold k_inRange at hf
  refine go_iloadN (pc := 0) d16_0 rfl (go_iloadN (pc := 1) d16_1 rfl ?_)
  by_cases h1 : v1 < v2
  · replace hf := (if_pos h1).symm.trans hf
    refine go_icY (pc := 2) (pc' := 14) d16_2 (XT.ii_lt_t h1) j_2_12 ?_
    refine go_iconst (pc := 14) d16_14 ci_0 ?_
    cases hf
    exact go_zret (pc := 15) rfl d16_15 (show (0 : Int32) = nar .boolean (0 : Int32) by decide)
  · replace hf := (if_neg h1).symm.trans hf
    refine go_icN (pc := 2) d16_2 (XT.ii_lt_f h1) ?_
    refine go_iloadN (pc := 5) d16_5 rfl (go_iloadN (pc := 6) d16_6 rfl ?_)
    by_cases h2 : v3 < v1
    · replace hf := (if_pos h2).symm.trans hf
      refine go_icY (pc := 7) (pc' := 14) d16_7 (XT.ii_gt_t h2) j_7_7 ?_
      refine go_iconst (pc := 14) d16_14 ci_0 ?_
      cases hf
      exact go_zret (pc := 15) rfl d16_15 (show (0 : Int32) = nar .boolean (0 : Int32) by decide)
    · replace hf := (if_neg h2).symm.trans hf
      refine go_icN (pc := 7) d16_7 (XT.ii_gt_f h2) ?_
      refine go_iconst (pc := 10) d16_10 ci_1 (go_goto (pc := 11) (pc' := 15) d16_11 j_11_4 ?_)
      cases hf
      exact go_zret (pc := 15) rfl d16_15 (show (1 : Int32) = nar .boolean (1 : Int32) by decide)
theorem c_k_inRange (v1 : Int32) (v2 : Int32) (v3 : Int32) (s : S) : Call PP m16 [.ref 1, .int v1, .int v2, .int v3] (none, [(12, s)]) (some (.int (k_inRange v1 v2 v3)), (none, [(12, s)])) := call_of_go pl_0 rfl (fun h => nomatch h) (k_inRange_ok v1 v2 v3   _ rfl)
set_option maxRecDepth 65536 in
set_option maxHeartbeats 4000000 in
theorem k_edgeRefused_ok  : ∀ (v1 : Int32) (v2 : Int32) (v3 : Int32) (v4 : Int32) (s : S)  (o : Int32), k_edgeRefused v1 v2 v3 v4 s = o → Go PP m17 0 [.val (.ref 1), .val (.int v1), .val (.int v2), .val (.int v3), .val (.int v4)] [] (none, [(12, s)]) (some (.int o), (none, [(12, s)])) := by
  intro v1 v2 v3 v4 s o hf
  unfold k_edgeRefused at hf
  refine go_aloadN (pc := 0) d17_0 rfl (go_getI (pc := 1) fs_64 hm_17 d17_1 (go_bipush (pc := 4) d17_4 cb_16 ?_))
  by_cases h1 : (gI s 2) < (16 : Int32)
  · replace hf := (if_pos h1).symm.trans hf
    refine go_icY (pc := 6) (pc' := 11) d17_6 (XT.ii_lt_t h1) j_6_5 ?_
    refine go_iloadN (pc := 11) d17_11 rfl ?_
    by_cases h2 : v1 < 0
    · replace hf := (if_pos h2).symm.trans hf
      refine go_ifY (pc := 12) (pc' := 30) d17_12 (XT.i0_lt_t h2) j_12_18 ?_
      refine go_iconst (pc := 30) d17_30 ci_1 ?_
      cases hf
      exact go_zret (pc := 31) rfl d17_31 (show (1 : Int32) = nar .boolean (1 : Int32) by decide)
    · replace hf := (if_neg h2).symm.trans hf
      refine go_ifN (pc := 12) d17_12 (XT.i0_lt_f h2) ?_
      refine go_iloadN (pc := 15) d17_15 rfl (go_aloadN (pc := 16) d17_16 rfl (go_getI (pc := 17) fs_55 hm_17 d17_17 (go_iconst (pc := 20) d17_20 ci_1 (go_isub (pc := 21) d17_21 ?_))))
      by_cases h3 : ((gI s 1) - (1 : Int32)) < v2
      · replace hf := (if_pos h3).symm.trans hf
        refine go_icY (pc := 22) (pc' := 30) d17_22 (XT.ii_gt_t h3) j_22_8 ?_
        refine go_iconst (pc := 30) d17_30 ci_1 ?_
        cases hf
        exact go_zret (pc := 31) rfl d17_31 (show (1 : Int32) = nar .boolean (1 : Int32) by decide)
      · replace hf := (if_neg h3).symm.trans hf
        refine go_icN (pc := 22) d17_22 (XT.ii_gt_f h3) ?_
        refine go_iloadN (pc := 25) d17_25 rfl (go_iloadN (pc := 26) d17_26 rfl ?_)
        by_cases h4 : v1 < v2
        · replace hf := (if_pos h4).symm.trans hf
          refine go_icY (pc := 27) (pc' := 32) d17_27 (XT.ii_lt_t h4) j_27_5 ?_
          refine go_aloadN (pc := 32) d17_32 rfl (go_iloadN (pc := 33) d17_33 rfl (go_iconst (pc := 34) d17_34 ci_0 (go_bipush (pc := 35) d17_35 cb_7 ?_)))
          refine go_priv (pc := 37) (i := 0) (as := [.int v3, .int (0 : Int32), .int (7 : Int32)]) (rest := []) (w' := (none, [(12, s)])) lk_0_129 pd_16 rfl oid_0 rfl rfl rfl rfl rfl rfl ⟨rfl, rfl, rfl, rfl, rfl⟩ d17_37 (c_k_inRange v3 (0 : Int32) (7 : Int32) s) ?_
          by_cases h5 : (k_inRange v3 (0 : Int32) (7 : Int32)) = 0
          · replace hf := (if_pos h5).symm.trans hf
            refine go_ifN (pc := 40) d17_40 (XT.i0_ne_f h5) ?_
            refine go_iconst (pc := 43) d17_43 ci_1 ?_
            cases hf
            exact go_zret (pc := 44) rfl d17_44 (show (1 : Int32) = nar .boolean (1 : Int32) by decide)
          · replace hf := (if_neg h5).symm.trans hf
            refine go_ifY (pc := 40) (pc' := 45) d17_40 (XT.i0_ne_t h5) j_40_5 ?_
            refine go_aloadN (pc := 45) d17_45 rfl (go_iload (pc := 46) d17_46 rfl (go_iconst (pc := 48) d17_48 ci_0 (go_bipush (pc := 49) d17_49 cb_100 ?_)))
            refine go_priv (pc := 51) (i := 0) (as := [.int v4, .int (0 : Int32), .int (100 : Int32)]) (rest := []) (w' := (none, [(12, s)])) lk_0_129 pd_16 rfl oid_0 rfl rfl rfl rfl rfl rfl ⟨rfl, rfl, rfl, rfl, rfl⟩ d17_51 (c_k_inRange v4 (0 : Int32) (100 : Int32) s) ?_
            by_cases h6 : (k_inRange v4 (0 : Int32) (100 : Int32)) = 0
            · replace hf := (if_pos h6).symm.trans hf
              refine go_ifN (pc := 54) d17_54 (XT.i0_ne_f h6) ?_
              refine go_iconst (pc := 57) d17_57 ci_1 (go_goto (pc := 58) (pc' := 62) d17_58 j_58_4 ?_)
              cases hf
              exact go_zret (pc := 62) rfl d17_62 (show (1 : Int32) = nar .boolean (1 : Int32) by decide)
            · replace hf := (if_neg h6).symm.trans hf
              refine go_ifY (pc := 54) (pc' := 61) d17_54 (XT.i0_ne_t h6) j_54_7 ?_
              refine go_iconst (pc := 61) d17_61 ci_0 ?_
              cases hf
              exact go_zret (pc := 62) rfl d17_62 (show (0 : Int32) = nar .boolean (0 : Int32) by decide)
        · replace hf := (if_neg h4).symm.trans hf
          refine go_icN (pc := 27) d17_27 (XT.ii_lt_f h4) ?_
          refine go_iconst (pc := 30) d17_30 ci_1 ?_
          cases hf
          exact go_zret (pc := 31) rfl d17_31 (show (1 : Int32) = nar .boolean (1 : Int32) by decide)
  · replace hf := (if_neg h1).symm.trans hf
    refine go_icN (pc := 6) d17_6 (XT.ii_lt_f h1) ?_
    refine go_iconst (pc := 9) d17_9 ci_1 ?_
    cases hf
    exact go_zret (pc := 10) rfl d17_10 (show (1 : Int32) = nar .boolean (1 : Int32) by decide)
theorem c_k_edgeRefused (v1 : Int32) (v2 : Int32) (v3 : Int32) (v4 : Int32) (s : S) : Call PP m17 [.ref 1, .int v1, .int v2, .int v3, .int v4] (none, [(12, s)]) (some (.int (k_edgeRefused v1 v2 v3 v4 s)), (none, [(12, s)])) := call_of_go pl_0 rfl (fun h => nomatch h) (k_edgeRefused_ok v1 v2 v3 v4 s   _ rfl)
set_option maxRecDepth 65536 in
set_option maxHeartbeats 4000000 in
theorem k_addEdge_ok  : ∀ (v1 : Int32) (v2 : Int32) (v3 : Int32) (v4 : Int32) (s : S)  (o : Int32 × S), k_addEdge v1 v2 v3 v4 s = some o → Go PP m18 0 [.val (.ref 1), .val (.int v1), .val (.int v2), .val (.int v3), .val (.int v4), .unset] [] (none, [(12, s)]) (some (.int o.1), (none, [(12, o.2)])) := by
  intro v1 v2 v3 v4 s o hf
  unfold k_addEdge at hf
  refine go_aloadN (pc := 0) d18_0 rfl (go_iloadN (pc := 1) d18_1 rfl (go_iloadN (pc := 2) d18_2 rfl (go_iloadN (pc := 3) d18_3 rfl (go_iload (pc := 4) d18_4 rfl ?_))))
  refine go_priv (pc := 6) (i := 0) (as := [.int v1, .int v2, .int v3, .int v4]) (rest := []) (w' := (none, [(12, s)])) lk_0_70 pd_17 rfl oid_0 rfl rfl rfl rfl rfl rfl ⟨rfl, rfl, rfl, rfl, rfl⟩ d18_6 (c_k_edgeRefused v1 v2 v3 v4 s) ?_
  by_cases h1 : (k_edgeRefused v1 v2 v3 v4 s) = 0
  · replace hf := (if_pos h1).symm.trans hf
    refine go_ifY (pc := 9) (pc' := 14) d18_9 (XT.i0_eq_t h1) j_9_5 ?_
    refine go_aloadN (pc := 14) d18_14 rfl (go_getI (pc := 15) fs_64 hm_18 d18_15 (go_istore (pc := 18) (L' := [.val (.ref 1), .val (.int v1), .val (.int v2), .val (.int v3), .val (.int v4), .val (.int (gI s 2))]) d18_18 rfl (go_aloadN (pc := 20) d18_20 rfl (go_getA (pc := 21) fa_14 hm_18 d18_21 rfl (go_iload (pc := 24) d18_24 rfl (go_iloadN (pc := 26) d18_26 rfl ?_))))))
    obtain ⟨a27, e2, hf⟩ := Option.bind_eq_some_iff.mp hf
    refine go_iastore (pc := 27) (q := 0) ar_0 rfl hn_18 e2 d18_27 ?_
    refine go_aloadN (pc := 28) d18_28 rfl (go_getA (pc := 29) fa_18 hm_18 d18_29 rfl (go_iload (pc := 32) d18_32 rfl (go_iloadN (pc := 34) d18_34 rfl ?_)))
    obtain ⟨a35, e3, hf⟩ := Option.bind_eq_some_iff.mp hf
    refine go_iastore (pc := 35) (q := 1) ar_1 rfl hn_18 e3 d18_35 ?_
    refine go_aloadN (pc := 36) d18_36 rfl (go_getA (pc := 37) fa_21 hm_18 d18_37 rfl (go_iload (pc := 40) d18_40 rfl (go_iloadN (pc := 42) d18_42 rfl ?_)))
    obtain ⟨a43, e4, hf⟩ := Option.bind_eq_some_iff.mp hf
    refine go_iastore (pc := 43) (q := 2) ar_2 rfl hn_18 e4 d18_43 ?_
    refine go_aloadN (pc := 44) d18_44 rfl (go_getA (pc := 45) fa_24 hm_18 d18_45 rfl (go_iload (pc := 48) d18_48 rfl (go_iload (pc := 50) d18_50 rfl ?_)))
    obtain ⟨a52, e5, hf⟩ := Option.bind_eq_some_iff.mp hf
    refine go_iastore (pc := 52) (q := 3) ar_3 rfl hn_18 e5 d18_52 ?_
    refine go_aloadN (pc := 53) d18_53 rfl (go_iload (pc := 54) d18_54 rfl (go_iconst (pc := 56) d18_56 ci_1 (go_iadd (pc := 57) d18_57 (go_putI (pc := 58) fs_64 hm_18 (wr_2 _) hn_18 d18_58 (go_aloadN (pc := 61) d18_61 rfl ?_)))))
    refine go_priv (pc := 62) (i := 0) (as := []) (rest := []) (w' := (none, [(12, (k_becomeBuilding (sI (sA (sA (sA (sA s 0 a27) 1 a35) 2 a43) 3 a52) 2 ((gI s 2) + (1 : Int32)))))])) lk_0_74 pd_1 rfl oid_0 rfl rfl rfl rfl rfl rfl ⟨rfl, rfl, rfl, rfl, rfl⟩ d18_62 (c_k_becomeBuilding (sI (sA (sA (sA (sA s 0 a27) 1 a35) 2 a43) 3 a52) 2 ((gI s 2) + (1 : Int32)))) ?_
    refine go_iload (pc := 65) d18_65 rfl ?_
    cases hf
    exact go_iret (pc := 67) rfl d18_67
  · replace hf := (if_neg h1).symm.trans hf
    refine go_ifN (pc := 9) d18_9 (XT.i0_eq_f h1) ?_
    refine go_iconst (pc := 12) d18_12 ci_m1 ?_
    cases hf
    exact go_iret (pc := 13) rfl d18_13
theorem c_k_addEdge (v1 : Int32) (v2 : Int32) (v3 : Int32) (v4 : Int32) (s : S) (o : Int32 × S) (hf : k_addEdge v1 v2 v3 v4 s = some o) : Call PP m18 [.ref 1, .int v1, .int v2, .int v3, .int v4] (none, [(12, s)]) (some (.int o.1), (none, [(12, o.2)])) := call_of_go pl_0 rfl (fun h => nomatch h) (k_addEdge_ok v1 v2 v3 v4 s   _ hf)
set_option maxRecDepth 65536 in
set_option maxHeartbeats 4000000 in
theorem k_edgeCount_ok  : ∀  (s : S)  (o : Int32), k_edgeCount s = o → Go PP m19 0 [.val (.ref 1)] [] (none, [(12, s)]) (some (.int o), (none, [(12, s)])) := by
  intro s o hf
  unfold k_edgeCount at hf
  refine go_aloadN (pc := 0) d19_0 rfl (go_getI (pc := 1) fs_64 hm_19 d19_1 ?_)
  cases hf
  exact go_iret (pc := 4) rfl d19_4
theorem c_k_edgeCount (s : S) : Call PP m19 [.ref 1] (none, [(12, s)]) (some (.int (k_edgeCount s)), (none, [(12, s)])) := call_of_go pl_0 rfl (fun h => nomatch h) (k_edgeCount_ok s   _ rfl)
set_option maxRecDepth 65536 in
set_option maxHeartbeats 4000000 in
theorem k_edgeInfo_ok  : ∀ (v1 : Int32) (v2 : Int32) (s : S)  (o : Int32), k_edgeInfo v1 v2 s = some o → Go PP m20 0 [.val (.ref 1), .val (.int v1), .val (.int v2)] [] (none, [(12, s)]) (some (.int o), (none, [(12, s)])) := by
  intro v1 v2 s o hf
  unfold k_edgeInfo at hf
  refine go_iloadN (pc := 0) d20_0 rfl ?_
  by_cases h1 : v1 < 0
  · replace hf := (if_pos h1).symm.trans hf
    refine go_ifY (pc := 1) (pc' := 12) d20_1 (XT.i0_lt_t h1) j_1_11 ?_
    refine go_iconst (pc := 12) d20_12 ci_m1 ?_
    cases hf
    exact go_iret (pc := 13) rfl d20_13
  · replace hf := (if_neg h1).symm.trans hf
    refine go_ifN (pc := 1) d20_1 (XT.i0_lt_f h1) ?_
    refine go_iloadN (pc := 4) d20_4 rfl (go_aloadN (pc := 5) d20_5 rfl (go_getI (pc := 6) fs_64 hm_20 d20_6 ?_))
    by_cases h2 : v1 < (gI s 2)
    · replace hf := (if_pos h2).symm.trans hf
      refine go_icY (pc := 9) (pc' := 14) d20_9 (XT.ii_lt_t h2) j_9_5 ?_
      refine go_iloadN (pc := 14) d20_14 rfl ?_
      by_cases h3 : v2 = 0
      · replace hf := (if_pos h3).symm.trans hf
        refine go_ifN (pc := 15) d20_15 (XT.i0_ne_f h3) ?_
        refine go_aloadN (pc := 18) d20_18 rfl (go_getA (pc := 19) fa_14 hm_20 d20_19 rfl (go_iloadN (pc := 22) d20_22 rfl ?_))
        obtain ⟨a23, e10, hf⟩ := Option.bind_eq_some_iff.mp hf
        refine go_iaload (pc := 23) (q := 0) ar_0 rfl e10 d20_23 ?_
        cases hf
        exact go_iret (pc := 24) rfl d20_24
      · replace hf := (if_neg h3).symm.trans hf
        refine go_ifY (pc := 15) (pc' := 25) d20_15 (XT.i0_ne_t h3) j_15_10 ?_
        refine go_iloadN (pc := 25) d20_25 rfl (go_iconst (pc := 26) d20_26 ci_1 ?_)
        by_cases h4 : v2 = (1 : Int32)
        · replace hf := (if_pos h4).symm.trans hf
          refine go_icN (pc := 27) d20_27 (XT.ii_ne_f h4) ?_
          refine go_aloadN (pc := 30) d20_30 rfl (go_getA (pc := 31) fa_18 hm_20 d20_31 rfl (go_iloadN (pc := 34) d20_34 rfl ?_))
          obtain ⟨a35, e9, hf⟩ := Option.bind_eq_some_iff.mp hf
          refine go_iaload (pc := 35) (q := 1) ar_1 rfl e9 d20_35 ?_
          cases hf
          exact go_iret (pc := 36) rfl d20_36
        · replace hf := (if_neg h4).symm.trans hf
          refine go_icY (pc := 27) (pc' := 37) d20_27 (XT.ii_ne_t h4) j_27_10 ?_
          refine go_iloadN (pc := 37) d20_37 rfl (go_iconst (pc := 38) d20_38 ci_2 ?_)
          by_cases h5 : v2 = (2 : Int32)
          · replace hf := (if_pos h5).symm.trans hf
            refine go_icN (pc := 39) d20_39 (XT.ii_ne_f h5) ?_
            refine go_aloadN (pc := 42) d20_42 rfl (go_getA (pc := 43) fa_21 hm_20 d20_43 rfl (go_iloadN (pc := 46) d20_46 rfl ?_))
            obtain ⟨a47, e8, hf⟩ := Option.bind_eq_some_iff.mp hf
            refine go_iaload (pc := 47) (q := 2) ar_2 rfl e8 d20_47 ?_
            cases hf
            exact go_iret (pc := 48) rfl d20_48
          · replace hf := (if_neg h5).symm.trans hf
            refine go_icY (pc := 39) (pc' := 49) d20_39 (XT.ii_ne_t h5) j_39_10 ?_
            refine go_iloadN (pc := 49) d20_49 rfl (go_iconst (pc := 50) d20_50 ci_3 ?_)
            by_cases h6 : v2 = (3 : Int32)
            · replace hf := (if_pos h6).symm.trans hf
              refine go_icN (pc := 51) d20_51 (XT.ii_ne_f h6) ?_
              refine go_aloadN (pc := 54) d20_54 rfl (go_getA (pc := 55) fa_24 hm_20 d20_55 rfl (go_iloadN (pc := 58) d20_58 rfl ?_))
              obtain ⟨a59, e7, hf⟩ := Option.bind_eq_some_iff.mp hf
              refine go_iaload (pc := 59) (q := 3) ar_3 rfl e7 d20_59 ?_
              cases hf
              exact go_iret (pc := 60) rfl d20_60
            · replace hf := (if_neg h6).symm.trans hf
              refine go_icY (pc := 51) (pc' := 61) d20_51 (XT.ii_ne_t h6) j_51_10 ?_
              refine go_iconst (pc := 61) d20_61 ci_m1 ?_
              cases hf
              exact go_iret (pc := 62) rfl d20_62
    · replace hf := (if_neg h2).symm.trans hf
      refine go_icN (pc := 9) d20_9 (XT.ii_lt_f h2) ?_
      refine go_iconst (pc := 12) d20_12 ci_m1 ?_
      cases hf
      exact go_iret (pc := 13) rfl d20_13
theorem c_k_edgeInfo (v1 : Int32) (v2 : Int32) (s : S) (o : Int32) (hf : k_edgeInfo v1 v2 s = some o) : Call PP m20 [.ref 1, .int v1, .int v2] (none, [(12, s)]) (some (.int o), (none, [(12, s)])) := call_of_go pl_0 rfl (fun h => nomatch h) (k_edgeInfo_ok v1 v2 s   _ hf)
set_option maxRecDepth 65536 in
set_option maxHeartbeats 4000000 in
theorem law_77_ok  : ∀ (v1 : Int32) (v2 : Int32) (v3 : Int32) (v4 : Int32) (p0 : Int32) (t0 : S) (x0 : Slot) (x6 : Slot) (hx0 : k1 x0) (hx6 : k1 x6) (o : Int32 × S), law_77 v1 v2 v3 v4 p0 t0 = some o → Go PP m21 77 [x0, .val (.int v1), .val (.int v2), .val (.int v3), .val (.int v4), .val (.ref 1), x6, .unset, .unset, .unset, .unset, .unset, .unset, .unset, .unset] [.int p0] (none, [(12, t0)]) (some (.int o.1), (none, [(12, o.2)])) := by
  intro v1 v2 v3 v4 p0 t0 x0 x6 hx0 hx6 o hf
  unfold law_77 at hf
  refine go_istore (pc := 77) (L' := [x0, .val (.int v1), .val (.int v2), .val (.int v3), .val (.int v4), .val (.ref 1), x6, .val (.int p0), .unset, .unset, .unset, .unset, .unset, .unset, .unset]) d21_77 rfl (go_aload (pc := 79) d21_79 rfl ?_)
  obtain ⟨r81, e1, hf⟩ := Option.bind_eq_some_iff.mp hf
  refine go_virt (pc := 81) (i := 0) (as := []) (rest := []) (w' := (none, [(12, r81.2)])) lk_1_12 pd_14 rfl oid_0 rfl rfl rfl rfl rfl rfl ⟨rfl, rfl, rfl, rfl, rfl⟩ d21_81 (c_k_parse t0 _ e1) ?_
  by_cases h2 : r81.1 = 0
  · replace hf := (if_pos h2).symm.trans hf
    refine go_ifY (pc := 84) (pc' := 89) d21_84 (XT.i0_eq_t h2) j_84_5 ?_
    refine go_aload (pc := 89) d21_89 rfl ?_
    refine go_virt (pc := 91) (i := 0) (as := []) (rest := []) (w' := (none, [(12, r81.2)])) lk_1_16 pd_15 rfl oid_0 rfl rfl rfl rfl rfl rfl ⟨rfl, rfl, rfl, rfl, rfl⟩ d21_91 (c_k_status r81.2) ?_
    refine go_iconst (pc := 94) d21_94 ci_2 ?_
    by_cases h3 : (k_status r81.2) = (2 : Int32)
    · replace hf := (if_pos h3).symm.trans hf
      refine go_icY (pc := 95) (pc' := 100) d21_95 (XT.ii_eq_t h3) j_95_5 ?_
      refine go_aload (pc := 100) d21_100 rfl (go_iloadN (pc := 102) d21_102 rfl (go_iloadN (pc := 103) d21_103 rfl (go_iloadN (pc := 104) d21_104 rfl (go_iload (pc := 105) d21_105 rfl ?_))))
      obtain ⟨r107, e4, hf⟩ := Option.bind_eq_some_iff.mp hf
      refine go_virt (pc := 107) (i := 0) (as := [.int v1, .int v2, .int v3, .int v4]) (rest := []) (w' := (none, [(12, r107.2)])) lk_1_20 pd_18 rfl oid_0 rfl rfl rfl rfl rfl rfl ⟨rfl, rfl, rfl, rfl, rfl⟩ d21_107 (c_k_addEdge v1 v2 v3 v4 r81.2 _ e4) ?_
      refine go_istore (pc := 110) (L' := [x0, .val (.int v1), .val (.int v2), .val (.int v3), .val (.int v4), .val (.ref 1), x6, .val (.int p0), .val (.int r107.1), .unset, .unset, .unset, .unset, .unset, .unset]) d21_110 rfl (go_aload (pc := 112) d21_112 rfl ?_)
      refine go_virt (pc := 114) (i := 0) (as := []) (rest := []) (w' := (none, [(12, r107.2)])) lk_1_24 pd_19 rfl oid_0 rfl rfl rfl rfl rfl rfl ⟨rfl, rfl, rfl, rfl, rfl⟩ d21_114 (c_k_edgeCount r107.2) ?_
      refine go_istore (pc := 117) (L' := [x0, .val (.int v1), .val (.int v2), .val (.int v3), .val (.int v4), .val (.ref 1), x6, .val (.int p0), .val (.int r107.1), .val (.int (k_edgeCount r107.2)), .unset, .unset, .unset, .unset, .unset]) d21_117 rfl (go_aload (pc := 119) d21_119 rfl (go_iconst (pc := 121) d21_121 ci_0 (go_iconst (pc := 122) d21_122 ci_0 ?_)))
      obtain ⟨r123, e5, hf⟩ := Option.bind_eq_some_iff.mp hf
      refine go_virt (pc := 123) (i := 0) (as := [.int (0 : Int32), .int (0 : Int32)]) (rest := []) (w' := (none, [(12, r107.2)])) lk_1_27 pd_20 rfl oid_0 rfl rfl rfl rfl rfl rfl ⟨rfl, rfl, rfl, rfl, rfl⟩ d21_123 (c_k_edgeInfo (0 : Int32) (0 : Int32) r107.2 _ e5) ?_
      refine go_istore (pc := 126) (L' := [x0, .val (.int v1), .val (.int v2), .val (.int v3), .val (.int v4), .val (.ref 1), x6, .val (.int p0), .val (.int r107.1), .val (.int (k_edgeCount r107.2)), .val (.int r123), .unset, .unset, .unset, .unset]) d21_126 rfl (go_aload (pc := 128) d21_128 rfl (go_iconst (pc := 130) d21_130 ci_0 (go_iconst (pc := 131) d21_131 ci_1 ?_)))
      obtain ⟨r132, e6, hf⟩ := Option.bind_eq_some_iff.mp hf
      refine go_virt (pc := 132) (i := 0) (as := [.int (0 : Int32), .int (1 : Int32)]) (rest := []) (w' := (none, [(12, r107.2)])) lk_1_27 pd_20 rfl oid_0 rfl rfl rfl rfl rfl rfl ⟨rfl, rfl, rfl, rfl, rfl⟩ d21_132 (c_k_edgeInfo (0 : Int32) (1 : Int32) r107.2 _ e6) ?_
      refine go_istore (pc := 135) (L' := [x0, .val (.int v1), .val (.int v2), .val (.int v3), .val (.int v4), .val (.ref 1), x6, .val (.int p0), .val (.int r107.1), .val (.int (k_edgeCount r107.2)), .val (.int r123), .val (.int r132), .unset, .unset, .unset]) d21_135 rfl (go_aload (pc := 137) d21_137 rfl (go_iconst (pc := 139) d21_139 ci_0 (go_iconst (pc := 140) d21_140 ci_2 ?_)))
      obtain ⟨r141, e7, hf⟩ := Option.bind_eq_some_iff.mp hf
      refine go_virt (pc := 141) (i := 0) (as := [.int (0 : Int32), .int (2 : Int32)]) (rest := []) (w' := (none, [(12, r107.2)])) lk_1_27 pd_20 rfl oid_0 rfl rfl rfl rfl rfl rfl ⟨rfl, rfl, rfl, rfl, rfl⟩ d21_141 (c_k_edgeInfo (0 : Int32) (2 : Int32) r107.2 _ e7) ?_
      refine go_istore (pc := 144) (L' := [x0, .val (.int v1), .val (.int v2), .val (.int v3), .val (.int v4), .val (.ref 1), x6, .val (.int p0), .val (.int r107.1), .val (.int (k_edgeCount r107.2)), .val (.int r123), .val (.int r132), .val (.int r141), .unset, .unset]) d21_144 rfl (go_aload (pc := 146) d21_146 rfl (go_iconst (pc := 148) d21_148 ci_0 (go_iconst (pc := 149) d21_149 ci_3 ?_)))
      obtain ⟨r150, e8, hf⟩ := Option.bind_eq_some_iff.mp hf
      refine go_virt (pc := 150) (i := 0) (as := [.int (0 : Int32), .int (3 : Int32)]) (rest := []) (w' := (none, [(12, r107.2)])) lk_1_27 pd_20 rfl oid_0 rfl rfl rfl rfl rfl rfl ⟨rfl, rfl, rfl, rfl, rfl⟩ d21_150 (c_k_edgeInfo (0 : Int32) (3 : Int32) r107.2 _ e8) ?_
      refine go_istore (pc := 153) (L' := [x0, .val (.int v1), .val (.int v2), .val (.int v3), .val (.int v4), .val (.ref 1), x6, .val (.int p0), .val (.int r107.1), .val (.int (k_edgeCount r107.2)), .val (.int r123), .val (.int r132), .val (.int r141), .val (.int r150), .unset]) d21_153 rfl (go_aload (pc := 155) d21_155 rfl ?_)
      refine go_virt (pc := 157) (i := 0) (as := []) (rest := []) (w' := (none, [(12, r107.2)])) lk_1_16 pd_15 rfl oid_0 rfl rfl rfl rfl rfl rfl ⟨rfl, rfl, rfl, rfl, rfl⟩ d21_157 (c_k_status r107.2) ?_
      refine go_istore (pc := 160) (L' := [x0, .val (.int v1), .val (.int v2), .val (.int v3), .val (.int v4), .val (.ref 1), x6, .val (.int p0), .val (.int r107.1), .val (.int (k_edgeCount r107.2)), .val (.int r123), .val (.int r132), .val (.int r141), .val (.int r150), .val (.int (k_status r107.2))]) d21_160 rfl (go_iload (pc := 162) d21_162 rfl ?_)
      by_cases h9 : p0 = 0
      · replace hf := (if_pos h9).symm.trans hf
        refine go_ifY (pc := 164) (pc' := 214) d21_164 (XT.i0_eq_t h9) j_164_50 ?_
        refine go_iload (pc := 214) d21_214 rfl (go_iconst (pc := 216) d21_216 ci_m1 ?_)
        by_cases h10 : r107.1 = (-1 : Int32)
        · replace hf := (if_pos h10).symm.trans hf
          refine go_icN (pc := 217) d21_217 (XT.ii_ne_f h10) ?_
          refine go_iload (pc := 220) d21_220 rfl ?_
          by_cases h11 : (k_edgeCount r107.2) = 0
          · replace hf := (if_pos h11).symm.trans hf
            refine go_ifN (pc := 222) d21_222 (XT.i0_ne_f h11) ?_
            refine go_iload (pc := 225) d21_225 rfl (go_iconst (pc := 227) d21_227 ci_m1 ?_)
            by_cases h12 : r123 = (-1 : Int32)
            · replace hf := (if_pos h12).symm.trans hf
              refine go_icN (pc := 228) d21_228 (XT.ii_ne_f h12) ?_
              refine go_iload (pc := 231) d21_231 rfl (go_iconst (pc := 233) d21_233 ci_m1 ?_)
              by_cases h13 : r132 = (-1 : Int32)
              · replace hf := (if_pos h13).symm.trans hf
                refine go_icN (pc := 234) d21_234 (XT.ii_ne_f h13) ?_
                refine go_iload (pc := 237) d21_237 rfl (go_iconst (pc := 239) d21_239 ci_m1 ?_)
                by_cases h14 : r141 = (-1 : Int32)
                · replace hf := (if_pos h14).symm.trans hf
                  refine go_icN (pc := 240) d21_240 (XT.ii_ne_f h14) ?_
                  refine go_iload (pc := 243) d21_243 rfl (go_iconst (pc := 245) d21_245 ci_m1 ?_)
                  by_cases h15 : r150 = (-1 : Int32)
                  · replace hf := (if_pos h15).symm.trans hf
                    refine go_icN (pc := 246) d21_246 (XT.ii_ne_f h15) ?_
                    refine go_iload (pc := 249) d21_249 rfl (go_iconst (pc := 251) d21_251 ci_2 ?_)
                    by_cases h16 : (k_status r107.2) = (2 : Int32)
                    · replace hf := (if_pos h16).symm.trans hf
                      refine go_icN (pc := 252) d21_252 (XT.ii_ne_f h16) ?_
                      refine go_iconst (pc := 255) d21_255 ci_1 (go_goto (pc := 256) (pc' := 260) d21_256 j_256_4 ?_)
                      cases hf
                      exact go_zret (pc := 260) rfl d21_260 (show (1 : Int32) = nar .boolean (1 : Int32) by decide)
                    · replace hf := (if_neg h16).symm.trans hf
                      refine go_icY (pc := 252) (pc' := 259) d21_252 (XT.ii_ne_t h16) j_252_7 ?_
                      refine go_iconst (pc := 259) d21_259 ci_0 ?_
                      cases hf
                      exact go_zret (pc := 260) rfl d21_260 (show (0 : Int32) = nar .boolean (0 : Int32) by decide)
                  · replace hf := (if_neg h15).symm.trans hf
                    refine go_icY (pc := 246) (pc' := 259) d21_246 (XT.ii_ne_t h15) j_246_13 ?_
                    refine go_iconst (pc := 259) d21_259 ci_0 ?_
                    cases hf
                    exact go_zret (pc := 260) rfl d21_260 (show (0 : Int32) = nar .boolean (0 : Int32) by decide)
                · replace hf := (if_neg h14).symm.trans hf
                  refine go_icY (pc := 240) (pc' := 259) d21_240 (XT.ii_ne_t h14) j_240_19 ?_
                  refine go_iconst (pc := 259) d21_259 ci_0 ?_
                  cases hf
                  exact go_zret (pc := 260) rfl d21_260 (show (0 : Int32) = nar .boolean (0 : Int32) by decide)
              · replace hf := (if_neg h13).symm.trans hf
                refine go_icY (pc := 234) (pc' := 259) d21_234 (XT.ii_ne_t h13) j_234_25 ?_
                refine go_iconst (pc := 259) d21_259 ci_0 ?_
                cases hf
                exact go_zret (pc := 260) rfl d21_260 (show (0 : Int32) = nar .boolean (0 : Int32) by decide)
            · replace hf := (if_neg h12).symm.trans hf
              refine go_icY (pc := 228) (pc' := 259) d21_228 (XT.ii_ne_t h12) j_228_31 ?_
              refine go_iconst (pc := 259) d21_259 ci_0 ?_
              cases hf
              exact go_zret (pc := 260) rfl d21_260 (show (0 : Int32) = nar .boolean (0 : Int32) by decide)
          · replace hf := (if_neg h11).symm.trans hf
            refine go_ifY (pc := 222) (pc' := 259) d21_222 (XT.i0_ne_t h11) j_222_37 ?_
            refine go_iconst (pc := 259) d21_259 ci_0 ?_
            cases hf
            exact go_zret (pc := 260) rfl d21_260 (show (0 : Int32) = nar .boolean (0 : Int32) by decide)
        · replace hf := (if_neg h10).symm.trans hf
          refine go_icY (pc := 217) (pc' := 259) d21_217 (XT.ii_ne_t h10) j_217_42 ?_
          refine go_iconst (pc := 259) d21_259 ci_0 ?_
          cases hf
          exact go_zret (pc := 260) rfl d21_260 (show (0 : Int32) = nar .boolean (0 : Int32) by decide)
      · replace hf := (if_neg h9).symm.trans hf
        refine go_ifN (pc := 164) d21_164 (XT.i0_eq_f h9) ?_
        refine go_iload (pc := 167) d21_167 rfl ?_
        by_cases h17 : r107.1 = 0
        · replace hf := (if_pos h17).symm.trans hf
          refine go_ifN (pc := 169) d21_169 (XT.i0_ne_f h17) ?_
          refine go_iload (pc := 172) d21_172 rfl (go_iconst (pc := 174) d21_174 ci_1 ?_)
          by_cases h18 : (k_edgeCount r107.2) = (1 : Int32)
          · replace hf := (if_pos h18).symm.trans hf
            refine go_icN (pc := 175) d21_175 (XT.ii_ne_f h18) ?_
            refine go_iload (pc := 178) d21_178 rfl (go_iloadN (pc := 180) d21_180 rfl ?_)
            by_cases h19 : r123 = v1
            · replace hf := (if_pos h19).symm.trans hf
              refine go_icN (pc := 181) d21_181 (XT.ii_ne_f h19) ?_
              refine go_iload (pc := 184) d21_184 rfl (go_iloadN (pc := 186) d21_186 rfl ?_)
              by_cases h20 : r132 = v2
              · replace hf := (if_pos h20).symm.trans hf
                refine go_icN (pc := 187) d21_187 (XT.ii_ne_f h20) ?_
                refine go_iload (pc := 190) d21_190 rfl (go_iloadN (pc := 192) d21_192 rfl ?_)
                by_cases h21 : r141 = v3
                · replace hf := (if_pos h21).symm.trans hf
                  refine go_icN (pc := 193) d21_193 (XT.ii_ne_f h21) ?_
                  refine go_iload (pc := 196) d21_196 rfl (go_iload (pc := 198) d21_198 rfl ?_)
                  by_cases h22 : r150 = v4
                  · replace hf := (if_pos h22).symm.trans hf
                    refine go_icN (pc := 200) d21_200 (XT.ii_ne_f h22) ?_
                    refine go_iload (pc := 203) d21_203 rfl ?_
                    by_cases h23 : (k_status r107.2) = 0
                    · replace hf := (if_pos h23).symm.trans hf
                      refine go_ifN (pc := 205) d21_205 (XT.i0_ne_f h23) ?_
                      refine go_iconst (pc := 208) d21_208 ci_1 (go_goto (pc := 209) (pc' := 213) d21_209 j_209_4 ?_)
                      cases hf
                      exact go_zret (pc := 213) rfl d21_213 (show (1 : Int32) = nar .boolean (1 : Int32) by decide)
                    · replace hf := (if_neg h23).symm.trans hf
                      refine go_ifY (pc := 205) (pc' := 212) d21_205 (XT.i0_ne_t h23) j_205_7 ?_
                      refine go_iconst (pc := 212) d21_212 ci_0 ?_
                      cases hf
                      exact go_zret (pc := 213) rfl d21_213 (show (0 : Int32) = nar .boolean (0 : Int32) by decide)
                  · replace hf := (if_neg h22).symm.trans hf
                    refine go_icY (pc := 200) (pc' := 212) d21_200 (XT.ii_ne_t h22) j_200_12 ?_
                    refine go_iconst (pc := 212) d21_212 ci_0 ?_
                    cases hf
                    exact go_zret (pc := 213) rfl d21_213 (show (0 : Int32) = nar .boolean (0 : Int32) by decide)
                · replace hf := (if_neg h21).symm.trans hf
                  refine go_icY (pc := 193) (pc' := 212) d21_193 (XT.ii_ne_t h21) j_193_19 ?_
                  refine go_iconst (pc := 212) d21_212 ci_0 ?_
                  cases hf
                  exact go_zret (pc := 213) rfl d21_213 (show (0 : Int32) = nar .boolean (0 : Int32) by decide)
              · replace hf := (if_neg h20).symm.trans hf
                refine go_icY (pc := 187) (pc' := 212) d21_187 (XT.ii_ne_t h20) j_187_25 ?_
                refine go_iconst (pc := 212) d21_212 ci_0 ?_
                cases hf
                exact go_zret (pc := 213) rfl d21_213 (show (0 : Int32) = nar .boolean (0 : Int32) by decide)
            · replace hf := (if_neg h19).symm.trans hf
              refine go_icY (pc := 181) (pc' := 212) d21_181 (XT.ii_ne_t h19) j_181_31 ?_
              refine go_iconst (pc := 212) d21_212 ci_0 ?_
              cases hf
              exact go_zret (pc := 213) rfl d21_213 (show (0 : Int32) = nar .boolean (0 : Int32) by decide)
          · replace hf := (if_neg h18).symm.trans hf
            refine go_icY (pc := 175) (pc' := 212) d21_175 (XT.ii_ne_t h18) j_175_37 ?_
            refine go_iconst (pc := 212) d21_212 ci_0 ?_
            cases hf
            exact go_zret (pc := 213) rfl d21_213 (show (0 : Int32) = nar .boolean (0 : Int32) by decide)
        · replace hf := (if_neg h17).symm.trans hf
          refine go_ifY (pc := 169) (pc' := 212) d21_169 (XT.i0_ne_t h17) j_169_43 ?_
          refine go_iconst (pc := 212) d21_212 ci_0 ?_
          cases hf
          exact go_zret (pc := 213) rfl d21_213 (show (0 : Int32) = nar .boolean (0 : Int32) by decide)
    · replace hf := (if_neg h3).symm.trans hf
      refine go_icN (pc := 95) d21_95 (XT.ii_eq_f h3) ?_
      refine go_iconst (pc := 98) d21_98 ci_0 ?_
      cases hf
      exact go_zret (pc := 99) rfl d21_99 (show (0 : Int32) = nar .boolean (0 : Int32) by decide)
  · replace hf := (if_neg h2).symm.trans hf
    refine go_ifN (pc := 84) d21_84 (XT.i0_eq_f h2) ?_
    refine go_iconst (pc := 87) d21_87 ci_0 ?_
    cases hf
    exact go_zret (pc := 88) rfl d21_88 (show (0 : Int32) = nar .boolean (0 : Int32) by decide)
set_option maxRecDepth 65536 in
set_option maxHeartbeats 4000000 in
theorem law_31_ok  : ∀ (v1 : Int32) (v2 : Int32) (v3 : Int32) (v4 : Int32) (p0 : Int32) (t0 : S) (x0 : Slot) (hx0 : k1 x0) (o : Int32 × S), law_31 v1 v2 v3 v4 p0 t0 = some o → Go PP m21 31 [x0, .val (.int v1), .val (.int v2), .val (.int v3), .val (.int v4), .val (.ref 1), .unset, .unset, .unset, .unset, .unset, .unset, .unset, .unset, .unset] [.int p0] (none, [(12, t0)]) (some (.int o.1), (none, [(12, o.2)])) := by
  intro v1 v2 v3 v4 p0 t0 x0 hx0 o hf
  unfold law_31 at hf
  refine go_istore (pc := 31) (L' := [x0, .val (.int v1), .val (.int v2), .val (.int v3), .val (.int v4), .val (.ref 1), .val (.int p0), .unset, .unset, .unset, .unset, .unset, .unset, .unset, .unset]) d21_31 rfl (go_iloadN (pc := 33) d21_33 rfl ?_)
  by_cases h1 : v1 < 0
  · refine go_ifY (pc := 34) (pc' := 76) d21_34 (XT.i0_lt_t h1) j_34_42 ?_
    refine go_iconst (pc := 76) d21_76 ci_0 ?_
    exact law_77_ok v1 v2 v3 v4 (0 : Int32) t0 x0 (.val (.int p0)) hx0 (Or.inr ⟨_, rfl, rfl⟩) _ (by simpa only [if_pos h1] using hf)
  · refine go_ifN (pc := 34) d21_34 (XT.i0_lt_f h1) ?_
    refine go_iloadN (pc := 37) d21_37 rfl (go_iload (pc := 38) d21_38 rfl (go_iconst (pc := 40) d21_40 ci_1 (go_isub (pc := 41) d21_41 ?_)))
    by_cases h2 : (p0 - (1 : Int32)) < v2
    · refine go_icY (pc := 42) (pc' := 76) d21_42 (XT.ii_gt_t h2) j_42_34 ?_
      refine go_iconst (pc := 76) d21_76 ci_0 ?_
      exact law_77_ok v1 v2 v3 v4 (0 : Int32) t0 x0 (.val (.int p0)) hx0 (Or.inr ⟨_, rfl, rfl⟩) _ (by simpa only [if_neg h1, if_pos h2] using hf)
    · refine go_icN (pc := 42) d21_42 (XT.ii_gt_f h2) ?_
      refine go_iloadN (pc := 45) d21_45 rfl (go_iloadN (pc := 46) d21_46 rfl ?_)
      by_cases h3 : v1 < v2
      · refine go_icN (pc := 47) d21_47 (XT.ii_ge_f h3) ?_
        refine go_iloadN (pc := 50) d21_50 rfl ?_
        by_cases h4 : v3 < 0
        · refine go_ifY (pc := 51) (pc' := 76) d21_51 (XT.i0_lt_t h4) j_51_25 ?_
          refine go_iconst (pc := 76) d21_76 ci_0 ?_
          exact law_77_ok v1 v2 v3 v4 (0 : Int32) t0 x0 (.val (.int p0)) hx0 (Or.inr ⟨_, rfl, rfl⟩) _ (by simpa only [if_neg h1, if_neg h2, if_pos h3, if_pos h4] using hf)
        · refine go_ifN (pc := 51) d21_51 (XT.i0_lt_f h4) ?_
          refine go_iloadN (pc := 54) d21_54 rfl (go_bipush (pc := 55) d21_55 cb_7 ?_)
          by_cases h5 : (7 : Int32) < v3
          · refine go_icY (pc := 57) (pc' := 76) d21_57 (XT.ii_gt_t h5) j_57_19 ?_
            refine go_iconst (pc := 76) d21_76 ci_0 ?_
            exact law_77_ok v1 v2 v3 v4 (0 : Int32) t0 x0 (.val (.int p0)) hx0 (Or.inr ⟨_, rfl, rfl⟩) _ (by simpa only [if_neg h1, if_neg h2, if_pos h3, if_neg h4, if_pos h5] using hf)
          · refine go_icN (pc := 57) d21_57 (XT.ii_gt_f h5) ?_
            refine go_iload (pc := 60) d21_60 rfl ?_
            by_cases h6 : v4 < 0
            · refine go_ifY (pc := 62) (pc' := 76) d21_62 (XT.i0_lt_t h6) j_62_14 ?_
              refine go_iconst (pc := 76) d21_76 ci_0 ?_
              exact law_77_ok v1 v2 v3 v4 (0 : Int32) t0 x0 (.val (.int p0)) hx0 (Or.inr ⟨_, rfl, rfl⟩) _ (by simpa only [if_neg h1, if_neg h2, if_pos h3, if_neg h4, if_neg h5, if_pos h6] using hf)
            · refine go_ifN (pc := 62) d21_62 (XT.i0_lt_f h6) ?_
              refine go_iload (pc := 65) d21_65 rfl (go_bipush (pc := 67) d21_67 cb_100 ?_)
              by_cases h7 : (100 : Int32) < v4
              · refine go_icY (pc := 69) (pc' := 76) d21_69 (XT.ii_gt_t h7) j_69_7 ?_
                refine go_iconst (pc := 76) d21_76 ci_0 ?_
                exact law_77_ok v1 v2 v3 v4 (0 : Int32) t0 x0 (.val (.int p0)) hx0 (Or.inr ⟨_, rfl, rfl⟩) _ (by simpa only [if_neg h1, if_neg h2, if_pos h3, if_neg h4, if_neg h5, if_neg h6, if_pos h7] using hf)
              · refine go_icN (pc := 69) d21_69 (XT.ii_gt_f h7) ?_
                refine go_iconst (pc := 72) d21_72 ci_1 (go_goto (pc := 73) (pc' := 77) d21_73 j_73_4 ?_)
                exact law_77_ok v1 v2 v3 v4 (1 : Int32) t0 x0 (.val (.int p0)) hx0 (Or.inr ⟨_, rfl, rfl⟩) _ (by simpa only [if_neg h1, if_neg h2, if_pos h3, if_neg h4, if_neg h5, if_neg h6, if_neg h7] using hf)
      · refine go_icY (pc := 47) (pc' := 76) d21_47 (XT.ii_ge_t h3) j_47_29 ?_
        refine go_iconst (pc := 76) d21_76 ci_0 ?_
        exact law_77_ok v1 v2 v3 v4 (0 : Int32) t0 x0 (.val (.int p0)) hx0 (Or.inr ⟨_, rfl, rfl⟩) _ (by simpa only [if_neg h1, if_neg h2, if_neg h3] using hf)
set_option maxRecDepth 65536 in
set_option maxHeartbeats 4000000 in
theorem law_ok  : ∀ (v0 : Int32) (v1 : Int32) (v2 : Int32) (v3 : Int32) (v4 : Int32)   (o : Int32 × S), law v0 v1 v2 v3 v4 = some o → Go PP m21 0 [.val (.int v0), .val (.int v1), .val (.int v2), .val (.int v3), .val (.int v4), .unset, .unset, .unset, .unset, .unset, .unset, .unset, .unset, .unset, .unset] [] (none, []) (some (.int o.1), (none, [(12, o.2)])) := by
  intro v0 v1 v2 v3 v4 o hf
  unfold law at hf
  refine go_new (pc := 0) (n := 0) (w' := (none, [(0, s0)])) (List.mem_of_getElem? (i := 0) rfl) rfl rfl rfl rfl rfl rfl rfl d21_0 oid_0 ?_
  refine go_dupR (pc := 3) d21_3 (go_iloadN (pc := 4) d21_4 rfl ?_)
  obtain ⟨r5, e2, hf⟩ := Option.bind_eq_some_iff.mp hf
  refine go_init (pc := 5) (i := 0) (as := [.int v0]) (rest := [.ref 1]) (w' := (none, [(12, r5)])) lk_1_9 pd_4 rfl oid_0 rfl rfl rfl rfl rfl rfl rfl rfl rfl ⟨rfl, rfl, rfl⟩ ⟨rfl, rfl⟩ d21_5 (c_k_init v0 _ e2) ?_
  refine go_astore (pc := 8) (L' := [.val (.int v0), .val (.int v1), .val (.int v2), .val (.int v3), .val (.int v4), .val (.ref 1), .unset, .unset, .unset, .unset, .unset, .unset, .unset, .unset, .unset]) d21_8 rfl (go_iloadN (pc := 10) d21_10 rfl (go_iconst (pc := 11) d21_11 ci_2 ?_))
  by_cases h3 : v0 < (2 : Int32)
  · refine go_icN (pc := 12) d21_12 (XT.ii_ge_f h3) ?_
    refine go_iconst (pc := 15) d21_15 ci_2 (go_goto (pc := 16) (pc' := 31) d21_16 j_16_15 ?_)
    exact law_31_ok v1 v2 v3 v4 (2 : Int32) r5 (.val (.int v0)) (Or.inr ⟨_, rfl, rfl⟩) _ (by simpa only [if_pos h3] using hf)
  · refine go_icY (pc := 12) (pc' := 19) d21_12 (XT.ii_ge_t h3) j_12_7 ?_
    refine go_iloadN (pc := 19) d21_19 rfl (go_bipush (pc := 20) d21_20 cb_8 ?_)
    by_cases h4 : (8 : Int32) < v0
    · refine go_icN (pc := 22) d21_22 (XT.ii_le_f h4) ?_
      refine go_bipush (pc := 25) d21_25 cb_8 (go_goto (pc := 27) (pc' := 31) d21_27 j_27_4 ?_)
      exact law_31_ok v1 v2 v3 v4 (8 : Int32) r5 (.val (.int v0)) (Or.inr ⟨_, rfl, rfl⟩) _ (by simpa only [if_neg h3, if_pos h4] using hf)
    · refine go_icY (pc := 22) (pc' := 30) d21_22 (XT.ii_le_t h4) j_22_8 ?_
      refine go_iloadN (pc := 30) d21_30 rfl ?_
      exact law_31_ok v1 v2 v3 v4 v0 r5 (.val (.int v0)) (Or.inr ⟨_, rfl, rfl⟩) _ (by simpa only [if_neg h3, if_neg h4] using hf)
/-- the lengths of the arrays -/
def own_len (s : S) : Prop := (gA s 0).length = 16 ∧ (gA s 1).length = 16 ∧ (gA s 2).length = 16 ∧ (gA s 3).length = 16 ∧ (gA s 4).length = 12 ∧ (gA s 5).length = 12 ∧ (gA s 6).length = 12 ∧ (gA s 7).length = 36 ∧ (gA s 8).length = 1024 ∧ (gA s 9).length = 3072 ∧ (gA s 10).length = 3072 ∧ (gA s 11).length = 1024
def own_J (t s : S) : Prop := Fx [] [] [0, 1, 2, 3, 4, 5, 6, 7, 8, 9, 10, 11] [] t s ∧ own_len s
theorem own_93 (t s : S) (h : own_J t s) : ∃ s', k_clearStore_91 s = some s' ∧ own_J t s' := by
  refine run_for k_clearStore_93 some 36 (fun _ s => own_J t s) ?_ ?_ BIG s (by decide) h
  · intro n k s hk ⟨F, l0, l1, l2, l3, l4, l5, l6, l7, l8, l9, l10, l11⟩
    refine ⟨sA s 7 ((gA s 7).set k 0), ?_, F.sA (by simp), ?_⟩
    · rw [k_clearStore_93, if_pos ((lt_lit (by omega)).mpr hk), st_ofNat _ _ (by omega) (by omega), ofNat_succ]; rfl
    · simp [own_len, gA_sA, *]
  · intro n s _
    rw [k_clearStore_93, if_neg (by decide)]
theorem own_58 (t s : S) (h : own_J t s) : ∃ s', k_clearStore_56 s = some s' ∧ own_J t s' := by
  obtain ⟨s', e, i⟩ := run_for k_clearStore_58 k_clearStore_91 12 (fun _ s => own_J t s) (by
    intro n k s hk ⟨F, l0, l1, l2, l3, l4, l5, l6, l7, l8, l9, l10, l11⟩
    refine ⟨sA (sA (sA s 4 ((gA s 4).set k 0)) 5 ((gA s 5).set k 0)) 6 ((gA s 6).set k 0), ?_, ((F.sA (by simp)).sA (by simp)).sA (by simp), ?_⟩
    · rw [k_clearStore_58, if_pos ((lt_lit (by omega)).mpr hk), st_ofNat _ _ (by omega) (by omega), Option.bind_some, st_ofNat _ _ (by omega) (by omega), Option.bind_some, st_ofNat _ _ (by omega) (by omega), Option.bind_some, ofNat_succ]
    · simp [own_len, gA_sA, *]) (fun n s _ => by rw [k_clearStore_58, if_neg (by decide)]) BIG s (by decide) h
  obtain ⟨s'', e', i'⟩ := own_93 t s' i
  exact ⟨s'', e.trans e', i'⟩
theorem own_16 (t s : S) (h : own_J t s) : ∃ s', k_clearStore_16 BIG 0 s = some s' ∧ own_J t s' := by
  obtain ⟨s', e, i⟩ := run_for k_clearStore_16 k_clearStore_56 16 (fun _ s => own_J t s) (by
    intro n k s hk ⟨F, l0, l1, l2, l3, l4, l5, l6, l7, l8, l9, l10, l11⟩
    refine ⟨sA (sA (sA (sA s 0 ((gA s 0).set k 0)) 1 ((gA s 1).set k 0)) 2 ((gA s 2).set k 0)) 3 ((gA s 3).set k 0), ?_, (((F.sA (by simp)).sA (by simp)).sA (by simp)).sA (by simp), ?_⟩
    · rw [k_clearStore_16, if_pos ((lt_lit (by omega)).mpr hk), st_ofNat _ _ (by omega) (by omega), Option.bind_some, st_ofNat _ _ (by omega) (by omega), Option.bind_some, st_ofNat _ _ (by omega) (by omega), Option.bind_some, st_ofNat _ _ (by omega) (by omega), Option.bind_some, ofNat_succ]
    · simp [own_len, gA_sA, *]) (fun n s _ => by rw [k_clearStore_16, if_neg (by decide)]) BIG s (by decide) h
  obtain ⟨s'', e', i'⟩ := own_58 t s' i
  exact ⟨s'', e.trans e', i'⟩
theorem own_37 (t s : S) (h : own_J t s) : ∃ s', k_clearTables_35 s = some s' ∧ own_J t s' := by
  refine run_for k_clearTables_37 some 3072 (fun _ s => own_J t s) ?_ ?_ BIG s (by decide) h
  · intro n k s hk ⟨F, l0, l1, l2, l3, l4, l5, l6, l7, l8, l9, l10, l11⟩
    refine ⟨sA (sA s 9 ((gA s 9).set k (gI s 0))) 10 ((gA s 10).set k (gI s 0)), ?_, (F.sA (by simp)).sA (by simp), ?_⟩
    · rw [k_clearTables_37, if_pos ((lt_lit (by omega)).mpr hk), st_ofNat _ _ (by omega) (by omega), Option.bind_some, st_ofNat _ _ (by omega) (by omega), Option.bind_some, ofNat_succ]
    · simp [own_len, gA_sA, *]
  · intro n s _
    rw [k_clearTables_37, if_neg (by decide)]
theorem own_2 (t s : S) (h : own_J t s) : ∃ s', k_clearTables s = some s' ∧ own_J t s' := by
  obtain ⟨s', e, i⟩ := run_for k_clearTables_2 k_clearTables_35 1024 (fun _ s => own_J t s) (by
    intro n k s hk ⟨F, l0, l1, l2, l3, l4, l5, l6, l7, l8, l9, l10, l11⟩
    refine ⟨sA (sA s 8 ((gA s 8).set k (gI s 0))) 11 ((gA s 11).set k (gI s 0)), ?_, (F.sA (by simp)).sA (by simp), ?_⟩
    · rw [k_clearTables_2, if_pos ((lt_lit (by omega)).mpr hk), st_ofNat _ _ (by omega) (by omega), Option.bind_some, st_ofNat _ _ (by omega) (by omega), Option.bind_some, ofNat_succ]
    · simp [own_len, gA_sA, *]) (fun n s _ => by rw [k_clearTables_2, if_neg (by decide)]) BIG s (by decide) h
  obtain ⟨s'', e', i'⟩ := own_37 t s' i
  exact ⟨s'', e.trans e', i'⟩

theorem own_37b (t s : S) (h : own_J t s) : ∃ s', k_clearTables_35 s = some s' ∧ own_J t s' ∧ gA s' 8 = gA s 8 := by
  obtain ⟨s', e, i, j⟩ := run_for k_clearTables_37 some 3072 (fun _ u => own_J t u ∧ gA u 8 = gA s 8) (by
    intro n k s hk ⟨⟨F, l0, l1, l2, l3, l4, l5, l6, l7, l8, l9, l10, l11⟩, j⟩
    refine ⟨sA (sA s 9 ((gA s 9).set k (gI s 0))) 10 ((gA s 10).set k (gI s 0)), ?_, ⟨(F.sA (by simp)).sA (by simp), ?_⟩, ?_⟩
    · rw [k_clearTables_37, if_pos ((lt_lit (by omega)).mpr hk), st_ofNat _ _ (by omega) (by omega), Option.bind_some, st_ofNat _ _ (by omega) (by omega), Option.bind_some, ofNat_succ]
    · simp [own_len, gA_sA, l0, l1, l2, l3, l4, l5, l6, l7, l8, l9, l10, l11]
    · simp [gA_sA, j]) (by
    intro n s _
    rw [k_clearTables_37, if_neg (by decide)]) BIG s (by decide) ⟨h, rfl⟩
  exact ⟨s', e, i, j⟩
theorem own_2b (t s : S) (h : own_J t s) : ∃ s', k_clearTables s = some s' ∧ own_J t s' ∧ gA s' 8 = rep 1024 (gI t 0) := by
  obtain ⟨s', e, i, j⟩ := run_for k_clearTables_2 k_clearTables_35 1024 (fun k s => own_J t s ∧ Upto (gA s 8) k (gI t 0)) (by
    intro n k s hk ⟨⟨F, l0, l1, l2, l3, l4, l5, l6, l7, l8, l9, l10, l11⟩, j⟩
    have e0 : gI s 0 = gI t 0 := F.1 0 (by simp)
    refine ⟨sA (sA s 8 ((gA s 8).set k (gI s 0))) 11 ((gA s 11).set k (gI s 0)), ?_, ⟨(F.sA (by simp)).sA (by simp), ?_⟩, ?_⟩
    · rw [k_clearTables_2, if_pos ((lt_lit (by omega)).mpr hk), st_ofNat _ _ (by omega) (by omega), Option.bind_some, st_ofNat _ _ (by omega) (by omega), Option.bind_some, ofNat_succ]
    · simp [own_len, gA_sA, *]
    · simpa [gA_sA, e0] using j.set (by omega)) (fun n s _ => by rw [k_clearTables_2, if_neg (by decide)]) BIG s (by decide) ⟨h, Upto.zero _ _⟩
  obtain ⟨s'', e', i', j'⟩ := own_37b t s' i
  exact ⟨s'', e.trans e', i', by rw [j']; exact j.all i.2.2.2.2.2.2.2.2.2.1⟩
theorem own_close (v1 v2 : Int32) (s : S) (h3 : gI s 3 = 0) : k_closeInsideCell v1 v2 s = some () := by
  have ir : ∀ v1 v2, k_insideRound v1 v2 s = some 0 := fun v1 v2 => by unfold k_insideRound; rw [h3, if_neg (by decide)]
  unfold k_closeInsideCell
  rw [show BIG = 999998 + 1 + 1 from rfl, k_closeInsideCell_5, if_neg (by decide), if_pos (by decide), ir, Option.bind_some, k_closeInsideCell_5, if_pos rfl]
theorem own_cells (s : S) (h3 : gI s 3 = 0) (K : Int32 → S → Option Unit) (v1 : Int32) : ∀ n m, m + 1 < n → k_runInside_20 K n v1 (Int32.ofNat m) s = (if m < 2147483648 then K (v1 + 1) s else k_runInside_20 K n v1 (Int32.ofNat m) s)
  | 0, m, h => by omega
  | n + 1, 0, h => by
    rw [if_pos (by omega), k_runInside_20, if_neg (by decide), own_close _ _ _ h3, Option.bind_some]
    obtain ⟨n', rfl⟩ : ∃ n', n = n' + 1 := ⟨n - 1, by omega⟩
    rw [k_runInside_20, if_pos (by decide)]
  | n + 1, m + 1, h => by
    by_cases q : m + 1 < 2147483648
    · rw [if_pos q, k_runInside_20, if_neg (ofNat_nonneg q), own_close _ _ _ h3, Option.bind_some]
      have : Int32.ofNat (m + 1) + (-1) = Int32.ofNat m := by
        rw [← ofNat_succ, Int32.add_assoc, show (1 : Int32) + (-1) = 0 by decide, Int32.add_zero]
      rw [this, own_cells s h3 K v1 n m (by omega), if_pos (by omega)]
    · rw [if_neg q]
theorem own_inside (s : S) (h2 : gI s 2 = 0) (h3 : gI s 3 = 0) {N : Nat} (h1 : gI s 1 = Int32.ofNat N) (hN : N ≤ 8) : k_runInside s = some () := by
  have e1 : k_scanEdges s = some () := by unfold k_scanEdges; rw [h2, if_neg (by decide)]
  have e2 : k_seedItems s = some () := by
    unfold k_seedItems
    rw [show BIG = 999999 + 1 from rfl, k_seedItems_2, h3, if_neg (by decide)]
  unfold k_runInside
  rw [e1, Option.bind_some, e2, Option.bind_some]
  obtain ⟨u, e, hu⟩ := run_for k_runInside_10 (fun _ => some ()) N (fun _ u => u = s) (by
    intro n k u hk hu
    subst hu
    refine ⟨u, ?_, rfl⟩
    rw [k_runInside_10, h1, if_pos ((ofNat_lt (by omega) (by omega)).mpr hk), own_cells u h3 _ _ _ _ (by unfold BIG; omega), if_pos (by omega), ofNat_succ]) (by
    intro n u hu
    subst hu
    rw [k_runInside_10, h1, if_neg (fun hh => absurd ((ofNat_lt (by omega) (by omega)).mp hh) (by omega))]) BIG s (by unfold BIG; omega) rfl
  exact e
theorem own_nodes (v0 : Int32) : ∃ N : Nat, 2 ≤ N ∧ N ≤ 8 ∧ k_clampNodes v0 = Int32.ofNat N ∧ (if v0 < 2 then 2 else if 8 < v0 then 8 else v0) = Int32.ofNat N := by
  unfold k_clampNodes
  by_cases h : v0 < 2
  · exact ⟨2, by omega, by omega, by rw [if_pos h]; rfl, by rw [if_pos h]; rfl⟩
  · by_cases h2 : 8 < v0
    · exact ⟨8, by omega, by omega, by rw [if_neg h, if_pos h2]; rfl, by rw [if_neg h, if_pos h2]; rfl⟩
    · have h0 : ¬ v0 < 0 := by
        intro q
        rw [Int32.lt_iff_toInt_lt] at q h
        have : (0 : Int32).toInt = 0 := rfl
        have : (2 : Int32).toInt = 2 := rfl
        omega
      obtain ⟨e, hl⟩ := eq_ofNat h0
      have := toInt_clamp h0
      rw [Int32.lt_iff_toInt_lt] at h h2
      have : (2 : Int32).toInt = 2 := rfl
      have : (8 : Int32).toInt = 8 := rfl
      refine ⟨v0.toNatClampNeg, by omega, by omega, ?_, ?_⟩
      · rw [if_neg (by rw [Int32.lt_iff_toInt_lt]; exact h), if_neg (by rw [Int32.lt_iff_toInt_lt]; exact h2)]; exact e
      · rw [if_neg (by rw [Int32.lt_iff_toInt_lt]; exact h), if_neg (by rw [Int32.lt_iff_toInt_lt]; exact h2)]; exact e
theorem law_true (v0 v1 v2 v3 v4 : Int32) : ∃ t, law v0 v1 v2 v3 v4 = some (1, t) := by
  obtain ⟨N, hN2, hN8, cN, dN⟩ := own_nodes v0
  obtain ⟨X, eX, lX, x0, x1, x2, x3, x4⟩ : ∃ X, k_init v0 = ((k_clearStore_16 BIG 0 X).bind fun r => (k_clearTables r).bind fun r => some r) ∧ own_len X ∧ gI X 0 = 1073741824 ∧ gI X 1 = k_clampNodes v0 ∧ gI X 2 = 0 ∧ gI X 3 = 0 ∧ gI X 4 = 0 := by
    refine ⟨_, by unfold k_init k_clearStore; rfl, ?_, ?_, ?_, ?_, ?_, ?_⟩
    · simp [own_len, k_becomeBuilding, gA_sI, gA_sA, rep_length]
    · simp [k_becomeBuilding, gI_sI, gI_sA]
    · simp [k_becomeBuilding, gI_sI, gI_sA]
    · simp [k_becomeBuilding, gI_sI, gI_sA]
    · simp [k_becomeBuilding, gI_sI, gI_sA]
    · simp [k_becomeBuilding, gI_sI, gI_sA]
  rw [cN] at x1
  obtain ⟨Y, eY, J⟩ := own_16 X X ⟨Fx.refl .., lX⟩
  obtain ⟨s, es, J2⟩ := own_2 X Y J
  obtain ⟨r, er, J3, g8⟩ := own_2b X s J2
  have hr : ∀ f, gI r f = gI X f := fun f => J3.1.1 f (by simp)
  have ei := own_inside r (by rw [hr, x2]) (by rw [hr, x3]) (N := N) (by rw [hr, x1]) hN8
  have e1 : Int32.ofNat N - 1 = Int32.ofNat (N - 1) := by
    obtain ⟨m, rfl⟩ : ∃ m, N = m + 1 := ⟨N - 1, by omega⟩
    rw [← ofNat_succ, Int32.add_sub_cancel]; rfl
  have eg : k_getSpan 8 0 (gI r 1 - 1) r = some 1073741824 := by
    have c1 : k_isCode 8 = 1 := by decide
    have c2 : k_isNode 0 r = 1 := by
      unfold k_isNode; rw [if_neg (by decide), hr, x1, if_pos (by rw [show (0 : Int32) = Int32.ofNat 0 from rfl, ofNat_lt (by omega) (by omega)]; omega)]
    have c3 : k_isNode (Int32.ofNat (N - 1)) r = 1 := by
      unfold k_isNode; rw [if_neg (ofNat_nonneg (by omega)), hr, x1, if_pos (by rw [ofNat_lt (by omega) (by omega)]; omega)]
    have c4 : k_spanSlot 8 0 (Int32.ofNat (N - 1)) r = Int32.ofNat (512 + (N - 1)) := by
      unfold k_spanSlot
      rw [c1, if_neg (by decide), c2, if_neg (by decide), c3, if_neg (by decide), ← ofNat_add']; rfl
    unfold k_getSpan
    rw [hr, x1, e1, c4, if_neg (ofNat_nonneg (by omega)), ix_ofNat _ (by omega), g8, rep_get, if_pos (by omega), Option.bind_some, x0]
  obtain ⟨p, hp⟩ : ∃ p, p = sI (sI r 4 2) 5 (-1) := ⟨_, rfl⟩
  have ep : k_parse s = some (0, p) := by
    unfold k_parse
    rw [er, Option.bind_some, ei, Option.bind_some, eg, Option.bind_some, if_neg (by rw [hr, x0]; decide), if_neg (by decide), hp]
  have p1 : gI p 1 = Int32.ofNat N := by rw [hp]; simp [gI_sI]; rw [hr, x1]
  have p2 : gI p 2 = 0 := by rw [hp]; simp [gI_sI]; rw [hr, x2]
  have p4 : gI p 4 = 2 := by rw [hp]; simp [gI_sI]
  have pA : ∀ f, gA p f = gA r f := fun f => by rw [hp]; simp [gA_sI]
  obtain ⟨r0, r1, r2, r3, _⟩ := J3.2
  unfold law law_31
  rw [eX, eY, Option.bind_some, es, Option.bind_some, Option.bind_some, dN, e1]
  unfold law_77
  rw [ep, Option.bind_some]
  dsimp only
  rw [if_pos rfl, show k_status p = 2 from p4, if_pos rfl]
  have ref : k_edgeRefused v1 v2 v3 v4 p = (if v1 < 0 then (1 : Int32) else if Int32.ofNat (N - 1) < v2 then 1 else if v1 < v2 then if v3 < 0 then 1 else if (7 : Int32) < v3 then 1 else if v4 < 0 then 1 else if (100 : Int32) < v4 then 1 else 0 else 1) := by
    unfold k_edgeRefused k_inRange
    rw [p2, if_pos (by decide), p1, e1]
    split
    · rfl
    split
    · rfl
    split
    · by_cases q1 : v3 < 0
      · simp [q1]
      · by_cases q2 : 7 < v3
        · simp [q1, q2]
        · by_cases q3 : v4 < 0
          · simp [q1, q2, q3]
          · by_cases q4 : 100 < v4 <;> simp [q1, q2, q3, q4]
    · rfl
  have neg : (if v1 < 0 then (0 : Int32) else if Int32.ofNat (N - 1) < v2 then 0 else if v1 < v2 then if v3 < 0 then 0 else if (7 : Int32) < v3 then 0 else if v4 < 0 then 0 else if (100 : Int32) < v4 then 0 else 1 else 0) = (if k_edgeRefused v1 v2 v3 v4 p = 0 then 1 else 0) := by
    rw [ref]
    repeat' split
    all_goals simp_all
  rw [neg]
  by_cases q : k_edgeRefused v1 v2 v3 v4 p = 0
  · have st0 : ∀ f x, (gA r f).length = 16 → Jvm.AM.st (gA p f) 0 x = some ((gA r f).set 0 x) := fun f x hl => by
      rw [pA]; exact st_ofNat (k := 0) _ _ (by omega) (by omega)
    obtain ⟨u, hu⟩ : ∃ u, u = k_becomeBuilding (sI (sA (sA (sA (sA p 0 ((gA r 0).set 0 v1)) 1 ((gA r 1).set 0 v2)) 2 ((gA r 2).set 0 v3)) 3 ((gA r 3).set 0 v4)) 2 ((0 : Int32) + 1)) := ⟨_, rfl⟩
    have ea : k_addEdge v1 v2 v3 v4 p = some (0, u) := by
      unfold k_addEdge
      rw [if_pos q, p2, st0 0 _ r0, Option.bind_some, st0 1 _ r1, Option.bind_some, st0 2 _ r2, Option.bind_some, st0 3 _ r3, Option.bind_some, hu]
    have u2 : gI u 2 = 1 := by rw [hu]; simp [k_becomeBuilding, gI_sI]
    have u4 : gI u 4 = 0 := by rw [hu]; simp [k_becomeBuilding, gI_sI]
    have u0' : gA u 0 = (gA r 0).set 0 v1 := by rw [hu]; simp [k_becomeBuilding, gA_sI, gA_sA]
    have u1' : gA u 1 = (gA r 1).set 0 v2 := by rw [hu]; simp [k_becomeBuilding, gA_sI, gA_sA]
    have u2' : gA u 2 = (gA r 2).set 0 v3 := by rw [hu]; simp [k_becomeBuilding, gA_sI, gA_sA]
    have u3' : gA u 3 = (gA r 3).set 0 v4 := by rw [hu]; simp [k_becomeBuilding, gA_sI, gA_sA]
    have ix0 : ∀ (l : List Int32) x, l.length = 16 → ix (l.set 0 x) 0 = some x := fun l x hl => by
      rw [show (0 : Int32) = Int32.ofNat 0 from rfl, ix_ofNat _ (by omega), List.getElem?_set_self (by omega)]
    have g0 : k_edgeInfo 0 0 u = some v1 := by
      unfold k_edgeInfo; rw [if_neg (by decide), u2, if_pos (by decide), if_pos rfl, u0', ix0 _ _ r0, Option.bind_some]
    have g1 : k_edgeInfo 0 1 u = some v2 := by
      unfold k_edgeInfo; rw [if_neg (by decide), u2, if_pos (by decide), if_neg (by decide), if_pos rfl, u1', ix0 _ _ r1, Option.bind_some]
    have g2 : k_edgeInfo 0 2 u = some v3 := by
      unfold k_edgeInfo; rw [if_neg (by decide), u2, if_pos (by decide), if_neg (by decide), if_neg (by decide), if_pos rfl, u2', ix0 _ _ r2, Option.bind_some]
    have g3 : k_edgeInfo 0 3 u = some v4 := by
      unfold k_edgeInfo; rw [if_neg (by decide), u2, if_pos (by decide), if_neg (by decide), if_neg (by decide), if_neg (by decide), if_pos rfl, u3', ix0 _ _ r3, Option.bind_some]
    refine ⟨u, ?_⟩
    simp [q, ea, g0, g1, g2, g3, k_edgeCount, k_status, u2, u4]
  · have ea : k_addEdge v1 v2 v3 v4 p = some (-1, p) := by unfold k_addEdge; rw [if_neg q]
    have gi : ∀ k, k_edgeInfo 0 k p = some (-1) := fun k => by
      unfold k_edgeInfo; rw [if_neg (by decide), p2, if_neg (by decide)]
    refine ⟨p, ?_⟩
    simp [q, ea, gi, k_edgeCount, k_status, p2, p4]
set_option maxRecDepth 65536 in
set_option maxHeartbeats 40000000 in
theorem comes_1 {Post : Tables → Env → Array Value → State → Outcome → State → Prop} (hpost : ∀ tb e args s v u, (limb_1_1.after args s (.returned v) u = true ∧ limb_1_2.after args s (.returned v) u = true ∧ True) → FrameEnd s (.returned v) u (Jvm.fieldLocs frame_1_writes args s ++ Jvm.arrayLocs frame_1_arrays args s ++ Jvm.staticLocs frame_1_statics s) 40 16768 → Post tb e args s (.returned v) u) :
    ArmFor flags0 classFile x code maxLocals ret World_1 tables_1 room_1 Calls_1 rest_1 Pre_1 Post := by
  intro l hfl _ _ p e ha hc hk s m args below hf hA hF happ hP
  obtain ⟨hcalls, hrest, hpre⟩ := hP
  obtain ⟨-, -, -, hnamed, -, -, -, hat⟩ := (Spec.applies_iff hf).mp happ
  obtain ⟨hg, hn⟩ := and_e (Cond.before_iff.mp (show (Jvm.Cond.and given_1 narrow_1).before args s = true from hpre))
  obtain ⟨g0, b0⟩ := and_e hg
  obtain ⟨a0, b1⟩ := and_e b0
  obtain ⟨a1, b2⟩ := and_e b1
  obtain ⟨a2, b3⟩ := and_e b2
  obtain ⟨a3, b4⟩ := and_e b3
  have a4 := b4
  obtain ⟨w0, w1, w2, w3, w4, rfl⟩ : ∃ w0 w1 w2 w3 w4 : Value, args = #[w0, w1, w2, w3, w4] := by
    have hs : args.size = 5 := by simpa [Cond.value, given_1] using g0
    obtain ⟨L⟩ := args
    match L, hs with
    | [w0, w1, w2, w3, w4], _ => exact ⟨w0, w1, w2, w3, w4, rfl⟩
  have hw := fun d (hd : d ∈ tables_1) => atoms_spec (ws := Jvm.Cond.code x code maxLocals ret :: tables_1) hat d (List.mem_cons_of_mem _ hd)
  have hfit : Fit s := fun {y c} hc i hi => by
    obtain ⟨ha, rfl⟩ := Array.getElem?_eq_some_iff.mp hc
    have q := List.all_eq_true.mp ((Array.all_eq_true_iff_forall_mem.mp hF) _ (Array.getElem_mem ha)) i (List.mem_range.mpr hi)
    simpa [Array.getElem?_eq_getElem hi] using q
  obtain ⟨i0, ei0⟩ := is_v a0
  obtain rfl : w0 = (.int i0) := Option.some.inj ei0
  obtain ⟨i1, ei1⟩ := is_v a1
  obtain rfl : w1 = (.int i1) := Option.some.inj ei1
  obtain ⟨i2, ei2⟩ := is_v a2
  obtain rfl : w2 = (.int i2) := Option.some.inj ei2
  obtain ⟨i3, ei3⟩ := is_v a3
  obtain rfl : w3 = (.int i3) := Option.some.inj ei3
  obtain ⟨i4, ei4⟩ := is_v a4
  obtain rfl : w4 = (.int i4) := Option.some.inj ei4
  obtain ⟨t, ht⟩ := law_true i0 i1 i2 i3 i4
  have C : Call PP m21 [.int i0, .int i1, .int i2, .int i3, .int i4] (none, []) (some (.int ((1 : Int32), t).1), (none, [(12, ((1 : Int32), t).2)])) := call_of_go pl_1 rfl (fun h => by cases h) (law_ok i0 i1 i2 i3 i4 _ ht)
  obtain ⟨n, o, h1, h2, h3, _, L, rfl, ⟨rfl, N, _⟩, hq⟩ := C l s _ tables_1 0 s.heap.size s.heap.size s.heap hw (facts1 hw) (Nat.le_refl _) (repW_none ..) (Nat.zero_le _) (fun _ => ⟨rfl, rfl, rfl⟩) p e ha hc hk s m _ below hf ((Spec.applies_iff_loose hf).mp happ).1 ⟨rfl, State.Warmed39.refl s, rfl⟩ trivial
  refine ⟨n, _, h1, h2, h3, hpost _ _ _ _ _ _ ⟨Cond.after_iff.mpr rfl, Cond.after_iff.mpr (eq_i res_at (Term.int_eval (1)) rfl), trivial⟩ ⟨hq.1, hq.2.1, (hq.2.2.sift fun y hy => Or.inr (N y hy)).mono (by decide) (by decide)⟩⟩
theorem main_1_1 : Claimed_1_1 := comes_1 fun _ _ _ _ _ _ h hF => ⟨h.1, hF⟩
theorem main_1_2 : Claimed_1_2 := comes_1 fun _ _ _ _ _ _ h hF => ⟨h.2.1, hF⟩
end Jvm.Pilot.@@N@@
namespace Jvm.Pilot.@@N@@
open Jvm Jvm.ClassFile Sem Op Lib Jvm.Free Jvm.Stand Jvm.Pilot.@@N@@.Jvm.D
/-! MADE BY PROGRAM (witnessworld.py) out of the Statement's table words and the real class files: 9 classes; the members and pool entries that the words name. The judged class is class 1, her method 1. -/
namespace start1
open Jvm.ClassFile
def u (s : String) : CpInfo := .utf8 (stringToUtf16 s)
/-- a pool by its gaps: so many unusable entries, then the entry; so many at the end -/
def gap : Nat → List CpInfo → List CpInfo
  | 0, r => r
  | n + 1, r => .unusable :: gap n r
def poolList (es : List (Nat × CpInfo)) (last : Nat) : List CpInfo := es.foldr (fun e r => gap e.1 (e.2 :: r)) (gap last [])
def pool (es : List (Nat × CpInfo)) (last : Nat) : Array CpInfo := ⟨poolList es last⟩
def fileOf (pool : Array CpInfo) (this : Nat) (attrs : Array Attribute := #[]) (ms : Array MethodInfo := #[]) (fl : Nat := 33) (sup : Nat := 0) (ifs : Array Nat := #[]) (fds : Array FieldInfo := #[]) : ClassFile where
  minorVersion := 0
  majorVersion := 65
  constantPool := pool
  accessFlags := fl
  thisClass := this
  superClass := sup
  interfaces := ifs
  fields := fds
  methods := ms
  attributes := attrs
def plain (name : String) (sup : Option ClassId) : Class where
  name := name
  kind := .ordinary
  loader := none
  accessFlags := 33
  super := sup
  interfaces := #[]
  cf := none
  fields := #[]
  methods := #[]
  instanceTypes := #[]
  staticTypes := #[]
  resolved := #[]
  callSites := []
  init := .initialized
  statics := none
  mirror := none

def pool0 : Array CpInfo := pool [(5, u "<init>"), (0, u "()V"), (1, .class_ 10), (1, u "java/lang/Object")] 113

def k0c0 : Code := { maxStack := 0, maxLocals := 1, code := object_method_1_code, exceptionTable := #[], attributes := #[] }
def k0m0 : Method := { name := "<init>", desc := "()V", sig := { parameters := [], returnType := none }, accessFlags := 1, code := some k0c0 }
/-- java/lang/Object -/
def k0 : Class := { plain "java/lang/Object" none with
  accessFlags := 33
  interfaces := #[]
  cf := some (fileOf pool0 8 #[] #[{ accessFlags := 1, nameIndex := 5, descriptorIndex := 6, attributes := #[] }] 33 0 #[] #[])
  fields := #[]
  methods := #[k0m0]
  instanceTypes := #[]
  staticTypes := #[]
  resolved := Array.replicate 124 none
  statics := none }

def pool1 : Array CpInfo := pool [(2, .class_ 4), (1, u "java/lang/Object"), (0, u "<init>"), (0, u "()V"), (0, .class_ 8), (0, u "LatticeEarley"), (0, .methodref 7 10), (0, .nameAndType 5 11), (0, u "(I)V"), (0, .methodref 7 13), (0, .nameAndType 14 15), (0, u "parse"), (0, u "()Z"), (0, .methodref 7 17), (0, .nameAndType 18 19), (0, u "status"), (0, u "()I"), (0, .methodref 7 21), (0, .nameAndType 22 23), (0, u "addEdge"), (0, u "(IIII)I"), (0, .methodref 7 25), (0, .nameAndType 26 19), (0, u "edgeCount"), (0, .methodref 7 28), (0, .nameAndType 29 30), (0, u "edgeInfo"), (0, u "(II)I"), (0, .class_ 32), (0, u "LatticeEarleyL2"), (2, u "law"), (0, u "(IIIII)Z")] 3

def k1m0 : Method := { name := "<init>", desc := "()V", sig := { parameters := [], returnType := none }, accessFlags := 1, code := none }
def k1c1 : Code := { maxStack := 5, maxLocals := 15, code := code, exceptionTable := #[], attributes := #[] }
def k1m1 : Method := { name := "law", desc := "(IIIII)Z", sig := { parameters := [.int, .int, .int, .int, .int], returnType := some .boolean }, accessFlags := 9, code := some k1c1 }
/-- LatticeEarleyL2 -/
def k1 : Class := { plain "LatticeEarleyL2" (some 0) with
  accessFlags := 49
  interfaces := #[]
  cf := some (fileOf pool1 31 #[] #[{ accessFlags := 1, nameIndex := 5, descriptorIndex := 6, attributes := #[] }, { accessFlags := 9, nameIndex := 35, descriptorIndex := 36, attributes := #[] }] 49 2 #[] #[])
  fields := #[]
  methods := #[k1m0, k1m1]
  instanceTypes := #[]
  staticTypes := #[]
  resolved := Array.replicate 40 none
  statics := none }

def pool2 : Array CpInfo := pool [(1, .methodref 2 3), (0, .class_ 4), (0, .nameAndType 5 6), (0, u "java/lang/Object"), (0, u "<init>"), (0, u "()V"), (0, .integer 1073741824), (0, .fieldref 9 10), (0, .class_ 11), (0, .nameAndType 12 13), (0, u "LatticeEarley"), (0, u "inf"), (0, u "I"), (0, .fieldref 9 15), (0, .nameAndType 16 17), (0, u "edgeFrom"), (0, u "[I"), (0, .fieldref 9 19), (0, .nameAndType 20 17), (0, u "edgeTo"), (0, .fieldref 9 22), (0, .nameAndType 23 17), (0, u "edgeLabel"), (0, .fieldref 9 25), (0, .nameAndType 26 17), (0, u "edgeWeight"), (0, .fieldref 9 28), (0, .nameAndType 29 17), (0, u "ruleHead"), (0, .fieldref 9 31), (0, .nameAndType 32 17), (0, u "ruleWeight"), (0, .fieldref 9 34), (0, .nameAndType 35 17), (0, u "ruleLength"), (0, .fieldref 9 37), (0, .nameAndType 38 17), (0, u "ruleSym"), (0, .fieldref 9 40), (0, .nameAndType 41 17), (0, u "span"), (0, .fieldref 9 43), (0, .nameAndType 44 17), (0, u "item"), (0, .fieldref 9 46), (0, .nameAndType 47 17), (0, u "rest"), (0, .fieldref 9 49), (0, .nameAndType 50 17), (0, u "outer"), (0, .methodref 9 52), (0, .nameAndType 53 54), (0, u "clampNodes"), (0, u "(I)I"), (0, .fieldref 9 56), (0, .nameAndType 57 13), (0, u "nodeTotal"), (0, .methodref 9 59), (0, .nameAndType 60 6), (0, u "clearStore"), (0, .methodref 9 62), (0, .nameAndType 63 6), (0, u "clearTables"), (0, .fieldref 9 65), (0, .nameAndType 66 13), (0, u "edgeTotal"), (0, .fieldref 9 68), (0, .nameAndType 69 13), (0, u "ruleTotal"), (0, .methodref 9 71), (0, .nameAndType 72 73), (0, u "edgeRefused"), (0, u "(IIII)Z"), (0, .methodref 9 75), (0, .nameAndType 76 6), (0, u "becomeBuilding"), (10, u "(II)I"), (0, .methodref 9 89), (0, .nameAndType 90 6), (0, u "runInside"), (0, .methodref 9 92), (0, .nameAndType 93 94), (0, u "getSpan"), (0, u "(III)I"), (0, .fieldref 9 96), (0, .nameAndType 97 13), (0, u "state"), (0, .fieldref 9 99), (0, .nameAndType 100 13), (0, u "bestTotal"), (6, .methodref 9 108), (0, .nameAndType 109 110), (0, u "isCode"), (0, u "(I)Z"), (0, .methodref 9 112), (0, .nameAndType 113 110), (0, u "isNode"), (15, .methodref 9 130), (0, .nameAndType 131 132), (0, u "inRange"), (0, u "(III)Z"), (6, .methodref 9 140), (0, .nameAndType 141 94), (0, u "spanSlot"), (3, u "(IIII)I"), (0, .methodref 9 147), (0, .nameAndType 148 6), (0, u "scanEdges"), (0, .methodref 9 150), (0, .nameAndType 151 6), (0, u "seedItems"), (0, .methodref 9 153), (0, .nameAndType 154 155), (0, u "closeInsideCell"), (0, u "(II)V"), (7, .methodref 9 164), (0, .nameAndType 165 166), (0, u "insideRound"), (0, u "(II)Z"), (18, u "(I)V"), (30, u "MIN_NODES"), (2, u "MAX_NODES"), (1, u "MAX_EDGES"), (1, u "MAX_RULES"), (1, u "MAX_BODY"), (1, u "TERMINALS"), (0, u "NONTERMINALS"), (0, u "NONTERMINAL_BASE"), (0, u "START_CODE"), (0, u "MAX_WEIGHT"), (1, u "NONE"), (1, u "STATUS_BUILDING"), (1, u "STATUS_ACCEPTED"), (1, u "STATUS_REJECTED"), (0, u "EDGE_FROM"), (0, u "EDGE_TO"), (0, u "EDGE_LABEL"), (0, u "EDGE_WEIGHT"), (0, u "RULE_HEAD"), (0, u "RULE_WEIGHT"), (0, u "RULE_LENGTH"), (0, u "RULE_SYM0"), (0, u "RULE_SYM1"), (1, u "RULE_SYM2"), (5, u "()I"), (0, u "edgeCount"), (1, u "addEdge"), (2, u "edgeInfo"), (1, u "parse"), (0, u "()Z"), (0, u "status")] 6

def k2c0 : Code := { maxStack := 3, maxLocals := 2, code := prog_1_method_1_code, exceptionTable := #[], attributes := #[] }
def k2m0 : Method := { name := "<init>", desc := "(I)V", sig := { parameters := [.int], returnType := none }, accessFlags := 1, code := some k2c0 }
def k2c1 : Code := { maxStack := 1, maxLocals := 1, code := prog_1_method_4_code, exceptionTable := #[], attributes := #[] }
def k2m1 : Method := { name := "edgeCount", desc := "()I", sig := { parameters := [], returnType := some .int }, accessFlags := 1, code := some k2c1 }
def k2c2 : Code := { maxStack := 5, maxLocals := 6, code := prog_1_method_6_code, exceptionTable := #[], attributes := #[] }
def k2m2 : Method := { name := "addEdge", desc := "(IIII)I", sig := { parameters := [.int, .int, .int, .int], returnType := some .int }, accessFlags := 1, code := some k2c2 }
def k2c3 : Code := { maxStack := 2, maxLocals := 3, code := prog_1_method_8_code, exceptionTable := #[], attributes := #[] }
def k2m3 : Method := { name := "edgeInfo", desc := "(II)I", sig := { parameters := [.int, .int], returnType := some .int }, accessFlags := 1, code := some k2c3 }
def k2c4 : Code := { maxStack := 4, maxLocals := 3, code := prog_1_method_10_code, exceptionTable := #[], attributes := #[] }
def k2m4 : Method := { name := "parse", desc := "()Z", sig := { parameters := [], returnType := some .boolean }, accessFlags := 1, code := some k2c4 }
def k2c5 : Code := { maxStack := 1, maxLocals := 1, code := prog_1_method_11_code, exceptionTable := #[], attributes := #[] }
def k2m5 : Method := { name := "status", desc := "()I", sig := { parameters := [], returnType := some .int }, accessFlags := 1, code := some k2c5 }
def k2c6 : Code := { maxStack := 2, maxLocals := 2, code := prog_1_method_16_code, exceptionTable := #[], attributes := #[] }
def k2m6 : Method := { name := "clampNodes", desc := "(I)I", sig := { parameters := [.int], returnType := some .int }, accessFlags := 2, code := some k2c6 }
def k2c7 : Code := { maxStack := 3, maxLocals := 2, code := prog_1_method_17_code, exceptionTable := #[], attributes := #[] }
def k2m7 : Method := { name := "clearStore", desc := "()V", sig := { parameters := [], returnType := none }, accessFlags := 2, code := some k2c7 }
def k2c8 : Code := { maxStack := 2, maxLocals := 1, code := prog_1_method_18_code, exceptionTable := #[], attributes := #[] }
def k2m8 : Method := { name := "becomeBuilding", desc := "()V", sig := { parameters := [], returnType := none }, accessFlags := 2, code := some k2c8 }
def k2c9 : Code := { maxStack := 3, maxLocals := 2, code := prog_1_method_19_code, exceptionTable := #[], attributes := #[] }
def k2m9 : Method := { name := "clearTables", desc := "()V", sig := { parameters := [], returnType := none }, accessFlags := 2, code := some k2c9 }
def k2c10 : Code := { maxStack := 2, maxLocals := 4, code := prog_1_method_20_code, exceptionTable := #[], attributes := #[] }
def k2m10 : Method := { name := "inRange", desc := "(III)Z", sig := { parameters := [.int, .int, .int], returnType := some .boolean }, accessFlags := 2, code := some k2c10 }
def k2c11 : Code := { maxStack := 4, maxLocals := 5, code := prog_1_method_21_code, exceptionTable := #[], attributes := #[] }
def k2m11 : Method := { name := "edgeRefused", desc := "(IIII)Z", sig := { parameters := [.int, .int, .int, .int], returnType := some .boolean }, accessFlags := 2, code := some k2c11 }
def k2c12 : Code := { maxStack := 2, maxLocals := 2, code := prog_1_method_27_code, exceptionTable := #[], attributes := #[] }
def k2m12 : Method := { name := "isNode", desc := "(I)Z", sig := { parameters := [.int], returnType := some .boolean }, accessFlags := 2, code := some k2c12 }
def k2c13 : Code := { maxStack := 2, maxLocals := 2, code := prog_1_method_28_code, exceptionTable := #[], attributes := #[] }
def k2m13 : Method := { name := "isCode", desc := "(I)Z", sig := { parameters := [.int], returnType := some .boolean }, accessFlags := 2, code := some k2c13 }
def k2c14 : Code := { maxStack := 3, maxLocals := 4, code := prog_1_method_31_code, exceptionTable := #[], attributes := #[] }
def k2m14 : Method := { name := "spanSlot", desc := "(III)I", sig := { parameters := [.int, .int, .int], returnType := some .int }, accessFlags := 2, code := some k2c14 }
def k2c15 : Code := { maxStack := 4, maxLocals := 5, code := prog_1_method_33_code, exceptionTable := #[], attributes := #[] }
def k2m15 : Method := { name := "getSpan", desc := "(III)I", sig := { parameters := [.int, .int, .int], returnType := some .int }, accessFlags := 2, code := some k2c15 }
def k2c16 : Code := { maxStack := 3, maxLocals := 3, code := prog_1_method_44_code, exceptionTable := #[], attributes := #[] }
def k2m16 : Method := { name := "runInside", desc := "()V", sig := { parameters := [], returnType := none }, accessFlags := 2, code := some k2c16 }
def k2c17 : Code := { maxStack := 6, maxLocals := 2, code := prog_1_method_45_code, exceptionTable := #[], attributes := #[] }
def k2m17 : Method := { name := "scanEdges", desc := "()V", sig := { parameters := [], returnType := none }, accessFlags := 2, code := some k2c17 }
def k2c18 : Code := { maxStack := 7, maxLocals := 3, code := prog_1_method_46_code, exceptionTable := #[], attributes := #[] }
def k2m18 : Method := { name := "seedItems", desc := "()V", sig := { parameters := [], returnType := none }, accessFlags := 2, code := some k2c18 }
def k2c19 : Code := { maxStack := 3, maxLocals := 5, code := prog_1_method_47_code, exceptionTable := #[], attributes := #[] }
def k2m19 : Method := { name := "closeInsideCell", desc := "(II)V", sig := { parameters := [.int, .int], returnType := none }, accessFlags := 2, code := some k2c19 }
def k2c20 : Code := { maxStack := 4, maxLocals := 5, code := prog_1_method_48_code, exceptionTable := #[], attributes := #[] }
def k2m20 : Method := { name := "insideRound", desc := "(II)Z", sig := { parameters := [.int, .int], returnType := some .boolean }, accessFlags := 2, code := some k2c20 }
/-- LatticeEarley -/
def k2 : Class := { plain "LatticeEarley" (some 0) with
  accessFlags := 49
  interfaces := #[]
  cf := some (fileOf pool2 9 #[] #[{ accessFlags := 1, nameIndex := 5, descriptorIndex := 185, attributes := #[] }, { accessFlags := 1, nameIndex := 257, descriptorIndex := 256, attributes := #[] }, { accessFlags := 1, nameIndex := 259, descriptorIndex := 145, attributes := #[] }, { accessFlags := 1, nameIndex := 262, descriptorIndex := 87, attributes := #[] }, { accessFlags := 1, nameIndex := 264, descriptorIndex := 265, attributes := #[] }, { accessFlags := 1, nameIndex := 266, descriptorIndex := 256, attributes := #[] }, { accessFlags := 2, nameIndex := 53, descriptorIndex := 54, attributes := #[] }, { accessFlags := 2, nameIndex := 60, descriptorIndex := 6, attributes := #[] }, { accessFlags := 2, nameIndex := 76, descriptorIndex := 6, attributes := #[] }, { accessFlags := 2, nameIndex := 63, descriptorIndex := 6, attributes := #[] }, { accessFlags := 2, nameIndex := 131, descriptorIndex := 132, attributes := #[] }, { accessFlags := 2, nameIndex := 72, descriptorIndex := 73, attributes := #[] }, { accessFlags := 2, nameIndex := 113, descriptorIndex := 110, attributes := #[] }, { accessFlags := 2, nameIndex := 109, descriptorIndex := 110, attributes := #[] }, { accessFlags := 2, nameIndex := 141, descriptorIndex := 94, attributes := #[] }, { accessFlags := 2, nameIndex := 93, descriptorIndex := 94, attributes := #[] }, { accessFlags := 2, nameIndex := 90, descriptorIndex := 6, attributes := #[] }, { accessFlags := 2, nameIndex := 148, descriptorIndex := 6, attributes := #[] }, { accessFlags := 2, nameIndex := 151, descriptorIndex := 6, attributes := #[] }, { accessFlags := 2, nameIndex := 154, descriptorIndex := 155, attributes := #[] }, { accessFlags := 2, nameIndex := 165, descriptorIndex := 166, attributes := #[] }] 49 2 #[] #[{ accessFlags := 25, nameIndex := 216, descriptorIndex := 13, attributes := #[] }, { accessFlags := 25, nameIndex := 219, descriptorIndex := 13, attributes := #[] }, { accessFlags := 25, nameIndex := 221, descriptorIndex := 13, attributes := #[] }, { accessFlags := 25, nameIndex := 223, descriptorIndex := 13, attributes := #[] }, { accessFlags := 25, nameIndex := 225, descriptorIndex := 13, attributes := #[] }, { accessFlags := 25, nameIndex := 227, descriptorIndex := 13, attributes := #[] }, { accessFlags := 25, nameIndex := 228, descriptorIndex := 13, attributes := #[] }, { accessFlags := 25, nameIndex := 229, descriptorIndex := 13, attributes := #[] }, { accessFlags := 25, nameIndex := 230, descriptorIndex := 13, attributes := #[] }, { accessFlags := 25, nameIndex := 231, descriptorIndex := 13, attributes := #[] }, { accessFlags := 25, nameIndex := 233, descriptorIndex := 13, attributes := #[] }, { accessFlags := 25, nameIndex := 235, descriptorIndex := 13, attributes := #[] }, { accessFlags := 25, nameIndex := 237, descriptorIndex := 13, attributes := #[] }, { accessFlags := 25, nameIndex := 239, descriptorIndex := 13, attributes := #[] }, { accessFlags := 25, nameIndex := 240, descriptorIndex := 13, attributes := #[] }, { accessFlags := 25, nameIndex := 241, descriptorIndex := 13, attributes := #[] }, { accessFlags := 25, nameIndex := 242, descriptorIndex := 13, attributes := #[] }, { accessFlags := 25, nameIndex := 243, descriptorIndex := 13, attributes := #[] }, { accessFlags := 25, nameIndex := 244, descriptorIndex := 13, attributes := #[] }, { accessFlags := 25, nameIndex := 245, descriptorIndex := 13, attributes := #[] }, { accessFlags := 25, nameIndex := 246, descriptorIndex := 13, attributes := #[] }, { accessFlags := 25, nameIndex := 247, descriptorIndex := 13, attributes := #[] }, { accessFlags := 25, nameIndex := 248, descriptorIndex := 13, attributes := #[] }, { accessFlags := 25, nameIndex := 250, descriptorIndex := 13, attributes := #[] }, { accessFlags := 2, nameIndex := 57, descriptorIndex := 13, attributes := #[] }, { accessFlags := 2, nameIndex := 66, descriptorIndex := 13, attributes := #[] }, { accessFlags := 2, nameIndex := 69, descriptorIndex := 13, attributes := #[] }, { accessFlags := 2, nameIndex := 97, descriptorIndex := 13, attributes := #[] }, { accessFlags := 2, nameIndex := 100, descriptorIndex := 13, attributes := #[] }, { accessFlags := 2, nameIndex := 12, descriptorIndex := 13, attributes := #[] }, { accessFlags := 2, nameIndex := 16, descriptorIndex := 17, attributes := #[] }, { accessFlags := 2, nameIndex := 20, descriptorIndex := 17, attributes := #[] }, { accessFlags := 2, nameIndex := 23, descriptorIndex := 17, attributes := #[] }, { accessFlags := 2, nameIndex := 26, descriptorIndex := 17, attributes := #[] }, { accessFlags := 2, nameIndex := 29, descriptorIndex := 17, attributes := #[] }, { accessFlags := 2, nameIndex := 32, descriptorIndex := 17, attributes := #[] }, { accessFlags := 2, nameIndex := 35, descriptorIndex := 17, attributes := #[] }, { accessFlags := 2, nameIndex := 38, descriptorIndex := 17, attributes := #[] }, { accessFlags := 2, nameIndex := 41, descriptorIndex := 17, attributes := #[] }, { accessFlags := 2, nameIndex := 44, descriptorIndex := 17, attributes := #[] }, { accessFlags := 2, nameIndex := 47, descriptorIndex := 17, attributes := #[] }, { accessFlags := 2, nameIndex := 50, descriptorIndex := 17, attributes := #[] }])
  fields := #[{ name := "MIN_NODES", type := .int, accessFlags := 25, slot := 0, constantValue := 0 }, { name := "MAX_NODES", type := .int, accessFlags := 25, slot := 1, constantValue := 0 }, { name := "MAX_EDGES", type := .int, accessFlags := 25, slot := 2, constantValue := 0 }, { name := "MAX_RULES", type := .int, accessFlags := 25, slot := 3, constantValue := 0 }, { name := "MAX_BODY", type := .int, accessFlags := 25, slot := 4, constantValue := 0 }, { name := "TERMINALS", type := .int, accessFlags := 25, slot := 5, constantValue := 0 }, { name := "NONTERMINALS", type := .int, accessFlags := 25, slot := 6, constantValue := 0 }, { name := "NONTERMINAL_BASE", type := .int, accessFlags := 25, slot := 7, constantValue := 0 }, { name := "START_CODE", type := .int, accessFlags := 25, slot := 8, constantValue := 0 }, { name := "MAX_WEIGHT", type := .int, accessFlags := 25, slot := 9, constantValue := 0 }, { name := "NONE", type := .int, accessFlags := 25, slot := 10, constantValue := 0 }, { name := "STATUS_BUILDING", type := .int, accessFlags := 25, slot := 11, constantValue := 0 }, { name := "STATUS_ACCEPTED", type := .int, accessFlags := 25, slot := 12, constantValue := 0 }, { name := "STATUS_REJECTED", type := .int, accessFlags := 25, slot := 13, constantValue := 0 }, { name := "EDGE_FROM", type := .int, accessFlags := 25, slot := 14, constantValue := 0 }, { name := "EDGE_TO", type := .int, accessFlags := 25, slot := 15, constantValue := 0 }, { name := "EDGE_LABEL", type := .int, accessFlags := 25, slot := 16, constantValue := 0 }, { name := "EDGE_WEIGHT", type := .int, accessFlags := 25, slot := 17, constantValue := 0 }, { name := "RULE_HEAD", type := .int, accessFlags := 25, slot := 18, constantValue := 0 }, { name := "RULE_WEIGHT", type := .int, accessFlags := 25, slot := 19, constantValue := 0 }, { name := "RULE_LENGTH", type := .int, accessFlags := 25, slot := 20, constantValue := 0 }, { name := "RULE_SYM0", type := .int, accessFlags := 25, slot := 21, constantValue := 0 }, { name := "RULE_SYM1", type := .int, accessFlags := 25, slot := 22, constantValue := 0 }, { name := "RULE_SYM2", type := .int, accessFlags := 25, slot := 23, constantValue := 0 }, { name := "nodeTotal", type := .int, accessFlags := 2, slot := 0, constantValue := 0 }, { name := "edgeTotal", type := .int, accessFlags := 2, slot := 1, constantValue := 0 }, { name := "ruleTotal", type := .int, accessFlags := 2, slot := 2, constantValue := 0 }, { name := "state", type := .int, accessFlags := 2, slot := 3, constantValue := 0 }, { name := "bestTotal", type := .int, accessFlags := 2, slot := 4, constantValue := 0 }, { name := "inf", type := .int, accessFlags := 2, slot := 5, constantValue := 0 }, { name := "edgeFrom", type := (.array .int), accessFlags := 2, slot := 6, constantValue := 0 }, { name := "edgeTo", type := (.array .int), accessFlags := 2, slot := 7, constantValue := 0 }, { name := "edgeLabel", type := (.array .int), accessFlags := 2, slot := 8, constantValue := 0 }, { name := "edgeWeight", type := (.array .int), accessFlags := 2, slot := 9, constantValue := 0 }, { name := "ruleHead", type := (.array .int), accessFlags := 2, slot := 10, constantValue := 0 }, { name := "ruleWeight", type := (.array .int), accessFlags := 2, slot := 11, constantValue := 0 }, { name := "ruleLength", type := (.array .int), accessFlags := 2, slot := 12, constantValue := 0 }, { name := "ruleSym", type := (.array .int), accessFlags := 2, slot := 13, constantValue := 0 }, { name := "span", type := (.array .int), accessFlags := 2, slot := 14, constantValue := 0 }, { name := "item", type := (.array .int), accessFlags := 2, slot := 15, constantValue := 0 }, { name := "rest", type := (.array .int), accessFlags := 2, slot := 16, constantValue := 0 }, { name := "outer", type := (.array .int), accessFlags := 2, slot := 17, constantValue := 0 }]
  methods := #[k2m0, k2m1, k2m2, k2m3, k2m4, k2m5, k2m6, k2m7, k2m8, k2m9, k2m10, k2m11, k2m12, k2m13, k2m14, k2m15, k2m16, k2m17, k2m18, k2m19, k2m20]
  instanceTypes := #[.int, .int, .int, .int, .int, .int, (.array .int), (.array .int), (.array .int), (.array .int), (.array .int), (.array .int), (.array .int), (.array .int), (.array .int), (.array .int), (.array .int), (.array .int)]
  staticTypes := #[.int, .int, .int, .int, .int, .int, .int, .int, .int, .int, .int, .int, .int, .int, .int, .int, .int, .int, .int, .int, .int, .int, .int, .int]
  resolved := Array.replicate 273 none
  statics := none }

def pool3 : Array CpInfo := pool [(1, u "java/lang/Cloneable"), (0, .class_ 1), (0, u "java/lang/Object"), (0, .class_ 3)] 3

/-- java/lang/Cloneable -/
def k3 : Class := { plain "java/lang/Cloneable" (some 0) with
  accessFlags := 1537
  interfaces := #[]
  cf := some (fileOf pool3 2 #[] #[] 1537 4 #[] #[])
  fields := #[]
  methods := #[]
  instanceTypes := #[]
  staticTypes := #[]
  resolved := Array.replicate 8 none
  statics := none }

def pool4 : Array CpInfo := pool [(1, u "java/io/Serializable"), (0, .class_ 1), (0, u "java/lang/Object"), (0, .class_ 3)] 3

/-- java/io/Serializable -/
def k4 : Class := { plain "java/io/Serializable" (some 0) with
  accessFlags := 1537
  interfaces := #[]
  cf := some (fileOf pool4 2 #[] #[] 1537 4 #[] #[])
  fields := #[]
  methods := #[]
  instanceTypes := #[]
  staticTypes := #[]
  resolved := Array.replicate 8 none
  statics := none }

/-- the primitive byte -/
def k5 : Class := { plain "byte" none with kind := .primitive 'B', accessFlags := 0x411 }
/-- [B -/
def k6 : Class := { plain "[B" (some 0) with kind := .array 5 .byte, interfaces := #[3, 4], accessFlags := 1041 }

/-- the primitive int -/
def k7 : Class := { plain "int" none with kind := .primitive 'I', accessFlags := 0x411 }
/-- [I -/
def k8 : Class := { plain "[I" (some 0) with kind := .array 7 .int, interfaces := #[3, 4], accessFlags := 1041 }

def heap : Heap := #[]
def classes : Array Class := #[k0, k1, k2, k3, k4, k5, k6, k7, k8]
def interned : List (Array UInt16 × Addr) := []
def slotsUsed : Nat := 0
def theMethod : MethodId := ⟨1, 1⟩
def args0 : Array Value := #[.int 5, .int 5, .int 5, .int 5, .int 5]
def aboutOver (below : List Frame) : State where
  vm := { classes := classes, interned := interned.toArray }
  heap := heap
  slotsUsed := slotsUsed
  threads := #[{ frames := .invoking theMethod args0 :: below }]
def below0 : List Frame := [.native { method := ⟨0, 0⟩, args := #[] }]
def about1 : State := aboutOver below0
def p0 : Program := .bare "" "" ""
def e0 : Env := launch0.env 0 0 0
theorem w_frames : about1.frames = Frame.invoking theMethod args0 :: below0 := rfl
set_option maxRecDepth 65536 in
theorem w_args : argsFit about1.vm theMethod args0 = true := by decide +kernel
set_option maxRecDepth 65536 in
theorem w_heap : heapFits about1 = true := by decide +kernel
set_option maxRecDepth 65536 in
theorem w_runnable : about1.curStatus? = some .runnable := by decide +kernel
set_option maxRecDepth 65536 in
theorem w_alone : about1.alone = true := by decide +kernel
set_option maxRecDepth 65536 in
theorem w_named : about1.methodNamed? x = some theMethod := by decide +kernel
set_option maxRecDepth 65536 in
theorem w_hears : about1.hears theMethod below0 = true := by decide +kernel
set_option maxRecDepth 65536 in
theorem w_ripe : about1.ripe theMethod args0 below0 = true := by decide +kernel
theorem w_running : about1.status = .running := rfl
set_option maxRecDepth 65536 in
theorem w_room : about1.hasRoom e0.platform room_1 = true :=
  launch0.hasRoom_least _ room_1 (by decide +kernel) (by decide +kernel) (by decide +kernel) (by decide +kernel) (by decide +kernel) (by decide +kernel)
theorem allAtoms_all (ts : List Jvm.Cond) (a : Array Jvm.Value) (st : Jvm.State) : (allAtoms ts).before a st = ts.all (fun c => c.before a st) := by
  induction ts with
  | nil => rfl
  | cons c t ih =>
    show (Jvm.Cond.and c (allAtoms t)).before a st = _
    rw [Jvm.Cond.before_and, ih, List.all_cons]
def words1 : List Jvm.Cond := Jvm.Cond.code x code maxLocals ret :: tables_1
/-- a 'code' word, met by the world's own term for the bytes: nothing is compared byte by byte -/
theorem code_word {y : MethodName} {bytes : ByteArray} {mx : Nat} {rt : Option FieldType} {a : Array Value} {s : State} {m : MethodId} {meth : Method} {c : Code} (h1 : s.methodNamed? y = some m) (h2 : s.vm.method? m = some meth) (h3 : meth.code = some c) (h4 : c.code = bytes)
    (h5 : (c.maxLocals == mx && c.exceptionTable.isEmpty && decide (c.maxStack ≤ mostOperands) && decide (meth.sig.returnType = rt) && !meth.locks && decide (parseMethodDescriptor y.desc = some meth.sig)) = true) : (Jvm.Cond.code y bytes mx rt).before a s = true := by
  simp only [Bool.and_eq_true, beq_iff_eq, Bool.not_eq_true', decide_eq_true_eq] at h5
  obtain ⟨⟨⟨⟨⟨g1, g2⟩, g3⟩, g4⟩, g5⟩, g6⟩ := h5
  simp [Cond.before, Cond.holds, Cond.value, h1, h2, h3, h4, g1, g2, g3, g4, g5, g6]
def isCode : Jvm.Cond → Bool
  | .code _ _ _ _ => true
  | _ => false
theorem all_split {L : List Jvm.Cond} {P : Jvm.Cond → Bool} (h1 : L.all (fun c => isCode c || P c) = true) (h2 : ∀ c ∈ L.filter isCode, P c = true) : L.all P = true := by
  refine List.all_eq_true.mpr fun c hc => ?_
  have h := List.all_eq_true.mp h1 c hc
  rcases Bool.eq_false_or_eq_true (isCode c) with hi | hi
  · exact h2 c (List.mem_filter.mpr ⟨hc, hi⟩)
  · simpa [hi] using h
set_option maxRecDepth 65536 in
theorem w_c0 : (Jvm.Cond.code x code maxLocals ret).before args0 about1 = true := code_word (m := ⟨1, 1⟩) (meth := k1m1) (c := k1c1) (by decide +kernel) rfl rfl rfl (by decide +kernel)
set_option maxRecDepth 65536 in
theorem w_c1 : (Jvm.Cond.code ({ cls := "LatticeEarley", name := "<init>", desc := "(I)V" } : Jvm.MethodName) prog_1_method_1_code (2 : Nat) (Option.none : Option Jvm.ClassFile.FieldType)).before args0 about1 = true := code_word (m := ⟨2, 0⟩) (meth := k2m0) (c := k2c0) (by decide +kernel) rfl rfl rfl (by decide +kernel)
set_option maxRecDepth 65536 in
theorem w_c2 : (Jvm.Cond.code ({ cls := "java/lang/Object", name := "<init>", desc := "()V" } : Jvm.MethodName) object_method_1_code (1 : Nat) (Option.none : Option Jvm.ClassFile.FieldType)).before args0 about1 = true := code_word (m := ⟨0, 0⟩) (meth := k0m0) (c := k0c0) (by decide +kernel) rfl rfl rfl (by decide +kernel)
set_option maxRecDepth 65536 in
theorem w_c3 : (Jvm.Cond.code ({ cls := "LatticeEarley", name := "clampNodes", desc := "(I)I" } : Jvm.MethodName) prog_1_method_16_code (2 : Nat) (Option.some Jvm.ClassFile.FieldType.int)).before args0 about1 = true := code_word (m := ⟨2, 6⟩) (meth := k2m6) (c := k2c6) (by decide +kernel) rfl rfl rfl (by decide +kernel)
set_option maxRecDepth 65536 in
theorem w_c4 : (Jvm.Cond.code ({ cls := "LatticeEarley", name := "clearStore", desc := "()V" } : Jvm.MethodName) prog_1_method_17_code (2 : Nat) (Option.none : Option Jvm.ClassFile.FieldType)).before args0 about1 = true := code_word (m := ⟨2, 7⟩) (meth := k2m7) (c := k2c7) (by decide +kernel) rfl rfl rfl (by decide +kernel)
set_option maxRecDepth 65536 in
theorem w_c5 : (Jvm.Cond.code ({ cls := "LatticeEarley", name := "becomeBuilding", desc := "()V" } : Jvm.MethodName) prog_1_method_18_code (1 : Nat) (Option.none : Option Jvm.ClassFile.FieldType)).before args0 about1 = true := code_word (m := ⟨2, 8⟩) (meth := k2m8) (c := k2c8) (by decide +kernel) rfl rfl rfl (by decide +kernel)
set_option maxRecDepth 65536 in
theorem w_c6 : (Jvm.Cond.code ({ cls := "LatticeEarley", name := "clearTables", desc := "()V" } : Jvm.MethodName) prog_1_method_19_code (2 : Nat) (Option.none : Option Jvm.ClassFile.FieldType)).before args0 about1 = true := code_word (m := ⟨2, 9⟩) (meth := k2m9) (c := k2c9) (by decide +kernel) rfl rfl rfl (by decide +kernel)
set_option maxRecDepth 65536 in
theorem w_c7 : (Jvm.Cond.code ({ cls := "LatticeEarley", name := "parse", desc := "()Z" } : Jvm.MethodName) prog_1_method_10_code (3 : Nat) (Option.some Jvm.ClassFile.FieldType.boolean)).before args0 about1 = true := code_word (m := ⟨2, 4⟩) (meth := k2m4) (c := k2c4) (by decide +kernel) rfl rfl rfl (by decide +kernel)
set_option maxRecDepth 65536 in
theorem w_c8 : (Jvm.Cond.code ({ cls := "LatticeEarley", name := "runInside", desc := "()V" } : Jvm.MethodName) prog_1_method_44_code (3 : Nat) (Option.none : Option Jvm.ClassFile.FieldType)).before args0 about1 = true := code_word (m := ⟨2, 16⟩) (meth := k2m16) (c := k2c16) (by decide +kernel) rfl rfl rfl (by decide +kernel)
set_option maxRecDepth 65536 in
theorem w_c9 : (Jvm.Cond.code ({ cls := "LatticeEarley", name := "scanEdges", desc := "()V" } : Jvm.MethodName) prog_1_method_45_code (2 : Nat) (Option.none : Option Jvm.ClassFile.FieldType)).before args0 about1 = true := code_word (m := ⟨2, 17⟩) (meth := k2m17) (c := k2c17) (by decide +kernel) rfl rfl rfl (by decide +kernel)
set_option maxRecDepth 65536 in
theorem w_c10 : (Jvm.Cond.code ({ cls := "LatticeEarley", name := "seedItems", desc := "()V" } : Jvm.MethodName) prog_1_method_46_code (3 : Nat) (Option.none : Option Jvm.ClassFile.FieldType)).before args0 about1 = true := code_word (m := ⟨2, 18⟩) (meth := k2m18) (c := k2c18) (by decide +kernel) rfl rfl rfl (by decide +kernel)
set_option maxRecDepth 65536 in
theorem w_c11 : (Jvm.Cond.code ({ cls := "LatticeEarley", name := "closeInsideCell", desc := "(II)V" } : Jvm.MethodName) prog_1_method_47_code (5 : Nat) (Option.none : Option Jvm.ClassFile.FieldType)).before args0 about1 = true := code_word (m := ⟨2, 19⟩) (meth := k2m19) (c := k2c19) (by decide +kernel) rfl rfl rfl (by decide +kernel)
set_option maxRecDepth 65536 in
theorem w_c12 : (Jvm.Cond.code ({ cls := "LatticeEarley", name := "insideRound", desc := "(II)Z" } : Jvm.MethodName) prog_1_method_48_code (5 : Nat) (Option.some Jvm.ClassFile.FieldType.boolean)).before args0 about1 = true := code_word (m := ⟨2, 20⟩) (meth := k2m20) (c := k2c20) (by decide +kernel) rfl rfl rfl (by decide +kernel)
set_option maxRecDepth 65536 in
theorem w_c13 : (Jvm.Cond.code ({ cls := "LatticeEarley", name := "getSpan", desc := "(III)I" } : Jvm.MethodName) prog_1_method_33_code (5 : Nat) (Option.some Jvm.ClassFile.FieldType.int)).before args0 about1 = true := code_word (m := ⟨2, 15⟩) (meth := k2m15) (c := k2c15) (by decide +kernel) rfl rfl rfl (by decide +kernel)
set_option maxRecDepth 65536 in
theorem w_c14 : (Jvm.Cond.code ({ cls := "LatticeEarley", name := "spanSlot", desc := "(III)I" } : Jvm.MethodName) prog_1_method_31_code (4 : Nat) (Option.some Jvm.ClassFile.FieldType.int)).before args0 about1 = true := code_word (m := ⟨2, 14⟩) (meth := k2m14) (c := k2c14) (by decide +kernel) rfl rfl rfl (by decide +kernel)
set_option maxRecDepth 65536 in
theorem w_c15 : (Jvm.Cond.code ({ cls := "LatticeEarley", name := "isCode", desc := "(I)Z" } : Jvm.MethodName) prog_1_method_28_code (2 : Nat) (Option.some Jvm.ClassFile.FieldType.boolean)).before args0 about1 = true := code_word (m := ⟨2, 13⟩) (meth := k2m13) (c := k2c13) (by decide +kernel) rfl rfl rfl (by decide +kernel)
set_option maxRecDepth 65536 in
theorem w_c16 : (Jvm.Cond.code ({ cls := "LatticeEarley", name := "isNode", desc := "(I)Z" } : Jvm.MethodName) prog_1_method_27_code (2 : Nat) (Option.some Jvm.ClassFile.FieldType.boolean)).before args0 about1 = true := code_word (m := ⟨2, 12⟩) (meth := k2m12) (c := k2c12) (by decide +kernel) rfl rfl rfl (by decide +kernel)
set_option maxRecDepth 65536 in
theorem w_c17 : (Jvm.Cond.code ({ cls := "LatticeEarley", name := "status", desc := "()I" } : Jvm.MethodName) prog_1_method_11_code (1 : Nat) (Option.some Jvm.ClassFile.FieldType.int)).before args0 about1 = true := code_word (m := ⟨2, 5⟩) (meth := k2m5) (c := k2c5) (by decide +kernel) rfl rfl rfl (by decide +kernel)
set_option maxRecDepth 65536 in
theorem w_c18 : (Jvm.Cond.code ({ cls := "LatticeEarley", name := "addEdge", desc := "(IIII)I" } : Jvm.MethodName) prog_1_method_6_code (6 : Nat) (Option.some Jvm.ClassFile.FieldType.int)).before args0 about1 = true := code_word (m := ⟨2, 2⟩) (meth := k2m2) (c := k2c2) (by decide +kernel) rfl rfl rfl (by decide +kernel)
set_option maxRecDepth 65536 in
theorem w_c19 : (Jvm.Cond.code ({ cls := "LatticeEarley", name := "edgeRefused", desc := "(IIII)Z" } : Jvm.MethodName) prog_1_method_21_code (5 : Nat) (Option.some Jvm.ClassFile.FieldType.boolean)).before args0 about1 = true := code_word (m := ⟨2, 11⟩) (meth := k2m11) (c := k2c11) (by decide +kernel) rfl rfl rfl (by decide +kernel)
set_option maxRecDepth 65536 in
theorem w_c20 : (Jvm.Cond.code ({ cls := "LatticeEarley", name := "edgeCount", desc := "()I" } : Jvm.MethodName) prog_1_method_4_code (1 : Nat) (Option.some Jvm.ClassFile.FieldType.int)).before args0 about1 = true := code_word (m := ⟨2, 1⟩) (meth := k2m1) (c := k2c1) (by decide +kernel) rfl rfl rfl (by decide +kernel)
set_option maxRecDepth 65536 in
theorem w_c21 : (Jvm.Cond.code ({ cls := "LatticeEarley", name := "edgeInfo", desc := "(II)I" } : Jvm.MethodName) prog_1_method_8_code (3 : Nat) (Option.some Jvm.ClassFile.FieldType.int)).before args0 about1 = true := code_word (m := ⟨2, 3⟩) (meth := k2m3) (c := k2c3) (by decide +kernel) rfl rfl rfl (by decide +kernel)
set_option maxRecDepth 65536 in
theorem w_c22 : (Jvm.Cond.code ({ cls := "LatticeEarley", name := "inRange", desc := "(III)Z" } : Jvm.MethodName) prog_1_method_20_code (4 : Nat) (Option.some Jvm.ClassFile.FieldType.boolean)).before args0 about1 = true := code_word (m := ⟨2, 10⟩) (meth := k2m10) (c := k2c10) (by decide +kernel) rfl rfl rfl (by decide +kernel)
def codes1 : List Jvm.Cond := [Jvm.Cond.code x code maxLocals ret, Jvm.Cond.code ({ cls := "LatticeEarley", name := "<init>", desc := "(I)V" } : Jvm.MethodName) prog_1_method_1_code (2 : Nat) (Option.none : Option Jvm.ClassFile.FieldType), Jvm.Cond.code ({ cls := "java/lang/Object", name := "<init>", desc := "()V" } : Jvm.MethodName) object_method_1_code (1 : Nat) (Option.none : Option Jvm.ClassFile.FieldType), Jvm.Cond.code ({ cls := "LatticeEarley", name := "clampNodes", desc := "(I)I" } : Jvm.MethodName) prog_1_method_16_code (2 : Nat) (Option.some Jvm.ClassFile.FieldType.int), Jvm.Cond.code ({ cls := "LatticeEarley", name := "clearStore", desc := "()V" } : Jvm.MethodName) prog_1_method_17_code (2 : Nat) (Option.none : Option Jvm.ClassFile.FieldType), Jvm.Cond.code ({ cls := "LatticeEarley", name := "becomeBuilding", desc := "()V" } : Jvm.MethodName) prog_1_method_18_code (1 : Nat) (Option.none : Option Jvm.ClassFile.FieldType), Jvm.Cond.code ({ cls := "LatticeEarley", name := "clearTables", desc := "()V" } : Jvm.MethodName) prog_1_method_19_code (2 : Nat) (Option.none : Option Jvm.ClassFile.FieldType), Jvm.Cond.code ({ cls := "LatticeEarley", name := "parse", desc := "()Z" } : Jvm.MethodName) prog_1_method_10_code (3 : Nat) (Option.some Jvm.ClassFile.FieldType.boolean), Jvm.Cond.code ({ cls := "LatticeEarley", name := "runInside", desc := "()V" } : Jvm.MethodName) prog_1_method_44_code (3 : Nat) (Option.none : Option Jvm.ClassFile.FieldType), Jvm.Cond.code ({ cls := "LatticeEarley", name := "scanEdges", desc := "()V" } : Jvm.MethodName) prog_1_method_45_code (2 : Nat) (Option.none : Option Jvm.ClassFile.FieldType), Jvm.Cond.code ({ cls := "LatticeEarley", name := "seedItems", desc := "()V" } : Jvm.MethodName) prog_1_method_46_code (3 : Nat) (Option.none : Option Jvm.ClassFile.FieldType), Jvm.Cond.code ({ cls := "LatticeEarley", name := "closeInsideCell", desc := "(II)V" } : Jvm.MethodName) prog_1_method_47_code (5 : Nat) (Option.none : Option Jvm.ClassFile.FieldType), Jvm.Cond.code ({ cls := "LatticeEarley", name := "insideRound", desc := "(II)Z" } : Jvm.MethodName) prog_1_method_48_code (5 : Nat) (Option.some Jvm.ClassFile.FieldType.boolean), Jvm.Cond.code ({ cls := "LatticeEarley", name := "getSpan", desc := "(III)I" } : Jvm.MethodName) prog_1_method_33_code (5 : Nat) (Option.some Jvm.ClassFile.FieldType.int), Jvm.Cond.code ({ cls := "LatticeEarley", name := "spanSlot", desc := "(III)I" } : Jvm.MethodName) prog_1_method_31_code (4 : Nat) (Option.some Jvm.ClassFile.FieldType.int), Jvm.Cond.code ({ cls := "LatticeEarley", name := "isCode", desc := "(I)Z" } : Jvm.MethodName) prog_1_method_28_code (2 : Nat) (Option.some Jvm.ClassFile.FieldType.boolean), Jvm.Cond.code ({ cls := "LatticeEarley", name := "isNode", desc := "(I)Z" } : Jvm.MethodName) prog_1_method_27_code (2 : Nat) (Option.some Jvm.ClassFile.FieldType.boolean), Jvm.Cond.code ({ cls := "LatticeEarley", name := "status", desc := "()I" } : Jvm.MethodName) prog_1_method_11_code (1 : Nat) (Option.some Jvm.ClassFile.FieldType.int), Jvm.Cond.code ({ cls := "LatticeEarley", name := "addEdge", desc := "(IIII)I" } : Jvm.MethodName) prog_1_method_6_code (6 : Nat) (Option.some Jvm.ClassFile.FieldType.int), Jvm.Cond.code ({ cls := "LatticeEarley", name := "edgeRefused", desc := "(IIII)Z" } : Jvm.MethodName) prog_1_method_21_code (5 : Nat) (Option.some Jvm.ClassFile.FieldType.boolean), Jvm.Cond.code ({ cls := "LatticeEarley", name := "edgeCount", desc := "()I" } : Jvm.MethodName) prog_1_method_4_code (1 : Nat) (Option.some Jvm.ClassFile.FieldType.int), Jvm.Cond.code ({ cls := "LatticeEarley", name := "edgeInfo", desc := "(II)I" } : Jvm.MethodName) prog_1_method_8_code (3 : Nat) (Option.some Jvm.ClassFile.FieldType.int), Jvm.Cond.code ({ cls := "LatticeEarley", name := "inRange", desc := "(III)Z" } : Jvm.MethodName) prog_1_method_20_code (4 : Nat) (Option.some Jvm.ClassFile.FieldType.boolean)]
set_option maxRecDepth 65536 in
theorem codes_eq : words1.filter isCode = codes1 := rfl
theorem w_codes : ∀ c ∈ words1.filter isCode, c.before args0 about1 = true := by
  rw [codes_eq]
  intro c hc
  simp only [codes1, List.mem_cons, List.not_mem_nil, or_false] at hc
  rcases hc with rfl | rfl | rfl | rfl | rfl | rfl | rfl | rfl | rfl | rfl | rfl | rfl | rfl | rfl | rfl | rfl | rfl | rfl | rfl | rfl | rfl | rfl | rfl
  · exact w_c0
  · exact w_c1
  · exact w_c2
  · exact w_c3
  · exact w_c4
  · exact w_c5
  · exact w_c6
  · exact w_c7
  · exact w_c8
  · exact w_c9
  · exact w_c10
  · exact w_c11
  · exact w_c12
  · exact w_c13
  · exact w_c14
  · exact w_c15
  · exact w_c16
  · exact w_c17
  · exact w_c18
  · exact w_c19
  · exact w_c20
  · exact w_c21
  · exact w_c22
set_option maxRecDepth 65536 in
theorem w_t1 : (words1.take 24).all (fun c => isCode c || c.before args0 about1) = true := by decide +kernel
set_option maxRecDepth 65536 in
theorem w_t2 : ((words1.drop 24).take 24).all (fun c => isCode c || c.before args0 about1) = true := by decide +kernel
set_option maxRecDepth 65536 in
theorem w_t3 : (((words1.drop 24).drop 24).take 24).all (fun c => isCode c || c.before args0 about1) = true := by decide +kernel
set_option maxRecDepth 65536 in
theorem w_t4 : ((((words1.drop 24).drop 24).drop 24).take 24).all (fun c => isCode c || c.before args0 about1) = true := by decide +kernel
set_option maxRecDepth 65536 in
theorem w_t5 : (((((words1.drop 24).drop 24).drop 24).drop 24).take 24).all (fun c => isCode c || c.before args0 about1) = true := by decide +kernel
set_option maxRecDepth 65536 in
theorem w_t6 : (((((words1.drop 24).drop 24).drop 24).drop 24).drop 24).all (fun c => isCode c || c.before args0 about1) = true := by decide +kernel
theorem w_tables : (allAtoms (Jvm.Cond.code x code maxLocals ret :: tables_1)).before args0 about1 = true := by
  rw [allAtoms_all]
  show words1.all (fun c => c.before args0 about1) = true
  refine all_split ?_ w_codes
  rw [← List.take_append_drop 24 words1, List.all_append, w_t1, ← List.take_append_drop 24 (words1.drop 24), List.all_append, w_t2, ← List.take_append_drop 24 ((words1.drop 24).drop 24), List.all_append, w_t3, ← List.take_append_drop 24 (((words1.drop 24).drop 24).drop 24), List.all_append, w_t4, ← List.take_append_drop 24 ((((words1.drop 24).drop 24).drop 24).drop 24), List.all_append, w_t5, w_t6]
  rfl
set_option maxRecDepth 65536 in
theorem w_case : (Jvm.Cond.and given_1 narrow_1).before args0 about1 = true := by decide +kernel
theorem w_applies : (headSpec (Jvm.Cond.code x code maxLocals ret :: tables_1) room_1).applies x e0.platform about1 = true :=
  (Spec.applies_iff w_frames).mpr ⟨w_running, w_runnable, w_alone, w_named, w_hears, w_ripe, w_room, w_tables⟩
theorem atStart : AtStart classFile x code maxLocals ret World_1 tables_1 room_1 Calls_1 rest_1 Pre_1 launch0 p0 e0 about1 theMethod args0 below0 :=
  ⟨lists_1, trivial, launch0.admits_env _ _ _, launch0.least_env, fairChoices_fair.cas, fairChoices_fair.clock, w_frames, w_args, w_heap, w_applies, trivial, trivial, w_case⟩
end start1
theorem witness_1 : WitnessClaimed_1 := ⟨start1.p0, start1.e0, start1.about1, start1.theMethod, start1.args0, start1.below0, start1.atStart⟩
end Jvm.Pilot.@@N@@
