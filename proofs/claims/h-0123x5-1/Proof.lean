import JvmDerived
import JvmDerived.Pilot.@@N@@Statement
import JvmDerived.Pilot.@@N@@Code
set_option linter.unusedVariables false
set_option linter.unusedSimpArgs false
namespace Jvm.AM
open Sem ClassFile Op Lib Jvm.Stand Jvm.Free Jvm.LawKit Jvm.RoadKit
/-! ## 1. The abstract objects: one object of the class, its scalars and its arrays by number -/
abbrev S : Type := (Nat → Int32) × (Nat → Int64) × (Nat → List Int32) × (Nat → List Int64)
def aupd {A : Type} (g : Nat → A) (f : Nat) (v : A) : Nat → A := fun x => if x = f then v else g x
def gI (s : S) (f : Nat) : Int32 := s.1 f
def gL (s : S) (f : Nat) : Int64 := s.2.1 f
def gA (s : S) (f : Nat) : List Int32 := s.2.2.1 f
def gB (s : S) (f : Nat) : List Int64 := s.2.2.2 f
def sI (s : S) (f : Nat) (v : Int32) : S := (aupd s.1 f v, s.2)
def sL (s : S) (f : Nat) (v : Int64) : S := (s.1, aupd s.2.1 f v, s.2.2)
def sA (s : S) (f : Nat) (v : List Int32) : S := (s.1, s.2.1, aupd s.2.2.1 f v, s.2.2.2)
def sB (s : S) (f : Nat) (v : List Int64) : S := (s.1, s.2.1, s.2.2.1, aupd s.2.2.2 f v)
def s0 : S := (fun _ => 0, fun _ => 0, fun _ => [], fun _ => [])
theorem gI_s0 (f : Nat) : gI s0 f = 0 := by simp only [gI, s0]
theorem gL_s0 (f : Nat) : gL s0 f = 0 := by simp only [gL, s0]
theorem gA_s0 (f : Nat) : gA s0 f = [] := by simp only [gA, s0]
theorem gB_s0 (f : Nat) : gB s0 f = [] := by simp only [gB, s0]
theorem gI_sI (s : S) (f g : Nat) (v : Int32) : gI (sI s f v) g = if g = f then v else gI s g := by simp only [gI, gL, gA, gB, sI, sL, sA, sB, aupd]
theorem gI_sL (s : S) (f g : Nat) (v : Int64) : gI (sL s f v) g = gI s g := by simp only [gI, gL, gA, gB, sI, sL, sA, sB, aupd]
theorem gI_sA (s : S) (f g : Nat) (v : List Int32) : gI (sA s f v) g = gI s g := by simp only [gI, gL, gA, gB, sI, sL, sA, sB, aupd]
theorem gI_sB (s : S) (f g : Nat) (v : List Int64) : gI (sB s f v) g = gI s g := by simp only [gI, gL, gA, gB, sI, sL, sA, sB, aupd]
theorem gL_sI (s : S) (f g : Nat) (v : Int32) : gL (sI s f v) g = gL s g := by simp only [gI, gL, gA, gB, sI, sL, sA, sB, aupd]
theorem gL_sL (s : S) (f g : Nat) (v : Int64) : gL (sL s f v) g = if g = f then v else gL s g := by simp only [gI, gL, gA, gB, sI, sL, sA, sB, aupd]
theorem gL_sA (s : S) (f g : Nat) (v : List Int32) : gL (sA s f v) g = gL s g := by simp only [gI, gL, gA, gB, sI, sL, sA, sB, aupd]
theorem gL_sB (s : S) (f g : Nat) (v : List Int64) : gL (sB s f v) g = gL s g := by simp only [gI, gL, gA, gB, sI, sL, sA, sB, aupd]
theorem gA_sI (s : S) (f g : Nat) (v : Int32) : gA (sI s f v) g = gA s g := by simp only [gI, gL, gA, gB, sI, sL, sA, sB, aupd]
theorem gA_sL (s : S) (f g : Nat) (v : Int64) : gA (sL s f v) g = gA s g := by simp only [gI, gL, gA, gB, sI, sL, sA, sB, aupd]
theorem gA_sA (s : S) (f g : Nat) (v : List Int32) : gA (sA s f v) g = if g = f then v else gA s g := by simp only [gI, gL, gA, gB, sI, sL, sA, sB, aupd]
theorem gA_sB (s : S) (f g : Nat) (v : List Int64) : gA (sB s f v) g = gA s g := by simp only [gI, gL, gA, gB, sI, sL, sA, sB, aupd]
theorem gB_sI (s : S) (f g : Nat) (v : Int32) : gB (sI s f v) g = gB s g := by simp only [gI, gL, gA, gB, sI, sL, sA, sB, aupd]
theorem gB_sL (s : S) (f g : Nat) (v : Int64) : gB (sL s f v) g = gB s g := by simp only [gI, gL, gA, gB, sI, sL, sA, sB, aupd]
theorem gB_sA (s : S) (f g : Nat) (v : List Int32) : gB (sA s f v) g = gB s g := by simp only [gI, gL, gA, gB, sI, sL, sA, sB, aupd]
theorem gB_sB (s : S) (f g : Nat) (v : List Int64) : gB (sB s f v) g = if g = f then v else gB s g := by simp only [gI, gL, gA, gB, sI, sL, sA, sB, aupd]
def rep {A : Type} (n : Nat) (x : A) : List A := List.replicate n x
theorem rep_length {A : Type} (n : Nat) (x : A) : (rep n x).length = n := by simp only [rep, List.length_replicate]
theorem rep_get {A : Type} (n : Nat) (x : A) (k : Nat) : (rep n x)[k]? = if k < n then some x else none := by simp only [rep, List.getElem?_replicate]
theorem rep_set {A : Type} (n : Nat) (x : A) (k : Nat) : (rep n x).set k x = rep n x := by simp only [rep, List.set_replicate_self]
/-- reading and writing a component -/
def ix {A : Type} (l : List A) (j : Int32) : Option A := if j < 0 then none else l[j.toNatClampNeg]?
def st {A : Type} (l : List A) (j : Int32) (x : A) : Option (List A) := if j < 0 then none else if j.toNatClampNeg < l.length then some (l.set j.toNatClampNeg x) else none
/-- the world of a run: the script array, if there is one; the objects made so far, each with the number of arrays that it has been given -/
abbrev W : Type := Option (List Int32) × List (Nat × S)
/-- the class: name, slots, scalar fields (name, descriptor, type), array fields in the order of their making (name, descriptor, component type, most slots) -/
abbrev CI : Type := String × Nat × List (String × String × FieldType) × List (String × String × FieldType × Nat)
def cN (c : CI) : String := c.1
def cF (c : CI) : Nat := c.2.1
def cS (c : CI) : List (String × String × FieldType) := c.2.2.1
def cA (c : CI) : List (String × String × FieldType × Nat) := c.2.2.2
def cK (c : CI) : Nat := (cA c).length
/-- the program: the sheet's words, the class -/
abbrev PI : Type := List Jvm.Cond × CI
/-- a method: name, bytes, variables, return type, room, most objects, whether it makes cells, cells and slots at its start -/
abbrev Meth : Type := MethodName × ByteArray × Nat × Option FieldType × Room × Nat × Bool × Nat × Nat
def mY (M : Meth) : MethodName := M.1
def mB (M : Meth) : ByteArray := M.2.1
def mL (M : Meth) : Nat := M.2.2.1
def mT (M : Meth) : Option FieldType := M.2.2.2.1
def mR (M : Meth) : Room := M.2.2.2.2.1
def mN (M : Meth) : Nat := M.2.2.2.2.2.1
def mTop (M : Meth) : Bool := M.2.2.2.2.2.2.1
def mUC (M : Meth) : Nat := M.2.2.2.2.2.2.2.1
def mUS (M : Meth) : Nat := M.2.2.2.2.2.2.2.2
/-! ## 2. Abstract references: 0 the script; j + 1 the cell at b + j -/
def con (α b : Nat) : Value → Value
  | .ref 0 => .ref α
  | .ref (j + 1) => .ref (b + j)
  | v => v
def cs (α b : Nat) : Slot → Slot
  | .val v => .val (con α b v)
  | .unset => .unset
  | .second => .second
def cL (α b : Nat) (L : List Slot) : Array Slot := (L.map (cs α b)).toArray
def cV (α b : Nat) (l : List Value) : List Value := l.map (con α b)
theorem con_cat (α b : Nat) (v : Value) : (con α b v).category = v.category := by
  cases v <;> try rfl
  rename_i a; cases a <;> rfl
theorem con_ref (α b : Nat) (v : Value) : (con α b v).isRef = v.isRef := by
  cases v <;> try rfl
  rename_i a; cases a <;> rfl
theorem cL_get {α b : Nat} {L : List Slot} {k : Nat} {x : Slot} (h : L[k]? = some x) : (cL α b L)[k]? = some (cs α b x) := by
  simp [cL, List.getElem?_toArray, List.getElem?_map, h]
theorem cL_size (α b : Nat) (L : List Slot) : (cL α b L).size = L.length := by simp [cL]
theorem cV_sum (α b : Nat) (l : List Value) : ((cV α b l).map fun v => v.category).sum = (l.map fun v => v.category).sum := by
  simp [cV, List.map_map, Function.comp_def, con_cat]
theorem setAt_map {α b : Nat} {l l' : Array Slot} {i : Nat} {x : Slot} (h : setAt l i x = some l') : setAt (l.map (cs α b)) i (cs α b x) = some (l'.map (cs α b)) := by
  unfold setAt at h ⊢
  split at h
  · rename_i q
    cases h
    rw [if_pos (by simpa using q)]
    simp [Array.map_setIfInBounds]
  · cases h
theorem storeSelf_map {α b : Nat} {l l' : Array Slot} {i : Nat} {v : Value} (h : storeSelf l i v = some l') : storeSelf (l.map (cs α b)) i (con α b v) = some (l'.map (cs α b)) := by
  simp only [storeSelf, Option.bind_eq_bind, Option.bind_eq_some_iff] at h ⊢
  obtain ⟨l1, h1, h2⟩ := h
  refine ⟨l1.map (cs α b), setAt_map (x := .val v) h1, ?_⟩
  rw [con_cat]
  split at h2
  · rename_i q
    rw [if_pos q]
    obtain ⟨x, h3, h4⟩ := Option.bind_eq_some_iff.mp h2
    refine Option.bind_eq_some_iff.mpr ⟨cs α b x, by simp [h3], ?_⟩
    cases x with
    | unset => exact setAt_map (x := .second) h4
    | second => exact setAt_map (x := .second) h4
    | val old =>
      simp only [cs, con_cat] at h4 ⊢
      split at h4
      · rename_i q2
        rw [if_pos q2]
        obtain ⟨y, h5, h6⟩ := Option.bind_eq_some_iff.mp h4
        exact Option.bind_eq_some_iff.mpr ⟨_, setAt_map (x := .unset) h5, setAt_map (x := .second) h6⟩
      · rename_i q2
        rw [if_neg q2]
        exact setAt_map (x := .second) h4
  · rename_i q
    rw [if_neg q]
    cases h2; rfl
theorem store_map {α b : Nat} {l l' : Array Slot} {i : Nat} {v : Value} (h : storeLocals l i v = some l') : storeLocals (l.map (cs α b)) i (con α b v) = some (l'.map (cs α b)) := by
  simp only [storeLocals, Option.bind_eq_bind, Option.bind_eq_some_iff] at h ⊢
  obtain ⟨x, h1, h2⟩ := h
  refine ⟨cs α b x, by simp [h1], ?_⟩
  cases x with
  | unset => exact storeSelf_map h2
  | second =>
    obtain ⟨y, h3, h4⟩ := Option.bind_eq_some_iff.mp h2
    exact Option.bind_eq_some_iff.mpr ⟨_, setAt_map (x := .unset) h3, storeSelf_map h4⟩
  | val old =>
    simp only [cs, con_cat] at h2 ⊢
    split at h2
    · rename_i q
      rw [if_pos q]
      obtain ⟨y, h3, h4⟩ := Option.bind_eq_some_iff.mp h2
      exact Option.bind_eq_some_iff.mpr ⟨_, setAt_map (x := .unset) h3, storeSelf_map h4⟩
    · rename_i q
      rw [if_neg q]
      exact storeSelf_map h2
theorem storeC {α b : Nat} {L L' : List Slot} {i : Nat} {v : Value} (h : storeLocals L.toArray i v = some L'.toArray) : storeLocals (cL α b L) i (con α b v) = some (cL α b L') := by
  have := store_map (α := α) (b := b) h
  simpa [cL] using this
theorem setAt_size {l l' : Array Slot} {i : Nat} {x : Slot} (h : setAt l i x = some l') : l'.size = l.size := by
  unfold setAt at h; split at h <;> cases h; simp
theorem storeSelf_size {l l' : Array Slot} {i : Nat} {v : Value} (h : storeSelf l i v = some l') : l'.size = l.size := by
  simp only [storeSelf, Option.bind_eq_bind, Option.bind_eq_some_iff] at h
  obtain ⟨l1, h1, h2⟩ := h
  have e1 := setAt_size h1
  split at h2
  · obtain ⟨x, h3, h4⟩ := Option.bind_eq_some_iff.mp h2
    cases x with
    | unset => exact (setAt_size h4).trans e1
    | second => exact (setAt_size h4).trans e1
    | val old =>
      dsimp only at h4
      split at h4
      · obtain ⟨y, h5, h6⟩ := Option.bind_eq_some_iff.mp h4
        exact (setAt_size h6).trans ((setAt_size h5).trans e1)
      · exact (setAt_size h4).trans e1
  · cases h2; exact e1
theorem store_size {l l' : Array Slot} {i : Nat} {v : Value} (h : storeLocals l i v = some l') : l'.size = l.size := by
  simp only [storeLocals, Option.bind_eq_bind, Option.bind_eq_some_iff] at h
  obtain ⟨x, h1, h2⟩ := h
  cases x with
  | unset => exact storeSelf_size h2
  | second =>
    obtain ⟨y, h3, h4⟩ := Option.bind_eq_some_iff.mp h2
    exact (storeSelf_size h4).trans (setAt_size h3)
  | val old =>
    dsimp only at h2
    split at h2
    · obtain ⟨y, h3, h4⟩ := Option.bind_eq_some_iff.mp h2
      exact (storeSelf_size h4).trans (setAt_size h3)
    · exact storeSelf_size h2
/-- a variable that may be written over by a value of one word -/
def k1 (o : Slot) : Prop := o = .unset ∨ ∃ w, o = .val w ∧ w.category = 1
def k2 (o o2 : Slot) : Prop := (o = .unset ∧ o2 = .unset) ∨ ∃ u, o = .val (.long u) ∧ o2 = .second
theorem setAt_l {L : List Slot} {k : Nat} {x : Slot} (h : k < L.length) : setAt L.toArray k x = some (L.set k x).toArray := by simp [setAt, h]
theorem get_l {L : List Slot} {k : Nat} {o : Slot} (h : L[k]? = some o) : L.toArray[k]? = some o := by rw [List.getElem?_toArray]; exact h
theorem store_u {L : List Slot} {k : Nat} {v : Value} (h : L[k]? = some .unset) : storeLocals L.toArray k v = storeSelf L.toArray k v := by
  simp only [storeLocals, Option.bind_eq_bind, get_l h, Option.bind_some]
theorem store_1 {L : List Slot} {k : Nat} {v w : Value} (h : L[k]? = some (.val w)) (hw : w.category = 1) : storeLocals L.toArray k v = storeSelf L.toArray k v := by
  simp only [storeLocals, Option.bind_eq_bind, get_l h, Option.bind_some]
  rw [if_neg (by rw [hw]; decide)]
theorem store_k {L : List Slot} {k : Nat} {v : Value} {o : Slot} (h : L[k]? = some o) (ho : k1 o) : storeLocals L.toArray k v = storeSelf L.toArray k v := by
  rcases ho with rfl | ⟨w, rfl, hw⟩
  · exact store_u h
  · exact store_1 h hw
theorem store_2 {L : List Slot} {k : Nat} {v w : Value} (h : L[k]? = some (.val w)) (hw : w.category = 2) (l2 : k + 1 < L.length) : storeLocals L.toArray k v = storeSelf (L.set (k + 1) .unset).toArray k v := by
  simp only [storeLocals, Option.bind_eq_bind, get_l h, Option.bind_some]
  rw [if_pos hw, setAt_l l2, Option.bind_some]
theorem self_1 {L : List Slot} {k : Nat} {v : Value} (hv : v.category = 1) (l : k < L.length) : storeSelf L.toArray k v = some (L.set k (.val v)).toArray := by
  simp only [storeSelf, Option.bind_eq_bind, setAt_l l, Option.bind_some]
  rw [if_neg (by rw [hv]; decide)]
theorem self_2 {L : List Slot} {k : Nat} {v : Value} {o : Slot} (hv : v.category = 2) (h : L[k + 1]? = some o) (ho : k1 o ∨ o = .second) (l : k < L.length) : storeSelf L.toArray k v = some ((L.set k (.val v)).set (k + 1) .second).toArray := by
  have l2 := (List.getElem?_eq_some_iff.mp h).1
  have e2 : (L.set k (.val v))[k + 1]? = some o := by rw [List.getElem?_set_ne (by omega)]; exact h
  simp only [storeSelf, Option.bind_eq_bind, setAt_l l, Option.bind_some]
  rw [if_pos hv, get_l e2, Option.bind_some]
  rcases ho with (rfl | ⟨w, rfl, hw⟩) | rfl
  · exact setAt_l (by rw [List.length_set]; exact l2)
  · dsimp only
    rw [if_neg (by rw [hw]; decide)]
    exact setAt_l (by rw [List.length_set]; exact l2)
  · exact setAt_l (by rw [List.length_set]; exact l2)
theorem self_3 {L : List Slot} {k : Nat} {v w : Value} (hv : v.category = 2) (h : L[k + 1]? = some (.val w)) (hw : w.category = 2) (l3 : k + 2 < L.length) (l : k < L.length) : storeSelf L.toArray k v = some (((L.set k (.val v)).set (k + 2) .unset).set (k + 1) .second).toArray := by
  have l2 := (List.getElem?_eq_some_iff.mp h).1
  have e2 : (L.set k (.val v))[k + 1]? = some (.val w) := by rw [List.getElem?_set_ne (by omega)]; exact h
  simp only [storeSelf, Option.bind_eq_bind, setAt_l l, Option.bind_some]
  rw [if_pos hv, get_l e2, Option.bind_some]
  dsimp only
  rw [if_pos hw, setAt_l (by rw [List.length_set]; exact l3), Option.bind_some, setAt_l (by rw [List.length_set, List.length_set]; exact l2)]
theorem stx {L : List Slot} {k : Nat} {o : Slot} {v : Value} (h : L[k]? = some o) (ho : k1 o) (hv : v.category = 1) : storeLocals L.toArray k v = some (L.set k (.val v)).toArray := by
  rw [store_k h ho, self_1 hv (List.getElem?_eq_some_iff.mp h).1]
theorem stx3 {L : List Slot} {k : Nat} {o o2 : Slot} {u : Int64} (h : L[k]? = some o) (h2 : L[k + 1]? = some o2) (ho : k1 o) (ho2 : k1 o2) : storeLocals L.toArray k (.long u) = some ((L.set k (.val (.long u))).set (k + 1) .second).toArray := by
  rw [store_k h ho, self_2 rfl h2 (Or.inl ho2) (List.getElem?_eq_some_iff.mp h).1]
theorem stx2 {L : List Slot} {k : Nat} {o o2 : Slot} {u : Int64} (h : L[k]? = some o) (h2 : L[k + 1]? = some o2) (ho : k2 o o2) : storeLocals L.toArray k (.long u) = some ((L.set k (.val (.long u))).set (k + 1) .second).toArray := by
  have l1 := (List.getElem?_eq_some_iff.mp h).1
  have l2 := (List.getElem?_eq_some_iff.mp h2).1
  rcases ho with ⟨rfl, rfl⟩ | ⟨u', rfl, rfl⟩
  · exact stx3 h h2 (Or.inl rfl) (Or.inl rfl)
  · rw [store_2 h rfl l2, self_2 (o := .unset) rfl (by rw [List.getElem?_set_self l2]) (Or.inl (Or.inl rfl)) (by rw [List.length_set]; exact l1)]
    rw [List.set_comm _ _ (show k + 1 ≠ k by omega), List.set_set]
theorem stx4 {L : List Slot} {k : Nat} {o2 : Slot} {w : Int64} {v : Value} (h : L[k]? = some (.val (.long w))) (h2 : L[k + 1]? = some o2) (hv : v.category = 1) : storeLocals L.toArray k v = some ((L.set (k + 1) .unset).set k (.val v)).toArray := by
  rw [store_2 h rfl (List.getElem?_eq_some_iff.mp h2).1, self_1 hv (by rw [List.length_set]; exact (List.getElem?_eq_some_iff.mp h).1)]
theorem stx5 {L : List Slot} {k : Nat} {o o3 : Slot} {w u : Int64} (h : L[k]? = some o) (ho : k1 o) (h2 : L[k + 1]? = some (.val (.long w))) (h3 : L[k + 2]? = some o3) : storeLocals L.toArray k (.long u) = some (((L.set k (.val (.long u))).set (k + 2) .unset).set (k + 1) .second).toArray := by
  rw [store_k h ho, self_3 rfl h2 rfl (List.getElem?_eq_some_iff.mp h3).1 (List.getElem?_eq_some_iff.mp h).1]
/-- a tail of dead variables -/
def wtf : Slot ⊕ Int64 → List Slot
  | .inl x => [x]
  | .inr u => [.val (.long u), .second]
def WT (D : List Slot) : Prop := ∃ l : List (Slot ⊕ Int64), D = l.flatMap wtf ∧ ∀ x, Sum.inl x ∈ l → k1 x
theorem wt0 : WT [] := ⟨[], rfl, fun _ h => nomatch h⟩
theorem wt1 {x : Slot} {D : List Slot} (h : k1 x) (W : WT D) : WT (x :: D) := by
  obtain ⟨l, rfl, g⟩ := W
  refine ⟨.inl x :: l, by simp [wtf], fun y hy => ?_⟩
  rcases List.mem_cons.mp hy with e | e
  · cases e; exact h
  · exact g y e
theorem wt2 {u : Int64} {D : List Slot} (W : WT D) : WT (.val (.long u) :: .second :: D) := by
  obtain ⟨l, rfl, g⟩ := W
  refine ⟨.inr u :: l, by simp [wtf], fun y hy => ?_⟩
  rcases List.mem_cons.mp hy with e | e
  · cases e
  · exact g y e
theorem wt12 {x y : Slot} {D : List Slot} (h : k2 x y) (W : WT D) : WT (x :: y :: D) := by
  rcases h with ⟨rfl, rfl⟩ | ⟨u, rfl, rfl⟩
  · exact wt1 (Or.inl rfl) (wt1 (Or.inl rfl) W)
  · exact wt2 W
theorem wt_cases {D : List Slot} (W : WT D) : D = [] ∨ (∃ x E, D = x :: E ∧ k1 x ∧ WT E) ∨ ∃ u E, D = .val (.long u) :: .second :: E ∧ WT E := by
  obtain ⟨l, rfl, g⟩ := W
  match l, g with
  | [], _ => exact Or.inl rfl
  | .inl x :: r, g => exact Or.inr (Or.inl ⟨x, r.flatMap wtf, by simp [wtf], g x (List.mem_cons_self ..), r, rfl, fun y hy => g y (List.mem_cons_of_mem _ hy)⟩)
  | .inr u :: r, g => exact Or.inr (Or.inr ⟨u, r.flatMap wtf, by simp [wtf], r, rfl, fun y hy => g y (List.mem_cons_of_mem _ hy)⟩)
theorem stT {L0 D : List Slot} {v : Value} {n : Nat} (W : WT D) (hl : D.length = n + 1) (hv : v.category = 1) : ∃ D', WT D' ∧ D'.length = n ∧ storeLocals (L0 ++ D).toArray L0.length v = some (L0 ++ ([.val v] : List Slot) ++ D').toArray := by
  rcases wt_cases W with rfl | ⟨x, E, rfl, hx, WE⟩ | ⟨u, E, rfl, WE⟩
  · simp at hl
  · refine ⟨E, WE, by simpa using hl, ?_⟩
    rw [stx (o := x) (by simp) hx hv]; simp
  · refine ⟨.unset :: E, wt1 (Or.inl rfl) WE, by simpa using hl, ?_⟩
    rw [stx4 (w := u) (o2 := .second) (by simp) (by rw [List.getElem?_append_right (by omega)]; simp) hv]
    simp [List.set_append]
theorem stT2 {L0 D : List Slot} {u : Int64} {n : Nat} (W : WT D) (hl : D.length = n + 2) : ∃ D', WT D' ∧ D'.length = n ∧ storeLocals (L0 ++ D).toArray L0.length (.long u) = some (L0 ++ ([.val (.long u), .second] : List Slot) ++ D').toArray := by
  rcases wt_cases W with rfl | ⟨x, E, rfl, hx, WE⟩ | ⟨w, E, rfl, WE⟩
  · simp at hl
  · rcases wt_cases WE with rfl | ⟨y, F, rfl, hy, WF⟩ | ⟨w, F, rfl, WF⟩
    · simp at hl
    · refine ⟨F, WF, by simpa using hl, ?_⟩
      rw [stx3 (o := x) (o2 := y) (by simp) (by rw [List.getElem?_append_right (by omega)]; simp) hx hy]
      simp [List.set_append]
    · refine ⟨.unset :: F, wt1 (Or.inl rfl) WF, by simpa using hl, ?_⟩
      rw [stx5 (o := x) (w := w) (o3 := .second) (by simp) hx (by rw [List.getElem?_append_right (by omega)]; simp) (by rw [List.getElem?_append_right (by omega)]; simp)]
      simp [List.set_append]
  · refine ⟨E, WE, by simpa using hl, ?_⟩
    rw [stx2 (o := .val (.long w)) (o2 := .second) (by simp) (by rw [List.getElem?_append_right (by omega)]; simp) (Or.inr ⟨w, rfl, rfl⟩)]
    simp [List.set_append]
/-- the variables at a method's entry -/
def argL : List Value → List Slot
  | [] => []
  | v :: r => if v.category = 2 then .val v :: .second :: argL r else .val v :: argL r
def entryL (as : List Value) (n : Nat) : List Slot := argL as ++ List.replicate (n - (argL as).length) .unset
theorem argL_fold : ∀ (as : List Value) (acc : List Slot), as.foldl (fun acc v => if v.category = 2 then (acc.push (.val v)).push .second else acc.push (.val v)) acc.toArray = (acc ++ argL as).toArray
  | [], acc => by simp [argL]
  | v :: r, acc => by
    simp only [List.foldl_cons, argL]
    split
    · rename_i q
      rw [show ((acc.toArray.push (Slot.val v)).push Slot.second) = (acc ++ [Slot.val v, Slot.second]).toArray by simp, argL_fold r]
      simp
    · rename_i q
      rw [show (acc.toArray.push (Slot.val v)) = (acc ++ [Slot.val v]).toArray by simp, argL_fold r]
      simp
theorem argL_map (α b : Nat) : ∀ as : List Value, argL (cV α b as) = (argL as).map (cs α b)
  | [] => rfl
  | v :: r => by
    have ih := argL_map α b r
    simp only [cV, List.map_cons, argL, con_cat] at ih ⊢
    split <;> simp [ih, cs]
theorem entry_locals (α b : Nat) (as : List Value) (n : Nat) : argsToLocals (cV α b as).toArray n = cL α b (entryL as n) := by
  have h := argL_fold (cV α b as) []
  simp only [List.nil_append] at h
  have h' : (cV α b as).toArray.foldl (fun acc v => if v.category = 2 then (acc.push (Slot.val v)).push Slot.second else acc.push (Slot.val v)) #[] = (argL (cV α b as)).toArray := by
    rw [← h]; simp
  simp only [argsToLocals]
  rw [h', argL_map]
  simp [cL, entryL, List.map_append, cs]
/-! ## 3. What the heap shows -/
def scV (ty : FieldType) (s : S) (f : Nat) : Value := match ty with
  | .long => .long (gL s f)
  | _ => .int (gI s f)
def arV (ty : FieldType) (s : S) (q : Nat) : List Value := match ty with
  | .long => (gB s q).map .long
  | _ => (gA s q).map .int
def Ar (Z : State) (h : Heap) (a : Nat) (ty : FieldType) (vs : List Value) : Prop := ∃ c : Cell, Arr Z h a c ty ∧ c.slots = vs.toArray
def Rep1 (Z : State) (ci : CI) (h : Heap) (b : Nat) (o : Nat × S) : Prop :=
  Exa Z h b (cN ci) ∧ (∀ f x, (cS ci)[f]? = some x → Fld Z h b (cN ci) x.1 x.2.1 (scV x.2.2 o.2 f)) ∧
  (∀ q x, (cA ci)[q]? = some x → Fld Z h b (cN ci) x.1 x.2.1 (if q < o.1 then .ref (b + 1 + q) else .null)) ∧
  (∀ q x, (cA ci)[q]? = some x → q < o.1 → Ar Z h (b + 1 + q) x.2.2.1 (arV x.2.2.1 o.2 q))
def RepW (Z : State) (ci : CI) (α b : Nat) (w : W) (h : Heap) : Prop :=
  (∀ l, w.1 = some l → Ar Z h α .int (l.map .int) ∧ α < b) ∧ ∀ i o, w.2[i]? = some o → Rep1 Z ci h (b + (cK ci + 1) * i) o
def Frm (lo hi : Nat) (h0 h : Heap) : Prop := ∀ (x : Nat) (c : Cell), h0[x]? = some c → (x < lo ∨ hi ≤ x) → h[x]? = some c
def usedC (w : W) : Nat := (w.2.map fun o => 1 + o.1).sum
def usedS (ci : CI) (w : W) : Nat := (w.2.map fun o => cF ci + (((cA ci).take o.1).map fun x => x.2.2.2).sum).sum
/-- what the sheet says of the class -/
def Facts (Z : State) (a0 : Array Value) (ci : CI) : Prop :=
  (Jvm.Cond.instantiable (cN ci) (cF ci)).before a0 Z = true ∧ (Jvm.Cond.initialized (cN ci)).before a0 Z = true ∧
  (∀ (f : Nat) (x : String × String × FieldType), (cS ci)[f]? = some x → Laid Z a0 (cN ci) (cN ci) x.1 x.2.1 ∧ parseFieldDescriptor x.2.1 = some x.2.2) ∧
  (∀ (q : Nat) (x : String × String × FieldType × Nat), (cA ci)[q]? = some x → Laid Z a0 (cN ci) (cN ci) x.1 x.2.1 ∧ parseFieldDescriptor x.2.1 = some (.array x.2.2.1)) ∧
  ((cS ci).map (fun x => x.1) ++ (cA ci).map (fun x => x.1)).Nodup ∧ (∀ f x, (cS ci)[f]? = some x → defaultValue x.2.2 = scV x.2.2 s0 f) ∧ (cN ci ≠ "java/lang/invoke/MethodHandle" ∧ cN ci ≠ "java/lang/invoke/VarHandle")
theorem nq {a b : Nat} (h : a ≠ b) : @Ne Addr a b := h
theorem Ar.frm {Z : State} {h h' : Heap} {a : Nat} {ty : FieldType} {vs : List Value} (A : Ar Z h a ty vs) (k : ∀ c, h[a]? = some c → h'[a]? = some c) : Ar Z h' a ty vs := by
  obtain ⟨c, ⟨q1, q2⟩, q3⟩ := A; exact ⟨c, ⟨k c q1, q2⟩, q3⟩
theorem fld_frm {Z : State} {h h' : Heap} {a : Nat} {C n d : String} {v : Value} (F : Fld Z h a C n d v) (k : ∀ c, h[a]? = some c → h'[a]? = some c) : Fld Z h' a C n d v := by
  obtain ⟨cell, cf, kc, i, f, h1, r⟩ := F; exact ⟨cell, cf, kc, i, f, k _ h1, r⟩
theorem exa_frm {Z : State} {h h' : Heap} {a : Nat} {C : String} (F : Exa Z h a C) (k : ∀ c, h[a]? = some c → h'[a]? = some c) : Exa Z h' a C := by
  obtain ⟨cell, kc, h1, r⟩ := F; exact ⟨cell, kc, k _ h1, r⟩
theorem get_lt {A : Type} {l : List A} {i : Nat} {x : A} (h : l[i]? = some x) : i < l.length := (List.getElem?_eq_some_iff.mp h).1
theorem Rep1.frm {Z : State} {ci : CI} {h h' : Heap} {b : Nat} {o : Nat × S} (F : Rep1 Z ci h b o) (k : ∀ x c, b ≤ x → x < b + (cK ci + 1) → h[x]? = some c → h'[x]? = some c) : Rep1 Z ci h' b o := by
  obtain ⟨f1, f2, f3, f4⟩ := F
  refine ⟨exa_frm f1 fun c => k b c (Nat.le_refl _) (by omega), fun f x hx => fld_frm (f2 f x hx) fun c => k b c (Nat.le_refl _) (by omega), fun q x hx => fld_frm (f3 q x hx) fun c => k b c (Nat.le_refl _) (by omega), fun q x hx hq => (f4 q x hx hq).frm fun c => k _ c (by omega) ?_⟩
  have := get_lt hx
  simp only [cK]; omega
theorem RepW.ext {Z : State} {ci : CI} {α b : Nat} {w : W} {h h' : Heap} (F : RepW Z ci α b w h) (E : Ext h h') : RepW Z ci α b w h' :=
  ⟨fun l hl => ⟨((F.1 l hl).1).frm fun c q => E.2 _ _ q, (F.1 l hl).2⟩, fun i o ho => (F.2 i o ho).frm fun x c _ _ q => E.2 _ _ q⟩
theorem Frm.refl (lo hi : Nat) (h : Heap) : Frm lo hi h h := fun _ _ q _ => q
theorem Frm.trans {lo hi : Nat} {h0 h1 h2 : Heap} (A : Frm lo hi h0 h1) (B : Frm lo hi h1 h2) : Frm lo hi h0 h2 := fun x c q r => B x c (A x c q r) r
theorem Frm.wide {lo hi lo' hi' : Nat} {h0 h1 : Heap} (A : Frm lo hi h0 h1) (q1 : lo' ≤ lo) (q2 : hi ≤ hi') : Frm lo' hi' h0 h1 := fun x c q r => A x c q (by omega)
theorem Frm.ext {lo hi : Nat} {h0 h1 h2 : Heap} (A : Frm lo hi h0 h1) (E : Ext h1 h2) : Frm lo hi h0 h2 := fun x c q r => E.2 _ _ (A x c q r)
theorem Frm.wr {lo hi : Nat} {h0 h1 h2 : Heap} {a : Nat} {sl : Nat} {v : Value} (A : Frm lo hi h0 h1) (Wt : Wr h1 h2 a sl v) (q1 : lo ≤ a) (q2 : a < hi) : Frm lo hi h0 h2 := fun x c q r => by
  have q3 := A x c q r
  obtain ⟨c', e1, -, -, -, e5, -⟩ := wr_at Wt q3
  have : x ≠ a := by omega
  rw [← e5 this]; exact e1
/-! ## 4. The walk -/
def Ok (P : PI) (M : Meth) (Z : State) (a0 : Array Value) (p : Program) (R : Room) (s : State) (m : MethodId) (meth : Method) (c : Code) (b n0 : Nat) (h0 : Heap) (uC uS : Nat) : Prop :=
  (∀ d ∈ P.1, d.before a0 Z = true) ∧ Facts Z a0 P.2 ∧ p.tables.exec = Jvm.exec ∧ Z.Warmed39 s.vm ∧ s.vm.findClass (mY M).cls = some m.cls ∧ c.code = mB M ∧ c.maxLocals = mL M ∧ meth.sig.returnType = mT M ∧ meth.name = (mY M).name ∧ R = mR M ∧ n0 ≤ b ∧
  (mTop M = true → h0.size = b + uC ∧ uC = mUC M ∧ uS = mUS M) ∧ s.heap.size = h0.size
def Inv (P : PI) (M : Meth) (l : Launch) (Z : State) (p : Program) (e : Env) (R : Room) (s : State) (m : MethodId) (args : Array Value) (below : List Frame) (meth : Method) (c : Code) (α b n0 : Nat) (h0 : Heap) (uC uS : Nat) (w : W) (T : State) (locs : List Loc) (cells slots : Nat) : Prop :=
  Stand p l e R s m args below meth c T locs cells slots ∧ RepW Z P.2 α b w T.heap ∧ Frm b (b + (cK P.2 + 1) * mN M) h0 T.heap ∧ Fr n0 locs ∧ T.heap.size = h0.size + cells ∧ cells + uC = usedC w ∧ slots + uS = usedS P.2 w ∧ cells ≤ R.cells ∧ slots ≤ R.slots ∧ w.2.length ≤ mN M
def Lv (e : Env) (T : State) (m : MethodId) (r : Option Value) (fs : List Frame) : Prop := ∀ (f : JFrame) (acts : List Action), f.method = m → f.locked = none → f.entered = [] → (doReturn e (T.setTop f) acts r).1 = T.setFrames fs
/-- from here the invocation comes to its end, with this value and this world -/
def Go (P : PI) (M : Meth) (pc : Nat) (L : List Slot) (st : List Value) (w : W) (out : Option Value × W) : Prop :=
  L.length = mL M → ∀ (l : Launch) (Z : State) (a0 : Array Value) (p : Program) (e : Env) (R : Room) (s : State) (m : MethodId) (args : Array Value) (below : List Frame) (meth : Method) (c : Code) (α b n0 : Nat) (h0 : Heap) (uC uS : Nat),
    Ok P M Z a0 p R s m meth c b n0 h0 uC uS → ∀ (T : State) (locs : List Loc) (cells slots : Nat), Inv P M l Z p e R s m args below meth c α b n0 h0 uC uS w T locs cells slots →
    ∃ (T' : State) (locs' : List Loc) (cells' slots' : Nat), Inv P M l Z p e R s m args below meth c α b n0 h0 uC uS out.2 T' locs' cells' slots' ∧
      ∀ fs, Lv e T' m (out.1.map (con α b)) fs → Steps p.tables e below (T.setTop (mkF m pc (cL α b L) (cV α b st))) (T'.setFrames fs)
section Rules
variable {P : PI} {M : Meth} {pc pc' : Nat} {L L' : List Slot} {st st' : List Value} {w w' : W} {out : Option Value × W} {x y z v : Int32} {u r : Int64}
theorem go_mv (hL : L.length = mL M → L'.length = mL M)
    (H : ∀ {p : Program} {e : Env} {below : List Frame} {T target : State} {m : MethodId} {c : Code}, At T m c below → p.tables.exec = Jvm.exec → c.code = mB M → ∀ α b : Nat, Steps p.tables e below (T.setTop (mkF m pc' (cL α b L') (cV α b st'))) target → Steps p.tables e below (T.setTop (mkF m pc (cL α b L) (cV α b st))) target)
    (k : Go P M pc' L' st' w out) : Go P M pc L st w out := by
  intro hl l Z a0 p e R s m args below meth c α b n0 h0 uC uS ok T locs cells slots I
  obtain ⟨T', l', c', n', I', fin⟩ := k (hL hl) l Z a0 p e R s m args below meth c α b n0 h0 uC uS ok T locs cells slots I
  exact ⟨T', l', c', n', I', fun fs hv => H I.1.here ok.2.2.1 ok.2.2.2.2.2.1 α b (fin fs hv)⟩
theorem go_ch (H : ∀ (l : Launch) (Z : State) (a0 : Array Value) (p : Program) (e : Env) (R : Room) (s : State) (m : MethodId) (args : Array Value) (below : List Frame) (meth : Method) (c : Code) (α b n0 : Nat) (h0 : Heap) (uC uS : Nat),
      Ok P M Z a0 p R s m meth c b n0 h0 uC uS → L.length = mL M → ∀ (T : State) (locs : List Loc) (cells slots : Nat), Inv P M l Z p e R s m args below meth c α b n0 h0 uC uS w T locs cells slots →
      ∃ (T' : State) (locs' : List Loc) (cells' slots' : Nat), Inv P M l Z p e R s m args below meth c α b n0 h0 uC uS w' T' locs' cells' slots' ∧
        ∀ target, Steps p.tables e below (T'.setTop (mkF m pc' (cL α b L) (cV α b st'))) target → Steps p.tables e below (T.setTop (mkF m pc (cL α b L) (cV α b st))) target)
    (k : Go P M pc' L st' w' out) : Go P M pc L st w out := by
  intro hl l Z a0 p e R s m args below meth c α b n0 h0 uC uS ok T locs cells slots I
  obtain ⟨T1, l1, c1, n1, I1, h1⟩ := H l Z a0 p e R s m args below meth c α b n0 h0 uC uS ok hl T locs cells slots I
  obtain ⟨T', l', c', n', I', fin⟩ := k hl l Z a0 p e R s m args below meth c α b n0 h0 uC uS ok T1 l1 c1 n1 I1
  exact ⟨T', l', c', n', I', fun fs hv => h1 _ (fin fs hv)⟩
/-! ### loads, stores, constants -/
theorem go_iloadN {k : Fin 4} (d : decode (mB M) pc = .ok (.iload_n k, 1)) (hl : L[k.val]? = some (.val (.int v))) (g : Go P M (pc + 1) L (.int v :: st) w out) : Go P M pc L (st) w out :=
  go_mv id (fun h hx hc α b r => XS.iloadN (g := mkF _ pc (cL α b L) (cV α b (st))) h hx rfl (hb hc d) (cL_get hl) r) g
theorem go_iload {k : Nat} (d : decode (mB M) pc = .ok (.iload k, 2)) (hl : L[k]? = some (.val (.int v))) (g : Go P M (pc + 2) L (.int v :: st) w out) : Go P M pc L (st) w out :=
  go_mv id (fun h hx hc α b r => XS.iload (g := mkF _ pc (cL α b L) (cV α b (st))) h hx rfl (hb hc d) (cL_get hl) r) g
theorem go_lloadN {k : Fin 4} (d : decode (mB M) pc = .ok (.lload_n k, 1)) (hl : L[k.val]? = some (.val (.long u))) (g : Go P M (pc + 1) L (.long u :: st) w out) : Go P M pc L (st) w out :=
  go_mv id (fun h hx hc α b r => XT.lloadN (g := mkF _ pc (cL α b L) (cV α b (st))) h hx rfl (hb hc d) (cL_get hl) r) g
theorem go_lload {k : Nat} (d : decode (mB M) pc = .ok (.lload k, 2)) (hl : L[k]? = some (.val (.long u))) (g : Go P M (pc + 2) L (.long u :: st) w out) : Go P M pc L (st) w out :=
  go_mv id (fun h hx hc α b r => XT.lload (g := mkF _ pc (cL α b L) (cV α b (st))) h hx rfl (hb hc d) (cL_get hl) r) g
theorem go_aloadN {k : Fin 4} {a : Nat} (d : decode (mB M) pc = .ok (.aload_n k, 1)) (hl : L[k.val]? = some (.val (.ref a))) (g : Go P M (pc + 1) L (.ref a :: st) w out) : Go P M pc L (st) w out :=
  go_mv id (fun h hx hc α b r => XS.aloadN (g := mkF _ pc (cL α b L) (cV α b (st))) h hx rfl (hb hc d) (cL_get hl) (con_ref α b (.ref a)) r) g
theorem go_aload {k : Nat} {a : Nat} (d : decode (mB M) pc = .ok (.aload k, 2)) (hl : L[k]? = some (.val (.ref a))) (g : Go P M (pc + 2) L (.ref a :: st) w out) : Go P M pc L (st) w out :=
  go_mv id (fun h hx hc α b r => XS.aload (g := mkF _ pc (cL α b L) (cV α b (st))) h hx rfl (hb hc d) (cL_get hl) (con_ref α b (.ref a)) r) g
theorem go_istoreN {k : Fin 4} (d : decode (mB M) pc = .ok (.istore_n k, 1)) (hl : storeLocals L.toArray k.val (.int x) = some L'.toArray) (g : Go P M (pc + 1) L' (st) w out) : Go P M pc L (.int x :: st) w out :=
  go_mv (fun q => by have := store_size hl; simp at this; omega) (fun h hx hc α b r => XS.istoreN (g := mkF _ pc (cL α b L) (cV α b (.int x :: st))) h hx rfl (hb hc d) rfl (storeC hl) r) g
theorem go_istore {k : Nat} (d : decode (mB M) pc = .ok (.istore k, 2)) (hl : storeLocals L.toArray k (.int x) = some L'.toArray) (g : Go P M (pc + 2) L' (st) w out) : Go P M pc L (.int x :: st) w out :=
  go_mv (fun q => by have := store_size hl; simp at this; omega) (fun h hx hc α b r => XS.istore (g := mkF _ pc (cL α b L) (cV α b (.int x :: st))) h hx rfl (hb hc d) rfl (storeC hl) r) g
theorem go_lstoreN {k : Fin 4} (d : decode (mB M) pc = .ok (.lstore_n k, 1)) (hl : storeLocals L.toArray k.val (.long u) = some L'.toArray) (g : Go P M (pc + 1) L' (st) w out) : Go P M pc L (.long u :: st) w out :=
  go_mv (fun q => by have := store_size hl; simp at this; omega) (fun h hx hc α b r => XT.lstoreN (g := mkF _ pc (cL α b L) (cV α b (.long u :: st))) h hx rfl (hb hc d) rfl (storeC hl) r) g
theorem go_lstore {k : Nat} (d : decode (mB M) pc = .ok (.lstore k, 2)) (hl : storeLocals L.toArray k (.long u) = some L'.toArray) (g : Go P M (pc + 2) L' (st) w out) : Go P M pc L (.long u :: st) w out :=
  go_mv (fun q => by have := store_size hl; simp at this; omega) (fun h hx hc α b r => XT.lstore (g := mkF _ pc (cL α b L) (cV α b (.long u :: st))) h hx rfl (hb hc d) rfl (storeC hl) r) g
theorem go_astoreN {k : Fin 4} {a : Nat} (d : decode (mB M) pc = .ok (.astore_n k, 1)) (hl : storeLocals L.toArray k.val (.ref a) = some L'.toArray) (g : Go P M (pc + 1) L' (st) w out) : Go P M pc L (.ref a :: st) w out :=
  go_mv (fun q => by have := store_size hl; simp at this; omega) (fun h hx hc α b r => XS.astoreN (g := mkF _ pc (cL α b L) (cV α b (.ref a :: st))) h hx rfl (hb hc d) rfl (con_ref α b (.ref a)) (storeC hl) r) g
theorem go_astore {k : Nat} {a : Nat} (d : decode (mB M) pc = .ok (.astore k, 2)) (hl : storeLocals L.toArray k (.ref a) = some L'.toArray) (g : Go P M (pc + 2) L' (st) w out) : Go P M pc L (.ref a :: st) w out :=
  go_mv (fun q => by have := store_size hl; simp at this; omega) (fun h hx hc α b r => XS.astore (g := mkF _ pc (cL α b L) (cV α b (.ref a :: st))) h hx rfl (hb hc d) rfl (con_ref α b (.ref a)) (storeC hl) r) g
theorem go_istoreNT {k : Fin 4} {L0 L1 D : List Slot} {n : Nat} (d : decode (mB M) pc = .ok (.istore_n k, 1)) (hk : k.val = L0.length) (h1 : L1 = L0 ++ [.val (.int x)]) (W : WT D) (hl : D.length = n + 1) (g : ∀ D', WT D' → D'.length = n → Go P M (pc + 1) (L1 ++ D') st w out) : Go P M pc (L0 ++ D) (.int x :: st) w out := by
  obtain ⟨D', W', l', e⟩ := stT (L0 := L0) (v := .int x) W hl rfl
  subst h1
  exact go_istoreN d (by rw [hk]; exact e) (g D' W' l')
theorem nilT {Q : List Slot → Prop} (g : Q []) : ∀ D', WT D' → D'.length = 0 → Q D' := fun D' _ l => by
  cases D' with
  | nil => exact g
  | cons => cases l
theorem go_istoreT {k : Nat} {L0 L1 D : List Slot} {n : Nat} (d : decode (mB M) pc = .ok (.istore k, 2)) (hk : k = L0.length) (h1 : L1 = L0 ++ [.val (.int x)]) (W : WT D) (hl : D.length = n + 1) (g : ∀ D', WT D' → D'.length = n → Go P M (pc + 2) (L1 ++ D') st w out) : Go P M pc (L0 ++ D) (.int x :: st) w out := by
  obtain ⟨D', W', l', e⟩ := stT (L0 := L0) (v := .int x) W hl rfl
  subst h1
  exact go_istore d (by rw [hk]; exact e) (g D' W' l')
theorem go_astoreNT {k : Fin 4} {L0 L1 D : List Slot} {n : Nat} {a : Nat} (d : decode (mB M) pc = .ok (.astore_n k, 1)) (hk : k.val = L0.length) (h1 : L1 = L0 ++ [.val (.ref a)]) (W : WT D) (hl : D.length = n + 1) (g : ∀ D', WT D' → D'.length = n → Go P M (pc + 1) (L1 ++ D') st w out) : Go P M pc (L0 ++ D) (.ref a :: st) w out := by
  obtain ⟨D', W', l', e⟩ := stT (L0 := L0) (v := .ref a) W hl rfl
  subst h1
  exact go_astoreN d (by rw [hk]; exact e) (g D' W' l')
theorem go_astoreT {k : Nat} {L0 L1 D : List Slot} {n : Nat} {a : Nat} (d : decode (mB M) pc = .ok (.astore k, 2)) (hk : k = L0.length) (h1 : L1 = L0 ++ [.val (.ref a)]) (W : WT D) (hl : D.length = n + 1) (g : ∀ D', WT D' → D'.length = n → Go P M (pc + 2) (L1 ++ D') st w out) : Go P M pc (L0 ++ D) (.ref a :: st) w out := by
  obtain ⟨D', W', l', e⟩ := stT (L0 := L0) (v := .ref a) W hl rfl
  subst h1
  exact go_astore d (by rw [hk]; exact e) (g D' W' l')
theorem go_lstoreNT {k : Fin 4} {L0 L1 D : List Slot} {n : Nat} (d : decode (mB M) pc = .ok (.lstore_n k, 1)) (hk : k.val = L0.length) (h1 : L1 = L0 ++ [.val (.long u), .second]) (W : WT D) (hl : D.length = n + 2) (g : ∀ D', WT D' → D'.length = n → Go P M (pc + 1) (L1 ++ D') st w out) : Go P M pc (L0 ++ D) (.long u :: st) w out := by
  obtain ⟨D', W', l', e⟩ := stT2 (L0 := L0) (u := u) W hl
  subst h1
  exact go_lstoreN d (by rw [hk]; exact e) (g D' W' l')
theorem go_lstoreT {k : Nat} {L0 L1 D : List Slot} {n : Nat} (d : decode (mB M) pc = .ok (.lstore k, 2)) (hk : k = L0.length) (h1 : L1 = L0 ++ [.val (.long u), .second]) (W : WT D) (hl : D.length = n + 2) (g : ∀ D', WT D' → D'.length = n → Go P M (pc + 2) (L1 ++ D') st w out) : Go P M pc (L0 ++ D) (.long u :: st) w out := by
  obtain ⟨D', W', l', e⟩ := stT2 (L0 := L0) (u := u) W hl
  subst h1
  exact go_lstore d (by rw [hk]; exact e) (g D' W' l')
theorem go_iconst {i : Int} (d : decode (mB M) pc = .ok (.iconst i, 1)) (hv : v = Int32.ofInt i) (g : Go P M (pc + 1) L (.int v :: st) w out) : Go P M pc L (st) w out :=
  go_mv id (fun h hx hc α b r => XS.iconst (g := mkF _ pc (cL α b L) (cV α b (st))) h hx rfl (hb hc d) (hv ▸ r)) g
theorem go_bipush {i : Int} (d : decode (mB M) pc = .ok (.bipush i, 2)) (hv : v = (Int8.ofInt i).toInt32) (g : Go P M (pc + 2) L (.int v :: st) w out) : Go P M pc L (st) w out :=
  go_mv id (fun h hx hc α b r => XS.bipush (g := mkF _ pc (cL α b L) (cV α b (st))) h hx rfl (hb hc d) (hv ▸ r)) g
theorem go_sipush {i : Int} (d : decode (mB M) pc = .ok (.sipush i, 3)) (hv : v = (Int16.ofInt i).toInt32) (g : Go P M (pc + 3) L (.int v :: st) w out) : Go P M pc L (st) w out :=
  go_mv id (fun h hx hc α b r => XS.sipush (g := mkF _ pc (cL α b L) (cV α b (st))) h hx rfl (hb hc d) (hv ▸ r)) g
theorem go_lconst {i : Fin 2} (d : decode (mB M) pc = .ok (.lconst i, 1)) (hv : u = Int64.ofNat i) (g : Go P M (pc + 1) L (.long u :: st) w out) : Go P M pc L (st) w out :=
  go_mv id (fun h hx hc α b r => XT.lconst (g := mkF _ pc (cL α b L) (cV α b (st))) h hx rfl (hb hc d) (hv ▸ r)) g
theorem go_dup  (d : decode (mB M) pc = .ok (.dup, 1))  (g : Go P M (pc + 1) L (.int x :: .int x :: st) w out) : Go P M pc L (.int x :: st) w out :=
  go_mv id (fun h hx hc α b r => XS.dup (g := mkF _ pc (cL α b L) (cV α b (.int x :: st))) h hx rfl (hb hc d) rfl rfl r) g
theorem go_dupR {a : Nat} (d : decode (mB M) pc = .ok (.dup, 1))  (g : Go P M (pc + 1) L (.ref a :: .ref a :: st) w out) : Go P M pc L (.ref a :: st) w out :=
  go_mv id (fun h hx hc α b r => XS.dup (g := mkF _ pc (cL α b L) (cV α b (.ref a :: st))) h hx rfl (hb hc d) rfl (con_cat α b (.ref a)) r) g
theorem go_dup2 {a : Nat} (d : decode (mB M) pc = .ok (.dup2, 1))  (g : Go P M (pc + 1) L (.int x :: .ref a :: .int x :: .ref a :: st) w out) : Go P M pc L (.int x :: .ref a :: st) w out :=
  go_mv id (fun h hx hc α b r => XT.dup2 (g := mkF _ pc (cL α b L) (cV α b (.int x :: .ref a :: st))) h hx rfl (hb hc d) rfl rfl (con_cat α b (.ref a)) r) g
theorem go_dup2I  (d : decode (mB M) pc = .ok (.dup2, 1))  (g : Go P M (pc + 1) L (.int x :: .int y :: .int x :: .int y :: st) w out) : Go P M pc L (.int x :: .int y :: st) w out :=
  go_mv id (fun h hx hc α b r => XT.dup2 (g := mkF _ pc (cL α b L) (cV α b (.int x :: .int y :: st))) h hx rfl (hb hc d) rfl rfl rfl r) g
theorem go_dup2L  (d : decode (mB M) pc = .ok (.dup2, 1))  (g : Go P M (pc + 1) L (.long u :: .long u :: st) w out) : Go P M pc L (.long u :: st) w out :=
  go_mv id (fun h hx hc α b r => XT.dup2L (g := mkF _ pc (cL α b L) (cV α b (.long u :: st))) h hx rfl (hb hc d) rfl r) g
theorem go_pop  (d : decode (mB M) pc = .ok (.pop, 1))  (g : Go P M (pc + 1) L (st) w out) : Go P M pc L (.int x :: st) w out :=
  go_mv id (fun h hx hc α b r => XT.pop (g := mkF _ pc (cL α b L) (cV α b (.int x :: st))) h hx rfl (hb hc d) rfl rfl r) g
theorem go_iadd  (d : decode (mB M) pc = .ok (.iadd, 1))  (g : Go P M (pc + 1) L (.int (x + y) :: st) w out) : Go P M pc L (.int y :: .int x :: st) w out :=
  go_mv id (fun h hx hc α b r => XS.iadd (g := mkF _ pc (cL α b L) (cV α b (.int y :: .int x :: st))) h hx rfl (hb hc d) rfl r) g
theorem go_isub  (d : decode (mB M) pc = .ok (.isub, 1))  (g : Go P M (pc + 1) L (.int (x - y) :: st) w out) : Go P M pc L (.int y :: .int x :: st) w out :=
  go_mv id (fun h hx hc α b r => XS.isub (g := mkF _ pc (cL α b L) (cV α b (.int y :: .int x :: st))) h hx rfl (hb hc d) rfl r) g
theorem go_imul  (d : decode (mB M) pc = .ok (.imul, 1))  (g : Go P M (pc + 1) L (.int (x * y) :: st) w out) : Go P M pc L (.int y :: .int x :: st) w out :=
  go_mv id (fun h hx hc α b r => XS.imul (g := mkF _ pc (cL α b L) (cV α b (.int y :: .int x :: st))) h hx rfl (hb hc d) rfl r) g
theorem go_iand  (d : decode (mB M) pc = .ok (.iand, 1))  (g : Go P M (pc + 1) L (.int (x &&& y) :: st) w out) : Go P M pc L (.int y :: .int x :: st) w out :=
  go_mv id (fun h hx hc α b r => XS.iand (g := mkF _ pc (cL α b L) (cV α b (.int y :: .int x :: st))) h hx rfl (hb hc d) rfl r) g
theorem go_ior  (d : decode (mB M) pc = .ok (.ior, 1))  (g : Go P M (pc + 1) L (.int (x ||| y) :: st) w out) : Go P M pc L (.int y :: .int x :: st) w out :=
  go_mv id (fun h hx hc α b r => XT.ior (g := mkF _ pc (cL α b L) (cV α b (.int y :: .int x :: st))) h hx rfl (hb hc d) rfl r) g
theorem go_ixor  (d : decode (mB M) pc = .ok (.ixor, 1))  (g : Go P M (pc + 1) L (.int (x ^^^ y) :: st) w out) : Go P M pc L (.int y :: .int x :: st) w out :=
  go_mv id (fun h hx hc α b r => XT.ixor (g := mkF _ pc (cL α b L) (cV α b (.int y :: .int x :: st))) h hx rfl (hb hc d) rfl r) g
theorem go_ishl  (d : decode (mB M) pc = .ok (.ishl, 1))  (g : Go P M (pc + 1) L (.int (x <<< (y &&& 31)) :: st) w out) : Go P M pc L (.int y :: .int x :: st) w out :=
  go_mv id (fun h hx hc α b r => XT.ishl (g := mkF _ pc (cL α b L) (cV α b (.int y :: .int x :: st))) h hx rfl (hb hc d) rfl r) g
theorem go_ishr  (d : decode (mB M) pc = .ok (.ishr, 1))  (g : Go P M (pc + 1) L (.int (x >>> (y &&& 31)) :: st) w out) : Go P M pc L (.int y :: .int x :: st) w out :=
  go_mv id (fun h hx hc α b r => XT.ishr (g := mkF _ pc (cL α b L) (cV α b (.int y :: .int x :: st))) h hx rfl (hb hc d) rfl r) g
theorem go_iushr  (d : decode (mB M) pc = .ok (.iushr, 1))  (g : Go P M (pc + 1) L (.int (XT.ushr x y) :: st) w out) : Go P M pc L (.int y :: .int x :: st) w out :=
  go_mv id (fun h hx hc α b r => XT.iushr (g := mkF _ pc (cL α b L) (cV α b (.int y :: .int x :: st))) h hx rfl (hb hc d) rfl r) g
theorem go_idiv  (d : decode (mB M) pc = .ok (.idiv, 1)) (hy : y ≠ 0) (g : Go P M (pc + 1) L (.int (x / y) :: st) w out) : Go P M pc L (.int y :: .int x :: st) w out :=
  go_mv id (fun h hx hc α b r => XS.idiv (g := mkF _ pc (cL α b L) (cV α b (.int y :: .int x :: st))) h hx rfl (hb hc d) rfl hy r) g
theorem go_irem  (d : decode (mB M) pc = .ok (.irem, 1)) (hy : y ≠ 0) (g : Go P M (pc + 1) L (.int (x % y) :: st) w out) : Go P M pc L (.int y :: .int x :: st) w out :=
  go_mv id (fun h hx hc α b r => XS.irem (g := mkF _ pc (cL α b L) (cV α b (.int y :: .int x :: st))) h hx rfl (hb hc d) rfl hy (by rw [irem_eq_mod x y]; exact r)) g
theorem go_ineg  (d : decode (mB M) pc = .ok (.ineg, 1))  (g : Go P M (pc + 1) L (.int (-x) :: st) w out) : Go P M pc L (.int x :: st) w out :=
  go_mv id (fun h hx hc α b r => XS.ineg (g := mkF _ pc (cL α b L) (cV α b (.int x :: st))) h hx rfl (hb hc d) rfl r) g
theorem go_ladd  (d : decode (mB M) pc = .ok (.ladd, 1))  (g : Go P M (pc + 1) L (.long (u + r) :: st) w out) : Go P M pc L (.long r :: .long u :: st) w out :=
  go_mv id (fun h hx hc α b k => XT.ladd (g := mkF _ pc (cL α b L) (cV α b (.long r :: .long u :: st))) h hx rfl (hb hc d) rfl k) g
theorem go_lsub  (d : decode (mB M) pc = .ok (.lsub, 1))  (g : Go P M (pc + 1) L (.long (u - r) :: st) w out) : Go P M pc L (.long r :: .long u :: st) w out :=
  go_mv id (fun h hx hc α b k => XT.lsub (g := mkF _ pc (cL α b L) (cV α b (.long r :: .long u :: st))) h hx rfl (hb hc d) rfl k) g
theorem go_lmul  (d : decode (mB M) pc = .ok (.lmul, 1))  (g : Go P M (pc + 1) L (.long (u * r) :: st) w out) : Go P M pc L (.long r :: .long u :: st) w out :=
  go_mv id (fun h hx hc α b k => XT.lmul (g := mkF _ pc (cL α b L) (cV α b (.long r :: .long u :: st))) h hx rfl (hb hc d) rfl k) g
theorem go_land  (d : decode (mB M) pc = .ok (.land, 1))  (g : Go P M (pc + 1) L (.long (u &&& r) :: st) w out) : Go P M pc L (.long r :: .long u :: st) w out :=
  go_mv id (fun h hx hc α b k => XT.land (g := mkF _ pc (cL α b L) (cV α b (.long r :: .long u :: st))) h hx rfl (hb hc d) rfl k) g
theorem go_lor  (d : decode (mB M) pc = .ok (.lor, 1))  (g : Go P M (pc + 1) L (.long (u ||| r) :: st) w out) : Go P M pc L (.long r :: .long u :: st) w out :=
  go_mv id (fun h hx hc α b k => XT.lor (g := mkF _ pc (cL α b L) (cV α b (.long r :: .long u :: st))) h hx rfl (hb hc d) rfl k) g
theorem go_lxor  (d : decode (mB M) pc = .ok (.lxor, 1))  (g : Go P M (pc + 1) L (.long (u ^^^ r) :: st) w out) : Go P M pc L (.long r :: .long u :: st) w out :=
  go_mv id (fun h hx hc α b k => XT.lxor (g := mkF _ pc (cL α b L) (cV α b (.long r :: .long u :: st))) h hx rfl (hb hc d) rfl k) g
theorem go_lshl  (d : decode (mB M) pc = .ok (.lshl, 1))  (g : Go P M (pc + 1) L (.long (u <<< (y.toInt64 &&& 63)) :: st) w out) : Go P M pc L (.int y :: .long u :: st) w out :=
  go_mv id (fun h hx hc α b r => XT.lshl (g := mkF _ pc (cL α b L) (cV α b (.int y :: .long u :: st))) h hx rfl (hb hc d) rfl r) g
theorem go_lshr  (d : decode (mB M) pc = .ok (.lshr, 1))  (g : Go P M (pc + 1) L (.long (u >>> (y.toInt64 &&& 63)) :: st) w out) : Go P M pc L (.int y :: .long u :: st) w out :=
  go_mv id (fun h hx hc α b r => XT.lshr (g := mkF _ pc (cL α b L) (cV α b (.int y :: .long u :: st))) h hx rfl (hb hc d) rfl r) g
theorem go_lushr  (d : decode (mB M) pc = .ok (.lushr, 1))  (g : Go P M (pc + 1) L (.long (XT.ushrL u y) :: st) w out) : Go P M pc L (.int y :: .long u :: st) w out :=
  go_mv id (fun h hx hc α b r => XT.lushr (g := mkF _ pc (cL α b L) (cV α b (.int y :: .long u :: st))) h hx rfl (hb hc d) rfl r) g
theorem go_lcmp  (d : decode (mB M) pc = .ok (.lcmp, 1))  (g : Go P M (pc + 1) L (.int (XT.cmpL u r) :: st) w out) : Go P M pc L (.long r :: .long u :: st) w out :=
  go_mv id (fun h hx hc α b k => XT.lcmp (g := mkF _ pc (cL α b L) (cV α b (.long r :: .long u :: st))) h hx rfl (hb hc d) rfl k) g
theorem go_i2l  (d : decode (mB M) pc = .ok (.i2l, 1))  (g : Go P M (pc + 1) L (.long x.toInt64 :: st) w out) : Go P M pc L (.int x :: st) w out :=
  go_mv id (fun h hx hc α b r => XT.i2l (g := mkF _ pc (cL α b L) (cV α b (.int x :: st))) h hx rfl (hb hc d) rfl r) g
theorem go_l2i  (d : decode (mB M) pc = .ok (.l2i, 1))  (g : Go P M (pc + 1) L (.int u.toInt32 :: st) w out) : Go P M pc L (.long u :: st) w out :=
  go_mv id (fun h hx hc α b r => XT.l2i (g := mkF _ pc (cL α b L) (cV α b (.long u :: st))) h hx rfl (hb hc d) rfl r) g
theorem go_i2b  (d : decode (mB M) pc = .ok (.i2b, 1))  (g : Go P M (pc + 1) L (.int x.toInt8.toInt32 :: st) w out) : Go P M pc L (.int x :: st) w out :=
  go_mv id (fun h hx hc α b r => XT.i2b (g := mkF _ pc (cL α b L) (cV α b (.int x :: st))) h hx rfl (hb hc d) rfl r) g
theorem go_iinc {k : Nat} {i : Int} (d : decode (mB M) pc = .ok (.iinc k i, 3)) (h1 : L[k]? = some (.val (.int x))) (hv : v = Int32.ofInt i) (hl : storeLocals L.toArray k (.int (x + v)) = some L'.toArray) (g : Go P M (pc + 3) L' (st) w out) : Go P M pc L (st) w out :=
  by subst hv; exact go_mv (fun q => by have := store_size hl; simp at this; omega) (fun h hx hc α b r => XS.iinc (g := mkF _ pc (cL α b L) (cV α b (st))) h hx rfl (hb hc d) (cL_get h1) (storeC hl) r) g
theorem go_goto {o : Int} (d : decode (mB M) pc = .ok (.goto o, 3)) (hp : 0 ≤ (pc : Int) + o ∧ ((pc : Int) + o).toNat = pc') (g : Go P M pc' L (st) w out) : Go P M pc L (st) w out :=
  go_mv id (fun h hx hc α b r => XS.goto (g := mkF _ pc (cL α b L) (cV α b (st))) h hx rfl rfl (hb hc d) hp.1 hp.2 r) g
theorem go_ifY {cd : ClassFile.Cond} {o : Int} (d : decode (mB M) pc = .ok (.ifCond cd o, 3)) (hq : ifCond.holds cd x = true) (hp : 0 ≤ (pc : Int) + o ∧ ((pc : Int) + o).toNat = pc') (g : Go P M pc' L (st) w out) : Go P M pc L (.int x :: st) w out :=
  go_mv id (fun h hx hc α b r => XS.ifYes (g := mkF _ pc (cL α b L) (cV α b (.int x :: st))) h hx rfl rfl (hb hc d) rfl hq hp.1 hp.2 r) g
theorem go_ifN {cd : ClassFile.Cond} {o : Int} (d : decode (mB M) pc = .ok (.ifCond cd o, 3)) (hq : ifCond.holds cd x = false) (g : Go P M (pc + 3) L (st) w out) : Go P M pc L (.int x :: st) w out :=
  go_mv id (fun h hx hc α b r => XS.ifNo (g := mkF _ pc (cL α b L) (cV α b (.int x :: st))) h hx rfl (hb hc d) rfl hq r) g
theorem go_icY {cd : ClassFile.Cond} {o : Int} (d : decode (mB M) pc = .ok (.if_icmp cd o, 3)) (hq : if_icmp.holds cd x y = true) (hp : 0 ≤ (pc : Int) + o ∧ ((pc : Int) + o).toNat = pc') (g : Go P M pc' L (st) w out) : Go P M pc L (.int y :: .int x :: st) w out :=
  go_mv id (fun h hx hc α b r => XS.icmpYes (g := mkF _ pc (cL α b L) (cV α b (.int y :: .int x :: st))) h hx rfl rfl (hb hc d) rfl hq hp.1 hp.2 r) g
theorem go_icN {cd : ClassFile.Cond} {o : Int} (d : decode (mB M) pc = .ok (.if_icmp cd o, 3)) (hq : if_icmp.holds cd x y = false) (g : Go P M (pc + 3) L (st) w out) : Go P M pc L (.int y :: .int x :: st) w out :=
  go_mv id (fun h hx hc α b r => XS.icmpNo (g := mkF _ pc (cL α b L) (cV α b (.int y :: .int x :: st))) h hx rfl (hb hc d) rfl hq r) g
theorem go_nonnull {o : Int} (d : decode (mB M) pc = .ok (.ifnonnull o, 3)) (hp : 0 ≤ (pc : Int) + o ∧ ((pc : Int) + o).toNat = pc') (g : Go P M pc' L st w out) : Go P M pc L (.ref 0 :: st) w out :=
  go_mv id (fun h hx hc α b r => XT.ifnonnullYes (g := mkF _ pc (cL α b L) (cV α b (.ref 0 :: st))) (b := α) h hx rfl rfl (hb hc d) rfl hp.1 hp.2 r) g
theorem go_tswIn {dflt low high : Int} {offs : Array Int} {len : Nat} {o : Int} (d : decode (mB M) pc = .ok (.tableswitch dflt low high offs, len)) (hin : ¬ (x.toInt < low ∨ x.toInt > high)) (hoff : offs[(x.toInt - low).toNat]? = some o) (hp : 0 ≤ (pc : Int) + o ∧ ((pc : Int) + o).toNat = pc') (g : Go P M pc' L st w out) : Go P M pc L (.int x :: st) w out :=
  go_mv id (fun h hx hc α b r => XS.tswIn (g := mkF _ pc (cL α b L) (cV α b (.int x :: st))) h hx rfl rfl (hb hc d) rfl hin hoff hp.1 hp.2 r) g
theorem go_tswOut {dflt low high : Int} {offs : Array Int} {len : Nat} (d : decode (mB M) pc = .ok (.tableswitch dflt low high offs, len)) (hout : x.toInt < low ∨ x.toInt > high) (hp : 0 ≤ (pc : Int) + dflt ∧ ((pc : Int) + dflt).toNat = pc') (g : Go P M pc' L st w out) : Go P M pc L (.int x :: st) w out :=
  go_mv id (fun h hx hc α b r => XS.tswOut (g := mkF _ pc (cL α b L) (cV α b (.int x :: st))) h hx rfl rfl (hb hc d) rfl hout hp.1 hp.2 r) g
/-! ### constants of the pool -/
theorem go_ldc {k : Nat} (d : decode (mB M) pc = .ok (.ldc k, 2)) (hk : Jvm.Cond.constant (mY M).cls k v ∈ P.1) (g : Go P M (pc + 2) L (.int v :: st) w out) : Go P M pc L st w out :=
  go_ch (fun l Z a0 p e R s m args below meth c α b n0 h0 uC uS ok hl T locs cells slots I => ⟨T, locs, cells, slots, I, fun target r => Stand.ldcI (g := mkF m pc (cL α b L) (cV α b st)) I.1 ok.2.2.1 ok.2.2.2.2.1 (mvT ok.2.2.2.1 (ok.1 _ hk)) rfl (hb ok.2.2.2.2.2.1 d) r⟩) g
theorem go_ldcW {k : Nat} (d : decode (mB M) pc = .ok (.ldc_w k, 3)) (hk : Jvm.Cond.constant (mY M).cls k v ∈ P.1) (g : Go P M (pc + 3) L (.int v :: st) w out) : Go P M pc L st w out :=
  go_ch (fun l Z a0 p e R s m args below meth c α b n0 h0 uC uS ok hl T locs cells slots I => ⟨T, locs, cells, slots, I, fun target r => Stand.ldcWI (g := mkF m pc (cL α b L) (cV α b st)) I.1 ok.2.2.1 ok.2.2.2.2.1 (mvT ok.2.2.2.1 (ok.1 _ hk)) rfl (hb ok.2.2.2.2.2.1 d) r⟩) g
theorem go_ldc2 {k : Nat} (d : decode (mB M) pc = .ok (.ldc2_w k, 3)) (hk : Jvm.Cond.constantLong (mY M).cls k u ∈ P.1) (g : Go P M (pc + 3) L (.long u :: st) w out) : Go P M pc L st w out :=
  go_ch (fun l Z a0 p e R s m args below meth c α b n0 h0 uC uS ok hl T locs cells slots I => ⟨T, locs, cells, slots, I, fun target r => Stand.ldc2J (g := mkF m pc (cL α b L) (cV α b st)) I.1 ok.2.2.1 ok.2.2.2.2.1 (mvT ok.2.2.2.1 (ok.1 _ hk)) rfl (hb ok.2.2.2.2.2.1 d) r⟩) g
/-! ### returns -/
theorem go_iret (hT : mT M = some .int) (d : decode (mB M) pc = .ok (.ireturn, 1)) : Go P M pc L (.int x :: st) w (some (.int x), w) := by
  intro hl l Z a0 p e R s m args below meth c α b n0 h0 uC uS ok T locs cells slots I
  exact ⟨T, locs, cells, slots, I, fun fs hv => retOut I.1 ok.2.2.1 (t := .int) (ok.2.2.2.2.2.2.2.1.trans hT) rfl (Or.inl ⟨rfl, Or.inl rfl, x, rfl⟩) (hb ok.2.2.2.2.2.1 d) hv⟩
theorem go_zret (hT : mT M = some .boolean) (d : decode (mB M) pc = .ok (.ireturn, 1)) (hz : v = nar .boolean x) : Go P M pc L (.int x :: st) w (some (.int v), w) := by
  intro hl l Z a0 p e R s m args below meth c α b n0 h0 uC uS ok T locs cells slots I
  subst hz
  exact ⟨T, locs, cells, slots, I, fun fs hv => retN I.1 ok.2.2.1 (t := .boolean) (ok.2.2.2.2.2.2.2.1.trans hT) (Or.inl rfl) (hb ok.2.2.2.2.2.1 d) hv⟩
theorem go_lret (hT : mT M = some .long) (d : decode (mB M) pc = .ok (.lreturn, 1)) : Go P M pc L (.long u :: st) w (some (.long u), w) := by
  intro hl l Z a0 p e R s m args below meth c α b n0 h0 uC uS ok T locs cells slots I
  exact ⟨T, locs, cells, slots, I, fun fs hv => retOut I.1 ok.2.2.1 (t := .long) (ok.2.2.2.2.2.2.2.1.trans hT) rfl (Or.inr (Or.inl ⟨rfl, rfl, u, rfl⟩)) (hb ok.2.2.2.2.2.1 d) hv⟩
theorem go_ret (hT : mT M = none) (d : decode (mB M) pc = .ok (.return_, 1)) : Go P M pc L [] w (none, w) := by
  intro hl l Z a0 p e R s m args below meth c α b n0 h0 uC uS ok T locs cells slots I
  exact ⟨T, locs, cells, slots, I, fun fs hv => I.1.returnOut ok.2.2.1 (ok.2.2.2.2.2.2.2.1.trans hT) (hb ok.2.2.2.2.2.1 d) hv⟩
/-! ### fields -/
variable {o o' : Nat × S} {s : S} {k n : Nat}
theorem rep_one {Z : State} {ci : CI} {α b : Nat} {h : Heap} (F : RepW Z ci α b (none, [o]) h) : Rep1 Z ci h b o := by
  have := F.2 0 o rfl
  simpa using this
theorem rep_mk {Z : State} {ci : CI} {α b : Nat} {h : Heap} (F : Rep1 Z ci h b o) : RepW Z ci α b (none, [o]) h :=
  ⟨fun l hl => (nomatch hl), fun i o1 ho => by
    cases i with
    | zero => cases ho; simpa using F
    | succ i => simp at ho⟩
/-- the entry idx names the scalar field number f; of type ty -/
def FldS (P : PI) (idx f : Nat) (ty : FieldType) : Prop := ∃ nm ds, (cS P.2)[f]? = some (nm, ds, ty) ∧ Jvm.Cond.fieldLink (cN P.2) idx (cN P.2) nm ds ∈ P.1
def FldA (P : PI) (idx q : Nat) (ty : FieldType) : Prop := ∃ nm ds cap, (cA P.2)[q]? = some (nm, ds, ty, cap) ∧ Jvm.Cond.fieldLink (cN P.2) idx (cN P.2) nm ds ∈ P.1
theorem go_getV {idx f : Nat} {ty : FieldType} (F : FldS P idx f ty) (hM : (mY M).cls = cN P.2) (d : decode (mB M) pc = .ok (.getfield idx, 3)) {vv : Value} (hv : vv = scV ty s f) (hr : ∀ α b, con α b vv = vv) (g : Go P M (pc + 3) L (vv :: st) (none, [(k, s)]) out) : Go P M pc L (.ref 1 :: st) (none, [(k, s)]) out :=
  go_ch (fun l Z a0 p e R s1 m args below meth c α b n0 h0 uC uS ok hl T locs cells slots I => by
    obtain ⟨nm, ds, f1, f2⟩ := F
    obtain ⟨hw, fa, hx, hZ, hown, hc, hml, hret, hnm, hR, hn0, htop, hsz⟩ := ok
    obtain ⟨X, Rp, Fm, Nl, hs, u1, u2, c1, c2, hN⟩ := I
    have Fd := (rep_one Rp).2.1 f _ f1
    rw [hM] at hown
    obtain ⟨T', X', e', stp⟩ := getF X hx hZ hown (host := "") (Or.inl (hw _ f2)) Via.refl rfl Fd (g := mkF m pc (cL α b L) (cV α b (.ref 1 :: st))) rfl rfl (hb hc d)
    refine ⟨T', locs, cells, slots, ⟨X', by rw [e']; exact Rp, by rw [e']; exact Fm, Nl, by rw [e']; exact hs, u1, u2, c1, c2, hN⟩, fun target r => stp target ?_⟩
    rw [show cV α b (vv :: st) = con α b vv :: cV α b st from rfl, hr, hv] at r
    exact r) g
theorem go_getI {idx f : Nat} (F : FldS P idx f .int) (hM : (mY M).cls = cN P.2) (d : decode (mB M) pc = .ok (.getfield idx, 3)) (g : Go P M (pc + 3) L (.int (gI s f) :: st) (none, [(k, s)]) out) : Go P M pc L (.ref 1 :: st) (none, [(k, s)]) out :=
  go_getV F hM d rfl (fun _ _ => rfl) g
theorem go_getZ {idx f : Nat} (F : FldS P idx f .boolean) (hM : (mY M).cls = cN P.2) (d : decode (mB M) pc = .ok (.getfield idx, 3)) (g : Go P M (pc + 3) L (.int (gI s f) :: st) (none, [(k, s)]) out) : Go P M pc L (.ref 1 :: st) (none, [(k, s)]) out :=
  go_getV F hM d rfl (fun _ _ => rfl) g
theorem go_getJ {idx f : Nat} (F : FldS P idx f .long) (hM : (mY M).cls = cN P.2) (d : decode (mB M) pc = .ok (.getfield idx, 3)) (g : Go P M (pc + 3) L (.long (gL s f) :: st) (none, [(k, s)]) out) : Go P M pc L (.ref 1 :: st) (none, [(k, s)]) out :=
  go_getV F hM d rfl (fun _ _ => rfl) g
theorem go_getA {idx q : Nat} {ty : FieldType} (F : FldA P idx q ty) (hM : (mY M).cls = cN P.2) (d : decode (mB M) pc = .ok (.getfield idx, 3)) (hq : Nat.blt q k = true) (g : Go P M (pc + 3) L (.ref (q + 2) :: st) (none, [(k, s)]) out) : Go P M pc L (.ref 1 :: st) (none, [(k, s)]) out :=
  go_ch (fun l Z a0 p e R s1 m args below meth c α b n0 h0 uC uS ok hl T locs cells slots I => by
    obtain ⟨nm, ds, cap, f1, f2⟩ := F
    obtain ⟨hw, fa, hx, hZ, hown, hc, hml, hret, hnm, hR, hn0, htop, hsz⟩ := ok
    obtain ⟨X, Rp, Fm, Nl, hs, u1, u2, c1, c2, hN⟩ := I
    have Fd := (rep_one Rp).2.2.1 q _ f1
    rw [if_pos (show q < (k, s).1 by simpa [Nat.blt_eq] using hq)] at Fd
    rw [hM] at hown
    obtain ⟨T', X', e', stp⟩ := getF X hx hZ hown (host := "") (Or.inl (hw _ f2)) Via.refl rfl Fd (g := mkF m pc (cL α b L) (cV α b (.ref 1 :: st))) rfl rfl (hb hc d)
    refine ⟨T', locs, cells, slots, ⟨X', by rw [e']; exact Rp, by rw [e']; exact Fm, Nl, by rw [e']; exact hs, u1, u2, c1, c2, hN⟩, fun target r => stp target ?_⟩
    rw [show cV α b (.ref (q + 2) :: st) = .ref (b + (q + 1)) :: cV α b st from rfl] at r
    rw [show b + 1 + q = b + (q + 1) by omega]
    exact r) g
/-- another scalar of the object takes its value -/
theorem rep_put {Z : State} {a0 : Array Value} {ci : CI} {h h' : Heap} {b : Nat} {s s' : S} {k f : Nat} {nm ds : String} {ty : FieldType} {vv : Value} (fa : Facts Z a0 ci) (F : Rep1 Z ci h b (k, s)) (hf : (cS ci)[f]? = some (nm, ds, ty))
    (Wt : Wr h h' b (Jvm.RoadKit.slotOf Z (cN ci) nm ds) vv) (hv : vv = scV ty s' f) (ho : ∀ f' x, (cS ci)[f']? = some x → f' ≠ f → scV x.2.2 s' f' = scV x.2.2 s f') (ha : gA s' = gA s) (hbb : gB s' = gB s) : Rep1 Z ci h' b (k, s') := by
  obtain ⟨f1, f2, f3, f4⟩ := F
  obtain ⟨-, -, g1, g2, g3, -⟩ := fa
  have lt := get_lt hf
  refine ⟨f1.wr Wt, fun f' x hx => ?_, fun q x hx => ?_, fun q x hx hq => ?_⟩
  · by_cases e : f' = f
    · subst e
      cases hf.symm.trans hx
      show Fld Z h' b (cN ci) nm ds (scV ty s' f')
      rw [← hv]; exact (f2 f' _ hf).same Wt
    · have lt' := get_lt hx
      show Fld Z h' b (cN ci) x.1 x.2.1 (scV x.2.2 s' f')
      rw [ho f' x hx e]
      refine (f2 f' x hx).other Wt (Or.inr ?_)
      refine slot_ne (g1 f' x hx).1 (g1 f _ hf).1 ?_ (g1 f' x hx).2 (g1 f _ hf).2
      intro en
      have n1 : ((cS ci).map (fun x => x.1) ++ (cA ci).map (fun x => x.1))[f']? = some x.1 := by rw [List.getElem?_append_left (by simpa using lt')]; simp [hx]
      have n2 : ((cS ci).map (fun x => x.1) ++ (cA ci).map (fun x => x.1))[f]? = some nm := by rw [List.getElem?_append_left (by simpa using lt)]; simp [hf]
      rw [en] at n1
      obtain ⟨i1, j1⟩ := List.getElem?_eq_some_iff.mp n1
      obtain ⟨i2, j2⟩ := List.getElem?_eq_some_iff.mp n2
      exact e ((List.getElem_inj g3).mp (j1.trans j2.symm))
  · refine (f3 q x hx).other Wt (Or.inr ?_)
    have lt' := get_lt hx
    refine slot_ne (g2 q x hx).1 (g1 f _ hf).1 ?_ (g2 q x hx).2 (g1 f _ hf).2
    intro en
    have n1 : ((cS ci).map (fun x => x.1) ++ (cA ci).map (fun x => x.1))[(cS ci).length + q]? = some x.1 := by rw [List.getElem?_append_right (by simp)]; simp [hx]
    have n2 : ((cS ci).map (fun x => x.1) ++ (cA ci).map (fun x => x.1))[f]? = some nm := by rw [List.getElem?_append_left (by simpa using lt)]; simp [hf]
    rw [en] at n1
    obtain ⟨i1, j1⟩ := List.getElem?_eq_some_iff.mp n1
    obtain ⟨i2, j2⟩ := List.getElem?_eq_some_iff.mp n2
    have := (List.getElem_inj g3).mp (j1.trans j2.symm)
    omega
  · obtain ⟨c, A, e⟩ := f4 q x hx hq
    refine ⟨c, A.other Wt (nq (by omega)), e.trans ?_⟩
    show (arV x.2.2.1 s q).toArray = (arV x.2.2.1 s' q).toArray
    unfold arV
    split <;> simp [ha, hbb]
theorem go_putV {idx f : Nat} {ty : FieldType} {vv : Value} {s' : S} (F : FldS P idx f ty) (hM : (mY M).cls = cN P.2)
    (hlays : ∀ nm ds, (cS P.2)[f]? = some (nm, ds, ty) → Jvm.Cond.lays (cN P.2) (cN P.2) nm ds ∈ P.1 ∨ (Jvm.Cond.laysFinal (cN P.2) (cN P.2) nm ds ∈ P.1 ∧ (mY M).name = "<init>"))
    (hpos : 0 < mN M) (hr : ∀ α b, con α b vv = vv) (hn : narrow ty vv = vv) (hfi : fits ty vv = true) (hv : vv = scV ty s' f) (ho : ∀ f' x, (cS P.2)[f']? = some x → f' ≠ f → scV x.2.2 s' f' = scV x.2.2 s f') (ha : gA s' = gA s) (hbb : gB s' = gB s)
    (d : decode (mB M) pc = .ok (.putfield idx, 3)) (g : Go P M (pc + 3) L st (none, [(k, s')]) out) : Go P M pc L (vv :: .ref 1 :: st) (none, [(k, s)]) out :=
  go_ch (fun l Z a0 p e R s1 m args below meth c α b n0 h0 uC uS ok hl T locs cells slots I => by
    obtain ⟨nm, ds, f1, f2⟩ := F
    obtain ⟨hw, fa, hx, hZ, hown, hc, hml, hret, hnm, hR, hn0, htop, hsz⟩ := ok
    obtain ⟨X, Rp, Fm, Nl, hs, u1, u2, c1, c2, hN⟩ := I
    have Rp1 := rep_one Rp
    have Fd := Rp1.2.1 f _ f1
    rw [hM] at hown
    obtain ⟨T', h', X', e', Wt, stp⟩ := putF X hx hZ hown (host := "") (Or.inl (hw _ f2)) Via.refl rfl Fd Rp1.1 ((hlays nm ds f1).imp (fun q => hw _ q) (fun q => ⟨hw _ q.1, rfl, hnm.trans q.2⟩)) fa.1 (fa.2.2.1 f _ f1).2 hn hfi (g := mkF m pc (cL α b L) (vv :: .ref b :: cV α b st)) rfl rfl (hb hc d)
    refine ⟨T', _, cells, slots, ⟨X', rep_mk (by rw [e']; exact rep_put fa Rp1 f1 Wt hv ho ha hbb), by rw [e']; exact Fm.wr Wt (Nat.le_refl _) (by have := Nat.mul_le_mul_left (cK P.2 + 1) hpos; omega), Fr.snoc X' Nl hn0, by rw [e', Wt.size]; exact hs, u1, u2, c1, c2, hN⟩, fun target r => ?_⟩
    rw [show cV α b (vv :: .ref 1 :: st) = con α b vv :: .ref b :: cV α b st from rfl, hr]
    exact stp target r) g
theorem scV_sI (s : S) (f : Nat) (x : Int32) (ty : FieldType) (f' : Nat) (h : f' ≠ f) : scV ty (sI s f x) f' = scV ty s f' := by
  unfold scV; split <;> simp [gI_sI, gL_sI, h]
theorem scV_sL (s : S) (f : Nat) (x : Int64) (ty : FieldType) (f' : Nat) (h : f' ≠ f) : scV ty (sL s f x) f' = scV ty s f' := by
  unfold scV; split <;> simp [gI_sL, gL_sL, h]
/-- the word that lets the field be written -/
def Wrt (P : PI) (M : Meth) (f : Nat) : Prop := ∃ nm ds ty, (cS P.2)[f]? = some (nm, ds, ty) ∧ (Jvm.Cond.lays (cN P.2) (cN P.2) nm ds ∈ P.1 ∨ (Jvm.Cond.laysFinal (cN P.2) (cN P.2) nm ds ∈ P.1 ∧ (mY M).name = "<init>"))
theorem Wrt.use {f : Nat} {ty : FieldType} (h : Wrt P M f) : ∀ nm ds, (cS P.2)[f]? = some (nm, ds, ty) → Jvm.Cond.lays (cN P.2) (cN P.2) nm ds ∈ P.1 ∨ (Jvm.Cond.laysFinal (cN P.2) (cN P.2) nm ds ∈ P.1 ∧ (mY M).name = "<init>") := by
  obtain ⟨nm, ds, ty', h1, h2⟩ := h
  intro nm' ds' h3
  cases h1.symm.trans h3
  exact h2
theorem go_putI {idx f : Nat} (F : FldS P idx f .int) (hM : (mY M).cls = cN P.2) (hl : Wrt P M f) (hp : 0 < mN M) (d : decode (mB M) pc = .ok (.putfield idx, 3)) (g : Go P M (pc + 3) L st (none, [(k, sI s f x)]) out) : Go P M pc L (.int x :: .ref 1 :: st) (none, [(k, s)]) out :=
  go_putV F hM hl.use hp (fun _ _ => rfl) rfl rfl (by simp [scV, gI_sI]) (fun f' y _ h => scV_sI s f x _ f' h) rfl rfl d g
theorem go_putZ {idx f : Nat} (F : FldS P idx f .boolean) (hM : (mY M).cls = cN P.2) (hl : Wrt P M f) (hp : 0 < mN M) (hz : x = 0 ∨ x = 1) (d : decode (mB M) pc = .ok (.putfield idx, 3)) (g : Go P M (pc + 3) L st (none, [(k, sI s f x)]) out) : Go P M pc L (.int x :: .ref 1 :: st) (none, [(k, s)]) out :=
  go_putV F hM hl.use hp (fun _ _ => rfl) (by rcases hz with rfl | rfl <;> rfl) (by rcases hz with rfl | rfl <;> rfl) (by simp [scV, gI_sI]) (fun f' y _ h => scV_sI s f x _ f' h) rfl rfl d g
theorem go_putJ {idx f : Nat} (F : FldS P idx f .long) (hM : (mY M).cls = cN P.2) (hl : Wrt P M f) (hp : 0 < mN M) (d : decode (mB M) pc = .ok (.putfield idx, 3)) (g : Go P M (pc + 3) L st (none, [(k, sL s f u)]) out) : Go P M pc L (.long u :: .ref 1 :: st) (none, [(k, s)]) out :=
  go_putV F hM hl.use hp (fun _ _ => rfl) rfl rfl (by simp [scV, gL_sL]) (fun f' y _ h => scV_sL s f u _ f' h) rfl rfl d g
/-! ### arrays -/
theorem ix_some {A : Type} {l : List A} {j : Int32} {x : A} (h : ix l j = some x) : ¬ j < 0 ∧ l[j.toNatClampNeg]? = some x := by
  unfold ix at h; split at h
  · cases h
  · rename_i q; exact ⟨q, h⟩
theorem st_some {A : Type} {l l' : List A} {j : Int32} {x : A} (h : Jvm.AM.st l j x = some l') : ¬ j < 0 ∧ j.toNatClampNeg < l.length ∧ l' = l.set j.toNatClampNeg x := by
  unfold Jvm.AM.st at h; split at h
  · cases h
  · rename_i q; split at h
    · rename_i q2; cases h; exact ⟨q, q2, rfl⟩
    · cases h
theorem ar_in {c : Cell} {vs : List Value} {j : Int32} {vv : Value} (e : c.slots = vs.toArray) (h1 : ¬ j < 0) (h2 : vs[j.toNatClampNeg]? = some vv) : ¬ (j < 0 ∨ c.slots.size ≤ j.toNatClampNeg) ∧ c.slots[j.toNatClampNeg]? = some vv := by
  have := get_lt h2
  refine ⟨fun q => ?_, by rw [e]; simpa using h2⟩
  rcases q with q | q
  · exact h1 q
  · rw [e] at q; simp at q; omega
theorem go_iaload {q : Nat} {j : Int32} {nm ds : String} {cap : Nat} (ha : (cA P.2)[q]? = some (nm, ds, .int, cap)) (hq : Nat.blt q k = true) (hx : ix (gA s q) j = some v) (d : decode (mB M) pc = .ok (.iaload, 1)) (g : Go P M (pc + 1) L (.int v :: st) (none, [(k, s)]) out) : Go P M pc L (.int j :: .ref (q + 2) :: st) (none, [(k, s)]) out :=
  go_ch (fun l Z a0 p e R s1 m args below meth c α b n0 h0 uC uS ok hl T locs cells slots I => by
    obtain ⟨cl, A, ec⟩ := (rep_one I.2.1).2.2.2 q _ ha (by simpa [Nat.blt_eq] using hq)
    obtain ⟨h1, h2⟩ := ix_some hx
    obtain ⟨h3, h4⟩ := ar_in ec h1 (vv := .int v) (by simp [arV, h2])
    refine ⟨T, locs, cells, slots, I, fun target r => ?_⟩
    refine I.1.iaload ok.2.2.1 (j := j) (v := .int v) A.1 (State.isArrayOf_alike ok.2.2.2.1.alike A.2.1) A.2.2 h3 h4 (g := mkF m pc (cL α b L) (.int j :: .ref (b + 1 + q) :: cV α b st)) rfl rfl (hb ok.2.2.2.2.2.1 d) _ r |> fun t => ?_
    rw [show cV α b (.int j :: .ref (q + 2) :: st) = .int j :: .ref (b + (q + 1)) :: cV α b st from rfl, show b + (q + 1) = b + 1 + q by omega]
    exact t) g
theorem go_laload {q : Nat} {j : Int32} {nm ds : String} {cap : Nat} (ha : (cA P.2)[q]? = some (nm, ds, .long, cap)) (hq : Nat.blt q k = true) (hx : ix (gB s q) j = some u) (d : decode (mB M) pc = .ok (.laload, 1)) (g : Go P M (pc + 1) L (.long u :: st) (none, [(k, s)]) out) : Go P M pc L (.int j :: .ref (q + 2) :: st) (none, [(k, s)]) out :=
  go_ch (fun l Z a0 p e R s1 m args below meth c α b n0 h0 uC uS ok hl T locs cells slots I => by
    obtain ⟨cl, A, ec⟩ := (rep_one I.2.1).2.2.2 q _ ha (by simpa [Nat.blt_eq] using hq)
    obtain ⟨h1, h2⟩ := ix_some hx
    obtain ⟨h3, h4⟩ := ar_in ec h1 (vv := .long u) (by simp [arV, h2])
    refine ⟨T, locs, cells, slots, I, fun target r => ?_⟩
    refine I.1.laload ok.2.2.1 (j := j) (v := .long u) A.1 (State.isArrayOf_alike ok.2.2.2.1.alike A.2.1) A.2.2 h3 h4 (g := mkF m pc (cL α b L) (.int j :: .ref (b + 1 + q) :: cV α b st)) rfl rfl (hb ok.2.2.2.2.2.1 d) _ r |> fun t => ?_
    rw [show cV α b (.int j :: .ref (q + 2) :: st) = .int j :: .ref (b + (q + 1)) :: cV α b st from rfl, show b + (q + 1) = b + 1 + q by omega]
    exact t) g
theorem go_baload {q : Nat} {j : Int32} {nm ds : String} {ty : FieldType} {cap : Nat} (ha : (cA P.2)[q]? = some (nm, ds, ty, cap)) (hty : ty = .boolean ∨ ty = .byte) (hq : Nat.blt q k = true) (hx : ix (gA s q) j = some v) (d : decode (mB M) pc = .ok (.baload, 1)) (g : Go P M (pc + 1) L (.int v :: st) (none, [(k, s)]) out) : Go P M pc L (.int j :: .ref (q + 2) :: st) (none, [(k, s)]) out :=
  go_ch (fun l Z a0 p e R s1 m args below meth c α b n0 h0 uC uS ok hl T locs cells slots I => by
    obtain ⟨cl, A, ec⟩ := (rep_one I.2.1).2.2.2 q _ ha (by simpa [Nat.blt_eq] using hq)
    obtain ⟨h1, h2⟩ := ix_some hx
    refine ⟨T, locs, cells, slots, I, fun target r => ?_⟩
    rw [show cV α b (.int j :: .ref (q + 2) :: st) = .int j :: .ref (b + (q + 1)) :: cV α b st from rfl, show b + (q + 1) = b + 1 + q by omega]
    rcases hty with rfl | rfl
    · obtain ⟨h3, h4⟩ := ar_in ec h1 (vv := .int v) (by simp [arV, h2])
      exact I.1.baloadBooleans ok.2.2.1 (j := j) (v := .int v) A.1 (State.isArrayOf_alike ok.2.2.2.1.alike A.2.1) A.2.2 h3 h4 (g := mkF m pc (cL α b L) (.int j :: .ref (b + 1 + q) :: cV α b st)) rfl rfl (hb ok.2.2.2.2.2.1 d) _ r
    · obtain ⟨h3, h4⟩ := ar_in ec h1 (vv := .int v) (by simp [arV, h2])
      exact I.1.baloadBytes ok.2.2.1 (j := j) (v := .int v) A.1 (State.isArrayOf_alike ok.2.2.2.1.alike A.2.1) A.2.2 h3 h4 (g := mkF m pc (cL α b L) (.int j :: .ref (b + 1 + q) :: cV α b st)) rfl rfl (hb ok.2.2.2.2.2.1 d) _ r) g
theorem go_alen {q : Nat} {nm ds : String} {ty : FieldType} {cap : Nat} (ha : (cA P.2)[q]? = some (nm, ds, ty, cap)) (hty : ty ≠ .long) (hq : Nat.blt q k = true) (d : decode (mB M) pc = .ok (.arraylength, 1)) (g : Go P M (pc + 1) L (.int (gA s q).length.toInt32 :: st) (none, [(k, s)]) out) : Go P M pc L (.ref (q + 2) :: st) (none, [(k, s)]) out :=
  go_ch (fun l Z a0 p e R s1 m args below meth c α b n0 h0 uC uS ok hl T locs cells slots I => by
    obtain ⟨cl, A, ec⟩ := (rep_one I.2.1).2.2.2 q _ ha (by simpa [Nat.blt_eq] using hq)
    refine ⟨T, locs, cells, slots, I, fun target r => ?_⟩
    have e1 : cl.slots.size = (gA s q).length := by rw [ec]; cases ty <;> simp [arV] at hty ⊢
    rw [show cV α b (.ref (q + 2) :: st) = .ref (b + (q + 1)) :: cV α b st from rfl, show b + (q + 1) = b + 1 + q by omega]
    refine I.1.arraylength ok.2.2.1 (cell := cl) A.1 (State.isArrayOf_alike ok.2.2.2.1.alike A.2.1) (g := mkF m pc (cL α b L) (.ref (b + 1 + q) :: cV α b st)) rfl rfl (hb ok.2.2.2.2.2.1 d) _ ?_
    rw [e1]; exact r) g
theorem go_sload {l0 : List Int32} {os : List (Nat × S)} {j : Int32} (hx : ix l0 j = some v) (d : decode (mB M) pc = .ok (.iaload, 1)) (g : Go P M (pc + 1) L (.int v :: st) (some l0, os) out) : Go P M pc L (.int j :: .ref 0 :: st) (some l0, os) out :=
  go_ch (fun l Z a0 p e R s1 m args below meth c α b n0 h0 uC uS ok hl T locs cells slots I => by
    obtain ⟨cl, A, ec⟩ := (I.2.1.1 l0 rfl).1
    obtain ⟨h1, h2⟩ := ix_some hx
    obtain ⟨h3, h4⟩ := ar_in ec h1 (vv := .int v) (by simp [h2])
    exact ⟨T, locs, cells, slots, I, fun target r => I.1.iaload ok.2.2.1 (j := j) (v := .int v) A.1 (State.isArrayOf_alike ok.2.2.2.1.alike A.2.1) A.2.2 h3 h4 (g := mkF m pc (cL α b L) (cV α b (.int j :: .ref 0 :: st))) rfl rfl (hb ok.2.2.2.2.2.1 d) _ r⟩) g
theorem go_slen {l0 : List Int32} {os : List (Nat × S)} (d : decode (mB M) pc = .ok (.arraylength, 1)) (g : Go P M (pc + 1) L (.int l0.length.toInt32 :: st) (some l0, os) out) : Go P M pc L (.ref 0 :: st) (some l0, os) out :=
  go_ch (fun l Z a0 p e R s1 m args below meth c α b n0 h0 uC uS ok hl T locs cells slots I => by
    obtain ⟨cl, A, ec⟩ := (I.2.1.1 l0 rfl).1
    refine ⟨T, locs, cells, slots, I, fun target r => ?_⟩
    have e1 : cl.slots.size = l0.length := by rw [ec]; simp
    refine I.1.arraylength ok.2.2.1 (cell := cl) A.1 (State.isArrayOf_alike ok.2.2.2.1.alike A.2.1) (g := mkF m pc (cL α b L) (cV α b (.ref 0 :: st))) rfl rfl (hb ok.2.2.2.2.2.1 d) _ ?_
    rw [e1]; exact r) g
/-- a component of an array of the object takes its value -/
theorem rep_store {Z : State} {ci : CI} {h h' : Heap} {b : Nat} {s s' : S} {k q i : Nat} {nm ds : String} {ty : FieldType} {cap : Nat} {vv : Value} (F : Rep1 Z ci h b (k, s)) (hf : (cA ci)[q]? = some (nm, ds, ty, cap)) (hq : q < k)
    (Wt : Wr h h' (b + 1 + q) i vv) (hi : i < (arV ty s q).length) (hv : arV ty s' q = (arV ty s q).set i vv) (ho : ∀ q' x, (cA ci)[q']? = some x → q' ≠ q → arV x.2.2.1 s' q' = arV x.2.2.1 s q') (ha : gI s' = gI s) (hbb : gL s' = gL s) : Rep1 Z ci h' b (k, s') := by
  obtain ⟨f1, f2, f3, f4⟩ := F
  refine ⟨f1.wr Wt, fun f x hx => ?_, fun q' x hx => (f3 q' x hx).other Wt (Or.inl (nq (by omega))), fun q' x hx hq' => ?_⟩
  · have e : scV x.2.2 s' f = scV x.2.2 s f := by unfold scV; split <;> simp [ha, hbb]
    show Fld Z h' b (cN ci) x.1 x.2.1 (scV x.2.2 s' f)
    rw [e]
    exact (f2 f x hx).other Wt (Or.inl (nq (by omega)))
  · by_cases e : q' = q
    · subst e
      cases hf.symm.trans hx
      obtain ⟨c, A, ec⟩ := f4 q' _ hf hq
      refine ⟨_, A.same Wt, ?_⟩
      show (c.setSlot i vv).slots = (arV ty s' q').toArray
      rw [hv]
      simp only [Cell.setSlot, ec]
      simp
    · obtain ⟨c, A, ec⟩ := f4 q' x hx hq'
      refine ⟨c, A.other Wt (nq (by omega)), ec.trans ?_⟩
      rw [ho q' x hx e]
theorem arV_sA (s : S) (q : Nat) (l : List Int32) (ty : FieldType) (q' : Nat) (h : q' ≠ q) : arV ty (sA s q l) q' = arV ty s q' := by
  unfold arV; split <;> simp [gA_sA, gB_sA, h]
theorem arV_sB (s : S) (q : Nat) (l : List Int64) (ty : FieldType) (q' : Nat) (h : q' ≠ q) : arV ty (sB s q l) q' = arV ty s q' := by
  unfold arV; split <;> simp [gA_sB, gB_sB, h]
theorem in_of {c : Cell} {vs : List Value} {j : Int32} (e : c.slots = vs.toArray) (h1 : ¬ j < 0) (h2 : j.toNatClampNeg < vs.length) : ¬ (j < 0 ∨ c.slots.size ≤ j.toNatClampNeg) := fun q => by
  rcases q with q | q
  · exact h1 q
  · rw [e] at q; simp at q; omega
theorem go_iastore {q : Nat} {j : Int32} {nm ds : String} {cap : Nat} {l' : List Int32} (ha : (cA P.2)[q]? = some (nm, ds, .int, cap)) (hq : Nat.blt q k = true) (hp : 0 < mN M) (hx : Jvm.AM.st (gA s q) j x = some l') (d : decode (mB M) pc = .ok (.iastore, 1)) (g : Go P M (pc + 1) L st (none, [(k, sA s q l')]) out) : Go P M pc L (.int x :: .int j :: .ref (q + 2) :: st) (none, [(k, s)]) out :=
  go_ch (fun l Z a0 p e R s1 m args below meth c α b n0 h0 uC uS ok hl T locs cells slots I => by
    have hq' : q < k := by simpa [Nat.blt_eq] using hq
    have hqK := get_lt ha
    obtain ⟨X, Rp, Fm, Nl, hs, u1, u2, c1, c2, hN⟩ := I
    obtain ⟨cl, A, ec⟩ := (rep_one Rp).2.2.2 q _ ha hq'
    obtain ⟨h1, h2, rfl⟩ := st_some hx
    have hin := in_of ec h1 (by simpa [arV] using h2)
    obtain ⟨T', h', X', e', Wt, stp⟩ := stI X ok.2.2.1 ok.2.2.2.1 rfl A (x := x) hin (g := mkF m pc (cL α b L) (.int x :: .int j :: .ref (b + 1 + q) :: cV α b st)) rfl rfl (hb ok.2.2.2.2.2.1 d)
    refine ⟨T', _, cells, slots, ⟨X', rep_mk (by rw [e']; exact rep_store (rep_one Rp) ha hq' Wt (by simpa [arV] using h2) (by simp [arV, gA_sA, List.map_set]) (fun q' y _ h => arV_sA s q _ _ q' h) rfl rfl), by rw [e']; exact Fm.wr Wt (by omega) (by have := Nat.mul_le_mul_left (cK P.2 + 1) hp; simp only [cK] at *; omega), Fr.snoc X' Nl (by have := ok.2.2.2.2.2.2.2.2.2.2.1; omega), by rw [e', Wt.size]; exact hs, u1, u2, c1, c2, hN⟩, fun target r => ?_⟩
    rw [show cV α b (.int x :: .int j :: .ref (q + 2) :: st) = .int x :: .int j :: .ref (b + (q + 1)) :: cV α b st from rfl, show b + (q + 1) = b + 1 + q by omega]
    exact stp target r) g
theorem go_lastore {q : Nat} {j : Int32} {nm ds : String} {cap : Nat} {l' : List Int64} (ha : (cA P.2)[q]? = some (nm, ds, .long, cap)) (hq : Nat.blt q k = true) (hp : 0 < mN M) (hx : Jvm.AM.st (gB s q) j u = some l') (d : decode (mB M) pc = .ok (.lastore, 1)) (g : Go P M (pc + 1) L st (none, [(k, sB s q l')]) out) : Go P M pc L (.long u :: .int j :: .ref (q + 2) :: st) (none, [(k, s)]) out :=
  go_ch (fun l Z a0 p e R s1 m args below meth c α b n0 h0 uC uS ok hl T locs cells slots I => by
    have hq' : q < k := by simpa [Nat.blt_eq] using hq
    have hqK := get_lt ha
    obtain ⟨X, Rp, Fm, Nl, hs, u1, u2, c1, c2, hN⟩ := I
    obtain ⟨cl, A, ec⟩ := (rep_one Rp).2.2.2 q _ ha hq'
    obtain ⟨h1, h2, rfl⟩ := st_some hx
    have hin := in_of ec h1 (by simpa [arV] using h2)
    obtain ⟨T', h', X', e', Wt, stp⟩ := stJ X ok.2.2.1 ok.2.2.2.1 rfl A (x := u) hin (g := mkF m pc (cL α b L) (.long u :: .int j :: .ref (b + 1 + q) :: cV α b st)) rfl rfl (hb ok.2.2.2.2.2.1 d)
    refine ⟨T', _, cells, slots, ⟨X', rep_mk (by rw [e']; exact rep_store (rep_one Rp) ha hq' Wt (by simpa [arV] using h2) (by simp [arV, gB_sB, List.map_set]) (fun q' y _ h => arV_sB s q _ _ q' h) rfl rfl), by rw [e']; exact Fm.wr Wt (by omega) (by have := Nat.mul_le_mul_left (cK P.2 + 1) hp; simp only [cK] at *; omega), Fr.snoc X' Nl (by have := ok.2.2.2.2.2.2.2.2.2.2.1; omega), by rw [e', Wt.size]; exact hs, u1, u2, c1, c2, hN⟩, fun target r => ?_⟩
    rw [show cV α b (.long u :: .int j :: .ref (q + 2) :: st) = .long u :: .int j :: .ref (b + (q + 1)) :: cV α b st from rfl, show b + (q + 1) = b + 1 + q by omega]
    exact stp target r) g
theorem go_bastore {q : Nat} {j : Int32} {nm ds : String} {ty : FieldType} {cap : Nat} {l' : List Int32} (ha : (cA P.2)[q]? = some (nm, ds, ty, cap)) (hty : ty = .boolean ∨ ty = .byte) (hq : Nat.blt q k = true) (hp : 0 < mN M) (hv : v = nar ty x) (hx : Jvm.AM.st (gA s q) j v = some l') (d : decode (mB M) pc = .ok (.bastore, 1)) (g : Go P M (pc + 1) L st (none, [(k, sA s q l')]) out) : Go P M pc L (.int x :: .int j :: .ref (q + 2) :: st) (none, [(k, s)]) out :=
  go_ch (fun l Z a0 p e R s1 m args below meth c α b n0 h0 uC uS ok hl T locs cells slots I => by
    have hq' : q < k := by simpa [Nat.blt_eq] using hq
    have hqK := get_lt ha
    obtain ⟨X, Rp, Fm, Nl, hs, u1, u2, c1, c2, hN⟩ := I
    obtain ⟨cl, A, ec⟩ := (rep_one Rp).2.2.2 q _ ha hq'
    obtain ⟨h1, h2, rfl⟩ := st_some hx
    subst hv
    have hlen : j.toNatClampNeg < (arV ty s q).length := by rcases hty with rfl | rfl <;> simpa [arV] using h2
    have hset : arV ty (sA s q ((gA s q).set j.toNatClampNeg (nar ty x))) q = (arV ty s q).set j.toNatClampNeg (.int (nar ty x)) := by rcases hty with rfl | rfl <;> simp [arV, gA_sA, List.map_set]
    have hin := in_of ec h1 hlen
    obtain ⟨T', h', X', e', Wt, stp⟩ : ∃ T' h', Stand p l e R s1 m args below meth c T' (locs ++ [⟨b + 1 + q, j.toNatClampNeg⟩]) cells slots ∧ T'.heap = h' ∧ Wr T.heap h' (b + 1 + q) j.toNatClampNeg (.int (nar ty x)) ∧ ∀ target, Steps p.tables e below (T'.setTop (mkF m (pc + 1) (cL α b L) (cV α b st))) target → Steps p.tables e below (T.setTop (mkF m pc (cL α b L) (.int x :: .int j :: .ref (b + 1 + q) :: cV α b st))) target := by
      rcases hty with rfl | rfl
      · exact stZ X ok.2.2.1 ok.2.2.2.1 rfl A (x := x) hin (g := mkF m pc (cL α b L) (.int x :: .int j :: .ref (b + 1 + q) :: cV α b st)) rfl rfl (hb ok.2.2.2.2.2.1 d)
      · exact stB X ok.2.2.1 ok.2.2.2.1 rfl A (x := x) hin (g := mkF m pc (cL α b L) (.int x :: .int j :: .ref (b + 1 + q) :: cV α b st)) rfl rfl (hb ok.2.2.2.2.2.1 d)
    refine ⟨T', _, cells, slots, ⟨X', rep_mk (by rw [e']; exact rep_store (rep_one Rp) ha hq' Wt hlen hset (fun q' y _ h => arV_sA s q _ _ q' h) rfl rfl), by rw [e']; exact Fm.wr Wt (by omega) (by have := Nat.mul_le_mul_left (cK P.2 + 1) hp; simp only [cK] at *; omega), Fr.snoc X' Nl (by have := ok.2.2.2.2.2.2.2.2.2.2.1; omega), by rw [e', Wt.size]; exact hs, u1, u2, c1, c2, hN⟩, fun target r => ?_⟩
    rw [show cV α b (.int x :: .int j :: .ref (q + 2) :: st) = .int x :: .int j :: .ref (b + (q + 1)) :: cV α b st from rfl, show b + (q + 1) = b + 1 + q by omega]
    exact stp target r) g
/-! ## 5. A method as a whole; calls -/
def Call (P : PI) (M : Meth) (as : List Value) (w : W) (out : Option Value × W) : Prop :=
  ∀ (l : Launch) (Z : State) (a0 : Array Value) (ws : List Jvm.Cond) (α b n0 : Nat) (h0 : Heap), (∀ d ∈ P.1, d.before a0 Z = true) → Facts Z a0 P.2 → n0 ≤ b → RepW Z P.2 α b w h0 → w.2.length ≤ mN M → (mTop M = true → h0.size = b + usedC w ∧ usedC w = mUC M ∧ usedS P.2 w = mUS M) →
    MetFree l (mY M) (head1 (Jvm.Cond.code (mY M) (mB M) (mL M) (mT M) :: ws) (mR M)) (fun a U => a = (cV α b as).toArray ∧ Z.Warmed39 U.vm ∧ U.heap = h0) (fun _ _ _ _ _ => True)
      (fun _ U o U' => ∃ v L, o = .returned v ∧ (v = out.1.map (con α b) ∧ Fr n0 L ∧ RepW Z P.2 α b out.2 U'.heap ∧ Frm b (b + (cK P.2 + 1) * mN M) h0 U'.heap ∧ ∃ k, U'.heap.size = h0.size + k ∧ k + usedC w = usedC out.2) ∧ FrameEnd U o U' L (mR M).cells (mR M).slots)
theorem call_of_go {as : List Value} (hpl : plainName (mY M).cls = true) (hlen : (entryL as (mL M)).length = mL M) (hret : mT M = none → out.1 = none) (g : Go P M 0 (entryL as (mL M)) [] w out) : Call P M as w out := by
  intro l Z a0 ws α b n0 h0 hw fa hn0 Rp hN htop
  refine MetFree.of_bodySF (plainFor_of_name hpl) hisR ?_
  intro p e s m args below meth c s₁ Bd hml0 hP hK
  obtain ⟨rfl, hZ, hh⟩ := hP
  have X0 : Stand p l e (mR M) s m (cV α b as).toArray below meth c s₁ [] 0 0 := Stand.of_body Bd
  have e0 : s₁.heap = h0 := by rw [← hh, Bd.state]; rfl
  obtain ⟨T', L', c', n', I', fin⟩ := g hlen l Z a0 p e (mR M) s m (cV α b as).toArray below meth c α b n0 h0 (usedC w) (usedS P.2 w) ⟨hw, fa, Bd.exec, hZ, findClass_of_methodNamed Bd.named, Bd.bytes, hml0, Bd.returns, (name_of_methodNamed Bd.named Bd.method).1, rfl, hn0, htop, by rw [hh]⟩ s₁ [] 0 0 ⟨X0, by rw [e0]; exact Rp, by rw [e0]; exact Frm.refl _ _ _, Fr.nil _, by rw [e0]; rfl, by simp, by simp, Nat.zero_le _, Nat.zero_le _, hN⟩
  obtain ⟨X', Rp', Fm', Nl', hs', u1', u2', c1', c2', hN'⟩ := I'
  obtain ⟨fs, hr, hrun, hended, hW, hsame⟩ := X'.leave (v := out.1.map (con α b)) (fun h => by rw [Bd.returns] at h; rw [hret h]; rfl)
  refine ⟨_, _, ?_, hrun, hended, _, _, rfl, ⟨rfl, Nl', Rp', Fm', c', hs', u1'⟩, ⟨_, rfl⟩, hW, hsame.mono c1' c2'⟩
  have q := fin fs hr
  rw [← entry_locals] at q
  exact q
def nr : Value → Bool
  | .ref _ => false
  | _ => true
theorem con_nr {α b : Nat} {v : Value} (h : nr v = true) : con α b v = v := by
  cases v <;> first | rfl | cases h
theorem cV_nr {α b : Nat} {l : List Value} (h : l.all nr = true) : cV α b l = l := by
  have : ∀ x ∈ l, con α b x = x := fun x hx => con_nr (List.all_eq_true.mp h x hx)
  unfold cV
  exact (List.map_congr_left this).trans (List.map_id _)
theorem rep_obj {Z : State} {ci : CI} {α b : Nat} {h : Heap} {i : Nat} (F : RepW Z ci α b w h) (ho : w.2[i]? = some o) : RepW Z ci 0 (b + (cK ci + 1) * i) (none, [o]) h := rep_mk (F.2 i o ho)
theorem rep_back {Z : State} {ci : CI} {α α' b : Nat} {h h' : Heap} {i : Nat} (F : RepW Z ci α b w h) (ho : w.2[i]? = some o) (G : RepW Z ci α' (b + (cK ci + 1) * i) (none, [o']) h') (Fm : Frm (b + (cK ci + 1) * i) (b + (cK ci + 1) * i + (cK ci + 1) * 1) h h') : RepW Z ci α b (w.1, w.2.set i o') h' := by
  refine ⟨fun l hl => ⟨((F.1 l hl).1).frm fun c q => Fm _ _ q (Or.inl ?_), (F.1 l hl).2⟩, fun j oj hj => ?_⟩
  · have := (F.1 l hl).2; exact Nat.lt_of_lt_of_le this (Nat.le_add_right _ _)
  · by_cases e : j = i
    · subst e
      rw [show (w.1, w.2.set j o').2 = w.2.set j o' from rfl, List.getElem?_set_self (get_lt ho)] at hj
      cases hj
      exact rep_one G
    · rw [show (w.1, w.2.set i o').2 = w.2.set i o' from rfl, List.getElem?_set_ne (Ne.symm e)] at hj
      refine (F.2 j oj hj).frm fun x c q1 q2 q3 => Fm _ _ q3 ?_
      rcases Nat.lt_or_gt_of_ne e with q | q
      · have := Nat.mul_le_mul_left (cK ci + 1) q
        rw [Nat.mul_succ] at this; omega
      · have := Nat.mul_le_mul_left (cK ci + 1) q
        rw [Nat.mul_succ] at this; omega
theorem sum_set {A : Type} (f : A → Nat) {a a' : A} : ∀ {l : List A} {i : Nat}, l[i]? = some a → ((l.set i a').map f).sum + f a = (l.map f).sum + f a'
  | [], i, h => by simp at h
  | b :: r, 0, h => by simp at h; subst h; simp; omega
  | b :: r, i + 1, h => by
    simp only [List.getElem?_cons_succ] at h
    have := sum_set f (a' := a') h
    simp only [List.set_cons_succ, List.map_cons, List.sum_cons]; omega
def CQ (ci : CI) (Z : State) (α b n0 : Nat) (h0 : Heap) (N : Nat) (w : W) (out : Option Value × W) (v : Option Value) (hp : Heap) (L : List Loc) : Prop := v = out.1.map (con α b) ∧ Fr n0 L ∧ RepW Z ci α b out.2 hp ∧ Frm b (b + (cK ci + 1) * N) h0 hp ∧ ∃ k, hp.size = h0.size + k ∧ k + usedC w = usedC out.2
/-- what a callee that makes nothing must fit into -/
def Small (M M' : Meth) (rest : List Value) : Prop := (mR M').cells = 0 ∧ (mR M').slots = 0 ∧ mTop M' = false ∧ Nat.ble ((mR M').frames + 1) (mR M).frames = true ∧ Nat.ble ((rest.map fun v => v.category).sum + (mL M' + 11) + (mR M').locals) (mR M).locals = true
theorem ret_st {α b b' : Nat} {r : Option Value} {rest : List Value} (hr : r.all nr = true) : (r.map (con 0 b')).toList ++ cV α b rest = cV α b (r.toList ++ rest) := by
  cases r with
  | none => rfl
  | some v => simp only [Option.map_some, Option.toList_some, cV, List.cons_append, List.nil_append, List.map_cons]; rw [con_nr (show nr v = true from hr), con_nr (show nr v = true from hr)]
theorem inv_obj {l : Launch} {Z : State} {p : Program} {e : Env} {R : Room} {s : State} {m : MethodId} {args : Array Value} {below : List Frame} {meth : Method} {c : Code} {α b n0 : Nat} {h0 : Heap} {uC uS : Nat} {T T2 : State} {locs L2 : List Loc} {cells slots rc rs i : Nat}
    (I : Inv P M l Z p e R s m args below meth c α b n0 h0 uC uS w T locs cells slots) (ho : w.2[i]? = some o) (X2 : Stand p l e R s m args below meth c T2 (locs ++ L2) (cells + rc) (slots + rs))
    (N2 : Fr n0 L2) (R2 : RepW Z P.2 0 (b + (cK P.2 + 1) * i) (none, [o']) T2.heap) (F2 : Frm (b + (cK P.2 + 1) * i) (b + (cK P.2 + 1) * i + (cK P.2 + 1) * 1) T.heap T2.heap) (k2 : ∃ k, T2.heap.size = T.heap.size + k ∧ k + usedC (none, [o]) = usedC (none, [o']))
    (hC : o'.1 = o.1 + rc) (hS : usedS P.2 (none, [o']) = usedS P.2 (none, [o]) + rs) (q1 : cells + rc ≤ R.cells) (q2 : slots + rs ≤ R.slots) : Inv P M l Z p e R s m args below meth c α b n0 h0 uC uS (w.1, w.2.set i o') T2 (locs ++ L2) (cells + rc) (slots + rs) := by
  obtain ⟨X, Rp, Fm, Nl, hs, u1, u2, c1, c2, hN⟩ := I
  obtain ⟨k, k1, k3⟩ := k2
  have hi := get_lt ho
  have a1 := sum_set (fun o : Nat × S => 1 + o.1) (a' := o') ho
  have a2 := sum_set (fun o : Nat × S => cF P.2 + (((cA P.2).take o.1).map fun x => x.2.2.2).sum) (a' := o') ho
  have hle : (cK P.2 + 1) * (i + 1) ≤ (cK P.2 + 1) * mN M := Nat.mul_le_mul_left _ (by omega)
  rw [Nat.mul_succ] at hle
  refine ⟨X2, rep_back Rp ho R2 F2, Fm.trans (F2.wide (Nat.le_add_right _ _) (by omega)), Nl.app N2, ?_, ?_, ?_, q1, q2, by simpa using hN⟩
  · simp only [usedC, List.map_cons, List.map_nil, List.sum_cons, List.sum_nil] at k3; omega
  · simp only [usedC] at u1 ⊢; omega
  · simp only [usedS, List.map_cons, List.map_nil, List.sum_cons, List.sum_nil] at u2 hS ⊢; omega
def LinkV (P : PI) (own : String) (idx : Nat) (M' : Meth) : Prop := Jvm.Cond.methodLink own idx (mY M') ∈ P.1 ∧ Jvm.Cond.declares (mY M') ∈ P.1 ∧ Jvm.Cond.selects (cN P.2) (mY M') (mY M') ∈ P.1 ∧ Jvm.Cond.instanceMethod (mY M') ∈ P.1 ∧ Jvm.Cond.code (mY M') (mB M') (mL M') (mT M') ∈ P.1 ∧ (mY M').cls = cN P.2 ∧ mN M' = 1
def LinkP (P : PI) (own : String) (idx : Nat) (M' : Meth) : Prop := Jvm.Cond.methodLink own idx (mY M') ∈ P.1 ∧ Jvm.Cond.instanceMethod (mY M') ∈ P.1 ∧ Jvm.Cond.privateMethod (mY M') ∈ P.1 ∧ Jvm.Cond.code (mY M') (mB M') (mL M') (mT M') ∈ P.1 ∧ (mY M').cls = cN P.2 ∧ mN M' = 1
def LinkS (P : PI) (own : String) (idx : Nat) (M' : Meth) : Prop := Jvm.Cond.methodLink own idx (mY M') ∈ P.1 ∧ Jvm.Cond.static (mY M') ∈ P.1 ∧ Jvm.Cond.initialized (mY M').cls ∈ P.1 ∧ Jvm.Cond.code (mY M') (mB M') (mL M') (mT M') ∈ P.1 ∧ ((mY M').cls ≠ "java/lang/invoke/MethodHandle" ∧ (mY M').cls ≠ "java/lang/invoke/VarHandle")
def LinkI (P : PI) (own : String) (idx : Nat) (M' : Meth) : Prop := Jvm.Cond.methodLink own idx (mY M') ∈ P.1 ∧ Jvm.Cond.instanceMethod (mY M') ∈ P.1 ∧ Jvm.Cond.code (mY M') (mB M') (mL M') (mT M') ∈ P.1 ∧ (mY M').cls = cN P.2 ∧ mN M' = 1 ∧ mT M' = none ∧ (mY M').name = "<init>"
variable {M' : Meth} {i idx id : Nat} {as rest : List Value} {rv : Option Value} {ps : List FieldType} {rt : Option FieldType}
theorem cV_call {α b : Nat} {jd : Nat} (hnr : as.all nr = true) (hst : st = as.reverse ++ .ref (jd + 1) :: rest) : cV α b st = as.reverse ++ .ref (b + jd) :: cV α b rest := by
  subst hst
  have h1 : cV α b as.reverse = as.reverse := cV_nr (by rw [List.all_reverse]; exact hnr)
  unfold cV at h1 ⊢
  rw [List.map_append, h1]; rfl
theorem go_virt (lk : LinkV P (mY M).cls idx M') (pd : parseMethodDescriptor (mY M').desc = some ⟨ps, rt⟩) (hn : as.length = ps.length) (hid : id = (cK P.2 + 1) * i + 1) (hst : st = as.reverse ++ .ref id :: rest) (hnr : as.all nr = true) (hrr : rv.all nr = true) (ho : w.2[i]? = some o) (hw' : w' = (w.1, w.2.set i o')) (hC : o'.1 = o.1) (sm : Small M M' rest)
    (d : decode (mB M) pc = .ok (.invokevirtual idx, 3)) (cl : Call P M' (.ref 1 :: as) (none, [o]) (rv, (none, [o']))) (g : Go P M (pc + 3) L (rv.toList ++ rest) w' out) : Go P M pc L st w out :=
  go_ch (fun l Z a0 p e R s1 m args below meth c α b n0 h0 uC uS ok hl T locs cells slots I => by
    subst hw' hid
    obtain ⟨hw, fa, hx, hZ, hown, hc, hml, hret, hnm, hR, hn0, htop, hsz⟩ := ok
    obtain ⟨k1, k2, k3, k4, k5, k6, k7⟩ := lk
    obtain ⟨z1, z2, z3, z4, z5⟩ := sm
    have C := cl l Z a0 [] 0 (b + (cK P.2 + 1) * i) n0 T.heap hw fa (Nat.le_trans hn0 (Nat.le_add_right _ _)) (rep_obj I.2.1 ho) (by rw [k7]; exact Nat.le_refl _) (fun q => by rw [z3] at q; cases q)
    have Bk := backOf (Q := CQ P.2 Z 0 (b + (cK P.2 + 1) * i) n0 T.heap (mN M') (none, [o]) (rv, (none, [o']))) (R := R) (p := p) (e := e) (below := below) (s := s1) (args := args) (len := 3) (W := (rest.map fun v => v.category).sum) C hZ (hw _ k5) (by rw [k6]; exact fa.2.1) (by rw [hR]; exact Nat.le_of_ble_eq_true z4) (by rw [hR]; exact Nat.le_of_ble_eq_true z5)
    have E := (I.2.1.2 i o ho).1
    obtain ⟨cB, kB, q1, q2, q3⟩ := isOf (T := T) hZ rfl E
    obtain ⟨v, vm1, ⟨T2, Lx, kx, nx⟩, -, X2, ⟨L2, hQ, l2, y2, n2⟩, stp⟩ := I.1.virtualBack hx (y := mY M') (z := mY M') hown (mvT hZ (hw _ k1)) (mvT hZ (hw _ k2)) (notFace_of_selects (args := #[]) (mvT hZ (hw _ k3))) (mvT hZ (hw _ k3)) (mvT hZ (hw _ k4)) (by rw [k6]; exact fa.2.2.2.2.2.2) Bk q1 q3 (g := mkF m pc (cL α b L) (cV α b st)) rfl (by show (cL α b L).size = c.maxLocals; rw [cL_size, hl, hml]) (Steps.refl _) (argsL := as) (rest := cV α b rest) (lenOf pd hn) (cV_call hnr hst)
      (by show 2 * 0 + _ ≤ _; rw [cV_sum]; exact Nat.le_of_eq (Nat.zero_add _)) (hb hc d) (fun _ _ => ⟨by rw [show (cV 0 (b + (cK P.2 + 1) * i) (.ref 1 :: as)) = .ref (b + (cK P.2 + 1) * i) :: cV 0 (b + (cK P.2 + 1) * i) as from rfl, cV_nr hnr], rfl, by rw [z1]; exact I.2.2.2.2.2.2.2.1, by rw [z2]; exact I.2.2.2.2.2.2.2.2.1⟩)
    dsimp only [Pt.U, Pt.locs, Pt.cells, Pt.slots] at X2 l2 y2 n2 stp hQ
    subst l2 y2 n2
    obtain ⟨rfl, N2, R2, F2, k8⟩ := hQ
    rw [k7] at F2
    refine ⟨T2, _, _, _, inv_obj I ho X2 N2 R2 F2 k8 (by rw [z1]; exact hC) (by rw [z2]; simp [usedS, hC]) (by rw [z1]; exact I.2.2.2.2.2.2.2.1) (by rw [z2]; exact I.2.2.2.2.2.2.2.2.1), fun target r => stp.trans ?_⟩
    rw [← ret_st (b' := b + (cK P.2 + 1) * i) hrr] at r
    exact r) g
theorem go_priv (lk : LinkP P (mY M).cls idx M') (pd : parseMethodDescriptor (mY M').desc = some ⟨ps, rt⟩) (hn : as.length = ps.length) (hid : id = (cK P.2 + 1) * i + 1) (hst : st = as.reverse ++ .ref id :: rest) (hnr : as.all nr = true) (hrr : rv.all nr = true) (ho : w.2[i]? = some o) (hw' : w' = (w.1, w.2.set i o')) (hC : o'.1 = o.1) (sm : Small M M' rest)
    (d : decode (mB M) pc = .ok (.invokevirtual idx, 3)) (cl : Call P M' (.ref 1 :: as) (none, [o]) (rv, (none, [o']))) (g : Go P M (pc + 3) L (rv.toList ++ rest) w' out) : Go P M pc L st w out :=
  go_ch (fun l Z a0 p e R s1 m args below meth c α b n0 h0 uC uS ok hl T locs cells slots I => by
    subst hw' hid
    obtain ⟨hw, fa, hx, hZ, hown, hc, hml, hret, hnm, hR, hn0, htop, hsz⟩ := ok
    obtain ⟨k1, k4, k3, k5, k6, k7⟩ := lk
    obtain ⟨z1, z2, z3, z4, z5⟩ := sm
    have C := cl l Z a0 [] 0 (b + (cK P.2 + 1) * i) n0 T.heap hw fa (Nat.le_trans hn0 (Nat.le_add_right _ _)) (rep_obj I.2.1 ho) (by rw [k7]; exact Nat.le_refl _) (fun q => by rw [z3] at q; cases q)
    have Bk := backOf (Q := CQ P.2 Z 0 (b + (cK P.2 + 1) * i) n0 T.heap (mN M') (none, [o]) (rv, (none, [o']))) (R := R) (p := p) (e := e) (below := below) (s := s1) (args := args) (len := 3) (W := (rest.map fun v => v.category).sum) C hZ (hw _ k5) (by rw [k6]; exact fa.2.1) (by rw [hR]; exact Nat.le_of_ble_eq_true z4) (by rw [hR]; exact Nat.le_of_ble_eq_true z5)
    obtain ⟨cell, q1, q2⟩ := (I.2.1.2 i o ho).1.cell
    have hy : (mY M').cls ≠ "java/lang/invoke/MethodHandle" ∧ (mY M').cls ≠ "java/lang/invoke/VarHandle" := by rw [k6]; exact fa.2.2.2.2.2.2
    have hpriv : s1.PrivateAt (mY M') := Cond.privateMethod_at (mvP hZ (hw _ k3) (args := #[]))
    have hin : (Jvm.Cond.instanceMethod (mY M')).before args s1 = true := mvT hZ (hw _ k4)
    obtain ⟨c2, kk, i1, i2, i3, i4, -⟩ := Cond.instantiable_spec fa.1
    obtain ⟨k', j1, j2⟩ := hZ.alike.2.2 _ _ i2
    have hsel : (Jvm.Cond.selects (mY M').cls (mY M') (mY M')).before args s1 = true := selects_self_of_private (c := c2) (k := k') (by rw [k6, hZ.alike.findClass]; exact i1) j1 (by
      have : kk.isInterface = false := by simp only [Bool.or_eq_false_iff] at i4; exact i4.1
      rw [j2]; exact this) hpriv hin hy
    obtain ⟨v, vm1, ⟨T2, Lx, kx, nx⟩, -, X2, ⟨L2, hQ, l2, y2, n2⟩, stp⟩ := I.1.privateBack hx (y := mY M') hown (mvT hZ (hw _ k1)) hin hsel hpriv (mvT hZ (hw _ k5)) hy Bk (g := mkF m pc (cL α b L) (cV α b st)) rfl (by show (cL α b L).size = c.maxLocals; rw [cL_size, hl, hml]) (Steps.refl _) (a := b + (cK P.2 + 1) * i) q1 q2 (argsL := as) (rest := cV α b rest) (lenOf pd hn) (cV_call hnr hst)
      (by show 2 * 0 + _ ≤ _; rw [cV_sum]; exact Nat.le_of_eq (Nat.zero_add _)) (hb hc d) (fun _ _ => ⟨by rw [show (cV 0 (b + (cK P.2 + 1) * i) (.ref 1 :: as)) = .ref (b + (cK P.2 + 1) * i) :: cV 0 (b + (cK P.2 + 1) * i) as from rfl, cV_nr hnr], rfl, by rw [z1]; exact I.2.2.2.2.2.2.2.1, by rw [z2]; exact I.2.2.2.2.2.2.2.2.1⟩)
    dsimp only [Pt.U, Pt.locs, Pt.cells, Pt.slots] at X2 l2 y2 n2 stp hQ
    subst l2 y2 n2
    obtain ⟨rfl, N2, R2, F2, k8⟩ := hQ
    rw [k7] at F2
    refine ⟨T2, _, _, _, inv_obj I ho X2 N2 R2 F2 k8 (by rw [z1]; exact hC) (by rw [z2]; simp [usedS, hC]) (by rw [z1]; exact I.2.2.2.2.2.2.2.1) (by rw [z2]; exact I.2.2.2.2.2.2.2.2.1), fun target r => stp.trans ?_⟩
    rw [← ret_st (b' := b + (cK P.2 + 1) * i) hrr] at r
    exact r) g
theorem go_stat (lk : LinkS P (mY M).cls idx M') (pd : parseMethodDescriptor (mY M').desc = some ⟨ps, rt⟩) (hn : as.length = ps.length) (hst : st = as.reverse ++ rest) (hN' : mN M' ≤ mN M ∧ w.2.length ≤ mN M') (hu : usedC w' = usedC w ∧ usedS P.2 w' = usedS P.2 w ∧ w'.2.length = w.2.length) (sm : Small M M' rest)
    (d : decode (mB M) pc = .ok (.invokestatic idx, 3)) (cl : Call P M' as w (rv, w')) (g : Go P M (pc + 3) L (rv.toList ++ rest) w' out) : Go P M pc L st w out :=
  go_ch (fun l Z a0 p e R s1 m args below meth c α b n0 h0 uC uS ok hl T locs cells slots I => by
    obtain ⟨hw, fa, hx, hZ, hown, hc, hml, hret, hnm, hR, hn0, htop, hsz⟩ := ok
    obtain ⟨k1, k2, k3, k5, k6⟩ := lk
    obtain ⟨z1, z2, z3, z4, z5⟩ := sm
    have C := cl l Z a0 [] α b n0 T.heap hw fa hn0 I.2.1 hN'.2 (fun q => by rw [z3] at q; cases q)
    have Bk := backOf (Q := CQ P.2 Z α b n0 T.heap (mN M') w (rv, w')) (R := R) (p := p) (e := e) (below := below) (s := s1) (args := args) (len := 3) (W := (rest.map fun v => v.category).sum) C hZ (hw _ k5) (hw _ k3) (by rw [hR]; exact Nat.le_of_ble_eq_true z4) (by rw [hR]; exact Nat.le_of_ble_eq_true z5)
    obtain ⟨v, vm1, ⟨T2, Lx, kx, nx⟩, -, X2, ⟨L2, hQ, l2, y2, n2⟩, stp⟩ := Jvm.LawKit.callS I.1 hx (y := mY M') hown (mvT hZ (hw _ k1)) (mvT hZ (hw _ k2)) (mvT hZ (hw _ k3)) (mvT hZ (hw _ k5)) k6 Bk (g := mkF m pc (cL α b L) (cV α b st)) rfl (by show (cL α b L).size = c.maxLocals; rw [cL_size, hl, hml]) (argsL := cV α b as) (rest := cV α b rest) (lenOf pd (by simpa [cV] using hn)) (by subst hst; simp [cV])
      (by show 2 * 0 + _ ≤ _; rw [cV_sum]; exact Nat.le_of_eq (Nat.zero_add _)) (hb hc d) (fun _ _ => ⟨rfl, rfl, by rw [z1]; exact I.2.2.2.2.2.2.2.1, by rw [z2]; exact I.2.2.2.2.2.2.2.2.1⟩)
    dsimp only [Pt.U, Pt.locs, Pt.cells, Pt.slots] at X2 l2 y2 n2 stp hQ
    subst l2 y2 n2
    obtain ⟨rfl, N2, R2, F2, k, k8, k9⟩ := hQ
    obtain ⟨X, Rp, Fm, Nl, hs, u1, u2, c1, c2, hN⟩ := I
    rw [z1, z2] at X2
    refine ⟨T2, _, _, _, ⟨X2, R2, Fm.trans (F2.wide (Nat.le_refl _) (by have := Nat.mul_le_mul_left (cK P.2 + 1) hN'.1; omega)), Nl.app N2, ?_, ?_, ?_, c1, c2, by rw [hu.2.2]; exact hN⟩, fun target r => stp target ?_⟩
    · rw [k8]; have := hu.1; simp only at k9; omega
    · rw [hu.1]; exact u1
    · rw [hu.2.1]; exact u2
    · have e1 : cV α b (rv.toList ++ rest) = (rv.map (con α b)).toList ++ cV α b rest := by cases rv <;> rfl
      rw [e1] at r; exact r) g
/-- a constructor, by its contract -/
theorem go_init {k2 : Nat} {s2 : S} (lk : LinkI P (mY M).cls idx M') (pd : parseMethodDescriptor (mY M').desc = some ⟨ps, rt⟩) (hn : as.length = ps.length) (hid : id = (cK P.2 + 1) * i + 1) (hst : st = as.reverse ++ .ref id :: rest) (hnr : as.all nr = true) (ho : w.2[i]? = some (k, s)) (hw' : w' = (w.1, w.2.set i (k2, s2)))
    (hC : k2 = k + (mR M').cells) (hS : usedS P.2 (none, [(k2, s2)]) = usedS P.2 (none, [(k, s)]) + (mR M').slots) (htM : mTop M = true) (hR1 : Nat.ble (usedC w + (mR M').cells) ((mR M).cells + mUC M) = true) (hR2 : Nat.ble (usedS P.2 w + (mR M').slots) ((mR M).slots + mUS M) = true)
    (hq : usedC w = (cK P.2 + 1) * i + usedC (none, [(k, s)]) ∧ usedC (none, [(k, s)]) = mUC M' ∧ usedS P.2 (none, [(k, s)]) = mUS M') (sm : Nat.ble ((mR M').frames + 1) (mR M).frames = true ∧ Nat.ble ((rest.map fun v => v.category).sum + (mL M' + 11) + (mR M').locals) (mR M).locals = true)
    (d : decode (mB M) pc = .ok (.invokespecial idx, 3)) (cl : Call P M' (.ref 1 :: as) (none, [(k, s)]) (none, (none, [(k2, s2)]))) (g : Go P M (pc + 3) L rest w' out) : Go P M pc L st w out :=
  go_ch (fun l Z a0 p e R s1 m args below meth c α b n0 h0 uC uS ok hl T locs cells slots I => by
    subst hw' hid
    obtain ⟨hw, fa, hx, hZ, hown, hc, hml, hret, hnm, hR, hn0, htop, hsz⟩ := ok
    obtain ⟨k1, k4, k5, k6, k7, k9, k10⟩ := lk
    obtain ⟨z4, z5⟩ := sm
    obtain ⟨t1, t2, t3⟩ := htop htM
    have Ic := I.2.2.2.2.2.1
    have Is := I.2.2.2.2.2.2.1
    have b1 : cells + (mR M').cells ≤ R.cells := by have := Nat.le_of_ble_eq_true hR1; rw [hR]; omega
    have b2 : slots + (mR M').slots ≤ R.slots := by have := Nat.le_of_ble_eq_true hR2; rw [hR]; omega
    have C := cl l Z a0 [] 0 (b + (cK P.2 + 1) * i) n0 T.heap hw fa (Nat.le_trans hn0 (Nat.le_add_right _ _)) (rep_obj I.2.1 ho) (by rw [k7]; exact Nat.le_refl _) (fun _ => ⟨by rw [I.2.2.2.2.1]; have := hq.1; omega, hq.2.1, hq.2.2⟩)
    have Bk := backOf (Q := CQ P.2 Z 0 (b + (cK P.2 + 1) * i) n0 T.heap (mN M') (none, [(k, s)]) (none, (none, [(k2, s2)]))) (R := R) (p := p) (e := e) (below := below) (s := s1) (args := args) (len := 3) (W := (rest.map fun v => v.category).sum) C hZ (hw _ k5) (by rw [k6]; exact fa.2.1) (by rw [hR]; exact Nat.le_of_ble_eq_true z4) (by rw [hR]; exact Nat.le_of_ble_eq_true z5)
    have hy : (mY M').cls ≠ "java/lang/invoke/MethodHandle" ∧ (mY M').cls ≠ "java/lang/invoke/VarHandle" := by rw [k6]; exact fa.2.2.2.2.2.2
    have hcd := hw _ k5
    rw [k9] at hcd
    obtain ⟨v, vm1, ⟨T2, Lx, kx, nx⟩, -, X2, ⟨L2, hQ, l2, y2, n2⟩, stp⟩ := I.1.specialBack hx (y := mY M') k10 hown (mvT hZ (hw _ k1)) (mvT hZ (hw _ k4)) (mvT hZ hcd) hy Bk (g := mkF m pc (cL α b L) (cV α b st)) rfl (by show (cL α b L).size = c.maxLocals; rw [cL_size, hl, hml]) (Steps.refl _) (a := b + (cK P.2 + 1) * i) (argsL := as) (rest := cV α b rest) (lenOf pd hn) (cV_call hnr hst)
      (by show 2 * 0 + _ ≤ _; rw [cV_sum]; exact Nat.le_of_eq (Nat.zero_add _)) (hb hc d) (fun _ _ => ⟨by rw [show (cV 0 (b + (cK P.2 + 1) * i) (.ref 1 :: as)) = .ref (b + (cK P.2 + 1) * i) :: cV 0 (b + (cK P.2 + 1) * i) as from rfl, cV_nr hnr], rfl, b1, b2⟩)
    dsimp only [Pt.U, Pt.locs, Pt.cells, Pt.slots] at X2 l2 y2 n2 stp hQ
    subst l2 y2 n2
    obtain ⟨rfl, N2, R2, F2, k8⟩ := hQ
    rw [k7] at F2
    exact ⟨T2, _, _, _, inv_obj I ho X2 N2 R2 F2 k8 hC hS b1 b2, fun target r => stp.trans r⟩) g
/-- Object's constructor -/
theorem go_objinit {a : Nat} (k1 : Jvm.Cond.methodLink (mY M).cls idx Lib.objectInit ∈ P.1) (k2 : Jvm.Cond.instanceMethod Lib.objectInit ∈ P.1) (k3 : Jvm.Cond.code Lib.objectInit ⟨#[0xb1]⟩ 1 none ∈ P.1) (z4 : Nat.ble 1 (mR M).frames = true) (z5 : Nat.ble ((rest.map fun v => v.category).sum + 12) (mR M).locals = true)
    (d : decode (mB M) pc = .ok (.invokespecial idx, 3)) (g : Go P M (pc + 3) L rest w out) : Go P M pc L (.ref (a + 1) :: rest) w out :=
  go_ch (fun l Z a0 p e R s1 m args below meth c α b n0 h0 uC uS ok hl T locs cells slots I => by
    obtain ⟨hw, fa, hx, hZ, hown, hc, hml, hret, hnm, hR, hn0, htop, hsz⟩ := ok
    obtain ⟨X, Rp, Fm, Nl, hs, u1, u2, c1, c2, hN⟩ := I
    obtain ⟨T', X', e', stp⟩ := initO X hx hZ hown (hw _ k1) (hw _ k2) (hw _ k3) rfl (g := mkF m pc (cL α b L) (cV α b (.ref (a + 1) :: rest))) rfl (by show (cL α b L).size = c.maxLocals; rw [cL_size, hl, hml]) (a := b + a) (rest := cV α b rest) rfl (hb hc d) (by rw [hR]; exact Nat.le_of_ble_eq_true z4) (W := (rest.map fun v => v.category).sum) (by show 2 * 0 + _ ≤ _; rw [cV_sum]; exact Nat.le_of_eq (Nat.zero_add _)) (by rw [hR]; exact Nat.le_of_ble_eq_true z5)
    exact ⟨T', locs, cells, slots, ⟨X', by rw [e']; exact Rp, by rw [e']; exact Fm, Nl, by rw [e']; exact hs, u1, u2, c1, c2, hN⟩, fun target r => stp target r⟩) g
/-- a new object of the class -/
theorem go_new {n : Nat} (k1 : Jvm.Cond.classLink (mY M).cls idx (cN P.2) ∈ P.1) (htM : mTop M = true) (hn : w.2.length = n) (hq : usedC w = (cK P.2 + 1) * n) (hw' : w' = (w.1, w.2 ++ [(0, s0)])) (hN' : Nat.blt n (mN M) = true) (hR1 : Nat.ble (usedC w + 1) ((mR M).cells + mUC M) = true) (hR2 : Nat.ble (usedS P.2 w + cF P.2) ((mR M).slots + mUS M) = true)
    (d : decode (mB M) pc = .ok (.new idx, 3)) (hid : id = (cK P.2 + 1) * n + 1) (g : Go P M (pc + 3) L (.ref id :: st) w' out) : Go P M pc L st w out :=
  go_ch (fun l Z a0 p e R s1 m args below meth c α b n0 h0 uC uS ok hl T locs cells slots I => by
    subst hw' hid
    obtain ⟨hw, fa, hx, hZ, hown, hc, hml, hret, hnm, hR, hn0, htop, hsz⟩ := ok
    obtain ⟨X, Rp, Fm, Nl, hs, u1, u2, c1, c2, hN⟩ := I
    obtain ⟨t1, t2, t3⟩ := htop htM
    have b1 : cells + 1 ≤ R.cells := by have := Nat.le_of_ble_eq_true hR1; rw [hR]; omega
    have b2 : slots + cF P.2 ≤ R.slots := by have := Nat.le_of_ble_eq_true hR2; rw [hR]; omega
    obtain ⟨T2, h2, X2, e2, E2, A2, D2, -, st2⟩ := newO X hx hZ hown (hw _ k1) fa.1 fa.2.1 rfl (g := mkF m pc (cL α b L) (cV α b st)) rfl (hb hc d) b1 b2
    have ha : T.heap.size = b + (cK P.2 + 1) * n := by rw [hs, t1]; omega
    rw [ha] at A2 D2 st2
    have sz2 : T2.heap.size = T.heap.size + 1 := by
      have q1 := X2.heapSize
      have q2 : b + (cK P.2 + 1) * n < h2.size := A2.lt
      rw [e2] at q1 ⊢
      omega
    refine ⟨T2, locs, _, _, ⟨X2, ?_, by rw [e2]; exact Fm.ext E2, Nl, by rw [sz2, hs]; omega, ?_, ?_, b1, b2, ?_⟩, fun target r => st2 target ?_⟩
    · rw [e2]
      refine ⟨fun l1 h1 => (Rp.ext E2).1 l1 h1, fun j oj hj => ?_⟩
      by_cases q : j < w.2.length
      · rw [show (w.1, w.2 ++ [(0, s0)]).2 = w.2 ++ [(0, s0)] from rfl, List.getElem?_append_left q] at hj
        exact (Rp.ext E2).2 j oj hj
      · have hj' := get_lt hj
        simp at hj'
        have ej : j = n := by omega
        subst ej
        rw [show (w.1, w.2 ++ [(0, s0)]).2 = w.2 ++ [(0, s0)] from rfl, List.getElem?_append_right (by omega)] at hj
        rw [hn] at hj; simp at hj; subst hj
        refine ⟨A2, fun f x hx => ?_, fun q x hx => ?_, fun q x _ hq => absurd hq (Nat.not_lt_zero _)⟩
        · have := D2 (fa.2.2.1 f x hx).1 (fa.2.2.1 f x hx).2
          rw [fa.2.2.2.2.2.1 f x hx] at this
          exact this
        · have := D2 (fa.2.2.2.1 q x hx).1 (fa.2.2.2.1 q x hx).2
          rw [if_neg (Nat.not_lt_zero _)]
          exact this
    · simp [usedC] at u1 ⊢; omega
    · simp [usedS] at u2 ⊢; omega
    · simp; have : n < mN M := by simpa [Nat.blt_eq] using hN'
      omega
    · exact r) g
/-- a new array, laid into its field at once -/
theorem rep_new {Z : State} {a0 : Array Value} {ci : CI} {h h1 h2 : Heap} {b : Nat} {s s' : S} {k : Nat} {nm ds : String} {ty : FieldType} {cap : Nat} {cl : Cell} (fa : Facts Z a0 ci) (F : Rep1 Z ci h b (k, s)) (hf : (cA ci)[k]? = some (nm, ds, ty, cap)) (E : Ext h h1) (A : Arr Z h1 (b + 1 + k) cl ty) (ec : cl.slots = (arV ty s' k).toArray)
    (Wt : Wr h1 h2 b (Jvm.RoadKit.slotOf Z (cN ci) nm ds) (.ref (b + 1 + k))) (ho : ∀ q' x, (cA ci)[q']? = some x → q' ≠ k → arV x.2.2.1 s' q' = arV x.2.2.1 s q') (ha : gI s' = gI s) (hbb : gL s' = gL s) : Rep1 Z ci h2 b (k + 1, s') := by
  obtain ⟨f1, f2, f3, f4⟩ := F
  obtain ⟨-, -, g1, g2, g3, -⟩ := fa
  have lt := get_lt hf
  refine ⟨(f1.ext E).wr Wt, fun f x hx => ?_, fun q x hx => ?_, fun q x hx hq => ?_⟩
  · have e : scV x.2.2 s' f = scV x.2.2 s f := by unfold scV; split <;> simp [ha, hbb]
    have lt' := get_lt hx
    show Fld Z h2 b (cN ci) x.1 x.2.1 (scV x.2.2 s' f)
    rw [e]
    refine ((f2 f x hx).ext E).other Wt (Or.inr ?_)
    refine slot_ne (g1 f x hx).1 (g2 k _ hf).1 ?_ (g1 f x hx).2 (g2 k _ hf).2
    intro en
    have n1 : ((cS ci).map (fun x => x.1) ++ (cA ci).map (fun x => x.1))[f]? = some x.1 := by rw [List.getElem?_append_left (by simpa using lt')]; simp [hx]
    have n2 : ((cS ci).map (fun x => x.1) ++ (cA ci).map (fun x => x.1))[(cS ci).length + k]? = some nm := by rw [List.getElem?_append_right (by simp)]; simp [hf]
    rw [en] at n1
    obtain ⟨i1, j1⟩ := List.getElem?_eq_some_iff.mp n1
    obtain ⟨i2, j2⟩ := List.getElem?_eq_some_iff.mp n2
    have := (List.getElem_inj g3).mp (j1.trans j2.symm)
    omega
  · by_cases e : q = k
    · subst e
      cases hf.symm.trans hx
      rw [if_pos (show q < (q + 1, s').1 from Nat.lt_succ_self q)]
      exact ((f3 q _ hf).ext E).same Wt
    · have lt' := get_lt hx
      have e2 : (if q < (k + 1, s').1 then Value.ref (b + 1 + q) else Value.null) = (if q < (k, s).1 then Value.ref (b + 1 + q) else Value.null) := by
        show (if q < k + 1 then _ else _) = (if q < k then _ else _)
        by_cases q1 : q < k
        · rw [if_pos q1, if_pos (by omega)]
        · rw [if_neg q1, if_neg (by omega)]
      rw [e2]
      refine ((f3 q x hx).ext E).other Wt (Or.inr ?_)
      refine slot_ne (g2 q x hx).1 (g2 k _ hf).1 ?_ (g2 q x hx).2 (g2 k _ hf).2
      intro en
      have n1 : ((cS ci).map (fun x => x.1) ++ (cA ci).map (fun x => x.1))[(cS ci).length + q]? = some x.1 := by rw [List.getElem?_append_right (by simp)]; simp [hx]
      have n2 : ((cS ci).map (fun x => x.1) ++ (cA ci).map (fun x => x.1))[(cS ci).length + k]? = some nm := by rw [List.getElem?_append_right (by simp)]; simp [hf]
      rw [en] at n1
      obtain ⟨i1, j1⟩ := List.getElem?_eq_some_iff.mp n1
      obtain ⟨i2, j2⟩ := List.getElem?_eq_some_iff.mp n2
      have := (List.getElem_inj g3).mp (j1.trans j2.symm)
      omega
  · by_cases e : q = k
    · subst e
      cases hf.symm.trans hx
      exact ⟨cl, A.other Wt (nq (by omega)), ec⟩
    · obtain ⟨c, B, eb⟩ := f4 q x hx (by have : q < k + 1 := hq; show q < k; omega)
      refine ⟨c, (B.ext E).other Wt (nq (by omega)), eb.trans ?_⟩
      rw [ho q x hx e]
theorem go_newV {aty : ArrayType} {ty : FieldType} {nm ds : String} {cap : Nat} {n : Int32} {s' : S} (hty : newarray.typeOf aty = ty) (ha : (cA P.2)[k]? = some (nm, ds, ty, cap)) (k0 : Jvm.Cond.arrayClass ty ∈ P.1) (k1 : Jvm.Cond.fieldLink (cN P.2) idx (cN P.2) nm ds ∈ P.1) (hM : (mY M).cls = cN P.2)
    (hlays : Jvm.Cond.lays (cN P.2) (cN P.2) nm ds ∈ P.1 ∨ (Jvm.Cond.laysFinal (cN P.2) (cN P.2) nm ds ∈ P.1 ∧ (mY M).name = "<init>")) (htM : mTop M = true) (hp : 0 < mN M) (hn : ¬ n < 0) (hcap : Nat.ble n.toNatClampNeg cap = true) (hbig : Nat.ble (cap * 8) 536870912 = true)
    (hR1 : Nat.ble (1 + k + 1) ((mR M).cells + mUC M) = true) (hR2 : Nat.ble (usedS P.2 (none, [(k, s)]) + cap) ((mR M).slots + mUS M) = true)
    (hv : arV ty s' k = List.replicate n.toNatClampNeg (defaultValue ty)) (hoth : ∀ q' x, (cA P.2)[q']? = some x → q' ≠ k → arV x.2.2.1 s' q' = arV x.2.2.1 s q') (hgI : gI s' = gI s) (hgL : gL s' = gL s)
    (d : decode (mB M) pc = .ok (.newarray aty, 2)) (d2 : decode (mB M) (pc + 2) = .ok (.putfield idx, 3)) (g : Go P M (pc + 5) L st (none, [(k + 1, s')]) out) : Go P M pc L (.int n :: .ref 1 :: st) (none, [(k, s)]) out :=
  go_ch (fun l Z a0 p e R s1 m args below meth c α b n0 h0 uC uS ok hl T locs cells slots I => by
    obtain ⟨hw, fa, hx, hZ, hown, hc, hml, hret, hnm, hR, hn0, htop, hsz⟩ := ok
    obtain ⟨X, Rp, Fm, Nl, hs, u1, u2, c1, c2, hN⟩ := I
    obtain ⟨t1, t2, t3⟩ := htop htM
    have u1' : cells + uC = 1 + k := by simpa [usedC] using u1
    have b1 : cells + 1 ≤ R.cells := by have := Nat.le_of_ble_eq_true hR1; rw [hR]; omega
    have b2 : slots + cap ≤ R.slots := by have := Nat.le_of_ble_eq_true hR2; rw [hR]; omega
    subst hty
    obtain ⟨T2, h2, cA2, X2, e2, E2, A2, st2⟩ := newP X hx hZ (hw _ k0) rfl (g := mkF m pc (cL α b L) (.int n :: .ref b :: cV α b st)) rfl (hb hc d) rfl hn (Nat.le_of_ble_eq_true hcap) (Nat.le_of_ble_eq_true hbig) b1 b2
    have hadr : T.heap.size = b + 1 + k := by rw [hs, t1]; omega
    rw [hadr] at A2 st2
    have sz2 : T2.heap.size = T.heap.size + 1 := by
      have q1 := X2.heapSize
      have q2 : b + 1 + k < h2.size := A2.lt
      rw [e2] at q1 ⊢
      omega
    have Rp1 := rep_one Rp
    have Fd := Rp1.2.2.1 k _ ha
    rw [if_neg (show ¬ k < (k, s).1 from Nat.lt_irrefl k)] at Fd
    rw [hM] at hown
    obtain ⟨T3, h3, X3, e3, Wt, st3⟩ := putF X2 hx hZ hown (host := "") (Or.inl (hw _ k1)) Via.refl e2 (Fd.ext E2) (Rp1.1.ext E2) (hlays.imp (fun q => hw _ q) (fun q => ⟨hw _ q.1, rfl, hnm.trans q.2⟩)) fa.1 (fa.2.2.2.1 k _ ha).2 (v := .ref (b + 1 + k)) rfl rfl (g := mkF m (pc + 2) (cL α b L) (.ref (b + 1 + k) :: .ref b :: cV α b st)) rfl rfl (hb hc d2)
    refine ⟨T3, _, _, _, ⟨X3, rep_mk (by rw [e3]; exact rep_new fa Rp1 ha E2 A2 (by rw [hv]; simp [newA]) Wt hoth hgI hgL), by rw [e3]; exact (Fm.ext E2).wr Wt (Nat.le_refl _) (by have := Nat.mul_le_mul_left (cK P.2 + 1) hp; omega), Fr.snoc X3 Nl hn0, by rw [e3, Wt.size, ← e2, sz2, hs]; omega, by simp [usedC]; omega, ?_, b1, b2, hN⟩, fun target r => st2 target (st3 target r)⟩
    have hk := get_lt ha
    simp only [usedS, List.map_cons, List.map_nil, List.sum_cons, List.sum_nil] at u2 ⊢
    rw [List.take_add_one, List.map_append, List.sum_append, ha]
    simp [List.map_take] at u2 ⊢; omega) g
theorem go_newI {aty : ArrayType} {ty : FieldType} {nm ds : String} {cap : Nat} {n : Int32} (hty : newarray.typeOf aty = ty) (hi : ty = .int ∨ ty = .boolean ∨ ty = .byte) (ha : (cA P.2)[k]? = some (nm, ds, ty, cap)) (k0 : Jvm.Cond.arrayClass ty ∈ P.1) (k1 : Jvm.Cond.fieldLink (cN P.2) idx (cN P.2) nm ds ∈ P.1) (hM : (mY M).cls = cN P.2)
    (hlays : Jvm.Cond.lays (cN P.2) (cN P.2) nm ds ∈ P.1 ∨ (Jvm.Cond.laysFinal (cN P.2) (cN P.2) nm ds ∈ P.1 ∧ (mY M).name = "<init>")) (htM : mTop M = true) (hp : 0 < mN M) (hn : ¬ n < 0) (hcap : Nat.ble n.toNatClampNeg cap = true) (hbig : Nat.ble (cap * 8) 536870912 = true)
    (hR1 : Nat.ble (1 + k + 1) ((mR M).cells + mUC M) = true) (hR2 : Nat.ble (usedS P.2 (none, [(k, s)]) + cap) ((mR M).slots + mUS M) = true)
    (d : decode (mB M) pc = .ok (.newarray aty, 2)) (d2 : decode (mB M) (pc + 2) = .ok (.putfield idx, 3)) (g : Go P M (pc + 5) L st (none, [(k + 1, sA s k (rep n.toNatClampNeg 0))]) out) : Go P M pc L (.int n :: .ref 1 :: st) (none, [(k, s)]) out :=
  go_newV hty ha k0 k1 hM hlays htM hp hn hcap hbig hR1 hR2 (by rcases hi with rfl | rfl | rfl <;> simp [arV, gA_sA, defaultValue, rep]) (fun q' x _ h => arV_sA s k _ _ q' h) rfl rfl d d2 g
theorem go_newJ {nm ds : String} {cap : Nat} {n : Int32} (ha : (cA P.2)[k]? = some (nm, ds, .long, cap)) (k0 : Jvm.Cond.arrayClass .long ∈ P.1) (k1 : Jvm.Cond.fieldLink (cN P.2) idx (cN P.2) nm ds ∈ P.1) (hM : (mY M).cls = cN P.2)
    (hlays : Jvm.Cond.lays (cN P.2) (cN P.2) nm ds ∈ P.1 ∨ (Jvm.Cond.laysFinal (cN P.2) (cN P.2) nm ds ∈ P.1 ∧ (mY M).name = "<init>")) (htM : mTop M = true) (hp : 0 < mN M) (hn : ¬ n < 0) (hcap : Nat.ble n.toNatClampNeg cap = true) (hbig : Nat.ble (cap * 8) 536870912 = true)
    (hR1 : Nat.ble (1 + k + 1) ((mR M).cells + mUC M) = true) (hR2 : Nat.ble (usedS P.2 (none, [(k, s)]) + cap) ((mR M).slots + mUS M) = true)
    (d : decode (mB M) pc = .ok (.newarray .long, 2)) (d2 : decode (mB M) (pc + 2) = .ok (.putfield idx, 3)) (g : Go P M (pc + 5) L st (none, [(k + 1, sB s k (rep n.toNatClampNeg 0))]) out) : Go P M pc L (.int n :: .ref 1 :: st) (none, [(k, s)]) out :=
  go_newV (aty := .long) (ty := .long) rfl ha k0 k1 hM hlays htM hp hn hcap hbig hR1 hR2 (by simp [arV, gB_sB, defaultValue, rep]) (fun q' x _ h => arV_sB s k _ _ q' h) rfl rfl d d2 g
end Rules
/-! ## the start -/
theorem tsw_out {x : Int32} {lo hi : Int} (h1 : -2147483648 ≤ lo) (h2 : hi < 2147483648) (ks : List Int32) (hk : ks = ((List.range (hi - lo + 1).toNat).map fun (j : Nat) => Int32.ofInt (lo + (j : Int)))) (hx : ∀ k ∈ ks, x ≠ k) : x.toInt < lo ∨ x.toInt > hi := by
  by_cases q1 : x.toInt < lo
  · exact Or.inl q1
  by_cases q2 : x.toInt > hi
  · exact Or.inr q2
  refine absurd rfl (hx x ?_)
  rw [hk, List.mem_map]
  refine ⟨(x.toInt - lo).toNat, List.mem_range.mpr (by omega), ?_⟩
  rw [show lo + (((x.toInt - lo).toNat : Nat) : Int) = x.toInt by omega]
  exact Int32.ofInt_toInt x
theorem list_of_array {V : Type} (a : Array V) (f : Nat → V) (h : ∀ j, j < a.size → a[j]? = some (f j)) : a = ((List.range a.size).map f).toArray := by
  apply Array.ext'
  apply List.ext_getElem?
  intro j
  by_cases q : j < a.size
  · simpa [q] using h j q
  · simp [q]
theorem small_len {n : Nat} {k : Int32} (h : n < 2 ^ 31) (q : n.toInt32 ≤ k) : (n : Int) ≤ k.toInt := by
  have e : (Int32.ofNat n).toInt = n := Int32.toInt_ofNat_of_lt h
  have := Int32.le_iff_toInt_le.mp q
  rwa [show n.toInt32.toInt = n from e] at this
theorem script_of {s : State} {args : Array Value} {t : Term} {k : Int32} (hf : Fit s) (h1 : (Cond.arrayOf t .int).value args s none s [] = some true) (h2 : (Cond.le (.length t) (.int k)).value args s none s [] = some true) :
    ∃ (a : Nat) (l : List Int32), t.eval args s none [] s = some (.ref a) ∧ Ar s s.heap a .int (l.map .int) ∧ a < s.heap.size ∧ (l.length : Int) ≤ k.toInt := by
  obtain ⟨a, ev⟩ := arr_v h1
  obtain ⟨c, A⟩ := Arr.start ev h1
  obtain ⟨x, y, ex, ey, -, -⟩ := cmp_v (Or.inr (Or.inr h2))
  obtain ⟨b, cell, e1, e2, e3, ev2⟩ := Jvm.Lib.length_spec ex
  have ea : b = a := by rw [ev] at e1; cases e1; rfl
  have ec : cell = c := by
    have := Arr.fin (Vm.Alike.refl _) A
    rw [ea, this] at e2; cases e2; rfl
  subst ea ec ev2
  obtain ⟨n, en, S⟩ := Scr.start hf A e3
  have hle : cell.slots.size.toInt32 ≤ k := by
    have ek : (Term.int k).eval args s none [] s = some (.int k) := rfl
    simp only [Cond.value, ex, ek] at h2
    simpa using h2
  refine ⟨b, (List.range cell.slots.size).map fun j => atv cell (Int32.ofNat j), ev, ⟨cell, A, ?_⟩, A.lt, ?_⟩
  · rw [List.map_map]
    refine list_of_array cell.slots _ fun j hj => ?_
    have e4 : (Int32.ofNat j).toNatClampNeg = j := by
      have : (Int32.ofNat j).toInt = j := Int32.toInt_ofNat_of_lt (by omega)
      simp [Int32.toNatClampNeg, this]
    have e5 : ¬ (Int32.ofNat j < 0) := by
      rw [Int32.lt_iff_toInt_lt, Int32.toInt_ofNat_of_lt (by omega)]; simp
    have := S.2.2.2 (Int32.ofNat j) (by rw [e4]; rintro (q | q); exact e5 q; omega)
    rw [e4] at this
    exact this
  · simpa using small_len e3 hle
theorem repW_none (Z : State) (ci : CI) (α b : Nat) (h : Heap) : RepW Z ci α b (none, []) h := ⟨fun l hl => (by cases hl), fun i o ho => (by simp at ho)⟩
theorem repW_some {Z : State} {ci : CI} {α b : Nat} {h : Heap} {l : List Int32} (A : Ar Z h α .int (l.map .int)) (q : α < b) : RepW Z ci α b (some l, []) h := ⟨fun l' hl => by cases hl; exact ⟨A, q⟩, fun i o ho => by simp at ho⟩
end Jvm.AM
/-! ## plain lemmas on ints, arrays and updates -/
namespace Jvm.PL
open Jvm.AM
theorem ofNat_toInt {k : Nat} (h : k < 2147483648) : (Int32.ofNat k).toInt = k := Int32.toInt_ofNat_of_lt h
theorem ofNat_lt {k m : Nat} (hk : k < 2147483648) (hm : m < 2147483648) : Int32.ofNat k < Int32.ofNat m ↔ k < m := by
  rw [Int32.lt_iff_toInt_lt, ofNat_toInt hk, ofNat_toInt hm]; omega
theorem lt_lit {k m : Nat} (hk : k < 2147483648) (hm : m < 2147483648 := by decide) : Int32.ofNat k < (OfNat.ofNat m : Int32) ↔ k < m := ofNat_lt hk hm
theorem ofNat_succ (k : Nat) : Int32.ofNat k + 1 = Int32.ofNat (k + 1) := by
  rw [Int32.ofNat_add]; rfl
theorem ofNat_nonneg {k : Nat} (hk : k < 2147483648) : ¬ Int32.ofNat k < 0 := by rw [Int32.lt_iff_toInt_lt, ofNat_toInt hk]; simp
theorem ofNat_clamp {k : Nat} (hk : k < 2147483648) : (Int32.ofNat k).toNatClampNeg = k := by simp [Int32.toNatClampNeg, ofNat_toInt hk]
theorem ix_ofNat {A : Type} (l : List A) {k : Nat} (hk : k < 2147483648) : ix l (Int32.ofNat k) = l[k]? := by
  unfold ix; rw [if_neg (ofNat_nonneg hk), ofNat_clamp hk]
theorem st_ofNat {A : Type} (l : List A) (x : A) {k : Nat} (hk : k < 2147483648) (hl : k < l.length) : Jvm.AM.st l (Int32.ofNat k) x = some (l.set k x) := by
  unfold Jvm.AM.st; rw [if_neg (ofNat_nonneg hk), ofNat_clamp hk, if_pos hl]
theorem toInt_clamp {v : Int32} (h : ¬ v < 0) : (v.toNatClampNeg : Int) = v.toInt := by
  rw [Int32.lt_iff_toInt_lt] at h
  simp only [Int32.toNatClampNeg]
  have : (0 : Int32).toInt = 0 := rfl
  omega
theorem eq_ofNat {v : Int32} (h : ¬ v < 0) : v = Int32.ofNat v.toNatClampNeg ∧ v.toNatClampNeg < 2147483648 := by
  have h1 := toInt_clamp h
  have h2 := v.toInt_lt
  have h3 : v.toNatClampNeg < 2147483648 := by omega
  refine ⟨Int32.toInt_inj.mp ?_, h3⟩
  rw [ofNat_toInt h3]; exact h1.symm
theorem ix_rep {A : Type} {v : Int32} {n : Nat} {x : A} (h0 : ¬ v < 0) (h1 : v < Int32.ofNat n) (hn : n < 2147483648) : ix (rep n x) v = some x := by
  obtain ⟨e, hl⟩ := eq_ofNat h0
  rw [e] at h1 ⊢
  have h2 := (ofNat_lt hl hn).mp h1
  rw [ix_ofNat _ hl, rep_get, if_pos h2]
theorem ix_nat {A : Type} (l : List A) {v : Int32} (h0 : ¬ v < 0) : ix l v = l[v.toNatClampNeg]? := by unfold ix; rw [if_neg h0]
theorem st_nat {A : Type} (l : List A) {v : Int32} {x : A} (h0 : ¬ v < 0) (hl : v.toNatClampNeg < l.length) : Jvm.AM.st l v x = some (l.set v.toNatClampNeg x) := by
  unfold Jvm.AM.st; rw [if_neg h0, if_pos hl]
theorem clamp_lt {v : Int32} {n : Nat} (h0 : ¬ v < 0) (h1 : v < Int32.ofNat n) (hn : n < 2147483648) : v.toNatClampNeg < n := by
  obtain ⟨e, hl⟩ := eq_ofNat h0
  rw [e] at h1
  exact (ofNat_lt hl hn).mp h1
theorem clamp_inj {v w : Int32} (h0 : ¬ v < 0) (h1 : ¬ w < 0) : v.toNatClampNeg = w.toNatClampNeg ↔ v = w := by
  constructor
  · intro h
    have a := toInt_clamp h0
    have b := toInt_clamp h1
    exact Int32.toInt_inj.mp (by omega)
  · intro h; rw [h]
end Jvm.PL
namespace Jvm.PL
open Jvm.AM
/-- all but the named fields and arrays is as it was -/
def Fx (I L A B : List Nat) (s s' : S) : Prop := (∀ f, f ∉ I → gI s' f = gI s f) ∧ (∀ f, f ∉ L → gL s' f = gL s f) ∧ (∀ f, f ∉ A → gA s' f = gA s f) ∧ (∀ f, f ∉ B → gB s' f = gB s f)
theorem Fx.refl (I L A B : List Nat) (s : S) : Fx I L A B s s := ⟨fun _ _ => rfl, fun _ _ => rfl, fun _ _ => rfl, fun _ _ => rfl⟩
theorem Fx.trans {I L A B : List Nat} {s t u : S} (h : Fx I L A B s t) (k : Fx I L A B t u) : Fx I L A B s u :=
  ⟨fun f q => (k.1 f q).trans (h.1 f q), fun f q => (k.2.1 f q).trans (h.2.1 f q), fun f q => (k.2.2.1 f q).trans (h.2.2.1 f q), fun f q => (k.2.2.2 f q).trans (h.2.2.2 f q)⟩
theorem Fx.mono {I L A B I' L' A' B' : List Nat} {s t : S} (h : Fx I L A B s t) (a : ∀ f ∈ I, f ∈ I') (b : ∀ f ∈ L, f ∈ L') (c : ∀ f ∈ A, f ∈ A') (d : ∀ f ∈ B, f ∈ B') : Fx I' L' A' B' s t :=
  ⟨fun f q => h.1 f fun x => q (a f x), fun f q => h.2.1 f fun x => q (b f x), fun f q => h.2.2.1 f fun x => q (c f x), fun f q => h.2.2.2 f fun x => q (d f x)⟩
theorem Fx.sA {I L A B : List Nat} {s t : S} {f : Nat} {l : List Int32} (h : Fx I L A B s t) (hf : f ∈ A) : Fx I L A B s (Jvm.AM.sA t f l) :=
  ⟨fun g q => (gI_sA _ _ _ _).trans (h.1 g q), fun g q => (gL_sA _ _ _ _).trans (h.2.1 g q), fun g q => by rw [gA_sA, if_neg (fun e : g = f => q (e ▸ hf))]; exact h.2.2.1 g q, fun g q => (gB_sA _ _ _ _).trans (h.2.2.2 g q)⟩
theorem Fx.sI {I L A B : List Nat} {s t : S} {f : Nat} {l : Int32} (h : Fx I L A B s t) (hf : f ∈ I) : Fx I L A B s (Jvm.AM.sI t f l) :=
  ⟨fun g q => by rw [gI_sI, if_neg (fun e : g = f => q (e ▸ hf))]; exact h.1 g q, fun g q => (gL_sI _ _ _ _).trans (h.2.1 g q), fun g q => (gA_sI _ _ _ _).trans (h.2.2.1 g q), fun g q => (gB_sI _ _ _ _).trans (h.2.2.2 g q)⟩
theorem Fx.sL {I L A B : List Nat} {s t : S} {f : Nat} {l : Int64} (h : Fx I L A B s t) (hf : f ∈ L) : Fx I L A B s (Jvm.AM.sL t f l) :=
  ⟨fun g q => (gI_sL _ _ _ _).trans (h.1 g q), fun g q => by rw [gL_sL, if_neg (fun e : g = f => q (e ▸ hf))]; exact h.2.1 g q, fun g q => (gA_sL _ _ _ _).trans (h.2.2.1 g q), fun g q => (gB_sL _ _ _ _).trans (h.2.2.2 g q)⟩
theorem Fx.sB {I L A B : List Nat} {s t : S} {f : Nat} {l : List Int64} (h : Fx I L A B s t) (hf : f ∈ B) : Fx I L A B s (Jvm.AM.sB t f l) :=
  ⟨fun g q => (gI_sB _ _ _ _).trans (h.1 g q), fun g q => (gL_sB _ _ _ _).trans (h.2.1 g q), fun g q => (gA_sB _ _ _ _).trans (h.2.2.1 g q), fun g q => by rw [gB_sB, if_neg (fun e : g = f => q (e ▸ hf))]; exact h.2.2.2 g q⟩
theorem ofNat_add' (a b : Nat) : Int32.ofNat a + Int32.ofNat b = Int32.ofNat (a + b) := (Int32.ofNat_add a b).symm
/-- the first k entries are x -/
def Upto {A : Type} (l : List A) (k : Nat) (x : A) : Prop := ∀ i, i < k → l[i]? = some x
theorem Upto.zero {A : Type} (l : List A) (x : A) : Upto l 0 x := fun _ h => absurd h (Nat.not_lt_zero _)
theorem Upto.set {A : Type} {l : List A} {k : Nat} {x : A} (h : Upto l k x) (hk : k < l.length) : Upto (l.set k x) (k + 1) x := fun i hi => by
  by_cases e : i = k
  · subst e; simp [hk]
  · rw [List.getElem?_set_ne (Ne.symm e)]; exact h i (by omega)
theorem Upto.all {A : Type} {l : List A} {k : Nat} {x : A} (h : Upto l k x) (hk : l.length = k) : l = rep k x := by
  apply List.ext_getElem?
  intro i
  rw [rep_get]
  by_cases q : i < k
  · rw [if_pos q]; exact h i q
  · rw [if_neg q, List.getElem?_eq_none (by omega)]
end Jvm.PL
namespace Jvm.PL
open Jvm.AM
/-- a loop by its invariant; m: the turns that are left -/
theorem run_loop {A B : Type} (L : Nat → A → B) (F : A → B) (I : Nat → A → Prop) (h : ∀ n m a, I (m + 1) a → ∃ a', L (n + 1) a = L n a' ∧ I m a') (h0 : ∀ n a, I 0 a → L (n + 1) a = F a) : ∀ m n a, m < n → I m a → ∃ a', L n a = F a' ∧ I 0 a'
  | 0, n + 1, a, _, i => ⟨a, h0 n a i, i⟩
  | m + 1, n + 1, a, q, i => by
    obtain ⟨a', e, i'⟩ := h n m a i
    obtain ⟨a'', e', i''⟩ := run_loop L F I h h0 m n a' (by omega) i'
    exact ⟨a'', e.trans e', i''⟩
/-- 'for k in 0 .. N' -/
theorem run_for {B : Type} (L : Nat → Int32 → S → B) (F : S → B) (N : Nat) (I : Nat → S → Prop) (h : ∀ n k s, k < N → I k s → ∃ s', L (n + 1) (Int32.ofNat k) s = L n (Int32.ofNat (k + 1)) s' ∧ I (k + 1) s') (h0 : ∀ n s, I N s → L (n + 1) (Int32.ofNat N) s = F s) (n : Nat) (s : S) (hn : N < n) (i : I 0 s) :
    ∃ s', L n (Int32.ofNat 0) s = F s' ∧ I N s' := by
  obtain ⟨a, e, k, hk, ea, ia⟩ := run_loop (fun n (a : Int32 × S) => L n a.1 a.2) (fun a => F a.2) (fun m a => ∃ k, k + m = N ∧ a.1 = Int32.ofNat k ∧ I k a.2)
    (fun n m a ⟨k, h1, h2, h3⟩ => by
      obtain ⟨s', e, i'⟩ := h n k a.2 (by omega) h3
      exact ⟨(Int32.ofNat (k + 1), s'), by show L (n + 1) a.1 a.2 = _; rw [h2]; exact e, k + 1, by omega, rfl, i'⟩)
    (fun n a ⟨k, h1, h2, h3⟩ => by
      have : k = N := by omega
      subst this
      show L (n + 1) a.1 a.2 = _; rw [h2]; exact h0 n a.2 h3) N n (Int32.ofNat 0, s) hn ⟨0, by omega, rfl, i⟩
  have : k = N := by omega
  subst this
  exact ⟨a.2, e, ia⟩
end Jvm.PL
namespace Jvm.PL
open Jvm.AM
/-- the end test of a loop over a script -/
theorem len_lt {n k c : Nat} (hn : n ≤ 100000) (hk : k ≤ 100000) (hc : c ≤ 100000) : (n.toInt32 - Int32.ofNat c) < Int32.ofNat k ↔ n < k + c := by
  rw [Int32.lt_iff_toInt_lt, Int32.toInt_sub, show n.toInt32 = Int32.ofNat n from rfl, ofNat_toInt (by omega), ofNat_toInt (by omega), ofNat_toInt (by omega)]
  have : ((n : Int) - c).bmod (2 ^ 32) = n - c := by
    rw [Int.bmod_eq_of_le] <;> omega
  rw [this]; omega
/-- a loop over a script, c entries a turn: it ends in what every way out says -/
theorem run_script {A B : Type} (L : Nat → Int32 → A → B) (c len : Nat) (hc : 0 < c) (P : B → Prop) (I : Nat → A → Prop) (h : ∀ n k a, k + c ≤ len → I k a → P (L (n + 1) (Int32.ofNat k) a) ∨ ∃ a', L (n + 1) (Int32.ofNat k) a = L n (Int32.ofNat (k + c)) a' ∧ I (k + c) a') (h0 : ∀ n k a, k ≤ len → len < k + c → I k a → P (L (n + 1) (Int32.ofNat k) a)) : ∀ n k a, len < n + k → k ≤ len → I k a → P (L n (Int32.ofNat k) a)
  | 0, k, a, hn, hk, i => by omega
  | n + 1, k, a, hn, hk, i => by
    by_cases q : k + c ≤ len
    · rcases h n k a q i with p | ⟨a', e, i'⟩
      · exact p
      · rw [e]; exact run_script L c len hc P I h h0 n (k + c) a' (by omega) q i'
    · exact h0 n k a hk (by omega) i
theorem ix_some {A : Type} (l : List A) {k : Nat} (hk : k < 2147483648) (hl : k < l.length) : ∃ x, ix l (Int32.ofNat k) = some x := ⟨l[k], by rw [ix_ofNat _ hk, List.getElem?_eq_getElem hl]⟩
theorem ofNat_lit (a b : Nat) : Int32.ofNat a + (OfNat.ofNat b : Int32) = Int32.ofNat (a + b) := ofNat_add' a b
end Jvm.PL
namespace Jvm.PL
open Jvm.AM
theorem upd_same {A : Type} (g : Nat → A) (f : Nat) (a b : A) : aupd (aupd g f a) f b = aupd g f b := by
  funext x; unfold aupd; by_cases q : x = f <;> simp [q]
theorem upd_comm {A : Type} (g : Nat → A) {f h : Nat} (n : f ≠ h) (a b : A) : aupd (aupd g f a) h b = aupd (aupd g h b) f a := by
  funext x; unfold aupd
  by_cases q : x = f
  · have : ¬ f = h := n
    simp [q, this]
  · by_cases r : x = h
    · rw [if_pos r, if_neg q, if_pos r]
    · rw [if_neg r, if_neg q, if_neg q, if_neg r]
theorem sA_same (s : S) (f : Nat) (a b : List Int32) : Jvm.AM.sA (Jvm.AM.sA s f a) f b = Jvm.AM.sA s f b := by
  unfold Jvm.AM.sA; simp only [upd_same]
theorem sA_comm (s : S) {f h : Nat} (n : f ≠ h) (a b : List Int32) : Jvm.AM.sA (Jvm.AM.sA s f a) h b = Jvm.AM.sA (Jvm.AM.sA s h b) f a := by
  unfold Jvm.AM.sA; simp only; rw [upd_comm _ n]
end Jvm.PL
/-! ## rows of bits -/
namespace Jvm.PL
open Jvm.AM Jvm.Free
def bt (w : Int32) (y : Nat) : Bool := w.toBitVec.getLsbD y
theorem bt_zero (y : Nat) : bt 0 y = false := by simp [bt]
theorem bt_or (a b : Int32) (y : Nat) : bt (a ||| b) y = (bt a y || bt b y) := by simp [bt]
theorem bt_and (a b : Int32) (y : Nat) : bt (a &&& b) y = (bt a y && bt b y) := by simp [bt]
theorem bt_ge (w : Int32) {y : Nat} (h : 32 ≤ y) : bt w y = false := by unfold bt; exact BitVec.getLsbD_of_ge _ _ h
theorem bt_m1 {y : Nat} (h : y < 32) : bt (-1) y = true := by
  unfold bt
  rw [show (-1 : Int32).toBitVec = BitVec.allOnes 32 from rfl, BitVec.getLsbD_allOnes]
  simp [h]
theorem bt_not (a : Int32) {y : Nat} (h : y < 32) : bt (a ^^^ (-1)) y = !bt a y := by
  have := bt_m1 h
  unfold bt at *
  rw [Int32.toBitVec_xor, BitVec.getLsbD_xor, this]; simp
theorem bt_andn (a b : Int32) (y : Nat) : bt (a &&& (b ^^^ (-1))) y = (bt a y && !bt b y) := by
  rw [bt_and]
  by_cases h : y < 32
  · rw [bt_not b h]
  · rw [bt_ge a (by omega)]; simp
theorem bt_ext {a b : Int32} (h : ∀ y, y < 32 → bt a y = bt b y) : a = b := by
  apply Int32.toBitVec_inj.mp
  apply BitVec.eq_of_getLsbD_eq
  intro i hi
  exact h i hi
theorem bt_eq0 {w : Int32} : w = 0 ↔ ∀ y, y < 32 → bt w y = false := by
  constructor
  · rintro rfl y _; exact bt_zero y
  · intro h; exact bt_ext fun y hy => by rw [h y hy, bt_zero]
theorem ushr_bit (w : Int32) {y : Nat} (hy : y < 32) : (XT.ushr w (Int32.ofNat y)).toBitVec = w.toBitVec >>> y := by
  unfold XT.ushr
  have h1 : ((Int32.ofNat y &&& 31).toUInt32.toBitVec).toNat = y := by
    show ((Int32.ofNat y &&& 31).toBitVec).toNat = y
    rw [Int32.toBitVec_and, BitVec.toNat_and]
    have e1 : (Int32.ofNat y).toBitVec.toNat = y := by
      show (BitVec.ofNat 32 y).toNat = y
      rw [BitVec.toNat_ofNat]; omega
    have e2 : (31 : Int32).toBitVec.toNat = 31 := rfl
    rw [e1, e2, show 31 = 2 ^ 5 - 1 from rfl, Nat.and_two_pow_sub_one_eq_mod]; omega
  show (w.toUInt32 >>> (Int32.ofNat y &&& 31).toUInt32).toBitVec = _
  rw [UInt32.toBitVec_shiftRight]
  show w.toBitVec >>> ((Int32.ofNat y &&& 31).toUInt32.toBitVec % 32) = _
  rw [BitVec.ushiftRight_eq']
  congr 1
  rw [BitVec.toNat_umod, h1]
  show y % 32 = y
  omega
theorem and1 (w : Int32) : (w &&& 1 = 0) ↔ bt w 0 = false := by
  constructor
  · intro h
    have : bt (w &&& 1) 0 = false := by rw [h, bt_zero]
    rw [bt_and] at this
    simpa [show bt 1 0 = true from rfl] using this
  · intro h
    refine bt_ext fun y hy => ?_
    rw [bt_and, bt_zero]
    cases y with
    | zero => rw [h]; rfl
    | succ y =>
      have : bt 1 (y + 1) = false := by
        unfold bt
        show (1#32).getLsbD (y + 1) = false
        simp [BitVec.getLsbD_one]
      rw [this]; simp
theorem test_bit (w : Int32) {y : Nat} (hy : y < 32) : (XT.ushr w (Int32.ofNat y) &&& 1 = 0) ↔ bt w y = false := by
  rw [and1]
  unfold bt
  rw [ushr_bit w hy]; simp
theorem shl_bit {b : Nat} (hb : b < 32) (y : Nat) : bt ((1 : Int32) <<< (Int32.ofNat b &&& 31)) y = decide (y = b) := by
  have h1 : (Int32.ofNat b &&& 31) = Int32.ofNat b := by
    apply Int32.toBitVec_inj.mp
    rw [Int32.toBitVec_and]
    apply BitVec.eq_of_toNat_eq
    rw [BitVec.toNat_and]
    have e1 : (Int32.ofNat b).toBitVec.toNat = b := by
      show (BitVec.ofNat 32 b).toNat = b
      rw [BitVec.toNat_ofNat]; omega
    have e2 : (31 : Int32).toBitVec.toNat = 31 := rfl
    rw [e1, e2, show 31 = 2 ^ 5 - 1 from rfl, Nat.and_two_pow_sub_one_eq_mod]; omega
  rw [h1]
  unfold bt
  have e : ((1 : Int32) <<< Int32.ofNat b).toBitVec = (1#32) <<< b := by
    rw [Int32.toBitVec_shiftLeft]
    show (1#32) <<< ((Int32.ofNat b).toBitVec.smod 32) = _
    have : (Int32.ofNat b).toBitVec.smod 32 = BitVec.ofNat 32 b := by
      have hz : ∀ b : Fin 32, (Int32.ofNat b.val).toBitVec.smod 32 = BitVec.ofNat 32 b.val := by decide
      exact hz ⟨b, hb⟩
    rw [this, BitVec.shiftLeft_eq']
    congr 1
    rw [BitVec.toNat_ofNat]; omega
  rw [e]
  simp only [BitVec.getLsbD_shiftLeft, BitVec.getLsbD_one]
  by_cases h : y = b
  · subst h; simp [hb]
  · simp [h]; omega
end Jvm.PL
namespace Jvm.Pilot.@@N@@
open Jvm Jvm.ClassFile Sem Op Lib Jvm.Free Jvm.Stand Jvm.LawKit Jvm.RoadKit Jvm.AM Jvm.PL Jvm.Pilot.@@N@@.Jvm.D
def ci1 : CI := ("LatticeEarley", 18, [("inf", "I", .int), ("nodeTotal", "I", .int), ("edgeTotal", "I", .int), ("ruleTotal", "I", .int), ("state", "I", .int), ("bestTotal", "I", .int)], [("edgeFrom", "[I", .int, 16), ("edgeTo", "[I", .int, 16), ("edgeLabel", "[I", .int, 16), ("edgeWeight", "[I", .int, 16), ("ruleHead", "[I", .int, 12), ("ruleWeight", "[I", .int, 12), ("ruleLength", "[I", .int, 12), ("ruleSym", "[I", .int, 36), ("span", "[I", .int, 1024), ("item", "[I", .int, 3072), ("rest", "[I", .int, 3072), ("outer", "[I", .int, 1024)])
def PP : PI := (tables_1, ci1)
def BIG : Nat := 1000000
def m0 : Meth := (⟨"LatticeEarley", "clampNodes", "(I)I"⟩, prog_1_method_16_code, 2, (some .int), { frames := 0, cells := 0, slots := 0, locals := 0 }, 1, false, 0, 0)
def m1 : Meth := (⟨"LatticeEarley", "becomeBuilding", "()V"⟩, prog_1_method_18_code, 1, none, { frames := 0, cells := 0, slots := 0, locals := 0 }, 1, false, 0, 0)
def m2 : Meth := (⟨"LatticeEarley", "clearStore", "()V"⟩, prog_1_method_17_code, 2, none, { frames := 1, cells := 0, slots := 0, locals := 12 }, 1, false, 0, 0)
def m3 : Meth := (⟨"LatticeEarley", "clearTables", "()V"⟩, prog_1_method_19_code, 2, none, { frames := 0, cells := 0, slots := 0, locals := 0 }, 1, false, 0, 0)
def m4 : Meth := (⟨"LatticeEarley", "<init>", "(I)V"⟩, prog_1_method_1_code, 2, none, { frames := 2, cells := 12, slots := 8328, locals := 25 }, 1, true, 1, 18)
def m5 : Meth := (⟨"LatticeEarley", "inRange", "(III)Z"⟩, prog_1_method_20_code, 4, (some .boolean), { frames := 0, cells := 0, slots := 0, locals := 0 }, 1, false, 0, 0)
def m6 : Meth := (⟨"LatticeEarley", "edgeRefused", "(IIII)Z"⟩, prog_1_method_21_code, 5, (some .boolean), { frames := 1, cells := 0, slots := 0, locals := 15 }, 1, false, 0, 0)
def m7 : Meth := (⟨"LatticeEarley", "addEdge", "(IIII)I"⟩, prog_1_method_6_code, 6, (some .int), { frames := 2, cells := 0, slots := 0, locals := 31 }, 1, false, 0, 0)
def m8 : Meth := (⟨"LatticeEarley", "bodyLimit", "(I)I"⟩, prog_1_method_23_code, 4, (some .int), { frames := 0, cells := 0, slots := 0, locals := 0 }, 1, false, 0, 0)
def m9 : Meth := (⟨"LatticeEarley", "ruleRefused", "(IIII)Z"⟩, prog_1_method_22_code, 5, (some .boolean), { frames := 1, cells := 0, slots := 0, locals := 16 }, 1, false, 0, 0)
def m10 : Meth := (⟨"LatticeEarley", "storeRule", "(IIIII)V"⟩, prog_1_method_24_code, 8, none, { frames := 0, cells := 0, slots := 0, locals := 0 }, 1, false, 0, 0)
def m11 : Meth := (⟨"LatticeEarley", "addRule", "(IIII)I"⟩, prog_1_method_7_code, 6, (some .int), { frames := 2, cells := 0, slots := 0, locals := 32 }, 1, false, 0, 0)
def m12 : Meth := (⟨"LatticeEarley", "isCode", "(I)Z"⟩, prog_1_method_28_code, 2, (some .boolean), { frames := 0, cells := 0, slots := 0, locals := 0 }, 1, false, 0, 0)
def m13 : Meth := (⟨"LatticeEarley", "isNode", "(I)Z"⟩, prog_1_method_27_code, 2, (some .boolean), { frames := 0, cells := 0, slots := 0, locals := 0 }, 1, false, 0, 0)
def m14 : Meth := (⟨"LatticeEarley", "spanSlot", "(III)I"⟩, prog_1_method_31_code, 4, (some .int), { frames := 1, cells := 0, slots := 0, locals := 13 }, 1, false, 0, 0)
def m15 : Meth := (⟨"LatticeEarley", "lowerSpan", "(IIII)Z"⟩, prog_1_method_34_code, 6, (some .boolean), { frames := 2, cells := 0, slots := 0, locals := 28 }, 1, false, 0, 0)
def m16 : Meth := (⟨"LatticeEarley", "scanEdges", "()V"⟩, prog_1_method_45_code, 2, none, { frames := 3, cells := 0, slots := 0, locals := 45 }, 1, false, 0, 0)
def m17 : Meth := (⟨"LatticeEarley", "isRule", "(I)Z"⟩, prog_1_method_29_code, 2, (some .boolean), { frames := 0, cells := 0, slots := 0, locals := 0 }, 1, false, 0, 0)
def m18 : Meth := (⟨"LatticeEarley", "isDot", "(I)Z"⟩, prog_1_method_30_code, 2, (some .boolean), { frames := 0, cells := 0, slots := 0, locals := 0 }, 1, false, 0, 0)
def m19 : Meth := (⟨"LatticeEarley", "itemSlot", "(IIII)I"⟩, prog_1_method_32_code, 5, (some .int), { frames := 1, cells := 0, slots := 0, locals := 13 }, 1, false, 0, 0)
def m20 : Meth := (⟨"LatticeEarley", "lowerItem", "(IIIII)Z"⟩, prog_1_method_38_code, 7, (some .boolean), { frames := 2, cells := 0, slots := 0, locals := 29 }, 1, false, 0, 0)
def m21 : Meth := (⟨"LatticeEarley", "seedItems", "()V"⟩, prog_1_method_46_code, 3, none, { frames := 3, cells := 0, slots := 0, locals := 47 }, 1, false, 0, 0)
def m22 : Meth := (⟨"LatticeEarley", "symbolAt", "(II)I"⟩, prog_1_method_25_code, 3, (some .int), { frames := 0, cells := 0, slots := 0, locals := 0 }, 1, false, 0, 0)
def m23 : Meth := (⟨"LatticeEarley", "getItem", "(IIII)I"⟩, prog_1_method_37_code, 6, (some .int), { frames := 2, cells := 0, slots := 0, locals := 29 }, 1, false, 0, 0)
def m24 : Meth := (⟨"LatticeEarley", "getSpan", "(III)I"⟩, prog_1_method_33_code, 5, (some .int), { frames := 2, cells := 0, slots := 0, locals := 28 }, 1, false, 0, 0)
def m25 : Meth := (⟨"LatticeEarley", "plus", "(II)I"⟩, prog_1_method_41_code, 4, (some .int), { frames := 0, cells := 0, slots := 0, locals := 0 }, 1, false, 0, 0)
def m26 : Meth := (⟨"LatticeEarley", "bestAdvance", "(IIII)I"⟩, prog_1_method_50_code, 11, (some .int), { frames := 3, cells := 0, slots := 0, locals := 46 }, 1, false, 0, 0)
def m27 : Meth := (⟨"LatticeEarley", "advanceItems", "(III)Z"⟩, prog_1_method_49_code, 8, (some .boolean), { frames := 4, cells := 0, slots := 0, locals := 68 }, 1, false, 0, 0)
def m28 : Meth := (⟨"LatticeEarley", "headCode", "(I)I"⟩, prog_1_method_26_code, 2, (some .int), { frames := 0, cells := 0, slots := 0, locals := 0 }, 1, false, 0, 0)
def m29 : Meth := (⟨"LatticeEarley", "completeItem", "(III)Z"⟩, prog_1_method_51_code, 6, (some .boolean), { frames := 3, cells := 0, slots := 0, locals := 46 }, 1, false, 0, 0)
def m30 : Meth := (⟨"LatticeEarley", "insideRound", "(II)Z"⟩, prog_1_method_48_code, 5, (some .boolean), { frames := 5, cells := 0, slots := 0, locals := 87 }, 1, false, 0, 0)
def m31 : Meth := (⟨"LatticeEarley", "closeInsideCell", "(II)V"⟩, prog_1_method_47_code, 5, none, { frames := 6, cells := 0, slots := 0, locals := 103 }, 1, false, 0, 0)
def m32 : Meth := (⟨"LatticeEarley", "runInside", "()V"⟩, prog_1_method_44_code, 3, none, { frames := 7, cells := 0, slots := 0, locals := 119 }, 1, false, 0, 0)
def m33 : Meth := (⟨"LatticeEarley", "lowerRest", "(IIIII)Z"⟩, prog_1_method_40_code, 7, (some .boolean), { frames := 2, cells := 0, slots := 0, locals := 29 }, 1, false, 0, 0)
def m34 : Meth := (⟨"LatticeEarley", "seedRest", "(I)V"⟩, prog_1_method_53_code, 4, none, { frames := 3, cells := 0, slots := 0, locals := 47 }, 1, false, 0, 0)
def m35 : Meth := (⟨"LatticeEarley", "getRest", "(IIII)I"⟩, prog_1_method_39_code, 6, (some .int), { frames := 2, cells := 0, slots := 0, locals := 29 }, 1, false, 0, 0)
def m36 : Meth := (⟨"LatticeEarley", "restAt", "(IIII)I"⟩, prog_1_method_55_code, 11, (some .int), { frames := 3, cells := 0, slots := 0, locals := 46 }, 1, false, 0, 0)
def m37 : Meth := (⟨"LatticeEarley", "fillRestLevel", "(II)V"⟩, prog_1_method_54_code, 6, none, { frames := 4, cells := 0, slots := 0, locals := 68 }, 1, false, 0, 0)
def m38 : Meth := (⟨"LatticeEarley", "runRest", "()V"⟩, prog_1_method_52_code, 4, none, { frames := 5, cells := 0, slots := 0, locals := 85 }, 1, false, 0, 0)
def m39 : Meth := (⟨"LatticeEarley", "lowerOuter", "(IIII)Z"⟩, prog_1_method_36_code, 6, (some .boolean), { frames := 2, cells := 0, slots := 0, locals := 28 }, 1, false, 0, 0)
def m40 : Meth := (⟨"LatticeEarley", "getOuter", "(III)I"⟩, prog_1_method_35_code, 5, (some .int), { frames := 2, cells := 0, slots := 0, locals := 28 }, 1, false, 0, 0)
def m41 : Meth := (⟨"LatticeEarley", "plus3", "(III)I"⟩, prog_1_method_42_code, 5, (some .int), { frames := 1, cells := 0, slots := 0, locals := 15 }, 1, false, 0, 0)
def m42 : Meth := (⟨"LatticeEarley", "bestContext", "(IIII)I"⟩, prog_1_method_60_code, 14, (some .int), { frames := 3, cells := 0, slots := 0, locals := 46 }, 1, false, 0, 0)
def m43 : Meth := (⟨"LatticeEarley", "outerRule", "(III)Z"⟩, prog_1_method_59_code, 9, (some .boolean), { frames := 4, cells := 0, slots := 0, locals := 71 }, 1, false, 0, 0)
def m44 : Meth := (⟨"LatticeEarley", "outerRound", "(II)Z"⟩, prog_1_method_58_code, 5, (some .boolean), { frames := 5, cells := 0, slots := 0, locals := 91 }, 1, false, 0, 0)
def m45 : Meth := (⟨"LatticeEarley", "closeOuterCell", "(II)V"⟩, prog_1_method_57_code, 5, none, { frames := 6, cells := 0, slots := 0, locals := 107 }, 1, false, 0, 0)
def m46 : Meth := (⟨"LatticeEarley", "runOuter", "()V"⟩, prog_1_method_56_code, 4, none, { frames := 7, cells := 0, slots := 0, locals := 123 }, 1, false, 0, 0)
def m47 : Meth := (⟨"LatticeEarley", "parse", "()Z"⟩, prog_1_method_10_code, 3, (some .boolean), { frames := 8, cells := 0, slots := 0, locals := 138 }, 1, false, 0, 0)
def m48 : Meth := (⟨"LatticeEarley", "status", "()I"⟩, prog_1_method_11_code, 1, (some .int), { frames := 0, cells := 0, slots := 0, locals := 0 }, 1, false, 0, 0)
def m49 : Meth := (⟨"LatticeEarley", "bestWeight", "()I"⟩, prog_1_method_12_code, 1, (some .int), { frames := 0, cells := 0, slots := 0, locals := 0 }, 1, false, 0, 0)
def m50 : Meth := (⟨"LatticeEarley", "answer", "(I)I"⟩, prog_1_method_43_code, 2, (some .int), { frames := 0, cells := 0, slots := 0, locals := 0 }, 1, false, 0, 0)
def m51 : Meth := (⟨"LatticeEarley", "spanWeight", "(III)I"⟩, prog_1_method_13_code, 5, (some .int), { frames := 3, cells := 0, slots := 0, locals := 44 }, 1, false, 0, 0)
def m52 : Meth := (⟨"LatticeEarley", "edgeBest", "(I)I"⟩, prog_1_method_14_code, 4, (some .int), { frames := 3, cells := 0, slots := 0, locals := 44 }, 1, false, 0, 0)
def m53 : Meth := (⟨"LatticeEarley", "ruleContext", "(I)I"⟩, prog_1_method_61_code, 10, (some .int), { frames := 3, cells := 0, slots := 0, locals := 46 }, 1, false, 0, 0)
def m54 : Meth := (⟨"LatticeEarley", "ruleBest", "(I)I"⟩, prog_1_method_15_code, 3, (some .int), { frames := 4, cells := 0, slots := 0, locals := 67 }, 1, false, 0, 0)
def m55 : Meth := (x, code, maxLocals, ret, room_1, 1, true, 0, 0)
theorem ar_0 : (cA PP.2)[0]? = some ("edgeFrom", "[I", .int, 16) := rfl
theorem ar_1 : (cA PP.2)[1]? = some ("edgeTo", "[I", .int, 16) := rfl
theorem ar_2 : (cA PP.2)[2]? = some ("edgeLabel", "[I", .int, 16) := rfl
theorem ar_3 : (cA PP.2)[3]? = some ("edgeWeight", "[I", .int, 16) := rfl
theorem ar_4 : (cA PP.2)[4]? = some ("ruleHead", "[I", .int, 12) := rfl
theorem ar_5 : (cA PP.2)[5]? = some ("ruleWeight", "[I", .int, 12) := rfl
theorem ar_6 : (cA PP.2)[6]? = some ("ruleLength", "[I", .int, 12) := rfl
theorem ar_7 : (cA PP.2)[7]? = some ("ruleSym", "[I", .int, 36) := rfl
theorem ar_8 : (cA PP.2)[8]? = some ("span", "[I", .int, 1024) := rfl
theorem ar_9 : (cA PP.2)[9]? = some ("item", "[I", .int, 3072) := rfl
theorem ar_10 : (cA PP.2)[10]? = some ("rest", "[I", .int, 3072) := rfl
theorem ar_11 : (cA PP.2)[11]? = some ("outer", "[I", .int, 1024) := rfl
theorem fs_8 : FldS PP 8 0 .int := ⟨_, _, rfl, List.mem_of_getElem? (i := 10) rfl⟩
theorem fa_14 : FldA PP 14 0 .int := ⟨_, _, _, rfl, List.mem_of_getElem? (i := 13) rfl⟩
theorem fa_18 : FldA PP 18 1 .int := ⟨_, _, _, rfl, List.mem_of_getElem? (i := 15) rfl⟩
theorem fa_21 : FldA PP 21 2 .int := ⟨_, _, _, rfl, List.mem_of_getElem? (i := 17) rfl⟩
theorem fa_24 : FldA PP 24 3 .int := ⟨_, _, _, rfl, List.mem_of_getElem? (i := 19) rfl⟩
theorem fa_27 : FldA PP 27 4 .int := ⟨_, _, _, rfl, List.mem_of_getElem? (i := 21) rfl⟩
theorem fa_30 : FldA PP 30 5 .int := ⟨_, _, _, rfl, List.mem_of_getElem? (i := 23) rfl⟩
theorem fa_33 : FldA PP 33 6 .int := ⟨_, _, _, rfl, List.mem_of_getElem? (i := 25) rfl⟩
theorem fa_36 : FldA PP 36 7 .int := ⟨_, _, _, rfl, List.mem_of_getElem? (i := 27) rfl⟩
theorem fa_39 : FldA PP 39 8 .int := ⟨_, _, _, rfl, List.mem_of_getElem? (i := 29) rfl⟩
theorem fa_42 : FldA PP 42 9 .int := ⟨_, _, _, rfl, List.mem_of_getElem? (i := 31) rfl⟩
theorem fa_45 : FldA PP 45 10 .int := ⟨_, _, _, rfl, List.mem_of_getElem? (i := 33) rfl⟩
theorem fa_48 : FldA PP 48 11 .int := ⟨_, _, _, rfl, List.mem_of_getElem? (i := 35) rfl⟩
theorem fs_55 : FldS PP 55 1 .int := ⟨_, _, rfl, List.mem_of_getElem? (i := 41) rfl⟩
theorem fs_64 : FldS PP 64 2 .int := ⟨_, _, rfl, List.mem_of_getElem? (i := 47) rfl⟩
theorem fs_67 : FldS PP 67 3 .int := ⟨_, _, rfl, List.mem_of_getElem? (i := 49) rfl⟩
theorem fs_95 : FldS PP 95 4 .int := ⟨_, _, rfl, List.mem_of_getElem? (i := 55) rfl⟩
theorem fs_98 : FldS PP 98 5 .int := ⟨_, _, rfl, List.mem_of_getElem? (i := 57) rfl⟩
theorem wr_0 (M : Meth) : Wrt PP M 0 := ⟨_, _, _, rfl, Or.inl (List.mem_of_getElem? (i := 11) rfl)⟩
theorem wr_1 (M : Meth) : Wrt PP M 1 := ⟨_, _, _, rfl, Or.inl (List.mem_of_getElem? (i := 42) rfl)⟩
theorem wr_2 (M : Meth) : Wrt PP M 2 := ⟨_, _, _, rfl, Or.inl (List.mem_of_getElem? (i := 48) rfl)⟩
theorem wr_3 (M : Meth) : Wrt PP M 3 := ⟨_, _, _, rfl, Or.inl (List.mem_of_getElem? (i := 50) rfl)⟩
theorem wr_4 (M : Meth) : Wrt PP M 4 := ⟨_, _, _, rfl, Or.inl (List.mem_of_getElem? (i := 56) rfl)⟩
theorem wr_5 (M : Meth) : Wrt PP M 5 := ⟨_, _, _, rfl, Or.inl (List.mem_of_getElem? (i := 58) rfl)⟩
theorem oid_0 : 1 = (cK PP.2 + 1) * 0 + 1 := rfl
theorem pl_0 : plainName "LatticeEarley" = true := by first | (simp [plainName, overriddenIn]; done) | decide +kernel
theorem pl_1 : plainName "LatticeEarleyL3" = true := by first | (simp [plainName, overriddenIn]; done) | decide +kernel
theorem hm_0 : (mY m0).cls = cN PP.2 := rfl
theorem hn_0 : 0 < mN m0 := by decide
theorem pd_0 : parseMethodDescriptor (mY m0).desc = some ⟨[.int], (some .int)⟩ := by decide +kernel
theorem hm_1 : (mY m1).cls = cN PP.2 := rfl
theorem hn_1 : 0 < mN m1 := by decide
theorem pd_1 : parseMethodDescriptor (mY m1).desc = some ⟨[], none⟩ := by decide +kernel
theorem hm_2 : (mY m2).cls = cN PP.2 := rfl
theorem hn_2 : 0 < mN m2 := by decide
theorem pd_2 : parseMethodDescriptor (mY m2).desc = some ⟨[], none⟩ := by decide +kernel
theorem hm_3 : (mY m3).cls = cN PP.2 := rfl
theorem hn_3 : 0 < mN m3 := by decide
theorem pd_3 : parseMethodDescriptor (mY m3).desc = some ⟨[], none⟩ := by decide +kernel
theorem hm_4 : (mY m4).cls = cN PP.2 := rfl
theorem hn_4 : 0 < mN m4 := by decide
theorem pd_4 : parseMethodDescriptor (mY m4).desc = some ⟨[.int], none⟩ := by decide +kernel
theorem hm_5 : (mY m5).cls = cN PP.2 := rfl
theorem hn_5 : 0 < mN m5 := by decide
theorem pd_5 : parseMethodDescriptor (mY m5).desc = some ⟨[.int, .int, .int], (some .boolean)⟩ := by decide +kernel
theorem hm_6 : (mY m6).cls = cN PP.2 := rfl
theorem hn_6 : 0 < mN m6 := by decide
theorem pd_6 : parseMethodDescriptor (mY m6).desc = some ⟨[.int, .int, .int, .int], (some .boolean)⟩ := by decide +kernel
theorem hm_7 : (mY m7).cls = cN PP.2 := rfl
theorem hn_7 : 0 < mN m7 := by decide
theorem pd_7 : parseMethodDescriptor (mY m7).desc = some ⟨[.int, .int, .int, .int], (some .int)⟩ := by decide +kernel
theorem hm_8 : (mY m8).cls = cN PP.2 := rfl
theorem hn_8 : 0 < mN m8 := by decide
theorem pd_8 : parseMethodDescriptor (mY m8).desc = some ⟨[.int], (some .int)⟩ := by decide +kernel
theorem hm_9 : (mY m9).cls = cN PP.2 := rfl
theorem hn_9 : 0 < mN m9 := by decide
theorem pd_9 : parseMethodDescriptor (mY m9).desc = some ⟨[.int, .int, .int, .int], (some .boolean)⟩ := by decide +kernel
theorem hm_10 : (mY m10).cls = cN PP.2 := rfl
theorem hn_10 : 0 < mN m10 := by decide
theorem pd_10 : parseMethodDescriptor (mY m10).desc = some ⟨[.int, .int, .int, .int, .int], none⟩ := by decide +kernel
theorem hm_11 : (mY m11).cls = cN PP.2 := rfl
theorem hn_11 : 0 < mN m11 := by decide
theorem pd_11 : parseMethodDescriptor (mY m11).desc = some ⟨[.int, .int, .int, .int], (some .int)⟩ := by decide +kernel
theorem hm_12 : (mY m12).cls = cN PP.2 := rfl
theorem hn_12 : 0 < mN m12 := by decide
theorem pd_12 : parseMethodDescriptor (mY m12).desc = some ⟨[.int], (some .boolean)⟩ := by decide +kernel
theorem hm_13 : (mY m13).cls = cN PP.2 := rfl
theorem hn_13 : 0 < mN m13 := by decide
theorem pd_13 : parseMethodDescriptor (mY m13).desc = some ⟨[.int], (some .boolean)⟩ := by decide +kernel
theorem hm_14 : (mY m14).cls = cN PP.2 := rfl
theorem hn_14 : 0 < mN m14 := by decide
theorem pd_14 : parseMethodDescriptor (mY m14).desc = some ⟨[.int, .int, .int], (some .int)⟩ := by decide +kernel
theorem hm_15 : (mY m15).cls = cN PP.2 := rfl
theorem hn_15 : 0 < mN m15 := by decide
theorem pd_15 : parseMethodDescriptor (mY m15).desc = some ⟨[.int, .int, .int, .int], (some .boolean)⟩ := by decide +kernel
theorem hm_16 : (mY m16).cls = cN PP.2 := rfl
theorem hn_16 : 0 < mN m16 := by decide
theorem pd_16 : parseMethodDescriptor (mY m16).desc = some ⟨[], none⟩ := by decide +kernel
theorem hm_17 : (mY m17).cls = cN PP.2 := rfl
theorem hn_17 : 0 < mN m17 := by decide
theorem pd_17 : parseMethodDescriptor (mY m17).desc = some ⟨[.int], (some .boolean)⟩ := by decide +kernel
theorem hm_18 : (mY m18).cls = cN PP.2 := rfl
theorem hn_18 : 0 < mN m18 := by decide
theorem pd_18 : parseMethodDescriptor (mY m18).desc = some ⟨[.int], (some .boolean)⟩ := by decide +kernel
theorem hm_19 : (mY m19).cls = cN PP.2 := rfl
theorem hn_19 : 0 < mN m19 := by decide
theorem pd_19 : parseMethodDescriptor (mY m19).desc = some ⟨[.int, .int, .int, .int], (some .int)⟩ := by decide +kernel
theorem hm_20 : (mY m20).cls = cN PP.2 := rfl
theorem hn_20 : 0 < mN m20 := by decide
theorem pd_20 : parseMethodDescriptor (mY m20).desc = some ⟨[.int, .int, .int, .int, .int], (some .boolean)⟩ := by decide +kernel
theorem hm_21 : (mY m21).cls = cN PP.2 := rfl
theorem hn_21 : 0 < mN m21 := by decide
theorem pd_21 : parseMethodDescriptor (mY m21).desc = some ⟨[], none⟩ := by decide +kernel
theorem hm_22 : (mY m22).cls = cN PP.2 := rfl
theorem hn_22 : 0 < mN m22 := by decide
theorem pd_22 : parseMethodDescriptor (mY m22).desc = some ⟨[.int, .int], (some .int)⟩ := by decide +kernel
theorem hm_23 : (mY m23).cls = cN PP.2 := rfl
theorem hn_23 : 0 < mN m23 := by decide
theorem pd_23 : parseMethodDescriptor (mY m23).desc = some ⟨[.int, .int, .int, .int], (some .int)⟩ := by decide +kernel
theorem hm_24 : (mY m24).cls = cN PP.2 := rfl
theorem hn_24 : 0 < mN m24 := by decide
theorem pd_24 : parseMethodDescriptor (mY m24).desc = some ⟨[.int, .int, .int], (some .int)⟩ := by decide +kernel
theorem hm_25 : (mY m25).cls = cN PP.2 := rfl
theorem hn_25 : 0 < mN m25 := by decide
theorem pd_25 : parseMethodDescriptor (mY m25).desc = some ⟨[.int, .int], (some .int)⟩ := by decide +kernel
theorem hm_26 : (mY m26).cls = cN PP.2 := rfl
theorem hn_26 : 0 < mN m26 := by decide
theorem pd_26 : parseMethodDescriptor (mY m26).desc = some ⟨[.int, .int, .int, .int], (some .int)⟩ := by decide +kernel
theorem hm_27 : (mY m27).cls = cN PP.2 := rfl
theorem hn_27 : 0 < mN m27 := by decide
theorem pd_27 : parseMethodDescriptor (mY m27).desc = some ⟨[.int, .int, .int], (some .boolean)⟩ := by decide +kernel
theorem hm_28 : (mY m28).cls = cN PP.2 := rfl
theorem hn_28 : 0 < mN m28 := by decide
theorem pd_28 : parseMethodDescriptor (mY m28).desc = some ⟨[.int], (some .int)⟩ := by decide +kernel
theorem hm_29 : (mY m29).cls = cN PP.2 := rfl
theorem hn_29 : 0 < mN m29 := by decide
theorem pd_29 : parseMethodDescriptor (mY m29).desc = some ⟨[.int, .int, .int], (some .boolean)⟩ := by decide +kernel
theorem hm_30 : (mY m30).cls = cN PP.2 := rfl
theorem hn_30 : 0 < mN m30 := by decide
theorem pd_30 : parseMethodDescriptor (mY m30).desc = some ⟨[.int, .int], (some .boolean)⟩ := by decide +kernel
theorem hm_31 : (mY m31).cls = cN PP.2 := rfl
theorem hn_31 : 0 < mN m31 := by decide
theorem pd_31 : parseMethodDescriptor (mY m31).desc = some ⟨[.int, .int], none⟩ := by decide +kernel
theorem hm_32 : (mY m32).cls = cN PP.2 := rfl
theorem hn_32 : 0 < mN m32 := by decide
theorem pd_32 : parseMethodDescriptor (mY m32).desc = some ⟨[], none⟩ := by decide +kernel
theorem hm_33 : (mY m33).cls = cN PP.2 := rfl
theorem hn_33 : 0 < mN m33 := by decide
theorem pd_33 : parseMethodDescriptor (mY m33).desc = some ⟨[.int, .int, .int, .int, .int], (some .boolean)⟩ := by decide +kernel
theorem hm_34 : (mY m34).cls = cN PP.2 := rfl
theorem hn_34 : 0 < mN m34 := by decide
theorem pd_34 : parseMethodDescriptor (mY m34).desc = some ⟨[.int], none⟩ := by decide +kernel
theorem hm_35 : (mY m35).cls = cN PP.2 := rfl
theorem hn_35 : 0 < mN m35 := by decide
theorem pd_35 : parseMethodDescriptor (mY m35).desc = some ⟨[.int, .int, .int, .int], (some .int)⟩ := by decide +kernel
theorem hm_36 : (mY m36).cls = cN PP.2 := rfl
theorem hn_36 : 0 < mN m36 := by decide
theorem pd_36 : parseMethodDescriptor (mY m36).desc = some ⟨[.int, .int, .int, .int], (some .int)⟩ := by decide +kernel
theorem hm_37 : (mY m37).cls = cN PP.2 := rfl
theorem hn_37 : 0 < mN m37 := by decide
theorem pd_37 : parseMethodDescriptor (mY m37).desc = some ⟨[.int, .int], none⟩ := by decide +kernel
theorem hm_38 : (mY m38).cls = cN PP.2 := rfl
theorem hn_38 : 0 < mN m38 := by decide
theorem pd_38 : parseMethodDescriptor (mY m38).desc = some ⟨[], none⟩ := by decide +kernel
theorem hm_39 : (mY m39).cls = cN PP.2 := rfl
theorem hn_39 : 0 < mN m39 := by decide
theorem pd_39 : parseMethodDescriptor (mY m39).desc = some ⟨[.int, .int, .int, .int], (some .boolean)⟩ := by decide +kernel
theorem hm_40 : (mY m40).cls = cN PP.2 := rfl
theorem hn_40 : 0 < mN m40 := by decide
theorem pd_40 : parseMethodDescriptor (mY m40).desc = some ⟨[.int, .int, .int], (some .int)⟩ := by decide +kernel
theorem hm_41 : (mY m41).cls = cN PP.2 := rfl
theorem hn_41 : 0 < mN m41 := by decide
theorem pd_41 : parseMethodDescriptor (mY m41).desc = some ⟨[.int, .int, .int], (some .int)⟩ := by decide +kernel
theorem hm_42 : (mY m42).cls = cN PP.2 := rfl
theorem hn_42 : 0 < mN m42 := by decide
theorem pd_42 : parseMethodDescriptor (mY m42).desc = some ⟨[.int, .int, .int, .int], (some .int)⟩ := by decide +kernel
theorem hm_43 : (mY m43).cls = cN PP.2 := rfl
theorem hn_43 : 0 < mN m43 := by decide
theorem pd_43 : parseMethodDescriptor (mY m43).desc = some ⟨[.int, .int, .int], (some .boolean)⟩ := by decide +kernel
theorem hm_44 : (mY m44).cls = cN PP.2 := rfl
theorem hn_44 : 0 < mN m44 := by decide
theorem pd_44 : parseMethodDescriptor (mY m44).desc = some ⟨[.int, .int], (some .boolean)⟩ := by decide +kernel
theorem hm_45 : (mY m45).cls = cN PP.2 := rfl
theorem hn_45 : 0 < mN m45 := by decide
theorem pd_45 : parseMethodDescriptor (mY m45).desc = some ⟨[.int, .int], none⟩ := by decide +kernel
theorem hm_46 : (mY m46).cls = cN PP.2 := rfl
theorem hn_46 : 0 < mN m46 := by decide
theorem pd_46 : parseMethodDescriptor (mY m46).desc = some ⟨[], none⟩ := by decide +kernel
theorem hm_47 : (mY m47).cls = cN PP.2 := rfl
theorem hn_47 : 0 < mN m47 := by decide
theorem pd_47 : parseMethodDescriptor (mY m47).desc = some ⟨[], (some .boolean)⟩ := by decide +kernel
theorem hm_48 : (mY m48).cls = cN PP.2 := rfl
theorem hn_48 : 0 < mN m48 := by decide
theorem pd_48 : parseMethodDescriptor (mY m48).desc = some ⟨[], (some .int)⟩ := by decide +kernel
theorem hm_49 : (mY m49).cls = cN PP.2 := rfl
theorem hn_49 : 0 < mN m49 := by decide
theorem pd_49 : parseMethodDescriptor (mY m49).desc = some ⟨[], (some .int)⟩ := by decide +kernel
theorem hm_50 : (mY m50).cls = cN PP.2 := rfl
theorem hn_50 : 0 < mN m50 := by decide
theorem pd_50 : parseMethodDescriptor (mY m50).desc = some ⟨[.int], (some .int)⟩ := by decide +kernel
theorem hm_51 : (mY m51).cls = cN PP.2 := rfl
theorem hn_51 : 0 < mN m51 := by decide
theorem pd_51 : parseMethodDescriptor (mY m51).desc = some ⟨[.int, .int, .int], (some .int)⟩ := by decide +kernel
theorem hm_52 : (mY m52).cls = cN PP.2 := rfl
theorem hn_52 : 0 < mN m52 := by decide
theorem pd_52 : parseMethodDescriptor (mY m52).desc = some ⟨[.int], (some .int)⟩ := by decide +kernel
theorem hm_53 : (mY m53).cls = cN PP.2 := rfl
theorem hn_53 : 0 < mN m53 := by decide
theorem pd_53 : parseMethodDescriptor (mY m53).desc = some ⟨[.int], (some .int)⟩ := by decide +kernel
theorem hm_54 : (mY m54).cls = cN PP.2 := rfl
theorem hn_54 : 0 < mN m54 := by decide
theorem pd_54 : parseMethodDescriptor (mY m54).desc = some ⟨[.int], (some .int)⟩ := by decide +kernel
theorem hn_55 : 0 < mN m55 := by decide
theorem d0_0 : decode (mB m0) 0 = .ok (.iload_n 1, 1) := by decide +kernel
theorem d0_1 : decode (mB m0) 1 = .ok (.iconst 2, 1) := by decide +kernel
theorem d0_2 : decode (mB m0) 2 = .ok (.if_icmp .ge 5, 3) := by decide +kernel
theorem d0_5 : decode (mB m0) 5 = .ok (.iconst 2, 1) := by decide +kernel
theorem d0_6 : decode (mB m0) 6 = .ok (.ireturn, 1) := by decide +kernel
theorem d0_7 : decode (mB m0) 7 = .ok (.iload_n 1, 1) := by decide +kernel
theorem d0_8 : decode (mB m0) 8 = .ok (.bipush 8, 2) := by decide +kernel
theorem d0_10 : decode (mB m0) 10 = .ok (.if_icmp .le 6, 3) := by decide +kernel
theorem d0_13 : decode (mB m0) 13 = .ok (.bipush 8, 2) := by decide +kernel
theorem d0_15 : decode (mB m0) 15 = .ok (.ireturn, 1) := by decide +kernel
theorem d0_16 : decode (mB m0) 16 = .ok (.iload_n 1, 1) := by decide +kernel
theorem d0_17 : decode (mB m0) 17 = .ok (.ireturn, 1) := by decide +kernel
theorem d1_0 : decode (mB m1) 0 = .ok (.aload_n 0, 1) := by decide +kernel
theorem d1_1 : decode (mB m1) 1 = .ok (.iconst 0, 1) := by decide +kernel
theorem d1_2 : decode (mB m1) 2 = .ok (.putfield 95, 3) := by decide +kernel
theorem d1_5 : decode (mB m1) 5 = .ok (.aload_n 0, 1) := by decide +kernel
theorem d1_6 : decode (mB m1) 6 = .ok (.iconst (-1), 1) := by decide +kernel
theorem d1_7 : decode (mB m1) 7 = .ok (.putfield 98, 3) := by decide +kernel
theorem d1_10 : decode (mB m1) 10 = .ok (.return_, 1) := by decide +kernel
theorem d2_0 : decode (mB m2) 0 = .ok (.aload_n 0, 1) := by decide +kernel
theorem d2_1 : decode (mB m2) 1 = .ok (.iconst 0, 1) := by decide +kernel
theorem d2_2 : decode (mB m2) 2 = .ok (.putfield 64, 3) := by decide +kernel
theorem d2_5 : decode (mB m2) 5 = .ok (.aload_n 0, 1) := by decide +kernel
theorem d2_6 : decode (mB m2) 6 = .ok (.iconst 0, 1) := by decide +kernel
theorem d2_7 : decode (mB m2) 7 = .ok (.putfield 67, 3) := by decide +kernel
theorem d2_10 : decode (mB m2) 10 = .ok (.aload_n 0, 1) := by decide +kernel
theorem d2_11 : decode (mB m2) 11 = .ok (.invokevirtual 74, 3) := by decide +kernel
theorem d2_14 : decode (mB m2) 14 = .ok (.iconst 0, 1) := by decide +kernel
theorem d2_15 : decode (mB m2) 15 = .ok (.istore_n 1, 1) := by decide +kernel
theorem d2_16 : decode (mB m2) 16 = .ok (.iload_n 1, 1) := by decide +kernel
theorem d2_17 : decode (mB m2) 17 = .ok (.bipush 16, 2) := by decide +kernel
theorem d2_19 : decode (mB m2) 19 = .ok (.if_icmp .ge 37, 3) := by decide +kernel
theorem d2_22 : decode (mB m2) 22 = .ok (.aload_n 0, 1) := by decide +kernel
theorem d2_23 : decode (mB m2) 23 = .ok (.getfield 14, 3) := by decide +kernel
theorem d2_26 : decode (mB m2) 26 = .ok (.iload_n 1, 1) := by decide +kernel
theorem d2_27 : decode (mB m2) 27 = .ok (.iconst 0, 1) := by decide +kernel
theorem d2_28 : decode (mB m2) 28 = .ok (.iastore, 1) := by decide +kernel
theorem d2_29 : decode (mB m2) 29 = .ok (.aload_n 0, 1) := by decide +kernel
theorem d2_30 : decode (mB m2) 30 = .ok (.getfield 18, 3) := by decide +kernel
theorem d2_33 : decode (mB m2) 33 = .ok (.iload_n 1, 1) := by decide +kernel
theorem d2_34 : decode (mB m2) 34 = .ok (.iconst 0, 1) := by decide +kernel
theorem d2_35 : decode (mB m2) 35 = .ok (.iastore, 1) := by decide +kernel
theorem d2_36 : decode (mB m2) 36 = .ok (.aload_n 0, 1) := by decide +kernel
theorem d2_37 : decode (mB m2) 37 = .ok (.getfield 21, 3) := by decide +kernel
theorem d2_40 : decode (mB m2) 40 = .ok (.iload_n 1, 1) := by decide +kernel
theorem d2_41 : decode (mB m2) 41 = .ok (.iconst 0, 1) := by decide +kernel
theorem d2_42 : decode (mB m2) 42 = .ok (.iastore, 1) := by decide +kernel
theorem d2_43 : decode (mB m2) 43 = .ok (.aload_n 0, 1) := by decide +kernel
theorem d2_44 : decode (mB m2) 44 = .ok (.getfield 24, 3) := by decide +kernel
theorem d2_47 : decode (mB m2) 47 = .ok (.iload_n 1, 1) := by decide +kernel
theorem d2_48 : decode (mB m2) 48 = .ok (.iconst 0, 1) := by decide +kernel
theorem d2_49 : decode (mB m2) 49 = .ok (.iastore, 1) := by decide +kernel
theorem d2_50 : decode (mB m2) 50 = .ok (.iinc 1 1, 3) := by decide +kernel
theorem d2_53 : decode (mB m2) 53 = .ok (.goto (-37), 3) := by decide +kernel
theorem d2_56 : decode (mB m2) 56 = .ok (.iconst 0, 1) := by decide +kernel
theorem d2_57 : decode (mB m2) 57 = .ok (.istore_n 1, 1) := by decide +kernel
theorem d2_58 : decode (mB m2) 58 = .ok (.iload_n 1, 1) := by decide +kernel
theorem d2_59 : decode (mB m2) 59 = .ok (.bipush 12, 2) := by decide +kernel
theorem d2_61 : decode (mB m2) 61 = .ok (.if_icmp .ge 30, 3) := by decide +kernel
theorem d2_64 : decode (mB m2) 64 = .ok (.aload_n 0, 1) := by decide +kernel
theorem d2_65 : decode (mB m2) 65 = .ok (.getfield 27, 3) := by decide +kernel
theorem d2_68 : decode (mB m2) 68 = .ok (.iload_n 1, 1) := by decide +kernel
theorem d2_69 : decode (mB m2) 69 = .ok (.iconst 0, 1) := by decide +kernel
theorem d2_70 : decode (mB m2) 70 = .ok (.iastore, 1) := by decide +kernel
theorem d2_71 : decode (mB m2) 71 = .ok (.aload_n 0, 1) := by decide +kernel
theorem d2_72 : decode (mB m2) 72 = .ok (.getfield 30, 3) := by decide +kernel
theorem d2_75 : decode (mB m2) 75 = .ok (.iload_n 1, 1) := by decide +kernel
theorem d2_76 : decode (mB m2) 76 = .ok (.iconst 0, 1) := by decide +kernel
theorem d2_77 : decode (mB m2) 77 = .ok (.iastore, 1) := by decide +kernel
theorem d2_78 : decode (mB m2) 78 = .ok (.aload_n 0, 1) := by decide +kernel
theorem d2_79 : decode (mB m2) 79 = .ok (.getfield 33, 3) := by decide +kernel
theorem d2_82 : decode (mB m2) 82 = .ok (.iload_n 1, 1) := by decide +kernel
theorem d2_83 : decode (mB m2) 83 = .ok (.iconst 0, 1) := by decide +kernel
theorem d2_84 : decode (mB m2) 84 = .ok (.iastore, 1) := by decide +kernel
theorem d2_85 : decode (mB m2) 85 = .ok (.iinc 1 1, 3) := by decide +kernel
theorem d2_88 : decode (mB m2) 88 = .ok (.goto (-30), 3) := by decide +kernel
theorem d2_91 : decode (mB m2) 91 = .ok (.iconst 0, 1) := by decide +kernel
theorem d2_92 : decode (mB m2) 92 = .ok (.istore_n 1, 1) := by decide +kernel
theorem d2_93 : decode (mB m2) 93 = .ok (.iload_n 1, 1) := by decide +kernel
theorem d2_94 : decode (mB m2) 94 = .ok (.bipush 36, 2) := by decide +kernel
theorem d2_96 : decode (mB m2) 96 = .ok (.if_icmp .ge 16, 3) := by decide +kernel
theorem d2_99 : decode (mB m2) 99 = .ok (.aload_n 0, 1) := by decide +kernel
theorem d2_100 : decode (mB m2) 100 = .ok (.getfield 36, 3) := by decide +kernel
theorem d2_103 : decode (mB m2) 103 = .ok (.iload_n 1, 1) := by decide +kernel
theorem d2_104 : decode (mB m2) 104 = .ok (.iconst 0, 1) := by decide +kernel
theorem d2_105 : decode (mB m2) 105 = .ok (.iastore, 1) := by decide +kernel
theorem d2_106 : decode (mB m2) 106 = .ok (.iinc 1 1, 3) := by decide +kernel
theorem d2_109 : decode (mB m2) 109 = .ok (.goto (-16), 3) := by decide +kernel
theorem d2_112 : decode (mB m2) 112 = .ok (.return_, 1) := by decide +kernel
theorem d3_0 : decode (mB m3) 0 = .ok (.iconst 0, 1) := by decide +kernel
theorem d3_1 : decode (mB m3) 1 = .ok (.istore_n 1, 1) := by decide +kernel
theorem d3_2 : decode (mB m3) 2 = .ok (.iload_n 1, 1) := by decide +kernel
theorem d3_3 : decode (mB m3) 3 = .ok (.sipush 1024, 3) := by decide +kernel
theorem d3_6 : decode (mB m3) 6 = .ok (.if_icmp .ge 29, 3) := by decide +kernel
theorem d3_9 : decode (mB m3) 9 = .ok (.aload_n 0, 1) := by decide +kernel
theorem d3_10 : decode (mB m3) 10 = .ok (.getfield 39, 3) := by decide +kernel
theorem d3_13 : decode (mB m3) 13 = .ok (.iload_n 1, 1) := by decide +kernel
theorem d3_14 : decode (mB m3) 14 = .ok (.aload_n 0, 1) := by decide +kernel
theorem d3_15 : decode (mB m3) 15 = .ok (.getfield 8, 3) := by decide +kernel
theorem d3_18 : decode (mB m3) 18 = .ok (.iastore, 1) := by decide +kernel
theorem d3_19 : decode (mB m3) 19 = .ok (.aload_n 0, 1) := by decide +kernel
theorem d3_20 : decode (mB m3) 20 = .ok (.getfield 48, 3) := by decide +kernel
theorem d3_23 : decode (mB m3) 23 = .ok (.iload_n 1, 1) := by decide +kernel
theorem d3_24 : decode (mB m3) 24 = .ok (.aload_n 0, 1) := by decide +kernel
theorem d3_25 : decode (mB m3) 25 = .ok (.getfield 8, 3) := by decide +kernel
theorem d3_28 : decode (mB m3) 28 = .ok (.iastore, 1) := by decide +kernel
theorem d3_29 : decode (mB m3) 29 = .ok (.iinc 1 1, 3) := by decide +kernel
theorem d3_32 : decode (mB m3) 32 = .ok (.goto (-30), 3) := by decide +kernel
theorem d3_35 : decode (mB m3) 35 = .ok (.iconst 0, 1) := by decide +kernel
theorem d3_36 : decode (mB m3) 36 = .ok (.istore_n 1, 1) := by decide +kernel
theorem d3_37 : decode (mB m3) 37 = .ok (.iload_n 1, 1) := by decide +kernel
theorem d3_38 : decode (mB m3) 38 = .ok (.sipush 3072, 3) := by decide +kernel
theorem d3_41 : decode (mB m3) 41 = .ok (.if_icmp .ge 29, 3) := by decide +kernel
theorem d3_44 : decode (mB m3) 44 = .ok (.aload_n 0, 1) := by decide +kernel
theorem d3_45 : decode (mB m3) 45 = .ok (.getfield 42, 3) := by decide +kernel
theorem d3_48 : decode (mB m3) 48 = .ok (.iload_n 1, 1) := by decide +kernel
theorem d3_49 : decode (mB m3) 49 = .ok (.aload_n 0, 1) := by decide +kernel
theorem d3_50 : decode (mB m3) 50 = .ok (.getfield 8, 3) := by decide +kernel
theorem d3_53 : decode (mB m3) 53 = .ok (.iastore, 1) := by decide +kernel
theorem d3_54 : decode (mB m3) 54 = .ok (.aload_n 0, 1) := by decide +kernel
theorem d3_55 : decode (mB m3) 55 = .ok (.getfield 45, 3) := by decide +kernel
theorem d3_58 : decode (mB m3) 58 = .ok (.iload_n 1, 1) := by decide +kernel
theorem d3_59 : decode (mB m3) 59 = .ok (.aload_n 0, 1) := by decide +kernel
theorem d3_60 : decode (mB m3) 60 = .ok (.getfield 8, 3) := by decide +kernel
theorem d3_63 : decode (mB m3) 63 = .ok (.iastore, 1) := by decide +kernel
theorem d3_64 : decode (mB m3) 64 = .ok (.iinc 1 1, 3) := by decide +kernel
theorem d3_67 : decode (mB m3) 67 = .ok (.goto (-30), 3) := by decide +kernel
theorem d3_70 : decode (mB m3) 70 = .ok (.return_, 1) := by decide +kernel
theorem d4_0 : decode (mB m4) 0 = .ok (.aload_n 0, 1) := by decide +kernel
theorem d4_1 : decode (mB m4) 1 = .ok (.invokespecial 1, 3) := by decide +kernel
theorem d4_4 : decode (mB m4) 4 = .ok (.aload_n 0, 1) := by decide +kernel
theorem d4_5 : decode (mB m4) 5 = .ok (.ldc 7, 2) := by decide +kernel
theorem d4_7 : decode (mB m4) 7 = .ok (.putfield 8, 3) := by decide +kernel
theorem d4_10 : decode (mB m4) 10 = .ok (.aload_n 0, 1) := by decide +kernel
theorem d4_11 : decode (mB m4) 11 = .ok (.bipush 16, 2) := by decide +kernel
theorem d4_13 : decode (mB m4) 13 = .ok (.newarray .int, 2) := by decide +kernel
theorem d4_15 : decode (mB m4) 15 = .ok (.putfield 14, 3) := by decide +kernel
theorem d4_18 : decode (mB m4) 18 = .ok (.aload_n 0, 1) := by decide +kernel
theorem d4_19 : decode (mB m4) 19 = .ok (.bipush 16, 2) := by decide +kernel
theorem d4_21 : decode (mB m4) 21 = .ok (.newarray .int, 2) := by decide +kernel
theorem d4_23 : decode (mB m4) 23 = .ok (.putfield 18, 3) := by decide +kernel
theorem d4_26 : decode (mB m4) 26 = .ok (.aload_n 0, 1) := by decide +kernel
theorem d4_27 : decode (mB m4) 27 = .ok (.bipush 16, 2) := by decide +kernel
theorem d4_29 : decode (mB m4) 29 = .ok (.newarray .int, 2) := by decide +kernel
theorem d4_31 : decode (mB m4) 31 = .ok (.putfield 21, 3) := by decide +kernel
theorem d4_34 : decode (mB m4) 34 = .ok (.aload_n 0, 1) := by decide +kernel
theorem d4_35 : decode (mB m4) 35 = .ok (.bipush 16, 2) := by decide +kernel
theorem d4_37 : decode (mB m4) 37 = .ok (.newarray .int, 2) := by decide +kernel
theorem d4_39 : decode (mB m4) 39 = .ok (.putfield 24, 3) := by decide +kernel
theorem d4_42 : decode (mB m4) 42 = .ok (.aload_n 0, 1) := by decide +kernel
theorem d4_43 : decode (mB m4) 43 = .ok (.bipush 12, 2) := by decide +kernel
theorem d4_45 : decode (mB m4) 45 = .ok (.newarray .int, 2) := by decide +kernel
theorem d4_47 : decode (mB m4) 47 = .ok (.putfield 27, 3) := by decide +kernel
theorem d4_50 : decode (mB m4) 50 = .ok (.aload_n 0, 1) := by decide +kernel
theorem d4_51 : decode (mB m4) 51 = .ok (.bipush 12, 2) := by decide +kernel
theorem d4_53 : decode (mB m4) 53 = .ok (.newarray .int, 2) := by decide +kernel
theorem d4_55 : decode (mB m4) 55 = .ok (.putfield 30, 3) := by decide +kernel
theorem d4_58 : decode (mB m4) 58 = .ok (.aload_n 0, 1) := by decide +kernel
theorem d4_59 : decode (mB m4) 59 = .ok (.bipush 12, 2) := by decide +kernel
theorem d4_61 : decode (mB m4) 61 = .ok (.newarray .int, 2) := by decide +kernel
theorem d4_63 : decode (mB m4) 63 = .ok (.putfield 33, 3) := by decide +kernel
theorem d4_66 : decode (mB m4) 66 = .ok (.aload_n 0, 1) := by decide +kernel
theorem d4_67 : decode (mB m4) 67 = .ok (.bipush 36, 2) := by decide +kernel
theorem d4_69 : decode (mB m4) 69 = .ok (.newarray .int, 2) := by decide +kernel
theorem d4_71 : decode (mB m4) 71 = .ok (.putfield 36, 3) := by decide +kernel
theorem d4_74 : decode (mB m4) 74 = .ok (.aload_n 0, 1) := by decide +kernel
theorem d4_75 : decode (mB m4) 75 = .ok (.sipush 1024, 3) := by decide +kernel
theorem d4_78 : decode (mB m4) 78 = .ok (.newarray .int, 2) := by decide +kernel
theorem d4_80 : decode (mB m4) 80 = .ok (.putfield 39, 3) := by decide +kernel
theorem d4_83 : decode (mB m4) 83 = .ok (.aload_n 0, 1) := by decide +kernel
theorem d4_84 : decode (mB m4) 84 = .ok (.sipush 3072, 3) := by decide +kernel
theorem d4_87 : decode (mB m4) 87 = .ok (.newarray .int, 2) := by decide +kernel
theorem d4_89 : decode (mB m4) 89 = .ok (.putfield 42, 3) := by decide +kernel
theorem d4_92 : decode (mB m4) 92 = .ok (.aload_n 0, 1) := by decide +kernel
theorem d4_93 : decode (mB m4) 93 = .ok (.sipush 3072, 3) := by decide +kernel
theorem d4_96 : decode (mB m4) 96 = .ok (.newarray .int, 2) := by decide +kernel
theorem d4_98 : decode (mB m4) 98 = .ok (.putfield 45, 3) := by decide +kernel
theorem d4_101 : decode (mB m4) 101 = .ok (.aload_n 0, 1) := by decide +kernel
theorem d4_102 : decode (mB m4) 102 = .ok (.sipush 1024, 3) := by decide +kernel
theorem d4_105 : decode (mB m4) 105 = .ok (.newarray .int, 2) := by decide +kernel
theorem d4_107 : decode (mB m4) 107 = .ok (.putfield 48, 3) := by decide +kernel
theorem d4_110 : decode (mB m4) 110 = .ok (.aload_n 0, 1) := by decide +kernel
theorem d4_111 : decode (mB m4) 111 = .ok (.aload_n 0, 1) := by decide +kernel
theorem d4_112 : decode (mB m4) 112 = .ok (.iload_n 1, 1) := by decide +kernel
theorem d4_113 : decode (mB m4) 113 = .ok (.invokevirtual 51, 3) := by decide +kernel
theorem d4_116 : decode (mB m4) 116 = .ok (.putfield 55, 3) := by decide +kernel
theorem d4_119 : decode (mB m4) 119 = .ok (.aload_n 0, 1) := by decide +kernel
theorem d4_120 : decode (mB m4) 120 = .ok (.invokevirtual 58, 3) := by decide +kernel
theorem d4_123 : decode (mB m4) 123 = .ok (.aload_n 0, 1) := by decide +kernel
theorem d4_124 : decode (mB m4) 124 = .ok (.invokevirtual 61, 3) := by decide +kernel
theorem d4_127 : decode (mB m4) 127 = .ok (.return_, 1) := by decide +kernel
theorem d5_0 : decode (mB m5) 0 = .ok (.iload_n 1, 1) := by decide +kernel
theorem d5_1 : decode (mB m5) 1 = .ok (.iload_n 2, 1) := by decide +kernel
theorem d5_2 : decode (mB m5) 2 = .ok (.if_icmp .lt 12, 3) := by decide +kernel
theorem d5_5 : decode (mB m5) 5 = .ok (.iload_n 1, 1) := by decide +kernel
theorem d5_6 : decode (mB m5) 6 = .ok (.iload_n 3, 1) := by decide +kernel
theorem d5_7 : decode (mB m5) 7 = .ok (.if_icmp .gt 7, 3) := by decide +kernel
theorem d5_10 : decode (mB m5) 10 = .ok (.iconst 1, 1) := by decide +kernel
theorem d5_11 : decode (mB m5) 11 = .ok (.goto 4, 3) := by decide +kernel
theorem d5_14 : decode (mB m5) 14 = .ok (.iconst 0, 1) := by decide +kernel
theorem d5_15 : decode (mB m5) 15 = .ok (.ireturn, 1) := by decide +kernel
theorem d6_0 : decode (mB m6) 0 = .ok (.aload_n 0, 1) := by decide +kernel
theorem d6_1 : decode (mB m6) 1 = .ok (.getfield 64, 3) := by decide +kernel
theorem d6_4 : decode (mB m6) 4 = .ok (.bipush 16, 2) := by decide +kernel
theorem d6_6 : decode (mB m6) 6 = .ok (.if_icmp .lt 5, 3) := by decide +kernel
theorem d6_9 : decode (mB m6) 9 = .ok (.iconst 1, 1) := by decide +kernel
theorem d6_10 : decode (mB m6) 10 = .ok (.ireturn, 1) := by decide +kernel
theorem d6_11 : decode (mB m6) 11 = .ok (.iload_n 1, 1) := by decide +kernel
theorem d6_12 : decode (mB m6) 12 = .ok (.ifCond .lt 18, 3) := by decide +kernel
theorem d6_15 : decode (mB m6) 15 = .ok (.iload_n 2, 1) := by decide +kernel
theorem d6_16 : decode (mB m6) 16 = .ok (.aload_n 0, 1) := by decide +kernel
theorem d6_17 : decode (mB m6) 17 = .ok (.getfield 55, 3) := by decide +kernel
theorem d6_20 : decode (mB m6) 20 = .ok (.iconst 1, 1) := by decide +kernel
theorem d6_21 : decode (mB m6) 21 = .ok (.isub, 1) := by decide +kernel
theorem d6_22 : decode (mB m6) 22 = .ok (.if_icmp .gt 8, 3) := by decide +kernel
theorem d6_25 : decode (mB m6) 25 = .ok (.iload_n 1, 1) := by decide +kernel
theorem d6_26 : decode (mB m6) 26 = .ok (.iload_n 2, 1) := by decide +kernel
theorem d6_27 : decode (mB m6) 27 = .ok (.if_icmp .lt 5, 3) := by decide +kernel
theorem d6_30 : decode (mB m6) 30 = .ok (.iconst 1, 1) := by decide +kernel
theorem d6_31 : decode (mB m6) 31 = .ok (.ireturn, 1) := by decide +kernel
theorem d6_32 : decode (mB m6) 32 = .ok (.aload_n 0, 1) := by decide +kernel
theorem d6_33 : decode (mB m6) 33 = .ok (.iload_n 3, 1) := by decide +kernel
theorem d6_34 : decode (mB m6) 34 = .ok (.iconst 0, 1) := by decide +kernel
theorem d6_35 : decode (mB m6) 35 = .ok (.bipush 7, 2) := by decide +kernel
theorem d6_37 : decode (mB m6) 37 = .ok (.invokevirtual 129, 3) := by decide +kernel
theorem d6_40 : decode (mB m6) 40 = .ok (.ifCond .ne 5, 3) := by decide +kernel
theorem d6_43 : decode (mB m6) 43 = .ok (.iconst 1, 1) := by decide +kernel
theorem d6_44 : decode (mB m6) 44 = .ok (.ireturn, 1) := by decide +kernel
theorem d6_45 : decode (mB m6) 45 = .ok (.aload_n 0, 1) := by decide +kernel
theorem d6_46 : decode (mB m6) 46 = .ok (.iload 4, 2) := by decide +kernel
theorem d6_48 : decode (mB m6) 48 = .ok (.iconst 0, 1) := by decide +kernel
theorem d6_49 : decode (mB m6) 49 = .ok (.bipush 100, 2) := by decide +kernel
theorem d6_51 : decode (mB m6) 51 = .ok (.invokevirtual 129, 3) := by decide +kernel
theorem d6_54 : decode (mB m6) 54 = .ok (.ifCond .ne 7, 3) := by decide +kernel
theorem d6_57 : decode (mB m6) 57 = .ok (.iconst 1, 1) := by decide +kernel
theorem d6_58 : decode (mB m6) 58 = .ok (.goto 4, 3) := by decide +kernel
theorem d6_61 : decode (mB m6) 61 = .ok (.iconst 0, 1) := by decide +kernel
theorem d6_62 : decode (mB m6) 62 = .ok (.ireturn, 1) := by decide +kernel
theorem d7_0 : decode (mB m7) 0 = .ok (.aload_n 0, 1) := by decide +kernel
theorem d7_1 : decode (mB m7) 1 = .ok (.iload_n 1, 1) := by decide +kernel
theorem d7_2 : decode (mB m7) 2 = .ok (.iload_n 2, 1) := by decide +kernel
theorem d7_3 : decode (mB m7) 3 = .ok (.iload_n 3, 1) := by decide +kernel
theorem d7_4 : decode (mB m7) 4 = .ok (.iload 4, 2) := by decide +kernel
theorem d7_6 : decode (mB m7) 6 = .ok (.invokevirtual 70, 3) := by decide +kernel
theorem d7_9 : decode (mB m7) 9 = .ok (.ifCond .eq 5, 3) := by decide +kernel
theorem d7_12 : decode (mB m7) 12 = .ok (.iconst (-1), 1) := by decide +kernel
theorem d7_13 : decode (mB m7) 13 = .ok (.ireturn, 1) := by decide +kernel
theorem d7_14 : decode (mB m7) 14 = .ok (.aload_n 0, 1) := by decide +kernel
theorem d7_15 : decode (mB m7) 15 = .ok (.getfield 64, 3) := by decide +kernel
theorem d7_18 : decode (mB m7) 18 = .ok (.istore 5, 2) := by decide +kernel
theorem d7_20 : decode (mB m7) 20 = .ok (.aload_n 0, 1) := by decide +kernel
theorem d7_21 : decode (mB m7) 21 = .ok (.getfield 14, 3) := by decide +kernel
theorem d7_24 : decode (mB m7) 24 = .ok (.iload 5, 2) := by decide +kernel
theorem d7_26 : decode (mB m7) 26 = .ok (.iload_n 1, 1) := by decide +kernel
theorem d7_27 : decode (mB m7) 27 = .ok (.iastore, 1) := by decide +kernel
theorem d7_28 : decode (mB m7) 28 = .ok (.aload_n 0, 1) := by decide +kernel
theorem d7_29 : decode (mB m7) 29 = .ok (.getfield 18, 3) := by decide +kernel
theorem d7_32 : decode (mB m7) 32 = .ok (.iload 5, 2) := by decide +kernel
theorem d7_34 : decode (mB m7) 34 = .ok (.iload_n 2, 1) := by decide +kernel
theorem d7_35 : decode (mB m7) 35 = .ok (.iastore, 1) := by decide +kernel
theorem d7_36 : decode (mB m7) 36 = .ok (.aload_n 0, 1) := by decide +kernel
theorem d7_37 : decode (mB m7) 37 = .ok (.getfield 21, 3) := by decide +kernel
theorem d7_40 : decode (mB m7) 40 = .ok (.iload 5, 2) := by decide +kernel
theorem d7_42 : decode (mB m7) 42 = .ok (.iload_n 3, 1) := by decide +kernel
theorem d7_43 : decode (mB m7) 43 = .ok (.iastore, 1) := by decide +kernel
theorem d7_44 : decode (mB m7) 44 = .ok (.aload_n 0, 1) := by decide +kernel
theorem d7_45 : decode (mB m7) 45 = .ok (.getfield 24, 3) := by decide +kernel
theorem d7_48 : decode (mB m7) 48 = .ok (.iload 5, 2) := by decide +kernel
theorem d7_50 : decode (mB m7) 50 = .ok (.iload 4, 2) := by decide +kernel
theorem d7_52 : decode (mB m7) 52 = .ok (.iastore, 1) := by decide +kernel
theorem d7_53 : decode (mB m7) 53 = .ok (.aload_n 0, 1) := by decide +kernel
theorem d7_54 : decode (mB m7) 54 = .ok (.iload 5, 2) := by decide +kernel
theorem d7_56 : decode (mB m7) 56 = .ok (.iconst 1, 1) := by decide +kernel
theorem d7_57 : decode (mB m7) 57 = .ok (.iadd, 1) := by decide +kernel
theorem d7_58 : decode (mB m7) 58 = .ok (.putfield 64, 3) := by decide +kernel
theorem d7_61 : decode (mB m7) 61 = .ok (.aload_n 0, 1) := by decide +kernel
theorem d7_62 : decode (mB m7) 62 = .ok (.invokevirtual 74, 3) := by decide +kernel
theorem d7_65 : decode (mB m7) 65 = .ok (.iload 5, 2) := by decide +kernel
theorem d7_67 : decode (mB m7) 67 = .ok (.ireturn, 1) := by decide +kernel
theorem d8_0 : decode (mB m8) 0 = .ok (.iconst 1, 1) := by decide +kernel
theorem d8_1 : decode (mB m8) 1 = .ok (.istore_n 2, 1) := by decide +kernel
theorem d8_2 : decode (mB m8) 2 = .ok (.iconst 0, 1) := by decide +kernel
theorem d8_3 : decode (mB m8) 3 = .ok (.istore_n 3, 1) := by decide +kernel
theorem d8_4 : decode (mB m8) 4 = .ok (.iload_n 3, 1) := by decide +kernel
theorem d8_5 : decode (mB m8) 5 = .ok (.iload_n 1, 1) := by decide +kernel
theorem d8_6 : decode (mB m8) 6 = .ok (.if_icmp .ge 19, 3) := by decide +kernel
theorem d8_9 : decode (mB m8) 9 = .ok (.iload_n 3, 1) := by decide +kernel
theorem d8_10 : decode (mB m8) 10 = .ok (.iconst 3, 1) := by decide +kernel
theorem d8_11 : decode (mB m8) 11 = .ok (.if_icmp .ge 14, 3) := by decide +kernel
theorem d8_14 : decode (mB m8) 14 = .ok (.iload_n 2, 1) := by decide +kernel
theorem d8_15 : decode (mB m8) 15 = .ok (.bipush 16, 2) := by decide +kernel
theorem d8_17 : decode (mB m8) 17 = .ok (.imul, 1) := by decide +kernel
theorem d8_18 : decode (mB m8) 18 = .ok (.istore_n 2, 1) := by decide +kernel
theorem d8_19 : decode (mB m8) 19 = .ok (.iinc 3 1, 3) := by decide +kernel
theorem d8_22 : decode (mB m8) 22 = .ok (.goto (-18), 3) := by decide +kernel
theorem d8_25 : decode (mB m8) 25 = .ok (.iload_n 2, 1) := by decide +kernel
theorem d8_26 : decode (mB m8) 26 = .ok (.ireturn, 1) := by decide +kernel
theorem d9_0 : decode (mB m9) 0 = .ok (.aload_n 0, 1) := by decide +kernel
theorem d9_1 : decode (mB m9) 1 = .ok (.getfield 67, 3) := by decide +kernel
theorem d9_4 : decode (mB m9) 4 = .ok (.bipush 12, 2) := by decide +kernel
theorem d9_6 : decode (mB m9) 6 = .ok (.if_icmp .lt 5, 3) := by decide +kernel
theorem d9_9 : decode (mB m9) 9 = .ok (.iconst 1, 1) := by decide +kernel
theorem d9_10 : decode (mB m9) 10 = .ok (.ireturn, 1) := by decide +kernel
theorem d9_11 : decode (mB m9) 11 = .ok (.aload_n 0, 1) := by decide +kernel
theorem d9_12 : decode (mB m9) 12 = .ok (.iload_n 1, 1) := by decide +kernel
theorem d9_13 : decode (mB m9) 13 = .ok (.iconst 0, 1) := by decide +kernel
theorem d9_14 : decode (mB m9) 14 = .ok (.bipush 7, 2) := by decide +kernel
theorem d9_16 : decode (mB m9) 16 = .ok (.invokevirtual 129, 3) := by decide +kernel
theorem d9_19 : decode (mB m9) 19 = .ok (.ifCond .ne 5, 3) := by decide +kernel
theorem d9_22 : decode (mB m9) 22 = .ok (.iconst 1, 1) := by decide +kernel
theorem d9_23 : decode (mB m9) 23 = .ok (.ireturn, 1) := by decide +kernel
theorem d9_24 : decode (mB m9) 24 = .ok (.aload_n 0, 1) := by decide +kernel
theorem d9_25 : decode (mB m9) 25 = .ok (.iload_n 2, 1) := by decide +kernel
theorem d9_26 : decode (mB m9) 26 = .ok (.iconst 0, 1) := by decide +kernel
theorem d9_27 : decode (mB m9) 27 = .ok (.bipush 100, 2) := by decide +kernel
theorem d9_29 : decode (mB m9) 29 = .ok (.invokevirtual 129, 3) := by decide +kernel
theorem d9_32 : decode (mB m9) 32 = .ok (.ifCond .ne 5, 3) := by decide +kernel
theorem d9_35 : decode (mB m9) 35 = .ok (.iconst 1, 1) := by decide +kernel
theorem d9_36 : decode (mB m9) 36 = .ok (.ireturn, 1) := by decide +kernel
theorem d9_37 : decode (mB m9) 37 = .ok (.aload_n 0, 1) := by decide +kernel
theorem d9_38 : decode (mB m9) 38 = .ok (.iload_n 3, 1) := by decide +kernel
theorem d9_39 : decode (mB m9) 39 = .ok (.iconst 0, 1) := by decide +kernel
theorem d9_40 : decode (mB m9) 40 = .ok (.iconst 3, 1) := by decide +kernel
theorem d9_41 : decode (mB m9) 41 = .ok (.invokevirtual 129, 3) := by decide +kernel
theorem d9_44 : decode (mB m9) 44 = .ok (.ifCond .ne 5, 3) := by decide +kernel
theorem d9_47 : decode (mB m9) 47 = .ok (.iconst 1, 1) := by decide +kernel
theorem d9_48 : decode (mB m9) 48 = .ok (.ireturn, 1) := by decide +kernel
theorem d9_49 : decode (mB m9) 49 = .ok (.iload 4, 2) := by decide +kernel
theorem d9_51 : decode (mB m9) 51 = .ok (.ifCond .ge 5, 3) := by decide +kernel
theorem d9_54 : decode (mB m9) 54 = .ok (.iconst 1, 1) := by decide +kernel
theorem d9_55 : decode (mB m9) 55 = .ok (.ireturn, 1) := by decide +kernel
theorem d9_56 : decode (mB m9) 56 = .ok (.iload 4, 2) := by decide +kernel
theorem d9_58 : decode (mB m9) 58 = .ok (.aload_n 0, 1) := by decide +kernel
theorem d9_59 : decode (mB m9) 59 = .ok (.iload_n 3, 1) := by decide +kernel
theorem d9_60 : decode (mB m9) 60 = .ok (.invokevirtual 133, 3) := by decide +kernel
theorem d9_63 : decode (mB m9) 63 = .ok (.if_icmp .lt 7, 3) := by decide +kernel
theorem d9_66 : decode (mB m9) 66 = .ok (.iconst 1, 1) := by decide +kernel
theorem d9_67 : decode (mB m9) 67 = .ok (.goto 4, 3) := by decide +kernel
theorem d9_70 : decode (mB m9) 70 = .ok (.iconst 0, 1) := by decide +kernel
theorem d9_71 : decode (mB m9) 71 = .ok (.ireturn, 1) := by decide +kernel
theorem d10_0 : decode (mB m10) 0 = .ok (.iload_n 1, 1) := by decide +kernel
theorem d10_1 : decode (mB m10) 1 = .ok (.ifCond .lt 9, 3) := by decide +kernel
theorem d10_4 : decode (mB m10) 4 = .ok (.iload_n 1, 1) := by decide +kernel
theorem d10_5 : decode (mB m10) 5 = .ok (.bipush 12, 2) := by decide +kernel
theorem d10_7 : decode (mB m10) 7 = .ok (.if_icmp .lt 4, 3) := by decide +kernel
theorem d10_10 : decode (mB m10) 10 = .ok (.return_, 1) := by decide +kernel
theorem d10_11 : decode (mB m10) 11 = .ok (.aload_n 0, 1) := by decide +kernel
theorem d10_12 : decode (mB m10) 12 = .ok (.getfield 27, 3) := by decide +kernel
theorem d10_15 : decode (mB m10) 15 = .ok (.iload_n 1, 1) := by decide +kernel
theorem d10_16 : decode (mB m10) 16 = .ok (.iload_n 2, 1) := by decide +kernel
theorem d10_17 : decode (mB m10) 17 = .ok (.iastore, 1) := by decide +kernel
theorem d10_18 : decode (mB m10) 18 = .ok (.aload_n 0, 1) := by decide +kernel
theorem d10_19 : decode (mB m10) 19 = .ok (.getfield 30, 3) := by decide +kernel
theorem d10_22 : decode (mB m10) 22 = .ok (.iload_n 1, 1) := by decide +kernel
theorem d10_23 : decode (mB m10) 23 = .ok (.iload_n 3, 1) := by decide +kernel
theorem d10_24 : decode (mB m10) 24 = .ok (.iastore, 1) := by decide +kernel
theorem d10_25 : decode (mB m10) 25 = .ok (.aload_n 0, 1) := by decide +kernel
theorem d10_26 : decode (mB m10) 26 = .ok (.getfield 33, 3) := by decide +kernel
theorem d10_29 : decode (mB m10) 29 = .ok (.iload_n 1, 1) := by decide +kernel
theorem d10_30 : decode (mB m10) 30 = .ok (.iload 4, 2) := by decide +kernel
theorem d10_32 : decode (mB m10) 32 = .ok (.iastore, 1) := by decide +kernel
theorem d10_33 : decode (mB m10) 33 = .ok (.iconst 0, 1) := by decide +kernel
theorem d10_34 : decode (mB m10) 34 = .ok (.istore 6, 2) := by decide +kernel
theorem d10_36 : decode (mB m10) 36 = .ok (.iload 6, 2) := by decide +kernel
theorem d10_38 : decode (mB m10) 38 = .ok (.iconst 3, 1) := by decide +kernel
theorem d10_39 : decode (mB m10) 39 = .ok (.if_icmp .ge 44, 3) := by decide +kernel
theorem d10_42 : decode (mB m10) 42 = .ok (.iconst 0, 1) := by decide +kernel
theorem d10_43 : decode (mB m10) 43 = .ok (.istore 7, 2) := by decide +kernel
theorem d10_45 : decode (mB m10) 45 = .ok (.iload 6, 2) := by decide +kernel
theorem d10_47 : decode (mB m10) 47 = .ok (.iload 4, 2) := by decide +kernel
theorem d10_49 : decode (mB m10) 49 = .ok (.if_icmp .ge 15, 3) := by decide +kernel
theorem d10_52 : decode (mB m10) 52 = .ok (.iload 5, 2) := by decide +kernel
theorem d10_54 : decode (mB m10) 54 = .ok (.iconst 4, 1) := by decide +kernel
theorem d10_55 : decode (mB m10) 55 = .ok (.iload 6, 2) := by decide +kernel
theorem d10_57 : decode (mB m10) 57 = .ok (.imul, 1) := by decide +kernel
theorem d10_58 : decode (mB m10) 58 = .ok (.ishr, 1) := by decide +kernel
theorem d10_59 : decode (mB m10) 59 = .ok (.bipush 15, 2) := by decide +kernel
theorem d10_61 : decode (mB m10) 61 = .ok (.iand, 1) := by decide +kernel
theorem d10_62 : decode (mB m10) 62 = .ok (.istore 7, 2) := by decide +kernel
theorem d10_64 : decode (mB m10) 64 = .ok (.aload_n 0, 1) := by decide +kernel
theorem d10_65 : decode (mB m10) 65 = .ok (.getfield 36, 3) := by decide +kernel
theorem d10_68 : decode (mB m10) 68 = .ok (.iload_n 1, 1) := by decide +kernel
theorem d10_69 : decode (mB m10) 69 = .ok (.iconst 3, 1) := by decide +kernel
theorem d10_70 : decode (mB m10) 70 = .ok (.imul, 1) := by decide +kernel
theorem d10_71 : decode (mB m10) 71 = .ok (.iload 6, 2) := by decide +kernel
theorem d10_73 : decode (mB m10) 73 = .ok (.iadd, 1) := by decide +kernel
theorem d10_74 : decode (mB m10) 74 = .ok (.iload 7, 2) := by decide +kernel
theorem d10_76 : decode (mB m10) 76 = .ok (.iastore, 1) := by decide +kernel
theorem d10_77 : decode (mB m10) 77 = .ok (.iinc 6 1, 3) := by decide +kernel
theorem d10_80 : decode (mB m10) 80 = .ok (.goto (-44), 3) := by decide +kernel
theorem d10_83 : decode (mB m10) 83 = .ok (.return_, 1) := by decide +kernel
theorem d11_0 : decode (mB m11) 0 = .ok (.aload_n 0, 1) := by decide +kernel
theorem d11_1 : decode (mB m11) 1 = .ok (.iload_n 1, 1) := by decide +kernel
theorem d11_2 : decode (mB m11) 2 = .ok (.iload_n 2, 1) := by decide +kernel
theorem d11_3 : decode (mB m11) 3 = .ok (.iload_n 3, 1) := by decide +kernel
theorem d11_4 : decode (mB m11) 4 = .ok (.iload 4, 2) := by decide +kernel
theorem d11_6 : decode (mB m11) 6 = .ok (.invokevirtual 77, 3) := by decide +kernel
theorem d11_9 : decode (mB m11) 9 = .ok (.ifCond .eq 5, 3) := by decide +kernel
theorem d11_12 : decode (mB m11) 12 = .ok (.iconst (-1), 1) := by decide +kernel
theorem d11_13 : decode (mB m11) 13 = .ok (.ireturn, 1) := by decide +kernel
theorem d11_14 : decode (mB m11) 14 = .ok (.aload_n 0, 1) := by decide +kernel
theorem d11_15 : decode (mB m11) 15 = .ok (.getfield 67, 3) := by decide +kernel
theorem d11_18 : decode (mB m11) 18 = .ok (.istore 5, 2) := by decide +kernel
theorem d11_20 : decode (mB m11) 20 = .ok (.aload_n 0, 1) := by decide +kernel
theorem d11_21 : decode (mB m11) 21 = .ok (.iload 5, 2) := by decide +kernel
theorem d11_23 : decode (mB m11) 23 = .ok (.iload_n 1, 1) := by decide +kernel
theorem d11_24 : decode (mB m11) 24 = .ok (.iload_n 2, 1) := by decide +kernel
theorem d11_25 : decode (mB m11) 25 = .ok (.iload_n 3, 1) := by decide +kernel
theorem d11_26 : decode (mB m11) 26 = .ok (.iload 4, 2) := by decide +kernel
theorem d11_28 : decode (mB m11) 28 = .ok (.invokevirtual 80, 3) := by decide +kernel
theorem d11_31 : decode (mB m11) 31 = .ok (.aload_n 0, 1) := by decide +kernel
theorem d11_32 : decode (mB m11) 32 = .ok (.iload 5, 2) := by decide +kernel
theorem d11_34 : decode (mB m11) 34 = .ok (.iconst 1, 1) := by decide +kernel
theorem d11_35 : decode (mB m11) 35 = .ok (.iadd, 1) := by decide +kernel
theorem d11_36 : decode (mB m11) 36 = .ok (.putfield 67, 3) := by decide +kernel
theorem d11_39 : decode (mB m11) 39 = .ok (.aload_n 0, 1) := by decide +kernel
theorem d11_40 : decode (mB m11) 40 = .ok (.invokevirtual 74, 3) := by decide +kernel
theorem d11_43 : decode (mB m11) 43 = .ok (.iload 5, 2) := by decide +kernel
theorem d11_45 : decode (mB m11) 45 = .ok (.ireturn, 1) := by decide +kernel
theorem d12_0 : decode (mB m12) 0 = .ok (.iload_n 1, 1) := by decide +kernel
theorem d12_1 : decode (mB m12) 1 = .ok (.ifCond .lt 13, 3) := by decide +kernel
theorem d12_4 : decode (mB m12) 4 = .ok (.iload_n 1, 1) := by decide +kernel
theorem d12_5 : decode (mB m12) 5 = .ok (.bipush 16, 2) := by decide +kernel
theorem d12_7 : decode (mB m12) 7 = .ok (.if_icmp .ge 7, 3) := by decide +kernel
theorem d12_10 : decode (mB m12) 10 = .ok (.iconst 1, 1) := by decide +kernel
theorem d12_11 : decode (mB m12) 11 = .ok (.goto 4, 3) := by decide +kernel
theorem d12_14 : decode (mB m12) 14 = .ok (.iconst 0, 1) := by decide +kernel
theorem d12_15 : decode (mB m12) 15 = .ok (.ireturn, 1) := by decide +kernel
theorem d13_0 : decode (mB m13) 0 = .ok (.iload_n 1, 1) := by decide +kernel
theorem d13_1 : decode (mB m13) 1 = .ok (.ifCond .lt 15, 3) := by decide +kernel
theorem d13_4 : decode (mB m13) 4 = .ok (.iload_n 1, 1) := by decide +kernel
theorem d13_5 : decode (mB m13) 5 = .ok (.aload_n 0, 1) := by decide +kernel
theorem d13_6 : decode (mB m13) 6 = .ok (.getfield 55, 3) := by decide +kernel
theorem d13_9 : decode (mB m13) 9 = .ok (.if_icmp .ge 7, 3) := by decide +kernel
theorem d13_12 : decode (mB m13) 12 = .ok (.iconst 1, 1) := by decide +kernel
theorem d13_13 : decode (mB m13) 13 = .ok (.goto 4, 3) := by decide +kernel
theorem d13_16 : decode (mB m13) 16 = .ok (.iconst 0, 1) := by decide +kernel
theorem d13_17 : decode (mB m13) 17 = .ok (.ireturn, 1) := by decide +kernel
theorem d14_0 : decode (mB m14) 0 = .ok (.aload_n 0, 1) := by decide +kernel
theorem d14_1 : decode (mB m14) 1 = .ok (.iload_n 1, 1) := by decide +kernel
theorem d14_2 : decode (mB m14) 2 = .ok (.invokevirtual 107, 3) := by decide +kernel
theorem d14_5 : decode (mB m14) 5 = .ok (.ifCond .eq 19, 3) := by decide +kernel
theorem d14_8 : decode (mB m14) 8 = .ok (.aload_n 0, 1) := by decide +kernel
theorem d14_9 : decode (mB m14) 9 = .ok (.iload_n 2, 1) := by decide +kernel
theorem d14_10 : decode (mB m14) 10 = .ok (.invokevirtual 111, 3) := by decide +kernel
theorem d14_13 : decode (mB m14) 13 = .ok (.ifCond .eq 11, 3) := by decide +kernel
theorem d14_16 : decode (mB m14) 16 = .ok (.aload_n 0, 1) := by decide +kernel
theorem d14_17 : decode (mB m14) 17 = .ok (.iload_n 3, 1) := by decide +kernel
theorem d14_18 : decode (mB m14) 18 = .ok (.invokevirtual 111, 3) := by decide +kernel
theorem d14_21 : decode (mB m14) 21 = .ok (.ifCond .ne 5, 3) := by decide +kernel
theorem d14_24 : decode (mB m14) 24 = .ok (.iconst (-1), 1) := by decide +kernel
theorem d14_25 : decode (mB m14) 25 = .ok (.ireturn, 1) := by decide +kernel
theorem d14_26 : decode (mB m14) 26 = .ok (.iload_n 1, 1) := by decide +kernel
theorem d14_27 : decode (mB m14) 27 = .ok (.bipush 64, 2) := by decide +kernel
theorem d14_29 : decode (mB m14) 29 = .ok (.imul, 1) := by decide +kernel
theorem d14_30 : decode (mB m14) 30 = .ok (.iload_n 2, 1) := by decide +kernel
theorem d14_31 : decode (mB m14) 31 = .ok (.bipush 8, 2) := by decide +kernel
theorem d14_33 : decode (mB m14) 33 = .ok (.imul, 1) := by decide +kernel
theorem d14_34 : decode (mB m14) 34 = .ok (.iadd, 1) := by decide +kernel
theorem d14_35 : decode (mB m14) 35 = .ok (.iload_n 3, 1) := by decide +kernel
theorem d14_36 : decode (mB m14) 36 = .ok (.iadd, 1) := by decide +kernel
theorem d14_37 : decode (mB m14) 37 = .ok (.ireturn, 1) := by decide +kernel
theorem d15_0 : decode (mB m15) 0 = .ok (.aload_n 0, 1) := by decide +kernel
theorem d15_1 : decode (mB m15) 1 = .ok (.iload_n 1, 1) := by decide +kernel
theorem d15_2 : decode (mB m15) 2 = .ok (.iload_n 2, 1) := by decide +kernel
theorem d15_3 : decode (mB m15) 3 = .ok (.iload_n 3, 1) := by decide +kernel
theorem d15_4 : decode (mB m15) 4 = .ok (.invokevirtual 139, 3) := by decide +kernel
theorem d15_7 : decode (mB m15) 7 = .ok (.istore 5, 2) := by decide +kernel
theorem d15_9 : decode (mB m15) 9 = .ok (.iload 5, 2) := by decide +kernel
theorem d15_11 : decode (mB m15) 11 = .ok (.ifCond .lt 15, 3) := by decide +kernel
theorem d15_14 : decode (mB m15) 14 = .ok (.iload 4, 2) := by decide +kernel
theorem d15_16 : decode (mB m15) 16 = .ok (.aload_n 0, 1) := by decide +kernel
theorem d15_17 : decode (mB m15) 17 = .ok (.getfield 39, 3) := by decide +kernel
theorem d15_20 : decode (mB m15) 20 = .ok (.iload 5, 2) := by decide +kernel
theorem d15_22 : decode (mB m15) 22 = .ok (.iaload, 1) := by decide +kernel
theorem d15_23 : decode (mB m15) 23 = .ok (.if_icmp .lt 5, 3) := by decide +kernel
theorem d15_26 : decode (mB m15) 26 = .ok (.iconst 0, 1) := by decide +kernel
theorem d15_27 : decode (mB m15) 27 = .ok (.ireturn, 1) := by decide +kernel
theorem d15_28 : decode (mB m15) 28 = .ok (.aload_n 0, 1) := by decide +kernel
theorem d15_29 : decode (mB m15) 29 = .ok (.getfield 39, 3) := by decide +kernel
theorem d15_32 : decode (mB m15) 32 = .ok (.iload 5, 2) := by decide +kernel
theorem d15_34 : decode (mB m15) 34 = .ok (.iload 4, 2) := by decide +kernel
theorem d15_36 : decode (mB m15) 36 = .ok (.iastore, 1) := by decide +kernel
theorem d15_37 : decode (mB m15) 37 = .ok (.iconst 1, 1) := by decide +kernel
theorem d15_38 : decode (mB m15) 38 = .ok (.ireturn, 1) := by decide +kernel
theorem d16_0 : decode (mB m16) 0 = .ok (.iconst 0, 1) := by decide +kernel
theorem d16_1 : decode (mB m16) 1 = .ok (.istore_n 1, 1) := by decide +kernel
theorem d16_2 : decode (mB m16) 2 = .ok (.iload_n 1, 1) := by decide +kernel
theorem d16_3 : decode (mB m16) 3 = .ok (.aload_n 0, 1) := by decide +kernel
theorem d16_4 : decode (mB m16) 4 = .ok (.getfield 64, 3) := by decide +kernel
theorem d16_7 : decode (mB m16) 7 = .ok (.if_icmp .ge 38, 3) := by decide +kernel
theorem d16_10 : decode (mB m16) 10 = .ok (.aload_n 0, 1) := by decide +kernel
theorem d16_11 : decode (mB m16) 11 = .ok (.aload_n 0, 1) := by decide +kernel
theorem d16_12 : decode (mB m16) 12 = .ok (.getfield 21, 3) := by decide +kernel
theorem d16_15 : decode (mB m16) 15 = .ok (.iload_n 1, 1) := by decide +kernel
theorem d16_16 : decode (mB m16) 16 = .ok (.iaload, 1) := by decide +kernel
theorem d16_17 : decode (mB m16) 17 = .ok (.aload_n 0, 1) := by decide +kernel
theorem d16_18 : decode (mB m16) 18 = .ok (.getfield 14, 3) := by decide +kernel
theorem d16_21 : decode (mB m16) 21 = .ok (.iload_n 1, 1) := by decide +kernel
theorem d16_22 : decode (mB m16) 22 = .ok (.iaload, 1) := by decide +kernel
theorem d16_23 : decode (mB m16) 23 = .ok (.aload_n 0, 1) := by decide +kernel
theorem d16_24 : decode (mB m16) 24 = .ok (.getfield 18, 3) := by decide +kernel
theorem d16_27 : decode (mB m16) 27 = .ok (.iload_n 1, 1) := by decide +kernel
theorem d16_28 : decode (mB m16) 28 = .ok (.iaload, 1) := by decide +kernel
theorem d16_29 : decode (mB m16) 29 = .ok (.aload_n 0, 1) := by decide +kernel
theorem d16_30 : decode (mB m16) 30 = .ok (.getfield 24, 3) := by decide +kernel
theorem d16_33 : decode (mB m16) 33 = .ok (.iload_n 1, 1) := by decide +kernel
theorem d16_34 : decode (mB m16) 34 = .ok (.iaload, 1) := by decide +kernel
theorem d16_35 : decode (mB m16) 35 = .ok (.invokevirtual 156, 3) := by decide +kernel
theorem d16_38 : decode (mB m16) 38 = .ok (.pop, 1) := by decide +kernel
theorem d16_39 : decode (mB m16) 39 = .ok (.iinc 1 1, 3) := by decide +kernel
theorem d16_42 : decode (mB m16) 42 = .ok (.goto (-40), 3) := by decide +kernel
theorem d16_45 : decode (mB m16) 45 = .ok (.return_, 1) := by decide +kernel
theorem d17_0 : decode (mB m17) 0 = .ok (.iload_n 1, 1) := by decide +kernel
theorem d17_1 : decode (mB m17) 1 = .ok (.ifCond .lt 15, 3) := by decide +kernel
theorem d17_4 : decode (mB m17) 4 = .ok (.iload_n 1, 1) := by decide +kernel
theorem d17_5 : decode (mB m17) 5 = .ok (.aload_n 0, 1) := by decide +kernel
theorem d17_6 : decode (mB m17) 6 = .ok (.getfield 67, 3) := by decide +kernel
theorem d17_9 : decode (mB m17) 9 = .ok (.if_icmp .ge 7, 3) := by decide +kernel
theorem d17_12 : decode (mB m17) 12 = .ok (.iconst 1, 1) := by decide +kernel
theorem d17_13 : decode (mB m17) 13 = .ok (.goto 4, 3) := by decide +kernel
theorem d17_16 : decode (mB m17) 16 = .ok (.iconst 0, 1) := by decide +kernel
theorem d17_17 : decode (mB m17) 17 = .ok (.ireturn, 1) := by decide +kernel
theorem d18_0 : decode (mB m18) 0 = .ok (.iload_n 1, 1) := by decide +kernel
theorem d18_1 : decode (mB m18) 1 = .ok (.ifCond .lt 12, 3) := by decide +kernel
theorem d18_4 : decode (mB m18) 4 = .ok (.iload_n 1, 1) := by decide +kernel
theorem d18_5 : decode (mB m18) 5 = .ok (.iconst 3, 1) := by decide +kernel
theorem d18_6 : decode (mB m18) 6 = .ok (.if_icmp .gt 7, 3) := by decide +kernel
theorem d18_9 : decode (mB m18) 9 = .ok (.iconst 1, 1) := by decide +kernel
theorem d18_10 : decode (mB m18) 10 = .ok (.goto 4, 3) := by decide +kernel
theorem d18_13 : decode (mB m18) 13 = .ok (.iconst 0, 1) := by decide +kernel
theorem d18_14 : decode (mB m18) 14 = .ok (.ireturn, 1) := by decide +kernel
theorem d19_0 : decode (mB m19) 0 = .ok (.aload_n 0, 1) := by decide +kernel
theorem d19_1 : decode (mB m19) 1 = .ok (.iload_n 1, 1) := by decide +kernel
theorem d19_2 : decode (mB m19) 2 = .ok (.invokevirtual 123, 3) := by decide +kernel
theorem d19_5 : decode (mB m19) 5 = .ok (.ifCond .eq 28, 3) := by decide +kernel
theorem d19_8 : decode (mB m19) 8 = .ok (.aload_n 0, 1) := by decide +kernel
theorem d19_9 : decode (mB m19) 9 = .ok (.iload_n 2, 1) := by decide +kernel
theorem d19_10 : decode (mB m19) 10 = .ok (.invokevirtual 136, 3) := by decide +kernel
theorem d19_13 : decode (mB m19) 13 = .ok (.ifCond .eq 20, 3) := by decide +kernel
theorem d19_16 : decode (mB m19) 16 = .ok (.aload_n 0, 1) := by decide +kernel
theorem d19_17 : decode (mB m19) 17 = .ok (.iload_n 3, 1) := by decide +kernel
theorem d19_18 : decode (mB m19) 18 = .ok (.invokevirtual 111, 3) := by decide +kernel
theorem d19_21 : decode (mB m19) 21 = .ok (.ifCond .eq 12, 3) := by decide +kernel
theorem d19_24 : decode (mB m19) 24 = .ok (.aload_n 0, 1) := by decide +kernel
theorem d19_25 : decode (mB m19) 25 = .ok (.iload 4, 2) := by decide +kernel
theorem d19_27 : decode (mB m19) 27 = .ok (.invokevirtual 111, 3) := by decide +kernel
theorem d19_30 : decode (mB m19) 30 = .ok (.ifCond .ne 5, 3) := by decide +kernel
theorem d19_33 : decode (mB m19) 33 = .ok (.iconst (-1), 1) := by decide +kernel
theorem d19_34 : decode (mB m19) 34 = .ok (.ireturn, 1) := by decide +kernel
theorem d19_35 : decode (mB m19) 35 = .ok (.iload_n 1, 1) := by decide +kernel
theorem d19_36 : decode (mB m19) 36 = .ok (.iconst 4, 1) := by decide +kernel
theorem d19_37 : decode (mB m19) 37 = .ok (.imul, 1) := by decide +kernel
theorem d19_38 : decode (mB m19) 38 = .ok (.iload_n 2, 1) := by decide +kernel
theorem d19_39 : decode (mB m19) 39 = .ok (.iadd, 1) := by decide +kernel
theorem d19_40 : decode (mB m19) 40 = .ok (.bipush 64, 2) := by decide +kernel
theorem d19_42 : decode (mB m19) 42 = .ok (.imul, 1) := by decide +kernel
theorem d19_43 : decode (mB m19) 43 = .ok (.iload_n 3, 1) := by decide +kernel
theorem d19_44 : decode (mB m19) 44 = .ok (.bipush 8, 2) := by decide +kernel
theorem d19_46 : decode (mB m19) 46 = .ok (.imul, 1) := by decide +kernel
theorem d19_47 : decode (mB m19) 47 = .ok (.iadd, 1) := by decide +kernel
theorem d19_48 : decode (mB m19) 48 = .ok (.iload 4, 2) := by decide +kernel
theorem d19_50 : decode (mB m19) 50 = .ok (.iadd, 1) := by decide +kernel
theorem d19_51 : decode (mB m19) 51 = .ok (.ireturn, 1) := by decide +kernel
theorem d20_0 : decode (mB m20) 0 = .ok (.aload_n 0, 1) := by decide +kernel
theorem d20_1 : decode (mB m20) 1 = .ok (.iload_n 1, 1) := by decide +kernel
theorem d20_2 : decode (mB m20) 2 = .ok (.iload_n 2, 1) := by decide +kernel
theorem d20_3 : decode (mB m20) 3 = .ok (.iload_n 3, 1) := by decide +kernel
theorem d20_4 : decode (mB m20) 4 = .ok (.iload 4, 2) := by decide +kernel
theorem d20_6 : decode (mB m20) 6 = .ok (.invokevirtual 142, 3) := by decide +kernel
theorem d20_9 : decode (mB m20) 9 = .ok (.istore 6, 2) := by decide +kernel
theorem d20_11 : decode (mB m20) 11 = .ok (.iload 6, 2) := by decide +kernel
theorem d20_13 : decode (mB m20) 13 = .ok (.ifCond .lt 15, 3) := by decide +kernel
theorem d20_16 : decode (mB m20) 16 = .ok (.iload 5, 2) := by decide +kernel
theorem d20_18 : decode (mB m20) 18 = .ok (.aload_n 0, 1) := by decide +kernel
theorem d20_19 : decode (mB m20) 19 = .ok (.getfield 42, 3) := by decide +kernel
theorem d20_22 : decode (mB m20) 22 = .ok (.iload 6, 2) := by decide +kernel
theorem d20_24 : decode (mB m20) 24 = .ok (.iaload, 1) := by decide +kernel
theorem d20_25 : decode (mB m20) 25 = .ok (.if_icmp .lt 5, 3) := by decide +kernel
theorem d20_28 : decode (mB m20) 28 = .ok (.iconst 0, 1) := by decide +kernel
theorem d20_29 : decode (mB m20) 29 = .ok (.ireturn, 1) := by decide +kernel
theorem d20_30 : decode (mB m20) 30 = .ok (.aload_n 0, 1) := by decide +kernel
theorem d20_31 : decode (mB m20) 31 = .ok (.getfield 42, 3) := by decide +kernel
theorem d20_34 : decode (mB m20) 34 = .ok (.iload 6, 2) := by decide +kernel
theorem d20_36 : decode (mB m20) 36 = .ok (.iload 5, 2) := by decide +kernel
theorem d20_38 : decode (mB m20) 38 = .ok (.iastore, 1) := by decide +kernel
theorem d20_39 : decode (mB m20) 39 = .ok (.iconst 1, 1) := by decide +kernel
theorem d20_40 : decode (mB m20) 40 = .ok (.ireturn, 1) := by decide +kernel
theorem d21_0 : decode (mB m21) 0 = .ok (.iconst 0, 1) := by decide +kernel
theorem d21_1 : decode (mB m21) 1 = .ok (.istore_n 1, 1) := by decide +kernel
theorem d21_2 : decode (mB m21) 2 = .ok (.iload_n 1, 1) := by decide +kernel
theorem d21_3 : decode (mB m21) 3 = .ok (.aload_n 0, 1) := by decide +kernel
theorem d21_4 : decode (mB m21) 4 = .ok (.getfield 67, 3) := by decide +kernel
theorem d21_7 : decode (mB m21) 7 = .ok (.if_icmp .ge 40, 3) := by decide +kernel
theorem d21_10 : decode (mB m21) 10 = .ok (.iconst 0, 1) := by decide +kernel
theorem d21_11 : decode (mB m21) 11 = .ok (.istore_n 2, 1) := by decide +kernel
theorem d21_12 : decode (mB m21) 12 = .ok (.iload_n 2, 1) := by decide +kernel
theorem d21_13 : decode (mB m21) 13 = .ok (.aload_n 0, 1) := by decide +kernel
theorem d21_14 : decode (mB m21) 14 = .ok (.getfield 55, 3) := by decide +kernel
theorem d21_17 : decode (mB m21) 17 = .ok (.if_icmp .ge 24, 3) := by decide +kernel
theorem d21_20 : decode (mB m21) 20 = .ok (.aload_n 0, 1) := by decide +kernel
theorem d21_21 : decode (mB m21) 21 = .ok (.iload_n 1, 1) := by decide +kernel
theorem d21_22 : decode (mB m21) 22 = .ok (.iconst 0, 1) := by decide +kernel
theorem d21_23 : decode (mB m21) 23 = .ok (.iload_n 2, 1) := by decide +kernel
theorem d21_24 : decode (mB m21) 24 = .ok (.iload_n 2, 1) := by decide +kernel
theorem d21_25 : decode (mB m21) 25 = .ok (.aload_n 0, 1) := by decide +kernel
theorem d21_26 : decode (mB m21) 26 = .ok (.getfield 30, 3) := by decide +kernel
theorem d21_29 : decode (mB m21) 29 = .ok (.iload_n 1, 1) := by decide +kernel
theorem d21_30 : decode (mB m21) 30 = .ok (.iaload, 1) := by decide +kernel
theorem d21_31 : decode (mB m21) 31 = .ok (.invokevirtual 159, 3) := by decide +kernel
theorem d21_34 : decode (mB m21) 34 = .ok (.pop, 1) := by decide +kernel
theorem d21_35 : decode (mB m21) 35 = .ok (.iinc 2 1, 3) := by decide +kernel
theorem d21_38 : decode (mB m21) 38 = .ok (.goto (-26), 3) := by decide +kernel
theorem d21_41 : decode (mB m21) 41 = .ok (.iinc 1 1, 3) := by decide +kernel
theorem d21_44 : decode (mB m21) 44 = .ok (.goto (-42), 3) := by decide +kernel
theorem d21_47 : decode (mB m21) 47 = .ok (.return_, 1) := by decide +kernel
theorem d22_0 : decode (mB m22) 0 = .ok (.iload_n 1, 1) := by decide +kernel
theorem d22_1 : decode (mB m22) 1 = .ok (.ifCond .lt 18, 3) := by decide +kernel
theorem d22_4 : decode (mB m22) 4 = .ok (.iload_n 1, 1) := by decide +kernel
theorem d22_5 : decode (mB m22) 5 = .ok (.bipush 12, 2) := by decide +kernel
theorem d22_7 : decode (mB m22) 7 = .ok (.if_icmp .ge 12, 3) := by decide +kernel
theorem d22_10 : decode (mB m22) 10 = .ok (.iload_n 2, 1) := by decide +kernel
theorem d22_11 : decode (mB m22) 11 = .ok (.ifCond .lt 8, 3) := by decide +kernel
theorem d22_14 : decode (mB m22) 14 = .ok (.iload_n 2, 1) := by decide +kernel
theorem d22_15 : decode (mB m22) 15 = .ok (.iconst 3, 1) := by decide +kernel
theorem d22_16 : decode (mB m22) 16 = .ok (.if_icmp .lt 5, 3) := by decide +kernel
theorem d22_19 : decode (mB m22) 19 = .ok (.iconst 0, 1) := by decide +kernel
theorem d22_20 : decode (mB m22) 20 = .ok (.ireturn, 1) := by decide +kernel
theorem d22_21 : decode (mB m22) 21 = .ok (.aload_n 0, 1) := by decide +kernel
theorem d22_22 : decode (mB m22) 22 = .ok (.getfield 36, 3) := by decide +kernel
theorem d22_25 : decode (mB m22) 25 = .ok (.iload_n 1, 1) := by decide +kernel
theorem d22_26 : decode (mB m22) 26 = .ok (.iconst 3, 1) := by decide +kernel
theorem d22_27 : decode (mB m22) 27 = .ok (.imul, 1) := by decide +kernel
theorem d22_28 : decode (mB m22) 28 = .ok (.iload_n 2, 1) := by decide +kernel
theorem d22_29 : decode (mB m22) 29 = .ok (.iadd, 1) := by decide +kernel
theorem d22_30 : decode (mB m22) 30 = .ok (.iaload, 1) := by decide +kernel
theorem d22_31 : decode (mB m22) 31 = .ok (.ireturn, 1) := by decide +kernel
theorem d23_0 : decode (mB m23) 0 = .ok (.aload_n 0, 1) := by decide +kernel
theorem d23_1 : decode (mB m23) 1 = .ok (.iload_n 1, 1) := by decide +kernel
theorem d23_2 : decode (mB m23) 2 = .ok (.iload_n 2, 1) := by decide +kernel
theorem d23_3 : decode (mB m23) 3 = .ok (.iload_n 3, 1) := by decide +kernel
theorem d23_4 : decode (mB m23) 4 = .ok (.iload 4, 2) := by decide +kernel
theorem d23_6 : decode (mB m23) 6 = .ok (.invokevirtual 142, 3) := by decide +kernel
theorem d23_9 : decode (mB m23) 9 = .ok (.istore 5, 2) := by decide +kernel
theorem d23_11 : decode (mB m23) 11 = .ok (.iload 5, 2) := by decide +kernel
theorem d23_13 : decode (mB m23) 13 = .ok (.ifCond .ge 8, 3) := by decide +kernel
theorem d23_16 : decode (mB m23) 16 = .ok (.aload_n 0, 1) := by decide +kernel
theorem d23_17 : decode (mB m23) 17 = .ok (.getfield 8, 3) := by decide +kernel
theorem d23_20 : decode (mB m23) 20 = .ok (.ireturn, 1) := by decide +kernel
theorem d23_21 : decode (mB m23) 21 = .ok (.aload_n 0, 1) := by decide +kernel
theorem d23_22 : decode (mB m23) 22 = .ok (.getfield 42, 3) := by decide +kernel
theorem d23_25 : decode (mB m23) 25 = .ok (.iload 5, 2) := by decide +kernel
theorem d23_27 : decode (mB m23) 27 = .ok (.iaload, 1) := by decide +kernel
theorem d23_28 : decode (mB m23) 28 = .ok (.ireturn, 1) := by decide +kernel
theorem d24_0 : decode (mB m24) 0 = .ok (.aload_n 0, 1) := by decide +kernel
theorem d24_1 : decode (mB m24) 1 = .ok (.iload_n 1, 1) := by decide +kernel
theorem d24_2 : decode (mB m24) 2 = .ok (.iload_n 2, 1) := by decide +kernel
theorem d24_3 : decode (mB m24) 3 = .ok (.iload_n 3, 1) := by decide +kernel
theorem d24_4 : decode (mB m24) 4 = .ok (.invokevirtual 139, 3) := by decide +kernel
theorem d24_7 : decode (mB m24) 7 = .ok (.istore 4, 2) := by decide +kernel
theorem d24_9 : decode (mB m24) 9 = .ok (.iload 4, 2) := by decide +kernel
theorem d24_11 : decode (mB m24) 11 = .ok (.ifCond .ge 8, 3) := by decide +kernel
theorem d24_14 : decode (mB m24) 14 = .ok (.aload_n 0, 1) := by decide +kernel
theorem d24_15 : decode (mB m24) 15 = .ok (.getfield 8, 3) := by decide +kernel
theorem d24_18 : decode (mB m24) 18 = .ok (.ireturn, 1) := by decide +kernel
theorem d24_19 : decode (mB m24) 19 = .ok (.aload_n 0, 1) := by decide +kernel
theorem d24_20 : decode (mB m24) 20 = .ok (.getfield 39, 3) := by decide +kernel
theorem d24_23 : decode (mB m24) 23 = .ok (.iload 4, 2) := by decide +kernel
theorem d24_25 : decode (mB m24) 25 = .ok (.iaload, 1) := by decide +kernel
theorem d24_26 : decode (mB m24) 26 = .ok (.ireturn, 1) := by decide +kernel
theorem d25_0 : decode (mB m25) 0 = .ok (.iload_n 1, 1) := by decide +kernel
theorem d25_1 : decode (mB m25) 1 = .ok (.aload_n 0, 1) := by decide +kernel
theorem d25_2 : decode (mB m25) 2 = .ok (.getfield 8, 3) := by decide +kernel
theorem d25_5 : decode (mB m25) 5 = .ok (.if_icmp .ge 11, 3) := by decide +kernel
theorem d25_8 : decode (mB m25) 8 = .ok (.iload_n 2, 1) := by decide +kernel
theorem d25_9 : decode (mB m25) 9 = .ok (.aload_n 0, 1) := by decide +kernel
theorem d25_10 : decode (mB m25) 10 = .ok (.getfield 8, 3) := by decide +kernel
theorem d25_13 : decode (mB m25) 13 = .ok (.if_icmp .lt 8, 3) := by decide +kernel
theorem d25_16 : decode (mB m25) 16 = .ok (.aload_n 0, 1) := by decide +kernel
theorem d25_17 : decode (mB m25) 17 = .ok (.getfield 8, 3) := by decide +kernel
theorem d25_20 : decode (mB m25) 20 = .ok (.ireturn, 1) := by decide +kernel
theorem d25_21 : decode (mB m25) 21 = .ok (.iload_n 1, 1) := by decide +kernel
theorem d25_22 : decode (mB m25) 22 = .ok (.iload_n 2, 1) := by decide +kernel
theorem d25_23 : decode (mB m25) 23 = .ok (.iadd, 1) := by decide +kernel
theorem d25_24 : decode (mB m25) 24 = .ok (.istore_n 3, 1) := by decide +kernel
theorem d25_25 : decode (mB m25) 25 = .ok (.iload_n 3, 1) := by decide +kernel
theorem d25_26 : decode (mB m25) 26 = .ok (.aload_n 0, 1) := by decide +kernel
theorem d25_27 : decode (mB m25) 27 = .ok (.getfield 8, 3) := by decide +kernel
theorem d25_30 : decode (mB m25) 30 = .ok (.if_icmp .lt 8, 3) := by decide +kernel
theorem d25_33 : decode (mB m25) 33 = .ok (.aload_n 0, 1) := by decide +kernel
theorem d25_34 : decode (mB m25) 34 = .ok (.getfield 8, 3) := by decide +kernel
theorem d25_37 : decode (mB m25) 37 = .ok (.ireturn, 1) := by decide +kernel
theorem d25_38 : decode (mB m25) 38 = .ok (.iload_n 3, 1) := by decide +kernel
theorem d25_39 : decode (mB m25) 39 = .ok (.ireturn, 1) := by decide +kernel
theorem d26_0 : decode (mB m26) 0 = .ok (.aload_n 0, 1) := by decide +kernel
theorem d26_1 : decode (mB m26) 1 = .ok (.iload_n 1, 1) := by decide +kernel
theorem d26_2 : decode (mB m26) 2 = .ok (.iload_n 2, 1) := by decide +kernel
theorem d26_3 : decode (mB m26) 3 = .ok (.invokevirtual 84, 3) := by decide +kernel
theorem d26_6 : decode (mB m26) 6 = .ok (.istore 5, 2) := by decide +kernel
theorem d26_8 : decode (mB m26) 8 = .ok (.aload_n 0, 1) := by decide +kernel
theorem d26_9 : decode (mB m26) 9 = .ok (.getfield 8, 3) := by decide +kernel
theorem d26_12 : decode (mB m26) 12 = .ok (.istore 6, 2) := by decide +kernel
theorem d26_14 : decode (mB m26) 14 = .ok (.iload_n 3, 1) := by decide +kernel
theorem d26_15 : decode (mB m26) 15 = .ok (.istore 7, 2) := by decide +kernel
theorem d26_17 : decode (mB m26) 17 = .ok (.iload 7, 2) := by decide +kernel
theorem d26_19 : decode (mB m26) 19 = .ok (.iload 4, 2) := by decide +kernel
theorem d26_21 : decode (mB m26) 21 = .ok (.if_icmp .gt 53, 3) := by decide +kernel
theorem d26_24 : decode (mB m26) 24 = .ok (.aload_n 0, 1) := by decide +kernel
theorem d26_25 : decode (mB m26) 25 = .ok (.iload_n 1, 1) := by decide +kernel
theorem d26_26 : decode (mB m26) 26 = .ok (.iload_n 2, 1) := by decide +kernel
theorem d26_27 : decode (mB m26) 27 = .ok (.iload_n 3, 1) := by decide +kernel
theorem d26_28 : decode (mB m26) 28 = .ok (.iload 7, 2) := by decide +kernel
theorem d26_30 : decode (mB m26) 30 = .ok (.invokevirtual 176, 3) := by decide +kernel
theorem d26_33 : decode (mB m26) 33 = .ok (.istore 8, 2) := by decide +kernel
theorem d26_35 : decode (mB m26) 35 = .ok (.aload_n 0, 1) := by decide +kernel
theorem d26_36 : decode (mB m26) 36 = .ok (.iload 5, 2) := by decide +kernel
theorem d26_38 : decode (mB m26) 38 = .ok (.iload 7, 2) := by decide +kernel
theorem d26_40 : decode (mB m26) 40 = .ok (.iload 4, 2) := by decide +kernel
theorem d26_42 : decode (mB m26) 42 = .ok (.invokevirtual 91, 3) := by decide +kernel
theorem d26_45 : decode (mB m26) 45 = .ok (.istore 9, 2) := by decide +kernel
theorem d26_47 : decode (mB m26) 47 = .ok (.aload_n 0, 1) := by decide +kernel
theorem d26_48 : decode (mB m26) 48 = .ok (.iload 8, 2) := by decide +kernel
theorem d26_50 : decode (mB m26) 50 = .ok (.iload 9, 2) := by decide +kernel
theorem d26_52 : decode (mB m26) 52 = .ok (.invokevirtual 120, 3) := by decide +kernel
theorem d26_55 : decode (mB m26) 55 = .ok (.istore 10, 2) := by decide +kernel
theorem d26_57 : decode (mB m26) 57 = .ok (.iload 10, 2) := by decide +kernel
theorem d26_59 : decode (mB m26) 59 = .ok (.iload 6, 2) := by decide +kernel
theorem d26_61 : decode (mB m26) 61 = .ok (.if_icmp .ge 7, 3) := by decide +kernel
theorem d26_64 : decode (mB m26) 64 = .ok (.iload 10, 2) := by decide +kernel
theorem d26_66 : decode (mB m26) 66 = .ok (.istore 6, 2) := by decide +kernel
theorem d26_68 : decode (mB m26) 68 = .ok (.iinc 7 1, 3) := by decide +kernel
theorem d26_71 : decode (mB m26) 71 = .ok (.goto (-54), 3) := by decide +kernel
theorem d26_74 : decode (mB m26) 74 = .ok (.iload 6, 2) := by decide +kernel
theorem d26_76 : decode (mB m26) 76 = .ok (.ireturn, 1) := by decide +kernel
theorem d27_0 : decode (mB m27) 0 = .ok (.iconst 0, 1) := by decide +kernel
theorem d27_1 : decode (mB m27) 1 = .ok (.istore 4, 2) := by decide +kernel
theorem d27_3 : decode (mB m27) 3 = .ok (.aload_n 0, 1) := by decide +kernel
theorem d27_4 : decode (mB m27) 4 = .ok (.getfield 33, 3) := by decide +kernel
theorem d27_7 : decode (mB m27) 7 = .ok (.iload_n 1, 1) := by decide +kernel
theorem d27_8 : decode (mB m27) 8 = .ok (.iaload, 1) := by decide +kernel
theorem d27_9 : decode (mB m27) 9 = .ok (.istore 5, 2) := by decide +kernel
theorem d27_11 : decode (mB m27) 11 = .ok (.iconst 0, 1) := by decide +kernel
theorem d27_12 : decode (mB m27) 12 = .ok (.istore 6, 2) := by decide +kernel
theorem d27_14 : decode (mB m27) 14 = .ok (.iload 6, 2) := by decide +kernel
theorem d27_16 : decode (mB m27) 16 = .ok (.iload 5, 2) := by decide +kernel
theorem d27_18 : decode (mB m27) 18 = .ok (.if_icmp .ge 39, 3) := by decide +kernel
theorem d27_21 : decode (mB m27) 21 = .ok (.aload_n 0, 1) := by decide +kernel
theorem d27_22 : decode (mB m27) 22 = .ok (.iload_n 1, 1) := by decide +kernel
theorem d27_23 : decode (mB m27) 23 = .ok (.iload 6, 2) := by decide +kernel
theorem d27_25 : decode (mB m27) 25 = .ok (.iload_n 2, 1) := by decide +kernel
theorem d27_26 : decode (mB m27) 26 = .ok (.iload_n 3, 1) := by decide +kernel
theorem d27_27 : decode (mB m27) 27 = .ok (.invokevirtual 173, 3) := by decide +kernel
theorem d27_30 : decode (mB m27) 30 = .ok (.istore 7, 2) := by decide +kernel
theorem d27_32 : decode (mB m27) 32 = .ok (.aload_n 0, 1) := by decide +kernel
theorem d27_33 : decode (mB m27) 33 = .ok (.iload_n 1, 1) := by decide +kernel
theorem d27_34 : decode (mB m27) 34 = .ok (.iload 6, 2) := by decide +kernel
theorem d27_36 : decode (mB m27) 36 = .ok (.iconst 1, 1) := by decide +kernel
theorem d27_37 : decode (mB m27) 37 = .ok (.iadd, 1) := by decide +kernel
theorem d27_38 : decode (mB m27) 38 = .ok (.iload_n 2, 1) := by decide +kernel
theorem d27_39 : decode (mB m27) 39 = .ok (.iload_n 3, 1) := by decide +kernel
theorem d27_40 : decode (mB m27) 40 = .ok (.iload 7, 2) := by decide +kernel
theorem d27_42 : decode (mB m27) 42 = .ok (.invokevirtual 159, 3) := by decide +kernel
theorem d27_45 : decode (mB m27) 45 = .ok (.ifCond .eq 6, 3) := by decide +kernel
theorem d27_48 : decode (mB m27) 48 = .ok (.iconst 1, 1) := by decide +kernel
theorem d27_49 : decode (mB m27) 49 = .ok (.istore 4, 2) := by decide +kernel
theorem d27_51 : decode (mB m27) 51 = .ok (.iinc 6 1, 3) := by decide +kernel
theorem d27_54 : decode (mB m27) 54 = .ok (.goto (-40), 3) := by decide +kernel
theorem d27_57 : decode (mB m27) 57 = .ok (.iload 4, 2) := by decide +kernel
theorem d27_59 : decode (mB m27) 59 = .ok (.ireturn, 1) := by decide +kernel
theorem d28_0 : decode (mB m28) 0 = .ok (.iload_n 1, 1) := by decide +kernel
theorem d28_1 : decode (mB m28) 1 = .ok (.ifCond .lt 9, 3) := by decide +kernel
theorem d28_4 : decode (mB m28) 4 = .ok (.iload_n 1, 1) := by decide +kernel
theorem d28_5 : decode (mB m28) 5 = .ok (.bipush 12, 2) := by decide +kernel
theorem d28_7 : decode (mB m28) 7 = .ok (.if_icmp .lt 6, 3) := by decide +kernel
theorem d28_10 : decode (mB m28) 10 = .ok (.bipush 8, 2) := by decide +kernel
theorem d28_12 : decode (mB m28) 12 = .ok (.ireturn, 1) := by decide +kernel
theorem d28_13 : decode (mB m28) 13 = .ok (.bipush 8, 2) := by decide +kernel
theorem d28_15 : decode (mB m28) 15 = .ok (.aload_n 0, 1) := by decide +kernel
theorem d28_16 : decode (mB m28) 16 = .ok (.getfield 27, 3) := by decide +kernel
theorem d28_19 : decode (mB m28) 19 = .ok (.iload_n 1, 1) := by decide +kernel
theorem d28_20 : decode (mB m28) 20 = .ok (.iaload, 1) := by decide +kernel
theorem d28_21 : decode (mB m28) 21 = .ok (.iadd, 1) := by decide +kernel
theorem d28_22 : decode (mB m28) 22 = .ok (.ireturn, 1) := by decide +kernel
theorem d29_0 : decode (mB m29) 0 = .ok (.aload_n 0, 1) := by decide +kernel
theorem d29_1 : decode (mB m29) 1 = .ok (.iload_n 1, 1) := by decide +kernel
theorem d29_2 : decode (mB m29) 2 = .ok (.aload_n 0, 1) := by decide +kernel
theorem d29_3 : decode (mB m29) 3 = .ok (.getfield 33, 3) := by decide +kernel
theorem d29_6 : decode (mB m29) 6 = .ok (.iload_n 1, 1) := by decide +kernel
theorem d29_7 : decode (mB m29) 7 = .ok (.iaload, 1) := by decide +kernel
theorem d29_8 : decode (mB m29) 8 = .ok (.iload_n 2, 1) := by decide +kernel
theorem d29_9 : decode (mB m29) 9 = .ok (.iload_n 3, 1) := by decide +kernel
theorem d29_10 : decode (mB m29) 10 = .ok (.invokevirtual 176, 3) := by decide +kernel
theorem d29_13 : decode (mB m29) 13 = .ok (.istore 4, 2) := by decide +kernel
theorem d29_15 : decode (mB m29) 15 = .ok (.aload_n 0, 1) := by decide +kernel
theorem d29_16 : decode (mB m29) 16 = .ok (.iload_n 1, 1) := by decide +kernel
theorem d29_17 : decode (mB m29) 17 = .ok (.invokevirtual 179, 3) := by decide +kernel
theorem d29_20 : decode (mB m29) 20 = .ok (.istore 5, 2) := by decide +kernel
theorem d29_22 : decode (mB m29) 22 = .ok (.aload_n 0, 1) := by decide +kernel
theorem d29_23 : decode (mB m29) 23 = .ok (.iload 5, 2) := by decide +kernel
theorem d29_25 : decode (mB m29) 25 = .ok (.iload_n 2, 1) := by decide +kernel
theorem d29_26 : decode (mB m29) 26 = .ok (.iload_n 3, 1) := by decide +kernel
theorem d29_27 : decode (mB m29) 27 = .ok (.iload 4, 2) := by decide +kernel
theorem d29_29 : decode (mB m29) 29 = .ok (.invokevirtual 156, 3) := by decide +kernel
theorem d29_32 : decode (mB m29) 32 = .ok (.ireturn, 1) := by decide +kernel
theorem d30_0 : decode (mB m30) 0 = .ok (.iconst 0, 1) := by decide +kernel
theorem d30_1 : decode (mB m30) 1 = .ok (.istore_n 3, 1) := by decide +kernel
theorem d30_2 : decode (mB m30) 2 = .ok (.iconst 0, 1) := by decide +kernel
theorem d30_3 : decode (mB m30) 3 = .ok (.istore 4, 2) := by decide +kernel
theorem d30_5 : decode (mB m30) 5 = .ok (.iload 4, 2) := by decide +kernel
theorem d30_7 : decode (mB m30) 7 = .ok (.aload_n 0, 1) := by decide +kernel
theorem d30_8 : decode (mB m30) 8 = .ok (.getfield 67, 3) := by decide +kernel
theorem d30_11 : decode (mB m30) 11 = .ok (.if_icmp .ge 35, 3) := by decide +kernel
theorem d30_14 : decode (mB m30) 14 = .ok (.aload_n 0, 1) := by decide +kernel
theorem d30_15 : decode (mB m30) 15 = .ok (.iload 4, 2) := by decide +kernel
theorem d30_17 : decode (mB m30) 17 = .ok (.iload_n 1, 1) := by decide +kernel
theorem d30_18 : decode (mB m30) 18 = .ok (.iload_n 2, 1) := by decide +kernel
theorem d30_19 : decode (mB m30) 19 = .ok (.invokevirtual 167, 3) := by decide +kernel
theorem d30_22 : decode (mB m30) 22 = .ok (.ifCond .eq 5, 3) := by decide +kernel
theorem d30_25 : decode (mB m30) 25 = .ok (.iconst 1, 1) := by decide +kernel
theorem d30_26 : decode (mB m30) 26 = .ok (.istore_n 3, 1) := by decide +kernel
theorem d30_27 : decode (mB m30) 27 = .ok (.aload_n 0, 1) := by decide +kernel
theorem d30_28 : decode (mB m30) 28 = .ok (.iload 4, 2) := by decide +kernel
theorem d30_30 : decode (mB m30) 30 = .ok (.iload_n 1, 1) := by decide +kernel
theorem d30_31 : decode (mB m30) 31 = .ok (.iload_n 2, 1) := by decide +kernel
theorem d30_32 : decode (mB m30) 32 = .ok (.invokevirtual 170, 3) := by decide +kernel
theorem d30_35 : decode (mB m30) 35 = .ok (.ifCond .eq 5, 3) := by decide +kernel
theorem d30_38 : decode (mB m30) 38 = .ok (.iconst 1, 1) := by decide +kernel
theorem d30_39 : decode (mB m30) 39 = .ok (.istore_n 3, 1) := by decide +kernel
theorem d30_40 : decode (mB m30) 40 = .ok (.iinc 4 1, 3) := by decide +kernel
theorem d30_43 : decode (mB m30) 43 = .ok (.goto (-38), 3) := by decide +kernel
theorem d30_46 : decode (mB m30) 46 = .ok (.iload_n 3, 1) := by decide +kernel
theorem d30_47 : decode (mB m30) 47 = .ok (.ireturn, 1) := by decide +kernel
theorem d31_0 : decode (mB m31) 0 = .ok (.iconst 1, 1) := by decide +kernel
theorem d31_1 : decode (mB m31) 1 = .ok (.istore_n 3, 1) := by decide +kernel
theorem d31_2 : decode (mB m31) 2 = .ok (.iconst 0, 1) := by decide +kernel
theorem d31_3 : decode (mB m31) 3 = .ok (.istore 4, 2) := by decide +kernel
theorem d31_5 : decode (mB m31) 5 = .ok (.iload_n 3, 1) := by decide +kernel
theorem d31_6 : decode (mB m31) 6 = .ok (.ifCond .eq 23, 3) := by decide +kernel
theorem d31_9 : decode (mB m31) 9 = .ok (.iload 4, 2) := by decide +kernel
theorem d31_11 : decode (mB m31) 11 = .ok (.bipush 24, 2) := by decide +kernel
theorem d31_13 : decode (mB m31) 13 = .ok (.if_icmp .ge 16, 3) := by decide +kernel
theorem d31_16 : decode (mB m31) 16 = .ok (.aload_n 0, 1) := by decide +kernel
theorem d31_17 : decode (mB m31) 17 = .ok (.iload_n 1, 1) := by decide +kernel
theorem d31_18 : decode (mB m31) 18 = .ok (.iload_n 2, 1) := by decide +kernel
theorem d31_19 : decode (mB m31) 19 = .ok (.invokevirtual 163, 3) := by decide +kernel
theorem d31_22 : decode (mB m31) 22 = .ok (.istore_n 3, 1) := by decide +kernel
theorem d31_23 : decode (mB m31) 23 = .ok (.iinc 4 1, 3) := by decide +kernel
theorem d31_26 : decode (mB m31) 26 = .ok (.goto (-21), 3) := by decide +kernel
theorem d31_29 : decode (mB m31) 29 = .ok (.return_, 1) := by decide +kernel
theorem d32_0 : decode (mB m32) 0 = .ok (.aload_n 0, 1) := by decide +kernel
theorem d32_1 : decode (mB m32) 1 = .ok (.invokevirtual 146, 3) := by decide +kernel
theorem d32_4 : decode (mB m32) 4 = .ok (.aload_n 0, 1) := by decide +kernel
theorem d32_5 : decode (mB m32) 5 = .ok (.invokevirtual 149, 3) := by decide +kernel
theorem d32_8 : decode (mB m32) 8 = .ok (.iconst 0, 1) := by decide +kernel
theorem d32_9 : decode (mB m32) 9 = .ok (.istore_n 1, 1) := by decide +kernel
theorem d32_10 : decode (mB m32) 10 = .ok (.iload_n 1, 1) := by decide +kernel
theorem d32_11 : decode (mB m32) 11 = .ok (.aload_n 0, 1) := by decide +kernel
theorem d32_12 : decode (mB m32) 12 = .ok (.getfield 55, 3) := by decide +kernel
theorem d32_15 : decode (mB m32) 15 = .ok (.if_icmp .ge 27, 3) := by decide +kernel
theorem d32_18 : decode (mB m32) 18 = .ok (.iload_n 1, 1) := by decide +kernel
theorem d32_19 : decode (mB m32) 19 = .ok (.istore_n 2, 1) := by decide +kernel
theorem d32_20 : decode (mB m32) 20 = .ok (.iload_n 2, 1) := by decide +kernel
theorem d32_21 : decode (mB m32) 21 = .ok (.ifCond .lt 15, 3) := by decide +kernel
theorem d32_24 : decode (mB m32) 24 = .ok (.aload_n 0, 1) := by decide +kernel
theorem d32_25 : decode (mB m32) 25 = .ok (.iload_n 2, 1) := by decide +kernel
theorem d32_26 : decode (mB m32) 26 = .ok (.iload_n 1, 1) := by decide +kernel
theorem d32_27 : decode (mB m32) 27 = .ok (.invokevirtual 152, 3) := by decide +kernel
theorem d32_30 : decode (mB m32) 30 = .ok (.iinc 2 (-1), 3) := by decide +kernel
theorem d32_33 : decode (mB m32) 33 = .ok (.goto (-13), 3) := by decide +kernel
theorem d32_36 : decode (mB m32) 36 = .ok (.iinc 1 1, 3) := by decide +kernel
theorem d32_39 : decode (mB m32) 39 = .ok (.goto (-29), 3) := by decide +kernel
theorem d32_42 : decode (mB m32) 42 = .ok (.return_, 1) := by decide +kernel
theorem d33_0 : decode (mB m33) 0 = .ok (.aload_n 0, 1) := by decide +kernel
theorem d33_1 : decode (mB m33) 1 = .ok (.iload_n 1, 1) := by decide +kernel
theorem d33_2 : decode (mB m33) 2 = .ok (.iload_n 2, 1) := by decide +kernel
theorem d33_3 : decode (mB m33) 3 = .ok (.iload_n 3, 1) := by decide +kernel
theorem d33_4 : decode (mB m33) 4 = .ok (.iload 4, 2) := by decide +kernel
theorem d33_6 : decode (mB m33) 6 = .ok (.invokevirtual 142, 3) := by decide +kernel
theorem d33_9 : decode (mB m33) 9 = .ok (.istore 6, 2) := by decide +kernel
theorem d33_11 : decode (mB m33) 11 = .ok (.iload 6, 2) := by decide +kernel
theorem d33_13 : decode (mB m33) 13 = .ok (.ifCond .lt 15, 3) := by decide +kernel
theorem d33_16 : decode (mB m33) 16 = .ok (.iload 5, 2) := by decide +kernel
theorem d33_18 : decode (mB m33) 18 = .ok (.aload_n 0, 1) := by decide +kernel
theorem d33_19 : decode (mB m33) 19 = .ok (.getfield 45, 3) := by decide +kernel
theorem d33_22 : decode (mB m33) 22 = .ok (.iload 6, 2) := by decide +kernel
theorem d33_24 : decode (mB m33) 24 = .ok (.iaload, 1) := by decide +kernel
theorem d33_25 : decode (mB m33) 25 = .ok (.if_icmp .lt 5, 3) := by decide +kernel
theorem d33_28 : decode (mB m33) 28 = .ok (.iconst 0, 1) := by decide +kernel
theorem d33_29 : decode (mB m33) 29 = .ok (.ireturn, 1) := by decide +kernel
theorem d33_30 : decode (mB m33) 30 = .ok (.aload_n 0, 1) := by decide +kernel
theorem d33_31 : decode (mB m33) 31 = .ok (.getfield 45, 3) := by decide +kernel
theorem d33_34 : decode (mB m33) 34 = .ok (.iload 6, 2) := by decide +kernel
theorem d33_36 : decode (mB m33) 36 = .ok (.iload 5, 2) := by decide +kernel
theorem d33_38 : decode (mB m33) 38 = .ok (.iastore, 1) := by decide +kernel
theorem d33_39 : decode (mB m33) 39 = .ok (.iconst 1, 1) := by decide +kernel
theorem d33_40 : decode (mB m33) 40 = .ok (.ireturn, 1) := by decide +kernel
theorem d34_0 : decode (mB m34) 0 = .ok (.aload_n 0, 1) := by decide +kernel
theorem d34_1 : decode (mB m34) 1 = .ok (.getfield 33, 3) := by decide +kernel
theorem d34_4 : decode (mB m34) 4 = .ok (.iload_n 1, 1) := by decide +kernel
theorem d34_5 : decode (mB m34) 5 = .ok (.iaload, 1) := by decide +kernel
theorem d34_6 : decode (mB m34) 6 = .ok (.istore_n 2, 1) := by decide +kernel
theorem d34_7 : decode (mB m34) 7 = .ok (.iconst 0, 1) := by decide +kernel
theorem d34_8 : decode (mB m34) 8 = .ok (.istore_n 3, 1) := by decide +kernel
theorem d34_9 : decode (mB m34) 9 = .ok (.iload_n 3, 1) := by decide +kernel
theorem d34_10 : decode (mB m34) 10 = .ok (.aload_n 0, 1) := by decide +kernel
theorem d34_11 : decode (mB m34) 11 = .ok (.getfield 55, 3) := by decide +kernel
theorem d34_14 : decode (mB m34) 14 = .ok (.if_icmp .ge 19, 3) := by decide +kernel
theorem d34_17 : decode (mB m34) 17 = .ok (.aload_n 0, 1) := by decide +kernel
theorem d34_18 : decode (mB m34) 18 = .ok (.iload_n 1, 1) := by decide +kernel
theorem d34_19 : decode (mB m34) 19 = .ok (.iload_n 2, 1) := by decide +kernel
theorem d34_20 : decode (mB m34) 20 = .ok (.iload_n 3, 1) := by decide +kernel
theorem d34_21 : decode (mB m34) 21 = .ok (.iload_n 3, 1) := by decide +kernel
theorem d34_22 : decode (mB m34) 22 = .ok (.iconst 0, 1) := by decide +kernel
theorem d34_23 : decode (mB m34) 23 = .ok (.invokevirtual 189, 3) := by decide +kernel
theorem d34_26 : decode (mB m34) 26 = .ok (.pop, 1) := by decide +kernel
theorem d34_27 : decode (mB m34) 27 = .ok (.iinc 3 1, 3) := by decide +kernel
theorem d34_30 : decode (mB m34) 30 = .ok (.goto (-21), 3) := by decide +kernel
theorem d34_33 : decode (mB m34) 33 = .ok (.return_, 1) := by decide +kernel
theorem d35_0 : decode (mB m35) 0 = .ok (.aload_n 0, 1) := by decide +kernel
theorem d35_1 : decode (mB m35) 1 = .ok (.iload_n 1, 1) := by decide +kernel
theorem d35_2 : decode (mB m35) 2 = .ok (.iload_n 2, 1) := by decide +kernel
theorem d35_3 : decode (mB m35) 3 = .ok (.iload_n 3, 1) := by decide +kernel
theorem d35_4 : decode (mB m35) 4 = .ok (.iload 4, 2) := by decide +kernel
theorem d35_6 : decode (mB m35) 6 = .ok (.invokevirtual 142, 3) := by decide +kernel
theorem d35_9 : decode (mB m35) 9 = .ok (.istore 5, 2) := by decide +kernel
theorem d35_11 : decode (mB m35) 11 = .ok (.iload 5, 2) := by decide +kernel
theorem d35_13 : decode (mB m35) 13 = .ok (.ifCond .ge 8, 3) := by decide +kernel
theorem d35_16 : decode (mB m35) 16 = .ok (.aload_n 0, 1) := by decide +kernel
theorem d35_17 : decode (mB m35) 17 = .ok (.getfield 8, 3) := by decide +kernel
theorem d35_20 : decode (mB m35) 20 = .ok (.ireturn, 1) := by decide +kernel
theorem d35_21 : decode (mB m35) 21 = .ok (.aload_n 0, 1) := by decide +kernel
theorem d35_22 : decode (mB m35) 22 = .ok (.getfield 45, 3) := by decide +kernel
theorem d35_25 : decode (mB m35) 25 = .ok (.iload 5, 2) := by decide +kernel
theorem d35_27 : decode (mB m35) 27 = .ok (.iaload, 1) := by decide +kernel
theorem d35_28 : decode (mB m35) 28 = .ok (.ireturn, 1) := by decide +kernel
theorem d36_0 : decode (mB m36) 0 = .ok (.aload_n 0, 1) := by decide +kernel
theorem d36_1 : decode (mB m36) 1 = .ok (.iload_n 1, 1) := by decide +kernel
theorem d36_2 : decode (mB m36) 2 = .ok (.iload_n 2, 1) := by decide +kernel
theorem d36_3 : decode (mB m36) 3 = .ok (.invokevirtual 84, 3) := by decide +kernel
theorem d36_6 : decode (mB m36) 6 = .ok (.istore 5, 2) := by decide +kernel
theorem d36_8 : decode (mB m36) 8 = .ok (.aload_n 0, 1) := by decide +kernel
theorem d36_9 : decode (mB m36) 9 = .ok (.getfield 8, 3) := by decide +kernel
theorem d36_12 : decode (mB m36) 12 = .ok (.istore 6, 2) := by decide +kernel
theorem d36_14 : decode (mB m36) 14 = .ok (.iload_n 3, 1) := by decide +kernel
theorem d36_15 : decode (mB m36) 15 = .ok (.istore 7, 2) := by decide +kernel
theorem d36_17 : decode (mB m36) 17 = .ok (.iload 7, 2) := by decide +kernel
theorem d36_19 : decode (mB m36) 19 = .ok (.iload 4, 2) := by decide +kernel
theorem d36_21 : decode (mB m36) 21 = .ok (.if_icmp .gt 55, 3) := by decide +kernel
theorem d36_24 : decode (mB m36) 24 = .ok (.aload_n 0, 1) := by decide +kernel
theorem d36_25 : decode (mB m36) 25 = .ok (.iload 5, 2) := by decide +kernel
theorem d36_27 : decode (mB m36) 27 = .ok (.iload_n 3, 1) := by decide +kernel
theorem d36_28 : decode (mB m36) 28 = .ok (.iload 7, 2) := by decide +kernel
theorem d36_30 : decode (mB m36) 30 = .ok (.invokevirtual 91, 3) := by decide +kernel
theorem d36_33 : decode (mB m36) 33 = .ok (.istore 8, 2) := by decide +kernel
theorem d36_35 : decode (mB m36) 35 = .ok (.aload_n 0, 1) := by decide +kernel
theorem d36_36 : decode (mB m36) 36 = .ok (.iload_n 1, 1) := by decide +kernel
theorem d36_37 : decode (mB m36) 37 = .ok (.iload_n 2, 1) := by decide +kernel
theorem d36_38 : decode (mB m36) 38 = .ok (.iconst 1, 1) := by decide +kernel
theorem d36_39 : decode (mB m36) 39 = .ok (.iadd, 1) := by decide +kernel
theorem d36_40 : decode (mB m36) 40 = .ok (.iload 7, 2) := by decide +kernel
theorem d36_42 : decode (mB m36) 42 = .ok (.iload 4, 2) := by decide +kernel
theorem d36_44 : decode (mB m36) 44 = .ok (.invokevirtual 195, 3) := by decide +kernel
theorem d36_47 : decode (mB m36) 47 = .ok (.istore 9, 2) := by decide +kernel
theorem d36_49 : decode (mB m36) 49 = .ok (.aload_n 0, 1) := by decide +kernel
theorem d36_50 : decode (mB m36) 50 = .ok (.iload 8, 2) := by decide +kernel
theorem d36_52 : decode (mB m36) 52 = .ok (.iload 9, 2) := by decide +kernel
theorem d36_54 : decode (mB m36) 54 = .ok (.invokevirtual 120, 3) := by decide +kernel
theorem d36_57 : decode (mB m36) 57 = .ok (.istore 10, 2) := by decide +kernel
theorem d36_59 : decode (mB m36) 59 = .ok (.iload 10, 2) := by decide +kernel
theorem d36_61 : decode (mB m36) 61 = .ok (.iload 6, 2) := by decide +kernel
theorem d36_63 : decode (mB m36) 63 = .ok (.if_icmp .ge 7, 3) := by decide +kernel
theorem d36_66 : decode (mB m36) 66 = .ok (.iload 10, 2) := by decide +kernel
theorem d36_68 : decode (mB m36) 68 = .ok (.istore 6, 2) := by decide +kernel
theorem d36_70 : decode (mB m36) 70 = .ok (.iinc 7 1, 3) := by decide +kernel
theorem d36_73 : decode (mB m36) 73 = .ok (.goto (-56), 3) := by decide +kernel
theorem d36_76 : decode (mB m36) 76 = .ok (.iload 6, 2) := by decide +kernel
theorem d36_78 : decode (mB m36) 78 = .ok (.ireturn, 1) := by decide +kernel
theorem d37_0 : decode (mB m37) 0 = .ok (.iconst 0, 1) := by decide +kernel
theorem d37_1 : decode (mB m37) 1 = .ok (.istore_n 3, 1) := by decide +kernel
theorem d37_2 : decode (mB m37) 2 = .ok (.iload_n 3, 1) := by decide +kernel
theorem d37_3 : decode (mB m37) 3 = .ok (.aload_n 0, 1) := by decide +kernel
theorem d37_4 : decode (mB m37) 4 = .ok (.getfield 55, 3) := by decide +kernel
theorem d37_7 : decode (mB m37) 7 = .ok (.if_icmp .ge 50, 3) := by decide +kernel
theorem d37_10 : decode (mB m37) 10 = .ok (.iload_n 3, 1) := by decide +kernel
theorem d37_11 : decode (mB m37) 11 = .ok (.istore 4, 2) := by decide +kernel
theorem d37_13 : decode (mB m37) 13 = .ok (.iload 4, 2) := by decide +kernel
theorem d37_15 : decode (mB m37) 15 = .ok (.aload_n 0, 1) := by decide +kernel
theorem d37_16 : decode (mB m37) 16 = .ok (.getfield 55, 3) := by decide +kernel
theorem d37_19 : decode (mB m37) 19 = .ok (.if_icmp .ge 32, 3) := by decide +kernel
theorem d37_22 : decode (mB m37) 22 = .ok (.aload_n 0, 1) := by decide +kernel
theorem d37_23 : decode (mB m37) 23 = .ok (.iload_n 1, 1) := by decide +kernel
theorem d37_24 : decode (mB m37) 24 = .ok (.iload_n 2, 1) := by decide +kernel
theorem d37_25 : decode (mB m37) 25 = .ok (.iload_n 3, 1) := by decide +kernel
theorem d37_26 : decode (mB m37) 26 = .ok (.iload 4, 2) := by decide +kernel
theorem d37_28 : decode (mB m37) 28 = .ok (.invokevirtual 192, 3) := by decide +kernel
theorem d37_31 : decode (mB m37) 31 = .ok (.istore 5, 2) := by decide +kernel
theorem d37_33 : decode (mB m37) 33 = .ok (.aload_n 0, 1) := by decide +kernel
theorem d37_34 : decode (mB m37) 34 = .ok (.iload_n 1, 1) := by decide +kernel
theorem d37_35 : decode (mB m37) 35 = .ok (.iload_n 2, 1) := by decide +kernel
theorem d37_36 : decode (mB m37) 36 = .ok (.iload_n 3, 1) := by decide +kernel
theorem d37_37 : decode (mB m37) 37 = .ok (.iload 4, 2) := by decide +kernel
theorem d37_39 : decode (mB m37) 39 = .ok (.iload 5, 2) := by decide +kernel
theorem d37_41 : decode (mB m37) 41 = .ok (.invokevirtual 189, 3) := by decide +kernel
theorem d37_44 : decode (mB m37) 44 = .ok (.pop, 1) := by decide +kernel
theorem d37_45 : decode (mB m37) 45 = .ok (.iinc 4 1, 3) := by decide +kernel
theorem d37_48 : decode (mB m37) 48 = .ok (.goto (-35), 3) := by decide +kernel
theorem d37_51 : decode (mB m37) 51 = .ok (.iinc 3 1, 3) := by decide +kernel
theorem d37_54 : decode (mB m37) 54 = .ok (.goto (-52), 3) := by decide +kernel
theorem d37_57 : decode (mB m37) 57 = .ok (.return_, 1) := by decide +kernel
theorem d38_0 : decode (mB m38) 0 = .ok (.iconst 0, 1) := by decide +kernel
theorem d38_1 : decode (mB m38) 1 = .ok (.istore_n 1, 1) := by decide +kernel
theorem d38_2 : decode (mB m38) 2 = .ok (.iload_n 1, 1) := by decide +kernel
theorem d38_3 : decode (mB m38) 3 = .ok (.aload_n 0, 1) := by decide +kernel
theorem d38_4 : decode (mB m38) 4 = .ok (.getfield 67, 3) := by decide +kernel
theorem d38_7 : decode (mB m38) 7 = .ok (.if_icmp .ge 41, 3) := by decide +kernel
theorem d38_10 : decode (mB m38) 10 = .ok (.aload_n 0, 1) := by decide +kernel
theorem d38_11 : decode (mB m38) 11 = .ok (.iload_n 1, 1) := by decide +kernel
theorem d38_12 : decode (mB m38) 12 = .ok (.invokevirtual 182, 3) := by decide +kernel
theorem d38_15 : decode (mB m38) 15 = .ok (.aload_n 0, 1) := by decide +kernel
theorem d38_16 : decode (mB m38) 16 = .ok (.getfield 33, 3) := by decide +kernel
theorem d38_19 : decode (mB m38) 19 = .ok (.iload_n 1, 1) := by decide +kernel
theorem d38_20 : decode (mB m38) 20 = .ok (.iaload, 1) := by decide +kernel
theorem d38_21 : decode (mB m38) 21 = .ok (.istore_n 2, 1) := by decide +kernel
theorem d38_22 : decode (mB m38) 22 = .ok (.iload_n 2, 1) := by decide +kernel
theorem d38_23 : decode (mB m38) 23 = .ok (.iconst 1, 1) := by decide +kernel
theorem d38_24 : decode (mB m38) 24 = .ok (.isub, 1) := by decide +kernel
theorem d38_25 : decode (mB m38) 25 = .ok (.istore_n 3, 1) := by decide +kernel
theorem d38_26 : decode (mB m38) 26 = .ok (.iload_n 3, 1) := by decide +kernel
theorem d38_27 : decode (mB m38) 27 = .ok (.ifCond .lt 15, 3) := by decide +kernel
theorem d38_30 : decode (mB m38) 30 = .ok (.aload_n 0, 1) := by decide +kernel
theorem d38_31 : decode (mB m38) 31 = .ok (.iload_n 1, 1) := by decide +kernel
theorem d38_32 : decode (mB m38) 32 = .ok (.iload_n 3, 1) := by decide +kernel
theorem d38_33 : decode (mB m38) 33 = .ok (.invokevirtual 186, 3) := by decide +kernel
theorem d38_36 : decode (mB m38) 36 = .ok (.iinc 3 (-1), 3) := by decide +kernel
theorem d38_39 : decode (mB m38) 39 = .ok (.goto (-13), 3) := by decide +kernel
theorem d38_42 : decode (mB m38) 42 = .ok (.iinc 1 1, 3) := by decide +kernel
theorem d38_45 : decode (mB m38) 45 = .ok (.goto (-43), 3) := by decide +kernel
theorem d38_48 : decode (mB m38) 48 = .ok (.return_, 1) := by decide +kernel
theorem d39_0 : decode (mB m39) 0 = .ok (.aload_n 0, 1) := by decide +kernel
theorem d39_1 : decode (mB m39) 1 = .ok (.iload_n 1, 1) := by decide +kernel
theorem d39_2 : decode (mB m39) 2 = .ok (.iload_n 2, 1) := by decide +kernel
theorem d39_3 : decode (mB m39) 3 = .ok (.iload_n 3, 1) := by decide +kernel
theorem d39_4 : decode (mB m39) 4 = .ok (.invokevirtual 139, 3) := by decide +kernel
theorem d39_7 : decode (mB m39) 7 = .ok (.istore 5, 2) := by decide +kernel
theorem d39_9 : decode (mB m39) 9 = .ok (.iload 5, 2) := by decide +kernel
theorem d39_11 : decode (mB m39) 11 = .ok (.ifCond .lt 15, 3) := by decide +kernel
theorem d39_14 : decode (mB m39) 14 = .ok (.iload 4, 2) := by decide +kernel
theorem d39_16 : decode (mB m39) 16 = .ok (.aload_n 0, 1) := by decide +kernel
theorem d39_17 : decode (mB m39) 17 = .ok (.getfield 48, 3) := by decide +kernel
theorem d39_20 : decode (mB m39) 20 = .ok (.iload 5, 2) := by decide +kernel
theorem d39_22 : decode (mB m39) 22 = .ok (.iaload, 1) := by decide +kernel
theorem d39_23 : decode (mB m39) 23 = .ok (.if_icmp .lt 5, 3) := by decide +kernel
theorem d39_26 : decode (mB m39) 26 = .ok (.iconst 0, 1) := by decide +kernel
theorem d39_27 : decode (mB m39) 27 = .ok (.ireturn, 1) := by decide +kernel
theorem d39_28 : decode (mB m39) 28 = .ok (.aload_n 0, 1) := by decide +kernel
theorem d39_29 : decode (mB m39) 29 = .ok (.getfield 48, 3) := by decide +kernel
theorem d39_32 : decode (mB m39) 32 = .ok (.iload 5, 2) := by decide +kernel
theorem d39_34 : decode (mB m39) 34 = .ok (.iload 4, 2) := by decide +kernel
theorem d39_36 : decode (mB m39) 36 = .ok (.iastore, 1) := by decide +kernel
theorem d39_37 : decode (mB m39) 37 = .ok (.iconst 1, 1) := by decide +kernel
theorem d39_38 : decode (mB m39) 38 = .ok (.ireturn, 1) := by decide +kernel
theorem d40_0 : decode (mB m40) 0 = .ok (.aload_n 0, 1) := by decide +kernel
theorem d40_1 : decode (mB m40) 1 = .ok (.iload_n 1, 1) := by decide +kernel
theorem d40_2 : decode (mB m40) 2 = .ok (.iload_n 2, 1) := by decide +kernel
theorem d40_3 : decode (mB m40) 3 = .ok (.iload_n 3, 1) := by decide +kernel
theorem d40_4 : decode (mB m40) 4 = .ok (.invokevirtual 139, 3) := by decide +kernel
theorem d40_7 : decode (mB m40) 7 = .ok (.istore 4, 2) := by decide +kernel
theorem d40_9 : decode (mB m40) 9 = .ok (.iload 4, 2) := by decide +kernel
theorem d40_11 : decode (mB m40) 11 = .ok (.ifCond .ge 8, 3) := by decide +kernel
theorem d40_14 : decode (mB m40) 14 = .ok (.aload_n 0, 1) := by decide +kernel
theorem d40_15 : decode (mB m40) 15 = .ok (.getfield 8, 3) := by decide +kernel
theorem d40_18 : decode (mB m40) 18 = .ok (.ireturn, 1) := by decide +kernel
theorem d40_19 : decode (mB m40) 19 = .ok (.aload_n 0, 1) := by decide +kernel
theorem d40_20 : decode (mB m40) 20 = .ok (.getfield 48, 3) := by decide +kernel
theorem d40_23 : decode (mB m40) 23 = .ok (.iload 4, 2) := by decide +kernel
theorem d40_25 : decode (mB m40) 25 = .ok (.iaload, 1) := by decide +kernel
theorem d40_26 : decode (mB m40) 26 = .ok (.ireturn, 1) := by decide +kernel
theorem d41_0 : decode (mB m41) 0 = .ok (.aload_n 0, 1) := by decide +kernel
theorem d41_1 : decode (mB m41) 1 = .ok (.iload_n 1, 1) := by decide +kernel
theorem d41_2 : decode (mB m41) 2 = .ok (.iload_n 2, 1) := by decide +kernel
theorem d41_3 : decode (mB m41) 3 = .ok (.invokevirtual 120, 3) := by decide +kernel
theorem d41_6 : decode (mB m41) 6 = .ok (.istore 4, 2) := by decide +kernel
theorem d41_8 : decode (mB m41) 8 = .ok (.aload_n 0, 1) := by decide +kernel
theorem d41_9 : decode (mB m41) 9 = .ok (.iload 4, 2) := by decide +kernel
theorem d41_11 : decode (mB m41) 11 = .ok (.iload_n 3, 1) := by decide +kernel
theorem d41_12 : decode (mB m41) 12 = .ok (.invokevirtual 120, 3) := by decide +kernel
theorem d41_15 : decode (mB m41) 15 = .ok (.ireturn, 1) := by decide +kernel
theorem d42_0 : decode (mB m42) 0 = .ok (.aload_n 0, 1) := by decide +kernel
theorem d42_1 : decode (mB m42) 1 = .ok (.iload_n 1, 1) := by decide +kernel
theorem d42_2 : decode (mB m42) 2 = .ok (.invokevirtual 179, 3) := by decide +kernel
theorem d42_5 : decode (mB m42) 5 = .ok (.istore 5, 2) := by decide +kernel
theorem d42_7 : decode (mB m42) 7 = .ok (.aload_n 0, 1) := by decide +kernel
theorem d42_8 : decode (mB m42) 8 = .ok (.getfield 55, 3) := by decide +kernel
theorem d42_11 : decode (mB m42) 11 = .ok (.iconst 1, 1) := by decide +kernel
theorem d42_12 : decode (mB m42) 12 = .ok (.isub, 1) := by decide +kernel
theorem d42_13 : decode (mB m42) 13 = .ok (.istore 6, 2) := by decide +kernel
theorem d42_15 : decode (mB m42) 15 = .ok (.aload_n 0, 1) := by decide +kernel
theorem d42_16 : decode (mB m42) 16 = .ok (.getfield 8, 3) := by decide +kernel
theorem d42_19 : decode (mB m42) 19 = .ok (.istore 7, 2) := by decide +kernel
theorem d42_21 : decode (mB m42) 21 = .ok (.iconst 0, 1) := by decide +kernel
theorem d42_22 : decode (mB m42) 22 = .ok (.istore 8, 2) := by decide +kernel
theorem d42_24 : decode (mB m42) 24 = .ok (.iload 8, 2) := by decide +kernel
theorem d42_26 : decode (mB m42) 26 = .ok (.iload_n 3, 1) := by decide +kernel
theorem d42_27 : decode (mB m42) 27 = .ok (.if_icmp .gt 86, 3) := by decide +kernel
theorem d42_30 : decode (mB m42) 30 = .ok (.iload 4, 2) := by decide +kernel
theorem d42_32 : decode (mB m42) 32 = .ok (.istore 9, 2) := by decide +kernel
theorem d42_34 : decode (mB m42) 34 = .ok (.iload 9, 2) := by decide +kernel
theorem d42_36 : decode (mB m42) 36 = .ok (.iload 6, 2) := by decide +kernel
theorem d42_38 : decode (mB m42) 38 = .ok (.if_icmp .gt 69, 3) := by decide +kernel
theorem d42_41 : decode (mB m42) 41 = .ok (.aload_n 0, 1) := by decide +kernel
theorem d42_42 : decode (mB m42) 42 = .ok (.iload 5, 2) := by decide +kernel
theorem d42_44 : decode (mB m42) 44 = .ok (.iload 8, 2) := by decide +kernel
theorem d42_46 : decode (mB m42) 46 = .ok (.iload 9, 2) := by decide +kernel
theorem d42_48 : decode (mB m42) 48 = .ok (.invokevirtual 117, 3) := by decide +kernel
theorem d42_51 : decode (mB m42) 51 = .ok (.istore 10, 2) := by decide +kernel
theorem d42_53 : decode (mB m42) 53 = .ok (.aload_n 0, 1) := by decide +kernel
theorem d42_54 : decode (mB m42) 54 = .ok (.iload_n 1, 1) := by decide +kernel
theorem d42_55 : decode (mB m42) 55 = .ok (.iload_n 2, 1) := by decide +kernel
theorem d42_56 : decode (mB m42) 56 = .ok (.iload 8, 2) := by decide +kernel
theorem d42_58 : decode (mB m42) 58 = .ok (.iload_n 3, 1) := by decide +kernel
theorem d42_59 : decode (mB m42) 59 = .ok (.invokevirtual 176, 3) := by decide +kernel
theorem d42_62 : decode (mB m42) 62 = .ok (.istore 11, 2) := by decide +kernel
theorem d42_64 : decode (mB m42) 64 = .ok (.aload_n 0, 1) := by decide +kernel
theorem d42_65 : decode (mB m42) 65 = .ok (.iload_n 1, 1) := by decide +kernel
theorem d42_66 : decode (mB m42) 66 = .ok (.iload_n 2, 1) := by decide +kernel
theorem d42_67 : decode (mB m42) 67 = .ok (.iconst 1, 1) := by decide +kernel
theorem d42_68 : decode (mB m42) 68 = .ok (.iadd, 1) := by decide +kernel
theorem d42_69 : decode (mB m42) 69 = .ok (.iload 4, 2) := by decide +kernel
theorem d42_71 : decode (mB m42) 71 = .ok (.iload 9, 2) := by decide +kernel
theorem d42_73 : decode (mB m42) 73 = .ok (.invokevirtual 195, 3) := by decide +kernel
theorem d42_76 : decode (mB m42) 76 = .ok (.istore 12, 2) := by decide +kernel
theorem d42_78 : decode (mB m42) 78 = .ok (.aload_n 0, 1) := by decide +kernel
theorem d42_79 : decode (mB m42) 79 = .ok (.iload 10, 2) := by decide +kernel
theorem d42_81 : decode (mB m42) 81 = .ok (.iload 11, 2) := by decide +kernel
theorem d42_83 : decode (mB m42) 83 = .ok (.iload 12, 2) := by decide +kernel
theorem d42_85 : decode (mB m42) 85 = .ok (.invokevirtual 213, 3) := by decide +kernel
theorem d42_88 : decode (mB m42) 88 = .ok (.istore 13, 2) := by decide +kernel
theorem d42_90 : decode (mB m42) 90 = .ok (.iload 13, 2) := by decide +kernel
theorem d42_92 : decode (mB m42) 92 = .ok (.iload 7, 2) := by decide +kernel
theorem d42_94 : decode (mB m42) 94 = .ok (.if_icmp .ge 7, 3) := by decide +kernel
theorem d42_97 : decode (mB m42) 97 = .ok (.iload 13, 2) := by decide +kernel
theorem d42_99 : decode (mB m42) 99 = .ok (.istore 7, 2) := by decide +kernel
theorem d42_101 : decode (mB m42) 101 = .ok (.iinc 9 1, 3) := by decide +kernel
theorem d42_104 : decode (mB m42) 104 = .ok (.goto (-70), 3) := by decide +kernel
theorem d42_107 : decode (mB m42) 107 = .ok (.iinc 8 1, 3) := by decide +kernel
theorem d42_110 : decode (mB m42) 110 = .ok (.goto (-86), 3) := by decide +kernel
theorem d42_113 : decode (mB m42) 113 = .ok (.iload 7, 2) := by decide +kernel
theorem d42_115 : decode (mB m42) 115 = .ok (.ireturn, 1) := by decide +kernel
theorem d43_0 : decode (mB m43) 0 = .ok (.iconst 0, 1) := by decide +kernel
theorem d43_1 : decode (mB m43) 1 = .ok (.istore 4, 2) := by decide +kernel
theorem d43_3 : decode (mB m43) 3 = .ok (.aload_n 0, 1) := by decide +kernel
theorem d43_4 : decode (mB m43) 4 = .ok (.getfield 33, 3) := by decide +kernel
theorem d43_7 : decode (mB m43) 7 = .ok (.iload_n 1, 1) := by decide +kernel
theorem d43_8 : decode (mB m43) 8 = .ok (.iaload, 1) := by decide +kernel
theorem d43_9 : decode (mB m43) 9 = .ok (.istore 5, 2) := by decide +kernel
theorem d43_11 : decode (mB m43) 11 = .ok (.iconst 0, 1) := by decide +kernel
theorem d43_12 : decode (mB m43) 12 = .ok (.istore 6, 2) := by decide +kernel
theorem d43_14 : decode (mB m43) 14 = .ok (.iload 6, 2) := by decide +kernel
theorem d43_16 : decode (mB m43) 16 = .ok (.iload 5, 2) := by decide +kernel
theorem d43_18 : decode (mB m43) 18 = .ok (.if_icmp .ge 45, 3) := by decide +kernel
theorem d43_21 : decode (mB m43) 21 = .ok (.aload_n 0, 1) := by decide +kernel
theorem d43_22 : decode (mB m43) 22 = .ok (.iload_n 1, 1) := by decide +kernel
theorem d43_23 : decode (mB m43) 23 = .ok (.iload 6, 2) := by decide +kernel
theorem d43_25 : decode (mB m43) 25 = .ok (.iload_n 2, 1) := by decide +kernel
theorem d43_26 : decode (mB m43) 26 = .ok (.iload_n 3, 1) := by decide +kernel
theorem d43_27 : decode (mB m43) 27 = .ok (.invokevirtual 210, 3) := by decide +kernel
theorem d43_30 : decode (mB m43) 30 = .ok (.istore 7, 2) := by decide +kernel
theorem d43_32 : decode (mB m43) 32 = .ok (.aload_n 0, 1) := by decide +kernel
theorem d43_33 : decode (mB m43) 33 = .ok (.iload_n 1, 1) := by decide +kernel
theorem d43_34 : decode (mB m43) 34 = .ok (.iload 6, 2) := by decide +kernel
theorem d43_36 : decode (mB m43) 36 = .ok (.invokevirtual 84, 3) := by decide +kernel
theorem d43_39 : decode (mB m43) 39 = .ok (.istore 8, 2) := by decide +kernel
theorem d43_41 : decode (mB m43) 41 = .ok (.aload_n 0, 1) := by decide +kernel
theorem d43_42 : decode (mB m43) 42 = .ok (.iload 8, 2) := by decide +kernel
theorem d43_44 : decode (mB m43) 44 = .ok (.iload_n 2, 1) := by decide +kernel
theorem d43_45 : decode (mB m43) 45 = .ok (.iload_n 3, 1) := by decide +kernel
theorem d43_46 : decode (mB m43) 46 = .ok (.iload 7, 2) := by decide +kernel
theorem d43_48 : decode (mB m43) 48 = .ok (.invokevirtual 198, 3) := by decide +kernel
theorem d43_51 : decode (mB m43) 51 = .ok (.ifCond .eq 6, 3) := by decide +kernel
theorem d43_54 : decode (mB m43) 54 = .ok (.iconst 1, 1) := by decide +kernel
theorem d43_55 : decode (mB m43) 55 = .ok (.istore 4, 2) := by decide +kernel
theorem d43_57 : decode (mB m43) 57 = .ok (.iinc 6 1, 3) := by decide +kernel
theorem d43_60 : decode (mB m43) 60 = .ok (.goto (-46), 3) := by decide +kernel
theorem d43_63 : decode (mB m43) 63 = .ok (.iload 4, 2) := by decide +kernel
theorem d43_65 : decode (mB m43) 65 = .ok (.ireturn, 1) := by decide +kernel
theorem d44_0 : decode (mB m44) 0 = .ok (.iconst 0, 1) := by decide +kernel
theorem d44_1 : decode (mB m44) 1 = .ok (.istore_n 3, 1) := by decide +kernel
theorem d44_2 : decode (mB m44) 2 = .ok (.iconst 0, 1) := by decide +kernel
theorem d44_3 : decode (mB m44) 3 = .ok (.istore 4, 2) := by decide +kernel
theorem d44_5 : decode (mB m44) 5 = .ok (.iload 4, 2) := by decide +kernel
theorem d44_7 : decode (mB m44) 7 = .ok (.aload_n 0, 1) := by decide +kernel
theorem d44_8 : decode (mB m44) 8 = .ok (.getfield 67, 3) := by decide +kernel
theorem d44_11 : decode (mB m44) 11 = .ok (.if_icmp .ge 22, 3) := by decide +kernel
theorem d44_14 : decode (mB m44) 14 = .ok (.aload_n 0, 1) := by decide +kernel
theorem d44_15 : decode (mB m44) 15 = .ok (.iload 4, 2) := by decide +kernel
theorem d44_17 : decode (mB m44) 17 = .ok (.iload_n 1, 1) := by decide +kernel
theorem d44_18 : decode (mB m44) 18 = .ok (.iload_n 2, 1) := by decide +kernel
theorem d44_19 : decode (mB m44) 19 = .ok (.invokevirtual 207, 3) := by decide +kernel
theorem d44_22 : decode (mB m44) 22 = .ok (.ifCond .eq 5, 3) := by decide +kernel
theorem d44_25 : decode (mB m44) 25 = .ok (.iconst 1, 1) := by decide +kernel
theorem d44_26 : decode (mB m44) 26 = .ok (.istore_n 3, 1) := by decide +kernel
theorem d44_27 : decode (mB m44) 27 = .ok (.iinc 4 1, 3) := by decide +kernel
theorem d44_30 : decode (mB m44) 30 = .ok (.goto (-25), 3) := by decide +kernel
theorem d44_33 : decode (mB m44) 33 = .ok (.iload_n 3, 1) := by decide +kernel
theorem d44_34 : decode (mB m44) 34 = .ok (.ireturn, 1) := by decide +kernel
theorem d45_0 : decode (mB m45) 0 = .ok (.iconst 1, 1) := by decide +kernel
theorem d45_1 : decode (mB m45) 1 = .ok (.istore_n 3, 1) := by decide +kernel
theorem d45_2 : decode (mB m45) 2 = .ok (.iconst 0, 1) := by decide +kernel
theorem d45_3 : decode (mB m45) 3 = .ok (.istore 4, 2) := by decide +kernel
theorem d45_5 : decode (mB m45) 5 = .ok (.iload_n 3, 1) := by decide +kernel
theorem d45_6 : decode (mB m45) 6 = .ok (.ifCond .eq 23, 3) := by decide +kernel
theorem d45_9 : decode (mB m45) 9 = .ok (.iload 4, 2) := by decide +kernel
theorem d45_11 : decode (mB m45) 11 = .ok (.bipush 24, 2) := by decide +kernel
theorem d45_13 : decode (mB m45) 13 = .ok (.if_icmp .ge 16, 3) := by decide +kernel
theorem d45_16 : decode (mB m45) 16 = .ok (.aload_n 0, 1) := by decide +kernel
theorem d45_17 : decode (mB m45) 17 = .ok (.iload_n 1, 1) := by decide +kernel
theorem d45_18 : decode (mB m45) 18 = .ok (.iload_n 2, 1) := by decide +kernel
theorem d45_19 : decode (mB m45) 19 = .ok (.invokevirtual 204, 3) := by decide +kernel
theorem d45_22 : decode (mB m45) 22 = .ok (.istore_n 3, 1) := by decide +kernel
theorem d45_23 : decode (mB m45) 23 = .ok (.iinc 4 1, 3) := by decide +kernel
theorem d45_26 : decode (mB m45) 26 = .ok (.goto (-21), 3) := by decide +kernel
theorem d45_29 : decode (mB m45) 29 = .ok (.return_, 1) := by decide +kernel
theorem d46_0 : decode (mB m46) 0 = .ok (.aload_n 0, 1) := by decide +kernel
theorem d46_1 : decode (mB m46) 1 = .ok (.getfield 55, 3) := by decide +kernel
theorem d46_4 : decode (mB m46) 4 = .ok (.iconst 1, 1) := by decide +kernel
theorem d46_5 : decode (mB m46) 5 = .ok (.isub, 1) := by decide +kernel
theorem d46_6 : decode (mB m46) 6 = .ok (.istore_n 1, 1) := by decide +kernel
theorem d46_7 : decode (mB m46) 7 = .ok (.aload_n 0, 1) := by decide +kernel
theorem d46_8 : decode (mB m46) 8 = .ok (.bipush 8, 2) := by decide +kernel
theorem d46_10 : decode (mB m46) 10 = .ok (.iconst 0, 1) := by decide +kernel
theorem d46_11 : decode (mB m46) 11 = .ok (.iload_n 1, 1) := by decide +kernel
theorem d46_12 : decode (mB m46) 12 = .ok (.iconst 0, 1) := by decide +kernel
theorem d46_13 : decode (mB m46) 13 = .ok (.invokevirtual 198, 3) := by decide +kernel
theorem d46_16 : decode (mB m46) 16 = .ok (.pop, 1) := by decide +kernel
theorem d46_17 : decode (mB m46) 17 = .ok (.iload_n 1, 1) := by decide +kernel
theorem d46_18 : decode (mB m46) 18 = .ok (.istore_n 2, 1) := by decide +kernel
theorem d46_19 : decode (mB m46) 19 = .ok (.iload_n 2, 1) := by decide +kernel
theorem d46_20 : decode (mB m46) 20 = .ok (.ifCond .lt 32, 3) := by decide +kernel
theorem d46_23 : decode (mB m46) 23 = .ok (.iconst 0, 1) := by decide +kernel
theorem d46_24 : decode (mB m46) 24 = .ok (.istore_n 3, 1) := by decide +kernel
theorem d46_25 : decode (mB m46) 25 = .ok (.iload_n 3, 1) := by decide +kernel
theorem d46_26 : decode (mB m46) 26 = .ok (.iload_n 2, 1) := by decide +kernel
theorem d46_27 : decode (mB m46) 27 = .ok (.iadd, 1) := by decide +kernel
theorem d46_28 : decode (mB m46) 28 = .ok (.iload_n 1, 1) := by decide +kernel
theorem d46_29 : decode (mB m46) 29 = .ok (.if_icmp .gt 17, 3) := by decide +kernel
theorem d46_32 : decode (mB m46) 32 = .ok (.aload_n 0, 1) := by decide +kernel
theorem d46_33 : decode (mB m46) 33 = .ok (.iload_n 3, 1) := by decide +kernel
theorem d46_34 : decode (mB m46) 34 = .ok (.iload_n 3, 1) := by decide +kernel
theorem d46_35 : decode (mB m46) 35 = .ok (.iload_n 2, 1) := by decide +kernel
theorem d46_36 : decode (mB m46) 36 = .ok (.iadd, 1) := by decide +kernel
theorem d46_37 : decode (mB m46) 37 = .ok (.invokevirtual 201, 3) := by decide +kernel
theorem d46_40 : decode (mB m46) 40 = .ok (.iinc 3 1, 3) := by decide +kernel
theorem d46_43 : decode (mB m46) 43 = .ok (.goto (-18), 3) := by decide +kernel
theorem d46_46 : decode (mB m46) 46 = .ok (.iinc 2 (-1), 3) := by decide +kernel
theorem d46_49 : decode (mB m46) 49 = .ok (.goto (-30), 3) := by decide +kernel
theorem d46_52 : decode (mB m46) 52 = .ok (.return_, 1) := by decide +kernel
theorem d47_0 : decode (mB m47) 0 = .ok (.aload_n 0, 1) := by decide +kernel
theorem d47_1 : decode (mB m47) 1 = .ok (.invokevirtual 61, 3) := by decide +kernel
theorem d47_4 : decode (mB m47) 4 = .ok (.aload_n 0, 1) := by decide +kernel
theorem d47_5 : decode (mB m47) 5 = .ok (.invokevirtual 88, 3) := by decide +kernel
theorem d47_8 : decode (mB m47) 8 = .ok (.aload_n 0, 1) := by decide +kernel
theorem d47_9 : decode (mB m47) 9 = .ok (.getfield 55, 3) := by decide +kernel
theorem d47_12 : decode (mB m47) 12 = .ok (.iconst 1, 1) := by decide +kernel
theorem d47_13 : decode (mB m47) 13 = .ok (.isub, 1) := by decide +kernel
theorem d47_14 : decode (mB m47) 14 = .ok (.istore_n 1, 1) := by decide +kernel
theorem d47_15 : decode (mB m47) 15 = .ok (.aload_n 0, 1) := by decide +kernel
theorem d47_16 : decode (mB m47) 16 = .ok (.bipush 8, 2) := by decide +kernel
theorem d47_18 : decode (mB m47) 18 = .ok (.iconst 0, 1) := by decide +kernel
theorem d47_19 : decode (mB m47) 19 = .ok (.iload_n 1, 1) := by decide +kernel
theorem d47_20 : decode (mB m47) 20 = .ok (.invokevirtual 91, 3) := by decide +kernel
theorem d47_23 : decode (mB m47) 23 = .ok (.istore_n 2, 1) := by decide +kernel
theorem d47_24 : decode (mB m47) 24 = .ok (.iload_n 2, 1) := by decide +kernel
theorem d47_25 : decode (mB m47) 25 = .ok (.aload_n 0, 1) := by decide +kernel
theorem d47_26 : decode (mB m47) 26 = .ok (.getfield 8, 3) := by decide +kernel
theorem d47_29 : decode (mB m47) 29 = .ok (.if_icmp .ge 24, 3) := by decide +kernel
theorem d47_32 : decode (mB m47) 32 = .ok (.aload_n 0, 1) := by decide +kernel
theorem d47_33 : decode (mB m47) 33 = .ok (.iconst 1, 1) := by decide +kernel
theorem d47_34 : decode (mB m47) 34 = .ok (.putfield 95, 3) := by decide +kernel
theorem d47_37 : decode (mB m47) 37 = .ok (.aload_n 0, 1) := by decide +kernel
theorem d47_38 : decode (mB m47) 38 = .ok (.iload_n 2, 1) := by decide +kernel
theorem d47_39 : decode (mB m47) 39 = .ok (.putfield 98, 3) := by decide +kernel
theorem d47_42 : decode (mB m47) 42 = .ok (.aload_n 0, 1) := by decide +kernel
theorem d47_43 : decode (mB m47) 43 = .ok (.invokevirtual 101, 3) := by decide +kernel
theorem d47_46 : decode (mB m47) 46 = .ok (.aload_n 0, 1) := by decide +kernel
theorem d47_47 : decode (mB m47) 47 = .ok (.invokevirtual 104, 3) := by decide +kernel
theorem d47_50 : decode (mB m47) 50 = .ok (.goto 13, 3) := by decide +kernel
theorem d47_53 : decode (mB m47) 53 = .ok (.aload_n 0, 1) := by decide +kernel
theorem d47_54 : decode (mB m47) 54 = .ok (.iconst 2, 1) := by decide +kernel
theorem d47_55 : decode (mB m47) 55 = .ok (.putfield 95, 3) := by decide +kernel
theorem d47_58 : decode (mB m47) 58 = .ok (.aload_n 0, 1) := by decide +kernel
theorem d47_59 : decode (mB m47) 59 = .ok (.iconst (-1), 1) := by decide +kernel
theorem d47_60 : decode (mB m47) 60 = .ok (.putfield 98, 3) := by decide +kernel
theorem d47_63 : decode (mB m47) 63 = .ok (.aload_n 0, 1) := by decide +kernel
theorem d47_64 : decode (mB m47) 64 = .ok (.getfield 95, 3) := by decide +kernel
theorem d47_67 : decode (mB m47) 67 = .ok (.iconst 1, 1) := by decide +kernel
theorem d47_68 : decode (mB m47) 68 = .ok (.if_icmp .ne 7, 3) := by decide +kernel
theorem d47_71 : decode (mB m47) 71 = .ok (.iconst 1, 1) := by decide +kernel
theorem d47_72 : decode (mB m47) 72 = .ok (.goto 4, 3) := by decide +kernel
theorem d47_75 : decode (mB m47) 75 = .ok (.iconst 0, 1) := by decide +kernel
theorem d47_76 : decode (mB m47) 76 = .ok (.ireturn, 1) := by decide +kernel
theorem d48_0 : decode (mB m48) 0 = .ok (.aload_n 0, 1) := by decide +kernel
theorem d48_1 : decode (mB m48) 1 = .ok (.getfield 95, 3) := by decide +kernel
theorem d48_4 : decode (mB m48) 4 = .ok (.ireturn, 1) := by decide +kernel
theorem d49_0 : decode (mB m49) 0 = .ok (.aload_n 0, 1) := by decide +kernel
theorem d49_1 : decode (mB m49) 1 = .ok (.getfield 95, 3) := by decide +kernel
theorem d49_4 : decode (mB m49) 4 = .ok (.iconst 1, 1) := by decide +kernel
theorem d49_5 : decode (mB m49) 5 = .ok (.if_icmp .eq 5, 3) := by decide +kernel
theorem d49_8 : decode (mB m49) 8 = .ok (.iconst (-1), 1) := by decide +kernel
theorem d49_9 : decode (mB m49) 9 = .ok (.ireturn, 1) := by decide +kernel
theorem d49_10 : decode (mB m49) 10 = .ok (.aload_n 0, 1) := by decide +kernel
theorem d49_11 : decode (mB m49) 11 = .ok (.getfield 98, 3) := by decide +kernel
theorem d49_14 : decode (mB m49) 14 = .ok (.ireturn, 1) := by decide +kernel
theorem d50_0 : decode (mB m50) 0 = .ok (.iload_n 1, 1) := by decide +kernel
theorem d50_1 : decode (mB m50) 1 = .ok (.aload_n 0, 1) := by decide +kernel
theorem d50_2 : decode (mB m50) 2 = .ok (.getfield 8, 3) := by decide +kernel
theorem d50_5 : decode (mB m50) 5 = .ok (.if_icmp .ge 7, 3) := by decide +kernel
theorem d50_8 : decode (mB m50) 8 = .ok (.iload_n 1, 1) := by decide +kernel
theorem d50_9 : decode (mB m50) 9 = .ok (.ifCond .ge 5, 3) := by decide +kernel
theorem d50_12 : decode (mB m50) 12 = .ok (.iconst (-1), 1) := by decide +kernel
theorem d50_13 : decode (mB m50) 13 = .ok (.ireturn, 1) := by decide +kernel
theorem d50_14 : decode (mB m50) 14 = .ok (.iload_n 1, 1) := by decide +kernel
theorem d50_15 : decode (mB m50) 15 = .ok (.ireturn, 1) := by decide +kernel
theorem d51_0 : decode (mB m51) 0 = .ok (.aload_n 0, 1) := by decide +kernel
theorem d51_1 : decode (mB m51) 1 = .ok (.getfield 95, 3) := by decide +kernel
theorem d51_4 : decode (mB m51) 4 = .ok (.ifCond .ne 5, 3) := by decide +kernel
theorem d51_7 : decode (mB m51) 7 = .ok (.iconst (-1), 1) := by decide +kernel
theorem d51_8 : decode (mB m51) 8 = .ok (.ireturn, 1) := by decide +kernel
theorem d51_9 : decode (mB m51) 9 = .ok (.aload_n 0, 1) := by decide +kernel
theorem d51_10 : decode (mB m51) 10 = .ok (.iload_n 1, 1) := by decide +kernel
theorem d51_11 : decode (mB m51) 11 = .ok (.invokevirtual 107, 3) := by decide +kernel
theorem d51_14 : decode (mB m51) 14 = .ok (.ifCond .eq 19, 3) := by decide +kernel
theorem d51_17 : decode (mB m51) 17 = .ok (.aload_n 0, 1) := by decide +kernel
theorem d51_18 : decode (mB m51) 18 = .ok (.iload_n 2, 1) := by decide +kernel
theorem d51_19 : decode (mB m51) 19 = .ok (.invokevirtual 111, 3) := by decide +kernel
theorem d51_22 : decode (mB m51) 22 = .ok (.ifCond .eq 11, 3) := by decide +kernel
theorem d51_25 : decode (mB m51) 25 = .ok (.aload_n 0, 1) := by decide +kernel
theorem d51_26 : decode (mB m51) 26 = .ok (.iload_n 3, 1) := by decide +kernel
theorem d51_27 : decode (mB m51) 27 = .ok (.invokevirtual 111, 3) := by decide +kernel
theorem d51_30 : decode (mB m51) 30 = .ok (.ifCond .ne 5, 3) := by decide +kernel
theorem d51_33 : decode (mB m51) 33 = .ok (.iconst (-1), 1) := by decide +kernel
theorem d51_34 : decode (mB m51) 34 = .ok (.ireturn, 1) := by decide +kernel
theorem d51_35 : decode (mB m51) 35 = .ok (.iload_n 2, 1) := by decide +kernel
theorem d51_36 : decode (mB m51) 36 = .ok (.iload_n 3, 1) := by decide +kernel
theorem d51_37 : decode (mB m51) 37 = .ok (.if_icmp .le 5, 3) := by decide +kernel
theorem d51_40 : decode (mB m51) 40 = .ok (.iconst (-1), 1) := by decide +kernel
theorem d51_41 : decode (mB m51) 41 = .ok (.ireturn, 1) := by decide +kernel
theorem d51_42 : decode (mB m51) 42 = .ok (.aload_n 0, 1) := by decide +kernel
theorem d51_43 : decode (mB m51) 43 = .ok (.iload_n 1, 1) := by decide +kernel
theorem d51_44 : decode (mB m51) 44 = .ok (.iload_n 2, 1) := by decide +kernel
theorem d51_45 : decode (mB m51) 45 = .ok (.iload_n 3, 1) := by decide +kernel
theorem d51_46 : decode (mB m51) 46 = .ok (.invokevirtual 91, 3) := by decide +kernel
theorem d51_49 : decode (mB m51) 49 = .ok (.istore 4, 2) := by decide +kernel
theorem d51_51 : decode (mB m51) 51 = .ok (.aload_n 0, 1) := by decide +kernel
theorem d51_52 : decode (mB m51) 52 = .ok (.iload 4, 2) := by decide +kernel
theorem d51_54 : decode (mB m51) 54 = .ok (.invokevirtual 114, 3) := by decide +kernel
theorem d51_57 : decode (mB m51) 57 = .ok (.ireturn, 1) := by decide +kernel
theorem d52_0 : decode (mB m52) 0 = .ok (.aload_n 0, 1) := by decide +kernel
theorem d52_1 : decode (mB m52) 1 = .ok (.getfield 95, 3) := by decide +kernel
theorem d52_4 : decode (mB m52) 4 = .ok (.iconst 1, 1) := by decide +kernel
theorem d52_5 : decode (mB m52) 5 = .ok (.if_icmp .eq 5, 3) := by decide +kernel
theorem d52_8 : decode (mB m52) 8 = .ok (.iconst (-1), 1) := by decide +kernel
theorem d52_9 : decode (mB m52) 9 = .ok (.ireturn, 1) := by decide +kernel
theorem d52_10 : decode (mB m52) 10 = .ok (.iload_n 1, 1) := by decide +kernel
theorem d52_11 : decode (mB m52) 11 = .ok (.ifCond .lt 11, 3) := by decide +kernel
theorem d52_14 : decode (mB m52) 14 = .ok (.iload_n 1, 1) := by decide +kernel
theorem d52_15 : decode (mB m52) 15 = .ok (.aload_n 0, 1) := by decide +kernel
theorem d52_16 : decode (mB m52) 16 = .ok (.getfield 64, 3) := by decide +kernel
theorem d52_19 : decode (mB m52) 19 = .ok (.if_icmp .lt 5, 3) := by decide +kernel
theorem d52_22 : decode (mB m52) 22 = .ok (.iconst (-1), 1) := by decide +kernel
theorem d52_23 : decode (mB m52) 23 = .ok (.ireturn, 1) := by decide +kernel
theorem d52_24 : decode (mB m52) 24 = .ok (.aload_n 0, 1) := by decide +kernel
theorem d52_25 : decode (mB m52) 25 = .ok (.aload_n 0, 1) := by decide +kernel
theorem d52_26 : decode (mB m52) 26 = .ok (.getfield 21, 3) := by decide +kernel
theorem d52_29 : decode (mB m52) 29 = .ok (.iload_n 1, 1) := by decide +kernel
theorem d52_30 : decode (mB m52) 30 = .ok (.iaload, 1) := by decide +kernel
theorem d52_31 : decode (mB m52) 31 = .ok (.aload_n 0, 1) := by decide +kernel
theorem d52_32 : decode (mB m52) 32 = .ok (.getfield 14, 3) := by decide +kernel
theorem d52_35 : decode (mB m52) 35 = .ok (.iload_n 1, 1) := by decide +kernel
theorem d52_36 : decode (mB m52) 36 = .ok (.iaload, 1) := by decide +kernel
theorem d52_37 : decode (mB m52) 37 = .ok (.aload_n 0, 1) := by decide +kernel
theorem d52_38 : decode (mB m52) 38 = .ok (.getfield 18, 3) := by decide +kernel
theorem d52_41 : decode (mB m52) 41 = .ok (.iload_n 1, 1) := by decide +kernel
theorem d52_42 : decode (mB m52) 42 = .ok (.iaload, 1) := by decide +kernel
theorem d52_43 : decode (mB m52) 43 = .ok (.invokevirtual 117, 3) := by decide +kernel
theorem d52_46 : decode (mB m52) 46 = .ok (.istore_n 2, 1) := by decide +kernel
theorem d52_47 : decode (mB m52) 47 = .ok (.aload_n 0, 1) := by decide +kernel
theorem d52_48 : decode (mB m52) 48 = .ok (.iload_n 2, 1) := by decide +kernel
theorem d52_49 : decode (mB m52) 49 = .ok (.aload_n 0, 1) := by decide +kernel
theorem d52_50 : decode (mB m52) 50 = .ok (.getfield 24, 3) := by decide +kernel
theorem d52_53 : decode (mB m52) 53 = .ok (.iload_n 1, 1) := by decide +kernel
theorem d52_54 : decode (mB m52) 54 = .ok (.iaload, 1) := by decide +kernel
theorem d52_55 : decode (mB m52) 55 = .ok (.invokevirtual 120, 3) := by decide +kernel
theorem d52_58 : decode (mB m52) 58 = .ok (.istore_n 3, 1) := by decide +kernel
theorem d52_59 : decode (mB m52) 59 = .ok (.aload_n 0, 1) := by decide +kernel
theorem d52_60 : decode (mB m52) 60 = .ok (.iload_n 3, 1) := by decide +kernel
theorem d52_61 : decode (mB m52) 61 = .ok (.invokevirtual 114, 3) := by decide +kernel
theorem d52_64 : decode (mB m52) 64 = .ok (.ireturn, 1) := by decide +kernel
theorem d53_0 : decode (mB m53) 0 = .ok (.aload_n 0, 1) := by decide +kernel
theorem d53_1 : decode (mB m53) 1 = .ok (.iload_n 1, 1) := by decide +kernel
theorem d53_2 : decode (mB m53) 2 = .ok (.invokevirtual 179, 3) := by decide +kernel
theorem d53_5 : decode (mB m53) 5 = .ok (.istore_n 2, 1) := by decide +kernel
theorem d53_6 : decode (mB m53) 6 = .ok (.aload_n 0, 1) := by decide +kernel
theorem d53_7 : decode (mB m53) 7 = .ok (.getfield 33, 3) := by decide +kernel
theorem d53_10 : decode (mB m53) 10 = .ok (.iload_n 1, 1) := by decide +kernel
theorem d53_11 : decode (mB m53) 11 = .ok (.iaload, 1) := by decide +kernel
theorem d53_12 : decode (mB m53) 12 = .ok (.istore_n 3, 1) := by decide +kernel
theorem d53_13 : decode (mB m53) 13 = .ok (.aload_n 0, 1) := by decide +kernel
theorem d53_14 : decode (mB m53) 14 = .ok (.getfield 8, 3) := by decide +kernel
theorem d53_17 : decode (mB m53) 17 = .ok (.istore 4, 2) := by decide +kernel
theorem d53_19 : decode (mB m53) 19 = .ok (.iconst 0, 1) := by decide +kernel
theorem d53_20 : decode (mB m53) 20 = .ok (.istore 5, 2) := by decide +kernel
theorem d53_22 : decode (mB m53) 22 = .ok (.iload 5, 2) := by decide +kernel
theorem d53_24 : decode (mB m53) 24 = .ok (.aload_n 0, 1) := by decide +kernel
theorem d53_25 : decode (mB m53) 25 = .ok (.getfield 55, 3) := by decide +kernel
theorem d53_28 : decode (mB m53) 28 = .ok (.if_icmp .ge 72, 3) := by decide +kernel
theorem d53_31 : decode (mB m53) 31 = .ok (.iload 5, 2) := by decide +kernel
theorem d53_33 : decode (mB m53) 33 = .ok (.istore 6, 2) := by decide +kernel
theorem d53_35 : decode (mB m53) 35 = .ok (.iload 6, 2) := by decide +kernel
theorem d53_37 : decode (mB m53) 37 = .ok (.aload_n 0, 1) := by decide +kernel
theorem d53_38 : decode (mB m53) 38 = .ok (.getfield 55, 3) := by decide +kernel
theorem d53_41 : decode (mB m53) 41 = .ok (.if_icmp .ge 53, 3) := by decide +kernel
theorem d53_44 : decode (mB m53) 44 = .ok (.aload_n 0, 1) := by decide +kernel
theorem d53_45 : decode (mB m53) 45 = .ok (.iload_n 2, 1) := by decide +kernel
theorem d53_46 : decode (mB m53) 46 = .ok (.iload 5, 2) := by decide +kernel
theorem d53_48 : decode (mB m53) 48 = .ok (.iload 6, 2) := by decide +kernel
theorem d53_50 : decode (mB m53) 50 = .ok (.invokevirtual 117, 3) := by decide +kernel
theorem d53_53 : decode (mB m53) 53 = .ok (.istore 7, 2) := by decide +kernel
theorem d53_55 : decode (mB m53) 55 = .ok (.aload_n 0, 1) := by decide +kernel
theorem d53_56 : decode (mB m53) 56 = .ok (.iload_n 1, 1) := by decide +kernel
theorem d53_57 : decode (mB m53) 57 = .ok (.iload_n 3, 1) := by decide +kernel
theorem d53_58 : decode (mB m53) 58 = .ok (.iload 5, 2) := by decide +kernel
theorem d53_60 : decode (mB m53) 60 = .ok (.iload 6, 2) := by decide +kernel
theorem d53_62 : decode (mB m53) 62 = .ok (.invokevirtual 176, 3) := by decide +kernel
theorem d53_65 : decode (mB m53) 65 = .ok (.istore 8, 2) := by decide +kernel
theorem d53_67 : decode (mB m53) 67 = .ok (.aload_n 0, 1) := by decide +kernel
theorem d53_68 : decode (mB m53) 68 = .ok (.iload 7, 2) := by decide +kernel
theorem d53_70 : decode (mB m53) 70 = .ok (.iload 8, 2) := by decide +kernel
theorem d53_72 : decode (mB m53) 72 = .ok (.invokevirtual 120, 3) := by decide +kernel
theorem d53_75 : decode (mB m53) 75 = .ok (.istore 9, 2) := by decide +kernel
theorem d53_77 : decode (mB m53) 77 = .ok (.iload 9, 2) := by decide +kernel
theorem d53_79 : decode (mB m53) 79 = .ok (.iload 4, 2) := by decide +kernel
theorem d53_81 : decode (mB m53) 81 = .ok (.if_icmp .ge 7, 3) := by decide +kernel
theorem d53_84 : decode (mB m53) 84 = .ok (.iload 9, 2) := by decide +kernel
theorem d53_86 : decode (mB m53) 86 = .ok (.istore 4, 2) := by decide +kernel
theorem d53_88 : decode (mB m53) 88 = .ok (.iinc 6 1, 3) := by decide +kernel
theorem d53_91 : decode (mB m53) 91 = .ok (.goto (-56), 3) := by decide +kernel
theorem d53_94 : decode (mB m53) 94 = .ok (.iinc 5 1, 3) := by decide +kernel
theorem d53_97 : decode (mB m53) 97 = .ok (.goto (-75), 3) := by decide +kernel
theorem d53_100 : decode (mB m53) 100 = .ok (.iload 4, 2) := by decide +kernel
theorem d53_102 : decode (mB m53) 102 = .ok (.ireturn, 1) := by decide +kernel
theorem d54_0 : decode (mB m54) 0 = .ok (.aload_n 0, 1) := by decide +kernel
theorem d54_1 : decode (mB m54) 1 = .ok (.getfield 95, 3) := by decide +kernel
theorem d54_4 : decode (mB m54) 4 = .ok (.iconst 1, 1) := by decide +kernel
theorem d54_5 : decode (mB m54) 5 = .ok (.if_icmp .eq 5, 3) := by decide +kernel
theorem d54_8 : decode (mB m54) 8 = .ok (.iconst (-1), 1) := by decide +kernel
theorem d54_9 : decode (mB m54) 9 = .ok (.ireturn, 1) := by decide +kernel
theorem d54_10 : decode (mB m54) 10 = .ok (.aload_n 0, 1) := by decide +kernel
theorem d54_11 : decode (mB m54) 11 = .ok (.iload_n 1, 1) := by decide +kernel
theorem d54_12 : decode (mB m54) 12 = .ok (.invokevirtual 123, 3) := by decide +kernel
theorem d54_15 : decode (mB m54) 15 = .ok (.ifCond .ne 5, 3) := by decide +kernel
theorem d54_18 : decode (mB m54) 18 = .ok (.iconst (-1), 1) := by decide +kernel
theorem d54_19 : decode (mB m54) 19 = .ok (.ireturn, 1) := by decide +kernel
theorem d54_20 : decode (mB m54) 20 = .ok (.aload_n 0, 1) := by decide +kernel
theorem d54_21 : decode (mB m54) 21 = .ok (.iload_n 1, 1) := by decide +kernel
theorem d54_22 : decode (mB m54) 22 = .ok (.invokevirtual 126, 3) := by decide +kernel
theorem d54_25 : decode (mB m54) 25 = .ok (.istore_n 2, 1) := by decide +kernel
theorem d54_26 : decode (mB m54) 26 = .ok (.aload_n 0, 1) := by decide +kernel
theorem d54_27 : decode (mB m54) 27 = .ok (.iload_n 2, 1) := by decide +kernel
theorem d54_28 : decode (mB m54) 28 = .ok (.invokevirtual 114, 3) := by decide +kernel
theorem d54_31 : decode (mB m54) 31 = .ok (.ireturn, 1) := by decide +kernel
theorem d55_0 : decode (mB m55) 0 = .ok (.iload_n 0, 1) := by decide +kernel
theorem d55_1 : decode (mB m55) 1 = .ok (.bipush 7, 2) := by decide +kernel
theorem d55_3 : decode (mB m55) 3 = .ok (.iand, 1) := by decide +kernel
theorem d55_4 : decode (mB m55) 4 = .ok (.istore 6, 2) := by decide +kernel
theorem d55_6 : decode (mB m55) 6 = .ok (.iload_n 0, 1) := by decide +kernel
theorem d55_7 : decode (mB m55) 7 = .ok (.iconst 3, 1) := by decide +kernel
theorem d55_8 : decode (mB m55) 8 = .ok (.ishr, 1) := by decide +kernel
theorem d55_9 : decode (mB m55) 9 = .ok (.bipush 7, 2) := by decide +kernel
theorem d55_11 : decode (mB m55) 11 = .ok (.iand, 1) := by decide +kernel
theorem d55_12 : decode (mB m55) 12 = .ok (.istore 7, 2) := by decide +kernel
theorem d55_14 : decode (mB m55) 14 = .ok (.iload_n 0, 1) := by decide +kernel
theorem d55_15 : decode (mB m55) 15 = .ok (.bipush 6, 2) := by decide +kernel
theorem d55_17 : decode (mB m55) 17 = .ok (.ishr, 1) := by decide +kernel
theorem d55_18 : decode (mB m55) 18 = .ok (.bipush 7, 2) := by decide +kernel
theorem d55_20 : decode (mB m55) 20 = .ok (.iand, 1) := by decide +kernel
theorem d55_21 : decode (mB m55) 21 = .ok (.istore 8, 2) := by decide +kernel
theorem d55_23 : decode (mB m55) 23 = .ok (.iload_n 1, 1) := by decide +kernel
theorem d55_24 : decode (mB m55) 24 = .ok (.bipush 7, 2) := by decide +kernel
theorem d55_26 : decode (mB m55) 26 = .ok (.iand, 1) := by decide +kernel
theorem d55_27 : decode (mB m55) 27 = .ok (.istore 9, 2) := by decide +kernel
theorem d55_29 : decode (mB m55) 29 = .ok (.iload_n 1, 1) := by decide +kernel
theorem d55_30 : decode (mB m55) 30 = .ok (.iconst 3, 1) := by decide +kernel
theorem d55_31 : decode (mB m55) 31 = .ok (.ishr, 1) := by decide +kernel
theorem d55_32 : decode (mB m55) 32 = .ok (.bipush 7, 2) := by decide +kernel
theorem d55_34 : decode (mB m55) 34 = .ok (.iand, 1) := by decide +kernel
theorem d55_35 : decode (mB m55) 35 = .ok (.istore 10, 2) := by decide +kernel
theorem d55_37 : decode (mB m55) 37 = .ok (.iload_n 1, 1) := by decide +kernel
theorem d55_38 : decode (mB m55) 38 = .ok (.bipush 6, 2) := by decide +kernel
theorem d55_40 : decode (mB m55) 40 = .ok (.ishr, 1) := by decide +kernel
theorem d55_41 : decode (mB m55) 41 = .ok (.bipush 7, 2) := by decide +kernel
theorem d55_43 : decode (mB m55) 43 = .ok (.iand, 1) := by decide +kernel
theorem d55_44 : decode (mB m55) 44 = .ok (.istore 11, 2) := by decide +kernel
theorem d55_46 : decode (mB m55) 46 = .ok (.iload_n 2, 1) := by decide +kernel
theorem d55_47 : decode (mB m55) 47 = .ok (.bipush 63, 2) := by decide +kernel
theorem d55_49 : decode (mB m55) 49 = .ok (.iand, 1) := by decide +kernel
theorem d55_50 : decode (mB m55) 50 = .ok (.istore 12, 2) := by decide +kernel
theorem d55_52 : decode (mB m55) 52 = .ok (.iload_n 3, 1) := by decide +kernel
theorem d55_53 : decode (mB m55) 53 = .ok (.bipush 63, 2) := by decide +kernel
theorem d55_55 : decode (mB m55) 55 = .ok (.iand, 1) := by decide +kernel
theorem d55_56 : decode (mB m55) 56 = .ok (.istore 13, 2) := by decide +kernel
theorem d55_58 : decode (mB m55) 58 = .ok (.iload 4, 2) := by decide +kernel
theorem d55_60 : decode (mB m55) 60 = .ok (.bipush 63, 2) := by decide +kernel
theorem d55_62 : decode (mB m55) 62 = .ok (.iand, 1) := by decide +kernel
theorem d55_63 : decode (mB m55) 63 = .ok (.istore 14, 2) := by decide +kernel
theorem d55_65 : decode (mB m55) 65 = .ok (.iload 5, 2) := by decide +kernel
theorem d55_67 : decode (mB m55) 67 = .ok (.bipush 63, 2) := by decide +kernel
theorem d55_69 : decode (mB m55) 69 = .ok (.iand, 1) := by decide +kernel
theorem d55_70 : decode (mB m55) 70 = .ok (.istore 15, 2) := by decide +kernel
theorem d55_72 : decode (mB m55) 72 = .ok (.iload 5, 2) := by decide +kernel
theorem d55_74 : decode (mB m55) 74 = .ok (.bipush 6, 2) := by decide +kernel
theorem d55_76 : decode (mB m55) 76 = .ok (.ishr, 1) := by decide +kernel
theorem d55_77 : decode (mB m55) 77 = .ok (.bipush 63, 2) := by decide +kernel
theorem d55_79 : decode (mB m55) 79 = .ok (.iand, 1) := by decide +kernel
theorem d55_80 : decode (mB m55) 80 = .ok (.istore 16, 2) := by decide +kernel
theorem d55_82 : decode (mB m55) 82 = .ok (.new 7, 3) := by decide +kernel
theorem d55_85 : decode (mB m55) 85 = .ok (.dup, 1) := by decide +kernel
theorem d55_86 : decode (mB m55) 86 = .ok (.iconst 3, 1) := by decide +kernel
theorem d55_87 : decode (mB m55) 87 = .ok (.invokespecial 9, 3) := by decide +kernel
theorem d55_90 : decode (mB m55) 90 = .ok (.astore 17, 2) := by decide +kernel
theorem d55_92 : decode (mB m55) 92 = .ok (.aload 17, 2) := by decide +kernel
theorem d55_94 : decode (mB m55) 94 = .ok (.iconst 0, 1) := by decide +kernel
theorem d55_95 : decode (mB m55) 95 = .ok (.iconst 1, 1) := by decide +kernel
theorem d55_96 : decode (mB m55) 96 = .ok (.iload 6, 2) := by decide +kernel
theorem d55_98 : decode (mB m55) 98 = .ok (.iload 12, 2) := by decide +kernel
theorem d55_100 : decode (mB m55) 100 = .ok (.invokevirtual 12, 3) := by decide +kernel
theorem d55_103 : decode (mB m55) 103 = .ok (.ifCond .eq 5, 3) := by decide +kernel
theorem d55_106 : decode (mB m55) 106 = .ok (.iconst 0, 1) := by decide +kernel
theorem d55_107 : decode (mB m55) 107 = .ok (.ireturn, 1) := by decide +kernel
theorem d55_108 : decode (mB m55) 108 = .ok (.aload 17, 2) := by decide +kernel
theorem d55_110 : decode (mB m55) 110 = .ok (.iconst 1, 1) := by decide +kernel
theorem d55_111 : decode (mB m55) 111 = .ok (.iconst 2, 1) := by decide +kernel
theorem d55_112 : decode (mB m55) 112 = .ok (.iload 7, 2) := by decide +kernel
theorem d55_114 : decode (mB m55) 114 = .ok (.iload 13, 2) := by decide +kernel
theorem d55_116 : decode (mB m55) 116 = .ok (.invokevirtual 12, 3) := by decide +kernel
theorem d55_119 : decode (mB m55) 119 = .ok (.iconst 1, 1) := by decide +kernel
theorem d55_120 : decode (mB m55) 120 = .ok (.if_icmp .eq 5, 3) := by decide +kernel
theorem d55_123 : decode (mB m55) 123 = .ok (.iconst 0, 1) := by decide +kernel
theorem d55_124 : decode (mB m55) 124 = .ok (.ireturn, 1) := by decide +kernel
theorem d55_125 : decode (mB m55) 125 = .ok (.aload 17, 2) := by decide +kernel
theorem d55_127 : decode (mB m55) 127 = .ok (.iconst 0, 1) := by decide +kernel
theorem d55_128 : decode (mB m55) 128 = .ok (.iconst 2, 1) := by decide +kernel
theorem d55_129 : decode (mB m55) 129 = .ok (.iload 8, 2) := by decide +kernel
theorem d55_131 : decode (mB m55) 131 = .ok (.iload 14, 2) := by decide +kernel
theorem d55_133 : decode (mB m55) 133 = .ok (.invokevirtual 12, 3) := by decide +kernel
theorem d55_136 : decode (mB m55) 136 = .ok (.iconst 2, 1) := by decide +kernel
theorem d55_137 : decode (mB m55) 137 = .ok (.if_icmp .eq 5, 3) := by decide +kernel
theorem d55_140 : decode (mB m55) 140 = .ok (.iconst 0, 1) := by decide +kernel
theorem d55_141 : decode (mB m55) 141 = .ok (.ireturn, 1) := by decide +kernel
theorem d55_142 : decode (mB m55) 142 = .ok (.aload 17, 2) := by decide +kernel
theorem d55_144 : decode (mB m55) 144 = .ok (.iconst 0, 1) := by decide +kernel
theorem d55_145 : decode (mB m55) 145 = .ok (.iload 15, 2) := by decide +kernel
theorem d55_147 : decode (mB m55) 147 = .ok (.iconst 2, 1) := by decide +kernel
theorem d55_148 : decode (mB m55) 148 = .ok (.iload 9, 2) := by decide +kernel
theorem d55_150 : decode (mB m55) 150 = .ok (.bipush 16, 2) := by decide +kernel
theorem d55_152 : decode (mB m55) 152 = .ok (.iload 10, 2) := by decide +kernel
theorem d55_154 : decode (mB m55) 154 = .ok (.imul, 1) := by decide +kernel
theorem d55_155 : decode (mB m55) 155 = .ok (.iadd, 1) := by decide +kernel
theorem d55_156 : decode (mB m55) 156 = .ok (.invokevirtual 16, 3) := by decide +kernel
theorem d55_159 : decode (mB m55) 159 = .ok (.ifCond .eq 5, 3) := by decide +kernel
theorem d55_162 : decode (mB m55) 162 = .ok (.iconst 0, 1) := by decide +kernel
theorem d55_163 : decode (mB m55) 163 = .ok (.ireturn, 1) := by decide +kernel
theorem d55_164 : decode (mB m55) 164 = .ok (.aload 17, 2) := by decide +kernel
theorem d55_166 : decode (mB m55) 166 = .ok (.iconst 0, 1) := by decide +kernel
theorem d55_167 : decode (mB m55) 167 = .ok (.iload 16, 2) := by decide +kernel
theorem d55_169 : decode (mB m55) 169 = .ok (.iconst 1, 1) := by decide +kernel
theorem d55_170 : decode (mB m55) 170 = .ok (.iload 11, 2) := by decide +kernel
theorem d55_172 : decode (mB m55) 172 = .ok (.invokevirtual 16, 3) := by decide +kernel
theorem d55_175 : decode (mB m55) 175 = .ok (.iconst 1, 1) := by decide +kernel
theorem d55_176 : decode (mB m55) 176 = .ok (.if_icmp .eq 5, 3) := by decide +kernel
theorem d55_179 : decode (mB m55) 179 = .ok (.iconst 0, 1) := by decide +kernel
theorem d55_180 : decode (mB m55) 180 = .ok (.ireturn, 1) := by decide +kernel
theorem d55_181 : decode (mB m55) 181 = .ok (.iload 6, 2) := by decide +kernel
theorem d55_183 : decode (mB m55) 183 = .ok (.iload 9, 2) := by decide +kernel
theorem d55_185 : decode (mB m55) 185 = .ok (.if_icmp .ne 21, 3) := by decide +kernel
theorem d55_188 : decode (mB m55) 188 = .ok (.iload 7, 2) := by decide +kernel
theorem d55_190 : decode (mB m55) 190 = .ok (.iload 10, 2) := by decide +kernel
theorem d55_192 : decode (mB m55) 192 = .ok (.if_icmp .ne 14, 3) := by decide +kernel
theorem d55_195 : decode (mB m55) 195 = .ok (.iload 12, 2) := by decide +kernel
theorem d55_197 : decode (mB m55) 197 = .ok (.iload 13, 2) := by decide +kernel
theorem d55_199 : decode (mB m55) 199 = .ok (.iadd, 1) := by decide +kernel
theorem d55_200 : decode (mB m55) 200 = .ok (.iload 15, 2) := by decide +kernel
theorem d55_202 : decode (mB m55) 202 = .ok (.iadd, 1) := by decide +kernel
theorem d55_203 : decode (mB m55) 203 = .ok (.goto 4, 3) := by decide +kernel
theorem d55_206 : decode (mB m55) 206 = .ok (.iconst (-1), 1) := by decide +kernel
theorem d55_207 : decode (mB m55) 207 = .ok (.istore 18, 2) := by decide +kernel
theorem d55_209 : decode (mB m55) 209 = .ok (.iload 8, 2) := by decide +kernel
theorem d55_211 : decode (mB m55) 211 = .ok (.iload 11, 2) := by decide +kernel
theorem d55_213 : decode (mB m55) 213 = .ok (.if_icmp .ne 11, 3) := by decide +kernel
theorem d55_216 : decode (mB m55) 216 = .ok (.iload 14, 2) := by decide +kernel
theorem d55_218 : decode (mB m55) 218 = .ok (.iload 16, 2) := by decide +kernel
theorem d55_220 : decode (mB m55) 220 = .ok (.iadd, 1) := by decide +kernel
theorem d55_221 : decode (mB m55) 221 = .ok (.goto 4, 3) := by decide +kernel
theorem d55_224 : decode (mB m55) 224 = .ok (.iconst (-1), 1) := by decide +kernel
theorem d55_225 : decode (mB m55) 225 = .ok (.istore 19, 2) := by decide +kernel
theorem d55_227 : decode (mB m55) 227 = .ok (.iload 18, 2) := by decide +kernel
theorem d55_229 : decode (mB m55) 229 = .ok (.ifCond .ge 10, 3) := by decide +kernel
theorem d55_232 : decode (mB m55) 232 = .ok (.iload 19, 2) := by decide +kernel
theorem d55_234 : decode (mB m55) 234 = .ok (.istore 20, 2) := by decide +kernel
theorem d55_236 : decode (mB m55) 236 = .ok (.goto 31, 3) := by decide +kernel
theorem d55_239 : decode (mB m55) 239 = .ok (.iload 19, 2) := by decide +kernel
theorem d55_241 : decode (mB m55) 241 = .ok (.ifCond .ge 10, 3) := by decide +kernel
theorem d55_244 : decode (mB m55) 244 = .ok (.iload 18, 2) := by decide +kernel
theorem d55_246 : decode (mB m55) 246 = .ok (.istore 20, 2) := by decide +kernel
theorem d55_248 : decode (mB m55) 248 = .ok (.goto 19, 3) := by decide +kernel
theorem d55_251 : decode (mB m55) 251 = .ok (.iload 18, 2) := by decide +kernel
theorem d55_253 : decode (mB m55) 253 = .ok (.iload 19, 2) := by decide +kernel
theorem d55_255 : decode (mB m55) 255 = .ok (.if_icmp .ge 8, 3) := by decide +kernel
theorem d55_258 : decode (mB m55) 258 = .ok (.iload 18, 2) := by decide +kernel
theorem d55_260 : decode (mB m55) 260 = .ok (.goto 5, 3) := by decide +kernel
theorem d55_263 : decode (mB m55) 263 = .ok (.iload 19, 2) := by decide +kernel
theorem d55_265 : decode (mB m55) 265 = .ok (.istore 20, 2) := by decide +kernel
theorem d55_267 : decode (mB m55) 267 = .ok (.iload 20, 2) := by decide +kernel
theorem d55_269 : decode (mB m55) 269 = .ok (.ifCond .lt 7, 3) := by decide +kernel
theorem d55_272 : decode (mB m55) 272 = .ok (.iconst 1, 1) := by decide +kernel
theorem d55_273 : decode (mB m55) 273 = .ok (.goto 4, 3) := by decide +kernel
theorem d55_276 : decode (mB m55) 276 = .ok (.iconst 0, 1) := by decide +kernel
theorem d55_277 : decode (mB m55) 277 = .ok (.istore 21, 2) := by decide +kernel
theorem d55_279 : decode (mB m55) 279 = .ok (.aload 17, 2) := by decide +kernel
theorem d55_281 : decode (mB m55) 281 = .ok (.invokevirtual 19, 3) := by decide +kernel
theorem d55_284 : decode (mB m55) 284 = .ok (.iload 21, 2) := by decide +kernel
theorem d55_286 : decode (mB m55) 286 = .ok (.if_icmp .eq 5, 3) := by decide +kernel
theorem d55_289 : decode (mB m55) 289 = .ok (.iconst 0, 1) := by decide +kernel
theorem d55_290 : decode (mB m55) 290 = .ok (.ireturn, 1) := by decide +kernel
theorem d55_291 : decode (mB m55) 291 = .ok (.iload 21, 2) := by decide +kernel
theorem d55_293 : decode (mB m55) 293 = .ok (.ifCond .eq 7, 3) := by decide +kernel
theorem d55_296 : decode (mB m55) 296 = .ok (.iconst 1, 1) := by decide +kernel
theorem d55_297 : decode (mB m55) 297 = .ok (.goto 4, 3) := by decide +kernel
theorem d55_300 : decode (mB m55) 300 = .ok (.iconst 2, 1) := by decide +kernel
theorem d55_301 : decode (mB m55) 301 = .ok (.istore 22, 2) := by decide +kernel
theorem d55_303 : decode (mB m55) 303 = .ok (.aload 17, 2) := by decide +kernel
theorem d55_305 : decode (mB m55) 305 = .ok (.invokevirtual 23, 3) := by decide +kernel
theorem d55_308 : decode (mB m55) 308 = .ok (.iload 22, 2) := by decide +kernel
theorem d55_310 : decode (mB m55) 310 = .ok (.if_icmp .eq 5, 3) := by decide +kernel
theorem d55_313 : decode (mB m55) 313 = .ok (.iconst 0, 1) := by decide +kernel
theorem d55_314 : decode (mB m55) 314 = .ok (.ireturn, 1) := by decide +kernel
theorem d55_315 : decode (mB m55) 315 = .ok (.aload 17, 2) := by decide +kernel
theorem d55_317 : decode (mB m55) 317 = .ok (.invokevirtual 27, 3) := by decide +kernel
theorem d55_320 : decode (mB m55) 320 = .ok (.iload 20, 2) := by decide +kernel
theorem d55_322 : decode (mB m55) 322 = .ok (.if_icmp .eq 5, 3) := by decide +kernel
theorem d55_325 : decode (mB m55) 325 = .ok (.iconst 0, 1) := by decide +kernel
theorem d55_326 : decode (mB m55) 326 = .ok (.ireturn, 1) := by decide +kernel
theorem d55_327 : decode (mB m55) 327 = .ok (.aload 17, 2) := by decide +kernel
theorem d55_329 : decode (mB m55) 329 = .ok (.bipush 8, 2) := by decide +kernel
theorem d55_331 : decode (mB m55) 331 = .ok (.iconst 0, 1) := by decide +kernel
theorem d55_332 : decode (mB m55) 332 = .ok (.iconst 2, 1) := by decide +kernel
theorem d55_333 : decode (mB m55) 333 = .ok (.invokevirtual 30, 3) := by decide +kernel
theorem d55_336 : decode (mB m55) 336 = .ok (.iload 20, 2) := by decide +kernel
theorem d55_338 : decode (mB m55) 338 = .ok (.if_icmp .eq 5, 3) := by decide +kernel
theorem d55_341 : decode (mB m55) 341 = .ok (.iconst 0, 1) := by decide +kernel
theorem d55_342 : decode (mB m55) 342 = .ok (.ireturn, 1) := by decide +kernel
theorem d55_343 : decode (mB m55) 343 = .ok (.aload 17, 2) := by decide +kernel
theorem d55_345 : decode (mB m55) 345 = .ok (.iconst 0, 1) := by decide +kernel
theorem d55_346 : decode (mB m55) 346 = .ok (.invokevirtual 34, 3) := by decide +kernel
theorem d55_349 : decode (mB m55) 349 = .ok (.iload 18, 2) := by decide +kernel
theorem d55_351 : decode (mB m55) 351 = .ok (.if_icmp .eq 5, 3) := by decide +kernel
theorem d55_354 : decode (mB m55) 354 = .ok (.iconst 0, 1) := by decide +kernel
theorem d55_355 : decode (mB m55) 355 = .ok (.ireturn, 1) := by decide +kernel
theorem d55_356 : decode (mB m55) 356 = .ok (.aload 17, 2) := by decide +kernel
theorem d55_358 : decode (mB m55) 358 = .ok (.iconst 1, 1) := by decide +kernel
theorem d55_359 : decode (mB m55) 359 = .ok (.invokevirtual 34, 3) := by decide +kernel
theorem d55_362 : decode (mB m55) 362 = .ok (.iload 18, 2) := by decide +kernel
theorem d55_364 : decode (mB m55) 364 = .ok (.if_icmp .eq 5, 3) := by decide +kernel
theorem d55_367 : decode (mB m55) 367 = .ok (.iconst 0, 1) := by decide +kernel
theorem d55_368 : decode (mB m55) 368 = .ok (.ireturn, 1) := by decide +kernel
theorem d55_369 : decode (mB m55) 369 = .ok (.aload 17, 2) := by decide +kernel
theorem d55_371 : decode (mB m55) 371 = .ok (.iconst 2, 1) := by decide +kernel
theorem d55_372 : decode (mB m55) 372 = .ok (.invokevirtual 34, 3) := by decide +kernel
theorem d55_375 : decode (mB m55) 375 = .ok (.iload 19, 2) := by decide +kernel
theorem d55_377 : decode (mB m55) 377 = .ok (.if_icmp .eq 5, 3) := by decide +kernel
theorem d55_380 : decode (mB m55) 380 = .ok (.iconst 0, 1) := by decide +kernel
theorem d55_381 : decode (mB m55) 381 = .ok (.ireturn, 1) := by decide +kernel
theorem d55_382 : decode (mB m55) 382 = .ok (.aload 17, 2) := by decide +kernel
theorem d55_384 : decode (mB m55) 384 = .ok (.iconst 0, 1) := by decide +kernel
theorem d55_385 : decode (mB m55) 385 = .ok (.invokevirtual 38, 3) := by decide +kernel
theorem d55_388 : decode (mB m55) 388 = .ok (.iload 18, 2) := by decide +kernel
theorem d55_390 : decode (mB m55) 390 = .ok (.if_icmp .eq 5, 3) := by decide +kernel
theorem d55_393 : decode (mB m55) 393 = .ok (.iconst 0, 1) := by decide +kernel
theorem d55_394 : decode (mB m55) 394 = .ok (.ireturn, 1) := by decide +kernel
theorem d55_395 : decode (mB m55) 395 = .ok (.aload 17, 2) := by decide +kernel
theorem d55_397 : decode (mB m55) 397 = .ok (.iconst 1, 1) := by decide +kernel
theorem d55_398 : decode (mB m55) 398 = .ok (.invokevirtual 38, 3) := by decide +kernel
theorem d55_401 : decode (mB m55) 401 = .ok (.iload 19, 2) := by decide +kernel
theorem d55_403 : decode (mB m55) 403 = .ok (.if_icmp .eq 5, 3) := by decide +kernel
theorem d55_406 : decode (mB m55) 406 = .ok (.iconst 0, 1) := by decide +kernel
theorem d55_407 : decode (mB m55) 407 = .ok (.ireturn, 1) := by decide +kernel
theorem d55_408 : decode (mB m55) 408 = .ok (.aload 17, 2) := by decide +kernel
theorem d55_410 : decode (mB m55) 410 = .ok (.bipush 8, 2) := by decide +kernel
theorem d55_412 : decode (mB m55) 412 = .ok (.iconst 0, 1) := by decide +kernel
theorem d55_413 : decode (mB m55) 413 = .ok (.iconst 1, 1) := by decide +kernel
theorem d55_414 : decode (mB m55) 414 = .ok (.invokevirtual 30, 3) := by decide +kernel
theorem d55_417 : decode (mB m55) 417 = .ok (.iload 6, 2) := by decide +kernel
theorem d55_419 : decode (mB m55) 419 = .ok (.iload 11, 2) := by decide +kernel
theorem d55_421 : decode (mB m55) 421 = .ok (.if_icmp .ne 11, 3) := by decide +kernel
theorem d55_424 : decode (mB m55) 424 = .ok (.iload 12, 2) := by decide +kernel
theorem d55_426 : decode (mB m55) 426 = .ok (.iload 16, 2) := by decide +kernel
theorem d55_428 : decode (mB m55) 428 = .ok (.iadd, 1) := by decide +kernel
theorem d55_429 : decode (mB m55) 429 = .ok (.goto 4, 3) := by decide +kernel
theorem d55_432 : decode (mB m55) 432 = .ok (.iconst (-1), 1) := by decide +kernel
theorem d55_433 : decode (mB m55) 433 = .ok (.if_icmp .eq 5, 3) := by decide +kernel
theorem d55_436 : decode (mB m55) 436 = .ok (.iconst 0, 1) := by decide +kernel
theorem d55_437 : decode (mB m55) 437 = .ok (.ireturn, 1) := by decide +kernel
theorem d55_438 : decode (mB m55) 438 = .ok (.aload 17, 2) := by decide +kernel
theorem d55_440 : decode (mB m55) 440 = .ok (.bipush 8, 2) := by decide +kernel
theorem d55_442 : decode (mB m55) 442 = .ok (.iconst 1, 1) := by decide +kernel
theorem d55_443 : decode (mB m55) 443 = .ok (.iconst 2, 1) := by decide +kernel
theorem d55_444 : decode (mB m55) 444 = .ok (.invokevirtual 30, 3) := by decide +kernel
theorem d55_447 : decode (mB m55) 447 = .ok (.iload 7, 2) := by decide +kernel
theorem d55_449 : decode (mB m55) 449 = .ok (.iload 11, 2) := by decide +kernel
theorem d55_451 : decode (mB m55) 451 = .ok (.if_icmp .ne 11, 3) := by decide +kernel
theorem d55_454 : decode (mB m55) 454 = .ok (.iload 13, 2) := by decide +kernel
theorem d55_456 : decode (mB m55) 456 = .ok (.iload 16, 2) := by decide +kernel
theorem d55_458 : decode (mB m55) 458 = .ok (.iadd, 1) := by decide +kernel
theorem d55_459 : decode (mB m55) 459 = .ok (.goto 4, 3) := by decide +kernel
theorem d55_462 : decode (mB m55) 462 = .ok (.iconst (-1), 1) := by decide +kernel
theorem d55_463 : decode (mB m55) 463 = .ok (.if_icmp .eq 5, 3) := by decide +kernel
theorem d55_466 : decode (mB m55) 466 = .ok (.iconst 0, 1) := by decide +kernel
theorem d55_467 : decode (mB m55) 467 = .ok (.ireturn, 1) := by decide +kernel
theorem d55_468 : decode (mB m55) 468 = .ok (.aload 17, 2) := by decide +kernel
theorem d55_470 : decode (mB m55) 470 = .ok (.iload 6, 2) := by decide +kernel
theorem d55_472 : decode (mB m55) 472 = .ok (.iconst 0, 1) := by decide +kernel
theorem d55_473 : decode (mB m55) 473 = .ok (.iconst 1, 1) := by decide +kernel
theorem d55_474 : decode (mB m55) 474 = .ok (.invokevirtual 30, 3) := by decide +kernel
theorem d55_477 : decode (mB m55) 477 = .ok (.iload 12, 2) := by decide +kernel
theorem d55_479 : decode (mB m55) 479 = .ok (.if_icmp .eq 5, 3) := by decide +kernel
theorem d55_482 : decode (mB m55) 482 = .ok (.iconst 0, 1) := by decide +kernel
theorem d55_483 : decode (mB m55) 483 = .ok (.ireturn, 1) := by decide +kernel
theorem d55_484 : decode (mB m55) 484 = .ok (.aload 17, 2) := by decide +kernel
theorem d55_486 : decode (mB m55) 486 = .ok (.iload 8, 2) := by decide +kernel
theorem d55_488 : decode (mB m55) 488 = .ok (.iconst 0, 1) := by decide +kernel
theorem d55_489 : decode (mB m55) 489 = .ok (.iconst 2, 1) := by decide +kernel
theorem d55_490 : decode (mB m55) 490 = .ok (.invokevirtual 30, 3) := by decide +kernel
theorem d55_493 : decode (mB m55) 493 = .ok (.iload 14, 2) := by decide +kernel
theorem d55_495 : decode (mB m55) 495 = .ok (.if_icmp .ne 7, 3) := by decide +kernel
theorem d55_498 : decode (mB m55) 498 = .ok (.iconst 1, 1) := by decide +kernel
theorem d55_499 : decode (mB m55) 499 = .ok (.goto 4, 3) := by decide +kernel
theorem d55_502 : decode (mB m55) 502 = .ok (.iconst 0, 1) := by decide +kernel
theorem d55_503 : decode (mB m55) 503 = .ok (.ireturn, 1) := by decide +kernel
theorem cb_6 : (6 : Int32) = (Int8.ofInt (6)).toInt32 := by decide
theorem cb_7 : (7 : Int32) = (Int8.ofInt (7)).toInt32 := by decide
theorem cb_8 : (8 : Int32) = (Int8.ofInt (8)).toInt32 := by decide
theorem cb_12 : (12 : Int32) = (Int8.ofInt (12)).toInt32 := by decide
theorem cb_15 : (15 : Int32) = (Int8.ofInt (15)).toInt32 := by decide
theorem cb_16 : (16 : Int32) = (Int8.ofInt (16)).toInt32 := by decide
theorem cb_24 : (24 : Int32) = (Int8.ofInt (24)).toInt32 := by decide
theorem cb_36 : (36 : Int32) = (Int8.ofInt (36)).toInt32 := by decide
theorem cb_63 : (63 : Int32) = (Int8.ofInt (63)).toInt32 := by decide
theorem cb_64 : (64 : Int32) = (Int8.ofInt (64)).toInt32 := by decide
theorem cb_100 : (100 : Int32) = (Int8.ofInt (100)).toInt32 := by decide
theorem ci_m1 : (-1 : Int32) = Int32.ofInt (-1) := by decide
theorem ci_0 : (0 : Int32) = Int32.ofInt (0) := by decide
theorem ci_1 : (1 : Int32) = Int32.ofInt (1) := by decide
theorem ci_2 : (2 : Int32) = Int32.ofInt (2) := by decide
theorem ci_3 : (3 : Int32) = Int32.ofInt (3) := by decide
theorem ci_4 : (4 : Int32) = Int32.ofInt (4) := by decide
theorem cs_1024 : (1024 : Int32) = (Int16.ofInt (1024)).toInt32 := by decide
theorem cs_3072 : (3072 : Int32) = (Int16.ofInt (3072)).toInt32 := by decide
theorem j_1_9 : 0 ≤ ((1 : Nat) : Int) + (9) ∧ (((1 : Nat) : Int) + (9)).toNat = 10 := by decide
theorem j_1_12 : 0 ≤ ((1 : Nat) : Int) + (12) ∧ (((1 : Nat) : Int) + (12)).toNat = 13 := by decide
theorem j_1_13 : 0 ≤ ((1 : Nat) : Int) + (13) ∧ (((1 : Nat) : Int) + (13)).toNat = 14 := by decide
theorem j_1_15 : 0 ≤ ((1 : Nat) : Int) + (15) ∧ (((1 : Nat) : Int) + (15)).toNat = 16 := by decide
theorem j_1_18 : 0 ≤ ((1 : Nat) : Int) + (18) ∧ (((1 : Nat) : Int) + (18)).toNat = 19 := by decide
theorem j_2_5 : 0 ≤ ((2 : Nat) : Int) + (5) ∧ (((2 : Nat) : Int) + (5)).toNat = 7 := by decide
theorem j_2_12 : 0 ≤ ((2 : Nat) : Int) + (12) ∧ (((2 : Nat) : Int) + (12)).toNat = 14 := by decide
theorem j_4_5 : 0 ≤ ((4 : Nat) : Int) + (5) ∧ (((4 : Nat) : Int) + (5)).toNat = 9 := by decide
theorem j_5_5 : 0 ≤ ((5 : Nat) : Int) + (5) ∧ (((5 : Nat) : Int) + (5)).toNat = 10 := by decide
theorem j_5_7 : 0 ≤ ((5 : Nat) : Int) + (7) ∧ (((5 : Nat) : Int) + (7)).toNat = 12 := by decide
theorem j_5_11 : 0 ≤ ((5 : Nat) : Int) + (11) ∧ (((5 : Nat) : Int) + (11)).toNat = 16 := by decide
theorem j_5_19 : 0 ≤ ((5 : Nat) : Int) + (19) ∧ (((5 : Nat) : Int) + (19)).toNat = 24 := by decide
theorem j_5_28 : 0 ≤ ((5 : Nat) : Int) + (28) ∧ (((5 : Nat) : Int) + (28)).toNat = 33 := by decide
theorem j_6_5 : 0 ≤ ((6 : Nat) : Int) + (5) ∧ (((6 : Nat) : Int) + (5)).toNat = 11 := by decide
theorem j_6_7 : 0 ≤ ((6 : Nat) : Int) + (7) ∧ (((6 : Nat) : Int) + (7)).toNat = 13 := by decide
theorem j_6_19 : 0 ≤ ((6 : Nat) : Int) + (19) ∧ (((6 : Nat) : Int) + (19)).toNat = 25 := by decide
theorem j_6_23 : 0 ≤ ((6 : Nat) : Int) + (23) ∧ (((6 : Nat) : Int) + (23)).toNat = 29 := by decide
theorem j_6_29 : 0 ≤ ((6 : Nat) : Int) + (29) ∧ (((6 : Nat) : Int) + (29)).toNat = 35 := by decide
theorem j_7_4 : 0 ≤ ((7 : Nat) : Int) + (4) ∧ (((7 : Nat) : Int) + (4)).toNat = 11 := by decide
theorem j_7_6 : 0 ≤ ((7 : Nat) : Int) + (6) ∧ (((7 : Nat) : Int) + (6)).toNat = 13 := by decide
theorem j_7_7 : 0 ≤ ((7 : Nat) : Int) + (7) ∧ (((7 : Nat) : Int) + (7)).toNat = 14 := by decide
theorem j_7_12 : 0 ≤ ((7 : Nat) : Int) + (12) ∧ (((7 : Nat) : Int) + (12)).toNat = 19 := by decide
theorem j_7_38 : 0 ≤ ((7 : Nat) : Int) + (38) ∧ (((7 : Nat) : Int) + (38)).toNat = 45 := by decide
theorem j_7_40 : 0 ≤ ((7 : Nat) : Int) + (40) ∧ (((7 : Nat) : Int) + (40)).toNat = 47 := by decide
theorem j_7_41 : 0 ≤ ((7 : Nat) : Int) + (41) ∧ (((7 : Nat) : Int) + (41)).toNat = 48 := by decide
theorem j_7_50 : 0 ≤ ((7 : Nat) : Int) + (50) ∧ (((7 : Nat) : Int) + (50)).toNat = 57 := by decide
theorem j_9_5 : 0 ≤ ((9 : Nat) : Int) + (5) ∧ (((9 : Nat) : Int) + (5)).toNat = 14 := by decide
theorem j_9_7 : 0 ≤ ((9 : Nat) : Int) + (7) ∧ (((9 : Nat) : Int) + (7)).toNat = 16 := by decide
theorem j_10_4 : 0 ≤ ((10 : Nat) : Int) + (4) ∧ (((10 : Nat) : Int) + (4)).toNat = 14 := by decide
theorem j_10_6 : 0 ≤ ((10 : Nat) : Int) + (6) ∧ (((10 : Nat) : Int) + (6)).toNat = 16 := by decide
theorem j_11_4 : 0 ≤ ((11 : Nat) : Int) + (4) ∧ (((11 : Nat) : Int) + (4)).toNat = 15 := by decide
theorem j_11_8 : 0 ≤ ((11 : Nat) : Int) + (8) ∧ (((11 : Nat) : Int) + (8)).toNat = 19 := by decide
theorem j_11_11 : 0 ≤ ((11 : Nat) : Int) + (11) ∧ (((11 : Nat) : Int) + (11)).toNat = 22 := by decide
theorem j_11_14 : 0 ≤ ((11 : Nat) : Int) + (14) ∧ (((11 : Nat) : Int) + (14)).toNat = 25 := by decide
theorem j_11_15 : 0 ≤ ((11 : Nat) : Int) + (15) ∧ (((11 : Nat) : Int) + (15)).toNat = 26 := by decide
theorem j_11_22 : 0 ≤ ((11 : Nat) : Int) + (22) ∧ (((11 : Nat) : Int) + (22)).toNat = 33 := by decide
theorem j_11_35 : 0 ≤ ((11 : Nat) : Int) + (35) ∧ (((11 : Nat) : Int) + (35)).toNat = 46 := by decide
theorem j_12_18 : 0 ≤ ((12 : Nat) : Int) + (18) ∧ (((12 : Nat) : Int) + (18)).toNat = 30 := by decide
theorem j_13_4 : 0 ≤ ((13 : Nat) : Int) + (4) ∧ (((13 : Nat) : Int) + (4)).toNat = 17 := by decide
theorem j_13_8 : 0 ≤ ((13 : Nat) : Int) + (8) ∧ (((13 : Nat) : Int) + (8)).toNat = 21 := by decide
theorem j_13_11 : 0 ≤ ((13 : Nat) : Int) + (11) ∧ (((13 : Nat) : Int) + (11)).toNat = 24 := by decide
theorem j_13_15 : 0 ≤ ((13 : Nat) : Int) + (15) ∧ (((13 : Nat) : Int) + (15)).toNat = 28 := by decide
theorem j_13_16 : 0 ≤ ((13 : Nat) : Int) + (16) ∧ (((13 : Nat) : Int) + (16)).toNat = 29 := by decide
theorem j_13_20 : 0 ≤ ((13 : Nat) : Int) + (20) ∧ (((13 : Nat) : Int) + (20)).toNat = 33 := by decide
theorem j_14_19 : 0 ≤ ((14 : Nat) : Int) + (19) ∧ (((14 : Nat) : Int) + (19)).toNat = 33 := by decide
theorem j_15_5 : 0 ≤ ((15 : Nat) : Int) + (5) ∧ (((15 : Nat) : Int) + (5)).toNat = 20 := by decide
theorem j_15_27 : 0 ≤ ((15 : Nat) : Int) + (27) ∧ (((15 : Nat) : Int) + (27)).toNat = 42 := by decide
theorem j_16_5 : 0 ≤ ((16 : Nat) : Int) + (5) ∧ (((16 : Nat) : Int) + (5)).toNat = 21 := by decide
theorem j_17_24 : 0 ≤ ((17 : Nat) : Int) + (24) ∧ (((17 : Nat) : Int) + (24)).toNat = 41 := by decide
theorem j_18_39 : 0 ≤ ((18 : Nat) : Int) + (39) ∧ (((18 : Nat) : Int) + (39)).toNat = 57 := by decide
theorem j_18_45 : 0 ≤ ((18 : Nat) : Int) + (45) ∧ (((18 : Nat) : Int) + (45)).toNat = 63 := by decide
theorem j_19_5 : 0 ≤ ((19 : Nat) : Int) + (5) ∧ (((19 : Nat) : Int) + (5)).toNat = 24 := by decide
theorem j_19_32 : 0 ≤ ((19 : Nat) : Int) + (32) ∧ (((19 : Nat) : Int) + (32)).toNat = 51 := by decide
theorem j_19_37 : 0 ≤ ((19 : Nat) : Int) + (37) ∧ (((19 : Nat) : Int) + (37)).toNat = 56 := by decide
theorem j_20_32 : 0 ≤ ((20 : Nat) : Int) + (32) ∧ (((20 : Nat) : Int) + (32)).toNat = 52 := by decide
theorem j_21_5 : 0 ≤ ((21 : Nat) : Int) + (5) ∧ (((21 : Nat) : Int) + (5)).toNat = 26 := by decide
theorem j_21_12 : 0 ≤ ((21 : Nat) : Int) + (12) ∧ (((21 : Nat) : Int) + (12)).toNat = 33 := by decide
theorem j_21_15 : 0 ≤ ((21 : Nat) : Int) + (15) ∧ (((21 : Nat) : Int) + (15)).toNat = 36 := by decide
theorem j_21_53 : 0 ≤ ((21 : Nat) : Int) + (53) ∧ (((21 : Nat) : Int) + (53)).toNat = 74 := by decide
theorem j_21_55 : 0 ≤ ((21 : Nat) : Int) + (55) ∧ (((21 : Nat) : Int) + (55)).toNat = 76 := by decide
theorem j_22_m18 : 0 ≤ ((22 : Nat) : Int) + (-18) ∧ (((22 : Nat) : Int) + (-18)).toNat = 4 := by decide
theorem j_22_5 : 0 ≤ ((22 : Nat) : Int) + (5) ∧ (((22 : Nat) : Int) + (5)).toNat = 27 := by decide
theorem j_22_8 : 0 ≤ ((22 : Nat) : Int) + (8) ∧ (((22 : Nat) : Int) + (8)).toNat = 30 := by decide
theorem j_22_11 : 0 ≤ ((22 : Nat) : Int) + (11) ∧ (((22 : Nat) : Int) + (11)).toNat = 33 := by decide
theorem j_23_5 : 0 ≤ ((23 : Nat) : Int) + (5) ∧ (((23 : Nat) : Int) + (5)).toNat = 28 := by decide
theorem j_25_5 : 0 ≤ ((25 : Nat) : Int) + (5) ∧ (((25 : Nat) : Int) + (5)).toNat = 30 := by decide
theorem j_26_m21 : 0 ≤ ((26 : Nat) : Int) + (-21) ∧ (((26 : Nat) : Int) + (-21)).toNat = 5 := by decide
theorem j_27_5 : 0 ≤ ((27 : Nat) : Int) + (5) ∧ (((27 : Nat) : Int) + (5)).toNat = 32 := by decide
theorem j_27_15 : 0 ≤ ((27 : Nat) : Int) + (15) ∧ (((27 : Nat) : Int) + (15)).toNat = 42 := by decide
theorem j_27_86 : 0 ≤ ((27 : Nat) : Int) + (86) ∧ (((27 : Nat) : Int) + (86)).toNat = 113 := by decide
theorem j_28_72 : 0 ≤ ((28 : Nat) : Int) + (72) ∧ (((28 : Nat) : Int) + (72)).toNat = 100 := by decide
theorem j_29_17 : 0 ≤ ((29 : Nat) : Int) + (17) ∧ (((29 : Nat) : Int) + (17)).toNat = 46 := by decide
theorem j_29_24 : 0 ≤ ((29 : Nat) : Int) + (24) ∧ (((29 : Nat) : Int) + (24)).toNat = 53 := by decide
theorem j_30_m25 : 0 ≤ ((30 : Nat) : Int) + (-25) ∧ (((30 : Nat) : Int) + (-25)).toNat = 5 := by decide
theorem j_30_m21 : 0 ≤ ((30 : Nat) : Int) + (-21) ∧ (((30 : Nat) : Int) + (-21)).toNat = 9 := by decide
theorem j_30_5 : 0 ≤ ((30 : Nat) : Int) + (5) ∧ (((30 : Nat) : Int) + (5)).toNat = 35 := by decide
theorem j_30_8 : 0 ≤ ((30 : Nat) : Int) + (8) ∧ (((30 : Nat) : Int) + (8)).toNat = 38 := by decide
theorem j_32_m30 : 0 ≤ ((32 : Nat) : Int) + (-30) ∧ (((32 : Nat) : Int) + (-30)).toNat = 2 := by decide
theorem j_32_5 : 0 ≤ ((32 : Nat) : Int) + (5) ∧ (((32 : Nat) : Int) + (5)).toNat = 37 := by decide
theorem j_33_m13 : 0 ≤ ((33 : Nat) : Int) + (-13) ∧ (((33 : Nat) : Int) + (-13)).toNat = 20 := by decide
theorem j_35_5 : 0 ≤ ((35 : Nat) : Int) + (5) ∧ (((35 : Nat) : Int) + (5)).toNat = 40 := by decide
theorem j_37_5 : 0 ≤ ((37 : Nat) : Int) + (5) ∧ (((37 : Nat) : Int) + (5)).toNat = 42 := by decide
theorem j_38_m26 : 0 ≤ ((38 : Nat) : Int) + (-26) ∧ (((38 : Nat) : Int) + (-26)).toNat = 12 := by decide
theorem j_38_69 : 0 ≤ ((38 : Nat) : Int) + (69) ∧ (((38 : Nat) : Int) + (69)).toNat = 107 := by decide
theorem j_39_m29 : 0 ≤ ((39 : Nat) : Int) + (-29) ∧ (((39 : Nat) : Int) + (-29)).toNat = 10 := by decide
theorem j_39_m13 : 0 ≤ ((39 : Nat) : Int) + (-13) ∧ (((39 : Nat) : Int) + (-13)).toNat = 26 := by decide
theorem j_39_44 : 0 ≤ ((39 : Nat) : Int) + (44) ∧ (((39 : Nat) : Int) + (44)).toNat = 83 := by decide
theorem j_40_5 : 0 ≤ ((40 : Nat) : Int) + (5) ∧ (((40 : Nat) : Int) + (5)).toNat = 45 := by decide
theorem j_41_29 : 0 ≤ ((41 : Nat) : Int) + (29) ∧ (((41 : Nat) : Int) + (29)).toNat = 70 := by decide
theorem j_41_53 : 0 ≤ ((41 : Nat) : Int) + (53) ∧ (((41 : Nat) : Int) + (53)).toNat = 94 := by decide
theorem j_42_m40 : 0 ≤ ((42 : Nat) : Int) + (-40) ∧ (((42 : Nat) : Int) + (-40)).toNat = 2 := by decide
theorem j_43_m38 : 0 ≤ ((43 : Nat) : Int) + (-38) ∧ (((43 : Nat) : Int) + (-38)).toNat = 5 := by decide
theorem j_43_m18 : 0 ≤ ((43 : Nat) : Int) + (-18) ∧ (((43 : Nat) : Int) + (-18)).toNat = 25 := by decide
theorem j_44_m42 : 0 ≤ ((44 : Nat) : Int) + (-42) ∧ (((44 : Nat) : Int) + (-42)).toNat = 2 := by decide
theorem j_44_5 : 0 ≤ ((44 : Nat) : Int) + (5) ∧ (((44 : Nat) : Int) + (5)).toNat = 49 := by decide
theorem j_45_m43 : 0 ≤ ((45 : Nat) : Int) + (-43) ∧ (((45 : Nat) : Int) + (-43)).toNat = 2 := by decide
theorem j_45_6 : 0 ≤ ((45 : Nat) : Int) + (6) ∧ (((45 : Nat) : Int) + (6)).toNat = 51 := by decide
theorem j_48_m35 : 0 ≤ ((48 : Nat) : Int) + (-35) ∧ (((48 : Nat) : Int) + (-35)).toNat = 13 := by decide
theorem j_49_m30 : 0 ≤ ((49 : Nat) : Int) + (-30) ∧ (((49 : Nat) : Int) + (-30)).toNat = 19 := by decide
theorem j_49_15 : 0 ≤ ((49 : Nat) : Int) + (15) ∧ (((49 : Nat) : Int) + (15)).toNat = 64 := by decide
theorem j_50_13 : 0 ≤ ((50 : Nat) : Int) + (13) ∧ (((50 : Nat) : Int) + (13)).toNat = 63 := by decide
theorem j_51_5 : 0 ≤ ((51 : Nat) : Int) + (5) ∧ (((51 : Nat) : Int) + (5)).toNat = 56 := by decide
theorem j_51_6 : 0 ≤ ((51 : Nat) : Int) + (6) ∧ (((51 : Nat) : Int) + (6)).toNat = 57 := by decide
theorem j_53_m37 : 0 ≤ ((53 : Nat) : Int) + (-37) ∧ (((53 : Nat) : Int) + (-37)).toNat = 16 := by decide
theorem j_54_m52 : 0 ≤ ((54 : Nat) : Int) + (-52) ∧ (((54 : Nat) : Int) + (-52)).toNat = 2 := by decide
theorem j_54_m40 : 0 ≤ ((54 : Nat) : Int) + (-40) ∧ (((54 : Nat) : Int) + (-40)).toNat = 14 := by decide
theorem j_54_7 : 0 ≤ ((54 : Nat) : Int) + (7) ∧ (((54 : Nat) : Int) + (7)).toNat = 61 := by decide
theorem j_58_4 : 0 ≤ ((58 : Nat) : Int) + (4) ∧ (((58 : Nat) : Int) + (4)).toNat = 62 := by decide
theorem j_60_m46 : 0 ≤ ((60 : Nat) : Int) + (-46) ∧ (((60 : Nat) : Int) + (-46)).toNat = 14 := by decide
theorem j_61_7 : 0 ≤ ((61 : Nat) : Int) + (7) ∧ (((61 : Nat) : Int) + (7)).toNat = 68 := by decide
theorem j_61_30 : 0 ≤ ((61 : Nat) : Int) + (30) ∧ (((61 : Nat) : Int) + (30)).toNat = 91 := by decide
theorem j_63_7 : 0 ≤ ((63 : Nat) : Int) + (7) ∧ (((63 : Nat) : Int) + (7)).toNat = 70 := by decide
theorem j_67_m30 : 0 ≤ ((67 : Nat) : Int) + (-30) ∧ (((67 : Nat) : Int) + (-30)).toNat = 37 := by decide
theorem j_67_4 : 0 ≤ ((67 : Nat) : Int) + (4) ∧ (((67 : Nat) : Int) + (4)).toNat = 71 := by decide
theorem j_68_7 : 0 ≤ ((68 : Nat) : Int) + (7) ∧ (((68 : Nat) : Int) + (7)).toNat = 75 := by decide
theorem j_71_m54 : 0 ≤ ((71 : Nat) : Int) + (-54) ∧ (((71 : Nat) : Int) + (-54)).toNat = 17 := by decide
theorem j_72_4 : 0 ≤ ((72 : Nat) : Int) + (4) ∧ (((72 : Nat) : Int) + (4)).toNat = 76 := by decide
theorem j_73_m56 : 0 ≤ ((73 : Nat) : Int) + (-56) ∧ (((73 : Nat) : Int) + (-56)).toNat = 17 := by decide
theorem j_80_m44 : 0 ≤ ((80 : Nat) : Int) + (-44) ∧ (((80 : Nat) : Int) + (-44)).toNat = 36 := by decide
theorem j_81_7 : 0 ≤ ((81 : Nat) : Int) + (7) ∧ (((81 : Nat) : Int) + (7)).toNat = 88 := by decide
theorem j_88_m30 : 0 ≤ ((88 : Nat) : Int) + (-30) ∧ (((88 : Nat) : Int) + (-30)).toNat = 58 := by decide
theorem j_91_m56 : 0 ≤ ((91 : Nat) : Int) + (-56) ∧ (((91 : Nat) : Int) + (-56)).toNat = 35 := by decide
theorem j_94_7 : 0 ≤ ((94 : Nat) : Int) + (7) ∧ (((94 : Nat) : Int) + (7)).toNat = 101 := by decide
theorem j_96_16 : 0 ≤ ((96 : Nat) : Int) + (16) ∧ (((96 : Nat) : Int) + (16)).toNat = 112 := by decide
theorem j_97_m75 : 0 ≤ ((97 : Nat) : Int) + (-75) ∧ (((97 : Nat) : Int) + (-75)).toNat = 22 := by decide
theorem j_103_5 : 0 ≤ ((103 : Nat) : Int) + (5) ∧ (((103 : Nat) : Int) + (5)).toNat = 108 := by decide
theorem j_104_m70 : 0 ≤ ((104 : Nat) : Int) + (-70) ∧ (((104 : Nat) : Int) + (-70)).toNat = 34 := by decide
theorem j_109_m16 : 0 ≤ ((109 : Nat) : Int) + (-16) ∧ (((109 : Nat) : Int) + (-16)).toNat = 93 := by decide
theorem j_110_m86 : 0 ≤ ((110 : Nat) : Int) + (-86) ∧ (((110 : Nat) : Int) + (-86)).toNat = 24 := by decide
theorem j_120_5 : 0 ≤ ((120 : Nat) : Int) + (5) ∧ (((120 : Nat) : Int) + (5)).toNat = 125 := by decide
theorem j_137_5 : 0 ≤ ((137 : Nat) : Int) + (5) ∧ (((137 : Nat) : Int) + (5)).toNat = 142 := by decide
theorem j_159_5 : 0 ≤ ((159 : Nat) : Int) + (5) ∧ (((159 : Nat) : Int) + (5)).toNat = 164 := by decide
theorem j_176_5 : 0 ≤ ((176 : Nat) : Int) + (5) ∧ (((176 : Nat) : Int) + (5)).toNat = 181 := by decide
theorem j_185_21 : 0 ≤ ((185 : Nat) : Int) + (21) ∧ (((185 : Nat) : Int) + (21)).toNat = 206 := by decide
theorem j_192_14 : 0 ≤ ((192 : Nat) : Int) + (14) ∧ (((192 : Nat) : Int) + (14)).toNat = 206 := by decide
theorem j_203_4 : 0 ≤ ((203 : Nat) : Int) + (4) ∧ (((203 : Nat) : Int) + (4)).toNat = 207 := by decide
theorem j_213_11 : 0 ≤ ((213 : Nat) : Int) + (11) ∧ (((213 : Nat) : Int) + (11)).toNat = 224 := by decide
theorem j_221_4 : 0 ≤ ((221 : Nat) : Int) + (4) ∧ (((221 : Nat) : Int) + (4)).toNat = 225 := by decide
theorem j_229_10 : 0 ≤ ((229 : Nat) : Int) + (10) ∧ (((229 : Nat) : Int) + (10)).toNat = 239 := by decide
theorem j_236_31 : 0 ≤ ((236 : Nat) : Int) + (31) ∧ (((236 : Nat) : Int) + (31)).toNat = 267 := by decide
theorem j_241_10 : 0 ≤ ((241 : Nat) : Int) + (10) ∧ (((241 : Nat) : Int) + (10)).toNat = 251 := by decide
theorem j_248_19 : 0 ≤ ((248 : Nat) : Int) + (19) ∧ (((248 : Nat) : Int) + (19)).toNat = 267 := by decide
theorem j_255_8 : 0 ≤ ((255 : Nat) : Int) + (8) ∧ (((255 : Nat) : Int) + (8)).toNat = 263 := by decide
theorem j_260_5 : 0 ≤ ((260 : Nat) : Int) + (5) ∧ (((260 : Nat) : Int) + (5)).toNat = 265 := by decide
theorem j_269_7 : 0 ≤ ((269 : Nat) : Int) + (7) ∧ (((269 : Nat) : Int) + (7)).toNat = 276 := by decide
theorem j_273_4 : 0 ≤ ((273 : Nat) : Int) + (4) ∧ (((273 : Nat) : Int) + (4)).toNat = 277 := by decide
theorem j_286_5 : 0 ≤ ((286 : Nat) : Int) + (5) ∧ (((286 : Nat) : Int) + (5)).toNat = 291 := by decide
theorem j_293_7 : 0 ≤ ((293 : Nat) : Int) + (7) ∧ (((293 : Nat) : Int) + (7)).toNat = 300 := by decide
theorem j_297_4 : 0 ≤ ((297 : Nat) : Int) + (4) ∧ (((297 : Nat) : Int) + (4)).toNat = 301 := by decide
theorem j_310_5 : 0 ≤ ((310 : Nat) : Int) + (5) ∧ (((310 : Nat) : Int) + (5)).toNat = 315 := by decide
theorem j_322_5 : 0 ≤ ((322 : Nat) : Int) + (5) ∧ (((322 : Nat) : Int) + (5)).toNat = 327 := by decide
theorem j_338_5 : 0 ≤ ((338 : Nat) : Int) + (5) ∧ (((338 : Nat) : Int) + (5)).toNat = 343 := by decide
theorem j_351_5 : 0 ≤ ((351 : Nat) : Int) + (5) ∧ (((351 : Nat) : Int) + (5)).toNat = 356 := by decide
theorem j_364_5 : 0 ≤ ((364 : Nat) : Int) + (5) ∧ (((364 : Nat) : Int) + (5)).toNat = 369 := by decide
theorem j_377_5 : 0 ≤ ((377 : Nat) : Int) + (5) ∧ (((377 : Nat) : Int) + (5)).toNat = 382 := by decide
theorem j_390_5 : 0 ≤ ((390 : Nat) : Int) + (5) ∧ (((390 : Nat) : Int) + (5)).toNat = 395 := by decide
theorem j_403_5 : 0 ≤ ((403 : Nat) : Int) + (5) ∧ (((403 : Nat) : Int) + (5)).toNat = 408 := by decide
theorem j_421_11 : 0 ≤ ((421 : Nat) : Int) + (11) ∧ (((421 : Nat) : Int) + (11)).toNat = 432 := by decide
theorem j_429_4 : 0 ≤ ((429 : Nat) : Int) + (4) ∧ (((429 : Nat) : Int) + (4)).toNat = 433 := by decide
theorem j_433_5 : 0 ≤ ((433 : Nat) : Int) + (5) ∧ (((433 : Nat) : Int) + (5)).toNat = 438 := by decide
theorem j_451_11 : 0 ≤ ((451 : Nat) : Int) + (11) ∧ (((451 : Nat) : Int) + (11)).toNat = 462 := by decide
theorem j_459_4 : 0 ≤ ((459 : Nat) : Int) + (4) ∧ (((459 : Nat) : Int) + (4)).toNat = 463 := by decide
theorem j_463_5 : 0 ≤ ((463 : Nat) : Int) + (5) ∧ (((463 : Nat) : Int) + (5)).toNat = 468 := by decide
theorem j_479_5 : 0 ≤ ((479 : Nat) : Int) + (5) ∧ (((479 : Nat) : Int) + (5)).toNat = 484 := by decide
theorem j_495_7 : 0 ≤ ((495 : Nat) : Int) + (7) ∧ (((495 : Nat) : Int) + (7)).toNat = 502 := by decide
theorem j_499_4 : 0 ≤ ((499 : Nat) : Int) + (4) ∧ (((499 : Nat) : Int) + (4)).toNat = 503 := by decide
theorem lk_0_51 : LinkP PP "LatticeEarley" 51 m0 := ⟨List.mem_of_getElem? (i := 37) rfl, List.mem_of_getElem? (i := 38) rfl, List.mem_of_getElem? (i := 39) rfl, List.mem_of_getElem? (i := 40) rfl, rfl, rfl⟩
theorem lk_0_58 : LinkP PP "LatticeEarley" 58 m2 := ⟨List.mem_of_getElem? (i := 43) rfl, List.mem_of_getElem? (i := 44) rfl, List.mem_of_getElem? (i := 45) rfl, List.mem_of_getElem? (i := 46) rfl, rfl, rfl⟩
theorem lk_0_61 : LinkP PP "LatticeEarley" 61 m3 := ⟨List.mem_of_getElem? (i := 59) rfl, List.mem_of_getElem? (i := 60) rfl, List.mem_of_getElem? (i := 61) rfl, List.mem_of_getElem? (i := 62) rfl, rfl, rfl⟩
theorem lk_0_70 : LinkP PP "LatticeEarley" 70 m6 := ⟨List.mem_of_getElem? (i := 68) rfl, List.mem_of_getElem? (i := 69) rfl, List.mem_of_getElem? (i := 70) rfl, List.mem_of_getElem? (i := 71) rfl, rfl, rfl⟩
theorem lk_0_74 : LinkP PP "LatticeEarley" 74 m1 := ⟨List.mem_of_getElem? (i := 51) rfl, List.mem_of_getElem? (i := 52) rfl, List.mem_of_getElem? (i := 53) rfl, List.mem_of_getElem? (i := 54) rfl, rfl, rfl⟩
theorem lk_0_77 : LinkP PP "LatticeEarley" 77 m9 := ⟨List.mem_of_getElem? (i := 81) rfl, List.mem_of_getElem? (i := 82) rfl, List.mem_of_getElem? (i := 83) rfl, List.mem_of_getElem? (i := 84) rfl, rfl, rfl⟩
theorem lk_0_80 : LinkP PP "LatticeEarley" 80 m10 := ⟨List.mem_of_getElem? (i := 89) rfl, List.mem_of_getElem? (i := 90) rfl, List.mem_of_getElem? (i := 91) rfl, List.mem_of_getElem? (i := 92) rfl, rfl, rfl⟩
theorem lk_0_84 : LinkP PP "LatticeEarley" 84 m22 := ⟨List.mem_of_getElem? (i := 158) rfl, List.mem_of_getElem? (i := 159) rfl, List.mem_of_getElem? (i := 160) rfl, List.mem_of_getElem? (i := 161) rfl, rfl, rfl⟩
theorem lk_0_88 : LinkP PP "LatticeEarley" 88 m32 := ⟨List.mem_of_getElem? (i := 98) rfl, List.mem_of_getElem? (i := 99) rfl, List.mem_of_getElem? (i := 100) rfl, List.mem_of_getElem? (i := 101) rfl, rfl, rfl⟩
theorem lk_0_91 : LinkP PP "LatticeEarley" 91 m24 := ⟨List.mem_of_getElem? (i := 166) rfl, List.mem_of_getElem? (i := 167) rfl, List.mem_of_getElem? (i := 168) rfl, List.mem_of_getElem? (i := 169) rfl, rfl, rfl⟩
theorem lk_0_101 : LinkP PP "LatticeEarley" 101 m38 := ⟨List.mem_of_getElem? (i := 182) rfl, List.mem_of_getElem? (i := 183) rfl, List.mem_of_getElem? (i := 184) rfl, List.mem_of_getElem? (i := 185) rfl, rfl, rfl⟩
theorem lk_0_104 : LinkP PP "LatticeEarley" 104 m46 := ⟨List.mem_of_getElem? (i := 206) rfl, List.mem_of_getElem? (i := 207) rfl, List.mem_of_getElem? (i := 208) rfl, List.mem_of_getElem? (i := 209) rfl, rfl, rfl⟩
theorem lk_0_107 : LinkP PP "LatticeEarley" 107 m12 := ⟨List.mem_of_getElem? (i := 114) rfl, List.mem_of_getElem? (i := 115) rfl, List.mem_of_getElem? (i := 116) rfl, List.mem_of_getElem? (i := 117) rfl, rfl, rfl⟩
theorem lk_0_111 : LinkP PP "LatticeEarley" 111 m13 := ⟨List.mem_of_getElem? (i := 118) rfl, List.mem_of_getElem? (i := 119) rfl, List.mem_of_getElem? (i := 120) rfl, List.mem_of_getElem? (i := 121) rfl, rfl, rfl⟩
theorem lk_0_114 : LinkP PP "LatticeEarley" 114 m50 := ⟨List.mem_of_getElem? (i := 253) rfl, List.mem_of_getElem? (i := 254) rfl, List.mem_of_getElem? (i := 255) rfl, List.mem_of_getElem? (i := 256) rfl, rfl, rfl⟩
theorem lk_0_117 : LinkP PP "LatticeEarley" 117 m40 := ⟨List.mem_of_getElem? (i := 230) rfl, List.mem_of_getElem? (i := 231) rfl, List.mem_of_getElem? (i := 232) rfl, List.mem_of_getElem? (i := 233) rfl, rfl, rfl⟩
theorem lk_0_120 : LinkP PP "LatticeEarley" 120 m25 := ⟨List.mem_of_getElem? (i := 170) rfl, List.mem_of_getElem? (i := 171) rfl, List.mem_of_getElem? (i := 172) rfl, List.mem_of_getElem? (i := 173) rfl, rfl, rfl⟩
theorem lk_0_123 : LinkP PP "LatticeEarley" 123 m17 := ⟨List.mem_of_getElem? (i := 134) rfl, List.mem_of_getElem? (i := 135) rfl, List.mem_of_getElem? (i := 136) rfl, List.mem_of_getElem? (i := 137) rfl, rfl, rfl⟩
theorem lk_0_126 : LinkP PP "LatticeEarley" 126 m53 := ⟨List.mem_of_getElem? (i := 267) rfl, List.mem_of_getElem? (i := 268) rfl, List.mem_of_getElem? (i := 269) rfl, List.mem_of_getElem? (i := 270) rfl, rfl, rfl⟩
theorem lk_0_129 : LinkP PP "LatticeEarley" 129 m5 := ⟨List.mem_of_getElem? (i := 72) rfl, List.mem_of_getElem? (i := 73) rfl, List.mem_of_getElem? (i := 74) rfl, List.mem_of_getElem? (i := 75) rfl, rfl, rfl⟩
theorem lk_0_133 : LinkP PP "LatticeEarley" 133 m8 := ⟨List.mem_of_getElem? (i := 85) rfl, List.mem_of_getElem? (i := 86) rfl, List.mem_of_getElem? (i := 87) rfl, List.mem_of_getElem? (i := 88) rfl, rfl, rfl⟩
theorem lk_0_136 : LinkP PP "LatticeEarley" 136 m18 := ⟨List.mem_of_getElem? (i := 138) rfl, List.mem_of_getElem? (i := 139) rfl, List.mem_of_getElem? (i := 140) rfl, List.mem_of_getElem? (i := 141) rfl, rfl, rfl⟩
theorem lk_0_139 : LinkP PP "LatticeEarley" 139 m14 := ⟨List.mem_of_getElem? (i := 110) rfl, List.mem_of_getElem? (i := 111) rfl, List.mem_of_getElem? (i := 112) rfl, List.mem_of_getElem? (i := 113) rfl, rfl, rfl⟩
theorem lk_0_142 : LinkP PP "LatticeEarley" 142 m19 := ⟨List.mem_of_getElem? (i := 130) rfl, List.mem_of_getElem? (i := 131) rfl, List.mem_of_getElem? (i := 132) rfl, List.mem_of_getElem? (i := 133) rfl, rfl, rfl⟩
theorem lk_0_146 : LinkP PP "LatticeEarley" 146 m16 := ⟨List.mem_of_getElem? (i := 102) rfl, List.mem_of_getElem? (i := 103) rfl, List.mem_of_getElem? (i := 104) rfl, List.mem_of_getElem? (i := 105) rfl, rfl, rfl⟩
theorem lk_0_149 : LinkP PP "LatticeEarley" 149 m21 := ⟨List.mem_of_getElem? (i := 122) rfl, List.mem_of_getElem? (i := 123) rfl, List.mem_of_getElem? (i := 124) rfl, List.mem_of_getElem? (i := 125) rfl, rfl, rfl⟩
theorem lk_0_152 : LinkP PP "LatticeEarley" 152 m31 := ⟨List.mem_of_getElem? (i := 142) rfl, List.mem_of_getElem? (i := 143) rfl, List.mem_of_getElem? (i := 144) rfl, List.mem_of_getElem? (i := 145) rfl, rfl, rfl⟩
theorem lk_0_156 : LinkP PP "LatticeEarley" 156 m15 := ⟨List.mem_of_getElem? (i := 106) rfl, List.mem_of_getElem? (i := 107) rfl, List.mem_of_getElem? (i := 108) rfl, List.mem_of_getElem? (i := 109) rfl, rfl, rfl⟩
theorem lk_0_159 : LinkP PP "LatticeEarley" 159 m20 := ⟨List.mem_of_getElem? (i := 126) rfl, List.mem_of_getElem? (i := 127) rfl, List.mem_of_getElem? (i := 128) rfl, List.mem_of_getElem? (i := 129) rfl, rfl, rfl⟩
theorem lk_0_163 : LinkP PP "LatticeEarley" 163 m30 := ⟨List.mem_of_getElem? (i := 146) rfl, List.mem_of_getElem? (i := 147) rfl, List.mem_of_getElem? (i := 148) rfl, List.mem_of_getElem? (i := 149) rfl, rfl, rfl⟩
theorem lk_0_167 : LinkP PP "LatticeEarley" 167 m27 := ⟨List.mem_of_getElem? (i := 150) rfl, List.mem_of_getElem? (i := 151) rfl, List.mem_of_getElem? (i := 152) rfl, List.mem_of_getElem? (i := 153) rfl, rfl, rfl⟩
theorem lk_0_170 : LinkP PP "LatticeEarley" 170 m29 := ⟨List.mem_of_getElem? (i := 174) rfl, List.mem_of_getElem? (i := 175) rfl, List.mem_of_getElem? (i := 176) rfl, List.mem_of_getElem? (i := 177) rfl, rfl, rfl⟩
theorem lk_0_173 : LinkP PP "LatticeEarley" 173 m26 := ⟨List.mem_of_getElem? (i := 154) rfl, List.mem_of_getElem? (i := 155) rfl, List.mem_of_getElem? (i := 156) rfl, List.mem_of_getElem? (i := 157) rfl, rfl, rfl⟩
theorem lk_0_176 : LinkP PP "LatticeEarley" 176 m23 := ⟨List.mem_of_getElem? (i := 162) rfl, List.mem_of_getElem? (i := 163) rfl, List.mem_of_getElem? (i := 164) rfl, List.mem_of_getElem? (i := 165) rfl, rfl, rfl⟩
theorem lk_0_179 : LinkP PP "LatticeEarley" 179 m28 := ⟨List.mem_of_getElem? (i := 178) rfl, List.mem_of_getElem? (i := 179) rfl, List.mem_of_getElem? (i := 180) rfl, List.mem_of_getElem? (i := 181) rfl, rfl, rfl⟩
theorem lk_0_182 : LinkP PP "LatticeEarley" 182 m34 := ⟨List.mem_of_getElem? (i := 186) rfl, List.mem_of_getElem? (i := 187) rfl, List.mem_of_getElem? (i := 188) rfl, List.mem_of_getElem? (i := 189) rfl, rfl, rfl⟩
theorem lk_0_186 : LinkP PP "LatticeEarley" 186 m37 := ⟨List.mem_of_getElem? (i := 194) rfl, List.mem_of_getElem? (i := 195) rfl, List.mem_of_getElem? (i := 196) rfl, List.mem_of_getElem? (i := 197) rfl, rfl, rfl⟩
theorem lk_0_189 : LinkP PP "LatticeEarley" 189 m33 := ⟨List.mem_of_getElem? (i := 190) rfl, List.mem_of_getElem? (i := 191) rfl, List.mem_of_getElem? (i := 192) rfl, List.mem_of_getElem? (i := 193) rfl, rfl, rfl⟩
theorem lk_0_192 : LinkP PP "LatticeEarley" 192 m36 := ⟨List.mem_of_getElem? (i := 198) rfl, List.mem_of_getElem? (i := 199) rfl, List.mem_of_getElem? (i := 200) rfl, List.mem_of_getElem? (i := 201) rfl, rfl, rfl⟩
theorem lk_0_195 : LinkP PP "LatticeEarley" 195 m35 := ⟨List.mem_of_getElem? (i := 202) rfl, List.mem_of_getElem? (i := 203) rfl, List.mem_of_getElem? (i := 204) rfl, List.mem_of_getElem? (i := 205) rfl, rfl, rfl⟩
theorem lk_0_198 : LinkP PP "LatticeEarley" 198 m39 := ⟨List.mem_of_getElem? (i := 210) rfl, List.mem_of_getElem? (i := 211) rfl, List.mem_of_getElem? (i := 212) rfl, List.mem_of_getElem? (i := 213) rfl, rfl, rfl⟩
theorem lk_0_201 : LinkP PP "LatticeEarley" 201 m45 := ⟨List.mem_of_getElem? (i := 214) rfl, List.mem_of_getElem? (i := 215) rfl, List.mem_of_getElem? (i := 216) rfl, List.mem_of_getElem? (i := 217) rfl, rfl, rfl⟩
theorem lk_0_204 : LinkP PP "LatticeEarley" 204 m44 := ⟨List.mem_of_getElem? (i := 218) rfl, List.mem_of_getElem? (i := 219) rfl, List.mem_of_getElem? (i := 220) rfl, List.mem_of_getElem? (i := 221) rfl, rfl, rfl⟩
theorem lk_0_207 : LinkP PP "LatticeEarley" 207 m43 := ⟨List.mem_of_getElem? (i := 222) rfl, List.mem_of_getElem? (i := 223) rfl, List.mem_of_getElem? (i := 224) rfl, List.mem_of_getElem? (i := 225) rfl, rfl, rfl⟩
theorem lk_0_210 : LinkP PP "LatticeEarley" 210 m42 := ⟨List.mem_of_getElem? (i := 226) rfl, List.mem_of_getElem? (i := 227) rfl, List.mem_of_getElem? (i := 228) rfl, List.mem_of_getElem? (i := 229) rfl, rfl, rfl⟩
theorem lk_0_213 : LinkP PP "LatticeEarley" 213 m41 := ⟨List.mem_of_getElem? (i := 234) rfl, List.mem_of_getElem? (i := 235) rfl, List.mem_of_getElem? (i := 236) rfl, List.mem_of_getElem? (i := 237) rfl, rfl, rfl⟩
theorem lk_1_9 : LinkI PP "LatticeEarleyL3" 9 m4 := ⟨List.mem_of_getElem? (i := 3) rfl, List.mem_of_getElem? (i := 4) rfl, List.mem_of_getElem? (i := 5) rfl, rfl, rfl, rfl, rfl⟩
theorem lk_1_12 : LinkV PP "LatticeEarleyL3" 12 m7 := ⟨List.mem_of_getElem? (i := 63) rfl, List.mem_of_getElem? (i := 64) rfl, List.mem_of_getElem? (i := 66) rfl, List.mem_of_getElem? (i := 65) rfl, List.mem_of_getElem? (i := 67) rfl, rfl, rfl⟩
theorem lk_1_16 : LinkV PP "LatticeEarleyL3" 16 m11 := ⟨List.mem_of_getElem? (i := 76) rfl, List.mem_of_getElem? (i := 77) rfl, List.mem_of_getElem? (i := 79) rfl, List.mem_of_getElem? (i := 78) rfl, List.mem_of_getElem? (i := 80) rfl, rfl, rfl⟩
theorem lk_1_19 : LinkV PP "LatticeEarleyL3" 19 m47 := ⟨List.mem_of_getElem? (i := 93) rfl, List.mem_of_getElem? (i := 94) rfl, List.mem_of_getElem? (i := 96) rfl, List.mem_of_getElem? (i := 95) rfl, List.mem_of_getElem? (i := 97) rfl, rfl, rfl⟩
theorem lk_1_23 : LinkV PP "LatticeEarleyL3" 23 m48 := ⟨List.mem_of_getElem? (i := 238) rfl, List.mem_of_getElem? (i := 239) rfl, List.mem_of_getElem? (i := 241) rfl, List.mem_of_getElem? (i := 240) rfl, List.mem_of_getElem? (i := 242) rfl, rfl, rfl⟩
theorem lk_1_27 : LinkV PP "LatticeEarleyL3" 27 m49 := ⟨List.mem_of_getElem? (i := 243) rfl, List.mem_of_getElem? (i := 244) rfl, List.mem_of_getElem? (i := 246) rfl, List.mem_of_getElem? (i := 245) rfl, List.mem_of_getElem? (i := 247) rfl, rfl, rfl⟩
theorem lk_1_30 : LinkV PP "LatticeEarleyL3" 30 m51 := ⟨List.mem_of_getElem? (i := 248) rfl, List.mem_of_getElem? (i := 249) rfl, List.mem_of_getElem? (i := 251) rfl, List.mem_of_getElem? (i := 250) rfl, List.mem_of_getElem? (i := 252) rfl, rfl, rfl⟩
theorem lk_1_34 : LinkV PP "LatticeEarleyL3" 34 m52 := ⟨List.mem_of_getElem? (i := 257) rfl, List.mem_of_getElem? (i := 258) rfl, List.mem_of_getElem? (i := 260) rfl, List.mem_of_getElem? (i := 259) rfl, List.mem_of_getElem? (i := 261) rfl, rfl, rfl⟩
theorem lk_1_38 : LinkV PP "LatticeEarleyL3" 38 m54 := ⟨List.mem_of_getElem? (i := 262) rfl, List.mem_of_getElem? (i := 263) rfl, List.mem_of_getElem? (i := 265) rfl, List.mem_of_getElem? (i := 264) rfl, List.mem_of_getElem? (i := 266) rfl, rfl, rfl⟩
theorem facts1 {Z : State} {a0 : Array Value} (hw : ∀ d ∈ tables_1, d.before a0 Z = true) : Facts Z a0 ci1 := by
  refine ⟨hw _ (List.mem_of_getElem? (i := 1) rfl), hw _ (List.mem_of_getElem? (i := 2) rfl), ?_, ?_, by decide, ?_, by decide⟩
  · intro f x hx
    match f, hx with
    | 0, hx => cases hx; exact ⟨Or.inl (hw _ (List.mem_of_getElem? (i := 11) rfl)), by decide⟩
    | 1, hx => cases hx; exact ⟨Or.inl (hw _ (List.mem_of_getElem? (i := 42) rfl)), by decide⟩
    | 2, hx => cases hx; exact ⟨Or.inl (hw _ (List.mem_of_getElem? (i := 48) rfl)), by decide⟩
    | 3, hx => cases hx; exact ⟨Or.inl (hw _ (List.mem_of_getElem? (i := 50) rfl)), by decide⟩
    | 4, hx => cases hx; exact ⟨Or.inl (hw _ (List.mem_of_getElem? (i := 56) rfl)), by decide⟩
    | 5, hx => cases hx; exact ⟨Or.inl (hw _ (List.mem_of_getElem? (i := 58) rfl)), by decide⟩
    | n + 6, hx => simp [cS, ci1] at hx
  · intro q x hx
    match q, hx with
    | 0, hx => cases hx; exact ⟨Or.inl (hw _ (List.mem_of_getElem? (i := 14) rfl)), by decide⟩
    | 1, hx => cases hx; exact ⟨Or.inl (hw _ (List.mem_of_getElem? (i := 16) rfl)), by decide⟩
    | 2, hx => cases hx; exact ⟨Or.inl (hw _ (List.mem_of_getElem? (i := 18) rfl)), by decide⟩
    | 3, hx => cases hx; exact ⟨Or.inl (hw _ (List.mem_of_getElem? (i := 20) rfl)), by decide⟩
    | 4, hx => cases hx; exact ⟨Or.inl (hw _ (List.mem_of_getElem? (i := 22) rfl)), by decide⟩
    | 5, hx => cases hx; exact ⟨Or.inl (hw _ (List.mem_of_getElem? (i := 24) rfl)), by decide⟩
    | 6, hx => cases hx; exact ⟨Or.inl (hw _ (List.mem_of_getElem? (i := 26) rfl)), by decide⟩
    | 7, hx => cases hx; exact ⟨Or.inl (hw _ (List.mem_of_getElem? (i := 28) rfl)), by decide⟩
    | 8, hx => cases hx; exact ⟨Or.inl (hw _ (List.mem_of_getElem? (i := 30) rfl)), by decide⟩
    | 9, hx => cases hx; exact ⟨Or.inl (hw _ (List.mem_of_getElem? (i := 32) rfl)), by decide⟩
    | 10, hx => cases hx; exact ⟨Or.inl (hw _ (List.mem_of_getElem? (i := 34) rfl)), by decide⟩
    | 11, hx => cases hx; exact ⟨Or.inl (hw _ (List.mem_of_getElem? (i := 36) rfl)), by decide⟩
    | n + 12, hx => simp [cA, ci1] at hx
  · intro f x hx
    match f, hx with
    | 0, hx => cases hx; rfl
    | 1, hx => cases hx; rfl
    | 2, hx => cases hx; rfl
    | 3, hx => cases hx; rfl
    | 4, hx => cases hx; rfl
    | 5, hx => cases hx; rfl
    | n + 6, hx => simp [cS, ci1] at hx
def k_clampNodes  (v1 : Int32)  : Int32 :=
  if v1 < (2 : Int32) then
    (2 : Int32)
  else
    if (8 : Int32) < v1 then
      (8 : Int32)
    else
      v1
def k_becomeBuilding   (s : S) : S :=
  sI (sI s 4 (0 : Int32)) 5 (-1 : Int32)
def k_clearStore_93  : Nat → Int32 → S → Option S
  | 0, _, _ => none
  | n + 1, v1, s =>
    if v1 < (36 : Int32) then
      (Jvm.AM.st (gA s 7) v1 (0 : Int32)).bind fun a105 =>
      k_clearStore_93 n (v1 + (1 : Int32)) (sA s 7 a105)
    else
      some s
def k_clearStore_91   (s : S) : Option S :=
  k_clearStore_93 BIG (0 : Int32) s
def k_clearStore_58  : Nat → Int32 → S → Option S
  | 0, _, _ => none
  | n + 1, v1, s =>
    if v1 < (12 : Int32) then
      (Jvm.AM.st (gA s 4) v1 (0 : Int32)).bind fun a70 =>
      (Jvm.AM.st (gA s 5) v1 (0 : Int32)).bind fun a77 =>
      (Jvm.AM.st (gA s 6) v1 (0 : Int32)).bind fun a84 =>
      k_clearStore_58 n (v1 + (1 : Int32)) (sA (sA (sA s 4 a70) 5 a77) 6 a84)
    else
      k_clearStore_91 s
def k_clearStore_56   (s : S) : Option S :=
  k_clearStore_58 BIG (0 : Int32) s
def k_clearStore_16  : Nat → Int32 → S → Option S
  | 0, _, _ => none
  | n + 1, v1, s =>
    if v1 < (16 : Int32) then
      (Jvm.AM.st (gA s 0) v1 (0 : Int32)).bind fun a28 =>
      (Jvm.AM.st (gA s 1) v1 (0 : Int32)).bind fun a35 =>
      (Jvm.AM.st (gA s 2) v1 (0 : Int32)).bind fun a42 =>
      (Jvm.AM.st (gA s 3) v1 (0 : Int32)).bind fun a49 =>
      k_clearStore_16 n (v1 + (1 : Int32)) (sA (sA (sA (sA s 0 a28) 1 a35) 2 a42) 3 a49)
    else
      k_clearStore_56 s
def k_clearStore   (s : S) : Option S :=
  k_clearStore_16 BIG (0 : Int32) (k_becomeBuilding (sI (sI s 2 (0 : Int32)) 3 (0 : Int32)))
def k_clearTables_37  : Nat → Int32 → S → Option S
  | 0, _, _ => none
  | n + 1, v1, s =>
    if v1 < (3072 : Int32) then
      (Jvm.AM.st (gA s 9) v1 (gI s 0)).bind fun a53 =>
      (Jvm.AM.st (gA s 10) v1 (gI s 0)).bind fun a63 =>
      k_clearTables_37 n (v1 + (1 : Int32)) (sA (sA s 9 a53) 10 a63)
    else
      some s
def k_clearTables_35   (s : S) : Option S :=
  k_clearTables_37 BIG (0 : Int32) s
def k_clearTables_2  : Nat → Int32 → S → Option S
  | 0, _, _ => none
  | n + 1, v1, s =>
    if v1 < (1024 : Int32) then
      (Jvm.AM.st (gA s 8) v1 (gI s 0)).bind fun a18 =>
      (Jvm.AM.st (gA s 11) v1 (gI s 0)).bind fun a28 =>
      k_clearTables_2 n (v1 + (1 : Int32)) (sA (sA s 8 a18) 11 a28)
    else
      k_clearTables_35 s
def k_clearTables   (s : S) : Option S :=
  k_clearTables_2 BIG (0 : Int32) s
def k_init  (v1 : Int32)  : Option S :=
  (k_clearStore (sI (sA (sA (sA (sA (sA (sA (sA (sA (sA (sA (sA (sA (sI s0 0 (1073741824 : Int32)) 0 (rep 16 0)) 1 (rep 16 0)) 2 (rep 16 0)) 3 (rep 16 0)) 4 (rep 12 0)) 5 (rep 12 0)) 6 (rep 12 0)) 7 (rep 36 0)) 8 (rep 1024 0)) 9 (rep 3072 0)) 10 (rep 3072 0)) 11 (rep 1024 0)) 1 (k_clampNodes v1))).bind fun r120 =>
  (k_clearTables r120).bind fun r124 =>
  some r124
def k_inRange  (v1 : Int32) (v2 : Int32) (v3 : Int32)  : Int32 :=
  if v1 < v2 then
    (0 : Int32)
  else
    if v3 < v1 then
      (0 : Int32)
    else
      (1 : Int32)
def k_edgeRefused  (v1 : Int32) (v2 : Int32) (v3 : Int32) (v4 : Int32) (s : S) : Int32 :=
  if (gI s 2) < (16 : Int32) then
    if v1 < 0 then
      (1 : Int32)
    else
      if ((gI s 1) - (1 : Int32)) < v2 then
        (1 : Int32)
      else
        if v1 < v2 then
          if (k_inRange v3 (0 : Int32) (7 : Int32)) = 0 then
            (1 : Int32)
          else
            if (k_inRange v4 (0 : Int32) (100 : Int32)) = 0 then
              (1 : Int32)
            else
              (0 : Int32)
        else
          (1 : Int32)
  else
    (1 : Int32)
def k_addEdge  (v1 : Int32) (v2 : Int32) (v3 : Int32) (v4 : Int32) (s : S) : Option (Int32 × S) :=
  if (k_edgeRefused v1 v2 v3 v4 s) = 0 then
    (Jvm.AM.st (gA s 0) (gI s 2) v1).bind fun a27 =>
    (Jvm.AM.st (gA s 1) (gI s 2) v2).bind fun a35 =>
    (Jvm.AM.st (gA s 2) (gI s 2) v3).bind fun a43 =>
    (Jvm.AM.st (gA s 3) (gI s 2) v4).bind fun a52 =>
    some (gI s 2, (k_becomeBuilding (sI (sA (sA (sA (sA s 0 a27) 1 a35) 2 a43) 3 a52) 2 ((gI s 2) + (1 : Int32)))))
  else
    some ((-1 : Int32), s)
def k_bodyLimit_4  : Nat → Int32 → Int32 → Int32 → Option Int32
  | 0, _, _, _ => none
  | n + 1, v1, v2, v3 =>
    if v3 < v1 then
      if v3 < (3 : Int32) then
        k_bodyLimit_4 n v1 (v2 * (16 : Int32)) (v3 + (1 : Int32))
      else
        some v2
    else
      some v2
def k_bodyLimit  (v1 : Int32)  : Option Int32 :=
  k_bodyLimit_4 BIG v1 (1 : Int32) (0 : Int32)
def k_ruleRefused  (v1 : Int32) (v2 : Int32) (v3 : Int32) (v4 : Int32) (s : S) : Option Int32 :=
  if (gI s 3) < (12 : Int32) then
    if (k_inRange v1 (0 : Int32) (7 : Int32)) = 0 then
      some (1 : Int32)
    else
      if (k_inRange v2 (0 : Int32) (100 : Int32)) = 0 then
        some (1 : Int32)
      else
        if (k_inRange v3 (0 : Int32) (3 : Int32)) = 0 then
          some (1 : Int32)
        else
          if v4 < 0 then
            some (1 : Int32)
          else
            (k_bodyLimit v3).bind fun r60 =>
            if v4 < r60 then
              some (0 : Int32)
            else
              some (1 : Int32)
  else
    some (1 : Int32)
def k_storeRule_64 (k36 : Int32 → Int32 → Int32 → Int32 → S → Option S) (v1 : Int32) (v4 : Int32) (v5 : Int32) (v6 : Int32) (v7 : Int32) (s : S) : Option S :=
  (Jvm.AM.st (gA s 7) ((v1 * (3 : Int32)) + v6) v7).bind fun a76 =>
  k36 v1 v4 v5 (v6 + (1 : Int32)) (sA s 7 a76)
def k_storeRule_36  : Nat → Int32 → Int32 → Int32 → Int32 → S → Option S
  | 0, _, _, _, _, _ => none
  | n + 1, v1, v4, v5, v6, s =>
    if v6 < (3 : Int32) then
      k_storeRule_64 (fun v1 v4 v5 v6 s => k_storeRule_36 n v1 v4 v5 v6 s) v1 v4 v5 v6 (if v6 < v4 then (v5 >>> (((4 : Int32) * v6) &&& 31)) &&& (15 : Int32) else (0 : Int32)) s
    else
      some s
def k_storeRule  (v1 : Int32) (v2 : Int32) (v3 : Int32) (v4 : Int32) (v5 : Int32) (s : S) : Option S :=
  if v1 < 0 then
    some s
  else
    if v1 < (12 : Int32) then
      (Jvm.AM.st (gA s 4) v1 v2).bind fun a17 =>
      (Jvm.AM.st (gA s 5) v1 v3).bind fun a24 =>
      (Jvm.AM.st (gA s 6) v1 v4).bind fun a32 =>
      k_storeRule_36 BIG v1 v4 v5 (0 : Int32) (sA (sA (sA s 4 a17) 5 a24) 6 a32)
    else
      some s
def k_addRule  (v1 : Int32) (v2 : Int32) (v3 : Int32) (v4 : Int32) (s : S) : Option (Int32 × S) :=
  (k_ruleRefused v1 v2 v3 v4 s).bind fun r6 =>
  if r6 = 0 then
    (k_storeRule (gI s 3) v1 v2 v3 v4 s).bind fun r28 =>
    some (gI s 3, (k_becomeBuilding (sI r28 3 ((gI s 3) + (1 : Int32)))))
  else
    some ((-1 : Int32), s)
def k_isCode  (v1 : Int32)  : Int32 :=
  if v1 < 0 then
    (0 : Int32)
  else
    if v1 < (16 : Int32) then
      (1 : Int32)
    else
      (0 : Int32)
def k_isNode  (v1 : Int32) (s : S) : Int32 :=
  if v1 < 0 then
    (0 : Int32)
  else
    if v1 < (gI s 1) then
      (1 : Int32)
    else
      (0 : Int32)
def k_spanSlot  (v1 : Int32) (v2 : Int32) (v3 : Int32) (s : S) : Int32 :=
  if (k_isCode v1) = 0 then
    (-1 : Int32)
  else
    if (k_isNode v2 s) = 0 then
      (-1 : Int32)
    else
      if (k_isNode v3 s) = 0 then
        (-1 : Int32)
      else
        ((v1 * (64 : Int32)) + (v2 * (8 : Int32))) + v3
def k_lowerSpan  (v1 : Int32) (v2 : Int32) (v3 : Int32) (v4 : Int32) (s : S) : Option (Int32 × S) :=
  if (k_spanSlot v1 v2 v3 s) < 0 then
    some ((0 : Int32), s)
  else
    (ix (gA s 8) (k_spanSlot v1 v2 v3 s)).bind fun a22 =>
    if v4 < a22 then
      (Jvm.AM.st (gA s 8) (k_spanSlot v1 v2 v3 s) v4).bind fun a36 =>
      some ((1 : Int32), sA s 8 a36)
    else
      some ((0 : Int32), s)
def k_scanEdges_2  : Nat → Int32 → S → Option S
  | 0, _, _ => none
  | n + 1, v1, s =>
    if v1 < (gI s 2) then
      (ix (gA s 2) v1).bind fun a16 =>
      (ix (gA s 0) v1).bind fun a22 =>
      (ix (gA s 1) v1).bind fun a28 =>
      (ix (gA s 3) v1).bind fun a34 =>
      (k_lowerSpan a16 a22 a28 a34 s).bind fun r35 =>
      k_scanEdges_2 n (v1 + (1 : Int32)) r35.2
    else
      some s
def k_scanEdges   (s : S) : Option S :=
  k_scanEdges_2 BIG (0 : Int32) s
def k_isRule  (v1 : Int32) (s : S) : Int32 :=
  if v1 < 0 then
    (0 : Int32)
  else
    if v1 < (gI s 3) then
      (1 : Int32)
    else
      (0 : Int32)
def k_isDot  (v1 : Int32)  : Int32 :=
  if v1 < 0 then
    (0 : Int32)
  else
    if (3 : Int32) < v1 then
      (0 : Int32)
    else
      (1 : Int32)
def k_itemSlot  (v1 : Int32) (v2 : Int32) (v3 : Int32) (v4 : Int32) (s : S) : Int32 :=
  if (k_isRule v1 s) = 0 then
    (-1 : Int32)
  else
    if (k_isDot v2) = 0 then
      (-1 : Int32)
    else
      if (k_isNode v3 s) = 0 then
        (-1 : Int32)
      else
        if (k_isNode v4 s) = 0 then
          (-1 : Int32)
        else
          ((((v1 * (4 : Int32)) + v2) * (64 : Int32)) + (v3 * (8 : Int32))) + v4
def k_lowerItem  (v1 : Int32) (v2 : Int32) (v3 : Int32) (v4 : Int32) (v5 : Int32) (s : S) : Option (Int32 × S) :=
  if (k_itemSlot v1 v2 v3 v4 s) < 0 then
    some ((0 : Int32), s)
  else
    (ix (gA s 9) (k_itemSlot v1 v2 v3 v4 s)).bind fun a24 =>
    if v5 < a24 then
      (Jvm.AM.st (gA s 9) (k_itemSlot v1 v2 v3 v4 s) v5).bind fun a38 =>
      some ((1 : Int32), sA s 9 a38)
    else
      some ((0 : Int32), s)
def k_seedItems_12 (k2 : Int32 → S → Option S) : Nat → Int32 → Int32 → S → Option S
  | 0, _, _, _ => none
  | n + 1, v1, v2, s =>
    if v2 < (gI s 1) then
      (ix (gA s 5) v1).bind fun a30 =>
      (k_lowerItem v1 (0 : Int32) v2 v2 a30 s).bind fun r31 =>
      k_seedItems_12 k2 n v1 (v2 + (1 : Int32)) r31.2
    else
      k2 (v1 + (1 : Int32)) s
def k_seedItems_2  : Nat → Int32 → S → Option S
  | 0, _, _ => none
  | n + 1, v1, s =>
    if v1 < (gI s 3) then
      k_seedItems_12 (fun v1 s => k_seedItems_2 n v1 s) BIG v1 (0 : Int32) s
    else
      some s
def k_seedItems   (s : S) : Option S :=
  k_seedItems_2 BIG (0 : Int32) s
def k_symbolAt  (v1 : Int32) (v2 : Int32) (s : S) : Option Int32 :=
  if v1 < 0 then
    some (0 : Int32)
  else
    if v1 < (12 : Int32) then
      if v2 < 0 then
        some (0 : Int32)
      else
        if v2 < (3 : Int32) then
          (ix (gA s 7) ((v1 * (3 : Int32)) + v2)).bind fun a30 =>
          some a30
        else
          some (0 : Int32)
    else
      some (0 : Int32)
def k_getItem  (v1 : Int32) (v2 : Int32) (v3 : Int32) (v4 : Int32) (s : S) : Option Int32 :=
  if (k_itemSlot v1 v2 v3 v4 s) < 0 then
    some (gI s 0)
  else
    (ix (gA s 9) (k_itemSlot v1 v2 v3 v4 s)).bind fun a27 =>
    some a27
def k_getSpan  (v1 : Int32) (v2 : Int32) (v3 : Int32) (s : S) : Option Int32 :=
  if (k_spanSlot v1 v2 v3 s) < 0 then
    some (gI s 0)
  else
    (ix (gA s 8) (k_spanSlot v1 v2 v3 s)).bind fun a25 =>
    some a25
def k_plus  (v1 : Int32) (v2 : Int32) (s : S) : Int32 :=
  if v1 < (gI s 0) then
    if v2 < (gI s 0) then
      if (v1 + v2) < (gI s 0) then
        v1 + v2
      else
        gI s 0
    else
      gI s 0
  else
    gI s 0
def k_bestAdvance_17  : Nat → Int32 → Int32 → Int32 → Int32 → Int32 → Int32 → Int32 → S → Option Int32
  | 0, _, _, _, _, _, _, _, _ => none
  | n + 1, v1, v2, v3, v4, v5, v6, v7, s =>
    if v4 < v7 then
      some v6
    else
      (k_getItem v1 v2 v3 v7 s).bind fun r30 =>
      (k_getSpan v5 v7 v4 s).bind fun r42 =>
      k_bestAdvance_17 n v1 v2 v3 v4 v5 (if (k_plus r30 r42 s) < v6 then (k_plus r30 r42 s) else v6) (v7 + (1 : Int32)) s
def k_bestAdvance  (v1 : Int32) (v2 : Int32) (v3 : Int32) (v4 : Int32) (s : S) : Option Int32 :=
  (k_symbolAt v1 v2 s).bind fun r3 =>
  k_bestAdvance_17 BIG v1 v2 v3 v4 r3 (gI s 0) v3 s
def k_advanceItems_14  : Nat → Int32 → Int32 → Int32 → Int32 → Int32 → Int32 → S → Option (Int32 × S)
  | 0, _, _, _, _, _, _, _ => none
  | n + 1, v1, v2, v3, v4, v5, v6, s =>
    if v6 < v5 then
      (k_bestAdvance v1 v6 v2 v3 s).bind fun r27 =>
      (k_lowerItem v1 (v6 + (1 : Int32)) v2 v3 r27 s).bind fun r42 =>
      k_advanceItems_14 n v1 v2 v3 (if r42.1 = 0 then v4 else (1 : Int32)) v5 (v6 + (1 : Int32)) r42.2
    else
      some (nar .boolean v4, s)
def k_advanceItems  (v1 : Int32) (v2 : Int32) (v3 : Int32) (s : S) : Option (Int32 × S) :=
  (ix (gA s 6) v1).bind fun a8 =>
  k_advanceItems_14 BIG v1 v2 v3 (0 : Int32) a8 (0 : Int32) s
def k_headCode  (v1 : Int32) (s : S) : Option Int32 :=
  if v1 < 0 then
    some (8 : Int32)
  else
    if v1 < (12 : Int32) then
      (ix (gA s 4) v1).bind fun a20 =>
      some ((8 : Int32) + a20)
    else
      some (8 : Int32)
def k_completeItem  (v1 : Int32) (v2 : Int32) (v3 : Int32) (s : S) : Option (Int32 × S) :=
  (ix (gA s 6) v1).bind fun a7 =>
  (k_getItem v1 a7 v2 v3 s).bind fun r10 =>
  (k_headCode v1 s).bind fun r17 =>
  (k_lowerSpan r17 v2 v3 r10 s).bind fun r29 =>
  some (nar .boolean r29.1, r29.2)
def k_insideRound_27 (k5 : Int32 → Int32 → Int32 → Int32 → S → Option (Int32 × S)) (v1 : Int32) (v2 : Int32) (v3 : Int32) (v4 : Int32) (s : S) : Option (Int32 × S) :=
  (k_completeItem v4 v1 v2 s).bind fun r32 =>
  k5 v1 v2 (if r32.1 = 0 then v3 else (1 : Int32)) (v4 + (1 : Int32)) r32.2
def k_insideRound_5  : Nat → Int32 → Int32 → Int32 → Int32 → S → Option (Int32 × S)
  | 0, _, _, _, _, _ => none
  | n + 1, v1, v2, v3, v4, s =>
    if v4 < (gI s 3) then
      (k_advanceItems v4 v1 v2 s).bind fun r19 =>
      k_insideRound_27 (fun v1 v2 v3 v4 s => k_insideRound_5 n v1 v2 v3 v4 s) v1 v2 (if r19.1 = 0 then v3 else (1 : Int32)) v4 r19.2
    else
      some (nar .boolean v3, s)
def k_insideRound  (v1 : Int32) (v2 : Int32) (s : S) : Option (Int32 × S) :=
  k_insideRound_5 BIG v1 v2 (0 : Int32) (0 : Int32) s
def k_closeInsideCell_5  : Nat → Int32 → Int32 → Int32 → Int32 → S → Option S
  | 0, _, _, _, _, _ => none
  | n + 1, v1, v2, v3, v4, s =>
    if v3 = 0 then
      some s
    else
      if v4 < (24 : Int32) then
        (k_insideRound v1 v2 s).bind fun r19 =>
        k_closeInsideCell_5 n v1 v2 r19.1 (v4 + (1 : Int32)) r19.2
      else
        some s
def k_closeInsideCell  (v1 : Int32) (v2 : Int32) (s : S) : Option S :=
  k_closeInsideCell_5 BIG v1 v2 (1 : Int32) (0 : Int32) s
def k_runInside_20 (k10 : Int32 → S → Option S) : Nat → Int32 → Int32 → S → Option S
  | 0, _, _, _ => none
  | n + 1, v1, v2, s =>
    if v2 < 0 then
      k10 (v1 + (1 : Int32)) s
    else
      (k_closeInsideCell v2 v1 s).bind fun r27 =>
      k_runInside_20 k10 n v1 (v2 + (-1 : Int32)) r27
def k_runInside_10  : Nat → Int32 → S → Option S
  | 0, _, _ => none
  | n + 1, v1, s =>
    if v1 < (gI s 1) then
      k_runInside_20 (fun v1 s => k_runInside_10 n v1 s) BIG v1 v1 s
    else
      some s
def k_runInside   (s : S) : Option S :=
  (k_scanEdges s).bind fun r1 =>
  (k_seedItems r1).bind fun r5 =>
  k_runInside_10 BIG (0 : Int32) r5
def k_lowerRest  (v1 : Int32) (v2 : Int32) (v3 : Int32) (v4 : Int32) (v5 : Int32) (s : S) : Option (Int32 × S) :=
  if (k_itemSlot v1 v2 v3 v4 s) < 0 then
    some ((0 : Int32), s)
  else
    (ix (gA s 10) (k_itemSlot v1 v2 v3 v4 s)).bind fun a24 =>
    if v5 < a24 then
      (Jvm.AM.st (gA s 10) (k_itemSlot v1 v2 v3 v4 s) v5).bind fun a38 =>
      some ((1 : Int32), sA s 10 a38)
    else
      some ((0 : Int32), s)
def k_seedRest_9  : Nat → Int32 → Int32 → Int32 → S → Option S
  | 0, _, _, _, _ => none
  | n + 1, v1, v2, v3, s =>
    if v3 < (gI s 1) then
      (k_lowerRest v1 v2 v3 v3 (0 : Int32) s).bind fun r23 =>
      k_seedRest_9 n v1 v2 (v3 + (1 : Int32)) r23.2
    else
      some s
def k_seedRest  (v1 : Int32) (s : S) : Option S :=
  (ix (gA s 6) v1).bind fun a5 =>
  k_seedRest_9 BIG v1 a5 (0 : Int32) s
def k_getRest  (v1 : Int32) (v2 : Int32) (v3 : Int32) (v4 : Int32) (s : S) : Option Int32 :=
  if (k_itemSlot v1 v2 v3 v4 s) < 0 then
    some (gI s 0)
  else
    (ix (gA s 10) (k_itemSlot v1 v2 v3 v4 s)).bind fun a27 =>
    some a27
def k_restAt_17  : Nat → Int32 → Int32 → Int32 → Int32 → Int32 → Int32 → Int32 → S → Option Int32
  | 0, _, _, _, _, _, _, _, _ => none
  | n + 1, v1, v2, v3, v4, v5, v6, v7, s =>
    if v4 < v7 then
      some v6
    else
      (k_getSpan v5 v3 v7 s).bind fun r30 =>
      (k_getRest v1 (v2 + (1 : Int32)) v7 v4 s).bind fun r44 =>
      k_restAt_17 n v1 v2 v3 v4 v5 (if (k_plus r30 r44 s) < v6 then (k_plus r30 r44 s) else v6) (v7 + (1 : Int32)) s
def k_restAt  (v1 : Int32) (v2 : Int32) (v3 : Int32) (v4 : Int32) (s : S) : Option Int32 :=
  (k_symbolAt v1 v2 s).bind fun r3 =>
  k_restAt_17 BIG v1 v2 v3 v4 r3 (gI s 0) v3 s
def k_fillRestLevel_13 (k2 : Int32 → Int32 → Int32 → S → Option S) : Nat → Int32 → Int32 → Int32 → Int32 → S → Option S
  | 0, _, _, _, _, _ => none
  | n + 1, v1, v2, v3, v4, s =>
    if v4 < (gI s 1) then
      (k_restAt v1 v2 v3 v4 s).bind fun r28 =>
      (k_lowerRest v1 v2 v3 v4 r28 s).bind fun r41 =>
      k_fillRestLevel_13 k2 n v1 v2 v3 (v4 + (1 : Int32)) r41.2
    else
      k2 v1 v2 (v3 + (1 : Int32)) s
def k_fillRestLevel_2  : Nat → Int32 → Int32 → Int32 → S → Option S
  | 0, _, _, _, _ => none
  | n + 1, v1, v2, v3, s =>
    if v3 < (gI s 1) then
      k_fillRestLevel_13 (fun v1 v2 v3 s => k_fillRestLevel_2 n v1 v2 v3 s) BIG v1 v2 v3 v3 s
    else
      some s
def k_fillRestLevel  (v1 : Int32) (v2 : Int32) (s : S) : Option S :=
  k_fillRestLevel_2 BIG v1 v2 (0 : Int32) s
def k_runRest_26 (k2 : Int32 → S → Option S) : Nat → Int32 → Int32 → S → Option S
  | 0, _, _, _ => none
  | n + 1, v1, v3, s =>
    if v3 < 0 then
      k2 (v1 + (1 : Int32)) s
    else
      (k_fillRestLevel v1 v3 s).bind fun r33 =>
      k_runRest_26 k2 n v1 (v3 + (-1 : Int32)) r33
def k_runRest_2  : Nat → Int32 → S → Option S
  | 0, _, _ => none
  | n + 1, v1, s =>
    if v1 < (gI s 3) then
      (k_seedRest v1 s).bind fun r12 =>
      (ix (gA r12 6) v1).bind fun a20 =>
      k_runRest_26 (fun v1 s => k_runRest_2 n v1 s) BIG v1 (a20 - (1 : Int32)) r12
    else
      some s
def k_runRest   (s : S) : Option S :=
  k_runRest_2 BIG (0 : Int32) s
def k_lowerOuter  (v1 : Int32) (v2 : Int32) (v3 : Int32) (v4 : Int32) (s : S) : Option (Int32 × S) :=
  if (k_spanSlot v1 v2 v3 s) < 0 then
    some ((0 : Int32), s)
  else
    (ix (gA s 11) (k_spanSlot v1 v2 v3 s)).bind fun a22 =>
    if v4 < a22 then
      (Jvm.AM.st (gA s 11) (k_spanSlot v1 v2 v3 s) v4).bind fun a36 =>
      some ((1 : Int32), sA s 11 a36)
    else
      some ((0 : Int32), s)
def k_getOuter  (v1 : Int32) (v2 : Int32) (v3 : Int32) (s : S) : Option Int32 :=
  if (k_spanSlot v1 v2 v3 s) < 0 then
    some (gI s 0)
  else
    (ix (gA s 11) (k_spanSlot v1 v2 v3 s)).bind fun a25 =>
    some a25
def k_plus3  (v1 : Int32) (v2 : Int32) (v3 : Int32) (s : S) : Int32 :=
  (k_plus (k_plus v1 v2 s) v3 s)
def k_bestContext_34 (k24 : Int32 → Int32 → Int32 → Int32 → Int32 → Int32 → Int32 → Int32 → S → Option Int32) : Nat → Int32 → Int32 → Int32 → Int32 → Int32 → Int32 → Int32 → Int32 → Int32 → S → Option Int32
  | 0, _, _, _, _, _, _, _, _, _, _ => none
  | n + 1, v1, v2, v3, v4, v5, v6, v7, v8, v9, s =>
    if v6 < v9 then
      k24 v1 v2 v3 v4 v5 v6 v7 (v8 + (1 : Int32)) s
    else
      (k_getOuter v5 v8 v9 s).bind fun r48 =>
      (k_getItem v1 v2 v8 v3 s).bind fun r59 =>
      (k_getRest v1 (v2 + (1 : Int32)) v4 v9 s).bind fun r73 =>
      k_bestContext_34 k24 n v1 v2 v3 v4 v5 v6 (if (k_plus3 r48 r59 r73 s) < v7 then (k_plus3 r48 r59 r73 s) else v7) v8 (v9 + (1 : Int32)) s
def k_bestContext_24  : Nat → Int32 → Int32 → Int32 → Int32 → Int32 → Int32 → Int32 → Int32 → S → Option Int32
  | 0, _, _, _, _, _, _, _, _, _ => none
  | n + 1, v1, v2, v3, v4, v5, v6, v7, v8, s =>
    if v3 < v8 then
      some v7
    else
      k_bestContext_34 (fun v1 v2 v3 v4 v5 v6 v7 v8 s => k_bestContext_24 n v1 v2 v3 v4 v5 v6 v7 v8 s) BIG v1 v2 v3 v4 v5 v6 v7 v8 v4 s
def k_bestContext  (v1 : Int32) (v2 : Int32) (v3 : Int32) (v4 : Int32) (s : S) : Option Int32 :=
  (k_headCode v1 s).bind fun r2 =>
  k_bestContext_24 BIG v1 v2 v3 v4 r2 ((gI s 1) - (1 : Int32)) (gI s 0) (0 : Int32) s
def k_outerRule_14  : Nat → Int32 → Int32 → Int32 → Int32 → Int32 → Int32 → S → Option (Int32 × S)
  | 0, _, _, _, _, _, _, _ => none
  | n + 1, v1, v2, v3, v4, v5, v6, s =>
    if v6 < v5 then
      (k_bestContext v1 v6 v2 v3 s).bind fun r27 =>
      (k_symbolAt v1 v6 s).bind fun r36 =>
      (k_lowerOuter r36 v2 v3 r27 s).bind fun r48 =>
      k_outerRule_14 n v1 v2 v3 (if r48.1 = 0 then v4 else (1 : Int32)) v5 (v6 + (1 : Int32)) r48.2
    else
      some (nar .boolean v4, s)
def k_outerRule  (v1 : Int32) (v2 : Int32) (v3 : Int32) (s : S) : Option (Int32 × S) :=
  (ix (gA s 6) v1).bind fun a8 =>
  k_outerRule_14 BIG v1 v2 v3 (0 : Int32) a8 (0 : Int32) s
def k_outerRound_5  : Nat → Int32 → Int32 → Int32 → Int32 → S → Option (Int32 × S)
  | 0, _, _, _, _, _ => none
  | n + 1, v1, v2, v3, v4, s =>
    if v4 < (gI s 3) then
      (k_outerRule v4 v1 v2 s).bind fun r19 =>
      k_outerRound_5 n v1 v2 (if r19.1 = 0 then v3 else (1 : Int32)) (v4 + (1 : Int32)) r19.2
    else
      some (nar .boolean v3, s)
def k_outerRound  (v1 : Int32) (v2 : Int32) (s : S) : Option (Int32 × S) :=
  k_outerRound_5 BIG v1 v2 (0 : Int32) (0 : Int32) s
def k_closeOuterCell_5  : Nat → Int32 → Int32 → Int32 → Int32 → S → Option S
  | 0, _, _, _, _, _ => none
  | n + 1, v1, v2, v3, v4, s =>
    if v3 = 0 then
      some s
    else
      if v4 < (24 : Int32) then
        (k_outerRound v1 v2 s).bind fun r19 =>
        k_closeOuterCell_5 n v1 v2 r19.1 (v4 + (1 : Int32)) r19.2
      else
        some s
def k_closeOuterCell  (v1 : Int32) (v2 : Int32) (s : S) : Option S :=
  k_closeOuterCell_5 BIG v1 v2 (1 : Int32) (0 : Int32) s
def k_runOuter_25 (k19 : Int32 → Int32 → S → Option S) : Nat → Int32 → Int32 → Int32 → S → Option S
  | 0, _, _, _, _ => none
  | n + 1, v1, v2, v3, s =>
    if v1 < (v3 + v2) then
      k19 v1 (v2 + (-1 : Int32)) s
    else
      (k_closeOuterCell v3 (v3 + v2) s).bind fun r37 =>
      k_runOuter_25 k19 n v1 v2 (v3 + (1 : Int32)) r37
def k_runOuter_19  : Nat → Int32 → Int32 → S → Option S
  | 0, _, _, _ => none
  | n + 1, v1, v2, s =>
    if v2 < 0 then
      some s
    else
      k_runOuter_25 (fun v1 v2 s => k_runOuter_19 n v1 v2 s) BIG v1 v2 (0 : Int32) s
def k_runOuter   (s : S) : Option S :=
  (k_lowerOuter (8 : Int32) (0 : Int32) ((gI s 1) - (1 : Int32)) (0 : Int32) s).bind fun r13 =>
  k_runOuter_19 BIG ((gI s 1) - (1 : Int32)) ((gI s 1) - (1 : Int32)) r13.2
def k_parse_63   (s : S) : Option (Int32 × S) :=
  if (gI s 4) = (1 : Int32) then
    some ((1 : Int32), s)
  else
    some ((0 : Int32), s)
def k_parse   (s : S) : Option (Int32 × S) :=
  (k_clearTables s).bind fun r1 =>
  (k_runInside r1).bind fun r5 =>
  (k_getSpan (8 : Int32) (0 : Int32) ((gI r5 1) - (1 : Int32)) r5).bind fun r20 =>
  if r20 < (gI r5 0) then
    (k_runRest (sI (sI r5 4 (1 : Int32)) 5 r20)).bind fun r43 =>
    (k_runOuter r43).bind fun r47 =>
    k_parse_63 r47
  else
    k_parse_63 (sI (sI r5 4 (2 : Int32)) 5 (-1 : Int32))
def k_status   (s : S) : Int32 :=
  gI s 4
def k_bestWeight   (s : S) : Int32 :=
  if (gI s 4) = (1 : Int32) then
    gI s 5
  else
    (-1 : Int32)
def k_answer  (v1 : Int32) (s : S) : Int32 :=
  if v1 < (gI s 0) then
    if v1 < 0 then
      (-1 : Int32)
    else
      v1
  else
    (-1 : Int32)
def k_spanWeight  (v1 : Int32) (v2 : Int32) (v3 : Int32) (s : S) : Option Int32 :=
  if (gI s 4) = 0 then
    some (-1 : Int32)
  else
    if (k_isCode v1) = 0 then
      some (-1 : Int32)
    else
      if (k_isNode v2 s) = 0 then
        some (-1 : Int32)
      else
        if (k_isNode v3 s) = 0 then
          some (-1 : Int32)
        else
          if v3 < v2 then
            some (-1 : Int32)
          else
            (k_getSpan v1 v2 v3 s).bind fun r46 =>
            some (k_answer r46 s)
def k_edgeBest  (v1 : Int32) (s : S) : Option Int32 :=
  if (gI s 4) = (1 : Int32) then
    if v1 < 0 then
      some (-1 : Int32)
    else
      if v1 < (gI s 2) then
        (ix (gA s 2) v1).bind fun a30 =>
        (ix (gA s 0) v1).bind fun a36 =>
        (ix (gA s 1) v1).bind fun a42 =>
        (k_getOuter a30 a36 a42 s).bind fun r43 =>
        (ix (gA s 3) v1).bind fun a54 =>
        some (k_answer (k_plus r43 a54 s) s)
      else
        some (-1 : Int32)
  else
    some (-1 : Int32)
def k_ruleContext_35 (k22 : Int32 → Int32 → Int32 → Int32 → Int32 → S → Option Int32) : Nat → Int32 → Int32 → Int32 → Int32 → Int32 → Int32 → S → Option Int32
  | 0, _, _, _, _, _, _, _ => none
  | n + 1, v1, v2, v3, v4, v5, v6, s =>
    if v6 < (gI s 1) then
      (k_getOuter v2 v5 v6 s).bind fun r50 =>
      (k_getItem v1 v3 v5 v6 s).bind fun r62 =>
      k_ruleContext_35 k22 n v1 v2 v3 (if (k_plus r50 r62 s) < v4 then (k_plus r50 r62 s) else v4) v5 (v6 + (1 : Int32)) s
    else
      k22 v1 v2 v3 v4 (v5 + (1 : Int32)) s
def k_ruleContext_22  : Nat → Int32 → Int32 → Int32 → Int32 → Int32 → S → Option Int32
  | 0, _, _, _, _, _, _ => none
  | n + 1, v1, v2, v3, v4, v5, s =>
    if v5 < (gI s 1) then
      k_ruleContext_35 (fun v1 v2 v3 v4 v5 s => k_ruleContext_22 n v1 v2 v3 v4 v5 s) BIG v1 v2 v3 v4 v5 v5 s
    else
      some v4
def k_ruleContext  (v1 : Int32) (s : S) : Option Int32 :=
  (k_headCode v1 s).bind fun r2 =>
  (ix (gA s 6) v1).bind fun a11 =>
  k_ruleContext_22 BIG v1 r2 a11 (gI s 0) (0 : Int32) s
def k_ruleBest  (v1 : Int32) (s : S) : Option Int32 :=
  if (gI s 4) = (1 : Int32) then
    if (k_isRule v1 s) = 0 then
      some (-1 : Int32)
    else
      (k_ruleContext v1 s).bind fun r22 =>
      some (k_answer r22 s)
  else
    some (-1 : Int32)
def law_463  (v6 : Int32) (v8 : Int32) (v12 : Int32) (v14 : Int32) (p0 : Int32) (p1 : Int32) (t0 : S) : Option (Int32 × S) :=
  if p1 = p0 then
    (k_spanWeight v6 (0 : Int32) (1 : Int32) t0).bind fun r474 =>
    if r474 = v12 then
      (k_spanWeight v8 (0 : Int32) (2 : Int32) t0).bind fun r490 =>
      if r490 = v14 then
        some ((1 : Int32), t0)
      else
        some ((0 : Int32), t0)
    else
      some ((0 : Int32), t0)
  else
    some ((0 : Int32), t0)
def law_433  (v6 : Int32) (v7 : Int32) (v8 : Int32) (v11 : Int32) (v12 : Int32) (v13 : Int32) (v14 : Int32) (v16 : Int32) (p0 : Int32) (p1 : Int32) (t0 : S) : Option (Int32 × S) :=
  if p1 = p0 then
    (k_spanWeight (8 : Int32) (1 : Int32) (2 : Int32) t0).bind fun r444 =>
    law_463 v6 v8 v12 v14 (if v7 = v11 then v13 + v16 else (-1 : Int32)) r444 t0
  else
    some ((0 : Int32), t0)
def law_301  (v6 : Int32) (v7 : Int32) (v8 : Int32) (v11 : Int32) (v12 : Int32) (v13 : Int32) (v14 : Int32) (v16 : Int32) (v18 : Int32) (v19 : Int32) (v20 : Int32) (p0 : Int32) (t0 : S) : Option (Int32 × S) :=
  if (k_status t0) = p0 then
    if (k_bestWeight t0) = v20 then
      (k_spanWeight (8 : Int32) (0 : Int32) (2 : Int32) t0).bind fun r333 =>
      if r333 = v20 then
        (k_edgeBest (0 : Int32) t0).bind fun r346 =>
        if r346 = v18 then
          (k_edgeBest (1 : Int32) t0).bind fun r359 =>
          if r359 = v18 then
            (k_edgeBest (2 : Int32) t0).bind fun r372 =>
            if r372 = v19 then
              (k_ruleBest (0 : Int32) t0).bind fun r385 =>
              if r385 = v18 then
                (k_ruleBest (1 : Int32) t0).bind fun r398 =>
                if r398 = v19 then
                  (k_spanWeight (8 : Int32) (0 : Int32) (1 : Int32) t0).bind fun r414 =>
                  law_433 v6 v7 v8 v11 v12 v13 v14 v16 (if v6 = v11 then v12 + v16 else (-1 : Int32)) r414 t0
                else
                  some ((0 : Int32), t0)
              else
                some ((0 : Int32), t0)
            else
              some ((0 : Int32), t0)
          else
            some ((0 : Int32), t0)
        else
          some ((0 : Int32), t0)
      else
        some ((0 : Int32), t0)
    else
      some ((0 : Int32), t0)
  else
    some ((0 : Int32), t0)
def law_277  (v6 : Int32) (v7 : Int32) (v8 : Int32) (v11 : Int32) (v12 : Int32) (v13 : Int32) (v14 : Int32) (v16 : Int32) (v18 : Int32) (v19 : Int32) (v20 : Int32) (p0 : Int32) (t0 : S) : Option (Int32 × S) :=
  (k_parse t0).bind fun r281 =>
  if r281.1 = p0 then
    law_301 v6 v7 v8 v11 v12 v13 v14 v16 v18 v19 v20 (if p0 = 0 then (2 : Int32) else (1 : Int32)) r281.2
  else
    some ((0 : Int32), r281.2)
def law_267  (v6 : Int32) (v7 : Int32) (v8 : Int32) (v11 : Int32) (v12 : Int32) (v13 : Int32) (v14 : Int32) (v16 : Int32) (v18 : Int32) (v19 : Int32) (v20 : Int32) (t0 : S) : Option (Int32 × S) :=
  law_277 v6 v7 v8 v11 v12 v13 v14 v16 v18 v19 v20 (if v20 < 0 then (0 : Int32) else (1 : Int32)) t0
def law_225  (v6 : Int32) (v7 : Int32) (v8 : Int32) (v11 : Int32) (v12 : Int32) (v13 : Int32) (v14 : Int32) (v16 : Int32) (v18 : Int32) (p0 : Int32) (t0 : S) : Option (Int32 × S) :=
  law_267 v6 v7 v8 v11 v12 v13 v14 v16 v18 p0 (if v18 < 0 then p0 else if p0 < 0 then v18 else if v18 < p0 then v18 else p0) t0
def law_207  (v6 : Int32) (v7 : Int32) (v8 : Int32) (v11 : Int32) (v12 : Int32) (v13 : Int32) (v14 : Int32) (v16 : Int32) (p0 : Int32) (t0 : S) : Option (Int32 × S) :=
  law_225 v6 v7 v8 v11 v12 v13 v14 v16 p0 (if v8 = v11 then v14 + v16 else (-1 : Int32)) t0
def law  (v0 : Int32) (v1 : Int32) (v2 : Int32) (v3 : Int32) (v4 : Int32) (v5 : Int32)  : Option (Int32 × S) :=
  (k_init (3 : Int32)).bind fun r87 =>
  (k_addEdge (0 : Int32) (1 : Int32) (v0 &&& (7 : Int32)) (v2 &&& (63 : Int32)) r87).bind fun r100 =>
  if r100.1 = 0 then
    (k_addEdge (1 : Int32) (2 : Int32) ((v0 >>> ((3 : Int32) &&& 31)) &&& (7 : Int32)) (v3 &&& (63 : Int32)) r100.2).bind fun r116 =>
    if r116.1 = (1 : Int32) then
      (k_addEdge (0 : Int32) (2 : Int32) ((v0 >>> ((6 : Int32) &&& 31)) &&& (7 : Int32)) (v4 &&& (63 : Int32)) r116.2).bind fun r133 =>
      if r133.1 = (2 : Int32) then
        (k_addRule (0 : Int32) (v5 &&& (63 : Int32)) (2 : Int32) ((v1 &&& (7 : Int32)) + ((16 : Int32) * ((v1 >>> ((3 : Int32) &&& 31)) &&& (7 : Int32)))) r133.2).bind fun r156 =>
        if r156.1 = 0 then
          (k_addRule (0 : Int32) ((v5 >>> ((6 : Int32) &&& 31)) &&& (63 : Int32)) (1 : Int32) ((v1 >>> ((6 : Int32) &&& 31)) &&& (7 : Int32)) r156.2).bind fun r172 =>
          if r172.1 = (1 : Int32) then
            law_207 (v0 &&& (7 : Int32)) ((v0 >>> ((3 : Int32) &&& 31)) &&& (7 : Int32)) ((v0 >>> ((6 : Int32) &&& 31)) &&& (7 : Int32)) ((v1 >>> ((6 : Int32) &&& 31)) &&& (7 : Int32)) (v2 &&& (63 : Int32)) (v3 &&& (63 : Int32)) (v4 &&& (63 : Int32)) ((v5 >>> ((6 : Int32) &&& 31)) &&& (63 : Int32)) (if (v0 &&& (7 : Int32)) = (v1 &&& (7 : Int32)) then if ((v0 >>> ((3 : Int32) &&& 31)) &&& (7 : Int32)) = ((v1 >>> ((3 : Int32) &&& 31)) &&& (7 : Int32)) then ((v2 &&& (63 : Int32)) + (v3 &&& (63 : Int32))) + (v5 &&& (63 : Int32)) else (-1 : Int32) else (-1 : Int32)) r172.2
          else
            some ((0 : Int32), r172.2)
        else
          some ((0 : Int32), r156.2)
      else
        some ((0 : Int32), r133.2)
    else
      some ((0 : Int32), r116.2)
  else
    some ((0 : Int32), r100.2)
set_option maxRecDepth 65536 in
set_option maxHeartbeats 4000000 in
theorem k_clampNodes_ok  {s : S} : ∀ (v1 : Int32)   (o : Int32), k_clampNodes v1 = o → Go PP m0 0 [.val (.ref 1), .val (.int v1)] [] (none, [(12, s)]) (some (.int o), (none, [(12, s)])) := by
  intro v1 o hf
  unfold k_clampNodes at hf
  refine go_iloadN (pc := 0) d0_0 rfl (go_iconst (pc := 1) d0_1 ci_2 ?_)
  by_cases h1 : v1 < (2 : Int32)
  · replace hf := (if_pos h1).symm.trans hf
    refine go_icN (pc := 2) d0_2 (XT.ii_ge_f h1) ?_
    refine go_iconst (pc := 5) d0_5 ci_2 ?_
    cases hf
    exact go_iret (pc := 6) rfl d0_6
  · replace hf := (if_neg h1).symm.trans hf
    refine go_icY (pc := 2) (pc' := 7) d0_2 (XT.ii_ge_t h1) j_2_5 ?_
    refine go_iloadN (pc := 7) d0_7 rfl (go_bipush (pc := 8) d0_8 cb_8 ?_)
    by_cases h2 : (8 : Int32) < v1
    · replace hf := (if_pos h2).symm.trans hf
      refine go_icN (pc := 10) d0_10 (XT.ii_le_f h2) ?_
      refine go_bipush (pc := 13) d0_13 cb_8 ?_
      cases hf
      exact go_iret (pc := 15) rfl d0_15
    · replace hf := (if_neg h2).symm.trans hf
      refine go_icY (pc := 10) (pc' := 16) d0_10 (XT.ii_le_t h2) j_10_6 ?_
      refine go_iloadN (pc := 16) d0_16 rfl ?_
      cases hf
      exact go_iret (pc := 17) rfl d0_17
theorem c_k_clampNodes (v1 : Int32) (s : S) : Call PP m0 [.ref 1, .int v1] (none, [(12, s)]) (some (.int (k_clampNodes v1)), (none, [(12, s)])) := call_of_go pl_0 rfl (fun h => nomatch h) (k_clampNodes_ok v1   _ rfl)
set_option maxRecDepth 65536 in
set_option maxHeartbeats 4000000 in
theorem k_becomeBuilding_ok  : ∀  (s : S)  (o : S), k_becomeBuilding s = o → Go PP m1 0 [.val (.ref 1)] [] (none, [(12, s)]) (none, (none, [(12, o)])) := by
  intro s o hf
  unfold k_becomeBuilding at hf
  refine go_aloadN (pc := 0) d1_0 rfl (go_iconst (pc := 1) d1_1 ci_0 (go_putI (pc := 2) fs_95 hm_1 (wr_4 _) hn_1 d1_2 (go_aloadN (pc := 5) d1_5 rfl (go_iconst (pc := 6) d1_6 ci_m1 (go_putI (pc := 7) fs_98 hm_1 (wr_5 _) hn_1 d1_7 ?_)))))
  cases hf
  exact go_ret (pc := 10) rfl d1_10
theorem c_k_becomeBuilding (s : S) : Call PP m1 [.ref 1] (none, [(12, s)]) (none, (none, [(12, (k_becomeBuilding s))])) := call_of_go pl_0 rfl (fun _ => rfl) (k_becomeBuilding_ok s   _ rfl)
set_option maxRecDepth 65536 in
set_option maxHeartbeats 4000000 in
theorem k_clearStore_93_ok  : ∀ (n : Nat) (v1 : Int32) (s : S)  (o : S), k_clearStore_93 n v1 s = some o → Go PP m2 93 [.val (.ref 1), .val (.int v1)] [] (none, [(12, s)]) (none, (none, [(12, o)])) := by
  intro n
  induction n with
  | zero => intro v1 s o hf; exact nomatch hf
  | succ n ih =>
    intro v1 s o hf
    unfold k_clearStore_93 at hf
    refine go_iloadN (pc := 93) d2_93 rfl (go_bipush (pc := 94) d2_94 cb_36 ?_)
    by_cases h1 : v1 < (36 : Int32)
    · replace hf := (if_pos h1).symm.trans hf
      refine go_icN (pc := 96) d2_96 (XT.ii_ge_f h1) ?_
      refine go_aloadN (pc := 99) d2_99 rfl (go_getA (pc := 100) fa_36 hm_2 d2_100 rfl (go_iloadN (pc := 103) d2_103 rfl (go_iconst (pc := 104) d2_104 ci_0 ?_)))
      obtain ⟨a105, e2, hf⟩ := Option.bind_eq_some_iff.mp hf
      refine go_iastore (pc := 105) (q := 7) ar_7 rfl hn_2 e2 d2_105 ?_
      refine go_iinc (pc := 106) (L' := [.val (.ref 1), .val (.int (v1 + (1 : Int32)))]) d2_106 rfl ci_1 rfl (go_goto (pc := 109) (pc' := 93) d2_109 j_109_m16 ?_)
      exact ih (v1 + (1 : Int32)) (sA s 7 a105) _ hf
    · replace hf := (if_neg h1).symm.trans hf
      refine go_icY (pc := 96) (pc' := 112) d2_96 (XT.ii_ge_t h1) j_96_16 ?_
      cases hf
      exact go_ret (pc := 112) rfl d2_112
set_option maxRecDepth 65536 in
set_option maxHeartbeats 4000000 in
theorem k_clearStore_91_ok  : ∀  (s : S) (x1 : Slot) (hx1 : k1 x1) (o : S), k_clearStore_91 s = some o → Go PP m2 91 [.val (.ref 1), x1] [] (none, [(12, s)]) (none, (none, [(12, o)])) := by
  intro s x1 hx1 o hf
  unfold k_clearStore_91 at hf
  refine go_iconst (pc := 91) d2_91 ci_0 (go_istoreN (pc := 92) (L' := [.val (.ref 1), .val (.int (0 : Int32))]) d2_92 (stx rfl hx1 rfl) ?_)
  exact k_clearStore_93_ok BIG (0 : Int32) s _ hf
set_option maxRecDepth 65536 in
set_option maxHeartbeats 4000000 in
theorem k_clearStore_58_ok  : ∀ (n : Nat) (v1 : Int32) (s : S)  (o : S), k_clearStore_58 n v1 s = some o → Go PP m2 58 [.val (.ref 1), .val (.int v1)] [] (none, [(12, s)]) (none, (none, [(12, o)])) := by
  intro n
  induction n with
  | zero => intro v1 s o hf; exact nomatch hf
  | succ n ih =>
    intro v1 s o hf
    unfold k_clearStore_58 at hf
    refine go_iloadN (pc := 58) d2_58 rfl (go_bipush (pc := 59) d2_59 cb_12 ?_)
    by_cases h1 : v1 < (12 : Int32)
    · replace hf := (if_pos h1).symm.trans hf
      refine go_icN (pc := 61) d2_61 (XT.ii_ge_f h1) ?_
      refine go_aloadN (pc := 64) d2_64 rfl (go_getA (pc := 65) fa_27 hm_2 d2_65 rfl (go_iloadN (pc := 68) d2_68 rfl (go_iconst (pc := 69) d2_69 ci_0 ?_)))
      obtain ⟨a70, e2, hf⟩ := Option.bind_eq_some_iff.mp hf
      refine go_iastore (pc := 70) (q := 4) ar_4 rfl hn_2 e2 d2_70 ?_
      refine go_aloadN (pc := 71) d2_71 rfl (go_getA (pc := 72) fa_30 hm_2 d2_72 rfl (go_iloadN (pc := 75) d2_75 rfl (go_iconst (pc := 76) d2_76 ci_0 ?_)))
      obtain ⟨a77, e3, hf⟩ := Option.bind_eq_some_iff.mp hf
      refine go_iastore (pc := 77) (q := 5) ar_5 rfl hn_2 e3 d2_77 ?_
      refine go_aloadN (pc := 78) d2_78 rfl (go_getA (pc := 79) fa_33 hm_2 d2_79 rfl (go_iloadN (pc := 82) d2_82 rfl (go_iconst (pc := 83) d2_83 ci_0 ?_)))
      obtain ⟨a84, e4, hf⟩ := Option.bind_eq_some_iff.mp hf
      refine go_iastore (pc := 84) (q := 6) ar_6 rfl hn_2 e4 d2_84 ?_
      refine go_iinc (pc := 85) (L' := [.val (.ref 1), .val (.int (v1 + (1 : Int32)))]) d2_85 rfl ci_1 rfl (go_goto (pc := 88) (pc' := 58) d2_88 j_88_m30 ?_)
      exact ih (v1 + (1 : Int32)) (sA (sA (sA s 4 a70) 5 a77) 6 a84) _ hf
    · replace hf := (if_neg h1).symm.trans hf
      refine go_icY (pc := 61) (pc' := 91) d2_61 (XT.ii_ge_t h1) j_61_30 ?_
      exact k_clearStore_91_ok s (.val (.int v1)) (Or.inr ⟨_, rfl, rfl⟩) _ hf
set_option maxRecDepth 65536 in
set_option maxHeartbeats 4000000 in
theorem k_clearStore_56_ok  : ∀  (s : S) (x1 : Slot) (hx1 : k1 x1) (o : S), k_clearStore_56 s = some o → Go PP m2 56 [.val (.ref 1), x1] [] (none, [(12, s)]) (none, (none, [(12, o)])) := by
  intro s x1 hx1 o hf
  unfold k_clearStore_56 at hf
  refine go_iconst (pc := 56) d2_56 ci_0 (go_istoreN (pc := 57) (L' := [.val (.ref 1), .val (.int (0 : Int32))]) d2_57 (stx rfl hx1 rfl) ?_)
  exact k_clearStore_58_ok BIG (0 : Int32) s _ hf
set_option maxRecDepth 65536 in
set_option maxHeartbeats 4000000 in
theorem k_clearStore_16_ok  : ∀ (n : Nat) (v1 : Int32) (s : S)  (o : S), k_clearStore_16 n v1 s = some o → Go PP m2 16 [.val (.ref 1), .val (.int v1)] [] (none, [(12, s)]) (none, (none, [(12, o)])) := by
  intro n
  induction n with
  | zero => intro v1 s o hf; exact nomatch hf
  | succ n ih =>
    intro v1 s o hf
    unfold k_clearStore_16 at hf
    refine go_iloadN (pc := 16) d2_16 rfl (go_bipush (pc := 17) d2_17 cb_16 ?_)
    by_cases h1 : v1 < (16 : Int32)
    · replace hf := (if_pos h1).symm.trans hf
      refine go_icN (pc := 19) d2_19 (XT.ii_ge_f h1) ?_
      refine go_aloadN (pc := 22) d2_22 rfl (go_getA (pc := 23) fa_14 hm_2 d2_23 rfl (go_iloadN (pc := 26) d2_26 rfl (go_iconst (pc := 27) d2_27 ci_0 ?_)))
      obtain ⟨a28, e2, hf⟩ := Option.bind_eq_some_iff.mp hf
      refine go_iastore (pc := 28) (q := 0) ar_0 rfl hn_2 e2 d2_28 ?_
      refine go_aloadN (pc := 29) d2_29 rfl (go_getA (pc := 30) fa_18 hm_2 d2_30 rfl (go_iloadN (pc := 33) d2_33 rfl (go_iconst (pc := 34) d2_34 ci_0 ?_)))
      obtain ⟨a35, e3, hf⟩ := Option.bind_eq_some_iff.mp hf
      refine go_iastore (pc := 35) (q := 1) ar_1 rfl hn_2 e3 d2_35 ?_
      refine go_aloadN (pc := 36) d2_36 rfl (go_getA (pc := 37) fa_21 hm_2 d2_37 rfl (go_iloadN (pc := 40) d2_40 rfl (go_iconst (pc := 41) d2_41 ci_0 ?_)))
      obtain ⟨a42, e4, hf⟩ := Option.bind_eq_some_iff.mp hf
      refine go_iastore (pc := 42) (q := 2) ar_2 rfl hn_2 e4 d2_42 ?_
      refine go_aloadN (pc := 43) d2_43 rfl (go_getA (pc := 44) fa_24 hm_2 d2_44 rfl (go_iloadN (pc := 47) d2_47 rfl (go_iconst (pc := 48) d2_48 ci_0 ?_)))
      obtain ⟨a49, e5, hf⟩ := Option.bind_eq_some_iff.mp hf
      refine go_iastore (pc := 49) (q := 3) ar_3 rfl hn_2 e5 d2_49 ?_
      refine go_iinc (pc := 50) (L' := [.val (.ref 1), .val (.int (v1 + (1 : Int32)))]) d2_50 rfl ci_1 rfl (go_goto (pc := 53) (pc' := 16) d2_53 j_53_m37 ?_)
      exact ih (v1 + (1 : Int32)) (sA (sA (sA (sA s 0 a28) 1 a35) 2 a42) 3 a49) _ hf
    · replace hf := (if_neg h1).symm.trans hf
      refine go_icY (pc := 19) (pc' := 56) d2_19 (XT.ii_ge_t h1) j_19_37 ?_
      exact k_clearStore_56_ok s (.val (.int v1)) (Or.inr ⟨_, rfl, rfl⟩) _ hf
set_option maxRecDepth 65536 in
set_option maxHeartbeats 4000000 in
theorem k_clearStore_ok  : ∀  (s : S)  (o : S), k_clearStore s = some o → Go PP m2 0 [.val (.ref 1), .unset] [] (none, [(12, s)]) (none, (none, [(12, o)])) := by
  intro s o hf
  unfold k_clearStore at hf
  refine go_aloadN (pc := 0) d2_0 rfl (go_iconst (pc := 1) d2_1 ci_0 (go_putI (pc := 2) fs_64 hm_2 (wr_2 _) hn_2 d2_2 (go_aloadN (pc := 5) d2_5 rfl (go_iconst (pc := 6) d2_6 ci_0 (go_putI (pc := 7) fs_67 hm_2 (wr_3 _) hn_2 d2_7 (go_aloadN (pc := 10) d2_10 rfl ?_))))))
  refine go_priv (pc := 11) (i := 0) (as := []) (rest := []) (w' := (none, [(12, (k_becomeBuilding (sI (sI s 2 (0 : Int32)) 3 (0 : Int32))))])) lk_0_74 pd_1 rfl oid_0 rfl rfl rfl rfl rfl rfl ⟨rfl, rfl, rfl, rfl, rfl⟩ d2_11 (c_k_becomeBuilding (sI (sI s 2 (0 : Int32)) 3 (0 : Int32))) ?_
  refine go_iconst (pc := 14) d2_14 ci_0 (go_istoreN (pc := 15) (L' := [.val (.ref 1), .val (.int (0 : Int32))]) d2_15 rfl ?_)
  exact k_clearStore_16_ok BIG (0 : Int32) (k_becomeBuilding (sI (sI s 2 (0 : Int32)) 3 (0 : Int32))) _ hf
theorem c_k_clearStore (s : S) (o : S) (hf : k_clearStore s = some o) : Call PP m2 [.ref 1] (none, [(12, s)]) (none, (none, [(12, o)])) := call_of_go pl_0 rfl (fun _ => rfl) (k_clearStore_ok s   _ hf)
set_option maxRecDepth 65536 in
set_option maxHeartbeats 4000000 in
theorem k_clearTables_37_ok  : ∀ (n : Nat) (v1 : Int32) (s : S)  (o : S), k_clearTables_37 n v1 s = some o → Go PP m3 37 [.val (.ref 1), .val (.int v1)] [] (none, [(12, s)]) (none, (none, [(12, o)])) := by
  intro n
  induction n with
  | zero => intro v1 s o hf; exact nomatch hf
  | succ n ih =>
    intro v1 s o hf
    unfold k_clearTables_37 at hf
    refine go_iloadN (pc := 37) d3_37 rfl (go_sipush (pc := 38) d3_38 cs_3072 ?_)
    by_cases h1 : v1 < (3072 : Int32)
    · replace hf := (if_pos h1).symm.trans hf
      refine go_icN (pc := 41) d3_41 (XT.ii_ge_f h1) ?_
      refine go_aloadN (pc := 44) d3_44 rfl (go_getA (pc := 45) fa_42 hm_3 d3_45 rfl (go_iloadN (pc := 48) d3_48 rfl (go_aloadN (pc := 49) d3_49 rfl (go_getI (pc := 50) fs_8 hm_3 d3_50 ?_))))
      obtain ⟨a53, e2, hf⟩ := Option.bind_eq_some_iff.mp hf
      refine go_iastore (pc := 53) (q := 9) ar_9 rfl hn_3 e2 d3_53 ?_
      refine go_aloadN (pc := 54) d3_54 rfl (go_getA (pc := 55) fa_45 hm_3 d3_55 rfl (go_iloadN (pc := 58) d3_58 rfl (go_aloadN (pc := 59) d3_59 rfl (go_getI (pc := 60) fs_8 hm_3 d3_60 ?_))))
      obtain ⟨a63, e3, hf⟩ := Option.bind_eq_some_iff.mp hf
      refine go_iastore (pc := 63) (q := 10) ar_10 rfl hn_3 e3 d3_63 ?_
      refine go_iinc (pc := 64) (L' := [.val (.ref 1), .val (.int (v1 + (1 : Int32)))]) d3_64 rfl ci_1 rfl (go_goto (pc := 67) (pc' := 37) d3_67 j_67_m30 ?_)
      exact ih (v1 + (1 : Int32)) (sA (sA s 9 a53) 10 a63) _ hf
    · replace hf := (if_neg h1).symm.trans hf
      refine go_icY (pc := 41) (pc' := 70) d3_41 (XT.ii_ge_t h1) j_41_29 ?_
      cases hf
      exact go_ret (pc := 70) rfl d3_70
set_option maxRecDepth 65536 in
set_option maxHeartbeats 4000000 in
theorem k_clearTables_35_ok  : ∀  (s : S) (x1 : Slot) (hx1 : k1 x1) (o : S), k_clearTables_35 s = some o → Go PP m3 35 [.val (.ref 1), x1] [] (none, [(12, s)]) (none, (none, [(12, o)])) := by
  intro s x1 hx1 o hf
  unfold k_clearTables_35 at hf
  refine go_iconst (pc := 35) d3_35 ci_0 (go_istoreN (pc := 36) (L' := [.val (.ref 1), .val (.int (0 : Int32))]) d3_36 (stx rfl hx1 rfl) ?_)
  exact k_clearTables_37_ok BIG (0 : Int32) s _ hf
set_option maxRecDepth 65536 in
set_option maxHeartbeats 4000000 in
theorem k_clearTables_2_ok  : ∀ (n : Nat) (v1 : Int32) (s : S)  (o : S), k_clearTables_2 n v1 s = some o → Go PP m3 2 [.val (.ref 1), .val (.int v1)] [] (none, [(12, s)]) (none, (none, [(12, o)])) := by
  intro n
  induction n with
  | zero => intro v1 s o hf; exact nomatch hf
  | succ n ih =>
    intro v1 s o hf
    unfold k_clearTables_2 at hf
    refine go_iloadN (pc := 2) d3_2 rfl (go_sipush (pc := 3) d3_3 cs_1024 ?_)
    by_cases h1 : v1 < (1024 : Int32)
    · replace hf := (if_pos h1).symm.trans hf
      refine go_icN (pc := 6) d3_6 (XT.ii_ge_f h1) ?_
      refine go_aloadN (pc := 9) d3_9 rfl (go_getA (pc := 10) fa_39 hm_3 d3_10 rfl (go_iloadN (pc := 13) d3_13 rfl (go_aloadN (pc := 14) d3_14 rfl (go_getI (pc := 15) fs_8 hm_3 d3_15 ?_))))
      obtain ⟨a18, e2, hf⟩ := Option.bind_eq_some_iff.mp hf
      refine go_iastore (pc := 18) (q := 8) ar_8 rfl hn_3 e2 d3_18 ?_
      refine go_aloadN (pc := 19) d3_19 rfl (go_getA (pc := 20) fa_48 hm_3 d3_20 rfl (go_iloadN (pc := 23) d3_23 rfl (go_aloadN (pc := 24) d3_24 rfl (go_getI (pc := 25) fs_8 hm_3 d3_25 ?_))))
      obtain ⟨a28, e3, hf⟩ := Option.bind_eq_some_iff.mp hf
      refine go_iastore (pc := 28) (q := 11) ar_11 rfl hn_3 e3 d3_28 ?_
      refine go_iinc (pc := 29) (L' := [.val (.ref 1), .val (.int (v1 + (1 : Int32)))]) d3_29 rfl ci_1 rfl (go_goto (pc := 32) (pc' := 2) d3_32 j_32_m30 ?_)
      exact ih (v1 + (1 : Int32)) (sA (sA s 8 a18) 11 a28) _ hf
    · replace hf := (if_neg h1).symm.trans hf
      refine go_icY (pc := 6) (pc' := 35) d3_6 (XT.ii_ge_t h1) j_6_29 ?_
      exact k_clearTables_35_ok s (.val (.int v1)) (Or.inr ⟨_, rfl, rfl⟩) _ hf
set_option maxRecDepth 65536 in
set_option maxHeartbeats 4000000 in
theorem k_clearTables_ok  : ∀  (s : S)  (o : S), k_clearTables s = some o → Go PP m3 0 [.val (.ref 1), .unset] [] (none, [(12, s)]) (none, (none, [(12, o)])) := by
  intro s o hf
  unfold k_clearTables at hf
  refine go_iconst (pc := 0) d3_0 ci_0 (go_istoreN (pc := 1) (L' := [.val (.ref 1), .val (.int (0 : Int32))]) d3_1 rfl ?_)
  exact k_clearTables_2_ok BIG (0 : Int32) s _ hf
theorem c_k_clearTables (s : S) (o : S) (hf : k_clearTables s = some o) : Call PP m3 [.ref 1] (none, [(12, s)]) (none, (none, [(12, o)])) := call_of_go pl_0 rfl (fun _ => rfl) (k_clearTables_ok s   _ hf)
set_option maxRecDepth 65536 in
set_option maxHeartbeats 4000000 in
theorem k_init_ok  : ∀ (v1 : Int32)   (o : S), k_init v1 = some o → Go PP m4 0 [.val (.ref 1), .val (.int v1)] [] (none, [(0, s0)]) (none, (none, [(12, o)])) := by
  intro v1 o hf
  unfold k_init at hf
  refine go_aloadN (pc := 0) d4_0 rfl ?_
  refine go_objinit (pc := 1) (rest := []) (a := 0) (List.mem_of_getElem? (i := 6) rfl) (List.mem_of_getElem? (i := 7) rfl) (List.mem_of_getElem? (i := 8) rfl) rfl rfl d4_1 ?_
  refine go_aloadN (pc := 4) d4_4 rfl (go_ldc (pc := 5) (v := (1073741824 : Int32)) d4_5 (List.mem_of_getElem? (i := 9) rfl) (go_putI (pc := 7) fs_8 hm_4 (wr_0 _) hn_4 d4_7 (go_aloadN (pc := 10) d4_10 rfl (go_bipush (pc := 11) d4_11 cb_16 ?_))))
  refine go_newI (pc := 13) (ty := .int) rfl (by decide) ar_0 (List.mem_of_getElem? (i := 12) rfl) (List.mem_of_getElem? (i := 13) rfl) hm_4 (Or.inl (List.mem_of_getElem? (i := 14) rfl)) rfl hn_4 (by decide) rfl rfl rfl rfl d4_13 d4_15 ?_
  refine go_aloadN (pc := 18) d4_18 rfl (go_bipush (pc := 19) d4_19 cb_16 ?_)
  refine go_newI (pc := 21) (ty := .int) rfl (by decide) ar_1 (List.mem_of_getElem? (i := 12) rfl) (List.mem_of_getElem? (i := 15) rfl) hm_4 (Or.inl (List.mem_of_getElem? (i := 16) rfl)) rfl hn_4 (by decide) rfl rfl rfl rfl d4_21 d4_23 ?_
  refine go_aloadN (pc := 26) d4_26 rfl (go_bipush (pc := 27) d4_27 cb_16 ?_)
  refine go_newI (pc := 29) (ty := .int) rfl (by decide) ar_2 (List.mem_of_getElem? (i := 12) rfl) (List.mem_of_getElem? (i := 17) rfl) hm_4 (Or.inl (List.mem_of_getElem? (i := 18) rfl)) rfl hn_4 (by decide) rfl rfl rfl rfl d4_29 d4_31 ?_
  refine go_aloadN (pc := 34) d4_34 rfl (go_bipush (pc := 35) d4_35 cb_16 ?_)
  refine go_newI (pc := 37) (ty := .int) rfl (by decide) ar_3 (List.mem_of_getElem? (i := 12) rfl) (List.mem_of_getElem? (i := 19) rfl) hm_4 (Or.inl (List.mem_of_getElem? (i := 20) rfl)) rfl hn_4 (by decide) rfl rfl rfl rfl d4_37 d4_39 ?_
  refine go_aloadN (pc := 42) d4_42 rfl (go_bipush (pc := 43) d4_43 cb_12 ?_)
  refine go_newI (pc := 45) (ty := .int) rfl (by decide) ar_4 (List.mem_of_getElem? (i := 12) rfl) (List.mem_of_getElem? (i := 21) rfl) hm_4 (Or.inl (List.mem_of_getElem? (i := 22) rfl)) rfl hn_4 (by decide) rfl rfl rfl rfl d4_45 d4_47 ?_
  refine go_aloadN (pc := 50) d4_50 rfl (go_bipush (pc := 51) d4_51 cb_12 ?_)
  refine go_newI (pc := 53) (ty := .int) rfl (by decide) ar_5 (List.mem_of_getElem? (i := 12) rfl) (List.mem_of_getElem? (i := 23) rfl) hm_4 (Or.inl (List.mem_of_getElem? (i := 24) rfl)) rfl hn_4 (by decide) rfl rfl rfl rfl d4_53 d4_55 ?_
  refine go_aloadN (pc := 58) d4_58 rfl (go_bipush (pc := 59) d4_59 cb_12 ?_)
  refine go_newI (pc := 61) (ty := .int) rfl (by decide) ar_6 (List.mem_of_getElem? (i := 12) rfl) (List.mem_of_getElem? (i := 25) rfl) hm_4 (Or.inl (List.mem_of_getElem? (i := 26) rfl)) rfl hn_4 (by decide) rfl rfl rfl rfl d4_61 d4_63 ?_
  refine go_aloadN (pc := 66) d4_66 rfl (go_bipush (pc := 67) d4_67 cb_36 ?_)
  refine go_newI (pc := 69) (ty := .int) rfl (by decide) ar_7 (List.mem_of_getElem? (i := 12) rfl) (List.mem_of_getElem? (i := 27) rfl) hm_4 (Or.inl (List.mem_of_getElem? (i := 28) rfl)) rfl hn_4 (by decide) rfl rfl rfl rfl d4_69 d4_71 ?_
  refine go_aloadN (pc := 74) d4_74 rfl (go_sipush (pc := 75) d4_75 cs_1024 ?_)
  refine go_newI (pc := 78) (ty := .int) rfl (by decide) ar_8 (List.mem_of_getElem? (i := 12) rfl) (List.mem_of_getElem? (i := 29) rfl) hm_4 (Or.inl (List.mem_of_getElem? (i := 30) rfl)) rfl hn_4 (by decide) rfl rfl rfl rfl d4_78 d4_80 ?_
  refine go_aloadN (pc := 83) d4_83 rfl (go_sipush (pc := 84) d4_84 cs_3072 ?_)
  refine go_newI (pc := 87) (ty := .int) rfl (by decide) ar_9 (List.mem_of_getElem? (i := 12) rfl) (List.mem_of_getElem? (i := 31) rfl) hm_4 (Or.inl (List.mem_of_getElem? (i := 32) rfl)) rfl hn_4 (by decide) rfl rfl rfl rfl d4_87 d4_89 ?_
  refine go_aloadN (pc := 92) d4_92 rfl (go_sipush (pc := 93) d4_93 cs_3072 ?_)
  refine go_newI (pc := 96) (ty := .int) rfl (by decide) ar_10 (List.mem_of_getElem? (i := 12) rfl) (List.mem_of_getElem? (i := 33) rfl) hm_4 (Or.inl (List.mem_of_getElem? (i := 34) rfl)) rfl hn_4 (by decide) rfl rfl rfl rfl d4_96 d4_98 ?_
  refine go_aloadN (pc := 101) d4_101 rfl (go_sipush (pc := 102) d4_102 cs_1024 ?_)
  refine go_newI (pc := 105) (ty := .int) rfl (by decide) ar_11 (List.mem_of_getElem? (i := 12) rfl) (List.mem_of_getElem? (i := 35) rfl) hm_4 (Or.inl (List.mem_of_getElem? (i := 36) rfl)) rfl hn_4 (by decide) rfl rfl rfl rfl d4_105 d4_107 ?_
  refine go_aloadN (pc := 110) d4_110 rfl (go_aloadN (pc := 111) d4_111 rfl (go_iloadN (pc := 112) d4_112 rfl ?_))
  refine go_priv (pc := 113) (i := 0) (as := [.int v1]) (rest := [.ref 1]) (w' := (none, [(12, sA (sA (sA (sA (sA (sA (sA (sA (sA (sA (sA (sA (sI s0 0 (1073741824 : Int32)) 0 (rep 16 0)) 1 (rep 16 0)) 2 (rep 16 0)) 3 (rep 16 0)) 4 (rep 12 0)) 5 (rep 12 0)) 6 (rep 12 0)) 7 (rep 36 0)) 8 (rep 1024 0)) 9 (rep 3072 0)) 10 (rep 3072 0)) 11 (rep 1024 0))])) lk_0_51 pd_0 rfl oid_0 rfl rfl rfl rfl rfl rfl ⟨rfl, rfl, rfl, rfl, rfl⟩ d4_113 (c_k_clampNodes v1 (sA (sA (sA (sA (sA (sA (sA (sA (sA (sA (sA (sA (sI s0 0 (1073741824 : Int32)) 0 (rep 16 0)) 1 (rep 16 0)) 2 (rep 16 0)) 3 (rep 16 0)) 4 (rep 12 0)) 5 (rep 12 0)) 6 (rep 12 0)) 7 (rep 36 0)) 8 (rep 1024 0)) 9 (rep 3072 0)) 10 (rep 3072 0)) 11 (rep 1024 0))) ?_
  refine go_putI (pc := 116) fs_55 hm_4 (wr_1 _) hn_4 d4_116 (go_aloadN (pc := 119) d4_119 rfl ?_)
  obtain ⟨r120, e13, hf⟩ := Option.bind_eq_some_iff.mp hf
  refine go_priv (pc := 120) (i := 0) (as := []) (rest := []) (w' := (none, [(12, r120)])) lk_0_58 pd_2 rfl oid_0 rfl rfl rfl rfl rfl rfl ⟨rfl, rfl, rfl, rfl, rfl⟩ d4_120 (c_k_clearStore (sI (sA (sA (sA (sA (sA (sA (sA (sA (sA (sA (sA (sA (sI s0 0 (1073741824 : Int32)) 0 (rep 16 0)) 1 (rep 16 0)) 2 (rep 16 0)) 3 (rep 16 0)) 4 (rep 12 0)) 5 (rep 12 0)) 6 (rep 12 0)) 7 (rep 36 0)) 8 (rep 1024 0)) 9 (rep 3072 0)) 10 (rep 3072 0)) 11 (rep 1024 0)) 1 (k_clampNodes v1)) _ e13) ?_
  refine go_aloadN (pc := 123) d4_123 rfl ?_
  obtain ⟨r124, e14, hf⟩ := Option.bind_eq_some_iff.mp hf
  refine go_priv (pc := 124) (i := 0) (as := []) (rest := []) (w' := (none, [(12, r124)])) lk_0_61 pd_3 rfl oid_0 rfl rfl rfl rfl rfl rfl ⟨rfl, rfl, rfl, rfl, rfl⟩ d4_124 (c_k_clearTables r120 _ e14) ?_
  cases hf
  exact go_ret (pc := 127) rfl d4_127
theorem c_k_init (v1 : Int32) (o : S) (hf : k_init v1 = some o) : Call PP m4 [.ref 1, .int v1] (none, [(0, s0)]) (none, (none, [(12, o)])) := call_of_go pl_0 rfl (fun _ => rfl) (k_init_ok v1   _ hf)
set_option maxRecDepth 65536 in
set_option maxHeartbeats 4000000 in
theorem k_inRange_ok  {s : S} : ∀ (v1 : Int32) (v2 : Int32) (v3 : Int32)   (o : Int32), k_inRange v1 v2 v3 = o → Go PP m5 0 [.val (.ref 1), .val (.int v1), .val (.int v2), .val (.int v3)] [] (none, [(12, s)]) (some (.int o), (none, [(12, s)])) := by
  intro v1 v2 v3 o hf
  unfold k_inRange at hf
  refine go_iloadN (pc := 0) d5_0 rfl (go_iloadN (pc := 1) d5_1 rfl ?_)
  by_cases h1 : v1 < v2
  · replace hf := (if_pos h1).symm.trans hf
    refine go_icY (pc := 2) (pc' := 14) d5_2 (XT.ii_lt_t h1) j_2_12 ?_
    refine go_iconst (pc := 14) d5_14 ci_0 ?_
    cases hf
    exact go_zret (pc := 15) rfl d5_15 (show (0 : Int32) = nar .boolean (0 : Int32) by decide)
  · replace hf := (if_neg h1).symm.trans hf
    refine go_icN (pc := 2) d5_2 (XT.ii_lt_f h1) ?_
    refine go_iloadN (pc := 5) d5_5 rfl (go_iloadN (pc := 6) d5_6 rfl ?_)
    by_cases h2 : v3 < v1
    · replace hf := (if_pos h2).symm.trans hf
      refine go_icY (pc := 7) (pc' := 14) d5_7 (XT.ii_gt_t h2) j_7_7 ?_
      refine go_iconst (pc := 14) d5_14 ci_0 ?_
      cases hf
      exact go_zret (pc := 15) rfl d5_15 (show (0 : Int32) = nar .boolean (0 : Int32) by decide)
    · replace hf := (if_neg h2).symm.trans hf
      refine go_icN (pc := 7) d5_7 (XT.ii_gt_f h2) ?_
      refine go_iconst (pc := 10) d5_10 ci_1 (go_goto (pc := 11) (pc' := 15) d5_11 j_11_4 ?_)
      cases hf
      exact go_zret (pc := 15) rfl d5_15 (show (1 : Int32) = nar .boolean (1 : Int32) by decide)
theorem c_k_inRange (v1 : Int32) (v2 : Int32) (v3 : Int32) (s : S) : Call PP m5 [.ref 1, .int v1, .int v2, .int v3] (none, [(12, s)]) (some (.int (k_inRange v1 v2 v3)), (none, [(12, s)])) := call_of_go pl_0 rfl (fun h => nomatch h) (k_inRange_ok v1 v2 v3   _ rfl)
set_option maxRecDepth 65536 in
set_option maxHeartbeats 4000000 in
theorem k_edgeRefused_ok  : ∀ (v1 : Int32) (v2 : Int32) (v3 : Int32) (v4 : Int32) (s : S)  (o : Int32), k_edgeRefused v1 v2 v3 v4 s = o → Go PP m6 0 [.val (.ref 1), .val (.int v1), .val (.int v2), .val (.int v3), .val (.int v4)] [] (none, [(12, s)]) (some (.int o), (none, [(12, s)])) := by
  intro v1 v2 v3 v4 s o hf
  unfold k_edgeRefused at hf
  refine go_aloadN (pc := 0) d6_0 rfl (go_getI (pc := 1) fs_64 hm_6 d6_1 (go_bipush (pc := 4) d6_4 cb_16 ?_))
  by_cases h1 : (gI s 2) < (16 : Int32)
  · replace hf := (if_pos h1).symm.trans hf
    refine go_icY (pc := 6) (pc' := 11) d6_6 (XT.ii_lt_t h1) j_6_5 ?_
    refine go_iloadN (pc := 11) d6_11 rfl ?_
    by_cases h2 : v1 < 0
    · replace hf := (if_pos h2).symm.trans hf
      refine go_ifY (pc := 12) (pc' := 30) d6_12 (XT.i0_lt_t h2) j_12_18 ?_
      refine go_iconst (pc := 30) d6_30 ci_1 ?_
      cases hf
      exact go_zret (pc := 31) rfl d6_31 (show (1 : Int32) = nar .boolean (1 : Int32) by decide)
    · replace hf := (if_neg h2).symm.trans hf
      refine go_ifN (pc := 12) d6_12 (XT.i0_lt_f h2) ?_
      refine go_iloadN (pc := 15) d6_15 rfl (go_aloadN (pc := 16) d6_16 rfl (go_getI (pc := 17) fs_55 hm_6 d6_17 (go_iconst (pc := 20) d6_20 ci_1 (go_isub (pc := 21) d6_21 ?_))))
      by_cases h3 : ((gI s 1) - (1 : Int32)) < v2
      · replace hf := (if_pos h3).symm.trans hf
        refine go_icY (pc := 22) (pc' := 30) d6_22 (XT.ii_gt_t h3) j_22_8 ?_
        refine go_iconst (pc := 30) d6_30 ci_1 ?_
        cases hf
        exact go_zret (pc := 31) rfl d6_31 (show (1 : Int32) = nar .boolean (1 : Int32) by decide)
      · replace hf := (if_neg h3).symm.trans hf
        refine go_icN (pc := 22) d6_22 (XT.ii_gt_f h3) ?_
        refine go_iloadN (pc := 25) d6_25 rfl (go_iloadN (pc := 26) d6_26 rfl ?_)
        by_cases h4 : v1 < v2
        · replace hf := (if_pos h4).symm.trans hf
          refine go_icY (pc := 27) (pc' := 32) d6_27 (XT.ii_lt_t h4) j_27_5 ?_
          refine go_aloadN (pc := 32) d6_32 rfl (go_iloadN (pc := 33) d6_33 rfl (go_iconst (pc := 34) d6_34 ci_0 (go_bipush (pc := 35) d6_35 cb_7 ?_)))
          refine go_priv (pc := 37) (i := 0) (as := [.int v3, .int (0 : Int32), .int (7 : Int32)]) (rest := []) (w' := (none, [(12, s)])) lk_0_129 pd_5 rfl oid_0 rfl rfl rfl rfl rfl rfl ⟨rfl, rfl, rfl, rfl, rfl⟩ d6_37 (c_k_inRange v3 (0 : Int32) (7 : Int32) s) ?_
          by_cases h5 : (k_inRange v3 (0 : Int32) (7 : Int32)) = 0
          · replace hf := (if_pos h5).symm.trans hf
            refine go_ifN (pc := 40) d6_40 (XT.i0_ne_f h5) ?_
            refine go_iconst (pc := 43) d6_43 ci_1 ?_
            cases hf
            exact go_zret (pc := 44) rfl d6_44 (show (1 : Int32) = nar .boolean (1 : Int32) by decide)
          · replace hf := (if_neg h5).symm.trans hf
            refine go_ifY (pc := 40) (pc' := 45) d6_40 (XT.i0_ne_t h5) j_40_5 ?_
            refine go_aloadN (pc := 45) d6_45 rfl (go_iload (pc := 46) d6_46 rfl (go_iconst (pc := 48) d6_48 ci_0 (go_bipush (pc := 49) d6_49 cb_100 ?_)))
            refine go_priv (pc := 51) (i := 0) (as := [.int v4, .int (0 : Int32), .int (100 : Int32)]) (rest := []) (w' := (none, [(12, s)])) lk_0_129 pd_5 rfl oid_0 rfl rfl rfl rfl rfl rfl ⟨rfl, rfl, rfl, rfl, rfl⟩ d6_51 (c_k_inRange v4 (0 : Int32) (100 : Int32) s) ?_
            by_cases h6 : (k_inRange v4 (0 : Int32) (100 : Int32)) = 0
            · replace hf := (if_pos h6).symm.trans hf
              refine go_ifN (pc := 54) d6_54 (XT.i0_ne_f h6) ?_
              refine go_iconst (pc := 57) d6_57 ci_1 (go_goto (pc := 58) (pc' := 62) d6_58 j_58_4 ?_)
              cases hf
              exact go_zret (pc := 62) rfl d6_62 (show (1 : Int32) = nar .boolean (1 : Int32) by decide)
            · replace hf := (if_neg h6).symm.trans hf
              refine go_ifY (pc := 54) (pc' := 61) d6_54 (XT.i0_ne_t h6) j_54_7 ?_
              refine go_iconst (pc := 61) d6_61 ci_0 ?_
              cases hf
              exact go_zret (pc := 62) rfl d6_62 (show (0 : Int32) = nar .boolean (0 : Int32) by decide)
        · replace hf := (if_neg h4).symm.trans hf
          refine go_icN (pc := 27) d6_27 (XT.ii_lt_f h4) ?_
          refine go_iconst (pc := 30) d6_30 ci_1 ?_
          cases hf
          exact go_zret (pc := 31) rfl d6_31 (show (1 : Int32) = nar .boolean (1 : Int32) by decide)
  · replace hf := (if_neg h1).symm.trans hf
    refine go_icN (pc := 6) d6_6 (XT.ii_lt_f h1) ?_
    refine go_iconst (pc := 9) d6_9 ci_1 ?_
    cases hf
    exact go_zret (pc := 10) rfl d6_10 (show (1 : Int32) = nar .boolean (1 : Int32) by decide)
theorem c_k_edgeRefused (v1 : Int32) (v2 : Int32) (v3 : Int32) (v4 : Int32) (s : S) : Call PP m6 [.ref 1, .int v1, .int v2, .int v3, .int v4] (none, [(12, s)]) (some (.int (k_edgeRefused v1 v2 v3 v4 s)), (none, [(12, s)])) := call_of_go pl_0 rfl (fun h => nomatch h) (k_edgeRefused_ok v1 v2 v3 v4 s   _ rfl)
set_option maxRecDepth 65536 in
set_option maxHeartbeats 4000000 in
theorem k_addEdge_ok  : ∀ (v1 : Int32) (v2 : Int32) (v3 : Int32) (v4 : Int32) (s : S)  (o : Int32 × S), k_addEdge v1 v2 v3 v4 s = some o → Go PP m7 0 [.val (.ref 1), .val (.int v1), .val (.int v2), .val (.int v3), .val (.int v4), .unset] [] (none, [(12, s)]) (some (.int o.1), (none, [(12, o.2)])) := by
  intro v1 v2 v3 v4 s o hf
  unfold k_addEdge at hf
  refine go_aloadN (pc := 0) d7_0 rfl (go_iloadN (pc := 1) d7_1 rfl (go_iloadN (pc := 2) d7_2 rfl (go_iloadN (pc := 3) d7_3 rfl (go_iload (pc := 4) d7_4 rfl ?_))))
  refine go_priv (pc := 6) (i := 0) (as := [.int v1, .int v2, .int v3, .int v4]) (rest := []) (w' := (none, [(12, s)])) lk_0_70 pd_6 rfl oid_0 rfl rfl rfl rfl rfl rfl ⟨rfl, rfl, rfl, rfl, rfl⟩ d7_6 (c_k_edgeRefused v1 v2 v3 v4 s) ?_
  by_cases h1 : (k_edgeRefused v1 v2 v3 v4 s) = 0
  · replace hf := (if_pos h1).symm.trans hf
    refine go_ifY (pc := 9) (pc' := 14) d7_9 (XT.i0_eq_t h1) j_9_5 ?_
    refine go_aloadN (pc := 14) d7_14 rfl (go_getI (pc := 15) fs_64 hm_7 d7_15 (go_istore (pc := 18) (L' := [.val (.ref 1), .val (.int v1), .val (.int v2), .val (.int v3), .val (.int v4), .val (.int (gI s 2))]) d7_18 rfl (go_aloadN (pc := 20) d7_20 rfl (go_getA (pc := 21) fa_14 hm_7 d7_21 rfl (go_iload (pc := 24) d7_24 rfl (go_iloadN (pc := 26) d7_26 rfl ?_))))))
    obtain ⟨a27, e2, hf⟩ := Option.bind_eq_some_iff.mp hf
    refine go_iastore (pc := 27) (q := 0) ar_0 rfl hn_7 e2 d7_27 ?_
    refine go_aloadN (pc := 28) d7_28 rfl (go_getA (pc := 29) fa_18 hm_7 d7_29 rfl (go_iload (pc := 32) d7_32 rfl (go_iloadN (pc := 34) d7_34 rfl ?_)))
    obtain ⟨a35, e3, hf⟩ := Option.bind_eq_some_iff.mp hf
    refine go_iastore (pc := 35) (q := 1) ar_1 rfl hn_7 e3 d7_35 ?_
    refine go_aloadN (pc := 36) d7_36 rfl (go_getA (pc := 37) fa_21 hm_7 d7_37 rfl (go_iload (pc := 40) d7_40 rfl (go_iloadN (pc := 42) d7_42 rfl ?_)))
    obtain ⟨a43, e4, hf⟩ := Option.bind_eq_some_iff.mp hf
    refine go_iastore (pc := 43) (q := 2) ar_2 rfl hn_7 e4 d7_43 ?_
    refine go_aloadN (pc := 44) d7_44 rfl (go_getA (pc := 45) fa_24 hm_7 d7_45 rfl (go_iload (pc := 48) d7_48 rfl (go_iload (pc := 50) d7_50 rfl ?_)))
    obtain ⟨a52, e5, hf⟩ := Option.bind_eq_some_iff.mp hf
    refine go_iastore (pc := 52) (q := 3) ar_3 rfl hn_7 e5 d7_52 ?_
    refine go_aloadN (pc := 53) d7_53 rfl (go_iload (pc := 54) d7_54 rfl (go_iconst (pc := 56) d7_56 ci_1 (go_iadd (pc := 57) d7_57 (go_putI (pc := 58) fs_64 hm_7 (wr_2 _) hn_7 d7_58 (go_aloadN (pc := 61) d7_61 rfl ?_)))))
    refine go_priv (pc := 62) (i := 0) (as := []) (rest := []) (w' := (none, [(12, (k_becomeBuilding (sI (sA (sA (sA (sA s 0 a27) 1 a35) 2 a43) 3 a52) 2 ((gI s 2) + (1 : Int32)))))])) lk_0_74 pd_1 rfl oid_0 rfl rfl rfl rfl rfl rfl ⟨rfl, rfl, rfl, rfl, rfl⟩ d7_62 (c_k_becomeBuilding (sI (sA (sA (sA (sA s 0 a27) 1 a35) 2 a43) 3 a52) 2 ((gI s 2) + (1 : Int32)))) ?_
    refine go_iload (pc := 65) d7_65 rfl ?_
    cases hf
    exact go_iret (pc := 67) rfl d7_67
  · replace hf := (if_neg h1).symm.trans hf
    refine go_ifN (pc := 9) d7_9 (XT.i0_eq_f h1) ?_
    refine go_iconst (pc := 12) d7_12 ci_m1 ?_
    cases hf
    exact go_iret (pc := 13) rfl d7_13
theorem c_k_addEdge (v1 : Int32) (v2 : Int32) (v3 : Int32) (v4 : Int32) (s : S) (o : Int32 × S) (hf : k_addEdge v1 v2 v3 v4 s = some o) : Call PP m7 [.ref 1, .int v1, .int v2, .int v3, .int v4] (none, [(12, s)]) (some (.int o.1), (none, [(12, o.2)])) := call_of_go pl_0 rfl (fun h => nomatch h) (k_addEdge_ok v1 v2 v3 v4 s   _ hf)
set_option maxRecDepth 65536 in
set_option maxHeartbeats 4000000 in
theorem k_bodyLimit_4_ok  {s : S} : ∀ (n : Nat) (v1 : Int32) (v2 : Int32) (v3 : Int32)   (o : Int32), k_bodyLimit_4 n v1 v2 v3 = some o → Go PP m8 4 [.val (.ref 1), .val (.int v1), .val (.int v2), .val (.int v3)] [] (none, [(12, s)]) (some (.int o), (none, [(12, s)])) := by
  intro n
  induction n with
  | zero => intro v1 v2 v3 o hf; exact nomatch hf
  | succ n ih =>
    intro v1 v2 v3 o hf
    unfold k_bodyLimit_4 at hf
    refine go_iloadN (pc := 4) d8_4 rfl (go_iloadN (pc := 5) d8_5 rfl ?_)
    by_cases h1 : v3 < v1
    · replace hf := (if_pos h1).symm.trans hf
      refine go_icN (pc := 6) d8_6 (XT.ii_ge_f h1) ?_
      refine go_iloadN (pc := 9) d8_9 rfl (go_iconst (pc := 10) d8_10 ci_3 ?_)
      by_cases h2 : v3 < (3 : Int32)
      · replace hf := (if_pos h2).symm.trans hf
        refine go_icN (pc := 11) d8_11 (XT.ii_ge_f h2) ?_
        refine go_iloadN (pc := 14) d8_14 rfl (go_bipush (pc := 15) d8_15 cb_16 (go_imul (pc := 17) d8_17 (go_istoreN (pc := 18) (L' := [.val (.ref 1), .val (.int v1), .val (.int (v2 * (16 : Int32))), .val (.int v3)]) d8_18 rfl (go_iinc (pc := 19) (L' := [.val (.ref 1), .val (.int v1), .val (.int (v2 * (16 : Int32))), .val (.int (v3 + (1 : Int32)))]) d8_19 rfl ci_1 rfl (go_goto (pc := 22) (pc' := 4) d8_22 j_22_m18 ?_)))))
        exact ih v1 (v2 * (16 : Int32)) (v3 + (1 : Int32)) _ hf
      · replace hf := (if_neg h2).symm.trans hf
        refine go_icY (pc := 11) (pc' := 25) d8_11 (XT.ii_ge_t h2) j_11_14 ?_
        refine go_iloadN (pc := 25) d8_25 rfl ?_
        cases hf
        exact go_iret (pc := 26) rfl d8_26
    · replace hf := (if_neg h1).symm.trans hf
      refine go_icY (pc := 6) (pc' := 25) d8_6 (XT.ii_ge_t h1) j_6_19 ?_
      refine go_iloadN (pc := 25) d8_25 rfl ?_
      cases hf
      exact go_iret (pc := 26) rfl d8_26
set_option maxRecDepth 65536 in
set_option maxHeartbeats 4000000 in
theorem k_bodyLimit_ok  {s : S} : ∀ (v1 : Int32)   (o : Int32), k_bodyLimit v1 = some o → Go PP m8 0 [.val (.ref 1), .val (.int v1), .unset, .unset] [] (none, [(12, s)]) (some (.int o), (none, [(12, s)])) := by
  intro v1 o hf
  unfold k_bodyLimit at hf
  refine go_iconst (pc := 0) d8_0 ci_1 (go_istoreN (pc := 1) (L' := [.val (.ref 1), .val (.int v1), .val (.int (1 : Int32)), .unset]) d8_1 rfl (go_iconst (pc := 2) d8_2 ci_0 (go_istoreN (pc := 3) (L' := [.val (.ref 1), .val (.int v1), .val (.int (1 : Int32)), .val (.int (0 : Int32))]) d8_3 rfl ?_)))
  exact k_bodyLimit_4_ok BIG v1 (1 : Int32) (0 : Int32) _ hf
theorem c_k_bodyLimit (v1 : Int32) (s : S) (o : Int32) (hf : k_bodyLimit v1 = some o) : Call PP m8 [.ref 1, .int v1] (none, [(12, s)]) (some (.int o), (none, [(12, s)])) := call_of_go pl_0 rfl (fun h => nomatch h) (k_bodyLimit_ok v1   _ hf)
set_option maxRecDepth 65536 in
set_option maxHeartbeats 4000000 in
theorem k_ruleRefused_ok  : ∀ (v1 : Int32) (v2 : Int32) (v3 : Int32) (v4 : Int32) (s : S)  (o : Int32), k_ruleRefused v1 v2 v3 v4 s = some o → Go PP m9 0 [.val (.ref 1), .val (.int v1), .val (.int v2), .val (.int v3), .val (.int v4)] [] (none, [(12, s)]) (some (.int o), (none, [(12, s)])) := by
  intro v1 v2 v3 v4 s o hf
  unfold k_ruleRefused at hf
  refine go_aloadN (pc := 0) d9_0 rfl (go_getI (pc := 1) fs_67 hm_9 d9_1 (go_bipush (pc := 4) d9_4 cb_12 ?_))
  by_cases h1 : (gI s 3) < (12 : Int32)
  · replace hf := (if_pos h1).symm.trans hf
    refine go_icY (pc := 6) (pc' := 11) d9_6 (XT.ii_lt_t h1) j_6_5 ?_
    refine go_aloadN (pc := 11) d9_11 rfl (go_iloadN (pc := 12) d9_12 rfl (go_iconst (pc := 13) d9_13 ci_0 (go_bipush (pc := 14) d9_14 cb_7 ?_)))
    refine go_priv (pc := 16) (i := 0) (as := [.int v1, .int (0 : Int32), .int (7 : Int32)]) (rest := []) (w' := (none, [(12, s)])) lk_0_129 pd_5 rfl oid_0 rfl rfl rfl rfl rfl rfl ⟨rfl, rfl, rfl, rfl, rfl⟩ d9_16 (c_k_inRange v1 (0 : Int32) (7 : Int32) s) ?_
    by_cases h2 : (k_inRange v1 (0 : Int32) (7 : Int32)) = 0
    · replace hf := (if_pos h2).symm.trans hf
      refine go_ifN (pc := 19) d9_19 (XT.i0_ne_f h2) ?_
      refine go_iconst (pc := 22) d9_22 ci_1 ?_
      cases hf
      exact go_zret (pc := 23) rfl d9_23 (show (1 : Int32) = nar .boolean (1 : Int32) by decide)
    · replace hf := (if_neg h2).symm.trans hf
      refine go_ifY (pc := 19) (pc' := 24) d9_19 (XT.i0_ne_t h2) j_19_5 ?_
      refine go_aloadN (pc := 24) d9_24 rfl (go_iloadN (pc := 25) d9_25 rfl (go_iconst (pc := 26) d9_26 ci_0 (go_bipush (pc := 27) d9_27 cb_100 ?_)))
      refine go_priv (pc := 29) (i := 0) (as := [.int v2, .int (0 : Int32), .int (100 : Int32)]) (rest := []) (w' := (none, [(12, s)])) lk_0_129 pd_5 rfl oid_0 rfl rfl rfl rfl rfl rfl ⟨rfl, rfl, rfl, rfl, rfl⟩ d9_29 (c_k_inRange v2 (0 : Int32) (100 : Int32) s) ?_
      by_cases h3 : (k_inRange v2 (0 : Int32) (100 : Int32)) = 0
      · replace hf := (if_pos h3).symm.trans hf
        refine go_ifN (pc := 32) d9_32 (XT.i0_ne_f h3) ?_
        refine go_iconst (pc := 35) d9_35 ci_1 ?_
        cases hf
        exact go_zret (pc := 36) rfl d9_36 (show (1 : Int32) = nar .boolean (1 : Int32) by decide)
      · replace hf := (if_neg h3).symm.trans hf
        refine go_ifY (pc := 32) (pc' := 37) d9_32 (XT.i0_ne_t h3) j_32_5 ?_
        refine go_aloadN (pc := 37) d9_37 rfl (go_iloadN (pc := 38) d9_38 rfl (go_iconst (pc := 39) d9_39 ci_0 (go_iconst (pc := 40) d9_40 ci_3 ?_)))
        refine go_priv (pc := 41) (i := 0) (as := [.int v3, .int (0 : Int32), .int (3 : Int32)]) (rest := []) (w' := (none, [(12, s)])) lk_0_129 pd_5 rfl oid_0 rfl rfl rfl rfl rfl rfl ⟨rfl, rfl, rfl, rfl, rfl⟩ d9_41 (c_k_inRange v3 (0 : Int32) (3 : Int32) s) ?_
        by_cases h4 : (k_inRange v3 (0 : Int32) (3 : Int32)) = 0
        · replace hf := (if_pos h4).symm.trans hf
          refine go_ifN (pc := 44) d9_44 (XT.i0_ne_f h4) ?_
          refine go_iconst (pc := 47) d9_47 ci_1 ?_
          cases hf
          exact go_zret (pc := 48) rfl d9_48 (show (1 : Int32) = nar .boolean (1 : Int32) by decide)
        · replace hf := (if_neg h4).symm.trans hf
          refine go_ifY (pc := 44) (pc' := 49) d9_44 (XT.i0_ne_t h4) j_44_5 ?_
          refine go_iload (pc := 49) d9_49 rfl ?_
          by_cases h5 : v4 < 0
          · replace hf := (if_pos h5).symm.trans hf
            refine go_ifN (pc := 51) d9_51 (XT.i0_ge_f h5) ?_
            refine go_iconst (pc := 54) d9_54 ci_1 ?_
            cases hf
            exact go_zret (pc := 55) rfl d9_55 (show (1 : Int32) = nar .boolean (1 : Int32) by decide)
          · replace hf := (if_neg h5).symm.trans hf
            refine go_ifY (pc := 51) (pc' := 56) d9_51 (XT.i0_ge_t h5) j_51_5 ?_
            refine go_iload (pc := 56) d9_56 rfl (go_aloadN (pc := 58) d9_58 rfl (go_iloadN (pc := 59) d9_59 rfl ?_))
            obtain ⟨r60, e6, hf⟩ := Option.bind_eq_some_iff.mp hf
            refine go_priv (pc := 60) (i := 0) (as := [.int v3]) (rest := [.int v4]) (w' := (none, [(12, s)])) lk_0_133 pd_8 rfl oid_0 rfl rfl rfl rfl rfl rfl ⟨rfl, rfl, rfl, rfl, rfl⟩ d9_60 (c_k_bodyLimit v3 s _ e6) ?_
            by_cases h7 : v4 < r60
            · replace hf := (if_pos h7).symm.trans hf
              refine go_icY (pc := 63) (pc' := 70) d9_63 (XT.ii_lt_t h7) j_63_7 ?_
              refine go_iconst (pc := 70) d9_70 ci_0 ?_
              cases hf
              exact go_zret (pc := 71) rfl d9_71 (show (0 : Int32) = nar .boolean (0 : Int32) by decide)
            · replace hf := (if_neg h7).symm.trans hf
              refine go_icN (pc := 63) d9_63 (XT.ii_lt_f h7) ?_
              refine go_iconst (pc := 66) d9_66 ci_1 (go_goto (pc := 67) (pc' := 71) d9_67 j_67_4 ?_)
              cases hf
              exact go_zret (pc := 71) rfl d9_71 (show (1 : Int32) = nar .boolean (1 : Int32) by decide)
  · replace hf := (if_neg h1).symm.trans hf
    refine go_icN (pc := 6) d9_6 (XT.ii_lt_f h1) ?_
    refine go_iconst (pc := 9) d9_9 ci_1 ?_
    cases hf
    exact go_zret (pc := 10) rfl d9_10 (show (1 : Int32) = nar .boolean (1 : Int32) by decide)
theorem c_k_ruleRefused (v1 : Int32) (v2 : Int32) (v3 : Int32) (v4 : Int32) (s : S) (o : Int32) (hf : k_ruleRefused v1 v2 v3 v4 s = some o) : Call PP m9 [.ref 1, .int v1, .int v2, .int v3, .int v4] (none, [(12, s)]) (some (.int o), (none, [(12, s)])) := call_of_go pl_0 rfl (fun h => nomatch h) (k_ruleRefused_ok v1 v2 v3 v4 s   _ hf)
def T_k_storeRule_36 (k36 : Int32 → Int32 → Int32 → Int32 → S → Option S) : Prop := ∀ (v1 : Int32) (v4 : Int32) (v5 : Int32) (v6 : Int32) (s : S) (x2 : Slot) (x3 : Slot) (x7 : Slot) (hx2 : k1 x2) (hx3 : k1 x3) (hx7 : k1 x7) (o : S), k36 v1 v4 v5 v6 s = some o → Go PP m10 36 [.val (.ref 1), .val (.int v1), x2, x3, .val (.int v4), .val (.int v5), .val (.int v6), x7] [] (none, [(12, s)]) (none, (none, [(12, o)]))
set_option maxRecDepth 65536 in
set_option maxHeartbeats 4000000 in
theorem k_storeRule_64_ok {k36 : Int32 → Int32 → Int32 → Int32 → S → Option S} (hk36 : T_k_storeRule_36 k36) : ∀ (v1 : Int32) (v4 : Int32) (v5 : Int32) (v6 : Int32) (v7 : Int32) (s : S) (x2 : Slot) (x3 : Slot) (hx2 : k1 x2) (hx3 : k1 x3) (o : S), k_storeRule_64 k36 v1 v4 v5 v6 v7 s = some o → Go PP m10 64 [.val (.ref 1), .val (.int v1), x2, x3, .val (.int v4), .val (.int v5), .val (.int v6), .val (.int v7)] [] (none, [(12, s)]) (none, (none, [(12, o)])) := by
  intro v1 v4 v5 v6 v7 s x2 x3 hx2 hx3 o hf
  unfold k_storeRule_64 at hf
  refine go_aloadN (pc := 64) d10_64 rfl (go_getA (pc := 65) fa_36 hm_10 d10_65 rfl (go_iloadN (pc := 68) d10_68 rfl (go_iconst (pc := 69) d10_69 ci_3 (go_imul (pc := 70) d10_70 (go_iload (pc := 71) d10_71 rfl (go_iadd (pc := 73) d10_73 (go_iload (pc := 74) d10_74 rfl ?_)))))))
  obtain ⟨a76, e1, hf⟩ := Option.bind_eq_some_iff.mp hf
  refine go_iastore (pc := 76) (q := 7) ar_7 rfl hn_10 e1 d10_76 ?_
  refine go_iinc (pc := 77) (L' := [.val (.ref 1), .val (.int v1), x2, x3, .val (.int v4), .val (.int v5), .val (.int (v6 + (1 : Int32))), .val (.int v7)]) d10_77 rfl ci_1 rfl (go_goto (pc := 80) (pc' := 36) d10_80 j_80_m44 ?_)
  exact hk36 v1 v4 v5 (v6 + (1 : Int32)) (sA s 7 a76) x2 x3 (.val (.int v7)) hx2 hx3 (Or.inr ⟨_, rfl, rfl⟩) _ hf
set_option maxRecDepth 65536 in
set_option maxHeartbeats 4000000 in
theorem k_storeRule_36_ok  : ∀ (n : Nat) (v1 : Int32) (v4 : Int32) (v5 : Int32) (v6 : Int32) (s : S) (x2 : Slot) (x3 : Slot) (x7 : Slot) (hx2 : k1 x2) (hx3 : k1 x3) (hx7 : k1 x7) (o : S), k_storeRule_36 n v1 v4 v5 v6 s = some o → Go PP m10 36 [.val (.ref 1), .val (.int v1), x2, x3, .val (.int v4), .val (.int v5), .val (.int v6), x7] [] (none, [(12, s)]) (none, (none, [(12, o)])) := by
  intro n
  induction n with
  | zero => intro v1 v4 v5 v6 s x2 x3 x7 hx2 hx3 hx7 o hf; exact nomatch hf
  | succ n ih =>
    intro v1 v4 v5 v6 s x2 x3 x7 hx2 hx3 hx7 o hf
    unfold k_storeRule_36 at hf
    refine go_iload (pc := 36) d10_36 rfl (go_iconst (pc := 38) d10_38 ci_3 ?_)
    by_cases h1 : v6 < (3 : Int32)
    · replace hf := (if_pos h1).symm.trans hf
      refine go_icN (pc := 39) d10_39 (XT.ii_ge_f h1) ?_
      refine go_iconst (pc := 42) d10_42 ci_0 (go_istore (pc := 43) (L' := [.val (.ref 1), .val (.int v1), x2, x3, .val (.int v4), .val (.int v5), .val (.int v6), .val (.int (0 : Int32))]) d10_43 (stx rfl hx7 rfl) (go_iload (pc := 45) d10_45 rfl (go_iload (pc := 47) d10_47 rfl ?_)))
      by_cases h2 : v6 < v4
      · refine go_icN (pc := 49) d10_49 (XT.ii_ge_f h2) ?_
        refine go_iload (pc := 52) d10_52 rfl (go_iconst (pc := 54) d10_54 ci_4 (go_iload (pc := 55) d10_55 rfl (go_imul (pc := 57) d10_57 (go_ishr (pc := 58) d10_58 (go_bipush (pc := 59) d10_59 cb_15 (go_iand (pc := 61) d10_61 (go_istore (pc := 62) (L' := [.val (.ref 1), .val (.int v1), x2, x3, .val (.int v4), .val (.int v5), .val (.int v6), .val (.int ((v5 >>> (((4 : Int32) * v6) &&& 31)) &&& (15 : Int32)))]) d10_62 rfl ?_)))))))
        exact k_storeRule_64_ok ih v1 v4 v5 v6 ((v5 >>> (((4 : Int32) * v6) &&& 31)) &&& (15 : Int32)) s x2 x3 hx2 hx3 _ (by simpa only [if_pos h2] using hf)
      · refine go_icY (pc := 49) (pc' := 64) d10_49 (XT.ii_ge_t h2) j_49_15 ?_
        exact k_storeRule_64_ok ih v1 v4 v5 v6 (0 : Int32) s x2 x3 hx2 hx3 _ (by simpa only [if_neg h2] using hf)
    · replace hf := (if_neg h1).symm.trans hf
      refine go_icY (pc := 39) (pc' := 83) d10_39 (XT.ii_ge_t h1) j_39_44 ?_
      cases hf
      exact go_ret (pc := 83) rfl d10_83
set_option maxRecDepth 65536 in
set_option maxHeartbeats 4000000 in
theorem k_storeRule_ok  : ∀ (v1 : Int32) (v2 : Int32) (v3 : Int32) (v4 : Int32) (v5 : Int32) (s : S)  (o : S), k_storeRule v1 v2 v3 v4 v5 s = some o → Go PP m10 0 [.val (.ref 1), .val (.int v1), .val (.int v2), .val (.int v3), .val (.int v4), .val (.int v5), .unset, .unset] [] (none, [(12, s)]) (none, (none, [(12, o)])) := by
  intro v1 v2 v3 v4 v5 s o hf
  unfold k_storeRule at hf
  refine go_iloadN (pc := 0) d10_0 rfl ?_
  by_cases h1 : v1 < 0
  · replace hf := (if_pos h1).symm.trans hf
    refine go_ifY (pc := 1) (pc' := 10) d10_1 (XT.i0_lt_t h1) j_1_9 ?_
    cases hf
    exact go_ret (pc := 10) rfl d10_10
  · replace hf := (if_neg h1).symm.trans hf
    refine go_ifN (pc := 1) d10_1 (XT.i0_lt_f h1) ?_
    refine go_iloadN (pc := 4) d10_4 rfl (go_bipush (pc := 5) d10_5 cb_12 ?_)
    by_cases h2 : v1 < (12 : Int32)
    · replace hf := (if_pos h2).symm.trans hf
      refine go_icY (pc := 7) (pc' := 11) d10_7 (XT.ii_lt_t h2) j_7_4 ?_
      refine go_aloadN (pc := 11) d10_11 rfl (go_getA (pc := 12) fa_27 hm_10 d10_12 rfl (go_iloadN (pc := 15) d10_15 rfl (go_iloadN (pc := 16) d10_16 rfl ?_)))
      obtain ⟨a17, e3, hf⟩ := Option.bind_eq_some_iff.mp hf
      refine go_iastore (pc := 17) (q := 4) ar_4 rfl hn_10 e3 d10_17 ?_
      refine go_aloadN (pc := 18) d10_18 rfl (go_getA (pc := 19) fa_30 hm_10 d10_19 rfl (go_iloadN (pc := 22) d10_22 rfl (go_iloadN (pc := 23) d10_23 rfl ?_)))
      obtain ⟨a24, e4, hf⟩ := Option.bind_eq_some_iff.mp hf
      refine go_iastore (pc := 24) (q := 5) ar_5 rfl hn_10 e4 d10_24 ?_
      refine go_aloadN (pc := 25) d10_25 rfl (go_getA (pc := 26) fa_33 hm_10 d10_26 rfl (go_iloadN (pc := 29) d10_29 rfl (go_iload (pc := 30) d10_30 rfl ?_)))
      obtain ⟨a32, e5, hf⟩ := Option.bind_eq_some_iff.mp hf
      refine go_iastore (pc := 32) (q := 6) ar_6 rfl hn_10 e5 d10_32 ?_
      refine go_iconst (pc := 33) d10_33 ci_0 (go_istore (pc := 34) (L' := [.val (.ref 1), .val (.int v1), .val (.int v2), .val (.int v3), .val (.int v4), .val (.int v5), .val (.int (0 : Int32)), .unset]) d10_34 rfl ?_)
      exact k_storeRule_36_ok BIG v1 v4 v5 (0 : Int32) (sA (sA (sA s 4 a17) 5 a24) 6 a32) (.val (.int v2)) (.val (.int v3)) .unset (Or.inr ⟨_, rfl, rfl⟩) (Or.inr ⟨_, rfl, rfl⟩) (Or.inl rfl) _ hf
    · replace hf := (if_neg h2).symm.trans hf
      refine go_icN (pc := 7) d10_7 (XT.ii_lt_f h2) ?_
      cases hf
      exact go_ret (pc := 10) rfl d10_10
theorem c_k_storeRule (v1 : Int32) (v2 : Int32) (v3 : Int32) (v4 : Int32) (v5 : Int32) (s : S) (o : S) (hf : k_storeRule v1 v2 v3 v4 v5 s = some o) : Call PP m10 [.ref 1, .int v1, .int v2, .int v3, .int v4, .int v5] (none, [(12, s)]) (none, (none, [(12, o)])) := call_of_go pl_0 rfl (fun _ => rfl) (k_storeRule_ok v1 v2 v3 v4 v5 s   _ hf)
set_option maxRecDepth 65536 in
set_option maxHeartbeats 4000000 in
theorem k_addRule_ok  : ∀ (v1 : Int32) (v2 : Int32) (v3 : Int32) (v4 : Int32) (s : S)  (o : Int32 × S), k_addRule v1 v2 v3 v4 s = some o → Go PP m11 0 [.val (.ref 1), .val (.int v1), .val (.int v2), .val (.int v3), .val (.int v4), .unset] [] (none, [(12, s)]) (some (.int o.1), (none, [(12, o.2)])) := by
  intro v1 v2 v3 v4 s o hf
  unfold k_addRule at hf
  refine go_aloadN (pc := 0) d11_0 rfl (go_iloadN (pc := 1) d11_1 rfl (go_iloadN (pc := 2) d11_2 rfl (go_iloadN (pc := 3) d11_3 rfl (go_iload (pc := 4) d11_4 rfl ?_))))
  obtain ⟨r6, e1, hf⟩ := Option.bind_eq_some_iff.mp hf
  refine go_priv (pc := 6) (i := 0) (as := [.int v1, .int v2, .int v3, .int v4]) (rest := []) (w' := (none, [(12, s)])) lk_0_77 pd_9 rfl oid_0 rfl rfl rfl rfl rfl rfl ⟨rfl, rfl, rfl, rfl, rfl⟩ d11_6 (c_k_ruleRefused v1 v2 v3 v4 s _ e1) ?_
  by_cases h2 : r6 = 0
  · replace hf := (if_pos h2).symm.trans hf
    refine go_ifY (pc := 9) (pc' := 14) d11_9 (XT.i0_eq_t h2) j_9_5 ?_
    refine go_aloadN (pc := 14) d11_14 rfl (go_getI (pc := 15) fs_67 hm_11 d11_15 (go_istore (pc := 18) (L' := [.val (.ref 1), .val (.int v1), .val (.int v2), .val (.int v3), .val (.int v4), .val (.int (gI s 3))]) d11_18 rfl (go_aloadN (pc := 20) d11_20 rfl (go_iload (pc := 21) d11_21 rfl (go_iloadN (pc := 23) d11_23 rfl (go_iloadN (pc := 24) d11_24 rfl (go_iloadN (pc := 25) d11_25 rfl ?_)))))))
    refine go_iload (pc := 26) d11_26 rfl ?_
    obtain ⟨r28, e3, hf⟩ := Option.bind_eq_some_iff.mp hf
    refine go_priv (pc := 28) (i := 0) (as := [.int (gI s 3), .int v1, .int v2, .int v3, .int v4]) (rest := []) (w' := (none, [(12, r28)])) lk_0_80 pd_10 rfl oid_0 rfl rfl rfl rfl rfl rfl ⟨rfl, rfl, rfl, rfl, rfl⟩ d11_28 (c_k_storeRule (gI s 3) v1 v2 v3 v4 s _ e3) ?_
    refine go_aloadN (pc := 31) d11_31 rfl (go_iload (pc := 32) d11_32 rfl (go_iconst (pc := 34) d11_34 ci_1 (go_iadd (pc := 35) d11_35 (go_putI (pc := 36) fs_67 hm_11 (wr_3 _) hn_11 d11_36 (go_aloadN (pc := 39) d11_39 rfl ?_)))))
    refine go_priv (pc := 40) (i := 0) (as := []) (rest := []) (w' := (none, [(12, (k_becomeBuilding (sI r28 3 ((gI s 3) + (1 : Int32)))))])) lk_0_74 pd_1 rfl oid_0 rfl rfl rfl rfl rfl rfl ⟨rfl, rfl, rfl, rfl, rfl⟩ d11_40 (c_k_becomeBuilding (sI r28 3 ((gI s 3) + (1 : Int32)))) ?_
    refine go_iload (pc := 43) d11_43 rfl ?_
    cases hf
    exact go_iret (pc := 45) rfl d11_45
  · replace hf := (if_neg h2).symm.trans hf
    refine go_ifN (pc := 9) d11_9 (XT.i0_eq_f h2) ?_
    refine go_iconst (pc := 12) d11_12 ci_m1 ?_
    cases hf
    exact go_iret (pc := 13) rfl d11_13
theorem c_k_addRule (v1 : Int32) (v2 : Int32) (v3 : Int32) (v4 : Int32) (s : S) (o : Int32 × S) (hf : k_addRule v1 v2 v3 v4 s = some o) : Call PP m11 [.ref 1, .int v1, .int v2, .int v3, .int v4] (none, [(12, s)]) (some (.int o.1), (none, [(12, o.2)])) := call_of_go pl_0 rfl (fun h => nomatch h) (k_addRule_ok v1 v2 v3 v4 s   _ hf)
set_option maxRecDepth 65536 in
set_option maxHeartbeats 4000000 in
theorem k_isCode_ok  {s : S} : ∀ (v1 : Int32)   (o : Int32), k_isCode v1 = o → Go PP m12 0 [.val (.ref 1), .val (.int v1)] [] (none, [(12, s)]) (some (.int o), (none, [(12, s)])) := by
  intro v1 o hf
  unfold k_isCode at hf
  refine go_iloadN (pc := 0) d12_0 rfl ?_
  by_cases h1 : v1 < 0
  · replace hf := (if_pos h1).symm.trans hf
    refine go_ifY (pc := 1) (pc' := 14) d12_1 (XT.i0_lt_t h1) j_1_13 ?_
    refine go_iconst (pc := 14) d12_14 ci_0 ?_
    cases hf
    exact go_zret (pc := 15) rfl d12_15 (show (0 : Int32) = nar .boolean (0 : Int32) by decide)
  · replace hf := (if_neg h1).symm.trans hf
    refine go_ifN (pc := 1) d12_1 (XT.i0_lt_f h1) ?_
    refine go_iloadN (pc := 4) d12_4 rfl (go_bipush (pc := 5) d12_5 cb_16 ?_)
    by_cases h2 : v1 < (16 : Int32)
    · replace hf := (if_pos h2).symm.trans hf
      refine go_icN (pc := 7) d12_7 (XT.ii_ge_f h2) ?_
      refine go_iconst (pc := 10) d12_10 ci_1 (go_goto (pc := 11) (pc' := 15) d12_11 j_11_4 ?_)
      cases hf
      exact go_zret (pc := 15) rfl d12_15 (show (1 : Int32) = nar .boolean (1 : Int32) by decide)
    · replace hf := (if_neg h2).symm.trans hf
      refine go_icY (pc := 7) (pc' := 14) d12_7 (XT.ii_ge_t h2) j_7_7 ?_
      refine go_iconst (pc := 14) d12_14 ci_0 ?_
      cases hf
      exact go_zret (pc := 15) rfl d12_15 (show (0 : Int32) = nar .boolean (0 : Int32) by decide)
theorem c_k_isCode (v1 : Int32) (s : S) : Call PP m12 [.ref 1, .int v1] (none, [(12, s)]) (some (.int (k_isCode v1)), (none, [(12, s)])) := call_of_go pl_0 rfl (fun h => nomatch h) (k_isCode_ok v1   _ rfl)
set_option maxRecDepth 65536 in
set_option maxHeartbeats 4000000 in
theorem k_isNode_ok  : ∀ (v1 : Int32) (s : S)  (o : Int32), k_isNode v1 s = o → Go PP m13 0 [.val (.ref 1), .val (.int v1)] [] (none, [(12, s)]) (some (.int o), (none, [(12, s)])) := by
  intro v1 s o hf
  unfold k_isNode at hf
  refine go_iloadN (pc := 0) d13_0 rfl ?_
  by_cases h1 : v1 < 0
  · replace hf := (if_pos h1).symm.trans hf
    refine go_ifY (pc := 1) (pc' := 16) d13_1 (XT.i0_lt_t h1) j_1_15 ?_
    refine go_iconst (pc := 16) d13_16 ci_0 ?_
    cases hf
    exact go_zret (pc := 17) rfl d13_17 (show (0 : Int32) = nar .boolean (0 : Int32) by decide)
  · replace hf := (if_neg h1).symm.trans hf
    refine go_ifN (pc := 1) d13_1 (XT.i0_lt_f h1) ?_
    refine go_iloadN (pc := 4) d13_4 rfl (go_aloadN (pc := 5) d13_5 rfl (go_getI (pc := 6) fs_55 hm_13 d13_6 ?_))
    by_cases h2 : v1 < (gI s 1)
    · replace hf := (if_pos h2).symm.trans hf
      refine go_icN (pc := 9) d13_9 (XT.ii_ge_f h2) ?_
      refine go_iconst (pc := 12) d13_12 ci_1 (go_goto (pc := 13) (pc' := 17) d13_13 j_13_4 ?_)
      cases hf
      exact go_zret (pc := 17) rfl d13_17 (show (1 : Int32) = nar .boolean (1 : Int32) by decide)
    · replace hf := (if_neg h2).symm.trans hf
      refine go_icY (pc := 9) (pc' := 16) d13_9 (XT.ii_ge_t h2) j_9_7 ?_
      refine go_iconst (pc := 16) d13_16 ci_0 ?_
      cases hf
      exact go_zret (pc := 17) rfl d13_17 (show (0 : Int32) = nar .boolean (0 : Int32) by decide)
theorem c_k_isNode (v1 : Int32) (s : S) : Call PP m13 [.ref 1, .int v1] (none, [(12, s)]) (some (.int (k_isNode v1 s)), (none, [(12, s)])) := call_of_go pl_0 rfl (fun h => nomatch h) (k_isNode_ok v1 s   _ rfl)
set_option maxRecDepth 65536 in
set_option maxHeartbeats 4000000 in
theorem k_spanSlot_ok  : ∀ (v1 : Int32) (v2 : Int32) (v3 : Int32) (s : S)  (o : Int32), k_spanSlot v1 v2 v3 s = o → Go PP m14 0 [.val (.ref 1), .val (.int v1), .val (.int v2), .val (.int v3)] [] (none, [(12, s)]) (some (.int o), (none, [(12, s)])) := by
  intro v1 v2 v3 s o hf
  unfold k_spanSlot at hf
  refine go_aloadN (pc := 0) d14_0 rfl (go_iloadN (pc := 1) d14_1 rfl ?_)
  refine go_priv (pc := 2) (i := 0) (as := [.int v1]) (rest := []) (w' := (none, [(12, s)])) lk_0_107 pd_12 rfl oid_0 rfl rfl rfl rfl rfl rfl ⟨rfl, rfl, rfl, rfl, rfl⟩ d14_2 (c_k_isCode v1 s) ?_
  by_cases h1 : (k_isCode v1) = 0
  · replace hf := (if_pos h1).symm.trans hf
    refine go_ifY (pc := 5) (pc' := 24) d14_5 (XT.i0_eq_t h1) j_5_19 ?_
    refine go_iconst (pc := 24) d14_24 ci_m1 ?_
    cases hf
    exact go_iret (pc := 25) rfl d14_25
  · replace hf := (if_neg h1).symm.trans hf
    refine go_ifN (pc := 5) d14_5 (XT.i0_eq_f h1) ?_
    refine go_aloadN (pc := 8) d14_8 rfl (go_iloadN (pc := 9) d14_9 rfl ?_)
    refine go_priv (pc := 10) (i := 0) (as := [.int v2]) (rest := []) (w' := (none, [(12, s)])) lk_0_111 pd_13 rfl oid_0 rfl rfl rfl rfl rfl rfl ⟨rfl, rfl, rfl, rfl, rfl⟩ d14_10 (c_k_isNode v2 s) ?_
    by_cases h2 : (k_isNode v2 s) = 0
    · replace hf := (if_pos h2).symm.trans hf
      refine go_ifY (pc := 13) (pc' := 24) d14_13 (XT.i0_eq_t h2) j_13_11 ?_
      refine go_iconst (pc := 24) d14_24 ci_m1 ?_
      cases hf
      exact go_iret (pc := 25) rfl d14_25
    · replace hf := (if_neg h2).symm.trans hf
      refine go_ifN (pc := 13) d14_13 (XT.i0_eq_f h2) ?_
      refine go_aloadN (pc := 16) d14_16 rfl (go_iloadN (pc := 17) d14_17 rfl ?_)
      refine go_priv (pc := 18) (i := 0) (as := [.int v3]) (rest := []) (w' := (none, [(12, s)])) lk_0_111 pd_13 rfl oid_0 rfl rfl rfl rfl rfl rfl ⟨rfl, rfl, rfl, rfl, rfl⟩ d14_18 (c_k_isNode v3 s) ?_
      by_cases h3 : (k_isNode v3 s) = 0
      · replace hf := (if_pos h3).symm.trans hf
        refine go_ifN (pc := 21) d14_21 (XT.i0_ne_f h3) ?_
        refine go_iconst (pc := 24) d14_24 ci_m1 ?_
        cases hf
        exact go_iret (pc := 25) rfl d14_25
      · replace hf := (if_neg h3).symm.trans hf
        refine go_ifY (pc := 21) (pc' := 26) d14_21 (XT.i0_ne_t h3) j_21_5 ?_
        refine go_iloadN (pc := 26) d14_26 rfl (go_bipush (pc := 27) d14_27 cb_64 (go_imul (pc := 29) d14_29 (go_iloadN (pc := 30) d14_30 rfl (go_bipush (pc := 31) d14_31 cb_8 (go_imul (pc := 33) d14_33 (go_iadd (pc := 34) d14_34 (go_iloadN (pc := 35) d14_35 rfl ?_)))))))
        refine go_iadd (pc := 36) d14_36 ?_
        cases hf
        exact go_iret (pc := 37) rfl d14_37
theorem c_k_spanSlot (v1 : Int32) (v2 : Int32) (v3 : Int32) (s : S) : Call PP m14 [.ref 1, .int v1, .int v2, .int v3] (none, [(12, s)]) (some (.int (k_spanSlot v1 v2 v3 s)), (none, [(12, s)])) := call_of_go pl_0 rfl (fun h => nomatch h) (k_spanSlot_ok v1 v2 v3 s   _ rfl)
set_option maxRecDepth 65536 in
set_option maxHeartbeats 4000000 in
theorem k_lowerSpan_ok  : ∀ (v1 : Int32) (v2 : Int32) (v3 : Int32) (v4 : Int32) (s : S)  (o : Int32 × S), k_lowerSpan v1 v2 v3 v4 s = some o → Go PP m15 0 [.val (.ref 1), .val (.int v1), .val (.int v2), .val (.int v3), .val (.int v4), .unset] [] (none, [(12, s)]) (some (.int o.1), (none, [(12, o.2)])) := by
  intro v1 v2 v3 v4 s o hf
  unfold k_lowerSpan at hf
  refine go_aloadN (pc := 0) d15_0 rfl (go_iloadN (pc := 1) d15_1 rfl (go_iloadN (pc := 2) d15_2 rfl (go_iloadN (pc := 3) d15_3 rfl ?_)))
  refine go_priv (pc := 4) (i := 0) (as := [.int v1, .int v2, .int v3]) (rest := []) (w' := (none, [(12, s)])) lk_0_139 pd_14 rfl oid_0 rfl rfl rfl rfl rfl rfl ⟨rfl, rfl, rfl, rfl, rfl⟩ d15_4 (c_k_spanSlot v1 v2 v3 s) ?_
  refine go_istore (pc := 7) (L' := [.val (.ref 1), .val (.int v1), .val (.int v2), .val (.int v3), .val (.int v4), .val (.int (k_spanSlot v1 v2 v3 s))]) d15_7 rfl (go_iload (pc := 9) d15_9 rfl ?_)
  by_cases h1 : (k_spanSlot v1 v2 v3 s) < 0
  · replace hf := (if_pos h1).symm.trans hf
    refine go_ifY (pc := 11) (pc' := 26) d15_11 (XT.i0_lt_t h1) j_11_15 ?_
    refine go_iconst (pc := 26) d15_26 ci_0 ?_
    cases hf
    exact go_zret (pc := 27) rfl d15_27 (show (0 : Int32) = nar .boolean (0 : Int32) by decide)
  · replace hf := (if_neg h1).symm.trans hf
    refine go_ifN (pc := 11) d15_11 (XT.i0_lt_f h1) ?_
    refine go_iload (pc := 14) d15_14 rfl (go_aloadN (pc := 16) d15_16 rfl (go_getA (pc := 17) fa_39 hm_15 d15_17 rfl (go_iload (pc := 20) d15_20 rfl ?_)))
    obtain ⟨a22, e2, hf⟩ := Option.bind_eq_some_iff.mp hf
    refine go_iaload (pc := 22) (q := 8) ar_8 rfl e2 d15_22 ?_
    by_cases h3 : v4 < a22
    · replace hf := (if_pos h3).symm.trans hf
      refine go_icY (pc := 23) (pc' := 28) d15_23 (XT.ii_lt_t h3) j_23_5 ?_
      refine go_aloadN (pc := 28) d15_28 rfl (go_getA (pc := 29) fa_39 hm_15 d15_29 rfl (go_iload (pc := 32) d15_32 rfl (go_iload (pc := 34) d15_34 rfl ?_)))
      obtain ⟨a36, e4, hf⟩ := Option.bind_eq_some_iff.mp hf
      refine go_iastore (pc := 36) (q := 8) ar_8 rfl hn_15 e4 d15_36 ?_
      refine go_iconst (pc := 37) d15_37 ci_1 ?_
      cases hf
      exact go_zret (pc := 38) rfl d15_38 (show (1 : Int32) = nar .boolean (1 : Int32) by decide)
    · replace hf := (if_neg h3).symm.trans hf
      refine go_icN (pc := 23) d15_23 (XT.ii_lt_f h3) ?_
      refine go_iconst (pc := 26) d15_26 ci_0 ?_
      cases hf
      exact go_zret (pc := 27) rfl d15_27 (show (0 : Int32) = nar .boolean (0 : Int32) by decide)
theorem c_k_lowerSpan (v1 : Int32) (v2 : Int32) (v3 : Int32) (v4 : Int32) (s : S) (o : Int32 × S) (hf : k_lowerSpan v1 v2 v3 v4 s = some o) : Call PP m15 [.ref 1, .int v1, .int v2, .int v3, .int v4] (none, [(12, s)]) (some (.int o.1), (none, [(12, o.2)])) := call_of_go pl_0 rfl (fun h => nomatch h) (k_lowerSpan_ok v1 v2 v3 v4 s   _ hf)
set_option maxRecDepth 65536 in
set_option maxHeartbeats 4000000 in
theorem k_scanEdges_2_ok  : ∀ (n : Nat) (v1 : Int32) (s : S)  (o : S), k_scanEdges_2 n v1 s = some o → Go PP m16 2 [.val (.ref 1), .val (.int v1)] [] (none, [(12, s)]) (none, (none, [(12, o)])) := by
  intro n
  induction n with
  | zero => intro v1 s o hf; exact nomatch hf
  | succ n ih =>
    intro v1 s o hf
    unfold k_scanEdges_2 at hf
    refine go_iloadN (pc := 2) d16_2 rfl (go_aloadN (pc := 3) d16_3 rfl (go_getI (pc := 4) fs_64 hm_16 d16_4 ?_))
    by_cases h1 : v1 < (gI s 2)
    · replace hf := (if_pos h1).symm.trans hf
      refine go_icN (pc := 7) d16_7 (XT.ii_ge_f h1) ?_
      refine go_aloadN (pc := 10) d16_10 rfl (go_aloadN (pc := 11) d16_11 rfl (go_getA (pc := 12) fa_21 hm_16 d16_12 rfl (go_iloadN (pc := 15) d16_15 rfl ?_)))
      obtain ⟨a16, e2, hf⟩ := Option.bind_eq_some_iff.mp hf
      refine go_iaload (pc := 16) (q := 2) ar_2 rfl e2 d16_16 ?_
      refine go_aloadN (pc := 17) d16_17 rfl (go_getA (pc := 18) fa_14 hm_16 d16_18 rfl (go_iloadN (pc := 21) d16_21 rfl ?_))
      obtain ⟨a22, e3, hf⟩ := Option.bind_eq_some_iff.mp hf
      refine go_iaload (pc := 22) (q := 0) ar_0 rfl e3 d16_22 ?_
      refine go_aloadN (pc := 23) d16_23 rfl (go_getA (pc := 24) fa_18 hm_16 d16_24 rfl (go_iloadN (pc := 27) d16_27 rfl ?_))
      obtain ⟨a28, e4, hf⟩ := Option.bind_eq_some_iff.mp hf
      refine go_iaload (pc := 28) (q := 1) ar_1 rfl e4 d16_28 ?_
      refine go_aloadN (pc := 29) d16_29 rfl (go_getA (pc := 30) fa_24 hm_16 d16_30 rfl (go_iloadN (pc := 33) d16_33 rfl ?_))
      obtain ⟨a34, e5, hf⟩ := Option.bind_eq_some_iff.mp hf
      refine go_iaload (pc := 34) (q := 3) ar_3 rfl e5 d16_34 ?_
      obtain ⟨r35, e6, hf⟩ := Option.bind_eq_some_iff.mp hf
      refine go_priv (pc := 35) (i := 0) (as := [.int a16, .int a22, .int a28, .int a34]) (rest := []) (w' := (none, [(12, r35.2)])) lk_0_156 pd_15 rfl oid_0 rfl rfl rfl rfl rfl rfl ⟨rfl, rfl, rfl, rfl, rfl⟩ d16_35 (c_k_lowerSpan a16 a22 a28 a34 s _ e6) ?_
      refine go_pop (pc := 38) d16_38 (go_iinc (pc := 39) (L' := [.val (.ref 1), .val (.int (v1 + (1 : Int32)))]) d16_39 rfl ci_1 rfl (go_goto (pc := 42) (pc' := 2) d16_42 j_42_m40 ?_))
      exact ih (v1 + (1 : Int32)) r35.2 _ hf
    · replace hf := (if_neg h1).symm.trans hf
      refine go_icY (pc := 7) (pc' := 45) d16_7 (XT.ii_ge_t h1) j_7_38 ?_
      cases hf
      exact go_ret (pc := 45) rfl d16_45
set_option maxRecDepth 65536 in
set_option maxHeartbeats 4000000 in
theorem k_scanEdges_ok  : ∀  (s : S)  (o : S), k_scanEdges s = some o → Go PP m16 0 [.val (.ref 1), .unset] [] (none, [(12, s)]) (none, (none, [(12, o)])) := by
  intro s o hf
  unfold k_scanEdges at hf
  refine go_iconst (pc := 0) d16_0 ci_0 (go_istoreN (pc := 1) (L' := [.val (.ref 1), .val (.int (0 : Int32))]) d16_1 rfl ?_)
  exact k_scanEdges_2_ok BIG (0 : Int32) s _ hf
theorem c_k_scanEdges (s : S) (o : S) (hf : k_scanEdges s = some o) : Call PP m16 [.ref 1] (none, [(12, s)]) (none, (none, [(12, o)])) := call_of_go pl_0 rfl (fun _ => rfl) (k_scanEdges_ok s   _ hf)
set_option maxRecDepth 65536 in
set_option maxHeartbeats 4000000 in
theorem k_isRule_ok  : ∀ (v1 : Int32) (s : S)  (o : Int32), k_isRule v1 s = o → Go PP m17 0 [.val (.ref 1), .val (.int v1)] [] (none, [(12, s)]) (some (.int o), (none, [(12, s)])) := by
  intro v1 s o hf
  unfold k_isRule at hf
  refine go_iloadN (pc := 0) d17_0 rfl ?_
  by_cases h1 : v1 < 0
  · replace hf := (if_pos h1).symm.trans hf
    refine go_ifY (pc := 1) (pc' := 16) d17_1 (XT.i0_lt_t h1) j_1_15 ?_
    refine go_iconst (pc := 16) d17_16 ci_0 ?_
    cases hf
    exact go_zret (pc := 17) rfl d17_17 (show (0 : Int32) = nar .boolean (0 : Int32) by decide)
  · replace hf := (if_neg h1).symm.trans hf
    refine go_ifN (pc := 1) d17_1 (XT.i0_lt_f h1) ?_
    refine go_iloadN (pc := 4) d17_4 rfl (go_aloadN (pc := 5) d17_5 rfl (go_getI (pc := 6) fs_67 hm_17 d17_6 ?_))
    by_cases h2 : v1 < (gI s 3)
    · replace hf := (if_pos h2).symm.trans hf
      refine go_icN (pc := 9) d17_9 (XT.ii_ge_f h2) ?_
      refine go_iconst (pc := 12) d17_12 ci_1 (go_goto (pc := 13) (pc' := 17) d17_13 j_13_4 ?_)
      cases hf
      exact go_zret (pc := 17) rfl d17_17 (show (1 : Int32) = nar .boolean (1 : Int32) by decide)
    · replace hf := (if_neg h2).symm.trans hf
      refine go_icY (pc := 9) (pc' := 16) d17_9 (XT.ii_ge_t h2) j_9_7 ?_
      refine go_iconst (pc := 16) d17_16 ci_0 ?_
      cases hf
      exact go_zret (pc := 17) rfl d17_17 (show (0 : Int32) = nar .boolean (0 : Int32) by decide)
theorem c_k_isRule (v1 : Int32) (s : S) : Call PP m17 [.ref 1, .int v1] (none, [(12, s)]) (some (.int (k_isRule v1 s)), (none, [(12, s)])) := call_of_go pl_0 rfl (fun h => nomatch h) (k_isRule_ok v1 s   _ rfl)
set_option maxRecDepth 65536 in
set_option maxHeartbeats 4000000 in
theorem k_isDot_ok  {s : S} : ∀ (v1 : Int32)   (o : Int32), k_isDot v1 = o → Go PP m18 0 [.val (.ref 1), .val (.int v1)] [] (none, [(12, s)]) (some (.int o), (none, [(12, s)])) := by
  intro v1 o hf
  unfold k_isDot at hf
  refine go_iloadN (pc := 0) d18_0 rfl ?_
  by_cases h1 : v1 < 0
  · replace hf := (if_pos h1).symm.trans hf
    refine go_ifY (pc := 1) (pc' := 13) d18_1 (XT.i0_lt_t h1) j_1_12 ?_
    refine go_iconst (pc := 13) d18_13 ci_0 ?_
    cases hf
    exact go_zret (pc := 14) rfl d18_14 (show (0 : Int32) = nar .boolean (0 : Int32) by decide)
  · replace hf := (if_neg h1).symm.trans hf
    refine go_ifN (pc := 1) d18_1 (XT.i0_lt_f h1) ?_
    refine go_iloadN (pc := 4) d18_4 rfl (go_iconst (pc := 5) d18_5 ci_3 ?_)
    by_cases h2 : (3 : Int32) < v1
    · replace hf := (if_pos h2).symm.trans hf
      refine go_icY (pc := 6) (pc' := 13) d18_6 (XT.ii_gt_t h2) j_6_7 ?_
      refine go_iconst (pc := 13) d18_13 ci_0 ?_
      cases hf
      exact go_zret (pc := 14) rfl d18_14 (show (0 : Int32) = nar .boolean (0 : Int32) by decide)
    · replace hf := (if_neg h2).symm.trans hf
      refine go_icN (pc := 6) d18_6 (XT.ii_gt_f h2) ?_
      refine go_iconst (pc := 9) d18_9 ci_1 (go_goto (pc := 10) (pc' := 14) d18_10 j_10_4 ?_)
      cases hf
      exact go_zret (pc := 14) rfl d18_14 (show (1 : Int32) = nar .boolean (1 : Int32) by decide)
theorem c_k_isDot (v1 : Int32) (s : S) : Call PP m18 [.ref 1, .int v1] (none, [(12, s)]) (some (.int (k_isDot v1)), (none, [(12, s)])) := call_of_go pl_0 rfl (fun h => nomatch h) (k_isDot_ok v1   _ rfl)
set_option maxRecDepth 65536 in
set_option maxHeartbeats 4000000 in
theorem k_itemSlot_ok  : ∀ (v1 : Int32) (v2 : Int32) (v3 : Int32) (v4 : Int32) (s : S)  (o : Int32), k_itemSlot v1 v2 v3 v4 s = o → Go PP m19 0 [.val (.ref 1), .val (.int v1), .val (.int v2), .val (.int v3), .val (.int v4)] [] (none, [(12, s)]) (some (.int o), (none, [(12, s)])) := by
  intro v1 v2 v3 v4 s o hf
  unfold k_itemSlot at hf
  refine go_aloadN (pc := 0) d19_0 rfl (go_iloadN (pc := 1) d19_1 rfl ?_)
  refine go_priv (pc := 2) (i := 0) (as := [.int v1]) (rest := []) (w' := (none, [(12, s)])) lk_0_123 pd_17 rfl oid_0 rfl rfl rfl rfl rfl rfl ⟨rfl, rfl, rfl, rfl, rfl⟩ d19_2 (c_k_isRule v1 s) ?_
  by_cases h1 : (k_isRule v1 s) = 0
  · replace hf := (if_pos h1).symm.trans hf
    refine go_ifY (pc := 5) (pc' := 33) d19_5 (XT.i0_eq_t h1) j_5_28 ?_
    refine go_iconst (pc := 33) d19_33 ci_m1 ?_
    cases hf
    exact go_iret (pc := 34) rfl d19_34
  · replace hf := (if_neg h1).symm.trans hf
    refine go_ifN (pc := 5) d19_5 (XT.i0_eq_f h1) ?_
    refine go_aloadN (pc := 8) d19_8 rfl (go_iloadN (pc := 9) d19_9 rfl ?_)
    refine go_priv (pc := 10) (i := 0) (as := [.int v2]) (rest := []) (w' := (none, [(12, s)])) lk_0_136 pd_18 rfl oid_0 rfl rfl rfl rfl rfl rfl ⟨rfl, rfl, rfl, rfl, rfl⟩ d19_10 (c_k_isDot v2 s) ?_
    by_cases h2 : (k_isDot v2) = 0
    · replace hf := (if_pos h2).symm.trans hf
      refine go_ifY (pc := 13) (pc' := 33) d19_13 (XT.i0_eq_t h2) j_13_20 ?_
      refine go_iconst (pc := 33) d19_33 ci_m1 ?_
      cases hf
      exact go_iret (pc := 34) rfl d19_34
    · replace hf := (if_neg h2).symm.trans hf
      refine go_ifN (pc := 13) d19_13 (XT.i0_eq_f h2) ?_
      refine go_aloadN (pc := 16) d19_16 rfl (go_iloadN (pc := 17) d19_17 rfl ?_)
      refine go_priv (pc := 18) (i := 0) (as := [.int v3]) (rest := []) (w' := (none, [(12, s)])) lk_0_111 pd_13 rfl oid_0 rfl rfl rfl rfl rfl rfl ⟨rfl, rfl, rfl, rfl, rfl⟩ d19_18 (c_k_isNode v3 s) ?_
      by_cases h3 : (k_isNode v3 s) = 0
      · replace hf := (if_pos h3).symm.trans hf
        refine go_ifY (pc := 21) (pc' := 33) d19_21 (XT.i0_eq_t h3) j_21_12 ?_
        refine go_iconst (pc := 33) d19_33 ci_m1 ?_
        cases hf
        exact go_iret (pc := 34) rfl d19_34
      · replace hf := (if_neg h3).symm.trans hf
        refine go_ifN (pc := 21) d19_21 (XT.i0_eq_f h3) ?_
        refine go_aloadN (pc := 24) d19_24 rfl (go_iload (pc := 25) d19_25 rfl ?_)
        refine go_priv (pc := 27) (i := 0) (as := [.int v4]) (rest := []) (w' := (none, [(12, s)])) lk_0_111 pd_13 rfl oid_0 rfl rfl rfl rfl rfl rfl ⟨rfl, rfl, rfl, rfl, rfl⟩ d19_27 (c_k_isNode v4 s) ?_
        by_cases h4 : (k_isNode v4 s) = 0
        · replace hf := (if_pos h4).symm.trans hf
          refine go_ifN (pc := 30) d19_30 (XT.i0_ne_f h4) ?_
          refine go_iconst (pc := 33) d19_33 ci_m1 ?_
          cases hf
          exact go_iret (pc := 34) rfl d19_34
        · replace hf := (if_neg h4).symm.trans hf
          refine go_ifY (pc := 30) (pc' := 35) d19_30 (XT.i0_ne_t h4) j_30_5 ?_
          refine go_iloadN (pc := 35) d19_35 rfl (go_iconst (pc := 36) d19_36 ci_4 (go_imul (pc := 37) d19_37 (go_iloadN (pc := 38) d19_38 rfl (go_iadd (pc := 39) d19_39 (go_bipush (pc := 40) d19_40 cb_64 (go_imul (pc := 42) d19_42 (go_iloadN (pc := 43) d19_43 rfl ?_)))))))
          refine go_bipush (pc := 44) d19_44 cb_8 (go_imul (pc := 46) d19_46 (go_iadd (pc := 47) d19_47 (go_iload (pc := 48) d19_48 rfl (go_iadd (pc := 50) d19_50 ?_))))
          cases hf
          exact go_iret (pc := 51) rfl d19_51
theorem c_k_itemSlot (v1 : Int32) (v2 : Int32) (v3 : Int32) (v4 : Int32) (s : S) : Call PP m19 [.ref 1, .int v1, .int v2, .int v3, .int v4] (none, [(12, s)]) (some (.int (k_itemSlot v1 v2 v3 v4 s)), (none, [(12, s)])) := call_of_go pl_0 rfl (fun h => nomatch h) (k_itemSlot_ok v1 v2 v3 v4 s   _ rfl)
set_option maxRecDepth 65536 in
set_option maxHeartbeats 4000000 in
theorem k_lowerItem_ok  : ∀ (v1 : Int32) (v2 : Int32) (v3 : Int32) (v4 : Int32) (v5 : Int32) (s : S)  (o : Int32 × S), k_lowerItem v1 v2 v3 v4 v5 s = some o → Go PP m20 0 [.val (.ref 1), .val (.int v1), .val (.int v2), .val (.int v3), .val (.int v4), .val (.int v5), .unset] [] (none, [(12, s)]) (some (.int o.1), (none, [(12, o.2)])) := by
  intro v1 v2 v3 v4 v5 s o hf
  unfold k_lowerItem at hf
  refine go_aloadN (pc := 0) d20_0 rfl (go_iloadN (pc := 1) d20_1 rfl (go_iloadN (pc := 2) d20_2 rfl (go_iloadN (pc := 3) d20_3 rfl (go_iload (pc := 4) d20_4 rfl ?_))))
  refine go_priv (pc := 6) (i := 0) (as := [.int v1, .int v2, .int v3, .int v4]) (rest := []) (w' := (none, [(12, s)])) lk_0_142 pd_19 rfl oid_0 rfl rfl rfl rfl rfl rfl ⟨rfl, rfl, rfl, rfl, rfl⟩ d20_6 (c_k_itemSlot v1 v2 v3 v4 s) ?_
  refine go_istore (pc := 9) (L' := [.val (.ref 1), .val (.int v1), .val (.int v2), .val (.int v3), .val (.int v4), .val (.int v5), .val (.int (k_itemSlot v1 v2 v3 v4 s))]) d20_9 rfl (go_iload (pc := 11) d20_11 rfl ?_)
  by_cases h1 : (k_itemSlot v1 v2 v3 v4 s) < 0
  · replace hf := (if_pos h1).symm.trans hf
    refine go_ifY (pc := 13) (pc' := 28) d20_13 (XT.i0_lt_t h1) j_13_15 ?_
    refine go_iconst (pc := 28) d20_28 ci_0 ?_
    cases hf
    exact go_zret (pc := 29) rfl d20_29 (show (0 : Int32) = nar .boolean (0 : Int32) by decide)
  · replace hf := (if_neg h1).symm.trans hf
    refine go_ifN (pc := 13) d20_13 (XT.i0_lt_f h1) ?_
    refine go_iload (pc := 16) d20_16 rfl (go_aloadN (pc := 18) d20_18 rfl (go_getA (pc := 19) fa_42 hm_20 d20_19 rfl (go_iload (pc := 22) d20_22 rfl ?_)))
    obtain ⟨a24, e2, hf⟩ := Option.bind_eq_some_iff.mp hf
    refine go_iaload (pc := 24) (q := 9) ar_9 rfl e2 d20_24 ?_
    by_cases h3 : v5 < a24
    · replace hf := (if_pos h3).symm.trans hf
      refine go_icY (pc := 25) (pc' := 30) d20_25 (XT.ii_lt_t h3) j_25_5 ?_
      refine go_aloadN (pc := 30) d20_30 rfl (go_getA (pc := 31) fa_42 hm_20 d20_31 rfl (go_iload (pc := 34) d20_34 rfl (go_iload (pc := 36) d20_36 rfl ?_)))
      obtain ⟨a38, e4, hf⟩ := Option.bind_eq_some_iff.mp hf
      refine go_iastore (pc := 38) (q := 9) ar_9 rfl hn_20 e4 d20_38 ?_
      refine go_iconst (pc := 39) d20_39 ci_1 ?_
      cases hf
      exact go_zret (pc := 40) rfl d20_40 (show (1 : Int32) = nar .boolean (1 : Int32) by decide)
    · replace hf := (if_neg h3).symm.trans hf
      refine go_icN (pc := 25) d20_25 (XT.ii_lt_f h3) ?_
      refine go_iconst (pc := 28) d20_28 ci_0 ?_
      cases hf
      exact go_zret (pc := 29) rfl d20_29 (show (0 : Int32) = nar .boolean (0 : Int32) by decide)
theorem c_k_lowerItem (v1 : Int32) (v2 : Int32) (v3 : Int32) (v4 : Int32) (v5 : Int32) (s : S) (o : Int32 × S) (hf : k_lowerItem v1 v2 v3 v4 v5 s = some o) : Call PP m20 [.ref 1, .int v1, .int v2, .int v3, .int v4, .int v5] (none, [(12, s)]) (some (.int o.1), (none, [(12, o.2)])) := call_of_go pl_0 rfl (fun h => nomatch h) (k_lowerItem_ok v1 v2 v3 v4 v5 s   _ hf)
def T_k_seedItems_2 (k2 : Int32 → S → Option S) : Prop := ∀ (v1 : Int32) (s : S) (x2 : Slot) (hx2 : k1 x2) (o : S), k2 v1 s = some o → Go PP m21 2 [.val (.ref 1), .val (.int v1), x2] [] (none, [(12, s)]) (none, (none, [(12, o)]))
set_option maxRecDepth 65536 in
set_option maxHeartbeats 4000000 in
theorem k_seedItems_12_ok {k2 : Int32 → S → Option S} (hk2 : T_k_seedItems_2 k2) : ∀ (n : Nat) (v1 : Int32) (v2 : Int32) (s : S)  (o : S), k_seedItems_12 k2 n v1 v2 s = some o → Go PP m21 12 [.val (.ref 1), .val (.int v1), .val (.int v2)] [] (none, [(12, s)]) (none, (none, [(12, o)])) := by
  intro n
  induction n with
  | zero => intro v1 v2 s o hf; exact nomatch hf
  | succ n ih =>
    intro v1 v2 s o hf
    unfold k_seedItems_12 at hf
    refine go_iloadN (pc := 12) d21_12 rfl (go_aloadN (pc := 13) d21_13 rfl (go_getI (pc := 14) fs_55 hm_21 d21_14 ?_))
    by_cases h1 : v2 < (gI s 1)
    · replace hf := (if_pos h1).symm.trans hf
      refine go_icN (pc := 17) d21_17 (XT.ii_ge_f h1) ?_
      refine go_aloadN (pc := 20) d21_20 rfl (go_iloadN (pc := 21) d21_21 rfl (go_iconst (pc := 22) d21_22 ci_0 (go_iloadN (pc := 23) d21_23 rfl (go_iloadN (pc := 24) d21_24 rfl (go_aloadN (pc := 25) d21_25 rfl (go_getA (pc := 26) fa_30 hm_21 d21_26 rfl (go_iloadN (pc := 29) d21_29 rfl ?_)))))))
      obtain ⟨a30, e2, hf⟩ := Option.bind_eq_some_iff.mp hf
      refine go_iaload (pc := 30) (q := 5) ar_5 rfl e2 d21_30 ?_
      obtain ⟨r31, e3, hf⟩ := Option.bind_eq_some_iff.mp hf
      refine go_priv (pc := 31) (i := 0) (as := [.int v1, .int (0 : Int32), .int v2, .int v2, .int a30]) (rest := []) (w' := (none, [(12, r31.2)])) lk_0_159 pd_20 rfl oid_0 rfl rfl rfl rfl rfl rfl ⟨rfl, rfl, rfl, rfl, rfl⟩ d21_31 (c_k_lowerItem v1 (0 : Int32) v2 v2 a30 s _ e3) ?_
      refine go_pop (pc := 34) d21_34 (go_iinc (pc := 35) (L' := [.val (.ref 1), .val (.int v1), .val (.int (v2 + (1 : Int32)))]) d21_35 rfl ci_1 rfl (go_goto (pc := 38) (pc' := 12) d21_38 j_38_m26 ?_))
      exact ih v1 (v2 + (1 : Int32)) r31.2 _ hf
    · replace hf := (if_neg h1).symm.trans hf
      refine go_icY (pc := 17) (pc' := 41) d21_17 (XT.ii_ge_t h1) j_17_24 ?_
      refine go_iinc (pc := 41) (L' := [.val (.ref 1), .val (.int (v1 + (1 : Int32))), .val (.int v2)]) d21_41 rfl ci_1 rfl (go_goto (pc := 44) (pc' := 2) d21_44 j_44_m42 ?_)
      exact hk2 (v1 + (1 : Int32)) s (.val (.int v2)) (Or.inr ⟨_, rfl, rfl⟩) _ hf
set_option maxRecDepth 65536 in
set_option maxHeartbeats 4000000 in
theorem k_seedItems_2_ok  : ∀ (n : Nat) (v1 : Int32) (s : S) (x2 : Slot) (hx2 : k1 x2) (o : S), k_seedItems_2 n v1 s = some o → Go PP m21 2 [.val (.ref 1), .val (.int v1), x2] [] (none, [(12, s)]) (none, (none, [(12, o)])) := by
  intro n
  induction n with
  | zero => intro v1 s x2 hx2 o hf; exact nomatch hf
  | succ n ih =>
    intro v1 s x2 hx2 o hf
    unfold k_seedItems_2 at hf
    refine go_iloadN (pc := 2) d21_2 rfl (go_aloadN (pc := 3) d21_3 rfl (go_getI (pc := 4) fs_67 hm_21 d21_4 ?_))
    by_cases h1 : v1 < (gI s 3)
    · replace hf := (if_pos h1).symm.trans hf
      refine go_icN (pc := 7) d21_7 (XT.ii_ge_f h1) ?_
      refine go_iconst (pc := 10) d21_10 ci_0 (go_istoreN (pc := 11) (L' := [.val (.ref 1), .val (.int v1), .val (.int (0 : Int32))]) d21_11 (stx rfl hx2 rfl) ?_)
      exact k_seedItems_12_ok ih BIG v1 (0 : Int32) s _ hf
    · replace hf := (if_neg h1).symm.trans hf
      refine go_icY (pc := 7) (pc' := 47) d21_7 (XT.ii_ge_t h1) j_7_40 ?_
      cases hf
      exact go_ret (pc := 47) rfl d21_47
set_option maxRecDepth 65536 in
set_option maxHeartbeats 4000000 in
theorem k_seedItems_ok  : ∀  (s : S)  (o : S), k_seedItems s = some o → Go PP m21 0 [.val (.ref 1), .unset, .unset] [] (none, [(12, s)]) (none, (none, [(12, o)])) := by
  intro s o hf
  unfold k_seedItems at hf
  refine go_iconst (pc := 0) d21_0 ci_0 (go_istoreN (pc := 1) (L' := [.val (.ref 1), .val (.int (0 : Int32)), .unset]) d21_1 rfl ?_)
  exact k_seedItems_2_ok BIG (0 : Int32) s .unset (Or.inl rfl) _ hf
theorem c_k_seedItems (s : S) (o : S) (hf : k_seedItems s = some o) : Call PP m21 [.ref 1] (none, [(12, s)]) (none, (none, [(12, o)])) := call_of_go pl_0 rfl (fun _ => rfl) (k_seedItems_ok s   _ hf)
set_option maxRecDepth 65536 in
set_option maxHeartbeats 4000000 in
theorem k_symbolAt_ok  : ∀ (v1 : Int32) (v2 : Int32) (s : S)  (o : Int32), k_symbolAt v1 v2 s = some o → Go PP m22 0 [.val (.ref 1), .val (.int v1), .val (.int v2)] [] (none, [(12, s)]) (some (.int o), (none, [(12, s)])) := by
  intro v1 v2 s o hf
  unfold k_symbolAt at hf
  refine go_iloadN (pc := 0) d22_0 rfl ?_
  by_cases h1 : v1 < 0
  · replace hf := (if_pos h1).symm.trans hf
    refine go_ifY (pc := 1) (pc' := 19) d22_1 (XT.i0_lt_t h1) j_1_18 ?_
    refine go_iconst (pc := 19) d22_19 ci_0 ?_
    cases hf
    exact go_iret (pc := 20) rfl d22_20
  · replace hf := (if_neg h1).symm.trans hf
    refine go_ifN (pc := 1) d22_1 (XT.i0_lt_f h1) ?_
    refine go_iloadN (pc := 4) d22_4 rfl (go_bipush (pc := 5) d22_5 cb_12 ?_)
    by_cases h2 : v1 < (12 : Int32)
    · replace hf := (if_pos h2).symm.trans hf
      refine go_icN (pc := 7) d22_7 (XT.ii_ge_f h2) ?_
      refine go_iloadN (pc := 10) d22_10 rfl ?_
      by_cases h3 : v2 < 0
      · replace hf := (if_pos h3).symm.trans hf
        refine go_ifY (pc := 11) (pc' := 19) d22_11 (XT.i0_lt_t h3) j_11_8 ?_
        refine go_iconst (pc := 19) d22_19 ci_0 ?_
        cases hf
        exact go_iret (pc := 20) rfl d22_20
      · replace hf := (if_neg h3).symm.trans hf
        refine go_ifN (pc := 11) d22_11 (XT.i0_lt_f h3) ?_
        refine go_iloadN (pc := 14) d22_14 rfl (go_iconst (pc := 15) d22_15 ci_3 ?_)
        by_cases h4 : v2 < (3 : Int32)
        · replace hf := (if_pos h4).symm.trans hf
          refine go_icY (pc := 16) (pc' := 21) d22_16 (XT.ii_lt_t h4) j_16_5 ?_
          refine go_aloadN (pc := 21) d22_21 rfl (go_getA (pc := 22) fa_36 hm_22 d22_22 rfl (go_iloadN (pc := 25) d22_25 rfl (go_iconst (pc := 26) d22_26 ci_3 (go_imul (pc := 27) d22_27 (go_iloadN (pc := 28) d22_28 rfl (go_iadd (pc := 29) d22_29 ?_))))))
          obtain ⟨a30, e5, hf⟩ := Option.bind_eq_some_iff.mp hf
          refine go_iaload (pc := 30) (q := 7) ar_7 rfl e5 d22_30 ?_
          cases hf
          exact go_iret (pc := 31) rfl d22_31
        · replace hf := (if_neg h4).symm.trans hf
          refine go_icN (pc := 16) d22_16 (XT.ii_lt_f h4) ?_
          refine go_iconst (pc := 19) d22_19 ci_0 ?_
          cases hf
          exact go_iret (pc := 20) rfl d22_20
    · replace hf := (if_neg h2).symm.trans hf
      refine go_icY (pc := 7) (pc' := 19) d22_7 (XT.ii_ge_t h2) j_7_12 ?_
      refine go_iconst (pc := 19) d22_19 ci_0 ?_
      cases hf
      exact go_iret (pc := 20) rfl d22_20
theorem c_k_symbolAt (v1 : Int32) (v2 : Int32) (s : S) (o : Int32) (hf : k_symbolAt v1 v2 s = some o) : Call PP m22 [.ref 1, .int v1, .int v2] (none, [(12, s)]) (some (.int o), (none, [(12, s)])) := call_of_go pl_0 rfl (fun h => nomatch h) (k_symbolAt_ok v1 v2 s   _ hf)
set_option maxRecDepth 65536 in
set_option maxHeartbeats 4000000 in
theorem k_getItem_ok  : ∀ (v1 : Int32) (v2 : Int32) (v3 : Int32) (v4 : Int32) (s : S)  (o : Int32), k_getItem v1 v2 v3 v4 s = some o → Go PP m23 0 [.val (.ref 1), .val (.int v1), .val (.int v2), .val (.int v3), .val (.int v4), .unset] [] (none, [(12, s)]) (some (.int o), (none, [(12, s)])) := by
  intro v1 v2 v3 v4 s o hf
  unfold k_getItem at hf
  refine go_aloadN (pc := 0) d23_0 rfl (go_iloadN (pc := 1) d23_1 rfl (go_iloadN (pc := 2) d23_2 rfl (go_iloadN (pc := 3) d23_3 rfl (go_iload (pc := 4) d23_4 rfl ?_))))
  refine go_priv (pc := 6) (i := 0) (as := [.int v1, .int v2, .int v3, .int v4]) (rest := []) (w' := (none, [(12, s)])) lk_0_142 pd_19 rfl oid_0 rfl rfl rfl rfl rfl rfl ⟨rfl, rfl, rfl, rfl, rfl⟩ d23_6 (c_k_itemSlot v1 v2 v3 v4 s) ?_
  refine go_istore (pc := 9) (L' := [.val (.ref 1), .val (.int v1), .val (.int v2), .val (.int v3), .val (.int v4), .val (.int (k_itemSlot v1 v2 v3 v4 s))]) d23_9 rfl (go_iload (pc := 11) d23_11 rfl ?_)
  by_cases h1 : (k_itemSlot v1 v2 v3 v4 s) < 0
  · replace hf := (if_pos h1).symm.trans hf
    refine go_ifN (pc := 13) d23_13 (XT.i0_ge_f h1) ?_
    refine go_aloadN (pc := 16) d23_16 rfl (go_getI (pc := 17) fs_8 hm_23 d23_17 ?_)
    cases hf
    exact go_iret (pc := 20) rfl d23_20
  · replace hf := (if_neg h1).symm.trans hf
    refine go_ifY (pc := 13) (pc' := 21) d23_13 (XT.i0_ge_t h1) j_13_8 ?_
    refine go_aloadN (pc := 21) d23_21 rfl (go_getA (pc := 22) fa_42 hm_23 d23_22 rfl (go_iload (pc := 25) d23_25 rfl ?_))
    obtain ⟨a27, e2, hf⟩ := Option.bind_eq_some_iff.mp hf
    refine go_iaload (pc := 27) (q := 9) ar_9 rfl e2 d23_27 ?_
    cases hf
    exact go_iret (pc := 28) rfl d23_28
theorem c_k_getItem (v1 : Int32) (v2 : Int32) (v3 : Int32) (v4 : Int32) (s : S) (o : Int32) (hf : k_getItem v1 v2 v3 v4 s = some o) : Call PP m23 [.ref 1, .int v1, .int v2, .int v3, .int v4] (none, [(12, s)]) (some (.int o), (none, [(12, s)])) := call_of_go pl_0 rfl (fun h => nomatch h) (k_getItem_ok v1 v2 v3 v4 s   _ hf)
set_option maxRecDepth 65536 in
set_option maxHeartbeats 4000000 in
theorem k_getSpan_ok  : ∀ (v1 : Int32) (v2 : Int32) (v3 : Int32) (s : S)  (o : Int32), k_getSpan v1 v2 v3 s = some o → Go PP m24 0 [.val (.ref 1), .val (.int v1), .val (.int v2), .val (.int v3), .unset] [] (none, [(12, s)]) (some (.int o), (none, [(12, s)])) := by
  intro v1 v2 v3 s o hf
  unfold k_getSpan at hf
  refine go_aloadN (pc := 0) d24_0 rfl (go_iloadN (pc := 1) d24_1 rfl (go_iloadN (pc := 2) d24_2 rfl (go_iloadN (pc := 3) d24_3 rfl ?_)))
  refine go_priv (pc := 4) (i := 0) (as := [.int v1, .int v2, .int v3]) (rest := []) (w' := (none, [(12, s)])) lk_0_139 pd_14 rfl oid_0 rfl rfl rfl rfl rfl rfl ⟨rfl, rfl, rfl, rfl, rfl⟩ d24_4 (c_k_spanSlot v1 v2 v3 s) ?_
  refine go_istore (pc := 7) (L' := [.val (.ref 1), .val (.int v1), .val (.int v2), .val (.int v3), .val (.int (k_spanSlot v1 v2 v3 s))]) d24_7 rfl (go_iload (pc := 9) d24_9 rfl ?_)
  by_cases h1 : (k_spanSlot v1 v2 v3 s) < 0
  · replace hf := (if_pos h1).symm.trans hf
    refine go_ifN (pc := 11) d24_11 (XT.i0_ge_f h1) ?_
    refine go_aloadN (pc := 14) d24_14 rfl (go_getI (pc := 15) fs_8 hm_24 d24_15 ?_)
    cases hf
    exact go_iret (pc := 18) rfl d24_18
  · replace hf := (if_neg h1).symm.trans hf
    refine go_ifY (pc := 11) (pc' := 19) d24_11 (XT.i0_ge_t h1) j_11_8 ?_
    refine go_aloadN (pc := 19) d24_19 rfl (go_getA (pc := 20) fa_39 hm_24 d24_20 rfl (go_iload (pc := 23) d24_23 rfl ?_))
    obtain ⟨a25, e2, hf⟩ := Option.bind_eq_some_iff.mp hf
    refine go_iaload (pc := 25) (q := 8) ar_8 rfl e2 d24_25 ?_
    cases hf
    exact go_iret (pc := 26) rfl d24_26
theorem c_k_getSpan (v1 : Int32) (v2 : Int32) (v3 : Int32) (s : S) (o : Int32) (hf : k_getSpan v1 v2 v3 s = some o) : Call PP m24 [.ref 1, .int v1, .int v2, .int v3] (none, [(12, s)]) (some (.int o), (none, [(12, s)])) := call_of_go pl_0 rfl (fun h => nomatch h) (k_getSpan_ok v1 v2 v3 s   _ hf)
set_option maxRecDepth 65536 in
set_option maxHeartbeats 4000000 in
theorem k_plus_ok  : ∀ (v1 : Int32) (v2 : Int32) (s : S)  (o : Int32), k_plus v1 v2 s = o → Go PP m25 0 [.val (.ref 1), .val (.int v1), .val (.int v2), .unset] [] (none, [(12, s)]) (some (.int o), (none, [(12, s)])) := by
  intro v1 v2 s o hf
  unfold k_plus at hf
  refine go_iloadN (pc := 0) d25_0 rfl (go_aloadN (pc := 1) d25_1 rfl (go_getI (pc := 2) fs_8 hm_25 d25_2 ?_))
  by_cases h1 : v1 < (gI s 0)
  · replace hf := (if_pos h1).symm.trans hf
    refine go_icN (pc := 5) d25_5 (XT.ii_ge_f h1) ?_
    refine go_iloadN (pc := 8) d25_8 rfl (go_aloadN (pc := 9) d25_9 rfl (go_getI (pc := 10) fs_8 hm_25 d25_10 ?_))
    by_cases h2 : v2 < (gI s 0)
    · replace hf := (if_pos h2).symm.trans hf
      refine go_icY (pc := 13) (pc' := 21) d25_13 (XT.ii_lt_t h2) j_13_8 ?_
      refine go_iloadN (pc := 21) d25_21 rfl (go_iloadN (pc := 22) d25_22 rfl (go_iadd (pc := 23) d25_23 (go_istoreN (pc := 24) (L' := [.val (.ref 1), .val (.int v1), .val (.int v2), .val (.int (v1 + v2))]) d25_24 rfl (go_iloadN (pc := 25) d25_25 rfl (go_aloadN (pc := 26) d25_26 rfl (go_getI (pc := 27) fs_8 hm_25 d25_27 ?_))))))
      by_cases h3 : (v1 + v2) < (gI s 0)
      · replace hf := (if_pos h3).symm.trans hf
        refine go_icY (pc := 30) (pc' := 38) d25_30 (XT.ii_lt_t h3) j_30_8 ?_
        refine go_iloadN (pc := 38) d25_38 rfl ?_
        cases hf
        exact go_iret (pc := 39) rfl d25_39
      · replace hf := (if_neg h3).symm.trans hf
        refine go_icN (pc := 30) d25_30 (XT.ii_lt_f h3) ?_
        refine go_aloadN (pc := 33) d25_33 rfl (go_getI (pc := 34) fs_8 hm_25 d25_34 ?_)
        cases hf
        exact go_iret (pc := 37) rfl d25_37
    · replace hf := (if_neg h2).symm.trans hf
      refine go_icN (pc := 13) d25_13 (XT.ii_lt_f h2) ?_
      refine go_aloadN (pc := 16) d25_16 rfl (go_getI (pc := 17) fs_8 hm_25 d25_17 ?_)
      cases hf
      exact go_iret (pc := 20) rfl d25_20
  · replace hf := (if_neg h1).symm.trans hf
    refine go_icY (pc := 5) (pc' := 16) d25_5 (XT.ii_ge_t h1) j_5_11 ?_
    refine go_aloadN (pc := 16) d25_16 rfl (go_getI (pc := 17) fs_8 hm_25 d25_17 ?_)
    cases hf
    exact go_iret (pc := 20) rfl d25_20
theorem c_k_plus (v1 : Int32) (v2 : Int32) (s : S) : Call PP m25 [.ref 1, .int v1, .int v2] (none, [(12, s)]) (some (.int (k_plus v1 v2 s)), (none, [(12, s)])) := call_of_go pl_0 rfl (fun h => nomatch h) (k_plus_ok v1 v2 s   _ rfl)
set_option maxRecDepth 65536 in
set_option maxHeartbeats 4000000 in
theorem k_bestAdvance_17_ok  : ∀ (n : Nat) (v1 : Int32) (v2 : Int32) (v3 : Int32) (v4 : Int32) (v5 : Int32) (v6 : Int32) (v7 : Int32) (s : S) (x8 : Slot) (x9 : Slot) (x10 : Slot) (hx8 : k1 x8) (hx9 : k1 x9) (hx10 : k1 x10) (o : Int32), k_bestAdvance_17 n v1 v2 v3 v4 v5 v6 v7 s = some o → Go PP m26 17 [.val (.ref 1), .val (.int v1), .val (.int v2), .val (.int v3), .val (.int v4), .val (.int v5), .val (.int v6), .val (.int v7), x8, x9, x10] [] (none, [(12, s)]) (some (.int o), (none, [(12, s)])) := by
  intro n
  induction n with
  | zero => intro v1 v2 v3 v4 v5 v6 v7 s x8 x9 x10 hx8 hx9 hx10 o hf; exact nomatch hf
  | succ n ih =>
    intro v1 v2 v3 v4 v5 v6 v7 s x8 x9 x10 hx8 hx9 hx10 o hf
    unfold k_bestAdvance_17 at hf
    refine go_iload (pc := 17) d26_17 rfl (go_iload (pc := 19) d26_19 rfl ?_)
    by_cases h1 : v4 < v7
    · replace hf := (if_pos h1).symm.trans hf
      refine go_icY (pc := 21) (pc' := 74) d26_21 (XT.ii_gt_t h1) j_21_53 ?_
      refine go_iload (pc := 74) d26_74 rfl ?_
      cases hf
      exact go_iret (pc := 76) rfl d26_76
    · replace hf := (if_neg h1).symm.trans hf
      refine go_icN (pc := 21) d26_21 (XT.ii_gt_f h1) ?_
      refine go_aloadN (pc := 24) d26_24 rfl (go_iloadN (pc := 25) d26_25 rfl (go_iloadN (pc := 26) d26_26 rfl (go_iloadN (pc := 27) d26_27 rfl (go_iload (pc := 28) d26_28 rfl ?_))))
      obtain ⟨r30, e2, hf⟩ := Option.bind_eq_some_iff.mp hf
      refine go_priv (pc := 30) (i := 0) (as := [.int v1, .int v2, .int v3, .int v7]) (rest := []) (w' := (none, [(12, s)])) lk_0_176 pd_23 rfl oid_0 rfl rfl rfl rfl rfl rfl ⟨rfl, rfl, rfl, rfl, rfl⟩ d26_30 (c_k_getItem v1 v2 v3 v7 s _ e2) ?_
      refine go_istore (pc := 33) (L' := [.val (.ref 1), .val (.int v1), .val (.int v2), .val (.int v3), .val (.int v4), .val (.int v5), .val (.int v6), .val (.int v7), .val (.int r30), x9, x10]) d26_33 (stx rfl hx8 rfl) (go_aloadN (pc := 35) d26_35 rfl (go_iload (pc := 36) d26_36 rfl (go_iload (pc := 38) d26_38 rfl (go_iload (pc := 40) d26_40 rfl ?_))))
      obtain ⟨r42, e3, hf⟩ := Option.bind_eq_some_iff.mp hf
      refine go_priv (pc := 42) (i := 0) (as := [.int v5, .int v7, .int v4]) (rest := []) (w' := (none, [(12, s)])) lk_0_91 pd_24 rfl oid_0 rfl rfl rfl rfl rfl rfl ⟨rfl, rfl, rfl, rfl, rfl⟩ d26_42 (c_k_getSpan v5 v7 v4 s _ e3) ?_
      refine go_istore (pc := 45) (L' := [.val (.ref 1), .val (.int v1), .val (.int v2), .val (.int v3), .val (.int v4), .val (.int v5), .val (.int v6), .val (.int v7), .val (.int r30), .val (.int r42), x10]) d26_45 (stx rfl hx9 rfl) (go_aloadN (pc := 47) d26_47 rfl (go_iload (pc := 48) d26_48 rfl (go_iload (pc := 50) d26_50 rfl ?_)))
      refine go_priv (pc := 52) (i := 0) (as := [.int r30, .int r42]) (rest := []) (w' := (none, [(12, s)])) lk_0_120 pd_25 rfl oid_0 rfl rfl rfl rfl rfl rfl ⟨rfl, rfl, rfl, rfl, rfl⟩ d26_52 (c_k_plus r30 r42 s) ?_
      refine go_istore (pc := 55) (L' := [.val (.ref 1), .val (.int v1), .val (.int v2), .val (.int v3), .val (.int v4), .val (.int v5), .val (.int v6), .val (.int v7), .val (.int r30), .val (.int r42), .val (.int (k_plus r30 r42 s))]) d26_55 (stx rfl hx10 rfl) (go_iload (pc := 57) d26_57 rfl (go_iload (pc := 59) d26_59 rfl ?_))
      by_cases h4 : (k_plus r30 r42 s) < v6
      · refine go_icN (pc := 61) d26_61 (XT.ii_ge_f h4) ?_
        refine go_iload (pc := 64) d26_64 rfl (go_istore (pc := 66) (L' := [.val (.ref 1), .val (.int v1), .val (.int v2), .val (.int v3), .val (.int v4), .val (.int v5), .val (.int (k_plus r30 r42 s)), .val (.int v7), .val (.int r30), .val (.int r42), .val (.int (k_plus r30 r42 s))]) d26_66 rfl (go_iinc (pc := 68) (L' := [.val (.ref 1), .val (.int v1), .val (.int v2), .val (.int v3), .val (.int v4), .val (.int v5), .val (.int (k_plus r30 r42 s)), .val (.int (v7 + (1 : Int32))), .val (.int r30), .val (.int r42), .val (.int (k_plus r30 r42 s))]) d26_68 rfl ci_1 rfl (go_goto (pc := 71) (pc' := 17) d26_71 j_71_m54 ?_)))
        exact ih v1 v2 v3 v4 v5 (k_plus r30 r42 s) (v7 + (1 : Int32)) s (.val (.int r30)) (.val (.int r42)) (.val (.int (k_plus r30 r42 s))) (Or.inr ⟨_, rfl, rfl⟩) (Or.inr ⟨_, rfl, rfl⟩) (Or.inr ⟨_, rfl, rfl⟩) _ (by simpa only [if_pos h4] using hf)
      · refine go_icY (pc := 61) (pc' := 68) d26_61 (XT.ii_ge_t h4) j_61_7 ?_
        refine go_iinc (pc := 68) (L' := [.val (.ref 1), .val (.int v1), .val (.int v2), .val (.int v3), .val (.int v4), .val (.int v5), .val (.int v6), .val (.int (v7 + (1 : Int32))), .val (.int r30), .val (.int r42), .val (.int (k_plus r30 r42 s))]) d26_68 rfl ci_1 rfl (go_goto (pc := 71) (pc' := 17) d26_71 j_71_m54 ?_)
        exact ih v1 v2 v3 v4 v5 v6 (v7 + (1 : Int32)) s (.val (.int r30)) (.val (.int r42)) (.val (.int (k_plus r30 r42 s))) (Or.inr ⟨_, rfl, rfl⟩) (Or.inr ⟨_, rfl, rfl⟩) (Or.inr ⟨_, rfl, rfl⟩) _ (by simpa only [if_neg h4] using hf)
set_option maxRecDepth 65536 in
set_option maxHeartbeats 4000000 in
theorem k_bestAdvance_ok  : ∀ (v1 : Int32) (v2 : Int32) (v3 : Int32) (v4 : Int32) (s : S)  (o : Int32), k_bestAdvance v1 v2 v3 v4 s = some o → Go PP m26 0 [.val (.ref 1), .val (.int v1), .val (.int v2), .val (.int v3), .val (.int v4), .unset, .unset, .unset, .unset, .unset, .unset] [] (none, [(12, s)]) (some (.int o), (none, [(12, s)])) := by
  intro v1 v2 v3 v4 s o hf
  unfold k_bestAdvance at hf
  refine go_aloadN (pc := 0) d26_0 rfl (go_iloadN (pc := 1) d26_1 rfl (go_iloadN (pc := 2) d26_2 rfl ?_))
  obtain ⟨r3, e1, hf⟩ := Option.bind_eq_some_iff.mp hf
  refine go_priv (pc := 3) (i := 0) (as := [.int v1, .int v2]) (rest := []) (w' := (none, [(12, s)])) lk_0_84 pd_22 rfl oid_0 rfl rfl rfl rfl rfl rfl ⟨rfl, rfl, rfl, rfl, rfl⟩ d26_3 (c_k_symbolAt v1 v2 s _ e1) ?_
  refine go_istore (pc := 6) (L' := [.val (.ref 1), .val (.int v1), .val (.int v2), .val (.int v3), .val (.int v4), .val (.int r3), .unset, .unset, .unset, .unset, .unset]) d26_6 rfl (go_aloadN (pc := 8) d26_8 rfl (go_getI (pc := 9) fs_8 hm_26 d26_9 (go_istore (pc := 12) (L' := [.val (.ref 1), .val (.int v1), .val (.int v2), .val (.int v3), .val (.int v4), .val (.int r3), .val (.int (gI s 0)), .unset, .unset, .unset, .unset]) d26_12 rfl (go_iloadN (pc := 14) d26_14 rfl (go_istore (pc := 15) (L' := [.val (.ref 1), .val (.int v1), .val (.int v2), .val (.int v3), .val (.int v4), .val (.int r3), .val (.int (gI s 0)), .val (.int v3), .unset, .unset, .unset]) d26_15 rfl ?_)))))
  exact k_bestAdvance_17_ok BIG v1 v2 v3 v4 r3 (gI s 0) v3 s .unset .unset .unset (Or.inl rfl) (Or.inl rfl) (Or.inl rfl) _ hf
theorem c_k_bestAdvance (v1 : Int32) (v2 : Int32) (v3 : Int32) (v4 : Int32) (s : S) (o : Int32) (hf : k_bestAdvance v1 v2 v3 v4 s = some o) : Call PP m26 [.ref 1, .int v1, .int v2, .int v3, .int v4] (none, [(12, s)]) (some (.int o), (none, [(12, s)])) := call_of_go pl_0 rfl (fun h => nomatch h) (k_bestAdvance_ok v1 v2 v3 v4 s   _ hf)
set_option maxRecDepth 65536 in
set_option maxHeartbeats 4000000 in
theorem k_advanceItems_14_ok  : ∀ (n : Nat) (v1 : Int32) (v2 : Int32) (v3 : Int32) (v4 : Int32) (v5 : Int32) (v6 : Int32) (s : S) (x7 : Slot) (hx7 : k1 x7) (o : Int32 × S), k_advanceItems_14 n v1 v2 v3 v4 v5 v6 s = some o → Go PP m27 14 [.val (.ref 1), .val (.int v1), .val (.int v2), .val (.int v3), .val (.int v4), .val (.int v5), .val (.int v6), x7] [] (none, [(12, s)]) (some (.int o.1), (none, [(12, o.2)])) := by
  intro n
  induction n with
  | zero => intro v1 v2 v3 v4 v5 v6 s x7 hx7 o hf; exact nomatch hf
  | succ n ih =>
    intro v1 v2 v3 v4 v5 v6 s x7 hx7 o hf
    unfold k_advanceItems_14 at hf
    refine go_iload (pc := 14) d27_14 rfl (go_iload (pc := 16) d27_16 rfl ?_)
    by_cases h1 : v6 < v5
    · replace hf := (if_pos h1).symm.trans hf
      refine go_icN (pc := 18) d27_18 (XT.ii_ge_f h1) ?_
      refine go_aloadN (pc := 21) d27_21 rfl (go_iloadN (pc := 22) d27_22 rfl (go_iload (pc := 23) d27_23 rfl (go_iloadN (pc := 25) d27_25 rfl (go_iloadN (pc := 26) d27_26 rfl ?_))))
      obtain ⟨r27, e2, hf⟩ := Option.bind_eq_some_iff.mp hf
      refine go_priv (pc := 27) (i := 0) (as := [.int v1, .int v6, .int v2, .int v3]) (rest := []) (w' := (none, [(12, s)])) lk_0_173 pd_26 rfl oid_0 rfl rfl rfl rfl rfl rfl ⟨rfl, rfl, rfl, rfl, rfl⟩ d27_27 (c_k_bestAdvance v1 v6 v2 v3 s _ e2) ?_
      refine go_istore (pc := 30) (L' := [.val (.ref 1), .val (.int v1), .val (.int v2), .val (.int v3), .val (.int v4), .val (.int v5), .val (.int v6), .val (.int r27)]) d27_30 (stx rfl hx7 rfl) (go_aloadN (pc := 32) d27_32 rfl (go_iloadN (pc := 33) d27_33 rfl (go_iload (pc := 34) d27_34 rfl (go_iconst (pc := 36) d27_36 ci_1 (go_iadd (pc := 37) d27_37 (go_iloadN (pc := 38) d27_38 rfl (go_iloadN (pc := 39) d27_39 rfl ?_)))))))
      refine go_iload (pc := 40) d27_40 rfl ?_
      obtain ⟨r42, e3, hf⟩ := Option.bind_eq_some_iff.mp hf
      refine go_priv (pc := 42) (i := 0) (as := [.int v1, .int (v6 + (1 : Int32)), .int v2, .int v3, .int r27]) (rest := []) (w' := (none, [(12, r42.2)])) lk_0_159 pd_20 rfl oid_0 rfl rfl rfl rfl rfl rfl ⟨rfl, rfl, rfl, rfl, rfl⟩ d27_42 (c_k_lowerItem v1 (v6 + (1 : Int32)) v2 v3 r27 s _ e3) ?_
      by_cases h4 : r42.1 = 0
      · refine go_ifY (pc := 45) (pc' := 51) d27_45 (XT.i0_eq_t h4) j_45_6 ?_
        refine go_iinc (pc := 51) (L' := [.val (.ref 1), .val (.int v1), .val (.int v2), .val (.int v3), .val (.int v4), .val (.int v5), .val (.int (v6 + (1 : Int32))), .val (.int r27)]) d27_51 rfl ci_1 rfl (go_goto (pc := 54) (pc' := 14) d27_54 j_54_m40 ?_)
        exact ih v1 v2 v3 v4 v5 (v6 + (1 : Int32)) r42.2 (.val (.int r27)) (Or.inr ⟨_, rfl, rfl⟩) _ (by simpa only [if_pos h4] using hf)
      · refine go_ifN (pc := 45) d27_45 (XT.i0_eq_f h4) ?_
        refine go_iconst (pc := 48) d27_48 ci_1 (go_istore (pc := 49) (L' := [.val (.ref 1), .val (.int v1), .val (.int v2), .val (.int v3), .val (.int (1 : Int32)), .val (.int v5), .val (.int v6), .val (.int r27)]) d27_49 rfl (go_iinc (pc := 51) (L' := [.val (.ref 1), .val (.int v1), .val (.int v2), .val (.int v3), .val (.int (1 : Int32)), .val (.int v5), .val (.int (v6 + (1 : Int32))), .val (.int r27)]) d27_51 rfl ci_1 rfl (go_goto (pc := 54) (pc' := 14) d27_54 j_54_m40 ?_)))
        exact ih v1 v2 v3 (1 : Int32) v5 (v6 + (1 : Int32)) r42.2 (.val (.int r27)) (Or.inr ⟨_, rfl, rfl⟩) _ (by simpa only [if_neg h4] using hf)
    · replace hf := (if_neg h1).symm.trans hf
      refine go_icY (pc := 18) (pc' := 57) d27_18 (XT.ii_ge_t h1) j_18_39 ?_
      refine go_iload (pc := 57) d27_57 rfl ?_
      cases hf
      exact go_zret (pc := 59) rfl d27_59 rfl
set_option maxRecDepth 65536 in
set_option maxHeartbeats 4000000 in
theorem k_advanceItems_ok  : ∀ (v1 : Int32) (v2 : Int32) (v3 : Int32) (s : S)  (o : Int32 × S), k_advanceItems v1 v2 v3 s = some o → Go PP m27 0 [.val (.ref 1), .val (.int v1), .val (.int v2), .val (.int v3), .unset, .unset, .unset, .unset] [] (none, [(12, s)]) (some (.int o.1), (none, [(12, o.2)])) := by
  intro v1 v2 v3 s o hf
  unfold k_advanceItems at hf
  refine go_iconst (pc := 0) d27_0 ci_0 (go_istore (pc := 1) (L' := [.val (.ref 1), .val (.int v1), .val (.int v2), .val (.int v3), .val (.int (0 : Int32)), .unset, .unset, .unset]) d27_1 rfl (go_aloadN (pc := 3) d27_3 rfl (go_getA (pc := 4) fa_33 hm_27 d27_4 rfl (go_iloadN (pc := 7) d27_7 rfl ?_))))
  obtain ⟨a8, e1, hf⟩ := Option.bind_eq_some_iff.mp hf
  refine go_iaload (pc := 8) (q := 6) ar_6 rfl e1 d27_8 ?_
  refine go_istore (pc := 9) (L' := [.val (.ref 1), .val (.int v1), .val (.int v2), .val (.int v3), .val (.int (0 : Int32)), .val (.int a8), .unset, .unset]) d27_9 rfl (go_iconst (pc := 11) d27_11 ci_0 (go_istore (pc := 12) (L' := [.val (.ref 1), .val (.int v1), .val (.int v2), .val (.int v3), .val (.int (0 : Int32)), .val (.int a8), .val (.int (0 : Int32)), .unset]) d27_12 rfl ?_))
  exact k_advanceItems_14_ok BIG v1 v2 v3 (0 : Int32) a8 (0 : Int32) s .unset (Or.inl rfl) _ hf
theorem c_k_advanceItems (v1 : Int32) (v2 : Int32) (v3 : Int32) (s : S) (o : Int32 × S) (hf : k_advanceItems v1 v2 v3 s = some o) : Call PP m27 [.ref 1, .int v1, .int v2, .int v3] (none, [(12, s)]) (some (.int o.1), (none, [(12, o.2)])) := call_of_go pl_0 rfl (fun h => nomatch h) (k_advanceItems_ok v1 v2 v3 s   _ hf)
set_option maxRecDepth 65536 in
set_option maxHeartbeats 4000000 in
theorem k_headCode_ok  : ∀ (v1 : Int32) (s : S)  (o : Int32), k_headCode v1 s = some o → Go PP m28 0 [.val (.ref 1), .val (.int v1)] [] (none, [(12, s)]) (some (.int o), (none, [(12, s)])) := by
  intro v1 s o hf
  unfold k_headCode at hf
  refine go_iloadN (pc := 0) d28_0 rfl ?_
  by_cases h1 : v1 < 0
  · replace hf := (if_pos h1).symm.trans hf
    refine go_ifY (pc := 1) (pc' := 10) d28_1 (XT.i0_lt_t h1) j_1_9 ?_
    refine go_bipush (pc := 10) d28_10 cb_8 ?_
    cases hf
    exact go_iret (pc := 12) rfl d28_12
  · replace hf := (if_neg h1).symm.trans hf
    refine go_ifN (pc := 1) d28_1 (XT.i0_lt_f h1) ?_
    refine go_iloadN (pc := 4) d28_4 rfl (go_bipush (pc := 5) d28_5 cb_12 ?_)
    by_cases h2 : v1 < (12 : Int32)
    · replace hf := (if_pos h2).symm.trans hf
      refine go_icY (pc := 7) (pc' := 13) d28_7 (XT.ii_lt_t h2) j_7_6 ?_
      refine go_bipush (pc := 13) d28_13 cb_8 (go_aloadN (pc := 15) d28_15 rfl (go_getA (pc := 16) fa_27 hm_28 d28_16 rfl (go_iloadN (pc := 19) d28_19 rfl ?_)))
      obtain ⟨a20, e3, hf⟩ := Option.bind_eq_some_iff.mp hf
      refine go_iaload (pc := 20) (q := 4) ar_4 rfl e3 d28_20 ?_
      refine go_iadd (pc := 21) d28_21 ?_
      cases hf
      exact go_iret (pc := 22) rfl d28_22
    · replace hf := (if_neg h2).symm.trans hf
      refine go_icN (pc := 7) d28_7 (XT.ii_lt_f h2) ?_
      refine go_bipush (pc := 10) d28_10 cb_8 ?_
      cases hf
      exact go_iret (pc := 12) rfl d28_12
theorem c_k_headCode (v1 : Int32) (s : S) (o : Int32) (hf : k_headCode v1 s = some o) : Call PP m28 [.ref 1, .int v1] (none, [(12, s)]) (some (.int o), (none, [(12, s)])) := call_of_go pl_0 rfl (fun h => nomatch h) (k_headCode_ok v1 s   _ hf)
set_option maxRecDepth 65536 in
set_option maxHeartbeats 4000000 in
theorem k_completeItem_ok  : ∀ (v1 : Int32) (v2 : Int32) (v3 : Int32) (s : S)  (o : Int32 × S), k_completeItem v1 v2 v3 s = some o → Go PP m29 0 [.val (.ref 1), .val (.int v1), .val (.int v2), .val (.int v3), .unset, .unset] [] (none, [(12, s)]) (some (.int o.1), (none, [(12, o.2)])) := by
  intro v1 v2 v3 s o hf
  unfold k_completeItem at hf
  refine go_aloadN (pc := 0) d29_0 rfl (go_iloadN (pc := 1) d29_1 rfl (go_aloadN (pc := 2) d29_2 rfl (go_getA (pc := 3) fa_33 hm_29 d29_3 rfl (go_iloadN (pc := 6) d29_6 rfl ?_))))
  obtain ⟨a7, e1, hf⟩ := Option.bind_eq_some_iff.mp hf
  refine go_iaload (pc := 7) (q := 6) ar_6 rfl e1 d29_7 ?_
  refine go_iloadN (pc := 8) d29_8 rfl (go_iloadN (pc := 9) d29_9 rfl ?_)
  obtain ⟨r10, e2, hf⟩ := Option.bind_eq_some_iff.mp hf
  refine go_priv (pc := 10) (i := 0) (as := [.int v1, .int a7, .int v2, .int v3]) (rest := []) (w' := (none, [(12, s)])) lk_0_176 pd_23 rfl oid_0 rfl rfl rfl rfl rfl rfl ⟨rfl, rfl, rfl, rfl, rfl⟩ d29_10 (c_k_getItem v1 a7 v2 v3 s _ e2) ?_
  refine go_istore (pc := 13) (L' := [.val (.ref 1), .val (.int v1), .val (.int v2), .val (.int v3), .val (.int r10), .unset]) d29_13 rfl (go_aloadN (pc := 15) d29_15 rfl (go_iloadN (pc := 16) d29_16 rfl ?_))
  obtain ⟨r17, e3, hf⟩ := Option.bind_eq_some_iff.mp hf
  refine go_priv (pc := 17) (i := 0) (as := [.int v1]) (rest := []) (w' := (none, [(12, s)])) lk_0_179 pd_28 rfl oid_0 rfl rfl rfl rfl rfl rfl ⟨rfl, rfl, rfl, rfl, rfl⟩ d29_17 (c_k_headCode v1 s _ e3) ?_
  refine go_istore (pc := 20) (L' := [.val (.ref 1), .val (.int v1), .val (.int v2), .val (.int v3), .val (.int r10), .val (.int r17)]) d29_20 rfl (go_aloadN (pc := 22) d29_22 rfl (go_iload (pc := 23) d29_23 rfl (go_iloadN (pc := 25) d29_25 rfl (go_iloadN (pc := 26) d29_26 rfl (go_iload (pc := 27) d29_27 rfl ?_)))))
  obtain ⟨r29, e4, hf⟩ := Option.bind_eq_some_iff.mp hf
  refine go_priv (pc := 29) (i := 0) (as := [.int r17, .int v2, .int v3, .int r10]) (rest := []) (w' := (none, [(12, r29.2)])) lk_0_156 pd_15 rfl oid_0 rfl rfl rfl rfl rfl rfl ⟨rfl, rfl, rfl, rfl, rfl⟩ d29_29 (c_k_lowerSpan r17 v2 v3 r10 s _ e4) ?_
  cases hf
  exact go_zret (pc := 32) rfl d29_32 rfl
theorem c_k_completeItem (v1 : Int32) (v2 : Int32) (v3 : Int32) (s : S) (o : Int32 × S) (hf : k_completeItem v1 v2 v3 s = some o) : Call PP m29 [.ref 1, .int v1, .int v2, .int v3] (none, [(12, s)]) (some (.int o.1), (none, [(12, o.2)])) := call_of_go pl_0 rfl (fun h => nomatch h) (k_completeItem_ok v1 v2 v3 s   _ hf)
def T_k_insideRound_5 (k5 : Int32 → Int32 → Int32 → Int32 → S → Option (Int32 × S)) : Prop := ∀ (v1 : Int32) (v2 : Int32) (v3 : Int32) (v4 : Int32) (s : S)  (o : Int32 × S), k5 v1 v2 v3 v4 s = some o → Go PP m30 5 [.val (.ref 1), .val (.int v1), .val (.int v2), .val (.int v3), .val (.int v4)] [] (none, [(12, s)]) (some (.int o.1), (none, [(12, o.2)]))
set_option maxRecDepth 65536 in
set_option maxHeartbeats 4000000 in
theorem k_insideRound_27_ok {k5 : Int32 → Int32 → Int32 → Int32 → S → Option (Int32 × S)} (hk5 : T_k_insideRound_5 k5) : ∀ (v1 : Int32) (v2 : Int32) (v3 : Int32) (v4 : Int32) (s : S)  (o : Int32 × S), k_insideRound_27 k5 v1 v2 v3 v4 s = some o → Go PP m30 27 [.val (.ref 1), .val (.int v1), .val (.int v2), .val (.int v3), .val (.int v4)] [] (none, [(12, s)]) (some (.int o.1), (none, [(12, o.2)])) := by
  intro v1 v2 v3 v4 s o hf
  unfold k_insideRound_27 at hf
  refine go_aloadN (pc := 27) d30_27 rfl (go_iload (pc := 28) d30_28 rfl (go_iloadN (pc := 30) d30_30 rfl (go_iloadN (pc := 31) d30_31 rfl ?_)))
  obtain ⟨r32, e1, hf⟩ := Option.bind_eq_some_iff.mp hf
  refine go_priv (pc := 32) (i := 0) (as := [.int v4, .int v1, .int v2]) (rest := []) (w' := (none, [(12, r32.2)])) lk_0_170 pd_29 rfl oid_0 rfl rfl rfl rfl rfl rfl ⟨rfl, rfl, rfl, rfl, rfl⟩ d30_32 (c_k_completeItem v4 v1 v2 s _ e1) ?_
  by_cases h2 : r32.1 = 0
  · refine go_ifY (pc := 35) (pc' := 40) d30_35 (XT.i0_eq_t h2) j_35_5 ?_
    refine go_iinc (pc := 40) (L' := [.val (.ref 1), .val (.int v1), .val (.int v2), .val (.int v3), .val (.int (v4 + (1 : Int32)))]) d30_40 rfl ci_1 rfl (go_goto (pc := 43) (pc' := 5) d30_43 j_43_m38 ?_)
    exact hk5 v1 v2 v3 (v4 + (1 : Int32)) r32.2 _ (by simpa only [if_pos h2] using hf)
  · refine go_ifN (pc := 35) d30_35 (XT.i0_eq_f h2) ?_
    refine go_iconst (pc := 38) d30_38 ci_1 (go_istoreN (pc := 39) (L' := [.val (.ref 1), .val (.int v1), .val (.int v2), .val (.int (1 : Int32)), .val (.int v4)]) d30_39 rfl (go_iinc (pc := 40) (L' := [.val (.ref 1), .val (.int v1), .val (.int v2), .val (.int (1 : Int32)), .val (.int (v4 + (1 : Int32)))]) d30_40 rfl ci_1 rfl (go_goto (pc := 43) (pc' := 5) d30_43 j_43_m38 ?_)))
    exact hk5 v1 v2 (1 : Int32) (v4 + (1 : Int32)) r32.2 _ (by simpa only [if_neg h2] using hf)
set_option maxRecDepth 65536 in
set_option maxHeartbeats 4000000 in
theorem k_insideRound_5_ok  : ∀ (n : Nat) (v1 : Int32) (v2 : Int32) (v3 : Int32) (v4 : Int32) (s : S)  (o : Int32 × S), k_insideRound_5 n v1 v2 v3 v4 s = some o → Go PP m30 5 [.val (.ref 1), .val (.int v1), .val (.int v2), .val (.int v3), .val (.int v4)] [] (none, [(12, s)]) (some (.int o.1), (none, [(12, o.2)])) := by
  intro n
  induction n with
  | zero => intro v1 v2 v3 v4 s o hf; exact nomatch hf
  | succ n ih =>
    intro v1 v2 v3 v4 s o hf
    unfold k_insideRound_5 at hf
    refine go_iload (pc := 5) d30_5 rfl (go_aloadN (pc := 7) d30_7 rfl (go_getI (pc := 8) fs_67 hm_30 d30_8 ?_))
    by_cases h1 : v4 < (gI s 3)
    · replace hf := (if_pos h1).symm.trans hf
      refine go_icN (pc := 11) d30_11 (XT.ii_ge_f h1) ?_
      refine go_aloadN (pc := 14) d30_14 rfl (go_iload (pc := 15) d30_15 rfl (go_iloadN (pc := 17) d30_17 rfl (go_iloadN (pc := 18) d30_18 rfl ?_)))
      obtain ⟨r19, e2, hf⟩ := Option.bind_eq_some_iff.mp hf
      refine go_priv (pc := 19) (i := 0) (as := [.int v4, .int v1, .int v2]) (rest := []) (w' := (none, [(12, r19.2)])) lk_0_167 pd_27 rfl oid_0 rfl rfl rfl rfl rfl rfl ⟨rfl, rfl, rfl, rfl, rfl⟩ d30_19 (c_k_advanceItems v4 v1 v2 s _ e2) ?_
      by_cases h3 : r19.1 = 0
      · refine go_ifY (pc := 22) (pc' := 27) d30_22 (XT.i0_eq_t h3) j_22_5 ?_
        exact k_insideRound_27_ok ih v1 v2 v3 v4 r19.2 _ (by simpa only [if_pos h3] using hf)
      · refine go_ifN (pc := 22) d30_22 (XT.i0_eq_f h3) ?_
        refine go_iconst (pc := 25) d30_25 ci_1 (go_istoreN (pc := 26) (L' := [.val (.ref 1), .val (.int v1), .val (.int v2), .val (.int (1 : Int32)), .val (.int v4)]) d30_26 rfl ?_)
        exact k_insideRound_27_ok ih v1 v2 (1 : Int32) v4 r19.2 _ (by simpa only [if_neg h3] using hf)
    · replace hf := (if_neg h1).symm.trans hf
      refine go_icY (pc := 11) (pc' := 46) d30_11 (XT.ii_ge_t h1) j_11_35 ?_
      refine go_iloadN (pc := 46) d30_46 rfl ?_
      cases hf
      exact go_zret (pc := 47) rfl d30_47 rfl
set_option maxRecDepth 65536 in
set_option maxHeartbeats 4000000 in
theorem k_insideRound_ok  : ∀ (v1 : Int32) (v2 : Int32) (s : S)  (o : Int32 × S), k_insideRound v1 v2 s = some o → Go PP m30 0 [.val (.ref 1), .val (.int v1), .val (.int v2), .unset, .unset] [] (none, [(12, s)]) (some (.int o.1), (none, [(12, o.2)])) := by
  intro v1 v2 s o hf
  unfold k_insideRound at hf
  refine go_iconst (pc := 0) d30_0 ci_0 (go_istoreN (pc := 1) (L' := [.val (.ref 1), .val (.int v1), .val (.int v2), .val (.int (0 : Int32)), .unset]) d30_1 rfl (go_iconst (pc := 2) d30_2 ci_0 (go_istore (pc := 3) (L' := [.val (.ref 1), .val (.int v1), .val (.int v2), .val (.int (0 : Int32)), .val (.int (0 : Int32))]) d30_3 rfl ?_)))
  exact k_insideRound_5_ok BIG v1 v2 (0 : Int32) (0 : Int32) s _ hf
theorem c_k_insideRound (v1 : Int32) (v2 : Int32) (s : S) (o : Int32 × S) (hf : k_insideRound v1 v2 s = some o) : Call PP m30 [.ref 1, .int v1, .int v2] (none, [(12, s)]) (some (.int o.1), (none, [(12, o.2)])) := call_of_go pl_0 rfl (fun h => nomatch h) (k_insideRound_ok v1 v2 s   _ hf)
set_option maxRecDepth 65536 in
set_option maxHeartbeats 4000000 in
theorem k_closeInsideCell_5_ok  : ∀ (n : Nat) (v1 : Int32) (v2 : Int32) (v3 : Int32) (v4 : Int32) (s : S)  (o : S), k_closeInsideCell_5 n v1 v2 v3 v4 s = some o → Go PP m31 5 [.val (.ref 1), .val (.int v1), .val (.int v2), .val (.int v3), .val (.int v4)] [] (none, [(12, s)]) (none, (none, [(12, o)])) := by
  intro n
  induction n with
  | zero => intro v1 v2 v3 v4 s o hf; exact nomatch hf
  | succ n ih =>
    intro v1 v2 v3 v4 s o hf
    unfold k_closeInsideCell_5 at hf
    refine go_iloadN (pc := 5) d31_5 rfl ?_
    by_cases h1 : v3 = 0
    · replace hf := (if_pos h1).symm.trans hf
      refine go_ifY (pc := 6) (pc' := 29) d31_6 (XT.i0_eq_t h1) j_6_23 ?_
      cases hf
      exact go_ret (pc := 29) rfl d31_29
    · replace hf := (if_neg h1).symm.trans hf
      refine go_ifN (pc := 6) d31_6 (XT.i0_eq_f h1) ?_
      refine go_iload (pc := 9) d31_9 rfl (go_bipush (pc := 11) d31_11 cb_24 ?_)
      by_cases h2 : v4 < (24 : Int32)
      · replace hf := (if_pos h2).symm.trans hf
        refine go_icN (pc := 13) d31_13 (XT.ii_ge_f h2) ?_
        refine go_aloadN (pc := 16) d31_16 rfl (go_iloadN (pc := 17) d31_17 rfl (go_iloadN (pc := 18) d31_18 rfl ?_))
        obtain ⟨r19, e3, hf⟩ := Option.bind_eq_some_iff.mp hf
        refine go_priv (pc := 19) (i := 0) (as := [.int v1, .int v2]) (rest := []) (w' := (none, [(12, r19.2)])) lk_0_163 pd_30 rfl oid_0 rfl rfl rfl rfl rfl rfl ⟨rfl, rfl, rfl, rfl, rfl⟩ d31_19 (c_k_insideRound v1 v2 s _ e3) ?_
        refine go_istoreN (pc := 22) (L' := [.val (.ref 1), .val (.int v1), .val (.int v2), .val (.int r19.1), .val (.int v4)]) d31_22 rfl (go_iinc (pc := 23) (L' := [.val (.ref 1), .val (.int v1), .val (.int v2), .val (.int r19.1), .val (.int (v4 + (1 : Int32)))]) d31_23 rfl ci_1 rfl (go_goto (pc := 26) (pc' := 5) d31_26 j_26_m21 ?_))
        exact ih v1 v2 r19.1 (v4 + (1 : Int32)) r19.2 _ hf
      · replace hf := (if_neg h2).symm.trans hf
        refine go_icY (pc := 13) (pc' := 29) d31_13 (XT.ii_ge_t h2) j_13_16 ?_
        cases hf
        exact go_ret (pc := 29) rfl d31_29
set_option maxRecDepth 65536 in
set_option maxHeartbeats 4000000 in
theorem k_closeInsideCell_ok  : ∀ (v1 : Int32) (v2 : Int32) (s : S)  (o : S), k_closeInsideCell v1 v2 s = some o → Go PP m31 0 [.val (.ref 1), .val (.int v1), .val (.int v2), .unset, .unset] [] (none, [(12, s)]) (none, (none, [(12, o)])) := by
  intro v1 v2 s o hf
  unfold k_closeInsideCell at hf
  refine go_iconst (pc := 0) d31_0 ci_1 (go_istoreN (pc := 1) (L' := [.val (.ref 1), .val (.int v1), .val (.int v2), .val (.int (1 : Int32)), .unset]) d31_1 rfl (go_iconst (pc := 2) d31_2 ci_0 (go_istore (pc := 3) (L' := [.val (.ref 1), .val (.int v1), .val (.int v2), .val (.int (1 : Int32)), .val (.int (0 : Int32))]) d31_3 rfl ?_)))
  exact k_closeInsideCell_5_ok BIG v1 v2 (1 : Int32) (0 : Int32) s _ hf
theorem c_k_closeInsideCell (v1 : Int32) (v2 : Int32) (s : S) (o : S) (hf : k_closeInsideCell v1 v2 s = some o) : Call PP m31 [.ref 1, .int v1, .int v2] (none, [(12, s)]) (none, (none, [(12, o)])) := call_of_go pl_0 rfl (fun _ => rfl) (k_closeInsideCell_ok v1 v2 s   _ hf)
def T_k_runInside_10 (k10 : Int32 → S → Option S) : Prop := ∀ (v1 : Int32) (s : S) (x2 : Slot) (hx2 : k1 x2) (o : S), k10 v1 s = some o → Go PP m32 10 [.val (.ref 1), .val (.int v1), x2] [] (none, [(12, s)]) (none, (none, [(12, o)]))
set_option maxRecDepth 65536 in
set_option maxHeartbeats 4000000 in
theorem k_runInside_20_ok {k10 : Int32 → S → Option S} (hk10 : T_k_runInside_10 k10) : ∀ (n : Nat) (v1 : Int32) (v2 : Int32) (s : S)  (o : S), k_runInside_20 k10 n v1 v2 s = some o → Go PP m32 20 [.val (.ref 1), .val (.int v1), .val (.int v2)] [] (none, [(12, s)]) (none, (none, [(12, o)])) := by
  intro n
  induction n with
  | zero => intro v1 v2 s o hf; exact nomatch hf
  | succ n ih =>
    intro v1 v2 s o hf
    unfold k_runInside_20 at hf
    refine go_iloadN (pc := 20) d32_20 rfl ?_
    by_cases h1 : v2 < 0
    · replace hf := (if_pos h1).symm.trans hf
      refine go_ifY (pc := 21) (pc' := 36) d32_21 (XT.i0_lt_t h1) j_21_15 ?_
      refine go_iinc (pc := 36) (L' := [.val (.ref 1), .val (.int (v1 + (1 : Int32))), .val (.int v2)]) d32_36 rfl ci_1 rfl (go_goto (pc := 39) (pc' := 10) d32_39 j_39_m29 ?_)
      exact hk10 (v1 + (1 : Int32)) s (.val (.int v2)) (Or.inr ⟨_, rfl, rfl⟩) _ hf
    · replace hf := (if_neg h1).symm.trans hf
      refine go_ifN (pc := 21) d32_21 (XT.i0_lt_f h1) ?_
      refine go_aloadN (pc := 24) d32_24 rfl (go_iloadN (pc := 25) d32_25 rfl (go_iloadN (pc := 26) d32_26 rfl ?_))
      obtain ⟨r27, e2, hf⟩ := Option.bind_eq_some_iff.mp hf
      refine go_priv (pc := 27) (i := 0) (as := [.int v2, .int v1]) (rest := []) (w' := (none, [(12, r27)])) lk_0_152 pd_31 rfl oid_0 rfl rfl rfl rfl rfl rfl ⟨rfl, rfl, rfl, rfl, rfl⟩ d32_27 (c_k_closeInsideCell v2 v1 s _ e2) ?_
      refine go_iinc (pc := 30) (L' := [.val (.ref 1), .val (.int v1), .val (.int (v2 + (-1 : Int32)))]) d32_30 rfl ci_m1 rfl (go_goto (pc := 33) (pc' := 20) d32_33 j_33_m13 ?_)
      exact ih v1 (v2 + (-1 : Int32)) r27 _ hf
set_option maxRecDepth 65536 in
set_option maxHeartbeats 4000000 in
theorem k_runInside_10_ok  : ∀ (n : Nat) (v1 : Int32) (s : S) (x2 : Slot) (hx2 : k1 x2) (o : S), k_runInside_10 n v1 s = some o → Go PP m32 10 [.val (.ref 1), .val (.int v1), x2] [] (none, [(12, s)]) (none, (none, [(12, o)])) := by
  intro n
  induction n with
  | zero => intro v1 s x2 hx2 o hf; exact nomatch hf
  | succ n ih =>
    intro v1 s x2 hx2 o hf
    unfold k_runInside_10 at hf
    refine go_iloadN (pc := 10) d32_10 rfl (go_aloadN (pc := 11) d32_11 rfl (go_getI (pc := 12) fs_55 hm_32 d32_12 ?_))
    by_cases h1 : v1 < (gI s 1)
    · replace hf := (if_pos h1).symm.trans hf
      refine go_icN (pc := 15) d32_15 (XT.ii_ge_f h1) ?_
      refine go_iloadN (pc := 18) d32_18 rfl (go_istoreN (pc := 19) (L' := [.val (.ref 1), .val (.int v1), .val (.int v1)]) d32_19 (stx rfl hx2 rfl) ?_)
      exact k_runInside_20_ok ih BIG v1 v1 s _ hf
    · replace hf := (if_neg h1).symm.trans hf
      refine go_icY (pc := 15) (pc' := 42) d32_15 (XT.ii_ge_t h1) j_15_27 ?_
      cases hf
      exact go_ret (pc := 42) rfl d32_42
set_option maxRecDepth 65536 in
set_option maxHeartbeats 4000000 in
theorem k_runInside_ok  : ∀  (s : S)  (o : S), k_runInside s = some o → Go PP m32 0 [.val (.ref 1), .unset, .unset] [] (none, [(12, s)]) (none, (none, [(12, o)])) := by
  intro s o hf
  unfold k_runInside at hf
  refine go_aloadN (pc := 0) d32_0 rfl ?_
  obtain ⟨r1, e1, hf⟩ := Option.bind_eq_some_iff.mp hf
  refine go_priv (pc := 1) (i := 0) (as := []) (rest := []) (w' := (none, [(12, r1)])) lk_0_146 pd_16 rfl oid_0 rfl rfl rfl rfl rfl rfl ⟨rfl, rfl, rfl, rfl, rfl⟩ d32_1 (c_k_scanEdges s _ e1) ?_
  refine go_aloadN (pc := 4) d32_4 rfl ?_
  obtain ⟨r5, e2, hf⟩ := Option.bind_eq_some_iff.mp hf
  refine go_priv (pc := 5) (i := 0) (as := []) (rest := []) (w' := (none, [(12, r5)])) lk_0_149 pd_21 rfl oid_0 rfl rfl rfl rfl rfl rfl ⟨rfl, rfl, rfl, rfl, rfl⟩ d32_5 (c_k_seedItems r1 _ e2) ?_
  refine go_iconst (pc := 8) d32_8 ci_0 (go_istoreN (pc := 9) (L' := [.val (.ref 1), .val (.int (0 : Int32)), .unset]) d32_9 rfl ?_)
  exact k_runInside_10_ok BIG (0 : Int32) r5 .unset (Or.inl rfl) _ hf
theorem c_k_runInside (s : S) (o : S) (hf : k_runInside s = some o) : Call PP m32 [.ref 1] (none, [(12, s)]) (none, (none, [(12, o)])) := call_of_go pl_0 rfl (fun _ => rfl) (k_runInside_ok s   _ hf)
set_option maxRecDepth 65536 in
set_option maxHeartbeats 4000000 in
theorem k_lowerRest_ok  : ∀ (v1 : Int32) (v2 : Int32) (v3 : Int32) (v4 : Int32) (v5 : Int32) (s : S)  (o : Int32 × S), k_lowerRest v1 v2 v3 v4 v5 s = some o → Go PP m33 0 [.val (.ref 1), .val (.int v1), .val (.int v2), .val (.int v3), .val (.int v4), .val (.int v5), .unset] [] (none, [(12, s)]) (some (.int o.1), (none, [(12, o.2)])) := by
  intro v1 v2 v3 v4 v5 s o hf
  unfold k_lowerRest at hf
  refine go_aloadN (pc := 0) d33_0 rfl (go_iloadN (pc := 1) d33_1 rfl (go_iloadN (pc := 2) d33_2 rfl (go_iloadN (pc := 3) d33_3 rfl (go_iload (pc := 4) d33_4 rfl ?_))))
  refine go_priv (pc := 6) (i := 0) (as := [.int v1, .int v2, .int v3, .int v4]) (rest := []) (w' := (none, [(12, s)])) lk_0_142 pd_19 rfl oid_0 rfl rfl rfl rfl rfl rfl ⟨rfl, rfl, rfl, rfl, rfl⟩ d33_6 (c_k_itemSlot v1 v2 v3 v4 s) ?_
  refine go_istore (pc := 9) (L' := [.val (.ref 1), .val (.int v1), .val (.int v2), .val (.int v3), .val (.int v4), .val (.int v5), .val (.int (k_itemSlot v1 v2 v3 v4 s))]) d33_9 rfl (go_iload (pc := 11) d33_11 rfl ?_)
  by_cases h1 : (k_itemSlot v1 v2 v3 v4 s) < 0
  · replace hf := (if_pos h1).symm.trans hf
    refine go_ifY (pc := 13) (pc' := 28) d33_13 (XT.i0_lt_t h1) j_13_15 ?_
    refine go_iconst (pc := 28) d33_28 ci_0 ?_
    cases hf
    exact go_zret (pc := 29) rfl d33_29 (show (0 : Int32) = nar .boolean (0 : Int32) by decide)
  · replace hf := (if_neg h1).symm.trans hf
    refine go_ifN (pc := 13) d33_13 (XT.i0_lt_f h1) ?_
    refine go_iload (pc := 16) d33_16 rfl (go_aloadN (pc := 18) d33_18 rfl (go_getA (pc := 19) fa_45 hm_33 d33_19 rfl (go_iload (pc := 22) d33_22 rfl ?_)))
    obtain ⟨a24, e2, hf⟩ := Option.bind_eq_some_iff.mp hf
    refine go_iaload (pc := 24) (q := 10) ar_10 rfl e2 d33_24 ?_
    by_cases h3 : v5 < a24
    · replace hf := (if_pos h3).symm.trans hf
      refine go_icY (pc := 25) (pc' := 30) d33_25 (XT.ii_lt_t h3) j_25_5 ?_
      refine go_aloadN (pc := 30) d33_30 rfl (go_getA (pc := 31) fa_45 hm_33 d33_31 rfl (go_iload (pc := 34) d33_34 rfl (go_iload (pc := 36) d33_36 rfl ?_)))
      obtain ⟨a38, e4, hf⟩ := Option.bind_eq_some_iff.mp hf
      refine go_iastore (pc := 38) (q := 10) ar_10 rfl hn_33 e4 d33_38 ?_
      refine go_iconst (pc := 39) d33_39 ci_1 ?_
      cases hf
      exact go_zret (pc := 40) rfl d33_40 (show (1 : Int32) = nar .boolean (1 : Int32) by decide)
    · replace hf := (if_neg h3).symm.trans hf
      refine go_icN (pc := 25) d33_25 (XT.ii_lt_f h3) ?_
      refine go_iconst (pc := 28) d33_28 ci_0 ?_
      cases hf
      exact go_zret (pc := 29) rfl d33_29 (show (0 : Int32) = nar .boolean (0 : Int32) by decide)
theorem c_k_lowerRest (v1 : Int32) (v2 : Int32) (v3 : Int32) (v4 : Int32) (v5 : Int32) (s : S) (o : Int32 × S) (hf : k_lowerRest v1 v2 v3 v4 v5 s = some o) : Call PP m33 [.ref 1, .int v1, .int v2, .int v3, .int v4, .int v5] (none, [(12, s)]) (some (.int o.1), (none, [(12, o.2)])) := call_of_go pl_0 rfl (fun h => nomatch h) (k_lowerRest_ok v1 v2 v3 v4 v5 s   _ hf)
set_option maxRecDepth 65536 in
set_option maxHeartbeats 4000000 in
theorem k_seedRest_9_ok  : ∀ (n : Nat) (v1 : Int32) (v2 : Int32) (v3 : Int32) (s : S)  (o : S), k_seedRest_9 n v1 v2 v3 s = some o → Go PP m34 9 [.val (.ref 1), .val (.int v1), .val (.int v2), .val (.int v3)] [] (none, [(12, s)]) (none, (none, [(12, o)])) := by
  intro n
  induction n with
  | zero => intro v1 v2 v3 s o hf; exact nomatch hf
  | succ n ih =>
    intro v1 v2 v3 s o hf
    unfold k_seedRest_9 at hf
    refine go_iloadN (pc := 9) d34_9 rfl (go_aloadN (pc := 10) d34_10 rfl (go_getI (pc := 11) fs_55 hm_34 d34_11 ?_))
    by_cases h1 : v3 < (gI s 1)
    · replace hf := (if_pos h1).symm.trans hf
      refine go_icN (pc := 14) d34_14 (XT.ii_ge_f h1) ?_
      refine go_aloadN (pc := 17) d34_17 rfl (go_iloadN (pc := 18) d34_18 rfl (go_iloadN (pc := 19) d34_19 rfl (go_iloadN (pc := 20) d34_20 rfl (go_iloadN (pc := 21) d34_21 rfl (go_iconst (pc := 22) d34_22 ci_0 ?_)))))
      obtain ⟨r23, e2, hf⟩ := Option.bind_eq_some_iff.mp hf
      refine go_priv (pc := 23) (i := 0) (as := [.int v1, .int v2, .int v3, .int v3, .int (0 : Int32)]) (rest := []) (w' := (none, [(12, r23.2)])) lk_0_189 pd_33 rfl oid_0 rfl rfl rfl rfl rfl rfl ⟨rfl, rfl, rfl, rfl, rfl⟩ d34_23 (c_k_lowerRest v1 v2 v3 v3 (0 : Int32) s _ e2) ?_
      refine go_pop (pc := 26) d34_26 (go_iinc (pc := 27) (L' := [.val (.ref 1), .val (.int v1), .val (.int v2), .val (.int (v3 + (1 : Int32)))]) d34_27 rfl ci_1 rfl (go_goto (pc := 30) (pc' := 9) d34_30 j_30_m21 ?_))
      exact ih v1 v2 (v3 + (1 : Int32)) r23.2 _ hf
    · replace hf := (if_neg h1).symm.trans hf
      refine go_icY (pc := 14) (pc' := 33) d34_14 (XT.ii_ge_t h1) j_14_19 ?_
      cases hf
      exact go_ret (pc := 33) rfl d34_33
set_option maxRecDepth 65536 in
set_option maxHeartbeats 4000000 in
theorem k_seedRest_ok  : ∀ (v1 : Int32) (s : S)  (o : S), k_seedRest v1 s = some o → Go PP m34 0 [.val (.ref 1), .val (.int v1), .unset, .unset] [] (none, [(12, s)]) (none, (none, [(12, o)])) := by
  intro v1 s o hf
  unfold k_seedRest at hf
  refine go_aloadN (pc := 0) d34_0 rfl (go_getA (pc := 1) fa_33 hm_34 d34_1 rfl (go_iloadN (pc := 4) d34_4 rfl ?_))
  obtain ⟨a5, e1, hf⟩ := Option.bind_eq_some_iff.mp hf
  refine go_iaload (pc := 5) (q := 6) ar_6 rfl e1 d34_5 ?_
  refine go_istoreN (pc := 6) (L' := [.val (.ref 1), .val (.int v1), .val (.int a5), .unset]) d34_6 rfl (go_iconst (pc := 7) d34_7 ci_0 (go_istoreN (pc := 8) (L' := [.val (.ref 1), .val (.int v1), .val (.int a5), .val (.int (0 : Int32))]) d34_8 rfl ?_))
  exact k_seedRest_9_ok BIG v1 a5 (0 : Int32) s _ hf
theorem c_k_seedRest (v1 : Int32) (s : S) (o : S) (hf : k_seedRest v1 s = some o) : Call PP m34 [.ref 1, .int v1] (none, [(12, s)]) (none, (none, [(12, o)])) := call_of_go pl_0 rfl (fun _ => rfl) (k_seedRest_ok v1 s   _ hf)
set_option maxRecDepth 65536 in
set_option maxHeartbeats 4000000 in
theorem k_getRest_ok  : ∀ (v1 : Int32) (v2 : Int32) (v3 : Int32) (v4 : Int32) (s : S)  (o : Int32), k_getRest v1 v2 v3 v4 s = some o → Go PP m35 0 [.val (.ref 1), .val (.int v1), .val (.int v2), .val (.int v3), .val (.int v4), .unset] [] (none, [(12, s)]) (some (.int o), (none, [(12, s)])) := by
  intro v1 v2 v3 v4 s o hf
  unfold k_getRest at hf
  refine go_aloadN (pc := 0) d35_0 rfl (go_iloadN (pc := 1) d35_1 rfl (go_iloadN (pc := 2) d35_2 rfl (go_iloadN (pc := 3) d35_3 rfl (go_iload (pc := 4) d35_4 rfl ?_))))
  refine go_priv (pc := 6) (i := 0) (as := [.int v1, .int v2, .int v3, .int v4]) (rest := []) (w' := (none, [(12, s)])) lk_0_142 pd_19 rfl oid_0 rfl rfl rfl rfl rfl rfl ⟨rfl, rfl, rfl, rfl, rfl⟩ d35_6 (c_k_itemSlot v1 v2 v3 v4 s) ?_
  refine go_istore (pc := 9) (L' := [.val (.ref 1), .val (.int v1), .val (.int v2), .val (.int v3), .val (.int v4), .val (.int (k_itemSlot v1 v2 v3 v4 s))]) d35_9 rfl (go_iload (pc := 11) d35_11 rfl ?_)
  by_cases h1 : (k_itemSlot v1 v2 v3 v4 s) < 0
  · replace hf := (if_pos h1).symm.trans hf
    refine go_ifN (pc := 13) d35_13 (XT.i0_ge_f h1) ?_
    refine go_aloadN (pc := 16) d35_16 rfl (go_getI (pc := 17) fs_8 hm_35 d35_17 ?_)
    cases hf
    exact go_iret (pc := 20) rfl d35_20
  · replace hf := (if_neg h1).symm.trans hf
    refine go_ifY (pc := 13) (pc' := 21) d35_13 (XT.i0_ge_t h1) j_13_8 ?_
    refine go_aloadN (pc := 21) d35_21 rfl (go_getA (pc := 22) fa_45 hm_35 d35_22 rfl (go_iload (pc := 25) d35_25 rfl ?_))
    obtain ⟨a27, e2, hf⟩ := Option.bind_eq_some_iff.mp hf
    refine go_iaload (pc := 27) (q := 10) ar_10 rfl e2 d35_27 ?_
    cases hf
    exact go_iret (pc := 28) rfl d35_28
theorem c_k_getRest (v1 : Int32) (v2 : Int32) (v3 : Int32) (v4 : Int32) (s : S) (o : Int32) (hf : k_getRest v1 v2 v3 v4 s = some o) : Call PP m35 [.ref 1, .int v1, .int v2, .int v3, .int v4] (none, [(12, s)]) (some (.int o), (none, [(12, s)])) := call_of_go pl_0 rfl (fun h => nomatch h) (k_getRest_ok v1 v2 v3 v4 s   _ hf)
set_option maxRecDepth 65536 in
set_option maxHeartbeats 4000000 in
theorem k_restAt_17_ok  : ∀ (n : Nat) (v1 : Int32) (v2 : Int32) (v3 : Int32) (v4 : Int32) (v5 : Int32) (v6 : Int32) (v7 : Int32) (s : S) (x8 : Slot) (x9 : Slot) (x10 : Slot) (hx8 : k1 x8) (hx9 : k1 x9) (hx10 : k1 x10) (o : Int32), k_restAt_17 n v1 v2 v3 v4 v5 v6 v7 s = some o → Go PP m36 17 [.val (.ref 1), .val (.int v1), .val (.int v2), .val (.int v3), .val (.int v4), .val (.int v5), .val (.int v6), .val (.int v7), x8, x9, x10] [] (none, [(12, s)]) (some (.int o), (none, [(12, s)])) := by
  intro n
  induction n with
  | zero => intro v1 v2 v3 v4 v5 v6 v7 s x8 x9 x10 hx8 hx9 hx10 o hf; exact nomatch hf
  | succ n ih =>
    intro v1 v2 v3 v4 v5 v6 v7 s x8 x9 x10 hx8 hx9 hx10 o hf
    unfold k_restAt_17 at hf
    refine go_iload (pc := 17) d36_17 rfl (go_iload (pc := 19) d36_19 rfl ?_)
    by_cases h1 : v4 < v7
    · replace hf := (if_pos h1).symm.trans hf
      refine go_icY (pc := 21) (pc' := 76) d36_21 (XT.ii_gt_t h1) j_21_55 ?_
      refine go_iload (pc := 76) d36_76 rfl ?_
      cases hf
      exact go_iret (pc := 78) rfl d36_78
    · replace hf := (if_neg h1).symm.trans hf
      refine go_icN (pc := 21) d36_21 (XT.ii_gt_f h1) ?_
      refine go_aloadN (pc := 24) d36_24 rfl (go_iload (pc := 25) d36_25 rfl (go_iloadN (pc := 27) d36_27 rfl (go_iload (pc := 28) d36_28 rfl ?_)))
      obtain ⟨r30, e2, hf⟩ := Option.bind_eq_some_iff.mp hf
      refine go_priv (pc := 30) (i := 0) (as := [.int v5, .int v3, .int v7]) (rest := []) (w' := (none, [(12, s)])) lk_0_91 pd_24 rfl oid_0 rfl rfl rfl rfl rfl rfl ⟨rfl, rfl, rfl, rfl, rfl⟩ d36_30 (c_k_getSpan v5 v3 v7 s _ e2) ?_
      refine go_istore (pc := 33) (L' := [.val (.ref 1), .val (.int v1), .val (.int v2), .val (.int v3), .val (.int v4), .val (.int v5), .val (.int v6), .val (.int v7), .val (.int r30), x9, x10]) d36_33 (stx rfl hx8 rfl) (go_aloadN (pc := 35) d36_35 rfl (go_iloadN (pc := 36) d36_36 rfl (go_iloadN (pc := 37) d36_37 rfl (go_iconst (pc := 38) d36_38 ci_1 (go_iadd (pc := 39) d36_39 (go_iload (pc := 40) d36_40 rfl (go_iload (pc := 42) d36_42 rfl ?_)))))))
      obtain ⟨r44, e3, hf⟩ := Option.bind_eq_some_iff.mp hf
      refine go_priv (pc := 44) (i := 0) (as := [.int v1, .int (v2 + (1 : Int32)), .int v7, .int v4]) (rest := []) (w' := (none, [(12, s)])) lk_0_195 pd_35 rfl oid_0 rfl rfl rfl rfl rfl rfl ⟨rfl, rfl, rfl, rfl, rfl⟩ d36_44 (c_k_getRest v1 (v2 + (1 : Int32)) v7 v4 s _ e3) ?_
      refine go_istore (pc := 47) (L' := [.val (.ref 1), .val (.int v1), .val (.int v2), .val (.int v3), .val (.int v4), .val (.int v5), .val (.int v6), .val (.int v7), .val (.int r30), .val (.int r44), x10]) d36_47 (stx rfl hx9 rfl) (go_aloadN (pc := 49) d36_49 rfl (go_iload (pc := 50) d36_50 rfl (go_iload (pc := 52) d36_52 rfl ?_)))
      refine go_priv (pc := 54) (i := 0) (as := [.int r30, .int r44]) (rest := []) (w' := (none, [(12, s)])) lk_0_120 pd_25 rfl oid_0 rfl rfl rfl rfl rfl rfl ⟨rfl, rfl, rfl, rfl, rfl⟩ d36_54 (c_k_plus r30 r44 s) ?_
      refine go_istore (pc := 57) (L' := [.val (.ref 1), .val (.int v1), .val (.int v2), .val (.int v3), .val (.int v4), .val (.int v5), .val (.int v6), .val (.int v7), .val (.int r30), .val (.int r44), .val (.int (k_plus r30 r44 s))]) d36_57 (stx rfl hx10 rfl) (go_iload (pc := 59) d36_59 rfl (go_iload (pc := 61) d36_61 rfl ?_))
      by_cases h4 : (k_plus r30 r44 s) < v6
      · refine go_icN (pc := 63) d36_63 (XT.ii_ge_f h4) ?_
        refine go_iload (pc := 66) d36_66 rfl (go_istore (pc := 68) (L' := [.val (.ref 1), .val (.int v1), .val (.int v2), .val (.int v3), .val (.int v4), .val (.int v5), .val (.int (k_plus r30 r44 s)), .val (.int v7), .val (.int r30), .val (.int r44), .val (.int (k_plus r30 r44 s))]) d36_68 rfl (go_iinc (pc := 70) (L' := [.val (.ref 1), .val (.int v1), .val (.int v2), .val (.int v3), .val (.int v4), .val (.int v5), .val (.int (k_plus r30 r44 s)), .val (.int (v7 + (1 : Int32))), .val (.int r30), .val (.int r44), .val (.int (k_plus r30 r44 s))]) d36_70 rfl ci_1 rfl (go_goto (pc := 73) (pc' := 17) d36_73 j_73_m56 ?_)))
        exact ih v1 v2 v3 v4 v5 (k_plus r30 r44 s) (v7 + (1 : Int32)) s (.val (.int r30)) (.val (.int r44)) (.val (.int (k_plus r30 r44 s))) (Or.inr ⟨_, rfl, rfl⟩) (Or.inr ⟨_, rfl, rfl⟩) (Or.inr ⟨_, rfl, rfl⟩) _ (by simpa only [if_pos h4] using hf)
      · refine go_icY (pc := 63) (pc' := 70) d36_63 (XT.ii_ge_t h4) j_63_7 ?_
        refine go_iinc (pc := 70) (L' := [.val (.ref 1), .val (.int v1), .val (.int v2), .val (.int v3), .val (.int v4), .val (.int v5), .val (.int v6), .val (.int (v7 + (1 : Int32))), .val (.int r30), .val (.int r44), .val (.int (k_plus r30 r44 s))]) d36_70 rfl ci_1 rfl (go_goto (pc := 73) (pc' := 17) d36_73 j_73_m56 ?_)
        exact ih v1 v2 v3 v4 v5 v6 (v7 + (1 : Int32)) s (.val (.int r30)) (.val (.int r44)) (.val (.int (k_plus r30 r44 s))) (Or.inr ⟨_, rfl, rfl⟩) (Or.inr ⟨_, rfl, rfl⟩) (Or.inr ⟨_, rfl, rfl⟩) _ (by simpa only [if_neg h4] using hf)
set_option maxRecDepth 65536 in
set_option maxHeartbeats 4000000 in
theorem k_restAt_ok  : ∀ (v1 : Int32) (v2 : Int32) (v3 : Int32) (v4 : Int32) (s : S)  (o : Int32), k_restAt v1 v2 v3 v4 s = some o → Go PP m36 0 [.val (.ref 1), .val (.int v1), .val (.int v2), .val (.int v3), .val (.int v4), .unset, .unset, .unset, .unset, .unset, .unset] [] (none, [(12, s)]) (some (.int o), (none, [(12, s)])) := by
  intro v1 v2 v3 v4 s o hf
  unfold k_restAt at hf
  refine go_aloadN (pc := 0) d36_0 rfl (go_iloadN (pc := 1) d36_1 rfl (go_iloadN (pc := 2) d36_2 rfl ?_))
  obtain ⟨r3, e1, hf⟩ := Option.bind_eq_some_iff.mp hf
  refine go_priv (pc := 3) (i := 0) (as := [.int v1, .int v2]) (rest := []) (w' := (none, [(12, s)])) lk_0_84 pd_22 rfl oid_0 rfl rfl rfl rfl rfl rfl ⟨rfl, rfl, rfl, rfl, rfl⟩ d36_3 (c_k_symbolAt v1 v2 s _ e1) ?_
  refine go_istore (pc := 6) (L' := [.val (.ref 1), .val (.int v1), .val (.int v2), .val (.int v3), .val (.int v4), .val (.int r3), .unset, .unset, .unset, .unset, .unset]) d36_6 rfl (go_aloadN (pc := 8) d36_8 rfl (go_getI (pc := 9) fs_8 hm_36 d36_9 (go_istore (pc := 12) (L' := [.val (.ref 1), .val (.int v1), .val (.int v2), .val (.int v3), .val (.int v4), .val (.int r3), .val (.int (gI s 0)), .unset, .unset, .unset, .unset]) d36_12 rfl (go_iloadN (pc := 14) d36_14 rfl (go_istore (pc := 15) (L' := [.val (.ref 1), .val (.int v1), .val (.int v2), .val (.int v3), .val (.int v4), .val (.int r3), .val (.int (gI s 0)), .val (.int v3), .unset, .unset, .unset]) d36_15 rfl ?_)))))
  exact k_restAt_17_ok BIG v1 v2 v3 v4 r3 (gI s 0) v3 s .unset .unset .unset (Or.inl rfl) (Or.inl rfl) (Or.inl rfl) _ hf
theorem c_k_restAt (v1 : Int32) (v2 : Int32) (v3 : Int32) (v4 : Int32) (s : S) (o : Int32) (hf : k_restAt v1 v2 v3 v4 s = some o) : Call PP m36 [.ref 1, .int v1, .int v2, .int v3, .int v4] (none, [(12, s)]) (some (.int o), (none, [(12, s)])) := call_of_go pl_0 rfl (fun h => nomatch h) (k_restAt_ok v1 v2 v3 v4 s   _ hf)
def T_k_fillRestLevel_2 (k2 : Int32 → Int32 → Int32 → S → Option S) : Prop := ∀ (v1 : Int32) (v2 : Int32) (v3 : Int32) (s : S) (x4 : Slot) (x5 : Slot) (hx4 : k1 x4) (hx5 : k1 x5) (o : S), k2 v1 v2 v3 s = some o → Go PP m37 2 [.val (.ref 1), .val (.int v1), .val (.int v2), .val (.int v3), x4, x5] [] (none, [(12, s)]) (none, (none, [(12, o)]))
set_option maxRecDepth 65536 in
set_option maxHeartbeats 4000000 in
theorem k_fillRestLevel_13_ok {k2 : Int32 → Int32 → Int32 → S → Option S} (hk2 : T_k_fillRestLevel_2 k2) : ∀ (n : Nat) (v1 : Int32) (v2 : Int32) (v3 : Int32) (v4 : Int32) (s : S) (x5 : Slot) (hx5 : k1 x5) (o : S), k_fillRestLevel_13 k2 n v1 v2 v3 v4 s = some o → Go PP m37 13 [.val (.ref 1), .val (.int v1), .val (.int v2), .val (.int v3), .val (.int v4), x5] [] (none, [(12, s)]) (none, (none, [(12, o)])) := by
  intro n
  induction n with
  | zero => intro v1 v2 v3 v4 s x5 hx5 o hf; exact nomatch hf
  | succ n ih =>
    intro v1 v2 v3 v4 s x5 hx5 o hf
    unfold k_fillRestLevel_13 at hf
    refine go_iload (pc := 13) d37_13 rfl (go_aloadN (pc := 15) d37_15 rfl (go_getI (pc := 16) fs_55 hm_37 d37_16 ?_))
    by_cases h1 : v4 < (gI s 1)
    · replace hf := (if_pos h1).symm.trans hf
      refine go_icN (pc := 19) d37_19 (XT.ii_ge_f h1) ?_
      refine go_aloadN (pc := 22) d37_22 rfl (go_iloadN (pc := 23) d37_23 rfl (go_iloadN (pc := 24) d37_24 rfl (go_iloadN (pc := 25) d37_25 rfl (go_iload (pc := 26) d37_26 rfl ?_))))
      obtain ⟨r28, e2, hf⟩ := Option.bind_eq_some_iff.mp hf
      refine go_priv (pc := 28) (i := 0) (as := [.int v1, .int v2, .int v3, .int v4]) (rest := []) (w' := (none, [(12, s)])) lk_0_192 pd_36 rfl oid_0 rfl rfl rfl rfl rfl rfl ⟨rfl, rfl, rfl, rfl, rfl⟩ d37_28 (c_k_restAt v1 v2 v3 v4 s _ e2) ?_
      refine go_istore (pc := 31) (L' := [.val (.ref 1), .val (.int v1), .val (.int v2), .val (.int v3), .val (.int v4), .val (.int r28)]) d37_31 (stx rfl hx5 rfl) (go_aloadN (pc := 33) d37_33 rfl (go_iloadN (pc := 34) d37_34 rfl (go_iloadN (pc := 35) d37_35 rfl (go_iloadN (pc := 36) d37_36 rfl (go_iload (pc := 37) d37_37 rfl (go_iload (pc := 39) d37_39 rfl ?_))))))
      obtain ⟨r41, e3, hf⟩ := Option.bind_eq_some_iff.mp hf
      refine go_priv (pc := 41) (i := 0) (as := [.int v1, .int v2, .int v3, .int v4, .int r28]) (rest := []) (w' := (none, [(12, r41.2)])) lk_0_189 pd_33 rfl oid_0 rfl rfl rfl rfl rfl rfl ⟨rfl, rfl, rfl, rfl, rfl⟩ d37_41 (c_k_lowerRest v1 v2 v3 v4 r28 s _ e3) ?_
      refine go_pop (pc := 44) d37_44 (go_iinc (pc := 45) (L' := [.val (.ref 1), .val (.int v1), .val (.int v2), .val (.int v3), .val (.int (v4 + (1 : Int32))), .val (.int r28)]) d37_45 rfl ci_1 rfl (go_goto (pc := 48) (pc' := 13) d37_48 j_48_m35 ?_))
      exact ih v1 v2 v3 (v4 + (1 : Int32)) r41.2 (.val (.int r28)) (Or.inr ⟨_, rfl, rfl⟩) _ hf
    · replace hf := (if_neg h1).symm.trans hf
      refine go_icY (pc := 19) (pc' := 51) d37_19 (XT.ii_ge_t h1) j_19_32 ?_
      refine go_iinc (pc := 51) (L' := [.val (.ref 1), .val (.int v1), .val (.int v2), .val (.int (v3 + (1 : Int32))), .val (.int v4), x5]) d37_51 rfl ci_1 rfl (go_goto (pc := 54) (pc' := 2) d37_54 j_54_m52 ?_)
      exact hk2 v1 v2 (v3 + (1 : Int32)) s (.val (.int v4)) x5 (Or.inr ⟨_, rfl, rfl⟩) hx5 _ hf
set_option maxRecDepth 65536 in
set_option maxHeartbeats 4000000 in
theorem k_fillRestLevel_2_ok  : ∀ (n : Nat) (v1 : Int32) (v2 : Int32) (v3 : Int32) (s : S) (x4 : Slot) (x5 : Slot) (hx4 : k1 x4) (hx5 : k1 x5) (o : S), k_fillRestLevel_2 n v1 v2 v3 s = some o → Go PP m37 2 [.val (.ref 1), .val (.int v1), .val (.int v2), .val (.int v3), x4, x5] [] (none, [(12, s)]) (none, (none, [(12, o)])) := by
  intro n
  induction n with
  | zero => intro v1 v2 v3 s x4 x5 hx4 hx5 o hf; exact nomatch hf
  | succ n ih =>
    intro v1 v2 v3 s x4 x5 hx4 hx5 o hf
    unfold k_fillRestLevel_2 at hf
    refine go_iloadN (pc := 2) d37_2 rfl (go_aloadN (pc := 3) d37_3 rfl (go_getI (pc := 4) fs_55 hm_37 d37_4 ?_))
    by_cases h1 : v3 < (gI s 1)
    · replace hf := (if_pos h1).symm.trans hf
      refine go_icN (pc := 7) d37_7 (XT.ii_ge_f h1) ?_
      refine go_iloadN (pc := 10) d37_10 rfl (go_istore (pc := 11) (L' := [.val (.ref 1), .val (.int v1), .val (.int v2), .val (.int v3), .val (.int v3), x5]) d37_11 (stx rfl hx4 rfl) ?_)
      exact k_fillRestLevel_13_ok ih BIG v1 v2 v3 v3 s x5 hx5 _ hf
    · replace hf := (if_neg h1).symm.trans hf
      refine go_icY (pc := 7) (pc' := 57) d37_7 (XT.ii_ge_t h1) j_7_50 ?_
      cases hf
      exact go_ret (pc := 57) rfl d37_57
set_option maxRecDepth 65536 in
set_option maxHeartbeats 4000000 in
theorem k_fillRestLevel_ok  : ∀ (v1 : Int32) (v2 : Int32) (s : S)  (o : S), k_fillRestLevel v1 v2 s = some o → Go PP m37 0 [.val (.ref 1), .val (.int v1), .val (.int v2), .unset, .unset, .unset] [] (none, [(12, s)]) (none, (none, [(12, o)])) := by
  intro v1 v2 s o hf
  unfold k_fillRestLevel at hf
  refine go_iconst (pc := 0) d37_0 ci_0 (go_istoreN (pc := 1) (L' := [.val (.ref 1), .val (.int v1), .val (.int v2), .val (.int (0 : Int32)), .unset, .unset]) d37_1 rfl ?_)
  exact k_fillRestLevel_2_ok BIG v1 v2 (0 : Int32) s .unset .unset (Or.inl rfl) (Or.inl rfl) _ hf
theorem c_k_fillRestLevel (v1 : Int32) (v2 : Int32) (s : S) (o : S) (hf : k_fillRestLevel v1 v2 s = some o) : Call PP m37 [.ref 1, .int v1, .int v2] (none, [(12, s)]) (none, (none, [(12, o)])) := call_of_go pl_0 rfl (fun _ => rfl) (k_fillRestLevel_ok v1 v2 s   _ hf)
def T_k_runRest_2 (k2 : Int32 → S → Option S) : Prop := ∀ (v1 : Int32) (s : S) (x2 : Slot) (x3 : Slot) (hx2 : k1 x2) (hx3 : k1 x3) (o : S), k2 v1 s = some o → Go PP m38 2 [.val (.ref 1), .val (.int v1), x2, x3] [] (none, [(12, s)]) (none, (none, [(12, o)]))
set_option maxRecDepth 65536 in
set_option maxHeartbeats 4000000 in
theorem k_runRest_26_ok {k2 : Int32 → S → Option S} (hk2 : T_k_runRest_2 k2) : ∀ (n : Nat) (v1 : Int32) (v3 : Int32) (s : S) (x2 : Slot) (hx2 : k1 x2) (o : S), k_runRest_26 k2 n v1 v3 s = some o → Go PP m38 26 [.val (.ref 1), .val (.int v1), x2, .val (.int v3)] [] (none, [(12, s)]) (none, (none, [(12, o)])) := by
  intro n
  induction n with
  | zero => intro v1 v3 s x2 hx2 o hf; exact nomatch hf
  | succ n ih =>
    intro v1 v3 s x2 hx2 o hf
    unfold k_runRest_26 at hf
    refine go_iloadN (pc := 26) d38_26 rfl ?_
    by_cases h1 : v3 < 0
    · replace hf := (if_pos h1).symm.trans hf
      refine go_ifY (pc := 27) (pc' := 42) d38_27 (XT.i0_lt_t h1) j_27_15 ?_
      refine go_iinc (pc := 42) (L' := [.val (.ref 1), .val (.int (v1 + (1 : Int32))), x2, .val (.int v3)]) d38_42 rfl ci_1 rfl (go_goto (pc := 45) (pc' := 2) d38_45 j_45_m43 ?_)
      exact hk2 (v1 + (1 : Int32)) s x2 (.val (.int v3)) hx2 (Or.inr ⟨_, rfl, rfl⟩) _ hf
    · replace hf := (if_neg h1).symm.trans hf
      refine go_ifN (pc := 27) d38_27 (XT.i0_lt_f h1) ?_
      refine go_aloadN (pc := 30) d38_30 rfl (go_iloadN (pc := 31) d38_31 rfl (go_iloadN (pc := 32) d38_32 rfl ?_))
      obtain ⟨r33, e2, hf⟩ := Option.bind_eq_some_iff.mp hf
      refine go_priv (pc := 33) (i := 0) (as := [.int v1, .int v3]) (rest := []) (w' := (none, [(12, r33)])) lk_0_186 pd_37 rfl oid_0 rfl rfl rfl rfl rfl rfl ⟨rfl, rfl, rfl, rfl, rfl⟩ d38_33 (c_k_fillRestLevel v1 v3 s _ e2) ?_
      refine go_iinc (pc := 36) (L' := [.val (.ref 1), .val (.int v1), x2, .val (.int (v3 + (-1 : Int32)))]) d38_36 rfl ci_m1 rfl (go_goto (pc := 39) (pc' := 26) d38_39 j_39_m13 ?_)
      exact ih v1 (v3 + (-1 : Int32)) r33 x2 hx2 _ hf
set_option maxRecDepth 65536 in
set_option maxHeartbeats 4000000 in
theorem k_runRest_2_ok  : ∀ (n : Nat) (v1 : Int32) (s : S) (x2 : Slot) (x3 : Slot) (hx2 : k1 x2) (hx3 : k1 x3) (o : S), k_runRest_2 n v1 s = some o → Go PP m38 2 [.val (.ref 1), .val (.int v1), x2, x3] [] (none, [(12, s)]) (none, (none, [(12, o)])) := by
  intro n
  induction n with
  | zero => intro v1 s x2 x3 hx2 hx3 o hf; exact nomatch hf
  | succ n ih =>
    intro v1 s x2 x3 hx2 hx3 o hf
    unfold k_runRest_2 at hf
    refine go_iloadN (pc := 2) d38_2 rfl (go_aloadN (pc := 3) d38_3 rfl (go_getI (pc := 4) fs_67 hm_38 d38_4 ?_))
    by_cases h1 : v1 < (gI s 3)
    · replace hf := (if_pos h1).symm.trans hf
      refine go_icN (pc := 7) d38_7 (XT.ii_ge_f h1) ?_
      refine go_aloadN (pc := 10) d38_10 rfl (go_iloadN (pc := 11) d38_11 rfl ?_)
      obtain ⟨r12, e2, hf⟩ := Option.bind_eq_some_iff.mp hf
      refine go_priv (pc := 12) (i := 0) (as := [.int v1]) (rest := []) (w' := (none, [(12, r12)])) lk_0_182 pd_34 rfl oid_0 rfl rfl rfl rfl rfl rfl ⟨rfl, rfl, rfl, rfl, rfl⟩ d38_12 (c_k_seedRest v1 s _ e2) ?_
      refine go_aloadN (pc := 15) d38_15 rfl (go_getA (pc := 16) fa_33 hm_38 d38_16 rfl (go_iloadN (pc := 19) d38_19 rfl ?_))
      obtain ⟨a20, e3, hf⟩ := Option.bind_eq_some_iff.mp hf
      refine go_iaload (pc := 20) (q := 6) ar_6 rfl e3 d38_20 ?_
      refine go_istoreN (pc := 21) (L' := [.val (.ref 1), .val (.int v1), .val (.int a20), x3]) d38_21 (stx rfl hx2 rfl) (go_iloadN (pc := 22) d38_22 rfl (go_iconst (pc := 23) d38_23 ci_1 (go_isub (pc := 24) d38_24 (go_istoreN (pc := 25) (L' := [.val (.ref 1), .val (.int v1), .val (.int a20), .val (.int (a20 - (1 : Int32)))]) d38_25 (stx rfl hx3 rfl) ?_))))
      exact k_runRest_26_ok ih BIG v1 (a20 - (1 : Int32)) r12 (.val (.int a20)) (Or.inr ⟨_, rfl, rfl⟩) _ hf
    · replace hf := (if_neg h1).symm.trans hf
      refine go_icY (pc := 7) (pc' := 48) d38_7 (XT.ii_ge_t h1) j_7_41 ?_
      cases hf
      exact go_ret (pc := 48) rfl d38_48
set_option maxRecDepth 65536 in
set_option maxHeartbeats 4000000 in
theorem k_runRest_ok  : ∀  (s : S)  (o : S), k_runRest s = some o → Go PP m38 0 [.val (.ref 1), .unset, .unset, .unset] [] (none, [(12, s)]) (none, (none, [(12, o)])) := by
  intro s o hf
  unfold k_runRest at hf
  refine go_iconst (pc := 0) d38_0 ci_0 (go_istoreN (pc := 1) (L' := [.val (.ref 1), .val (.int (0 : Int32)), .unset, .unset]) d38_1 rfl ?_)
  exact k_runRest_2_ok BIG (0 : Int32) s .unset .unset (Or.inl rfl) (Or.inl rfl) _ hf
theorem c_k_runRest (s : S) (o : S) (hf : k_runRest s = some o) : Call PP m38 [.ref 1] (none, [(12, s)]) (none, (none, [(12, o)])) := call_of_go pl_0 rfl (fun _ => rfl) (k_runRest_ok s   _ hf)
set_option maxRecDepth 65536 in
set_option maxHeartbeats 4000000 in
theorem k_lowerOuter_ok  : ∀ (v1 : Int32) (v2 : Int32) (v3 : Int32) (v4 : Int32) (s : S)  (o : Int32 × S), k_lowerOuter v1 v2 v3 v4 s = some o → Go PP m39 0 [.val (.ref 1), .val (.int v1), .val (.int v2), .val (.int v3), .val (.int v4), .unset] [] (none, [(12, s)]) (some (.int o.1), (none, [(12, o.2)])) := by
  intro v1 v2 v3 v4 s o hf
  unfold k_lowerOuter at hf
  refine go_aloadN (pc := 0) d39_0 rfl (go_iloadN (pc := 1) d39_1 rfl (go_iloadN (pc := 2) d39_2 rfl (go_iloadN (pc := 3) d39_3 rfl ?_)))
  refine go_priv (pc := 4) (i := 0) (as := [.int v1, .int v2, .int v3]) (rest := []) (w' := (none, [(12, s)])) lk_0_139 pd_14 rfl oid_0 rfl rfl rfl rfl rfl rfl ⟨rfl, rfl, rfl, rfl, rfl⟩ d39_4 (c_k_spanSlot v1 v2 v3 s) ?_
  refine go_istore (pc := 7) (L' := [.val (.ref 1), .val (.int v1), .val (.int v2), .val (.int v3), .val (.int v4), .val (.int (k_spanSlot v1 v2 v3 s))]) d39_7 rfl (go_iload (pc := 9) d39_9 rfl ?_)
  by_cases h1 : (k_spanSlot v1 v2 v3 s) < 0
  · replace hf := (if_pos h1).symm.trans hf
    refine go_ifY (pc := 11) (pc' := 26) d39_11 (XT.i0_lt_t h1) j_11_15 ?_
    refine go_iconst (pc := 26) d39_26 ci_0 ?_
    cases hf
    exact go_zret (pc := 27) rfl d39_27 (show (0 : Int32) = nar .boolean (0 : Int32) by decide)
  · replace hf := (if_neg h1).symm.trans hf
    refine go_ifN (pc := 11) d39_11 (XT.i0_lt_f h1) ?_
    refine go_iload (pc := 14) d39_14 rfl (go_aloadN (pc := 16) d39_16 rfl (go_getA (pc := 17) fa_48 hm_39 d39_17 rfl (go_iload (pc := 20) d39_20 rfl ?_)))
    obtain ⟨a22, e2, hf⟩ := Option.bind_eq_some_iff.mp hf
    refine go_iaload (pc := 22) (q := 11) ar_11 rfl e2 d39_22 ?_
    by_cases h3 : v4 < a22
    · replace hf := (if_pos h3).symm.trans hf
      refine go_icY (pc := 23) (pc' := 28) d39_23 (XT.ii_lt_t h3) j_23_5 ?_
      refine go_aloadN (pc := 28) d39_28 rfl (go_getA (pc := 29) fa_48 hm_39 d39_29 rfl (go_iload (pc := 32) d39_32 rfl (go_iload (pc := 34) d39_34 rfl ?_)))
      obtain ⟨a36, e4, hf⟩ := Option.bind_eq_some_iff.mp hf
      refine go_iastore (pc := 36) (q := 11) ar_11 rfl hn_39 e4 d39_36 ?_
      refine go_iconst (pc := 37) d39_37 ci_1 ?_
      cases hf
      exact go_zret (pc := 38) rfl d39_38 (show (1 : Int32) = nar .boolean (1 : Int32) by decide)
    · replace hf := (if_neg h3).symm.trans hf
      refine go_icN (pc := 23) d39_23 (XT.ii_lt_f h3) ?_
      refine go_iconst (pc := 26) d39_26 ci_0 ?_
      cases hf
      exact go_zret (pc := 27) rfl d39_27 (show (0 : Int32) = nar .boolean (0 : Int32) by decide)
theorem c_k_lowerOuter (v1 : Int32) (v2 : Int32) (v3 : Int32) (v4 : Int32) (s : S) (o : Int32 × S) (hf : k_lowerOuter v1 v2 v3 v4 s = some o) : Call PP m39 [.ref 1, .int v1, .int v2, .int v3, .int v4] (none, [(12, s)]) (some (.int o.1), (none, [(12, o.2)])) := call_of_go pl_0 rfl (fun h => nomatch h) (k_lowerOuter_ok v1 v2 v3 v4 s   _ hf)
set_option maxRecDepth 65536 in
set_option maxHeartbeats 4000000 in
theorem k_getOuter_ok  : ∀ (v1 : Int32) (v2 : Int32) (v3 : Int32) (s : S)  (o : Int32), k_getOuter v1 v2 v3 s = some o → Go PP m40 0 [.val (.ref 1), .val (.int v1), .val (.int v2), .val (.int v3), .unset] [] (none, [(12, s)]) (some (.int o), (none, [(12, s)])) := by
  intro v1 v2 v3 s o hf
  unfold k_getOuter at hf
  refine go_aloadN (pc := 0) d40_0 rfl (go_iloadN (pc := 1) d40_1 rfl (go_iloadN (pc := 2) d40_2 rfl (go_iloadN (pc := 3) d40_3 rfl ?_)))
  refine go_priv (pc := 4) (i := 0) (as := [.int v1, .int v2, .int v3]) (rest := []) (w' := (none, [(12, s)])) lk_0_139 pd_14 rfl oid_0 rfl rfl rfl rfl rfl rfl ⟨rfl, rfl, rfl, rfl, rfl⟩ d40_4 (c_k_spanSlot v1 v2 v3 s) ?_
  refine go_istore (pc := 7) (L' := [.val (.ref 1), .val (.int v1), .val (.int v2), .val (.int v3), .val (.int (k_spanSlot v1 v2 v3 s))]) d40_7 rfl (go_iload (pc := 9) d40_9 rfl ?_)
  by_cases h1 : (k_spanSlot v1 v2 v3 s) < 0
  · replace hf := (if_pos h1).symm.trans hf
    refine go_ifN (pc := 11) d40_11 (XT.i0_ge_f h1) ?_
    refine go_aloadN (pc := 14) d40_14 rfl (go_getI (pc := 15) fs_8 hm_40 d40_15 ?_)
    cases hf
    exact go_iret (pc := 18) rfl d40_18
  · replace hf := (if_neg h1).symm.trans hf
    refine go_ifY (pc := 11) (pc' := 19) d40_11 (XT.i0_ge_t h1) j_11_8 ?_
    refine go_aloadN (pc := 19) d40_19 rfl (go_getA (pc := 20) fa_48 hm_40 d40_20 rfl (go_iload (pc := 23) d40_23 rfl ?_))
    obtain ⟨a25, e2, hf⟩ := Option.bind_eq_some_iff.mp hf
    refine go_iaload (pc := 25) (q := 11) ar_11 rfl e2 d40_25 ?_
    cases hf
    exact go_iret (pc := 26) rfl d40_26
theorem c_k_getOuter (v1 : Int32) (v2 : Int32) (v3 : Int32) (s : S) (o : Int32) (hf : k_getOuter v1 v2 v3 s = some o) : Call PP m40 [.ref 1, .int v1, .int v2, .int v3] (none, [(12, s)]) (some (.int o), (none, [(12, s)])) := call_of_go pl_0 rfl (fun h => nomatch h) (k_getOuter_ok v1 v2 v3 s   _ hf)
set_option maxRecDepth 65536 in
set_option maxHeartbeats 4000000 in
theorem k_plus3_ok  : ∀ (v1 : Int32) (v2 : Int32) (v3 : Int32) (s : S)  (o : Int32), k_plus3 v1 v2 v3 s = o → Go PP m41 0 [.val (.ref 1), .val (.int v1), .val (.int v2), .val (.int v3), .unset] [] (none, [(12, s)]) (some (.int o), (none, [(12, s)])) := by
  intro v1 v2 v3 s o hf
  unfold k_plus3 at hf
  refine go_aloadN (pc := 0) d41_0 rfl (go_iloadN (pc := 1) d41_1 rfl (go_iloadN (pc := 2) d41_2 rfl ?_))
  refine go_priv (pc := 3) (i := 0) (as := [.int v1, .int v2]) (rest := []) (w' := (none, [(12, s)])) lk_0_120 pd_25 rfl oid_0 rfl rfl rfl rfl rfl rfl ⟨rfl, rfl, rfl, rfl, rfl⟩ d41_3 (c_k_plus v1 v2 s) ?_
  refine go_istore (pc := 6) (L' := [.val (.ref 1), .val (.int v1), .val (.int v2), .val (.int v3), .val (.int (k_plus v1 v2 s))]) d41_6 rfl (go_aloadN (pc := 8) d41_8 rfl (go_iload (pc := 9) d41_9 rfl (go_iloadN (pc := 11) d41_11 rfl ?_)))
  refine go_priv (pc := 12) (i := 0) (as := [.int (k_plus v1 v2 s), .int v3]) (rest := []) (w' := (none, [(12, s)])) lk_0_120 pd_25 rfl oid_0 rfl rfl rfl rfl rfl rfl ⟨rfl, rfl, rfl, rfl, rfl⟩ d41_12 (c_k_plus (k_plus v1 v2 s) v3 s) ?_
  cases hf
  exact go_iret (pc := 15) rfl d41_15
theorem c_k_plus3 (v1 : Int32) (v2 : Int32) (v3 : Int32) (s : S) : Call PP m41 [.ref 1, .int v1, .int v2, .int v3] (none, [(12, s)]) (some (.int (k_plus3 v1 v2 v3 s)), (none, [(12, s)])) := call_of_go pl_0 rfl (fun h => nomatch h) (k_plus3_ok v1 v2 v3 s   _ rfl)
def T_k_bestContext_24 (k24 : Int32 → Int32 → Int32 → Int32 → Int32 → Int32 → Int32 → Int32 → S → Option Int32) : Prop := ∀ (v1 : Int32) (v2 : Int32) (v3 : Int32) (v4 : Int32) (v5 : Int32) (v6 : Int32) (v7 : Int32) (v8 : Int32) (s : S) (x9 : Slot) (x10 : Slot) (x11 : Slot) (x12 : Slot) (x13 : Slot) (hx9 : k1 x9) (hx10 : k1 x10) (hx11 : k1 x11) (hx12 : k1 x12) (hx13 : k1 x13) (o : Int32), k24 v1 v2 v3 v4 v5 v6 v7 v8 s = some o → Go PP m42 24 [.val (.ref 1), .val (.int v1), .val (.int v2), .val (.int v3), .val (.int v4), .val (.int v5), .val (.int v6), .val (.int v7), .val (.int v8), x9, x10, x11, x12, x13] [] (none, [(12, s)]) (some (.int o), (none, [(12, s)]))
set_option maxRecDepth 65536 in
set_option maxHeartbeats 4000000 in
theorem k_bestContext_34_ok {k24 : Int32 → Int32 → Int32 → Int32 → Int32 → Int32 → Int32 → Int32 → S → Option Int32} (hk24 : T_k_bestContext_24 k24) : ∀ (n : Nat) (v1 : Int32) (v2 : Int32) (v3 : Int32) (v4 : Int32) (v5 : Int32) (v6 : Int32) (v7 : Int32) (v8 : Int32) (v9 : Int32) (s : S) (x10 : Slot) (x11 : Slot) (x12 : Slot) (x13 : Slot) (hx10 : k1 x10) (hx11 : k1 x11) (hx12 : k1 x12) (hx13 : k1 x13) (o : Int32), k_bestContext_34 k24 n v1 v2 v3 v4 v5 v6 v7 v8 v9 s = some o → Go PP m42 34 [.val (.ref 1), .val (.int v1), .val (.int v2), .val (.int v3), .val (.int v4), .val (.int v5), .val (.int v6), .val (.int v7), .val (.int v8), .val (.int v9), x10, x11, x12, x13] [] (none, [(12, s)]) (some (.int o), (none, [(12, s)])) := by
  intro n
  induction n with
  | zero => intro v1 v2 v3 v4 v5 v6 v7 v8 v9 s x10 x11 x12 x13 hx10 hx11 hx12 hx13 o hf; exact nomatch hf
  | succ n ih =>
    intro v1 v2 v3 v4 v5 v6 v7 v8 v9 s x10 x11 x12 x13 hx10 hx11 hx12 hx13 o hf
    unfold k_bestContext_34 at hf
    refine go_iload (pc := 34) d42_34 rfl (go_iload (pc := 36) d42_36 rfl ?_)
    by_cases h1 : v6 < v9
    · replace hf := (if_pos h1).symm.trans hf
      refine go_icY (pc := 38) (pc' := 107) d42_38 (XT.ii_gt_t h1) j_38_69 ?_
      refine go_iinc (pc := 107) (L' := [.val (.ref 1), .val (.int v1), .val (.int v2), .val (.int v3), .val (.int v4), .val (.int v5), .val (.int v6), .val (.int v7), .val (.int (v8 + (1 : Int32))), .val (.int v9), x10, x11, x12, x13]) d42_107 rfl ci_1 rfl (go_goto (pc := 110) (pc' := 24) d42_110 j_110_m86 ?_)
      exact hk24 v1 v2 v3 v4 v5 v6 v7 (v8 + (1 : Int32)) s (.val (.int v9)) x10 x11 x12 x13 (Or.inr ⟨_, rfl, rfl⟩) hx10 hx11 hx12 hx13 _ hf
    · replace hf := (if_neg h1).symm.trans hf
      refine go_icN (pc := 38) d42_38 (XT.ii_gt_f h1) ?_
      refine go_aloadN (pc := 41) d42_41 rfl (go_iload (pc := 42) d42_42 rfl (go_iload (pc := 44) d42_44 rfl (go_iload (pc := 46) d42_46 rfl ?_)))
      obtain ⟨r48, e2, hf⟩ := Option.bind_eq_some_iff.mp hf
      refine go_priv (pc := 48) (i := 0) (as := [.int v5, .int v8, .int v9]) (rest := []) (w' := (none, [(12, s)])) lk_0_117 pd_40 rfl oid_0 rfl rfl rfl rfl rfl rfl ⟨rfl, rfl, rfl, rfl, rfl⟩ d42_48 (c_k_getOuter v5 v8 v9 s _ e2) ?_
      refine go_istore (pc := 51) (L' := [.val (.ref 1), .val (.int v1), .val (.int v2), .val (.int v3), .val (.int v4), .val (.int v5), .val (.int v6), .val (.int v7), .val (.int v8), .val (.int v9), .val (.int r48), x11, x12, x13]) d42_51 (stx rfl hx10 rfl) (go_aloadN (pc := 53) d42_53 rfl (go_iloadN (pc := 54) d42_54 rfl (go_iloadN (pc := 55) d42_55 rfl (go_iload (pc := 56) d42_56 rfl (go_iloadN (pc := 58) d42_58 rfl ?_)))))
      obtain ⟨r59, e3, hf⟩ := Option.bind_eq_some_iff.mp hf
      refine go_priv (pc := 59) (i := 0) (as := [.int v1, .int v2, .int v8, .int v3]) (rest := []) (w' := (none, [(12, s)])) lk_0_176 pd_23 rfl oid_0 rfl rfl rfl rfl rfl rfl ⟨rfl, rfl, rfl, rfl, rfl⟩ d42_59 (c_k_getItem v1 v2 v8 v3 s _ e3) ?_
      refine go_istore (pc := 62) (L' := [.val (.ref 1), .val (.int v1), .val (.int v2), .val (.int v3), .val (.int v4), .val (.int v5), .val (.int v6), .val (.int v7), .val (.int v8), .val (.int v9), .val (.int r48), .val (.int r59), x12, x13]) d42_62 (stx rfl hx11 rfl) (go_aloadN (pc := 64) d42_64 rfl (go_iloadN (pc := 65) d42_65 rfl (go_iloadN (pc := 66) d42_66 rfl (go_iconst (pc := 67) d42_67 ci_1 (go_iadd (pc := 68) d42_68 (go_iload (pc := 69) d42_69 rfl (go_iload (pc := 71) d42_71 rfl ?_)))))))
      obtain ⟨r73, e4, hf⟩ := Option.bind_eq_some_iff.mp hf
      refine go_priv (pc := 73) (i := 0) (as := [.int v1, .int (v2 + (1 : Int32)), .int v4, .int v9]) (rest := []) (w' := (none, [(12, s)])) lk_0_195 pd_35 rfl oid_0 rfl rfl rfl rfl rfl rfl ⟨rfl, rfl, rfl, rfl, rfl⟩ d42_73 (c_k_getRest v1 (v2 + (1 : Int32)) v4 v9 s _ e4) ?_
      refine go_istore (pc := 76) (L' := [.val (.ref 1), .val (.int v1), .val (.int v2), .val (.int v3), .val (.int v4), .val (.int v5), .val (.int v6), .val (.int v7), .val (.int v8), .val (.int v9), .val (.int r48), .val (.int r59), .val (.int r73), x13]) d42_76 (stx rfl hx12 rfl) (go_aloadN (pc := 78) d42_78 rfl (go_iload (pc := 79) d42_79 rfl (go_iload (pc := 81) d42_81 rfl (go_iload (pc := 83) d42_83 rfl ?_))))
      refine go_priv (pc := 85) (i := 0) (as := [.int r48, .int r59, .int r73]) (rest := []) (w' := (none, [(12, s)])) lk_0_213 pd_41 rfl oid_0 rfl rfl rfl rfl rfl rfl ⟨rfl, rfl, rfl, rfl, rfl⟩ d42_85 (c_k_plus3 r48 r59 r73 s) ?_
      refine go_istore (pc := 88) (L' := [.val (.ref 1), .val (.int v1), .val (.int v2), .val (.int v3), .val (.int v4), .val (.int v5), .val (.int v6), .val (.int v7), .val (.int v8), .val (.int v9), .val (.int r48), .val (.int r59), .val (.int r73), .val (.int (k_plus3 r48 r59 r73 s))]) d42_88 (stx rfl hx13 rfl) (go_iload (pc := 90) d42_90 rfl (go_iload (pc := 92) d42_92 rfl ?_))
      by_cases h5 : (k_plus3 r48 r59 r73 s) < v7
      · refine go_icN (pc := 94) d42_94 (XT.ii_ge_f h5) ?_
        refine go_iload (pc := 97) d42_97 rfl (go_istore (pc := 99) (L' := [.val (.ref 1), .val (.int v1), .val (.int v2), .val (.int v3), .val (.int v4), .val (.int v5), .val (.int v6), .val (.int (k_plus3 r48 r59 r73 s)), .val (.int v8), .val (.int v9), .val (.int r48), .val (.int r59), .val (.int r73), .val (.int (k_plus3 r48 r59 r73 s))]) d42_99 rfl (go_iinc (pc := 101) (L' := [.val (.ref 1), .val (.int v1), .val (.int v2), .val (.int v3), .val (.int v4), .val (.int v5), .val (.int v6), .val (.int (k_plus3 r48 r59 r73 s)), .val (.int v8), .val (.int (v9 + (1 : Int32))), .val (.int r48), .val (.int r59), .val (.int r73), .val (.int (k_plus3 r48 r59 r73 s))]) d42_101 rfl ci_1 rfl (go_goto (pc := 104) (pc' := 34) d42_104 j_104_m70 ?_)))
        exact ih v1 v2 v3 v4 v5 v6 (k_plus3 r48 r59 r73 s) v8 (v9 + (1 : Int32)) s (.val (.int r48)) (.val (.int r59)) (.val (.int r73)) (.val (.int (k_plus3 r48 r59 r73 s))) (Or.inr ⟨_, rfl, rfl⟩) (Or.inr ⟨_, rfl, rfl⟩) (Or.inr ⟨_, rfl, rfl⟩) (Or.inr ⟨_, rfl, rfl⟩) _ (by simpa only [if_pos h5] using hf)
      · refine go_icY (pc := 94) (pc' := 101) d42_94 (XT.ii_ge_t h5) j_94_7 ?_
        refine go_iinc (pc := 101) (L' := [.val (.ref 1), .val (.int v1), .val (.int v2), .val (.int v3), .val (.int v4), .val (.int v5), .val (.int v6), .val (.int v7), .val (.int v8), .val (.int (v9 + (1 : Int32))), .val (.int r48), .val (.int r59), .val (.int r73), .val (.int (k_plus3 r48 r59 r73 s))]) d42_101 rfl ci_1 rfl (go_goto (pc := 104) (pc' := 34) d42_104 j_104_m70 ?_)
        exact ih v1 v2 v3 v4 v5 v6 v7 v8 (v9 + (1 : Int32)) s (.val (.int r48)) (.val (.int r59)) (.val (.int r73)) (.val (.int (k_plus3 r48 r59 r73 s))) (Or.inr ⟨_, rfl, rfl⟩) (Or.inr ⟨_, rfl, rfl⟩) (Or.inr ⟨_, rfl, rfl⟩) (Or.inr ⟨_, rfl, rfl⟩) _ (by simpa only [if_neg h5] using hf)
set_option maxRecDepth 65536 in
set_option maxHeartbeats 4000000 in
theorem k_bestContext_24_ok  : ∀ (n : Nat) (v1 : Int32) (v2 : Int32) (v3 : Int32) (v4 : Int32) (v5 : Int32) (v6 : Int32) (v7 : Int32) (v8 : Int32) (s : S) (x9 : Slot) (x10 : Slot) (x11 : Slot) (x12 : Slot) (x13 : Slot) (hx9 : k1 x9) (hx10 : k1 x10) (hx11 : k1 x11) (hx12 : k1 x12) (hx13 : k1 x13) (o : Int32), k_bestContext_24 n v1 v2 v3 v4 v5 v6 v7 v8 s = some o → Go PP m42 24 [.val (.ref 1), .val (.int v1), .val (.int v2), .val (.int v3), .val (.int v4), .val (.int v5), .val (.int v6), .val (.int v7), .val (.int v8), x9, x10, x11, x12, x13] [] (none, [(12, s)]) (some (.int o), (none, [(12, s)])) := by
  intro n
  induction n with
  | zero => intro v1 v2 v3 v4 v5 v6 v7 v8 s x9 x10 x11 x12 x13 hx9 hx10 hx11 hx12 hx13 o hf; exact nomatch hf
  | succ n ih =>
    intro v1 v2 v3 v4 v5 v6 v7 v8 s x9 x10 x11 x12 x13 hx9 hx10 hx11 hx12 hx13 o hf
    unfold k_bestContext_24 at hf
    refine go_iload (pc := 24) d42_24 rfl (go_iloadN (pc := 26) d42_26 rfl ?_)
    by_cases h1 : v3 < v8
    · replace hf := (if_pos h1).symm.trans hf
      refine go_icY (pc := 27) (pc' := 113) d42_27 (XT.ii_gt_t h1) j_27_86 ?_
      refine go_iload (pc := 113) d42_113 rfl ?_
      cases hf
      exact go_iret (pc := 115) rfl d42_115
    · replace hf := (if_neg h1).symm.trans hf
      refine go_icN (pc := 27) d42_27 (XT.ii_gt_f h1) ?_
      refine go_iload (pc := 30) d42_30 rfl (go_istore (pc := 32) (L' := [.val (.ref 1), .val (.int v1), .val (.int v2), .val (.int v3), .val (.int v4), .val (.int v5), .val (.int v6), .val (.int v7), .val (.int v8), .val (.int v4), x10, x11, x12, x13]) d42_32 (stx rfl hx9 rfl) ?_)
      exact k_bestContext_34_ok ih BIG v1 v2 v3 v4 v5 v6 v7 v8 v4 s x10 x11 x12 x13 hx10 hx11 hx12 hx13 _ hf
set_option maxRecDepth 65536 in
set_option maxHeartbeats 4000000 in
theorem k_bestContext_ok  : ∀ (v1 : Int32) (v2 : Int32) (v3 : Int32) (v4 : Int32) (s : S)  (o : Int32), k_bestContext v1 v2 v3 v4 s = some o → Go PP m42 0 [.val (.ref 1), .val (.int v1), .val (.int v2), .val (.int v3), .val (.int v4), .unset, .unset, .unset, .unset, .unset, .unset, .unset, .unset, .unset] [] (none, [(12, s)]) (some (.int o), (none, [(12, s)])) := by
  intro v1 v2 v3 v4 s o hf
  unfold k_bestContext at hf
  refine go_aloadN (pc := 0) d42_0 rfl (go_iloadN (pc := 1) d42_1 rfl ?_)
  obtain ⟨r2, e1, hf⟩ := Option.bind_eq_some_iff.mp hf
  refine go_priv (pc := 2) (i := 0) (as := [.int v1]) (rest := []) (w' := (none, [(12, s)])) lk_0_179 pd_28 rfl oid_0 rfl rfl rfl rfl rfl rfl ⟨rfl, rfl, rfl, rfl, rfl⟩ d42_2 (c_k_headCode v1 s _ e1) ?_
  refine go_istore (pc := 5) (L' := [.val (.ref 1), .val (.int v1), .val (.int v2), .val (.int v3), .val (.int v4), .val (.int r2), .unset, .unset, .unset, .unset, .unset, .unset, .unset, .unset]) d42_5 rfl (go_aloadN (pc := 7) d42_7 rfl (go_getI (pc := 8) fs_55 hm_42 d42_8 (go_iconst (pc := 11) d42_11 ci_1 (go_isub (pc := 12) d42_12 (go_istore (pc := 13) (L' := [.val (.ref 1), .val (.int v1), .val (.int v2), .val (.int v3), .val (.int v4), .val (.int r2), .val (.int ((gI s 1) - (1 : Int32))), .unset, .unset, .unset, .unset, .unset, .unset, .unset]) d42_13 rfl (go_aloadN (pc := 15) d42_15 rfl (go_getI (pc := 16) fs_8 hm_42 d42_16 ?_)))))))
  refine go_istore (pc := 19) (L' := [.val (.ref 1), .val (.int v1), .val (.int v2), .val (.int v3), .val (.int v4), .val (.int r2), .val (.int ((gI s 1) - (1 : Int32))), .val (.int (gI s 0)), .unset, .unset, .unset, .unset, .unset, .unset]) d42_19 rfl (go_iconst (pc := 21) d42_21 ci_0 (go_istore (pc := 22) (L' := [.val (.ref 1), .val (.int v1), .val (.int v2), .val (.int v3), .val (.int v4), .val (.int r2), .val (.int ((gI s 1) - (1 : Int32))), .val (.int (gI s 0)), .val (.int (0 : Int32)), .unset, .unset, .unset, .unset, .unset]) d42_22 rfl ?_))
  exact k_bestContext_24_ok BIG v1 v2 v3 v4 r2 ((gI s 1) - (1 : Int32)) (gI s 0) (0 : Int32) s .unset .unset .unset .unset .unset (Or.inl rfl) (Or.inl rfl) (Or.inl rfl) (Or.inl rfl) (Or.inl rfl) _ hf
theorem c_k_bestContext (v1 : Int32) (v2 : Int32) (v3 : Int32) (v4 : Int32) (s : S) (o : Int32) (hf : k_bestContext v1 v2 v3 v4 s = some o) : Call PP m42 [.ref 1, .int v1, .int v2, .int v3, .int v4] (none, [(12, s)]) (some (.int o), (none, [(12, s)])) := call_of_go pl_0 rfl (fun h => nomatch h) (k_bestContext_ok v1 v2 v3 v4 s   _ hf)
set_option maxRecDepth 65536 in
set_option maxHeartbeats 4000000 in
theorem k_outerRule_14_ok  : ∀ (n : Nat) (v1 : Int32) (v2 : Int32) (v3 : Int32) (v4 : Int32) (v5 : Int32) (v6 : Int32) (s : S) (x7 : Slot) (x8 : Slot) (hx7 : k1 x7) (hx8 : k1 x8) (o : Int32 × S), k_outerRule_14 n v1 v2 v3 v4 v5 v6 s = some o → Go PP m43 14 [.val (.ref 1), .val (.int v1), .val (.int v2), .val (.int v3), .val (.int v4), .val (.int v5), .val (.int v6), x7, x8] [] (none, [(12, s)]) (some (.int o.1), (none, [(12, o.2)])) := by
  intro n
  induction n with
  | zero => intro v1 v2 v3 v4 v5 v6 s x7 x8 hx7 hx8 o hf; exact nomatch hf
  | succ n ih =>
    intro v1 v2 v3 v4 v5 v6 s x7 x8 hx7 hx8 o hf
    unfold k_outerRule_14 at hf
    refine go_iload (pc := 14) d43_14 rfl (go_iload (pc := 16) d43_16 rfl ?_)
    by_cases h1 : v6 < v5
    · replace hf := (if_pos h1).symm.trans hf
      refine go_icN (pc := 18) d43_18 (XT.ii_ge_f h1) ?_
      refine go_aloadN (pc := 21) d43_21 rfl (go_iloadN (pc := 22) d43_22 rfl (go_iload (pc := 23) d43_23 rfl (go_iloadN (pc := 25) d43_25 rfl (go_iloadN (pc := 26) d43_26 rfl ?_))))
      obtain ⟨r27, e2, hf⟩ := Option.bind_eq_some_iff.mp hf
      refine go_priv (pc := 27) (i := 0) (as := [.int v1, .int v6, .int v2, .int v3]) (rest := []) (w' := (none, [(12, s)])) lk_0_210 pd_42 rfl oid_0 rfl rfl rfl rfl rfl rfl ⟨rfl, rfl, rfl, rfl, rfl⟩ d43_27 (c_k_bestContext v1 v6 v2 v3 s _ e2) ?_
      refine go_istore (pc := 30) (L' := [.val (.ref 1), .val (.int v1), .val (.int v2), .val (.int v3), .val (.int v4), .val (.int v5), .val (.int v6), .val (.int r27), x8]) d43_30 (stx rfl hx7 rfl) (go_aloadN (pc := 32) d43_32 rfl (go_iloadN (pc := 33) d43_33 rfl (go_iload (pc := 34) d43_34 rfl ?_)))
      obtain ⟨r36, e3, hf⟩ := Option.bind_eq_some_iff.mp hf
      refine go_priv (pc := 36) (i := 0) (as := [.int v1, .int v6]) (rest := []) (w' := (none, [(12, s)])) lk_0_84 pd_22 rfl oid_0 rfl rfl rfl rfl rfl rfl ⟨rfl, rfl, rfl, rfl, rfl⟩ d43_36 (c_k_symbolAt v1 v6 s _ e3) ?_
      refine go_istore (pc := 39) (L' := [.val (.ref 1), .val (.int v1), .val (.int v2), .val (.int v3), .val (.int v4), .val (.int v5), .val (.int v6), .val (.int r27), .val (.int r36)]) d43_39 (stx rfl hx8 rfl) (go_aloadN (pc := 41) d43_41 rfl (go_iload (pc := 42) d43_42 rfl (go_iloadN (pc := 44) d43_44 rfl (go_iloadN (pc := 45) d43_45 rfl (go_iload (pc := 46) d43_46 rfl ?_)))))
      obtain ⟨r48, e4, hf⟩ := Option.bind_eq_some_iff.mp hf
      refine go_priv (pc := 48) (i := 0) (as := [.int r36, .int v2, .int v3, .int r27]) (rest := []) (w' := (none, [(12, r48.2)])) lk_0_198 pd_39 rfl oid_0 rfl rfl rfl rfl rfl rfl ⟨rfl, rfl, rfl, rfl, rfl⟩ d43_48 (c_k_lowerOuter r36 v2 v3 r27 s _ e4) ?_
      by_cases h5 : r48.1 = 0
      · refine go_ifY (pc := 51) (pc' := 57) d43_51 (XT.i0_eq_t h5) j_51_6 ?_
        refine go_iinc (pc := 57) (L' := [.val (.ref 1), .val (.int v1), .val (.int v2), .val (.int v3), .val (.int v4), .val (.int v5), .val (.int (v6 + (1 : Int32))), .val (.int r27), .val (.int r36)]) d43_57 rfl ci_1 rfl (go_goto (pc := 60) (pc' := 14) d43_60 j_60_m46 ?_)
        exact ih v1 v2 v3 v4 v5 (v6 + (1 : Int32)) r48.2 (.val (.int r27)) (.val (.int r36)) (Or.inr ⟨_, rfl, rfl⟩) (Or.inr ⟨_, rfl, rfl⟩) _ (by simpa only [if_pos h5] using hf)
      · refine go_ifN (pc := 51) d43_51 (XT.i0_eq_f h5) ?_
        refine go_iconst (pc := 54) d43_54 ci_1 (go_istore (pc := 55) (L' := [.val (.ref 1), .val (.int v1), .val (.int v2), .val (.int v3), .val (.int (1 : Int32)), .val (.int v5), .val (.int v6), .val (.int r27), .val (.int r36)]) d43_55 rfl (go_iinc (pc := 57) (L' := [.val (.ref 1), .val (.int v1), .val (.int v2), .val (.int v3), .val (.int (1 : Int32)), .val (.int v5), .val (.int (v6 + (1 : Int32))), .val (.int r27), .val (.int r36)]) d43_57 rfl ci_1 rfl (go_goto (pc := 60) (pc' := 14) d43_60 j_60_m46 ?_)))
        exact ih v1 v2 v3 (1 : Int32) v5 (v6 + (1 : Int32)) r48.2 (.val (.int r27)) (.val (.int r36)) (Or.inr ⟨_, rfl, rfl⟩) (Or.inr ⟨_, rfl, rfl⟩) _ (by simpa only [if_neg h5] using hf)
    · replace hf := (if_neg h1).symm.trans hf
      refine go_icY (pc := 18) (pc' := 63) d43_18 (XT.ii_ge_t h1) j_18_45 ?_
      refine go_iload (pc := 63) d43_63 rfl ?_
      cases hf
      exact go_zret (pc := 65) rfl d43_65 rfl
set_option maxRecDepth 65536 in
set_option maxHeartbeats 4000000 in
theorem k_outerRule_ok  : ∀ (v1 : Int32) (v2 : Int32) (v3 : Int32) (s : S)  (o : Int32 × S), k_outerRule v1 v2 v3 s = some o → Go PP m43 0 [.val (.ref 1), .val (.int v1), .val (.int v2), .val (.int v3), .unset, .unset, .unset, .unset, .unset] [] (none, [(12, s)]) (some (.int o.1), (none, [(12, o.2)])) := by
  intro v1 v2 v3 s o hf
  unfold k_outerRule at hf
  refine go_iconst (pc := 0) d43_0 ci_0 (go_istore (pc := 1) (L' := [.val (.ref 1), .val (.int v1), .val (.int v2), .val (.int v3), .val (.int (0 : Int32)), .unset, .unset, .unset, .unset]) d43_1 rfl (go_aloadN (pc := 3) d43_3 rfl (go_getA (pc := 4) fa_33 hm_43 d43_4 rfl (go_iloadN (pc := 7) d43_7 rfl ?_))))
  obtain ⟨a8, e1, hf⟩ := Option.bind_eq_some_iff.mp hf
  refine go_iaload (pc := 8) (q := 6) ar_6 rfl e1 d43_8 ?_
  refine go_istore (pc := 9) (L' := [.val (.ref 1), .val (.int v1), .val (.int v2), .val (.int v3), .val (.int (0 : Int32)), .val (.int a8), .unset, .unset, .unset]) d43_9 rfl (go_iconst (pc := 11) d43_11 ci_0 (go_istore (pc := 12) (L' := [.val (.ref 1), .val (.int v1), .val (.int v2), .val (.int v3), .val (.int (0 : Int32)), .val (.int a8), .val (.int (0 : Int32)), .unset, .unset]) d43_12 rfl ?_))
  exact k_outerRule_14_ok BIG v1 v2 v3 (0 : Int32) a8 (0 : Int32) s .unset .unset (Or.inl rfl) (Or.inl rfl) _ hf
theorem c_k_outerRule (v1 : Int32) (v2 : Int32) (v3 : Int32) (s : S) (o : Int32 × S) (hf : k_outerRule v1 v2 v3 s = some o) : Call PP m43 [.ref 1, .int v1, .int v2, .int v3] (none, [(12, s)]) (some (.int o.1), (none, [(12, o.2)])) := call_of_go pl_0 rfl (fun h => nomatch h) (k_outerRule_ok v1 v2 v3 s   _ hf)
set_option maxRecDepth 65536 in
set_option maxHeartbeats 4000000 in
theorem k_outerRound_5_ok  : ∀ (n : Nat) (v1 : Int32) (v2 : Int32) (v3 : Int32) (v4 : Int32) (s : S)  (o : Int32 × S), k_outerRound_5 n v1 v2 v3 v4 s = some o → Go PP m44 5 [.val (.ref 1), .val (.int v1), .val (.int v2), .val (.int v3), .val (.int v4)] [] (none, [(12, s)]) (some (.int o.1), (none, [(12, o.2)])) := by
  intro n
  induction n with
  | zero => intro v1 v2 v3 v4 s o hf; exact nomatch hf
  | succ n ih =>
    intro v1 v2 v3 v4 s o hf
    unfold k_outerRound_5 at hf
    refine go_iload (pc := 5) d44_5 rfl (go_aloadN (pc := 7) d44_7 rfl (go_getI (pc := 8) fs_67 hm_44 d44_8 ?_))
    by_cases h1 : v4 < (gI s 3)
    · replace hf := (if_pos h1).symm.trans hf
      refine go_icN (pc := 11) d44_11 (XT.ii_ge_f h1) ?_
      refine go_aloadN (pc := 14) d44_14 rfl (go_iload (pc := 15) d44_15 rfl (go_iloadN (pc := 17) d44_17 rfl (go_iloadN (pc := 18) d44_18 rfl ?_)))
      obtain ⟨r19, e2, hf⟩ := Option.bind_eq_some_iff.mp hf
      refine go_priv (pc := 19) (i := 0) (as := [.int v4, .int v1, .int v2]) (rest := []) (w' := (none, [(12, r19.2)])) lk_0_207 pd_43 rfl oid_0 rfl rfl rfl rfl rfl rfl ⟨rfl, rfl, rfl, rfl, rfl⟩ d44_19 (c_k_outerRule v4 v1 v2 s _ e2) ?_
      by_cases h3 : r19.1 = 0
      · refine go_ifY (pc := 22) (pc' := 27) d44_22 (XT.i0_eq_t h3) j_22_5 ?_
        refine go_iinc (pc := 27) (L' := [.val (.ref 1), .val (.int v1), .val (.int v2), .val (.int v3), .val (.int (v4 + (1 : Int32)))]) d44_27 rfl ci_1 rfl (go_goto (pc := 30) (pc' := 5) d44_30 j_30_m25 ?_)
        exact ih v1 v2 v3 (v4 + (1 : Int32)) r19.2 _ (by simpa only [if_pos h3] using hf)
      · refine go_ifN (pc := 22) d44_22 (XT.i0_eq_f h3) ?_
        refine go_iconst (pc := 25) d44_25 ci_1 (go_istoreN (pc := 26) (L' := [.val (.ref 1), .val (.int v1), .val (.int v2), .val (.int (1 : Int32)), .val (.int v4)]) d44_26 rfl (go_iinc (pc := 27) (L' := [.val (.ref 1), .val (.int v1), .val (.int v2), .val (.int (1 : Int32)), .val (.int (v4 + (1 : Int32)))]) d44_27 rfl ci_1 rfl (go_goto (pc := 30) (pc' := 5) d44_30 j_30_m25 ?_)))
        exact ih v1 v2 (1 : Int32) (v4 + (1 : Int32)) r19.2 _ (by simpa only [if_neg h3] using hf)
    · replace hf := (if_neg h1).symm.trans hf
      refine go_icY (pc := 11) (pc' := 33) d44_11 (XT.ii_ge_t h1) j_11_22 ?_
      refine go_iloadN (pc := 33) d44_33 rfl ?_
      cases hf
      exact go_zret (pc := 34) rfl d44_34 rfl
set_option maxRecDepth 65536 in
set_option maxHeartbeats 4000000 in
theorem k_outerRound_ok  : ∀ (v1 : Int32) (v2 : Int32) (s : S)  (o : Int32 × S), k_outerRound v1 v2 s = some o → Go PP m44 0 [.val (.ref 1), .val (.int v1), .val (.int v2), .unset, .unset] [] (none, [(12, s)]) (some (.int o.1), (none, [(12, o.2)])) := by
  intro v1 v2 s o hf
  unfold k_outerRound at hf
  refine go_iconst (pc := 0) d44_0 ci_0 (go_istoreN (pc := 1) (L' := [.val (.ref 1), .val (.int v1), .val (.int v2), .val (.int (0 : Int32)), .unset]) d44_1 rfl (go_iconst (pc := 2) d44_2 ci_0 (go_istore (pc := 3) (L' := [.val (.ref 1), .val (.int v1), .val (.int v2), .val (.int (0 : Int32)), .val (.int (0 : Int32))]) d44_3 rfl ?_)))
  exact k_outerRound_5_ok BIG v1 v2 (0 : Int32) (0 : Int32) s _ hf
theorem c_k_outerRound (v1 : Int32) (v2 : Int32) (s : S) (o : Int32 × S) (hf : k_outerRound v1 v2 s = some o) : Call PP m44 [.ref 1, .int v1, .int v2] (none, [(12, s)]) (some (.int o.1), (none, [(12, o.2)])) := call_of_go pl_0 rfl (fun h => nomatch h) (k_outerRound_ok v1 v2 s   _ hf)
set_option maxRecDepth 65536 in
set_option maxHeartbeats 4000000 in
theorem k_closeOuterCell_5_ok  : ∀ (n : Nat) (v1 : Int32) (v2 : Int32) (v3 : Int32) (v4 : Int32) (s : S)  (o : S), k_closeOuterCell_5 n v1 v2 v3 v4 s = some o → Go PP m45 5 [.val (.ref 1), .val (.int v1), .val (.int v2), .val (.int v3), .val (.int v4)] [] (none, [(12, s)]) (none, (none, [(12, o)])) := by
  intro n
  induction n with
  | zero => intro v1 v2 v3 v4 s o hf; exact nomatch hf
  | succ n ih =>
    intro v1 v2 v3 v4 s o hf
    unfold k_closeOuterCell_5 at hf
    refine go_iloadN (pc := 5) d45_5 rfl ?_
    by_cases h1 : v3 = 0
    · replace hf := (if_pos h1).symm.trans hf
      refine go_ifY (pc := 6) (pc' := 29) d45_6 (XT.i0_eq_t h1) j_6_23 ?_
      cases hf
      exact go_ret (pc := 29) rfl d45_29
    · replace hf := (if_neg h1).symm.trans hf
      refine go_ifN (pc := 6) d45_6 (XT.i0_eq_f h1) ?_
      refine go_iload (pc := 9) d45_9 rfl (go_bipush (pc := 11) d45_11 cb_24 ?_)
      by_cases h2 : v4 < (24 : Int32)
      · replace hf := (if_pos h2).symm.trans hf
        refine go_icN (pc := 13) d45_13 (XT.ii_ge_f h2) ?_
        refine go_aloadN (pc := 16) d45_16 rfl (go_iloadN (pc := 17) d45_17 rfl (go_iloadN (pc := 18) d45_18 rfl ?_))
        obtain ⟨r19, e3, hf⟩ := Option.bind_eq_some_iff.mp hf
        refine go_priv (pc := 19) (i := 0) (as := [.int v1, .int v2]) (rest := []) (w' := (none, [(12, r19.2)])) lk_0_204 pd_44 rfl oid_0 rfl rfl rfl rfl rfl rfl ⟨rfl, rfl, rfl, rfl, rfl⟩ d45_19 (c_k_outerRound v1 v2 s _ e3) ?_
        refine go_istoreN (pc := 22) (L' := [.val (.ref 1), .val (.int v1), .val (.int v2), .val (.int r19.1), .val (.int v4)]) d45_22 rfl (go_iinc (pc := 23) (L' := [.val (.ref 1), .val (.int v1), .val (.int v2), .val (.int r19.1), .val (.int (v4 + (1 : Int32)))]) d45_23 rfl ci_1 rfl (go_goto (pc := 26) (pc' := 5) d45_26 j_26_m21 ?_))
        exact ih v1 v2 r19.1 (v4 + (1 : Int32)) r19.2 _ hf
      · replace hf := (if_neg h2).symm.trans hf
        refine go_icY (pc := 13) (pc' := 29) d45_13 (XT.ii_ge_t h2) j_13_16 ?_
        cases hf
        exact go_ret (pc := 29) rfl d45_29
set_option maxRecDepth 65536 in
set_option maxHeartbeats 4000000 in
theorem k_closeOuterCell_ok  : ∀ (v1 : Int32) (v2 : Int32) (s : S)  (o : S), k_closeOuterCell v1 v2 s = some o → Go PP m45 0 [.val (.ref 1), .val (.int v1), .val (.int v2), .unset, .unset] [] (none, [(12, s)]) (none, (none, [(12, o)])) := by
  intro v1 v2 s o hf
  unfold k_closeOuterCell at hf
  refine go_iconst (pc := 0) d45_0 ci_1 (go_istoreN (pc := 1) (L' := [.val (.ref 1), .val (.int v1), .val (.int v2), .val (.int (1 : Int32)), .unset]) d45_1 rfl (go_iconst (pc := 2) d45_2 ci_0 (go_istore (pc := 3) (L' := [.val (.ref 1), .val (.int v1), .val (.int v2), .val (.int (1 : Int32)), .val (.int (0 : Int32))]) d45_3 rfl ?_)))
  exact k_closeOuterCell_5_ok BIG v1 v2 (1 : Int32) (0 : Int32) s _ hf
theorem c_k_closeOuterCell (v1 : Int32) (v2 : Int32) (s : S) (o : S) (hf : k_closeOuterCell v1 v2 s = some o) : Call PP m45 [.ref 1, .int v1, .int v2] (none, [(12, s)]) (none, (none, [(12, o)])) := call_of_go pl_0 rfl (fun _ => rfl) (k_closeOuterCell_ok v1 v2 s   _ hf)
def T_k_runOuter_19 (k19 : Int32 → Int32 → S → Option S) : Prop := ∀ (v1 : Int32) (v2 : Int32) (s : S) (x3 : Slot) (hx3 : k1 x3) (o : S), k19 v1 v2 s = some o → Go PP m46 19 [.val (.ref 1), .val (.int v1), .val (.int v2), x3] [] (none, [(12, s)]) (none, (none, [(12, o)]))
set_option maxRecDepth 65536 in
set_option maxHeartbeats 4000000 in
theorem k_runOuter_25_ok {k19 : Int32 → Int32 → S → Option S} (hk19 : T_k_runOuter_19 k19) : ∀ (n : Nat) (v1 : Int32) (v2 : Int32) (v3 : Int32) (s : S)  (o : S), k_runOuter_25 k19 n v1 v2 v3 s = some o → Go PP m46 25 [.val (.ref 1), .val (.int v1), .val (.int v2), .val (.int v3)] [] (none, [(12, s)]) (none, (none, [(12, o)])) := by
  intro n
  induction n with
  | zero => intro v1 v2 v3 s o hf; exact nomatch hf
  | succ n ih =>
    intro v1 v2 v3 s o hf
    unfold k_runOuter_25 at hf
    refine go_iloadN (pc := 25) d46_25 rfl (go_iloadN (pc := 26) d46_26 rfl (go_iadd (pc := 27) d46_27 (go_iloadN (pc := 28) d46_28 rfl ?_)))
    by_cases h1 : v1 < (v3 + v2)
    · replace hf := (if_pos h1).symm.trans hf
      refine go_icY (pc := 29) (pc' := 46) d46_29 (XT.ii_gt_t h1) j_29_17 ?_
      refine go_iinc (pc := 46) (L' := [.val (.ref 1), .val (.int v1), .val (.int (v2 + (-1 : Int32))), .val (.int v3)]) d46_46 rfl ci_m1 rfl (go_goto (pc := 49) (pc' := 19) d46_49 j_49_m30 ?_)
      exact hk19 v1 (v2 + (-1 : Int32)) s (.val (.int v3)) (Or.inr ⟨_, rfl, rfl⟩) _ hf
    · replace hf := (if_neg h1).symm.trans hf
      refine go_icN (pc := 29) d46_29 (XT.ii_gt_f h1) ?_
      refine go_aloadN (pc := 32) d46_32 rfl (go_iloadN (pc := 33) d46_33 rfl (go_iloadN (pc := 34) d46_34 rfl (go_iloadN (pc := 35) d46_35 rfl (go_iadd (pc := 36) d46_36 ?_))))
      obtain ⟨r37, e2, hf⟩ := Option.bind_eq_some_iff.mp hf
      refine go_priv (pc := 37) (i := 0) (as := [.int v3, .int (v3 + v2)]) (rest := []) (w' := (none, [(12, r37)])) lk_0_201 pd_45 rfl oid_0 rfl rfl rfl rfl rfl rfl ⟨rfl, rfl, rfl, rfl, rfl⟩ d46_37 (c_k_closeOuterCell v3 (v3 + v2) s _ e2) ?_
      refine go_iinc (pc := 40) (L' := [.val (.ref 1), .val (.int v1), .val (.int v2), .val (.int (v3 + (1 : Int32)))]) d46_40 rfl ci_1 rfl (go_goto (pc := 43) (pc' := 25) d46_43 j_43_m18 ?_)
      exact ih v1 v2 (v3 + (1 : Int32)) r37 _ hf
set_option maxRecDepth 65536 in
set_option maxHeartbeats 4000000 in
theorem k_runOuter_19_ok  : ∀ (n : Nat) (v1 : Int32) (v2 : Int32) (s : S) (x3 : Slot) (hx3 : k1 x3) (o : S), k_runOuter_19 n v1 v2 s = some o → Go PP m46 19 [.val (.ref 1), .val (.int v1), .val (.int v2), x3] [] (none, [(12, s)]) (none, (none, [(12, o)])) := by
  intro n
  induction n with
  | zero => intro v1 v2 s x3 hx3 o hf; exact nomatch hf
  | succ n ih =>
    intro v1 v2 s x3 hx3 o hf
    unfold k_runOuter_19 at hf
    refine go_iloadN (pc := 19) d46_19 rfl ?_
    by_cases h1 : v2 < 0
    · replace hf := (if_pos h1).symm.trans hf
      refine go_ifY (pc := 20) (pc' := 52) d46_20 (XT.i0_lt_t h1) j_20_32 ?_
      cases hf
      exact go_ret (pc := 52) rfl d46_52
    · replace hf := (if_neg h1).symm.trans hf
      refine go_ifN (pc := 20) d46_20 (XT.i0_lt_f h1) ?_
      refine go_iconst (pc := 23) d46_23 ci_0 (go_istoreN (pc := 24) (L' := [.val (.ref 1), .val (.int v1), .val (.int v2), .val (.int (0 : Int32))]) d46_24 (stx rfl hx3 rfl) ?_)
      exact k_runOuter_25_ok ih BIG v1 v2 (0 : Int32) s _ hf
set_option maxRecDepth 65536 in
set_option maxHeartbeats 4000000 in
theorem k_runOuter_ok  : ∀  (s : S)  (o : S), k_runOuter s = some o → Go PP m46 0 [.val (.ref 1), .unset, .unset, .unset] [] (none, [(12, s)]) (none, (none, [(12, o)])) := by
  intro s o hf
  unfold k_runOuter at hf
  refine go_aloadN (pc := 0) d46_0 rfl (go_getI (pc := 1) fs_55 hm_46 d46_1 (go_iconst (pc := 4) d46_4 ci_1 (go_isub (pc := 5) d46_5 (go_istoreN (pc := 6) (L' := [.val (.ref 1), .val (.int ((gI s 1) - (1 : Int32))), .unset, .unset]) d46_6 rfl (go_aloadN (pc := 7) d46_7 rfl (go_bipush (pc := 8) d46_8 cb_8 (go_iconst (pc := 10) d46_10 ci_0 ?_)))))))
  refine go_iloadN (pc := 11) d46_11 rfl (go_iconst (pc := 12) d46_12 ci_0 ?_)
  obtain ⟨r13, e1, hf⟩ := Option.bind_eq_some_iff.mp hf
  refine go_priv (pc := 13) (i := 0) (as := [.int (8 : Int32), .int (0 : Int32), .int ((gI s 1) - (1 : Int32)), .int (0 : Int32)]) (rest := []) (w' := (none, [(12, r13.2)])) lk_0_198 pd_39 rfl oid_0 rfl rfl rfl rfl rfl rfl ⟨rfl, rfl, rfl, rfl, rfl⟩ d46_13 (c_k_lowerOuter (8 : Int32) (0 : Int32) ((gI s 1) - (1 : Int32)) (0 : Int32) s _ e1) ?_
  refine go_pop (pc := 16) d46_16 (go_iloadN (pc := 17) d46_17 rfl (go_istoreN (pc := 18) (L' := [.val (.ref 1), .val (.int ((gI s 1) - (1 : Int32))), .val (.int ((gI s 1) - (1 : Int32))), .unset]) d46_18 rfl ?_))
  exact k_runOuter_19_ok BIG ((gI s 1) - (1 : Int32)) ((gI s 1) - (1 : Int32)) r13.2 .unset (Or.inl rfl) _ hf
theorem c_k_runOuter (s : S) (o : S) (hf : k_runOuter s = some o) : Call PP m46 [.ref 1] (none, [(12, s)]) (none, (none, [(12, o)])) := call_of_go pl_0 rfl (fun _ => rfl) (k_runOuter_ok s   _ hf)
set_option maxRecDepth 65536 in
set_option maxHeartbeats 4000000 in
theorem k_parse_63_ok  : ∀  (s : S) (x1 : Slot) (x2 : Slot) (hx1 : k1 x1) (hx2 : k1 x2) (o : Int32 × S), k_parse_63 s = some o → Go PP m47 63 [.val (.ref 1), x1, x2] [] (none, [(12, s)]) (some (.int o.1), (none, [(12, o.2)])) := by
  intro s x1 x2 hx1 hx2 o hf
  unfold k_parse_63 at hf
  refine go_aloadN (pc := 63) d47_63 rfl (go_getI (pc := 64) fs_95 hm_47 d47_64 (go_iconst (pc := 67) d47_67 ci_1 ?_))
  by_cases h1 : (gI s 4) = (1 : Int32)
  · replace hf := (if_pos h1).symm.trans hf
    refine go_icN (pc := 68) d47_68 (XT.ii_ne_f h1) ?_
    refine go_iconst (pc := 71) d47_71 ci_1 (go_goto (pc := 72) (pc' := 76) d47_72 j_72_4 ?_)
    cases hf
    exact go_zret (pc := 76) rfl d47_76 (show (1 : Int32) = nar .boolean (1 : Int32) by decide)
  · replace hf := (if_neg h1).symm.trans hf
    refine go_icY (pc := 68) (pc' := 75) d47_68 (XT.ii_ne_t h1) j_68_7 ?_
    refine go_iconst (pc := 75) d47_75 ci_0 ?_
    cases hf
    exact go_zret (pc := 76) rfl d47_76 (show (0 : Int32) = nar .boolean (0 : Int32) by decide)
set_option maxRecDepth 65536 in
set_option maxHeartbeats 4000000 in
theorem k_parse_ok  : ∀  (s : S)  (o : Int32 × S), k_parse s = some o → Go PP m47 0 [.val (.ref 1), .unset, .unset] [] (none, [(12, s)]) (some (.int o.1), (none, [(12, o.2)])) := by
  intro s o hf
  unfold k_parse at hf
  refine go_aloadN (pc := 0) d47_0 rfl ?_
  obtain ⟨r1, e1, hf⟩ := Option.bind_eq_some_iff.mp hf
  refine go_priv (pc := 1) (i := 0) (as := []) (rest := []) (w' := (none, [(12, r1)])) lk_0_61 pd_3 rfl oid_0 rfl rfl rfl rfl rfl rfl ⟨rfl, rfl, rfl, rfl, rfl⟩ d47_1 (c_k_clearTables s _ e1) ?_
  refine go_aloadN (pc := 4) d47_4 rfl ?_
  obtain ⟨r5, e2, hf⟩ := Option.bind_eq_some_iff.mp hf
  refine go_priv (pc := 5) (i := 0) (as := []) (rest := []) (w' := (none, [(12, r5)])) lk_0_88 pd_32 rfl oid_0 rfl rfl rfl rfl rfl rfl ⟨rfl, rfl, rfl, rfl, rfl⟩ d47_5 (c_k_runInside r1 _ e2) ?_
  refine go_aloadN (pc := 8) d47_8 rfl (go_getI (pc := 9) fs_55 hm_47 d47_9 (go_iconst (pc := 12) d47_12 ci_1 (go_isub (pc := 13) d47_13 (go_istoreN (pc := 14) (L' := [.val (.ref 1), .val (.int ((gI r5 1) - (1 : Int32))), .unset]) d47_14 rfl (go_aloadN (pc := 15) d47_15 rfl (go_bipush (pc := 16) d47_16 cb_8 (go_iconst (pc := 18) d47_18 ci_0 ?_)))))))
  refine go_iloadN (pc := 19) d47_19 rfl ?_
  obtain ⟨r20, e3, hf⟩ := Option.bind_eq_some_iff.mp hf
  refine go_priv (pc := 20) (i := 0) (as := [.int (8 : Int32), .int (0 : Int32), .int ((gI r5 1) - (1 : Int32))]) (rest := []) (w' := (none, [(12, r5)])) lk_0_91 pd_24 rfl oid_0 rfl rfl rfl rfl rfl rfl ⟨rfl, rfl, rfl, rfl, rfl⟩ d47_20 (c_k_getSpan (8 : Int32) (0 : Int32) ((gI r5 1) - (1 : Int32)) r5 _ e3) ?_
  refine go_istoreN (pc := 23) (L' := [.val (.ref 1), .val (.int ((gI r5 1) - (1 : Int32))), .val (.int r20)]) d47_23 rfl (go_iloadN (pc := 24) d47_24 rfl (go_aloadN (pc := 25) d47_25 rfl (go_getI (pc := 26) fs_8 hm_47 d47_26 ?_)))
  by_cases h4 : r20 < (gI r5 0)
  · replace hf := (if_pos h4).symm.trans hf
    refine go_icN (pc := 29) d47_29 (XT.ii_ge_f h4) ?_
    refine go_aloadN (pc := 32) d47_32 rfl (go_iconst (pc := 33) d47_33 ci_1 (go_putI (pc := 34) fs_95 hm_47 (wr_4 _) hn_47 d47_34 (go_aloadN (pc := 37) d47_37 rfl (go_iloadN (pc := 38) d47_38 rfl (go_putI (pc := 39) fs_98 hm_47 (wr_5 _) hn_47 d47_39 (go_aloadN (pc := 42) d47_42 rfl ?_))))))
    obtain ⟨r43, e5, hf⟩ := Option.bind_eq_some_iff.mp hf
    refine go_priv (pc := 43) (i := 0) (as := []) (rest := []) (w' := (none, [(12, r43)])) lk_0_101 pd_38 rfl oid_0 rfl rfl rfl rfl rfl rfl ⟨rfl, rfl, rfl, rfl, rfl⟩ d47_43 (c_k_runRest (sI (sI r5 4 (1 : Int32)) 5 r20) _ e5) ?_
    refine go_aloadN (pc := 46) d47_46 rfl ?_
    obtain ⟨r47, e6, hf⟩ := Option.bind_eq_some_iff.mp hf
    refine go_priv (pc := 47) (i := 0) (as := []) (rest := []) (w' := (none, [(12, r47)])) lk_0_104 pd_46 rfl oid_0 rfl rfl rfl rfl rfl rfl ⟨rfl, rfl, rfl, rfl, rfl⟩ d47_47 (c_k_runOuter r43 _ e6) ?_
    refine go_goto (pc := 50) (pc' := 63) d47_50 j_50_13 ?_
    exact k_parse_63_ok r47 (.val (.int ((gI r5 1) - (1 : Int32)))) (.val (.int r20)) (Or.inr ⟨_, rfl, rfl⟩) (Or.inr ⟨_, rfl, rfl⟩) _ hf
  · replace hf := (if_neg h4).symm.trans hf
    refine go_icY (pc := 29) (pc' := 53) d47_29 (XT.ii_ge_t h4) j_29_24 ?_
    refine go_aloadN (pc := 53) d47_53 rfl (go_iconst (pc := 54) d47_54 ci_2 (go_putI (pc := 55) fs_95 hm_47 (wr_4 _) hn_47 d47_55 (go_aloadN (pc := 58) d47_58 rfl (go_iconst (pc := 59) d47_59 ci_m1 (go_putI (pc := 60) fs_98 hm_47 (wr_5 _) hn_47 d47_60 ?_)))))
    exact k_parse_63_ok (sI (sI r5 4 (2 : Int32)) 5 (-1 : Int32)) (.val (.int ((gI r5 1) - (1 : Int32)))) (.val (.int r20)) (Or.inr ⟨_, rfl, rfl⟩) (Or.inr ⟨_, rfl, rfl⟩) _ hf
theorem c_k_parse (s : S) (o : Int32 × S) (hf : k_parse s = some o) : Call PP m47 [.ref 1] (none, [(12, s)]) (some (.int o.1), (none, [(12, o.2)])) := call_of_go pl_0 rfl (fun h => nomatch h) (k_parse_ok s   _ hf)
set_option maxRecDepth 65536 in
set_option maxHeartbeats 4000000 in
theorem k_status_ok  : ∀  (s : S)  (o : Int32), k_status s = o → Go PP m48 0 [.val (.ref 1)] [] (none, [(12, s)]) (some (.int o), (none, [(12, s)])) := by
  intro s o hf
  unfold k_status at hf
  refine go_aloadN (pc := 0) d48_0 rfl (go_getI (pc := 1) fs_95 hm_48 d48_1 ?_)
  cases hf
  exact go_iret (pc := 4) rfl d48_4
theorem c_k_status (s : S) : Call PP m48 [.ref 1] (none, [(12, s)]) (some (.int (k_status s)), (none, [(12, s)])) := call_of_go pl_0 rfl (fun h => nomatch h) (k_status_ok s   _ rfl)
set_option maxRecDepth 65536 in
set_option maxHeartbeats 4000000 in
theorem k_bestWeight_ok  : ∀  (s : S)  (o : Int32), k_bestWeight s = o → Go PP m49 0 [.val (.ref 1)] [] (none, [(12, s)]) (some (.int o), (none, [(12, s)])) := by
  intro s o hf
  unfold k_bestWeight at hf
  refine go_aloadN (pc := 0) d49_0 rfl (go_getI (pc := 1) fs_95 hm_49 d49_1 (go_iconst (pc := 4) d49_4 ci_1 ?_))
  by_cases h1 : (gI s 4) = (1 : Int32)
  · replace hf := (if_pos h1).symm.trans hf
    refine go_icY (pc := 5) (pc' := 10) d49_5 (XT.ii_eq_t h1) j_5_5 ?_
    refine go_aloadN (pc := 10) d49_10 rfl (go_getI (pc := 11) fs_98 hm_49 d49_11 ?_)
    cases hf
    exact go_iret (pc := 14) rfl d49_14
  · replace hf := (if_neg h1).symm.trans hf
    refine go_icN (pc := 5) d49_5 (XT.ii_eq_f h1) ?_
    refine go_iconst (pc := 8) d49_8 ci_m1 ?_
    cases hf
    exact go_iret (pc := 9) rfl d49_9
theorem c_k_bestWeight (s : S) : Call PP m49 [.ref 1] (none, [(12, s)]) (some (.int (k_bestWeight s)), (none, [(12, s)])) := call_of_go pl_0 rfl (fun h => nomatch h) (k_bestWeight_ok s   _ rfl)
set_option maxRecDepth 65536 in
set_option maxHeartbeats 4000000 in
theorem k_answer_ok  : ∀ (v1 : Int32) (s : S)  (o : Int32), k_answer v1 s = o → Go PP m50 0 [.val (.ref 1), .val (.int v1)] [] (none, [(12, s)]) (some (.int o), (none, [(12, s)])) := by
  intro v1 s o hf
  unfold k_answer at hf
  refine go_iloadN (pc := 0) d50_0 rfl (go_aloadN (pc := 1) d50_1 rfl (go_getI (pc := 2) fs_8 hm_50 d50_2 ?_))
  by_cases h1 : v1 < (gI s 0)
  · replace hf := (if_pos h1).symm.trans hf
    refine go_icN (pc := 5) d50_5 (XT.ii_ge_f h1) ?_
    refine go_iloadN (pc := 8) d50_8 rfl ?_
    by_cases h2 : v1 < 0
    · replace hf := (if_pos h2).symm.trans hf
      refine go_ifN (pc := 9) d50_9 (XT.i0_ge_f h2) ?_
      refine go_iconst (pc := 12) d50_12 ci_m1 ?_
      cases hf
      exact go_iret (pc := 13) rfl d50_13
    · replace hf := (if_neg h2).symm.trans hf
      refine go_ifY (pc := 9) (pc' := 14) d50_9 (XT.i0_ge_t h2) j_9_5 ?_
      refine go_iloadN (pc := 14) d50_14 rfl ?_
      cases hf
      exact go_iret (pc := 15) rfl d50_15
  · replace hf := (if_neg h1).symm.trans hf
    refine go_icY (pc := 5) (pc' := 12) d50_5 (XT.ii_ge_t h1) j_5_7 ?_
    refine go_iconst (pc := 12) d50_12 ci_m1 ?_
    cases hf
    exact go_iret (pc := 13) rfl d50_13
theorem c_k_answer (v1 : Int32) (s : S) : Call PP m50 [.ref 1, .int v1] (none, [(12, s)]) (some (.int (k_answer v1 s)), (none, [(12, s)])) := call_of_go pl_0 rfl (fun h => nomatch h) (k_answer_ok v1 s   _ rfl)
set_option maxRecDepth 65536 in
set_option maxHeartbeats 4000000 in
theorem k_spanWeight_ok  : ∀ (v1 : Int32) (v2 : Int32) (v3 : Int32) (s : S)  (o : Int32), k_spanWeight v1 v2 v3 s = some o → Go PP m51 0 [.val (.ref 1), .val (.int v1), .val (.int v2), .val (.int v3), .unset] [] (none, [(12, s)]) (some (.int o), (none, [(12, s)])) := by
  intro v1 v2 v3 s o hf
  unfold k_spanWeight at hf
  refine go_aloadN (pc := 0) d51_0 rfl (go_getI (pc := 1) fs_95 hm_51 d51_1 ?_)
  by_cases h1 : (gI s 4) = 0
  · replace hf := (if_pos h1).symm.trans hf
    refine go_ifN (pc := 4) d51_4 (XT.i0_ne_f h1) ?_
    refine go_iconst (pc := 7) d51_7 ci_m1 ?_
    cases hf
    exact go_iret (pc := 8) rfl d51_8
  · replace hf := (if_neg h1).symm.trans hf
    refine go_ifY (pc := 4) (pc' := 9) d51_4 (XT.i0_ne_t h1) j_4_5 ?_
    refine go_aloadN (pc := 9) d51_9 rfl (go_iloadN (pc := 10) d51_10 rfl ?_)
    refine go_priv (pc := 11) (i := 0) (as := [.int v1]) (rest := []) (w' := (none, [(12, s)])) lk_0_107 pd_12 rfl oid_0 rfl rfl rfl rfl rfl rfl ⟨rfl, rfl, rfl, rfl, rfl⟩ d51_11 (c_k_isCode v1 s) ?_
    by_cases h2 : (k_isCode v1) = 0
    · replace hf := (if_pos h2).symm.trans hf
      refine go_ifY (pc := 14) (pc' := 33) d51_14 (XT.i0_eq_t h2) j_14_19 ?_
      refine go_iconst (pc := 33) d51_33 ci_m1 ?_
      cases hf
      exact go_iret (pc := 34) rfl d51_34
    · replace hf := (if_neg h2).symm.trans hf
      refine go_ifN (pc := 14) d51_14 (XT.i0_eq_f h2) ?_
      refine go_aloadN (pc := 17) d51_17 rfl (go_iloadN (pc := 18) d51_18 rfl ?_)
      refine go_priv (pc := 19) (i := 0) (as := [.int v2]) (rest := []) (w' := (none, [(12, s)])) lk_0_111 pd_13 rfl oid_0 rfl rfl rfl rfl rfl rfl ⟨rfl, rfl, rfl, rfl, rfl⟩ d51_19 (c_k_isNode v2 s) ?_
      by_cases h3 : (k_isNode v2 s) = 0
      · replace hf := (if_pos h3).symm.trans hf
        refine go_ifY (pc := 22) (pc' := 33) d51_22 (XT.i0_eq_t h3) j_22_11 ?_
        refine go_iconst (pc := 33) d51_33 ci_m1 ?_
        cases hf
        exact go_iret (pc := 34) rfl d51_34
      · replace hf := (if_neg h3).symm.trans hf
        refine go_ifN (pc := 22) d51_22 (XT.i0_eq_f h3) ?_
        refine go_aloadN (pc := 25) d51_25 rfl (go_iloadN (pc := 26) d51_26 rfl ?_)
        refine go_priv (pc := 27) (i := 0) (as := [.int v3]) (rest := []) (w' := (none, [(12, s)])) lk_0_111 pd_13 rfl oid_0 rfl rfl rfl rfl rfl rfl ⟨rfl, rfl, rfl, rfl, rfl⟩ d51_27 (c_k_isNode v3 s) ?_
        by_cases h4 : (k_isNode v3 s) = 0
        · replace hf := (if_pos h4).symm.trans hf
          refine go_ifN (pc := 30) d51_30 (XT.i0_ne_f h4) ?_
          refine go_iconst (pc := 33) d51_33 ci_m1 ?_
          cases hf
          exact go_iret (pc := 34) rfl d51_34
        · replace hf := (if_neg h4).symm.trans hf
          refine go_ifY (pc := 30) (pc' := 35) d51_30 (XT.i0_ne_t h4) j_30_5 ?_
          refine go_iloadN (pc := 35) d51_35 rfl (go_iloadN (pc := 36) d51_36 rfl ?_)
          by_cases h5 : v3 < v2
          · replace hf := (if_pos h5).symm.trans hf
            refine go_icN (pc := 37) d51_37 (XT.ii_le_f h5) ?_
            refine go_iconst (pc := 40) d51_40 ci_m1 ?_
            cases hf
            exact go_iret (pc := 41) rfl d51_41
          · replace hf := (if_neg h5).symm.trans hf
            refine go_icY (pc := 37) (pc' := 42) d51_37 (XT.ii_le_t h5) j_37_5 ?_
            refine go_aloadN (pc := 42) d51_42 rfl (go_iloadN (pc := 43) d51_43 rfl (go_iloadN (pc := 44) d51_44 rfl (go_iloadN (pc := 45) d51_45 rfl ?_)))
            obtain ⟨r46, e6, hf⟩ := Option.bind_eq_some_iff.mp hf
            refine go_priv (pc := 46) (i := 0) (as := [.int v1, .int v2, .int v3]) (rest := []) (w' := (none, [(12, s)])) lk_0_91 pd_24 rfl oid_0 rfl rfl rfl rfl rfl rfl ⟨rfl, rfl, rfl, rfl, rfl⟩ d51_46 (c_k_getSpan v1 v2 v3 s _ e6) ?_
            refine go_istore (pc := 49) (L' := [.val (.ref 1), .val (.int v1), .val (.int v2), .val (.int v3), .val (.int r46)]) d51_49 rfl (go_aloadN (pc := 51) d51_51 rfl (go_iload (pc := 52) d51_52 rfl ?_))
            refine go_priv (pc := 54) (i := 0) (as := [.int r46]) (rest := []) (w' := (none, [(12, s)])) lk_0_114 pd_50 rfl oid_0 rfl rfl rfl rfl rfl rfl ⟨rfl, rfl, rfl, rfl, rfl⟩ d51_54 (c_k_answer r46 s) ?_
            cases hf
            exact go_iret (pc := 57) rfl d51_57
theorem c_k_spanWeight (v1 : Int32) (v2 : Int32) (v3 : Int32) (s : S) (o : Int32) (hf : k_spanWeight v1 v2 v3 s = some o) : Call PP m51 [.ref 1, .int v1, .int v2, .int v3] (none, [(12, s)]) (some (.int o), (none, [(12, s)])) := call_of_go pl_0 rfl (fun h => nomatch h) (k_spanWeight_ok v1 v2 v3 s   _ hf)
set_option maxRecDepth 65536 in
set_option maxHeartbeats 4000000 in
theorem k_edgeBest_ok  : ∀ (v1 : Int32) (s : S)  (o : Int32), k_edgeBest v1 s = some o → Go PP m52 0 [.val (.ref 1), .val (.int v1), .unset, .unset] [] (none, [(12, s)]) (some (.int o), (none, [(12, s)])) := by
  intro v1 s o hf
  unfold k_edgeBest at hf
  refine go_aloadN (pc := 0) d52_0 rfl (go_getI (pc := 1) fs_95 hm_52 d52_1 (go_iconst (pc := 4) d52_4 ci_1 ?_))
  by_cases h1 : (gI s 4) = (1 : Int32)
  · replace hf := (if_pos h1).symm.trans hf
    refine go_icY (pc := 5) (pc' := 10) d52_5 (XT.ii_eq_t h1) j_5_5 ?_
    refine go_iloadN (pc := 10) d52_10 rfl ?_
    by_cases h2 : v1 < 0
    · replace hf := (if_pos h2).symm.trans hf
      refine go_ifY (pc := 11) (pc' := 22) d52_11 (XT.i0_lt_t h2) j_11_11 ?_
      refine go_iconst (pc := 22) d52_22 ci_m1 ?_
      cases hf
      exact go_iret (pc := 23) rfl d52_23
    · replace hf := (if_neg h2).symm.trans hf
      refine go_ifN (pc := 11) d52_11 (XT.i0_lt_f h2) ?_
      refine go_iloadN (pc := 14) d52_14 rfl (go_aloadN (pc := 15) d52_15 rfl (go_getI (pc := 16) fs_64 hm_52 d52_16 ?_))
      by_cases h3 : v1 < (gI s 2)
      · replace hf := (if_pos h3).symm.trans hf
        refine go_icY (pc := 19) (pc' := 24) d52_19 (XT.ii_lt_t h3) j_19_5 ?_
        refine go_aloadN (pc := 24) d52_24 rfl (go_aloadN (pc := 25) d52_25 rfl (go_getA (pc := 26) fa_21 hm_52 d52_26 rfl (go_iloadN (pc := 29) d52_29 rfl ?_)))
        obtain ⟨a30, e4, hf⟩ := Option.bind_eq_some_iff.mp hf
        refine go_iaload (pc := 30) (q := 2) ar_2 rfl e4 d52_30 ?_
        refine go_aloadN (pc := 31) d52_31 rfl (go_getA (pc := 32) fa_14 hm_52 d52_32 rfl (go_iloadN (pc := 35) d52_35 rfl ?_))
        obtain ⟨a36, e5, hf⟩ := Option.bind_eq_some_iff.mp hf
        refine go_iaload (pc := 36) (q := 0) ar_0 rfl e5 d52_36 ?_
        refine go_aloadN (pc := 37) d52_37 rfl (go_getA (pc := 38) fa_18 hm_52 d52_38 rfl (go_iloadN (pc := 41) d52_41 rfl ?_))
        obtain ⟨a42, e6, hf⟩ := Option.bind_eq_some_iff.mp hf
        refine go_iaload (pc := 42) (q := 1) ar_1 rfl e6 d52_42 ?_
        obtain ⟨r43, e7, hf⟩ := Option.bind_eq_some_iff.mp hf
        refine go_priv (pc := 43) (i := 0) (as := [.int a30, .int a36, .int a42]) (rest := []) (w' := (none, [(12, s)])) lk_0_117 pd_40 rfl oid_0 rfl rfl rfl rfl rfl rfl ⟨rfl, rfl, rfl, rfl, rfl⟩ d52_43 (c_k_getOuter a30 a36 a42 s _ e7) ?_
        refine go_istoreN (pc := 46) (L' := [.val (.ref 1), .val (.int v1), .val (.int r43), .unset]) d52_46 rfl (go_aloadN (pc := 47) d52_47 rfl (go_iloadN (pc := 48) d52_48 rfl (go_aloadN (pc := 49) d52_49 rfl (go_getA (pc := 50) fa_24 hm_52 d52_50 rfl (go_iloadN (pc := 53) d52_53 rfl ?_)))))
        obtain ⟨a54, e8, hf⟩ := Option.bind_eq_some_iff.mp hf
        refine go_iaload (pc := 54) (q := 3) ar_3 rfl e8 d52_54 ?_
        refine go_priv (pc := 55) (i := 0) (as := [.int r43, .int a54]) (rest := []) (w' := (none, [(12, s)])) lk_0_120 pd_25 rfl oid_0 rfl rfl rfl rfl rfl rfl ⟨rfl, rfl, rfl, rfl, rfl⟩ d52_55 (c_k_plus r43 a54 s) ?_
        refine go_istoreN (pc := 58) (L' := [.val (.ref 1), .val (.int v1), .val (.int r43), .val (.int (k_plus r43 a54 s))]) d52_58 rfl (go_aloadN (pc := 59) d52_59 rfl (go_iloadN (pc := 60) d52_60 rfl ?_))
        refine go_priv (pc := 61) (i := 0) (as := [.int (k_plus r43 a54 s)]) (rest := []) (w' := (none, [(12, s)])) lk_0_114 pd_50 rfl oid_0 rfl rfl rfl rfl rfl rfl ⟨rfl, rfl, rfl, rfl, rfl⟩ d52_61 (c_k_answer (k_plus r43 a54 s) s) ?_
        cases hf
        exact go_iret (pc := 64) rfl d52_64
      · replace hf := (if_neg h3).symm.trans hf
        refine go_icN (pc := 19) d52_19 (XT.ii_lt_f h3) ?_
        refine go_iconst (pc := 22) d52_22 ci_m1 ?_
        cases hf
        exact go_iret (pc := 23) rfl d52_23
  · replace hf := (if_neg h1).symm.trans hf
    refine go_icN (pc := 5) d52_5 (XT.ii_eq_f h1) ?_
    refine go_iconst (pc := 8) d52_8 ci_m1 ?_
    cases hf
    exact go_iret (pc := 9) rfl d52_9
theorem c_k_edgeBest (v1 : Int32) (s : S) (o : Int32) (hf : k_edgeBest v1 s = some o) : Call PP m52 [.ref 1, .int v1] (none, [(12, s)]) (some (.int o), (none, [(12, s)])) := call_of_go pl_0 rfl (fun h => nomatch h) (k_edgeBest_ok v1 s   _ hf)
def T_k_ruleContext_22 (k22 : Int32 → Int32 → Int32 → Int32 → Int32 → S → Option Int32) : Prop := ∀ (v1 : Int32) (v2 : Int32) (v3 : Int32) (v4 : Int32) (v5 : Int32) (s : S) (x6 : Slot) (x7 : Slot) (x8 : Slot) (x9 : Slot) (hx6 : k1 x6) (hx7 : k1 x7) (hx8 : k1 x8) (hx9 : k1 x9) (o : Int32), k22 v1 v2 v3 v4 v5 s = some o → Go PP m53 22 [.val (.ref 1), .val (.int v1), .val (.int v2), .val (.int v3), .val (.int v4), .val (.int v5), x6, x7, x8, x9] [] (none, [(12, s)]) (some (.int o), (none, [(12, s)]))
set_option maxRecDepth 65536 in
set_option maxHeartbeats 4000000 in
theorem k_ruleContext_35_ok {k22 : Int32 → Int32 → Int32 → Int32 → Int32 → S → Option Int32} (hk22 : T_k_ruleContext_22 k22) : ∀ (n : Nat) (v1 : Int32) (v2 : Int32) (v3 : Int32) (v4 : Int32) (v5 : Int32) (v6 : Int32) (s : S) (x7 : Slot) (x8 : Slot) (x9 : Slot) (hx7 : k1 x7) (hx8 : k1 x8) (hx9 : k1 x9) (o : Int32), k_ruleContext_35 k22 n v1 v2 v3 v4 v5 v6 s = some o → Go PP m53 35 [.val (.ref 1), .val (.int v1), .val (.int v2), .val (.int v3), .val (.int v4), .val (.int v5), .val (.int v6), x7, x8, x9] [] (none, [(12, s)]) (some (.int o), (none, [(12, s)])) := by
  intro n
  induction n with
  | zero => intro v1 v2 v3 v4 v5 v6 s x7 x8 x9 hx7 hx8 hx9 o hf; exact nomatch hf
  | succ n ih =>
    intro v1 v2 v3 v4 v5 v6 s x7 x8 x9 hx7 hx8 hx9 o hf
    unfold k_ruleContext_35 at hf
    refine go_iload (pc := 35) d53_35 rfl (go_aloadN (pc := 37) d53_37 rfl (go_getI (pc := 38) fs_55 hm_53 d53_38 ?_))
    by_cases h1 : v6 < (gI s 1)
    · replace hf := (if_pos h1).symm.trans hf
      refine go_icN (pc := 41) d53_41 (XT.ii_ge_f h1) ?_
      refine go_aloadN (pc := 44) d53_44 rfl (go_iloadN (pc := 45) d53_45 rfl (go_iload (pc := 46) d53_46 rfl (go_iload (pc := 48) d53_48 rfl ?_)))
      obtain ⟨r50, e2, hf⟩ := Option.bind_eq_some_iff.mp hf
      refine go_priv (pc := 50) (i := 0) (as := [.int v2, .int v5, .int v6]) (rest := []) (w' := (none, [(12, s)])) lk_0_117 pd_40 rfl oid_0 rfl rfl rfl rfl rfl rfl ⟨rfl, rfl, rfl, rfl, rfl⟩ d53_50 (c_k_getOuter v2 v5 v6 s _ e2) ?_
      refine go_istore (pc := 53) (L' := [.val (.ref 1), .val (.int v1), .val (.int v2), .val (.int v3), .val (.int v4), .val (.int v5), .val (.int v6), .val (.int r50), x8, x9]) d53_53 (stx rfl hx7 rfl) (go_aloadN (pc := 55) d53_55 rfl (go_iloadN (pc := 56) d53_56 rfl (go_iloadN (pc := 57) d53_57 rfl (go_iload (pc := 58) d53_58 rfl (go_iload (pc := 60) d53_60 rfl ?_)))))
      obtain ⟨r62, e3, hf⟩ := Option.bind_eq_some_iff.mp hf
      refine go_priv (pc := 62) (i := 0) (as := [.int v1, .int v3, .int v5, .int v6]) (rest := []) (w' := (none, [(12, s)])) lk_0_176 pd_23 rfl oid_0 rfl rfl rfl rfl rfl rfl ⟨rfl, rfl, rfl, rfl, rfl⟩ d53_62 (c_k_getItem v1 v3 v5 v6 s _ e3) ?_
      refine go_istore (pc := 65) (L' := [.val (.ref 1), .val (.int v1), .val (.int v2), .val (.int v3), .val (.int v4), .val (.int v5), .val (.int v6), .val (.int r50), .val (.int r62), x9]) d53_65 (stx rfl hx8 rfl) (go_aloadN (pc := 67) d53_67 rfl (go_iload (pc := 68) d53_68 rfl (go_iload (pc := 70) d53_70 rfl ?_)))
      refine go_priv (pc := 72) (i := 0) (as := [.int r50, .int r62]) (rest := []) (w' := (none, [(12, s)])) lk_0_120 pd_25 rfl oid_0 rfl rfl rfl rfl rfl rfl ⟨rfl, rfl, rfl, rfl, rfl⟩ d53_72 (c_k_plus r50 r62 s) ?_
      refine go_istore (pc := 75) (L' := [.val (.ref 1), .val (.int v1), .val (.int v2), .val (.int v3), .val (.int v4), .val (.int v5), .val (.int v6), .val (.int r50), .val (.int r62), .val (.int (k_plus r50 r62 s))]) d53_75 (stx rfl hx9 rfl) (go_iload (pc := 77) d53_77 rfl (go_iload (pc := 79) d53_79 rfl ?_))
      by_cases h4 : (k_plus r50 r62 s) < v4
      · refine go_icN (pc := 81) d53_81 (XT.ii_ge_f h4) ?_
        refine go_iload (pc := 84) d53_84 rfl (go_istore (pc := 86) (L' := [.val (.ref 1), .val (.int v1), .val (.int v2), .val (.int v3), .val (.int (k_plus r50 r62 s)), .val (.int v5), .val (.int v6), .val (.int r50), .val (.int r62), .val (.int (k_plus r50 r62 s))]) d53_86 rfl (go_iinc (pc := 88) (L' := [.val (.ref 1), .val (.int v1), .val (.int v2), .val (.int v3), .val (.int (k_plus r50 r62 s)), .val (.int v5), .val (.int (v6 + (1 : Int32))), .val (.int r50), .val (.int r62), .val (.int (k_plus r50 r62 s))]) d53_88 rfl ci_1 rfl (go_goto (pc := 91) (pc' := 35) d53_91 j_91_m56 ?_)))
        exact ih v1 v2 v3 (k_plus r50 r62 s) v5 (v6 + (1 : Int32)) s (.val (.int r50)) (.val (.int r62)) (.val (.int (k_plus r50 r62 s))) (Or.inr ⟨_, rfl, rfl⟩) (Or.inr ⟨_, rfl, rfl⟩) (Or.inr ⟨_, rfl, rfl⟩) _ (by simpa only [if_pos h4] using hf)
      · refine go_icY (pc := 81) (pc' := 88) d53_81 (XT.ii_ge_t h4) j_81_7 ?_
        refine go_iinc (pc := 88) (L' := [.val (.ref 1), .val (.int v1), .val (.int v2), .val (.int v3), .val (.int v4), .val (.int v5), .val (.int (v6 + (1 : Int32))), .val (.int r50), .val (.int r62), .val (.int (k_plus r50 r62 s))]) d53_88 rfl ci_1 rfl (go_goto (pc := 91) (pc' := 35) d53_91 j_91_m56 ?_)
        exact ih v1 v2 v3 v4 v5 (v6 + (1 : Int32)) s (.val (.int r50)) (.val (.int r62)) (.val (.int (k_plus r50 r62 s))) (Or.inr ⟨_, rfl, rfl⟩) (Or.inr ⟨_, rfl, rfl⟩) (Or.inr ⟨_, rfl, rfl⟩) _ (by simpa only [if_neg h4] using hf)
    · replace hf := (if_neg h1).symm.trans hf
      refine go_icY (pc := 41) (pc' := 94) d53_41 (XT.ii_ge_t h1) j_41_53 ?_
      refine go_iinc (pc := 94) (L' := [.val (.ref 1), .val (.int v1), .val (.int v2), .val (.int v3), .val (.int v4), .val (.int (v5 + (1 : Int32))), .val (.int v6), x7, x8, x9]) d53_94 rfl ci_1 rfl (go_goto (pc := 97) (pc' := 22) d53_97 j_97_m75 ?_)
      exact hk22 v1 v2 v3 v4 (v5 + (1 : Int32)) s (.val (.int v6)) x7 x8 x9 (Or.inr ⟨_, rfl, rfl⟩) hx7 hx8 hx9 _ hf
set_option maxRecDepth 65536 in
set_option maxHeartbeats 4000000 in
theorem k_ruleContext_22_ok  : ∀ (n : Nat) (v1 : Int32) (v2 : Int32) (v3 : Int32) (v4 : Int32) (v5 : Int32) (s : S) (x6 : Slot) (x7 : Slot) (x8 : Slot) (x9 : Slot) (hx6 : k1 x6) (hx7 : k1 x7) (hx8 : k1 x8) (hx9 : k1 x9) (o : Int32), k_ruleContext_22 n v1 v2 v3 v4 v5 s = some o → Go PP m53 22 [.val (.ref 1), .val (.int v1), .val (.int v2), .val (.int v3), .val (.int v4), .val (.int v5), x6, x7, x8, x9] [] (none, [(12, s)]) (some (.int o), (none, [(12, s)])) := by
  intro n
  induction n with
  | zero => intro v1 v2 v3 v4 v5 s x6 x7 x8 x9 hx6 hx7 hx8 hx9 o hf; exact nomatch hf
  | succ n ih =>
    intro v1 v2 v3 v4 v5 s x6 x7 x8 x9 hx6 hx7 hx8 hx9 o hf
    unfold k_ruleContext_22 at hf
    refine go_iload (pc := 22) d53_22 rfl (go_aloadN (pc := 24) d53_24 rfl (go_getI (pc := 25) fs_55 hm_53 d53_25 ?_))
    by_cases h1 : v5 < (gI s 1)
    · replace hf := (if_pos h1).symm.trans hf
      refine go_icN (pc := 28) d53_28 (XT.ii_ge_f h1) ?_
      refine go_iload (pc := 31) d53_31 rfl (go_istore (pc := 33) (L' := [.val (.ref 1), .val (.int v1), .val (.int v2), .val (.int v3), .val (.int v4), .val (.int v5), .val (.int v5), x7, x8, x9]) d53_33 (stx rfl hx6 rfl) ?_)
      exact k_ruleContext_35_ok ih BIG v1 v2 v3 v4 v5 v5 s x7 x8 x9 hx7 hx8 hx9 _ hf
    · replace hf := (if_neg h1).symm.trans hf
      refine go_icY (pc := 28) (pc' := 100) d53_28 (XT.ii_ge_t h1) j_28_72 ?_
      refine go_iload (pc := 100) d53_100 rfl ?_
      cases hf
      exact go_iret (pc := 102) rfl d53_102
set_option maxRecDepth 65536 in
set_option maxHeartbeats 4000000 in
theorem k_ruleContext_ok  : ∀ (v1 : Int32) (s : S)  (o : Int32), k_ruleContext v1 s = some o → Go PP m53 0 [.val (.ref 1), .val (.int v1), .unset, .unset, .unset, .unset, .unset, .unset, .unset, .unset] [] (none, [(12, s)]) (some (.int o), (none, [(12, s)])) := by
  intro v1 s o hf
  unfold k_ruleContext at hf
  refine go_aloadN (pc := 0) d53_0 rfl (go_iloadN (pc := 1) d53_1 rfl ?_)
  obtain ⟨r2, e1, hf⟩ := Option.bind_eq_some_iff.mp hf
  refine go_priv (pc := 2) (i := 0) (as := [.int v1]) (rest := []) (w' := (none, [(12, s)])) lk_0_179 pd_28 rfl oid_0 rfl rfl rfl rfl rfl rfl ⟨rfl, rfl, rfl, rfl, rfl⟩ d53_2 (c_k_headCode v1 s _ e1) ?_
  refine go_istoreN (pc := 5) (L' := [.val (.ref 1), .val (.int v1), .val (.int r2), .unset, .unset, .unset, .unset, .unset, .unset, .unset]) d53_5 rfl (go_aloadN (pc := 6) d53_6 rfl (go_getA (pc := 7) fa_33 hm_53 d53_7 rfl (go_iloadN (pc := 10) d53_10 rfl ?_)))
  obtain ⟨a11, e2, hf⟩ := Option.bind_eq_some_iff.mp hf
  refine go_iaload (pc := 11) (q := 6) ar_6 rfl e2 d53_11 ?_
  refine go_istoreN (pc := 12) (L' := [.val (.ref 1), .val (.int v1), .val (.int r2), .val (.int a11), .unset, .unset, .unset, .unset, .unset, .unset]) d53_12 rfl (go_aloadN (pc := 13) d53_13 rfl (go_getI (pc := 14) fs_8 hm_53 d53_14 (go_istore (pc := 17) (L' := [.val (.ref 1), .val (.int v1), .val (.int r2), .val (.int a11), .val (.int (gI s 0)), .unset, .unset, .unset, .unset, .unset]) d53_17 rfl (go_iconst (pc := 19) d53_19 ci_0 (go_istore (pc := 20) (L' := [.val (.ref 1), .val (.int v1), .val (.int r2), .val (.int a11), .val (.int (gI s 0)), .val (.int (0 : Int32)), .unset, .unset, .unset, .unset]) d53_20 rfl ?_)))))
  exact k_ruleContext_22_ok BIG v1 r2 a11 (gI s 0) (0 : Int32) s .unset .unset .unset .unset (Or.inl rfl) (Or.inl rfl) (Or.inl rfl) (Or.inl rfl) _ hf
theorem c_k_ruleContext (v1 : Int32) (s : S) (o : Int32) (hf : k_ruleContext v1 s = some o) : Call PP m53 [.ref 1, .int v1] (none, [(12, s)]) (some (.int o), (none, [(12, s)])) := call_of_go pl_0 rfl (fun h => nomatch h) (k_ruleContext_ok v1 s   _ hf)
set_option maxRecDepth 65536 in
set_option maxHeartbeats 4000000 in
theorem k_ruleBest_ok  : ∀ (v1 : Int32) (s : S)  (o : Int32), k_ruleBest v1 s = some o → Go PP m54 0 [.val (.ref 1), .val (.int v1), .unset] [] (none, [(12, s)]) (some (.int o), (none, [(12, s)])) := by
  intro v1 s o hf
  unfold k_ruleBest at hf
  refine go_aloadN (pc := 0) d54_0 rfl (go_getI (pc := 1) fs_95 hm_54 d54_1 (go_iconst (pc := 4) d54_4 ci_1 ?_))
  by_cases h1 : (gI s 4) = (1 : Int32)
  · replace hf := (if_pos h1).symm.trans hf
    refine go_icY (pc := 5) (pc' := 10) d54_5 (XT.ii_eq_t h1) j_5_5 ?_
    refine go_aloadN (pc := 10) d54_10 rfl (go_iloadN (pc := 11) d54_11 rfl ?_)
    refine go_priv (pc := 12) (i := 0) (as := [.int v1]) (rest := []) (w' := (none, [(12, s)])) lk_0_123 pd_17 rfl oid_0 rfl rfl rfl rfl rfl rfl ⟨rfl, rfl, rfl, rfl, rfl⟩ d54_12 (c_k_isRule v1 s) ?_
    by_cases h2 : (k_isRule v1 s) = 0
    · replace hf := (if_pos h2).symm.trans hf
      refine go_ifN (pc := 15) d54_15 (XT.i0_ne_f h2) ?_
      refine go_iconst (pc := 18) d54_18 ci_m1 ?_
      cases hf
      exact go_iret (pc := 19) rfl d54_19
    · replace hf := (if_neg h2).symm.trans hf
      refine go_ifY (pc := 15) (pc' := 20) d54_15 (XT.i0_ne_t h2) j_15_5 ?_
      refine go_aloadN (pc := 20) d54_20 rfl (go_iloadN (pc := 21) d54_21 rfl ?_)
      obtain ⟨r22, e3, hf⟩ := Option.bind_eq_some_iff.mp hf
      refine go_priv (pc := 22) (i := 0) (as := [.int v1]) (rest := []) (w' := (none, [(12, s)])) lk_0_126 pd_53 rfl oid_0 rfl rfl rfl rfl rfl rfl ⟨rfl, rfl, rfl, rfl, rfl⟩ d54_22 (c_k_ruleContext v1 s _ e3) ?_
      refine go_istoreN (pc := 25) (L' := [.val (.ref 1), .val (.int v1), .val (.int r22)]) d54_25 rfl (go_aloadN (pc := 26) d54_26 rfl (go_iloadN (pc := 27) d54_27 rfl ?_))
      refine go_priv (pc := 28) (i := 0) (as := [.int r22]) (rest := []) (w' := (none, [(12, s)])) lk_0_114 pd_50 rfl oid_0 rfl rfl rfl rfl rfl rfl ⟨rfl, rfl, rfl, rfl, rfl⟩ d54_28 (c_k_answer r22 s) ?_
      cases hf
      exact go_iret (pc := 31) rfl d54_31
  · replace hf := (if_neg h1).symm.trans hf
    refine go_icN (pc := 5) d54_5 (XT.ii_eq_f h1) ?_
    refine go_iconst (pc := 8) d54_8 ci_m1 ?_
    cases hf
    exact go_iret (pc := 9) rfl d54_9
theorem c_k_ruleBest (v1 : Int32) (s : S) (o : Int32) (hf : k_ruleBest v1 s = some o) : Call PP m54 [.ref 1, .int v1] (none, [(12, s)]) (some (.int o), (none, [(12, s)])) := call_of_go pl_0 rfl (fun h => nomatch h) (k_ruleBest_ok v1 s   _ hf)
set_option maxRecDepth 65536 in
set_option maxHeartbeats 4000000 in
theorem law_463_ok  : ∀ (v6 : Int32) (v8 : Int32) (v12 : Int32) (v14 : Int32) (p0 : Int32) (p1 : Int32) (t0 : S) (x0 : Slot) (x1 : Slot) (x2 : Slot) (x3 : Slot) (x4 : Slot) (x5 : Slot) (x7 : Slot) (x9 : Slot) (x10 : Slot) (x11 : Slot) (x13 : Slot) (x15 : Slot) (x16 : Slot) (x18 : Slot) (x19 : Slot) (x20 : Slot) (x21 : Slot) (x22 : Slot) (hx0 : k1 x0) (hx1 : k1 x1) (hx2 : k1 x2) (hx3 : k1 x3) (hx4 : k1 x4) (hx5 : k1 x5) (hx7 : k1 x7) (hx9 : k1 x9) (hx10 : k1 x10) (hx11 : k1 x11) (hx13 : k1 x13) (hx15 : k1 x15) (hx16 : k1 x16) (hx18 : k1 x18) (hx19 : k1 x19) (hx20 : k1 x20) (hx21 : k1 x21) (hx22 : k1 x22) (o : Int32 × S), law_463 v6 v8 v12 v14 p0 p1 t0 = some o → Go PP m55 463 [x0, x1, x2, x3, x4, x5, .val (.int v6), x7, .val (.int v8), x9, x10, x11, .val (.int v12), x13, .val (.int v14), x15, x16, .val (.ref 1), x18, x19, x20, x21, x22] [.int p0, .int p1] (none, [(12, t0)]) (some (.int o.1), (none, [(12, o.2)])) := by
  intro v6 v8 v12 v14 p0 p1 t0 x0 x1 x2 x3 x4 x5 x7 x9 x10 x11 x13 x15 x16 x18 x19 x20 x21 x22 hx0 hx1 hx2 hx3 hx4 hx5 hx7 hx9 hx10 hx11 hx13 hx15 hx16 hx18 hx19 hx20 hx21 hx22 o hf
  unfold law_463 at hf
  by_cases h1 : p1 = p0
  · replace hf := (if_pos h1).symm.trans hf
    refine go_icY (pc := 463) (pc' := 468) d55_463 (XT.ii_eq_t h1) j_463_5 ?_
    refine go_aload (pc := 468) d55_468 rfl (go_iload (pc := 470) d55_470 rfl (go_iconst (pc := 472) d55_472 ci_0 (go_iconst (pc := 473) d55_473 ci_1 ?_)))
    obtain ⟨r474, e2, hf⟩ := Option.bind_eq_some_iff.mp hf
    refine go_virt (pc := 474) (i := 0) (as := [.int v6, .int (0 : Int32), .int (1 : Int32)]) (rest := []) (w' := (none, [(12, t0)])) lk_1_30 pd_51 rfl oid_0 rfl rfl rfl rfl rfl rfl ⟨rfl, rfl, rfl, rfl, rfl⟩ d55_474 (c_k_spanWeight v6 (0 : Int32) (1 : Int32) t0 _ e2) ?_
    refine go_iload (pc := 477) d55_477 rfl ?_
    by_cases h3 : r474 = v12
    · replace hf := (if_pos h3).symm.trans hf
      refine go_icY (pc := 479) (pc' := 484) d55_479 (XT.ii_eq_t h3) j_479_5 ?_
      refine go_aload (pc := 484) d55_484 rfl (go_iload (pc := 486) d55_486 rfl (go_iconst (pc := 488) d55_488 ci_0 (go_iconst (pc := 489) d55_489 ci_2 ?_)))
      obtain ⟨r490, e4, hf⟩ := Option.bind_eq_some_iff.mp hf
      refine go_virt (pc := 490) (i := 0) (as := [.int v8, .int (0 : Int32), .int (2 : Int32)]) (rest := []) (w' := (none, [(12, t0)])) lk_1_30 pd_51 rfl oid_0 rfl rfl rfl rfl rfl rfl ⟨rfl, rfl, rfl, rfl, rfl⟩ d55_490 (c_k_spanWeight v8 (0 : Int32) (2 : Int32) t0 _ e4) ?_
      refine go_iload (pc := 493) d55_493 rfl ?_
      by_cases h5 : r490 = v14
      · replace hf := (if_pos h5).symm.trans hf
        refine go_icN (pc := 495) d55_495 (XT.ii_ne_f h5) ?_
        refine go_iconst (pc := 498) d55_498 ci_1 (go_goto (pc := 499) (pc' := 503) d55_499 j_499_4 ?_)
        cases hf
        exact go_zret (pc := 503) rfl d55_503 (show (1 : Int32) = nar .boolean (1 : Int32) by decide)
      · replace hf := (if_neg h5).symm.trans hf
        refine go_icY (pc := 495) (pc' := 502) d55_495 (XT.ii_ne_t h5) j_495_7 ?_
        refine go_iconst (pc := 502) d55_502 ci_0 ?_
        cases hf
        exact go_zret (pc := 503) rfl d55_503 (show (0 : Int32) = nar .boolean (0 : Int32) by decide)
    · replace hf := (if_neg h3).symm.trans hf
      refine go_icN (pc := 479) d55_479 (XT.ii_eq_f h3) ?_
      refine go_iconst (pc := 482) d55_482 ci_0 ?_
      cases hf
      exact go_zret (pc := 483) rfl d55_483 (show (0 : Int32) = nar .boolean (0 : Int32) by decide)
  · replace hf := (if_neg h1).symm.trans hf
    refine go_icN (pc := 463) d55_463 (XT.ii_eq_f h1) ?_
    refine go_iconst (pc := 466) d55_466 ci_0 ?_
    cases hf
    exact go_zret (pc := 467) rfl d55_467 (show (0 : Int32) = nar .boolean (0 : Int32) by decide)
set_option maxRecDepth 65536 in
set_option maxHeartbeats 4000000 in
theorem law_433_ok  : ∀ (v6 : Int32) (v7 : Int32) (v8 : Int32) (v11 : Int32) (v12 : Int32) (v13 : Int32) (v14 : Int32) (v16 : Int32) (p0 : Int32) (p1 : Int32) (t0 : S) (x0 : Slot) (x1 : Slot) (x2 : Slot) (x3 : Slot) (x4 : Slot) (x5 : Slot) (x9 : Slot) (x10 : Slot) (x15 : Slot) (x18 : Slot) (x19 : Slot) (x20 : Slot) (x21 : Slot) (x22 : Slot) (hx0 : k1 x0) (hx1 : k1 x1) (hx2 : k1 x2) (hx3 : k1 x3) (hx4 : k1 x4) (hx5 : k1 x5) (hx9 : k1 x9) (hx10 : k1 x10) (hx15 : k1 x15) (hx18 : k1 x18) (hx19 : k1 x19) (hx20 : k1 x20) (hx21 : k1 x21) (hx22 : k1 x22) (o : Int32 × S), law_433 v6 v7 v8 v11 v12 v13 v14 v16 p0 p1 t0 = some o → Go PP m55 433 [x0, x1, x2, x3, x4, x5, .val (.int v6), .val (.int v7), .val (.int v8), x9, x10, .val (.int v11), .val (.int v12), .val (.int v13), .val (.int v14), x15, .val (.int v16), .val (.ref 1), x18, x19, x20, x21, x22] [.int p0, .int p1] (none, [(12, t0)]) (some (.int o.1), (none, [(12, o.2)])) := by
  intro v6 v7 v8 v11 v12 v13 v14 v16 p0 p1 t0 x0 x1 x2 x3 x4 x5 x9 x10 x15 x18 x19 x20 x21 x22 hx0 hx1 hx2 hx3 hx4 hx5 hx9 hx10 hx15 hx18 hx19 hx20 hx21 hx22 o hf
  unfold law_433 at hf
  by_cases h1 : p1 = p0
  · replace hf := (if_pos h1).symm.trans hf
    refine go_icY (pc := 433) (pc' := 438) d55_433 (XT.ii_eq_t h1) j_433_5 ?_
    refine go_aload (pc := 438) d55_438 rfl (go_bipush (pc := 440) d55_440 cb_8 (go_iconst (pc := 442) d55_442 ci_1 (go_iconst (pc := 443) d55_443 ci_2 ?_)))
    obtain ⟨r444, e2, hf⟩ := Option.bind_eq_some_iff.mp hf
    refine go_virt (pc := 444) (i := 0) (as := [.int (8 : Int32), .int (1 : Int32), .int (2 : Int32)]) (rest := []) (w' := (none, [(12, t0)])) lk_1_30 pd_51 rfl oid_0 rfl rfl rfl rfl rfl rfl ⟨rfl, rfl, rfl, rfl, rfl⟩ d55_444 (c_k_spanWeight (8 : Int32) (1 : Int32) (2 : Int32) t0 _ e2) ?_
    refine go_iload (pc := 447) d55_447 rfl (go_iload (pc := 449) d55_449 rfl ?_)
    by_cases h3 : v7 = v11
    · refine go_icN (pc := 451) d55_451 (XT.ii_ne_f h3) ?_
      refine go_iload (pc := 454) d55_454 rfl (go_iload (pc := 456) d55_456 rfl (go_iadd (pc := 458) d55_458 (go_goto (pc := 459) (pc' := 463) d55_459 j_459_4 ?_)))
      exact law_463_ok v6 v8 v12 v14 (v13 + v16) r444 t0 x0 x1 x2 x3 x4 x5 (.val (.int v7)) x9 x10 (.val (.int v11)) (.val (.int v13)) x15 (.val (.int v16)) x18 x19 x20 x21 x22 hx0 hx1 hx2 hx3 hx4 hx5 (Or.inr ⟨_, rfl, rfl⟩) hx9 hx10 (Or.inr ⟨_, rfl, rfl⟩) (Or.inr ⟨_, rfl, rfl⟩) hx15 (Or.inr ⟨_, rfl, rfl⟩) hx18 hx19 hx20 hx21 hx22 _ (by simpa only [if_pos h3] using hf)
    · refine go_icY (pc := 451) (pc' := 462) d55_451 (XT.ii_ne_t h3) j_451_11 ?_
      refine go_iconst (pc := 462) d55_462 ci_m1 ?_
      exact law_463_ok v6 v8 v12 v14 (-1 : Int32) r444 t0 x0 x1 x2 x3 x4 x5 (.val (.int v7)) x9 x10 (.val (.int v11)) (.val (.int v13)) x15 (.val (.int v16)) x18 x19 x20 x21 x22 hx0 hx1 hx2 hx3 hx4 hx5 (Or.inr ⟨_, rfl, rfl⟩) hx9 hx10 (Or.inr ⟨_, rfl, rfl⟩) (Or.inr ⟨_, rfl, rfl⟩) hx15 (Or.inr ⟨_, rfl, rfl⟩) hx18 hx19 hx20 hx21 hx22 _ (by simpa only [if_neg h3] using hf)
  · replace hf := (if_neg h1).symm.trans hf
    refine go_icN (pc := 433) d55_433 (XT.ii_eq_f h1) ?_
    refine go_iconst (pc := 436) d55_436 ci_0 ?_
    cases hf
    exact go_zret (pc := 437) rfl d55_437 (show (0 : Int32) = nar .boolean (0 : Int32) by decide)
set_option maxRecDepth 65536 in
set_option maxHeartbeats 4000000 in
theorem law_301_ok  : ∀ (v6 : Int32) (v7 : Int32) (v8 : Int32) (v11 : Int32) (v12 : Int32) (v13 : Int32) (v14 : Int32) (v16 : Int32) (v18 : Int32) (v19 : Int32) (v20 : Int32) (p0 : Int32) (t0 : S) (x0 : Slot) (x1 : Slot) (x2 : Slot) (x3 : Slot) (x4 : Slot) (x5 : Slot) (x9 : Slot) (x10 : Slot) (x15 : Slot) (x21 : Slot) (hx0 : k1 x0) (hx1 : k1 x1) (hx2 : k1 x2) (hx3 : k1 x3) (hx4 : k1 x4) (hx5 : k1 x5) (hx9 : k1 x9) (hx10 : k1 x10) (hx15 : k1 x15) (hx21 : k1 x21) (o : Int32 × S), law_301 v6 v7 v8 v11 v12 v13 v14 v16 v18 v19 v20 p0 t0 = some o → Go PP m55 301 [x0, x1, x2, x3, x4, x5, .val (.int v6), .val (.int v7), .val (.int v8), x9, x10, .val (.int v11), .val (.int v12), .val (.int v13), .val (.int v14), x15, .val (.int v16), .val (.ref 1), .val (.int v18), .val (.int v19), .val (.int v20), x21, .unset] [.int p0] (none, [(12, t0)]) (some (.int o.1), (none, [(12, o.2)])) := by
  intro v6 v7 v8 v11 v12 v13 v14 v16 v18 v19 v20 p0 t0 x0 x1 x2 x3 x4 x5 x9 x10 x15 x21 hx0 hx1 hx2 hx3 hx4 hx5 hx9 hx10 hx15 hx21 o hf
  unfold law_301 at hf
  refine go_istore (pc := 301) (L' := [x0, x1, x2, x3, x4, x5, .val (.int v6), .val (.int v7), .val (.int v8), x9, x10, .val (.int v11), .val (.int v12), .val (.int v13), .val (.int v14), x15, .val (.int v16), .val (.ref 1), .val (.int v18), .val (.int v19), .val (.int v20), x21, .val (.int p0)]) d55_301 rfl (go_aload (pc := 303) d55_303 rfl ?_)
  refine go_virt (pc := 305) (i := 0) (as := []) (rest := []) (w' := (none, [(12, t0)])) lk_1_23 pd_48 rfl oid_0 rfl rfl rfl rfl rfl rfl ⟨rfl, rfl, rfl, rfl, rfl⟩ d55_305 (c_k_status t0) ?_
  refine go_iload (pc := 308) d55_308 rfl ?_
  by_cases h1 : (k_status t0) = p0
  · replace hf := (if_pos h1).symm.trans hf
    refine go_icY (pc := 310) (pc' := 315) d55_310 (XT.ii_eq_t h1) j_310_5 ?_
    refine go_aload (pc := 315) d55_315 rfl ?_
    refine go_virt (pc := 317) (i := 0) (as := []) (rest := []) (w' := (none, [(12, t0)])) lk_1_27 pd_49 rfl oid_0 rfl rfl rfl rfl rfl rfl ⟨rfl, rfl, rfl, rfl, rfl⟩ d55_317 (c_k_bestWeight t0) ?_
    refine go_iload (pc := 320) d55_320 rfl ?_
    by_cases h2 : (k_bestWeight t0) = v20
    · replace hf := (if_pos h2).symm.trans hf
      refine go_icY (pc := 322) (pc' := 327) d55_322 (XT.ii_eq_t h2) j_322_5 ?_
      refine go_aload (pc := 327) d55_327 rfl (go_bipush (pc := 329) d55_329 cb_8 (go_iconst (pc := 331) d55_331 ci_0 (go_iconst (pc := 332) d55_332 ci_2 ?_)))
      obtain ⟨r333, e3, hf⟩ := Option.bind_eq_some_iff.mp hf
      refine go_virt (pc := 333) (i := 0) (as := [.int (8 : Int32), .int (0 : Int32), .int (2 : Int32)]) (rest := []) (w' := (none, [(12, t0)])) lk_1_30 pd_51 rfl oid_0 rfl rfl rfl rfl rfl rfl ⟨rfl, rfl, rfl, rfl, rfl⟩ d55_333 (c_k_spanWeight (8 : Int32) (0 : Int32) (2 : Int32) t0 _ e3) ?_
      refine go_iload (pc := 336) d55_336 rfl ?_
      by_cases h4 : r333 = v20
      · replace hf := (if_pos h4).symm.trans hf
        refine go_icY (pc := 338) (pc' := 343) d55_338 (XT.ii_eq_t h4) j_338_5 ?_
        refine go_aload (pc := 343) d55_343 rfl (go_iconst (pc := 345) d55_345 ci_0 ?_)
        obtain ⟨r346, e5, hf⟩ := Option.bind_eq_some_iff.mp hf
        refine go_virt (pc := 346) (i := 0) (as := [.int (0 : Int32)]) (rest := []) (w' := (none, [(12, t0)])) lk_1_34 pd_52 rfl oid_0 rfl rfl rfl rfl rfl rfl ⟨rfl, rfl, rfl, rfl, rfl⟩ d55_346 (c_k_edgeBest (0 : Int32) t0 _ e5) ?_
        refine go_iload (pc := 349) d55_349 rfl ?_
        by_cases h6 : r346 = v18
        · replace hf := (if_pos h6).symm.trans hf
          refine go_icY (pc := 351) (pc' := 356) d55_351 (XT.ii_eq_t h6) j_351_5 ?_
          refine go_aload (pc := 356) d55_356 rfl (go_iconst (pc := 358) d55_358 ci_1 ?_)
          obtain ⟨r359, e7, hf⟩ := Option.bind_eq_some_iff.mp hf
          refine go_virt (pc := 359) (i := 0) (as := [.int (1 : Int32)]) (rest := []) (w' := (none, [(12, t0)])) lk_1_34 pd_52 rfl oid_0 rfl rfl rfl rfl rfl rfl ⟨rfl, rfl, rfl, rfl, rfl⟩ d55_359 (c_k_edgeBest (1 : Int32) t0 _ e7) ?_
          refine go_iload (pc := 362) d55_362 rfl ?_
          by_cases h8 : r359 = v18
          · replace hf := (if_pos h8).symm.trans hf
            refine go_icY (pc := 364) (pc' := 369) d55_364 (XT.ii_eq_t h8) j_364_5 ?_
            refine go_aload (pc := 369) d55_369 rfl (go_iconst (pc := 371) d55_371 ci_2 ?_)
            obtain ⟨r372, e9, hf⟩ := Option.bind_eq_some_iff.mp hf
            refine go_virt (pc := 372) (i := 0) (as := [.int (2 : Int32)]) (rest := []) (w' := (none, [(12, t0)])) lk_1_34 pd_52 rfl oid_0 rfl rfl rfl rfl rfl rfl ⟨rfl, rfl, rfl, rfl, rfl⟩ d55_372 (c_k_edgeBest (2 : Int32) t0 _ e9) ?_
            refine go_iload (pc := 375) d55_375 rfl ?_
            by_cases h10 : r372 = v19
            · replace hf := (if_pos h10).symm.trans hf
              refine go_icY (pc := 377) (pc' := 382) d55_377 (XT.ii_eq_t h10) j_377_5 ?_
              refine go_aload (pc := 382) d55_382 rfl (go_iconst (pc := 384) d55_384 ci_0 ?_)
              obtain ⟨r385, e11, hf⟩ := Option.bind_eq_some_iff.mp hf
              refine go_virt (pc := 385) (i := 0) (as := [.int (0 : Int32)]) (rest := []) (w' := (none, [(12, t0)])) lk_1_38 pd_54 rfl oid_0 rfl rfl rfl rfl rfl rfl ⟨rfl, rfl, rfl, rfl, rfl⟩ d55_385 (c_k_ruleBest (0 : Int32) t0 _ e11) ?_
              refine go_iload (pc := 388) d55_388 rfl ?_
              by_cases h12 : r385 = v18
              · replace hf := (if_pos h12).symm.trans hf
                refine go_icY (pc := 390) (pc' := 395) d55_390 (XT.ii_eq_t h12) j_390_5 ?_
                refine go_aload (pc := 395) d55_395 rfl (go_iconst (pc := 397) d55_397 ci_1 ?_)
                obtain ⟨r398, e13, hf⟩ := Option.bind_eq_some_iff.mp hf
                refine go_virt (pc := 398) (i := 0) (as := [.int (1 : Int32)]) (rest := []) (w' := (none, [(12, t0)])) lk_1_38 pd_54 rfl oid_0 rfl rfl rfl rfl rfl rfl ⟨rfl, rfl, rfl, rfl, rfl⟩ d55_398 (c_k_ruleBest (1 : Int32) t0 _ e13) ?_
                refine go_iload (pc := 401) d55_401 rfl ?_
                by_cases h14 : r398 = v19
                · replace hf := (if_pos h14).symm.trans hf
                  refine go_icY (pc := 403) (pc' := 408) d55_403 (XT.ii_eq_t h14) j_403_5 ?_
                  refine go_aload (pc := 408) d55_408 rfl (go_bipush (pc := 410) d55_410 cb_8 (go_iconst (pc := 412) d55_412 ci_0 (go_iconst (pc := 413) d55_413 ci_1 ?_)))
                  obtain ⟨r414, e15, hf⟩ := Option.bind_eq_some_iff.mp hf
                  refine go_virt (pc := 414) (i := 0) (as := [.int (8 : Int32), .int (0 : Int32), .int (1 : Int32)]) (rest := []) (w' := (none, [(12, t0)])) lk_1_30 pd_51 rfl oid_0 rfl rfl rfl rfl rfl rfl ⟨rfl, rfl, rfl, rfl, rfl⟩ d55_414 (c_k_spanWeight (8 : Int32) (0 : Int32) (1 : Int32) t0 _ e15) ?_
                  refine go_iload (pc := 417) d55_417 rfl (go_iload (pc := 419) d55_419 rfl ?_)
                  by_cases h16 : v6 = v11
                  · refine go_icN (pc := 421) d55_421 (XT.ii_ne_f h16) ?_
                    refine go_iload (pc := 424) d55_424 rfl (go_iload (pc := 426) d55_426 rfl (go_iadd (pc := 428) d55_428 (go_goto (pc := 429) (pc' := 433) d55_429 j_429_4 ?_)))
                    exact law_433_ok v6 v7 v8 v11 v12 v13 v14 v16 (v12 + v16) r414 t0 x0 x1 x2 x3 x4 x5 x9 x10 x15 (.val (.int v18)) (.val (.int v19)) (.val (.int v20)) x21 (.val (.int p0)) hx0 hx1 hx2 hx3 hx4 hx5 hx9 hx10 hx15 (Or.inr ⟨_, rfl, rfl⟩) (Or.inr ⟨_, rfl, rfl⟩) (Or.inr ⟨_, rfl, rfl⟩) hx21 (Or.inr ⟨_, rfl, rfl⟩) _ (by simpa only [if_pos h16] using hf)
                  · refine go_icY (pc := 421) (pc' := 432) d55_421 (XT.ii_ne_t h16) j_421_11 ?_
                    refine go_iconst (pc := 432) d55_432 ci_m1 ?_
                    exact law_433_ok v6 v7 v8 v11 v12 v13 v14 v16 (-1 : Int32) r414 t0 x0 x1 x2 x3 x4 x5 x9 x10 x15 (.val (.int v18)) (.val (.int v19)) (.val (.int v20)) x21 (.val (.int p0)) hx0 hx1 hx2 hx3 hx4 hx5 hx9 hx10 hx15 (Or.inr ⟨_, rfl, rfl⟩) (Or.inr ⟨_, rfl, rfl⟩) (Or.inr ⟨_, rfl, rfl⟩) hx21 (Or.inr ⟨_, rfl, rfl⟩) _ (by simpa only [if_neg h16] using hf)
                · replace hf := (if_neg h14).symm.trans hf
                  refine go_icN (pc := 403) d55_403 (XT.ii_eq_f h14) ?_
                  refine go_iconst (pc := 406) d55_406 ci_0 ?_
                  cases hf
                  exact go_zret (pc := 407) rfl d55_407 (show (0 : Int32) = nar .boolean (0 : Int32) by decide)
              · replace hf := (if_neg h12).symm.trans hf
                refine go_icN (pc := 390) d55_390 (XT.ii_eq_f h12) ?_
                refine go_iconst (pc := 393) d55_393 ci_0 ?_
                cases hf
                exact go_zret (pc := 394) rfl d55_394 (show (0 : Int32) = nar .boolean (0 : Int32) by decide)
            · replace hf := (if_neg h10).symm.trans hf
              refine go_icN (pc := 377) d55_377 (XT.ii_eq_f h10) ?_
              refine go_iconst (pc := 380) d55_380 ci_0 ?_
              cases hf
              exact go_zret (pc := 381) rfl d55_381 (show (0 : Int32) = nar .boolean (0 : Int32) by decide)
          · replace hf := (if_neg h8).symm.trans hf
            refine go_icN (pc := 364) d55_364 (XT.ii_eq_f h8) ?_
            refine go_iconst (pc := 367) d55_367 ci_0 ?_
            cases hf
            exact go_zret (pc := 368) rfl d55_368 (show (0 : Int32) = nar .boolean (0 : Int32) by decide)
        · replace hf := (if_neg h6).symm.trans hf
          refine go_icN (pc := 351) d55_351 (XT.ii_eq_f h6) ?_
          refine go_iconst (pc := 354) d55_354 ci_0 ?_
          cases hf
          exact go_zret (pc := 355) rfl d55_355 (show (0 : Int32) = nar .boolean (0 : Int32) by decide)
      · replace hf := (if_neg h4).symm.trans hf
        refine go_icN (pc := 338) d55_338 (XT.ii_eq_f h4) ?_
        refine go_iconst (pc := 341) d55_341 ci_0 ?_
        cases hf
        exact go_zret (pc := 342) rfl d55_342 (show (0 : Int32) = nar .boolean (0 : Int32) by decide)
    · replace hf := (if_neg h2).symm.trans hf
      refine go_icN (pc := 322) d55_322 (XT.ii_eq_f h2) ?_
      refine go_iconst (pc := 325) d55_325 ci_0 ?_
      cases hf
      exact go_zret (pc := 326) rfl d55_326 (show (0 : Int32) = nar .boolean (0 : Int32) by decide)
  · replace hf := (if_neg h1).symm.trans hf
    refine go_icN (pc := 310) d55_310 (XT.ii_eq_f h1) ?_
    refine go_iconst (pc := 313) d55_313 ci_0 ?_
    cases hf
    exact go_zret (pc := 314) rfl d55_314 (show (0 : Int32) = nar .boolean (0 : Int32) by decide)
set_option maxRecDepth 65536 in
set_option maxHeartbeats 4000000 in
theorem law_277_ok  : ∀ (v6 : Int32) (v7 : Int32) (v8 : Int32) (v11 : Int32) (v12 : Int32) (v13 : Int32) (v14 : Int32) (v16 : Int32) (v18 : Int32) (v19 : Int32) (v20 : Int32) (p0 : Int32) (t0 : S) (x0 : Slot) (x1 : Slot) (x2 : Slot) (x3 : Slot) (x4 : Slot) (x5 : Slot) (x9 : Slot) (x10 : Slot) (x15 : Slot) (hx0 : k1 x0) (hx1 : k1 x1) (hx2 : k1 x2) (hx3 : k1 x3) (hx4 : k1 x4) (hx5 : k1 x5) (hx9 : k1 x9) (hx10 : k1 x10) (hx15 : k1 x15) (o : Int32 × S), law_277 v6 v7 v8 v11 v12 v13 v14 v16 v18 v19 v20 p0 t0 = some o → Go PP m55 277 [x0, x1, x2, x3, x4, x5, .val (.int v6), .val (.int v7), .val (.int v8), x9, x10, .val (.int v11), .val (.int v12), .val (.int v13), .val (.int v14), x15, .val (.int v16), .val (.ref 1), .val (.int v18), .val (.int v19), .val (.int v20), .unset, .unset] [.int p0] (none, [(12, t0)]) (some (.int o.1), (none, [(12, o.2)])) := by
  intro v6 v7 v8 v11 v12 v13 v14 v16 v18 v19 v20 p0 t0 x0 x1 x2 x3 x4 x5 x9 x10 x15 hx0 hx1 hx2 hx3 hx4 hx5 hx9 hx10 hx15 o hf
  unfold law_277 at hf
  refine go_istore (pc := 277) (L' := [x0, x1, x2, x3, x4, x5, .val (.int v6), .val (.int v7), .val (.int v8), x9, x10, .val (.int v11), .val (.int v12), .val (.int v13), .val (.int v14), x15, .val (.int v16), .val (.ref 1), .val (.int v18), .val (.int v19), .val (.int v20), .val (.int p0), .unset]) d55_277 rfl (go_aload (pc := 279) d55_279 rfl ?_)
  obtain ⟨r281, e1, hf⟩ := Option.bind_eq_some_iff.mp hf
  refine go_virt (pc := 281) (i := 0) (as := []) (rest := []) (w' := (none, [(12, r281.2)])) lk_1_19 pd_47 rfl oid_0 rfl rfl rfl rfl rfl rfl ⟨rfl, rfl, rfl, rfl, rfl⟩ d55_281 (c_k_parse t0 _ e1) ?_
  refine go_iload (pc := 284) d55_284 rfl ?_
  by_cases h2 : r281.1 = p0
  · replace hf := (if_pos h2).symm.trans hf
    refine go_icY (pc := 286) (pc' := 291) d55_286 (XT.ii_eq_t h2) j_286_5 ?_
    refine go_iload (pc := 291) d55_291 rfl ?_
    by_cases h3 : p0 = 0
    · refine go_ifY (pc := 293) (pc' := 300) d55_293 (XT.i0_eq_t h3) j_293_7 ?_
      refine go_iconst (pc := 300) d55_300 ci_2 ?_
      exact law_301_ok v6 v7 v8 v11 v12 v13 v14 v16 v18 v19 v20 (2 : Int32) r281.2 x0 x1 x2 x3 x4 x5 x9 x10 x15 (.val (.int p0)) hx0 hx1 hx2 hx3 hx4 hx5 hx9 hx10 hx15 (Or.inr ⟨_, rfl, rfl⟩) _ (by simpa only [if_pos h3] using hf)
    · refine go_ifN (pc := 293) d55_293 (XT.i0_eq_f h3) ?_
      refine go_iconst (pc := 296) d55_296 ci_1 (go_goto (pc := 297) (pc' := 301) d55_297 j_297_4 ?_)
      exact law_301_ok v6 v7 v8 v11 v12 v13 v14 v16 v18 v19 v20 (1 : Int32) r281.2 x0 x1 x2 x3 x4 x5 x9 x10 x15 (.val (.int p0)) hx0 hx1 hx2 hx3 hx4 hx5 hx9 hx10 hx15 (Or.inr ⟨_, rfl, rfl⟩) _ (by simpa only [if_neg h3] using hf)
  · replace hf := (if_neg h2).symm.trans hf
    refine go_icN (pc := 286) d55_286 (XT.ii_eq_f h2) ?_
    refine go_iconst (pc := 289) d55_289 ci_0 ?_
    cases hf
    exact go_zret (pc := 290) rfl d55_290 (show (0 : Int32) = nar .boolean (0 : Int32) by decide)
set_option maxRecDepth 65536 in
set_option maxHeartbeats 4000000 in
theorem law_267_ok  : ∀ (v6 : Int32) (v7 : Int32) (v8 : Int32) (v11 : Int32) (v12 : Int32) (v13 : Int32) (v14 : Int32) (v16 : Int32) (v18 : Int32) (v19 : Int32) (v20 : Int32) (t0 : S) (x0 : Slot) (x1 : Slot) (x2 : Slot) (x3 : Slot) (x4 : Slot) (x5 : Slot) (x9 : Slot) (x10 : Slot) (x15 : Slot) (hx0 : k1 x0) (hx1 : k1 x1) (hx2 : k1 x2) (hx3 : k1 x3) (hx4 : k1 x4) (hx5 : k1 x5) (hx9 : k1 x9) (hx10 : k1 x10) (hx15 : k1 x15) (o : Int32 × S), law_267 v6 v7 v8 v11 v12 v13 v14 v16 v18 v19 v20 t0 = some o → Go PP m55 267 [x0, x1, x2, x3, x4, x5, .val (.int v6), .val (.int v7), .val (.int v8), x9, x10, .val (.int v11), .val (.int v12), .val (.int v13), .val (.int v14), x15, .val (.int v16), .val (.ref 1), .val (.int v18), .val (.int v19), .val (.int v20), .unset, .unset] [] (none, [(12, t0)]) (some (.int o.1), (none, [(12, o.2)])) := by
  intro v6 v7 v8 v11 v12 v13 v14 v16 v18 v19 v20 t0 x0 x1 x2 x3 x4 x5 x9 x10 x15 hx0 hx1 hx2 hx3 hx4 hx5 hx9 hx10 hx15 o hf
  unfold law_267 at hf
  refine go_iload (pc := 267) d55_267 rfl ?_
  by_cases h1 : v20 < 0
  · refine go_ifY (pc := 269) (pc' := 276) d55_269 (XT.i0_lt_t h1) j_269_7 ?_
    refine go_iconst (pc := 276) d55_276 ci_0 ?_
    exact law_277_ok v6 v7 v8 v11 v12 v13 v14 v16 v18 v19 v20 (0 : Int32) t0 x0 x1 x2 x3 x4 x5 x9 x10 x15 hx0 hx1 hx2 hx3 hx4 hx5 hx9 hx10 hx15 _ (by simpa only [if_pos h1] using hf)
  · refine go_ifN (pc := 269) d55_269 (XT.i0_lt_f h1) ?_
    refine go_iconst (pc := 272) d55_272 ci_1 (go_goto (pc := 273) (pc' := 277) d55_273 j_273_4 ?_)
    exact law_277_ok v6 v7 v8 v11 v12 v13 v14 v16 v18 v19 v20 (1 : Int32) t0 x0 x1 x2 x3 x4 x5 x9 x10 x15 hx0 hx1 hx2 hx3 hx4 hx5 hx9 hx10 hx15 _ (by simpa only [if_neg h1] using hf)
set_option maxRecDepth 65536 in
set_option maxHeartbeats 4000000 in
theorem law_225_ok  : ∀ (v6 : Int32) (v7 : Int32) (v8 : Int32) (v11 : Int32) (v12 : Int32) (v13 : Int32) (v14 : Int32) (v16 : Int32) (v18 : Int32) (p0 : Int32) (t0 : S) (x0 : Slot) (x1 : Slot) (x2 : Slot) (x3 : Slot) (x4 : Slot) (x5 : Slot) (x9 : Slot) (x10 : Slot) (x15 : Slot) (hx0 : k1 x0) (hx1 : k1 x1) (hx2 : k1 x2) (hx3 : k1 x3) (hx4 : k1 x4) (hx5 : k1 x5) (hx9 : k1 x9) (hx10 : k1 x10) (hx15 : k1 x15) (o : Int32 × S), law_225 v6 v7 v8 v11 v12 v13 v14 v16 v18 p0 t0 = some o → Go PP m55 225 [x0, x1, x2, x3, x4, x5, .val (.int v6), .val (.int v7), .val (.int v8), x9, x10, .val (.int v11), .val (.int v12), .val (.int v13), .val (.int v14), x15, .val (.int v16), .val (.ref 1), .val (.int v18), .unset, .unset, .unset, .unset] [.int p0] (none, [(12, t0)]) (some (.int o.1), (none, [(12, o.2)])) := by
  intro v6 v7 v8 v11 v12 v13 v14 v16 v18 p0 t0 x0 x1 x2 x3 x4 x5 x9 x10 x15 hx0 hx1 hx2 hx3 hx4 hx5 hx9 hx10 hx15 o hf
  unfold law_225 at hf
  refine go_istore (pc := 225) (L' := [x0, x1, x2, x3, x4, x5, .val (.int v6), .val (.int v7), .val (.int v8), x9, x10, .val (.int v11), .val (.int v12), .val (.int v13), .val (.int v14), x15, .val (.int v16), .val (.ref 1), .val (.int v18), .val (.int p0), .unset, .unset, .unset]) d55_225 rfl (go_iload (pc := 227) d55_227 rfl ?_)
  by_cases h1 : v18 < 0
  · refine go_ifN (pc := 229) d55_229 (XT.i0_ge_f h1) ?_
    refine go_iload (pc := 232) d55_232 rfl (go_istore (pc := 234) (L' := [x0, x1, x2, x3, x4, x5, .val (.int v6), .val (.int v7), .val (.int v8), x9, x10, .val (.int v11), .val (.int v12), .val (.int v13), .val (.int v14), x15, .val (.int v16), .val (.ref 1), .val (.int v18), .val (.int p0), .val (.int p0), .unset, .unset]) d55_234 rfl (go_goto (pc := 236) (pc' := 267) d55_236 j_236_31 ?_))
    exact law_267_ok v6 v7 v8 v11 v12 v13 v14 v16 v18 p0 p0 t0 x0 x1 x2 x3 x4 x5 x9 x10 x15 hx0 hx1 hx2 hx3 hx4 hx5 hx9 hx10 hx15 _ (by simpa only [if_pos h1] using hf)
  · refine go_ifY (pc := 229) (pc' := 239) d55_229 (XT.i0_ge_t h1) j_229_10 ?_
    refine go_iload (pc := 239) d55_239 rfl ?_
    by_cases h2 : p0 < 0
    · refine go_ifN (pc := 241) d55_241 (XT.i0_ge_f h2) ?_
      refine go_iload (pc := 244) d55_244 rfl (go_istore (pc := 246) (L' := [x0, x1, x2, x3, x4, x5, .val (.int v6), .val (.int v7), .val (.int v8), x9, x10, .val (.int v11), .val (.int v12), .val (.int v13), .val (.int v14), x15, .val (.int v16), .val (.ref 1), .val (.int v18), .val (.int p0), .val (.int v18), .unset, .unset]) d55_246 rfl (go_goto (pc := 248) (pc' := 267) d55_248 j_248_19 ?_))
      exact law_267_ok v6 v7 v8 v11 v12 v13 v14 v16 v18 p0 v18 t0 x0 x1 x2 x3 x4 x5 x9 x10 x15 hx0 hx1 hx2 hx3 hx4 hx5 hx9 hx10 hx15 _ (by simpa only [if_neg h1, if_pos h2] using hf)
    · refine go_ifY (pc := 241) (pc' := 251) d55_241 (XT.i0_ge_t h2) j_241_10 ?_
      refine go_iload (pc := 251) d55_251 rfl (go_iload (pc := 253) d55_253 rfl ?_)
      by_cases h3 : v18 < p0
      · refine go_icN (pc := 255) d55_255 (XT.ii_ge_f h3) ?_
        refine go_iload (pc := 258) d55_258 rfl (go_goto (pc := 260) (pc' := 265) d55_260 j_260_5 (go_istore (pc := 265) (L' := [x0, x1, x2, x3, x4, x5, .val (.int v6), .val (.int v7), .val (.int v8), x9, x10, .val (.int v11), .val (.int v12), .val (.int v13), .val (.int v14), x15, .val (.int v16), .val (.ref 1), .val (.int v18), .val (.int p0), .val (.int v18), .unset, .unset]) d55_265 rfl ?_))
        exact law_267_ok v6 v7 v8 v11 v12 v13 v14 v16 v18 p0 v18 t0 x0 x1 x2 x3 x4 x5 x9 x10 x15 hx0 hx1 hx2 hx3 hx4 hx5 hx9 hx10 hx15 _ (by simpa only [if_neg h1, if_neg h2, if_pos h3] using hf)
      · refine go_icY (pc := 255) (pc' := 263) d55_255 (XT.ii_ge_t h3) j_255_8 ?_
        refine go_iload (pc := 263) d55_263 rfl (go_istore (pc := 265) (L' := [x0, x1, x2, x3, x4, x5, .val (.int v6), .val (.int v7), .val (.int v8), x9, x10, .val (.int v11), .val (.int v12), .val (.int v13), .val (.int v14), x15, .val (.int v16), .val (.ref 1), .val (.int v18), .val (.int p0), .val (.int p0), .unset, .unset]) d55_265 rfl ?_)
        exact law_267_ok v6 v7 v8 v11 v12 v13 v14 v16 v18 p0 p0 t0 x0 x1 x2 x3 x4 x5 x9 x10 x15 hx0 hx1 hx2 hx3 hx4 hx5 hx9 hx10 hx15 _ (by simpa only [if_neg h1, if_neg h2, if_neg h3] using hf)
set_option maxRecDepth 65536 in
set_option maxHeartbeats 4000000 in
theorem law_207_ok  : ∀ (v6 : Int32) (v7 : Int32) (v8 : Int32) (v11 : Int32) (v12 : Int32) (v13 : Int32) (v14 : Int32) (v16 : Int32) (p0 : Int32) (t0 : S) (x0 : Slot) (x1 : Slot) (x2 : Slot) (x3 : Slot) (x4 : Slot) (x5 : Slot) (x9 : Slot) (x10 : Slot) (x15 : Slot) (hx0 : k1 x0) (hx1 : k1 x1) (hx2 : k1 x2) (hx3 : k1 x3) (hx4 : k1 x4) (hx5 : k1 x5) (hx9 : k1 x9) (hx10 : k1 x10) (hx15 : k1 x15) (o : Int32 × S), law_207 v6 v7 v8 v11 v12 v13 v14 v16 p0 t0 = some o → Go PP m55 207 [x0, x1, x2, x3, x4, x5, .val (.int v6), .val (.int v7), .val (.int v8), x9, x10, .val (.int v11), .val (.int v12), .val (.int v13), .val (.int v14), x15, .val (.int v16), .val (.ref 1), .unset, .unset, .unset, .unset, .unset] [.int p0] (none, [(12, t0)]) (some (.int o.1), (none, [(12, o.2)])) := by
  intro v6 v7 v8 v11 v12 v13 v14 v16 p0 t0 x0 x1 x2 x3 x4 x5 x9 x10 x15 hx0 hx1 hx2 hx3 hx4 hx5 hx9 hx10 hx15 o hf
  unfold law_207 at hf
  refine go_istore (pc := 207) (L' := [x0, x1, x2, x3, x4, x5, .val (.int v6), .val (.int v7), .val (.int v8), x9, x10, .val (.int v11), .val (.int v12), .val (.int v13), .val (.int v14), x15, .val (.int v16), .val (.ref 1), .val (.int p0), .unset, .unset, .unset, .unset]) d55_207 rfl (go_iload (pc := 209) d55_209 rfl (go_iload (pc := 211) d55_211 rfl ?_))
  by_cases h1 : v8 = v11
  · refine go_icN (pc := 213) d55_213 (XT.ii_ne_f h1) ?_
    refine go_iload (pc := 216) d55_216 rfl (go_iload (pc := 218) d55_218 rfl (go_iadd (pc := 220) d55_220 (go_goto (pc := 221) (pc' := 225) d55_221 j_221_4 ?_)))
    exact law_225_ok v6 v7 v8 v11 v12 v13 v14 v16 p0 (v14 + v16) t0 x0 x1 x2 x3 x4 x5 x9 x10 x15 hx0 hx1 hx2 hx3 hx4 hx5 hx9 hx10 hx15 _ (by simpa only [if_pos h1] using hf)
  · refine go_icY (pc := 213) (pc' := 224) d55_213 (XT.ii_ne_t h1) j_213_11 ?_
    refine go_iconst (pc := 224) d55_224 ci_m1 ?_
    exact law_225_ok v6 v7 v8 v11 v12 v13 v14 v16 p0 (-1 : Int32) t0 x0 x1 x2 x3 x4 x5 x9 x10 x15 hx0 hx1 hx2 hx3 hx4 hx5 hx9 hx10 hx15 _ (by simpa only [if_neg h1] using hf)
set_option maxRecDepth 65536 in
set_option maxHeartbeats 4000000 in
theorem law_ok  : ∀ (v0 : Int32) (v1 : Int32) (v2 : Int32) (v3 : Int32) (v4 : Int32) (v5 : Int32)   (o : Int32 × S), law v0 v1 v2 v3 v4 v5 = some o → Go PP m55 0 [.val (.int v0), .val (.int v1), .val (.int v2), .val (.int v3), .val (.int v4), .val (.int v5), .unset, .unset, .unset, .unset, .unset, .unset, .unset, .unset, .unset, .unset, .unset, .unset, .unset, .unset, .unset, .unset, .unset] [] (none, []) (some (.int o.1), (none, [(12, o.2)])) := by
  intro v0 v1 v2 v3 v4 v5 o hf
  unfold law at hf
  refine go_iloadN (pc := 0) d55_0 rfl (go_bipush (pc := 1) d55_1 cb_7 (go_iand (pc := 3) d55_3 (go_istore (pc := 4) (L' := [.val (.int v0), .val (.int v1), .val (.int v2), .val (.int v3), .val (.int v4), .val (.int v5), .val (.int (v0 &&& (7 : Int32))), .unset, .unset, .unset, .unset, .unset, .unset, .unset, .unset, .unset, .unset, .unset, .unset, .unset, .unset, .unset, .unset]) d55_4 rfl (go_iloadN (pc := 6) d55_6 rfl (go_iconst (pc := 7) d55_7 ci_3 (go_ishr (pc := 8) d55_8 (go_bipush (pc := 9) d55_9 cb_7 ?_)))))))
  refine go_iand (pc := 11) d55_11 (go_istore (pc := 12) (L' := [.val (.int v0), .val (.int v1), .val (.int v2), .val (.int v3), .val (.int v4), .val (.int v5), .val (.int (v0 &&& (7 : Int32))), .val (.int ((v0 >>> ((3 : Int32) &&& 31)) &&& (7 : Int32))), .unset, .unset, .unset, .unset, .unset, .unset, .unset, .unset, .unset, .unset, .unset, .unset, .unset, .unset, .unset]) d55_12 rfl (go_iloadN (pc := 14) d55_14 rfl (go_bipush (pc := 15) d55_15 cb_6 (go_ishr (pc := 17) d55_17 (go_bipush (pc := 18) d55_18 cb_7 (go_iand (pc := 20) d55_20 (go_istore (pc := 21) (L' := [.val (.int v0), .val (.int v1), .val (.int v2), .val (.int v3), .val (.int v4), .val (.int v5), .val (.int (v0 &&& (7 : Int32))), .val (.int ((v0 >>> ((3 : Int32) &&& 31)) &&& (7 : Int32))), .val (.int ((v0 >>> ((6 : Int32) &&& 31)) &&& (7 : Int32))), .unset, .unset, .unset, .unset, .unset, .unset, .unset, .unset, .unset, .unset, .unset, .unset, .unset, .unset]) d55_21 rfl ?_)))))))
  refine go_iloadN (pc := 23) d55_23 rfl (go_bipush (pc := 24) d55_24 cb_7 (go_iand (pc := 26) d55_26 (go_istore (pc := 27) (L' := [.val (.int v0), .val (.int v1), .val (.int v2), .val (.int v3), .val (.int v4), .val (.int v5), .val (.int (v0 &&& (7 : Int32))), .val (.int ((v0 >>> ((3 : Int32) &&& 31)) &&& (7 : Int32))), .val (.int ((v0 >>> ((6 : Int32) &&& 31)) &&& (7 : Int32))), .val (.int (v1 &&& (7 : Int32))), .unset, .unset, .unset, .unset, .unset, .unset, .unset, .unset, .unset, .unset, .unset, .unset, .unset]) d55_27 rfl (go_iloadN (pc := 29) d55_29 rfl (go_iconst (pc := 30) d55_30 ci_3 (go_ishr (pc := 31) d55_31 (go_bipush (pc := 32) d55_32 cb_7 ?_)))))))
  refine go_iand (pc := 34) d55_34 (go_istore (pc := 35) (L' := [.val (.int v0), .val (.int v1), .val (.int v2), .val (.int v3), .val (.int v4), .val (.int v5), .val (.int (v0 &&& (7 : Int32))), .val (.int ((v0 >>> ((3 : Int32) &&& 31)) &&& (7 : Int32))), .val (.int ((v0 >>> ((6 : Int32) &&& 31)) &&& (7 : Int32))), .val (.int (v1 &&& (7 : Int32))), .val (.int ((v1 >>> ((3 : Int32) &&& 31)) &&& (7 : Int32))), .unset, .unset, .unset, .unset, .unset, .unset, .unset, .unset, .unset, .unset, .unset, .unset]) d55_35 rfl (go_iloadN (pc := 37) d55_37 rfl (go_bipush (pc := 38) d55_38 cb_6 (go_ishr (pc := 40) d55_40 (go_bipush (pc := 41) d55_41 cb_7 (go_iand (pc := 43) d55_43 (go_istore (pc := 44) (L' := [.val (.int v0), .val (.int v1), .val (.int v2), .val (.int v3), .val (.int v4), .val (.int v5), .val (.int (v0 &&& (7 : Int32))), .val (.int ((v0 >>> ((3 : Int32) &&& 31)) &&& (7 : Int32))), .val (.int ((v0 >>> ((6 : Int32) &&& 31)) &&& (7 : Int32))), .val (.int (v1 &&& (7 : Int32))), .val (.int ((v1 >>> ((3 : Int32) &&& 31)) &&& (7 : Int32))), .val (.int ((v1 >>> ((6 : Int32) &&& 31)) &&& (7 : Int32))), .unset, .unset, .unset, .unset, .unset, .unset, .unset, .unset, .unset, .unset, .unset]) d55_44 rfl ?_)))))))
  refine go_iloadN (pc := 46) d55_46 rfl (go_bipush (pc := 47) d55_47 cb_63 (go_iand (pc := 49) d55_49 (go_istore (pc := 50) (L' := [.val (.int v0), .val (.int v1), .val (.int v2), .val (.int v3), .val (.int v4), .val (.int v5), .val (.int (v0 &&& (7 : Int32))), .val (.int ((v0 >>> ((3 : Int32) &&& 31)) &&& (7 : Int32))), .val (.int ((v0 >>> ((6 : Int32) &&& 31)) &&& (7 : Int32))), .val (.int (v1 &&& (7 : Int32))), .val (.int ((v1 >>> ((3 : Int32) &&& 31)) &&& (7 : Int32))), .val (.int ((v1 >>> ((6 : Int32) &&& 31)) &&& (7 : Int32))), .val (.int (v2 &&& (63 : Int32))), .unset, .unset, .unset, .unset, .unset, .unset, .unset, .unset, .unset, .unset]) d55_50 rfl (go_iloadN (pc := 52) d55_52 rfl (go_bipush (pc := 53) d55_53 cb_63 (go_iand (pc := 55) d55_55 (go_istore (pc := 56) (L' := [.val (.int v0), .val (.int v1), .val (.int v2), .val (.int v3), .val (.int v4), .val (.int v5), .val (.int (v0 &&& (7 : Int32))), .val (.int ((v0 >>> ((3 : Int32) &&& 31)) &&& (7 : Int32))), .val (.int ((v0 >>> ((6 : Int32) &&& 31)) &&& (7 : Int32))), .val (.int (v1 &&& (7 : Int32))), .val (.int ((v1 >>> ((3 : Int32) &&& 31)) &&& (7 : Int32))), .val (.int ((v1 >>> ((6 : Int32) &&& 31)) &&& (7 : Int32))), .val (.int (v2 &&& (63 : Int32))), .val (.int (v3 &&& (63 : Int32))), .unset, .unset, .unset, .unset, .unset, .unset, .unset, .unset, .unset]) d55_56 rfl ?_)))))))
  refine go_iload (pc := 58) d55_58 rfl (go_bipush (pc := 60) d55_60 cb_63 (go_iand (pc := 62) d55_62 (go_istore (pc := 63) (L' := [.val (.int v0), .val (.int v1), .val (.int v2), .val (.int v3), .val (.int v4), .val (.int v5), .val (.int (v0 &&& (7 : Int32))), .val (.int ((v0 >>> ((3 : Int32) &&& 31)) &&& (7 : Int32))), .val (.int ((v0 >>> ((6 : Int32) &&& 31)) &&& (7 : Int32))), .val (.int (v1 &&& (7 : Int32))), .val (.int ((v1 >>> ((3 : Int32) &&& 31)) &&& (7 : Int32))), .val (.int ((v1 >>> ((6 : Int32) &&& 31)) &&& (7 : Int32))), .val (.int (v2 &&& (63 : Int32))), .val (.int (v3 &&& (63 : Int32))), .val (.int (v4 &&& (63 : Int32))), .unset, .unset, .unset, .unset, .unset, .unset, .unset, .unset]) d55_63 rfl (go_iload (pc := 65) d55_65 rfl (go_bipush (pc := 67) d55_67 cb_63 (go_iand (pc := 69) d55_69 (go_istore (pc := 70) (L' := [.val (.int v0), .val (.int v1), .val (.int v2), .val (.int v3), .val (.int v4), .val (.int v5), .val (.int (v0 &&& (7 : Int32))), .val (.int ((v0 >>> ((3 : Int32) &&& 31)) &&& (7 : Int32))), .val (.int ((v0 >>> ((6 : Int32) &&& 31)) &&& (7 : Int32))), .val (.int (v1 &&& (7 : Int32))), .val (.int ((v1 >>> ((3 : Int32) &&& 31)) &&& (7 : Int32))), .val (.int ((v1 >>> ((6 : Int32) &&& 31)) &&& (7 : Int32))), .val (.int (v2 &&& (63 : Int32))), .val (.int (v3 &&& (63 : Int32))), .val (.int (v4 &&& (63 : Int32))), .val (.int (v5 &&& (63 : Int32))), .unset, .unset, .unset, .unset, .unset, .unset, .unset]) d55_70 rfl ?_)))))))
  refine go_iload (pc := 72) d55_72 rfl (go_bipush (pc := 74) d55_74 cb_6 (go_ishr (pc := 76) d55_76 (go_bipush (pc := 77) d55_77 cb_63 (go_iand (pc := 79) d55_79 (go_istore (pc := 80) (L' := [.val (.int v0), .val (.int v1), .val (.int v2), .val (.int v3), .val (.int v4), .val (.int v5), .val (.int (v0 &&& (7 : Int32))), .val (.int ((v0 >>> ((3 : Int32) &&& 31)) &&& (7 : Int32))), .val (.int ((v0 >>> ((6 : Int32) &&& 31)) &&& (7 : Int32))), .val (.int (v1 &&& (7 : Int32))), .val (.int ((v1 >>> ((3 : Int32) &&& 31)) &&& (7 : Int32))), .val (.int ((v1 >>> ((6 : Int32) &&& 31)) &&& (7 : Int32))), .val (.int (v2 &&& (63 : Int32))), .val (.int (v3 &&& (63 : Int32))), .val (.int (v4 &&& (63 : Int32))), .val (.int (v5 &&& (63 : Int32))), .val (.int ((v5 >>> ((6 : Int32) &&& 31)) &&& (63 : Int32))), .unset, .unset, .unset, .unset, .unset, .unset]) d55_80 rfl ?_)))))
  refine go_new (pc := 82) (n := 0) (w' := (none, [(0, s0)])) (List.mem_of_getElem? (i := 0) rfl) rfl rfl rfl rfl rfl rfl rfl d55_82 oid_0 ?_
  refine go_dupR (pc := 85) d55_85 (go_iconst (pc := 86) d55_86 ci_3 ?_)
  obtain ⟨r87, e2, hf⟩ := Option.bind_eq_some_iff.mp hf
  refine go_init (pc := 87) (i := 0) (as := [.int (3 : Int32)]) (rest := [.ref 1]) (w' := (none, [(12, r87)])) lk_1_9 pd_4 rfl oid_0 rfl rfl rfl rfl rfl rfl rfl rfl rfl ⟨rfl, rfl, rfl⟩ ⟨rfl, rfl⟩ d55_87 (c_k_init (3 : Int32) _ e2) ?_
  refine go_astore (pc := 90) (L' := [.val (.int v0), .val (.int v1), .val (.int v2), .val (.int v3), .val (.int v4), .val (.int v5), .val (.int (v0 &&& (7 : Int32))), .val (.int ((v0 >>> ((3 : Int32) &&& 31)) &&& (7 : Int32))), .val (.int ((v0 >>> ((6 : Int32) &&& 31)) &&& (7 : Int32))), .val (.int (v1 &&& (7 : Int32))), .val (.int ((v1 >>> ((3 : Int32) &&& 31)) &&& (7 : Int32))), .val (.int ((v1 >>> ((6 : Int32) &&& 31)) &&& (7 : Int32))), .val (.int (v2 &&& (63 : Int32))), .val (.int (v3 &&& (63 : Int32))), .val (.int (v4 &&& (63 : Int32))), .val (.int (v5 &&& (63 : Int32))), .val (.int ((v5 >>> ((6 : Int32) &&& 31)) &&& (63 : Int32))), .val (.ref 1), .unset, .unset, .unset, .unset, .unset]) d55_90 rfl (go_aload (pc := 92) d55_92 rfl (go_iconst (pc := 94) d55_94 ci_0 (go_iconst (pc := 95) d55_95 ci_1 (go_iload (pc := 96) d55_96 rfl (go_iload (pc := 98) d55_98 rfl ?_)))))
  obtain ⟨r100, e3, hf⟩ := Option.bind_eq_some_iff.mp hf
  refine go_virt (pc := 100) (i := 0) (as := [.int (0 : Int32), .int (1 : Int32), .int (v0 &&& (7 : Int32)), .int (v2 &&& (63 : Int32))]) (rest := []) (w' := (none, [(12, r100.2)])) lk_1_12 pd_7 rfl oid_0 rfl rfl rfl rfl rfl rfl ⟨rfl, rfl, rfl, rfl, rfl⟩ d55_100 (c_k_addEdge (0 : Int32) (1 : Int32) (v0 &&& (7 : Int32)) (v2 &&& (63 : Int32)) r87 _ e3) ?_
  by_cases h4 : r100.1 = 0
  · replace hf := (if_pos h4).symm.trans hf
    refine go_ifY (pc := 103) (pc' := 108) d55_103 (XT.i0_eq_t h4) j_103_5 ?_
    refine go_aload (pc := 108) d55_108 rfl (go_iconst (pc := 110) d55_110 ci_1 (go_iconst (pc := 111) d55_111 ci_2 (go_iload (pc := 112) d55_112 rfl (go_iload (pc := 114) d55_114 rfl ?_))))
    obtain ⟨r116, e5, hf⟩ := Option.bind_eq_some_iff.mp hf
    refine go_virt (pc := 116) (i := 0) (as := [.int (1 : Int32), .int (2 : Int32), .int ((v0 >>> ((3 : Int32) &&& 31)) &&& (7 : Int32)), .int (v3 &&& (63 : Int32))]) (rest := []) (w' := (none, [(12, r116.2)])) lk_1_12 pd_7 rfl oid_0 rfl rfl rfl rfl rfl rfl ⟨rfl, rfl, rfl, rfl, rfl⟩ d55_116 (c_k_addEdge (1 : Int32) (2 : Int32) ((v0 >>> ((3 : Int32) &&& 31)) &&& (7 : Int32)) (v3 &&& (63 : Int32)) r100.2 _ e5) ?_
    refine go_iconst (pc := 119) d55_119 ci_1 ?_
    by_cases h6 : r116.1 = (1 : Int32)
    · replace hf := (if_pos h6).symm.trans hf
      refine go_icY (pc := 120) (pc' := 125) d55_120 (XT.ii_eq_t h6) j_120_5 ?_
      refine go_aload (pc := 125) d55_125 rfl (go_iconst (pc := 127) d55_127 ci_0 (go_iconst (pc := 128) d55_128 ci_2 (go_iload (pc := 129) d55_129 rfl (go_iload (pc := 131) d55_131 rfl ?_))))
      obtain ⟨r133, e7, hf⟩ := Option.bind_eq_some_iff.mp hf
      refine go_virt (pc := 133) (i := 0) (as := [.int (0 : Int32), .int (2 : Int32), .int ((v0 >>> ((6 : Int32) &&& 31)) &&& (7 : Int32)), .int (v4 &&& (63 : Int32))]) (rest := []) (w' := (none, [(12, r133.2)])) lk_1_12 pd_7 rfl oid_0 rfl rfl rfl rfl rfl rfl ⟨rfl, rfl, rfl, rfl, rfl⟩ d55_133 (c_k_addEdge (0 : Int32) (2 : Int32) ((v0 >>> ((6 : Int32) &&& 31)) &&& (7 : Int32)) (v4 &&& (63 : Int32)) r116.2 _ e7) ?_
      refine go_iconst (pc := 136) d55_136 ci_2 ?_
      by_cases h8 : r133.1 = (2 : Int32)
      · replace hf := (if_pos h8).symm.trans hf
        refine go_icY (pc := 137) (pc' := 142) d55_137 (XT.ii_eq_t h8) j_137_5 ?_
        refine go_aload (pc := 142) d55_142 rfl (go_iconst (pc := 144) d55_144 ci_0 (go_iload (pc := 145) d55_145 rfl (go_iconst (pc := 147) d55_147 ci_2 (go_iload (pc := 148) d55_148 rfl (go_bipush (pc := 150) d55_150 cb_16 (go_iload (pc := 152) d55_152 rfl (go_imul (pc := 154) d55_154 ?_)))))))
        refine go_iadd (pc := 155) d55_155 ?_
        obtain ⟨r156, e9, hf⟩ := Option.bind_eq_some_iff.mp hf
        refine go_virt (pc := 156) (i := 0) (as := [.int (0 : Int32), .int (v5 &&& (63 : Int32)), .int (2 : Int32), .int ((v1 &&& (7 : Int32)) + ((16 : Int32) * ((v1 >>> ((3 : Int32) &&& 31)) &&& (7 : Int32))))]) (rest := []) (w' := (none, [(12, r156.2)])) lk_1_16 pd_11 rfl oid_0 rfl rfl rfl rfl rfl rfl ⟨rfl, rfl, rfl, rfl, rfl⟩ d55_156 (c_k_addRule (0 : Int32) (v5 &&& (63 : Int32)) (2 : Int32) ((v1 &&& (7 : Int32)) + ((16 : Int32) * ((v1 >>> ((3 : Int32) &&& 31)) &&& (7 : Int32)))) r133.2 _ e9) ?_
        by_cases h10 : r156.1 = 0
        · replace hf := (if_pos h10).symm.trans hf
          refine go_ifY (pc := 159) (pc' := 164) d55_159 (XT.i0_eq_t h10) j_159_5 ?_
          refine go_aload (pc := 164) d55_164 rfl (go_iconst (pc := 166) d55_166 ci_0 (go_iload (pc := 167) d55_167 rfl (go_iconst (pc := 169) d55_169 ci_1 (go_iload (pc := 170) d55_170 rfl ?_))))
          obtain ⟨r172, e11, hf⟩ := Option.bind_eq_some_iff.mp hf
          refine go_virt (pc := 172) (i := 0) (as := [.int (0 : Int32), .int ((v5 >>> ((6 : Int32) &&& 31)) &&& (63 : Int32)), .int (1 : Int32), .int ((v1 >>> ((6 : Int32) &&& 31)) &&& (7 : Int32))]) (rest := []) (w' := (none, [(12, r172.2)])) lk_1_16 pd_11 rfl oid_0 rfl rfl rfl rfl rfl rfl ⟨rfl, rfl, rfl, rfl, rfl⟩ d55_172 (c_k_addRule (0 : Int32) ((v5 >>> ((6 : Int32) &&& 31)) &&& (63 : Int32)) (1 : Int32) ((v1 >>> ((6 : Int32) &&& 31)) &&& (7 : Int32)) r156.2 _ e11) ?_
          refine go_iconst (pc := 175) d55_175 ci_1 ?_
          by_cases h12 : r172.1 = (1 : Int32)
          · replace hf := (if_pos h12).symm.trans hf
            refine go_icY (pc := 176) (pc' := 181) d55_176 (XT.ii_eq_t h12) j_176_5 ?_
            refine go_iload (pc := 181) d55_181 rfl (go_iload (pc := 183) d55_183 rfl ?_)
            by_cases h13 : (v0 &&& (7 : Int32)) = (v1 &&& (7 : Int32))
            · refine go_icN (pc := 185) d55_185 (XT.ii_ne_f h13) ?_
              refine go_iload (pc := 188) d55_188 rfl (go_iload (pc := 190) d55_190 rfl ?_)
              by_cases h14 : ((v0 >>> ((3 : Int32) &&& 31)) &&& (7 : Int32)) = ((v1 >>> ((3 : Int32) &&& 31)) &&& (7 : Int32))
              · refine go_icN (pc := 192) d55_192 (XT.ii_ne_f h14) ?_
                refine go_iload (pc := 195) d55_195 rfl (go_iload (pc := 197) d55_197 rfl (go_iadd (pc := 199) d55_199 (go_iload (pc := 200) d55_200 rfl (go_iadd (pc := 202) d55_202 (go_goto (pc := 203) (pc' := 207) d55_203 j_203_4 ?_)))))
                exact law_207_ok (v0 &&& (7 : Int32)) ((v0 >>> ((3 : Int32) &&& 31)) &&& (7 : Int32)) ((v0 >>> ((6 : Int32) &&& 31)) &&& (7 : Int32)) ((v1 >>> ((6 : Int32) &&& 31)) &&& (7 : Int32)) (v2 &&& (63 : Int32)) (v3 &&& (63 : Int32)) (v4 &&& (63 : Int32)) ((v5 >>> ((6 : Int32) &&& 31)) &&& (63 : Int32)) (((v2 &&& (63 : Int32)) + (v3 &&& (63 : Int32))) + (v5 &&& (63 : Int32))) r172.2 (.val (.int v0)) (.val (.int v1)) (.val (.int v2)) (.val (.int v3)) (.val (.int v4)) (.val (.int v5)) (.val (.int (v1 &&& (7 : Int32)))) (.val (.int ((v1 >>> ((3 : Int32) &&& 31)) &&& (7 : Int32)))) (.val (.int (v5 &&& (63 : Int32)))) (Or.inr ⟨_, rfl, rfl⟩) (Or.inr ⟨_, rfl, rfl⟩) (Or.inr ⟨_, rfl, rfl⟩) (Or.inr ⟨_, rfl, rfl⟩) (Or.inr ⟨_, rfl, rfl⟩) (Or.inr ⟨_, rfl, rfl⟩) (Or.inr ⟨_, rfl, rfl⟩) (Or.inr ⟨_, rfl, rfl⟩) (Or.inr ⟨_, rfl, rfl⟩) _ (by simpa only [if_pos h13, if_pos h14] using hf)
              · refine go_icY (pc := 192) (pc' := 206) d55_192 (XT.ii_ne_t h14) j_192_14 ?_
                refine go_iconst (pc := 206) d55_206 ci_m1 ?_
                exact law_207_ok (v0 &&& (7 : Int32)) ((v0 >>> ((3 : Int32) &&& 31)) &&& (7 : Int32)) ((v0 >>> ((6 : Int32) &&& 31)) &&& (7 : Int32)) ((v1 >>> ((6 : Int32) &&& 31)) &&& (7 : Int32)) (v2 &&& (63 : Int32)) (v3 &&& (63 : Int32)) (v4 &&& (63 : Int32)) ((v5 >>> ((6 : Int32) &&& 31)) &&& (63 : Int32)) (-1 : Int32) r172.2 (.val (.int v0)) (.val (.int v1)) (.val (.int v2)) (.val (.int v3)) (.val (.int v4)) (.val (.int v5)) (.val (.int (v1 &&& (7 : Int32)))) (.val (.int ((v1 >>> ((3 : Int32) &&& 31)) &&& (7 : Int32)))) (.val (.int (v5 &&& (63 : Int32)))) (Or.inr ⟨_, rfl, rfl⟩) (Or.inr ⟨_, rfl, rfl⟩) (Or.inr ⟨_, rfl, rfl⟩) (Or.inr ⟨_, rfl, rfl⟩) (Or.inr ⟨_, rfl, rfl⟩) (Or.inr ⟨_, rfl, rfl⟩) (Or.inr ⟨_, rfl, rfl⟩) (Or.inr ⟨_, rfl, rfl⟩) (Or.inr ⟨_, rfl, rfl⟩) _ (by simpa only [if_pos h13, if_neg h14] using hf)
            · refine go_icY (pc := 185) (pc' := 206) d55_185 (XT.ii_ne_t h13) j_185_21 ?_
              refine go_iconst (pc := 206) d55_206 ci_m1 ?_
              exact law_207_ok (v0 &&& (7 : Int32)) ((v0 >>> ((3 : Int32) &&& 31)) &&& (7 : Int32)) ((v0 >>> ((6 : Int32) &&& 31)) &&& (7 : Int32)) ((v1 >>> ((6 : Int32) &&& 31)) &&& (7 : Int32)) (v2 &&& (63 : Int32)) (v3 &&& (63 : Int32)) (v4 &&& (63 : Int32)) ((v5 >>> ((6 : Int32) &&& 31)) &&& (63 : Int32)) (-1 : Int32) r172.2 (.val (.int v0)) (.val (.int v1)) (.val (.int v2)) (.val (.int v3)) (.val (.int v4)) (.val (.int v5)) (.val (.int (v1 &&& (7 : Int32)))) (.val (.int ((v1 >>> ((3 : Int32) &&& 31)) &&& (7 : Int32)))) (.val (.int (v5 &&& (63 : Int32)))) (Or.inr ⟨_, rfl, rfl⟩) (Or.inr ⟨_, rfl, rfl⟩) (Or.inr ⟨_, rfl, rfl⟩) (Or.inr ⟨_, rfl, rfl⟩) (Or.inr ⟨_, rfl, rfl⟩) (Or.inr ⟨_, rfl, rfl⟩) (Or.inr ⟨_, rfl, rfl⟩) (Or.inr ⟨_, rfl, rfl⟩) (Or.inr ⟨_, rfl, rfl⟩) _ (by simpa only [if_neg h13] using hf)
          · replace hf := (if_neg h12).symm.trans hf
            refine go_icN (pc := 176) d55_176 (XT.ii_eq_f h12) ?_
            refine go_iconst (pc := 179) d55_179 ci_0 ?_
            cases hf
            exact go_zret (pc := 180) rfl d55_180 (show (0 : Int32) = nar .boolean (0 : Int32) by decide)
        · replace hf := (if_neg h10).symm.trans hf
          refine go_ifN (pc := 159) d55_159 (XT.i0_eq_f h10) ?_
          refine go_iconst (pc := 162) d55_162 ci_0 ?_
          cases hf
          exact go_zret (pc := 163) rfl d55_163 (show (0 : Int32) = nar .boolean (0 : Int32) by decide)
      · replace hf := (if_neg h8).symm.trans hf
        refine go_icN (pc := 137) d55_137 (XT.ii_eq_f h8) ?_
        refine go_iconst (pc := 140) d55_140 ci_0 ?_
        cases hf
        exact go_zret (pc := 141) rfl d55_141 (show (0 : Int32) = nar .boolean (0 : Int32) by decide)
    · replace hf := (if_neg h6).symm.trans hf
      refine go_icN (pc := 120) d55_120 (XT.ii_eq_f h6) ?_
      refine go_iconst (pc := 123) d55_123 ci_0 ?_
      cases hf
      exact go_zret (pc := 124) rfl d55_124 (show (0 : Int32) = nar .boolean (0 : Int32) by decide)
  · replace hf := (if_neg h4).symm.trans hf
    refine go_ifN (pc := 103) d55_103 (XT.i0_eq_f h4) ?_
    refine go_iconst (pc := 106) d55_106 ci_0 ?_
    cases hf
    exact go_zret (pc := 107) rfl d55_107 (show (0 : Int32) = nar .boolean (0 : Int32) by decide)
/-! weights: none is the infinite one -/
def wc : Option Nat → Int32
  | none => 1073741824
  | some n => Int32.ofNat n
def oadd : Option Nat → Option Nat → Option Nat
  | some a, some b => some (a + b)
  | _, _ => none
def omin : Option Nat → Option Nat → Option Nat
  | none, y => y
  | some a, none => some a
  | some a, some b => some (min a b)
def Bd (m : Nat) (o : Option Nat) : Prop := ∀ n, o = some n → n ≤ m
theorem omin_none (x : Option Nat) : omin x none = x := by cases x <;> rfl
theorem omin_self (x : Option Nat) : omin x x = x := by
  cases x with
  | none => rfl
  | some a => show some (min a a) = some a; rw [Nat.min_self]
theorem omin_abs (x y : Option Nat) : omin (omin x y) x = omin x y := by
  cases x with
  | none => exact omin_none _
  | some a =>
    cases y with
    | none => exact omin_self _
    | some b => show some (min (min a b) a) = some (min a b); congr 1; omega
theorem omin_abs2 (x y : Option Nat) : omin (omin x y) y = omin x y := by
  cases x with
  | none => exact omin_self _
  | some a =>
    cases y with
    | none => rfl
    | some b => show some (min (min a b) b) = some (min a b); congr 1; omega
theorem Bd.omin {m : Nat} {x y : Option Nat} (hx : Bd m x) (hy : Bd m y) : Bd m (omin x y) := fun n e => by
  cases x with
  | none => exact hy n e
  | some a =>
    cases y with
    | none => exact hx n e
    | some b =>
      have := hx a rfl
      have e' : min a b = n := Option.some.inj e
      omega
theorem Bd.oadd {m k : Nat} {x y : Option Nat} (hx : Bd m x) (hy : Bd k y) : Bd (m + k) (oadd x y) := fun n e => by
  cases x with
  | none => cases e
  | some a =>
    cases y with
    | none => cases e
    | some b =>
      have := hx a rfl
      have := hy b rfl
      have e' : a + b = n := Option.some.inj e
      omega
theorem Bd.mono {m k : Nat} (h : m ≤ k) {x : Option Nat} (hx : Bd m x) : Bd k x := fun n e => Nat.le_trans (hx n e) h
theorem Bd.none {m : Nat} : Bd m none := fun n e => by cases e
theorem wc_lt {x y : Option Nat} (hx : Bd 1000000 x) (hy : Bd 1000000 y) : (wc y < wc x ∧ omin x y = y ∧ omin x y ≠ x) ∨ (¬ wc y < wc x ∧ omin x y = x) := by
  cases x with
  | none =>
    cases y with
    | none => exact Or.inr ⟨by decide, rfl⟩
    | some b =>
      have := hy b rfl
      refine Or.inl ⟨?_, rfl, fun e => by cases e⟩
      exact (lt_lit (m := 1073741824) (by omega) (by decide)).mpr (by omega)
  | some a =>
    have ha := hx a rfl
    cases y with
    | none =>
      refine Or.inr ⟨?_, rfl⟩
      show ¬ Int32.ofNat 1073741824 < Int32.ofNat a
      rw [ofNat_lt (by omega) (by omega)]
      omega
    | some b =>
      have hb := hy b rfl
      by_cases w : b < a
      · refine Or.inl ⟨?_, ?_, fun e => ?_⟩
        · show Int32.ofNat b < Int32.ofNat a
          rw [ofNat_lt (by omega) (by omega)]; exact w
        · show some (min a b) = some b; congr 1; omega
        · have e' : min a b = a := Option.some.inj e
          omega
      · refine Or.inr ⟨?_, ?_⟩
        · show ¬ Int32.ofNat b < Int32.ofNat a
          rw [ofNat_lt (by omega) (by omega)]; exact w
        · show some (min a b) = some a; congr 1; omega
theorem plus_wc {s : S} (g0 : gI s 0 = 1073741824) {x y : Option Nat} (hx : Bd 1000000 x) (hy : Bd 1000000 y) : k_plus (wc x) (wc y) s = wc (oadd x y) := by
  unfold k_plus
  rw [g0]
  have some_lt : ∀ n, n ≤ 2000000 → Int32.ofNat n < (1073741824 : Int32) := fun n h => (lt_lit (m := 1073741824) (by omega) (by decide)).mpr (by omega)
  cases x with
  | none => rw [if_neg (show ¬ wc none < 1073741824 by decide)]; rfl
  | some a =>
    have ha := hx a rfl
    rw [if_pos (show wc (some a) < 1073741824 from some_lt a (by omega))]
    cases y with
    | none => rw [if_neg (show ¬ wc none < 1073741824 by decide)]; rfl
    | some b =>
      have hb := hy b rfl
      have e : wc (some a) + wc (some b) = Int32.ofNat (a + b) := ofNat_add' a b
      rw [if_pos (show wc (some b) < 1073741824 from some_lt b (by omega)), e, if_pos (some_lt (a + b) (by omega))]
      rfl
def ss (c i j : Nat) : Nat := c * 64 + i * 8 + j
def si (r d i j : Nat) : Nat := (r * 4 + d) * 64 + i * 8 + j
/-- the geometry -/
def Gt (s : S) : Prop := gI s 0 = 1073741824 ∧ gI s 1 = 3 ∧ gI s 3 = 2
def SPt (s : S) (f : Nat) (U : Nat → Nat → Nat → Option Nat) : Prop := (gA s f).length = 1024 ∧ ∀ c i j, c < 16 → i < 3 → j < 3 → Bd 1000 (U c i j) ∧ (gA s f)[ss c i j]? = some (wc (U c i j))
def ITt (s : S) (f : Nat) (V : Nat → Nat → Nat → Nat → Option Nat) : Prop := (gA s f).length = 3072 ∧ ∀ r d i j, r < 2 → d < 4 → i < 3 → j < 3 → Bd 1000 (V r d i j) ∧ (gA s f)[si r d i j]? = some (wc (V r d i j))
def up3 (U : Nat → Nat → Nat → Option Nat) (c i j : Nat) (v : Option Nat) : Nat → Nat → Nat → Option Nat := fun c' i' j' => if c' = c ∧ i' = i ∧ j' = j then v else U c' i' j'
def up4 (V : Nat → Nat → Nat → Nat → Option Nat) (r d i j : Nat) (v : Option Nat) : Nat → Nat → Nat → Nat → Option Nat := fun r' d' i' j' => if r' = r ∧ d' = d ∧ i' = i ∧ j' = j then v else V r' d' i' j'
theorem SPt.fx {s t : S} {f : Nat} {U : Nat → Nat → Nat → Option Nat} (h : SPt s f U) (e : gA t f = gA s f) : SPt t f U := by unfold SPt; rw [e]; exact h
theorem ITt.fx {s t : S} {f : Nat} {V : Nat → Nat → Nat → Nat → Option Nat} (h : ITt s f V) (e : gA t f = gA s f) : ITt t f V := by unfold ITt; rw [e]; exact h
theorem Gt.fx {s t : S} (h : Gt s) (e : ∀ k, k < 4 → gI t k = gI s k) : Gt t := by
  unfold Gt
  rw [e 0 (by omega), e 1 (by omega), e 3 (by omega)]
  exact h
theorem SPt.congr {s : S} {f : Nat} {U U' : Nat → Nat → Nat → Option Nat} (h : SPt s f U) (e : ∀ c i j, c < 16 → i < 3 → j < 3 → U c i j = U' c i j) : SPt s f U' := ⟨h.1, fun c i j a b d => by rw [← e c i j a b d]; exact h.2 c i j a b d⟩
theorem ITt.congr {s : S} {f : Nat} {V V' : Nat → Nat → Nat → Nat → Option Nat} (h : ITt s f V) (e : ∀ r d i j, r < 2 → d < 4 → i < 3 → j < 3 → V r d i j = V' r d i j) : ITt s f V' := ⟨h.1, fun r d i j a b c g => by rw [← e r d i j a b c g]; exact h.2 r d i j a b c g⟩
theorem SPt.put {s : S} {f : Nat} {U : Nat → Nat → Nat → Option Nat} (h : SPt s f U) {c i j : Nat} (hc : c < 16) (hi : i < 3) (hj : j < 3) {v : Option Nat} (hv : Bd 1000 v) : SPt (sA s f ((gA s f).set (ss c i j) (wc v))) f (up3 U c i j v) := by
  refine ⟨by rw [gA_sA, if_pos rfl, List.length_set]; exact h.1, fun c' i' j' a b d => ?_⟩
  rw [gA_sA, if_pos rfl]
  have l := h.1
  unfold up3
  by_cases w : c' = c ∧ i' = i ∧ j' = j
  · rw [if_pos w, w.1, w.2.1, w.2.2, List.getElem?_set_self (by unfold ss; omega)]
    exact ⟨hv, rfl⟩
  · rw [if_neg w, List.getElem?_set_ne (by unfold ss; omega)]
    exact h.2 c' i' j' a b d
theorem ITt.put {s : S} {f : Nat} {V : Nat → Nat → Nat → Nat → Option Nat} (h : ITt s f V) {r d i j : Nat} (hr : r < 2) (hd : d < 4) (hi : i < 3) (hj : j < 3) {v : Option Nat} (hv : Bd 1000 v) : ITt (sA s f ((gA s f).set (si r d i j) (wc v))) f (up4 V r d i j v) := by
  refine ⟨by rw [gA_sA, if_pos rfl, List.length_set]; exact h.1, fun r' d' i' j' a b c e => ?_⟩
  rw [gA_sA, if_pos rfl]
  have l := h.1
  unfold up4
  by_cases w : r' = r ∧ d' = d ∧ i' = i ∧ j' = j
  · rw [if_pos w, w.1, w.2.1, w.2.2.1, w.2.2.2, List.getElem?_set_self (by unfold si; omega)]
    exact ⟨hv, rfl⟩
  · rw [if_neg w, List.getElem?_set_ne (by unfold si; omega)]
    exact h.2 r' d' i' j' a b c e
theorem spanSlot_ok {s : S} (G : Gt s) {c i j : Nat} (hc : c < 16) (hi : i < 3) (hj : j < 3) : k_spanSlot (Int32.ofNat c) (Int32.ofNat i) (Int32.ofNat j) s = Int32.ofNat (ss c i j) := by
  have nd : ∀ u, u < 3 → k_isNode (Int32.ofNat u) s = 1 := fun u hu => by
    unfold k_isNode
    rw [if_neg (ofNat_nonneg (by omega)), G.2.1, if_pos ((lt_lit (m := 3) (by omega) (by decide)).mpr hu)]
  have cd : k_isCode (Int32.ofNat c) = 1 := by
    unfold k_isCode
    rw [if_neg (ofNat_nonneg (by omega)), if_pos ((lt_lit (m := 16) (by omega) (by decide)).mpr hc)]
  unfold k_spanSlot ss
  rw [cd, if_neg (by decide), nd i hi, if_neg (by decide), nd j hj, if_neg (by decide), show Int32.ofNat c * 64 = Int32.ofNat (c * 64) from (Int32.ofNat_mul c 64).symm, show Int32.ofNat i * 8 = Int32.ofNat (i * 8) from (Int32.ofNat_mul i 8).symm, ofNat_add', ofNat_add']
theorem itemSlot_ok {s : S} (G : Gt s) {r d i j : Nat} (hr : r < 2) (hd : d < 4) (hi : i < 3) (hj : j < 3) : k_itemSlot (Int32.ofNat r) (Int32.ofNat d) (Int32.ofNat i) (Int32.ofNat j) s = Int32.ofNat (si r d i j) := by
  have nd : ∀ u, u < 3 → k_isNode (Int32.ofNat u) s = 1 := fun u hu => by
    unfold k_isNode
    rw [if_neg (ofNat_nonneg (by omega)), G.2.1, if_pos ((lt_lit (m := 3) (by omega) (by decide)).mpr hu)]
  have rl : k_isRule (Int32.ofNat r) s = 1 := by
    unfold k_isRule
    rw [if_neg (ofNat_nonneg (by omega)), G.2.2, if_pos ((lt_lit (m := 2) (by omega) (by decide)).mpr hr)]
  have dt : k_isDot (Int32.ofNat d) = 1 := by
    unfold k_isDot
    rw [if_neg (ofNat_nonneg (by omega)), if_neg (fun z => by rw [show (3 : Int32) = Int32.ofNat 3 from rfl, ofNat_lt (by omega) (by omega)] at z; omega)]
  unfold k_itemSlot si
  rw [rl, if_neg (by decide), dt, if_neg (by decide), nd i hi, if_neg (by decide), nd j hj, if_neg (by decide), show Int32.ofNat r * 4 = Int32.ofNat (r * 4) from (Int32.ofNat_mul r 4).symm, ofNat_add', show Int32.ofNat (r * 4 + d) * 64 = Int32.ofNat ((r * 4 + d) * 64) from (Int32.ofNat_mul _ 64).symm, show Int32.ofNat i * 8 = Int32.ofNat (i * 8) from (Int32.ofNat_mul i 8).symm, ofNat_add', ofNat_add']
theorem lower_any {l : List Int32} {N k : Nat} (hl : l.length = N) (hk : k < N) (hN : N ≤ 4000) {x v : Option Nat} (hx : Bd 1000000 x) (hv : Bd 1000000 v) (e : l[k]? = some (wc x)) (s : S) (f : Nat) (hf : gA s f = l) : ∃ fl s', ((ix l (Int32.ofNat k)).bind fun a => if wc v < a then (Jvm.AM.st l (Int32.ofNat k) (wc v)).bind fun b => some ((1 : Int32), sA s f b) else some ((0 : Int32), s)) = some (fl, s') ∧ ((s' = s ∧ fl = 0 ∧ omin x v = x) ∨ (s' = sA s f (l.set k (wc (omin x v))) ∧ fl = 1 ∧ omin x v ≠ x)) := by
  rw [ix_ofNat _ (by omega), e, Option.bind_some]
  rcases wc_lt hx hv with ⟨h, e1, e2⟩ | ⟨h, e1⟩
  · rw [if_pos h, st_ofNat _ _ (by omega) (by omega), Option.bind_some]
    exact ⟨1, _, rfl, Or.inr ⟨by rw [e1], rfl, e2⟩⟩
  · rw [if_neg h]
    exact ⟨0, s, rfl, Or.inl ⟨rfl, rfl, e1⟩⟩
theorem up3_same {U : Nat → Nat → Nat → Option Nat} {c i j : Nat} {v : Option Nat} (h : v = U c i j) : up3 U c i j v = U := by
  funext c' i' j'
  unfold up3
  by_cases w : c' = c ∧ i' = i ∧ j' = j
  · rw [if_pos w, h, w.1, w.2.1, w.2.2]
  · rw [if_neg w]
theorem up4_same {V : Nat → Nat → Nat → Nat → Option Nat} {r d i j : Nat} {v : Option Nat} (h : v = V r d i j) : up4 V r d i j v = V := by
  funext r' d' i' j'
  unfold up4
  by_cases w : r' = r ∧ d' = d ∧ i' = i ∧ j' = j
  · rw [if_pos w, h, w.1, w.2.1, w.2.2.1, w.2.2.2]
  · rw [if_neg w]
theorem lowerSpan_ok {s : S} (G : Gt s) {U : Nat → Nat → Nat → Option Nat} (R : SPt s 8 U) {c i j : Nat} (hc : c < 16) (hi : i < 3) (hj : j < 3) {v : Option Nat} (hv : Bd 1000 v) : ∃ fl s', k_lowerSpan (Int32.ofNat c) (Int32.ofNat i) (Int32.ofNat j) (wc v) s = some (fl, s') ∧ Fx [] [] [8] [] s s' ∧ SPt s' 8 (up3 U c i j (omin (U c i j) v)) ∧ (fl = 0 ∨ fl = 1) ∧ (omin (U c i j) v = U c i j → fl = 0) := by
  obtain ⟨bx, ex⟩ := R.2 c i j hc hi hj
  unfold k_lowerSpan
  rw [spanSlot_ok G hc hi hj, if_neg (ofNat_nonneg (by unfold ss; omega))]
  obtain ⟨fl, s', e, h⟩ := lower_any R.1 (show ss c i j < 1024 by unfold ss; omega) (by omega) (bx.mono (by omega)) (hv.mono (by omega)) ex s 8 rfl
  refine ⟨fl, s', e, ?_⟩
  rcases h with ⟨rfl, rfl, h⟩ | ⟨rfl, rfl, h⟩
  · exact ⟨Fx.refl .., by rw [up3_same h]; exact R, Or.inl rfl, fun _ => rfl⟩
  · exact ⟨(Fx.refl ..).sA (by simp), R.put hc hi hj (bx.omin hv), Or.inr rfl, fun z => absurd z h⟩
theorem lowerOuter_ok {s : S} (G : Gt s) {U : Nat → Nat → Nat → Option Nat} (R : SPt s 11 U) {c i j : Nat} (hc : c < 16) (hi : i < 3) (hj : j < 3) {v : Option Nat} (hv : Bd 1000 v) : ∃ fl s', k_lowerOuter (Int32.ofNat c) (Int32.ofNat i) (Int32.ofNat j) (wc v) s = some (fl, s') ∧ Fx [] [] [11] [] s s' ∧ SPt s' 11 (up3 U c i j (omin (U c i j) v)) ∧ (fl = 0 ∨ fl = 1) ∧ (omin (U c i j) v = U c i j → fl = 0) := by
  obtain ⟨bx, ex⟩ := R.2 c i j hc hi hj
  unfold k_lowerOuter
  rw [spanSlot_ok G hc hi hj, if_neg (ofNat_nonneg (by unfold ss; omega))]
  obtain ⟨fl, s', e, h⟩ := lower_any R.1 (show ss c i j < 1024 by unfold ss; omega) (by omega) (bx.mono (by omega)) (hv.mono (by omega)) ex s 11 rfl
  refine ⟨fl, s', e, ?_⟩
  rcases h with ⟨rfl, rfl, h⟩ | ⟨rfl, rfl, h⟩
  · exact ⟨Fx.refl .., by rw [up3_same h]; exact R, Or.inl rfl, fun _ => rfl⟩
  · exact ⟨(Fx.refl ..).sA (by simp), R.put hc hi hj (bx.omin hv), Or.inr rfl, fun z => absurd z h⟩
theorem lowerItem_ok {s : S} (G : Gt s) {V : Nat → Nat → Nat → Nat → Option Nat} (R : ITt s 9 V) {r d i j : Nat} (hr : r < 2) (hd : d < 4) (hi : i < 3) (hj : j < 3) {v : Option Nat} (hv : Bd 1000 v) : ∃ fl s', k_lowerItem (Int32.ofNat r) (Int32.ofNat d) (Int32.ofNat i) (Int32.ofNat j) (wc v) s = some (fl, s') ∧ Fx [] [] [9] [] s s' ∧ ITt s' 9 (up4 V r d i j (omin (V r d i j) v)) ∧ (fl = 0 ∨ fl = 1) ∧ (omin (V r d i j) v = V r d i j → fl = 0) := by
  obtain ⟨bx, ex⟩ := R.2 r d i j hr hd hi hj
  unfold k_lowerItem
  rw [itemSlot_ok G hr hd hi hj, if_neg (ofNat_nonneg (by unfold si; omega))]
  obtain ⟨fl, s', e, h⟩ := lower_any R.1 (show si r d i j < 3072 by unfold si; omega) (by omega) (bx.mono (by omega)) (hv.mono (by omega)) ex s 9 rfl
  refine ⟨fl, s', e, ?_⟩
  rcases h with ⟨rfl, rfl, h⟩ | ⟨rfl, rfl, h⟩
  · exact ⟨Fx.refl .., by rw [up4_same h]; exact R, Or.inl rfl, fun _ => rfl⟩
  · exact ⟨(Fx.refl ..).sA (by simp), R.put hr hd hi hj (bx.omin hv), Or.inr rfl, fun z => absurd z h⟩
theorem lowerRest_ok {s : S} (G : Gt s) {V : Nat → Nat → Nat → Nat → Option Nat} (R : ITt s 10 V) {r d i j : Nat} (hr : r < 2) (hd : d < 4) (hi : i < 3) (hj : j < 3) {v : Option Nat} (hv : Bd 1000 v) : ∃ fl s', k_lowerRest (Int32.ofNat r) (Int32.ofNat d) (Int32.ofNat i) (Int32.ofNat j) (wc v) s = some (fl, s') ∧ Fx [] [] [10] [] s s' ∧ ITt s' 10 (up4 V r d i j (omin (V r d i j) v)) := by
  obtain ⟨bx, ex⟩ := R.2 r d i j hr hd hi hj
  unfold k_lowerRest
  rw [itemSlot_ok G hr hd hi hj, if_neg (ofNat_nonneg (by unfold si; omega))]
  obtain ⟨fl, s', e, h⟩ := lower_any R.1 (show si r d i j < 3072 by unfold si; omega) (by omega) (bx.mono (by omega)) (hv.mono (by omega)) ex s 10 rfl
  refine ⟨fl, s', e, ?_⟩
  rcases h with ⟨rfl, rfl, h⟩ | ⟨rfl, rfl, h⟩
  · exact ⟨Fx.refl .., by rw [up4_same h]; exact R⟩
  · exact ⟨(Fx.refl ..).sA (by simp), R.put hr hd hi hj (bx.omin hv)⟩
theorem getSpan_ok {s : S} (G : Gt s) {U : Nat → Nat → Nat → Option Nat} (R : SPt s 8 U) {c i j : Nat} (hc : c < 16) (hi : i < 3) (hj : j < 3) : k_getSpan (Int32.ofNat c) (Int32.ofNat i) (Int32.ofNat j) s = some (wc (U c i j)) := by
  unfold k_getSpan
  rw [spanSlot_ok G hc hi hj, if_neg (ofNat_nonneg (by unfold ss; omega)), ix_ofNat _ (by unfold ss; omega), (R.2 c i j hc hi hj).2, Option.bind_some]
theorem getOuter_ok {s : S} (G : Gt s) {U : Nat → Nat → Nat → Option Nat} (R : SPt s 11 U) {c i j : Nat} (hc : c < 16) (hi : i < 3) (hj : j < 3) : k_getOuter (Int32.ofNat c) (Int32.ofNat i) (Int32.ofNat j) s = some (wc (U c i j)) := by
  unfold k_getOuter
  rw [spanSlot_ok G hc hi hj, if_neg (ofNat_nonneg (by unfold ss; omega)), ix_ofNat _ (by unfold ss; omega), (R.2 c i j hc hi hj).2, Option.bind_some]
theorem getItem_ok {s : S} (G : Gt s) {V : Nat → Nat → Nat → Nat → Option Nat} (R : ITt s 9 V) {r d i j : Nat} (hr : r < 2) (hd : d < 4) (hi : i < 3) (hj : j < 3) : k_getItem (Int32.ofNat r) (Int32.ofNat d) (Int32.ofNat i) (Int32.ofNat j) s = some (wc (V r d i j)) := by
  unfold k_getItem
  rw [itemSlot_ok G hr hd hi hj, if_neg (ofNat_nonneg (by unfold si; omega)), ix_ofNat _ (by unfold si; omega), (R.2 r d i j hr hd hi hj).2, Option.bind_some]
theorem getRest_ok {s : S} (G : Gt s) {V : Nat → Nat → Nat → Nat → Option Nat} (R : ITt s 10 V) {r d i j : Nat} (hr : r < 2) (hd : d < 4) (hi : i < 3) (hj : j < 3) : k_getRest (Int32.ofNat r) (Int32.ofNat d) (Int32.ofNat i) (Int32.ofNat j) s = some (wc (V r d i j)) := by
  unfold k_getRest
  rw [itemSlot_ok G hr hd hi hj, if_neg (ofNat_nonneg (by unfold si; omega)), ix_ofNat _ (by unfold si; omega), (R.2 r d i j hr hd hi hj).2, Option.bind_some]
/-- the least of f over a stretch -/
def fm (f : Nat → Option Nat) (i : Nat) : Nat → Option Nat
  | 0 => none
  | m + 1 => omin (fm f i m) (f (i + m))
theorem fm_bd {f : Nat → Option Nat} {B i : Nat} : ∀ m, (∀ k, i ≤ k → k < i + m → Bd B (f k)) → Bd B (fm f i m)
  | 0, _ => Bd.none
  | m + 1, h => (fm_bd m fun k a b => h k a (by omega)).omin (h _ (by omega) (by omega))
theorem fm_congr {f g : Nat → Option Nat} {i : Nat} : ∀ m, (∀ k, i ≤ k → k < i + m → f k = g k) → fm f i m = fm g i m
  | 0, _ => rfl
  | m + 1, h => by rw [fm, fm, fm_congr m fun k a b => h k a (by omega), h (i + m) (by omega) (by omega)]
theorem min_step {x y : Option Nat} (hx : Bd 1000000 x) (hy : Bd 1000000 y) : (if wc y < wc x then wc y else wc x) = wc (omin x y) := by
  rcases wc_lt hx hy with ⟨h, e1, _⟩ | ⟨h, e1⟩
  · rw [if_pos h, e1]
  · rw [if_neg h, e1]
def efr (e : Nat) : Nat := if e = 1 then 1 else 0
def eto (e : Nat) : Nat := if e = 0 then 1 else 2
def ln (r : Nat) : Nat := if r = 0 then 2 else 1
def Sto (lab ew : Nat → Nat) (sy : Nat → Nat → Nat) (rw : Nat → Nat) (s : S) : Prop := Gt s ∧ gI s 2 = 3 ∧ (∀ e, e < 3 → (gA s 0)[e]? = some (Int32.ofNat (efr e)) ∧ (gA s 1)[e]? = some (Int32.ofNat (eto e)) ∧ (gA s 2)[e]? = some (Int32.ofNat (lab e)) ∧ (gA s 3)[e]? = some (Int32.ofNat (ew e))) ∧ (∀ r, r < 2 → (gA s 4)[r]? = some 0 ∧ (gA s 5)[r]? = some (Int32.ofNat (rw r)) ∧ (gA s 6)[r]? = some (Int32.ofNat (ln r))) ∧ (∀ r d, r < 2 → d < ln r → (gA s 7)[r * 3 + d]? = some (Int32.ofNat (sy r d)))
theorem Sto.fx {lab ew : Nat → Nat} {sy : Nat → Nat → Nat} {rw : Nat → Nat} {s t : S} (h : Sto lab ew sy rw s) (F : Fx [4, 5] [] [8, 9, 10, 11] [] s t) : Sto lab ew sy rw t := by
  obtain ⟨G, g2, h1, h2, h3⟩ := h
  refine ⟨G.fx fun k hk => F.1 k (by simp; omega), by rw [F.1 2 (by simp)]; exact g2, ?_, ?_, ?_⟩
  · intro e he; rw [F.2.2.1 0 (by simp), F.2.2.1 1 (by simp), F.2.2.1 2 (by simp), F.2.2.1 3 (by simp)]; exact h1 e he
  · intro r hr; rw [F.2.2.1 4 (by simp), F.2.2.1 5 (by simp), F.2.2.1 6 (by simp)]; exact h2 r hr
  · intro r d hr hd; rw [F.2.2.1 7 (by simp)]; exact h3 r d hr hd
def TT (lab ew : Nat → Nat) (c i j : Nat) : Option Nat := if i = 0 ∧ j = 1 ∧ lab 0 = c then some (ew 0) else if i = 1 ∧ j = 2 ∧ lab 1 = c then some (ew 1) else if i = 0 ∧ j = 2 ∧ lab 2 = c then some (ew 2) else none
def ITs (lab ew : Nat → Nat) (sy : Nat → Nat → Nat) (rw : Nat → Nat) (r : Nat) : Nat → Nat → Nat → Option Nat
  | 0, i, j => if i = j then some (rw r) else none
  | d + 1, i, j => fm (fun k => oadd (ITs lab ew sy rw r d i k) (TT lab ew (sy r d) k j)) i (j + 1 - i)
def SPs (lab ew : Nat → Nat) (sy : Nat → Nat → Nat) (rw : Nat → Nat) (i j : Nat) : Option Nat := omin (ITs lab ew sy rw 0 2 i j) (ITs lab ew sy rw 1 1 i j)
theorem TT_bd {lab : Nat → Nat} {ew : Nat → Nat} (he : ∀ e, ew e ≤ 63) (c i j : Nat) : Bd 63 (TT lab ew c i j) := by
  unfold TT
  split
  · intro n e; cases e; exact he 0
  · split
    · intro n e; cases e; exact he 1
    · split
      · intro n e; cases e; exact he 2
      · exact Bd.none
theorem ITs_bd {lab : Nat → Nat} {ew : Nat → Nat} {sy : Nat → Nat → Nat} {rw : Nat → Nat} (he : ∀ e, ew e ≤ 63) (hw : ∀ r, rw r ≤ 63) (r : Nat) : ∀ d i j, Bd (63 * (d + 1)) (ITs lab ew sy rw r d i j)
  | 0, i, j => by
    unfold ITs
    split
    · intro n e; cases e; have := hw r; omega
    · exact Bd.none
  | d + 1, i, j => by
    unfold ITs
    exact fm_bd _ fun k _ _ => ((ITs_bd he hw r d i k).oadd (TT_bd he _ k j)).mono (by omega)
theorem symbol_ok {lab : Nat → Nat} {ew : Nat → Nat} {sy : Nat → Nat → Nat} {rw : Nat → Nat} {s : S} (h : Sto lab ew sy rw s) {r d : Nat} (hr : r < 2) (hd : d < ln r) : k_symbolAt (Int32.ofNat r) (Int32.ofNat d) s = some (Int32.ofNat (sy r d)) := by
  have d3 : d < 2 := by unfold ln at hd; split at hd <;> omega
  unfold k_symbolAt
  rw [if_neg (ofNat_nonneg (by omega)), if_pos ((lt_lit (m := 12) (by omega) (by decide)).mpr (by omega)), if_neg (ofNat_nonneg (by omega)), if_pos ((lt_lit (m := 3) (by omega) (by decide)).mpr (by omega)), show Int32.ofNat r * 3 = Int32.ofNat (r * 3) from (Int32.ofNat_mul r 3).symm, ofNat_add', ix_ofNat _ (by omega), h.2.2.2.2 r d hr hd, Option.bind_some]
theorem bestAdvance_ok {lab : Nat → Nat} {ew : Nat → Nat} {sy : Nat → Nat → Nat} {rw : Nat → Nat} (hy : ∀ r d, sy r d < 8) {s : S} (h : Sto lab ew sy rw s) {U : Nat → Nat → Nat → Option Nat} {V : Nat → Nat → Nat → Nat → Option Nat} (R8 : SPt s 8 U) (R9 : ITt s 9 V) {r d i j : Nat} (hr : r < 2) (hd : d < ln r) (hij : i ≤ j) (hj : j < 3) : k_bestAdvance (Int32.ofNat r) (Int32.ofNat d) (Int32.ofNat i) (Int32.ofNat j) s = some (wc (fm (fun k => oadd (V r d i k) (U (sy r d) k j)) i (j + 1 - i))) := by
  have G := h.1
  have d3 : d < 2 := by unfold ln at hd; split at hd <;> omega
  have syd := hy r d
  unfold k_bestAdvance
  rw [symbol_ok h hr hd, Option.bind_some, G.1]
  have bd : ∀ k, i ≤ k → k ≤ j → Bd 2000 (oadd (V r d i k) (U (sy r d) k j)) := fun k a b => ((R9.2 r d i k hr (by omega) (by omega) (by omega)).1.oadd (R8.2 (sy r d) k j (by omega) (by omega) hj).1)
  have loop : ∀ e m N, m + e = j + 1 - i → e < N → k_bestAdvance_17 N (Int32.ofNat r) (Int32.ofNat d) (Int32.ofNat i) (Int32.ofNat j) (Int32.ofNat (sy r d)) (wc (fm (fun k => oadd (V r d i k) (U (sy r d) k j)) i m)) (Int32.ofNat (i + m)) s = some (wc (fm (fun k => oadd (V r d i k) (U (sy r d) k j)) i (j + 1 - i))) := by
    intro e
    induction e with
    | zero =>
      intro m N hm hN
      obtain ⟨N, rfl⟩ : ∃ n, N = n + 1 := ⟨N - 1, by omega⟩
      rw [k_bestAdvance_17, if_pos (by rw [ofNat_lt (by omega) (by omega)]; omega), show m = j + 1 - i by omega]
    | succ e ih =>
      intro m N hm hN
      obtain ⟨N, rfl⟩ : ∃ n, N = n + 1 := ⟨N - 1, by omega⟩
      have b1 := bd (i + m) (by omega) (by omega)
      have b2 : Bd 2000 (fm (fun k => oadd (V r d i k) (U (sy r d) k j)) i m) := fm_bd m fun k x y => bd k x (by omega)
      rw [k_bestAdvance_17, if_neg (by rw [ofNat_lt (by omega) (by omega)]; omega), getItem_ok G R9 hr (by omega) (by omega) (by omega), Option.bind_some, getSpan_ok G R8 (by omega) (by omega) hj, Option.bind_some, plus_wc G.1 ((R9.2 r d i (i + m) hr (by omega) (by omega) (by omega)).1.mono (by omega)) ((R8.2 (sy r d) (i + m) j (by omega) (by omega) hj).1.mono (by omega)), min_step (b2.mono (by omega)) (b1.mono (by omega)), ofNat_succ]
      exact ih (m + 1) N (by omega) (by omega)
  exact loop (j + 1 - i) 0 BIG (by omega) (by unfold BIG; omega)
/-- the charts while the cells of D are done -/
def Ud (lab ew : Nat → Nat) (sy : Nat → Nat → Nat) (rw : Nat → Nat) (D : Nat → Nat → Bool) (c i j : Nat) : Option Nat := if c < 8 then TT lab ew c i j else if c = 8 ∧ D i j = true then SPs lab ew sy rw i j else none
def Vd (lab ew : Nat → Nat) (sy : Nat → Nat → Nat) (rw : Nat → Nat) (D : Nat → Nat → Bool) (r d i j : Nat) : Option Nat := if d = 0 then ITs lab ew sy rw r 0 i j else if D i j = true ∧ d ≤ ln r then ITs lab ew sy rw r d i j else none
/-- one dot of a rule moves on -/
theorem advOne {lab : Nat → Nat} {ew : Nat → Nat} {sy : Nat → Nat → Nat} {rw : Nat → Nat} {s : S} (hy : ∀ r d, sy r d < 8) (he : ∀ e, ew e ≤ 63) (hw : ∀ r, rw r ≤ 63) (h : Sto lab ew sy rw s) {U : Nat → Nat → Nat → Option Nat} {V : Nat → Nat → Nat → Nat → Option Nat} (R8 : SPt s 8 U) (R9 : ITt s 9 V) {r d i j : Nat} (hr : r < 2) (hd : d < ln r) (hij : i ≤ j) (hj : j < 3) (tu : ∀ c k, c < 8 → k < 3 → U c k j = TT lab ew c k j) (tv : ∀ k, i ≤ k → k ≤ j → V r d i k = ITs lab ew sy rw r d i k) (cur : V r (d + 1) i j = none ∨ V r (d + 1) i j = ITs lab ew sy rw r (d + 1) i j) : ∃ fl s', k_bestAdvance (Int32.ofNat r) (Int32.ofNat d) (Int32.ofNat i) (Int32.ofNat j) s = some (wc (ITs lab ew sy rw r (d + 1) i j)) ∧ k_lowerItem (Int32.ofNat r) (Int32.ofNat (d + 1)) (Int32.ofNat i) (Int32.ofNat j) (wc (ITs lab ew sy rw r (d + 1) i j)) s = some (fl, s') ∧ Fx [] [] [9] [] s s' ∧ ITt s' 9 (up4 V r (d + 1) i j (ITs lab ew sy rw r (d + 1) i j)) ∧ (fl = 0 ∨ fl = 1) ∧ (V r (d + 1) i j = ITs lab ew sy rw r (d + 1) i j → fl = 0) := by
  have d3 : d < 2 := by unfold ln at hd; split at hd <;> omega
  have ba := bestAdvance_ok hy h R8 R9 hr hd hij hj
  have ef : fm (fun k => oadd (V r d i k) (U (sy r d) k j)) i (j + 1 - i) = ITs lab ew sy rw r (d + 1) i j := by
    rw [ITs]
    exact fm_congr _ fun k a b => by rw [tv k a (by omega), tu (sy r d) k (hy r d) (by omega)]
  rw [ef] at ba
  obtain ⟨fl, s', e, F, R', f01, f0⟩ := lowerItem_ok h.1 R9 (r := r) (d := d + 1) (i := i) (j := j) hr (by omega) (by omega) hj ((ITs_bd (sy := sy) he hw r (d + 1) i j).mono (by omega))
  have om : omin (V r (d + 1) i j) (ITs lab ew sy rw r (d + 1) i j) = ITs lab ew sy rw r (d + 1) i j := by
    rcases cur with z | z
    · rw [z]; rfl
    · rw [z]; exact omin_self _
  rw [om] at R' f0
  exact ⟨fl, s', ba, e, F, R', f01, fun z => f0 z.symm⟩
theorem nb01 {x : Int32} (h : x = 0 ∨ x = 1) : nar .boolean x = x := by rcases h with h | h <;> rw [h] <;> decide
theorem or01 {x y : Int32} (h : x = 0 ∨ x = 1) (hy : y = 0 ∨ y = 1) : (if x = 0 then y else 1) = 0 ∨ (if x = 0 then y else 1) = 1 := by
  by_cases z : x = 0
  · rw [if_pos z]; exact hy
  · rw [if_neg z]; exact Or.inr rfl
theorem head_ok {lab : Nat → Nat} {ew : Nat → Nat} {sy : Nat → Nat → Nat} {rw : Nat → Nat} {s : S} (h : Sto lab ew sy rw s) {r : Nat} (hr : r < 2) : k_headCode (Int32.ofNat r) s = some (Int32.ofNat 8) := by
  unfold k_headCode
  rw [if_neg (ofNat_nonneg (by omega)), if_pos ((lt_lit (m := 12) (by omega) (by decide)).mpr (by omega)), ix_ofNat _ (by omega), (h.2.2.2.1 r hr).1, Option.bind_some]
  rfl
theorem comp_ok {lab : Nat → Nat} {ew : Nat → Nat} {sy : Nat → Nat → Nat} {rw : Nat → Nat} {s : S} (h : Sto lab ew sy rw s) {U : Nat → Nat → Nat → Option Nat} {V : Nat → Nat → Nat → Nat → Option Nat} (R8 : SPt s 8 U) (R9 : ITt s 9 V) {r i j : Nat} (hr : r < 2) (hi : i < 3) (hj : j < 3) : ∃ fl s', k_completeItem (Int32.ofNat r) (Int32.ofNat i) (Int32.ofNat j) s = some (fl, s') ∧ Fx [] [] [8] [] s s' ∧ SPt s' 8 (up3 U 8 i j (omin (U 8 i j) (V r (ln r) i j))) ∧ (fl = 0 ∨ fl = 1) ∧ (omin (U 8 i j) (V r (ln r) i j) = U 8 i j → fl = 0) := by
  have l4 : ln r < 4 := by unfold ln; split <;> omega
  obtain ⟨fl, s', e, F, R', f01, f0⟩ := lowerSpan_ok h.1 R8 (c := 8) (i := i) (j := j) (by omega) hi hj (R9.2 r (ln r) i j hr l4 hi hj).1
  refine ⟨fl, s', ?_, F, R', f01, f0⟩
  unfold k_completeItem
  rw [ix_ofNat _ (by omega), (h.2.2.2.1 r hr).2.2, Option.bind_some, getItem_ok h.1 R9 hr l4 hi hj, Option.bind_some, head_ok h hr, Option.bind_some, e, Option.bind_some, nb01 f01]
/-- a round at the cell (i, j) -/
theorem round_ok {lab : Nat → Nat} {ew : Nat → Nat} {sy : Nat → Nat → Nat} {rw : Nat → Nat} (he : ∀ e, ew e ≤ 63) (hy : ∀ r d, sy r d < 8) (hw : ∀ r, rw r ≤ 63) {s : S} (h : Sto lab ew sy rw s) {U : Nat → Nat → Nat → Option Nat} {V : Nat → Nat → Nat → Nat → Option Nat} (R8 : SPt s 8 U) (R9 : ITt s 9 V) {i j : Nat} (hij : i ≤ j) (hj : j < 3) (tu : ∀ c k, c < 8 → k < 3 → U c k j = TT lab ew c k j) (v0 : ∀ r k, r < 2 → k < 3 → V r 0 i k = ITs lab ew sy rw r 0 i k) (v1 : ∀ k, i ≤ k → k < j → V 0 1 i k = ITs lab ew sy rw 0 1 i k) (fr : Bool) (c01 : V 0 1 i j = if fr then none else ITs lab ew sy rw 0 1 i j) (c02 : V 0 2 i j = if fr then none else ITs lab ew sy rw 0 2 i j) (c11 : V 1 1 i j = if fr then none else ITs lab ew sy rw 1 1 i j) (c8 : U 8 i j = if fr then none else SPs lab ew sy rw i j) : ∃ fl s', k_insideRound (Int32.ofNat i) (Int32.ofNat j) s = some (fl, s') ∧ Fx [] [] [8, 9] [] s s' ∧ SPt s' 8 (up3 U 8 i j (SPs lab ew sy rw i j)) ∧ ITt s' 9 (up4 (up4 (up4 V 0 1 i j (ITs lab ew sy rw 0 1 i j)) 0 2 i j (ITs lab ew sy rw 0 2 i j)) 1 1 i j (ITs lab ew sy rw 1 1 i j)) ∧ (fl = 0 ∨ fl = 1) ∧ (fr = false → fl = 0) := by
  have l0 : ln 0 = 2 := rfl
  have l1 : ln 1 = 1 := rfl
  have ite_or : ∀ x : Option Nat, (if fr then none else x) = none ∨ (if fr then none else x) = x := fun x => by cases fr; exact Or.inr rfl; exact Or.inl rfl
  have ite_f : ∀ x : Option Nat, fr = false → (if fr then none else x) = x := fun x e => by rw [e]; rfl
  have toFx : ∀ {f : Nat} {a b : S}, (f = 8 ∨ f = 9) → Fx [] [] [f] [] a b → Fx [4, 5] [] [8, 9, 10, 11] [] a b := fun hf F => F.mono (by simp) (by simp) (by rcases hf with h | h <;> subst h <;> simp) (by simp)
  have toF2 : ∀ {f : Nat} {a b : S}, (f = 8 ∨ f = 9) → Fx [] [] [f] [] a b → Fx [] [] [8, 9] [] a b := fun hf F => F.mono (by simp) (by simp) (by rcases hf with h | h <;> subst h <;> simp) (by simp)
  -- rule 0
  obtain ⟨f1, s1, b1, e1, F1, V1, g1, z1⟩ := advOne hy he hw h R8 R9 (r := 0) (d := 0) (by omega) (by omega) hij hj tu (fun k a b => v0 0 k (by omega) (by omega)) (by rw [c01]; exact ite_or _)
  have h1 := h.fx (toFx (Or.inr rfl) F1)
  have R81 := R8.fx (F1.2.2.1 8 (by simp))
  obtain ⟨f2, s2, b2, e2, F2, V2, g2, z2⟩ := advOne hy he hw h1 R81 V1 (r := 0) (d := 1) (by omega) (by omega) hij hj tu (fun k a b => by
      unfold up4
      by_cases w : k = j
      · rw [if_pos ⟨rfl, rfl, rfl, w⟩, w]
      · rw [if_neg (fun z => w z.2.2.2)]; exact v1 k a (by omega)) (by
      rw [show up4 V 0 (0 + 1) i j (ITs lab ew sy rw 0 (0 + 1) i j) 0 (1 + 1) i j = V 0 2 i j by unfold up4; rw [if_neg (fun z => by omega)], c02]; exact ite_or _)
  have h2 := h1.fx (toFx (Or.inr rfl) F2)
  have R82 := R81.fx (F2.2.2.1 8 (by simp))
  have a0 : k_advanceItems (Int32.ofNat 0) (Int32.ofNat i) (Int32.ofNat j) s = some (if f2 = 0 then (if f1 = 0 then 0 else 1) else 1, s2) := by
    unfold k_advanceItems
    rw [ix_ofNat _ (by omega), (h.2.2.2.1 0 (by omega)).2.2, Option.bind_some, l0, show BIG = 999997 + 1 + 1 + 1 from rfl, k_advanceItems_14, if_pos (by decide), show (0 : Int32) = Int32.ofNat 0 from rfl, b1, Option.bind_some, ofNat_succ, e1, Option.bind_some, k_advanceItems_14, if_pos (by decide), b2, Option.bind_some, ofNat_succ, e2, Option.bind_some, k_advanceItems_14, if_neg (by decide)]
    congr 2
    exact nb01 (or01 g2 (or01 g1 (Or.inl rfl)))
  obtain ⟨f3, s3, e3, F3, U3, g3, z3⟩ := comp_ok h2 R82 V2 (r := 0) (i := i) (j := j) (by omega) (by omega) hj
  have h3 := h2.fx (toFx (Or.inl rfl) F3)
  have V3 := V2.fx (F3.2.2.1 9 (by simp))
  -- rule 1
  have tu3 : ∀ c k, c < 8 → k < 3 → up3 U 8 i j (omin (U 8 i j) (up4 (up4 V 0 (0 + 1) i j (ITs lab ew sy rw 0 (0 + 1) i j)) 0 (1 + 1) i j (ITs lab ew sy rw 0 (1 + 1) i j) 0 (ln 0) i j)) c k j = TT lab ew c k j := fun c k hc hk => by
    unfold up3; rw [if_neg (fun z => by omega)]; exact tu c k hc hk
  obtain ⟨f4, s4, b4, e4, F4, V4, g4, z4⟩ := advOne hy he hw h3 U3 V3 (r := 1) (d := 0) (by omega) (by omega) hij hj tu3 (fun k a b => by
      unfold up4; rw [if_neg (fun z => by omega), if_neg (fun z => by omega)]; exact v0 1 k (by omega) (by omega)) (by
      rw [show up4 (up4 V 0 (0 + 1) i j (ITs lab ew sy rw 0 (0 + 1) i j)) 0 (1 + 1) i j (ITs lab ew sy rw 0 (1 + 1) i j) 1 (0 + 1) i j = V 1 1 i j by unfold up4; rw [if_neg (fun z => by omega), if_neg (fun z => by omega)], c11]; exact ite_or _)
  have h4 := h3.fx (toFx (Or.inr rfl) F4)
  have U4 := U3.fx (F4.2.2.1 8 (by simp))
  have a1 : k_advanceItems (Int32.ofNat 1) (Int32.ofNat i) (Int32.ofNat j) s3 = some (if f4 = 0 then 0 else 1, s4) := by
    unfold k_advanceItems
    rw [ix_ofNat _ (by omega), (h3.2.2.2.1 1 (by omega)).2.2, Option.bind_some, l1, show BIG = 999998 + 1 + 1 from rfl, k_advanceItems_14, if_pos (by decide), show (0 : Int32) = Int32.ofNat 0 from rfl, b4, Option.bind_some, ofNat_succ, e4, Option.bind_some, k_advanceItems_14, if_neg (by decide)]
    congr 2
    exact nb01 (or01 g4 (Or.inl rfl))
  obtain ⟨f5, s5, e5, F5, U5, g5, z5⟩ := comp_ok h4 U4 V4 (r := 1) (i := i) (j := j) (by omega) (by omega) hj
  have V5 := V4.fx (F5.2.2.1 9 (by simp))
  -- the span
  have q0 : up4 (up4 V 0 (0 + 1) i j (ITs lab ew sy rw 0 (0 + 1) i j)) 0 (1 + 1) i j (ITs lab ew sy rw 0 (1 + 1) i j) 0 (ln 0) i j = ITs lab ew sy rw 0 2 i j := by
    unfold up4; rw [if_pos ⟨rfl, l0, rfl, rfl⟩]
  have q1 : up4 (up4 (up4 V 0 (0 + 1) i j (ITs lab ew sy rw 0 (0 + 1) i j)) 0 (1 + 1) i j (ITs lab ew sy rw 0 (1 + 1) i j)) 1 (0 + 1) i j (ITs lab ew sy rw 1 (0 + 1) i j) 1 (ln 1) i j = ITs lab ew sy rw 1 1 i j := by
    unfold up4; rw [if_pos ⟨rfl, l1, rfl, rfl⟩]
  have q2 : ∀ x, up3 U 8 i j x 8 i j = x := fun x => by unfold up3; rw [if_pos ⟨rfl, rfl, rfl⟩]
  rw [q0] at U5 z3 z5
  rw [q2, q1] at U5 z5
  have m1 : omin (omin (U 8 i j) (ITs lab ew sy rw 0 2 i j)) (ITs lab ew sy rw 1 1 i j) = SPs lab ew sy rw i j := by
    rw [c8]
    cases fr
    · show omin (omin (SPs lab ew sy rw i j) _) _ = _
      unfold SPs
      rw [omin_abs, omin_abs2]
    · rfl
  rw [m1] at U5 z5
  refine ⟨if f5 = 0 then (if (if f4 = 0 then (0 : Int32) else 1) = 0 then (if f3 = 0 then (if (if f2 = 0 then (if f1 = 0 then (0 : Int32) else 1) else 1) = 0 then 0 else 1) else 1) else 1) else 1, s5, ?_, (((toF2 (Or.inr rfl) F1).trans (toF2 (Or.inr rfl) F2)).trans ((toF2 (Or.inl rfl) F3).trans (toF2 (Or.inr rfl) F4))).trans (toF2 (Or.inl rfl) F5), ?_, V5, ?_, fun e => ?_⟩
  · unfold k_insideRound
    rw [show BIG = 999997 + 1 + 1 + 1 from rfl, k_insideRound_5, h.1.2.2, if_pos (show (0 : Int32) < 2 by decide), show k_advanceItems 0 (Int32.ofNat i) (Int32.ofNat j) s = _ from a0, Option.bind_some, k_insideRound_27, show k_completeItem 0 (Int32.ofNat i) (Int32.ofNat j) s2 = _ from e3, Option.bind_some]
    dsimp only
    rw [k_insideRound_5, h3.1.2.2, show (0 : Int32) + 1 = 1 from rfl, if_pos (show (1 : Int32) < 2 by decide), show k_advanceItems 1 (Int32.ofNat i) (Int32.ofNat j) s3 = _ from a1, Option.bind_some, k_insideRound_27, show k_completeItem 1 (Int32.ofNat i) (Int32.ofNat j) s4 = _ from e5, Option.bind_some]
    dsimp only
    rw [k_insideRound_5, (h4.fx (toFx (Or.inl rfl) F5)).1.2.2, show (1 : Int32) + 1 = 2 from rfl, if_neg (show ¬ (2 : Int32) < 2 by decide)]
    congr 2
    exact nb01 (or01 g5 (or01 (or01 g4 (Or.inl rfl)) (or01 g3 (or01 (or01 g2 (or01 g1 (Or.inl rfl))) (Or.inl rfl)))))
  · refine U5.congr fun c' i' j' _ _ _ => ?_
    unfold up3
    by_cases w : c' = 8 ∧ i' = i ∧ j' = j
    · rw [if_pos w, if_pos w]
    · rw [if_neg w, if_neg w, if_neg w]
  · exact or01 g5 (or01 (or01 g4 (Or.inl rfl)) (or01 g3 (or01 (or01 g2 (or01 g1 (Or.inl rfl))) (Or.inl rfl))))
  · have y1 := z1 (by rw [c01]; exact ite_f _ e)
    have y2 := z2 (by rw [show up4 V 0 (0 + 1) i j (ITs lab ew sy rw 0 (0 + 1) i j) 0 (1 + 1) i j = V 0 2 i j by unfold up4; rw [if_neg (fun z => by omega)], c02]; exact ite_f _ e)
    have y3 := z3 (by
      rw [c8, ite_f _ e]; unfold SPs; exact omin_abs _ _)
    have y4 := z4 (by rw [show up4 (up4 V 0 (0 + 1) i j (ITs lab ew sy rw 0 (0 + 1) i j)) 0 (1 + 1) i j (ITs lab ew sy rw 0 (1 + 1) i j) 1 (0 + 1) i j = V 1 1 i j by unfold up4; rw [if_neg (fun z => by omega), if_neg (fun z => by omega)], c11]; exact ite_f _ e)
    have y5 := z5 (by rw [c8, ite_f _ e]; unfold SPs; rw [omin_abs])
    rw [y1, y2, y3, y4, y5]; rfl
theorem decN (k : Nat) : Int32.ofNat (k + 1) + (-1) = Int32.ofNat k := by
  rw [← ofNat_succ, Int32.add_assoc, show (1 : Int32) + -1 = 0 from rfl, Int32.add_zero]
def dn (D : Nat → Nat → Bool) (i j : Nat) : Nat → Nat → Bool := fun i' j' => D i' j' || decide (i' = i ∧ j' = j)
def Dd (j i : Nat) : Nat → Nat → Bool := fun i' j' => decide (i' ≤ j' ∧ (j' < j ∨ (j' = j ∧ i ≤ i')))
theorem dn_Dd {j i : Nat} (h : i ≤ j) : dn (Dd j (i + 1)) i j = Dd j i := by
  funext i' j'
  unfold dn Dd
  by_cases a : i' = i ∧ j' = j
  · rw [decide_eq_true a, Bool.or_true, decide_eq_true (by omega)]
  · rw [decide_eq_false a, Bool.or_false]
    exact decide_eq_decide.mpr (by omega)
theorem Dd_next (j : Nat) : Dd j 0 = Dd (j + 1) (j + 2) := by
  funext i' j'
  unfold Dd
  exact decide_eq_decide.mpr (by omega)
theorem close_ok {lab : Nat → Nat} {ew : Nat → Nat} {sy : Nat → Nat → Nat} {rw : Nat → Nat} (he : ∀ e, ew e ≤ 63) (hy : ∀ r d, sy r d < 8) (hw : ∀ r, rw r ≤ 63) {s : S} (h : Sto lab ew sy rw s) {D : Nat → Nat → Bool} (R8 : SPt s 8 (Ud lab ew sy rw D)) (R9 : ITt s 9 (Vd lab ew sy rw D)) {i j : Nat} (hij : i ≤ j) (hj : j < 3) (nd : D i j = false) (bd : ∀ k, i ≤ k → k < j → D i k = true) : ∃ s', k_closeInsideCell (Int32.ofNat i) (Int32.ofNat j) s = some s' ∧ Fx [] [] [8, 9] [] s s' ∧ SPt s' 8 (Ud lab ew sy rw (dn D i j)) ∧ ITt s' 9 (Vd lab ew sy rw (dn D i j)) := by
  have toFx : ∀ {a b : S}, Fx [] [] [8, 9] [] a b → Fx [4, 5] [] [8, 9, 10, 11] [] a b := fun F => F.mono (by simp) (by simp) (by simp) (by simp)
  have d1 : dn D i j i j = true := by unfold dn; simp
  have dk : ∀ k, i ≤ k → k < j → dn D i j i k = true := fun k a b => by unfold dn; rw [bd k a b]; rfl
  have l0 : ln 0 = 2 := rfl
  have l1 : ln 1 = 1 := rfl
  have tuD : ∀ (E : Nat → Nat → Bool) (c k : Nat), c < 8 → k < 3 → Ud lab ew sy rw E c k j = TT lab ew c k j := fun E c k hc _ => by unfold Ud; rw [if_pos hc]
  have v0D : ∀ (E : Nat → Nat → Bool) (r k : Nat), r < 2 → k < 3 → Vd lab ew sy rw E r 0 i k = ITs lab ew sy rw r 0 i k := fun E r k _ _ => by unfold Vd; rw [if_pos rfl]
  obtain ⟨f1, s1, e1, F1, U1, V1, g1, _⟩ := round_ok he hy hw h R8 R9 hij hj (tuD D) (v0D D) (fun k a b => by unfold Vd; rw [if_neg (by decide), if_pos ⟨bd k a b, by omega⟩]) true (by unfold Vd; rw [if_neg (by decide), if_neg (fun z => by rw [nd] at z; cases z.1)]; rfl) (by unfold Vd; rw [if_neg (by decide), if_neg (fun z => by rw [nd] at z; cases z.1)]; rfl) (by unfold Vd; rw [if_neg (by decide), if_neg (fun z => by rw [nd] at z; cases z.1)]; rfl) (by unfold Ud; rw [if_neg (by decide), if_neg (fun z => by rw [nd] at z; cases z.2)]; rfl)
  have U1' : SPt s1 8 (Ud lab ew sy rw (dn D i j)) := U1.congr fun c' i' j' _ _ _ => by
    unfold up3
    by_cases w : c' = 8 ∧ i' = i ∧ j' = j
    · rw [if_pos w]; unfold Ud
      rw [if_neg (by omega), if_pos ⟨w.1, by rw [w.2.1, w.2.2]; exact d1⟩, w.2.1, w.2.2]
    · rw [if_neg w]; unfold Ud dn
      by_cases c8 : c' < 8
      · rw [if_pos c8, if_pos c8]
      · rw [if_neg c8, if_neg c8]
        by_cases e8 : c' = 8
        · rw [decide_eq_false (show ¬ (i' = i ∧ j' = j) from fun z => w ⟨e8, z⟩), Bool.or_false]
        · rw [if_neg (fun z => e8 z.1), if_neg (fun z => e8 z.1)]
  have V1' : ITt s1 9 (Vd lab ew sy rw (dn D i j)) := V1.congr fun r' d' i' j' hr' _ _ _ => by
    unfold up4
    by_cases w : i' = i ∧ j' = j
    · obtain ⟨rfl, rfl⟩ := w
      unfold Vd
      rw [d1]
      by_cases a1 : r' = 1 ∧ d' = 1
      · rw [if_pos ⟨a1.1, a1.2, rfl, rfl⟩, a1.1, a1.2, if_neg (by decide), if_pos ⟨rfl, by omega⟩]
      · rw [if_neg (fun z => a1 ⟨z.1, z.2.1⟩)]
        by_cases a2 : r' = 0 ∧ d' = 2
        · rw [if_pos ⟨a2.1, a2.2, rfl, rfl⟩, a2.1, a2.2, if_neg (by decide), if_pos ⟨rfl, by omega⟩]
        · rw [if_neg (fun z => a2 ⟨z.1, z.2.1⟩)]
          by_cases a3 : r' = 0 ∧ d' = 1
          · rw [if_pos ⟨a3.1, a3.2, rfl, rfl⟩, a3.1, a3.2, if_neg (by decide), if_pos ⟨rfl, by omega⟩]
          · rw [if_neg (fun z => a3 ⟨z.1, z.2.1⟩)]
            by_cases a4 : d' = 0
            · rw [if_pos a4, if_pos a4]
            · rw [if_neg a4, if_neg a4, if_neg (fun z => by rw [nd] at z; cases z.1), if_neg (fun z => by
                have := z.2
                unfold ln at this
                split at this <;> omega)]
    · rw [if_neg (fun z => w z.2.2), if_neg (fun z => w z.2.2), if_neg (fun z => w z.2.2)]
      unfold Vd dn
      rw [decide_eq_false w, Bool.or_false]
  unfold k_closeInsideCell
  rw [show BIG = 999997 + 1 + 1 + 1 from rfl, k_closeInsideCell_5, if_neg (by decide), if_pos (by decide), e1, Option.bind_some]
  dsimp only
  rw [k_closeInsideCell_5]
  by_cases z : f1 = 0
  · rw [if_pos z]
    exact ⟨s1, rfl, F1, U1', V1'⟩
  · have h1 := h.fx (toFx F1)
    obtain ⟨f2, s2, e2, F2, U2, V2, _, g2⟩ := round_ok he hy hw h1 U1' V1' hij hj (tuD _) (v0D _) (fun k a b => by unfold Vd; rw [if_neg (by decide), if_pos ⟨dk k a b, by omega⟩]) false (by unfold Vd; rw [if_neg (by decide), if_pos ⟨d1, by omega⟩]; rfl) (by unfold Vd; rw [if_neg (by decide), if_pos ⟨d1, by omega⟩]; rfl) (by unfold Vd; rw [if_neg (by decide), if_pos ⟨d1, by omega⟩]; rfl) (by unfold Ud; rw [if_neg (by decide), if_pos ⟨rfl, d1⟩]; rfl)
    rw [if_neg z, if_pos (by decide), e2, Option.bind_some]
    dsimp only
    rw [k_closeInsideCell_5, if_pos (g2 rfl)]
    refine ⟨s2, rfl, F1.trans F2, ?_, ?_⟩
    · rw [up3_same (by unfold Ud; rw [if_neg (by decide), if_pos ⟨rfl, d1⟩])] at U2
      exact U2
    · rw [up4_same (V := Vd lab ew sy rw (dn D i j)) (by unfold Vd; rw [if_neg (by decide), if_pos ⟨d1, by omega⟩]), up4_same (V := Vd lab ew sy rw (dn D i j)) (by unfold Vd; rw [if_neg (by decide), if_pos ⟨d1, by omega⟩]), up4_same (V := Vd lab ew sy rw (dn D i j)) (by unfold Vd; rw [if_neg (by decide), if_pos ⟨d1, by omega⟩])] at V2
      exact V2
theorem row_ok {lab : Nat → Nat} {ew : Nat → Nat} {sy : Nat → Nat → Nat} {rw : Nat → Nat} (he : ∀ e, ew e ≤ 63) (hy : ∀ r d, sy r d < 8) (hw : ∀ r, rw r ≤ 63) (K : Int32 → S → Option S) {j : Nat} (hj : j < 3) : ∀ u N s, u ≤ j → u + 1 < N → Sto lab ew sy rw s → SPt s 8 (Ud lab ew sy rw (Dd j (u + 1))) → ITt s 9 (Vd lab ew sy rw (Dd j (u + 1))) → ∃ s', k_runInside_20 K N (Int32.ofNat j) (Int32.ofNat u) s = K (Int32.ofNat (j + 1)) s' ∧ Fx [] [] [8, 9] [] s s' ∧ SPt s' 8 (Ud lab ew sy rw (Dd j 0)) ∧ ITt s' 9 (Vd lab ew sy rw (Dd j 0)) := by
  intro u
  induction u with
  | zero =>
    intro N s hu hN h R8 R9
    obtain ⟨N, rfl⟩ : ∃ n, N = n + 1 := ⟨N - 1, by omega⟩
    obtain ⟨N, rfl⟩ : ∃ n, N = n + 1 := ⟨N - 1, by omega⟩
    obtain ⟨s', e, F, U, V⟩ := close_ok he hy hw h R8 R9 (i := 0) (j := j) (by omega) hj (by unfold Dd; exact decide_eq_false (by omega)) (fun k a b => by unfold Dd; exact decide_eq_true (by omega))
    rw [dn_Dd (by omega)] at U V
    refine ⟨s', ?_, F, U, V⟩
    rw [k_runInside_20, if_neg (ofNat_nonneg (by omega)), e, Option.bind_some, show Int32.ofNat 0 + (-1) = -1 from rfl, k_runInside_20, if_pos (by decide), ofNat_succ]
  | succ u ih =>
    intro N s hu hN h R8 R9
    obtain ⟨N, rfl⟩ : ∃ n, N = n + 1 := ⟨N - 1, by omega⟩
    obtain ⟨s1, e, F, U, V⟩ := close_ok he hy hw h R8 R9 (i := u + 1) (j := j) (by omega) hj (by unfold Dd; exact decide_eq_false (by omega)) (fun k a b => by unfold Dd; exact decide_eq_true (by omega))
    rw [dn_Dd (by omega)] at U V
    obtain ⟨s', e', F', r⟩ := ih N s1 (by omega) (by omega) (h.fx (F.mono (by simp) (by simp) (by simp) (by simp))) U V
    refine ⟨s', ?_, F.trans F', r⟩
    have dec : Int32.ofNat (u + 1) + (-1) = Int32.ofNat u := decN u
    rw [k_runInside_20, if_neg (ofNat_nonneg (by omega)), e, Option.bind_some, dec]
    exact e'
theorem cols_ok {lab : Nat → Nat} {ew : Nat → Nat} {sy : Nat → Nat → Nat} {rw : Nat → Nat} (he : ∀ e, ew e ≤ 63) (hy : ∀ r d, sy r d < 8) (hw : ∀ r, rw r ≤ 63) : ∀ d j N s, j + d = 3 → d < N → Sto lab ew sy rw s → SPt s 8 (Ud lab ew sy rw (Dd j (j + 1))) → ITt s 9 (Vd lab ew sy rw (Dd j (j + 1))) → ∃ s', k_runInside_10 N (Int32.ofNat j) s = some s' ∧ Fx [] [] [8, 9] [] s s' ∧ SPt s' 8 (Ud lab ew sy rw (Dd 3 4)) ∧ ITt s' 9 (Vd lab ew sy rw (Dd 3 4)) := by
  intro d
  induction d with
  | zero =>
    intro j N s hj hN h R8 R9
    obtain ⟨N, rfl⟩ : ∃ n, N = n + 1 := ⟨N - 1, by omega⟩
    have : j = 3 := by omega
    subst this
    exact ⟨s, by rw [k_runInside_10, h.1.2.1, if_neg (by decide)], Fx.refl .., R8, R9⟩
  | succ d ih =>
    intro j N s hj hN h R8 R9
    obtain ⟨N, rfl⟩ : ∃ n, N = n + 1 := ⟨N - 1, by omega⟩
    obtain ⟨s1, e, F, U, V⟩ := row_ok he hy hw (fun v1 s => k_runInside_10 N v1 s) (j := j) (by omega) j BIG s (by omega) (by unfold BIG; omega) h R8 R9
    rw [Dd_next] at U V
    obtain ⟨s', e', F', r⟩ := ih (j + 1) N s1 (by omega) (by omega) (h.fx (F.mono (by simp) (by simp) (by simp) (by simp))) U V
    refine ⟨s', ?_, F.trans F', r⟩
    rw [k_runInside_10, h.1.2.1, if_pos ((lt_lit (m := 3) (by omega) (by decide)).mpr (by omega)), e]
    exact e'
theorem scan_ok {lab : Nat → Nat} {ew : Nat → Nat} {sy : Nat → Nat → Nat} {rw : Nat → Nat} (hl : ∀ e, lab e < 8) (he : ∀ e, ew e ≤ 63) {s : S} (h : Sto lab ew sy rw s) (R8 : SPt s 8 (fun _ _ _ => none)) : ∃ s', k_scanEdges s = some s' ∧ Fx [] [] [8] [] s s' ∧ SPt s' 8 (Ud lab ew sy rw (Dd 0 1)) := by
  have toFx : ∀ {a b : S}, Fx [] [] [8] [] a b → Fx [4, 5] [] [8, 9, 10, 11] [] a b := fun F => F.mono (by simp) (by simp) (by simp) (by simp)
  have step : ∀ (e n : Nat) (s : S) (U : Nat → Nat → Nat → Option Nat), e < 3 → Sto lab ew sy rw s → SPt s 8 U → ∃ s', k_scanEdges_2 (n + 1) (Int32.ofNat e) s = k_scanEdges_2 n (Int32.ofNat (e + 1)) s' ∧ Fx [] [] [8] [] s s' ∧ SPt s' 8 (up3 U (lab e) (efr e) (eto e) (omin (U (lab e) (efr e) (eto e)) (some (ew e)))) := by
    intro e n s U h3 h R8
    obtain ⟨a0, a1, a2, a3⟩ := h.2.2.1 e h3
    obtain ⟨fl, s', e', F, R', _, _⟩ := lowerSpan_ok h.1 R8 (c := lab e) (i := efr e) (j := eto e) (by have := hl e; omega) (by unfold efr; split <;> omega) (by unfold eto; split <;> omega) (v := some (ew e)) (fun n z => by cases z; have := he e; omega)
    refine ⟨s', ?_, F, R'⟩
    rw [k_scanEdges_2, h.2.1, if_pos ((lt_lit (m := 3) (by omega) (by decide)).mpr h3), ix_ofNat _ (by omega), a2, Option.bind_some, ix_ofNat _ (by omega), a0, Option.bind_some, ix_ofNat _ (by omega), a1, Option.bind_some, ix_ofNat _ (by omega), a3, Option.bind_some, show k_lowerSpan (Int32.ofNat (lab e)) (Int32.ofNat (efr e)) (Int32.ofNat (eto e)) (Int32.ofNat (ew e)) s = _ from e', Option.bind_some, ofNat_succ]
  obtain ⟨s1, e1, F1, U1⟩ := step 0 (999996 + 1 + 1 + 1) s _ (by omega) h R8
  have h1 := h.fx (toFx F1)
  obtain ⟨s2, e2, F2, U2⟩ := step 1 (999996 + 1 + 1) s1 _ (by omega) h1 U1
  have h2 := h1.fx (toFx F2)
  obtain ⟨s3, e3, F3, U3⟩ := step 2 (999996 + 1) s2 _ (by omega) h2 U2
  have h3 := h2.fx (toFx F3)
  refine ⟨s3, ?_, (F1.trans F2).trans F3, U3.congr fun c i j hc hi hj => ?_⟩
  · unfold k_scanEdges
    rw [show BIG = 999996 + 1 + 1 + 1 + 1 from rfl, show (0 : Int32) = Int32.ofNat 0 from rfl, e1, e2, e3, k_scanEdges_2, h3.2.1, if_neg (by decide)]
  · have w0 := hl 0
    have w1 := hl 1
    have w2 := hl 2
    have dd : ∀ i j, i < 3 → j < 3 → Dd 0 1 i j = false := fun i j a b => by unfold Dd; exact decide_eq_false (by omega)
    unfold Ud
    rw [dd i j hi hj]
    unfold up3 TT efr eto
    rcases (show i = 0 ∨ i = 1 ∨ i = 2 by omega) with a | a | a <;> rcases (show j = 0 ∨ j = 1 ∨ j = 2 by omega) with b | b | b <;> subst a <;> subst b
    · simp
    · by_cases z : c = lab 0
      · subst z; simp [w0, omin]
      · simp [z, Ne.symm z]
    · by_cases z : c = lab 2
      · subst z; simp [w2, omin]
      · simp [z, Ne.symm z]
    · simp
    · simp
    · by_cases z : c = lab 1
      · subst z; simp [w1, omin]
      · simp [z, Ne.symm z]
    · simp
    · simp
    · simp
theorem seedIn_ok {lab : Nat → Nat} {ew : Nat → Nat} {sy : Nat → Nat → Nat} {rw : Nat → Nat} (hw : ∀ r, rw r ≤ 63) (K : Int32 → S → Option S) {r : Nat} (hr : r < 2) {s : S} (h : Sto lab ew sy rw s) {V : Nat → Nat → Nat → Nat → Option Nat} (R9 : ITt s 9 V) : ∃ s', k_seedItems_12 K BIG (Int32.ofNat r) 0 s = K (Int32.ofNat (r + 1)) s' ∧ Fx [] [] [9] [] s s' ∧ ITt s' 9 (up4 (up4 (up4 V r 0 0 0 (omin (V r 0 0 0) (some (rw r)))) r 0 1 1 (omin (V r 0 1 1) (some (rw r)))) r 0 2 2 (omin (V r 0 2 2) (some (rw r)))) := by
  have toFx : ∀ {a b : S}, Fx [] [] [9] [] a b → Fx [4, 5] [] [8, 9, 10, 11] [] a b := fun F => F.mono (by simp) (by simp) (by simp) (by simp)
  have step : ∀ (u n : Nat) (s : S) (V : Nat → Nat → Nat → Nat → Option Nat), u < 3 → Sto lab ew sy rw s → ITt s 9 V → ∃ s', k_seedItems_12 K (n + 1) (Int32.ofNat r) (Int32.ofNat u) s = k_seedItems_12 K n (Int32.ofNat r) (Int32.ofNat (u + 1)) s' ∧ Fx [] [] [9] [] s s' ∧ ITt s' 9 (up4 V r 0 u u (omin (V r 0 u u) (some (rw r)))) := by
    intro u n s V hu h R9
    obtain ⟨fl, s', e', F, R', _, _⟩ := lowerItem_ok h.1 R9 (r := r) (d := 0) (i := u) (j := u) hr (by omega) hu hu (v := some (rw r)) (fun n z => by cases z; have := hw r; omega)
    refine ⟨s', ?_, F, R'⟩
    rw [k_seedItems_12, h.1.2.1, if_pos ((lt_lit (m := 3) (by omega) (by decide)).mpr hu), ix_ofNat _ (by omega), (h.2.2.2.1 r hr).2.1, Option.bind_some, show k_lowerItem (Int32.ofNat r) 0 (Int32.ofNat u) (Int32.ofNat u) (Int32.ofNat (rw r)) s = _ from e', Option.bind_some, ofNat_succ]
  obtain ⟨s1, e1, F1, V1⟩ := step 0 (999996 + 1 + 1 + 1) s _ (by omega) h R9
  have h1 := h.fx (toFx F1)
  obtain ⟨s2, e2, F2, V2⟩ := step 1 (999996 + 1 + 1) s1 _ (by omega) h1 V1
  have h2 := h1.fx (toFx F2)
  obtain ⟨s3, e3, F3, V3⟩ := step 2 (999996 + 1) s2 _ (by omega) h2 V2
  have h3 := h2.fx (toFx F3)
  refine ⟨s3, ?_, (F1.trans F2).trans F3, V3.congr fun r' d' i' j' _ _ _ _ => ?_⟩
  · rw [show BIG = 999996 + 1 + 1 + 1 + 1 from rfl, show (0 : Int32) = Int32.ofNat 0 from rfl, e1, e2, e3, k_seedItems_12, h3.1.2.1, if_neg (by decide), ofNat_succ]
  · have y1 : up4 V r 0 0 0 (omin (V r 0 0 0) (some (rw r))) r 0 1 1 = V r 0 1 1 := by unfold up4; rw [if_neg (by omega)]
    have y2 : up4 (up4 V r 0 0 0 (omin (V r 0 0 0) (some (rw r)))) r 0 1 1 (omin (V r 0 1 1) (some (rw r))) r 0 2 2 = V r 0 2 2 := by unfold up4; rw [if_neg (by omega), if_neg (by omega)]
    rw [y1, y2]
theorem seeds_ok {lab : Nat → Nat} {ew : Nat → Nat} {sy : Nat → Nat → Nat} {rw : Nat → Nat} (hw : ∀ r, rw r ≤ 63) {s : S} (h : Sto lab ew sy rw s) (R9 : ITt s 9 (fun _ _ _ _ => none)) : ∃ s', k_seedItems s = some s' ∧ Fx [] [] [9] [] s s' ∧ ITt s' 9 (Vd lab ew sy rw (Dd 0 1)) := by
  have toFx : ∀ {a b : S}, Fx [] [] [9] [] a b → Fx [4, 5] [] [8, 9, 10, 11] [] a b := fun F => F.mono (by simp) (by simp) (by simp) (by simp)
  obtain ⟨s1, e1, F1, V1⟩ := seedIn_ok hw (fun v1 s => k_seedItems_2 (999997 + 1 + 1) v1 s) (r := 0) (by omega) h R9
  have h1 := h.fx (toFx F1)
  obtain ⟨s2, e2, F2, V2⟩ := seedIn_ok hw (fun v1 s => k_seedItems_2 (999997 + 1) v1 s) (r := 1) (by omega) h1 V1
  have h2 := h1.fx (toFx F2)
  refine ⟨s2, ?_, F1.trans F2, V2.congr fun r d i j hr hd hi hj => ?_⟩
  · unfold k_seedItems
    rw [show BIG = 999997 + 1 + 1 + 1 from rfl, k_seedItems_2, h.1.2.2, if_pos (by decide)]
    rw [show k_seedItems_12 (fun v1 s => k_seedItems_2 (999997 + 1 + 1) v1 s) BIG 0 0 s = _ from e1]
    show k_seedItems_2 (999997 + 1 + 1) (Int32.ofNat 1) s1 = _
    rw [k_seedItems_2, h1.1.2.2, if_pos (by decide), e2]
    show k_seedItems_2 (999997 + 1) (Int32.ofNat 2) s2 = _
    rw [k_seedItems_2, h2.1.2.2, if_neg (by decide)]
  · have dd : Dd 0 1 i j = false := by unfold Dd; exact decide_eq_false (by omega)
    unfold Vd
    rw [dd]
    unfold up4 ITs
    rcases (show r = 0 ∨ r = 1 by omega) with a | a <;> subst a
    · by_cases z : d = 0
      · subst z
        rcases (show i = 0 ∨ i = 1 ∨ i = 2 by omega) with a | a | a <;> rcases (show j = 0 ∨ j = 1 ∨ j = 2 by omega) with b | b | b <;> subst a <;> subst b <;> simp [omin]
      · simp [z]
    · by_cases z : d = 0
      · subst z
        rcases (show i = 0 ∨ i = 1 ∨ i = 2 by omega) with a | a | a <;> rcases (show j = 0 ∨ j = 1 ∨ j = 2 by omega) with b | b | b <;> subst a <;> subst b <;> simp [omin]
      · simp [z]
theorem inside_ok {lab : Nat → Nat} {ew : Nat → Nat} {sy : Nat → Nat → Nat} {rw : Nat → Nat} (hl : ∀ e, lab e < 8) (he : ∀ e, ew e ≤ 63) (hy : ∀ r d, sy r d < 8) (hw : ∀ r, rw r ≤ 63) {s : S} (h : Sto lab ew sy rw s) (R8 : SPt s 8 (fun _ _ _ => none)) (R9 : ITt s 9 (fun _ _ _ _ => none)) : ∃ s', k_runInside s = some s' ∧ Fx [] [] [8, 9] [] s s' ∧ SPt s' 8 (Ud lab ew sy rw (Dd 3 4)) ∧ ITt s' 9 (Vd lab ew sy rw (Dd 3 4)) := by
  obtain ⟨s1, e1, F1, U1⟩ := scan_ok hl he h R8
  have h1 := h.fx (F1.mono (by simp) (by simp) (by simp) (by simp))
  obtain ⟨s2, e2, F2, V2⟩ := seeds_ok hw h1 (R9.fx (F1.2.2.1 9 (by simp)))
  have h2 := h1.fx (F2.mono (by simp) (by simp) (by simp) (by simp))
  obtain ⟨s3, e3, F3, r⟩ := cols_ok he hy hw 3 0 BIG s2 (by omega) (by unfold BIG; omega) h2 (U1.fx (F2.2.2.1 8 (by simp))) V2
  refine ⟨s3, ?_, ((F1.mono (by simp) (by simp) (by simp) (by simp)).trans (F2.mono (by simp) (by simp) (by simp) (by simp))).trans F3, r⟩
  unfold k_runInside
  rw [e1, Option.bind_some, e2, Option.bind_some]
  exact e3
def REs (lab ew : Nat → Nat) (sy : Nat → Nat → Nat) (r : Nat) : Nat → Nat → Nat → Option Nat
  | 0, i, j => if i = j then some 0 else none
  | m + 1, i, j => fm (fun k => oadd (TT lab ew (sy r (ln r - (m + 1))) i k) (REs lab ew sy r m k j)) i (j + 1 - i)
def Vx (lab ew : Nat → Nat) (sy : Nat → Nat → Nat) (r d i j : Nat) : Option Nat := if d ≤ ln r then REs lab ew sy r (ln r - d) i j else none
def VE (lab ew : Nat → Nat) (sy : Nat → Nat → Nat) (E : Nat → Nat → Nat → Nat → Bool) (r d i j : Nat) : Option Nat := if E r d i j = true then Vx lab ew sy r d i j else none
def Fe (r d i j : Nat) : Nat → Nat → Nat → Nat → Bool := fun r' d' i' j' => decide (r' < r ∨ (r' = r ∧ (d < d' ∨ (d' = d ∧ (i' < i ∨ (i' = i ∧ j' < j))))))
def Ge (r : Nat) : Nat → Nat → Nat → Nat → Bool := fun r' _ _ _ => decide (r' < r)
theorem ln_pos (r : Nat) : 1 ≤ ln r ∧ ln r ≤ 2 := by unfold ln; split <;> omega
theorem Vx_low {lab : Nat → Nat} {ew : Nat → Nat} {sy : Nat → Nat → Nat} {r d i j : Nat} (h : j < i) : Vx lab ew sy r d i j = none := by
  unfold Vx
  split
  · cases ln r - d with
    | zero => rw [REs, if_neg (by omega)]
    | succ m => rw [REs, show j + 1 - i = 0 by omega]; rfl
  · rfl
theorem REs_bd {lab : Nat → Nat} {ew : Nat → Nat} {sy : Nat → Nat → Nat} (he : ∀ e, ew e ≤ 63) (r : Nat) : ∀ m i j, Bd (63 * m) (REs lab ew sy r m i j)
  | 0, i, j => by
    unfold REs
    split
    · intro n e; cases e; omega
    · exact Bd.none
  | m + 1, i, j => by
    unfold REs
    exact fm_bd _ fun k _ _ => ((TT_bd he _ i k).oadd (REs_bd he r m k j)).mono (by omega)
theorem Vx_bd {lab : Nat → Nat} {ew : Nat → Nat} {sy : Nat → Nat → Nat} (he : ∀ e, ew e ≤ 63) (r d i j : Nat) : Bd 126 (Vx lab ew sy r d i j) := by
  have := ln_pos r
  unfold Vx
  split
  · exact (REs_bd he r _ i j).mono (by omega)
  · exact Bd.none
theorem restOne {lab : Nat → Nat} {ew : Nat → Nat} {sy : Nat → Nat → Nat} {rw : Nat → Nat} (he : ∀ e, ew e ≤ 63) (hy : ∀ r d, sy r d < 8) {s : S} (h : Sto lab ew sy rw s) {D : Nat → Nat → Bool} (R8 : SPt s 8 (Ud lab ew sy rw D)) {E : Nat → Nat → Nat → Nat → Bool} (R10 : ITt s 10 (VE lab ew sy E)) {r d i j : Nat} (hr : r < 2) (hd : d < ln r) (hij : i ≤ j) (hj : j < 3) (up : ∀ k, i ≤ k → k ≤ j → E r (d + 1) k j = true) (nd : E r d i j = false) : ∃ fl s', k_restAt (Int32.ofNat r) (Int32.ofNat d) (Int32.ofNat i) (Int32.ofNat j) s = some (wc (Vx lab ew sy r d i j)) ∧ k_lowerRest (Int32.ofNat r) (Int32.ofNat d) (Int32.ofNat i) (Int32.ofNat j) (wc (Vx lab ew sy r d i j)) s = some (fl, s') ∧ Fx [] [] [10] [] s s' ∧ ITt s' 10 (up4 (VE lab ew sy E) r d i j (Vx lab ew sy r d i j)) := by
  have G := h.1
  have lp := ln_pos r
  have syd := hy r d
  have b8 : ∀ k, k < 3 → Bd 1000 (TT lab ew (sy r d) i k) := fun k hk => (TT_bd he _ i k).mono (by omega)
  have b10 : ∀ k, Bd 1000 (Vx lab ew sy r (d + 1) k j) := fun k => (Vx_bd he r _ k j).mono (by omega)
  have bd : ∀ k, k < 3 → Bd 2000 (oadd (TT lab ew (sy r d) i k) (Vx lab ew sy r (d + 1) k j)) := fun k hk => (b8 k hk).oadd (b10 k)
  have ef : fm (fun k => oadd (TT lab ew (sy r d) i k) (Vx lab ew sy r (d + 1) k j)) i (j + 1 - i) = Vx lab ew sy r d i j := by
    have e1 : Vx lab ew sy r d i j = REs lab ew sy r (ln r - (d + 1) + 1) i j := by unfold Vx; rw [if_pos (by omega), show ln r - d = (ln r - (d + 1)) + 1 by omega]
    rw [e1, REs, show ln r - (ln r - (d + 1) + 1) = d by omega]
    exact fm_congr _ fun k _ _ => by unfold Vx; rw [if_pos (by omega)]
  have ba : k_restAt (Int32.ofNat r) (Int32.ofNat d) (Int32.ofNat i) (Int32.ofNat j) s = some (wc (Vx lab ew sy r d i j)) := by
    unfold k_restAt
    rw [symbol_ok h hr hd, Option.bind_some, G.1, ← ef]
    have loop : ∀ e m N, m + e = j + 1 - i → e < N → k_restAt_17 N (Int32.ofNat r) (Int32.ofNat d) (Int32.ofNat i) (Int32.ofNat j) (Int32.ofNat (sy r d)) (wc (fm (fun k => oadd (TT lab ew (sy r d) i k) (Vx lab ew sy r (d + 1) k j)) i m)) (Int32.ofNat (i + m)) s = some (wc (fm (fun k => oadd (TT lab ew (sy r d) i k) (Vx lab ew sy r (d + 1) k j)) i (j + 1 - i))) := by
      intro e
      induction e with
      | zero =>
        intro m N hm hN
        obtain ⟨N, rfl⟩ : ∃ n, N = n + 1 := ⟨N - 1, by omega⟩
        rw [k_restAt_17, if_pos (by rw [ofNat_lt (by omega) (by omega)]; omega), show m = j + 1 - i by omega]
      | succ e ih =>
        intro m N hm hN
        obtain ⟨N, rfl⟩ : ∃ n, N = n + 1 := ⟨N - 1, by omega⟩
        have b1 := bd (i + m) (by omega)
        have b2 : Bd 2000 (fm (fun k => oadd (TT lab ew (sy r d) i k) (Vx lab ew sy r (d + 1) k j)) i m) := fm_bd m fun k x y => bd k (by omega)
        have u8 : Ud lab ew sy rw D (sy r d) i (i + m) = TT lab ew (sy r d) i (i + m) := by unfold Ud; rw [if_pos syd]
        have u10 : VE lab ew sy E r (d + 1) (i + m) j = Vx lab ew sy r (d + 1) (i + m) j := by unfold VE; rw [if_pos (up (i + m) (by omega) (by omega))]
        rw [k_restAt_17, if_neg (by rw [ofNat_lt (by omega) (by omega)]; omega), getSpan_ok G R8 (by omega) (by omega) (by omega), Option.bind_some, ofNat_succ, getRest_ok G R10 hr (by omega) (by omega) hj, Option.bind_some, u8, u10, plus_wc G.1 ((b8 (i + m) (by omega)).mono (by omega)) ((b10 (i + m)).mono (by omega)), min_step (b2.mono (by omega)) (b1.mono (by omega)), ofNat_succ]
        exact ih (m + 1) N (by omega) (by omega)
    exact loop (j + 1 - i) 0 BIG (by omega) (by unfold BIG; omega)
  obtain ⟨fl, s', e, F, R'⟩ := lowerRest_ok G R10 (r := r) (d := d) (i := i) (j := j) hr (by omega) (by omega) hj ((Vx_bd (sy := sy) he r d i j).mono (by omega))
  refine ⟨fl, s', ba, e, F, ?_⟩
  have om : omin (VE lab ew sy E r d i j) (Vx lab ew sy r d i j) = Vx lab ew sy r d i j := by
    unfold VE; rw [nd, if_neg (by decide)]; rfl
  rw [om] at R'
  exact R'
theorem fillIn_ok {lab : Nat → Nat} {ew : Nat → Nat} {sy : Nat → Nat → Nat} {rw : Nat → Nat} (he : ∀ e, ew e ≤ 63) (hy : ∀ r d, sy r d < 8) (K : Int32 → Int32 → Int32 → S → Option S) {r d i : Nat} (hr : r < 2) (hd : d < ln r) (hi : i < 3) {D : Nat → Nat → Bool} : ∀ e j N s, j + e = 3 → e < N → i ≤ j → Sto lab ew sy rw s → SPt s 8 (Ud lab ew sy rw D) → ITt s 10 (VE lab ew sy (Fe r d i j)) → ∃ s', k_fillRestLevel_13 K N (Int32.ofNat r) (Int32.ofNat d) (Int32.ofNat i) (Int32.ofNat j) s = K (Int32.ofNat r) (Int32.ofNat d) (Int32.ofNat (i + 1)) s' ∧ Fx [] [] [10] [] s s' ∧ ITt s' 10 (VE lab ew sy (Fe r d (i + 1) (i + 1))) := by
  intro e
  induction e with
  | zero =>
    intro j N s hj hN hij h R8 R10
    obtain ⟨N, rfl⟩ : ∃ n, N = n + 1 := ⟨N - 1, by omega⟩
    have : j = 3 := by omega
    subst this
    refine ⟨s, by rw [k_fillRestLevel_13, h.1.2.1, if_neg (by decide), ofNat_succ], Fx.refl .., R10.congr fun r' d' i' j' _ _ hi' hj' => ?_⟩
    unfold VE Fe
    by_cases w : j' < i'
    · rw [Vx_low w]; split <;> split <;> rfl
    · rw [show decide (r' < r ∨ (r' = r ∧ (d < d' ∨ (d' = d ∧ (i' < i ∨ (i' = i ∧ j' < 3)))))) = decide (r' < r ∨ (r' = r ∧ (d < d' ∨ (d' = d ∧ (i' < i + 1 ∨ (i' = i + 1 ∧ j' < i + 1)))))) from decide_eq_decide.mpr (by omega)]
  | succ e ih =>
    intro j N s hj hN hij h R8 R10
    obtain ⟨N, rfl⟩ : ∃ n, N = n + 1 := ⟨N - 1, by omega⟩
    obtain ⟨fl, s1, ea, el, F, R1⟩ := restOne he hy h R8 R10 hr hd hij (by omega) (fun k a b => by unfold Fe; exact decide_eq_true (by omega)) (by unfold Fe; exact decide_eq_false (by omega))
    have h1 := h.fx (F.mono (by simp) (by simp) (by simp) (by simp))
    obtain ⟨s', e', F', R'⟩ := ih (j + 1) N s1 (by omega) (by omega) (by omega) h1 (R8.fx (F.2.2.1 8 (by simp))) (R1.congr fun r' d' i' j' _ _ _ _ => by
      unfold up4 VE
      by_cases w : r' = r ∧ d' = d ∧ i' = i ∧ j' = j
      · rw [if_pos w, if_pos (show Fe r d i (j + 1) r' d' i' j' = true by unfold Fe; exact decide_eq_true (by omega)), w.1, w.2.1, w.2.2.1, w.2.2.2]
      · rw [if_neg w, show Fe r d i j r' d' i' j' = Fe r d i (j + 1) r' d' i' j' by unfold Fe; exact decide_eq_decide.mpr (by omega)])
    refine ⟨s', ?_, F.trans F', R'⟩
    rw [k_fillRestLevel_13, h.1.2.1, if_pos ((lt_lit (m := 3) (by omega) (by decide)).mpr (by omega)), ea, Option.bind_some, el, Option.bind_some, ofNat_succ]
    exact e'
theorem fill_ok {lab : Nat → Nat} {ew : Nat → Nat} {sy : Nat → Nat → Nat} {rw : Nat → Nat} (he : ∀ e, ew e ≤ 63) (hy : ∀ r d, sy r d < 8) {r d : Nat} (hr : r < 2) (hd : d < ln r) {D : Nat → Nat → Bool} : ∀ e i N s, i + e = 3 → e < N → Sto lab ew sy rw s → SPt s 8 (Ud lab ew sy rw D) → ITt s 10 (VE lab ew sy (Fe r d i i)) → ∃ s', k_fillRestLevel_2 N (Int32.ofNat r) (Int32.ofNat d) (Int32.ofNat i) s = some s' ∧ Fx [] [] [10] [] s s' ∧ ITt s' 10 (VE lab ew sy (Fe r d 3 3)) := by
  intro e
  induction e with
  | zero =>
    intro i N s hi hN h R8 R10
    obtain ⟨N, rfl⟩ : ∃ n, N = n + 1 := ⟨N - 1, by omega⟩
    have : i = 3 := by omega
    subst this
    exact ⟨s, by rw [k_fillRestLevel_2, h.1.2.1, if_neg (by decide)], Fx.refl .., R10⟩
  | succ e ih =>
    intro i N s hi hN h R8 R10
    obtain ⟨N, rfl⟩ : ∃ n, N = n + 1 := ⟨N - 1, by omega⟩
    obtain ⟨s1, e1, F, R1⟩ := fillIn_ok he hy (fun v1 v2 v3 s => k_fillRestLevel_2 N v1 v2 v3 s) hr hd (show i < 3 by omega) (3 - i) i BIG s (by omega) (by unfold BIG; omega) (by omega) h R8 R10
    have h1 := h.fx (F.mono (by simp) (by simp) (by simp) (by simp))
    obtain ⟨s', e', F', R'⟩ := ih (i + 1) N s1 (by omega) (by omega) h1 (R8.fx (F.2.2.1 8 (by simp))) R1
    refine ⟨s', ?_, F.trans F', R'⟩
    rw [k_fillRestLevel_2, h.1.2.1, if_pos ((lt_lit (m := 3) (by omega) (by decide)).mpr (by omega)), e1]
    exact e'
theorem levels_ok {lab : Nat → Nat} {ew : Nat → Nat} {sy : Nat → Nat → Nat} {rw : Nat → Nat} (he : ∀ e, ew e ≤ 63) (hy : ∀ r d, sy r d < 8) (K : Int32 → S → Option S) {r : Nat} (hr : r < 2) {D : Nat → Nat → Bool} : ∀ d N s, d < ln r → d + 1 < N → Sto lab ew sy rw s → SPt s 8 (Ud lab ew sy rw D) → ITt s 10 (VE lab ew sy (Fe r d 0 0)) → ∃ s', k_runRest_26 K N (Int32.ofNat r) (Int32.ofNat d) s = K (Int32.ofNat (r + 1)) s' ∧ Fx [] [] [10] [] s s' ∧ ITt s' 10 (VE lab ew sy (Ge (r + 1))) := by
  intro d
  induction d with
  | zero =>
    intro N s hd hN h R8 R10
    obtain ⟨N, rfl⟩ : ∃ n, N = n + 1 := ⟨N - 1, by omega⟩
    obtain ⟨N, rfl⟩ : ∃ n, N = n + 1 := ⟨N - 1, by omega⟩
    obtain ⟨s1, e1, F, R1⟩ := fill_ok he hy hr hd 3 0 BIG s (by omega) (by unfold BIG; omega) h R8 R10
    refine ⟨s1, ?_, F, R1.congr fun r' d' i' j' _ _ _ _ => ?_⟩
    · rw [k_runRest_26, if_neg (ofNat_nonneg (by omega)), show k_fillRestLevel (Int32.ofNat r) (Int32.ofNat 0) s = some s1 from e1, Option.bind_some, show Int32.ofNat 0 + (-1) = -1 from rfl, k_runRest_26, if_pos (by decide), ofNat_succ]
    · unfold VE
      rw [show Fe r 0 3 3 r' d' i' j' = Ge (r + 1) r' d' i' j' by unfold Fe Ge; exact decide_eq_decide.mpr (by omega)]
  | succ d ih =>
    intro N s hd hN h R8 R10
    have lp := ln_pos r
    obtain ⟨N, rfl⟩ : ∃ n, N = n + 1 := ⟨N - 1, by omega⟩
    obtain ⟨s1, e1, F, R1⟩ := fill_ok he hy hr hd 3 0 BIG s (by omega) (by unfold BIG; omega) h R8 R10
    have h1 := h.fx (F.mono (by simp) (by simp) (by simp) (by simp))
    obtain ⟨s', e', F', R'⟩ := ih N s1 (by omega) (by omega) h1 (R8.fx (F.2.2.1 8 (by simp))) (R1.congr fun r' d' i' j' _ _ _ _ => by
      unfold VE
      rw [show Fe r (d + 1) 3 3 r' d' i' j' = Fe r d 0 0 r' d' i' j' by unfold Fe; exact decide_eq_decide.mpr (by omega)])
    refine ⟨s', ?_, F.trans F', R'⟩
    rw [k_runRest_26, if_neg (ofNat_nonneg (by omega)), show k_fillRestLevel (Int32.ofNat r) (Int32.ofNat (d + 1)) s = some s1 from e1, Option.bind_some, decN]
    exact e'
theorem seedRest_ok {lab : Nat → Nat} {ew : Nat → Nat} {sy : Nat → Nat → Nat} {rw : Nat → Nat} (he : ∀ e, ew e ≤ 63) (hy : ∀ r d, sy r d < 8) {r : Nat} (hr : r < 2) {s : S} (h : Sto lab ew sy rw s) (R10 : ITt s 10 (VE lab ew sy (Ge r))) : ∃ s', k_seedRest (Int32.ofNat r) s = some s' ∧ Fx [] [] [10] [] s s' ∧ ITt s' 10 (VE lab ew sy (Fe r (ln r - 1) 0 0)) := by
  have toFx : ∀ {a b : S}, Fx [] [] [10] [] a b → Fx [4, 5] [] [8, 9, 10, 11] [] a b := fun F => F.mono (by simp) (by simp) (by simp) (by simp)
  have lp := ln_pos r
  have step : ∀ (u n : Nat) (s : S) (V : Nat → Nat → Nat → Nat → Option Nat), u < 3 → Sto lab ew sy rw s → ITt s 10 V → ∃ s', k_seedRest_9 (n + 1) (Int32.ofNat r) (Int32.ofNat (ln r)) (Int32.ofNat u) s = k_seedRest_9 n (Int32.ofNat r) (Int32.ofNat (ln r)) (Int32.ofNat (u + 1)) s' ∧ Fx [] [] [10] [] s s' ∧ ITt s' 10 (up4 V r (ln r) u u (omin (V r (ln r) u u) (some 0))) := by
    intro u n s V hu h R10
    obtain ⟨fl, s', e', F, R'⟩ := lowerRest_ok h.1 R10 (r := r) (d := ln r) (i := u) (j := u) hr (by omega) hu hu (v := some 0) (fun n z => by cases z; omega)
    refine ⟨s', ?_, F, R'⟩
    rw [k_seedRest_9, h.1.2.1, if_pos ((lt_lit (m := 3) (by omega) (by decide)).mpr hu), show k_lowerRest (Int32.ofNat r) (Int32.ofNat (ln r)) (Int32.ofNat u) (Int32.ofNat u) 0 s = _ from e', Option.bind_some, ofNat_succ]
  obtain ⟨s1, e1, F1, V1⟩ := step 0 (999996 + 1 + 1 + 1) s _ (by omega) h R10
  have h1 := h.fx (toFx F1)
  obtain ⟨s2, e2, F2, V2⟩ := step 1 (999996 + 1 + 1) s1 _ (by omega) h1 V1
  have h2 := h1.fx (toFx F2)
  obtain ⟨s3, e3, F3, V3⟩ := step 2 (999996 + 1) s2 _ (by omega) h2 V2
  have h3 := h2.fx (toFx F3)
  refine ⟨s3, ?_, (F1.trans F2).trans F3, V3.congr fun r' d' i' j' _ _ hi' hj' => ?_⟩
  · unfold k_seedRest
    rw [ix_ofNat _ (by omega), (h.2.2.2.1 r hr).2.2, Option.bind_some, show BIG = 999996 + 1 + 1 + 1 + 1 from rfl, show (0 : Int32) = Int32.ofNat 0 from rfl, e1, e2, e3, k_seedRest_9, h3.1.2.1, if_neg (by decide)]
  · have n0 : ∀ u, VE lab ew sy (Ge r) r (ln r) u u = none := fun u => by unfold VE Ge; rw [if_neg (by rw [decide_eq_true_eq]; omega)]
    have y1 : ∀ x, up4 (VE lab ew sy (Ge r)) r (ln r) 0 0 x r (ln r) 1 1 = none := fun x => by
      have : up4 (VE lab ew sy (Ge r)) r (ln r) 0 0 x r (ln r) 1 1 = VE lab ew sy (Ge r) r (ln r) 1 1 := by unfold up4; rw [if_neg (by omega)]
      rw [this, n0]
    have y2 : ∀ x y, up4 (up4 (VE lab ew sy (Ge r)) r (ln r) 0 0 x) r (ln r) 1 1 y r (ln r) 2 2 = none := fun x y => by
      have : up4 (up4 (VE lab ew sy (Ge r)) r (ln r) 0 0 x) r (ln r) 1 1 y r (ln r) 2 2 = VE lab ew sy (Ge r) r (ln r) 2 2 := by unfold up4; rw [if_neg (by omega), if_neg (by omega)]
      rw [this, n0]
    rw [n0, y1, y2]
    by_cases w : r' = r ∧ d' = ln r
    · obtain ⟨rfl, rfl⟩ := w
      have ev : VE lab ew sy (Fe r' (ln r' - 1) 0 0) r' (ln r') i' j' = if i' = j' then some 0 else none := by
        unfold VE Vx
        rw [if_pos (show Fe r' (ln r' - 1) 0 0 r' (ln r') i' j' = true by unfold Fe; exact decide_eq_true (by omega)), if_pos (Nat.le_refl _), Nat.sub_self, REs]
      have en : VE lab ew sy (Ge r') r' (ln r') i' j' = none := by unfold VE Ge; rw [if_neg (by rw [decide_eq_true_eq]; omega)]
      rw [ev]
      unfold up4
      rw [en]
      rcases (show i' = 0 ∨ i' = 1 ∨ i' = 2 by omega) with a | a | a <;> rcases (show j' = 0 ∨ j' = 1 ∨ j' = 2 by omega) with b | b | b <;> subst a <;> subst b <;> simp [omin]
    · have : up4 (up4 (up4 (VE lab ew sy (Ge r)) r (ln r) 0 0 (omin none (some 0))) r (ln r) 1 1 (omin none (some 0))) r (ln r) 2 2 (omin none (some 0)) r' d' i' j' = VE lab ew sy (Ge r) r' d' i' j' := by
        unfold up4
        rw [if_neg (fun z => w ⟨z.1, z.2.1⟩), if_neg (fun z => w ⟨z.1, z.2.1⟩), if_neg (fun z => w ⟨z.1, z.2.1⟩)]
      rw [this]
      unfold VE
      by_cases v : r' = r ∧ ln r < d'
      · rw [show Vx lab ew sy r' d' i' j' = none by unfold Vx; rw [v.1, if_neg (by omega)]]
        split <;> split <;> rfl
      · rw [show Ge r r' d' i' j' = Fe r (ln r - 1) 0 0 r' d' i' j' by unfold Fe Ge; exact decide_eq_decide.mpr (by omega)]
theorem rest_ok {lab : Nat → Nat} {ew : Nat → Nat} {sy : Nat → Nat → Nat} {rw : Nat → Nat} (he : ∀ e, ew e ≤ 63) (hy : ∀ r d, sy r d < 8) {s : S} (h : Sto lab ew sy rw s) {D : Nat → Nat → Bool} (R8 : SPt s 8 (Ud lab ew sy rw D)) (R10 : ITt s 10 (fun _ _ _ _ => none)) : ∃ s', k_runRest s = some s' ∧ Fx [] [] [10] [] s s' ∧ ITt s' 10 (Vx lab ew sy) := by
  have toFx : ∀ {a b : S}, Fx [] [] [10] [] a b → Fx [4, 5] [] [8, 9, 10, 11] [] a b := fun F => F.mono (by simp) (by simp) (by simp) (by simp)
  have one : ∀ (r n : Nat) (s : S), r < 2 → Sto lab ew sy rw s → SPt s 8 (Ud lab ew sy rw D) → ITt s 10 (VE lab ew sy (Ge r)) → ∃ s', k_runRest_2 (n + 1) (Int32.ofNat r) s = k_runRest_2 n (Int32.ofNat (r + 1)) s' ∧ Fx [] [] [10] [] s s' ∧ ITt s' 10 (VE lab ew sy (Ge (r + 1))) := by
    intro r n s hr h R8 R10
    have lp := ln_pos r
    obtain ⟨s1, e1, F1, V1⟩ := seedRest_ok he hy hr h R10
    have h1 := h.fx (toFx F1)
    obtain ⟨s2, e2, F2, V2⟩ := levels_ok he hy (fun v1 s => k_runRest_2 n v1 s) hr (ln r - 1) BIG s1 (by omega) (by unfold BIG; omega) h1 (R8.fx (F1.2.2.1 8 (by simp))) V1
    refine ⟨s2, ?_, F1.trans F2, V2⟩
    have sb : Int32.ofNat (ln r) - 1 = Int32.ofNat (ln r - 1) := by
      rcases (show ln r = 1 ∨ ln r = 2 by omega) with a | a <;> rw [a] <;> rfl
    rw [k_runRest_2, h.1.2.2, if_pos ((lt_lit (m := 2) (by omega) (by decide)).mpr hr), e1, Option.bind_some, ix_ofNat _ (by omega), (h1.2.2.2.1 r hr).2.2, Option.bind_some, sb, e2]
  obtain ⟨s1, e1, F1, V1⟩ := one 0 (999997 + 1 + 1) s (by omega) h R8 (R10.congr fun r d i j _ _ _ _ => by unfold VE Ge; rw [if_neg (by simp)])
  have h1 := h.fx (toFx F1)
  have R81 := R8.fx (F1.2.2.1 8 (by simp))
  obtain ⟨s2, e2, F2, V2⟩ := one 1 (999997 + 1) s1 (by omega) h1 R81 V1
  have h2 := h1.fx (toFx F2)
  refine ⟨s2, ?_, F1.trans F2, V2.congr fun r d i j hr _ _ _ => by unfold VE Ge; rw [if_pos (decide_eq_true (by omega))]⟩
  unfold k_runRest
  rw [show BIG = 999997 + 1 + 1 + 1 from rfl, show (0 : Int32) = Int32.ofNat 0 from rfl, e1, e2, k_runRest_2, h2.1.2.2, if_neg (by decide)]
def O8 (i j : Nat) : Option Nat := if i = 0 ∧ j = 2 then some 0 else none
def ctx (lab ew : Nat → Nat) (sy : Nat → Nat → Nat) (rw : Nat → Nat) (r d i j : Nat) : Option Nat := oadd (ITs lab ew sy rw r d 0 i) (Vx lab ew sy r (d + 1) j 2)
def OUx (lab ew : Nat → Nat) (sy : Nat → Nat → Nat) (rw : Nat → Nat) (c i j : Nat) : Option Nat := omin (omin (if sy 0 0 = c then ctx lab ew sy rw 0 0 i j else none) (if sy 0 1 = c then ctx lab ew sy rw 0 1 i j else none)) (if sy 1 0 = c then ctx lab ew sy rw 1 0 i j else none)
theorem abs3 (a b c : Option Nat) : omin (omin (omin a b) c) a = omin (omin a b) c ∧ omin (omin (omin a b) c) b = omin (omin a b) c ∧ omin (omin (omin a b) c) c = omin (omin a b) c := by
  cases a <;> cases b <;> cases c <;> simp [omin] <;> omega
theorem oadd0 (x : Option Nat) : oadd (some 0) x = x := by
  cases x with
  | none => rfl
  | some a => show some (0 + a) = some a; rw [Nat.zero_add]
theorem oaddn (x : Option Nat) : oadd none x = none := by cases x <;> rfl
theorem up3_omin (U : Nat → Nat → Nat → Option Nat) (x i j : Nat) (v : Option Nat) (c : Nat) : up3 U x i j (omin (U x i j) v) c i j = omin (U c i j) (if x = c then v else none) := by
  unfold up3
  by_cases w : x = c
  · subst w; rw [if_pos ⟨rfl, rfl, rfl⟩, if_pos rfl]
  · rw [if_neg (fun z => w z.1.symm), if_neg w, omin_none]
theorem ctx_bd {lab : Nat → Nat} {ew : Nat → Nat} {sy : Nat → Nat → Nat} {rw : Nat → Nat} (he : ∀ e, ew e ≤ 63) (hw : ∀ r, rw r ≤ 63) {r d : Nat} (hd : d < 3) (i j : Nat) : Bd 400 (ctx lab ew sy rw r d i j) := ((ITs_bd (lab := lab) (sy := sy) he hw r d 0 i).oadd (Vx_bd (lab := lab) (sy := sy) he r (d + 1) j 2)).mono (by omega)
theorem ctx_ok {lab : Nat → Nat} {ew : Nat → Nat} {sy : Nat → Nat → Nat} {rw : Nat → Nat} (he : ∀ e, ew e ≤ 63) (hy : ∀ r d, sy r d < 8) (hw : ∀ r, rw r ≤ 63) {s : S} (h : Sto lab ew sy rw s) {U : Nat → Nat → Nat → Option Nat} (R11 : SPt s 11 U) (u8 : ∀ i j, i < 3 → j < 3 → U 8 i j = O8 i j) (R9 : ITt s 9 (Vd lab ew sy rw (Dd 3 4))) (R10 : ITt s 10 (Vx lab ew sy)) {r d i j : Nat} (hr : r < 2) (hd : d < ln r) (hij : i ≤ j) (hj : j < 3) : k_bestContext (Int32.ofNat r) (Int32.ofNat d) (Int32.ofNat i) (Int32.ofNat j) s = some (wc (ctx lab ew sy rw r d i j)) := by
  have G := h.1
  have lp := ln_pos r
  have cb := ctx_bd (lab := lab) (sy := sy) he hw (r := r) (d := d) (by omega) i j
  have i9 : ∀ v, v ≤ i → Vd lab ew sy rw (Dd 3 4) r d v i = ITs lab ew sy rw r d v i := fun v hv => by
    unfold Vd
    by_cases z : d = 0
    · subst z; rw [if_pos rfl]
    · rw [if_neg z, if_pos ⟨by unfold Dd; exact decide_eq_true (by omega), by omega⟩]
  -- the term of one pair
  have term : ∀ v v9, v ≤ i → j ≤ v9 → v9 < 3 → ∀ t : S, t = s → (k_getOuter (Int32.ofNat 8) (Int32.ofNat v) (Int32.ofNat v9) s = some (wc (O8 v v9)) ∧ k_getItem (Int32.ofNat r) (Int32.ofNat d) (Int32.ofNat v) (Int32.ofNat i) s = some (wc (ITs lab ew sy rw r d v i)) ∧ k_getRest (Int32.ofNat r) (Int32.ofNat (d + 1)) (Int32.ofNat j) (Int32.ofNat v9) s = some (wc (Vx lab ew sy r (d + 1) j v9)) ∧ k_plus3 (wc (O8 v v9)) (wc (ITs lab ew sy rw r d v i)) (wc (Vx lab ew sy r (d + 1) j v9)) s = wc (if v = 0 ∧ v9 = 2 then ctx lab ew sy rw r d i j else none)) := by
    intro v v9 hv h9 h93 t _
    refine ⟨?_, ?_, ?_, ?_⟩
    · rw [getOuter_ok G R11 (by omega) (by omega) h93, u8 v v9 (by omega) h93]
    · rw [getItem_ok G R9 hr (by omega) (by omega) (by omega), i9 v hv]
    · exact getRest_ok G R10 hr (by omega) hj h93
    · unfold k_plus3
      have bo : Bd 1000000 (O8 v v9) := fun n e => by unfold O8 at e; split at e <;> cases e; omega
      have bi := (ITs_bd (lab := lab) (sy := sy) he hw r d v i).mono (show 63 * (d + 1) ≤ 1000 by omega)
      rw [plus_wc G.1 bo (bi.mono (by omega))]
      unfold O8
      by_cases z : v = 0 ∧ v9 = 2
      · rw [if_pos z, if_pos z, oadd0, plus_wc G.1 (bi.mono (by omega)) ((Vx_bd (lab := lab) (sy := sy) he r (d + 1) j v9).mono (by omega)), z.1, z.2]; rfl
      · rw [if_neg z, if_neg z, oaddn, plus_wc G.1 Bd.none ((Vx_bd (lab := lab) (sy := sy) he r (d + 1) j v9).mono (by omega)), oaddn]
  have inner : ∀ (K : Int32 → Int32 → Int32 → Int32 → Int32 → Int32 → Int32 → Int32 → S → Option Int32) (v : Nat), v ≤ i → ∀ (acc : Option Nat), Bd 1000 acc → ∀ e v9 N, v9 + e = 3 → e < N → j ≤ v9 → k_bestContext_34 K N (Int32.ofNat r) (Int32.ofNat d) (Int32.ofNat i) (Int32.ofNat j) (Int32.ofNat 8) (Int32.ofNat 2) (wc (if v9 = 3 ∧ v = 0 then omin acc (ctx lab ew sy rw r d i j) else acc)) (Int32.ofNat v) (Int32.ofNat v9) s = K (Int32.ofNat r) (Int32.ofNat d) (Int32.ofNat i) (Int32.ofNat j) (Int32.ofNat 8) (Int32.ofNat 2) (wc (if v = 0 then omin acc (ctx lab ew sy rw r d i j) else acc)) (Int32.ofNat (v + 1)) s := by
    intro K v hv acc ba e
    induction e with
    | zero =>
      intro v9 N h9 hN hj9
      obtain ⟨N, rfl⟩ : ∃ n, N = n + 1 := ⟨N - 1, by omega⟩
      have : v9 = 3 := by omega
      subst this
      rw [k_bestContext_34, if_pos (by decide), ofNat_succ]
      by_cases z : v = 0
      · rw [if_pos ⟨rfl, z⟩, if_pos z]
      · rw [if_neg (fun w => z w.2), if_neg z]
    | succ e ih =>
      intro v9 N h9 hN hj9
      obtain ⟨N, rfl⟩ : ∃ n, N = n + 1 := ⟨N - 1, by omega⟩
      obtain ⟨t1, t2, t3, t4⟩ := term v v9 hv hj9 (by omega) s rfl
      have b2 : Bd 1000000 (if v = 0 ∧ v9 = 2 then ctx lab ew sy rw r d i j else none) := by split; exact cb.mono (by omega); exact Bd.none
      rw [k_bestContext_34, if_neg (by rw [ofNat_lt (by omega) (by omega)]; omega), t1, Option.bind_some, t2, Option.bind_some, ofNat_succ, t3, Option.bind_some, t4, if_neg (show ¬ (v9 = 3 ∧ v = 0) by omega), min_step (ba.mono (by omega)) b2, ofNat_succ, ← ih (v9 + 1) N (by omega) (by omega) (by omega)]
      congr 2
      by_cases z : v = 0 ∧ v9 = 2
      · rw [if_pos z, if_pos ⟨by omega, z.1⟩]
      · rw [if_neg z, if_neg (by omega), omin_none]
  unfold k_bestContext
  rw [head_ok h hr, Option.bind_some, G.2.1, G.1, show (3 : Int32) - 1 = Int32.ofNat 2 from rfl, show BIG = 999998 + 1 + 1 from rfl, k_bestContext_24, if_neg (by rw [show (0 : Int32) = Int32.ofNat 0 from rfl, ofNat_lt (by omega) (by omega)]; omega)]
  have i0 := inner (fun v1 v2 v3 v4 v5 v6 v7 v8 s => k_bestContext_24 (999998 + 1) v1 v2 v3 v4 v5 v6 v7 v8 s) 0 (by omega) none Bd.none (3 - j) j BIG (by omega) (by unfold BIG; omega) (by omega)
  rw [if_neg (show ¬ (j = 3 ∧ (0 : Nat) = 0) by omega), if_pos rfl] at i0
  rw [show k_bestContext_34 (fun v1 v2 v3 v4 v5 v6 v7 v8 s => k_bestContext_24 (999998 + 1) v1 v2 v3 v4 v5 v6 v7 v8 s) BIG (Int32.ofNat r) (Int32.ofNat d) (Int32.ofNat i) (Int32.ofNat j) (Int32.ofNat 8) (Int32.ofNat 2) 1073741824 0 (Int32.ofNat j) s = _ from i0]
  have tail : ∀ e v N, v + e = i + 1 → e < N → 1 ≤ v → k_bestContext_24 N (Int32.ofNat r) (Int32.ofNat d) (Int32.ofNat i) (Int32.ofNat j) (Int32.ofNat 8) (Int32.ofNat 2) (wc (ctx lab ew sy rw r d i j)) (Int32.ofNat v) s = some (wc (ctx lab ew sy rw r d i j)) := by
    intro e
    induction e with
    | zero =>
      intro v N hv hN _
      obtain ⟨N, rfl⟩ : ∃ n, N = n + 1 := ⟨N - 1, by omega⟩
      rw [k_bestContext_24, if_pos (by rw [ofNat_lt (by omega) (by omega)]; omega)]
    | succ e ih =>
      intro v N hv hN v1
      obtain ⟨N, rfl⟩ : ∃ n, N = n + 1 := ⟨N - 1, by omega⟩
      have i1 := inner (fun v1 v2 v3 v4 v5 v6 v7 v8 s => k_bestContext_24 N v1 v2 v3 v4 v5 v6 v7 v8 s) v (by omega) (ctx lab ew sy rw r d i j) (cb.mono (by omega)) (3 - j) j BIG (by omega) (by unfold BIG; omega) (by omega)
      rw [if_neg (show ¬ (j = 3 ∧ v = 0) by omega), if_neg (by omega)] at i1
      rw [k_bestContext_24, if_neg (by rw [ofNat_lt (by omega) (by omega)]; omega), i1]
      exact ih (v + 1) N (by omega) (by omega) (by omega)
  exact tail i 1 (999998 + 1) (by omega) (by omega) (by omega)
theorem oOne {lab : Nat → Nat} {ew : Nat → Nat} {sy : Nat → Nat → Nat} {rw : Nat → Nat} (he : ∀ e, ew e ≤ 63) (hy : ∀ r d, sy r d < 8) (hw : ∀ r, rw r ≤ 63) {s : S} (h : Sto lab ew sy rw s) {U : Nat → Nat → Nat → Option Nat} (R11 : SPt s 11 U) (u8 : ∀ i j, i < 3 → j < 3 → U 8 i j = O8 i j) (R9 : ITt s 9 (Vd lab ew sy rw (Dd 3 4))) (R10 : ITt s 10 (Vx lab ew sy)) {r d i j : Nat} (hr : r < 2) (hd : d < ln r) (hij : i ≤ j) (hj : j < 3) : ∃ fl s', k_bestContext (Int32.ofNat r) (Int32.ofNat d) (Int32.ofNat i) (Int32.ofNat j) s = some (wc (ctx lab ew sy rw r d i j)) ∧ k_symbolAt (Int32.ofNat r) (Int32.ofNat d) s = some (Int32.ofNat (sy r d)) ∧ k_lowerOuter (Int32.ofNat (sy r d)) (Int32.ofNat i) (Int32.ofNat j) (wc (ctx lab ew sy rw r d i j)) s = some (fl, s') ∧ Fx [] [] [11] [] s s' ∧ SPt s' 11 (up3 U (sy r d) i j (omin (U (sy r d) i j) (ctx lab ew sy rw r d i j))) ∧ (fl = 0 ∨ fl = 1) ∧ (omin (U (sy r d) i j) (ctx lab ew sy rw r d i j) = U (sy r d) i j → fl = 0) ∧ (∀ i' j', i' < 3 → j' < 3 → up3 U (sy r d) i j (omin (U (sy r d) i j) (ctx lab ew sy rw r d i j)) 8 i' j' = O8 i' j') := by
  have lp := ln_pos r
  have syd := hy r d
  obtain ⟨fl, s', e, F, R', f01, f0⟩ := lowerOuter_ok h.1 R11 (c := sy r d) (i := i) (j := j) (by omega) (by omega) hj ((ctx_bd (lab := lab) (sy := sy) he hw (r := r) (d := d) (by omega) i j).mono (show 400 ≤ 1000 by omega))
  exact ⟨fl, s', ctx_ok he hy hw h R11 u8 R9 R10 hr hd hij hj, symbol_ok h hr hd, e, F, R', f01, f0, fun i' j' a b => by unfold up3; rw [if_neg (fun z => by omega)]; exact u8 i' j' a b⟩
theorem oround_ok {lab : Nat → Nat} {ew : Nat → Nat} {sy : Nat → Nat → Nat} {rw : Nat → Nat} (he : ∀ e, ew e ≤ 63) (hy : ∀ r d, sy r d < 8) (hw : ∀ r, rw r ≤ 63) {s : S} (h : Sto lab ew sy rw s) {U : Nat → Nat → Nat → Option Nat} (R11 : SPt s 11 U) (u8 : ∀ i j, i < 3 → j < 3 → U 8 i j = O8 i j) (R9 : ITt s 9 (Vd lab ew sy rw (Dd 3 4))) (R10 : ITt s 10 (Vx lab ew sy)) {i j : Nat} (hij : i ≤ j) (hj : j < 3) (fr : Bool) (cu : ∀ c, c < 8 → U c i j = if fr then none else OUx lab ew sy rw c i j) : ∃ fl s', k_outerRound (Int32.ofNat i) (Int32.ofNat j) s = some (fl, s') ∧ Fx [] [] [11] [] s s' ∧ SPt s' 11 (fun c' i' j' => if c' < 8 ∧ i' = i ∧ j' = j then OUx lab ew sy rw c' i j else U c' i' j') ∧ (fr = false → fl = 0) := by
  have l0 : ln 0 = 2 := rfl
  have l1 : ln 1 = 1 := rfl
  have toFx : ∀ {a b : S}, Fx [] [] [11] [] a b → Fx [4, 5] [] [8, 9, 10, 11] [] a b := fun F => F.mono (by simp) (by simp) (by simp) (by simp)
  obtain ⟨f1, s1, b1, y1, e1, F1, U1, g1, z1, o1⟩ := oOne he hy hw h R11 u8 R9 R10 (r := 0) (d := 0) (by omega) (by omega) hij hj
  have h1 := h.fx (toFx F1)
  obtain ⟨f2, s2, b2, y2, e2, F2, U2, g2, z2, o2⟩ := oOne he hy hw h1 U1 o1 (R9.fx (F1.2.2.1 9 (by simp))) (R10.fx (F1.2.2.1 10 (by simp))) (r := 0) (d := 1) (by omega) (by omega) hij hj
  have h2 := h1.fx (toFx F2)
  obtain ⟨f3, s3, b3, y3, e3, F3, U3, g3, z3, o3⟩ := oOne he hy hw h2 U2 o2 ((R9.fx (F1.2.2.1 9 (by simp))).fx (F2.2.2.1 9 (by simp))) ((R10.fx (F1.2.2.1 10 (by simp))).fx (F2.2.2.1 10 (by simp))) (r := 1) (d := 0) (by omega) (by omega) hij hj
  have h3 := h2.fx (toFx F3)
  have a0 : k_outerRule (Int32.ofNat 0) (Int32.ofNat i) (Int32.ofNat j) s = some (if f2 = 0 then (if f1 = 0 then 0 else 1) else 1, s2) := by
    unfold k_outerRule
    rw [ix_ofNat _ (by omega), (h.2.2.2.1 0 (by omega)).2.2, Option.bind_some, l0, show BIG = 999997 + 1 + 1 + 1 from rfl, k_outerRule_14, if_pos (by decide), show (0 : Int32) = Int32.ofNat 0 from rfl, b1, Option.bind_some, y1, Option.bind_some, e1, Option.bind_some, ofNat_succ, k_outerRule_14, if_pos (by decide), b2, Option.bind_some, y2, Option.bind_some, e2, Option.bind_some, ofNat_succ, k_outerRule_14, if_neg (by decide)]
    congr 2
    exact nb01 (or01 g2 (or01 g1 (Or.inl rfl)))
  have a1 : k_outerRule (Int32.ofNat 1) (Int32.ofNat i) (Int32.ofNat j) s2 = some (if f3 = 0 then 0 else 1, s3) := by
    unfold k_outerRule
    rw [ix_ofNat _ (by omega), (h2.2.2.2.1 1 (by omega)).2.2, Option.bind_some, l1, show BIG = 999998 + 1 + 1 from rfl, k_outerRule_14, if_pos (by decide), show (0 : Int32) = Int32.ofNat 0 from rfl, b3, Option.bind_some, y3, Option.bind_some, e3, Option.bind_some, ofNat_succ, k_outerRule_14, if_neg (by decide)]
    congr 2
    exact nb01 (or01 g3 (Or.inl rfl))
  refine ⟨if (if f3 = 0 then (0 : Int32) else 1) = 0 then (if (if f2 = 0 then (if f1 = 0 then (0 : Int32) else 1) else 1) = 0 then 0 else 1) else 1, s3, ?_, (F1.trans F2).trans F3, ?_, fun e => ?_⟩
  · unfold k_outerRound
    rw [show BIG = 999997 + 1 + 1 + 1 from rfl, k_outerRound_5, h.1.2.2, if_pos (show (0 : Int32) < 2 by decide), show k_outerRule 0 (Int32.ofNat i) (Int32.ofNat j) s = _ from a0, Option.bind_some]
    dsimp only
    rw [k_outerRound_5, h2.1.2.2, show (0 : Int32) + 1 = 1 from rfl, if_pos (show (1 : Int32) < 2 by decide), show k_outerRule 1 (Int32.ofNat i) (Int32.ofNat j) s2 = _ from a1, Option.bind_some]
    dsimp only
    rw [k_outerRound_5, h3.1.2.2, show (1 : Int32) + 1 = 2 from rfl, if_neg (show ¬ (2 : Int32) < 2 by decide)]
    congr 2
    exact nb01 (or01 (or01 g3 (Or.inl rfl)) (or01 (or01 g2 (or01 g1 (Or.inl rfl))) (Or.inl rfl)))
  · refine U3.congr fun c' i' j' _ _ _ => ?_
    by_cases w : i' = i ∧ j' = j
    · obtain ⟨rfl, rfl⟩ := w
      have q0 := hy 0 0
      have q1 := hy 0 1
      have q2 := hy 1 0
      rw [up3_omin, up3_omin, up3_omin]
      by_cases c8 : c' < 8
      · have rhs : (if c' < 8 ∧ i' = i' ∧ j' = j' then OUx lab ew sy rw c' i' j' else U c' i' j') = OUx lab ew sy rw c' i' j' := if_pos ⟨c8, rfl, rfl⟩
        rw [rhs]
        have cc := cu c' c8
        have key : ∀ X : Option Nat, (X = none ∨ X = OUx lab ew sy rw c' i' j') → omin (omin (omin X (if sy 0 0 = c' then ctx lab ew sy rw 0 0 i' j' else none)) (if sy 0 1 = c' then ctx lab ew sy rw 0 1 i' j' else none)) (if sy 1 0 = c' then ctx lab ew sy rw 1 0 i' j' else none) = OUx lab ew sy rw c' i' j' := fun X hX => by
          rcases hX with e | e
          · rw [e]; rfl
          · obtain ⟨k1, k2, k3⟩ := abs3 (if sy 0 0 = c' then ctx lab ew sy rw 0 0 i' j' else none) (if sy 0 1 = c' then ctx lab ew sy rw 0 1 i' j' else none) (if sy 1 0 = c' then ctx lab ew sy rw 1 0 i' j' else none)
            rw [e]
            unfold OUx
            rw [k1, k2, k3]
        exact key (U c' i' j') (by rw [cc]; cases fr; exact Or.inr rfl; exact Or.inl rfl)
      · rw [if_neg (show ¬ sy 0 0 = c' by omega), if_neg (show ¬ sy 0 1 = c' by omega), if_neg (show ¬ sy 1 0 = c' by omega), omin_none, omin_none, omin_none, if_neg (fun z => c8 z.1)]
    · unfold up3
      rw [if_neg (fun z => w z.2), if_neg (fun z => w z.2), if_neg (fun z => w z.2), if_neg (fun z => w z.2)]
  · obtain ⟨k1, _, _⟩ := abs3 (if sy 0 0 = sy 0 0 then ctx lab ew sy rw 0 0 i j else none) (if sy 0 1 = sy 0 0 then ctx lab ew sy rw 0 1 i j else none) (if sy 1 0 = sy 0 0 then ctx lab ew sy rw 1 0 i j else none)
    obtain ⟨_, k2, _⟩ := abs3 (if sy 0 0 = sy 0 1 then ctx lab ew sy rw 0 0 i j else none) (if sy 0 1 = sy 0 1 then ctx lab ew sy rw 0 1 i j else none) (if sy 1 0 = sy 0 1 then ctx lab ew sy rw 1 0 i j else none)
    obtain ⟨_, _, k3⟩ := abs3 (if sy 0 0 = sy 1 0 then ctx lab ew sy rw 0 0 i j else none) (if sy 0 1 = sy 1 0 then ctx lab ew sy rw 0 1 i j else none) (if sy 1 0 = sy 1 0 then ctx lab ew sy rw 1 0 i j else none)
    rw [if_pos rfl] at k1 k2 k3
    have c0 : ∀ c, c < 8 → U c i j = OUx lab ew sy rw c i j := fun c hc => by rw [cu c hc, e]; rfl
    have m1 : omin (U (sy 0 0) i j) (ctx lab ew sy rw 0 0 i j) = U (sy 0 0) i j := by rw [c0 _ (hy 0 0)]; unfold OUx; rw [if_pos rfl]; exact k1
    rw [up3_same m1] at z2 z3
    have m2 : omin (U (sy 0 1) i j) (ctx lab ew sy rw 0 1 i j) = U (sy 0 1) i j := by rw [c0 _ (hy 0 1)]; unfold OUx; rw [if_pos (rfl : sy 0 1 = sy 0 1)]; exact k2
    rw [up3_same m2] at z3
    have m3 : omin (U (sy 1 0) i j) (ctx lab ew sy rw 1 0 i j) = U (sy 1 0) i j := by rw [c0 _ (hy 1 0)]; unfold OUx; rw [if_pos (rfl : sy 1 0 = sy 1 0)]; exact k3
    rw [z1 m1, z2 m2, z3 m3]; rfl
def Uo (lab ew : Nat → Nat) (sy : Nat → Nat → Nat) (rw : Nat → Nat) (D : Nat → Nat → Bool) (c i j : Nat) : Option Nat := if c < 8 then (if D i j = true then OUx lab ew sy rw c i j else none) else if c = 8 then O8 i j else none
def De (w i : Nat) : Nat → Nat → Bool := fun i' j' => decide (i' ≤ j' ∧ (w < j' - i' ∨ (j' - i' = w ∧ i' < i)))
theorem oclose_ok {lab : Nat → Nat} {ew : Nat → Nat} {sy : Nat → Nat → Nat} {rw : Nat → Nat} (he : ∀ e, ew e ≤ 63) (hy : ∀ r d, sy r d < 8) (hw : ∀ r, rw r ≤ 63) {s : S} (h : Sto lab ew sy rw s) {D : Nat → Nat → Bool} (R11 : SPt s 11 (Uo lab ew sy rw D)) (R9 : ITt s 9 (Vd lab ew sy rw (Dd 3 4))) (R10 : ITt s 10 (Vx lab ew sy)) {i j : Nat} (hij : i ≤ j) (hj : j < 3) (nd : D i j = false) : ∃ s', k_closeOuterCell (Int32.ofNat i) (Int32.ofNat j) s = some s' ∧ Fx [] [] [11] [] s s' ∧ SPt s' 11 (Uo lab ew sy rw (dn D i j)) := by
  have toFx : ∀ {a b : S}, Fx [] [] [11] [] a b → Fx [4, 5] [] [8, 9, 10, 11] [] a b := fun F => F.mono (by simp) (by simp) (by simp) (by simp)
  have d1 : dn D i j i j = true := by unfold dn; simp
  have u8 : ∀ (E : Nat → Nat → Bool) (i j : Nat), i < 3 → j < 3 → Uo lab ew sy rw E 8 i j = O8 i j := fun E i j _ _ => by unfold Uo; rw [if_neg (by decide), if_pos rfl]
  obtain ⟨f1, s1, e1, F1, U1, _⟩ := oround_ok he hy hw h R11 (u8 D) R9 R10 hij hj true (fun c hc => by unfold Uo; rw [if_pos hc, nd]; rfl)
  have U1' : SPt s1 11 (Uo lab ew sy rw (dn D i j)) := U1.congr fun c' i' j' _ _ _ => by
    by_cases w : c' < 8 ∧ i' = i ∧ j' = j
    · obtain ⟨c8, rfl, rfl⟩ := w
      rw [if_pos ⟨c8, rfl, rfl⟩]
      unfold Uo
      rw [if_pos c8, if_pos d1]
    · rw [if_neg w]
      unfold Uo
      by_cases c8 : c' < 8
      · rw [if_pos c8, if_pos c8, show dn D i j i' j' = D i' j' by unfold dn; rw [decide_eq_false (fun z => w ⟨c8, z⟩), Bool.or_false]]
      · rw [if_neg c8, if_neg c8]
  unfold k_closeOuterCell
  rw [show BIG = 999997 + 1 + 1 + 1 from rfl, k_closeOuterCell_5, if_neg (by decide), if_pos (by decide), e1, Option.bind_some]
  dsimp only
  rw [k_closeOuterCell_5]
  by_cases z : f1 = 0
  · rw [if_pos z]
    exact ⟨s1, rfl, F1, U1'⟩
  · have h1 := h.fx (toFx F1)
    obtain ⟨f2, s2, e2, F2, U2, g2⟩ := oround_ok he hy hw h1 U1' (u8 _) (R9.fx (F1.2.2.1 9 (by simp))) (R10.fx (F1.2.2.1 10 (by simp))) hij hj false (fun c hc => by unfold Uo; rw [if_pos hc, if_pos d1]; rfl)
    rw [if_neg z, if_pos (by decide), e2, Option.bind_some]
    dsimp only
    rw [k_closeOuterCell_5, if_pos (g2 rfl)]
    refine ⟨s2, rfl, F1.trans F2, U2.congr fun c' i' j' _ _ _ => ?_⟩
    by_cases w : c' < 8 ∧ i' = i ∧ j' = j
    · obtain ⟨c8, rfl, rfl⟩ := w
      rw [if_pos ⟨c8, rfl, rfl⟩]
      unfold Uo
      rw [if_pos c8, if_pos d1]
    · rw [if_neg w]
theorem orow_ok {lab : Nat → Nat} {ew : Nat → Nat} {sy : Nat → Nat → Nat} {rw : Nat → Nat} (he : ∀ e, ew e ≤ 63) (hy : ∀ r d, sy r d < 8) (hw : ∀ r, rw r ≤ 63) (K : Int32 → Int32 → S → Option S) {w : Nat} (hw2 : w ≤ 2) : ∀ e i N s, i + e = 3 - w → e < N → Sto lab ew sy rw s → SPt s 11 (Uo lab ew sy rw (De w i)) → ITt s 9 (Vd lab ew sy rw (Dd 3 4)) → ITt s 10 (Vx lab ew sy) → ∃ s', k_runOuter_25 K N (Int32.ofNat 2) (Int32.ofNat w) (Int32.ofNat i) s = K (Int32.ofNat 2) (Int32.ofNat w + (-1)) s' ∧ Fx [] [] [11] [] s s' ∧ SPt s' 11 (Uo lab ew sy rw (De w (3 - w))) := by
  intro e
  induction e with
  | zero =>
    intro i N s hi hN h R11 R9 R10
    obtain ⟨N, rfl⟩ : ∃ n, N = n + 1 := ⟨N - 1, by omega⟩
    have : i = 3 - w := by omega
    subst this
    exact ⟨s, by rw [k_runOuter_25, ofNat_add', if_pos (by rw [ofNat_lt (by omega) (by omega)]; omega)], Fx.refl .., R11⟩
  | succ e ih =>
    intro i N s hi hN h R11 R9 R10
    obtain ⟨N, rfl⟩ : ∃ n, N = n + 1 := ⟨N - 1, by omega⟩
    obtain ⟨s1, e1, F1, U1⟩ := oclose_ok he hy hw h R11 R9 R10 (i := i) (j := i + w) (by omega) (by omega) (by unfold De; exact decide_eq_false (by omega))
    have dd : dn (De w i) i (i + w) = De w (i + 1) := by
      funext i' j'
      unfold dn De
      by_cases a : i' = i ∧ j' = i + w
      · rw [decide_eq_true a, Bool.or_true, decide_eq_true (by omega)]
      · rw [decide_eq_false a, Bool.or_false]
        exact decide_eq_decide.mpr (by omega)
    rw [dd] at U1
    obtain ⟨s', e', F', R'⟩ := ih (i + 1) N s1 (by omega) (by omega) (h.fx (F1.mono (by simp) (by simp) (by simp) (by simp))) U1 (R9.fx (F1.2.2.1 9 (by simp))) (R10.fx (F1.2.2.1 10 (by simp)))
    refine ⟨s', ?_, F1.trans F', R'⟩
    rw [k_runOuter_25, ofNat_add', if_neg (by rw [ofNat_lt (by omega) (by omega)]; omega), e1, Option.bind_some, ofNat_succ]
    exact e'
theorem owidth_ok {lab : Nat → Nat} {ew : Nat → Nat} {sy : Nat → Nat → Nat} {rw : Nat → Nat} (he : ∀ e, ew e ≤ 63) (hy : ∀ r d, sy r d < 8) (hw : ∀ r, rw r ≤ 63) : ∀ w N s, w ≤ 2 → w + 1 < N → Sto lab ew sy rw s → SPt s 11 (Uo lab ew sy rw (De w 0)) → ITt s 9 (Vd lab ew sy rw (Dd 3 4)) → ITt s 10 (Vx lab ew sy) → ∃ s', k_runOuter_19 N (Int32.ofNat 2) (Int32.ofNat w) s = some s' ∧ Fx [] [] [11] [] s s' ∧ SPt s' 11 (Uo lab ew sy rw (De 0 3)) := by
  intro w
  induction w with
  | zero =>
    intro N s hw2 hN h R11 R9 R10
    obtain ⟨N, rfl⟩ : ∃ n, N = n + 1 := ⟨N - 1, by omega⟩
    obtain ⟨N, rfl⟩ : ∃ n, N = n + 1 := ⟨N - 1, by omega⟩
    obtain ⟨s1, e1, F1, U1⟩ := orow_ok he hy hw (fun v1 v2 s => k_runOuter_19 (N + 1) v1 v2 s) (w := 0) (by omega) 3 0 BIG s (by omega) (by unfold BIG; omega) h R11 R9 R10
    refine ⟨s1, ?_, F1, U1⟩
    rw [k_runOuter_19, if_neg (ofNat_nonneg (by omega)), show k_runOuter_25 (fun v1 v2 s => k_runOuter_19 (N + 1) v1 v2 s) BIG (Int32.ofNat 2) (Int32.ofNat 0) 0 s = _ from e1, k_runOuter_19, if_pos (by decide)]
  | succ w ih =>
    intro N s hw2 hN h R11 R9 R10
    obtain ⟨N, rfl⟩ : ∃ n, N = n + 1 := ⟨N - 1, by omega⟩
    obtain ⟨s1, e1, F1, U1⟩ := orow_ok he hy hw (fun v1 v2 s => k_runOuter_19 N v1 v2 s) (w := w + 1) (by omega) (3 - (w + 1)) 0 BIG s (by omega) (by unfold BIG; omega) h R11 R9 R10
    have U1' : SPt s1 11 (Uo lab ew sy rw (De w 0)) := U1.congr fun c i j _ hi hj => by
      unfold Uo
      rw [show De (w + 1) (3 - (w + 1)) i j = De w 0 i j by unfold De; exact decide_eq_decide.mpr (by omega)]
    obtain ⟨s', e', F', R'⟩ := ih N s1 (by omega) (by omega) (h.fx (F1.mono (by simp) (by simp) (by simp) (by simp))) U1' (R9.fx (F1.2.2.1 9 (by simp))) (R10.fx (F1.2.2.1 10 (by simp)))
    refine ⟨s', ?_, F1.trans F', R'⟩
    rw [k_runOuter_19, if_neg (ofNat_nonneg (by omega)), show k_runOuter_25 (fun v1 v2 s => k_runOuter_19 N v1 v2 s) BIG (Int32.ofNat 2) (Int32.ofNat (w + 1)) 0 s = _ from e1, decN]
    exact e'
theorem outer_ok {lab : Nat → Nat} {ew : Nat → Nat} {sy : Nat → Nat → Nat} {rw : Nat → Nat} (he : ∀ e, ew e ≤ 63) (hy : ∀ r d, sy r d < 8) (hw : ∀ r, rw r ≤ 63) {s : S} (h : Sto lab ew sy rw s) (R11 : SPt s 11 (fun _ _ _ => none)) (R9 : ITt s 9 (Vd lab ew sy rw (Dd 3 4))) (R10 : ITt s 10 (Vx lab ew sy)) : ∃ s', k_runOuter s = some s' ∧ Fx [] [] [11] [] s s' ∧ SPt s' 11 (Uo lab ew sy rw (De 0 3)) := by
  obtain ⟨fl, s1, e1, F1, U1, _, _⟩ := lowerOuter_ok h.1 R11 (c := 8) (i := 0) (j := 2) (by omega) (by omega) (by omega) (v := some 0) (fun n e => by cases e; omega)
  have U1' : SPt s1 11 (Uo lab ew sy rw (De 2 0)) := U1.congr fun c i j _ hi hj => by
    unfold up3 Uo O8
    rw [show De 2 0 i j = false by unfold De; exact decide_eq_false (by omega)]
    by_cases c8 : c < 8
    · rw [if_neg (fun z => by omega), if_pos c8, if_neg (by decide)]
    · rw [if_neg c8]
      by_cases w : c = 8 ∧ i = 0 ∧ j = 2
      · rw [if_pos w, if_pos w.1, if_pos w.2]; rfl
      · rw [if_neg w]
        by_cases z : c = 8
        · rw [if_pos z, if_neg (fun y => w ⟨z, y⟩)]
        · rw [if_neg z]
  obtain ⟨s2, e2, F2, U2⟩ := owidth_ok he hy hw 2 BIG s1 (by omega) (by unfold BIG; omega) (h.fx (F1.mono (by simp) (by simp) (by simp) (by simp))) U1' (R9.fx (F1.2.2.1 9 (by simp))) (R10.fx (F1.2.2.1 10 (by simp)))
  refine ⟨s2, ?_, F1.trans F2, U2⟩
  unfold k_runOuter
  rw [h.1.2.1, show k_lowerOuter (8 : Int32) (0 : Int32) ((3 : Int32) - 1) (0 : Int32) s = _ from e1, Option.bind_some]
  exact e2
/-- all tables cleared -/
theorem clear_ok {s : S} (g0 : gI s 0 = 1073741824) (l8 : (gA s 8).length = 1024) (l9 : (gA s 9).length = 3072) (l10 : (gA s 10).length = 3072) (l11 : (gA s 11).length = 1024) : ∃ s', k_clearTables s = some s' ∧ Fx [] [] [8, 9, 10, 11] [] s s' ∧ SPt s' 8 (fun _ _ _ => none) ∧ ITt s' 9 (fun _ _ _ _ => none) ∧ ITt s' 10 (fun _ _ _ _ => none) ∧ SPt s' 11 (fun _ _ _ => none) := by
  have A : ∀ d k N (s : S), k + d = 1024 → d < N → gI s 0 = 1073741824 → (gA s 8).length = 1024 → (gA s 11).length = 1024 → Upto (gA s 8) k 1073741824 → Upto (gA s 11) k 1073741824 → ∃ s', k_clearTables_2 N (Int32.ofNat k) s = k_clearTables_35 s' ∧ Fx [] [] [8, 11] [] s s' ∧ gA s' 8 = rep 1024 1073741824 ∧ gA s' 11 = rep 1024 1073741824 := by
    intro d
    induction d with
    | zero =>
      intro k N s hk hN g0 l8 l11 u8 u11
      obtain ⟨N, rfl⟩ : ∃ n, N = n + 1 := ⟨N - 1, by omega⟩
      have : k = 1024 := by omega
      subst this
      exact ⟨s, by rw [k_clearTables_2, if_neg (by decide)], Fx.refl .., u8.all l8, u11.all l11⟩
    | succ d ih =>
      intro k N s hk hN g0 l8 l11 u8 u11
      obtain ⟨N, rfl⟩ : ∃ n, N = n + 1 := ⟨N - 1, by omega⟩
      obtain ⟨s', e, F, r⟩ := ih (k + 1) N (sA (sA s 8 ((gA s 8).set k 1073741824)) 11 ((gA s 11).set k 1073741824)) (by omega) (by omega) (by simp only [gI_sA]; exact g0) (by simp [gA_sA, l8]) (by simp [gA_sA, l11]) (by simp only [gA_sA]; exact u8.set (by omega)) (by simp only [gA_sA]; exact u11.set (by omega))
      refine ⟨s', ?_, (((Fx.refl ..).sA (by simp)).sA (by simp)).trans F, r⟩
      rw [k_clearTables_2, if_pos ((lt_lit (m := 1024) (by omega) (by decide)).mpr (by omega)), g0, st_ofNat _ _ (by omega) (by omega), Option.bind_some, st_ofNat _ _ (by omega) (by omega), Option.bind_some, ofNat_succ]
      exact e
  have B : ∀ d k N (s : S), k + d = 3072 → d < N → gI s 0 = 1073741824 → (gA s 9).length = 3072 → (gA s 10).length = 3072 → Upto (gA s 9) k 1073741824 → Upto (gA s 10) k 1073741824 → ∃ s', k_clearTables_37 N (Int32.ofNat k) s = some s' ∧ Fx [] [] [9, 10] [] s s' ∧ gA s' 9 = rep 3072 1073741824 ∧ gA s' 10 = rep 3072 1073741824 := by
    intro d
    induction d with
    | zero =>
      intro k N s hk hN g0 l8 l11 u8 u11
      obtain ⟨N, rfl⟩ : ∃ n, N = n + 1 := ⟨N - 1, by omega⟩
      have : k = 3072 := by omega
      subst this
      exact ⟨s, by rw [k_clearTables_37, if_neg (by decide)], Fx.refl .., u8.all l8, u11.all l11⟩
    | succ d ih =>
      intro k N s hk hN g0 l8 l11 u8 u11
      obtain ⟨N, rfl⟩ : ∃ n, N = n + 1 := ⟨N - 1, by omega⟩
      obtain ⟨s', e, F, r⟩ := ih (k + 1) N (sA (sA s 9 ((gA s 9).set k 1073741824)) 10 ((gA s 10).set k 1073741824)) (by omega) (by omega) (by simp only [gI_sA]; exact g0) (by simp [gA_sA, l8]) (by simp [gA_sA, l11]) (by simp only [gA_sA]; exact u8.set (by omega)) (by simp only [gA_sA]; exact u11.set (by omega))
      refine ⟨s', ?_, (((Fx.refl ..).sA (by simp)).sA (by simp)).trans F, r⟩
      rw [k_clearTables_37, if_pos ((lt_lit (m := 3072) (by omega) (by decide)).mpr (by omega)), g0, st_ofNat _ _ (by omega) (by omega), Option.bind_some, st_ofNat _ _ (by omega) (by omega), Option.bind_some, ofNat_succ]
      exact e
  obtain ⟨t, e1, F1, a8, a11⟩ := A 1024 0 BIG s (by omega) (by unfold BIG; omega) g0 l8 l11 (Upto.zero _ _) (Upto.zero _ _)
  obtain ⟨u, e2, F2, a9, a10⟩ := B 3072 0 BIG t (by omega) (by unfold BIG; omega) (by rw [F1.1 0 (by simp)]; exact g0) (by rw [F1.2.2.1 9 (by simp)]; exact l9) (by rw [F1.2.2.1 10 (by simp)]; exact l10) (Upto.zero _ _) (Upto.zero _ _)
  have sp : ∀ f, gA u f = rep 1024 1073741824 → SPt u f (fun _ _ _ => none) := fun f e => ⟨by rw [e]; exact rep_length .., fun c i j _ _ _ => ⟨Bd.none, by rw [e]; unfold rep ss; rw [List.getElem?_replicate, if_pos (by omega)]; rfl⟩⟩
  have it : ∀ f, gA u f = rep 3072 1073741824 → ITt u f (fun _ _ _ _ => none) := fun f e => ⟨by rw [e]; exact rep_length .., fun r d i j _ _ _ _ => ⟨Bd.none, by rw [e]; unfold rep si; rw [List.getElem?_replicate, if_pos (by omega)]; rfl⟩⟩
  refine ⟨u, ?_, (F1.mono (by simp) (by simp) (by simp) (by simp)).trans (F2.mono (by simp) (by simp) (by simp) (by simp)), sp 8 (by rw [F2.2.2.1 8 (by simp)]; exact a8), it 9 a9, it 10 a10, sp 11 (by rw [F2.2.2.1 11 (by simp)]; exact a11)⟩
  unfold k_clearTables
  rw [show (0 : Int32) = Int32.ofNat 0 from rfl, e1]
  unfold k_clearTables_35
  exact e2
def av : Option Nat → Int32
  | none => -1
  | some n => Int32.ofNat n
theorem answer_ok {s : S} (g0 : gI s 0 = 1073741824) {o : Option Nat} (h : Bd 1000000 o) : k_answer (wc o) s = av o := by
  unfold k_answer
  rw [g0]
  cases o with
  | none => rw [if_neg (show ¬ wc none < 1073741824 by decide)]; rfl
  | some n =>
    have := h n rfl
    rw [if_pos (show wc (some n) < 1073741824 from (lt_lit (m := 1073741824) (by omega) (by decide)).mpr (by omega)), if_neg (show ¬ wc (some n) < 0 from ofNat_nonneg (by omega))]; rfl
theorem spanW_ok {s : S} (G : Gt s) {U : Nat → Nat → Nat → Option Nat} (R8 : SPt s 8 U) (g4 : ¬ gI s 4 = 0) {c i j : Nat} (hc : c < 16) (hij : i ≤ j) (hj : j < 3) : k_spanWeight (Int32.ofNat c) (Int32.ofNat i) (Int32.ofNat j) s = some (av (U c i j)) := by
  have nd : ∀ u, u < 3 → k_isNode (Int32.ofNat u) s = 1 := fun u hu => by
    unfold k_isNode
    rw [if_neg (ofNat_nonneg (by omega)), G.2.1, if_pos ((lt_lit (m := 3) (by omega) (by decide)).mpr hu)]
  have cd : k_isCode (Int32.ofNat c) = 1 := by
    unfold k_isCode
    rw [if_neg (ofNat_nonneg (by omega)), if_pos ((lt_lit (m := 16) (by omega) (by decide)).mpr hc)]
  unfold k_spanWeight
  rw [if_neg g4, cd, if_neg (by decide), nd i (by omega), if_neg (by decide), nd j hj, if_neg (by decide), if_neg (by rw [ofNat_lt (by omega) (by omega)]; omega), getSpan_ok G R8 hc (by omega) hj, Option.bind_some, answer_ok G.1 ((R8.2 c i j hc (by omega) hj).1.mono (by omega))]
theorem parse_ok {lab : Nat → Nat} {ew : Nat → Nat} {sy : Nat → Nat → Nat} {rw : Nat → Nat} (hl : ∀ e, lab e < 8) (he : ∀ e, ew e ≤ 63) (hy : ∀ r d, sy r d < 8) (hw : ∀ r, rw r ≤ 63) {s : S} (h : Sto lab ew sy rw s) (l8 : (gA s 8).length = 1024) (l9 : (gA s 9).length = 3072) (l10 : (gA s 10).length = 3072) (l11 : (gA s 11).length = 1024) : ∃ b s', k_parse s = some (b, s') ∧ Sto lab ew sy rw s' ∧ SPt s' 8 (Ud lab ew sy rw (Dd 3 4)) ∧ ((∃ w, SPs lab ew sy rw 0 2 = some w ∧ b = 1 ∧ gI s' 4 = 1 ∧ gI s' 5 = Int32.ofNat w ∧ ITt s' 9 (Vd lab ew sy rw (Dd 3 4)) ∧ SPt s' 11 (Uo lab ew sy rw (De 0 3))) ∨ (SPs lab ew sy rw 0 2 = none ∧ b = 0 ∧ gI s' 4 = 2 ∧ gI s' 5 = -1)) := by
  obtain ⟨s1, e1, F1, C8, C9, C10, C11⟩ := clear_ok h.1.1 l8 l9 l10 l11
  have h1 := h.fx (F1.mono (by simp) (by simp) (by simp) (by simp))
  obtain ⟨s2, e2, F2, U8, V9⟩ := inside_ok hl he hy hw h1 C8 C9
  have h2 := h1.fx (F2.mono (by simp) (by simp) (by simp) (by simp))
  have top : Ud lab ew sy rw (Dd 3 4) 8 0 2 = SPs lab ew sy rw 0 2 := by
    unfold Ud; rw [if_neg (by decide), if_pos ⟨rfl, by decide⟩]
  have gs : k_getSpan (8 : Int32) (0 : Int32) ((gI s2 1) - (1 : Int32)) s2 = some (wc (SPs lab ew sy rw 0 2)) := by
    rw [h2.1.2.1]
    have := getSpan_ok h2.1 U8 (c := 8) (i := 0) (j := 2) (by omega) (by omega) (by omega)
    rw [top] at this
    exact this
  have b8 := (U8.2 8 0 2 (by omega) (by omega) (by omega)).1
  rw [top] at b8
  unfold k_parse
  rw [e1, Option.bind_some, e2, Option.bind_some, gs, Option.bind_some, h2.1.1]
  cases eq : SPs lab ew sy rw 0 2 with
  | none =>
    rw [if_neg (show ¬ wc none < 1073741824 by decide)]
    unfold k_parse_63
    refine ⟨0, sI (sI s2 4 2) 5 (-1), ?_, h2.fx (((Fx.refl ..).sI (by simp)).sI (by simp)), U8.fx (by simp only [gA_sI]), Or.inr ⟨rfl, rfl, by simp [gI_sI], by simp [gI_sI]⟩⟩
    rw [if_neg (by simp [gI_sI])]
  | some w =>
    have bw := b8 w eq
    rw [if_pos (show wc (some w) < 1073741824 from (lt_lit (m := 1073741824) (by omega) (by decide)).mpr (by omega))]
    have F3 : Fx [4, 5] [] [8, 9, 10, 11] [] s2 (sI (sI s2 4 1) 5 (wc (some w))) := ((Fx.refl ..).sI (by simp)).sI (by simp)
    have h3 := h2.fx F3
    obtain ⟨s4, e4, F4, V10⟩ := rest_ok he hy h3 (D := Dd 3 4) (U8.fx (by simp only [gA_sI])) (C10.fx (by simp only [gA_sI]; exact F2.2.2.1 10 (by simp)))
    have h4 := h3.fx (F4.mono (by simp) (by simp) (by simp) (by simp))
    obtain ⟨s5, e5, F5, U11⟩ := outer_ok he hy hw h4 (C11.fx (by rw [F4.2.2.1 11 (by simp)]; simp only [gA_sI]; exact F2.2.2.1 11 (by simp))) (V9.fx (by rw [F4.2.2.1 9 (by simp)]; simp only [gA_sI])) V10
    have h5 := h4.fx (F5.mono (by simp) (by simp) (by simp) (by simp))
    have g4 : gI s5 4 = 1 := by rw [F5.1 4 (by simp), F4.1 4 (by simp)]; simp [gI_sI]
    refine ⟨1, s5, ?_, h5, U8.fx (by rw [F5.2.2.1 8 (by simp), F4.2.2.1 8 (by simp)]; simp only [gA_sI]), Or.inl ⟨w, rfl, rfl, g4, by rw [F5.1 5 (by simp), F4.1 5 (by simp)]; simp [gI_sI]; rfl, V9.fx (by rw [F5.2.2.1 9 (by simp), F4.2.2.1 9 (by simp)]; simp only [gA_sI]), U11⟩⟩
    rw [e4, Option.bind_some, e5, Option.bind_some]
    unfold k_parse_63
    rw [if_pos g4]
theorem OUx_bd {lab : Nat → Nat} {ew : Nat → Nat} {sy : Nat → Nat → Nat} {rw : Nat → Nat} (hl : ∀ e, lab e < 8) (he : ∀ e, ew e ≤ 63) (hy : ∀ r d, sy r d < 8) (hw : ∀ r, rw r ≤ 63) (c i j : Nat) : Bd 400 (OUx lab ew sy rw c i j) := by
  have k : ∀ (p : Prop) [Decidable p] (r d : Nat), d < 3 → Bd 400 (if p then ctx lab ew sy rw r d i j else none) := fun p _ r d hd => by
    split
    · exact ctx_bd he hw hd i j
    · exact Bd.none
  exact ((k _ 0 0 (by omega)).omin (k _ 0 1 (by omega))).omin (k _ 1 0 (by omega))
theorem edgeB_ok {lab : Nat → Nat} {ew : Nat → Nat} {sy : Nat → Nat → Nat} {rw : Nat → Nat} (hl : ∀ e, lab e < 8) (he : ∀ e, ew e ≤ 63) (hy : ∀ r d, sy r d < 8) (hw : ∀ r, rw r ≤ 63) {s : S} (h : Sto lab ew sy rw s) (g4 : gI s 4 = 1) (U11 : SPt s 11 (Uo lab ew sy rw (De 0 3))) {e : Nat} (h3 : e < 3) : k_edgeBest (Int32.ofNat e) s = some (av (oadd (OUx lab ew sy rw (lab e) (efr e) (eto e)) (some (ew e)))) := by
  obtain ⟨a0, a1, a2, a3⟩ := h.2.2.1 e h3
  have f1 : efr e < 3 := by unfold efr; split <;> omega
  have t1 : eto e < 3 := by unfold eto; split <;> omega
  have ft : efr e ≤ eto e := by unfold efr eto; split <;> split <;> omega
  have uo : Uo lab ew sy rw (De 0 3) (lab e) (efr e) (eto e) = OUx lab ew sy rw (lab e) (efr e) (eto e) := by
    unfold Uo; rw [if_pos (hl e), if_pos (by unfold De; exact decide_eq_true (by omega))]
  have b1 := OUx_bd hl he hy hw (lab e) (efr e) (eto e)
  have b2 : Bd 63 (some (ew e)) := fun n z => by cases z; exact he e
  unfold k_edgeBest
  rw [if_pos g4, if_neg (ofNat_nonneg (by omega)), h.2.1, if_pos ((lt_lit (m := 3) (by omega) (by decide)).mpr h3), ix_ofNat _ (by omega), a2, Option.bind_some, ix_ofNat _ (by omega), a0, Option.bind_some, ix_ofNat _ (by omega), a1, Option.bind_some, getOuter_ok h.1 U11 (by have := hl e; omega) f1 t1, Option.bind_some, ix_ofNat _ (by omega), a3, Option.bind_some, uo, show Int32.ofNat (ew e) = wc (some (ew e)) from rfl, plus_wc h.1.1 (b1.mono (by omega)) (b2.mono (by omega)), answer_ok h.1.1 ((b1.oadd b2).mono (by omega))]
theorem ruleB_ok {lab : Nat → Nat} {ew : Nat → Nat} {sy : Nat → Nat → Nat} {rw : Nat → Nat} (hl : ∀ e, lab e < 8) (he : ∀ e, ew e ≤ 63) (hy : ∀ r d, sy r d < 8) (hw : ∀ r, rw r ≤ 63) {s : S} (h : Sto lab ew sy rw s) (g4 : gI s 4 = 1) (V9 : ITt s 9 (Vd lab ew sy rw (Dd 3 4))) (U11 : SPt s 11 (Uo lab ew sy rw (De 0 3))) {r : Nat} (hr : r < 2) : k_ruleBest (Int32.ofNat r) s = some (av (ITs lab ew sy rw r (ln r) 0 2)) := by
  have G := h.1
  have lp := ln_pos r
  have b0 := (ITs_bd (lab := lab) (sy := sy) he hw r (ln r) 0 2).mono (show 63 * (ln r + 1) ≤ 1000 by omega)
  have rl : k_isRule (Int32.ofNat r) s = 1 := by
    unfold k_isRule
    rw [if_neg (ofNat_nonneg (by omega)), G.2.2, if_pos ((lt_lit (m := 2) (by omega) (by decide)).mpr hr)]
  have term : ∀ i j, i ≤ j → j < 3 → k_getOuter (Int32.ofNat 8) (Int32.ofNat i) (Int32.ofNat j) s = some (wc (O8 i j)) ∧ k_getItem (Int32.ofNat r) (Int32.ofNat (ln r)) (Int32.ofNat i) (Int32.ofNat j) s = some (wc (ITs lab ew sy rw r (ln r) i j)) ∧ k_plus (wc (O8 i j)) (wc (ITs lab ew sy rw r (ln r) i j)) s = wc (if i = 0 ∧ j = 2 then ITs lab ew sy rw r (ln r) 0 2 else none) := fun i j hij hj => by
    refine ⟨?_, ?_, ?_⟩
    · rw [getOuter_ok G U11 (by omega) (by omega) hj]; unfold Uo; rw [if_neg (by decide), if_pos rfl]
    · rw [getItem_ok G V9 hr (by omega) (by omega) hj]; unfold Vd; rw [if_neg (by omega), if_pos ⟨by unfold Dd; exact decide_eq_true (by omega), Nat.le_refl _⟩]
    · have bo : Bd 1000000 (O8 i j) := fun n e => by unfold O8 at e; split at e <;> cases e; omega
      have bi := (ITs_bd (lab := lab) (sy := sy) he hw r (ln r) i j).mono (show 63 * (ln r + 1) ≤ 1000 by omega)
      rw [plus_wc G.1 bo (bi.mono (by omega))]
      unfold O8
      by_cases z : i = 0 ∧ j = 2
      · rw [if_pos z, if_pos z, oadd0, z.1, z.2]
      · rw [if_neg z, if_neg z, oaddn]
  have inner : ∀ (K : Int32 → Int32 → Int32 → Int32 → Int32 → S → Option Int32) (i : Nat), i < 3 → ∀ (acc : Option Nat), Bd 1000 acc → ∀ e j N, j + e = 3 → e < N → i ≤ j → k_ruleContext_35 K N (Int32.ofNat r) (Int32.ofNat 8) (Int32.ofNat (ln r)) (wc (if j = 3 ∧ i = 0 then omin acc (ITs lab ew sy rw r (ln r) 0 2) else acc)) (Int32.ofNat i) (Int32.ofNat j) s = K (Int32.ofNat r) (Int32.ofNat 8) (Int32.ofNat (ln r)) (wc (if i = 0 then omin acc (ITs lab ew sy rw r (ln r) 0 2) else acc)) (Int32.ofNat (i + 1)) s := by
    intro K i hi acc ba e
    induction e with
    | zero =>
      intro j N hj hN hij
      obtain ⟨N, rfl⟩ : ∃ n, N = n + 1 := ⟨N - 1, by omega⟩
      have : j = 3 := by omega
      subst this
      rw [k_ruleContext_35, G.2.1, if_neg (by decide), ofNat_succ]
      by_cases z : i = 0
      · rw [if_pos ⟨rfl, z⟩, if_pos z]
      · rw [if_neg (fun w => z w.2), if_neg z]
    | succ e ih =>
      intro j N hj hN hij
      obtain ⟨N, rfl⟩ : ∃ n, N = n + 1 := ⟨N - 1, by omega⟩
      obtain ⟨t1, t2, t3⟩ := term i j hij (by omega)
      have b2 : Bd 1000000 (if i = 0 ∧ j = 2 then ITs lab ew sy rw r (ln r) 0 2 else none) := by split; exact b0.mono (by omega); exact Bd.none
      rw [k_ruleContext_35, G.2.1, if_pos ((lt_lit (m := 3) (by omega) (by decide)).mpr (by omega)), t1, Option.bind_some, t2, Option.bind_some, t3, if_neg (show ¬ (j = 3 ∧ i = 0) by omega), min_step (ba.mono (by omega)) b2, ofNat_succ, ← ih (j + 1) N (by omega) (by omega) (by omega)]
      congr 2
      by_cases z : i = 0 ∧ j = 2
      · rw [if_pos z, if_pos ⟨by omega, z.1⟩]
      · rw [if_neg z, if_neg (by omega), omin_none]
  unfold k_ruleBest
  rw [if_pos g4, rl, if_neg (by decide)]
  have rc : k_ruleContext (Int32.ofNat r) s = some (wc (ITs lab ew sy rw r (ln r) 0 2)) := by
    unfold k_ruleContext
    rw [head_ok h hr, Option.bind_some, ix_ofNat _ (by omega), (h.2.2.2.1 r hr).2.2, Option.bind_some, G.1]
    have i0 := inner (fun v1 v2 v3 v4 v5 s => k_ruleContext_22 (999996 + 1 + 1 + 1) v1 v2 v3 v4 v5 s) 0 (by omega) none Bd.none 3 0 BIG (by omega) (by unfold BIG; omega) (by omega)
    have i1 := inner (fun v1 v2 v3 v4 v5 s => k_ruleContext_22 (999996 + 1 + 1) v1 v2 v3 v4 v5 s) 1 (by omega) (ITs lab ew sy rw r (ln r) 0 2) b0 2 1 BIG (by omega) (by unfold BIG; omega) (by omega)
    have i2 := inner (fun v1 v2 v3 v4 v5 s => k_ruleContext_22 (999996 + 1) v1 v2 v3 v4 v5 s) 2 (by omega) (ITs lab ew sy rw r (ln r) 0 2) b0 1 2 BIG (by omega) (by unfold BIG; omega) (by omega)
    rw [if_neg (by decide), if_pos rfl] at i0
    rw [if_neg (by decide), if_neg (by decide)] at i1 i2
    rw [show BIG = 999996 + 1 + 1 + 1 + 1 from rfl, k_ruleContext_22, G.2.1, if_pos (by decide)]
    rw [show k_ruleContext_35 (fun v1 v2 v3 v4 v5 s => k_ruleContext_22 (999996 + 1 + 1 + 1) v1 v2 v3 v4 v5 s) BIG (Int32.ofNat r) (Int32.ofNat 8) (Int32.ofNat (ln r)) 1073741824 0 0 s = _ from i0]
    show k_ruleContext_22 (999996 + 1 + 1 + 1) (Int32.ofNat r) (Int32.ofNat 8) (Int32.ofNat (ln r)) (wc (ITs lab ew sy rw r (ln r) 0 2)) (Int32.ofNat 1) s = _
    rw [k_ruleContext_22, G.2.1, if_pos (by decide), i1]
    show k_ruleContext_22 (999996 + 1 + 1) (Int32.ofNat r) (Int32.ofNat 8) (Int32.ofNat (ln r)) (wc (ITs lab ew sy rw r (ln r) 0 2)) (Int32.ofNat 2) s = _
    rw [k_ruleContext_22, G.2.1, if_pos (by decide), i2]
    show k_ruleContext_22 (999996 + 1) (Int32.ofNat r) (Int32.ofNat 8) (Int32.ofNat (ln r)) (wc (ITs lab ew sy rw r (ln r) 0 2)) (Int32.ofNat 3) s = _
    rw [k_ruleContext_22, G.2.1, if_neg (by decide)]
  rw [rc, Option.bind_some, answer_ok G.1 (b0.mono (by omega))]
/-- the lengths of the arrays -/
def own_len (s : S) : Prop := (gA s 0).length = 16 ∧ (gA s 1).length = 16 ∧ (gA s 2).length = 16 ∧ (gA s 3).length = 16 ∧ (gA s 4).length = 12 ∧ (gA s 5).length = 12 ∧ (gA s 6).length = 12 ∧ (gA s 7).length = 36 ∧ (gA s 8).length = 1024 ∧ (gA s 9).length = 3072 ∧ (gA s 10).length = 3072 ∧ (gA s 11).length = 1024
def own_J (t s : S) : Prop := Fx [] [] [0, 1, 2, 3, 4, 5, 6, 7, 8, 9, 10, 11] [] t s ∧ own_len s
theorem own_93 (t s : S) (h : own_J t s) : ∃ s', k_clearStore_91 s = some s' ∧ own_J t s' := by
  refine run_for k_clearStore_93 some 36 (fun _ s => own_J t s) ?_ ?_ BIG s (by decide) h
  · intro n k s hk ⟨F, l0, l1, l2, l3, l4, l5, l6, l7, l8, l9, l10, l11⟩
    refine ⟨sA s 7 ((gA s 7).set k 0), ?_, F.sA (by simp), ?_⟩
    · rw [k_clearStore_93, if_pos ((lt_lit (by omega)).mpr hk), st_ofNat _ _ (by omega) (by omega), ofNat_succ]; rfl
    · simp [own_len, gA_sA, *]
  · intro n s _
    rw [k_clearStore_93, if_neg (by decide)]
theorem own_58 (t s : S) (h : own_J t s) : ∃ s', k_clearStore_56 s = some s' ∧ own_J t s' := by
  obtain ⟨s', e, i⟩ := run_for k_clearStore_58 k_clearStore_91 12 (fun _ s => own_J t s) (by
    intro n k s hk ⟨F, l0, l1, l2, l3, l4, l5, l6, l7, l8, l9, l10, l11⟩
    refine ⟨sA (sA (sA s 4 ((gA s 4).set k 0)) 5 ((gA s 5).set k 0)) 6 ((gA s 6).set k 0), ?_, ((F.sA (by simp)).sA (by simp)).sA (by simp), ?_⟩
    · rw [k_clearStore_58, if_pos ((lt_lit (by omega)).mpr hk), st_ofNat _ _ (by omega) (by omega), Option.bind_some, st_ofNat _ _ (by omega) (by omega), Option.bind_some, st_ofNat _ _ (by omega) (by omega), Option.bind_some, ofNat_succ]
    · simp [own_len, gA_sA, *]) (fun n s _ => by rw [k_clearStore_58, if_neg (by decide)]) BIG s (by decide) h
  obtain ⟨s'', e', i'⟩ := own_93 t s' i
  exact ⟨s'', e.trans e', i'⟩
theorem own_16 (t s : S) (h : own_J t s) : ∃ s', k_clearStore_16 BIG 0 s = some s' ∧ own_J t s' := by
  obtain ⟨s', e, i⟩ := run_for k_clearStore_16 k_clearStore_56 16 (fun _ s => own_J t s) (by
    intro n k s hk ⟨F, l0, l1, l2, l3, l4, l5, l6, l7, l8, l9, l10, l11⟩
    refine ⟨sA (sA (sA (sA s 0 ((gA s 0).set k 0)) 1 ((gA s 1).set k 0)) 2 ((gA s 2).set k 0)) 3 ((gA s 3).set k 0), ?_, (((F.sA (by simp)).sA (by simp)).sA (by simp)).sA (by simp), ?_⟩
    · rw [k_clearStore_16, if_pos ((lt_lit (by omega)).mpr hk), st_ofNat _ _ (by omega) (by omega), Option.bind_some, st_ofNat _ _ (by omega) (by omega), Option.bind_some, st_ofNat _ _ (by omega) (by omega), Option.bind_some, st_ofNat _ _ (by omega) (by omega), Option.bind_some, ofNat_succ]
    · simp [own_len, gA_sA, *]) (fun n s _ => by rw [k_clearStore_16, if_neg (by decide)]) BIG s (by decide) h
  obtain ⟨s'', e', i'⟩ := own_58 t s' i
  exact ⟨s'', e.trans e', i'⟩
theorem own_37 (t s : S) (h : own_J t s) : ∃ s', k_clearTables_35 s = some s' ∧ own_J t s' := by
  refine run_for k_clearTables_37 some 3072 (fun _ s => own_J t s) ?_ ?_ BIG s (by decide) h
  · intro n k s hk ⟨F, l0, l1, l2, l3, l4, l5, l6, l7, l8, l9, l10, l11⟩
    refine ⟨sA (sA s 9 ((gA s 9).set k (gI s 0))) 10 ((gA s 10).set k (gI s 0)), ?_, (F.sA (by simp)).sA (by simp), ?_⟩
    · rw [k_clearTables_37, if_pos ((lt_lit (by omega)).mpr hk), st_ofNat _ _ (by omega) (by omega), Option.bind_some, st_ofNat _ _ (by omega) (by omega), Option.bind_some, ofNat_succ]
    · simp [own_len, gA_sA, *]
  · intro n s _
    rw [k_clearTables_37, if_neg (by decide)]
theorem own_2 (t s : S) (h : own_J t s) : ∃ s', k_clearTables s = some s' ∧ own_J t s' := by
  obtain ⟨s', e, i⟩ := run_for k_clearTables_2 k_clearTables_35 1024 (fun _ s => own_J t s) (by
    intro n k s hk ⟨F, l0, l1, l2, l3, l4, l5, l6, l7, l8, l9, l10, l11⟩
    refine ⟨sA (sA s 8 ((gA s 8).set k (gI s 0))) 11 ((gA s 11).set k (gI s 0)), ?_, (F.sA (by simp)).sA (by simp), ?_⟩
    · rw [k_clearTables_2, if_pos ((lt_lit (by omega)).mpr hk), st_ofNat _ _ (by omega) (by omega), Option.bind_some, st_ofNat _ _ (by omega) (by omega), Option.bind_some, ofNat_succ]
    · simp [own_len, gA_sA, *]) (fun n s _ => by rw [k_clearTables_2, if_neg (by decide)]) BIG s (by decide) h
  obtain ⟨s'', e', i'⟩ := own_37 t s' i
  exact ⟨s'', e.trans e', i'⟩

def Pre (lab ew : Nat → Nat) (sy : Nat → Nat → Nat) (rw : Nat → Nat) (k m : Nat) (s : S) : Prop := own_len s ∧ gI s 0 = 1073741824 ∧ gI s 1 = 3 ∧ gI s 2 = Int32.ofNat k ∧ gI s 3 = Int32.ofNat m ∧ (∀ e, e < k → (gA s 0)[e]? = some (Int32.ofNat (efr e)) ∧ (gA s 1)[e]? = some (Int32.ofNat (eto e)) ∧ (gA s 2)[e]? = some (Int32.ofNat (lab e)) ∧ (gA s 3)[e]? = some (Int32.ofNat (ew e))) ∧ (∀ r, r < m → (gA s 4)[r]? = some 0 ∧ (gA s 5)[r]? = some (Int32.ofNat (rw r)) ∧ (gA s 6)[r]? = some (Int32.ofNat (ln r))) ∧ (∀ r d, r < m → d < ln r → (gA s 7)[r * 3 + d]? = some (Int32.ofNat (sy r d)))
theorem set_get {l : List Int32} {k e : Nat} {x y : Int32} (h : e < k → l[e]? = some y) (hl : k < l.length) (he : e < k + 1) (hx : e = k → x = y) : (l.set k x)[e]? = some y := by
  by_cases w : e = k
  · subst w; rw [List.getElem?_set_self hl, hx rfl]
  · rw [List.getElem?_set_ne (by omega)]; exact h (by omega)
theorem inr_ok {v lo hi : Nat} (h1 : lo ≤ v) (h2 : v ≤ hi) (h3 : hi ≤ 1000) : k_inRange (Int32.ofNat v) (Int32.ofNat lo) (Int32.ofNat hi) = 1 := by
  unfold k_inRange
  rw [if_neg (by rw [ofNat_lt (by omega) (by omega)]; omega), if_neg (by rw [ofNat_lt (by omega) (by omega)]; omega)]
theorem addE {lab : Nat → Nat} {ew : Nat → Nat} {sy : Nat → Nat → Nat} {rw : Nat → Nat} (hl : ∀ e, lab e < 8) (he : ∀ e, ew e ≤ 63) {k : Nat} (hk : k < 3) {s : S} (h : Pre lab ew sy rw k 0 s) : ∃ s', k_addEdge (Int32.ofNat (efr k)) (Int32.ofNat (eto k)) (Int32.ofNat (lab k)) (Int32.ofNat (ew k)) s = some (Int32.ofNat k, s') ∧ Pre lab ew sy rw (k + 1) 0 s' := by
  obtain ⟨L, g0, g1, g2, g3, E, R, Y⟩ := h
  obtain ⟨l0, l1, l2, l3, l4, l5, l6, l7, l8, l9, l10, l11⟩ := id L
  have f2 : efr k ≤ 1 ∧ eto k ≤ 2 ∧ efr k < eto k := by unfold efr eto; split <;> split <;> omega
  have lk := hl k
  have wk := he k
  refine ⟨k_becomeBuilding (sI (sA (sA (sA (sA s 0 ((gA s 0).set k (Int32.ofNat (efr k)))) 1 ((gA s 1).set k (Int32.ofNat (eto k)))) 2 ((gA s 2).set k (Int32.ofNat (lab k)))) 3 ((gA s 3).set k (Int32.ofNat (ew k)))) 2 (Int32.ofNat (k + 1))), ?_, ?_⟩
  · have ok : k_edgeRefused (Int32.ofNat (efr k)) (Int32.ofNat (eto k)) (Int32.ofNat (lab k)) (Int32.ofNat (ew k)) s = 0 := by
      unfold k_edgeRefused
      rw [g2, g1, if_pos ((lt_lit (m := 16) (by omega) (by decide)).mpr (by omega)), if_neg (ofNat_nonneg (by omega)), if_neg (show ¬ (3 : Int32) - 1 < Int32.ofNat (eto k) by rw [show (3 : Int32) - 1 = Int32.ofNat 2 from rfl, ofNat_lt (by omega) (by omega)]; omega), if_pos (show Int32.ofNat (efr k) < Int32.ofNat (eto k) by rw [ofNat_lt (by omega) (by omega)]; omega), show k_inRange (Int32.ofNat (lab k)) 0 7 = 1 from inr_ok (lo := 0) (hi := 7) (by omega) (by omega) (by omega), if_neg (by decide), show k_inRange (Int32.ofNat (ew k)) 0 100 = 1 from inr_ok (lo := 0) (hi := 100) (by omega) (by omega) (by omega), if_neg (by decide)]
    unfold k_addEdge
    rw [ok, if_pos rfl, g2, st_ofNat _ _ (by omega) (by omega), Option.bind_some, st_ofNat _ _ (by omega) (by omega), Option.bind_some, st_ofNat _ _ (by omega) (by omega), Option.bind_some, st_ofNat _ _ (by omega) (by omega), Option.bind_some, ofNat_succ]
  · unfold k_becomeBuilding
    refine ⟨by simp [own_len, gA_sI, gA_sA, *], by simp [gI_sI, gI_sA, g0], by simp [gI_sI, gI_sA, g1], by simp [gI_sI, gI_sA], by simp [gI_sI, gI_sA, g3], fun e he' => ?_, fun r hr => by omega, fun r d hr => by omega⟩
    simp only [gA_sI, gA_sA]
    refine ⟨?_, ?_, ?_, ?_⟩
    · exact set_get (fun z => (E e z).1) (by omega) he' (fun z => by rw [z])
    · exact set_get (fun z => (E e z).2.1) (by omega) he' (fun z => by rw [z])
    · exact set_get (fun z => (E e z).2.2.1) (by omega) he' (fun z => by rw [z])
    · exact set_get (fun z => (E e z).2.2.2) (by omega) he' (fun z => by rw [z])
theorem addR {lab : Nat → Nat} {ew : Nat → Nat} {sy : Nat → Nat → Nat} {rw : Nat → Nat} (hy : ∀ r d, sy r d < 8) (hw : ∀ r, rw r ≤ 63) {m : Nat} (hm : m < 2) {s : S} (h : Pre lab ew sy rw 3 m s) {body : Nat} (hb : body < 256) (hb1 : m = 1 → body < 16) (b0 : ∀ d, d < ln m → (Int32.ofNat body >>> (((4 : Int32) * Int32.ofNat d) &&& 31)) &&& 15 = Int32.ofNat (sy m d)) : ∃ s', k_addRule 0 (Int32.ofNat (rw m)) (Int32.ofNat (ln m)) (Int32.ofNat body) s = some (Int32.ofNat m, s') ∧ Pre lab ew sy rw 3 (m + 1) s' := by
  obtain ⟨L, g0, g1, g2, g3, E, R, Y⟩ := h
  obtain ⟨l0, l1, l2, l3, l4, l5, l6, l7, l8, l9, l10, l11⟩ := id L
  have wm := hw m
  have lp := ln_pos m
  have lim : k_bodyLimit (Int32.ofNat (ln m)) = some (if ln m = 2 then 256 else 16) := by
    rcases (show ln m = 1 ∨ ln m = 2 by omega) with z | z
    · rw [z]; rfl
    · rw [z]; rfl
  have rr : k_ruleRefused 0 (Int32.ofNat (rw m)) (Int32.ofNat (ln m)) (Int32.ofNat body) s = some 0 := by
    unfold k_ruleRefused
    rw [g3, if_pos ((lt_lit (m := 12) (by omega) (by decide)).mpr (by omega)), if_neg (show ¬ k_inRange 0 0 7 = 0 by decide), show k_inRange (Int32.ofNat (rw m)) 0 100 = 1 from inr_ok (lo := 0) (hi := 100) (by omega) (by omega) (by omega), if_neg (by decide), show k_inRange (Int32.ofNat (ln m)) 0 3 = 1 from inr_ok (lo := 0) (hi := 3) (by omega) (by omega) (by omega), if_neg (by decide), if_neg (ofNat_nonneg (by omega)), lim, Option.bind_some]
    rw [if_pos]
    rcases (show m = 0 ∨ m = 1 by omega) with z | z
    · subst z
      rw [if_pos (show ln 0 = 2 from rfl)]
      exact (lt_lit (m := 256) (by omega) (by decide)).mpr hb
    · subst z
      rw [if_neg (show ¬ ln 1 = 2 by decide)]
      exact (lt_lit (m := 16) (by omega) (by decide)).mpr (hb1 rfl)
  obtain ⟨t, ht⟩ : ∃ t, t = sA (sA (sA s 4 ((gA s 4).set m 0)) 5 ((gA s 5).set m (Int32.ofNat (rw m)))) 6 ((gA s 6).set m (Int32.ofNat (ln m))) := ⟨_, rfl⟩
  have t7 : gA t 7 = gA s 7 := by rw [ht]; simp only [gA_sA]; rfl
  have st : ∃ x2, k_storeRule_36 BIG (Int32.ofNat m) (Int32.ofNat (ln m)) (Int32.ofNat body) 0 t = some (sA t 7 ((((gA s 7).set (m * 3 + 0) (Int32.ofNat (sy m 0))).set (m * 3 + 1) (if ln m = 2 then Int32.ofNat (sy m 1) else 0)).set (m * 3 + 2) x2)) := by
    refine ⟨0, ?_⟩
    have m3 : Int32.ofNat m * 3 = Int32.ofNat (m * 3) := (Int32.ofNat_mul m 3).symm
    have v0 : (if (0 : Int32) < Int32.ofNat (ln m) then (Int32.ofNat body >>> (((4 : Int32) * 0) &&& 31)) &&& 15 else 0) = Int32.ofNat (sy m 0) := by
      rw [if_pos (by rw [show (0 : Int32) = Int32.ofNat 0 from rfl, ofNat_lt (by omega) (by omega)]; omega)]
      exact b0 0 (by omega)
    have v1 : (if (1 : Int32) < Int32.ofNat (ln m) then (Int32.ofNat body >>> (((4 : Int32) * 1) &&& 31)) &&& 15 else 0) = (if ln m = 2 then Int32.ofNat (sy m 1) else 0) := by
      by_cases z : ln m = 2
      · rw [if_pos z, if_pos (by rw [show (1 : Int32) = Int32.ofNat 1 from rfl, ofNat_lt (by omega) (by omega)]; omega)]
        exact b0 1 (by omega)
      · rw [if_neg z, if_neg (by rw [show (1 : Int32) = Int32.ofNat 1 from rfl, ofNat_lt (by omega) (by omega)]; omega)]
    have v2 : (if (2 : Int32) < Int32.ofNat (ln m) then (Int32.ofNat body >>> (((4 : Int32) * 2) &&& 31)) &&& 15 else 0) = 0 := by
      rw [if_neg (by rw [show (2 : Int32) = Int32.ofNat 2 from rfl, ofNat_lt (by omega) (by omega)]; omega)]
    rw [show BIG = 999996 + 1 + 1 + 1 + 1 from rfl, k_storeRule_36, if_pos (by decide), v0, k_storeRule_64, m3, t7, show Int32.ofNat (m * 3) + 0 = Int32.ofNat (m * 3 + 0) from ofNat_add' _ 0, st_ofNat _ _ (by omega) (by omega), Option.bind_some, show (0 : Int32) + 1 = 1 from rfl, k_storeRule_36, if_pos (by decide), v1, k_storeRule_64, m3, gA_sA, if_pos rfl, show Int32.ofNat (m * 3) + 1 = Int32.ofNat (m * 3 + 1) from ofNat_add' _ 1, st_ofNat _ _ (by omega) (by rw [List.length_set]; omega), Option.bind_some, sA_same, show (1 : Int32) + 1 = 2 from rfl, k_storeRule_36, if_pos (by decide), v2, k_storeRule_64, m3, gA_sA, if_pos rfl, show Int32.ofNat (m * 3) + 2 = Int32.ofNat (m * 3 + 2) from ofNat_add' _ 2, st_ofNat _ _ (by omega) (by rw [List.length_set, List.length_set]; omega), Option.bind_some, sA_same, show (2 : Int32) + 1 = 3 from rfl, k_storeRule_36, if_neg (by decide)]
  obtain ⟨x2, st⟩ := st
  refine ⟨k_becomeBuilding (sI (sA t 7 ((((gA s 7).set (m * 3 + 0) (Int32.ofNat (sy m 0))).set (m * 3 + 1) (if ln m = 2 then Int32.ofNat (sy m 1) else 0)).set (m * 3 + 2) x2)) 3 (Int32.ofNat (m + 1))), ?_, ?_⟩
  · unfold k_addRule k_storeRule
    rw [rr, Option.bind_some, if_pos rfl, g3, if_neg (ofNat_nonneg (by omega)), if_pos ((lt_lit (m := 12) (by omega) (by decide)).mpr (by omega)), st_ofNat _ _ (by omega) (by omega), Option.bind_some, st_ofNat _ _ (by omega) (by omega), Option.bind_some, st_ofNat _ _ (by omega) (by omega), Option.bind_some, ← ht, st, Option.bind_some, ofNat_succ]
  · unfold k_becomeBuilding
    rw [ht]
    refine ⟨by simp [own_len, gA_sI, gA_sA, *], by simp [gI_sI, gI_sA, g0], by simp [gI_sI, gI_sA, g1], by simp [gI_sI, gI_sA, g2], by simp [gI_sI, gI_sA], fun e he' => ?_, fun r hr => ?_, fun r d hr hd => ?_⟩
    · simp only [gA_sI, gA_sA]; exact E e he'
    · simp only [gA_sI, gA_sA]
      refine ⟨?_, ?_, ?_⟩
      · exact set_get (fun z => (R r z).1) (by omega) hr (fun z => rfl)
      · exact set_get (fun z => (R r z).2.1) (by omega) hr (fun z => by rw [z])
      · exact set_get (fun z => (R r z).2.2) (by omega) hr (fun z => by rw [z])
    · simp only [gA_sI, gA_sA, if_true]
      have lr := ln_pos r
      by_cases z : r = m
      · subst z
        rw [List.getElem?_set_ne (by omega)]
        rcases (show d = 0 ∨ d = 1 by omega) with w | w
        · subst w
          rw [List.getElem?_set_ne (by omega), List.getElem?_set_self (by omega)]
        · subst w
          rw [List.getElem?_set_self (by rw [List.length_set]; omega), if_pos (by omega)]
      · rw [List.getElem?_set_ne (by omega), List.getElem?_set_ne (by omega), List.getElem?_set_ne (by omega)]
        exact Y r d (by omega) hd
theorem and_nat (x : Int32) {m : Nat} (hm : m < 2147483648) : ∃ n, n ≤ m ∧ x &&& Int32.ofNat m = Int32.ofNat n := by
  refine ⟨x.toBitVec.toNat &&& m, Nat.and_le_right, ?_⟩
  apply Int32.toBitVec_inj.mp
  apply BitVec.eq_of_toNat_eq
  have h1 : x.toBitVec.toNat &&& m ≤ m := Nat.and_le_right
  rw [Int32.toBitVec_and, BitVec.toNat_and]
  show x.toBitVec.toNat &&& (BitVec.ofNat 32 m).toNat = (BitVec.ofNat 32 (x.toBitVec.toNat &&& m)).toNat
  rw [BitVec.toNat_ofNat, BitVec.toNat_ofNat, Nat.mod_eq_of_lt (by omega), Nat.mod_eq_of_lt (by omega)]
theorem nat_inj {x y : Nat} (hx : x < 1000) (hy : y < 1000) : Int32.ofNat x = Int32.ofNat y ↔ x = y := by
  constructor
  · intro e
    have := congrArg Int32.toInt e
    rw [ofNat_toInt (by omega), ofNat_toInt (by omega)] at this
    omega
  · intro e; rw [e]
def f3 (a b c : Nat) (e : Nat) : Nat := if e = 0 then a else if e = 1 then b else c
def f2 (a b : Nat) (e : Nat) : Nat := if e = 0 then a else b
def fsy (a b c : Nat) (r d : Nat) : Nat := if r = 0 then (if d = 0 then a else b) else c
theorem cfL (p : Nat) (q : Nat) (sl : Nat) (a : Nat) (b : Nat) (c : Nat) (x1 : Nat) (x2 : Nat) (x3 : Nat) (r0 : Nat) (r1 : Nat) : ITs (f3 p q sl) (f3 x1 x2 x3) (fsy a b c) (f2 r0 r1) 0 2 0 2 = if p = a ∧ q = b then some (x1 + x2 + r0) else none := by
  by_cases h1 : p = a <;> by_cases h2 : q = b <;> simp [ITs, fm, TT, f3, f2, fsy, h1, h2, oadd, omin] <;> omega
theorem cfS (p : Nat) (q : Nat) (sl : Nat) (a : Nat) (b : Nat) (c : Nat) (x1 : Nat) (x2 : Nat) (x3 : Nat) (r0 : Nat) (r1 : Nat) : ITs (f3 p q sl) (f3 x1 x2 x3) (fsy a b c) (f2 r0 r1) 1 1 0 2 = if sl = c then some (x3 + r1) else none := by
  by_cases h1 : sl = c <;> simp [ITs, fm, TT, f3, f2, fsy, h1, oadd, omin] <;> omega
theorem cf01 (p : Nat) (q : Nat) (sl : Nat) (a : Nat) (b : Nat) (c : Nat) (x1 : Nat) (x2 : Nat) (x3 : Nat) (r0 : Nat) (r1 : Nat) : SPs (f3 p q sl) (f3 x1 x2 x3) (fsy a b c) (f2 r0 r1) 0 1 = if p = c then some (x1 + r1) else none := by
  have e1 : ITs (f3 p q sl) (f3 x1 x2 x3) (fsy a b c) (f2 r0 r1) 0 2 0 1 = none := by
    by_cases h2 : p = a <;> simp [ITs, fm, TT, f3, f2, fsy, h2, oadd, omin]
  have e2 : ITs (f3 p q sl) (f3 x1 x2 x3) (fsy a b c) (f2 r0 r1) 1 1 0 1 = if p = c then some (x1 + r1) else none := by
    by_cases h2 : p = c <;> simp [ITs, fm, TT, f3, f2, fsy, h2, oadd, omin] <;> omega
  unfold SPs
  rw [e1, e2]; rfl
theorem cf12 (p : Nat) (q : Nat) (sl : Nat) (a : Nat) (b : Nat) (c : Nat) (x1 : Nat) (x2 : Nat) (x3 : Nat) (r0 : Nat) (r1 : Nat) : SPs (f3 p q sl) (f3 x1 x2 x3) (fsy a b c) (f2 r0 r1) 1 2 = if q = c then some (x2 + r1) else none := by
  have e1 : ITs (f3 p q sl) (f3 x1 x2 x3) (fsy a b c) (f2 r0 r1) 0 2 1 2 = none := by
    by_cases h2 : q = a <;> simp [ITs, fm, TT, f3, f2, fsy, h2, oadd, omin]
  have e2 : ITs (f3 p q sl) (f3 x1 x2 x3) (fsy a b c) (f2 r0 r1) 1 1 1 2 = if q = c then some (x2 + r1) else none := by
    by_cases h2 : q = c <;> simp [ITs, fm, TT, f3, f2, fsy, h2, oadd, omin] <;> omega
  unfold SPs
  rw [e1, e2]; rfl
/-- the contexts of the edges -/
theorem cx (p : Nat) (q : Nat) (sl : Nat) (a : Nat) (b : Nat) (c : Nat) (x1 : Nat) (x2 : Nat) (x3 : Nat) (r0 : Nat) (r1 : Nat) (r d i j : Nat) : ctx (f3 p q sl) (f3 x1 x2 x3) (fsy a b c) (f2 r0 r1) r d i j = oadd (ITs (f3 p q sl) (f3 x1 x2 x3) (fsy a b c) (f2 r0 r1) r d 0 i) (Vx (f3 p q sl) (f3 x1 x2 x3) (fsy a b c) r (d + 1) j 2) := rfl
theorem cfe0 (p : Nat) (q : Nat) (sl : Nat) (a : Nat) (b : Nat) (c : Nat) (x1 : Nat) (x2 : Nat) (x3 : Nat) (r0 : Nat) (r1 : Nat) : oadd (OUx (f3 p q sl) (f3 x1 x2 x3) (fsy a b c) (f2 r0 r1) p 0 1) (some x1) = if p = a ∧ q = b then some (x1 + x2 + r0) else none := by
  have e00 : ctx (f3 p q sl) (f3 x1 x2 x3) (fsy a b c) (f2 r0 r1) 0 0 0 1 = if q = b then some (r0 + x2) else none := by
    by_cases h : q = b <;> simp [ctx, Vx, REs, ln, ITs, fm, TT, f3, f2, fsy, h, oadd, omin]
  have e01 : ctx (f3 p q sl) (f3 x1 x2 x3) (fsy a b c) (f2 r0 r1) 0 1 0 1 = none := by
    simp [ctx, Vx, REs, ln, ITs, fm, TT, f3, f2, fsy, oadd, omin]
  have e10 : ctx (f3 p q sl) (f3 x1 x2 x3) (fsy a b c) (f2 r0 r1) 1 0 0 1 = none := by
    simp [ctx, Vx, REs, ln, ITs, fm, TT, f3, f2, fsy, oadd, omin]
  unfold OUx
  rw [e00, e01, e10, show fsy a b c 0 0 = a from rfl, show fsy a b c 0 1 = b from rfl, show fsy a b c 1 0 = c from rfl]
  by_cases h1 : a = p
  · subst h1
    by_cases h2 : q = b <;> simp [h2, omin, oadd] <;> omega
  · rw [if_neg h1, if_neg (show ¬ (p = a ∧ q = b) from fun z => h1 z.1.symm)]; simp [omin, oadd]
theorem cfe1 (p : Nat) (q : Nat) (sl : Nat) (a : Nat) (b : Nat) (c : Nat) (x1 : Nat) (x2 : Nat) (x3 : Nat) (r0 : Nat) (r1 : Nat) : oadd (OUx (f3 p q sl) (f3 x1 x2 x3) (fsy a b c) (f2 r0 r1) q 1 2) (some x2) = if p = a ∧ q = b then some (x1 + x2 + r0) else none := by
  have e00 : ctx (f3 p q sl) (f3 x1 x2 x3) (fsy a b c) (f2 r0 r1) 0 0 1 2 = none := by
    simp [ctx, Vx, REs, ln, ITs, fm, TT, f3, f2, fsy, oadd, omin]
  have e01 : ctx (f3 p q sl) (f3 x1 x2 x3) (fsy a b c) (f2 r0 r1) 0 1 1 2 = if p = a then some (r0 + x1) else none := by
    by_cases h : p = a <;> simp [ctx, Vx, REs, ln, ITs, fm, TT, f3, f2, fsy, h, oadd, omin]
  have e10 : ctx (f3 p q sl) (f3 x1 x2 x3) (fsy a b c) (f2 r0 r1) 1 0 1 2 = none := by
    simp [ctx, Vx, REs, ln, ITs, fm, TT, f3, f2, fsy, oadd, omin]
  unfold OUx
  rw [e00, e01, e10, show fsy a b c 0 0 = a from rfl, show fsy a b c 0 1 = b from rfl, show fsy a b c 1 0 = c from rfl]
  by_cases h1 : b = q
  · subst h1
    by_cases h2 : p = a <;> simp [h2, omin, oadd] <;> omega
  · rw [if_neg h1, if_neg (show ¬ (p = a ∧ q = b) from fun z => h1 z.2.symm)]; simp [omin, oadd]
theorem cfe2 (p : Nat) (q : Nat) (sl : Nat) (a : Nat) (b : Nat) (c : Nat) (x1 : Nat) (x2 : Nat) (x3 : Nat) (r0 : Nat) (r1 : Nat) : oadd (OUx (f3 p q sl) (f3 x1 x2 x3) (fsy a b c) (f2 r0 r1) sl 0 2) (some x3) = if sl = c then some (x3 + r1) else none := by
  have e00 : ctx (f3 p q sl) (f3 x1 x2 x3) (fsy a b c) (f2 r0 r1) 0 0 0 2 = none := by
    simp [ctx, Vx, REs, ln, ITs, fm, TT, f3, f2, fsy, oadd, omin]
  have e01 : ctx (f3 p q sl) (f3 x1 x2 x3) (fsy a b c) (f2 r0 r1) 0 1 0 2 = none := by
    simp [ctx, Vx, REs, ln, ITs, fm, TT, f3, f2, fsy, oadd, omin]
  have e10 : ctx (f3 p q sl) (f3 x1 x2 x3) (fsy a b c) (f2 r0 r1) 1 0 0 2 = some r1 := by
    simp [ctx, Vx, REs, ln, ITs, fm, TT, f3, f2, fsy, oadd, omin]
  unfold OUx
  rw [e00, e01, e10, show fsy a b c 0 0 = a from rfl, show fsy a b c 0 1 = b from rfl, show fsy a b c 1 0 = c from rfl]
  by_cases h1 : c = sl
  · subst h1; simp [omin, oadd] <;> omega
  · rw [if_neg h1, if_neg (show ¬ (sl = c) from fun z => h1 z.symm)]; simp [omin, oadd]
theorem init_ok (lab ew : Nat → Nat) (sy : Nat → Nat → Nat) (rw : Nat → Nat) : ∃ s, k_init 3 = some s ∧ Pre lab ew sy rw 0 0 s := by
  obtain ⟨X, eX, lX, x0, x1, x2, x3⟩ : ∃ X, k_init 3 = ((k_clearStore_16 BIG 0 X).bind fun r => (k_clearTables r).bind fun r => some r) ∧ own_len X ∧ gI X 0 = 1073741824 ∧ gI X 1 = k_clampNodes 3 ∧ gI X 2 = 0 ∧ gI X 3 = 0 := by
    refine ⟨_, by unfold k_init k_clearStore; rfl, ?_, ?_, ?_, ?_, ?_⟩
    · simp [own_len, k_becomeBuilding, gA_sI, gA_sA, rep_length]
    · simp [k_becomeBuilding, gI_sI, gI_sA]
    · simp [k_becomeBuilding, gI_sI, gI_sA]
    · simp [k_becomeBuilding, gI_sI, gI_sA]
    · simp [k_becomeBuilding, gI_sI, gI_sA]
  obtain ⟨Y, eY, J⟩ := own_16 X X ⟨Fx.refl .., lX⟩
  obtain ⟨s, es, J2⟩ := own_2 X Y J
  have hr : ∀ f, gI s f = gI X f := fun f => J2.1.1 f (by simp)
  refine ⟨s, by rw [eX, eY, Option.bind_some, es, Option.bind_some], J2.2, by rw [hr, x0], by rw [hr, x1]; decide, by rw [hr, x2]; rfl, by rw [hr, x3]; rfl, fun e h => by omega, fun r h => by omega, fun r d h => by omega⟩
theorem Pre.sto {lab ew : Nat → Nat} {sy : Nat → Nat → Nat} {rw : Nat → Nat} {s : S} (h : Pre lab ew sy rw 3 2 s) : Sto lab ew sy rw s := by
  obtain ⟨L, g0, g1, g2, g3, E, R, Y⟩ := h
  exact ⟨⟨g0, g1, g3⟩, g2, E, R, Y⟩
theorem av_neg {o : Option Nat} (h : Bd 1000 o) : av o < 0 ↔ o = none := by
  cases o with
  | none => exact ⟨fun _ => rfl, fun _ => by decide⟩
  | some n =>
    have := h n rfl
    exact ⟨fun z => absurd z (ofNat_nonneg (by omega)), fun z => by cases z⟩
theorem av_min {x y : Option Nat} (hx : Bd 1000 x) (hy : Bd 1000 y) : (if av x < 0 then av y else if av y < 0 then av x else if av x < av y then av x else av y) = av (omin x y) := by
  cases x with
  | none => rw [if_pos (by decide)]; rfl
  | some m =>
    have h1 := hx m rfl
    rw [if_neg (show ¬ av (some m) < 0 from ofNat_nonneg (by omega))]
    cases y with
    | none => rw [if_pos (by decide)]; rfl
    | some n =>
      have h2 := hy n rfl
      rw [if_neg (show ¬ av (some n) < 0 from ofNat_nonneg (by omega))]
      by_cases w : m < n
      · rw [if_pos (show av (some m) < av (some n) by show Int32.ofNat m < Int32.ofNat n; rw [ofNat_lt (by omega) (by omega)]; exact w)]
        show _ = Int32.ofNat (min m n); rw [Nat.min_eq_left (by omega)]; rfl
      · rw [if_neg (show ¬ av (some m) < av (some n) by show ¬ Int32.ofNat m < Int32.ofNat n; rw [ofNat_lt (by omega) (by omega)]; exact w)]
        show _ = Int32.ofNat (min m n); rw [Nat.min_eq_right (by omega)]; rfl
theorem law_true (v0 v1 v2 v3 v4 v5 : Int32) : ∃ t, law v0 v1 v2 v3 v4 v5 = some (1, t) := by
  obtain ⟨p, hp, ep⟩ := and_nat v0 (m := 7) (by omega)
  obtain ⟨q, hq, eq⟩ := and_nat (v0 >>> ((3 : Int32) &&& 31)) (m := 7) (by omega)
  obtain ⟨sl, hsl, esl⟩ := and_nat (v0 >>> ((6 : Int32) &&& 31)) (m := 7) (by omega)
  obtain ⟨a, ha, ea⟩ := and_nat v1 (m := 7) (by omega)
  obtain ⟨b, hb, eb⟩ := and_nat (v1 >>> ((3 : Int32) &&& 31)) (m := 7) (by omega)
  obtain ⟨c, hc, ec⟩ := and_nat (v1 >>> ((6 : Int32) &&& 31)) (m := 7) (by omega)
  obtain ⟨x1, h1, e1⟩ := and_nat v2 (m := 63) (by omega)
  obtain ⟨x2, h2, e2⟩ := and_nat v3 (m := 63) (by omega)
  obtain ⟨x3, h3, e3⟩ := and_nat v4 (m := 63) (by omega)
  obtain ⟨r0, hr0, er0⟩ := and_nat v5 (m := 63) (by omega)
  obtain ⟨r1, hr1, er1⟩ := and_nat (v5 >>> ((6 : Int32) &&& 31)) (m := 63) (by omega)
  have hl : ∀ e, f3 p q sl e < 8 := fun e => by unfold f3; split; omega; split <;> omega
  have he : ∀ e, f3 x1 x2 x3 e ≤ 63 := fun e => by unfold f3; split; omega; split <;> omega
  have hy : ∀ r d, fsy a b c r d < 8 := fun r d => by unfold fsy; split; split <;> omega; omega
  have hw : ∀ r, f2 r0 r1 r ≤ 63 := fun r => by unfold f2; split <;> omega
  unfold law
  rw [show v0 &&& 7 = _ from ep, show (v0 >>> ((3 : Int32) &&& 31)) &&& 7 = _ from eq, show (v0 >>> ((6 : Int32) &&& 31)) &&& 7 = _ from esl, show v1 &&& 7 = _ from ea, show (v1 >>> ((3 : Int32) &&& 31)) &&& 7 = _ from eb, show (v1 >>> ((6 : Int32) &&& 31)) &&& 7 = _ from ec, show v2 &&& 63 = _ from e1, show v3 &&& 63 = _ from e2, show v4 &&& 63 = _ from e3, show v5 &&& 63 = _ from er0, show (v5 >>> ((6 : Int32) &&& 31)) &&& 63 = _ from er1]
  obtain ⟨s0, i0, P0⟩ := init_ok (f3 p q sl) (f3 x1 x2 x3) (fsy a b c) (f2 r0 r1)
  obtain ⟨s1, i1, P1⟩ := addE hl he (k := 0) (by omega) P0
  obtain ⟨s2, i2, P2⟩ := addE hl he (k := 1) (by omega) P1
  obtain ⟨s3, i3, P3⟩ := addE hl he (k := 2) (by omega) P2
  have bb : ∀ (a b : Fin 8) (d : Fin 2), (Int32.ofNat (a.val + 16 * b.val) >>> (((4 : Int32) * Int32.ofNat d.val) &&& 31)) &&& 15 = Int32.ofNat (if d.val = 0 then a.val else b.val) := by decide
  have bc : ∀ c : Fin 8, (Int32.ofNat c.val >>> (((4 : Int32) * Int32.ofNat 0) &&& 31)) &&& 15 = Int32.ofNat c.val := by decide
  obtain ⟨s4, i4, P4⟩ := addR hy hw (m := 0) (by omega) P3 (body := a + 16 * b) (by omega) (fun z => absurd z (by decide)) (fun d hd => by
    have := bb ⟨a, by omega⟩ ⟨b, by omega⟩ ⟨d, hd⟩
    exact this)
  obtain ⟨s5, i5, P5⟩ := addR hy hw (m := 1) (by omega) P4 (body := c) (by omega) (fun _ => by omega) (fun d hd => by
    have hd' : d < 1 := hd
    have : d = 0 := by omega
    subst this
    exact bc ⟨c, by omega⟩)
  have ab : Int32.ofNat a + (16 : Int32) * Int32.ofNat b = Int32.ofNat (a + 16 * b) := by
    rw [show (16 : Int32) * Int32.ofNat b = Int32.ofNat (16 * b) from (Int32.ofNat_mul 16 b).symm, ofNat_add']
  rw [i0, Option.bind_some, show k_addEdge 0 1 (Int32.ofNat p) (Int32.ofNat x1) s0 = _ from i1, Option.bind_some]
  dsimp only
  rw [if_pos (show Int32.ofNat 0 = 0 from rfl), show k_addEdge 1 2 (Int32.ofNat q) (Int32.ofNat x2) s1 = _ from i2, Option.bind_some]
  dsimp only
  rw [if_pos (show Int32.ofNat 1 = 1 from rfl), show k_addEdge 0 2 (Int32.ofNat sl) (Int32.ofNat x3) s2 = _ from i3, Option.bind_some]
  dsimp only
  rw [if_pos (show Int32.ofNat 2 = 2 from rfl), ab, show k_addRule 0 (Int32.ofNat r0) 2 (Int32.ofNat (a + 16 * b)) s3 = _ from i4, Option.bind_some]
  dsimp only
  rw [if_pos (show Int32.ofNat 0 = 0 from rfl), show k_addRule 0 (Int32.ofNat r1) 1 (Int32.ofNat c) s4 = _ from i5, Option.bind_some]
  dsimp only
  rw [if_pos (show Int32.ofNat 1 = 1 from rfl)]
  obtain ⟨L1, L2, L3, L4, L5, L6, L7, L8, l8, l9, l10, l11⟩ := P5.1
  obtain ⟨bz, t, et, St, U8, oc⟩ := parse_ok hl he hy hw P5.sto l8 l9 l10 l11
  -- the weights that are due
  obtain ⟨lg, hlg⟩ : ∃ lg : Option Nat, lg = if p = a ∧ q = b then some (x1 + x2 + r0) else none := ⟨_, rfl⟩
  obtain ⟨sh, hsh⟩ : ∃ sh : Option Nat, sh = if sl = c then some (x3 + r1) else none := ⟨_, rfl⟩
  have blg : Bd 1000 lg := fun n z => by rw [hlg] at z; split at z <;> cases z; omega
  have bsh : Bd 1000 sh := fun n z => by rw [hsh] at z; split at z <;> cases z; omega
  have top : SPs (f3 p q sl) (f3 x1 x2 x3) (fsy a b c) (f2 r0 r1) 0 2 = omin lg sh := by unfold SPs; rw [cfL, cfS, hlg, hsh]
  have v18 : (if Int32.ofNat p = Int32.ofNat a then if Int32.ofNat q = Int32.ofNat b then Int32.ofNat x1 + Int32.ofNat x2 + Int32.ofNat r0 else -1 else -1) = av lg := by
    rw [hlg, ofNat_add', ofNat_add']
    by_cases z : p = a
    · rw [if_pos (by rw [z])]
      by_cases y : q = b
      · rw [if_pos (by rw [y]), if_pos ⟨z, y⟩]; rfl
      · rw [if_neg (fun u => y ((nat_inj (by omega) (by omega)).mp u)), if_neg (fun u => y u.2)]; rfl
    · rw [if_neg (fun u => z ((nat_inj (by omega) (by omega)).mp u)), if_neg (fun u => z u.1)]; rfl
  have eqv : ∀ (x y m n : Nat), x ≤ 7 → y ≤ 7 → (if Int32.ofNat x = Int32.ofNat y then Int32.ofNat m + Int32.ofNat n else -1) = av (if x = y then some (m + n) else none) := fun x y m n hx hy => by
    by_cases z : x = y
    · rw [if_pos (by rw [z]), if_pos z, ofNat_add']; rfl
    · rw [if_neg (fun u => z ((nat_inj (by omega) (by omega)).mp u)), if_neg z]; rfl
  rw [v18]
  unfold law_207 law_225 law_267
  rw [eqv sl c x3 r1 hsl hc, ← hsh, av_min blg bsh]
  have b20 := (blg.omin bsh)
  have D12 : ∀ i j, i ≤ j → j < 3 → Ud (f3 p q sl) (f3 x1 x2 x3) (fsy a b c) (f2 r0 r1) (Dd 3 4) 8 i j = SPs (f3 p q sl) (f3 x1 x2 x3) (fsy a b c) (f2 r0 r1) i j := fun i j hij hj => by
    unfold Ud; rw [if_neg (by decide), if_pos ⟨rfl, by unfold Dd; exact decide_eq_true (by omega)⟩]
  have g4 : ¬ gI t 4 = 0 := by
    rcases oc with ⟨_, _, _, g, _⟩ | ⟨_, _, g, _⟩ <;> rw [g] <;> decide
  have w02 : k_spanWeight 8 0 2 t = some (av (omin lg sh)) := by
    have := spanW_ok St.1 U8 g4 (c := 8) (i := 0) (j := 2) (by omega) (by omega) (by omega)
    rw [D12 0 2 (by omega) (by omega), top] at this
    exact this
  have w01 : k_spanWeight 8 0 1 t = some (av (if p = c then some (x1 + r1) else none)) := by
    have := spanW_ok St.1 U8 g4 (c := 8) (i := 0) (j := 1) (by omega) (by omega) (by omega)
    rw [D12 0 1 (by omega) (by omega), cf01] at this
    exact this
  have w12 : k_spanWeight 8 1 2 t = some (av (if q = c then some (x2 + r1) else none)) := by
    have := spanW_ok St.1 U8 g4 (c := 8) (i := 1) (j := 2) (by omega) (by omega) (by omega)
    rw [D12 1 2 (by omega) (by omega), cf12] at this
    exact this
  have wp : k_spanWeight (Int32.ofNat p) 0 1 t = some (Int32.ofNat x1) := by
    have := spanW_ok St.1 U8 g4 (c := p) (i := 0) (j := 1) (by omega) (by omega) (by omega)
    rw [show Ud (f3 p q sl) (f3 x1 x2 x3) (fsy a b c) (f2 r0 r1) (Dd 3 4) p 0 1 = some x1 by unfold Ud TT f3; rw [if_pos (by omega)]; simp] at this
    exact this
  have ws : k_spanWeight (Int32.ofNat sl) 0 2 t = some (Int32.ofNat x3) := by
    have := spanW_ok St.1 U8 g4 (c := sl) (i := 0) (j := 2) (by omega) (by omega) (by omega)
    rw [show Ud (f3 p q sl) (f3 x1 x2 x3) (fsy a b c) (f2 r0 r1) (Dd 3 4) sl 0 2 = some x3 by unfold Ud TT f3; rw [if_pos (by omega)]; simp] at this
    exact this
  have last : ∀ (bw : k_bestWeight t = av (omin lg sh)) (q0 : k_edgeBest 0 t = some (av lg)) (q1 : k_edgeBest 1 t = some (av lg)) (q2 : k_edgeBest 2 t = some (av sh)) (u0 : k_ruleBest 0 t = some (av lg)) (u1 : k_ruleBest 1 t = some (av sh)), law_301 (Int32.ofNat p) (Int32.ofNat q) (Int32.ofNat sl) (Int32.ofNat c) (Int32.ofNat x1) (Int32.ofNat x2) (Int32.ofNat x3) (Int32.ofNat r1) (av lg) (av sh) (av (omin lg sh)) (k_status t) t = some (1, t) := by
    intro bw q0 q1 q2 u0 u1
    unfold law_301
    rw [if_pos rfl, if_pos bw, w02, Option.bind_some, if_pos rfl, q0, Option.bind_some, if_pos rfl, q1, Option.bind_some, if_pos rfl, q2, Option.bind_some, if_pos rfl, u0, Option.bind_some, if_pos rfl, u1, Option.bind_some, if_pos rfl, w01, Option.bind_some, eqv p c x1 r1 hp hc]
    unfold law_433
    rw [if_pos rfl, w12, Option.bind_some, eqv q c x2 r1 hq hc]
    unfold law_463
    rw [if_pos rfl, wp, Option.bind_some, if_pos rfl, ws, Option.bind_some, if_pos rfl]
  unfold law_277
  rw [et, Option.bind_some]
  dsimp only
  refine ⟨t, ?_⟩
  rcases oc with ⟨w, ew, eb1, t4, t5, V9, U11⟩ | ⟨ew, eb1, t4, t5⟩
  · rw [top] at ew
    have nn : ¬ av (omin lg sh) < 0 := fun z => by rw [(av_neg b20).mp z] at ew; cases ew
    rw [if_neg nn, if_pos eb1, if_neg (by decide)]
    have ks : k_status t = 1 := by unfold k_status; rw [t4]
    have E0 := edgeB_ok hl he hy hw St t4 U11 (e := 0) (by omega)
    have E1 := edgeB_ok hl he hy hw St t4 U11 (e := 1) (by omega)
    have E2 := edgeB_ok hl he hy hw St t4 U11 (e := 2) (by omega)
    have R0 := ruleB_ok hl he hy hw St t4 V9 U11 (r := 0) (by omega)
    have R1 := ruleB_ok hl he hy hw St t4 V9 U11 (r := 1) (by omega)
    have E0' : k_edgeBest 0 t = some (av lg) := by rw [hlg, ← cfe0 p q sl a b c x1 x2 x3 r0 r1]; exact E0
    have E1' : k_edgeBest 1 t = some (av lg) := by rw [hlg, ← cfe1 p q sl a b c x1 x2 x3 r0 r1]; exact E1
    have E2' : k_edgeBest 2 t = some (av sh) := by rw [hsh, ← cfe2 p q sl a b c x1 x2 x3 r0 r1]; exact E2
    have R0' : k_ruleBest 0 t = some (av lg) := by rw [hlg, ← cfL p q sl a b c x1 x2 x3 r0 r1]; exact R0
    have R1' : k_ruleBest 1 t = some (av sh) := by rw [hsh, ← cfS p q sl a b c x1 x2 x3 r0 r1]; exact R1
    have ls := last (by unfold k_bestWeight; rw [if_pos t4, t5, ew]; rfl) E0' E1' E2' R0' R1'
    rw [ks] at ls
    exact ls
  · rw [top] at ew
    have ng : av (omin lg sh) < 0 := (av_neg b20).mpr ew
    have n4 : ¬ gI t 4 = 1 := by rw [t4]; decide
    have lgn : lg = none ∧ sh = none := by
      cases hx : lg with
      | some m => rw [hx] at ew; cases sh <;> cases ew
      | none => rw [hx] at ew; exact ⟨rfl, ew⟩
    rw [if_pos ng, if_pos eb1, if_pos rfl]
    have ks : k_status t = 2 := by unfold k_status; rw [t4]
    have ls := last (by unfold k_bestWeight; rw [if_neg n4, ew]; rfl) (by unfold k_edgeBest; rw [if_neg n4, lgn.1]; rfl) (by unfold k_edgeBest; rw [if_neg n4, lgn.1]; rfl) (by unfold k_edgeBest; rw [if_neg n4, lgn.2]; rfl) (by unfold k_ruleBest; rw [if_neg n4, lgn.1]; rfl) (by unfold k_ruleBest; rw [if_neg n4, lgn.2]; rfl)
    rw [ks] at ls
    exact ls
set_option maxRecDepth 65536 in
set_option maxHeartbeats 40000000 in
theorem comes_1 {Post : Tables → Env → Array Value → State → Outcome → State → Prop} (hpost : ∀ tb e args s v u, (limb_1_1.after args s (.returned v) u = true ∧ limb_1_2.after args s (.returned v) u = true ∧ True) → FrameEnd s (.returned v) u (Jvm.fieldLocs frame_1_writes args s ++ Jvm.arrayLocs frame_1_arrays args s ++ Jvm.staticLocs frame_1_statics s) 40 16768 → Post tb e args s (.returned v) u) :
    ArmFor flags0 classFile x code maxLocals ret World_1 tables_1 room_1 Calls_1 rest_1 Pre_1 Post := by
  intro l hfl _ _ p e ha hc hk s m args below hf hA hF happ hP
  obtain ⟨hcalls, hrest, hpre⟩ := hP
  obtain ⟨-, -, -, hnamed, -, -, -, hat⟩ := (Spec.applies_iff hf).mp happ
  obtain ⟨hg, hn⟩ := and_e (Cond.before_iff.mp (show (Jvm.Cond.and given_1 narrow_1).before args s = true from hpre))
  obtain ⟨g0, b0⟩ := and_e hg
  obtain ⟨a0, b1⟩ := and_e b0
  obtain ⟨a1, b2⟩ := and_e b1
  obtain ⟨a2, b3⟩ := and_e b2
  obtain ⟨a3, b4⟩ := and_e b3
  obtain ⟨a4, b5⟩ := and_e b4
  have a5 := b5
  obtain ⟨w0, w1, w2, w3, w4, w5, rfl⟩ : ∃ w0 w1 w2 w3 w4 w5 : Value, args = #[w0, w1, w2, w3, w4, w5] := by
    have hs : args.size = 6 := by simpa [Cond.value, given_1] using g0
    obtain ⟨L⟩ := args
    match L, hs with
    | [w0, w1, w2, w3, w4, w5], _ => exact ⟨w0, w1, w2, w3, w4, w5, rfl⟩
  have hw := fun d (hd : d ∈ tables_1) => atoms_spec (ws := Jvm.Cond.code x code maxLocals ret :: tables_1) hat d (List.mem_cons_of_mem _ hd)
  have hfit : Fit s := fun {y c} hc i hi => by
    obtain ⟨ha, rfl⟩ := Array.getElem?_eq_some_iff.mp hc
    have q := List.all_eq_true.mp ((Array.all_eq_true_iff_forall_mem.mp hF) _ (Array.getElem_mem ha)) i (List.mem_range.mpr hi)
    simpa [Array.getElem?_eq_getElem hi] using q
  obtain ⟨i0, ei0⟩ := is_v a0
  obtain rfl : w0 = (.int i0) := Option.some.inj ei0
  obtain ⟨i1, ei1⟩ := is_v a1
  obtain rfl : w1 = (.int i1) := Option.some.inj ei1
  obtain ⟨i2, ei2⟩ := is_v a2
  obtain rfl : w2 = (.int i2) := Option.some.inj ei2
  obtain ⟨i3, ei3⟩ := is_v a3
  obtain rfl : w3 = (.int i3) := Option.some.inj ei3
  obtain ⟨i4, ei4⟩ := is_v a4
  obtain rfl : w4 = (.int i4) := Option.some.inj ei4
  obtain ⟨i5, ei5⟩ := is_v a5
  obtain rfl : w5 = (.int i5) := Option.some.inj ei5
  obtain ⟨t, ht⟩ := law_true i0 i1 i2 i3 i4 i5
  have C : Call PP m55 [.int i0, .int i1, .int i2, .int i3, .int i4, .int i5] (none, []) (some (.int ((1 : Int32), t).1), (none, [(12, ((1 : Int32), t).2)])) := call_of_go pl_1 rfl (fun h => by cases h) (law_ok i0 i1 i2 i3 i4 i5 _ ht)
  obtain ⟨n, o, h1, h2, h3, _, L, rfl, ⟨rfl, N, _⟩, hq⟩ := C l s _ tables_1 0 s.heap.size s.heap.size s.heap hw (facts1 hw) (Nat.le_refl _) (repW_none ..) (Nat.zero_le _) (fun _ => ⟨rfl, rfl, rfl⟩) p e ha hc hk s m _ below hf ((Spec.applies_iff_loose hf).mp happ).1 ⟨rfl, State.Warmed39.refl s, rfl⟩ trivial
  refine ⟨n, _, h1, h2, h3, hpost _ _ _ _ _ _ ⟨Cond.after_iff.mpr rfl, Cond.after_iff.mpr (eq_i res_at (Term.int_eval (1)) rfl), trivial⟩ ⟨hq.1, hq.2.1, (hq.2.2.sift fun y hy => Or.inr (N y hy)).mono (by decide) (by decide)⟩⟩
theorem main_1_1 : Claimed_1_1 := comes_1 fun _ _ _ _ _ _ h hF => ⟨h.1, hF⟩
theorem main_1_2 : Claimed_1_2 := comes_1 fun _ _ _ _ _ _ h hF => ⟨h.2.1, hF⟩
end Jvm.Pilot.@@N@@
namespace Jvm.Pilot.@@N@@
open Jvm Jvm.ClassFile Sem Op Lib Jvm.Free Jvm.Stand Jvm.Pilot.@@N@@.Jvm.D
/-! MADE BY PROGRAM (witnessworld.py) out of the Statement's table words and the real class files: 9 classes; the members and pool entries that the words name. The judged class is class 1, her method 1. -/
namespace start1
open Jvm.ClassFile
def u (s : String) : CpInfo := .utf8 (stringToUtf16 s)
/-- a pool by its gaps: so many unusable entries, then the entry; so many at the end -/
def gap : Nat → List CpInfo → List CpInfo
  | 0, r => r
  | n + 1, r => .unusable :: gap n r
def poolList (es : List (Nat × CpInfo)) (last : Nat) : List CpInfo := es.foldr (fun e r => gap e.1 (e.2 :: r)) (gap last [])
def pool (es : List (Nat × CpInfo)) (last : Nat) : Array CpInfo := ⟨poolList es last⟩
def fileOf (pool : Array CpInfo) (this : Nat) (attrs : Array Attribute := #[]) (ms : Array MethodInfo := #[]) (fl : Nat := 33) (sup : Nat := 0) (ifs : Array Nat := #[]) (fds : Array FieldInfo := #[]) : ClassFile where
  minorVersion := 0
  majorVersion := 65
  constantPool := pool
  accessFlags := fl
  thisClass := this
  superClass := sup
  interfaces := ifs
  fields := fds
  methods := ms
  attributes := attrs
def plain (name : String) (sup : Option ClassId) : Class where
  name := name
  kind := .ordinary
  loader := none
  accessFlags := 33
  super := sup
  interfaces := #[]
  cf := none
  fields := #[]
  methods := #[]
  instanceTypes := #[]
  staticTypes := #[]
  resolved := #[]
  callSites := []
  init := .initialized
  statics := none
  mirror := none

def pool0 : Array CpInfo := pool [(5, u "<init>"), (0, u "()V"), (1, .class_ 10), (1, u "java/lang/Object")] 113

def k0c0 : Code := { maxStack := 0, maxLocals := 1, code := object_method_1_code, exceptionTable := #[], attributes := #[] }
def k0m0 : Method := { name := "<init>", desc := "()V", sig := { parameters := [], returnType := none }, accessFlags := 1, code := some k0c0 }
/-- java/lang/Object -/
def k0 : Class := { plain "java/lang/Object" none with
  accessFlags := 33
  interfaces := #[]
  cf := some (fileOf pool0 8 #[] #[{ accessFlags := 1, nameIndex := 5, descriptorIndex := 6, attributes := #[] }] 33 0 #[] #[])
  fields := #[]
  methods := #[k0m0]
  instanceTypes := #[]
  staticTypes := #[]
  resolved := Array.replicate 124 none
  statics := none }

def pool1 : Array CpInfo := pool [(2, .class_ 4), (1, u "java/lang/Object"), (0, u "<init>"), (0, u "()V"), (0, .class_ 8), (0, u "LatticeEarley"), (0, .methodref 7 10), (0, .nameAndType 5 11), (0, u "(I)V"), (0, .methodref 7 13), (0, .nameAndType 14 15), (0, u "addEdge"), (0, u "(IIII)I"), (0, .methodref 7 17), (0, .nameAndType 18 15), (0, u "addRule"), (0, .methodref 7 20), (0, .nameAndType 21 22), (0, u "parse"), (0, u "()Z"), (0, .methodref 7 24), (0, .nameAndType 25 26), (0, u "status"), (0, u "()I"), (0, .methodref 7 28), (0, .nameAndType 29 26), (0, u "bestWeight"), (0, .methodref 7 31), (0, .nameAndType 32 33), (0, u "spanWeight"), (0, u "(III)I"), (0, .methodref 7 35), (0, .nameAndType 36 37), (0, u "edgeBest"), (0, u "(I)I"), (0, .methodref 7 39), (0, .nameAndType 40 37), (0, u "ruleBest"), (0, .class_ 42), (0, u "LatticeEarleyL3"), (2, u "law"), (0, u "(IIIIII)Z")] 3

def k1m0 : Method := { name := "<init>", desc := "()V", sig := { parameters := [], returnType := none }, accessFlags := 1, code := none }
def k1c1 : Code := { maxStack := 7, maxLocals := 23, code := code, exceptionTable := #[], attributes := #[] }
def k1m1 : Method := { name := "law", desc := "(IIIIII)Z", sig := { parameters := [.int, .int, .int, .int, .int, .int], returnType := some .boolean }, accessFlags := 9, code := some k1c1 }
/-- LatticeEarleyL3 -/
def k1 : Class := { plain "LatticeEarleyL3" (some 0) with
  accessFlags := 49
  interfaces := #[]
  cf := some (fileOf pool1 41 #[] #[{ accessFlags := 1, nameIndex := 5, descriptorIndex := 6, attributes := #[] }, { accessFlags := 9, nameIndex := 45, descriptorIndex := 46, attributes := #[] }] 49 2 #[] #[])
  fields := #[]
  methods := #[k1m0, k1m1]
  instanceTypes := #[]
  staticTypes := #[]
  resolved := Array.replicate 50 none
  statics := none }

def pool2 : Array CpInfo := pool [(1, .methodref 2 3), (0, .class_ 4), (0, .nameAndType 5 6), (0, u "java/lang/Object"), (0, u "<init>"), (0, u "()V"), (0, .integer 1073741824), (0, .fieldref 9 10), (0, .class_ 11), (0, .nameAndType 12 13), (0, u "LatticeEarley"), (0, u "inf"), (0, u "I"), (0, .fieldref 9 15), (0, .nameAndType 16 17), (0, u "edgeFrom"), (0, u "[I"), (0, .fieldref 9 19), (0, .nameAndType 20 17), (0, u "edgeTo"), (0, .fieldref 9 22), (0, .nameAndType 23 17), (0, u "edgeLabel"), (0, .fieldref 9 25), (0, .nameAndType 26 17), (0, u "edgeWeight"), (0, .fieldref 9 28), (0, .nameAndType 29 17), (0, u "ruleHead"), (0, .fieldref 9 31), (0, .nameAndType 32 17), (0, u "ruleWeight"), (0, .fieldref 9 34), (0, .nameAndType 35 17), (0, u "ruleLength"), (0, .fieldref 9 37), (0, .nameAndType 38 17), (0, u "ruleSym"), (0, .fieldref 9 40), (0, .nameAndType 41 17), (0, u "span"), (0, .fieldref 9 43), (0, .nameAndType 44 17), (0, u "item"), (0, .fieldref 9 46), (0, .nameAndType 47 17), (0, u "rest"), (0, .fieldref 9 49), (0, .nameAndType 50 17), (0, u "outer"), (0, .methodref 9 52), (0, .nameAndType 53 54), (0, u "clampNodes"), (0, u "(I)I"), (0, .fieldref 9 56), (0, .nameAndType 57 13), (0, u "nodeTotal"), (0, .methodref 9 59), (0, .nameAndType 60 6), (0, u "clearStore"), (0, .methodref 9 62), (0, .nameAndType 63 6), (0, u "clearTables"), (0, .fieldref 9 65), (0, .nameAndType 66 13), (0, u "edgeTotal"), (0, .fieldref 9 68), (0, .nameAndType 69 13), (0, u "ruleTotal"), (0, .methodref 9 71), (0, .nameAndType 72 73), (0, u "edgeRefused"), (0, u "(IIII)Z"), (0, .methodref 9 75), (0, .nameAndType 76 6), (0, u "becomeBuilding"), (0, .methodref 9 78), (0, .nameAndType 79 73), (0, u "ruleRefused"), (0, .methodref 9 81), (0, .nameAndType 82 83), (0, u "storeRule"), (0, u "(IIIII)V"), (0, .methodref 9 85), (0, .nameAndType 86 87), (0, u "symbolAt"), (0, u "(II)I"), (0, .methodref 9 89), (0, .nameAndType 90 6), (0, u "runInside"), (0, .methodref 9 92), (0, .nameAndType 93 94), (0, u "getSpan"), (0, u "(III)I"), (0, .fieldref 9 96), (0, .nameAndType 97 13), (0, u "state"), (0, .fieldref 9 99), (0, .nameAndType 100 13), (0, u "bestTotal"), (0, .methodref 9 102), (0, .nameAndType 103 6), (0, u "runRest"), (0, .methodref 9 105), (0, .nameAndType 106 6), (0, u "runOuter"), (0, .methodref 9 108), (0, .nameAndType 109 110), (0, u "isCode"), (0, u "(I)Z"), (0, .methodref 9 112), (0, .nameAndType 113 110), (0, u "isNode"), (0, .methodref 9 115), (0, .nameAndType 116 54), (0, u "answer"), (0, .methodref 9 118), (0, .nameAndType 119 94), (0, u "getOuter"), (0, .methodref 9 121), (0, .nameAndType 122 87), (0, u "plus"), (0, .methodref 9 124), (0, .nameAndType 125 110), (0, u "isRule"), (0, .methodref 9 127), (0, .nameAndType 128 54), (0, u "ruleContext"), (0, .methodref 9 130), (0, .nameAndType 131 132), (0, u "inRange"), (0, u "(III)Z"), (0, .methodref 9 134), (0, .nameAndType 135 54), (0, u "bodyLimit"), (0, .methodref 9 137), (0, .nameAndType 138 110), (0, u "isDot"), (0, .methodref 9 140), (0, .nameAndType 141 94), (0, u "spanSlot"), (0, .methodref 9 143), (0, .nameAndType 144 145), (0, u "itemSlot"), (0, u "(IIII)I"), (0, .methodref 9 147), (0, .nameAndType 148 6), (0, u "scanEdges"), (0, .methodref 9 150), (0, .nameAndType 151 6), (0, u "seedItems"), (0, .methodref 9 153), (0, .nameAndType 154 155), (0, u "closeInsideCell"), (0, u "(II)V"), (0, .methodref 9 157), (0, .nameAndType 158 73), (0, u "lowerSpan"), (0, .methodref 9 160), (0, .nameAndType 161 162), (0, u "lowerItem"), (0, u "(IIIII)Z"), (0, .methodref 9 164), (0, .nameAndType 165 166), (0, u "insideRound"), (0, u "(II)Z"), (0, .methodref 9 168), (0, .nameAndType 169 132), (0, u "advanceItems"), (0, .methodref 9 171), (0, .nameAndType 172 132), (0, u "completeItem"), (0, .methodref 9 174), (0, .nameAndType 175 145), (0, u "bestAdvance"), (0, .methodref 9 177), (0, .nameAndType 178 145), (0, u "getItem"), (0, .methodref 9 180), (0, .nameAndType 181 54), (0, u "headCode"), (0, .methodref 9 183), (0, .nameAndType 184 185), (0, u "seedRest"), (0, u "(I)V"), (0, .methodref 9 187), (0, .nameAndType 188 155), (0, u "fillRestLevel"), (0, .methodref 9 190), (0, .nameAndType 191 162), (0, u "lowerRest"), (0, .methodref 9 193), (0, .nameAndType 194 145), (0, u "restAt"), (0, .methodref 9 196), (0, .nameAndType 197 145), (0, u "getRest"), (0, .methodref 9 199), (0, .nameAndType 200 73), (0, u "lowerOuter"), (0, .methodref 9 202), (0, .nameAndType 203 155), (0, u "closeOuterCell"), (0, .methodref 9 205), (0, .nameAndType 206 166), (0, u "outerRound"), (0, .methodref 9 208), (0, .nameAndType 209 132), (0, u "outerRule"), (0, .methodref 9 211), (0, .nameAndType 212 145), (0, u "bestContext"), (0, .methodref 9 214), (0, .nameAndType 215 94), (0, u "plus3"), (0, u "MIN_NODES"), (2, u "MAX_NODES"), (1, u "MAX_EDGES"), (1, u "MAX_RULES"), (1, u "MAX_BODY"), (1, u "TERMINALS"), (0, u "NONTERMINALS"), (0, u "NONTERMINAL_BASE"), (0, u "START_CODE"), (0, u "MAX_WEIGHT"), (1, u "NONE"), (1, u "STATUS_BUILDING"), (1, u "STATUS_ACCEPTED"), (1, u "STATUS_REJECTED"), (0, u "EDGE_FROM"), (0, u "EDGE_TO"), (0, u "EDGE_LABEL"), (0, u "EDGE_WEIGHT"), (0, u "RULE_HEAD"), (0, u "RULE_WEIGHT"), (0, u "RULE_LENGTH"), (0, u "RULE_SYM0"), (0, u "RULE_SYM1"), (1, u "RULE_SYM2"), (5, u "()I"), (2, u "addEdge"), (1, u "addRule"), (2, u "parse"), (0, u "()Z"), (0, u "status"), (0, u "bestWeight"), (0, u "spanWeight"), (0, u "edgeBest"), (0, u "ruleBest")] 2

def k2c0 : Code := { maxStack := 3, maxLocals := 2, code := prog_1_method_1_code, exceptionTable := #[], attributes := #[] }
def k2m0 : Method := { name := "<init>", desc := "(I)V", sig := { parameters := [.int], returnType := none }, accessFlags := 1, code := some k2c0 }
def k2c1 : Code := { maxStack := 5, maxLocals := 6, code := prog_1_method_6_code, exceptionTable := #[], attributes := #[] }
def k2m1 : Method := { name := "addEdge", desc := "(IIII)I", sig := { parameters := [.int, .int, .int, .int], returnType := some .int }, accessFlags := 1, code := some k2c1 }
def k2c2 : Code := { maxStack := 6, maxLocals := 6, code := prog_1_method_7_code, exceptionTable := #[], attributes := #[] }
def k2m2 : Method := { name := "addRule", desc := "(IIII)I", sig := { parameters := [.int, .int, .int, .int], returnType := some .int }, accessFlags := 1, code := some k2c2 }
def k2c3 : Code := { maxStack := 4, maxLocals := 3, code := prog_1_method_10_code, exceptionTable := #[], attributes := #[] }
def k2m3 : Method := { name := "parse", desc := "()Z", sig := { parameters := [], returnType := some .boolean }, accessFlags := 1, code := some k2c3 }
def k2c4 : Code := { maxStack := 1, maxLocals := 1, code := prog_1_method_11_code, exceptionTable := #[], attributes := #[] }
def k2m4 : Method := { name := "status", desc := "()I", sig := { parameters := [], returnType := some .int }, accessFlags := 1, code := some k2c4 }
def k2c5 : Code := { maxStack := 2, maxLocals := 1, code := prog_1_method_12_code, exceptionTable := #[], attributes := #[] }
def k2m5 : Method := { name := "bestWeight", desc := "()I", sig := { parameters := [], returnType := some .int }, accessFlags := 1, code := some k2c5 }
def k2c6 : Code := { maxStack := 4, maxLocals := 5, code := prog_1_method_13_code, exceptionTable := #[], attributes := #[] }
def k2m6 : Method := { name := "spanWeight", desc := "(III)I", sig := { parameters := [.int, .int, .int], returnType := some .int }, accessFlags := 1, code := some k2c6 }
def k2c7 : Code := { maxStack := 5, maxLocals := 4, code := prog_1_method_14_code, exceptionTable := #[], attributes := #[] }
def k2m7 : Method := { name := "edgeBest", desc := "(I)I", sig := { parameters := [.int], returnType := some .int }, accessFlags := 1, code := some k2c7 }
def k2c8 : Code := { maxStack := 2, maxLocals := 3, code := prog_1_method_15_code, exceptionTable := #[], attributes := #[] }
def k2m8 : Method := { name := "ruleBest", desc := "(I)I", sig := { parameters := [.int], returnType := some .int }, accessFlags := 1, code := some k2c8 }
def k2c9 : Code := { maxStack := 2, maxLocals := 2, code := prog_1_method_16_code, exceptionTable := #[], attributes := #[] }
def k2m9 : Method := { name := "clampNodes", desc := "(I)I", sig := { parameters := [.int], returnType := some .int }, accessFlags := 2, code := some k2c9 }
def k2c10 : Code := { maxStack := 3, maxLocals := 2, code := prog_1_method_17_code, exceptionTable := #[], attributes := #[] }
def k2m10 : Method := { name := "clearStore", desc := "()V", sig := { parameters := [], returnType := none }, accessFlags := 2, code := some k2c10 }
def k2c11 : Code := { maxStack := 2, maxLocals := 1, code := prog_1_method_18_code, exceptionTable := #[], attributes := #[] }
def k2m11 : Method := { name := "becomeBuilding", desc := "()V", sig := { parameters := [], returnType := none }, accessFlags := 2, code := some k2c11 }
def k2c12 : Code := { maxStack := 3, maxLocals := 2, code := prog_1_method_19_code, exceptionTable := #[], attributes := #[] }
def k2m12 : Method := { name := "clearTables", desc := "()V", sig := { parameters := [], returnType := none }, accessFlags := 2, code := some k2c12 }
def k2c13 : Code := { maxStack := 2, maxLocals := 4, code := prog_1_method_20_code, exceptionTable := #[], attributes := #[] }
def k2m13 : Method := { name := "inRange", desc := "(III)Z", sig := { parameters := [.int, .int, .int], returnType := some .boolean }, accessFlags := 2, code := some k2c13 }
def k2c14 : Code := { maxStack := 4, maxLocals := 5, code := prog_1_method_21_code, exceptionTable := #[], attributes := #[] }
def k2m14 : Method := { name := "edgeRefused", desc := "(IIII)Z", sig := { parameters := [.int, .int, .int, .int], returnType := some .boolean }, accessFlags := 2, code := some k2c14 }
def k2c15 : Code := { maxStack := 4, maxLocals := 5, code := prog_1_method_22_code, exceptionTable := #[], attributes := #[] }
def k2m15 : Method := { name := "ruleRefused", desc := "(IIII)Z", sig := { parameters := [.int, .int, .int, .int], returnType := some .boolean }, accessFlags := 2, code := some k2c15 }
def k2c16 : Code := { maxStack := 2, maxLocals := 4, code := prog_1_method_23_code, exceptionTable := #[], attributes := #[] }
def k2m16 : Method := { name := "bodyLimit", desc := "(I)I", sig := { parameters := [.int], returnType := some .int }, accessFlags := 2, code := some k2c16 }
def k2c17 : Code := { maxStack := 3, maxLocals := 8, code := prog_1_method_24_code, exceptionTable := #[], attributes := #[] }
def k2m17 : Method := { name := "storeRule", desc := "(IIIII)V", sig := { parameters := [.int, .int, .int, .int, .int], returnType := none }, accessFlags := 2, code := some k2c17 }
def k2c18 : Code := { maxStack := 3, maxLocals := 3, code := prog_1_method_25_code, exceptionTable := #[], attributes := #[] }
def k2m18 : Method := { name := "symbolAt", desc := "(II)I", sig := { parameters := [.int, .int], returnType := some .int }, accessFlags := 2, code := some k2c18 }
def k2c19 : Code := { maxStack := 3, maxLocals := 2, code := prog_1_method_26_code, exceptionTable := #[], attributes := #[] }
def k2m19 : Method := { name := "headCode", desc := "(I)I", sig := { parameters := [.int], returnType := some .int }, accessFlags := 2, code := some k2c19 }
def k2c20 : Code := { maxStack := 2, maxLocals := 2, code := prog_1_method_27_code, exceptionTable := #[], attributes := #[] }
def k2m20 : Method := { name := "isNode", desc := "(I)Z", sig := { parameters := [.int], returnType := some .boolean }, accessFlags := 2, code := some k2c20 }
def k2c21 : Code := { maxStack := 2, maxLocals := 2, code := prog_1_method_28_code, exceptionTable := #[], attributes := #[] }
def k2m21 : Method := { name := "isCode", desc := "(I)Z", sig := { parameters := [.int], returnType := some .boolean }, accessFlags := 2, code := some k2c21 }
def k2c22 : Code := { maxStack := 2, maxLocals := 2, code := prog_1_method_29_code, exceptionTable := #[], attributes := #[] }
def k2m22 : Method := { name := "isRule", desc := "(I)Z", sig := { parameters := [.int], returnType := some .boolean }, accessFlags := 2, code := some k2c22 }
def k2c23 : Code := { maxStack := 2, maxLocals := 2, code := prog_1_method_30_code, exceptionTable := #[], attributes := #[] }
def k2m23 : Method := { name := "isDot", desc := "(I)Z", sig := { parameters := [.int], returnType := some .boolean }, accessFlags := 2, code := some k2c23 }
def k2c24 : Code := { maxStack := 3, maxLocals := 4, code := prog_1_method_31_code, exceptionTable := #[], attributes := #[] }
def k2m24 : Method := { name := "spanSlot", desc := "(III)I", sig := { parameters := [.int, .int, .int], returnType := some .int }, accessFlags := 2, code := some k2c24 }
def k2c25 : Code := { maxStack := 3, maxLocals := 5, code := prog_1_method_32_code, exceptionTable := #[], attributes := #[] }
def k2m25 : Method := { name := "itemSlot", desc := "(IIII)I", sig := { parameters := [.int, .int, .int, .int], returnType := some .int }, accessFlags := 2, code := some k2c25 }
def k2c26 : Code := { maxStack := 4, maxLocals := 5, code := prog_1_method_33_code, exceptionTable := #[], attributes := #[] }
def k2m26 : Method := { name := "getSpan", desc := "(III)I", sig := { parameters := [.int, .int, .int], returnType := some .int }, accessFlags := 2, code := some k2c26 }
def k2c27 : Code := { maxStack := 4, maxLocals := 6, code := prog_1_method_34_code, exceptionTable := #[], attributes := #[] }
def k2m27 : Method := { name := "lowerSpan", desc := "(IIII)Z", sig := { parameters := [.int, .int, .int, .int], returnType := some .boolean }, accessFlags := 2, code := some k2c27 }
def k2c28 : Code := { maxStack := 4, maxLocals := 5, code := prog_1_method_35_code, exceptionTable := #[], attributes := #[] }
def k2m28 : Method := { name := "getOuter", desc := "(III)I", sig := { parameters := [.int, .int, .int], returnType := some .int }, accessFlags := 2, code := some k2c28 }
def k2c29 : Code := { maxStack := 4, maxLocals := 6, code := prog_1_method_36_code, exceptionTable := #[], attributes := #[] }
def k2m29 : Method := { name := "lowerOuter", desc := "(IIII)Z", sig := { parameters := [.int, .int, .int, .int], returnType := some .boolean }, accessFlags := 2, code := some k2c29 }
def k2c30 : Code := { maxStack := 5, maxLocals := 6, code := prog_1_method_37_code, exceptionTable := #[], attributes := #[] }
def k2m30 : Method := { name := "getItem", desc := "(IIII)I", sig := { parameters := [.int, .int, .int, .int], returnType := some .int }, accessFlags := 2, code := some k2c30 }
def k2c31 : Code := { maxStack := 5, maxLocals := 7, code := prog_1_method_38_code, exceptionTable := #[], attributes := #[] }
def k2m31 : Method := { name := "lowerItem", desc := "(IIIII)Z", sig := { parameters := [.int, .int, .int, .int, .int], returnType := some .boolean }, accessFlags := 2, code := some k2c31 }
def k2c32 : Code := { maxStack := 5, maxLocals := 6, code := prog_1_method_39_code, exceptionTable := #[], attributes := #[] }
def k2m32 : Method := { name := "getRest", desc := "(IIII)I", sig := { parameters := [.int, .int, .int, .int], returnType := some .int }, accessFlags := 2, code := some k2c32 }
def k2c33 : Code := { maxStack := 5, maxLocals := 7, code := prog_1_method_40_code, exceptionTable := #[], attributes := #[] }
def k2m33 : Method := { name := "lowerRest", desc := "(IIIII)Z", sig := { parameters := [.int, .int, .int, .int, .int], returnType := some .boolean }, accessFlags := 2, code := some k2c33 }
def k2c34 : Code := { maxStack := 2, maxLocals := 4, code := prog_1_method_41_code, exceptionTable := #[], attributes := #[] }
def k2m34 : Method := { name := "plus", desc := "(II)I", sig := { parameters := [.int, .int], returnType := some .int }, accessFlags := 2, code := some k2c34 }
def k2c35 : Code := { maxStack := 3, maxLocals := 5, code := prog_1_method_42_code, exceptionTable := #[], attributes := #[] }
def k2m35 : Method := { name := "plus3", desc := "(III)I", sig := { parameters := [.int, .int, .int], returnType := some .int }, accessFlags := 2, code := some k2c35 }
def k2c36 : Code := { maxStack := 2, maxLocals := 2, code := prog_1_method_43_code, exceptionTable := #[], attributes := #[] }
def k2m36 : Method := { name := "answer", desc := "(I)I", sig := { parameters := [.int], returnType := some .int }, accessFlags := 2, code := some k2c36 }
def k2c37 : Code := { maxStack := 3, maxLocals := 3, code := prog_1_method_44_code, exceptionTable := #[], attributes := #[] }
def k2m37 : Method := { name := "runInside", desc := "()V", sig := { parameters := [], returnType := none }, accessFlags := 2, code := some k2c37 }
def k2c38 : Code := { maxStack := 6, maxLocals := 2, code := prog_1_method_45_code, exceptionTable := #[], attributes := #[] }
def k2m38 : Method := { name := "scanEdges", desc := "()V", sig := { parameters := [], returnType := none }, accessFlags := 2, code := some k2c38 }
def k2c39 : Code := { maxStack := 7, maxLocals := 3, code := prog_1_method_46_code, exceptionTable := #[], attributes := #[] }
def k2m39 : Method := { name := "seedItems", desc := "()V", sig := { parameters := [], returnType := none }, accessFlags := 2, code := some k2c39 }
def k2c40 : Code := { maxStack := 3, maxLocals := 5, code := prog_1_method_47_code, exceptionTable := #[], attributes := #[] }
def k2m40 : Method := { name := "closeInsideCell", desc := "(II)V", sig := { parameters := [.int, .int], returnType := none }, accessFlags := 2, code := some k2c40 }
def k2c41 : Code := { maxStack := 4, maxLocals := 5, code := prog_1_method_48_code, exceptionTable := #[], attributes := #[] }
def k2m41 : Method := { name := "insideRound", desc := "(II)Z", sig := { parameters := [.int, .int], returnType := some .boolean }, accessFlags := 2, code := some k2c41 }
def k2c42 : Code := { maxStack := 6, maxLocals := 8, code := prog_1_method_49_code, exceptionTable := #[], attributes := #[] }
def k2m42 : Method := { name := "advanceItems", desc := "(III)Z", sig := { parameters := [.int, .int, .int], returnType := some .boolean }, accessFlags := 2, code := some k2c42 }
def k2c43 : Code := { maxStack := 5, maxLocals := 11, code := prog_1_method_50_code, exceptionTable := #[], attributes := #[] }
def k2m43 : Method := { name := "bestAdvance", desc := "(IIII)I", sig := { parameters := [.int, .int, .int, .int], returnType := some .int }, accessFlags := 2, code := some k2c43 }
def k2c44 : Code := { maxStack := 5, maxLocals := 6, code := prog_1_method_51_code, exceptionTable := #[], attributes := #[] }
def k2m44 : Method := { name := "completeItem", desc := "(III)Z", sig := { parameters := [.int, .int, .int], returnType := some .boolean }, accessFlags := 2, code := some k2c44 }
def k2c45 : Code := { maxStack := 3, maxLocals := 4, code := prog_1_method_52_code, exceptionTable := #[], attributes := #[] }
def k2m45 : Method := { name := "runRest", desc := "()V", sig := { parameters := [], returnType := none }, accessFlags := 2, code := some k2c45 }
def k2c46 : Code := { maxStack := 6, maxLocals := 4, code := prog_1_method_53_code, exceptionTable := #[], attributes := #[] }
def k2m46 : Method := { name := "seedRest", desc := "(I)V", sig := { parameters := [.int], returnType := none }, accessFlags := 2, code := some k2c46 }
def k2c47 : Code := { maxStack := 6, maxLocals := 6, code := prog_1_method_54_code, exceptionTable := #[], attributes := #[] }
def k2m47 : Method := { name := "fillRestLevel", desc := "(II)V", sig := { parameters := [.int, .int], returnType := none }, accessFlags := 2, code := some k2c47 }
def k2c48 : Code := { maxStack := 5, maxLocals := 11, code := prog_1_method_55_code, exceptionTable := #[], attributes := #[] }
def k2m48 : Method := { name := "restAt", desc := "(IIII)I", sig := { parameters := [.int, .int, .int, .int], returnType := some .int }, accessFlags := 2, code := some k2c48 }
def k2c49 : Code := { maxStack := 5, maxLocals := 4, code := prog_1_method_56_code, exceptionTable := #[], attributes := #[] }
def k2m49 : Method := { name := "runOuter", desc := "()V", sig := { parameters := [], returnType := none }, accessFlags := 2, code := some k2c49 }
def k2c50 : Code := { maxStack := 3, maxLocals := 5, code := prog_1_method_57_code, exceptionTable := #[], attributes := #[] }
def k2m50 : Method := { name := "closeOuterCell", desc := "(II)V", sig := { parameters := [.int, .int], returnType := none }, accessFlags := 2, code := some k2c50 }
def k2c51 : Code := { maxStack := 4, maxLocals := 5, code := prog_1_method_58_code, exceptionTable := #[], attributes := #[] }
def k2m51 : Method := { name := "outerRound", desc := "(II)Z", sig := { parameters := [.int, .int], returnType := some .boolean }, accessFlags := 2, code := some k2c51 }
def k2c52 : Code := { maxStack := 5, maxLocals := 9, code := prog_1_method_59_code, exceptionTable := #[], attributes := #[] }
def k2m52 : Method := { name := "outerRule", desc := "(III)Z", sig := { parameters := [.int, .int, .int], returnType := some .boolean }, accessFlags := 2, code := some k2c52 }
def k2c53 : Code := { maxStack := 5, maxLocals := 14, code := prog_1_method_60_code, exceptionTable := #[], attributes := #[] }
def k2m53 : Method := { name := "bestContext", desc := "(IIII)I", sig := { parameters := [.int, .int, .int, .int], returnType := some .int }, accessFlags := 2, code := some k2c53 }
def k2c54 : Code := { maxStack := 5, maxLocals := 10, code := prog_1_method_61_code, exceptionTable := #[], attributes := #[] }
def k2m54 : Method := { name := "ruleContext", desc := "(I)I", sig := { parameters := [.int], returnType := some .int }, accessFlags := 2, code := some k2c54 }
/-- LatticeEarley -/
def k2 : Class := { plain "LatticeEarley" (some 0) with
  accessFlags := 49
  interfaces := #[]
  cf := some (fileOf pool2 9 #[] #[{ accessFlags := 1, nameIndex := 5, descriptorIndex := 185, attributes := #[] }, { accessFlags := 1, nameIndex := 259, descriptorIndex := 145, attributes := #[] }, { accessFlags := 1, nameIndex := 261, descriptorIndex := 145, attributes := #[] }, { accessFlags := 1, nameIndex := 264, descriptorIndex := 265, attributes := #[] }, { accessFlags := 1, nameIndex := 266, descriptorIndex := 256, attributes := #[] }, { accessFlags := 1, nameIndex := 267, descriptorIndex := 256, attributes := #[] }, { accessFlags := 1, nameIndex := 268, descriptorIndex := 94, attributes := #[] }, { accessFlags := 1, nameIndex := 269, descriptorIndex := 54, attributes := #[] }, { accessFlags := 1, nameIndex := 270, descriptorIndex := 54, attributes := #[] }, { accessFlags := 2, nameIndex := 53, descriptorIndex := 54, attributes := #[] }, { accessFlags := 2, nameIndex := 60, descriptorIndex := 6, attributes := #[] }, { accessFlags := 2, nameIndex := 76, descriptorIndex := 6, attributes := #[] }, { accessFlags := 2, nameIndex := 63, descriptorIndex := 6, attributes := #[] }, { accessFlags := 2, nameIndex := 131, descriptorIndex := 132, attributes := #[] }, { accessFlags := 2, nameIndex := 72, descriptorIndex := 73, attributes := #[] }, { accessFlags := 2, nameIndex := 79, descriptorIndex := 73, attributes := #[] }, { accessFlags := 2, nameIndex := 135, descriptorIndex := 54, attributes := #[] }, { accessFlags := 2, nameIndex := 82, descriptorIndex := 83, attributes := #[] }, { accessFlags := 2, nameIndex := 86, descriptorIndex := 87, attributes := #[] }, { accessFlags := 2, nameIndex := 181, descriptorIndex := 54, attributes := #[] }, { accessFlags := 2, nameIndex := 113, descriptorIndex := 110, attributes := #[] }, { accessFlags := 2, nameIndex := 109, descriptorIndex := 110, attributes := #[] }, { accessFlags := 2, nameIndex := 125, descriptorIndex := 110, attributes := #[] }, { accessFlags := 2, nameIndex := 138, descriptorIndex := 110, attributes := #[] }, { accessFlags := 2, nameIndex := 141, descriptorIndex := 94, attributes := #[] }, { accessFlags := 2, nameIndex := 144, descriptorIndex := 145, attributes := #[] }, { accessFlags := 2, nameIndex := 93, descriptorIndex := 94, attributes := #[] }, { accessFlags := 2, nameIndex := 158, descriptorIndex := 73, attributes := #[] }, { accessFlags := 2, nameIndex := 119, descriptorIndex := 94, attributes := #[] }, { accessFlags := 2, nameIndex := 200, descriptorIndex := 73, attributes := #[] }, { accessFlags := 2, nameIndex := 178, descriptorIndex := 145, attributes := #[] }, { accessFlags := 2, nameIndex := 161, descriptorIndex := 162, attributes := #[] }, { accessFlags := 2, nameIndex := 197, descriptorIndex := 145, attributes := #[] }, { accessFlags := 2, nameIndex := 191, descriptorIndex := 162, attributes := #[] }, { accessFlags := 2, nameIndex := 122, descriptorIndex := 87, attributes := #[] }, { accessFlags := 2, nameIndex := 215, descriptorIndex := 94, attributes := #[] }, { accessFlags := 2, nameIndex := 116, descriptorIndex := 54, attributes := #[] }, { accessFlags := 2, nameIndex := 90, descriptorIndex := 6, attributes := #[] }, { accessFlags := 2, nameIndex := 148, descriptorIndex := 6, attributes := #[] }, { accessFlags := 2, nameIndex := 151, descriptorIndex := 6, attributes := #[] }, { accessFlags := 2, nameIndex := 154, descriptorIndex := 155, attributes := #[] }, { accessFlags := 2, nameIndex := 165, descriptorIndex := 166, attributes := #[] }, { accessFlags := 2, nameIndex := 169, descriptorIndex := 132, attributes := #[] }, { accessFlags := 2, nameIndex := 175, descriptorIndex := 145, attributes := #[] }, { accessFlags := 2, nameIndex := 172, descriptorIndex := 132, attributes := #[] }, { accessFlags := 2, nameIndex := 103, descriptorIndex := 6, attributes := #[] }, { accessFlags := 2, nameIndex := 184, descriptorIndex := 185, attributes := #[] }, { accessFlags := 2, nameIndex := 188, descriptorIndex := 155, attributes := #[] }, { accessFlags := 2, nameIndex := 194, descriptorIndex := 145, attributes := #[] }, { accessFlags := 2, nameIndex := 106, descriptorIndex := 6, attributes := #[] }, { accessFlags := 2, nameIndex := 203, descriptorIndex := 155, attributes := #[] }, { accessFlags := 2, nameIndex := 206, descriptorIndex := 166, attributes := #[] }, { accessFlags := 2, nameIndex := 209, descriptorIndex := 132, attributes := #[] }, { accessFlags := 2, nameIndex := 212, descriptorIndex := 145, attributes := #[] }, { accessFlags := 2, nameIndex := 128, descriptorIndex := 54, attributes := #[] }] 49 2 #[] #[{ accessFlags := 25, nameIndex := 216, descriptorIndex := 13, attributes := #[] }, { accessFlags := 25, nameIndex := 219, descriptorIndex := 13, attributes := #[] }, { accessFlags := 25, nameIndex := 221, descriptorIndex := 13, attributes := #[] }, { accessFlags := 25, nameIndex := 223, descriptorIndex := 13, attributes := #[] }, { accessFlags := 25, nameIndex := 225, descriptorIndex := 13, attributes := #[] }, { accessFlags := 25, nameIndex := 227, descriptorIndex := 13, attributes := #[] }, { accessFlags := 25, nameIndex := 228, descriptorIndex := 13, attributes := #[] }, { accessFlags := 25, nameIndex := 229, descriptorIndex := 13, attributes := #[] }, { accessFlags := 25, nameIndex := 230, descriptorIndex := 13, attributes := #[] }, { accessFlags := 25, nameIndex := 231, descriptorIndex := 13, attributes := #[] }, { accessFlags := 25, nameIndex := 233, descriptorIndex := 13, attributes := #[] }, { accessFlags := 25, nameIndex := 235, descriptorIndex := 13, attributes := #[] }, { accessFlags := 25, nameIndex := 237, descriptorIndex := 13, attributes := #[] }, { accessFlags := 25, nameIndex := 239, descriptorIndex := 13, attributes := #[] }, { accessFlags := 25, nameIndex := 240, descriptorIndex := 13, attributes := #[] }, { accessFlags := 25, nameIndex := 241, descriptorIndex := 13, attributes := #[] }, { accessFlags := 25, nameIndex := 242, descriptorIndex := 13, attributes := #[] }, { accessFlags := 25, nameIndex := 243, descriptorIndex := 13, attributes := #[] }, { accessFlags := 25, nameIndex := 244, descriptorIndex := 13, attributes := #[] }, { accessFlags := 25, nameIndex := 245, descriptorIndex := 13, attributes := #[] }, { accessFlags := 25, nameIndex := 246, descriptorIndex := 13, attributes := #[] }, { accessFlags := 25, nameIndex := 247, descriptorIndex := 13, attributes := #[] }, { accessFlags := 25, nameIndex := 248, descriptorIndex := 13, attributes := #[] }, { accessFlags := 25, nameIndex := 250, descriptorIndex := 13, attributes := #[] }, { accessFlags := 2, nameIndex := 57, descriptorIndex := 13, attributes := #[] }, { accessFlags := 2, nameIndex := 66, descriptorIndex := 13, attributes := #[] }, { accessFlags := 2, nameIndex := 69, descriptorIndex := 13, attributes := #[] }, { accessFlags := 2, nameIndex := 97, descriptorIndex := 13, attributes := #[] }, { accessFlags := 2, nameIndex := 100, descriptorIndex := 13, attributes := #[] }, { accessFlags := 2, nameIndex := 12, descriptorIndex := 13, attributes := #[] }, { accessFlags := 2, nameIndex := 16, descriptorIndex := 17, attributes := #[] }, { accessFlags := 2, nameIndex := 20, descriptorIndex := 17, attributes := #[] }, { accessFlags := 2, nameIndex := 23, descriptorIndex := 17, attributes := #[] }, { accessFlags := 2, nameIndex := 26, descriptorIndex := 17, attributes := #[] }, { accessFlags := 2, nameIndex := 29, descriptorIndex := 17, attributes := #[] }, { accessFlags := 2, nameIndex := 32, descriptorIndex := 17, attributes := #[] }, { accessFlags := 2, nameIndex := 35, descriptorIndex := 17, attributes := #[] }, { accessFlags := 2, nameIndex := 38, descriptorIndex := 17, attributes := #[] }, { accessFlags := 2, nameIndex := 41, descriptorIndex := 17, attributes := #[] }, { accessFlags := 2, nameIndex := 44, descriptorIndex := 17, attributes := #[] }, { accessFlags := 2, nameIndex := 47, descriptorIndex := 17, attributes := #[] }, { accessFlags := 2, nameIndex := 50, descriptorIndex := 17, attributes := #[] }])
  fields := #[{ name := "MIN_NODES", type := .int, accessFlags := 25, slot := 0, constantValue := 0 }, { name := "MAX_NODES", type := .int, accessFlags := 25, slot := 1, constantValue := 0 }, { name := "MAX_EDGES", type := .int, accessFlags := 25, slot := 2, constantValue := 0 }, { name := "MAX_RULES", type := .int, accessFlags := 25, slot := 3, constantValue := 0 }, { name := "MAX_BODY", type := .int, accessFlags := 25, slot := 4, constantValue := 0 }, { name := "TERMINALS", type := .int, accessFlags := 25, slot := 5, constantValue := 0 }, { name := "NONTERMINALS", type := .int, accessFlags := 25, slot := 6, constantValue := 0 }, { name := "NONTERMINAL_BASE", type := .int, accessFlags := 25, slot := 7, constantValue := 0 }, { name := "START_CODE", type := .int, accessFlags := 25, slot := 8, constantValue := 0 }, { name := "MAX_WEIGHT", type := .int, accessFlags := 25, slot := 9, constantValue := 0 }, { name := "NONE", type := .int, accessFlags := 25, slot := 10, constantValue := 0 }, { name := "STATUS_BUILDING", type := .int, accessFlags := 25, slot := 11, constantValue := 0 }, { name := "STATUS_ACCEPTED", type := .int, accessFlags := 25, slot := 12, constantValue := 0 }, { name := "STATUS_REJECTED", type := .int, accessFlags := 25, slot := 13, constantValue := 0 }, { name := "EDGE_FROM", type := .int, accessFlags := 25, slot := 14, constantValue := 0 }, { name := "EDGE_TO", type := .int, accessFlags := 25, slot := 15, constantValue := 0 }, { name := "EDGE_LABEL", type := .int, accessFlags := 25, slot := 16, constantValue := 0 }, { name := "EDGE_WEIGHT", type := .int, accessFlags := 25, slot := 17, constantValue := 0 }, { name := "RULE_HEAD", type := .int, accessFlags := 25, slot := 18, constantValue := 0 }, { name := "RULE_WEIGHT", type := .int, accessFlags := 25, slot := 19, constantValue := 0 }, { name := "RULE_LENGTH", type := .int, accessFlags := 25, slot := 20, constantValue := 0 }, { name := "RULE_SYM0", type := .int, accessFlags := 25, slot := 21, constantValue := 0 }, { name := "RULE_SYM1", type := .int, accessFlags := 25, slot := 22, constantValue := 0 }, { name := "RULE_SYM2", type := .int, accessFlags := 25, slot := 23, constantValue := 0 }, { name := "nodeTotal", type := .int, accessFlags := 2, slot := 0, constantValue := 0 }, { name := "edgeTotal", type := .int, accessFlags := 2, slot := 1, constantValue := 0 }, { name := "ruleTotal", type := .int, accessFlags := 2, slot := 2, constantValue := 0 }, { name := "state", type := .int, accessFlags := 2, slot := 3, constantValue := 0 }, { name := "bestTotal", type := .int, accessFlags := 2, slot := 4, constantValue := 0 }, { name := "inf", type := .int, accessFlags := 2, slot := 5, constantValue := 0 }, { name := "edgeFrom", type := (.array .int), accessFlags := 2, slot := 6, constantValue := 0 }, { name := "edgeTo", type := (.array .int), accessFlags := 2, slot := 7, constantValue := 0 }, { name := "edgeLabel", type := (.array .int), accessFlags := 2, slot := 8, constantValue := 0 }, { name := "edgeWeight", type := (.array .int), accessFlags := 2, slot := 9, constantValue := 0 }, { name := "ruleHead", type := (.array .int), accessFlags := 2, slot := 10, constantValue := 0 }, { name := "ruleWeight", type := (.array .int), accessFlags := 2, slot := 11, constantValue := 0 }, { name := "ruleLength", type := (.array .int), accessFlags := 2, slot := 12, constantValue := 0 }, { name := "ruleSym", type := (.array .int), accessFlags := 2, slot := 13, constantValue := 0 }, { name := "span", type := (.array .int), accessFlags := 2, slot := 14, constantValue := 0 }, { name := "item", type := (.array .int), accessFlags := 2, slot := 15, constantValue := 0 }, { name := "rest", type := (.array .int), accessFlags := 2, slot := 16, constantValue := 0 }, { name := "outer", type := (.array .int), accessFlags := 2, slot := 17, constantValue := 0 }]
  methods := #[k2m0, k2m1, k2m2, k2m3, k2m4, k2m5, k2m6, k2m7, k2m8, k2m9, k2m10, k2m11, k2m12, k2m13, k2m14, k2m15, k2m16, k2m17, k2m18, k2m19, k2m20, k2m21, k2m22, k2m23, k2m24, k2m25, k2m26, k2m27, k2m28, k2m29, k2m30, k2m31, k2m32, k2m33, k2m34, k2m35, k2m36, k2m37, k2m38, k2m39, k2m40, k2m41, k2m42, k2m43, k2m44, k2m45, k2m46, k2m47, k2m48, k2m49, k2m50, k2m51, k2m52, k2m53, k2m54]
  instanceTypes := #[.int, .int, .int, .int, .int, .int, (.array .int), (.array .int), (.array .int), (.array .int), (.array .int), (.array .int), (.array .int), (.array .int), (.array .int), (.array .int), (.array .int), (.array .int)]
  staticTypes := #[.int, .int, .int, .int, .int, .int, .int, .int, .int, .int, .int, .int, .int, .int, .int, .int, .int, .int, .int, .int, .int, .int, .int, .int]
  resolved := Array.replicate 273 none
  statics := none }

def pool3 : Array CpInfo := pool [(1, u "java/lang/Cloneable"), (0, .class_ 1), (0, u "java/lang/Object"), (0, .class_ 3)] 3

/-- java/lang/Cloneable -/
def k3 : Class := { plain "java/lang/Cloneable" (some 0) with
  accessFlags := 1537
  interfaces := #[]
  cf := some (fileOf pool3 2 #[] #[] 1537 4 #[] #[])
  fields := #[]
  methods := #[]
  instanceTypes := #[]
  staticTypes := #[]
  resolved := Array.replicate 8 none
  statics := none }

def pool4 : Array CpInfo := pool [(1, u "java/io/Serializable"), (0, .class_ 1), (0, u "java/lang/Object"), (0, .class_ 3)] 3

/-- java/io/Serializable -/
def k4 : Class := { plain "java/io/Serializable" (some 0) with
  accessFlags := 1537
  interfaces := #[]
  cf := some (fileOf pool4 2 #[] #[] 1537 4 #[] #[])
  fields := #[]
  methods := #[]
  instanceTypes := #[]
  staticTypes := #[]
  resolved := Array.replicate 8 none
  statics := none }

/-- the primitive byte -/
def k5 : Class := { plain "byte" none with kind := .primitive 'B', accessFlags := 0x411 }
/-- [B -/
def k6 : Class := { plain "[B" (some 0) with kind := .array 5 .byte, interfaces := #[3, 4], accessFlags := 1041 }

/-- the primitive int -/
def k7 : Class := { plain "int" none with kind := .primitive 'I', accessFlags := 0x411 }
/-- [I -/
def k8 : Class := { plain "[I" (some 0) with kind := .array 7 .int, interfaces := #[3, 4], accessFlags := 1041 }

def heap : Heap := #[]
def classes : Array Class := #[k0, k1, k2, k3, k4, k5, k6, k7, k8]
def interned : List (Array UInt16 × Addr) := []
def slotsUsed : Nat := 0
def theMethod : MethodId := ⟨1, 1⟩
def args0 : Array Value := #[.int 5, .int 5, .int 5, .int 5, .int 5, .int 5]
def aboutOver (below : List Frame) : State where
  vm := { classes := classes, interned := interned.toArray }
  heap := heap
  slotsUsed := slotsUsed
  threads := #[{ frames := .invoking theMethod args0 :: below }]
def below0 : List Frame := [.native { method := ⟨0, 0⟩, args := #[] }]
def about1 : State := aboutOver below0
def p0 : Program := .bare "" "" ""
def e0 : Env := launch0.env 0 0 0
theorem w_frames : about1.frames = Frame.invoking theMethod args0 :: below0 := rfl
set_option maxRecDepth 65536 in
theorem w_args : argsFit about1.vm theMethod args0 = true := by decide +kernel
set_option maxRecDepth 65536 in
theorem w_heap : heapFits about1 = true := by decide +kernel
set_option maxRecDepth 65536 in
theorem w_runnable : about1.curStatus? = some .runnable := by decide +kernel
set_option maxRecDepth 65536 in
theorem w_alone : about1.alone = true := by decide +kernel
set_option maxRecDepth 65536 in
theorem w_named : about1.methodNamed? x = some theMethod := by decide +kernel
set_option maxRecDepth 65536 in
theorem w_hears : about1.hears theMethod below0 = true := by decide +kernel
set_option maxRecDepth 65536 in
theorem w_ripe : about1.ripe theMethod args0 below0 = true := by decide +kernel
theorem w_running : about1.status = .running := rfl
set_option maxRecDepth 65536 in
theorem w_room : about1.hasRoom e0.platform room_1 = true :=
  launch0.hasRoom_least _ room_1 (by decide +kernel) (by decide +kernel) (by decide +kernel) (by decide +kernel) (by decide +kernel) (by decide +kernel)
theorem allAtoms_all (ts : List Jvm.Cond) (a : Array Jvm.Value) (st : Jvm.State) : (allAtoms ts).before a st = ts.all (fun c => c.before a st) := by
  induction ts with
  | nil => rfl
  | cons c t ih =>
    show (Jvm.Cond.and c (allAtoms t)).before a st = _
    rw [Jvm.Cond.before_and, ih, List.all_cons]
def words1 : List Jvm.Cond := Jvm.Cond.code x code maxLocals ret :: tables_1
/-- a 'code' word, met by the world's own term for the bytes: nothing is compared byte by byte -/
theorem code_word {y : MethodName} {bytes : ByteArray} {mx : Nat} {rt : Option FieldType} {a : Array Value} {s : State} {m : MethodId} {meth : Method} {c : Code} (h1 : s.methodNamed? y = some m) (h2 : s.vm.method? m = some meth) (h3 : meth.code = some c) (h4 : c.code = bytes)
    (h5 : (c.maxLocals == mx && c.exceptionTable.isEmpty && decide (c.maxStack ≤ mostOperands) && decide (meth.sig.returnType = rt) && !meth.locks && decide (parseMethodDescriptor y.desc = some meth.sig)) = true) : (Jvm.Cond.code y bytes mx rt).before a s = true := by
  simp only [Bool.and_eq_true, beq_iff_eq, Bool.not_eq_true', decide_eq_true_eq] at h5
  obtain ⟨⟨⟨⟨⟨g1, g2⟩, g3⟩, g4⟩, g5⟩, g6⟩ := h5
  simp [Cond.before, Cond.holds, Cond.value, h1, h2, h3, h4, g1, g2, g3, g4, g5, g6]
def isCode : Jvm.Cond → Bool
  | .code _ _ _ _ => true
  | _ => false
theorem all_split {L : List Jvm.Cond} {P : Jvm.Cond → Bool} (h1 : L.all (fun c => isCode c || P c) = true) (h2 : ∀ c ∈ L.filter isCode, P c = true) : L.all P = true := by
  refine List.all_eq_true.mpr fun c hc => ?_
  have h := List.all_eq_true.mp h1 c hc
  rcases Bool.eq_false_or_eq_true (isCode c) with hi | hi
  · exact h2 c (List.mem_filter.mpr ⟨hc, hi⟩)
  · simpa [hi] using h
set_option maxRecDepth 65536 in
theorem w_c0 : (Jvm.Cond.code x code maxLocals ret).before args0 about1 = true := code_word (m := ⟨1, 1⟩) (meth := k1m1) (c := k1c1) (by decide +kernel) rfl rfl rfl (by decide +kernel)
set_option maxRecDepth 65536 in
theorem w_c1 : (Jvm.Cond.code ({ cls := "LatticeEarley", name := "<init>", desc := "(I)V" } : Jvm.MethodName) prog_1_method_1_code (2 : Nat) (Option.none : Option Jvm.ClassFile.FieldType)).before args0 about1 = true := code_word (m := ⟨2, 0⟩) (meth := k2m0) (c := k2c0) (by decide +kernel) rfl rfl rfl (by decide +kernel)
set_option maxRecDepth 65536 in
theorem w_c2 : (Jvm.Cond.code ({ cls := "java/lang/Object", name := "<init>", desc := "()V" } : Jvm.MethodName) object_method_1_code (1 : Nat) (Option.none : Option Jvm.ClassFile.FieldType)).before args0 about1 = true := code_word (m := ⟨0, 0⟩) (meth := k0m0) (c := k0c0) (by decide +kernel) rfl rfl rfl (by decide +kernel)
set_option maxRecDepth 65536 in
theorem w_c3 : (Jvm.Cond.code ({ cls := "LatticeEarley", name := "clampNodes", desc := "(I)I" } : Jvm.MethodName) prog_1_method_16_code (2 : Nat) (Option.some Jvm.ClassFile.FieldType.int)).before args0 about1 = true := code_word (m := ⟨2, 9⟩) (meth := k2m9) (c := k2c9) (by decide +kernel) rfl rfl rfl (by decide +kernel)
set_option maxRecDepth 65536 in
theorem w_c4 : (Jvm.Cond.code ({ cls := "LatticeEarley", name := "clearStore", desc := "()V" } : Jvm.MethodName) prog_1_method_17_code (2 : Nat) (Option.none : Option Jvm.ClassFile.FieldType)).before args0 about1 = true := code_word (m := ⟨2, 10⟩) (meth := k2m10) (c := k2c10) (by decide +kernel) rfl rfl rfl (by decide +kernel)
set_option maxRecDepth 65536 in
theorem w_c5 : (Jvm.Cond.code ({ cls := "LatticeEarley", name := "becomeBuilding", desc := "()V" } : Jvm.MethodName) prog_1_method_18_code (1 : Nat) (Option.none : Option Jvm.ClassFile.FieldType)).before args0 about1 = true := code_word (m := ⟨2, 11⟩) (meth := k2m11) (c := k2c11) (by decide +kernel) rfl rfl rfl (by decide +kernel)
set_option maxRecDepth 65536 in
theorem w_c6 : (Jvm.Cond.code ({ cls := "LatticeEarley", name := "clearTables", desc := "()V" } : Jvm.MethodName) prog_1_method_19_code (2 : Nat) (Option.none : Option Jvm.ClassFile.FieldType)).before args0 about1 = true := code_word (m := ⟨2, 12⟩) (meth := k2m12) (c := k2c12) (by decide +kernel) rfl rfl rfl (by decide +kernel)
set_option maxRecDepth 65536 in
theorem w_c7 : (Jvm.Cond.code ({ cls := "LatticeEarley", name := "addEdge", desc := "(IIII)I" } : Jvm.MethodName) prog_1_method_6_code (6 : Nat) (Option.some Jvm.ClassFile.FieldType.int)).before args0 about1 = true := code_word (m := ⟨2, 1⟩) (meth := k2m1) (c := k2c1) (by decide +kernel) rfl rfl rfl (by decide +kernel)
set_option maxRecDepth 65536 in
theorem w_c8 : (Jvm.Cond.code ({ cls := "LatticeEarley", name := "edgeRefused", desc := "(IIII)Z" } : Jvm.MethodName) prog_1_method_21_code (5 : Nat) (Option.some Jvm.ClassFile.FieldType.boolean)).before args0 about1 = true := code_word (m := ⟨2, 14⟩) (meth := k2m14) (c := k2c14) (by decide +kernel) rfl rfl rfl (by decide +kernel)
set_option maxRecDepth 65536 in
theorem w_c9 : (Jvm.Cond.code ({ cls := "LatticeEarley", name := "inRange", desc := "(III)Z" } : Jvm.MethodName) prog_1_method_20_code (4 : Nat) (Option.some Jvm.ClassFile.FieldType.boolean)).before args0 about1 = true := code_word (m := ⟨2, 13⟩) (meth := k2m13) (c := k2c13) (by decide +kernel) rfl rfl rfl (by decide +kernel)
set_option maxRecDepth 65536 in
theorem w_c10 : (Jvm.Cond.code ({ cls := "LatticeEarley", name := "addRule", desc := "(IIII)I" } : Jvm.MethodName) prog_1_method_7_code (6 : Nat) (Option.some Jvm.ClassFile.FieldType.int)).before args0 about1 = true := code_word (m := ⟨2, 2⟩) (meth := k2m2) (c := k2c2) (by decide +kernel) rfl rfl rfl (by decide +kernel)
set_option maxRecDepth 65536 in
theorem w_c11 : (Jvm.Cond.code ({ cls := "LatticeEarley", name := "ruleRefused", desc := "(IIII)Z" } : Jvm.MethodName) prog_1_method_22_code (5 : Nat) (Option.some Jvm.ClassFile.FieldType.boolean)).before args0 about1 = true := code_word (m := ⟨2, 15⟩) (meth := k2m15) (c := k2c15) (by decide +kernel) rfl rfl rfl (by decide +kernel)
set_option maxRecDepth 65536 in
theorem w_c12 : (Jvm.Cond.code ({ cls := "LatticeEarley", name := "bodyLimit", desc := "(I)I" } : Jvm.MethodName) prog_1_method_23_code (4 : Nat) (Option.some Jvm.ClassFile.FieldType.int)).before args0 about1 = true := code_word (m := ⟨2, 16⟩) (meth := k2m16) (c := k2c16) (by decide +kernel) rfl rfl rfl (by decide +kernel)
set_option maxRecDepth 65536 in
theorem w_c13 : (Jvm.Cond.code ({ cls := "LatticeEarley", name := "storeRule", desc := "(IIIII)V" } : Jvm.MethodName) prog_1_method_24_code (8 : Nat) (Option.none : Option Jvm.ClassFile.FieldType)).before args0 about1 = true := code_word (m := ⟨2, 17⟩) (meth := k2m17) (c := k2c17) (by decide +kernel) rfl rfl rfl (by decide +kernel)
set_option maxRecDepth 65536 in
theorem w_c14 : (Jvm.Cond.code ({ cls := "LatticeEarley", name := "parse", desc := "()Z" } : Jvm.MethodName) prog_1_method_10_code (3 : Nat) (Option.some Jvm.ClassFile.FieldType.boolean)).before args0 about1 = true := code_word (m := ⟨2, 3⟩) (meth := k2m3) (c := k2c3) (by decide +kernel) rfl rfl rfl (by decide +kernel)
set_option maxRecDepth 65536 in
theorem w_c15 : (Jvm.Cond.code ({ cls := "LatticeEarley", name := "runInside", desc := "()V" } : Jvm.MethodName) prog_1_method_44_code (3 : Nat) (Option.none : Option Jvm.ClassFile.FieldType)).before args0 about1 = true := code_word (m := ⟨2, 37⟩) (meth := k2m37) (c := k2c37) (by decide +kernel) rfl rfl rfl (by decide +kernel)
set_option maxRecDepth 65536 in
theorem w_c16 : (Jvm.Cond.code ({ cls := "LatticeEarley", name := "scanEdges", desc := "()V" } : Jvm.MethodName) prog_1_method_45_code (2 : Nat) (Option.none : Option Jvm.ClassFile.FieldType)).before args0 about1 = true := code_word (m := ⟨2, 38⟩) (meth := k2m38) (c := k2c38) (by decide +kernel) rfl rfl rfl (by decide +kernel)
set_option maxRecDepth 65536 in
theorem w_c17 : (Jvm.Cond.code ({ cls := "LatticeEarley", name := "lowerSpan", desc := "(IIII)Z" } : Jvm.MethodName) prog_1_method_34_code (6 : Nat) (Option.some Jvm.ClassFile.FieldType.boolean)).before args0 about1 = true := code_word (m := ⟨2, 27⟩) (meth := k2m27) (c := k2c27) (by decide +kernel) rfl rfl rfl (by decide +kernel)
set_option maxRecDepth 65536 in
theorem w_c18 : (Jvm.Cond.code ({ cls := "LatticeEarley", name := "spanSlot", desc := "(III)I" } : Jvm.MethodName) prog_1_method_31_code (4 : Nat) (Option.some Jvm.ClassFile.FieldType.int)).before args0 about1 = true := code_word (m := ⟨2, 24⟩) (meth := k2m24) (c := k2c24) (by decide +kernel) rfl rfl rfl (by decide +kernel)
set_option maxRecDepth 65536 in
theorem w_c19 : (Jvm.Cond.code ({ cls := "LatticeEarley", name := "isCode", desc := "(I)Z" } : Jvm.MethodName) prog_1_method_28_code (2 : Nat) (Option.some Jvm.ClassFile.FieldType.boolean)).before args0 about1 = true := code_word (m := ⟨2, 21⟩) (meth := k2m21) (c := k2c21) (by decide +kernel) rfl rfl rfl (by decide +kernel)
set_option maxRecDepth 65536 in
theorem w_c20 : (Jvm.Cond.code ({ cls := "LatticeEarley", name := "isNode", desc := "(I)Z" } : Jvm.MethodName) prog_1_method_27_code (2 : Nat) (Option.some Jvm.ClassFile.FieldType.boolean)).before args0 about1 = true := code_word (m := ⟨2, 20⟩) (meth := k2m20) (c := k2c20) (by decide +kernel) rfl rfl rfl (by decide +kernel)
set_option maxRecDepth 65536 in
theorem w_c21 : (Jvm.Cond.code ({ cls := "LatticeEarley", name := "seedItems", desc := "()V" } : Jvm.MethodName) prog_1_method_46_code (3 : Nat) (Option.none : Option Jvm.ClassFile.FieldType)).before args0 about1 = true := code_word (m := ⟨2, 39⟩) (meth := k2m39) (c := k2c39) (by decide +kernel) rfl rfl rfl (by decide +kernel)
set_option maxRecDepth 65536 in
theorem w_c22 : (Jvm.Cond.code ({ cls := "LatticeEarley", name := "lowerItem", desc := "(IIIII)Z" } : Jvm.MethodName) prog_1_method_38_code (7 : Nat) (Option.some Jvm.ClassFile.FieldType.boolean)).before args0 about1 = true := code_word (m := ⟨2, 31⟩) (meth := k2m31) (c := k2c31) (by decide +kernel) rfl rfl rfl (by decide +kernel)
set_option maxRecDepth 65536 in
theorem w_c23 : (Jvm.Cond.code ({ cls := "LatticeEarley", name := "itemSlot", desc := "(IIII)I" } : Jvm.MethodName) prog_1_method_32_code (5 : Nat) (Option.some Jvm.ClassFile.FieldType.int)).before args0 about1 = true := code_word (m := ⟨2, 25⟩) (meth := k2m25) (c := k2c25) (by decide +kernel) rfl rfl rfl (by decide +kernel)
set_option maxRecDepth 65536 in
theorem w_c24 : (Jvm.Cond.code ({ cls := "LatticeEarley", name := "isRule", desc := "(I)Z" } : Jvm.MethodName) prog_1_method_29_code (2 : Nat) (Option.some Jvm.ClassFile.FieldType.boolean)).before args0 about1 = true := code_word (m := ⟨2, 22⟩) (meth := k2m22) (c := k2c22) (by decide +kernel) rfl rfl rfl (by decide +kernel)
set_option maxRecDepth 65536 in
theorem w_c25 : (Jvm.Cond.code ({ cls := "LatticeEarley", name := "isDot", desc := "(I)Z" } : Jvm.MethodName) prog_1_method_30_code (2 : Nat) (Option.some Jvm.ClassFile.FieldType.boolean)).before args0 about1 = true := code_word (m := ⟨2, 23⟩) (meth := k2m23) (c := k2c23) (by decide +kernel) rfl rfl rfl (by decide +kernel)
set_option maxRecDepth 65536 in
theorem w_c26 : (Jvm.Cond.code ({ cls := "LatticeEarley", name := "closeInsideCell", desc := "(II)V" } : Jvm.MethodName) prog_1_method_47_code (5 : Nat) (Option.none : Option Jvm.ClassFile.FieldType)).before args0 about1 = true := code_word (m := ⟨2, 40⟩) (meth := k2m40) (c := k2c40) (by decide +kernel) rfl rfl rfl (by decide +kernel)
set_option maxRecDepth 65536 in
theorem w_c27 : (Jvm.Cond.code ({ cls := "LatticeEarley", name := "insideRound", desc := "(II)Z" } : Jvm.MethodName) prog_1_method_48_code (5 : Nat) (Option.some Jvm.ClassFile.FieldType.boolean)).before args0 about1 = true := code_word (m := ⟨2, 41⟩) (meth := k2m41) (c := k2c41) (by decide +kernel) rfl rfl rfl (by decide +kernel)
set_option maxRecDepth 65536 in
theorem w_c28 : (Jvm.Cond.code ({ cls := "LatticeEarley", name := "advanceItems", desc := "(III)Z" } : Jvm.MethodName) prog_1_method_49_code (8 : Nat) (Option.some Jvm.ClassFile.FieldType.boolean)).before args0 about1 = true := code_word (m := ⟨2, 42⟩) (meth := k2m42) (c := k2c42) (by decide +kernel) rfl rfl rfl (by decide +kernel)
set_option maxRecDepth 65536 in
theorem w_c29 : (Jvm.Cond.code ({ cls := "LatticeEarley", name := "bestAdvance", desc := "(IIII)I" } : Jvm.MethodName) prog_1_method_50_code (11 : Nat) (Option.some Jvm.ClassFile.FieldType.int)).before args0 about1 = true := code_word (m := ⟨2, 43⟩) (meth := k2m43) (c := k2c43) (by decide +kernel) rfl rfl rfl (by decide +kernel)
set_option maxRecDepth 65536 in
theorem w_c30 : (Jvm.Cond.code ({ cls := "LatticeEarley", name := "symbolAt", desc := "(II)I" } : Jvm.MethodName) prog_1_method_25_code (3 : Nat) (Option.some Jvm.ClassFile.FieldType.int)).before args0 about1 = true := code_word (m := ⟨2, 18⟩) (meth := k2m18) (c := k2c18) (by decide +kernel) rfl rfl rfl (by decide +kernel)
set_option maxRecDepth 65536 in
theorem w_c31 : (Jvm.Cond.code ({ cls := "LatticeEarley", name := "getItem", desc := "(IIII)I" } : Jvm.MethodName) prog_1_method_37_code (6 : Nat) (Option.some Jvm.ClassFile.FieldType.int)).before args0 about1 = true := code_word (m := ⟨2, 30⟩) (meth := k2m30) (c := k2c30) (by decide +kernel) rfl rfl rfl (by decide +kernel)
set_option maxRecDepth 65536 in
theorem w_c32 : (Jvm.Cond.code ({ cls := "LatticeEarley", name := "getSpan", desc := "(III)I" } : Jvm.MethodName) prog_1_method_33_code (5 : Nat) (Option.some Jvm.ClassFile.FieldType.int)).before args0 about1 = true := code_word (m := ⟨2, 26⟩) (meth := k2m26) (c := k2c26) (by decide +kernel) rfl rfl rfl (by decide +kernel)
set_option maxRecDepth 65536 in
theorem w_c33 : (Jvm.Cond.code ({ cls := "LatticeEarley", name := "plus", desc := "(II)I" } : Jvm.MethodName) prog_1_method_41_code (4 : Nat) (Option.some Jvm.ClassFile.FieldType.int)).before args0 about1 = true := code_word (m := ⟨2, 34⟩) (meth := k2m34) (c := k2c34) (by decide +kernel) rfl rfl rfl (by decide +kernel)
set_option maxRecDepth 65536 in
theorem w_c34 : (Jvm.Cond.code ({ cls := "LatticeEarley", name := "completeItem", desc := "(III)Z" } : Jvm.MethodName) prog_1_method_51_code (6 : Nat) (Option.some Jvm.ClassFile.FieldType.boolean)).before args0 about1 = true := code_word (m := ⟨2, 44⟩) (meth := k2m44) (c := k2c44) (by decide +kernel) rfl rfl rfl (by decide +kernel)
set_option maxRecDepth 65536 in
theorem w_c35 : (Jvm.Cond.code ({ cls := "LatticeEarley", name := "headCode", desc := "(I)I" } : Jvm.MethodName) prog_1_method_26_code (2 : Nat) (Option.some Jvm.ClassFile.FieldType.int)).before args0 about1 = true := code_word (m := ⟨2, 19⟩) (meth := k2m19) (c := k2c19) (by decide +kernel) rfl rfl rfl (by decide +kernel)
set_option maxRecDepth 65536 in
theorem w_c36 : (Jvm.Cond.code ({ cls := "LatticeEarley", name := "runRest", desc := "()V" } : Jvm.MethodName) prog_1_method_52_code (4 : Nat) (Option.none : Option Jvm.ClassFile.FieldType)).before args0 about1 = true := code_word (m := ⟨2, 45⟩) (meth := k2m45) (c := k2c45) (by decide +kernel) rfl rfl rfl (by decide +kernel)
set_option maxRecDepth 65536 in
theorem w_c37 : (Jvm.Cond.code ({ cls := "LatticeEarley", name := "seedRest", desc := "(I)V" } : Jvm.MethodName) prog_1_method_53_code (4 : Nat) (Option.none : Option Jvm.ClassFile.FieldType)).before args0 about1 = true := code_word (m := ⟨2, 46⟩) (meth := k2m46) (c := k2c46) (by decide +kernel) rfl rfl rfl (by decide +kernel)
set_option maxRecDepth 65536 in
theorem w_c38 : (Jvm.Cond.code ({ cls := "LatticeEarley", name := "lowerRest", desc := "(IIIII)Z" } : Jvm.MethodName) prog_1_method_40_code (7 : Nat) (Option.some Jvm.ClassFile.FieldType.boolean)).before args0 about1 = true := code_word (m := ⟨2, 33⟩) (meth := k2m33) (c := k2c33) (by decide +kernel) rfl rfl rfl (by decide +kernel)
set_option maxRecDepth 65536 in
theorem w_c39 : (Jvm.Cond.code ({ cls := "LatticeEarley", name := "fillRestLevel", desc := "(II)V" } : Jvm.MethodName) prog_1_method_54_code (6 : Nat) (Option.none : Option Jvm.ClassFile.FieldType)).before args0 about1 = true := code_word (m := ⟨2, 47⟩) (meth := k2m47) (c := k2c47) (by decide +kernel) rfl rfl rfl (by decide +kernel)
set_option maxRecDepth 65536 in
theorem w_c40 : (Jvm.Cond.code ({ cls := "LatticeEarley", name := "restAt", desc := "(IIII)I" } : Jvm.MethodName) prog_1_method_55_code (11 : Nat) (Option.some Jvm.ClassFile.FieldType.int)).before args0 about1 = true := code_word (m := ⟨2, 48⟩) (meth := k2m48) (c := k2c48) (by decide +kernel) rfl rfl rfl (by decide +kernel)
set_option maxRecDepth 65536 in
theorem w_c41 : (Jvm.Cond.code ({ cls := "LatticeEarley", name := "getRest", desc := "(IIII)I" } : Jvm.MethodName) prog_1_method_39_code (6 : Nat) (Option.some Jvm.ClassFile.FieldType.int)).before args0 about1 = true := code_word (m := ⟨2, 32⟩) (meth := k2m32) (c := k2c32) (by decide +kernel) rfl rfl rfl (by decide +kernel)
set_option maxRecDepth 65536 in
theorem w_c42 : (Jvm.Cond.code ({ cls := "LatticeEarley", name := "runOuter", desc := "()V" } : Jvm.MethodName) prog_1_method_56_code (4 : Nat) (Option.none : Option Jvm.ClassFile.FieldType)).before args0 about1 = true := code_word (m := ⟨2, 49⟩) (meth := k2m49) (c := k2c49) (by decide +kernel) rfl rfl rfl (by decide +kernel)
set_option maxRecDepth 65536 in
theorem w_c43 : (Jvm.Cond.code ({ cls := "LatticeEarley", name := "lowerOuter", desc := "(IIII)Z" } : Jvm.MethodName) prog_1_method_36_code (6 : Nat) (Option.some Jvm.ClassFile.FieldType.boolean)).before args0 about1 = true := code_word (m := ⟨2, 29⟩) (meth := k2m29) (c := k2c29) (by decide +kernel) rfl rfl rfl (by decide +kernel)
set_option maxRecDepth 65536 in
theorem w_c44 : (Jvm.Cond.code ({ cls := "LatticeEarley", name := "closeOuterCell", desc := "(II)V" } : Jvm.MethodName) prog_1_method_57_code (5 : Nat) (Option.none : Option Jvm.ClassFile.FieldType)).before args0 about1 = true := code_word (m := ⟨2, 50⟩) (meth := k2m50) (c := k2c50) (by decide +kernel) rfl rfl rfl (by decide +kernel)
set_option maxRecDepth 65536 in
theorem w_c45 : (Jvm.Cond.code ({ cls := "LatticeEarley", name := "outerRound", desc := "(II)Z" } : Jvm.MethodName) prog_1_method_58_code (5 : Nat) (Option.some Jvm.ClassFile.FieldType.boolean)).before args0 about1 = true := code_word (m := ⟨2, 51⟩) (meth := k2m51) (c := k2c51) (by decide +kernel) rfl rfl rfl (by decide +kernel)
set_option maxRecDepth 65536 in
theorem w_c46 : (Jvm.Cond.code ({ cls := "LatticeEarley", name := "outerRule", desc := "(III)Z" } : Jvm.MethodName) prog_1_method_59_code (9 : Nat) (Option.some Jvm.ClassFile.FieldType.boolean)).before args0 about1 = true := code_word (m := ⟨2, 52⟩) (meth := k2m52) (c := k2c52) (by decide +kernel) rfl rfl rfl (by decide +kernel)
set_option maxRecDepth 65536 in
theorem w_c47 : (Jvm.Cond.code ({ cls := "LatticeEarley", name := "bestContext", desc := "(IIII)I" } : Jvm.MethodName) prog_1_method_60_code (14 : Nat) (Option.some Jvm.ClassFile.FieldType.int)).before args0 about1 = true := code_word (m := ⟨2, 53⟩) (meth := k2m53) (c := k2c53) (by decide +kernel) rfl rfl rfl (by decide +kernel)
set_option maxRecDepth 65536 in
theorem w_c48 : (Jvm.Cond.code ({ cls := "LatticeEarley", name := "getOuter", desc := "(III)I" } : Jvm.MethodName) prog_1_method_35_code (5 : Nat) (Option.some Jvm.ClassFile.FieldType.int)).before args0 about1 = true := code_word (m := ⟨2, 28⟩) (meth := k2m28) (c := k2c28) (by decide +kernel) rfl rfl rfl (by decide +kernel)
set_option maxRecDepth 65536 in
theorem w_c49 : (Jvm.Cond.code ({ cls := "LatticeEarley", name := "plus3", desc := "(III)I" } : Jvm.MethodName) prog_1_method_42_code (5 : Nat) (Option.some Jvm.ClassFile.FieldType.int)).before args0 about1 = true := code_word (m := ⟨2, 35⟩) (meth := k2m35) (c := k2c35) (by decide +kernel) rfl rfl rfl (by decide +kernel)
set_option maxRecDepth 65536 in
theorem w_c50 : (Jvm.Cond.code ({ cls := "LatticeEarley", name := "status", desc := "()I" } : Jvm.MethodName) prog_1_method_11_code (1 : Nat) (Option.some Jvm.ClassFile.FieldType.int)).before args0 about1 = true := code_word (m := ⟨2, 4⟩) (meth := k2m4) (c := k2c4) (by decide +kernel) rfl rfl rfl (by decide +kernel)
set_option maxRecDepth 65536 in
theorem w_c51 : (Jvm.Cond.code ({ cls := "LatticeEarley", name := "bestWeight", desc := "()I" } : Jvm.MethodName) prog_1_method_12_code (1 : Nat) (Option.some Jvm.ClassFile.FieldType.int)).before args0 about1 = true := code_word (m := ⟨2, 5⟩) (meth := k2m5) (c := k2c5) (by decide +kernel) rfl rfl rfl (by decide +kernel)
set_option maxRecDepth 65536 in
theorem w_c52 : (Jvm.Cond.code ({ cls := "LatticeEarley", name := "spanWeight", desc := "(III)I" } : Jvm.MethodName) prog_1_method_13_code (5 : Nat) (Option.some Jvm.ClassFile.FieldType.int)).before args0 about1 = true := code_word (m := ⟨2, 6⟩) (meth := k2m6) (c := k2c6) (by decide +kernel) rfl rfl rfl (by decide +kernel)
set_option maxRecDepth 65536 in
theorem w_c53 : (Jvm.Cond.code ({ cls := "LatticeEarley", name := "answer", desc := "(I)I" } : Jvm.MethodName) prog_1_method_43_code (2 : Nat) (Option.some Jvm.ClassFile.FieldType.int)).before args0 about1 = true := code_word (m := ⟨2, 36⟩) (meth := k2m36) (c := k2c36) (by decide +kernel) rfl rfl rfl (by decide +kernel)
set_option maxRecDepth 65536 in
theorem w_c54 : (Jvm.Cond.code ({ cls := "LatticeEarley", name := "edgeBest", desc := "(I)I" } : Jvm.MethodName) prog_1_method_14_code (4 : Nat) (Option.some Jvm.ClassFile.FieldType.int)).before args0 about1 = true := code_word (m := ⟨2, 7⟩) (meth := k2m7) (c := k2c7) (by decide +kernel) rfl rfl rfl (by decide +kernel)
set_option maxRecDepth 65536 in
theorem w_c55 : (Jvm.Cond.code ({ cls := "LatticeEarley", name := "ruleBest", desc := "(I)I" } : Jvm.MethodName) prog_1_method_15_code (3 : Nat) (Option.some Jvm.ClassFile.FieldType.int)).before args0 about1 = true := code_word (m := ⟨2, 8⟩) (meth := k2m8) (c := k2c8) (by decide +kernel) rfl rfl rfl (by decide +kernel)
set_option maxRecDepth 65536 in
theorem w_c56 : (Jvm.Cond.code ({ cls := "LatticeEarley", name := "ruleContext", desc := "(I)I" } : Jvm.MethodName) prog_1_method_61_code (10 : Nat) (Option.some Jvm.ClassFile.FieldType.int)).before args0 about1 = true := code_word (m := ⟨2, 54⟩) (meth := k2m54) (c := k2c54) (by decide +kernel) rfl rfl rfl (by decide +kernel)
def codes1 : List Jvm.Cond := [Jvm.Cond.code x code maxLocals ret, Jvm.Cond.code ({ cls := "LatticeEarley", name := "<init>", desc := "(I)V" } : Jvm.MethodName) prog_1_method_1_code (2 : Nat) (Option.none : Option Jvm.ClassFile.FieldType), Jvm.Cond.code ({ cls := "java/lang/Object", name := "<init>", desc := "()V" } : Jvm.MethodName) object_method_1_code (1 : Nat) (Option.none : Option Jvm.ClassFile.FieldType), Jvm.Cond.code ({ cls := "LatticeEarley", name := "clampNodes", desc := "(I)I" } : Jvm.MethodName) prog_1_method_16_code (2 : Nat) (Option.some Jvm.ClassFile.FieldType.int), Jvm.Cond.code ({ cls := "LatticeEarley", name := "clearStore", desc := "()V" } : Jvm.MethodName) prog_1_method_17_code (2 : Nat) (Option.none : Option Jvm.ClassFile.FieldType), Jvm.Cond.code ({ cls := "LatticeEarley", name := "becomeBuilding", desc := "()V" } : Jvm.MethodName) prog_1_method_18_code (1 : Nat) (Option.none : Option Jvm.ClassFile.FieldType), Jvm.Cond.code ({ cls := "LatticeEarley", name := "clearTables", desc := "()V" } : Jvm.MethodName) prog_1_method_19_code (2 : Nat) (Option.none : Option Jvm.ClassFile.FieldType), Jvm.Cond.code ({ cls := "LatticeEarley", name := "addEdge", desc := "(IIII)I" } : Jvm.MethodName) prog_1_method_6_code (6 : Nat) (Option.some Jvm.ClassFile.FieldType.int), Jvm.Cond.code ({ cls := "LatticeEarley", name := "edgeRefused", desc := "(IIII)Z" } : Jvm.MethodName) prog_1_method_21_code (5 : Nat) (Option.some Jvm.ClassFile.FieldType.boolean), Jvm.Cond.code ({ cls := "LatticeEarley", name := "inRange", desc := "(III)Z" } : Jvm.MethodName) prog_1_method_20_code (4 : Nat) (Option.some Jvm.ClassFile.FieldType.boolean), Jvm.Cond.code ({ cls := "LatticeEarley", name := "addRule", desc := "(IIII)I" } : Jvm.MethodName) prog_1_method_7_code (6 : Nat) (Option.some Jvm.ClassFile.FieldType.int), Jvm.Cond.code ({ cls := "LatticeEarley", name := "ruleRefused", desc := "(IIII)Z" } : Jvm.MethodName) prog_1_method_22_code (5 : Nat) (Option.some Jvm.ClassFile.FieldType.boolean), Jvm.Cond.code ({ cls := "LatticeEarley", name := "bodyLimit", desc := "(I)I" } : Jvm.MethodName) prog_1_method_23_code (4 : Nat) (Option.some Jvm.ClassFile.FieldType.int), Jvm.Cond.code ({ cls := "LatticeEarley", name := "storeRule", desc := "(IIIII)V" } : Jvm.MethodName) prog_1_method_24_code (8 : Nat) (Option.none : Option Jvm.ClassFile.FieldType), Jvm.Cond.code ({ cls := "LatticeEarley", name := "parse", desc := "()Z" } : Jvm.MethodName) prog_1_method_10_code (3 : Nat) (Option.some Jvm.ClassFile.FieldType.boolean), Jvm.Cond.code ({ cls := "LatticeEarley", name := "runInside", desc := "()V" } : Jvm.MethodName) prog_1_method_44_code (3 : Nat) (Option.none : Option Jvm.ClassFile.FieldType), Jvm.Cond.code ({ cls := "LatticeEarley", name := "scanEdges", desc := "()V" } : Jvm.MethodName) prog_1_method_45_code (2 : Nat) (Option.none : Option Jvm.ClassFile.FieldType), Jvm.Cond.code ({ cls := "LatticeEarley", name := "lowerSpan", desc := "(IIII)Z" } : Jvm.MethodName) prog_1_method_34_code (6 : Nat) (Option.some Jvm.ClassFile.FieldType.boolean), Jvm.Cond.code ({ cls := "LatticeEarley", name := "spanSlot", desc := "(III)I" } : Jvm.MethodName) prog_1_method_31_code (4 : Nat) (Option.some Jvm.ClassFile.FieldType.int), Jvm.Cond.code ({ cls := "LatticeEarley", name := "isCode", desc := "(I)Z" } : Jvm.MethodName) prog_1_method_28_code (2 : Nat) (Option.some Jvm.ClassFile.FieldType.boolean), Jvm.Cond.code ({ cls := "LatticeEarley", name := "isNode", desc := "(I)Z" } : Jvm.MethodName) prog_1_method_27_code (2 : Nat) (Option.some Jvm.ClassFile.FieldType.boolean), Jvm.Cond.code ({ cls := "LatticeEarley", name := "seedItems", desc := "()V" } : Jvm.MethodName) prog_1_method_46_code (3 : Nat) (Option.none : Option Jvm.ClassFile.FieldType), Jvm.Cond.code ({ cls := "LatticeEarley", name := "lowerItem", desc := "(IIIII)Z" } : Jvm.MethodName) prog_1_method_38_code (7 : Nat) (Option.some Jvm.ClassFile.FieldType.boolean), Jvm.Cond.code ({ cls := "LatticeEarley", name := "itemSlot", desc := "(IIII)I" } : Jvm.MethodName) prog_1_method_32_code (5 : Nat) (Option.some Jvm.ClassFile.FieldType.int), Jvm.Cond.code ({ cls := "LatticeEarley", name := "isRule", desc := "(I)Z" } : Jvm.MethodName) prog_1_method_29_code (2 : Nat) (Option.some Jvm.ClassFile.FieldType.boolean), Jvm.Cond.code ({ cls := "LatticeEarley", name := "isDot", desc := "(I)Z" } : Jvm.MethodName) prog_1_method_30_code (2 : Nat) (Option.some Jvm.ClassFile.FieldType.boolean), Jvm.Cond.code ({ cls := "LatticeEarley", name := "closeInsideCell", desc := "(II)V" } : Jvm.MethodName) prog_1_method_47_code (5 : Nat) (Option.none : Option Jvm.ClassFile.FieldType), Jvm.Cond.code ({ cls := "LatticeEarley", name := "insideRound", desc := "(II)Z" } : Jvm.MethodName) prog_1_method_48_code (5 : Nat) (Option.some Jvm.ClassFile.FieldType.boolean), Jvm.Cond.code ({ cls := "LatticeEarley", name := "advanceItems", desc := "(III)Z" } : Jvm.MethodName) prog_1_method_49_code (8 : Nat) (Option.some Jvm.ClassFile.FieldType.boolean), Jvm.Cond.code ({ cls := "LatticeEarley", name := "bestAdvance", desc := "(IIII)I" } : Jvm.MethodName) prog_1_method_50_code (11 : Nat) (Option.some Jvm.ClassFile.FieldType.int), Jvm.Cond.code ({ cls := "LatticeEarley", name := "symbolAt", desc := "(II)I" } : Jvm.MethodName) prog_1_method_25_code (3 : Nat) (Option.some Jvm.ClassFile.FieldType.int), Jvm.Cond.code ({ cls := "LatticeEarley", name := "getItem", desc := "(IIII)I" } : Jvm.MethodName) prog_1_method_37_code (6 : Nat) (Option.some Jvm.ClassFile.FieldType.int), Jvm.Cond.code ({ cls := "LatticeEarley", name := "getSpan", desc := "(III)I" } : Jvm.MethodName) prog_1_method_33_code (5 : Nat) (Option.some Jvm.ClassFile.FieldType.int), Jvm.Cond.code ({ cls := "LatticeEarley", name := "plus", desc := "(II)I" } : Jvm.MethodName) prog_1_method_41_code (4 : Nat) (Option.some Jvm.ClassFile.FieldType.int), Jvm.Cond.code ({ cls := "LatticeEarley", name := "completeItem", desc := "(III)Z" } : Jvm.MethodName) prog_1_method_51_code (6 : Nat) (Option.some Jvm.ClassFile.FieldType.boolean), Jvm.Cond.code ({ cls := "LatticeEarley", name := "headCode", desc := "(I)I" } : Jvm.MethodName) prog_1_method_26_code (2 : Nat) (Option.some Jvm.ClassFile.FieldType.int), Jvm.Cond.code ({ cls := "LatticeEarley", name := "runRest", desc := "()V" } : Jvm.MethodName) prog_1_method_52_code (4 : Nat) (Option.none : Option Jvm.ClassFile.FieldType), Jvm.Cond.code ({ cls := "LatticeEarley", name := "seedRest", desc := "(I)V" } : Jvm.MethodName) prog_1_method_53_code (4 : Nat) (Option.none : Option Jvm.ClassFile.FieldType), Jvm.Cond.code ({ cls := "LatticeEarley", name := "lowerRest", desc := "(IIIII)Z" } : Jvm.MethodName) prog_1_method_40_code (7 : Nat) (Option.some Jvm.ClassFile.FieldType.boolean), Jvm.Cond.code ({ cls := "LatticeEarley", name := "fillRestLevel", desc := "(II)V" } : Jvm.MethodName) prog_1_method_54_code (6 : Nat) (Option.none : Option Jvm.ClassFile.FieldType), Jvm.Cond.code ({ cls := "LatticeEarley", name := "restAt", desc := "(IIII)I" } : Jvm.MethodName) prog_1_method_55_code (11 : Nat) (Option.some Jvm.ClassFile.FieldType.int), Jvm.Cond.code ({ cls := "LatticeEarley", name := "getRest", desc := "(IIII)I" } : Jvm.MethodName) prog_1_method_39_code (6 : Nat) (Option.some Jvm.ClassFile.FieldType.int), Jvm.Cond.code ({ cls := "LatticeEarley", name := "runOuter", desc := "()V" } : Jvm.MethodName) prog_1_method_56_code (4 : Nat) (Option.none : Option Jvm.ClassFile.FieldType), Jvm.Cond.code ({ cls := "LatticeEarley", name := "lowerOuter", desc := "(IIII)Z" } : Jvm.MethodName) prog_1_method_36_code (6 : Nat) (Option.some Jvm.ClassFile.FieldType.boolean), Jvm.Cond.code ({ cls := "LatticeEarley", name := "closeOuterCell", desc := "(II)V" } : Jvm.MethodName) prog_1_method_57_code (5 : Nat) (Option.none : Option Jvm.ClassFile.FieldType), Jvm.Cond.code ({ cls := "LatticeEarley", name := "outerRound", desc := "(II)Z" } : Jvm.MethodName) prog_1_method_58_code (5 : Nat) (Option.some Jvm.ClassFile.FieldType.boolean), Jvm.Cond.code ({ cls := "LatticeEarley", name := "outerRule", desc := "(III)Z" } : Jvm.MethodName) prog_1_method_59_code (9 : Nat) (Option.some Jvm.ClassFile.FieldType.boolean), Jvm.Cond.code ({ cls := "LatticeEarley", name := "bestContext", desc := "(IIII)I" } : Jvm.MethodName) prog_1_method_60_code (14 : Nat) (Option.some Jvm.ClassFile.FieldType.int), Jvm.Cond.code ({ cls := "LatticeEarley", name := "getOuter", desc := "(III)I" } : Jvm.MethodName) prog_1_method_35_code (5 : Nat) (Option.some Jvm.ClassFile.FieldType.int), Jvm.Cond.code ({ cls := "LatticeEarley", name := "plus3", desc := "(III)I" } : Jvm.MethodName) prog_1_method_42_code (5 : Nat) (Option.some Jvm.ClassFile.FieldType.int), Jvm.Cond.code ({ cls := "LatticeEarley", name := "status", desc := "()I" } : Jvm.MethodName) prog_1_method_11_code (1 : Nat) (Option.some Jvm.ClassFile.FieldType.int), Jvm.Cond.code ({ cls := "LatticeEarley", name := "bestWeight", desc := "()I" } : Jvm.MethodName) prog_1_method_12_code (1 : Nat) (Option.some Jvm.ClassFile.FieldType.int), Jvm.Cond.code ({ cls := "LatticeEarley", name := "spanWeight", desc := "(III)I" } : Jvm.MethodName) prog_1_method_13_code (5 : Nat) (Option.some Jvm.ClassFile.FieldType.int), Jvm.Cond.code ({ cls := "LatticeEarley", name := "answer", desc := "(I)I" } : Jvm.MethodName) prog_1_method_43_code (2 : Nat) (Option.some Jvm.ClassFile.FieldType.int), Jvm.Cond.code ({ cls := "LatticeEarley", name := "edgeBest", desc := "(I)I" } : Jvm.MethodName) prog_1_method_14_code (4 : Nat) (Option.some Jvm.ClassFile.FieldType.int), Jvm.Cond.code ({ cls := "LatticeEarley", name := "ruleBest", desc := "(I)I" } : Jvm.MethodName) prog_1_method_15_code (3 : Nat) (Option.some Jvm.ClassFile.FieldType.int), Jvm.Cond.code ({ cls := "LatticeEarley", name := "ruleContext", desc := "(I)I" } : Jvm.MethodName) prog_1_method_61_code (10 : Nat) (Option.some Jvm.ClassFile.FieldType.int)]
set_option maxRecDepth 65536 in
theorem codes_eq : words1.filter isCode = codes1 := rfl
theorem w_codes : ∀ c ∈ words1.filter isCode, c.before args0 about1 = true := by
  rw [codes_eq]
  intro c hc
  simp only [codes1, List.mem_cons, List.not_mem_nil, or_false] at hc
  rcases hc with rfl | rfl | rfl | rfl | rfl | rfl | rfl | rfl | rfl | rfl | rfl | rfl | rfl | rfl | rfl | rfl | rfl | rfl | rfl | rfl | rfl | rfl | rfl | rfl | rfl | rfl | rfl | rfl | rfl | rfl | rfl | rfl | rfl | rfl | rfl | rfl | rfl | rfl | rfl | rfl | rfl | rfl | rfl | rfl | rfl | rfl | rfl | rfl | rfl | rfl | rfl | rfl | rfl | rfl | rfl | rfl | rfl
  · exact w_c0
  · exact w_c1
  · exact w_c2
  · exact w_c3
  · exact w_c4
  · exact w_c5
  · exact w_c6
  · exact w_c7
  · exact w_c8
  · exact w_c9
  · exact w_c10
  · exact w_c11
  · exact w_c12
  · exact w_c13
  · exact w_c14
  · exact w_c15
  · exact w_c16
  · exact w_c17
  · exact w_c18
  · exact w_c19
  · exact w_c20
  · exact w_c21
  · exact w_c22
  · exact w_c23
  · exact w_c24
  · exact w_c25
  · exact w_c26
  · exact w_c27
  · exact w_c28
  · exact w_c29
  · exact w_c30
  · exact w_c31
  · exact w_c32
  · exact w_c33
  · exact w_c34
  · exact w_c35
  · exact w_c36
  · exact w_c37
  · exact w_c38
  · exact w_c39
  · exact w_c40
  · exact w_c41
  · exact w_c42
  · exact w_c43
  · exact w_c44
  · exact w_c45
  · exact w_c46
  · exact w_c47
  · exact w_c48
  · exact w_c49
  · exact w_c50
  · exact w_c51
  · exact w_c52
  · exact w_c53
  · exact w_c54
  · exact w_c55
  · exact w_c56
set_option maxRecDepth 65536 in
theorem w_t1 : (words1.take 24).all (fun c => isCode c || c.before args0 about1) = true := by decide +kernel
set_option maxRecDepth 65536 in
theorem w_t2 : ((words1.drop 24).take 24).all (fun c => isCode c || c.before args0 about1) = true := by decide +kernel
set_option maxRecDepth 65536 in
theorem w_t3 : (((words1.drop 24).drop 24).take 24).all (fun c => isCode c || c.before args0 about1) = true := by decide +kernel
set_option maxRecDepth 65536 in
theorem w_t4 : ((((words1.drop 24).drop 24).drop 24).take 24).all (fun c => isCode c || c.before args0 about1) = true := by decide +kernel
set_option maxRecDepth 65536 in
theorem w_t5 : (((((words1.drop 24).drop 24).drop 24).drop 24).take 24).all (fun c => isCode c || c.before args0 about1) = true := by decide +kernel
set_option maxRecDepth 65536 in
theorem w_t6 : ((((((words1.drop 24).drop 24).drop 24).drop 24).drop 24).take 24).all (fun c => isCode c || c.before args0 about1) = true := by decide +kernel
set_option maxRecDepth 65536 in
theorem w_t7 : (((((((words1.drop 24).drop 24).drop 24).drop 24).drop 24).drop 24).take 24).all (fun c => isCode c || c.before args0 about1) = true := by decide +kernel
set_option maxRecDepth 65536 in
theorem w_t8 : ((((((((words1.drop 24).drop 24).drop 24).drop 24).drop 24).drop 24).drop 24).take 24).all (fun c => isCode c || c.before args0 about1) = true := by decide +kernel
set_option maxRecDepth 65536 in
theorem w_t9 : (((((((((words1.drop 24).drop 24).drop 24).drop 24).drop 24).drop 24).drop 24).drop 24).take 24).all (fun c => isCode c || c.before args0 about1) = true := by decide +kernel
set_option maxRecDepth 65536 in
theorem w_t10 : ((((((((((words1.drop 24).drop 24).drop 24).drop 24).drop 24).drop 24).drop 24).drop 24).drop 24).take 24).all (fun c => isCode c || c.before args0 about1) = true := by decide +kernel
set_option maxRecDepth 65536 in
theorem w_t11 : (((((((((((words1.drop 24).drop 24).drop 24).drop 24).drop 24).drop 24).drop 24).drop 24).drop 24).drop 24).take 24).all (fun c => isCode c || c.before args0 about1) = true := by decide +kernel
set_option maxRecDepth 65536 in
theorem w_t12 : (((((((((((words1.drop 24).drop 24).drop 24).drop 24).drop 24).drop 24).drop 24).drop 24).drop 24).drop 24).drop 24).all (fun c => isCode c || c.before args0 about1) = true := by decide +kernel
theorem w_tables : (allAtoms (Jvm.Cond.code x code maxLocals ret :: tables_1)).before args0 about1 = true := by
  rw [allAtoms_all]
  show words1.all (fun c => c.before args0 about1) = true
  refine all_split ?_ w_codes
  rw [← List.take_append_drop 24 words1, List.all_append, w_t1, ← List.take_append_drop 24 (words1.drop 24), List.all_append, w_t2, ← List.take_append_drop 24 ((words1.drop 24).drop 24), List.all_append, w_t3, ← List.take_append_drop 24 (((words1.drop 24).drop 24).drop 24), List.all_append, w_t4, ← List.take_append_drop 24 ((((words1.drop 24).drop 24).drop 24).drop 24), List.all_append, w_t5, ← List.take_append_drop 24 (((((words1.drop 24).drop 24).drop 24).drop 24).drop 24), List.all_append, w_t6, ← List.take_append_drop 24 ((((((words1.drop 24).drop 24).drop 24).drop 24).drop 24).drop 24), List.all_append, w_t7, ← List.take_append_drop 24 (((((((words1.drop 24).drop 24).drop 24).drop 24).drop 24).drop 24).drop 24), List.all_append, w_t8, ← List.take_append_drop 24 ((((((((words1.drop 24).drop 24).drop 24).drop 24).drop 24).drop 24).drop 24).drop 24), List.all_append, w_t9, ← List.take_append_drop 24 (((((((((words1.drop 24).drop 24).drop 24).drop 24).drop 24).drop 24).drop 24).drop 24).drop 24), List.all_append, w_t10, ← List.take_append_drop 24 ((((((((((words1.drop 24).drop 24).drop 24).drop 24).drop 24).drop 24).drop 24).drop 24).drop 24).drop 24), List.all_append, w_t11, w_t12]
  rfl
set_option maxRecDepth 65536 in
theorem w_case : (Jvm.Cond.and given_1 narrow_1).before args0 about1 = true := by decide +kernel
theorem w_applies : (headSpec (Jvm.Cond.code x code maxLocals ret :: tables_1) room_1).applies x e0.platform about1 = true :=
  (Spec.applies_iff w_frames).mpr ⟨w_running, w_runnable, w_alone, w_named, w_hears, w_ripe, w_room, w_tables⟩
theorem atStart : AtStart classFile x code maxLocals ret World_1 tables_1 room_1 Calls_1 rest_1 Pre_1 launch0 p0 e0 about1 theMethod args0 below0 :=
  ⟨lists_1, trivial, launch0.admits_env _ _ _, launch0.least_env, fairChoices_fair.cas, fairChoices_fair.clock, w_frames, w_args, w_heap, w_applies, trivial, trivial, w_case⟩
end start1
theorem witness_1 : WitnessClaimed_1 := ⟨start1.p0, start1.e0, start1.about1, start1.theMethod, start1.args0, start1.below0, start1.atStart⟩
end Jvm.Pilot.@@N@@
