import JvmDerived
import JvmDerived.Pilot.@@N@@Statement
import JvmDerived.Pilot.@@N@@Code
set_option linter.unusedVariables false
set_option linter.unusedSimpArgs false
namespace Jvm.AM
open Sem ClassFile Op Lib Jvm.Stand Jvm.Free Jvm.LawKit Jvm.RoadKit
/-! ## 1. The abstract objects: one object of the class, its scalars and its arrays by number -/
abbrev S : Type := (Nat → Int32) × (Nat → Int64) × (Nat → List Int32) × (Nat → List Int64)
def aupd {A : Type} (g : Nat → A) (f : Nat) (v : A) : Nat → A := fun x => if x = f then v else g x
def gI (s : S) (f : Nat) : Int32 := s.1 f
def gL (s : S) (f : Nat) : Int64 := s.2.1 f
def gA (s : S) (f : Nat) : List Int32 := s.2.2.1 f
def gB (s : S) (f : Nat) : List Int64 := s.2.2.2 f
def sI (s : S) (f : Nat) (v : Int32) : S := (aupd s.1 f v, s.2)
def sL (s : S) (f : Nat) (v : Int64) : S := (s.1, aupd s.2.1 f v, s.2.2)
def sA (s : S) (f : Nat) (v : List Int32) : S := (s.1, s.2.1, aupd s.2.2.1 f v, s.2.2.2)
def sB (s : S) (f : Nat) (v : List Int64) : S := (s.1, s.2.1, s.2.2.1, aupd s.2.2.2 f v)
def s0 : S := (fun _ => 0, fun _ => 0, fun _ => [], fun _ => [])
theorem gI_s0 (f : Nat) : gI s0 f = 0 := by simp only [gI, s0]
theorem gL_s0 (f : Nat) : gL s0 f = 0 := by simp only [gL, s0]
theorem gA_s0 (f : Nat) : gA s0 f = [] := by simp only [gA, s0]
theorem gB_s0 (f : Nat) : gB s0 f = [] := by simp only [gB, s0]
theorem gI_sI (s : S) (f g : Nat) (v : Int32) : gI (sI s f v) g = if g = f then v else gI s g := by simp only [gI, gL, gA, gB, sI, sL, sA, sB, aupd]
theorem gI_sL (s : S) (f g : Nat) (v : Int64) : gI (sL s f v) g = gI s g := by simp only [gI, gL, gA, gB, sI, sL, sA, sB, aupd]
theorem gI_sA (s : S) (f g : Nat) (v : List Int32) : gI (sA s f v) g = gI s g := by simp only [gI, gL, gA, gB, sI, sL, sA, sB, aupd]
theorem gI_sB (s : S) (f g : Nat) (v : List Int64) : gI (sB s f v) g = gI s g := by simp only [gI, gL, gA, gB, sI, sL, sA, sB, aupd]
theorem gL_sI (s : S) (f g : Nat) (v : Int32) : gL (sI s f v) g = gL s g := by simp only [gI, gL, gA, gB, sI, sL, sA, sB, aupd]
theorem gL_sL (s : S) (f g : Nat) (v : Int64) : gL (sL s f v) g = if g = f then v else gL s g := by simp only [gI, gL, gA, gB, sI, sL, sA, sB, aupd]
theorem gL_sA (s : S) (f g : Nat) (v : List Int32) : gL (sA s f v) g = gL s g := by simp only [gI, gL, gA, gB, sI, sL, sA, sB, aupd]
theorem gL_sB (s : S) (f g : Nat) (v : List Int64) : gL (sB s f v) g = gL s g := by simp only [gI, gL, gA, gB, sI, sL, sA, sB, aupd]
theorem gA_sI (s : S) (f g : Nat) (v : Int32) : gA (sI s f v) g = gA s g := by simp only [gI, gL, gA, gB, sI, sL, sA, sB, aupd]
theorem gA_sL (s : S) (f g : Nat) (v : Int64) : gA (sL s f v) g = gA s g := by simp only [gI, gL, gA, gB, sI, sL, sA, sB, aupd]
theorem gA_sA (s : S) (f g : Nat) (v : List Int32) : gA (sA s f v) g = if g = f then v else gA s g := by simp only [gI, gL, gA, gB, sI, sL, sA, sB, aupd]
theorem gA_sB (s : S) (f g : Nat) (v : List Int64) : gA (sB s f v) g = gA s g := by simp only [gI, gL, gA, gB, sI, sL, sA, sB, aupd]
theorem gB_sI (s : S) (f g : Nat) (v : Int32) : gB (sI s f v) g = gB s g := by simp only [gI, gL, gA, gB, sI, sL, sA, sB, aupd]
theorem gB_sL (s : S) (f g : Nat) (v : Int64) : gB (sL s f v) g = gB s g := by simp only [gI, gL, gA, gB, sI, sL, sA, sB, aupd]
theorem gB_sA (s : S) (f g : Nat) (v : List Int32) : gB (sA s f v) g = gB s g := by simp only [gI, gL, gA, gB, sI, sL, sA, sB, aupd]
theorem gB_sB (s : S) (f g : Nat) (v : List Int64) : gB (sB s f v) g = if g = f then v else gB s g := by simp only [gI, gL, gA, gB, sI, sL, sA, sB, aupd]
def rep {A : Type} (n : Nat) (x : A) : List A := List.replicate n x
theorem rep_length {A : Type} (n : Nat) (x : A) : (rep n x).length = n := by simp only [rep, List.length_replicate]
theorem rep_get {A : Type} (n : Nat) (x : A) (k : Nat) : (rep n x)[k]? = if k < n then some x else none := by simp only [rep, List.getElem?_replicate]
theorem rep_set {A : Type} (n : Nat) (x : A) (k : Nat) : (rep n x).set k x = rep n x := by simp only [rep, List.set_replicate_self]
/-- reading and writing a component -/
def ix {A : Type} (l : List A) (j : Int32) : Option A := if j < 0 then none else l[j.toNatClampNeg]?
def st {A : Type} (l : List A) (j : Int32) (x : A) : Option (List A) := if j < 0 then none else if j.toNatClampNeg < l.length then some (l.set j.toNatClampNeg x) else none
/-- the world of a run: the script array, if there is one; the objects made so far, each with the number of arrays that it has been given -/
abbrev W : Type := Option (List Int32) × List (Nat × S)
/-- the class: name, slots, scalar fields (name, descriptor, type), array fields in the order of their making (name, descriptor, component type, most slots) -/
abbrev CI : Type := String × Nat × List (String × String × FieldType) × List (String × String × FieldType × Nat)
def cN (c : CI) : String := c.1
def cF (c : CI) : Nat := c.2.1
def cS (c : CI) : List (String × String × FieldType) := c.2.2.1
def cA (c : CI) : List (String × String × FieldType × Nat) := c.2.2.2
def cK (c : CI) : Nat := (cA c).length
/-- the program: the sheet's words, the class -/
abbrev PI : Type := List Jvm.Cond × CI
/-- a method: name, bytes, variables, return type, room, most objects, whether it makes cells, cells and slots at its start -/
abbrev Meth : Type := MethodName × ByteArray × Nat × Option FieldType × Room × Nat × Bool × Nat × Nat
def mY (M : Meth) : MethodName := M.1
def mB (M : Meth) : ByteArray := M.2.1
def mL (M : Meth) : Nat := M.2.2.1
def mT (M : Meth) : Option FieldType := M.2.2.2.1
def mR (M : Meth) : Room := M.2.2.2.2.1
def mN (M : Meth) : Nat := M.2.2.2.2.2.1
def mTop (M : Meth) : Bool := M.2.2.2.2.2.2.1
def mUC (M : Meth) : Nat := M.2.2.2.2.2.2.2.1
def mUS (M : Meth) : Nat := M.2.2.2.2.2.2.2.2
/-! ## 2. Abstract references: 0 the script; j + 1 the cell at b + j -/
def con (α b : Nat) : Value → Value
  | .ref 0 => .ref α
  | .ref (j + 1) => .ref (b + j)
  | v => v
def cs (α b : Nat) : Slot → Slot
  | .val v => .val (con α b v)
  | .unset => .unset
  | .second => .second
def cL (α b : Nat) (L : List Slot) : Array Slot := (L.map (cs α b)).toArray
def cV (α b : Nat) (l : List Value) : List Value := l.map (con α b)
theorem con_cat (α b : Nat) (v : Value) : (con α b v).category = v.category := by
  cases v <;> try rfl
  rename_i a; cases a <;> rfl
theorem con_ref (α b : Nat) (v : Value) : (con α b v).isRef = v.isRef := by
  cases v <;> try rfl
  rename_i a; cases a <;> rfl
theorem cL_get {α b : Nat} {L : List Slot} {k : Nat} {x : Slot} (h : L[k]? = some x) : (cL α b L)[k]? = some (cs α b x) := by
  simp [cL, List.getElem?_toArray, List.getElem?_map, h]
theorem cL_size (α b : Nat) (L : List Slot) : (cL α b L).size = L.length := by simp [cL]
theorem cV_sum (α b : Nat) (l : List Value) : ((cV α b l).map fun v => v.category).sum = (l.map fun v => v.category).sum := by
  simp [cV, List.map_map, Function.comp_def, con_cat]
theorem setAt_map {α b : Nat} {l l' : Array Slot} {i : Nat} {x : Slot} (h : setAt l i x = some l') : setAt (l.map (cs α b)) i (cs α b x) = some (l'.map (cs α b)) := by
  unfold setAt at h ⊢
  split at h
  · rename_i q
    cases h
    rw [if_pos (by simpa using q)]
    simp [Array.map_setIfInBounds]
  · cases h
theorem storeSelf_map {α b : Nat} {l l' : Array Slot} {i : Nat} {v : Value} (h : storeSelf l i v = some l') : storeSelf (l.map (cs α b)) i (con α b v) = some (l'.map (cs α b)) := by
  simp only [storeSelf, Option.bind_eq_bind, Option.bind_eq_some_iff] at h ⊢
  obtain ⟨l1, h1, h2⟩ := h
  refine ⟨l1.map (cs α b), setAt_map (x := .val v) h1, ?_⟩
  rw [con_cat]
  split at h2
  · rename_i q
    rw [if_pos q]
    obtain ⟨x, h3, h4⟩ := Option.bind_eq_some_iff.mp h2
    refine Option.bind_eq_some_iff.mpr ⟨cs α b x, by simp [h3], ?_⟩
    cases x with
    | unset => exact setAt_map (x := .second) h4
    | second => exact setAt_map (x := .second) h4
    | val old =>
      simp only [cs, con_cat] at h4 ⊢
      split at h4
      · rename_i q2
        rw [if_pos q2]
        obtain ⟨y, h5, h6⟩ := Option.bind_eq_some_iff.mp h4
        exact Option.bind_eq_some_iff.mpr ⟨_, setAt_map (x := .unset) h5, setAt_map (x := .second) h6⟩
      · rename_i q2
        rw [if_neg q2]
        exact setAt_map (x := .second) h4
  · rename_i q
    rw [if_neg q]
    cases h2; rfl
theorem store_map {α b : Nat} {l l' : Array Slot} {i : Nat} {v : Value} (h : storeLocals l i v = some l') : storeLocals (l.map (cs α b)) i (con α b v) = some (l'.map (cs α b)) := by
  simp only [storeLocals, Option.bind_eq_bind, Option.bind_eq_some_iff] at h ⊢
  obtain ⟨x, h1, h2⟩ := h
  refine ⟨cs α b x, by simp [h1], ?_⟩
  cases x with
  | unset => exact storeSelf_map h2
  | second =>
    obtain ⟨y, h3, h4⟩ := Option.bind_eq_some_iff.mp h2
    exact Option.bind_eq_some_iff.mpr ⟨_, setAt_map (x := .unset) h3, storeSelf_map h4⟩
  | val old =>
    simp only [cs, con_cat] at h2 ⊢
    split at h2
    · rename_i q
      rw [if_pos q]
      obtain ⟨y, h3, h4⟩ := Option.bind_eq_some_iff.mp h2
      exact Option.bind_eq_some_iff.mpr ⟨_, setAt_map (x := .unset) h3, storeSelf_map h4⟩
    · rename_i q
      rw [if_neg q]
      exact storeSelf_map h2
theorem storeC {α b : Nat} {L L' : List Slot} {i : Nat} {v : Value} (h : storeLocals L.toArray i v = some L'.toArray) : storeLocals (cL α b L) i (con α b v) = some (cL α b L') := by
  have := store_map (α := α) (b := b) h
  simpa [cL] using this
theorem setAt_size {l l' : Array Slot} {i : Nat} {x : Slot} (h : setAt l i x = some l') : l'.size = l.size := by
  unfold setAt at h; split at h <;> cases h; simp
theorem storeSelf_size {l l' : Array Slot} {i : Nat} {v : Value} (h : storeSelf l i v = some l') : l'.size = l.size := by
  simp only [storeSelf, Option.bind_eq_bind, Option.bind_eq_some_iff] at h
  obtain ⟨l1, h1, h2⟩ := h
  have e1 := setAt_size h1
  split at h2
  · obtain ⟨x, h3, h4⟩ := Option.bind_eq_some_iff.mp h2
    cases x with
    | unset => exact (setAt_size h4).trans e1
    | second => exact (setAt_size h4).trans e1
    | val old =>
      dsimp only at h4
      split at h4
      · obtain ⟨y, h5, h6⟩ := Option.bind_eq_some_iff.mp h4
        exact (setAt_size h6).trans ((setAt_size h5).trans e1)
      · exact (setAt_size h4).trans e1
  · cases h2; exact e1
theorem store_size {l l' : Array Slot} {i : Nat} {v : Value} (h : storeLocals l i v = some l') : l'.size = l.size := by
  simp only [storeLocals, Option.bind_eq_bind, Option.bind_eq_some_iff] at h
  obtain ⟨x, h1, h2⟩ := h
  cases x with
  | unset => exact storeSelf_size h2
  | second =>
    obtain ⟨y, h3, h4⟩ := Option.bind_eq_some_iff.mp h2
    exact (storeSelf_size h4).trans (setAt_size h3)
  | val old =>
    dsimp only at h2
    split at h2
    · obtain ⟨y, h3, h4⟩ := Option.bind_eq_some_iff.mp h2
      exact (storeSelf_size h4).trans (setAt_size h3)
    · exact storeSelf_size h2
/-- a variable that may be written over by a value of one word -/
def k1 (o : Slot) : Prop := o = .unset ∨ ∃ w, o = .val w ∧ w.category = 1
def k2 (o o2 : Slot) : Prop := (o = .unset ∧ o2 = .unset) ∨ ∃ u, o = .val (.long u) ∧ o2 = .second
theorem setAt_l {L : List Slot} {k : Nat} {x : Slot} (h : k < L.length) : setAt L.toArray k x = some (L.set k x).toArray := by simp [setAt, h]
theorem get_l {L : List Slot} {k : Nat} {o : Slot} (h : L[k]? = some o) : L.toArray[k]? = some o := by rw [List.getElem?_toArray]; exact h
theorem store_u {L : List Slot} {k : Nat} {v : Value} (h : L[k]? = some .unset) : storeLocals L.toArray k v = storeSelf L.toArray k v := by
  simp only [storeLocals, Option.bind_eq_bind, get_l h, Option.bind_some]
theorem store_1 {L : List Slot} {k : Nat} {v w : Value} (h : L[k]? = some (.val w)) (hw : w.category = 1) : storeLocals L.toArray k v = storeSelf L.toArray k v := by
  simp only [storeLocals, Option.bind_eq_bind, get_l h, Option.bind_some]
  rw [if_neg (by rw [hw]; decide)]
theorem store_k {L : List Slot} {k : Nat} {v : Value} {o : Slot} (h : L[k]? = some o) (ho : k1 o) : storeLocals L.toArray k v = storeSelf L.toArray k v := by
  rcases ho with rfl | ⟨w, rfl, hw⟩
  · exact store_u h
  · exact store_1 h hw
theorem store_2 {L : List Slot} {k : Nat} {v w : Value} (h : L[k]? = some (.val w)) (hw : w.category = 2) (l2 : k + 1 < L.length) : storeLocals L.toArray k v = storeSelf (L.set (k + 1) .unset).toArray k v := by
  simp only [storeLocals, Option.bind_eq_bind, get_l h, Option.bind_some]
  rw [if_pos hw, setAt_l l2, Option.bind_some]
theorem self_1 {L : List Slot} {k : Nat} {v : Value} (hv : v.category = 1) (l : k < L.length) : storeSelf L.toArray k v = some (L.set k (.val v)).toArray := by
  simp only [storeSelf, Option.bind_eq_bind, setAt_l l, Option.bind_some]
  rw [if_neg (by rw [hv]; decide)]
theorem self_2 {L : List Slot} {k : Nat} {v : Value} {o : Slot} (hv : v.category = 2) (h : L[k + 1]? = some o) (ho : k1 o ∨ o = .second) (l : k < L.length) : storeSelf L.toArray k v = some ((L.set k (.val v)).set (k + 1) .second).toArray := by
  have l2 := (List.getElem?_eq_some_iff.mp h).1
  have e2 : (L.set k (.val v))[k + 1]? = some o := by rw [List.getElem?_set_ne (by omega)]; exact h
  simp only [storeSelf, Option.bind_eq_bind, setAt_l l, Option.bind_some]
  rw [if_pos hv, get_l e2, Option.bind_some]
  rcases ho with (rfl | ⟨w, rfl, hw⟩) | rfl
  · exact setAt_l (by rw [List.length_set]; exact l2)
  · dsimp only
    rw [if_neg (by rw [hw]; decide)]
    exact setAt_l (by rw [List.length_set]; exact l2)
  · exact setAt_l (by rw [List.length_set]; exact l2)
theorem self_3 {L : List Slot} {k : Nat} {v w : Value} (hv : v.category = 2) (h : L[k + 1]? = some (.val w)) (hw : w.category = 2) (l3 : k + 2 < L.length) (l : k < L.length) : storeSelf L.toArray k v = some (((L.set k (.val v)).set (k + 2) .unset).set (k + 1) .second).toArray := by
  have l2 := (List.getElem?_eq_some_iff.mp h).1
  have e2 : (L.set k (.val v))[k + 1]? = some (.val w) := by rw [List.getElem?_set_ne (by omega)]; exact h
  simp only [storeSelf, Option.bind_eq_bind, setAt_l l, Option.bind_some]
  rw [if_pos hv, get_l e2, Option.bind_some]
  dsimp only
  rw [if_pos hw, setAt_l (by rw [List.length_set]; exact l3), Option.bind_some, setAt_l (by rw [List.length_set, List.length_set]; exact l2)]
theorem stx {L : List Slot} {k : Nat} {o : Slot} {v : Value} (h : L[k]? = some o) (ho : k1 o) (hv : v.category = 1) : storeLocals L.toArray k v = some (L.set k (.val v)).toArray := by
  rw [store_k h ho, self_1 hv (List.getElem?_eq_some_iff.mp h).1]
theorem stx3 {L : List Slot} {k : Nat} {o o2 : Slot} {u : Int64} (h : L[k]? = some o) (h2 : L[k + 1]? = some o2) (ho : k1 o) (ho2 : k1 o2) : storeLocals L.toArray k (.long u) = some ((L.set k (.val (.long u))).set (k + 1) .second).toArray := by
  rw [store_k h ho, self_2 rfl h2 (Or.inl ho2) (List.getElem?_eq_some_iff.mp h).1]
theorem stx2 {L : List Slot} {k : Nat} {o o2 : Slot} {u : Int64} (h : L[k]? = some o) (h2 : L[k + 1]? = some o2) (ho : k2 o o2) : storeLocals L.toArray k (.long u) = some ((L.set k (.val (.long u))).set (k + 1) .second).toArray := by
  have l1 := (List.getElem?_eq_some_iff.mp h).1
  have l2 := (List.getElem?_eq_some_iff.mp h2).1
  rcases ho with ⟨rfl, rfl⟩ | ⟨u', rfl, rfl⟩
  · exact stx3 h h2 (Or.inl rfl) (Or.inl rfl)
  · rw [store_2 h rfl l2, self_2 (o := .unset) rfl (by rw [List.getElem?_set_self l2]) (Or.inl (Or.inl rfl)) (by rw [List.length_set]; exact l1)]
    rw [List.set_comm _ _ (show k + 1 ≠ k by omega), List.set_set]
theorem stx4 {L : List Slot} {k : Nat} {o2 : Slot} {w : Int64} {v : Value} (h : L[k]? = some (.val (.long w))) (h2 : L[k + 1]? = some o2) (hv : v.category = 1) : storeLocals L.toArray k v = some ((L.set (k + 1) .unset).set k (.val v)).toArray := by
  rw [store_2 h rfl (List.getElem?_eq_some_iff.mp h2).1, self_1 hv (by rw [List.length_set]; exact (List.getElem?_eq_some_iff.mp h).1)]
theorem stx5 {L : List Slot} {k : Nat} {o o3 : Slot} {w u : Int64} (h : L[k]? = some o) (ho : k1 o) (h2 : L[k + 1]? = some (.val (.long w))) (h3 : L[k + 2]? = some o3) : storeLocals L.toArray k (.long u) = some (((L.set k (.val (.long u))).set (k + 2) .unset).set (k + 1) .second).toArray := by
  rw [store_k h ho, self_3 rfl h2 rfl (List.getElem?_eq_some_iff.mp h3).1 (List.getElem?_eq_some_iff.mp h).1]
/-- a tail of dead variables -/
def wtf : Slot ⊕ Int64 → List Slot
  | .inl x => [x]
  | .inr u => [.val (.long u), .second]
def WT (D : List Slot) : Prop := ∃ l : List (Slot ⊕ Int64), D = l.flatMap wtf ∧ ∀ x, Sum.inl x ∈ l → k1 x
theorem wt0 : WT [] := ⟨[], rfl, fun _ h => nomatch h⟩
theorem wt1 {x : Slot} {D : List Slot} (h : k1 x) (W : WT D) : WT (x :: D) := by
  obtain ⟨l, rfl, g⟩ := W
  refine ⟨.inl x :: l, by simp [wtf], fun y hy => ?_⟩
  rcases List.mem_cons.mp hy with e | e
  · cases e; exact h
  · exact g y e
theorem wt2 {u : Int64} {D : List Slot} (W : WT D) : WT (.val (.long u) :: .second :: D) := by
  obtain ⟨l, rfl, g⟩ := W
  refine ⟨.inr u :: l, by simp [wtf], fun y hy => ?_⟩
  rcases List.mem_cons.mp hy with e | e
  · cases e
  · exact g y e
theorem wt12 {x y : Slot} {D : List Slot} (h : k2 x y) (W : WT D) : WT (x :: y :: D) := by
  rcases h with ⟨rfl, rfl⟩ | ⟨u, rfl, rfl⟩
  · exact wt1 (Or.inl rfl) (wt1 (Or.inl rfl) W)
  · exact wt2 W
theorem wt_cases {D : List Slot} (W : WT D) : D = [] ∨ (∃ x E, D = x :: E ∧ k1 x ∧ WT E) ∨ ∃ u E, D = .val (.long u) :: .second :: E ∧ WT E := by
  obtain ⟨l, rfl, g⟩ := W
  match l, g with
  | [], _ => exact Or.inl rfl
  | .inl x :: r, g => exact Or.inr (Or.inl ⟨x, r.flatMap wtf, by simp [wtf], g x (List.mem_cons_self ..), r, rfl, fun y hy => g y (List.mem_cons_of_mem _ hy)⟩)
  | .inr u :: r, g => exact Or.inr (Or.inr ⟨u, r.flatMap wtf, by simp [wtf], r, rfl, fun y hy => g y (List.mem_cons_of_mem _ hy)⟩)
theorem stT {L0 D : List Slot} {v : Value} {n : Nat} (W : WT D) (hl : D.length = n + 1) (hv : v.category = 1) : ∃ D', WT D' ∧ D'.length = n ∧ storeLocals (L0 ++ D).toArray L0.length v = some (L0 ++ ([.val v] : List Slot) ++ D').toArray := by
  rcases wt_cases W with rfl | ⟨x, E, rfl, hx, WE⟩ | ⟨u, E, rfl, WE⟩
  · simp at hl
  · refine ⟨E, WE, by simpa using hl, ?_⟩
    rw [stx (o := x) (by simp) hx hv]; simp
  · refine ⟨.unset :: E, wt1 (Or.inl rfl) WE, by simpa using hl, ?_⟩
    rw [stx4 (w := u) (o2 := .second) (by simp) (by rw [List.getElem?_append_right (by omega)]; simp) hv]
    simp [List.set_append]
theorem stT2 {L0 D : List Slot} {u : Int64} {n : Nat} (W : WT D) (hl : D.length = n + 2) : ∃ D', WT D' ∧ D'.length = n ∧ storeLocals (L0 ++ D).toArray L0.length (.long u) = some (L0 ++ ([.val (.long u), .second] : List Slot) ++ D').toArray := by
  rcases wt_cases W with rfl | ⟨x, E, rfl, hx, WE⟩ | ⟨w, E, rfl, WE⟩
  · simp at hl
  · rcases wt_cases WE with rfl | ⟨y, F, rfl, hy, WF⟩ | ⟨w, F, rfl, WF⟩
    · simp at hl
    · refine ⟨F, WF, by simpa using hl, ?_⟩
      rw [stx3 (o := x) (o2 := y) (by simp) (by rw [List.getElem?_append_right (by omega)]; simp) hx hy]
      simp [List.set_append]
    · refine ⟨.unset :: F, wt1 (Or.inl rfl) WF, by simpa using hl, ?_⟩
      rw [stx5 (o := x) (w := w) (o3 := .second) (by simp) hx (by rw [List.getElem?_append_right (by omega)]; simp) (by rw [List.getElem?_append_right (by omega)]; simp)]
      simp [List.set_append]
  · refine ⟨E, WE, by simpa using hl, ?_⟩
    rw [stx2 (o := .val (.long w)) (o2 := .second) (by simp) (by rw [List.getElem?_append_right (by omega)]; simp) (Or.inr ⟨w, rfl, rfl⟩)]
    simp [List.set_append]
/-- the variables at a method's entry -/
def argL : List Value → List Slot
  | [] => []
  | v :: r => if v.category = 2 then .val v :: .second :: argL r else .val v :: argL r
def entryL (as : List Value) (n : Nat) : List Slot := argL as ++ List.replicate (n - (argL as).length) .unset
theorem argL_fold : ∀ (as : List Value) (acc : List Slot), as.foldl (fun acc v => if v.category = 2 then (acc.push (.val v)).push .second else acc.push (.val v)) acc.toArray = (acc ++ argL as).toArray
  | [], acc => by simp [argL]
  | v :: r, acc => by
    simp only [List.foldl_cons, argL]
    split
    · rename_i q
      rw [show ((acc.toArray.push (Slot.val v)).push Slot.second) = (acc ++ [Slot.val v, Slot.second]).toArray by simp, argL_fold r]
      simp
    · rename_i q
      rw [show (acc.toArray.push (Slot.val v)) = (acc ++ [Slot.val v]).toArray by simp, argL_fold r]
      simp
theorem argL_map (α b : Nat) : ∀ as : List Value, argL (cV α b as) = (argL as).map (cs α b)
  | [] => rfl
  | v :: r => by
    have ih := argL_map α b r
    simp only [cV, List.map_cons, argL, con_cat] at ih ⊢
    split <;> simp [ih, cs]
theorem entry_locals (α b : Nat) (as : List Value) (n : Nat) : argsToLocals (cV α b as).toArray n = cL α b (entryL as n) := by
  have h := argL_fold (cV α b as) []
  simp only [List.nil_append] at h
  have h' : (cV α b as).toArray.foldl (fun acc v => if v.category = 2 then (acc.push (Slot.val v)).push Slot.second else acc.push (Slot.val v)) #[] = (argL (cV α b as)).toArray := by
    rw [← h]; simp
  simp only [argsToLocals]
  rw [h', argL_map]
  simp [cL, entryL, List.map_append, cs]
/-! ## 3. What the heap shows -/
def scV (ty : FieldType) (s : S) (f : Nat) : Value := match ty with
  | .long => .long (gL s f)
  | _ => .int (gI s f)
def arV (ty : FieldType) (s : S) (q : Nat) : List Value := match ty with
  | .long => (gB s q).map .long
  | _ => (gA s q).map .int
def Ar (Z : State) (h : Heap) (a : Nat) (ty : FieldType) (vs : List Value) : Prop := ∃ c : Cell, Arr Z h a c ty ∧ c.slots = vs.toArray
def Rep1 (Z : State) (ci : CI) (h : Heap) (b : Nat) (o : Nat × S) : Prop :=
  Exa Z h b (cN ci) ∧ (∀ f x, (cS ci)[f]? = some x → Fld Z h b (cN ci) x.1 x.2.1 (scV x.2.2 o.2 f)) ∧
  (∀ q x, (cA ci)[q]? = some x → Fld Z h b (cN ci) x.1 x.2.1 (if q < o.1 then .ref (b + 1 + q) else .null)) ∧
  (∀ q x, (cA ci)[q]? = some x → q < o.1 → Ar Z h (b + 1 + q) x.2.2.1 (arV x.2.2.1 o.2 q))
def RepW (Z : State) (ci : CI) (α b : Nat) (w : W) (h : Heap) : Prop :=
  (∀ l, w.1 = some l → Ar Z h α .int (l.map .int) ∧ α < b) ∧ ∀ i o, w.2[i]? = some o → Rep1 Z ci h (b + (cK ci + 1) * i) o
def Frm (lo hi : Nat) (h0 h : Heap) : Prop := ∀ (x : Nat) (c : Cell), h0[x]? = some c → (x < lo ∨ hi ≤ x) → h[x]? = some c
def usedC (w : W) : Nat := (w.2.map fun o => 1 + o.1).sum
def usedS (ci : CI) (w : W) : Nat := (w.2.map fun o => cF ci + (((cA ci).take o.1).map fun x => x.2.2.2).sum).sum
/-- what the sheet says of the class -/
def Facts (Z : State) (a0 : Array Value) (ci : CI) : Prop :=
  (Jvm.Cond.instantiable (cN ci) (cF ci)).before a0 Z = true ∧ (Jvm.Cond.initialized (cN ci)).before a0 Z = true ∧
  (∀ (f : Nat) (x : String × String × FieldType), (cS ci)[f]? = some x → Laid Z a0 (cN ci) (cN ci) x.1 x.2.1 ∧ parseFieldDescriptor x.2.1 = some x.2.2) ∧
  (∀ (q : Nat) (x : String × String × FieldType × Nat), (cA ci)[q]? = some x → Laid Z a0 (cN ci) (cN ci) x.1 x.2.1 ∧ parseFieldDescriptor x.2.1 = some (.array x.2.2.1)) ∧
  ((cS ci).map (fun x => x.1) ++ (cA ci).map (fun x => x.1)).Nodup ∧ (∀ f x, (cS ci)[f]? = some x → defaultValue x.2.2 = scV x.2.2 s0 f) ∧ (cN ci ≠ "java/lang/invoke/MethodHandle" ∧ cN ci ≠ "java/lang/invoke/VarHandle")
theorem nq {a b : Nat} (h : a ≠ b) : @Ne Addr a b := h
theorem Ar.frm {Z : State} {h h' : Heap} {a : Nat} {ty : FieldType} {vs : List Value} (A : Ar Z h a ty vs) (k : ∀ c, h[a]? = some c → h'[a]? = some c) : Ar Z h' a ty vs := by
  obtain ⟨c, ⟨q1, q2⟩, q3⟩ := A; exact ⟨c, ⟨k c q1, q2⟩, q3⟩
theorem fld_frm {Z : State} {h h' : Heap} {a : Nat} {C n d : String} {v : Value} (F : Fld Z h a C n d v) (k : ∀ c, h[a]? = some c → h'[a]? = some c) : Fld Z h' a C n d v := by
  obtain ⟨cell, cf, kc, i, f, h1, r⟩ := F; exact ⟨cell, cf, kc, i, f, k _ h1, r⟩
theorem exa_frm {Z : State} {h h' : Heap} {a : Nat} {C : String} (F : Exa Z h a C) (k : ∀ c, h[a]? = some c → h'[a]? = some c) : Exa Z h' a C := by
  obtain ⟨cell, kc, h1, r⟩ := F; exact ⟨cell, kc, k _ h1, r⟩
theorem get_lt {A : Type} {l : List A} {i : Nat} {x : A} (h : l[i]? = some x) : i < l.length := (List.getElem?_eq_some_iff.mp h).1
theorem Rep1.frm {Z : State} {ci : CI} {h h' : Heap} {b : Nat} {o : Nat × S} (F : Rep1 Z ci h b o) (k : ∀ x c, b ≤ x → x < b + (cK ci + 1) → h[x]? = some c → h'[x]? = some c) : Rep1 Z ci h' b o := by
  obtain ⟨f1, f2, f3, f4⟩ := F
  refine ⟨exa_frm f1 fun c => k b c (Nat.le_refl _) (by omega), fun f x hx => fld_frm (f2 f x hx) fun c => k b c (Nat.le_refl _) (by omega), fun q x hx => fld_frm (f3 q x hx) fun c => k b c (Nat.le_refl _) (by omega), fun q x hx hq => (f4 q x hx hq).frm fun c => k _ c (by omega) ?_⟩
  have := get_lt hx
  simp only [cK]; omega
theorem RepW.ext {Z : State} {ci : CI} {α b : Nat} {w : W} {h h' : Heap} (F : RepW Z ci α b w h) (E : Ext h h') : RepW Z ci α b w h' :=
  ⟨fun l hl => ⟨((F.1 l hl).1).frm fun c q => E.2 _ _ q, (F.1 l hl).2⟩, fun i o ho => (F.2 i o ho).frm fun x c _ _ q => E.2 _ _ q⟩
theorem Frm.refl (lo hi : Nat) (h : Heap) : Frm lo hi h h := fun _ _ q _ => q
theorem Frm.trans {lo hi : Nat} {h0 h1 h2 : Heap} (A : Frm lo hi h0 h1) (B : Frm lo hi h1 h2) : Frm lo hi h0 h2 := fun x c q r => B x c (A x c q r) r
theorem Frm.wide {lo hi lo' hi' : Nat} {h0 h1 : Heap} (A : Frm lo hi h0 h1) (q1 : lo' ≤ lo) (q2 : hi ≤ hi') : Frm lo' hi' h0 h1 := fun x c q r => A x c q (by omega)
theorem Frm.ext {lo hi : Nat} {h0 h1 h2 : Heap} (A : Frm lo hi h0 h1) (E : Ext h1 h2) : Frm lo hi h0 h2 := fun x c q r => E.2 _ _ (A x c q r)
theorem Frm.wr {lo hi : Nat} {h0 h1 h2 : Heap} {a : Nat} {sl : Nat} {v : Value} (A : Frm lo hi h0 h1) (Wt : Wr h1 h2 a sl v) (q1 : lo ≤ a) (q2 : a < hi) : Frm lo hi h0 h2 := fun x c q r => by
  have q3 := A x c q r
  obtain ⟨c', e1, -, -, -, e5, -⟩ := wr_at Wt q3
  have : x ≠ a := by omega
  rw [← e5 this]; exact e1
/-! ## 4. The walk -/
def Ok (P : PI) (M : Meth) (Z : State) (a0 : Array Value) (p : Program) (R : Room) (s : State) (m : MethodId) (meth : Method) (c : Code) (b n0 : Nat) (h0 : Heap) (uC uS : Nat) : Prop :=
  (∀ d ∈ P.1, d.before a0 Z = true) ∧ Facts Z a0 P.2 ∧ p.tables.exec = Jvm.exec ∧ Z.Warmed39 s.vm ∧ s.vm.findClass (mY M).cls = some m.cls ∧ c.code = mB M ∧ c.maxLocals = mL M ∧ meth.sig.returnType = mT M ∧ meth.name = (mY M).name ∧ R = mR M ∧ n0 ≤ b ∧
  (mTop M = true → h0.size = b + uC ∧ uC = mUC M ∧ uS = mUS M) ∧ s.heap.size = h0.size
def Inv (P : PI) (M : Meth) (l : Launch) (Z : State) (p : Program) (e : Env) (R : Room) (s : State) (m : MethodId) (args : Array Value) (below : List Frame) (meth : Method) (c : Code) (α b n0 : Nat) (h0 : Heap) (uC uS : Nat) (w : W) (T : State) (locs : List Loc) (cells slots : Nat) : Prop :=
  Stand p l e R s m args below meth c T locs cells slots ∧ RepW Z P.2 α b w T.heap ∧ Frm b (b + (cK P.2 + 1) * mN M) h0 T.heap ∧ Fr n0 locs ∧ T.heap.size = h0.size + cells ∧ cells + uC = usedC w ∧ slots + uS = usedS P.2 w ∧ cells ≤ R.cells ∧ slots ≤ R.slots ∧ w.2.length ≤ mN M
def Lv (e : Env) (T : State) (m : MethodId) (r : Option Value) (fs : List Frame) : Prop := ∀ (f : JFrame) (acts : List Action), f.method = m → f.locked = none → f.entered = [] → (doReturn e (T.setTop f) acts r).1 = T.setFrames fs
/-- from here the invocation comes to its end, with this value and this world -/
def Go (P : PI) (M : Meth) (pc : Nat) (L : List Slot) (st : List Value) (w : W) (out : Option Value × W) : Prop :=
  L.length = mL M → ∀ (l : Launch) (Z : State) (a0 : Array Value) (p : Program) (e : Env) (R : Room) (s : State) (m : MethodId) (args : Array Value) (below : List Frame) (meth : Method) (c : Code) (α b n0 : Nat) (h0 : Heap) (uC uS : Nat),
    Ok P M Z a0 p R s m meth c b n0 h0 uC uS → ∀ (T : State) (locs : List Loc) (cells slots : Nat), Inv P M l Z p e R s m args below meth c α b n0 h0 uC uS w T locs cells slots →
    ∃ (T' : State) (locs' : List Loc) (cells' slots' : Nat), Inv P M l Z p e R s m args below meth c α b n0 h0 uC uS out.2 T' locs' cells' slots' ∧
      ∀ fs, Lv e T' m (out.1.map (con α b)) fs → Steps p.tables e below (T.setTop (mkF m pc (cL α b L) (cV α b st))) (T'.setFrames fs)
section Rules
variable {P : PI} {M : Meth} {pc pc' : Nat} {L L' : List Slot} {st st' : List Value} {w w' : W} {out : Option Value × W} {x y z v : Int32} {u r : Int64}
theorem go_mv (hL : L.length = mL M → L'.length = mL M)
    (H : ∀ {p : Program} {e : Env} {below : List Frame} {T target : State} {m : MethodId} {c : Code}, At T m c below → p.tables.exec = Jvm.exec → c.code = mB M → ∀ α b : Nat, Steps p.tables e below (T.setTop (mkF m pc' (cL α b L') (cV α b st'))) target → Steps p.tables e below (T.setTop (mkF m pc (cL α b L) (cV α b st))) target)
    (k : Go P M pc' L' st' w out) : Go P M pc L st w out := by
  intro hl l Z a0 p e R s m args below meth c α b n0 h0 uC uS ok T locs cells slots I
  obtain ⟨T', l', c', n', I', fin⟩ := k (hL hl) l Z a0 p e R s m args below meth c α b n0 h0 uC uS ok T locs cells slots I
  exact ⟨T', l', c', n', I', fun fs hv => H I.1.here ok.2.2.1 ok.2.2.2.2.2.1 α b (fin fs hv)⟩
theorem go_ch (H : ∀ (l : Launch) (Z : State) (a0 : Array Value) (p : Program) (e : Env) (R : Room) (s : State) (m : MethodId) (args : Array Value) (below : List Frame) (meth : Method) (c : Code) (α b n0 : Nat) (h0 : Heap) (uC uS : Nat),
      Ok P M Z a0 p R s m meth c b n0 h0 uC uS → L.length = mL M → ∀ (T : State) (locs : List Loc) (cells slots : Nat), Inv P M l Z p e R s m args below meth c α b n0 h0 uC uS w T locs cells slots →
      ∃ (T' : State) (locs' : List Loc) (cells' slots' : Nat), Inv P M l Z p e R s m args below meth c α b n0 h0 uC uS w' T' locs' cells' slots' ∧
        ∀ target, Steps p.tables e below (T'.setTop (mkF m pc' (cL α b L) (cV α b st'))) target → Steps p.tables e below (T.setTop (mkF m pc (cL α b L) (cV α b st))) target)
    (k : Go P M pc' L st' w' out) : Go P M pc L st w out := by
  intro hl l Z a0 p e R s m args below meth c α b n0 h0 uC uS ok T locs cells slots I
  obtain ⟨T1, l1, c1, n1, I1, h1⟩ := H l Z a0 p e R s m args below meth c α b n0 h0 uC uS ok hl T locs cells slots I
  obtain ⟨T', l', c', n', I', fin⟩ := k hl l Z a0 p e R s m args below meth c α b n0 h0 uC uS ok T1 l1 c1 n1 I1
  exact ⟨T', l', c', n', I', fun fs hv => h1 _ (fin fs hv)⟩
/-! ### loads, stores, constants -/
theorem go_iloadN {k : Fin 4} (d : decode (mB M) pc = .ok (.iload_n k, 1)) (hl : L[k.val]? = some (.val (.int v))) (g : Go P M (pc + 1) L (.int v :: st) w out) : Go P M pc L (st) w out :=
  go_mv id (fun h hx hc α b r => XS.iloadN (g := mkF _ pc (cL α b L) (cV α b (st))) h hx rfl (hb hc d) (cL_get hl) r) g
theorem go_iload {k : Nat} (d : decode (mB M) pc = .ok (.iload k, 2)) (hl : L[k]? = some (.val (.int v))) (g : Go P M (pc + 2) L (.int v :: st) w out) : Go P M pc L (st) w out :=
  go_mv id (fun h hx hc α b r => XS.iload (g := mkF _ pc (cL α b L) (cV α b (st))) h hx rfl (hb hc d) (cL_get hl) r) g
theorem go_lloadN {k : Fin 4} (d : decode (mB M) pc = .ok (.lload_n k, 1)) (hl : L[k.val]? = some (.val (.long u))) (g : Go P M (pc + 1) L (.long u :: st) w out) : Go P M pc L (st) w out :=
  go_mv id (fun h hx hc α b r => XT.lloadN (g := mkF _ pc (cL α b L) (cV α b (st))) h hx rfl (hb hc d) (cL_get hl) r) g
theorem go_lload {k : Nat} (d : decode (mB M) pc = .ok (.lload k, 2)) (hl : L[k]? = some (.val (.long u))) (g : Go P M (pc + 2) L (.long u :: st) w out) : Go P M pc L (st) w out :=
  go_mv id (fun h hx hc α b r => XT.lload (g := mkF _ pc (cL α b L) (cV α b (st))) h hx rfl (hb hc d) (cL_get hl) r) g
theorem go_aloadN {k : Fin 4} {a : Nat} (d : decode (mB M) pc = .ok (.aload_n k, 1)) (hl : L[k.val]? = some (.val (.ref a))) (g : Go P M (pc + 1) L (.ref a :: st) w out) : Go P M pc L (st) w out :=
  go_mv id (fun h hx hc α b r => XS.aloadN (g := mkF _ pc (cL α b L) (cV α b (st))) h hx rfl (hb hc d) (cL_get hl) (con_ref α b (.ref a)) r) g
theorem go_aload {k : Nat} {a : Nat} (d : decode (mB M) pc = .ok (.aload k, 2)) (hl : L[k]? = some (.val (.ref a))) (g : Go P M (pc + 2) L (.ref a :: st) w out) : Go P M pc L (st) w out :=
  go_mv id (fun h hx hc α b r => XS.aload (g := mkF _ pc (cL α b L) (cV α b (st))) h hx rfl (hb hc d) (cL_get hl) (con_ref α b (.ref a)) r) g
theorem go_istoreN {k : Fin 4} (d : decode (mB M) pc = .ok (.istore_n k, 1)) (hl : storeLocals L.toArray k.val (.int x) = some L'.toArray) (g : Go P M (pc + 1) L' (st) w out) : Go P M pc L (.int x :: st) w out :=
  go_mv (fun q => by have := store_size hl; simp at this; omega) (fun h hx hc α b r => XS.istoreN (g := mkF _ pc (cL α b L) (cV α b (.int x :: st))) h hx rfl (hb hc d) rfl (storeC hl) r) g
theorem go_istore {k : Nat} (d : decode (mB M) pc = .ok (.istore k, 2)) (hl : storeLocals L.toArray k (.int x) = some L'.toArray) (g : Go P M (pc + 2) L' (st) w out) : Go P M pc L (.int x :: st) w out :=
  go_mv (fun q => by have := store_size hl; simp at this; omega) (fun h hx hc α b r => XS.istore (g := mkF _ pc (cL α b L) (cV α b (.int x :: st))) h hx rfl (hb hc d) rfl (storeC hl) r) g
theorem go_lstoreN {k : Fin 4} (d : decode (mB M) pc = .ok (.lstore_n k, 1)) (hl : storeLocals L.toArray k.val (.long u) = some L'.toArray) (g : Go P M (pc + 1) L' (st) w out) : Go P M pc L (.long u :: st) w out :=
  go_mv (fun q => by have := store_size hl; simp at this; omega) (fun h hx hc α b r => XT.lstoreN (g := mkF _ pc (cL α b L) (cV α b (.long u :: st))) h hx rfl (hb hc d) rfl (storeC hl) r) g
theorem go_lstore {k : Nat} (d : decode (mB M) pc = .ok (.lstore k, 2)) (hl : storeLocals L.toArray k (.long u) = some L'.toArray) (g : Go P M (pc + 2) L' (st) w out) : Go P M pc L (.long u :: st) w out :=
  go_mv (fun q => by have := store_size hl; simp at this; omega) (fun h hx hc α b r => XT.lstore (g := mkF _ pc (cL α b L) (cV α b (.long u :: st))) h hx rfl (hb hc d) rfl (storeC hl) r) g
theorem go_astoreN {k : Fin 4} {a : Nat} (d : decode (mB M) pc = .ok (.astore_n k, 1)) (hl : storeLocals L.toArray k.val (.ref a) = some L'.toArray) (g : Go P M (pc + 1) L' (st) w out) : Go P M pc L (.ref a :: st) w out :=
  go_mv (fun q => by have := store_size hl; simp at this; omega) (fun h hx hc α b r => XS.astoreN (g := mkF _ pc (cL α b L) (cV α b (.ref a :: st))) h hx rfl (hb hc d) rfl (con_ref α b (.ref a)) (storeC hl) r) g
theorem go_astore {k : Nat} {a : Nat} (d : decode (mB M) pc = .ok (.astore k, 2)) (hl : storeLocals L.toArray k (.ref a) = some L'.toArray) (g : Go P M (pc + 2) L' (st) w out) : Go P M pc L (.ref a :: st) w out :=
  go_mv (fun q => by have := store_size hl; simp at this; omega) (fun h hx hc α b r => XS.astore (g := mkF _ pc (cL α b L) (cV α b (.ref a :: st))) h hx rfl (hb hc d) rfl (con_ref α b (.ref a)) (storeC hl) r) g
theorem go_istoreNT {k : Fin 4} {L0 L1 D : List Slot} {n : Nat} (d : decode (mB M) pc = .ok (.istore_n k, 1)) (hk : k.val = L0.length) (h1 : L1 = L0 ++ [.val (.int x)]) (W : WT D) (hl : D.length = n + 1) (g : ∀ D', WT D' → D'.length = n → Go P M (pc + 1) (L1 ++ D') st w out) : Go P M pc (L0 ++ D) (.int x :: st) w out := by
  obtain ⟨D', W', l', e⟩ := stT (L0 := L0) (v := .int x) W hl rfl
  subst h1
  exact go_istoreN d (by rw [hk]; exact e) (g D' W' l')
theorem nilT {Q : List Slot → Prop} (g : Q []) : ∀ D', WT D' → D'.length = 0 → Q D' := fun D' _ l => by
  cases D' with
  | nil => exact g
  | cons => cases l
theorem go_istoreT {k : Nat} {L0 L1 D : List Slot} {n : Nat} (d : decode (mB M) pc = .ok (.istore k, 2)) (hk : k = L0.length) (h1 : L1 = L0 ++ [.val (.int x)]) (W : WT D) (hl : D.length = n + 1) (g : ∀ D', WT D' → D'.length = n → Go P M (pc + 2) (L1 ++ D') st w out) : Go P M pc (L0 ++ D) (.int x :: st) w out := by
  obtain ⟨D', W', l', e⟩ := stT (L0 := L0) (v := .int x) W hl rfl
  subst h1
  exact go_istore d (by rw [hk]; exact e) (g D' W' l')
theorem go_astoreNT {k : Fin 4} {L0 L1 D : List Slot} {n : Nat} {a : Nat} (d : decode (mB M) pc = .ok (.astore_n k, 1)) (hk : k.val = L0.length) (h1 : L1 = L0 ++ [.val (.ref a)]) (W : WT D) (hl : D.length = n + 1) (g : ∀ D', WT D' → D'.length = n → Go P M (pc + 1) (L1 ++ D') st w out) : Go P M pc (L0 ++ D) (.ref a :: st) w out := by
  obtain ⟨D', W', l', e⟩ := stT (L0 := L0) (v := .ref a) W hl rfl
  subst h1
  exact go_astoreN d (by rw [hk]; exact e) (g D' W' l')
theorem go_astoreT {k : Nat} {L0 L1 D : List Slot} {n : Nat} {a : Nat} (d : decode (mB M) pc = .ok (.astore k, 2)) (hk : k = L0.length) (h1 : L1 = L0 ++ [.val (.ref a)]) (W : WT D) (hl : D.length = n + 1) (g : ∀ D', WT D' → D'.length = n → Go P M (pc + 2) (L1 ++ D') st w out) : Go P M pc (L0 ++ D) (.ref a :: st) w out := by
  obtain ⟨D', W', l', e⟩ := stT (L0 := L0) (v := .ref a) W hl rfl
  subst h1
  exact go_astore d (by rw [hk]; exact e) (g D' W' l')
theorem go_lstoreNT {k : Fin 4} {L0 L1 D : List Slot} {n : Nat} (d : decode (mB M) pc = .ok (.lstore_n k, 1)) (hk : k.val = L0.length) (h1 : L1 = L0 ++ [.val (.long u), .second]) (W : WT D) (hl : D.length = n + 2) (g : ∀ D', WT D' → D'.length = n → Go P M (pc + 1) (L1 ++ D') st w out) : Go P M pc (L0 ++ D) (.long u :: st) w out := by
  obtain ⟨D', W', l', e⟩ := stT2 (L0 := L0) (u := u) W hl
  subst h1
  exact go_lstoreN d (by rw [hk]; exact e) (g D' W' l')
theorem go_lstoreT {k : Nat} {L0 L1 D : List Slot} {n : Nat} (d : decode (mB M) pc = .ok (.lstore k, 2)) (hk : k = L0.length) (h1 : L1 = L0 ++ [.val (.long u), .second]) (W : WT D) (hl : D.length = n + 2) (g : ∀ D', WT D' → D'.length = n → Go P M (pc + 2) (L1 ++ D') st w out) : Go P M pc (L0 ++ D) (.long u :: st) w out := by
  obtain ⟨D', W', l', e⟩ := stT2 (L0 := L0) (u := u) W hl
  subst h1
  exact go_lstore d (by rw [hk]; exact e) (g D' W' l')
theorem go_iconst {i : Int} (d : decode (mB M) pc = .ok (.iconst i, 1)) (hv : v = Int32.ofInt i) (g : Go P M (pc + 1) L (.int v :: st) w out) : Go P M pc L (st) w out :=
  go_mv id (fun h hx hc α b r => XS.iconst (g := mkF _ pc (cL α b L) (cV α b (st))) h hx rfl (hb hc d) (hv ▸ r)) g
theorem go_bipush {i : Int} (d : decode (mB M) pc = .ok (.bipush i, 2)) (hv : v = (Int8.ofInt i).toInt32) (g : Go P M (pc + 2) L (.int v :: st) w out) : Go P M pc L (st) w out :=
  go_mv id (fun h hx hc α b r => XS.bipush (g := mkF _ pc (cL α b L) (cV α b (st))) h hx rfl (hb hc d) (hv ▸ r)) g
theorem go_sipush {i : Int} (d : decode (mB M) pc = .ok (.sipush i, 3)) (hv : v = (Int16.ofInt i).toInt32) (g : Go P M (pc + 3) L (.int v :: st) w out) : Go P M pc L (st) w out :=
  go_mv id (fun h hx hc α b r => XS.sipush (g := mkF _ pc (cL α b L) (cV α b (st))) h hx rfl (hb hc d) (hv ▸ r)) g
theorem go_lconst {i : Fin 2} (d : decode (mB M) pc = .ok (.lconst i, 1)) (hv : u = Int64.ofNat i) (g : Go P M (pc + 1) L (.long u :: st) w out) : Go P M pc L (st) w out :=
  go_mv id (fun h hx hc α b r => XT.lconst (g := mkF _ pc (cL α b L) (cV α b (st))) h hx rfl (hb hc d) (hv ▸ r)) g
theorem go_dup  (d : decode (mB M) pc = .ok (.dup, 1))  (g : Go P M (pc + 1) L (.int x :: .int x :: st) w out) : Go P M pc L (.int x :: st) w out :=
  go_mv id (fun h hx hc α b r => XS.dup (g := mkF _ pc (cL α b L) (cV α b (.int x :: st))) h hx rfl (hb hc d) rfl rfl r) g
theorem go_dupR {a : Nat} (d : decode (mB M) pc = .ok (.dup, 1))  (g : Go P M (pc + 1) L (.ref a :: .ref a :: st) w out) : Go P M pc L (.ref a :: st) w out :=
  go_mv id (fun h hx hc α b r => XS.dup (g := mkF _ pc (cL α b L) (cV α b (.ref a :: st))) h hx rfl (hb hc d) rfl (con_cat α b (.ref a)) r) g
theorem go_dup2 {a : Nat} (d : decode (mB M) pc = .ok (.dup2, 1))  (g : Go P M (pc + 1) L (.int x :: .ref a :: .int x :: .ref a :: st) w out) : Go P M pc L (.int x :: .ref a :: st) w out :=
  go_mv id (fun h hx hc α b r => XT.dup2 (g := mkF _ pc (cL α b L) (cV α b (.int x :: .ref a :: st))) h hx rfl (hb hc d) rfl rfl (con_cat α b (.ref a)) r) g
theorem go_dup2I  (d : decode (mB M) pc = .ok (.dup2, 1))  (g : Go P M (pc + 1) L (.int x :: .int y :: .int x :: .int y :: st) w out) : Go P M pc L (.int x :: .int y :: st) w out :=
  go_mv id (fun h hx hc α b r => XT.dup2 (g := mkF _ pc (cL α b L) (cV α b (.int x :: .int y :: st))) h hx rfl (hb hc d) rfl rfl rfl r) g
theorem go_dup2L  (d : decode (mB M) pc = .ok (.dup2, 1))  (g : Go P M (pc + 1) L (.long u :: .long u :: st) w out) : Go P M pc L (.long u :: st) w out :=
  go_mv id (fun h hx hc α b r => XT.dup2L (g := mkF _ pc (cL α b L) (cV α b (.long u :: st))) h hx rfl (hb hc d) rfl r) g
theorem go_pop  (d : decode (mB M) pc = .ok (.pop, 1))  (g : Go P M (pc + 1) L (st) w out) : Go P M pc L (.int x :: st) w out :=
  go_mv id (fun h hx hc α b r => XT.pop (g := mkF _ pc (cL α b L) (cV α b (.int x :: st))) h hx rfl (hb hc d) rfl rfl r) g
theorem go_iadd  (d : decode (mB M) pc = .ok (.iadd, 1))  (g : Go P M (pc + 1) L (.int (x + y) :: st) w out) : Go P M pc L (.int y :: .int x :: st) w out :=
  go_mv id (fun h hx hc α b r => XS.iadd (g := mkF _ pc (cL α b L) (cV α b (.int y :: .int x :: st))) h hx rfl (hb hc d) rfl r) g
theorem go_isub  (d : decode (mB M) pc = .ok (.isub, 1))  (g : Go P M (pc + 1) L (.int (x - y) :: st) w out) : Go P M pc L (.int y :: .int x :: st) w out :=
  go_mv id (fun h hx hc α b r => XS.isub (g := mkF _ pc (cL α b L) (cV α b (.int y :: .int x :: st))) h hx rfl (hb hc d) rfl r) g
theorem go_imul  (d : decode (mB M) pc = .ok (.imul, 1))  (g : Go P M (pc + 1) L (.int (x * y) :: st) w out) : Go P M pc L (.int y :: .int x :: st) w out :=
  go_mv id (fun h hx hc α b r => XS.imul (g := mkF _ pc (cL α b L) (cV α b (.int y :: .int x :: st))) h hx rfl (hb hc d) rfl r) g
theorem go_iand  (d : decode (mB M) pc = .ok (.iand, 1))  (g : Go P M (pc + 1) L (.int (x &&& y) :: st) w out) : Go P M pc L (.int y :: .int x :: st) w out :=
  go_mv id (fun h hx hc α b r => XS.iand (g := mkF _ pc (cL α b L) (cV α b (.int y :: .int x :: st))) h hx rfl (hb hc d) rfl r) g
theorem go_ior  (d : decode (mB M) pc = .ok (.ior, 1))  (g : Go P M (pc + 1) L (.int (x ||| y) :: st) w out) : Go P M pc L (.int y :: .int x :: st) w out :=
  go_mv id (fun h hx hc α b r => XT.ior (g := mkF _ pc (cL α b L) (cV α b (.int y :: .int x :: st))) h hx rfl (hb hc d) rfl r) g
theorem go_ixor  (d : decode (mB M) pc = .ok (.ixor, 1))  (g : Go P M (pc + 1) L (.int (x ^^^ y) :: st) w out) : Go P M pc L (.int y :: .int x :: st) w out :=
  go_mv id (fun h hx hc α b r => XT.ixor (g := mkF _ pc (cL α b L) (cV α b (.int y :: .int x :: st))) h hx rfl (hb hc d) rfl r) g
theorem go_ishl  (d : decode (mB M) pc = .ok (.ishl, 1))  (g : Go P M (pc + 1) L (.int (x <<< (y &&& 31)) :: st) w out) : Go P M pc L (.int y :: .int x :: st) w out :=
  go_mv id (fun h hx hc α b r => XT.ishl (g := mkF _ pc (cL α b L) (cV α b (.int y :: .int x :: st))) h hx rfl (hb hc d) rfl r) g
theorem go_ishr  (d : decode (mB M) pc = .ok (.ishr, 1))  (g : Go P M (pc + 1) L (.int (x >>> (y &&& 31)) :: st) w out) : Go P M pc L (.int y :: .int x :: st) w out :=
  go_mv id (fun h hx hc α b r => XT.ishr (g := mkF _ pc (cL α b L) (cV α b (.int y :: .int x :: st))) h hx rfl (hb hc d) rfl r) g
theorem go_iushr  (d : decode (mB M) pc = .ok (.iushr, 1))  (g : Go P M (pc + 1) L (.int (XT.ushr x y) :: st) w out) : Go P M pc L (.int y :: .int x :: st) w out :=
  go_mv id (fun h hx hc α b r => XT.iushr (g := mkF _ pc (cL α b L) (cV α b (.int y :: .int x :: st))) h hx rfl (hb hc d) rfl r) g
theorem go_idiv  (d : decode (mB M) pc = .ok (.idiv, 1)) (hy : y ≠ 0) (g : Go P M (pc + 1) L (.int (x / y) :: st) w out) : Go P M pc L (.int y :: .int x :: st) w out :=
  go_mv id (fun h hx hc α b r => XS.idiv (g := mkF _ pc (cL α b L) (cV α b (.int y :: .int x :: st))) h hx rfl (hb hc d) rfl hy r) g
theorem go_irem  (d : decode (mB M) pc = .ok (.irem, 1)) (hy : y ≠ 0) (g : Go P M (pc + 1) L (.int (x % y) :: st) w out) : Go P M pc L (.int y :: .int x :: st) w out :=
  go_mv id (fun h hx hc α b r => XS.irem (g := mkF _ pc (cL α b L) (cV α b (.int y :: .int x :: st))) h hx rfl (hb hc d) rfl hy (by rw [irem_eq_mod x y]; exact r)) g
theorem go_ineg  (d : decode (mB M) pc = .ok (.ineg, 1))  (g : Go P M (pc + 1) L (.int (-x) :: st) w out) : Go P M pc L (.int x :: st) w out :=
  go_mv id (fun h hx hc α b r => XS.ineg (g := mkF _ pc (cL α b L) (cV α b (.int x :: st))) h hx rfl (hb hc d) rfl r) g
theorem go_ladd  (d : decode (mB M) pc = .ok (.ladd, 1))  (g : Go P M (pc + 1) L (.long (u + r) :: st) w out) : Go P M pc L (.long r :: .long u :: st) w out :=
  go_mv id (fun h hx hc α b k => XT.ladd (g := mkF _ pc (cL α b L) (cV α b (.long r :: .long u :: st))) h hx rfl (hb hc d) rfl k) g
theorem go_lsub  (d : decode (mB M) pc = .ok (.lsub, 1))  (g : Go P M (pc + 1) L (.long (u - r) :: st) w out) : Go P M pc L (.long r :: .long u :: st) w out :=
  go_mv id (fun h hx hc α b k => XT.lsub (g := mkF _ pc (cL α b L) (cV α b (.long r :: .long u :: st))) h hx rfl (hb hc d) rfl k) g
theorem go_lmul  (d : decode (mB M) pc = .ok (.lmul, 1))  (g : Go P M (pc + 1) L (.long (u * r) :: st) w out) : Go P M pc L (.long r :: .long u :: st) w out :=
  go_mv id (fun h hx hc α b k => XT.lmul (g := mkF _ pc (cL α b L) (cV α b (.long r :: .long u :: st))) h hx rfl (hb hc d) rfl k) g
theorem go_land  (d : decode (mB M) pc = .ok (.land, 1))  (g : Go P M (pc + 1) L (.long (u &&& r) :: st) w out) : Go P M pc L (.long r :: .long u :: st) w out :=
  go_mv id (fun h hx hc α b k => XT.land (g := mkF _ pc (cL α b L) (cV α b (.long r :: .long u :: st))) h hx rfl (hb hc d) rfl k) g
theorem go_lor  (d : decode (mB M) pc = .ok (.lor, 1))  (g : Go P M (pc + 1) L (.long (u ||| r) :: st) w out) : Go P M pc L (.long r :: .long u :: st) w out :=
  go_mv id (fun h hx hc α b k => XT.lor (g := mkF _ pc (cL α b L) (cV α b (.long r :: .long u :: st))) h hx rfl (hb hc d) rfl k) g
theorem go_lxor  (d : decode (mB M) pc = .ok (.lxor, 1))  (g : Go P M (pc + 1) L (.long (u ^^^ r) :: st) w out) : Go P M pc L (.long r :: .long u :: st) w out :=
  go_mv id (fun h hx hc α b k => XT.lxor (g := mkF _ pc (cL α b L) (cV α b (.long r :: .long u :: st))) h hx rfl (hb hc d) rfl k) g
theorem go_lshl  (d : decode (mB M) pc = .ok (.lshl, 1))  (g : Go P M (pc + 1) L (.long (u <<< (y.toInt64 &&& 63)) :: st) w out) : Go P M pc L (.int y :: .long u :: st) w out :=
  go_mv id (fun h hx hc α b r => XT.lshl (g := mkF _ pc (cL α b L) (cV α b (.int y :: .long u :: st))) h hx rfl (hb hc d) rfl r) g
theorem go_lshr  (d : decode (mB M) pc = .ok (.lshr, 1))  (g : Go P M (pc + 1) L (.long (u >>> (y.toInt64 &&& 63)) :: st) w out) : Go P M pc L (.int y :: .long u :: st) w out :=
  go_mv id (fun h hx hc α b r => XT.lshr (g := mkF _ pc (cL α b L) (cV α b (.int y :: .long u :: st))) h hx rfl (hb hc d) rfl r) g
theorem go_lushr  (d : decode (mB M) pc = .ok (.lushr, 1))  (g : Go P M (pc + 1) L (.long (XT.ushrL u y) :: st) w out) : Go P M pc L (.int y :: .long u :: st) w out :=
  go_mv id (fun h hx hc α b r => XT.lushr (g := mkF _ pc (cL α b L) (cV α b (.int y :: .long u :: st))) h hx rfl (hb hc d) rfl r) g
theorem go_lcmp  (d : decode (mB M) pc = .ok (.lcmp, 1))  (g : Go P M (pc + 1) L (.int (XT.cmpL u r) :: st) w out) : Go P M pc L (.long r :: .long u :: st) w out :=
  go_mv id (fun h hx hc α b k => XT.lcmp (g := mkF _ pc (cL α b L) (cV α b (.long r :: .long u :: st))) h hx rfl (hb hc d) rfl k) g
theorem go_i2l  (d : decode (mB M) pc = .ok (.i2l, 1))  (g : Go P M (pc + 1) L (.long x.toInt64 :: st) w out) : Go P M pc L (.int x :: st) w out :=
  go_mv id (fun h hx hc α b r => XT.i2l (g := mkF _ pc (cL α b L) (cV α b (.int x :: st))) h hx rfl (hb hc d) rfl r) g
theorem go_l2i  (d : decode (mB M) pc = .ok (.l2i, 1))  (g : Go P M (pc + 1) L (.int u.toInt32 :: st) w out) : Go P M pc L (.long u :: st) w out :=
  go_mv id (fun h hx hc α b r => XT.l2i (g := mkF _ pc (cL α b L) (cV α b (.long u :: st))) h hx rfl (hb hc d) rfl r) g
theorem go_i2b  (d : decode (mB M) pc = .ok (.i2b, 1))  (g : Go P M (pc + 1) L (.int x.toInt8.toInt32 :: st) w out) : Go P M pc L (.int x :: st) w out :=
  go_mv id (fun h hx hc α b r => XT.i2b (g := mkF _ pc (cL α b L) (cV α b (.int x :: st))) h hx rfl (hb hc d) rfl r) g
theorem go_iinc {k : Nat} {i : Int} (d : decode (mB M) pc = .ok (.iinc k i, 3)) (h1 : L[k]? = some (.val (.int x))) (hv : v = Int32.ofInt i) (hl : storeLocals L.toArray k (.int (x + v)) = some L'.toArray) (g : Go P M (pc + 3) L' (st) w out) : Go P M pc L (st) w out :=
  by subst hv; exact go_mv (fun q => by have := store_size hl; simp at this; omega) (fun h hx hc α b r => XS.iinc (g := mkF _ pc (cL α b L) (cV α b (st))) h hx rfl (hb hc d) (cL_get h1) (storeC hl) r) g
theorem go_goto {o : Int} (d : decode (mB M) pc = .ok (.goto o, 3)) (hp : 0 ≤ (pc : Int) + o ∧ ((pc : Int) + o).toNat = pc') (g : Go P M pc' L (st) w out) : Go P M pc L (st) w out :=
  go_mv id (fun h hx hc α b r => XS.goto (g := mkF _ pc (cL α b L) (cV α b (st))) h hx rfl rfl (hb hc d) hp.1 hp.2 r) g
theorem go_ifY {cd : ClassFile.Cond} {o : Int} (d : decode (mB M) pc = .ok (.ifCond cd o, 3)) (hq : ifCond.holds cd x = true) (hp : 0 ≤ (pc : Int) + o ∧ ((pc : Int) + o).toNat = pc') (g : Go P M pc' L (st) w out) : Go P M pc L (.int x :: st) w out :=
  go_mv id (fun h hx hc α b r => XS.ifYes (g := mkF _ pc (cL α b L) (cV α b (.int x :: st))) h hx rfl rfl (hb hc d) rfl hq hp.1 hp.2 r) g
theorem go_ifN {cd : ClassFile.Cond} {o : Int} (d : decode (mB M) pc = .ok (.ifCond cd o, 3)) (hq : ifCond.holds cd x = false) (g : Go P M (pc + 3) L (st) w out) : Go P M pc L (.int x :: st) w out :=
  go_mv id (fun h hx hc α b r => XS.ifNo (g := mkF _ pc (cL α b L) (cV α b (.int x :: st))) h hx rfl (hb hc d) rfl hq r) g
theorem go_icY {cd : ClassFile.Cond} {o : Int} (d : decode (mB M) pc = .ok (.if_icmp cd o, 3)) (hq : if_icmp.holds cd x y = true) (hp : 0 ≤ (pc : Int) + o ∧ ((pc : Int) + o).toNat = pc') (g : Go P M pc' L (st) w out) : Go P M pc L (.int y :: .int x :: st) w out :=
  go_mv id (fun h hx hc α b r => XS.icmpYes (g := mkF _ pc (cL α b L) (cV α b (.int y :: .int x :: st))) h hx rfl rfl (hb hc d) rfl hq hp.1 hp.2 r) g
theorem go_icN {cd : ClassFile.Cond} {o : Int} (d : decode (mB M) pc = .ok (.if_icmp cd o, 3)) (hq : if_icmp.holds cd x y = false) (g : Go P M (pc + 3) L (st) w out) : Go P M pc L (.int y :: .int x :: st) w out :=
  go_mv id (fun h hx hc α b r => XS.icmpNo (g := mkF _ pc (cL α b L) (cV α b (.int y :: .int x :: st))) h hx rfl (hb hc d) rfl hq r) g
theorem go_nonnull {o : Int} (d : decode (mB M) pc = .ok (.ifnonnull o, 3)) (hp : 0 ≤ (pc : Int) + o ∧ ((pc : Int) + o).toNat = pc') (g : Go P M pc' L st w out) : Go P M pc L (.ref 0 :: st) w out :=
  go_mv id (fun h hx hc α b r => XT.ifnonnullYes (g := mkF _ pc (cL α b L) (cV α b (.ref 0 :: st))) (b := α) h hx rfl rfl (hb hc d) rfl hp.1 hp.2 r) g
theorem go_tswIn {dflt low high : Int} {offs : Array Int} {len : Nat} {o : Int} (d : decode (mB M) pc = .ok (.tableswitch dflt low high offs, len)) (hin : ¬ (x.toInt < low ∨ x.toInt > high)) (hoff : offs[(x.toInt - low).toNat]? = some o) (hp : 0 ≤ (pc : Int) + o ∧ ((pc : Int) + o).toNat = pc') (g : Go P M pc' L st w out) : Go P M pc L (.int x :: st) w out :=
  go_mv id (fun h hx hc α b r => XS.tswIn (g := mkF _ pc (cL α b L) (cV α b (.int x :: st))) h hx rfl rfl (hb hc d) rfl hin hoff hp.1 hp.2 r) g
theorem go_top {x y : Int32} (h : x = y) (g : Go P M pc L (.int y :: st) w out) : Go P M pc L (.int x :: st) w out := by rw [h]; exact g
theorem go_tswOut {dflt low high : Int} {offs : Array Int} {len : Nat} (d : decode (mB M) pc = .ok (.tableswitch dflt low high offs, len)) (hout : x.toInt < low ∨ x.toInt > high) (hp : 0 ≤ (pc : Int) + dflt ∧ ((pc : Int) + dflt).toNat = pc') (g : Go P M pc' L st w out) : Go P M pc L (.int x :: st) w out :=
  go_mv id (fun h hx hc α b r => XS.tswOut (g := mkF _ pc (cL α b L) (cV α b (.int x :: st))) h hx rfl rfl (hb hc d) rfl hout hp.1 hp.2 r) g
/-! ### constants of the pool -/
theorem go_ldc {k : Nat} (d : decode (mB M) pc = .ok (.ldc k, 2)) (hk : Jvm.Cond.constant (mY M).cls k v ∈ P.1) (g : Go P M (pc + 2) L (.int v :: st) w out) : Go P M pc L st w out :=
  go_ch (fun l Z a0 p e R s m args below meth c α b n0 h0 uC uS ok hl T locs cells slots I => ⟨T, locs, cells, slots, I, fun target r => Stand.ldcI (g := mkF m pc (cL α b L) (cV α b st)) I.1 ok.2.2.1 ok.2.2.2.2.1 (mvT ok.2.2.2.1 (ok.1 _ hk)) rfl (hb ok.2.2.2.2.2.1 d) r⟩) g
theorem go_ldcW {k : Nat} (d : decode (mB M) pc = .ok (.ldc_w k, 3)) (hk : Jvm.Cond.constant (mY M).cls k v ∈ P.1) (g : Go P M (pc + 3) L (.int v :: st) w out) : Go P M pc L st w out :=
  go_ch (fun l Z a0 p e R s m args below meth c α b n0 h0 uC uS ok hl T locs cells slots I => ⟨T, locs, cells, slots, I, fun target r => Stand.ldcWI (g := mkF m pc (cL α b L) (cV α b st)) I.1 ok.2.2.1 ok.2.2.2.2.1 (mvT ok.2.2.2.1 (ok.1 _ hk)) rfl (hb ok.2.2.2.2.2.1 d) r⟩) g
theorem go_ldc2 {k : Nat} (d : decode (mB M) pc = .ok (.ldc2_w k, 3)) (hk : Jvm.Cond.constantLong (mY M).cls k u ∈ P.1) (g : Go P M (pc + 3) L (.long u :: st) w out) : Go P M pc L st w out :=
  go_ch (fun l Z a0 p e R s m args below meth c α b n0 h0 uC uS ok hl T locs cells slots I => ⟨T, locs, cells, slots, I, fun target r => Stand.ldc2J (g := mkF m pc (cL α b L) (cV α b st)) I.1 ok.2.2.1 ok.2.2.2.2.1 (mvT ok.2.2.2.1 (ok.1 _ hk)) rfl (hb ok.2.2.2.2.2.1 d) r⟩) g
/-! ### returns -/
theorem go_iret (hT : mT M = some .int) (d : decode (mB M) pc = .ok (.ireturn, 1)) : Go P M pc L (.int x :: st) w (some (.int x), w) := by
  intro hl l Z a0 p e R s m args below meth c α b n0 h0 uC uS ok T locs cells slots I
  exact ⟨T, locs, cells, slots, I, fun fs hv => retOut I.1 ok.2.2.1 (t := .int) (ok.2.2.2.2.2.2.2.1.trans hT) rfl (Or.inl ⟨rfl, Or.inl rfl, x, rfl⟩) (hb ok.2.2.2.2.2.1 d) hv⟩
theorem go_zret (hT : mT M = some .boolean) (d : decode (mB M) pc = .ok (.ireturn, 1)) (hz : v = nar .boolean x) : Go P M pc L (.int x :: st) w (some (.int v), w) := by
  intro hl l Z a0 p e R s m args below meth c α b n0 h0 uC uS ok T locs cells slots I
  subst hz
  exact ⟨T, locs, cells, slots, I, fun fs hv => retN I.1 ok.2.2.1 (t := .boolean) (ok.2.2.2.2.2.2.2.1.trans hT) (Or.inl rfl) (hb ok.2.2.2.2.2.1 d) hv⟩
theorem go_lret (hT : mT M = some .long) (d : decode (mB M) pc = .ok (.lreturn, 1)) : Go P M pc L (.long u :: st) w (some (.long u), w) := by
  intro hl l Z a0 p e R s m args below meth c α b n0 h0 uC uS ok T locs cells slots I
  exact ⟨T, locs, cells, slots, I, fun fs hv => retOut I.1 ok.2.2.1 (t := .long) (ok.2.2.2.2.2.2.2.1.trans hT) rfl (Or.inr (Or.inl ⟨rfl, rfl, u, rfl⟩)) (hb ok.2.2.2.2.2.1 d) hv⟩
theorem go_ret (hT : mT M = none) (d : decode (mB M) pc = .ok (.return_, 1)) : Go P M pc L [] w (none, w) := by
  intro hl l Z a0 p e R s m args below meth c α b n0 h0 uC uS ok T locs cells slots I
  exact ⟨T, locs, cells, slots, I, fun fs hv => I.1.returnOut ok.2.2.1 (ok.2.2.2.2.2.2.2.1.trans hT) (hb ok.2.2.2.2.2.1 d) hv⟩
/-! ### fields -/
variable {o o' : Nat × S} {s : S} {k n : Nat}
theorem rep_one {Z : State} {ci : CI} {α b : Nat} {h : Heap} (F : RepW Z ci α b (none, [o]) h) : Rep1 Z ci h b o := by
  have := F.2 0 o rfl
  simpa using this
theorem rep_mk {Z : State} {ci : CI} {α b : Nat} {h : Heap} (F : Rep1 Z ci h b o) : RepW Z ci α b (none, [o]) h :=
  ⟨fun l hl => (nomatch hl), fun i o1 ho => by
    cases i with
    | zero => cases ho; simpa using F
    | succ i => simp at ho⟩
/-- the entry idx names the scalar field number f; of type ty -/
def FldS (P : PI) (idx f : Nat) (ty : FieldType) : Prop := ∃ nm ds, (cS P.2)[f]? = some (nm, ds, ty) ∧ Jvm.Cond.fieldLink (cN P.2) idx (cN P.2) nm ds ∈ P.1
def FldA (P : PI) (idx q : Nat) (ty : FieldType) : Prop := ∃ nm ds cap, (cA P.2)[q]? = some (nm, ds, ty, cap) ∧ Jvm.Cond.fieldLink (cN P.2) idx (cN P.2) nm ds ∈ P.1
theorem go_getV {idx f : Nat} {ty : FieldType} (F : FldS P idx f ty) (hM : (mY M).cls = cN P.2) (d : decode (mB M) pc = .ok (.getfield idx, 3)) {vv : Value} (hv : vv = scV ty s f) (hr : ∀ α b, con α b vv = vv) (g : Go P M (pc + 3) L (vv :: st) (none, [(k, s)]) out) : Go P M pc L (.ref 1 :: st) (none, [(k, s)]) out :=
  go_ch (fun l Z a0 p e R s1 m args below meth c α b n0 h0 uC uS ok hl T locs cells slots I => by
    obtain ⟨nm, ds, f1, f2⟩ := F
    obtain ⟨hw, fa, hx, hZ, hown, hc, hml, hret, hnm, hR, hn0, htop, hsz⟩ := ok
    obtain ⟨X, Rp, Fm, Nl, hs, u1, u2, c1, c2, hN⟩ := I
    have Fd := (rep_one Rp).2.1 f _ f1
    rw [hM] at hown
    obtain ⟨T', X', e', stp⟩ := getF X hx hZ hown (host := "") (Or.inl (hw _ f2)) Via.refl rfl Fd (g := mkF m pc (cL α b L) (cV α b (.ref 1 :: st))) rfl rfl (hb hc d)
    refine ⟨T', locs, cells, slots, ⟨X', by rw [e']; exact Rp, by rw [e']; exact Fm, Nl, by rw [e']; exact hs, u1, u2, c1, c2, hN⟩, fun target r => stp target ?_⟩
    rw [show cV α b (vv :: st) = con α b vv :: cV α b st from rfl, hr, hv] at r
    exact r) g
theorem go_getI {idx f : Nat} (F : FldS P idx f .int) (hM : (mY M).cls = cN P.2) (d : decode (mB M) pc = .ok (.getfield idx, 3)) (g : Go P M (pc + 3) L (.int (gI s f) :: st) (none, [(k, s)]) out) : Go P M pc L (.ref 1 :: st) (none, [(k, s)]) out :=
  go_getV F hM d rfl (fun _ _ => rfl) g
theorem go_getZ {idx f : Nat} (F : FldS P idx f .boolean) (hM : (mY M).cls = cN P.2) (d : decode (mB M) pc = .ok (.getfield idx, 3)) (g : Go P M (pc + 3) L (.int (gI s f) :: st) (none, [(k, s)]) out) : Go P M pc L (.ref 1 :: st) (none, [(k, s)]) out :=
  go_getV F hM d rfl (fun _ _ => rfl) g
theorem go_getJ {idx f : Nat} (F : FldS P idx f .long) (hM : (mY M).cls = cN P.2) (d : decode (mB M) pc = .ok (.getfield idx, 3)) (g : Go P M (pc + 3) L (.long (gL s f) :: st) (none, [(k, s)]) out) : Go P M pc L (.ref 1 :: st) (none, [(k, s)]) out :=
  go_getV F hM d rfl (fun _ _ => rfl) g
theorem go_getA {idx q : Nat} {ty : FieldType} (F : FldA P idx q ty) (hM : (mY M).cls = cN P.2) (d : decode (mB M) pc = .ok (.getfield idx, 3)) (hq : Nat.blt q k = true) (g : Go P M (pc + 3) L (.ref (q + 2) :: st) (none, [(k, s)]) out) : Go P M pc L (.ref 1 :: st) (none, [(k, s)]) out :=
  go_ch (fun l Z a0 p e R s1 m args below meth c α b n0 h0 uC uS ok hl T locs cells slots I => by
    obtain ⟨nm, ds, cap, f1, f2⟩ := F
    obtain ⟨hw, fa, hx, hZ, hown, hc, hml, hret, hnm, hR, hn0, htop, hsz⟩ := ok
    obtain ⟨X, Rp, Fm, Nl, hs, u1, u2, c1, c2, hN⟩ := I
    have Fd := (rep_one Rp).2.2.1 q _ f1
    rw [if_pos (show q < (k, s).1 by simpa [Nat.blt_eq] using hq)] at Fd
    rw [hM] at hown
    obtain ⟨T', X', e', stp⟩ := getF X hx hZ hown (host := "") (Or.inl (hw _ f2)) Via.refl rfl Fd (g := mkF m pc (cL α b L) (cV α b (.ref 1 :: st))) rfl rfl (hb hc d)
    refine ⟨T', locs, cells, slots, ⟨X', by rw [e']; exact Rp, by rw [e']; exact Fm, Nl, by rw [e']; exact hs, u1, u2, c1, c2, hN⟩, fun target r => stp target ?_⟩
    rw [show cV α b (.ref (q + 2) :: st) = .ref (b + (q + 1)) :: cV α b st from rfl] at r
    rw [show b + 1 + q = b + (q + 1) by omega]
    exact r) g
/-- another scalar of the object takes its value -/
theorem rep_put {Z : State} {a0 : Array Value} {ci : CI} {h h' : Heap} {b : Nat} {s s' : S} {k f : Nat} {nm ds : String} {ty : FieldType} {vv : Value} (fa : Facts Z a0 ci) (F : Rep1 Z ci h b (k, s)) (hf : (cS ci)[f]? = some (nm, ds, ty))
    (Wt : Wr h h' b (Jvm.RoadKit.slotOf Z (cN ci) nm ds) vv) (hv : vv = scV ty s' f) (ho : ∀ f' x, (cS ci)[f']? = some x → f' ≠ f → scV x.2.2 s' f' = scV x.2.2 s f') (ha : gA s' = gA s) (hbb : gB s' = gB s) : Rep1 Z ci h' b (k, s') := by
  obtain ⟨f1, f2, f3, f4⟩ := F
  obtain ⟨-, -, g1, g2, g3, -⟩ := fa
  have lt := get_lt hf
  refine ⟨f1.wr Wt, fun f' x hx => ?_, fun q x hx => ?_, fun q x hx hq => ?_⟩
  · by_cases e : f' = f
    · subst e
      cases hf.symm.trans hx
      show Fld Z h' b (cN ci) nm ds (scV ty s' f')
      rw [← hv]; exact (f2 f' _ hf).same Wt
    · have lt' := get_lt hx
      show Fld Z h' b (cN ci) x.1 x.2.1 (scV x.2.2 s' f')
      rw [ho f' x hx e]
      refine (f2 f' x hx).other Wt (Or.inr ?_)
      refine slot_ne (g1 f' x hx).1 (g1 f _ hf).1 ?_ (g1 f' x hx).2 (g1 f _ hf).2
      intro en
      have n1 : ((cS ci).map (fun x => x.1) ++ (cA ci).map (fun x => x.1))[f']? = some x.1 := by rw [List.getElem?_append_left (by simpa using lt')]; simp [hx]
      have n2 : ((cS ci).map (fun x => x.1) ++ (cA ci).map (fun x => x.1))[f]? = some nm := by rw [List.getElem?_append_left (by simpa using lt)]; simp [hf]
      rw [en] at n1
      obtain ⟨i1, j1⟩ := List.getElem?_eq_some_iff.mp n1
      obtain ⟨i2, j2⟩ := List.getElem?_eq_some_iff.mp n2
      exact e ((List.getElem_inj g3).mp (j1.trans j2.symm))
  · refine (f3 q x hx).other Wt (Or.inr ?_)
    have lt' := get_lt hx
    refine slot_ne (g2 q x hx).1 (g1 f _ hf).1 ?_ (g2 q x hx).2 (g1 f _ hf).2
    intro en
    have n1 : ((cS ci).map (fun x => x.1) ++ (cA ci).map (fun x => x.1))[(cS ci).length + q]? = some x.1 := by rw [List.getElem?_append_right (by simp)]; simp [hx]
    have n2 : ((cS ci).map (fun x => x.1) ++ (cA ci).map (fun x => x.1))[f]? = some nm := by rw [List.getElem?_append_left (by simpa using lt)]; simp [hf]
    rw [en] at n1
    obtain ⟨i1, j1⟩ := List.getElem?_eq_some_iff.mp n1
    obtain ⟨i2, j2⟩ := List.getElem?_eq_some_iff.mp n2
    have := (List.getElem_inj g3).mp (j1.trans j2.symm)
    omega
  · obtain ⟨c, A, e⟩ := f4 q x hx hq
    refine ⟨c, A.other Wt (nq (by omega)), e.trans ?_⟩
    show (arV x.2.2.1 s q).toArray = (arV x.2.2.1 s' q).toArray
    unfold arV
    split <;> simp [ha, hbb]
theorem go_putV {idx f : Nat} {ty : FieldType} {vv : Value} {s' : S} (F : FldS P idx f ty) (hM : (mY M).cls = cN P.2)
    (hlays : ∀ nm ds, (cS P.2)[f]? = some (nm, ds, ty) → Jvm.Cond.lays (cN P.2) (cN P.2) nm ds ∈ P.1 ∨ (Jvm.Cond.laysFinal (cN P.2) (cN P.2) nm ds ∈ P.1 ∧ (mY M).name = "<init>"))
    (hpos : 0 < mN M) (hr : ∀ α b, con α b vv = vv) (hn : narrow ty vv = vv) (hfi : fits ty vv = true) (hv : vv = scV ty s' f) (ho : ∀ f' x, (cS P.2)[f']? = some x → f' ≠ f → scV x.2.2 s' f' = scV x.2.2 s f') (ha : gA s' = gA s) (hbb : gB s' = gB s)
    (d : decode (mB M) pc = .ok (.putfield idx, 3)) (g : Go P M (pc + 3) L st (none, [(k, s')]) out) : Go P M pc L (vv :: .ref 1 :: st) (none, [(k, s)]) out :=
  go_ch (fun l Z a0 p e R s1 m args below meth c α b n0 h0 uC uS ok hl T locs cells slots I => by
    obtain ⟨nm, ds, f1, f2⟩ := F
    obtain ⟨hw, fa, hx, hZ, hown, hc, hml, hret, hnm, hR, hn0, htop, hsz⟩ := ok
    obtain ⟨X, Rp, Fm, Nl, hs, u1, u2, c1, c2, hN⟩ := I
    have Rp1 := rep_one Rp
    have Fd := Rp1.2.1 f _ f1
    rw [hM] at hown
    obtain ⟨T', h', X', e', Wt, stp⟩ := putF X hx hZ hown (host := "") (Or.inl (hw _ f2)) Via.refl rfl Fd Rp1.1 ((hlays nm ds f1).imp (fun q => hw _ q) (fun q => ⟨hw _ q.1, rfl, hnm.trans q.2⟩)) fa.1 (fa.2.2.1 f _ f1).2 hn hfi (g := mkF m pc (cL α b L) (vv :: .ref b :: cV α b st)) rfl rfl (hb hc d)
    refine ⟨T', _, cells, slots, ⟨X', rep_mk (by rw [e']; exact rep_put fa Rp1 f1 Wt hv ho ha hbb), by rw [e']; exact Fm.wr Wt (Nat.le_refl _) (by have := Nat.mul_le_mul_left (cK P.2 + 1) hpos; omega), Fr.snoc X' Nl hn0, by rw [e', Wt.size]; exact hs, u1, u2, c1, c2, hN⟩, fun target r => ?_⟩
    rw [show cV α b (vv :: .ref 1 :: st) = con α b vv :: .ref b :: cV α b st from rfl, hr]
    exact stp target r) g
theorem scV_sI (s : S) (f : Nat) (x : Int32) (ty : FieldType) (f' : Nat) (h : f' ≠ f) : scV ty (sI s f x) f' = scV ty s f' := by
  unfold scV; split <;> simp [gI_sI, gL_sI, h]
theorem scV_sL (s : S) (f : Nat) (x : Int64) (ty : FieldType) (f' : Nat) (h : f' ≠ f) : scV ty (sL s f x) f' = scV ty s f' := by
  unfold scV; split <;> simp [gI_sL, gL_sL, h]
/-- the word that lets the field be written -/
def Wrt (P : PI) (M : Meth) (f : Nat) : Prop := ∃ nm ds ty, (cS P.2)[f]? = some (nm, ds, ty) ∧ (Jvm.Cond.lays (cN P.2) (cN P.2) nm ds ∈ P.1 ∨ (Jvm.Cond.laysFinal (cN P.2) (cN P.2) nm ds ∈ P.1 ∧ (mY M).name = "<init>"))
theorem Wrt.use {f : Nat} {ty : FieldType} (h : Wrt P M f) : ∀ nm ds, (cS P.2)[f]? = some (nm, ds, ty) → Jvm.Cond.lays (cN P.2) (cN P.2) nm ds ∈ P.1 ∨ (Jvm.Cond.laysFinal (cN P.2) (cN P.2) nm ds ∈ P.1 ∧ (mY M).name = "<init>") := by
  obtain ⟨nm, ds, ty', h1, h2⟩ := h
  intro nm' ds' h3
  cases h1.symm.trans h3
  exact h2
theorem go_putI {idx f : Nat} (F : FldS P idx f .int) (hM : (mY M).cls = cN P.2) (hl : Wrt P M f) (hp : 0 < mN M) (d : decode (mB M) pc = .ok (.putfield idx, 3)) (g : Go P M (pc + 3) L st (none, [(k, sI s f x)]) out) : Go P M pc L (.int x :: .ref 1 :: st) (none, [(k, s)]) out :=
  go_putV F hM hl.use hp (fun _ _ => rfl) rfl rfl (by simp [scV, gI_sI]) (fun f' y _ h => scV_sI s f x _ f' h) rfl rfl d g
theorem go_putZ {idx f : Nat} (F : FldS P idx f .boolean) (hM : (mY M).cls = cN P.2) (hl : Wrt P M f) (hp : 0 < mN M) (hz : x = 0 ∨ x = 1) (d : decode (mB M) pc = .ok (.putfield idx, 3)) (g : Go P M (pc + 3) L st (none, [(k, sI s f x)]) out) : Go P M pc L (.int x :: .ref 1 :: st) (none, [(k, s)]) out :=
  go_putV F hM hl.use hp (fun _ _ => rfl) (by rcases hz with rfl | rfl <;> rfl) (by rcases hz with rfl | rfl <;> rfl) (by simp [scV, gI_sI]) (fun f' y _ h => scV_sI s f x _ f' h) rfl rfl d g
theorem go_putJ {idx f : Nat} (F : FldS P idx f .long) (hM : (mY M).cls = cN P.2) (hl : Wrt P M f) (hp : 0 < mN M) (d : decode (mB M) pc = .ok (.putfield idx, 3)) (g : Go P M (pc + 3) L st (none, [(k, sL s f u)]) out) : Go P M pc L (.long u :: .ref 1 :: st) (none, [(k, s)]) out :=
  go_putV F hM hl.use hp (fun _ _ => rfl) rfl rfl (by simp [scV, gL_sL]) (fun f' y _ h => scV_sL s f u _ f' h) rfl rfl d g
/-! ### arrays -/
theorem ix_some {A : Type} {l : List A} {j : Int32} {x : A} (h : ix l j = some x) : ¬ j < 0 ∧ l[j.toNatClampNeg]? = some x := by
  unfold ix at h; split at h
  · cases h
  · rename_i q; exact ⟨q, h⟩
theorem st_some {A : Type} {l l' : List A} {j : Int32} {x : A} (h : Jvm.AM.st l j x = some l') : ¬ j < 0 ∧ j.toNatClampNeg < l.length ∧ l' = l.set j.toNatClampNeg x := by
  unfold Jvm.AM.st at h; split at h
  · cases h
  · rename_i q; split at h
    · rename_i q2; cases h; exact ⟨q, q2, rfl⟩
    · cases h
theorem ar_in {c : Cell} {vs : List Value} {j : Int32} {vv : Value} (e : c.slots = vs.toArray) (h1 : ¬ j < 0) (h2 : vs[j.toNatClampNeg]? = some vv) : ¬ (j < 0 ∨ c.slots.size ≤ j.toNatClampNeg) ∧ c.slots[j.toNatClampNeg]? = some vv := by
  have := get_lt h2
  refine ⟨fun q => ?_, by rw [e]; simpa using h2⟩
  rcases q with q | q
  · exact h1 q
  · rw [e] at q; simp at q; omega
theorem go_iaload {q : Nat} {j : Int32} {nm ds : String} {cap : Nat} (ha : (cA P.2)[q]? = some (nm, ds, .int, cap)) (hq : Nat.blt q k = true) (hx : ix (gA s q) j = some v) (d : decode (mB M) pc = .ok (.iaload, 1)) (g : Go P M (pc + 1) L (.int v :: st) (none, [(k, s)]) out) : Go P M pc L (.int j :: .ref (q + 2) :: st) (none, [(k, s)]) out :=
  go_ch (fun l Z a0 p e R s1 m args below meth c α b n0 h0 uC uS ok hl T locs cells slots I => by
    obtain ⟨cl, A, ec⟩ := (rep_one I.2.1).2.2.2 q _ ha (by simpa [Nat.blt_eq] using hq)
    obtain ⟨h1, h2⟩ := ix_some hx
    obtain ⟨h3, h4⟩ := ar_in ec h1 (vv := .int v) (by simp [arV, h2])
    refine ⟨T, locs, cells, slots, I, fun target r => ?_⟩
    refine I.1.iaload ok.2.2.1 (j := j) (v := .int v) A.1 (State.isArrayOf_alike ok.2.2.2.1.alike A.2.1) A.2.2 h3 h4 (g := mkF m pc (cL α b L) (.int j :: .ref (b + 1 + q) :: cV α b st)) rfl rfl (hb ok.2.2.2.2.2.1 d) _ r |> fun t => ?_
    rw [show cV α b (.int j :: .ref (q + 2) :: st) = .int j :: .ref (b + (q + 1)) :: cV α b st from rfl, show b + (q + 1) = b + 1 + q by omega]
    exact t) g
theorem go_laload {q : Nat} {j : Int32} {nm ds : String} {cap : Nat} (ha : (cA P.2)[q]? = some (nm, ds, .long, cap)) (hq : Nat.blt q k = true) (hx : ix (gB s q) j = some u) (d : decode (mB M) pc = .ok (.laload, 1)) (g : Go P M (pc + 1) L (.long u :: st) (none, [(k, s)]) out) : Go P M pc L (.int j :: .ref (q + 2) :: st) (none, [(k, s)]) out :=
  go_ch (fun l Z a0 p e R s1 m args below meth c α b n0 h0 uC uS ok hl T locs cells slots I => by
    obtain ⟨cl, A, ec⟩ := (rep_one I.2.1).2.2.2 q _ ha (by simpa [Nat.blt_eq] using hq)
    obtain ⟨h1, h2⟩ := ix_some hx
    obtain ⟨h3, h4⟩ := ar_in ec h1 (vv := .long u) (by simp [arV, h2])
    refine ⟨T, locs, cells, slots, I, fun target r => ?_⟩
    refine I.1.laload ok.2.2.1 (j := j) (v := .long u) A.1 (State.isArrayOf_alike ok.2.2.2.1.alike A.2.1) A.2.2 h3 h4 (g := mkF m pc (cL α b L) (.int j :: .ref (b + 1 + q) :: cV α b st)) rfl rfl (hb ok.2.2.2.2.2.1 d) _ r |> fun t => ?_
    rw [show cV α b (.int j :: .ref (q + 2) :: st) = .int j :: .ref (b + (q + 1)) :: cV α b st from rfl, show b + (q + 1) = b + 1 + q by omega]
    exact t) g
theorem go_baload {q : Nat} {j : Int32} {nm ds : String} {ty : FieldType} {cap : Nat} (ha : (cA P.2)[q]? = some (nm, ds, ty, cap)) (hty : ty = .boolean ∨ ty = .byte) (hq : Nat.blt q k = true) (hx : ix (gA s q) j = some v) (d : decode (mB M) pc = .ok (.baload, 1)) (g : Go P M (pc + 1) L (.int v :: st) (none, [(k, s)]) out) : Go P M pc L (.int j :: .ref (q + 2) :: st) (none, [(k, s)]) out :=
  go_ch (fun l Z a0 p e R s1 m args below meth c α b n0 h0 uC uS ok hl T locs cells slots I => by
    obtain ⟨cl, A, ec⟩ := (rep_one I.2.1).2.2.2 q _ ha (by simpa [Nat.blt_eq] using hq)
    obtain ⟨h1, h2⟩ := ix_some hx
    refine ⟨T, locs, cells, slots, I, fun target r => ?_⟩
    rw [show cV α b (.int j :: .ref (q + 2) :: st) = .int j :: .ref (b + (q + 1)) :: cV α b st from rfl, show b + (q + 1) = b + 1 + q by omega]
    rcases hty with rfl | rfl
    · obtain ⟨h3, h4⟩ := ar_in ec h1 (vv := .int v) (by simp [arV, h2])
      exact I.1.baloadBooleans ok.2.2.1 (j := j) (v := .int v) A.1 (State.isArrayOf_alike ok.2.2.2.1.alike A.2.1) A.2.2 h3 h4 (g := mkF m pc (cL α b L) (.int j :: .ref (b + 1 + q) :: cV α b st)) rfl rfl (hb ok.2.2.2.2.2.1 d) _ r
    · obtain ⟨h3, h4⟩ := ar_in ec h1 (vv := .int v) (by simp [arV, h2])
      exact I.1.baloadBytes ok.2.2.1 (j := j) (v := .int v) A.1 (State.isArrayOf_alike ok.2.2.2.1.alike A.2.1) A.2.2 h3 h4 (g := mkF m pc (cL α b L) (.int j :: .ref (b + 1 + q) :: cV α b st)) rfl rfl (hb ok.2.2.2.2.2.1 d) _ r) g
theorem go_alen {q : Nat} {nm ds : String} {ty : FieldType} {cap : Nat} (ha : (cA P.2)[q]? = some (nm, ds, ty, cap)) (hty : ty ≠ .long) (hq : Nat.blt q k = true) (d : decode (mB M) pc = .ok (.arraylength, 1)) (g : Go P M (pc + 1) L (.int (gA s q).length.toInt32 :: st) (none, [(k, s)]) out) : Go P M pc L (.ref (q + 2) :: st) (none, [(k, s)]) out :=
  go_ch (fun l Z a0 p e R s1 m args below meth c α b n0 h0 uC uS ok hl T locs cells slots I => by
    obtain ⟨cl, A, ec⟩ := (rep_one I.2.1).2.2.2 q _ ha (by simpa [Nat.blt_eq] using hq)
    refine ⟨T, locs, cells, slots, I, fun target r => ?_⟩
    have e1 : cl.slots.size = (gA s q).length := by rw [ec]; cases ty <;> simp [arV] at hty ⊢
    rw [show cV α b (.ref (q + 2) :: st) = .ref (b + (q + 1)) :: cV α b st from rfl, show b + (q + 1) = b + 1 + q by omega]
    refine I.1.arraylength ok.2.2.1 (cell := cl) A.1 (State.isArrayOf_alike ok.2.2.2.1.alike A.2.1) (g := mkF m pc (cL α b L) (.ref (b + 1 + q) :: cV α b st)) rfl rfl (hb ok.2.2.2.2.2.1 d) _ ?_
    rw [e1]; exact r) g
theorem go_sload {l0 : List Int32} {os : List (Nat × S)} {j : Int32} (hx : ix l0 j = some v) (d : decode (mB M) pc = .ok (.iaload, 1)) (g : Go P M (pc + 1) L (.int v :: st) (some l0, os) out) : Go P M pc L (.int j :: .ref 0 :: st) (some l0, os) out :=
  go_ch (fun l Z a0 p e R s1 m args below meth c α b n0 h0 uC uS ok hl T locs cells slots I => by
    obtain ⟨cl, A, ec⟩ := (I.2.1.1 l0 rfl).1
    obtain ⟨h1, h2⟩ := ix_some hx
    obtain ⟨h3, h4⟩ := ar_in ec h1 (vv := .int v) (by simp [h2])
    exact ⟨T, locs, cells, slots, I, fun target r => I.1.iaload ok.2.2.1 (j := j) (v := .int v) A.1 (State.isArrayOf_alike ok.2.2.2.1.alike A.2.1) A.2.2 h3 h4 (g := mkF m pc (cL α b L) (cV α b (.int j :: .ref 0 :: st))) rfl rfl (hb ok.2.2.2.2.2.1 d) _ r⟩) g
theorem go_slen {l0 : List Int32} {os : List (Nat × S)} (d : decode (mB M) pc = .ok (.arraylength, 1)) (g : Go P M (pc + 1) L (.int l0.length.toInt32 :: st) (some l0, os) out) : Go P M pc L (.ref 0 :: st) (some l0, os) out :=
  go_ch (fun l Z a0 p e R s1 m args below meth c α b n0 h0 uC uS ok hl T locs cells slots I => by
    obtain ⟨cl, A, ec⟩ := (I.2.1.1 l0 rfl).1
    refine ⟨T, locs, cells, slots, I, fun target r => ?_⟩
    have e1 : cl.slots.size = l0.length := by rw [ec]; simp
    refine I.1.arraylength ok.2.2.1 (cell := cl) A.1 (State.isArrayOf_alike ok.2.2.2.1.alike A.2.1) (g := mkF m pc (cL α b L) (cV α b (.ref 0 :: st))) rfl rfl (hb ok.2.2.2.2.2.1 d) _ ?_
    rw [e1]; exact r) g
/-- a component of an array of the object takes its value -/
theorem rep_store {Z : State} {ci : CI} {h h' : Heap} {b : Nat} {s s' : S} {k q i : Nat} {nm ds : String} {ty : FieldType} {cap : Nat} {vv : Value} (F : Rep1 Z ci h b (k, s)) (hf : (cA ci)[q]? = some (nm, ds, ty, cap)) (hq : q < k)
    (Wt : Wr h h' (b + 1 + q) i vv) (hi : i < (arV ty s q).length) (hv : arV ty s' q = (arV ty s q).set i vv) (ho : ∀ q' x, (cA ci)[q']? = some x → q' ≠ q → arV x.2.2.1 s' q' = arV x.2.2.1 s q') (ha : gI s' = gI s) (hbb : gL s' = gL s) : Rep1 Z ci h' b (k, s') := by
  obtain ⟨f1, f2, f3, f4⟩ := F
  refine ⟨f1.wr Wt, fun f x hx => ?_, fun q' x hx => (f3 q' x hx).other Wt (Or.inl (nq (by omega))), fun q' x hx hq' => ?_⟩
  · have e : scV x.2.2 s' f = scV x.2.2 s f := by unfold scV; split <;> simp [ha, hbb]
    show Fld Z h' b (cN ci) x.1 x.2.1 (scV x.2.2 s' f)
    rw [e]
    exact (f2 f x hx).other Wt (Or.inl (nq (by omega)))
  · by_cases e : q' = q
    · subst e
      cases hf.symm.trans hx
      obtain ⟨c, A, ec⟩ := f4 q' _ hf hq
      refine ⟨_, A.same Wt, ?_⟩
      show (c.setSlot i vv).slots = (arV ty s' q').toArray
      rw [hv]
      simp only [Cell.setSlot, ec]
      simp
    · obtain ⟨c, A, ec⟩ := f4 q' x hx hq'
      refine ⟨c, A.other Wt (nq (by omega)), ec.trans ?_⟩
      rw [ho q' x hx e]
theorem arV_sA (s : S) (q : Nat) (l : List Int32) (ty : FieldType) (q' : Nat) (h : q' ≠ q) : arV ty (sA s q l) q' = arV ty s q' := by
  unfold arV; split <;> simp [gA_sA, gB_sA, h]
theorem arV_sB (s : S) (q : Nat) (l : List Int64) (ty : FieldType) (q' : Nat) (h : q' ≠ q) : arV ty (sB s q l) q' = arV ty s q' := by
  unfold arV; split <;> simp [gA_sB, gB_sB, h]
theorem in_of {c : Cell} {vs : List Value} {j : Int32} (e : c.slots = vs.toArray) (h1 : ¬ j < 0) (h2 : j.toNatClampNeg < vs.length) : ¬ (j < 0 ∨ c.slots.size ≤ j.toNatClampNeg) := fun q => by
  rcases q with q | q
  · exact h1 q
  · rw [e] at q; simp at q; omega
theorem go_iastore {q : Nat} {j : Int32} {nm ds : String} {cap : Nat} {l' : List Int32} (ha : (cA P.2)[q]? = some (nm, ds, .int, cap)) (hq : Nat.blt q k = true) (hp : 0 < mN M) (hx : Jvm.AM.st (gA s q) j x = some l') (d : decode (mB M) pc = .ok (.iastore, 1)) (g : Go P M (pc + 1) L st (none, [(k, sA s q l')]) out) : Go P M pc L (.int x :: .int j :: .ref (q + 2) :: st) (none, [(k, s)]) out :=
  go_ch (fun l Z a0 p e R s1 m args below meth c α b n0 h0 uC uS ok hl T locs cells slots I => by
    have hq' : q < k := by simpa [Nat.blt_eq] using hq
    have hqK := get_lt ha
    obtain ⟨X, Rp, Fm, Nl, hs, u1, u2, c1, c2, hN⟩ := I
    obtain ⟨cl, A, ec⟩ := (rep_one Rp).2.2.2 q _ ha hq'
    obtain ⟨h1, h2, rfl⟩ := st_some hx
    have hin := in_of ec h1 (by simpa [arV] using h2)
    obtain ⟨T', h', X', e', Wt, stp⟩ := stI X ok.2.2.1 ok.2.2.2.1 rfl A (x := x) hin (g := mkF m pc (cL α b L) (.int x :: .int j :: .ref (b + 1 + q) :: cV α b st)) rfl rfl (hb ok.2.2.2.2.2.1 d)
    refine ⟨T', _, cells, slots, ⟨X', rep_mk (by rw [e']; exact rep_store (rep_one Rp) ha hq' Wt (by simpa [arV] using h2) (by simp [arV, gA_sA, List.map_set]) (fun q' y _ h => arV_sA s q _ _ q' h) rfl rfl), by rw [e']; exact Fm.wr Wt (by omega) (by have := Nat.mul_le_mul_left (cK P.2 + 1) hp; simp only [cK] at *; omega), Fr.snoc X' Nl (by have := ok.2.2.2.2.2.2.2.2.2.2.1; omega), by rw [e', Wt.size]; exact hs, u1, u2, c1, c2, hN⟩, fun target r => ?_⟩
    rw [show cV α b (.int x :: .int j :: .ref (q + 2) :: st) = .int x :: .int j :: .ref (b + (q + 1)) :: cV α b st from rfl, show b + (q + 1) = b + 1 + q by omega]
    exact stp target r) g
theorem go_lastore {q : Nat} {j : Int32} {nm ds : String} {cap : Nat} {l' : List Int64} (ha : (cA P.2)[q]? = some (nm, ds, .long, cap)) (hq : Nat.blt q k = true) (hp : 0 < mN M) (hx : Jvm.AM.st (gB s q) j u = some l') (d : decode (mB M) pc = .ok (.lastore, 1)) (g : Go P M (pc + 1) L st (none, [(k, sB s q l')]) out) : Go P M pc L (.long u :: .int j :: .ref (q + 2) :: st) (none, [(k, s)]) out :=
  go_ch (fun l Z a0 p e R s1 m args below meth c α b n0 h0 uC uS ok hl T locs cells slots I => by
    have hq' : q < k := by simpa [Nat.blt_eq] using hq
    have hqK := get_lt ha
    obtain ⟨X, Rp, Fm, Nl, hs, u1, u2, c1, c2, hN⟩ := I
    obtain ⟨cl, A, ec⟩ := (rep_one Rp).2.2.2 q _ ha hq'
    obtain ⟨h1, h2, rfl⟩ := st_some hx
    have hin := in_of ec h1 (by simpa [arV] using h2)
    obtain ⟨T', h', X', e', Wt, stp⟩ := stJ X ok.2.2.1 ok.2.2.2.1 rfl A (x := u) hin (g := mkF m pc (cL α b L) (.long u :: .int j :: .ref (b + 1 + q) :: cV α b st)) rfl rfl (hb ok.2.2.2.2.2.1 d)
    refine ⟨T', _, cells, slots, ⟨X', rep_mk (by rw [e']; exact rep_store (rep_one Rp) ha hq' Wt (by simpa [arV] using h2) (by simp [arV, gB_sB, List.map_set]) (fun q' y _ h => arV_sB s q _ _ q' h) rfl rfl), by rw [e']; exact Fm.wr Wt (by omega) (by have := Nat.mul_le_mul_left (cK P.2 + 1) hp; simp only [cK] at *; omega), Fr.snoc X' Nl (by have := ok.2.2.2.2.2.2.2.2.2.2.1; omega), by rw [e', Wt.size]; exact hs, u1, u2, c1, c2, hN⟩, fun target r => ?_⟩
    rw [show cV α b (.long u :: .int j :: .ref (q + 2) :: st) = .long u :: .int j :: .ref (b + (q + 1)) :: cV α b st from rfl, show b + (q + 1) = b + 1 + q by omega]
    exact stp target r) g
theorem go_bastore {q : Nat} {j : Int32} {nm ds : String} {ty : FieldType} {cap : Nat} {l' : List Int32} (ha : (cA P.2)[q]? = some (nm, ds, ty, cap)) (hty : ty = .boolean ∨ ty = .byte) (hq : Nat.blt q k = true) (hp : 0 < mN M) (hv : v = nar ty x) (hx : Jvm.AM.st (gA s q) j v = some l') (d : decode (mB M) pc = .ok (.bastore, 1)) (g : Go P M (pc + 1) L st (none, [(k, sA s q l')]) out) : Go P M pc L (.int x :: .int j :: .ref (q + 2) :: st) (none, [(k, s)]) out :=
  go_ch (fun l Z a0 p e R s1 m args below meth c α b n0 h0 uC uS ok hl T locs cells slots I => by
    have hq' : q < k := by simpa [Nat.blt_eq] using hq
    have hqK := get_lt ha
    obtain ⟨X, Rp, Fm, Nl, hs, u1, u2, c1, c2, hN⟩ := I
    obtain ⟨cl, A, ec⟩ := (rep_one Rp).2.2.2 q _ ha hq'
    obtain ⟨h1, h2, rfl⟩ := st_some hx
    subst hv
    have hlen : j.toNatClampNeg < (arV ty s q).length := by rcases hty with rfl | rfl <;> simpa [arV] using h2
    have hset : arV ty (sA s q ((gA s q).set j.toNatClampNeg (nar ty x))) q = (arV ty s q).set j.toNatClampNeg (.int (nar ty x)) := by rcases hty with rfl | rfl <;> simp [arV, gA_sA, List.map_set]
    have hin := in_of ec h1 hlen
    obtain ⟨T', h', X', e', Wt, stp⟩ : ∃ T' h', Stand p l e R s1 m args below meth c T' (locs ++ [⟨b + 1 + q, j.toNatClampNeg⟩]) cells slots ∧ T'.heap = h' ∧ Wr T.heap h' (b + 1 + q) j.toNatClampNeg (.int (nar ty x)) ∧ ∀ target, Steps p.tables e below (T'.setTop (mkF m (pc + 1) (cL α b L) (cV α b st))) target → Steps p.tables e below (T.setTop (mkF m pc (cL α b L) (.int x :: .int j :: .ref (b + 1 + q) :: cV α b st))) target := by
      rcases hty with rfl | rfl
      · exact stZ X ok.2.2.1 ok.2.2.2.1 rfl A (x := x) hin (g := mkF m pc (cL α b L) (.int x :: .int j :: .ref (b + 1 + q) :: cV α b st)) rfl rfl (hb ok.2.2.2.2.2.1 d)
      · exact stB X ok.2.2.1 ok.2.2.2.1 rfl A (x := x) hin (g := mkF m pc (cL α b L) (.int x :: .int j :: .ref (b + 1 + q) :: cV α b st)) rfl rfl (hb ok.2.2.2.2.2.1 d)
    refine ⟨T', _, cells, slots, ⟨X', rep_mk (by rw [e']; exact rep_store (rep_one Rp) ha hq' Wt hlen hset (fun q' y _ h => arV_sA s q _ _ q' h) rfl rfl), by rw [e']; exact Fm.wr Wt (by omega) (by have := Nat.mul_le_mul_left (cK P.2 + 1) hp; simp only [cK] at *; omega), Fr.snoc X' Nl (by have := ok.2.2.2.2.2.2.2.2.2.2.1; omega), by rw [e', Wt.size]; exact hs, u1, u2, c1, c2, hN⟩, fun target r => ?_⟩
    rw [show cV α b (.int x :: .int j :: .ref (q + 2) :: st) = .int x :: .int j :: .ref (b + (q + 1)) :: cV α b st from rfl, show b + (q + 1) = b + 1 + q by omega]
    exact stp target r) g
/-! ## 5. A method as a whole; calls -/
def Call (P : PI) (M : Meth) (as : List Value) (w : W) (out : Option Value × W) : Prop :=
  ∀ (l : Launch) (Z : State) (a0 : Array Value) (ws : List Jvm.Cond) (α b n0 : Nat) (h0 : Heap), (∀ d ∈ P.1, d.before a0 Z = true) → Facts Z a0 P.2 → n0 ≤ b → RepW Z P.2 α b w h0 → w.2.length ≤ mN M → (mTop M = true → h0.size = b + usedC w ∧ usedC w = mUC M ∧ usedS P.2 w = mUS M) →
    MetFree l (mY M) (head1 (Jvm.Cond.code (mY M) (mB M) (mL M) (mT M) :: ws) (mR M)) (fun a U => a = (cV α b as).toArray ∧ Z.Warmed39 U.vm ∧ U.heap = h0) (fun _ _ _ _ _ => True)
      (fun _ U o U' => ∃ v L, o = .returned v ∧ (v = out.1.map (con α b) ∧ Fr n0 L ∧ RepW Z P.2 α b out.2 U'.heap ∧ Frm b (b + (cK P.2 + 1) * mN M) h0 U'.heap ∧ ∃ k, U'.heap.size = h0.size + k ∧ k + usedC w = usedC out.2) ∧ FrameEnd U o U' L (mR M).cells (mR M).slots)
theorem call_of_go {as : List Value} (hpl : plainName (mY M).cls = true) (hlen : (entryL as (mL M)).length = mL M) (hret : mT M = none → out.1 = none) (g : Go P M 0 (entryL as (mL M)) [] w out) : Call P M as w out := by
  intro l Z a0 ws α b n0 h0 hw fa hn0 Rp hN htop
  refine MetFree.of_bodySF (plainFor_of_name hpl) hisR ?_
  intro p e s m args below meth c s₁ Bd hml0 hP hK
  obtain ⟨rfl, hZ, hh⟩ := hP
  have X0 : Stand p l e (mR M) s m (cV α b as).toArray below meth c s₁ [] 0 0 := Stand.of_body Bd
  have e0 : s₁.heap = h0 := by rw [← hh, Bd.state]; rfl
  obtain ⟨T', L', c', n', I', fin⟩ := g hlen l Z a0 p e (mR M) s m (cV α b as).toArray below meth c α b n0 h0 (usedC w) (usedS P.2 w) ⟨hw, fa, Bd.exec, hZ, findClass_of_methodNamed Bd.named, Bd.bytes, hml0, Bd.returns, (name_of_methodNamed Bd.named Bd.method).1, rfl, hn0, htop, by rw [hh]⟩ s₁ [] 0 0 ⟨X0, by rw [e0]; exact Rp, by rw [e0]; exact Frm.refl _ _ _, Fr.nil _, by rw [e0]; rfl, by simp, by simp, Nat.zero_le _, Nat.zero_le _, hN⟩
  obtain ⟨X', Rp', Fm', Nl', hs', u1', u2', c1', c2', hN'⟩ := I'
  obtain ⟨fs, hr, hrun, hended, hW, hsame⟩ := X'.leave (v := out.1.map (con α b)) (fun h => by rw [Bd.returns] at h; rw [hret h]; rfl)
  refine ⟨_, _, ?_, hrun, hended, _, _, rfl, ⟨rfl, Nl', Rp', Fm', c', hs', u1'⟩, ⟨_, rfl⟩, hW, hsame.mono c1' c2'⟩
  have q := fin fs hr
  rw [← entry_locals] at q
  exact q
def nr : Value → Bool
  | .ref _ => false
  | _ => true
theorem con_nr {α b : Nat} {v : Value} (h : nr v = true) : con α b v = v := by
  cases v <;> first | rfl | cases h
theorem cV_nr {α b : Nat} {l : List Value} (h : l.all nr = true) : cV α b l = l := by
  have : ∀ x ∈ l, con α b x = x := fun x hx => con_nr (List.all_eq_true.mp h x hx)
  unfold cV
  exact (List.map_congr_left this).trans (List.map_id _)
theorem rep_obj {Z : State} {ci : CI} {α b : Nat} {h : Heap} {i : Nat} (F : RepW Z ci α b w h) (ho : w.2[i]? = some o) : RepW Z ci 0 (b + (cK ci + 1) * i) (none, [o]) h := rep_mk (F.2 i o ho)
theorem rep_back {Z : State} {ci : CI} {α α' b : Nat} {h h' : Heap} {i : Nat} (F : RepW Z ci α b w h) (ho : w.2[i]? = some o) (G : RepW Z ci α' (b + (cK ci + 1) * i) (none, [o']) h') (Fm : Frm (b + (cK ci + 1) * i) (b + (cK ci + 1) * i + (cK ci + 1) * 1) h h') : RepW Z ci α b (w.1, w.2.set i o') h' := by
  refine ⟨fun l hl => ⟨((F.1 l hl).1).frm fun c q => Fm _ _ q (Or.inl ?_), (F.1 l hl).2⟩, fun j oj hj => ?_⟩
  · have := (F.1 l hl).2; exact Nat.lt_of_lt_of_le this (Nat.le_add_right _ _)
  · by_cases e : j = i
    · subst e
      rw [show (w.1, w.2.set j o').2 = w.2.set j o' from rfl, List.getElem?_set_self (get_lt ho)] at hj
      cases hj
      exact rep_one G
    · rw [show (w.1, w.2.set i o').2 = w.2.set i o' from rfl, List.getElem?_set_ne (Ne.symm e)] at hj
      refine (F.2 j oj hj).frm fun x c q1 q2 q3 => Fm _ _ q3 ?_
      rcases Nat.lt_or_gt_of_ne e with q | q
      · have := Nat.mul_le_mul_left (cK ci + 1) q
        rw [Nat.mul_succ] at this; omega
      · have := Nat.mul_le_mul_left (cK ci + 1) q
        rw [Nat.mul_succ] at this; omega
theorem sum_set {A : Type} (f : A → Nat) {a a' : A} : ∀ {l : List A} {i : Nat}, l[i]? = some a → ((l.set i a').map f).sum + f a = (l.map f).sum + f a'
  | [], i, h => by simp at h
  | b :: r, 0, h => by simp at h; subst h; simp; omega
  | b :: r, i + 1, h => by
    simp only [List.getElem?_cons_succ] at h
    have := sum_set f (a' := a') h
    simp only [List.set_cons_succ, List.map_cons, List.sum_cons]; omega
def CQ (ci : CI) (Z : State) (α b n0 : Nat) (h0 : Heap) (N : Nat) (w : W) (out : Option Value × W) (v : Option Value) (hp : Heap) (L : List Loc) : Prop := v = out.1.map (con α b) ∧ Fr n0 L ∧ RepW Z ci α b out.2 hp ∧ Frm b (b + (cK ci + 1) * N) h0 hp ∧ ∃ k, hp.size = h0.size + k ∧ k + usedC w = usedC out.2
/-- what a callee that makes nothing must fit into -/
def Small (M M' : Meth) (rest : List Value) : Prop := (mR M').cells = 0 ∧ (mR M').slots = 0 ∧ mTop M' = false ∧ Nat.ble ((mR M').frames + 1) (mR M).frames = true ∧ Nat.ble ((rest.map fun v => v.category).sum + (mL M' + 11) + (mR M').locals) (mR M).locals = true
theorem ret_st {α b b' : Nat} {r : Option Value} {rest : List Value} (hr : r.all nr = true) : (r.map (con 0 b')).toList ++ cV α b rest = cV α b (r.toList ++ rest) := by
  cases r with
  | none => rfl
  | some v => simp only [Option.map_some, Option.toList_some, cV, List.cons_append, List.nil_append, List.map_cons]; rw [con_nr (show nr v = true from hr), con_nr (show nr v = true from hr)]
theorem inv_obj {l : Launch} {Z : State} {p : Program} {e : Env} {R : Room} {s : State} {m : MethodId} {args : Array Value} {below : List Frame} {meth : Method} {c : Code} {α b n0 : Nat} {h0 : Heap} {uC uS : Nat} {T T2 : State} {locs L2 : List Loc} {cells slots rc rs i : Nat}
    (I : Inv P M l Z p e R s m args below meth c α b n0 h0 uC uS w T locs cells slots) (ho : w.2[i]? = some o) (X2 : Stand p l e R s m args below meth c T2 (locs ++ L2) (cells + rc) (slots + rs))
    (N2 : Fr n0 L2) (R2 : RepW Z P.2 0 (b + (cK P.2 + 1) * i) (none, [o']) T2.heap) (F2 : Frm (b + (cK P.2 + 1) * i) (b + (cK P.2 + 1) * i + (cK P.2 + 1) * 1) T.heap T2.heap) (k2 : ∃ k, T2.heap.size = T.heap.size + k ∧ k + usedC (none, [o]) = usedC (none, [o']))
    (hC : o'.1 = o.1 + rc) (hS : usedS P.2 (none, [o']) = usedS P.2 (none, [o]) + rs) (q1 : cells + rc ≤ R.cells) (q2 : slots + rs ≤ R.slots) : Inv P M l Z p e R s m args below meth c α b n0 h0 uC uS (w.1, w.2.set i o') T2 (locs ++ L2) (cells + rc) (slots + rs) := by
  obtain ⟨X, Rp, Fm, Nl, hs, u1, u2, c1, c2, hN⟩ := I
  obtain ⟨k, k1, k3⟩ := k2
  have hi := get_lt ho
  have a1 := sum_set (fun o : Nat × S => 1 + o.1) (a' := o') ho
  have a2 := sum_set (fun o : Nat × S => cF P.2 + (((cA P.2).take o.1).map fun x => x.2.2.2).sum) (a' := o') ho
  have hle : (cK P.2 + 1) * (i + 1) ≤ (cK P.2 + 1) * mN M := Nat.mul_le_mul_left _ (by omega)
  rw [Nat.mul_succ] at hle
  refine ⟨X2, rep_back Rp ho R2 F2, Fm.trans (F2.wide (Nat.le_add_right _ _) (by omega)), Nl.app N2, ?_, ?_, ?_, q1, q2, by simpa using hN⟩
  · simp only [usedC, List.map_cons, List.map_nil, List.sum_cons, List.sum_nil] at k3; omega
  · simp only [usedC] at u1 ⊢; omega
  · simp only [usedS, List.map_cons, List.map_nil, List.sum_cons, List.sum_nil] at u2 hS ⊢; omega
def LinkV (P : PI) (own : String) (idx : Nat) (M' : Meth) : Prop := Jvm.Cond.methodLink own idx (mY M') ∈ P.1 ∧ Jvm.Cond.declares (mY M') ∈ P.1 ∧ Jvm.Cond.selects (cN P.2) (mY M') (mY M') ∈ P.1 ∧ Jvm.Cond.instanceMethod (mY M') ∈ P.1 ∧ Jvm.Cond.code (mY M') (mB M') (mL M') (mT M') ∈ P.1 ∧ (mY M').cls = cN P.2 ∧ mN M' = 1
def LinkP (P : PI) (own : String) (idx : Nat) (M' : Meth) : Prop := Jvm.Cond.methodLink own idx (mY M') ∈ P.1 ∧ Jvm.Cond.instanceMethod (mY M') ∈ P.1 ∧ Jvm.Cond.privateMethod (mY M') ∈ P.1 ∧ Jvm.Cond.code (mY M') (mB M') (mL M') (mT M') ∈ P.1 ∧ (mY M').cls = cN P.2 ∧ mN M' = 1
def LinkS (P : PI) (own : String) (idx : Nat) (M' : Meth) : Prop := Jvm.Cond.methodLink own idx (mY M') ∈ P.1 ∧ Jvm.Cond.static (mY M') ∈ P.1 ∧ Jvm.Cond.initialized (mY M').cls ∈ P.1 ∧ Jvm.Cond.code (mY M') (mB M') (mL M') (mT M') ∈ P.1 ∧ ((mY M').cls ≠ "java/lang/invoke/MethodHandle" ∧ (mY M').cls ≠ "java/lang/invoke/VarHandle")
def LinkI (P : PI) (own : String) (idx : Nat) (M' : Meth) : Prop := Jvm.Cond.methodLink own idx (mY M') ∈ P.1 ∧ Jvm.Cond.instanceMethod (mY M') ∈ P.1 ∧ Jvm.Cond.code (mY M') (mB M') (mL M') (mT M') ∈ P.1 ∧ (mY M').cls = cN P.2 ∧ mN M' = 1 ∧ mT M' = none ∧ (mY M').name = "<init>"
variable {M' : Meth} {i idx id : Nat} {as rest : List Value} {rv : Option Value} {ps : List FieldType} {rt : Option FieldType}
theorem cV_call {α b : Nat} {jd : Nat} (hnr : as.all nr = true) (hst : st = as.reverse ++ .ref (jd + 1) :: rest) : cV α b st = as.reverse ++ .ref (b + jd) :: cV α b rest := by
  subst hst
  have h1 : cV α b as.reverse = as.reverse := cV_nr (by rw [List.all_reverse]; exact hnr)
  unfold cV at h1 ⊢
  rw [List.map_append, h1]; rfl
theorem go_virt (lk : LinkV P (mY M).cls idx M') (pd : parseMethodDescriptor (mY M').desc = some ⟨ps, rt⟩) (hn : as.length = ps.length) (hid : id = (cK P.2 + 1) * i + 1) (hst : st = as.reverse ++ .ref id :: rest) (hnr : as.all nr = true) (hrr : rv.all nr = true) (ho : w.2[i]? = some o) (hw' : w' = (w.1, w.2.set i o')) (hC : o'.1 = o.1) (sm : Small M M' rest)
    (d : decode (mB M) pc = .ok (.invokevirtual idx, 3)) (cl : Call P M' (.ref 1 :: as) (none, [o]) (rv, (none, [o']))) (g : Go P M (pc + 3) L (rv.toList ++ rest) w' out) : Go P M pc L st w out :=
  go_ch (fun l Z a0 p e R s1 m args below meth c α b n0 h0 uC uS ok hl T locs cells slots I => by
    subst hw' hid
    obtain ⟨hw, fa, hx, hZ, hown, hc, hml, hret, hnm, hR, hn0, htop, hsz⟩ := ok
    obtain ⟨k1, k2, k3, k4, k5, k6, k7⟩ := lk
    obtain ⟨z1, z2, z3, z4, z5⟩ := sm
    have C := cl l Z a0 [] 0 (b + (cK P.2 + 1) * i) n0 T.heap hw fa (Nat.le_trans hn0 (Nat.le_add_right _ _)) (rep_obj I.2.1 ho) (by rw [k7]; exact Nat.le_refl _) (fun q => by rw [z3] at q; cases q)
    have Bk := backOf (Q := CQ P.2 Z 0 (b + (cK P.2 + 1) * i) n0 T.heap (mN M') (none, [o]) (rv, (none, [o']))) (R := R) (p := p) (e := e) (below := below) (s := s1) (args := args) (len := 3) (W := (rest.map fun v => v.category).sum) C hZ (hw _ k5) (by rw [k6]; exact fa.2.1) (by rw [hR]; exact Nat.le_of_ble_eq_true z4) (by rw [hR]; exact Nat.le_of_ble_eq_true z5)
    have E := (I.2.1.2 i o ho).1
    obtain ⟨cB, kB, q1, q2, q3⟩ := isOf (T := T) hZ rfl E
    obtain ⟨v, vm1, ⟨T2, Lx, kx, nx⟩, -, X2, ⟨L2, hQ, l2, y2, n2⟩, stp⟩ := I.1.virtualBack hx (y := mY M') (z := mY M') hown (mvT hZ (hw _ k1)) (mvT hZ (hw _ k2)) (notFace_of_selects (args := #[]) (mvT hZ (hw _ k3))) (mvT hZ (hw _ k3)) (mvT hZ (hw _ k4)) (by rw [k6]; exact fa.2.2.2.2.2.2) Bk q1 q3 (g := mkF m pc (cL α b L) (cV α b st)) rfl (by show (cL α b L).size = c.maxLocals; rw [cL_size, hl, hml]) (Steps.refl _) (argsL := as) (rest := cV α b rest) (lenOf pd hn) (cV_call hnr hst)
      (by show 2 * 0 + _ ≤ _; rw [cV_sum]; exact Nat.le_of_eq (Nat.zero_add _)) (hb hc d) (fun _ _ => ⟨by rw [show (cV 0 (b + (cK P.2 + 1) * i) (.ref 1 :: as)) = .ref (b + (cK P.2 + 1) * i) :: cV 0 (b + (cK P.2 + 1) * i) as from rfl, cV_nr hnr], rfl, by rw [z1]; exact I.2.2.2.2.2.2.2.1, by rw [z2]; exact I.2.2.2.2.2.2.2.2.1⟩)
    dsimp only [Pt.U, Pt.locs, Pt.cells, Pt.slots] at X2 l2 y2 n2 stp hQ
    subst l2 y2 n2
    obtain ⟨rfl, N2, R2, F2, k8⟩ := hQ
    rw [k7] at F2
    refine ⟨T2, _, _, _, inv_obj I ho X2 N2 R2 F2 k8 (by rw [z1]; exact hC) (by rw [z2]; simp [usedS, hC]) (by rw [z1]; exact I.2.2.2.2.2.2.2.1) (by rw [z2]; exact I.2.2.2.2.2.2.2.2.1), fun target r => stp.trans ?_⟩
    rw [← ret_st (b' := b + (cK P.2 + 1) * i) hrr] at r
    exact r) g
theorem go_priv (lk : LinkP P (mY M).cls idx M') (pd : parseMethodDescriptor (mY M').desc = some ⟨ps, rt⟩) (hn : as.length = ps.length) (hid : id = (cK P.2 + 1) * i + 1) (hst : st = as.reverse ++ .ref id :: rest) (hnr : as.all nr = true) (hrr : rv.all nr = true) (ho : w.2[i]? = some o) (hw' : w' = (w.1, w.2.set i o')) (hC : o'.1 = o.1) (sm : Small M M' rest)
    (d : decode (mB M) pc = .ok (.invokevirtual idx, 3)) (cl : Call P M' (.ref 1 :: as) (none, [o]) (rv, (none, [o']))) (g : Go P M (pc + 3) L (rv.toList ++ rest) w' out) : Go P M pc L st w out :=
  go_ch (fun l Z a0 p e R s1 m args below meth c α b n0 h0 uC uS ok hl T locs cells slots I => by
    subst hw' hid
    obtain ⟨hw, fa, hx, hZ, hown, hc, hml, hret, hnm, hR, hn0, htop, hsz⟩ := ok
    obtain ⟨k1, k4, k3, k5, k6, k7⟩ := lk
    obtain ⟨z1, z2, z3, z4, z5⟩ := sm
    have C := cl l Z a0 [] 0 (b + (cK P.2 + 1) * i) n0 T.heap hw fa (Nat.le_trans hn0 (Nat.le_add_right _ _)) (rep_obj I.2.1 ho) (by rw [k7]; exact Nat.le_refl _) (fun q => by rw [z3] at q; cases q)
    have Bk := backOf (Q := CQ P.2 Z 0 (b + (cK P.2 + 1) * i) n0 T.heap (mN M') (none, [o]) (rv, (none, [o']))) (R := R) (p := p) (e := e) (below := below) (s := s1) (args := args) (len := 3) (W := (rest.map fun v => v.category).sum) C hZ (hw _ k5) (by rw [k6]; exact fa.2.1) (by rw [hR]; exact Nat.le_of_ble_eq_true z4) (by rw [hR]; exact Nat.le_of_ble_eq_true z5)
    obtain ⟨cell, q1, q2⟩ := (I.2.1.2 i o ho).1.cell
    have hy : (mY M').cls ≠ "java/lang/invoke/MethodHandle" ∧ (mY M').cls ≠ "java/lang/invoke/VarHandle" := by rw [k6]; exact fa.2.2.2.2.2.2
    have hpriv : s1.PrivateAt (mY M') := Cond.privateMethod_at (mvP hZ (hw _ k3) (args := #[]))
    have hin : (Jvm.Cond.instanceMethod (mY M')).before args s1 = true := mvT hZ (hw _ k4)
    obtain ⟨c2, kk, i1, i2, i3, i4, -⟩ := Cond.instantiable_spec fa.1
    obtain ⟨k', j1, j2⟩ := hZ.alike.2.2 _ _ i2
    have hsel : (Jvm.Cond.selects (mY M').cls (mY M') (mY M')).before args s1 = true := selects_self_of_private (c := c2) (k := k') (by rw [k6, hZ.alike.findClass]; exact i1) j1 (by
      have : kk.isInterface = false := by simp only [Bool.or_eq_false_iff] at i4; exact i4.1
      rw [j2]; exact this) hpriv hin hy
    obtain ⟨v, vm1, ⟨T2, Lx, kx, nx⟩, -, X2, ⟨L2, hQ, l2, y2, n2⟩, stp⟩ := I.1.privateBack hx (y := mY M') hown (mvT hZ (hw _ k1)) hin hsel hpriv (mvT hZ (hw _ k5)) hy Bk (g := mkF m pc (cL α b L) (cV α b st)) rfl (by show (cL α b L).size = c.maxLocals; rw [cL_size, hl, hml]) (Steps.refl _) (a := b + (cK P.2 + 1) * i) q1 q2 (argsL := as) (rest := cV α b rest) (lenOf pd hn) (cV_call hnr hst)
      (by show 2 * 0 + _ ≤ _; rw [cV_sum]; exact Nat.le_of_eq (Nat.zero_add _)) (hb hc d) (fun _ _ => ⟨by rw [show (cV 0 (b + (cK P.2 + 1) * i) (.ref 1 :: as)) = .ref (b + (cK P.2 + 1) * i) :: cV 0 (b + (cK P.2 + 1) * i) as from rfl, cV_nr hnr], rfl, by rw [z1]; exact I.2.2.2.2.2.2.2.1, by rw [z2]; exact I.2.2.2.2.2.2.2.2.1⟩)
    dsimp only [Pt.U, Pt.locs, Pt.cells, Pt.slots] at X2 l2 y2 n2 stp hQ
    subst l2 y2 n2
    obtain ⟨rfl, N2, R2, F2, k8⟩ := hQ
    rw [k7] at F2
    refine ⟨T2, _, _, _, inv_obj I ho X2 N2 R2 F2 k8 (by rw [z1]; exact hC) (by rw [z2]; simp [usedS, hC]) (by rw [z1]; exact I.2.2.2.2.2.2.2.1) (by rw [z2]; exact I.2.2.2.2.2.2.2.2.1), fun target r => stp.trans ?_⟩
    rw [← ret_st (b' := b + (cK P.2 + 1) * i) hrr] at r
    exact r) g
theorem go_stat (lk : LinkS P (mY M).cls idx M') (pd : parseMethodDescriptor (mY M').desc = some ⟨ps, rt⟩) (hn : as.length = ps.length) (hst : st = as.reverse ++ rest) (hN' : mN M' ≤ mN M ∧ w.2.length ≤ mN M') (hu : usedC w' = usedC w ∧ usedS P.2 w' = usedS P.2 w ∧ w'.2.length = w.2.length) (sm : Small M M' rest)
    (d : decode (mB M) pc = .ok (.invokestatic idx, 3)) (cl : Call P M' as w (rv, w')) (g : Go P M (pc + 3) L (rv.toList ++ rest) w' out) : Go P M pc L st w out :=
  go_ch (fun l Z a0 p e R s1 m args below meth c α b n0 h0 uC uS ok hl T locs cells slots I => by
    obtain ⟨hw, fa, hx, hZ, hown, hc, hml, hret, hnm, hR, hn0, htop, hsz⟩ := ok
    obtain ⟨k1, k2, k3, k5, k6⟩ := lk
    obtain ⟨z1, z2, z3, z4, z5⟩ := sm
    have C := cl l Z a0 [] α b n0 T.heap hw fa hn0 I.2.1 hN'.2 (fun q => by rw [z3] at q; cases q)
    have Bk := backOf (Q := CQ P.2 Z α b n0 T.heap (mN M') w (rv, w')) (R := R) (p := p) (e := e) (below := below) (s := s1) (args := args) (len := 3) (W := (rest.map fun v => v.category).sum) C hZ (hw _ k5) (hw _ k3) (by rw [hR]; exact Nat.le_of_ble_eq_true z4) (by rw [hR]; exact Nat.le_of_ble_eq_true z5)
    obtain ⟨v, vm1, ⟨T2, Lx, kx, nx⟩, -, X2, ⟨L2, hQ, l2, y2, n2⟩, stp⟩ := Jvm.LawKit.callS I.1 hx (y := mY M') hown (mvT hZ (hw _ k1)) (mvT hZ (hw _ k2)) (mvT hZ (hw _ k3)) (mvT hZ (hw _ k5)) k6 Bk (g := mkF m pc (cL α b L) (cV α b st)) rfl (by show (cL α b L).size = c.maxLocals; rw [cL_size, hl, hml]) (argsL := cV α b as) (rest := cV α b rest) (lenOf pd (by simpa [cV] using hn)) (by subst hst; simp [cV])
      (by show 2 * 0 + _ ≤ _; rw [cV_sum]; exact Nat.le_of_eq (Nat.zero_add _)) (hb hc d) (fun _ _ => ⟨rfl, rfl, by rw [z1]; exact I.2.2.2.2.2.2.2.1, by rw [z2]; exact I.2.2.2.2.2.2.2.2.1⟩)
    dsimp only [Pt.U, Pt.locs, Pt.cells, Pt.slots] at X2 l2 y2 n2 stp hQ
    subst l2 y2 n2
    obtain ⟨rfl, N2, R2, F2, k, k8, k9⟩ := hQ
    obtain ⟨X, Rp, Fm, Nl, hs, u1, u2, c1, c2, hN⟩ := I
    rw [z1, z2] at X2
    refine ⟨T2, _, _, _, ⟨X2, R2, Fm.trans (F2.wide (Nat.le_refl _) (by have := Nat.mul_le_mul_left (cK P.2 + 1) hN'.1; omega)), Nl.app N2, ?_, ?_, ?_, c1, c2, by rw [hu.2.2]; exact hN⟩, fun target r => stp target ?_⟩
    · rw [k8]; have := hu.1; simp only at k9; omega
    · rw [hu.1]; exact u1
    · rw [hu.2.1]; exact u2
    · have e1 : cV α b (rv.toList ++ rest) = (rv.map (con α b)).toList ++ cV α b rest := by cases rv <;> rfl
      rw [e1] at r; exact r) g
/-- a constructor, by its contract -/
theorem go_init {k2 : Nat} {s2 : S} (lk : LinkI P (mY M).cls idx M') (pd : parseMethodDescriptor (mY M').desc = some ⟨ps, rt⟩) (hn : as.length = ps.length) (hid : id = (cK P.2 + 1) * i + 1) (hst : st = as.reverse ++ .ref id :: rest) (hnr : as.all nr = true) (ho : w.2[i]? = some (k, s)) (hw' : w' = (w.1, w.2.set i (k2, s2)))
    (hC : k2 = k + (mR M').cells) (hS : usedS P.2 (none, [(k2, s2)]) = usedS P.2 (none, [(k, s)]) + (mR M').slots) (htM : mTop M = true) (hR1 : Nat.ble (usedC w + (mR M').cells) ((mR M).cells + mUC M) = true) (hR2 : Nat.ble (usedS P.2 w + (mR M').slots) ((mR M).slots + mUS M) = true)
    (hq : usedC w = (cK P.2 + 1) * i + usedC (none, [(k, s)]) ∧ usedC (none, [(k, s)]) = mUC M' ∧ usedS P.2 (none, [(k, s)]) = mUS M') (sm : Nat.ble ((mR M').frames + 1) (mR M).frames = true ∧ Nat.ble ((rest.map fun v => v.category).sum + (mL M' + 11) + (mR M').locals) (mR M).locals = true)
    (d : decode (mB M) pc = .ok (.invokespecial idx, 3)) (cl : Call P M' (.ref 1 :: as) (none, [(k, s)]) (none, (none, [(k2, s2)]))) (g : Go P M (pc + 3) L rest w' out) : Go P M pc L st w out :=
  go_ch (fun l Z a0 p e R s1 m args below meth c α b n0 h0 uC uS ok hl T locs cells slots I => by
    subst hw' hid
    obtain ⟨hw, fa, hx, hZ, hown, hc, hml, hret, hnm, hR, hn0, htop, hsz⟩ := ok
    obtain ⟨k1, k4, k5, k6, k7, k9, k10⟩ := lk
    obtain ⟨z4, z5⟩ := sm
    obtain ⟨t1, t2, t3⟩ := htop htM
    have Ic := I.2.2.2.2.2.1
    have Is := I.2.2.2.2.2.2.1
    have b1 : cells + (mR M').cells ≤ R.cells := by have := Nat.le_of_ble_eq_true hR1; rw [hR]; omega
    have b2 : slots + (mR M').slots ≤ R.slots := by have := Nat.le_of_ble_eq_true hR2; rw [hR]; omega
    have C := cl l Z a0 [] 0 (b + (cK P.2 + 1) * i) n0 T.heap hw fa (Nat.le_trans hn0 (Nat.le_add_right _ _)) (rep_obj I.2.1 ho) (by rw [k7]; exact Nat.le_refl _) (fun _ => ⟨by rw [I.2.2.2.2.1]; have := hq.1; omega, hq.2.1, hq.2.2⟩)
    have Bk := backOf (Q := CQ P.2 Z 0 (b + (cK P.2 + 1) * i) n0 T.heap (mN M') (none, [(k, s)]) (none, (none, [(k2, s2)]))) (R := R) (p := p) (e := e) (below := below) (s := s1) (args := args) (len := 3) (W := (rest.map fun v => v.category).sum) C hZ (hw _ k5) (by rw [k6]; exact fa.2.1) (by rw [hR]; exact Nat.le_of_ble_eq_true z4) (by rw [hR]; exact Nat.le_of_ble_eq_true z5)
    have hy : (mY M').cls ≠ "java/lang/invoke/MethodHandle" ∧ (mY M').cls ≠ "java/lang/invoke/VarHandle" := by rw [k6]; exact fa.2.2.2.2.2.2
    have hcd := hw _ k5
    rw [k9] at hcd
    obtain ⟨v, vm1, ⟨T2, Lx, kx, nx⟩, -, X2, ⟨L2, hQ, l2, y2, n2⟩, stp⟩ := I.1.specialBack hx (y := mY M') k10 hown (mvT hZ (hw _ k1)) (mvT hZ (hw _ k4)) (mvT hZ hcd) hy Bk (g := mkF m pc (cL α b L) (cV α b st)) rfl (by show (cL α b L).size = c.maxLocals; rw [cL_size, hl, hml]) (Steps.refl _) (a := b + (cK P.2 + 1) * i) (argsL := as) (rest := cV α b rest) (lenOf pd hn) (cV_call hnr hst)
      (by show 2 * 0 + _ ≤ _; rw [cV_sum]; exact Nat.le_of_eq (Nat.zero_add _)) (hb hc d) (fun _ _ => ⟨by rw [show (cV 0 (b + (cK P.2 + 1) * i) (.ref 1 :: as)) = .ref (b + (cK P.2 + 1) * i) :: cV 0 (b + (cK P.2 + 1) * i) as from rfl, cV_nr hnr], rfl, b1, b2⟩)
    dsimp only [Pt.U, Pt.locs, Pt.cells, Pt.slots] at X2 l2 y2 n2 stp hQ
    subst l2 y2 n2
    obtain ⟨rfl, N2, R2, F2, k8⟩ := hQ
    rw [k7] at F2
    exact ⟨T2, _, _, _, inv_obj I ho X2 N2 R2 F2 k8 hC hS b1 b2, fun target r => stp.trans r⟩) g
/-- Object's constructor -/
theorem go_objinit {a : Nat} (k1 : Jvm.Cond.methodLink (mY M).cls idx Lib.objectInit ∈ P.1) (k2 : Jvm.Cond.instanceMethod Lib.objectInit ∈ P.1) (k3 : Jvm.Cond.code Lib.objectInit ⟨#[0xb1]⟩ 1 none ∈ P.1) (z4 : Nat.ble 1 (mR M).frames = true) (z5 : Nat.ble ((rest.map fun v => v.category).sum + 12) (mR M).locals = true)
    (d : decode (mB M) pc = .ok (.invokespecial idx, 3)) (g : Go P M (pc + 3) L rest w out) : Go P M pc L (.ref (a + 1) :: rest) w out :=
  go_ch (fun l Z a0 p e R s1 m args below meth c α b n0 h0 uC uS ok hl T locs cells slots I => by
    obtain ⟨hw, fa, hx, hZ, hown, hc, hml, hret, hnm, hR, hn0, htop, hsz⟩ := ok
    obtain ⟨X, Rp, Fm, Nl, hs, u1, u2, c1, c2, hN⟩ := I
    obtain ⟨T', X', e', stp⟩ := initO X hx hZ hown (hw _ k1) (hw _ k2) (hw _ k3) rfl (g := mkF m pc (cL α b L) (cV α b (.ref (a + 1) :: rest))) rfl (by show (cL α b L).size = c.maxLocals; rw [cL_size, hl, hml]) (a := b + a) (rest := cV α b rest) rfl (hb hc d) (by rw [hR]; exact Nat.le_of_ble_eq_true z4) (W := (rest.map fun v => v.category).sum) (by show 2 * 0 + _ ≤ _; rw [cV_sum]; exact Nat.le_of_eq (Nat.zero_add _)) (by rw [hR]; exact Nat.le_of_ble_eq_true z5)
    exact ⟨T', locs, cells, slots, ⟨X', by rw [e']; exact Rp, by rw [e']; exact Fm, Nl, by rw [e']; exact hs, u1, u2, c1, c2, hN⟩, fun target r => stp target r⟩) g
/-- a new object of the class -/
theorem go_new {n : Nat} (k1 : Jvm.Cond.classLink (mY M).cls idx (cN P.2) ∈ P.1) (htM : mTop M = true) (hn : w.2.length = n) (hq : usedC w = (cK P.2 + 1) * n) (hw' : w' = (w.1, w.2 ++ [(0, s0)])) (hN' : Nat.blt n (mN M) = true) (hR1 : Nat.ble (usedC w + 1) ((mR M).cells + mUC M) = true) (hR2 : Nat.ble (usedS P.2 w + cF P.2) ((mR M).slots + mUS M) = true)
    (d : decode (mB M) pc = .ok (.new idx, 3)) (hid : id = (cK P.2 + 1) * n + 1) (g : Go P M (pc + 3) L (.ref id :: st) w' out) : Go P M pc L st w out :=
  go_ch (fun l Z a0 p e R s1 m args below meth c α b n0 h0 uC uS ok hl T locs cells slots I => by
    subst hw' hid
    obtain ⟨hw, fa, hx, hZ, hown, hc, hml, hret, hnm, hR, hn0, htop, hsz⟩ := ok
    obtain ⟨X, Rp, Fm, Nl, hs, u1, u2, c1, c2, hN⟩ := I
    obtain ⟨t1, t2, t3⟩ := htop htM
    have b1 : cells + 1 ≤ R.cells := by have := Nat.le_of_ble_eq_true hR1; rw [hR]; omega
    have b2 : slots + cF P.2 ≤ R.slots := by have := Nat.le_of_ble_eq_true hR2; rw [hR]; omega
    obtain ⟨T2, h2, X2, e2, E2, A2, D2, -, st2⟩ := newO X hx hZ hown (hw _ k1) fa.1 fa.2.1 rfl (g := mkF m pc (cL α b L) (cV α b st)) rfl (hb hc d) b1 b2
    have ha : T.heap.size = b + (cK P.2 + 1) * n := by rw [hs, t1]; omega
    rw [ha] at A2 D2 st2
    have sz2 : T2.heap.size = T.heap.size + 1 := by
      have q1 := X2.heapSize
      have q2 : b + (cK P.2 + 1) * n < h2.size := A2.lt
      rw [e2] at q1 ⊢
      omega
    refine ⟨T2, locs, _, _, ⟨X2, ?_, by rw [e2]; exact Fm.ext E2, Nl, by rw [sz2, hs]; omega, ?_, ?_, b1, b2, ?_⟩, fun target r => st2 target ?_⟩
    · rw [e2]
      refine ⟨fun l1 h1 => (Rp.ext E2).1 l1 h1, fun j oj hj => ?_⟩
      by_cases q : j < w.2.length
      · rw [show (w.1, w.2 ++ [(0, s0)]).2 = w.2 ++ [(0, s0)] from rfl, List.getElem?_append_left q] at hj
        exact (Rp.ext E2).2 j oj hj
      · have hj' := get_lt hj
        simp at hj'
        have ej : j = n := by omega
        subst ej
        rw [show (w.1, w.2 ++ [(0, s0)]).2 = w.2 ++ [(0, s0)] from rfl, List.getElem?_append_right (by omega)] at hj
        rw [hn] at hj; simp at hj; subst hj
        refine ⟨A2, fun f x hx => ?_, fun q x hx => ?_, fun q x _ hq => absurd hq (Nat.not_lt_zero _)⟩
        · have := D2 (fa.2.2.1 f x hx).1 (fa.2.2.1 f x hx).2
          rw [fa.2.2.2.2.2.1 f x hx] at this
          exact this
        · have := D2 (fa.2.2.2.1 q x hx).1 (fa.2.2.2.1 q x hx).2
          rw [if_neg (Nat.not_lt_zero _)]
          exact this
    · simp [usedC] at u1 ⊢; omega
    · simp [usedS] at u2 ⊢; omega
    · simp; have : n < mN M := by simpa [Nat.blt_eq] using hN'
      omega
    · exact r) g
/-- a new array, laid into its field at once -/
theorem rep_new {Z : State} {a0 : Array Value} {ci : CI} {h h1 h2 : Heap} {b : Nat} {s s' : S} {k : Nat} {nm ds : String} {ty : FieldType} {cap : Nat} {cl : Cell} (fa : Facts Z a0 ci) (F : Rep1 Z ci h b (k, s)) (hf : (cA ci)[k]? = some (nm, ds, ty, cap)) (E : Ext h h1) (A : Arr Z h1 (b + 1 + k) cl ty) (ec : cl.slots = (arV ty s' k).toArray)
    (Wt : Wr h1 h2 b (Jvm.RoadKit.slotOf Z (cN ci) nm ds) (.ref (b + 1 + k))) (ho : ∀ q' x, (cA ci)[q']? = some x → q' ≠ k → arV x.2.2.1 s' q' = arV x.2.2.1 s q') (ha : gI s' = gI s) (hbb : gL s' = gL s) : Rep1 Z ci h2 b (k + 1, s') := by
  obtain ⟨f1, f2, f3, f4⟩ := F
  obtain ⟨-, -, g1, g2, g3, -⟩ := fa
  have lt := get_lt hf
  refine ⟨(f1.ext E).wr Wt, fun f x hx => ?_, fun q x hx => ?_, fun q x hx hq => ?_⟩
  · have e : scV x.2.2 s' f = scV x.2.2 s f := by unfold scV; split <;> simp [ha, hbb]
    have lt' := get_lt hx
    show Fld Z h2 b (cN ci) x.1 x.2.1 (scV x.2.2 s' f)
    rw [e]
    refine ((f2 f x hx).ext E).other Wt (Or.inr ?_)
    refine slot_ne (g1 f x hx).1 (g2 k _ hf).1 ?_ (g1 f x hx).2 (g2 k _ hf).2
    intro en
    have n1 : ((cS ci).map (fun x => x.1) ++ (cA ci).map (fun x => x.1))[f]? = some x.1 := by rw [List.getElem?_append_left (by simpa using lt')]; simp [hx]
    have n2 : ((cS ci).map (fun x => x.1) ++ (cA ci).map (fun x => x.1))[(cS ci).length + k]? = some nm := by rw [List.getElem?_append_right (by simp)]; simp [hf]
    rw [en] at n1
    obtain ⟨i1, j1⟩ := List.getElem?_eq_some_iff.mp n1
    obtain ⟨i2, j2⟩ := List.getElem?_eq_some_iff.mp n2
    have := (List.getElem_inj g3).mp (j1.trans j2.symm)
    omega
  · by_cases e : q = k
    · subst e
      cases hf.symm.trans hx
      rw [if_pos (show q < (q + 1, s').1 from Nat.lt_succ_self q)]
      exact ((f3 q _ hf).ext E).same Wt
    · have lt' := get_lt hx
      have e2 : (if q < (k + 1, s').1 then Value.ref (b + 1 + q) else Value.null) = (if q < (k, s).1 then Value.ref (b + 1 + q) else Value.null) := by
        show (if q < k + 1 then _ else _) = (if q < k then _ else _)
        by_cases q1 : q < k
        · rw [if_pos q1, if_pos (by omega)]
        · rw [if_neg q1, if_neg (by omega)]
      rw [e2]
      refine ((f3 q x hx).ext E).other Wt (Or.inr ?_)
      refine slot_ne (g2 q x hx).1 (g2 k _ hf).1 ?_ (g2 q x hx).2 (g2 k _ hf).2
      intro en
      have n1 : ((cS ci).map (fun x => x.1) ++ (cA ci).map (fun x => x.1))[(cS ci).length + q]? = some x.1 := by rw [List.getElem?_append_right (by simp)]; simp [hx]
      have n2 : ((cS ci).map (fun x => x.1) ++ (cA ci).map (fun x => x.1))[(cS ci).length + k]? = some nm := by rw [List.getElem?_append_right (by simp)]; simp [hf]
      rw [en] at n1
      obtain ⟨i1, j1⟩ := List.getElem?_eq_some_iff.mp n1
      obtain ⟨i2, j2⟩ := List.getElem?_eq_some_iff.mp n2
      have := (List.getElem_inj g3).mp (j1.trans j2.symm)
      omega
  · by_cases e : q = k
    · subst e
      cases hf.symm.trans hx
      exact ⟨cl, A.other Wt (nq (by omega)), ec⟩
    · obtain ⟨c, B, eb⟩ := f4 q x hx (by have : q < k + 1 := hq; show q < k; omega)
      refine ⟨c, (B.ext E).other Wt (nq (by omega)), eb.trans ?_⟩
      rw [ho q x hx e]
theorem go_newV {aty : ArrayType} {ty : FieldType} {nm ds : String} {cap : Nat} {n : Int32} {s' : S} (hty : newarray.typeOf aty = ty) (ha : (cA P.2)[k]? = some (nm, ds, ty, cap)) (k0 : Jvm.Cond.arrayClass ty ∈ P.1) (k1 : Jvm.Cond.fieldLink (cN P.2) idx (cN P.2) nm ds ∈ P.1) (hM : (mY M).cls = cN P.2)
    (hlays : Jvm.Cond.lays (cN P.2) (cN P.2) nm ds ∈ P.1 ∨ (Jvm.Cond.laysFinal (cN P.2) (cN P.2) nm ds ∈ P.1 ∧ (mY M).name = "<init>")) (htM : mTop M = true) (hp : 0 < mN M) (hn : ¬ n < 0) (hcap : Nat.ble n.toNatClampNeg cap = true) (hbig : Nat.ble (cap * 8) 536870912 = true)
    (hR1 : Nat.ble (1 + k + 1) ((mR M).cells + mUC M) = true) (hR2 : Nat.ble (usedS P.2 (none, [(k, s)]) + cap) ((mR M).slots + mUS M) = true)
    (hv : arV ty s' k = List.replicate n.toNatClampNeg (defaultValue ty)) (hoth : ∀ q' x, (cA P.2)[q']? = some x → q' ≠ k → arV x.2.2.1 s' q' = arV x.2.2.1 s q') (hgI : gI s' = gI s) (hgL : gL s' = gL s)
    (d : decode (mB M) pc = .ok (.newarray aty, 2)) (d2 : decode (mB M) (pc + 2) = .ok (.putfield idx, 3)) (g : Go P M (pc + 5) L st (none, [(k + 1, s')]) out) : Go P M pc L (.int n :: .ref 1 :: st) (none, [(k, s)]) out :=
  go_ch (fun l Z a0 p e R s1 m args below meth c α b n0 h0 uC uS ok hl T locs cells slots I => by
    obtain ⟨hw, fa, hx, hZ, hown, hc, hml, hret, hnm, hR, hn0, htop, hsz⟩ := ok
    obtain ⟨X, Rp, Fm, Nl, hs, u1, u2, c1, c2, hN⟩ := I
    obtain ⟨t1, t2, t3⟩ := htop htM
    have u1' : cells + uC = 1 + k := by simpa [usedC] using u1
    have b1 : cells + 1 ≤ R.cells := by have := Nat.le_of_ble_eq_true hR1; rw [hR]; omega
    have b2 : slots + cap ≤ R.slots := by have := Nat.le_of_ble_eq_true hR2; rw [hR]; omega
    subst hty
    obtain ⟨T2, h2, cA2, X2, e2, E2, A2, st2⟩ := newP X hx hZ (hw _ k0) rfl (g := mkF m pc (cL α b L) (.int n :: .ref b :: cV α b st)) rfl (hb hc d) rfl hn (Nat.le_of_ble_eq_true hcap) (Nat.le_of_ble_eq_true hbig) b1 b2
    have hadr : T.heap.size = b + 1 + k := by rw [hs, t1]; omega
    rw [hadr] at A2 st2
    have sz2 : T2.heap.size = T.heap.size + 1 := by
      have q1 := X2.heapSize
      have q2 : b + 1 + k < h2.size := A2.lt
      rw [e2] at q1 ⊢
      omega
    have Rp1 := rep_one Rp
    have Fd := Rp1.2.2.1 k _ ha
    rw [if_neg (show ¬ k < (k, s).1 from Nat.lt_irrefl k)] at Fd
    rw [hM] at hown
    obtain ⟨T3, h3, X3, e3, Wt, st3⟩ := putF X2 hx hZ hown (host := "") (Or.inl (hw _ k1)) Via.refl e2 (Fd.ext E2) (Rp1.1.ext E2) (hlays.imp (fun q => hw _ q) (fun q => ⟨hw _ q.1, rfl, hnm.trans q.2⟩)) fa.1 (fa.2.2.2.1 k _ ha).2 (v := .ref (b + 1 + k)) rfl rfl (g := mkF m (pc + 2) (cL α b L) (.ref (b + 1 + k) :: .ref b :: cV α b st)) rfl rfl (hb hc d2)
    refine ⟨T3, _, _, _, ⟨X3, rep_mk (by rw [e3]; exact rep_new fa Rp1 ha E2 A2 (by rw [hv]; simp [newA]) Wt hoth hgI hgL), by rw [e3]; exact (Fm.ext E2).wr Wt (Nat.le_refl _) (by have := Nat.mul_le_mul_left (cK P.2 + 1) hp; omega), Fr.snoc X3 Nl hn0, by rw [e3, Wt.size, ← e2, sz2, hs]; omega, by simp [usedC]; omega, ?_, b1, b2, hN⟩, fun target r => st2 target (st3 target r)⟩
    have hk := get_lt ha
    simp only [usedS, List.map_cons, List.map_nil, List.sum_cons, List.sum_nil] at u2 ⊢
    rw [List.take_add_one, List.map_append, List.sum_append, ha]
    simp [List.map_take] at u2 ⊢; omega) g
theorem go_newI {aty : ArrayType} {ty : FieldType} {nm ds : String} {cap : Nat} {n : Int32} (hty : newarray.typeOf aty = ty) (hi : ty = .int ∨ ty = .boolean ∨ ty = .byte) (ha : (cA P.2)[k]? = some (nm, ds, ty, cap)) (k0 : Jvm.Cond.arrayClass ty ∈ P.1) (k1 : Jvm.Cond.fieldLink (cN P.2) idx (cN P.2) nm ds ∈ P.1) (hM : (mY M).cls = cN P.2)
    (hlays : Jvm.Cond.lays (cN P.2) (cN P.2) nm ds ∈ P.1 ∨ (Jvm.Cond.laysFinal (cN P.2) (cN P.2) nm ds ∈ P.1 ∧ (mY M).name = "<init>")) (htM : mTop M = true) (hp : 0 < mN M) (hn : ¬ n < 0) (hcap : Nat.ble n.toNatClampNeg cap = true) (hbig : Nat.ble (cap * 8) 536870912 = true)
    (hR1 : Nat.ble (1 + k + 1) ((mR M).cells + mUC M) = true) (hR2 : Nat.ble (usedS P.2 (none, [(k, s)]) + cap) ((mR M).slots + mUS M) = true)
    (d : decode (mB M) pc = .ok (.newarray aty, 2)) (d2 : decode (mB M) (pc + 2) = .ok (.putfield idx, 3)) (g : Go P M (pc + 5) L st (none, [(k + 1, sA s k (rep n.toNatClampNeg 0))]) out) : Go P M pc L (.int n :: .ref 1 :: st) (none, [(k, s)]) out :=
  go_newV hty ha k0 k1 hM hlays htM hp hn hcap hbig hR1 hR2 (by rcases hi with rfl | rfl | rfl <;> simp [arV, gA_sA, defaultValue, rep]) (fun q' x _ h => arV_sA s k _ _ q' h) rfl rfl d d2 g
theorem go_newJ {nm ds : String} {cap : Nat} {n : Int32} (ha : (cA P.2)[k]? = some (nm, ds, .long, cap)) (k0 : Jvm.Cond.arrayClass .long ∈ P.1) (k1 : Jvm.Cond.fieldLink (cN P.2) idx (cN P.2) nm ds ∈ P.1) (hM : (mY M).cls = cN P.2)
    (hlays : Jvm.Cond.lays (cN P.2) (cN P.2) nm ds ∈ P.1 ∨ (Jvm.Cond.laysFinal (cN P.2) (cN P.2) nm ds ∈ P.1 ∧ (mY M).name = "<init>")) (htM : mTop M = true) (hp : 0 < mN M) (hn : ¬ n < 0) (hcap : Nat.ble n.toNatClampNeg cap = true) (hbig : Nat.ble (cap * 8) 536870912 = true)
    (hR1 : Nat.ble (1 + k + 1) ((mR M).cells + mUC M) = true) (hR2 : Nat.ble (usedS P.2 (none, [(k, s)]) + cap) ((mR M).slots + mUS M) = true)
    (d : decode (mB M) pc = .ok (.newarray .long, 2)) (d2 : decode (mB M) (pc + 2) = .ok (.putfield idx, 3)) (g : Go P M (pc + 5) L st (none, [(k + 1, sB s k (rep n.toNatClampNeg 0))]) out) : Go P M pc L (.int n :: .ref 1 :: st) (none, [(k, s)]) out :=
  go_newV (aty := .long) (ty := .long) rfl ha k0 k1 hM hlays htM hp hn hcap hbig hR1 hR2 (by simp [arV, gB_sB, defaultValue, rep]) (fun q' x _ h => arV_sB s k _ _ q' h) rfl rfl d d2 g
end Rules
/-! ## the start -/
theorem tsw_out {x : Int32} {lo hi : Int} (h1 : -2147483648 ≤ lo) (h2 : hi < 2147483648) (ks : List Int32) (hk : ks = ((List.range (hi - lo + 1).toNat).map fun (j : Nat) => Int32.ofInt (lo + (j : Int)))) (hx : ∀ k ∈ ks, x ≠ k) : x.toInt < lo ∨ x.toInt > hi := by
  by_cases q1 : x.toInt < lo
  · exact Or.inl q1
  by_cases q2 : x.toInt > hi
  · exact Or.inr q2
  refine absurd rfl (hx x ?_)
  rw [hk, List.mem_map]
  refine ⟨(x.toInt - lo).toNat, List.mem_range.mpr (by omega), ?_⟩
  rw [show lo + (((x.toInt - lo).toNat : Nat) : Int) = x.toInt by omega]
  exact Int32.ofInt_toInt x
theorem list_of_array {V : Type} (a : Array V) (f : Nat → V) (h : ∀ j, j < a.size → a[j]? = some (f j)) : a = ((List.range a.size).map f).toArray := by
  apply Array.ext'
  apply List.ext_getElem?
  intro j
  by_cases q : j < a.size
  · simpa [q] using h j q
  · simp [q]
theorem small_len {n : Nat} {k : Int32} (h : n < 2 ^ 31) (q : n.toInt32 ≤ k) : (n : Int) ≤ k.toInt := by
  have e : (Int32.ofNat n).toInt = n := Int32.toInt_ofNat_of_lt h
  have := Int32.le_iff_toInt_le.mp q
  rwa [show n.toInt32.toInt = n from e] at this
theorem script_of {s : State} {args : Array Value} {t : Term} {k : Int32} (hf : Fit s) (h1 : (Cond.arrayOf t .int).value args s none s [] = some true) (h2 : (Cond.le (.length t) (.int k)).value args s none s [] = some true) :
    ∃ (a : Nat) (l : List Int32), t.eval args s none [] s = some (.ref a) ∧ Ar s s.heap a .int (l.map .int) ∧ a < s.heap.size ∧ (l.length : Int) ≤ k.toInt := by
  obtain ⟨a, ev⟩ := arr_v h1
  obtain ⟨c, A⟩ := Arr.start ev h1
  obtain ⟨x, y, ex, ey, -, -⟩ := cmp_v (Or.inr (Or.inr h2))
  obtain ⟨b, cell, e1, e2, e3, ev2⟩ := Jvm.Lib.length_spec ex
  have ea : b = a := by rw [ev] at e1; cases e1; rfl
  have ec : cell = c := by
    have := Arr.fin (Vm.Alike.refl _) A
    rw [ea, this] at e2; cases e2; rfl
  subst ea ec ev2
  obtain ⟨n, en, S⟩ := Scr.start hf A e3
  have hle : cell.slots.size.toInt32 ≤ k := by
    have ek : (Term.int k).eval args s none [] s = some (.int k) := rfl
    simp only [Cond.value, ex, ek] at h2
    simpa using h2
  refine ⟨b, (List.range cell.slots.size).map fun j => atv cell (Int32.ofNat j), ev, ⟨cell, A, ?_⟩, A.lt, ?_⟩
  · rw [List.map_map]
    refine list_of_array cell.slots _ fun j hj => ?_
    have e4 : (Int32.ofNat j).toNatClampNeg = j := by
      have : (Int32.ofNat j).toInt = j := Int32.toInt_ofNat_of_lt (by omega)
      simp [Int32.toNatClampNeg, this]
    have e5 : ¬ (Int32.ofNat j < 0) := by
      rw [Int32.lt_iff_toInt_lt, Int32.toInt_ofNat_of_lt (by omega)]; simp
    have := S.2.2.2 (Int32.ofNat j) (by rw [e4]; rintro (q | q); exact e5 q; omega)
    rw [e4] at this
    exact this
  · simpa using small_len e3 hle
theorem repW_none (Z : State) (ci : CI) (α b : Nat) (h : Heap) : RepW Z ci α b (none, []) h := ⟨fun l hl => (by cases hl), fun i o ho => (by simp at ho)⟩
theorem repW_some {Z : State} {ci : CI} {α b : Nat} {h : Heap} {l : List Int32} (A : Ar Z h α .int (l.map .int)) (q : α < b) : RepW Z ci α b (some l, []) h := ⟨fun l' hl => by cases hl; exact ⟨A, q⟩, fun i o ho => by simp at ho⟩
end Jvm.AM
/-! ## plain lemmas on ints, arrays and updates -/
namespace Jvm.PL
open Jvm.AM
theorem ofNat_toInt {k : Nat} (h : k < 2147483648) : (Int32.ofNat k).toInt = k := Int32.toInt_ofNat_of_lt h
theorem ofNat_lt {k m : Nat} (hk : k < 2147483648) (hm : m < 2147483648) : Int32.ofNat k < Int32.ofNat m ↔ k < m := by
  rw [Int32.lt_iff_toInt_lt, ofNat_toInt hk, ofNat_toInt hm]; omega
theorem lt_lit {k m : Nat} (hk : k < 2147483648) (hm : m < 2147483648 := by decide) : Int32.ofNat k < (OfNat.ofNat m : Int32) ↔ k < m := ofNat_lt hk hm
theorem ofNat_succ (k : Nat) : Int32.ofNat k + 1 = Int32.ofNat (k + 1) := by
  rw [Int32.ofNat_add]; rfl
theorem ofNat_nonneg {k : Nat} (hk : k < 2147483648) : ¬ Int32.ofNat k < 0 := by rw [Int32.lt_iff_toInt_lt, ofNat_toInt hk]; simp
theorem ofNat_clamp {k : Nat} (hk : k < 2147483648) : (Int32.ofNat k).toNatClampNeg = k := by simp [Int32.toNatClampNeg, ofNat_toInt hk]
theorem ix_ofNat {A : Type} (l : List A) {k : Nat} (hk : k < 2147483648) : ix l (Int32.ofNat k) = l[k]? := by
  unfold ix; rw [if_neg (ofNat_nonneg hk), ofNat_clamp hk]
theorem st_ofNat {A : Type} (l : List A) (x : A) {k : Nat} (hk : k < 2147483648) (hl : k < l.length) : Jvm.AM.st l (Int32.ofNat k) x = some (l.set k x) := by
  unfold Jvm.AM.st; rw [if_neg (ofNat_nonneg hk), ofNat_clamp hk, if_pos hl]
theorem toInt_clamp {v : Int32} (h : ¬ v < 0) : (v.toNatClampNeg : Int) = v.toInt := by
  rw [Int32.lt_iff_toInt_lt] at h
  simp only [Int32.toNatClampNeg]
  have : (0 : Int32).toInt = 0 := rfl
  omega
theorem eq_ofNat {v : Int32} (h : ¬ v < 0) : v = Int32.ofNat v.toNatClampNeg ∧ v.toNatClampNeg < 2147483648 := by
  have h1 := toInt_clamp h
  have h2 := v.toInt_lt
  have h3 : v.toNatClampNeg < 2147483648 := by omega
  refine ⟨Int32.toInt_inj.mp ?_, h3⟩
  rw [ofNat_toInt h3]; exact h1.symm
theorem ix_rep {A : Type} {v : Int32} {n : Nat} {x : A} (h0 : ¬ v < 0) (h1 : v < Int32.ofNat n) (hn : n < 2147483648) : ix (rep n x) v = some x := by
  obtain ⟨e, hl⟩ := eq_ofNat h0
  rw [e] at h1 ⊢
  have h2 := (ofNat_lt hl hn).mp h1
  rw [ix_ofNat _ hl, rep_get, if_pos h2]
theorem ix_nat {A : Type} (l : List A) {v : Int32} (h0 : ¬ v < 0) : ix l v = l[v.toNatClampNeg]? := by unfold ix; rw [if_neg h0]
theorem st_nat {A : Type} (l : List A) {v : Int32} {x : A} (h0 : ¬ v < 0) (hl : v.toNatClampNeg < l.length) : Jvm.AM.st l v x = some (l.set v.toNatClampNeg x) := by
  unfold Jvm.AM.st; rw [if_neg h0, if_pos hl]
theorem clamp_lt {v : Int32} {n : Nat} (h0 : ¬ v < 0) (h1 : v < Int32.ofNat n) (hn : n < 2147483648) : v.toNatClampNeg < n := by
  obtain ⟨e, hl⟩ := eq_ofNat h0
  rw [e] at h1
  exact (ofNat_lt hl hn).mp h1
theorem clamp_inj {v w : Int32} (h0 : ¬ v < 0) (h1 : ¬ w < 0) : v.toNatClampNeg = w.toNatClampNeg ↔ v = w := by
  constructor
  · intro h
    have a := toInt_clamp h0
    have b := toInt_clamp h1
    exact Int32.toInt_inj.mp (by omega)
  · intro h; rw [h]
end Jvm.PL
namespace Jvm.PL
open Jvm.AM
/-- all but the named fields and arrays is as it was -/
def Fx (I L A B : List Nat) (s s' : S) : Prop := (∀ f, f ∉ I → gI s' f = gI s f) ∧ (∀ f, f ∉ L → gL s' f = gL s f) ∧ (∀ f, f ∉ A → gA s' f = gA s f) ∧ (∀ f, f ∉ B → gB s' f = gB s f)
theorem Fx.refl (I L A B : List Nat) (s : S) : Fx I L A B s s := ⟨fun _ _ => rfl, fun _ _ => rfl, fun _ _ => rfl, fun _ _ => rfl⟩
theorem Fx.trans {I L A B : List Nat} {s t u : S} (h : Fx I L A B s t) (k : Fx I L A B t u) : Fx I L A B s u :=
  ⟨fun f q => (k.1 f q).trans (h.1 f q), fun f q => (k.2.1 f q).trans (h.2.1 f q), fun f q => (k.2.2.1 f q).trans (h.2.2.1 f q), fun f q => (k.2.2.2 f q).trans (h.2.2.2 f q)⟩
theorem Fx.mono {I L A B I' L' A' B' : List Nat} {s t : S} (h : Fx I L A B s t) (a : ∀ f ∈ I, f ∈ I') (b : ∀ f ∈ L, f ∈ L') (c : ∀ f ∈ A, f ∈ A') (d : ∀ f ∈ B, f ∈ B') : Fx I' L' A' B' s t :=
  ⟨fun f q => h.1 f fun x => q (a f x), fun f q => h.2.1 f fun x => q (b f x), fun f q => h.2.2.1 f fun x => q (c f x), fun f q => h.2.2.2 f fun x => q (d f x)⟩
theorem Fx.sA {I L A B : List Nat} {s t : S} {f : Nat} {l : List Int32} (h : Fx I L A B s t) (hf : f ∈ A) : Fx I L A B s (Jvm.AM.sA t f l) :=
  ⟨fun g q => (gI_sA _ _ _ _).trans (h.1 g q), fun g q => (gL_sA _ _ _ _).trans (h.2.1 g q), fun g q => by rw [gA_sA, if_neg (fun e : g = f => q (e ▸ hf))]; exact h.2.2.1 g q, fun g q => (gB_sA _ _ _ _).trans (h.2.2.2 g q)⟩
theorem Fx.sI {I L A B : List Nat} {s t : S} {f : Nat} {l : Int32} (h : Fx I L A B s t) (hf : f ∈ I) : Fx I L A B s (Jvm.AM.sI t f l) :=
  ⟨fun g q => by rw [gI_sI, if_neg (fun e : g = f => q (e ▸ hf))]; exact h.1 g q, fun g q => (gL_sI _ _ _ _).trans (h.2.1 g q), fun g q => (gA_sI _ _ _ _).trans (h.2.2.1 g q), fun g q => (gB_sI _ _ _ _).trans (h.2.2.2 g q)⟩
theorem Fx.sL {I L A B : List Nat} {s t : S} {f : Nat} {l : Int64} (h : Fx I L A B s t) (hf : f ∈ L) : Fx I L A B s (Jvm.AM.sL t f l) :=
  ⟨fun g q => (gI_sL _ _ _ _).trans (h.1 g q), fun g q => by rw [gL_sL, if_neg (fun e : g = f => q (e ▸ hf))]; exact h.2.1 g q, fun g q => (gA_sL _ _ _ _).trans (h.2.2.1 g q), fun g q => (gB_sL _ _ _ _).trans (h.2.2.2 g q)⟩
theorem Fx.sB {I L A B : List Nat} {s t : S} {f : Nat} {l : List Int64} (h : Fx I L A B s t) (hf : f ∈ B) : Fx I L A B s (Jvm.AM.sB t f l) :=
  ⟨fun g q => (gI_sB _ _ _ _).trans (h.1 g q), fun g q => (gL_sB _ _ _ _).trans (h.2.1 g q), fun g q => (gA_sB _ _ _ _).trans (h.2.2.1 g q), fun g q => by rw [gB_sB, if_neg (fun e : g = f => q (e ▸ hf))]; exact h.2.2.2 g q⟩
theorem ofNat_add' (a b : Nat) : Int32.ofNat a + Int32.ofNat b = Int32.ofNat (a + b) := (Int32.ofNat_add a b).symm
/-- the first k entries are x -/
def Upto {A : Type} (l : List A) (k : Nat) (x : A) : Prop := ∀ i, i < k → l[i]? = some x
theorem Upto.zero {A : Type} (l : List A) (x : A) : Upto l 0 x := fun _ h => absurd h (Nat.not_lt_zero _)
theorem Upto.set {A : Type} {l : List A} {k : Nat} {x : A} (h : Upto l k x) (hk : k < l.length) : Upto (l.set k x) (k + 1) x := fun i hi => by
  by_cases e : i = k
  · subst e; simp [hk]
  · rw [List.getElem?_set_ne (Ne.symm e)]; exact h i (by omega)
theorem Upto.all {A : Type} {l : List A} {k : Nat} {x : A} (h : Upto l k x) (hk : l.length = k) : l = rep k x := by
  apply List.ext_getElem?
  intro i
  rw [rep_get]
  by_cases q : i < k
  · rw [if_pos q]; exact h i q
  · rw [if_neg q, List.getElem?_eq_none (by omega)]
end Jvm.PL
namespace Jvm.PL
open Jvm.AM
/-- a loop by its invariant; m: the turns that are left -/
theorem run_loop {A B : Type} (L : Nat → A → B) (F : A → B) (I : Nat → A → Prop) (h : ∀ n m a, I (m + 1) a → ∃ a', L (n + 1) a = L n a' ∧ I m a') (h0 : ∀ n a, I 0 a → L (n + 1) a = F a) : ∀ m n a, m < n → I m a → ∃ a', L n a = F a' ∧ I 0 a'
  | 0, n + 1, a, _, i => ⟨a, h0 n a i, i⟩
  | m + 1, n + 1, a, q, i => by
    obtain ⟨a', e, i'⟩ := h n m a i
    obtain ⟨a'', e', i''⟩ := run_loop L F I h h0 m n a' (by omega) i'
    exact ⟨a'', e.trans e', i''⟩
/-- 'for k in 0 .. N' -/
theorem run_for {B : Type} (L : Nat → Int32 → S → B) (F : S → B) (N : Nat) (I : Nat → S → Prop) (h : ∀ n k s, k < N → I k s → ∃ s', L (n + 1) (Int32.ofNat k) s = L n (Int32.ofNat (k + 1)) s' ∧ I (k + 1) s') (h0 : ∀ n s, I N s → L (n + 1) (Int32.ofNat N) s = F s) (n : Nat) (s : S) (hn : N < n) (i : I 0 s) :
    ∃ s', L n (Int32.ofNat 0) s = F s' ∧ I N s' := by
  obtain ⟨a, e, k, hk, ea, ia⟩ := run_loop (fun n (a : Int32 × S) => L n a.1 a.2) (fun a => F a.2) (fun m a => ∃ k, k + m = N ∧ a.1 = Int32.ofNat k ∧ I k a.2)
    (fun n m a ⟨k, h1, h2, h3⟩ => by
      obtain ⟨s', e, i'⟩ := h n k a.2 (by omega) h3
      exact ⟨(Int32.ofNat (k + 1), s'), by show L (n + 1) a.1 a.2 = _; rw [h2]; exact e, k + 1, by omega, rfl, i'⟩)
    (fun n a ⟨k, h1, h2, h3⟩ => by
      have : k = N := by omega
      subst this
      show L (n + 1) a.1 a.2 = _; rw [h2]; exact h0 n a.2 h3) N n (Int32.ofNat 0, s) hn ⟨0, by omega, rfl, i⟩
  have : k = N := by omega
  subst this
  exact ⟨a.2, e, ia⟩
end Jvm.PL
namespace Jvm.PL
open Jvm.AM
/-- the end test of a loop over a script -/
theorem len_lt {n k c : Nat} (hn : n ≤ 100000) (hk : k ≤ 100000) (hc : c ≤ 100000) : (n.toInt32 - Int32.ofNat c) < Int32.ofNat k ↔ n < k + c := by
  rw [Int32.lt_iff_toInt_lt, Int32.toInt_sub, show n.toInt32 = Int32.ofNat n from rfl, ofNat_toInt (by omega), ofNat_toInt (by omega), ofNat_toInt (by omega)]
  have : ((n : Int) - c).bmod (2 ^ 32) = n - c := by
    rw [Int.bmod_eq_of_le] <;> omega
  rw [this]; omega
/-- a loop over a script, c entries a turn: it ends in what every way out says -/
theorem run_script {A B : Type} (L : Nat → Int32 → A → B) (c len : Nat) (hc : 0 < c) (P : B → Prop) (I : Nat → A → Prop) (h : ∀ n k a, k + c ≤ len → I k a → P (L (n + 1) (Int32.ofNat k) a) ∨ ∃ a', L (n + 1) (Int32.ofNat k) a = L n (Int32.ofNat (k + c)) a' ∧ I (k + c) a') (h0 : ∀ n k a, k ≤ len → len < k + c → I k a → P (L (n + 1) (Int32.ofNat k) a)) : ∀ n k a, len < n + k → k ≤ len → I k a → P (L n (Int32.ofNat k) a)
  | 0, k, a, hn, hk, i => by omega
  | n + 1, k, a, hn, hk, i => by
    by_cases q : k + c ≤ len
    · rcases h n k a q i with p | ⟨a', e, i'⟩
      · exact p
      · rw [e]; exact run_script L c len hc P I h h0 n (k + c) a' (by omega) q i'
    · exact h0 n k a hk (by omega) i
theorem ix_some {A : Type} (l : List A) {k : Nat} (hk : k < 2147483648) (hl : k < l.length) : ∃ x, ix l (Int32.ofNat k) = some x := ⟨l[k], by rw [ix_ofNat _ hk, List.getElem?_eq_getElem hl]⟩
theorem ofNat_lit (a b : Nat) : Int32.ofNat a + (OfNat.ofNat b : Int32) = Int32.ofNat (a + b) := ofNat_add' a b
end Jvm.PL
namespace Jvm.PL
open Jvm.AM
theorem upd_same {A : Type} (g : Nat → A) (f : Nat) (a b : A) : aupd (aupd g f a) f b = aupd g f b := by
  funext x; unfold aupd; by_cases q : x = f <;> simp [q]
theorem upd_comm {A : Type} (g : Nat → A) {f h : Nat} (n : f ≠ h) (a b : A) : aupd (aupd g f a) h b = aupd (aupd g h b) f a := by
  funext x; unfold aupd
  by_cases q : x = f
  · have : ¬ f = h := n
    simp [q, this]
  · by_cases r : x = h
    · rw [if_pos r, if_neg q, if_pos r]
    · rw [if_neg r, if_neg q, if_neg q, if_neg r]
theorem sA_same (s : S) (f : Nat) (a b : List Int32) : Jvm.AM.sA (Jvm.AM.sA s f a) f b = Jvm.AM.sA s f b := by
  unfold Jvm.AM.sA; simp only [upd_same]
theorem sA_comm (s : S) {f h : Nat} (n : f ≠ h) (a b : List Int32) : Jvm.AM.sA (Jvm.AM.sA s f a) h b = Jvm.AM.sA (Jvm.AM.sA s h b) f a := by
  unfold Jvm.AM.sA; simp only; rw [upd_comm _ n]
end Jvm.PL
/-! ## rows of bits -/
namespace Jvm.PL
open Jvm.AM Jvm.Free
def bt (w : Int32) (y : Nat) : Bool := w.toBitVec.getLsbD y
theorem bt_zero (y : Nat) : bt 0 y = false := by simp [bt]
theorem bt_or (a b : Int32) (y : Nat) : bt (a ||| b) y = (bt a y || bt b y) := by simp [bt]
theorem bt_and (a b : Int32) (y : Nat) : bt (a &&& b) y = (bt a y && bt b y) := by simp [bt]
theorem bt_ge (w : Int32) {y : Nat} (h : 32 ≤ y) : bt w y = false := by unfold bt; exact BitVec.getLsbD_of_ge _ _ h
theorem bt_m1 {y : Nat} (h : y < 32) : bt (-1) y = true := by
  unfold bt
  rw [show (-1 : Int32).toBitVec = BitVec.allOnes 32 from rfl, BitVec.getLsbD_allOnes]
  simp [h]
theorem bt_not (a : Int32) {y : Nat} (h : y < 32) : bt (a ^^^ (-1)) y = !bt a y := by
  have := bt_m1 h
  unfold bt at *
  rw [Int32.toBitVec_xor, BitVec.getLsbD_xor, this]; simp
theorem bt_andn (a b : Int32) (y : Nat) : bt (a &&& (b ^^^ (-1))) y = (bt a y && !bt b y) := by
  rw [bt_and]
  by_cases h : y < 32
  · rw [bt_not b h]
  · rw [bt_ge a (by omega)]; simp
theorem bt_ext {a b : Int32} (h : ∀ y, y < 32 → bt a y = bt b y) : a = b := by
  apply Int32.toBitVec_inj.mp
  apply BitVec.eq_of_getLsbD_eq
  intro i hi
  exact h i hi
theorem bt_eq0 {w : Int32} : w = 0 ↔ ∀ y, y < 32 → bt w y = false := by
  constructor
  · rintro rfl y _; exact bt_zero y
  · intro h; exact bt_ext fun y hy => by rw [h y hy, bt_zero]
theorem ushr_bit (w : Int32) {y : Nat} (hy : y < 32) : (XT.ushr w (Int32.ofNat y)).toBitVec = w.toBitVec >>> y := by
  unfold XT.ushr
  have h1 : ((Int32.ofNat y &&& 31).toUInt32.toBitVec).toNat = y := by
    show ((Int32.ofNat y &&& 31).toBitVec).toNat = y
    rw [Int32.toBitVec_and, BitVec.toNat_and]
    have e1 : (Int32.ofNat y).toBitVec.toNat = y := by
      show (BitVec.ofNat 32 y).toNat = y
      rw [BitVec.toNat_ofNat]; omega
    have e2 : (31 : Int32).toBitVec.toNat = 31 := rfl
    rw [e1, e2, show 31 = 2 ^ 5 - 1 from rfl, Nat.and_two_pow_sub_one_eq_mod]; omega
  show (w.toUInt32 >>> (Int32.ofNat y &&& 31).toUInt32).toBitVec = _
  rw [UInt32.toBitVec_shiftRight]
  show w.toBitVec >>> ((Int32.ofNat y &&& 31).toUInt32.toBitVec % 32) = _
  rw [BitVec.ushiftRight_eq']
  congr 1
  rw [BitVec.toNat_umod, h1]
  show y % 32 = y
  omega
theorem and1 (w : Int32) : (w &&& 1 = 0) ↔ bt w 0 = false := by
  constructor
  · intro h
    have : bt (w &&& 1) 0 = false := by rw [h, bt_zero]
    rw [bt_and] at this
    simpa [show bt 1 0 = true from rfl] using this
  · intro h
    refine bt_ext fun y hy => ?_
    rw [bt_and, bt_zero]
    cases y with
    | zero => rw [h]; rfl
    | succ y =>
      have : bt 1 (y + 1) = false := by
        unfold bt
        show (1#32).getLsbD (y + 1) = false
        simp [BitVec.getLsbD_one]
      rw [this]; simp
theorem test_bit (w : Int32) {y : Nat} (hy : y < 32) : (XT.ushr w (Int32.ofNat y) &&& 1 = 0) ↔ bt w y = false := by
  rw [and1]
  unfold bt
  rw [ushr_bit w hy]; simp
theorem shl_bit {b : Nat} (hb : b < 32) (y : Nat) : bt ((1 : Int32) <<< (Int32.ofNat b &&& 31)) y = decide (y = b) := by
  have h1 : (Int32.ofNat b &&& 31) = Int32.ofNat b := by
    apply Int32.toBitVec_inj.mp
    rw [Int32.toBitVec_and]
    apply BitVec.eq_of_toNat_eq
    rw [BitVec.toNat_and]
    have e1 : (Int32.ofNat b).toBitVec.toNat = b := by
      show (BitVec.ofNat 32 b).toNat = b
      rw [BitVec.toNat_ofNat]; omega
    have e2 : (31 : Int32).toBitVec.toNat = 31 := rfl
    rw [e1, e2, show 31 = 2 ^ 5 - 1 from rfl, Nat.and_two_pow_sub_one_eq_mod]; omega
  rw [h1]
  unfold bt
  have e : ((1 : Int32) <<< Int32.ofNat b).toBitVec = (1#32) <<< b := by
    rw [Int32.toBitVec_shiftLeft]
    show (1#32) <<< ((Int32.ofNat b).toBitVec.smod 32) = _
    have : (Int32.ofNat b).toBitVec.smod 32 = BitVec.ofNat 32 b := by
      have hz : ∀ b : Fin 32, (Int32.ofNat b.val).toBitVec.smod 32 = BitVec.ofNat 32 b.val := by decide
      exact hz ⟨b, hb⟩
    rw [this, BitVec.shiftLeft_eq']
    congr 1
    rw [BitVec.toNat_ofNat]; omega
  rw [e]
  simp only [BitVec.getLsbD_shiftLeft, BitVec.getLsbD_one]
  by_cases h : y = b
  · subst h; simp [hb]
  · simp [h]; omega
end Jvm.PL
namespace Jvm.Pilot.@@N@@
open Jvm Jvm.ClassFile Sem Op Lib Jvm.Free Jvm.Stand Jvm.LawKit Jvm.RoadKit Jvm.AM Jvm.PL Jvm.Pilot.@@N@@.Jvm.D
def ci1 : CI := ("LatticeEarley", 18, [("inf", "I", .int), ("nodeTotal", "I", .int), ("edgeTotal", "I", .int), ("ruleTotal", "I", .int), ("state", "I", .int), ("bestTotal", "I", .int)], [("edgeFrom", "[I", .int, 16), ("edgeTo", "[I", .int, 16), ("edgeLabel", "[I", .int, 16), ("edgeWeight", "[I", .int, 16), ("ruleHead", "[I", .int, 12), ("ruleWeight", "[I", .int, 12), ("ruleLength", "[I", .int, 12), ("ruleSym", "[I", .int, 36), ("span", "[I", .int, 1024), ("item", "[I", .int, 3072), ("rest", "[I", .int, 3072), ("outer", "[I", .int, 1024)])
def PP : PI := (tables_1, ci1)
def BIG : Nat := 1000000
def m0 : Meth := (⟨"LatticeEarley", "clampNodes", "(I)I"⟩, prog_1_method_16_code, 2, (some .int), { frames := 0, cells := 0, slots := 0, locals := 0 }, 1, false, 0, 0)
def m1 : Meth := (⟨"LatticeEarley", "becomeBuilding", "()V"⟩, prog_1_method_18_code, 1, none, { frames := 0, cells := 0, slots := 0, locals := 0 }, 1, false, 0, 0)
def m2 : Meth := (⟨"LatticeEarley", "clearStore", "()V"⟩, prog_1_method_17_code, 2, none, { frames := 1, cells := 0, slots := 0, locals := 12 }, 1, false, 0, 0)
def m3 : Meth := (⟨"LatticeEarley", "clearTables", "()V"⟩, prog_1_method_19_code, 2, none, { frames := 0, cells := 0, slots := 0, locals := 0 }, 1, false, 0, 0)
def m4 : Meth := (⟨"LatticeEarley", "<init>", "(I)V"⟩, prog_1_method_1_code, 2, none, { frames := 2, cells := 12, slots := 8328, locals := 25 }, 1, true, 1, 18)
def m5 : Meth := (⟨"LatticeEarley", "nodeCount", "()I"⟩, prog_1_method_3_code, 1, (some .int), { frames := 0, cells := 0, slots := 0, locals := 0 }, 1, false, 0, 0)
def m6 : Meth := (⟨"LatticeEarley", "inRange", "(III)Z"⟩, prog_1_method_20_code, 4, (some .boolean), { frames := 0, cells := 0, slots := 0, locals := 0 }, 1, false, 0, 0)
def m7 : Meth := (⟨"LatticeEarley", "edgeRefused", "(IIII)Z"⟩, prog_1_method_21_code, 5, (some .boolean), { frames := 1, cells := 0, slots := 0, locals := 15 }, 1, false, 0, 0)
def m8 : Meth := (⟨"LatticeEarley", "addEdge", "(IIII)I"⟩, prog_1_method_6_code, 6, (some .int), { frames := 2, cells := 0, slots := 0, locals := 31 }, 1, false, 0, 0)
def m9 : Meth := (⟨"LatticeEarley", "bodyLimit", "(I)I"⟩, prog_1_method_23_code, 4, (some .int), { frames := 0, cells := 0, slots := 0, locals := 0 }, 1, false, 0, 0)
def m10 : Meth := (⟨"LatticeEarley", "ruleRefused", "(IIII)Z"⟩, prog_1_method_22_code, 5, (some .boolean), { frames := 1, cells := 0, slots := 0, locals := 16 }, 1, false, 0, 0)
def m11 : Meth := (⟨"LatticeEarley", "storeRule", "(IIIII)V"⟩, prog_1_method_24_code, 8, none, { frames := 0, cells := 0, slots := 0, locals := 0 }, 1, false, 0, 0)
def m12 : Meth := (⟨"LatticeEarley", "addRule", "(IIII)I"⟩, prog_1_method_7_code, 6, (some .int), { frames := 2, cells := 0, slots := 0, locals := 32 }, 1, false, 0, 0)
def m13 : Meth := (⟨"LatticeEarley", "isCode", "(I)Z"⟩, prog_1_method_28_code, 2, (some .boolean), { frames := 0, cells := 0, slots := 0, locals := 0 }, 1, false, 0, 0)
def m14 : Meth := (⟨"LatticeEarley", "isNode", "(I)Z"⟩, prog_1_method_27_code, 2, (some .boolean), { frames := 0, cells := 0, slots := 0, locals := 0 }, 1, false, 0, 0)
def m15 : Meth := (⟨"LatticeEarley", "spanSlot", "(III)I"⟩, prog_1_method_31_code, 4, (some .int), { frames := 1, cells := 0, slots := 0, locals := 13 }, 1, false, 0, 0)
def m16 : Meth := (⟨"LatticeEarley", "lowerSpan", "(IIII)Z"⟩, prog_1_method_34_code, 6, (some .boolean), { frames := 2, cells := 0, slots := 0, locals := 28 }, 1, false, 0, 0)
def m17 : Meth := (⟨"LatticeEarley", "scanEdges", "()V"⟩, prog_1_method_45_code, 2, none, { frames := 3, cells := 0, slots := 0, locals := 45 }, 1, false, 0, 0)
def m18 : Meth := (⟨"LatticeEarley", "isRule", "(I)Z"⟩, prog_1_method_29_code, 2, (some .boolean), { frames := 0, cells := 0, slots := 0, locals := 0 }, 1, false, 0, 0)
def m19 : Meth := (⟨"LatticeEarley", "isDot", "(I)Z"⟩, prog_1_method_30_code, 2, (some .boolean), { frames := 0, cells := 0, slots := 0, locals := 0 }, 1, false, 0, 0)
def m20 : Meth := (⟨"LatticeEarley", "itemSlot", "(IIII)I"⟩, prog_1_method_32_code, 5, (some .int), { frames := 1, cells := 0, slots := 0, locals := 13 }, 1, false, 0, 0)
def m21 : Meth := (⟨"LatticeEarley", "lowerItem", "(IIIII)Z"⟩, prog_1_method_38_code, 7, (some .boolean), { frames := 2, cells := 0, slots := 0, locals := 29 }, 1, false, 0, 0)
def m22 : Meth := (⟨"LatticeEarley", "seedItems", "()V"⟩, prog_1_method_46_code, 3, none, { frames := 3, cells := 0, slots := 0, locals := 47 }, 1, false, 0, 0)
def m23 : Meth := (⟨"LatticeEarley", "symbolAt", "(II)I"⟩, prog_1_method_25_code, 3, (some .int), { frames := 0, cells := 0, slots := 0, locals := 0 }, 1, false, 0, 0)
def m24 : Meth := (⟨"LatticeEarley", "getItem", "(IIII)I"⟩, prog_1_method_37_code, 6, (some .int), { frames := 2, cells := 0, slots := 0, locals := 29 }, 1, false, 0, 0)
def m25 : Meth := (⟨"LatticeEarley", "getSpan", "(III)I"⟩, prog_1_method_33_code, 5, (some .int), { frames := 2, cells := 0, slots := 0, locals := 28 }, 1, false, 0, 0)
def m26 : Meth := (⟨"LatticeEarley", "plus", "(II)I"⟩, prog_1_method_41_code, 4, (some .int), { frames := 0, cells := 0, slots := 0, locals := 0 }, 1, false, 0, 0)
def m27 : Meth := (⟨"LatticeEarley", "bestAdvance", "(IIII)I"⟩, prog_1_method_50_code, 11, (some .int), { frames := 3, cells := 0, slots := 0, locals := 46 }, 1, false, 0, 0)
def m28 : Meth := (⟨"LatticeEarley", "advanceItems", "(III)Z"⟩, prog_1_method_49_code, 8, (some .boolean), { frames := 4, cells := 0, slots := 0, locals := 68 }, 1, false, 0, 0)
def m29 : Meth := (⟨"LatticeEarley", "headCode", "(I)I"⟩, prog_1_method_26_code, 2, (some .int), { frames := 0, cells := 0, slots := 0, locals := 0 }, 1, false, 0, 0)
def m30 : Meth := (⟨"LatticeEarley", "completeItem", "(III)Z"⟩, prog_1_method_51_code, 6, (some .boolean), { frames := 3, cells := 0, slots := 0, locals := 46 }, 1, false, 0, 0)
def m31 : Meth := (⟨"LatticeEarley", "insideRound", "(II)Z"⟩, prog_1_method_48_code, 5, (some .boolean), { frames := 5, cells := 0, slots := 0, locals := 87 }, 1, false, 0, 0)
def m32 : Meth := (⟨"LatticeEarley", "closeInsideCell", "(II)V"⟩, prog_1_method_47_code, 5, none, { frames := 6, cells := 0, slots := 0, locals := 103 }, 1, false, 0, 0)
def m33 : Meth := (⟨"LatticeEarley", "runInside", "()V"⟩, prog_1_method_44_code, 3, none, { frames := 7, cells := 0, slots := 0, locals := 119 }, 1, false, 0, 0)
def m34 : Meth := (⟨"LatticeEarley", "lowerRest", "(IIIII)Z"⟩, prog_1_method_40_code, 7, (some .boolean), { frames := 2, cells := 0, slots := 0, locals := 29 }, 1, false, 0, 0)
def m35 : Meth := (⟨"LatticeEarley", "seedRest", "(I)V"⟩, prog_1_method_53_code, 4, none, { frames := 3, cells := 0, slots := 0, locals := 47 }, 1, false, 0, 0)
def m36 : Meth := (⟨"LatticeEarley", "getRest", "(IIII)I"⟩, prog_1_method_39_code, 6, (some .int), { frames := 2, cells := 0, slots := 0, locals := 29 }, 1, false, 0, 0)
def m37 : Meth := (⟨"LatticeEarley", "restAt", "(IIII)I"⟩, prog_1_method_55_code, 11, (some .int), { frames := 3, cells := 0, slots := 0, locals := 46 }, 1, false, 0, 0)
def m38 : Meth := (⟨"LatticeEarley", "fillRestLevel", "(II)V"⟩, prog_1_method_54_code, 6, none, { frames := 4, cells := 0, slots := 0, locals := 68 }, 1, false, 0, 0)
def m39 : Meth := (⟨"LatticeEarley", "runRest", "()V"⟩, prog_1_method_52_code, 4, none, { frames := 5, cells := 0, slots := 0, locals := 85 }, 1, false, 0, 0)
def m40 : Meth := (⟨"LatticeEarley", "lowerOuter", "(IIII)Z"⟩, prog_1_method_36_code, 6, (some .boolean), { frames := 2, cells := 0, slots := 0, locals := 28 }, 1, false, 0, 0)
def m41 : Meth := (⟨"LatticeEarley", "getOuter", "(III)I"⟩, prog_1_method_35_code, 5, (some .int), { frames := 2, cells := 0, slots := 0, locals := 28 }, 1, false, 0, 0)
def m42 : Meth := (⟨"LatticeEarley", "plus3", "(III)I"⟩, prog_1_method_42_code, 5, (some .int), { frames := 1, cells := 0, slots := 0, locals := 15 }, 1, false, 0, 0)
def m43 : Meth := (⟨"LatticeEarley", "bestContext", "(IIII)I"⟩, prog_1_method_60_code, 14, (some .int), { frames := 3, cells := 0, slots := 0, locals := 46 }, 1, false, 0, 0)
def m44 : Meth := (⟨"LatticeEarley", "outerRule", "(III)Z"⟩, prog_1_method_59_code, 9, (some .boolean), { frames := 4, cells := 0, slots := 0, locals := 71 }, 1, false, 0, 0)
def m45 : Meth := (⟨"LatticeEarley", "outerRound", "(II)Z"⟩, prog_1_method_58_code, 5, (some .boolean), { frames := 5, cells := 0, slots := 0, locals := 91 }, 1, false, 0, 0)
def m46 : Meth := (⟨"LatticeEarley", "closeOuterCell", "(II)V"⟩, prog_1_method_57_code, 5, none, { frames := 6, cells := 0, slots := 0, locals := 107 }, 1, false, 0, 0)
def m47 : Meth := (⟨"LatticeEarley", "runOuter", "()V"⟩, prog_1_method_56_code, 4, none, { frames := 7, cells := 0, slots := 0, locals := 123 }, 1, false, 0, 0)
def m48 : Meth := (⟨"LatticeEarley", "parse", "()Z"⟩, prog_1_method_10_code, 3, (some .boolean), { frames := 8, cells := 0, slots := 0, locals := 138 }, 1, false, 0, 0)
def m49 : Meth := (⟨"LatticeEarley", "reset", "()V"⟩, prog_1_method_2_code, 1, none, { frames := 2, cells := 0, slots := 0, locals := 25 }, 1, false, 0, 0)
def m50 : Meth := (⟨"LatticeEarley", "edgeCount", "()I"⟩, prog_1_method_4_code, 1, (some .int), { frames := 0, cells := 0, slots := 0, locals := 0 }, 1, false, 0, 0)
def m51 : Meth := (⟨"LatticeEarley", "ruleCount", "()I"⟩, prog_1_method_5_code, 1, (some .int), { frames := 0, cells := 0, slots := 0, locals := 0 }, 1, false, 0, 0)
def m52 : Meth := (⟨"LatticeEarley", "edgeInfo", "(II)I"⟩, prog_1_method_8_code, 3, (some .int), { frames := 0, cells := 0, slots := 0, locals := 0 }, 1, false, 0, 0)
def m53 : Meth := (⟨"LatticeEarley", "ruleInfo", "(II)I"⟩, prog_1_method_9_code, 4, (some .int), { frames := 1, cells := 0, slots := 0, locals := 14 }, 1, false, 0, 0)
def m54 : Meth := (⟨"LatticeEarley", "status", "()I"⟩, prog_1_method_11_code, 1, (some .int), { frames := 0, cells := 0, slots := 0, locals := 0 }, 1, false, 0, 0)
def m55 : Meth := (⟨"LatticeEarley", "bestWeight", "()I"⟩, prog_1_method_12_code, 1, (some .int), { frames := 0, cells := 0, slots := 0, locals := 0 }, 1, false, 0, 0)
def m56 : Meth := (⟨"LatticeEarleyL7", "rel", "(IIZ)Z"⟩, method_3_code, 3, (some .boolean), { frames := 0, cells := 0, slots := 0, locals := 0 }, 2, false, 0, 0)
def m57 : Meth := (⟨"LatticeEarley", "answer", "(I)I"⟩, prog_1_method_43_code, 2, (some .int), { frames := 0, cells := 0, slots := 0, locals := 0 }, 1, false, 0, 0)
def m58 : Meth := (⟨"LatticeEarley", "spanWeight", "(III)I"⟩, prog_1_method_13_code, 5, (some .int), { frames := 3, cells := 0, slots := 0, locals := 44 }, 1, false, 0, 0)
def m59 : Meth := (⟨"LatticeEarley", "edgeBest", "(I)I"⟩, prog_1_method_14_code, 4, (some .int), { frames := 3, cells := 0, slots := 0, locals := 44 }, 1, false, 0, 0)
def m60 : Meth := (⟨"LatticeEarley", "ruleContext", "(I)I"⟩, prog_1_method_61_code, 10, (some .int), { frames := 3, cells := 0, slots := 0, locals := 46 }, 1, false, 0, 0)
def m61 : Meth := (⟨"LatticeEarley", "ruleBest", "(I)I"⟩, prog_1_method_15_code, 3, (some .int), { frames := 4, cells := 0, slots := 0, locals := 67 }, 1, false, 0, 0)
def m62 : Meth := (x, code, maxLocals, ret, room_1, 2, true, 0, 0)
theorem ar_0 : (cA PP.2)[0]? = some ("edgeFrom", "[I", .int, 16) := rfl
theorem ar_1 : (cA PP.2)[1]? = some ("edgeTo", "[I", .int, 16) := rfl
theorem ar_2 : (cA PP.2)[2]? = some ("edgeLabel", "[I", .int, 16) := rfl
theorem ar_3 : (cA PP.2)[3]? = some ("edgeWeight", "[I", .int, 16) := rfl
theorem ar_4 : (cA PP.2)[4]? = some ("ruleHead", "[I", .int, 12) := rfl
theorem ar_5 : (cA PP.2)[5]? = some ("ruleWeight", "[I", .int, 12) := rfl
theorem ar_6 : (cA PP.2)[6]? = some ("ruleLength", "[I", .int, 12) := rfl
theorem ar_7 : (cA PP.2)[7]? = some ("ruleSym", "[I", .int, 36) := rfl
theorem ar_8 : (cA PP.2)[8]? = some ("span", "[I", .int, 1024) := rfl
theorem ar_9 : (cA PP.2)[9]? = some ("item", "[I", .int, 3072) := rfl
theorem ar_10 : (cA PP.2)[10]? = some ("rest", "[I", .int, 3072) := rfl
theorem ar_11 : (cA PP.2)[11]? = some ("outer", "[I", .int, 1024) := rfl
theorem fs_8 : FldS PP 8 0 .int := ⟨_, _, rfl, List.mem_of_getElem? (i := 10) rfl⟩
theorem fa_14 : FldA PP 14 0 .int := ⟨_, _, _, rfl, List.mem_of_getElem? (i := 13) rfl⟩
theorem fa_18 : FldA PP 18 1 .int := ⟨_, _, _, rfl, List.mem_of_getElem? (i := 15) rfl⟩
theorem fa_21 : FldA PP 21 2 .int := ⟨_, _, _, rfl, List.mem_of_getElem? (i := 17) rfl⟩
theorem fa_24 : FldA PP 24 3 .int := ⟨_, _, _, rfl, List.mem_of_getElem? (i := 19) rfl⟩
theorem fa_27 : FldA PP 27 4 .int := ⟨_, _, _, rfl, List.mem_of_getElem? (i := 21) rfl⟩
theorem fa_30 : FldA PP 30 5 .int := ⟨_, _, _, rfl, List.mem_of_getElem? (i := 23) rfl⟩
theorem fa_33 : FldA PP 33 6 .int := ⟨_, _, _, rfl, List.mem_of_getElem? (i := 25) rfl⟩
theorem fa_36 : FldA PP 36 7 .int := ⟨_, _, _, rfl, List.mem_of_getElem? (i := 27) rfl⟩
theorem fa_39 : FldA PP 39 8 .int := ⟨_, _, _, rfl, List.mem_of_getElem? (i := 29) rfl⟩
theorem fa_42 : FldA PP 42 9 .int := ⟨_, _, _, rfl, List.mem_of_getElem? (i := 31) rfl⟩
theorem fa_45 : FldA PP 45 10 .int := ⟨_, _, _, rfl, List.mem_of_getElem? (i := 33) rfl⟩
theorem fa_48 : FldA PP 48 11 .int := ⟨_, _, _, rfl, List.mem_of_getElem? (i := 35) rfl⟩
theorem fs_55 : FldS PP 55 1 .int := ⟨_, _, rfl, List.mem_of_getElem? (i := 41) rfl⟩
theorem fs_64 : FldS PP 64 2 .int := ⟨_, _, rfl, List.mem_of_getElem? (i := 47) rfl⟩
theorem fs_67 : FldS PP 67 3 .int := ⟨_, _, rfl, List.mem_of_getElem? (i := 49) rfl⟩
theorem fs_95 : FldS PP 95 4 .int := ⟨_, _, rfl, List.mem_of_getElem? (i := 55) rfl⟩
theorem fs_98 : FldS PP 98 5 .int := ⟨_, _, rfl, List.mem_of_getElem? (i := 57) rfl⟩
theorem wr_0 (M : Meth) : Wrt PP M 0 := ⟨_, _, _, rfl, Or.inl (List.mem_of_getElem? (i := 11) rfl)⟩
theorem wr_1 (M : Meth) : Wrt PP M 1 := ⟨_, _, _, rfl, Or.inl (List.mem_of_getElem? (i := 42) rfl)⟩
theorem wr_2 (M : Meth) : Wrt PP M 2 := ⟨_, _, _, rfl, Or.inl (List.mem_of_getElem? (i := 48) rfl)⟩
theorem wr_3 (M : Meth) : Wrt PP M 3 := ⟨_, _, _, rfl, Or.inl (List.mem_of_getElem? (i := 50) rfl)⟩
theorem wr_4 (M : Meth) : Wrt PP M 4 := ⟨_, _, _, rfl, Or.inl (List.mem_of_getElem? (i := 56) rfl)⟩
theorem wr_5 (M : Meth) : Wrt PP M 5 := ⟨_, _, _, rfl, Or.inl (List.mem_of_getElem? (i := 58) rfl)⟩
theorem oid_0 : 1 = (cK PP.2 + 1) * 0 + 1 := rfl
theorem oid_1 : 14 = (cK PP.2 + 1) * 1 + 1 := rfl
theorem pl_0 : plainName "LatticeEarley" = true := by first | (simp [plainName, overriddenIn]; done) | decide +kernel
theorem pl_1 : plainName "LatticeEarleyL7" = true := by first | (simp [plainName, overriddenIn]; done) | decide +kernel
theorem hm_0 : (mY m0).cls = cN PP.2 := rfl
theorem hn_0 : 0 < mN m0 := by decide
theorem pd_0 : parseMethodDescriptor (mY m0).desc = some ⟨[.int], (some .int)⟩ := by decide +kernel
theorem hm_1 : (mY m1).cls = cN PP.2 := rfl
theorem hn_1 : 0 < mN m1 := by decide
theorem pd_1 : parseMethodDescriptor (mY m1).desc = some ⟨[], none⟩ := by decide +kernel
theorem hm_2 : (mY m2).cls = cN PP.2 := rfl
theorem hn_2 : 0 < mN m2 := by decide
theorem pd_2 : parseMethodDescriptor (mY m2).desc = some ⟨[], none⟩ := by decide +kernel
theorem hm_3 : (mY m3).cls = cN PP.2 := rfl
theorem hn_3 : 0 < mN m3 := by decide
theorem pd_3 : parseMethodDescriptor (mY m3).desc = some ⟨[], none⟩ := by decide +kernel
theorem hm_4 : (mY m4).cls = cN PP.2 := rfl
theorem hn_4 : 0 < mN m4 := by decide
theorem pd_4 : parseMethodDescriptor (mY m4).desc = some ⟨[.int], none⟩ := by decide +kernel
theorem hm_5 : (mY m5).cls = cN PP.2 := rfl
theorem hn_5 : 0 < mN m5 := by decide
theorem pd_5 : parseMethodDescriptor (mY m5).desc = some ⟨[], (some .int)⟩ := by decide +kernel
theorem hm_6 : (mY m6).cls = cN PP.2 := rfl
theorem hn_6 : 0 < mN m6 := by decide
theorem pd_6 : parseMethodDescriptor (mY m6).desc = some ⟨[.int, .int, .int], (some .boolean)⟩ := by decide +kernel
theorem hm_7 : (mY m7).cls = cN PP.2 := rfl
theorem hn_7 : 0 < mN m7 := by decide
theorem pd_7 : parseMethodDescriptor (mY m7).desc = some ⟨[.int, .int, .int, .int], (some .boolean)⟩ := by decide +kernel
theorem hm_8 : (mY m8).cls = cN PP.2 := rfl
theorem hn_8 : 0 < mN m8 := by decide
theorem pd_8 : parseMethodDescriptor (mY m8).desc = some ⟨[.int, .int, .int, .int], (some .int)⟩ := by decide +kernel
theorem hm_9 : (mY m9).cls = cN PP.2 := rfl
theorem hn_9 : 0 < mN m9 := by decide
theorem pd_9 : parseMethodDescriptor (mY m9).desc = some ⟨[.int], (some .int)⟩ := by decide +kernel
theorem hm_10 : (mY m10).cls = cN PP.2 := rfl
theorem hn_10 : 0 < mN m10 := by decide
theorem pd_10 : parseMethodDescriptor (mY m10).desc = some ⟨[.int, .int, .int, .int], (some .boolean)⟩ := by decide +kernel
theorem hm_11 : (mY m11).cls = cN PP.2 := rfl
theorem hn_11 : 0 < mN m11 := by decide
theorem pd_11 : parseMethodDescriptor (mY m11).desc = some ⟨[.int, .int, .int, .int, .int], none⟩ := by decide +kernel
theorem hm_12 : (mY m12).cls = cN PP.2 := rfl
theorem hn_12 : 0 < mN m12 := by decide
theorem pd_12 : parseMethodDescriptor (mY m12).desc = some ⟨[.int, .int, .int, .int], (some .int)⟩ := by decide +kernel
theorem hm_13 : (mY m13).cls = cN PP.2 := rfl
theorem hn_13 : 0 < mN m13 := by decide
theorem pd_13 : parseMethodDescriptor (mY m13).desc = some ⟨[.int], (some .boolean)⟩ := by decide +kernel
theorem hm_14 : (mY m14).cls = cN PP.2 := rfl
theorem hn_14 : 0 < mN m14 := by decide
theorem pd_14 : parseMethodDescriptor (mY m14).desc = some ⟨[.int], (some .boolean)⟩ := by decide +kernel
theorem hm_15 : (mY m15).cls = cN PP.2 := rfl
theorem hn_15 : 0 < mN m15 := by decide
theorem pd_15 : parseMethodDescriptor (mY m15).desc = some ⟨[.int, .int, .int], (some .int)⟩ := by decide +kernel
theorem hm_16 : (mY m16).cls = cN PP.2 := rfl
theorem hn_16 : 0 < mN m16 := by decide
theorem pd_16 : parseMethodDescriptor (mY m16).desc = some ⟨[.int, .int, .int, .int], (some .boolean)⟩ := by decide +kernel
theorem hm_17 : (mY m17).cls = cN PP.2 := rfl
theorem hn_17 : 0 < mN m17 := by decide
theorem pd_17 : parseMethodDescriptor (mY m17).desc = some ⟨[], none⟩ := by decide +kernel
theorem hm_18 : (mY m18).cls = cN PP.2 := rfl
theorem hn_18 : 0 < mN m18 := by decide
theorem pd_18 : parseMethodDescriptor (mY m18).desc = some ⟨[.int], (some .boolean)⟩ := by decide +kernel
theorem hm_19 : (mY m19).cls = cN PP.2 := rfl
theorem hn_19 : 0 < mN m19 := by decide
theorem pd_19 : parseMethodDescriptor (mY m19).desc = some ⟨[.int], (some .boolean)⟩ := by decide +kernel
theorem hm_20 : (mY m20).cls = cN PP.2 := rfl
theorem hn_20 : 0 < mN m20 := by decide
theorem pd_20 : parseMethodDescriptor (mY m20).desc = some ⟨[.int, .int, .int, .int], (some .int)⟩ := by decide +kernel
theorem hm_21 : (mY m21).cls = cN PP.2 := rfl
theorem hn_21 : 0 < mN m21 := by decide
theorem pd_21 : parseMethodDescriptor (mY m21).desc = some ⟨[.int, .int, .int, .int, .int], (some .boolean)⟩ := by decide +kernel
theorem hm_22 : (mY m22).cls = cN PP.2 := rfl
theorem hn_22 : 0 < mN m22 := by decide
theorem pd_22 : parseMethodDescriptor (mY m22).desc = some ⟨[], none⟩ := by decide +kernel
theorem hm_23 : (mY m23).cls = cN PP.2 := rfl
theorem hn_23 : 0 < mN m23 := by decide
theorem pd_23 : parseMethodDescriptor (mY m23).desc = some ⟨[.int, .int], (some .int)⟩ := by decide +kernel
theorem hm_24 : (mY m24).cls = cN PP.2 := rfl
theorem hn_24 : 0 < mN m24 := by decide
theorem pd_24 : parseMethodDescriptor (mY m24).desc = some ⟨[.int, .int, .int, .int], (some .int)⟩ := by decide +kernel
theorem hm_25 : (mY m25).cls = cN PP.2 := rfl
theorem hn_25 : 0 < mN m25 := by decide
theorem pd_25 : parseMethodDescriptor (mY m25).desc = some ⟨[.int, .int, .int], (some .int)⟩ := by decide +kernel
theorem hm_26 : (mY m26).cls = cN PP.2 := rfl
theorem hn_26 : 0 < mN m26 := by decide
theorem pd_26 : parseMethodDescriptor (mY m26).desc = some ⟨[.int, .int], (some .int)⟩ := by decide +kernel
theorem hm_27 : (mY m27).cls = cN PP.2 := rfl
theorem hn_27 : 0 < mN m27 := by decide
theorem pd_27 : parseMethodDescriptor (mY m27).desc = some ⟨[.int, .int, .int, .int], (some .int)⟩ := by decide +kernel
theorem hm_28 : (mY m28).cls = cN PP.2 := rfl
theorem hn_28 : 0 < mN m28 := by decide
theorem pd_28 : parseMethodDescriptor (mY m28).desc = some ⟨[.int, .int, .int], (some .boolean)⟩ := by decide +kernel
theorem hm_29 : (mY m29).cls = cN PP.2 := rfl
theorem hn_29 : 0 < mN m29 := by decide
theorem pd_29 : parseMethodDescriptor (mY m29).desc = some ⟨[.int], (some .int)⟩ := by decide +kernel
theorem hm_30 : (mY m30).cls = cN PP.2 := rfl
theorem hn_30 : 0 < mN m30 := by decide
theorem pd_30 : parseMethodDescriptor (mY m30).desc = some ⟨[.int, .int, .int], (some .boolean)⟩ := by decide +kernel
theorem hm_31 : (mY m31).cls = cN PP.2 := rfl
theorem hn_31 : 0 < mN m31 := by decide
theorem pd_31 : parseMethodDescriptor (mY m31).desc = some ⟨[.int, .int], (some .boolean)⟩ := by decide +kernel
theorem hm_32 : (mY m32).cls = cN PP.2 := rfl
theorem hn_32 : 0 < mN m32 := by decide
theorem pd_32 : parseMethodDescriptor (mY m32).desc = some ⟨[.int, .int], none⟩ := by decide +kernel
theorem hm_33 : (mY m33).cls = cN PP.2 := rfl
theorem hn_33 : 0 < mN m33 := by decide
theorem pd_33 : parseMethodDescriptor (mY m33).desc = some ⟨[], none⟩ := by decide +kernel
theorem hm_34 : (mY m34).cls = cN PP.2 := rfl
theorem hn_34 : 0 < mN m34 := by decide
theorem pd_34 : parseMethodDescriptor (mY m34).desc = some ⟨[.int, .int, .int, .int, .int], (some .boolean)⟩ := by decide +kernel
theorem hm_35 : (mY m35).cls = cN PP.2 := rfl
theorem hn_35 : 0 < mN m35 := by decide
theorem pd_35 : parseMethodDescriptor (mY m35).desc = some ⟨[.int], none⟩ := by decide +kernel
theorem hm_36 : (mY m36).cls = cN PP.2 := rfl
theorem hn_36 : 0 < mN m36 := by decide
theorem pd_36 : parseMethodDescriptor (mY m36).desc = some ⟨[.int, .int, .int, .int], (some .int)⟩ := by decide +kernel
theorem hm_37 : (mY m37).cls = cN PP.2 := rfl
theorem hn_37 : 0 < mN m37 := by decide
theorem pd_37 : parseMethodDescriptor (mY m37).desc = some ⟨[.int, .int, .int, .int], (some .int)⟩ := by decide +kernel
theorem hm_38 : (mY m38).cls = cN PP.2 := rfl
theorem hn_38 : 0 < mN m38 := by decide
theorem pd_38 : parseMethodDescriptor (mY m38).desc = some ⟨[.int, .int], none⟩ := by decide +kernel
theorem hm_39 : (mY m39).cls = cN PP.2 := rfl
theorem hn_39 : 0 < mN m39 := by decide
theorem pd_39 : parseMethodDescriptor (mY m39).desc = some ⟨[], none⟩ := by decide +kernel
theorem hm_40 : (mY m40).cls = cN PP.2 := rfl
theorem hn_40 : 0 < mN m40 := by decide
theorem pd_40 : parseMethodDescriptor (mY m40).desc = some ⟨[.int, .int, .int, .int], (some .boolean)⟩ := by decide +kernel
theorem hm_41 : (mY m41).cls = cN PP.2 := rfl
theorem hn_41 : 0 < mN m41 := by decide
theorem pd_41 : parseMethodDescriptor (mY m41).desc = some ⟨[.int, .int, .int], (some .int)⟩ := by decide +kernel
theorem hm_42 : (mY m42).cls = cN PP.2 := rfl
theorem hn_42 : 0 < mN m42 := by decide
theorem pd_42 : parseMethodDescriptor (mY m42).desc = some ⟨[.int, .int, .int], (some .int)⟩ := by decide +kernel
theorem hm_43 : (mY m43).cls = cN PP.2 := rfl
theorem hn_43 : 0 < mN m43 := by decide
theorem pd_43 : parseMethodDescriptor (mY m43).desc = some ⟨[.int, .int, .int, .int], (some .int)⟩ := by decide +kernel
theorem hm_44 : (mY m44).cls = cN PP.2 := rfl
theorem hn_44 : 0 < mN m44 := by decide
theorem pd_44 : parseMethodDescriptor (mY m44).desc = some ⟨[.int, .int, .int], (some .boolean)⟩ := by decide +kernel
theorem hm_45 : (mY m45).cls = cN PP.2 := rfl
theorem hn_45 : 0 < mN m45 := by decide
theorem pd_45 : parseMethodDescriptor (mY m45).desc = some ⟨[.int, .int], (some .boolean)⟩ := by decide +kernel
theorem hm_46 : (mY m46).cls = cN PP.2 := rfl
theorem hn_46 : 0 < mN m46 := by decide
theorem pd_46 : parseMethodDescriptor (mY m46).desc = some ⟨[.int, .int], none⟩ := by decide +kernel
theorem hm_47 : (mY m47).cls = cN PP.2 := rfl
theorem hn_47 : 0 < mN m47 := by decide
theorem pd_47 : parseMethodDescriptor (mY m47).desc = some ⟨[], none⟩ := by decide +kernel
theorem hm_48 : (mY m48).cls = cN PP.2 := rfl
theorem hn_48 : 0 < mN m48 := by decide
theorem pd_48 : parseMethodDescriptor (mY m48).desc = some ⟨[], (some .boolean)⟩ := by decide +kernel
theorem hm_49 : (mY m49).cls = cN PP.2 := rfl
theorem hn_49 : 0 < mN m49 := by decide
theorem pd_49 : parseMethodDescriptor (mY m49).desc = some ⟨[], none⟩ := by decide +kernel
theorem hm_50 : (mY m50).cls = cN PP.2 := rfl
theorem hn_50 : 0 < mN m50 := by decide
theorem pd_50 : parseMethodDescriptor (mY m50).desc = some ⟨[], (some .int)⟩ := by decide +kernel
theorem hm_51 : (mY m51).cls = cN PP.2 := rfl
theorem hn_51 : 0 < mN m51 := by decide
theorem pd_51 : parseMethodDescriptor (mY m51).desc = some ⟨[], (some .int)⟩ := by decide +kernel
theorem hm_52 : (mY m52).cls = cN PP.2 := rfl
theorem hn_52 : 0 < mN m52 := by decide
theorem pd_52 : parseMethodDescriptor (mY m52).desc = some ⟨[.int, .int], (some .int)⟩ := by decide +kernel
theorem hm_53 : (mY m53).cls = cN PP.2 := rfl
theorem hn_53 : 0 < mN m53 := by decide
theorem pd_53 : parseMethodDescriptor (mY m53).desc = some ⟨[.int, .int], (some .int)⟩ := by decide +kernel
theorem hm_54 : (mY m54).cls = cN PP.2 := rfl
theorem hn_54 : 0 < mN m54 := by decide
theorem pd_54 : parseMethodDescriptor (mY m54).desc = some ⟨[], (some .int)⟩ := by decide +kernel
theorem hm_55 : (mY m55).cls = cN PP.2 := rfl
theorem hn_55 : 0 < mN m55 := by decide
theorem pd_55 : parseMethodDescriptor (mY m55).desc = some ⟨[], (some .int)⟩ := by decide +kernel
theorem hn_56 : 0 < mN m56 := by decide
theorem pd_56 : parseMethodDescriptor (mY m56).desc = some ⟨[.int, .int, .boolean], (some .boolean)⟩ := by decide +kernel
theorem hm_57 : (mY m57).cls = cN PP.2 := rfl
theorem hn_57 : 0 < mN m57 := by decide
theorem pd_57 : parseMethodDescriptor (mY m57).desc = some ⟨[.int], (some .int)⟩ := by decide +kernel
theorem hm_58 : (mY m58).cls = cN PP.2 := rfl
theorem hn_58 : 0 < mN m58 := by decide
theorem pd_58 : parseMethodDescriptor (mY m58).desc = some ⟨[.int, .int, .int], (some .int)⟩ := by decide +kernel
theorem hm_59 : (mY m59).cls = cN PP.2 := rfl
theorem hn_59 : 0 < mN m59 := by decide
theorem pd_59 : parseMethodDescriptor (mY m59).desc = some ⟨[.int], (some .int)⟩ := by decide +kernel
theorem hm_60 : (mY m60).cls = cN PP.2 := rfl
theorem hn_60 : 0 < mN m60 := by decide
theorem pd_60 : parseMethodDescriptor (mY m60).desc = some ⟨[.int], (some .int)⟩ := by decide +kernel
theorem hm_61 : (mY m61).cls = cN PP.2 := rfl
theorem hn_61 : 0 < mN m61 := by decide
theorem pd_61 : parseMethodDescriptor (mY m61).desc = some ⟨[.int], (some .int)⟩ := by decide +kernel
theorem hn_62 : 0 < mN m62 := by decide
theorem d0_0 : decode (mB m0) 0 = .ok (.iload_n 1, 1) := by decide +kernel
theorem d0_1 : decode (mB m0) 1 = .ok (.iconst 2, 1) := by decide +kernel
theorem d0_2 : decode (mB m0) 2 = .ok (.if_icmp .ge 5, 3) := by decide +kernel
theorem d0_5 : decode (mB m0) 5 = .ok (.iconst 2, 1) := by decide +kernel
theorem d0_6 : decode (mB m0) 6 = .ok (.ireturn, 1) := by decide +kernel
theorem d0_7 : decode (mB m0) 7 = .ok (.iload_n 1, 1) := by decide +kernel
theorem d0_8 : decode (mB m0) 8 = .ok (.bipush 8, 2) := by decide +kernel
theorem d0_10 : decode (mB m0) 10 = .ok (.if_icmp .le 6, 3) := by decide +kernel
theorem d0_13 : decode (mB m0) 13 = .ok (.bipush 8, 2) := by decide +kernel
theorem d0_15 : decode (mB m0) 15 = .ok (.ireturn, 1) := by decide +kernel
theorem d0_16 : decode (mB m0) 16 = .ok (.iload_n 1, 1) := by decide +kernel
theorem d0_17 : decode (mB m0) 17 = .ok (.ireturn, 1) := by decide +kernel
theorem d1_0 : decode (mB m1) 0 = .ok (.aload_n 0, 1) := by decide +kernel
theorem d1_1 : decode (mB m1) 1 = .ok (.iconst 0, 1) := by decide +kernel
theorem d1_2 : decode (mB m1) 2 = .ok (.putfield 95, 3) := by decide +kernel
theorem d1_5 : decode (mB m1) 5 = .ok (.aload_n 0, 1) := by decide +kernel
theorem d1_6 : decode (mB m1) 6 = .ok (.iconst (-1), 1) := by decide +kernel
theorem d1_7 : decode (mB m1) 7 = .ok (.putfield 98, 3) := by decide +kernel
theorem d1_10 : decode (mB m1) 10 = .ok (.return_, 1) := by decide +kernel
theorem d2_0 : decode (mB m2) 0 = .ok (.aload_n 0, 1) := by decide +kernel
theorem d2_1 : decode (mB m2) 1 = .ok (.iconst 0, 1) := by decide +kernel
theorem d2_2 : decode (mB m2) 2 = .ok (.putfield 64, 3) := by decide +kernel
theorem d2_5 : decode (mB m2) 5 = .ok (.aload_n 0, 1) := by decide +kernel
theorem d2_6 : decode (mB m2) 6 = .ok (.iconst 0, 1) := by decide +kernel
theorem d2_7 : decode (mB m2) 7 = .ok (.putfield 67, 3) := by decide +kernel
theorem d2_10 : decode (mB m2) 10 = .ok (.aload_n 0, 1) := by decide +kernel
theorem d2_11 : decode (mB m2) 11 = .ok (.invokevirtual 74, 3) := by decide +kernel
theorem d2_14 : decode (mB m2) 14 = .ok (.iconst 0, 1) := by decide +kernel
theorem d2_15 : decode (mB m2) 15 = .ok (.istore_n 1, 1) := by decide +kernel
theorem d2_16 : decode (mB m2) 16 = .ok (.iload_n 1, 1) := by decide +kernel
theorem d2_17 : decode (mB m2) 17 = .ok (.bipush 16, 2) := by decide +kernel
theorem d2_19 : decode (mB m2) 19 = .ok (.if_icmp .ge 37, 3) := by decide +kernel
theorem d2_22 : decode (mB m2) 22 = .ok (.aload_n 0, 1) := by decide +kernel
theorem d2_23 : decode (mB m2) 23 = .ok (.getfield 14, 3) := by decide +kernel
theorem d2_26 : decode (mB m2) 26 = .ok (.iload_n 1, 1) := by decide +kernel
theorem d2_27 : decode (mB m2) 27 = .ok (.iconst 0, 1) := by decide +kernel
theorem d2_28 : decode (mB m2) 28 = .ok (.iastore, 1) := by decide +kernel
theorem d2_29 : decode (mB m2) 29 = .ok (.aload_n 0, 1) := by decide +kernel
theorem d2_30 : decode (mB m2) 30 = .ok (.getfield 18, 3) := by decide +kernel
theorem d2_33 : decode (mB m2) 33 = .ok (.iload_n 1, 1) := by decide +kernel
theorem d2_34 : decode (mB m2) 34 = .ok (.iconst 0, 1) := by decide +kernel
theorem d2_35 : decode (mB m2) 35 = .ok (.iastore, 1) := by decide +kernel
theorem d2_36 : decode (mB m2) 36 = .ok (.aload_n 0, 1) := by decide +kernel
theorem d2_37 : decode (mB m2) 37 = .ok (.getfield 21, 3) := by decide +kernel
theorem d2_40 : decode (mB m2) 40 = .ok (.iload_n 1, 1) := by decide +kernel
theorem d2_41 : decode (mB m2) 41 = .ok (.iconst 0, 1) := by decide +kernel
theorem d2_42 : decode (mB m2) 42 = .ok (.iastore, 1) := by decide +kernel
theorem d2_43 : decode (mB m2) 43 = .ok (.aload_n 0, 1) := by decide +kernel
theorem d2_44 : decode (mB m2) 44 = .ok (.getfield 24, 3) := by decide +kernel
theorem d2_47 : decode (mB m2) 47 = .ok (.iload_n 1, 1) := by decide +kernel
theorem d2_48 : decode (mB m2) 48 = .ok (.iconst 0, 1) := by decide +kernel
theorem d2_49 : decode (mB m2) 49 = .ok (.iastore, 1) := by decide +kernel
theorem d2_50 : decode (mB m2) 50 = .ok (.iinc 1 1, 3) := by decide +kernel
theorem d2_53 : decode (mB m2) 53 = .ok (.goto (-37), 3) := by decide +kernel
theorem d2_56 : decode (mB m2) 56 = .ok (.iconst 0, 1) := by decide +kernel
theorem d2_57 : decode (mB m2) 57 = .ok (.istore_n 1, 1) := by decide +kernel
theorem d2_58 : decode (mB m2) 58 = .ok (.iload_n 1, 1) := by decide +kernel
theorem d2_59 : decode (mB m2) 59 = .ok (.bipush 12, 2) := by decide +kernel
theorem d2_61 : decode (mB m2) 61 = .ok (.if_icmp .ge 30, 3) := by decide +kernel
theorem d2_64 : decode (mB m2) 64 = .ok (.aload_n 0, 1) := by decide +kernel
theorem d2_65 : decode (mB m2) 65 = .ok (.getfield 27, 3) := by decide +kernel
theorem d2_68 : decode (mB m2) 68 = .ok (.iload_n 1, 1) := by decide +kernel
theorem d2_69 : decode (mB m2) 69 = .ok (.iconst 0, 1) := by decide +kernel
theorem d2_70 : decode (mB m2) 70 = .ok (.iastore, 1) := by decide +kernel
theorem d2_71 : decode (mB m2) 71 = .ok (.aload_n 0, 1) := by decide +kernel
theorem d2_72 : decode (mB m2) 72 = .ok (.getfield 30, 3) := by decide +kernel
theorem d2_75 : decode (mB m2) 75 = .ok (.iload_n 1, 1) := by decide +kernel
theorem d2_76 : decode (mB m2) 76 = .ok (.iconst 0, 1) := by decide +kernel
theorem d2_77 : decode (mB m2) 77 = .ok (.iastore, 1) := by decide +kernel
theorem d2_78 : decode (mB m2) 78 = .ok (.aload_n 0, 1) := by decide +kernel
theorem d2_79 : decode (mB m2) 79 = .ok (.getfield 33, 3) := by decide +kernel
theorem d2_82 : decode (mB m2) 82 = .ok (.iload_n 1, 1) := by decide +kernel
theorem d2_83 : decode (mB m2) 83 = .ok (.iconst 0, 1) := by decide +kernel
theorem d2_84 : decode (mB m2) 84 = .ok (.iastore, 1) := by decide +kernel
theorem d2_85 : decode (mB m2) 85 = .ok (.iinc 1 1, 3) := by decide +kernel
theorem d2_88 : decode (mB m2) 88 = .ok (.goto (-30), 3) := by decide +kernel
theorem d2_91 : decode (mB m2) 91 = .ok (.iconst 0, 1) := by decide +kernel
theorem d2_92 : decode (mB m2) 92 = .ok (.istore_n 1, 1) := by decide +kernel
theorem d2_93 : decode (mB m2) 93 = .ok (.iload_n 1, 1) := by decide +kernel
theorem d2_94 : decode (mB m2) 94 = .ok (.bipush 36, 2) := by decide +kernel
theorem d2_96 : decode (mB m2) 96 = .ok (.if_icmp .ge 16, 3) := by decide +kernel
theorem d2_99 : decode (mB m2) 99 = .ok (.aload_n 0, 1) := by decide +kernel
theorem d2_100 : decode (mB m2) 100 = .ok (.getfield 36, 3) := by decide +kernel
theorem d2_103 : decode (mB m2) 103 = .ok (.iload_n 1, 1) := by decide +kernel
theorem d2_104 : decode (mB m2) 104 = .ok (.iconst 0, 1) := by decide +kernel
theorem d2_105 : decode (mB m2) 105 = .ok (.iastore, 1) := by decide +kernel
theorem d2_106 : decode (mB m2) 106 = .ok (.iinc 1 1, 3) := by decide +kernel
theorem d2_109 : decode (mB m2) 109 = .ok (.goto (-16), 3) := by decide +kernel
theorem d2_112 : decode (mB m2) 112 = .ok (.return_, 1) := by decide +kernel
theorem d3_0 : decode (mB m3) 0 = .ok (.iconst 0, 1) := by decide +kernel
theorem d3_1 : decode (mB m3) 1 = .ok (.istore_n 1, 1) := by decide +kernel
theorem d3_2 : decode (mB m3) 2 = .ok (.iload_n 1, 1) := by decide +kernel
theorem d3_3 : decode (mB m3) 3 = .ok (.sipush 1024, 3) := by decide +kernel
theorem d3_6 : decode (mB m3) 6 = .ok (.if_icmp .ge 29, 3) := by decide +kernel
theorem d3_9 : decode (mB m3) 9 = .ok (.aload_n 0, 1) := by decide +kernel
theorem d3_10 : decode (mB m3) 10 = .ok (.getfield 39, 3) := by decide +kernel
theorem d3_13 : decode (mB m3) 13 = .ok (.iload_n 1, 1) := by decide +kernel
theorem d3_14 : decode (mB m3) 14 = .ok (.aload_n 0, 1) := by decide +kernel
theorem d3_15 : decode (mB m3) 15 = .ok (.getfield 8, 3) := by decide +kernel
theorem d3_18 : decode (mB m3) 18 = .ok (.iastore, 1) := by decide +kernel
theorem d3_19 : decode (mB m3) 19 = .ok (.aload_n 0, 1) := by decide +kernel
theorem d3_20 : decode (mB m3) 20 = .ok (.getfield 48, 3) := by decide +kernel
theorem d3_23 : decode (mB m3) 23 = .ok (.iload_n 1, 1) := by decide +kernel
theorem d3_24 : decode (mB m3) 24 = .ok (.aload_n 0, 1) := by decide +kernel
theorem d3_25 : decode (mB m3) 25 = .ok (.getfield 8, 3) := by decide +kernel
theorem d3_28 : decode (mB m3) 28 = .ok (.iastore, 1) := by decide +kernel
theorem d3_29 : decode (mB m3) 29 = .ok (.iinc 1 1, 3) := by decide +kernel
theorem d3_32 : decode (mB m3) 32 = .ok (.goto (-30), 3) := by decide +kernel
theorem d3_35 : decode (mB m3) 35 = .ok (.iconst 0, 1) := by decide +kernel
theorem d3_36 : decode (mB m3) 36 = .ok (.istore_n 1, 1) := by decide +kernel
theorem d3_37 : decode (mB m3) 37 = .ok (.iload_n 1, 1) := by decide +kernel
theorem d3_38 : decode (mB m3) 38 = .ok (.sipush 3072, 3) := by decide +kernel
theorem d3_41 : decode (mB m3) 41 = .ok (.if_icmp .ge 29, 3) := by decide +kernel
theorem d3_44 : decode (mB m3) 44 = .ok (.aload_n 0, 1) := by decide +kernel
theorem d3_45 : decode (mB m3) 45 = .ok (.getfield 42, 3) := by decide +kernel
theorem d3_48 : decode (mB m3) 48 = .ok (.iload_n 1, 1) := by decide +kernel
theorem d3_49 : decode (mB m3) 49 = .ok (.aload_n 0, 1) := by decide +kernel
theorem d3_50 : decode (mB m3) 50 = .ok (.getfield 8, 3) := by decide +kernel
theorem d3_53 : decode (mB m3) 53 = .ok (.iastore, 1) := by decide +kernel
theorem d3_54 : decode (mB m3) 54 = .ok (.aload_n 0, 1) := by decide +kernel
theorem d3_55 : decode (mB m3) 55 = .ok (.getfield 45, 3) := by decide +kernel
theorem d3_58 : decode (mB m3) 58 = .ok (.iload_n 1, 1) := by decide +kernel
theorem d3_59 : decode (mB m3) 59 = .ok (.aload_n 0, 1) := by decide +kernel
theorem d3_60 : decode (mB m3) 60 = .ok (.getfield 8, 3) := by decide +kernel
theorem d3_63 : decode (mB m3) 63 = .ok (.iastore, 1) := by decide +kernel
theorem d3_64 : decode (mB m3) 64 = .ok (.iinc 1 1, 3) := by decide +kernel
theorem d3_67 : decode (mB m3) 67 = .ok (.goto (-30), 3) := by decide +kernel
theorem d3_70 : decode (mB m3) 70 = .ok (.return_, 1) := by decide +kernel
theorem d4_0 : decode (mB m4) 0 = .ok (.aload_n 0, 1) := by decide +kernel
theorem d4_1 : decode (mB m4) 1 = .ok (.invokespecial 1, 3) := by decide +kernel
theorem d4_4 : decode (mB m4) 4 = .ok (.aload_n 0, 1) := by decide +kernel
theorem d4_5 : decode (mB m4) 5 = .ok (.ldc 7, 2) := by decide +kernel
theorem d4_7 : decode (mB m4) 7 = .ok (.putfield 8, 3) := by decide +kernel
theorem d4_10 : decode (mB m4) 10 = .ok (.aload_n 0, 1) := by decide +kernel
theorem d4_11 : decode (mB m4) 11 = .ok (.bipush 16, 2) := by decide +kernel
theorem d4_13 : decode (mB m4) 13 = .ok (.newarray .int, 2) := by decide +kernel
theorem d4_15 : decode (mB m4) 15 = .ok (.putfield 14, 3) := by decide +kernel
theorem d4_18 : decode (mB m4) 18 = .ok (.aload_n 0, 1) := by decide +kernel
theorem d4_19 : decode (mB m4) 19 = .ok (.bipush 16, 2) := by decide +kernel
theorem d4_21 : decode (mB m4) 21 = .ok (.newarray .int, 2) := by decide +kernel
theorem d4_23 : decode (mB m4) 23 = .ok (.putfield 18, 3) := by decide +kernel
theorem d4_26 : decode (mB m4) 26 = .ok (.aload_n 0, 1) := by decide +kernel
theorem d4_27 : decode (mB m4) 27 = .ok (.bipush 16, 2) := by decide +kernel
theorem d4_29 : decode (mB m4) 29 = .ok (.newarray .int, 2) := by decide +kernel
theorem d4_31 : decode (mB m4) 31 = .ok (.putfield 21, 3) := by decide +kernel
theorem d4_34 : decode (mB m4) 34 = .ok (.aload_n 0, 1) := by decide +kernel
theorem d4_35 : decode (mB m4) 35 = .ok (.bipush 16, 2) := by decide +kernel
theorem d4_37 : decode (mB m4) 37 = .ok (.newarray .int, 2) := by decide +kernel
theorem d4_39 : decode (mB m4) 39 = .ok (.putfield 24, 3) := by decide +kernel
theorem d4_42 : decode (mB m4) 42 = .ok (.aload_n 0, 1) := by decide +kernel
theorem d4_43 : decode (mB m4) 43 = .ok (.bipush 12, 2) := by decide +kernel
theorem d4_45 : decode (mB m4) 45 = .ok (.newarray .int, 2) := by decide +kernel
theorem d4_47 : decode (mB m4) 47 = .ok (.putfield 27, 3) := by decide +kernel
theorem d4_50 : decode (mB m4) 50 = .ok (.aload_n 0, 1) := by decide +kernel
theorem d4_51 : decode (mB m4) 51 = .ok (.bipush 12, 2) := by decide +kernel
theorem d4_53 : decode (mB m4) 53 = .ok (.newarray .int, 2) := by decide +kernel
theorem d4_55 : decode (mB m4) 55 = .ok (.putfield 30, 3) := by decide +kernel
theorem d4_58 : decode (mB m4) 58 = .ok (.aload_n 0, 1) := by decide +kernel
theorem d4_59 : decode (mB m4) 59 = .ok (.bipush 12, 2) := by decide +kernel
theorem d4_61 : decode (mB m4) 61 = .ok (.newarray .int, 2) := by decide +kernel
theorem d4_63 : decode (mB m4) 63 = .ok (.putfield 33, 3) := by decide +kernel
theorem d4_66 : decode (mB m4) 66 = .ok (.aload_n 0, 1) := by decide +kernel
theorem d4_67 : decode (mB m4) 67 = .ok (.bipush 36, 2) := by decide +kernel
theorem d4_69 : decode (mB m4) 69 = .ok (.newarray .int, 2) := by decide +kernel
theorem d4_71 : decode (mB m4) 71 = .ok (.putfield 36, 3) := by decide +kernel
theorem d4_74 : decode (mB m4) 74 = .ok (.aload_n 0, 1) := by decide +kernel
theorem d4_75 : decode (mB m4) 75 = .ok (.sipush 1024, 3) := by decide +kernel
theorem d4_78 : decode (mB m4) 78 = .ok (.newarray .int, 2) := by decide +kernel
theorem d4_80 : decode (mB m4) 80 = .ok (.putfield 39, 3) := by decide +kernel
theorem d4_83 : decode (mB m4) 83 = .ok (.aload_n 0, 1) := by decide +kernel
theorem d4_84 : decode (mB m4) 84 = .ok (.sipush 3072, 3) := by decide +kernel
theorem d4_87 : decode (mB m4) 87 = .ok (.newarray .int, 2) := by decide +kernel
theorem d4_89 : decode (mB m4) 89 = .ok (.putfield 42, 3) := by decide +kernel
theorem d4_92 : decode (mB m4) 92 = .ok (.aload_n 0, 1) := by decide +kernel
theorem d4_93 : decode (mB m4) 93 = .ok (.sipush 3072, 3) := by decide +kernel
theorem d4_96 : decode (mB m4) 96 = .ok (.newarray .int, 2) := by decide +kernel
theorem d4_98 : decode (mB m4) 98 = .ok (.putfield 45, 3) := by decide +kernel
theorem d4_101 : decode (mB m4) 101 = .ok (.aload_n 0, 1) := by decide +kernel
theorem d4_102 : decode (mB m4) 102 = .ok (.sipush 1024, 3) := by decide +kernel
theorem d4_105 : decode (mB m4) 105 = .ok (.newarray .int, 2) := by decide +kernel
theorem d4_107 : decode (mB m4) 107 = .ok (.putfield 48, 3) := by decide +kernel
theorem d4_110 : decode (mB m4) 110 = .ok (.aload_n 0, 1) := by decide +kernel
theorem d4_111 : decode (mB m4) 111 = .ok (.aload_n 0, 1) := by decide +kernel
theorem d4_112 : decode (mB m4) 112 = .ok (.iload_n 1, 1) := by decide +kernel
theorem d4_113 : decode (mB m4) 113 = .ok (.invokevirtual 51, 3) := by decide +kernel
theorem d4_116 : decode (mB m4) 116 = .ok (.putfield 55, 3) := by decide +kernel
theorem d4_119 : decode (mB m4) 119 = .ok (.aload_n 0, 1) := by decide +kernel
theorem d4_120 : decode (mB m4) 120 = .ok (.invokevirtual 58, 3) := by decide +kernel
theorem d4_123 : decode (mB m4) 123 = .ok (.aload_n 0, 1) := by decide +kernel
theorem d4_124 : decode (mB m4) 124 = .ok (.invokevirtual 61, 3) := by decide +kernel
theorem d4_127 : decode (mB m4) 127 = .ok (.return_, 1) := by decide +kernel
theorem d5_0 : decode (mB m5) 0 = .ok (.aload_n 0, 1) := by decide +kernel
theorem d5_1 : decode (mB m5) 1 = .ok (.getfield 55, 3) := by decide +kernel
theorem d5_4 : decode (mB m5) 4 = .ok (.ireturn, 1) := by decide +kernel
theorem d6_0 : decode (mB m6) 0 = .ok (.iload_n 1, 1) := by decide +kernel
theorem d6_1 : decode (mB m6) 1 = .ok (.iload_n 2, 1) := by decide +kernel
theorem d6_2 : decode (mB m6) 2 = .ok (.if_icmp .lt 12, 3) := by decide +kernel
theorem d6_5 : decode (mB m6) 5 = .ok (.iload_n 1, 1) := by decide +kernel
theorem d6_6 : decode (mB m6) 6 = .ok (.iload_n 3, 1) := by decide +kernel
theorem d6_7 : decode (mB m6) 7 = .ok (.if_icmp .gt 7, 3) := by decide +kernel
theorem d6_10 : decode (mB m6) 10 = .ok (.iconst 1, 1) := by decide +kernel
theorem d6_11 : decode (mB m6) 11 = .ok (.goto 4, 3) := by decide +kernel
theorem d6_14 : decode (mB m6) 14 = .ok (.iconst 0, 1) := by decide +kernel
theorem d6_15 : decode (mB m6) 15 = .ok (.ireturn, 1) := by decide +kernel
theorem d7_0 : decode (mB m7) 0 = .ok (.aload_n 0, 1) := by decide +kernel
theorem d7_1 : decode (mB m7) 1 = .ok (.getfield 64, 3) := by decide +kernel
theorem d7_4 : decode (mB m7) 4 = .ok (.bipush 16, 2) := by decide +kernel
theorem d7_6 : decode (mB m7) 6 = .ok (.if_icmp .lt 5, 3) := by decide +kernel
theorem d7_9 : decode (mB m7) 9 = .ok (.iconst 1, 1) := by decide +kernel
theorem d7_10 : decode (mB m7) 10 = .ok (.ireturn, 1) := by decide +kernel
theorem d7_11 : decode (mB m7) 11 = .ok (.iload_n 1, 1) := by decide +kernel
theorem d7_12 : decode (mB m7) 12 = .ok (.ifCond .lt 18, 3) := by decide +kernel
theorem d7_15 : decode (mB m7) 15 = .ok (.iload_n 2, 1) := by decide +kernel
theorem d7_16 : decode (mB m7) 16 = .ok (.aload_n 0, 1) := by decide +kernel
theorem d7_17 : decode (mB m7) 17 = .ok (.getfield 55, 3) := by decide +kernel
theorem d7_20 : decode (mB m7) 20 = .ok (.iconst 1, 1) := by decide +kernel
theorem d7_21 : decode (mB m7) 21 = .ok (.isub, 1) := by decide +kernel
theorem d7_22 : decode (mB m7) 22 = .ok (.if_icmp .gt 8, 3) := by decide +kernel
theorem d7_25 : decode (mB m7) 25 = .ok (.iload_n 1, 1) := by decide +kernel
theorem d7_26 : decode (mB m7) 26 = .ok (.iload_n 2, 1) := by decide +kernel
theorem d7_27 : decode (mB m7) 27 = .ok (.if_icmp .lt 5, 3) := by decide +kernel
theorem d7_30 : decode (mB m7) 30 = .ok (.iconst 1, 1) := by decide +kernel
theorem d7_31 : decode (mB m7) 31 = .ok (.ireturn, 1) := by decide +kernel
theorem d7_32 : decode (mB m7) 32 = .ok (.aload_n 0, 1) := by decide +kernel
theorem d7_33 : decode (mB m7) 33 = .ok (.iload_n 3, 1) := by decide +kernel
theorem d7_34 : decode (mB m7) 34 = .ok (.iconst 0, 1) := by decide +kernel
theorem d7_35 : decode (mB m7) 35 = .ok (.bipush 7, 2) := by decide +kernel
theorem d7_37 : decode (mB m7) 37 = .ok (.invokevirtual 129, 3) := by decide +kernel
theorem d7_40 : decode (mB m7) 40 = .ok (.ifCond .ne 5, 3) := by decide +kernel
theorem d7_43 : decode (mB m7) 43 = .ok (.iconst 1, 1) := by decide +kernel
theorem d7_44 : decode (mB m7) 44 = .ok (.ireturn, 1) := by decide +kernel
theorem d7_45 : decode (mB m7) 45 = .ok (.aload_n 0, 1) := by decide +kernel
theorem d7_46 : decode (mB m7) 46 = .ok (.iload 4, 2) := by decide +kernel
theorem d7_48 : decode (mB m7) 48 = .ok (.iconst 0, 1) := by decide +kernel
theorem d7_49 : decode (mB m7) 49 = .ok (.bipush 100, 2) := by decide +kernel
theorem d7_51 : decode (mB m7) 51 = .ok (.invokevirtual 129, 3) := by decide +kernel
theorem d7_54 : decode (mB m7) 54 = .ok (.ifCond .ne 7, 3) := by decide +kernel
theorem d7_57 : decode (mB m7) 57 = .ok (.iconst 1, 1) := by decide +kernel
theorem d7_58 : decode (mB m7) 58 = .ok (.goto 4, 3) := by decide +kernel
theorem d7_61 : decode (mB m7) 61 = .ok (.iconst 0, 1) := by decide +kernel
theorem d7_62 : decode (mB m7) 62 = .ok (.ireturn, 1) := by decide +kernel
theorem d8_0 : decode (mB m8) 0 = .ok (.aload_n 0, 1) := by decide +kernel
theorem d8_1 : decode (mB m8) 1 = .ok (.iload_n 1, 1) := by decide +kernel
theorem d8_2 : decode (mB m8) 2 = .ok (.iload_n 2, 1) := by decide +kernel
theorem d8_3 : decode (mB m8) 3 = .ok (.iload_n 3, 1) := by decide +kernel
theorem d8_4 : decode (mB m8) 4 = .ok (.iload 4, 2) := by decide +kernel
theorem d8_6 : decode (mB m8) 6 = .ok (.invokevirtual 70, 3) := by decide +kernel
theorem d8_9 : decode (mB m8) 9 = .ok (.ifCond .eq 5, 3) := by decide +kernel
theorem d8_12 : decode (mB m8) 12 = .ok (.iconst (-1), 1) := by decide +kernel
theorem d8_13 : decode (mB m8) 13 = .ok (.ireturn, 1) := by decide +kernel
theorem d8_14 : decode (mB m8) 14 = .ok (.aload_n 0, 1) := by decide +kernel
theorem d8_15 : decode (mB m8) 15 = .ok (.getfield 64, 3) := by decide +kernel
theorem d8_18 : decode (mB m8) 18 = .ok (.istore 5, 2) := by decide +kernel
theorem d8_20 : decode (mB m8) 20 = .ok (.aload_n 0, 1) := by decide +kernel
theorem d8_21 : decode (mB m8) 21 = .ok (.getfield 14, 3) := by decide +kernel
theorem d8_24 : decode (mB m8) 24 = .ok (.iload 5, 2) := by decide +kernel
theorem d8_26 : decode (mB m8) 26 = .ok (.iload_n 1, 1) := by decide +kernel
theorem d8_27 : decode (mB m8) 27 = .ok (.iastore, 1) := by decide +kernel
theorem d8_28 : decode (mB m8) 28 = .ok (.aload_n 0, 1) := by decide +kernel
theorem d8_29 : decode (mB m8) 29 = .ok (.getfield 18, 3) := by decide +kernel
theorem d8_32 : decode (mB m8) 32 = .ok (.iload 5, 2) := by decide +kernel
theorem d8_34 : decode (mB m8) 34 = .ok (.iload_n 2, 1) := by decide +kernel
theorem d8_35 : decode (mB m8) 35 = .ok (.iastore, 1) := by decide +kernel
theorem d8_36 : decode (mB m8) 36 = .ok (.aload_n 0, 1) := by decide +kernel
theorem d8_37 : decode (mB m8) 37 = .ok (.getfield 21, 3) := by decide +kernel
theorem d8_40 : decode (mB m8) 40 = .ok (.iload 5, 2) := by decide +kernel
theorem d8_42 : decode (mB m8) 42 = .ok (.iload_n 3, 1) := by decide +kernel
theorem d8_43 : decode (mB m8) 43 = .ok (.iastore, 1) := by decide +kernel
theorem d8_44 : decode (mB m8) 44 = .ok (.aload_n 0, 1) := by decide +kernel
theorem d8_45 : decode (mB m8) 45 = .ok (.getfield 24, 3) := by decide +kernel
theorem d8_48 : decode (mB m8) 48 = .ok (.iload 5, 2) := by decide +kernel
theorem d8_50 : decode (mB m8) 50 = .ok (.iload 4, 2) := by decide +kernel
theorem d8_52 : decode (mB m8) 52 = .ok (.iastore, 1) := by decide +kernel
theorem d8_53 : decode (mB m8) 53 = .ok (.aload_n 0, 1) := by decide +kernel
theorem d8_54 : decode (mB m8) 54 = .ok (.iload 5, 2) := by decide +kernel
theorem d8_56 : decode (mB m8) 56 = .ok (.iconst 1, 1) := by decide +kernel
theorem d8_57 : decode (mB m8) 57 = .ok (.iadd, 1) := by decide +kernel
theorem d8_58 : decode (mB m8) 58 = .ok (.putfield 64, 3) := by decide +kernel
theorem d8_61 : decode (mB m8) 61 = .ok (.aload_n 0, 1) := by decide +kernel
theorem d8_62 : decode (mB m8) 62 = .ok (.invokevirtual 74, 3) := by decide +kernel
theorem d8_65 : decode (mB m8) 65 = .ok (.iload 5, 2) := by decide +kernel
theorem d8_67 : decode (mB m8) 67 = .ok (.ireturn, 1) := by decide +kernel
theorem d9_0 : decode (mB m9) 0 = .ok (.iconst 1, 1) := by decide +kernel
theorem d9_1 : decode (mB m9) 1 = .ok (.istore_n 2, 1) := by decide +kernel
theorem d9_2 : decode (mB m9) 2 = .ok (.iconst 0, 1) := by decide +kernel
theorem d9_3 : decode (mB m9) 3 = .ok (.istore_n 3, 1) := by decide +kernel
theorem d9_4 : decode (mB m9) 4 = .ok (.iload_n 3, 1) := by decide +kernel
theorem d9_5 : decode (mB m9) 5 = .ok (.iload_n 1, 1) := by decide +kernel
theorem d9_6 : decode (mB m9) 6 = .ok (.if_icmp .ge 19, 3) := by decide +kernel
theorem d9_9 : decode (mB m9) 9 = .ok (.iload_n 3, 1) := by decide +kernel
theorem d9_10 : decode (mB m9) 10 = .ok (.iconst 3, 1) := by decide +kernel
theorem d9_11 : decode (mB m9) 11 = .ok (.if_icmp .ge 14, 3) := by decide +kernel
theorem d9_14 : decode (mB m9) 14 = .ok (.iload_n 2, 1) := by decide +kernel
theorem d9_15 : decode (mB m9) 15 = .ok (.bipush 16, 2) := by decide +kernel
theorem d9_17 : decode (mB m9) 17 = .ok (.imul, 1) := by decide +kernel
theorem d9_18 : decode (mB m9) 18 = .ok (.istore_n 2, 1) := by decide +kernel
theorem d9_19 : decode (mB m9) 19 = .ok (.iinc 3 1, 3) := by decide +kernel
theorem d9_22 : decode (mB m9) 22 = .ok (.goto (-18), 3) := by decide +kernel
theorem d9_25 : decode (mB m9) 25 = .ok (.iload_n 2, 1) := by decide +kernel
theorem d9_26 : decode (mB m9) 26 = .ok (.ireturn, 1) := by decide +kernel
theorem d10_0 : decode (mB m10) 0 = .ok (.aload_n 0, 1) := by decide +kernel
theorem d10_1 : decode (mB m10) 1 = .ok (.getfield 67, 3) := by decide +kernel
theorem d10_4 : decode (mB m10) 4 = .ok (.bipush 12, 2) := by decide +kernel
theorem d10_6 : decode (mB m10) 6 = .ok (.if_icmp .lt 5, 3) := by decide +kernel
theorem d10_9 : decode (mB m10) 9 = .ok (.iconst 1, 1) := by decide +kernel
theorem d10_10 : decode (mB m10) 10 = .ok (.ireturn, 1) := by decide +kernel
theorem d10_11 : decode (mB m10) 11 = .ok (.aload_n 0, 1) := by decide +kernel
theorem d10_12 : decode (mB m10) 12 = .ok (.iload_n 1, 1) := by decide +kernel
theorem d10_13 : decode (mB m10) 13 = .ok (.iconst 0, 1) := by decide +kernel
theorem d10_14 : decode (mB m10) 14 = .ok (.bipush 7, 2) := by decide +kernel
theorem d10_16 : decode (mB m10) 16 = .ok (.invokevirtual 129, 3) := by decide +kernel
theorem d10_19 : decode (mB m10) 19 = .ok (.ifCond .ne 5, 3) := by decide +kernel
theorem d10_22 : decode (mB m10) 22 = .ok (.iconst 1, 1) := by decide +kernel
theorem d10_23 : decode (mB m10) 23 = .ok (.ireturn, 1) := by decide +kernel
theorem d10_24 : decode (mB m10) 24 = .ok (.aload_n 0, 1) := by decide +kernel
theorem d10_25 : decode (mB m10) 25 = .ok (.iload_n 2, 1) := by decide +kernel
theorem d10_26 : decode (mB m10) 26 = .ok (.iconst 0, 1) := by decide +kernel
theorem d10_27 : decode (mB m10) 27 = .ok (.bipush 100, 2) := by decide +kernel
theorem d10_29 : decode (mB m10) 29 = .ok (.invokevirtual 129, 3) := by decide +kernel
theorem d10_32 : decode (mB m10) 32 = .ok (.ifCond .ne 5, 3) := by decide +kernel
theorem d10_35 : decode (mB m10) 35 = .ok (.iconst 1, 1) := by decide +kernel
theorem d10_36 : decode (mB m10) 36 = .ok (.ireturn, 1) := by decide +kernel
theorem d10_37 : decode (mB m10) 37 = .ok (.aload_n 0, 1) := by decide +kernel
theorem d10_38 : decode (mB m10) 38 = .ok (.iload_n 3, 1) := by decide +kernel
theorem d10_39 : decode (mB m10) 39 = .ok (.iconst 0, 1) := by decide +kernel
theorem d10_40 : decode (mB m10) 40 = .ok (.iconst 3, 1) := by decide +kernel
theorem d10_41 : decode (mB m10) 41 = .ok (.invokevirtual 129, 3) := by decide +kernel
theorem d10_44 : decode (mB m10) 44 = .ok (.ifCond .ne 5, 3) := by decide +kernel
theorem d10_47 : decode (mB m10) 47 = .ok (.iconst 1, 1) := by decide +kernel
theorem d10_48 : decode (mB m10) 48 = .ok (.ireturn, 1) := by decide +kernel
theorem d10_49 : decode (mB m10) 49 = .ok (.iload 4, 2) := by decide +kernel
theorem d10_51 : decode (mB m10) 51 = .ok (.ifCond .ge 5, 3) := by decide +kernel
theorem d10_54 : decode (mB m10) 54 = .ok (.iconst 1, 1) := by decide +kernel
theorem d10_55 : decode (mB m10) 55 = .ok (.ireturn, 1) := by decide +kernel
theorem d10_56 : decode (mB m10) 56 = .ok (.iload 4, 2) := by decide +kernel
theorem d10_58 : decode (mB m10) 58 = .ok (.aload_n 0, 1) := by decide +kernel
theorem d10_59 : decode (mB m10) 59 = .ok (.iload_n 3, 1) := by decide +kernel
theorem d10_60 : decode (mB m10) 60 = .ok (.invokevirtual 133, 3) := by decide +kernel
theorem d10_63 : decode (mB m10) 63 = .ok (.if_icmp .lt 7, 3) := by decide +kernel
theorem d10_66 : decode (mB m10) 66 = .ok (.iconst 1, 1) := by decide +kernel
theorem d10_67 : decode (mB m10) 67 = .ok (.goto 4, 3) := by decide +kernel
theorem d10_70 : decode (mB m10) 70 = .ok (.iconst 0, 1) := by decide +kernel
theorem d10_71 : decode (mB m10) 71 = .ok (.ireturn, 1) := by decide +kernel
theorem d11_0 : decode (mB m11) 0 = .ok (.iload_n 1, 1) := by decide +kernel
theorem d11_1 : decode (mB m11) 1 = .ok (.ifCond .lt 9, 3) := by decide +kernel
theorem d11_4 : decode (mB m11) 4 = .ok (.iload_n 1, 1) := by decide +kernel
theorem d11_5 : decode (mB m11) 5 = .ok (.bipush 12, 2) := by decide +kernel
theorem d11_7 : decode (mB m11) 7 = .ok (.if_icmp .lt 4, 3) := by decide +kernel
theorem d11_10 : decode (mB m11) 10 = .ok (.return_, 1) := by decide +kernel
theorem d11_11 : decode (mB m11) 11 = .ok (.aload_n 0, 1) := by decide +kernel
theorem d11_12 : decode (mB m11) 12 = .ok (.getfield 27, 3) := by decide +kernel
theorem d11_15 : decode (mB m11) 15 = .ok (.iload_n 1, 1) := by decide +kernel
theorem d11_16 : decode (mB m11) 16 = .ok (.iload_n 2, 1) := by decide +kernel
theorem d11_17 : decode (mB m11) 17 = .ok (.iastore, 1) := by decide +kernel
theorem d11_18 : decode (mB m11) 18 = .ok (.aload_n 0, 1) := by decide +kernel
theorem d11_19 : decode (mB m11) 19 = .ok (.getfield 30, 3) := by decide +kernel
theorem d11_22 : decode (mB m11) 22 = .ok (.iload_n 1, 1) := by decide +kernel
theorem d11_23 : decode (mB m11) 23 = .ok (.iload_n 3, 1) := by decide +kernel
theorem d11_24 : decode (mB m11) 24 = .ok (.iastore, 1) := by decide +kernel
theorem d11_25 : decode (mB m11) 25 = .ok (.aload_n 0, 1) := by decide +kernel
theorem d11_26 : decode (mB m11) 26 = .ok (.getfield 33, 3) := by decide +kernel
theorem d11_29 : decode (mB m11) 29 = .ok (.iload_n 1, 1) := by decide +kernel
theorem d11_30 : decode (mB m11) 30 = .ok (.iload 4, 2) := by decide +kernel
theorem d11_32 : decode (mB m11) 32 = .ok (.iastore, 1) := by decide +kernel
theorem d11_33 : decode (mB m11) 33 = .ok (.iconst 0, 1) := by decide +kernel
theorem d11_34 : decode (mB m11) 34 = .ok (.istore 6, 2) := by decide +kernel
theorem d11_36 : decode (mB m11) 36 = .ok (.iload 6, 2) := by decide +kernel
theorem d11_38 : decode (mB m11) 38 = .ok (.iconst 3, 1) := by decide +kernel
theorem d11_39 : decode (mB m11) 39 = .ok (.if_icmp .ge 44, 3) := by decide +kernel
theorem d11_42 : decode (mB m11) 42 = .ok (.iconst 0, 1) := by decide +kernel
theorem d11_43 : decode (mB m11) 43 = .ok (.istore 7, 2) := by decide +kernel
theorem d11_45 : decode (mB m11) 45 = .ok (.iload 6, 2) := by decide +kernel
theorem d11_47 : decode (mB m11) 47 = .ok (.iload 4, 2) := by decide +kernel
theorem d11_49 : decode (mB m11) 49 = .ok (.if_icmp .ge 15, 3) := by decide +kernel
theorem d11_52 : decode (mB m11) 52 = .ok (.iload 5, 2) := by decide +kernel
theorem d11_54 : decode (mB m11) 54 = .ok (.iconst 4, 1) := by decide +kernel
theorem d11_55 : decode (mB m11) 55 = .ok (.iload 6, 2) := by decide +kernel
theorem d11_57 : decode (mB m11) 57 = .ok (.imul, 1) := by decide +kernel
theorem d11_58 : decode (mB m11) 58 = .ok (.ishr, 1) := by decide +kernel
theorem d11_59 : decode (mB m11) 59 = .ok (.bipush 15, 2) := by decide +kernel
theorem d11_61 : decode (mB m11) 61 = .ok (.iand, 1) := by decide +kernel
theorem d11_62 : decode (mB m11) 62 = .ok (.istore 7, 2) := by decide +kernel
theorem d11_64 : decode (mB m11) 64 = .ok (.aload_n 0, 1) := by decide +kernel
theorem d11_65 : decode (mB m11) 65 = .ok (.getfield 36, 3) := by decide +kernel
theorem d11_68 : decode (mB m11) 68 = .ok (.iload_n 1, 1) := by decide +kernel
theorem d11_69 : decode (mB m11) 69 = .ok (.iconst 3, 1) := by decide +kernel
theorem d11_70 : decode (mB m11) 70 = .ok (.imul, 1) := by decide +kernel
theorem d11_71 : decode (mB m11) 71 = .ok (.iload 6, 2) := by decide +kernel
theorem d11_73 : decode (mB m11) 73 = .ok (.iadd, 1) := by decide +kernel
theorem d11_74 : decode (mB m11) 74 = .ok (.iload 7, 2) := by decide +kernel
theorem d11_76 : decode (mB m11) 76 = .ok (.iastore, 1) := by decide +kernel
theorem d11_77 : decode (mB m11) 77 = .ok (.iinc 6 1, 3) := by decide +kernel
theorem d11_80 : decode (mB m11) 80 = .ok (.goto (-44), 3) := by decide +kernel
theorem d11_83 : decode (mB m11) 83 = .ok (.return_, 1) := by decide +kernel
theorem d12_0 : decode (mB m12) 0 = .ok (.aload_n 0, 1) := by decide +kernel
theorem d12_1 : decode (mB m12) 1 = .ok (.iload_n 1, 1) := by decide +kernel
theorem d12_2 : decode (mB m12) 2 = .ok (.iload_n 2, 1) := by decide +kernel
theorem d12_3 : decode (mB m12) 3 = .ok (.iload_n 3, 1) := by decide +kernel
theorem d12_4 : decode (mB m12) 4 = .ok (.iload 4, 2) := by decide +kernel
theorem d12_6 : decode (mB m12) 6 = .ok (.invokevirtual 77, 3) := by decide +kernel
theorem d12_9 : decode (mB m12) 9 = .ok (.ifCond .eq 5, 3) := by decide +kernel
theorem d12_12 : decode (mB m12) 12 = .ok (.iconst (-1), 1) := by decide +kernel
theorem d12_13 : decode (mB m12) 13 = .ok (.ireturn, 1) := by decide +kernel
theorem d12_14 : decode (mB m12) 14 = .ok (.aload_n 0, 1) := by decide +kernel
theorem d12_15 : decode (mB m12) 15 = .ok (.getfield 67, 3) := by decide +kernel
theorem d12_18 : decode (mB m12) 18 = .ok (.istore 5, 2) := by decide +kernel
theorem d12_20 : decode (mB m12) 20 = .ok (.aload_n 0, 1) := by decide +kernel
theorem d12_21 : decode (mB m12) 21 = .ok (.iload 5, 2) := by decide +kernel
theorem d12_23 : decode (mB m12) 23 = .ok (.iload_n 1, 1) := by decide +kernel
theorem d12_24 : decode (mB m12) 24 = .ok (.iload_n 2, 1) := by decide +kernel
theorem d12_25 : decode (mB m12) 25 = .ok (.iload_n 3, 1) := by decide +kernel
theorem d12_26 : decode (mB m12) 26 = .ok (.iload 4, 2) := by decide +kernel
theorem d12_28 : decode (mB m12) 28 = .ok (.invokevirtual 80, 3) := by decide +kernel
theorem d12_31 : decode (mB m12) 31 = .ok (.aload_n 0, 1) := by decide +kernel
theorem d12_32 : decode (mB m12) 32 = .ok (.iload 5, 2) := by decide +kernel
theorem d12_34 : decode (mB m12) 34 = .ok (.iconst 1, 1) := by decide +kernel
theorem d12_35 : decode (mB m12) 35 = .ok (.iadd, 1) := by decide +kernel
theorem d12_36 : decode (mB m12) 36 = .ok (.putfield 67, 3) := by decide +kernel
theorem d12_39 : decode (mB m12) 39 = .ok (.aload_n 0, 1) := by decide +kernel
theorem d12_40 : decode (mB m12) 40 = .ok (.invokevirtual 74, 3) := by decide +kernel
theorem d12_43 : decode (mB m12) 43 = .ok (.iload 5, 2) := by decide +kernel
theorem d12_45 : decode (mB m12) 45 = .ok (.ireturn, 1) := by decide +kernel
theorem d13_0 : decode (mB m13) 0 = .ok (.iload_n 1, 1) := by decide +kernel
theorem d13_1 : decode (mB m13) 1 = .ok (.ifCond .lt 13, 3) := by decide +kernel
theorem d13_4 : decode (mB m13) 4 = .ok (.iload_n 1, 1) := by decide +kernel
theorem d13_5 : decode (mB m13) 5 = .ok (.bipush 16, 2) := by decide +kernel
theorem d13_7 : decode (mB m13) 7 = .ok (.if_icmp .ge 7, 3) := by decide +kernel
theorem d13_10 : decode (mB m13) 10 = .ok (.iconst 1, 1) := by decide +kernel
theorem d13_11 : decode (mB m13) 11 = .ok (.goto 4, 3) := by decide +kernel
theorem d13_14 : decode (mB m13) 14 = .ok (.iconst 0, 1) := by decide +kernel
theorem d13_15 : decode (mB m13) 15 = .ok (.ireturn, 1) := by decide +kernel
theorem d14_0 : decode (mB m14) 0 = .ok (.iload_n 1, 1) := by decide +kernel
theorem d14_1 : decode (mB m14) 1 = .ok (.ifCond .lt 15, 3) := by decide +kernel
theorem d14_4 : decode (mB m14) 4 = .ok (.iload_n 1, 1) := by decide +kernel
theorem d14_5 : decode (mB m14) 5 = .ok (.aload_n 0, 1) := by decide +kernel
theorem d14_6 : decode (mB m14) 6 = .ok (.getfield 55, 3) := by decide +kernel
theorem d14_9 : decode (mB m14) 9 = .ok (.if_icmp .ge 7, 3) := by decide +kernel
theorem d14_12 : decode (mB m14) 12 = .ok (.iconst 1, 1) := by decide +kernel
theorem d14_13 : decode (mB m14) 13 = .ok (.goto 4, 3) := by decide +kernel
theorem d14_16 : decode (mB m14) 16 = .ok (.iconst 0, 1) := by decide +kernel
theorem d14_17 : decode (mB m14) 17 = .ok (.ireturn, 1) := by decide +kernel
theorem d15_0 : decode (mB m15) 0 = .ok (.aload_n 0, 1) := by decide +kernel
theorem d15_1 : decode (mB m15) 1 = .ok (.iload_n 1, 1) := by decide +kernel
theorem d15_2 : decode (mB m15) 2 = .ok (.invokevirtual 107, 3) := by decide +kernel
theorem d15_5 : decode (mB m15) 5 = .ok (.ifCond .eq 19, 3) := by decide +kernel
theorem d15_8 : decode (mB m15) 8 = .ok (.aload_n 0, 1) := by decide +kernel
theorem d15_9 : decode (mB m15) 9 = .ok (.iload_n 2, 1) := by decide +kernel
theorem d15_10 : decode (mB m15) 10 = .ok (.invokevirtual 111, 3) := by decide +kernel
theorem d15_13 : decode (mB m15) 13 = .ok (.ifCond .eq 11, 3) := by decide +kernel
theorem d15_16 : decode (mB m15) 16 = .ok (.aload_n 0, 1) := by decide +kernel
theorem d15_17 : decode (mB m15) 17 = .ok (.iload_n 3, 1) := by decide +kernel
theorem d15_18 : decode (mB m15) 18 = .ok (.invokevirtual 111, 3) := by decide +kernel
theorem d15_21 : decode (mB m15) 21 = .ok (.ifCond .ne 5, 3) := by decide +kernel
theorem d15_24 : decode (mB m15) 24 = .ok (.iconst (-1), 1) := by decide +kernel
theorem d15_25 : decode (mB m15) 25 = .ok (.ireturn, 1) := by decide +kernel
theorem d15_26 : decode (mB m15) 26 = .ok (.iload_n 1, 1) := by decide +kernel
theorem d15_27 : decode (mB m15) 27 = .ok (.bipush 64, 2) := by decide +kernel
theorem d15_29 : decode (mB m15) 29 = .ok (.imul, 1) := by decide +kernel
theorem d15_30 : decode (mB m15) 30 = .ok (.iload_n 2, 1) := by decide +kernel
theorem d15_31 : decode (mB m15) 31 = .ok (.bipush 8, 2) := by decide +kernel
theorem d15_33 : decode (mB m15) 33 = .ok (.imul, 1) := by decide +kernel
theorem d15_34 : decode (mB m15) 34 = .ok (.iadd, 1) := by decide +kernel
theorem d15_35 : decode (mB m15) 35 = .ok (.iload_n 3, 1) := by decide +kernel
theorem d15_36 : decode (mB m15) 36 = .ok (.iadd, 1) := by decide +kernel
theorem d15_37 : decode (mB m15) 37 = .ok (.ireturn, 1) := by decide +kernel
theorem d16_0 : decode (mB m16) 0 = .ok (.aload_n 0, 1) := by decide +kernel
theorem d16_1 : decode (mB m16) 1 = .ok (.iload_n 1, 1) := by decide +kernel
theorem d16_2 : decode (mB m16) 2 = .ok (.iload_n 2, 1) := by decide +kernel
theorem d16_3 : decode (mB m16) 3 = .ok (.iload_n 3, 1) := by decide +kernel
theorem d16_4 : decode (mB m16) 4 = .ok (.invokevirtual 139, 3) := by decide +kernel
theorem d16_7 : decode (mB m16) 7 = .ok (.istore 5, 2) := by decide +kernel
theorem d16_9 : decode (mB m16) 9 = .ok (.iload 5, 2) := by decide +kernel
theorem d16_11 : decode (mB m16) 11 = .ok (.ifCond .lt 15, 3) := by decide +kernel
theorem d16_14 : decode (mB m16) 14 = .ok (.iload 4, 2) := by decide +kernel
theorem d16_16 : decode (mB m16) 16 = .ok (.aload_n 0, 1) := by decide +kernel
theorem d16_17 : decode (mB m16) 17 = .ok (.getfield 39, 3) := by decide +kernel
theorem d16_20 : decode (mB m16) 20 = .ok (.iload 5, 2) := by decide +kernel
theorem d16_22 : decode (mB m16) 22 = .ok (.iaload, 1) := by decide +kernel
theorem d16_23 : decode (mB m16) 23 = .ok (.if_icmp .lt 5, 3) := by decide +kernel
theorem d16_26 : decode (mB m16) 26 = .ok (.iconst 0, 1) := by decide +kernel
theorem d16_27 : decode (mB m16) 27 = .ok (.ireturn, 1) := by decide +kernel
theorem d16_28 : decode (mB m16) 28 = .ok (.aload_n 0, 1) := by decide +kernel
theorem d16_29 : decode (mB m16) 29 = .ok (.getfield 39, 3) := by decide +kernel
theorem d16_32 : decode (mB m16) 32 = .ok (.iload 5, 2) := by decide +kernel
theorem d16_34 : decode (mB m16) 34 = .ok (.iload 4, 2) := by decide +kernel
theorem d16_36 : decode (mB m16) 36 = .ok (.iastore, 1) := by decide +kernel
theorem d16_37 : decode (mB m16) 37 = .ok (.iconst 1, 1) := by decide +kernel
theorem d16_38 : decode (mB m16) 38 = .ok (.ireturn, 1) := by decide +kernel
theorem d17_0 : decode (mB m17) 0 = .ok (.iconst 0, 1) := by decide +kernel
theorem d17_1 : decode (mB m17) 1 = .ok (.istore_n 1, 1) := by decide +kernel
theorem d17_2 : decode (mB m17) 2 = .ok (.iload_n 1, 1) := by decide +kernel
theorem d17_3 : decode (mB m17) 3 = .ok (.aload_n 0, 1) := by decide +kernel
theorem d17_4 : decode (mB m17) 4 = .ok (.getfield 64, 3) := by decide +kernel
theorem d17_7 : decode (mB m17) 7 = .ok (.if_icmp .ge 38, 3) := by decide +kernel
theorem d17_10 : decode (mB m17) 10 = .ok (.aload_n 0, 1) := by decide +kernel
theorem d17_11 : decode (mB m17) 11 = .ok (.aload_n 0, 1) := by decide +kernel
theorem d17_12 : decode (mB m17) 12 = .ok (.getfield 21, 3) := by decide +kernel
theorem d17_15 : decode (mB m17) 15 = .ok (.iload_n 1, 1) := by decide +kernel
theorem d17_16 : decode (mB m17) 16 = .ok (.iaload, 1) := by decide +kernel
theorem d17_17 : decode (mB m17) 17 = .ok (.aload_n 0, 1) := by decide +kernel
theorem d17_18 : decode (mB m17) 18 = .ok (.getfield 14, 3) := by decide +kernel
theorem d17_21 : decode (mB m17) 21 = .ok (.iload_n 1, 1) := by decide +kernel
theorem d17_22 : decode (mB m17) 22 = .ok (.iaload, 1) := by decide +kernel
theorem d17_23 : decode (mB m17) 23 = .ok (.aload_n 0, 1) := by decide +kernel
theorem d17_24 : decode (mB m17) 24 = .ok (.getfield 18, 3) := by decide +kernel
theorem d17_27 : decode (mB m17) 27 = .ok (.iload_n 1, 1) := by decide +kernel
theorem d17_28 : decode (mB m17) 28 = .ok (.iaload, 1) := by decide +kernel
theorem d17_29 : decode (mB m17) 29 = .ok (.aload_n 0, 1) := by decide +kernel
theorem d17_30 : decode (mB m17) 30 = .ok (.getfield 24, 3) := by decide +kernel
theorem d17_33 : decode (mB m17) 33 = .ok (.iload_n 1, 1) := by decide +kernel
theorem d17_34 : decode (mB m17) 34 = .ok (.iaload, 1) := by decide +kernel
theorem d17_35 : decode (mB m17) 35 = .ok (.invokevirtual 156, 3) := by decide +kernel
theorem d17_38 : decode (mB m17) 38 = .ok (.pop, 1) := by decide +kernel
theorem d17_39 : decode (mB m17) 39 = .ok (.iinc 1 1, 3) := by decide +kernel
theorem d17_42 : decode (mB m17) 42 = .ok (.goto (-40), 3) := by decide +kernel
theorem d17_45 : decode (mB m17) 45 = .ok (.return_, 1) := by decide +kernel
theorem d18_0 : decode (mB m18) 0 = .ok (.iload_n 1, 1) := by decide +kernel
theorem d18_1 : decode (mB m18) 1 = .ok (.ifCond .lt 15, 3) := by decide +kernel
theorem d18_4 : decode (mB m18) 4 = .ok (.iload_n 1, 1) := by decide +kernel
theorem d18_5 : decode (mB m18) 5 = .ok (.aload_n 0, 1) := by decide +kernel
theorem d18_6 : decode (mB m18) 6 = .ok (.getfield 67, 3) := by decide +kernel
theorem d18_9 : decode (mB m18) 9 = .ok (.if_icmp .ge 7, 3) := by decide +kernel
theorem d18_12 : decode (mB m18) 12 = .ok (.iconst 1, 1) := by decide +kernel
theorem d18_13 : decode (mB m18) 13 = .ok (.goto 4, 3) := by decide +kernel
theorem d18_16 : decode (mB m18) 16 = .ok (.iconst 0, 1) := by decide +kernel
theorem d18_17 : decode (mB m18) 17 = .ok (.ireturn, 1) := by decide +kernel
theorem d19_0 : decode (mB m19) 0 = .ok (.iload_n 1, 1) := by decide +kernel
theorem d19_1 : decode (mB m19) 1 = .ok (.ifCond .lt 12, 3) := by decide +kernel
theorem d19_4 : decode (mB m19) 4 = .ok (.iload_n 1, 1) := by decide +kernel
theorem d19_5 : decode (mB m19) 5 = .ok (.iconst 3, 1) := by decide +kernel
theorem d19_6 : decode (mB m19) 6 = .ok (.if_icmp .gt 7, 3) := by decide +kernel
theorem d19_9 : decode (mB m19) 9 = .ok (.iconst 1, 1) := by decide +kernel
theorem d19_10 : decode (mB m19) 10 = .ok (.goto 4, 3) := by decide +kernel
theorem d19_13 : decode (mB m19) 13 = .ok (.iconst 0, 1) := by decide +kernel
theorem d19_14 : decode (mB m19) 14 = .ok (.ireturn, 1) := by decide +kernel
theorem d20_0 : decode (mB m20) 0 = .ok (.aload_n 0, 1) := by decide +kernel
theorem d20_1 : decode (mB m20) 1 = .ok (.iload_n 1, 1) := by decide +kernel
theorem d20_2 : decode (mB m20) 2 = .ok (.invokevirtual 123, 3) := by decide +kernel
theorem d20_5 : decode (mB m20) 5 = .ok (.ifCond .eq 28, 3) := by decide +kernel
theorem d20_8 : decode (mB m20) 8 = .ok (.aload_n 0, 1) := by decide +kernel
theorem d20_9 : decode (mB m20) 9 = .ok (.iload_n 2, 1) := by decide +kernel
theorem d20_10 : decode (mB m20) 10 = .ok (.invokevirtual 136, 3) := by decide +kernel
theorem d20_13 : decode (mB m20) 13 = .ok (.ifCond .eq 20, 3) := by decide +kernel
theorem d20_16 : decode (mB m20) 16 = .ok (.aload_n 0, 1) := by decide +kernel
theorem d20_17 : decode (mB m20) 17 = .ok (.iload_n 3, 1) := by decide +kernel
theorem d20_18 : decode (mB m20) 18 = .ok (.invokevirtual 111, 3) := by decide +kernel
theorem d20_21 : decode (mB m20) 21 = .ok (.ifCond .eq 12, 3) := by decide +kernel
theorem d20_24 : decode (mB m20) 24 = .ok (.aload_n 0, 1) := by decide +kernel
theorem d20_25 : decode (mB m20) 25 = .ok (.iload 4, 2) := by decide +kernel
theorem d20_27 : decode (mB m20) 27 = .ok (.invokevirtual 111, 3) := by decide +kernel
theorem d20_30 : decode (mB m20) 30 = .ok (.ifCond .ne 5, 3) := by decide +kernel
theorem d20_33 : decode (mB m20) 33 = .ok (.iconst (-1), 1) := by decide +kernel
theorem d20_34 : decode (mB m20) 34 = .ok (.ireturn, 1) := by decide +kernel
theorem d20_35 : decode (mB m20) 35 = .ok (.iload_n 1, 1) := by decide +kernel
theorem d20_36 : decode (mB m20) 36 = .ok (.iconst 4, 1) := by decide +kernel
theorem d20_37 : decode (mB m20) 37 = .ok (.imul, 1) := by decide +kernel
theorem d20_38 : decode (mB m20) 38 = .ok (.iload_n 2, 1) := by decide +kernel
theorem d20_39 : decode (mB m20) 39 = .ok (.iadd, 1) := by decide +kernel
theorem d20_40 : decode (mB m20) 40 = .ok (.bipush 64, 2) := by decide +kernel
theorem d20_42 : decode (mB m20) 42 = .ok (.imul, 1) := by decide +kernel
theorem d20_43 : decode (mB m20) 43 = .ok (.iload_n 3, 1) := by decide +kernel
theorem d20_44 : decode (mB m20) 44 = .ok (.bipush 8, 2) := by decide +kernel
theorem d20_46 : decode (mB m20) 46 = .ok (.imul, 1) := by decide +kernel
theorem d20_47 : decode (mB m20) 47 = .ok (.iadd, 1) := by decide +kernel
theorem d20_48 : decode (mB m20) 48 = .ok (.iload 4, 2) := by decide +kernel
theorem d20_50 : decode (mB m20) 50 = .ok (.iadd, 1) := by decide +kernel
theorem d20_51 : decode (mB m20) 51 = .ok (.ireturn, 1) := by decide +kernel
theorem d21_0 : decode (mB m21) 0 = .ok (.aload_n 0, 1) := by decide +kernel
theorem d21_1 : decode (mB m21) 1 = .ok (.iload_n 1, 1) := by decide +kernel
theorem d21_2 : decode (mB m21) 2 = .ok (.iload_n 2, 1) := by decide +kernel
theorem d21_3 : decode (mB m21) 3 = .ok (.iload_n 3, 1) := by decide +kernel
theorem d21_4 : decode (mB m21) 4 = .ok (.iload 4, 2) := by decide +kernel
theorem d21_6 : decode (mB m21) 6 = .ok (.invokevirtual 142, 3) := by decide +kernel
theorem d21_9 : decode (mB m21) 9 = .ok (.istore 6, 2) := by decide +kernel
theorem d21_11 : decode (mB m21) 11 = .ok (.iload 6, 2) := by decide +kernel
theorem d21_13 : decode (mB m21) 13 = .ok (.ifCond .lt 15, 3) := by decide +kernel
theorem d21_16 : decode (mB m21) 16 = .ok (.iload 5, 2) := by decide +kernel
theorem d21_18 : decode (mB m21) 18 = .ok (.aload_n 0, 1) := by decide +kernel
theorem d21_19 : decode (mB m21) 19 = .ok (.getfield 42, 3) := by decide +kernel
theorem d21_22 : decode (mB m21) 22 = .ok (.iload 6, 2) := by decide +kernel
theorem d21_24 : decode (mB m21) 24 = .ok (.iaload, 1) := by decide +kernel
theorem d21_25 : decode (mB m21) 25 = .ok (.if_icmp .lt 5, 3) := by decide +kernel
theorem d21_28 : decode (mB m21) 28 = .ok (.iconst 0, 1) := by decide +kernel
theorem d21_29 : decode (mB m21) 29 = .ok (.ireturn, 1) := by decide +kernel
theorem d21_30 : decode (mB m21) 30 = .ok (.aload_n 0, 1) := by decide +kernel
theorem d21_31 : decode (mB m21) 31 = .ok (.getfield 42, 3) := by decide +kernel
theorem d21_34 : decode (mB m21) 34 = .ok (.iload 6, 2) := by decide +kernel
theorem d21_36 : decode (mB m21) 36 = .ok (.iload 5, 2) := by decide +kernel
theorem d21_38 : decode (mB m21) 38 = .ok (.iastore, 1) := by decide +kernel
theorem d21_39 : decode (mB m21) 39 = .ok (.iconst 1, 1) := by decide +kernel
theorem d21_40 : decode (mB m21) 40 = .ok (.ireturn, 1) := by decide +kernel
theorem d22_0 : decode (mB m22) 0 = .ok (.iconst 0, 1) := by decide +kernel
theorem d22_1 : decode (mB m22) 1 = .ok (.istore_n 1, 1) := by decide +kernel
theorem d22_2 : decode (mB m22) 2 = .ok (.iload_n 1, 1) := by decide +kernel
theorem d22_3 : decode (mB m22) 3 = .ok (.aload_n 0, 1) := by decide +kernel
theorem d22_4 : decode (mB m22) 4 = .ok (.getfield 67, 3) := by decide +kernel
theorem d22_7 : decode (mB m22) 7 = .ok (.if_icmp .ge 40, 3) := by decide +kernel
theorem d22_10 : decode (mB m22) 10 = .ok (.iconst 0, 1) := by decide +kernel
theorem d22_11 : decode (mB m22) 11 = .ok (.istore_n 2, 1) := by decide +kernel
theorem d22_12 : decode (mB m22) 12 = .ok (.iload_n 2, 1) := by decide +kernel
theorem d22_13 : decode (mB m22) 13 = .ok (.aload_n 0, 1) := by decide +kernel
theorem d22_14 : decode (mB m22) 14 = .ok (.getfield 55, 3) := by decide +kernel
theorem d22_17 : decode (mB m22) 17 = .ok (.if_icmp .ge 24, 3) := by decide +kernel
theorem d22_20 : decode (mB m22) 20 = .ok (.aload_n 0, 1) := by decide +kernel
theorem d22_21 : decode (mB m22) 21 = .ok (.iload_n 1, 1) := by decide +kernel
theorem d22_22 : decode (mB m22) 22 = .ok (.iconst 0, 1) := by decide +kernel
theorem d22_23 : decode (mB m22) 23 = .ok (.iload_n 2, 1) := by decide +kernel
theorem d22_24 : decode (mB m22) 24 = .ok (.iload_n 2, 1) := by decide +kernel
theorem d22_25 : decode (mB m22) 25 = .ok (.aload_n 0, 1) := by decide +kernel
theorem d22_26 : decode (mB m22) 26 = .ok (.getfield 30, 3) := by decide +kernel
theorem d22_29 : decode (mB m22) 29 = .ok (.iload_n 1, 1) := by decide +kernel
theorem d22_30 : decode (mB m22) 30 = .ok (.iaload, 1) := by decide +kernel
theorem d22_31 : decode (mB m22) 31 = .ok (.invokevirtual 159, 3) := by decide +kernel
theorem d22_34 : decode (mB m22) 34 = .ok (.pop, 1) := by decide +kernel
theorem d22_35 : decode (mB m22) 35 = .ok (.iinc 2 1, 3) := by decide +kernel
theorem d22_38 : decode (mB m22) 38 = .ok (.goto (-26), 3) := by decide +kernel
theorem d22_41 : decode (mB m22) 41 = .ok (.iinc 1 1, 3) := by decide +kernel
theorem d22_44 : decode (mB m22) 44 = .ok (.goto (-42), 3) := by decide +kernel
theorem d22_47 : decode (mB m22) 47 = .ok (.return_, 1) := by decide +kernel
theorem d23_0 : decode (mB m23) 0 = .ok (.iload_n 1, 1) := by decide +kernel
theorem d23_1 : decode (mB m23) 1 = .ok (.ifCond .lt 18, 3) := by decide +kernel
theorem d23_4 : decode (mB m23) 4 = .ok (.iload_n 1, 1) := by decide +kernel
theorem d23_5 : decode (mB m23) 5 = .ok (.bipush 12, 2) := by decide +kernel
theorem d23_7 : decode (mB m23) 7 = .ok (.if_icmp .ge 12, 3) := by decide +kernel
theorem d23_10 : decode (mB m23) 10 = .ok (.iload_n 2, 1) := by decide +kernel
theorem d23_11 : decode (mB m23) 11 = .ok (.ifCond .lt 8, 3) := by decide +kernel
theorem d23_14 : decode (mB m23) 14 = .ok (.iload_n 2, 1) := by decide +kernel
theorem d23_15 : decode (mB m23) 15 = .ok (.iconst 3, 1) := by decide +kernel
theorem d23_16 : decode (mB m23) 16 = .ok (.if_icmp .lt 5, 3) := by decide +kernel
theorem d23_19 : decode (mB m23) 19 = .ok (.iconst 0, 1) := by decide +kernel
theorem d23_20 : decode (mB m23) 20 = .ok (.ireturn, 1) := by decide +kernel
theorem d23_21 : decode (mB m23) 21 = .ok (.aload_n 0, 1) := by decide +kernel
theorem d23_22 : decode (mB m23) 22 = .ok (.getfield 36, 3) := by decide +kernel
theorem d23_25 : decode (mB m23) 25 = .ok (.iload_n 1, 1) := by decide +kernel
theorem d23_26 : decode (mB m23) 26 = .ok (.iconst 3, 1) := by decide +kernel
theorem d23_27 : decode (mB m23) 27 = .ok (.imul, 1) := by decide +kernel
theorem d23_28 : decode (mB m23) 28 = .ok (.iload_n 2, 1) := by decide +kernel
theorem d23_29 : decode (mB m23) 29 = .ok (.iadd, 1) := by decide +kernel
theorem d23_30 : decode (mB m23) 30 = .ok (.iaload, 1) := by decide +kernel
theorem d23_31 : decode (mB m23) 31 = .ok (.ireturn, 1) := by decide +kernel
theorem d24_0 : decode (mB m24) 0 = .ok (.aload_n 0, 1) := by decide +kernel
theorem d24_1 : decode (mB m24) 1 = .ok (.iload_n 1, 1) := by decide +kernel
theorem d24_2 : decode (mB m24) 2 = .ok (.iload_n 2, 1) := by decide +kernel
theorem d24_3 : decode (mB m24) 3 = .ok (.iload_n 3, 1) := by decide +kernel
theorem d24_4 : decode (mB m24) 4 = .ok (.iload 4, 2) := by decide +kernel
theorem d24_6 : decode (mB m24) 6 = .ok (.invokevirtual 142, 3) := by decide +kernel
theorem d24_9 : decode (mB m24) 9 = .ok (.istore 5, 2) := by decide +kernel
theorem d24_11 : decode (mB m24) 11 = .ok (.iload 5, 2) := by decide +kernel
theorem d24_13 : decode (mB m24) 13 = .ok (.ifCond .ge 8, 3) := by decide +kernel
theorem d24_16 : decode (mB m24) 16 = .ok (.aload_n 0, 1) := by decide +kernel
theorem d24_17 : decode (mB m24) 17 = .ok (.getfield 8, 3) := by decide +kernel
theorem d24_20 : decode (mB m24) 20 = .ok (.ireturn, 1) := by decide +kernel
theorem d24_21 : decode (mB m24) 21 = .ok (.aload_n 0, 1) := by decide +kernel
theorem d24_22 : decode (mB m24) 22 = .ok (.getfield 42, 3) := by decide +kernel
theorem d24_25 : decode (mB m24) 25 = .ok (.iload 5, 2) := by decide +kernel
theorem d24_27 : decode (mB m24) 27 = .ok (.iaload, 1) := by decide +kernel
theorem d24_28 : decode (mB m24) 28 = .ok (.ireturn, 1) := by decide +kernel
theorem d25_0 : decode (mB m25) 0 = .ok (.aload_n 0, 1) := by decide +kernel
theorem d25_1 : decode (mB m25) 1 = .ok (.iload_n 1, 1) := by decide +kernel
theorem d25_2 : decode (mB m25) 2 = .ok (.iload_n 2, 1) := by decide +kernel
theorem d25_3 : decode (mB m25) 3 = .ok (.iload_n 3, 1) := by decide +kernel
theorem d25_4 : decode (mB m25) 4 = .ok (.invokevirtual 139, 3) := by decide +kernel
theorem d25_7 : decode (mB m25) 7 = .ok (.istore 4, 2) := by decide +kernel
theorem d25_9 : decode (mB m25) 9 = .ok (.iload 4, 2) := by decide +kernel
theorem d25_11 : decode (mB m25) 11 = .ok (.ifCond .ge 8, 3) := by decide +kernel
theorem d25_14 : decode (mB m25) 14 = .ok (.aload_n 0, 1) := by decide +kernel
theorem d25_15 : decode (mB m25) 15 = .ok (.getfield 8, 3) := by decide +kernel
theorem d25_18 : decode (mB m25) 18 = .ok (.ireturn, 1) := by decide +kernel
theorem d25_19 : decode (mB m25) 19 = .ok (.aload_n 0, 1) := by decide +kernel
theorem d25_20 : decode (mB m25) 20 = .ok (.getfield 39, 3) := by decide +kernel
theorem d25_23 : decode (mB m25) 23 = .ok (.iload 4, 2) := by decide +kernel
theorem d25_25 : decode (mB m25) 25 = .ok (.iaload, 1) := by decide +kernel
theorem d25_26 : decode (mB m25) 26 = .ok (.ireturn, 1) := by decide +kernel
theorem d26_0 : decode (mB m26) 0 = .ok (.iload_n 1, 1) := by decide +kernel
theorem d26_1 : decode (mB m26) 1 = .ok (.aload_n 0, 1) := by decide +kernel
theorem d26_2 : decode (mB m26) 2 = .ok (.getfield 8, 3) := by decide +kernel
theorem d26_5 : decode (mB m26) 5 = .ok (.if_icmp .ge 11, 3) := by decide +kernel
theorem d26_8 : decode (mB m26) 8 = .ok (.iload_n 2, 1) := by decide +kernel
theorem d26_9 : decode (mB m26) 9 = .ok (.aload_n 0, 1) := by decide +kernel
theorem d26_10 : decode (mB m26) 10 = .ok (.getfield 8, 3) := by decide +kernel
theorem d26_13 : decode (mB m26) 13 = .ok (.if_icmp .lt 8, 3) := by decide +kernel
theorem d26_16 : decode (mB m26) 16 = .ok (.aload_n 0, 1) := by decide +kernel
theorem d26_17 : decode (mB m26) 17 = .ok (.getfield 8, 3) := by decide +kernel
theorem d26_20 : decode (mB m26) 20 = .ok (.ireturn, 1) := by decide +kernel
theorem d26_21 : decode (mB m26) 21 = .ok (.iload_n 1, 1) := by decide +kernel
theorem d26_22 : decode (mB m26) 22 = .ok (.iload_n 2, 1) := by decide +kernel
theorem d26_23 : decode (mB m26) 23 = .ok (.iadd, 1) := by decide +kernel
theorem d26_24 : decode (mB m26) 24 = .ok (.istore_n 3, 1) := by decide +kernel
theorem d26_25 : decode (mB m26) 25 = .ok (.iload_n 3, 1) := by decide +kernel
theorem d26_26 : decode (mB m26) 26 = .ok (.aload_n 0, 1) := by decide +kernel
theorem d26_27 : decode (mB m26) 27 = .ok (.getfield 8, 3) := by decide +kernel
theorem d26_30 : decode (mB m26) 30 = .ok (.if_icmp .lt 8, 3) := by decide +kernel
theorem d26_33 : decode (mB m26) 33 = .ok (.aload_n 0, 1) := by decide +kernel
theorem d26_34 : decode (mB m26) 34 = .ok (.getfield 8, 3) := by decide +kernel
theorem d26_37 : decode (mB m26) 37 = .ok (.ireturn, 1) := by decide +kernel
theorem d26_38 : decode (mB m26) 38 = .ok (.iload_n 3, 1) := by decide +kernel
theorem d26_39 : decode (mB m26) 39 = .ok (.ireturn, 1) := by decide +kernel
theorem d27_0 : decode (mB m27) 0 = .ok (.aload_n 0, 1) := by decide +kernel
theorem d27_1 : decode (mB m27) 1 = .ok (.iload_n 1, 1) := by decide +kernel
theorem d27_2 : decode (mB m27) 2 = .ok (.iload_n 2, 1) := by decide +kernel
theorem d27_3 : decode (mB m27) 3 = .ok (.invokevirtual 84, 3) := by decide +kernel
theorem d27_6 : decode (mB m27) 6 = .ok (.istore 5, 2) := by decide +kernel
theorem d27_8 : decode (mB m27) 8 = .ok (.aload_n 0, 1) := by decide +kernel
theorem d27_9 : decode (mB m27) 9 = .ok (.getfield 8, 3) := by decide +kernel
theorem d27_12 : decode (mB m27) 12 = .ok (.istore 6, 2) := by decide +kernel
theorem d27_14 : decode (mB m27) 14 = .ok (.iload_n 3, 1) := by decide +kernel
theorem d27_15 : decode (mB m27) 15 = .ok (.istore 7, 2) := by decide +kernel
theorem d27_17 : decode (mB m27) 17 = .ok (.iload 7, 2) := by decide +kernel
theorem d27_19 : decode (mB m27) 19 = .ok (.iload 4, 2) := by decide +kernel
theorem d27_21 : decode (mB m27) 21 = .ok (.if_icmp .gt 53, 3) := by decide +kernel
theorem d27_24 : decode (mB m27) 24 = .ok (.aload_n 0, 1) := by decide +kernel
theorem d27_25 : decode (mB m27) 25 = .ok (.iload_n 1, 1) := by decide +kernel
theorem d27_26 : decode (mB m27) 26 = .ok (.iload_n 2, 1) := by decide +kernel
theorem d27_27 : decode (mB m27) 27 = .ok (.iload_n 3, 1) := by decide +kernel
theorem d27_28 : decode (mB m27) 28 = .ok (.iload 7, 2) := by decide +kernel
theorem d27_30 : decode (mB m27) 30 = .ok (.invokevirtual 176, 3) := by decide +kernel
theorem d27_33 : decode (mB m27) 33 = .ok (.istore 8, 2) := by decide +kernel
theorem d27_35 : decode (mB m27) 35 = .ok (.aload_n 0, 1) := by decide +kernel
theorem d27_36 : decode (mB m27) 36 = .ok (.iload 5, 2) := by decide +kernel
theorem d27_38 : decode (mB m27) 38 = .ok (.iload 7, 2) := by decide +kernel
theorem d27_40 : decode (mB m27) 40 = .ok (.iload 4, 2) := by decide +kernel
theorem d27_42 : decode (mB m27) 42 = .ok (.invokevirtual 91, 3) := by decide +kernel
theorem d27_45 : decode (mB m27) 45 = .ok (.istore 9, 2) := by decide +kernel
theorem d27_47 : decode (mB m27) 47 = .ok (.aload_n 0, 1) := by decide +kernel
theorem d27_48 : decode (mB m27) 48 = .ok (.iload 8, 2) := by decide +kernel
theorem d27_50 : decode (mB m27) 50 = .ok (.iload 9, 2) := by decide +kernel
theorem d27_52 : decode (mB m27) 52 = .ok (.invokevirtual 120, 3) := by decide +kernel
theorem d27_55 : decode (mB m27) 55 = .ok (.istore 10, 2) := by decide +kernel
theorem d27_57 : decode (mB m27) 57 = .ok (.iload 10, 2) := by decide +kernel
theorem d27_59 : decode (mB m27) 59 = .ok (.iload 6, 2) := by decide +kernel
theorem d27_61 : decode (mB m27) 61 = .ok (.if_icmp .ge 7, 3) := by decide +kernel
theorem d27_64 : decode (mB m27) 64 = .ok (.iload 10, 2) := by decide +kernel
theorem d27_66 : decode (mB m27) 66 = .ok (.istore 6, 2) := by decide +kernel
theorem d27_68 : decode (mB m27) 68 = .ok (.iinc 7 1, 3) := by decide +kernel
theorem d27_71 : decode (mB m27) 71 = .ok (.goto (-54), 3) := by decide +kernel
theorem d27_74 : decode (mB m27) 74 = .ok (.iload 6, 2) := by decide +kernel
theorem d27_76 : decode (mB m27) 76 = .ok (.ireturn, 1) := by decide +kernel
theorem d28_0 : decode (mB m28) 0 = .ok (.iconst 0, 1) := by decide +kernel
theorem d28_1 : decode (mB m28) 1 = .ok (.istore 4, 2) := by decide +kernel
theorem d28_3 : decode (mB m28) 3 = .ok (.aload_n 0, 1) := by decide +kernel
theorem d28_4 : decode (mB m28) 4 = .ok (.getfield 33, 3) := by decide +kernel
theorem d28_7 : decode (mB m28) 7 = .ok (.iload_n 1, 1) := by decide +kernel
theorem d28_8 : decode (mB m28) 8 = .ok (.iaload, 1) := by decide +kernel
theorem d28_9 : decode (mB m28) 9 = .ok (.istore 5, 2) := by decide +kernel
theorem d28_11 : decode (mB m28) 11 = .ok (.iconst 0, 1) := by decide +kernel
theorem d28_12 : decode (mB m28) 12 = .ok (.istore 6, 2) := by decide +kernel
theorem d28_14 : decode (mB m28) 14 = .ok (.iload 6, 2) := by decide +kernel
theorem d28_16 : decode (mB m28) 16 = .ok (.iload 5, 2) := by decide +kernel
theorem d28_18 : decode (mB m28) 18 = .ok (.if_icmp .ge 39, 3) := by decide +kernel
theorem d28_21 : decode (mB m28) 21 = .ok (.aload_n 0, 1) := by decide +kernel
theorem d28_22 : decode (mB m28) 22 = .ok (.iload_n 1, 1) := by decide +kernel
theorem d28_23 : decode (mB m28) 23 = .ok (.iload 6, 2) := by decide +kernel
theorem d28_25 : decode (mB m28) 25 = .ok (.iload_n 2, 1) := by decide +kernel
theorem d28_26 : decode (mB m28) 26 = .ok (.iload_n 3, 1) := by decide +kernel
theorem d28_27 : decode (mB m28) 27 = .ok (.invokevirtual 173, 3) := by decide +kernel
theorem d28_30 : decode (mB m28) 30 = .ok (.istore 7, 2) := by decide +kernel
theorem d28_32 : decode (mB m28) 32 = .ok (.aload_n 0, 1) := by decide +kernel
theorem d28_33 : decode (mB m28) 33 = .ok (.iload_n 1, 1) := by decide +kernel
theorem d28_34 : decode (mB m28) 34 = .ok (.iload 6, 2) := by decide +kernel
theorem d28_36 : decode (mB m28) 36 = .ok (.iconst 1, 1) := by decide +kernel
theorem d28_37 : decode (mB m28) 37 = .ok (.iadd, 1) := by decide +kernel
theorem d28_38 : decode (mB m28) 38 = .ok (.iload_n 2, 1) := by decide +kernel
theorem d28_39 : decode (mB m28) 39 = .ok (.iload_n 3, 1) := by decide +kernel
theorem d28_40 : decode (mB m28) 40 = .ok (.iload 7, 2) := by decide +kernel
theorem d28_42 : decode (mB m28) 42 = .ok (.invokevirtual 159, 3) := by decide +kernel
theorem d28_45 : decode (mB m28) 45 = .ok (.ifCond .eq 6, 3) := by decide +kernel
theorem d28_48 : decode (mB m28) 48 = .ok (.iconst 1, 1) := by decide +kernel
theorem d28_49 : decode (mB m28) 49 = .ok (.istore 4, 2) := by decide +kernel
theorem d28_51 : decode (mB m28) 51 = .ok (.iinc 6 1, 3) := by decide +kernel
theorem d28_54 : decode (mB m28) 54 = .ok (.goto (-40), 3) := by decide +kernel
theorem d28_57 : decode (mB m28) 57 = .ok (.iload 4, 2) := by decide +kernel
theorem d28_59 : decode (mB m28) 59 = .ok (.ireturn, 1) := by decide +kernel
theorem d29_0 : decode (mB m29) 0 = .ok (.iload_n 1, 1) := by decide +kernel
theorem d29_1 : decode (mB m29) 1 = .ok (.ifCond .lt 9, 3) := by decide +kernel
theorem d29_4 : decode (mB m29) 4 = .ok (.iload_n 1, 1) := by decide +kernel
theorem d29_5 : decode (mB m29) 5 = .ok (.bipush 12, 2) := by decide +kernel
theorem d29_7 : decode (mB m29) 7 = .ok (.if_icmp .lt 6, 3) := by decide +kernel
theorem d29_10 : decode (mB m29) 10 = .ok (.bipush 8, 2) := by decide +kernel
theorem d29_12 : decode (mB m29) 12 = .ok (.ireturn, 1) := by decide +kernel
theorem d29_13 : decode (mB m29) 13 = .ok (.bipush 8, 2) := by decide +kernel
theorem d29_15 : decode (mB m29) 15 = .ok (.aload_n 0, 1) := by decide +kernel
theorem d29_16 : decode (mB m29) 16 = .ok (.getfield 27, 3) := by decide +kernel
theorem d29_19 : decode (mB m29) 19 = .ok (.iload_n 1, 1) := by decide +kernel
theorem d29_20 : decode (mB m29) 20 = .ok (.iaload, 1) := by decide +kernel
theorem d29_21 : decode (mB m29) 21 = .ok (.iadd, 1) := by decide +kernel
theorem d29_22 : decode (mB m29) 22 = .ok (.ireturn, 1) := by decide +kernel
theorem d30_0 : decode (mB m30) 0 = .ok (.aload_n 0, 1) := by decide +kernel
theorem d30_1 : decode (mB m30) 1 = .ok (.iload_n 1, 1) := by decide +kernel
theorem d30_2 : decode (mB m30) 2 = .ok (.aload_n 0, 1) := by decide +kernel
theorem d30_3 : decode (mB m30) 3 = .ok (.getfield 33, 3) := by decide +kernel
theorem d30_6 : decode (mB m30) 6 = .ok (.iload_n 1, 1) := by decide +kernel
theorem d30_7 : decode (mB m30) 7 = .ok (.iaload, 1) := by decide +kernel
theorem d30_8 : decode (mB m30) 8 = .ok (.iload_n 2, 1) := by decide +kernel
theorem d30_9 : decode (mB m30) 9 = .ok (.iload_n 3, 1) := by decide +kernel
theorem d30_10 : decode (mB m30) 10 = .ok (.invokevirtual 176, 3) := by decide +kernel
theorem d30_13 : decode (mB m30) 13 = .ok (.istore 4, 2) := by decide +kernel
theorem d30_15 : decode (mB m30) 15 = .ok (.aload_n 0, 1) := by decide +kernel
theorem d30_16 : decode (mB m30) 16 = .ok (.iload_n 1, 1) := by decide +kernel
theorem d30_17 : decode (mB m30) 17 = .ok (.invokevirtual 179, 3) := by decide +kernel
theorem d30_20 : decode (mB m30) 20 = .ok (.istore 5, 2) := by decide +kernel
theorem d30_22 : decode (mB m30) 22 = .ok (.aload_n 0, 1) := by decide +kernel
theorem d30_23 : decode (mB m30) 23 = .ok (.iload 5, 2) := by decide +kernel
theorem d30_25 : decode (mB m30) 25 = .ok (.iload_n 2, 1) := by decide +kernel
theorem d30_26 : decode (mB m30) 26 = .ok (.iload_n 3, 1) := by decide +kernel
theorem d30_27 : decode (mB m30) 27 = .ok (.iload 4, 2) := by decide +kernel
theorem d30_29 : decode (mB m30) 29 = .ok (.invokevirtual 156, 3) := by decide +kernel
theorem d30_32 : decode (mB m30) 32 = .ok (.ireturn, 1) := by decide +kernel
theorem d31_0 : decode (mB m31) 0 = .ok (.iconst 0, 1) := by decide +kernel
theorem d31_1 : decode (mB m31) 1 = .ok (.istore_n 3, 1) := by decide +kernel
theorem d31_2 : decode (mB m31) 2 = .ok (.iconst 0, 1) := by decide +kernel
theorem d31_3 : decode (mB m31) 3 = .ok (.istore 4, 2) := by decide +kernel
theorem d31_5 : decode (mB m31) 5 = .ok (.iload 4, 2) := by decide +kernel
theorem d31_7 : decode (mB m31) 7 = .ok (.aload_n 0, 1) := by decide +kernel
theorem d31_8 : decode (mB m31) 8 = .ok (.getfield 67, 3) := by decide +kernel
theorem d31_11 : decode (mB m31) 11 = .ok (.if_icmp .ge 35, 3) := by decide +kernel
theorem d31_14 : decode (mB m31) 14 = .ok (.aload_n 0, 1) := by decide +kernel
theorem d31_15 : decode (mB m31) 15 = .ok (.iload 4, 2) := by decide +kernel
theorem d31_17 : decode (mB m31) 17 = .ok (.iload_n 1, 1) := by decide +kernel
theorem d31_18 : decode (mB m31) 18 = .ok (.iload_n 2, 1) := by decide +kernel
theorem d31_19 : decode (mB m31) 19 = .ok (.invokevirtual 167, 3) := by decide +kernel
theorem d31_22 : decode (mB m31) 22 = .ok (.ifCond .eq 5, 3) := by decide +kernel
theorem d31_25 : decode (mB m31) 25 = .ok (.iconst 1, 1) := by decide +kernel
theorem d31_26 : decode (mB m31) 26 = .ok (.istore_n 3, 1) := by decide +kernel
theorem d31_27 : decode (mB m31) 27 = .ok (.aload_n 0, 1) := by decide +kernel
theorem d31_28 : decode (mB m31) 28 = .ok (.iload 4, 2) := by decide +kernel
theorem d31_30 : decode (mB m31) 30 = .ok (.iload_n 1, 1) := by decide +kernel
theorem d31_31 : decode (mB m31) 31 = .ok (.iload_n 2, 1) := by decide +kernel
theorem d31_32 : decode (mB m31) 32 = .ok (.invokevirtual 170, 3) := by decide +kernel
theorem d31_35 : decode (mB m31) 35 = .ok (.ifCond .eq 5, 3) := by decide +kernel
theorem d31_38 : decode (mB m31) 38 = .ok (.iconst 1, 1) := by decide +kernel
theorem d31_39 : decode (mB m31) 39 = .ok (.istore_n 3, 1) := by decide +kernel
theorem d31_40 : decode (mB m31) 40 = .ok (.iinc 4 1, 3) := by decide +kernel
theorem d31_43 : decode (mB m31) 43 = .ok (.goto (-38), 3) := by decide +kernel
theorem d31_46 : decode (mB m31) 46 = .ok (.iload_n 3, 1) := by decide +kernel
theorem d31_47 : decode (mB m31) 47 = .ok (.ireturn, 1) := by decide +kernel
theorem d32_0 : decode (mB m32) 0 = .ok (.iconst 1, 1) := by decide +kernel
theorem d32_1 : decode (mB m32) 1 = .ok (.istore_n 3, 1) := by decide +kernel
theorem d32_2 : decode (mB m32) 2 = .ok (.iconst 0, 1) := by decide +kernel
theorem d32_3 : decode (mB m32) 3 = .ok (.istore 4, 2) := by decide +kernel
theorem d32_5 : decode (mB m32) 5 = .ok (.iload_n 3, 1) := by decide +kernel
theorem d32_6 : decode (mB m32) 6 = .ok (.ifCond .eq 23, 3) := by decide +kernel
theorem d32_9 : decode (mB m32) 9 = .ok (.iload 4, 2) := by decide +kernel
theorem d32_11 : decode (mB m32) 11 = .ok (.bipush 24, 2) := by decide +kernel
theorem d32_13 : decode (mB m32) 13 = .ok (.if_icmp .ge 16, 3) := by decide +kernel
theorem d32_16 : decode (mB m32) 16 = .ok (.aload_n 0, 1) := by decide +kernel
theorem d32_17 : decode (mB m32) 17 = .ok (.iload_n 1, 1) := by decide +kernel
theorem d32_18 : decode (mB m32) 18 = .ok (.iload_n 2, 1) := by decide +kernel
theorem d32_19 : decode (mB m32) 19 = .ok (.invokevirtual 163, 3) := by decide +kernel
theorem d32_22 : decode (mB m32) 22 = .ok (.istore_n 3, 1) := by decide +kernel
theorem d32_23 : decode (mB m32) 23 = .ok (.iinc 4 1, 3) := by decide +kernel
theorem d32_26 : decode (mB m32) 26 = .ok (.goto (-21), 3) := by decide +kernel
theorem d32_29 : decode (mB m32) 29 = .ok (.return_, 1) := by decide +kernel
theorem d33_0 : decode (mB m33) 0 = .ok (.aload_n 0, 1) := by decide +kernel
theorem d33_1 : decode (mB m33) 1 = .ok (.invokevirtual 146, 3) := by decide +kernel
theorem d33_4 : decode (mB m33) 4 = .ok (.aload_n 0, 1) := by decide +kernel
theorem d33_5 : decode (mB m33) 5 = .ok (.invokevirtual 149, 3) := by decide +kernel
theorem d33_8 : decode (mB m33) 8 = .ok (.iconst 0, 1) := by decide +kernel
theorem d33_9 : decode (mB m33) 9 = .ok (.istore_n 1, 1) := by decide +kernel
theorem d33_10 : decode (mB m33) 10 = .ok (.iload_n 1, 1) := by decide +kernel
theorem d33_11 : decode (mB m33) 11 = .ok (.aload_n 0, 1) := by decide +kernel
theorem d33_12 : decode (mB m33) 12 = .ok (.getfield 55, 3) := by decide +kernel
theorem d33_15 : decode (mB m33) 15 = .ok (.if_icmp .ge 27, 3) := by decide +kernel
theorem d33_18 : decode (mB m33) 18 = .ok (.iload_n 1, 1) := by decide +kernel
theorem d33_19 : decode (mB m33) 19 = .ok (.istore_n 2, 1) := by decide +kernel
theorem d33_20 : decode (mB m33) 20 = .ok (.iload_n 2, 1) := by decide +kernel
theorem d33_21 : decode (mB m33) 21 = .ok (.ifCond .lt 15, 3) := by decide +kernel
theorem d33_24 : decode (mB m33) 24 = .ok (.aload_n 0, 1) := by decide +kernel
theorem d33_25 : decode (mB m33) 25 = .ok (.iload_n 2, 1) := by decide +kernel
theorem d33_26 : decode (mB m33) 26 = .ok (.iload_n 1, 1) := by decide +kernel
theorem d33_27 : decode (mB m33) 27 = .ok (.invokevirtual 152, 3) := by decide +kernel
theorem d33_30 : decode (mB m33) 30 = .ok (.iinc 2 (-1), 3) := by decide +kernel
theorem d33_33 : decode (mB m33) 33 = .ok (.goto (-13), 3) := by decide +kernel
theorem d33_36 : decode (mB m33) 36 = .ok (.iinc 1 1, 3) := by decide +kernel
theorem d33_39 : decode (mB m33) 39 = .ok (.goto (-29), 3) := by decide +kernel
theorem d33_42 : decode (mB m33) 42 = .ok (.return_, 1) := by decide +kernel
theorem d34_0 : decode (mB m34) 0 = .ok (.aload_n 0, 1) := by decide +kernel
theorem d34_1 : decode (mB m34) 1 = .ok (.iload_n 1, 1) := by decide +kernel
theorem d34_2 : decode (mB m34) 2 = .ok (.iload_n 2, 1) := by decide +kernel
theorem d34_3 : decode (mB m34) 3 = .ok (.iload_n 3, 1) := by decide +kernel
theorem d34_4 : decode (mB m34) 4 = .ok (.iload 4, 2) := by decide +kernel
theorem d34_6 : decode (mB m34) 6 = .ok (.invokevirtual 142, 3) := by decide +kernel
theorem d34_9 : decode (mB m34) 9 = .ok (.istore 6, 2) := by decide +kernel
theorem d34_11 : decode (mB m34) 11 = .ok (.iload 6, 2) := by decide +kernel
theorem d34_13 : decode (mB m34) 13 = .ok (.ifCond .lt 15, 3) := by decide +kernel
theorem d34_16 : decode (mB m34) 16 = .ok (.iload 5, 2) := by decide +kernel
theorem d34_18 : decode (mB m34) 18 = .ok (.aload_n 0, 1) := by decide +kernel
theorem d34_19 : decode (mB m34) 19 = .ok (.getfield 45, 3) := by decide +kernel
theorem d34_22 : decode (mB m34) 22 = .ok (.iload 6, 2) := by decide +kernel
theorem d34_24 : decode (mB m34) 24 = .ok (.iaload, 1) := by decide +kernel
theorem d34_25 : decode (mB m34) 25 = .ok (.if_icmp .lt 5, 3) := by decide +kernel
theorem d34_28 : decode (mB m34) 28 = .ok (.iconst 0, 1) := by decide +kernel
theorem d34_29 : decode (mB m34) 29 = .ok (.ireturn, 1) := by decide +kernel
theorem d34_30 : decode (mB m34) 30 = .ok (.aload_n 0, 1) := by decide +kernel
theorem d34_31 : decode (mB m34) 31 = .ok (.getfield 45, 3) := by decide +kernel
theorem d34_34 : decode (mB m34) 34 = .ok (.iload 6, 2) := by decide +kernel
theorem d34_36 : decode (mB m34) 36 = .ok (.iload 5, 2) := by decide +kernel
theorem d34_38 : decode (mB m34) 38 = .ok (.iastore, 1) := by decide +kernel
theorem d34_39 : decode (mB m34) 39 = .ok (.iconst 1, 1) := by decide +kernel
theorem d34_40 : decode (mB m34) 40 = .ok (.ireturn, 1) := by decide +kernel
theorem d35_0 : decode (mB m35) 0 = .ok (.aload_n 0, 1) := by decide +kernel
theorem d35_1 : decode (mB m35) 1 = .ok (.getfield 33, 3) := by decide +kernel
theorem d35_4 : decode (mB m35) 4 = .ok (.iload_n 1, 1) := by decide +kernel
theorem d35_5 : decode (mB m35) 5 = .ok (.iaload, 1) := by decide +kernel
theorem d35_6 : decode (mB m35) 6 = .ok (.istore_n 2, 1) := by decide +kernel
theorem d35_7 : decode (mB m35) 7 = .ok (.iconst 0, 1) := by decide +kernel
theorem d35_8 : decode (mB m35) 8 = .ok (.istore_n 3, 1) := by decide +kernel
theorem d35_9 : decode (mB m35) 9 = .ok (.iload_n 3, 1) := by decide +kernel
theorem d35_10 : decode (mB m35) 10 = .ok (.aload_n 0, 1) := by decide +kernel
theorem d35_11 : decode (mB m35) 11 = .ok (.getfield 55, 3) := by decide +kernel
theorem d35_14 : decode (mB m35) 14 = .ok (.if_icmp .ge 19, 3) := by decide +kernel
theorem d35_17 : decode (mB m35) 17 = .ok (.aload_n 0, 1) := by decide +kernel
theorem d35_18 : decode (mB m35) 18 = .ok (.iload_n 1, 1) := by decide +kernel
theorem d35_19 : decode (mB m35) 19 = .ok (.iload_n 2, 1) := by decide +kernel
theorem d35_20 : decode (mB m35) 20 = .ok (.iload_n 3, 1) := by decide +kernel
theorem d35_21 : decode (mB m35) 21 = .ok (.iload_n 3, 1) := by decide +kernel
theorem d35_22 : decode (mB m35) 22 = .ok (.iconst 0, 1) := by decide +kernel
theorem d35_23 : decode (mB m35) 23 = .ok (.invokevirtual 189, 3) := by decide +kernel
theorem d35_26 : decode (mB m35) 26 = .ok (.pop, 1) := by decide +kernel
theorem d35_27 : decode (mB m35) 27 = .ok (.iinc 3 1, 3) := by decide +kernel
theorem d35_30 : decode (mB m35) 30 = .ok (.goto (-21), 3) := by decide +kernel
theorem d35_33 : decode (mB m35) 33 = .ok (.return_, 1) := by decide +kernel
theorem d36_0 : decode (mB m36) 0 = .ok (.aload_n 0, 1) := by decide +kernel
theorem d36_1 : decode (mB m36) 1 = .ok (.iload_n 1, 1) := by decide +kernel
theorem d36_2 : decode (mB m36) 2 = .ok (.iload_n 2, 1) := by decide +kernel
theorem d36_3 : decode (mB m36) 3 = .ok (.iload_n 3, 1) := by decide +kernel
theorem d36_4 : decode (mB m36) 4 = .ok (.iload 4, 2) := by decide +kernel
theorem d36_6 : decode (mB m36) 6 = .ok (.invokevirtual 142, 3) := by decide +kernel
theorem d36_9 : decode (mB m36) 9 = .ok (.istore 5, 2) := by decide +kernel
theorem d36_11 : decode (mB m36) 11 = .ok (.iload 5, 2) := by decide +kernel
theorem d36_13 : decode (mB m36) 13 = .ok (.ifCond .ge 8, 3) := by decide +kernel
theorem d36_16 : decode (mB m36) 16 = .ok (.aload_n 0, 1) := by decide +kernel
theorem d36_17 : decode (mB m36) 17 = .ok (.getfield 8, 3) := by decide +kernel
theorem d36_20 : decode (mB m36) 20 = .ok (.ireturn, 1) := by decide +kernel
theorem d36_21 : decode (mB m36) 21 = .ok (.aload_n 0, 1) := by decide +kernel
theorem d36_22 : decode (mB m36) 22 = .ok (.getfield 45, 3) := by decide +kernel
theorem d36_25 : decode (mB m36) 25 = .ok (.iload 5, 2) := by decide +kernel
theorem d36_27 : decode (mB m36) 27 = .ok (.iaload, 1) := by decide +kernel
theorem d36_28 : decode (mB m36) 28 = .ok (.ireturn, 1) := by decide +kernel
theorem d37_0 : decode (mB m37) 0 = .ok (.aload_n 0, 1) := by decide +kernel
theorem d37_1 : decode (mB m37) 1 = .ok (.iload_n 1, 1) := by decide +kernel
theorem d37_2 : decode (mB m37) 2 = .ok (.iload_n 2, 1) := by decide +kernel
theorem d37_3 : decode (mB m37) 3 = .ok (.invokevirtual 84, 3) := by decide +kernel
theorem d37_6 : decode (mB m37) 6 = .ok (.istore 5, 2) := by decide +kernel
theorem d37_8 : decode (mB m37) 8 = .ok (.aload_n 0, 1) := by decide +kernel
theorem d37_9 : decode (mB m37) 9 = .ok (.getfield 8, 3) := by decide +kernel
theorem d37_12 : decode (mB m37) 12 = .ok (.istore 6, 2) := by decide +kernel
theorem d37_14 : decode (mB m37) 14 = .ok (.iload_n 3, 1) := by decide +kernel
theorem d37_15 : decode (mB m37) 15 = .ok (.istore 7, 2) := by decide +kernel
theorem d37_17 : decode (mB m37) 17 = .ok (.iload 7, 2) := by decide +kernel
theorem d37_19 : decode (mB m37) 19 = .ok (.iload 4, 2) := by decide +kernel
theorem d37_21 : decode (mB m37) 21 = .ok (.if_icmp .gt 55, 3) := by decide +kernel
theorem d37_24 : decode (mB m37) 24 = .ok (.aload_n 0, 1) := by decide +kernel
theorem d37_25 : decode (mB m37) 25 = .ok (.iload 5, 2) := by decide +kernel
theorem d37_27 : decode (mB m37) 27 = .ok (.iload_n 3, 1) := by decide +kernel
theorem d37_28 : decode (mB m37) 28 = .ok (.iload 7, 2) := by decide +kernel
theorem d37_30 : decode (mB m37) 30 = .ok (.invokevirtual 91, 3) := by decide +kernel
theorem d37_33 : decode (mB m37) 33 = .ok (.istore 8, 2) := by decide +kernel
theorem d37_35 : decode (mB m37) 35 = .ok (.aload_n 0, 1) := by decide +kernel
theorem d37_36 : decode (mB m37) 36 = .ok (.iload_n 1, 1) := by decide +kernel
theorem d37_37 : decode (mB m37) 37 = .ok (.iload_n 2, 1) := by decide +kernel
theorem d37_38 : decode (mB m37) 38 = .ok (.iconst 1, 1) := by decide +kernel
theorem d37_39 : decode (mB m37) 39 = .ok (.iadd, 1) := by decide +kernel
theorem d37_40 : decode (mB m37) 40 = .ok (.iload 7, 2) := by decide +kernel
theorem d37_42 : decode (mB m37) 42 = .ok (.iload 4, 2) := by decide +kernel
theorem d37_44 : decode (mB m37) 44 = .ok (.invokevirtual 195, 3) := by decide +kernel
theorem d37_47 : decode (mB m37) 47 = .ok (.istore 9, 2) := by decide +kernel
theorem d37_49 : decode (mB m37) 49 = .ok (.aload_n 0, 1) := by decide +kernel
theorem d37_50 : decode (mB m37) 50 = .ok (.iload 8, 2) := by decide +kernel
theorem d37_52 : decode (mB m37) 52 = .ok (.iload 9, 2) := by decide +kernel
theorem d37_54 : decode (mB m37) 54 = .ok (.invokevirtual 120, 3) := by decide +kernel
theorem d37_57 : decode (mB m37) 57 = .ok (.istore 10, 2) := by decide +kernel
theorem d37_59 : decode (mB m37) 59 = .ok (.iload 10, 2) := by decide +kernel
theorem d37_61 : decode (mB m37) 61 = .ok (.iload 6, 2) := by decide +kernel
theorem d37_63 : decode (mB m37) 63 = .ok (.if_icmp .ge 7, 3) := by decide +kernel
theorem d37_66 : decode (mB m37) 66 = .ok (.iload 10, 2) := by decide +kernel
theorem d37_68 : decode (mB m37) 68 = .ok (.istore 6, 2) := by decide +kernel
theorem d37_70 : decode (mB m37) 70 = .ok (.iinc 7 1, 3) := by decide +kernel
theorem d37_73 : decode (mB m37) 73 = .ok (.goto (-56), 3) := by decide +kernel
theorem d37_76 : decode (mB m37) 76 = .ok (.iload 6, 2) := by decide +kernel
theorem d37_78 : decode (mB m37) 78 = .ok (.ireturn, 1) := by decide +kernel
theorem d38_0 : decode (mB m38) 0 = .ok (.iconst 0, 1) := by decide +kernel
theorem d38_1 : decode (mB m38) 1 = .ok (.istore_n 3, 1) := by decide +kernel
theorem d38_2 : decode (mB m38) 2 = .ok (.iload_n 3, 1) := by decide +kernel
theorem d38_3 : decode (mB m38) 3 = .ok (.aload_n 0, 1) := by decide +kernel
theorem d38_4 : decode (mB m38) 4 = .ok (.getfield 55, 3) := by decide +kernel
theorem d38_7 : decode (mB m38) 7 = .ok (.if_icmp .ge 50, 3) := by decide +kernel
theorem d38_10 : decode (mB m38) 10 = .ok (.iload_n 3, 1) := by decide +kernel
theorem d38_11 : decode (mB m38) 11 = .ok (.istore 4, 2) := by decide +kernel
theorem d38_13 : decode (mB m38) 13 = .ok (.iload 4, 2) := by decide +kernel
theorem d38_15 : decode (mB m38) 15 = .ok (.aload_n 0, 1) := by decide +kernel
theorem d38_16 : decode (mB m38) 16 = .ok (.getfield 55, 3) := by decide +kernel
theorem d38_19 : decode (mB m38) 19 = .ok (.if_icmp .ge 32, 3) := by decide +kernel
theorem d38_22 : decode (mB m38) 22 = .ok (.aload_n 0, 1) := by decide +kernel
theorem d38_23 : decode (mB m38) 23 = .ok (.iload_n 1, 1) := by decide +kernel
theorem d38_24 : decode (mB m38) 24 = .ok (.iload_n 2, 1) := by decide +kernel
theorem d38_25 : decode (mB m38) 25 = .ok (.iload_n 3, 1) := by decide +kernel
theorem d38_26 : decode (mB m38) 26 = .ok (.iload 4, 2) := by decide +kernel
theorem d38_28 : decode (mB m38) 28 = .ok (.invokevirtual 192, 3) := by decide +kernel
theorem d38_31 : decode (mB m38) 31 = .ok (.istore 5, 2) := by decide +kernel
theorem d38_33 : decode (mB m38) 33 = .ok (.aload_n 0, 1) := by decide +kernel
theorem d38_34 : decode (mB m38) 34 = .ok (.iload_n 1, 1) := by decide +kernel
theorem d38_35 : decode (mB m38) 35 = .ok (.iload_n 2, 1) := by decide +kernel
theorem d38_36 : decode (mB m38) 36 = .ok (.iload_n 3, 1) := by decide +kernel
theorem d38_37 : decode (mB m38) 37 = .ok (.iload 4, 2) := by decide +kernel
theorem d38_39 : decode (mB m38) 39 = .ok (.iload 5, 2) := by decide +kernel
theorem d38_41 : decode (mB m38) 41 = .ok (.invokevirtual 189, 3) := by decide +kernel
theorem d38_44 : decode (mB m38) 44 = .ok (.pop, 1) := by decide +kernel
theorem d38_45 : decode (mB m38) 45 = .ok (.iinc 4 1, 3) := by decide +kernel
theorem d38_48 : decode (mB m38) 48 = .ok (.goto (-35), 3) := by decide +kernel
theorem d38_51 : decode (mB m38) 51 = .ok (.iinc 3 1, 3) := by decide +kernel
theorem d38_54 : decode (mB m38) 54 = .ok (.goto (-52), 3) := by decide +kernel
theorem d38_57 : decode (mB m38) 57 = .ok (.return_, 1) := by decide +kernel
theorem d39_0 : decode (mB m39) 0 = .ok (.iconst 0, 1) := by decide +kernel
theorem d39_1 : decode (mB m39) 1 = .ok (.istore_n 1, 1) := by decide +kernel
theorem d39_2 : decode (mB m39) 2 = .ok (.iload_n 1, 1) := by decide +kernel
theorem d39_3 : decode (mB m39) 3 = .ok (.aload_n 0, 1) := by decide +kernel
theorem d39_4 : decode (mB m39) 4 = .ok (.getfield 67, 3) := by decide +kernel
theorem d39_7 : decode (mB m39) 7 = .ok (.if_icmp .ge 41, 3) := by decide +kernel
theorem d39_10 : decode (mB m39) 10 = .ok (.aload_n 0, 1) := by decide +kernel
theorem d39_11 : decode (mB m39) 11 = .ok (.iload_n 1, 1) := by decide +kernel
theorem d39_12 : decode (mB m39) 12 = .ok (.invokevirtual 182, 3) := by decide +kernel
theorem d39_15 : decode (mB m39) 15 = .ok (.aload_n 0, 1) := by decide +kernel
theorem d39_16 : decode (mB m39) 16 = .ok (.getfield 33, 3) := by decide +kernel
theorem d39_19 : decode (mB m39) 19 = .ok (.iload_n 1, 1) := by decide +kernel
theorem d39_20 : decode (mB m39) 20 = .ok (.iaload, 1) := by decide +kernel
theorem d39_21 : decode (mB m39) 21 = .ok (.istore_n 2, 1) := by decide +kernel
theorem d39_22 : decode (mB m39) 22 = .ok (.iload_n 2, 1) := by decide +kernel
theorem d39_23 : decode (mB m39) 23 = .ok (.iconst 1, 1) := by decide +kernel
theorem d39_24 : decode (mB m39) 24 = .ok (.isub, 1) := by decide +kernel
theorem d39_25 : decode (mB m39) 25 = .ok (.istore_n 3, 1) := by decide +kernel
theorem d39_26 : decode (mB m39) 26 = .ok (.iload_n 3, 1) := by decide +kernel
theorem d39_27 : decode (mB m39) 27 = .ok (.ifCond .lt 15, 3) := by decide +kernel
theorem d39_30 : decode (mB m39) 30 = .ok (.aload_n 0, 1) := by decide +kernel
theorem d39_31 : decode (mB m39) 31 = .ok (.iload_n 1, 1) := by decide +kernel
theorem d39_32 : decode (mB m39) 32 = .ok (.iload_n 3, 1) := by decide +kernel
theorem d39_33 : decode (mB m39) 33 = .ok (.invokevirtual 186, 3) := by decide +kernel
theorem d39_36 : decode (mB m39) 36 = .ok (.iinc 3 (-1), 3) := by decide +kernel
theorem d39_39 : decode (mB m39) 39 = .ok (.goto (-13), 3) := by decide +kernel
theorem d39_42 : decode (mB m39) 42 = .ok (.iinc 1 1, 3) := by decide +kernel
theorem d39_45 : decode (mB m39) 45 = .ok (.goto (-43), 3) := by decide +kernel
theorem d39_48 : decode (mB m39) 48 = .ok (.return_, 1) := by decide +kernel
theorem d40_0 : decode (mB m40) 0 = .ok (.aload_n 0, 1) := by decide +kernel
theorem d40_1 : decode (mB m40) 1 = .ok (.iload_n 1, 1) := by decide +kernel
theorem d40_2 : decode (mB m40) 2 = .ok (.iload_n 2, 1) := by decide +kernel
theorem d40_3 : decode (mB m40) 3 = .ok (.iload_n 3, 1) := by decide +kernel
theorem d40_4 : decode (mB m40) 4 = .ok (.invokevirtual 139, 3) := by decide +kernel
theorem d40_7 : decode (mB m40) 7 = .ok (.istore 5, 2) := by decide +kernel
theorem d40_9 : decode (mB m40) 9 = .ok (.iload 5, 2) := by decide +kernel
theorem d40_11 : decode (mB m40) 11 = .ok (.ifCond .lt 15, 3) := by decide +kernel
theorem d40_14 : decode (mB m40) 14 = .ok (.iload 4, 2) := by decide +kernel
theorem d40_16 : decode (mB m40) 16 = .ok (.aload_n 0, 1) := by decide +kernel
theorem d40_17 : decode (mB m40) 17 = .ok (.getfield 48, 3) := by decide +kernel
theorem d40_20 : decode (mB m40) 20 = .ok (.iload 5, 2) := by decide +kernel
theorem d40_22 : decode (mB m40) 22 = .ok (.iaload, 1) := by decide +kernel
theorem d40_23 : decode (mB m40) 23 = .ok (.if_icmp .lt 5, 3) := by decide +kernel
theorem d40_26 : decode (mB m40) 26 = .ok (.iconst 0, 1) := by decide +kernel
theorem d40_27 : decode (mB m40) 27 = .ok (.ireturn, 1) := by decide +kernel
theorem d40_28 : decode (mB m40) 28 = .ok (.aload_n 0, 1) := by decide +kernel
theorem d40_29 : decode (mB m40) 29 = .ok (.getfield 48, 3) := by decide +kernel
theorem d40_32 : decode (mB m40) 32 = .ok (.iload 5, 2) := by decide +kernel
theorem d40_34 : decode (mB m40) 34 = .ok (.iload 4, 2) := by decide +kernel
theorem d40_36 : decode (mB m40) 36 = .ok (.iastore, 1) := by decide +kernel
theorem d40_37 : decode (mB m40) 37 = .ok (.iconst 1, 1) := by decide +kernel
theorem d40_38 : decode (mB m40) 38 = .ok (.ireturn, 1) := by decide +kernel
theorem d41_0 : decode (mB m41) 0 = .ok (.aload_n 0, 1) := by decide +kernel
theorem d41_1 : decode (mB m41) 1 = .ok (.iload_n 1, 1) := by decide +kernel
theorem d41_2 : decode (mB m41) 2 = .ok (.iload_n 2, 1) := by decide +kernel
theorem d41_3 : decode (mB m41) 3 = .ok (.iload_n 3, 1) := by decide +kernel
theorem d41_4 : decode (mB m41) 4 = .ok (.invokevirtual 139, 3) := by decide +kernel
theorem d41_7 : decode (mB m41) 7 = .ok (.istore 4, 2) := by decide +kernel
theorem d41_9 : decode (mB m41) 9 = .ok (.iload 4, 2) := by decide +kernel
theorem d41_11 : decode (mB m41) 11 = .ok (.ifCond .ge 8, 3) := by decide +kernel
theorem d41_14 : decode (mB m41) 14 = .ok (.aload_n 0, 1) := by decide +kernel
theorem d41_15 : decode (mB m41) 15 = .ok (.getfield 8, 3) := by decide +kernel
theorem d41_18 : decode (mB m41) 18 = .ok (.ireturn, 1) := by decide +kernel
theorem d41_19 : decode (mB m41) 19 = .ok (.aload_n 0, 1) := by decide +kernel
theorem d41_20 : decode (mB m41) 20 = .ok (.getfield 48, 3) := by decide +kernel
theorem d41_23 : decode (mB m41) 23 = .ok (.iload 4, 2) := by decide +kernel
theorem d41_25 : decode (mB m41) 25 = .ok (.iaload, 1) := by decide +kernel
theorem d41_26 : decode (mB m41) 26 = .ok (.ireturn, 1) := by decide +kernel
theorem d42_0 : decode (mB m42) 0 = .ok (.aload_n 0, 1) := by decide +kernel
theorem d42_1 : decode (mB m42) 1 = .ok (.iload_n 1, 1) := by decide +kernel
theorem d42_2 : decode (mB m42) 2 = .ok (.iload_n 2, 1) := by decide +kernel
theorem d42_3 : decode (mB m42) 3 = .ok (.invokevirtual 120, 3) := by decide +kernel
theorem d42_6 : decode (mB m42) 6 = .ok (.istore 4, 2) := by decide +kernel
theorem d42_8 : decode (mB m42) 8 = .ok (.aload_n 0, 1) := by decide +kernel
theorem d42_9 : decode (mB m42) 9 = .ok (.iload 4, 2) := by decide +kernel
theorem d42_11 : decode (mB m42) 11 = .ok (.iload_n 3, 1) := by decide +kernel
theorem d42_12 : decode (mB m42) 12 = .ok (.invokevirtual 120, 3) := by decide +kernel
theorem d42_15 : decode (mB m42) 15 = .ok (.ireturn, 1) := by decide +kernel
theorem d43_0 : decode (mB m43) 0 = .ok (.aload_n 0, 1) := by decide +kernel
theorem d43_1 : decode (mB m43) 1 = .ok (.iload_n 1, 1) := by decide +kernel
theorem d43_2 : decode (mB m43) 2 = .ok (.invokevirtual 179, 3) := by decide +kernel
theorem d43_5 : decode (mB m43) 5 = .ok (.istore 5, 2) := by decide +kernel
theorem d43_7 : decode (mB m43) 7 = .ok (.aload_n 0, 1) := by decide +kernel
theorem d43_8 : decode (mB m43) 8 = .ok (.getfield 55, 3) := by decide +kernel
theorem d43_11 : decode (mB m43) 11 = .ok (.iconst 1, 1) := by decide +kernel
theorem d43_12 : decode (mB m43) 12 = .ok (.isub, 1) := by decide +kernel
theorem d43_13 : decode (mB m43) 13 = .ok (.istore 6, 2) := by decide +kernel
theorem d43_15 : decode (mB m43) 15 = .ok (.aload_n 0, 1) := by decide +kernel
theorem d43_16 : decode (mB m43) 16 = .ok (.getfield 8, 3) := by decide +kernel
theorem d43_19 : decode (mB m43) 19 = .ok (.istore 7, 2) := by decide +kernel
theorem d43_21 : decode (mB m43) 21 = .ok (.iconst 0, 1) := by decide +kernel
theorem d43_22 : decode (mB m43) 22 = .ok (.istore 8, 2) := by decide +kernel
theorem d43_24 : decode (mB m43) 24 = .ok (.iload 8, 2) := by decide +kernel
theorem d43_26 : decode (mB m43) 26 = .ok (.iload_n 3, 1) := by decide +kernel
theorem d43_27 : decode (mB m43) 27 = .ok (.if_icmp .gt 86, 3) := by decide +kernel
theorem d43_30 : decode (mB m43) 30 = .ok (.iload 4, 2) := by decide +kernel
theorem d43_32 : decode (mB m43) 32 = .ok (.istore 9, 2) := by decide +kernel
theorem d43_34 : decode (mB m43) 34 = .ok (.iload 9, 2) := by decide +kernel
theorem d43_36 : decode (mB m43) 36 = .ok (.iload 6, 2) := by decide +kernel
theorem d43_38 : decode (mB m43) 38 = .ok (.if_icmp .gt 69, 3) := by decide +kernel
theorem d43_41 : decode (mB m43) 41 = .ok (.aload_n 0, 1) := by decide +kernel
theorem d43_42 : decode (mB m43) 42 = .ok (.iload 5, 2) := by decide +kernel
theorem d43_44 : decode (mB m43) 44 = .ok (.iload 8, 2) := by decide +kernel
theorem d43_46 : decode (mB m43) 46 = .ok (.iload 9, 2) := by decide +kernel
theorem d43_48 : decode (mB m43) 48 = .ok (.invokevirtual 117, 3) := by decide +kernel
theorem d43_51 : decode (mB m43) 51 = .ok (.istore 10, 2) := by decide +kernel
theorem d43_53 : decode (mB m43) 53 = .ok (.aload_n 0, 1) := by decide +kernel
theorem d43_54 : decode (mB m43) 54 = .ok (.iload_n 1, 1) := by decide +kernel
theorem d43_55 : decode (mB m43) 55 = .ok (.iload_n 2, 1) := by decide +kernel
theorem d43_56 : decode (mB m43) 56 = .ok (.iload 8, 2) := by decide +kernel
theorem d43_58 : decode (mB m43) 58 = .ok (.iload_n 3, 1) := by decide +kernel
theorem d43_59 : decode (mB m43) 59 = .ok (.invokevirtual 176, 3) := by decide +kernel
theorem d43_62 : decode (mB m43) 62 = .ok (.istore 11, 2) := by decide +kernel
theorem d43_64 : decode (mB m43) 64 = .ok (.aload_n 0, 1) := by decide +kernel
theorem d43_65 : decode (mB m43) 65 = .ok (.iload_n 1, 1) := by decide +kernel
theorem d43_66 : decode (mB m43) 66 = .ok (.iload_n 2, 1) := by decide +kernel
theorem d43_67 : decode (mB m43) 67 = .ok (.iconst 1, 1) := by decide +kernel
theorem d43_68 : decode (mB m43) 68 = .ok (.iadd, 1) := by decide +kernel
theorem d43_69 : decode (mB m43) 69 = .ok (.iload 4, 2) := by decide +kernel
theorem d43_71 : decode (mB m43) 71 = .ok (.iload 9, 2) := by decide +kernel
theorem d43_73 : decode (mB m43) 73 = .ok (.invokevirtual 195, 3) := by decide +kernel
theorem d43_76 : decode (mB m43) 76 = .ok (.istore 12, 2) := by decide +kernel
theorem d43_78 : decode (mB m43) 78 = .ok (.aload_n 0, 1) := by decide +kernel
theorem d43_79 : decode (mB m43) 79 = .ok (.iload 10, 2) := by decide +kernel
theorem d43_81 : decode (mB m43) 81 = .ok (.iload 11, 2) := by decide +kernel
theorem d43_83 : decode (mB m43) 83 = .ok (.iload 12, 2) := by decide +kernel
theorem d43_85 : decode (mB m43) 85 = .ok (.invokevirtual 213, 3) := by decide +kernel
theorem d43_88 : decode (mB m43) 88 = .ok (.istore 13, 2) := by decide +kernel
theorem d43_90 : decode (mB m43) 90 = .ok (.iload 13, 2) := by decide +kernel
theorem d43_92 : decode (mB m43) 92 = .ok (.iload 7, 2) := by decide +kernel
theorem d43_94 : decode (mB m43) 94 = .ok (.if_icmp .ge 7, 3) := by decide +kernel
theorem d43_97 : decode (mB m43) 97 = .ok (.iload 13, 2) := by decide +kernel
theorem d43_99 : decode (mB m43) 99 = .ok (.istore 7, 2) := by decide +kernel
theorem d43_101 : decode (mB m43) 101 = .ok (.iinc 9 1, 3) := by decide +kernel
theorem d43_104 : decode (mB m43) 104 = .ok (.goto (-70), 3) := by decide +kernel
theorem d43_107 : decode (mB m43) 107 = .ok (.iinc 8 1, 3) := by decide +kernel
theorem d43_110 : decode (mB m43) 110 = .ok (.goto (-86), 3) := by decide +kernel
theorem d43_113 : decode (mB m43) 113 = .ok (.iload 7, 2) := by decide +kernel
theorem d43_115 : decode (mB m43) 115 = .ok (.ireturn, 1) := by decide +kernel
theorem d44_0 : decode (mB m44) 0 = .ok (.iconst 0, 1) := by decide +kernel
theorem d44_1 : decode (mB m44) 1 = .ok (.istore 4, 2) := by decide +kernel
theorem d44_3 : decode (mB m44) 3 = .ok (.aload_n 0, 1) := by decide +kernel
theorem d44_4 : decode (mB m44) 4 = .ok (.getfield 33, 3) := by decide +kernel
theorem d44_7 : decode (mB m44) 7 = .ok (.iload_n 1, 1) := by decide +kernel
theorem d44_8 : decode (mB m44) 8 = .ok (.iaload, 1) := by decide +kernel
theorem d44_9 : decode (mB m44) 9 = .ok (.istore 5, 2) := by decide +kernel
theorem d44_11 : decode (mB m44) 11 = .ok (.iconst 0, 1) := by decide +kernel
theorem d44_12 : decode (mB m44) 12 = .ok (.istore 6, 2) := by decide +kernel
theorem d44_14 : decode (mB m44) 14 = .ok (.iload 6, 2) := by decide +kernel
theorem d44_16 : decode (mB m44) 16 = .ok (.iload 5, 2) := by decide +kernel
theorem d44_18 : decode (mB m44) 18 = .ok (.if_icmp .ge 45, 3) := by decide +kernel
theorem d44_21 : decode (mB m44) 21 = .ok (.aload_n 0, 1) := by decide +kernel
theorem d44_22 : decode (mB m44) 22 = .ok (.iload_n 1, 1) := by decide +kernel
theorem d44_23 : decode (mB m44) 23 = .ok (.iload 6, 2) := by decide +kernel
theorem d44_25 : decode (mB m44) 25 = .ok (.iload_n 2, 1) := by decide +kernel
theorem d44_26 : decode (mB m44) 26 = .ok (.iload_n 3, 1) := by decide +kernel
theorem d44_27 : decode (mB m44) 27 = .ok (.invokevirtual 210, 3) := by decide +kernel
theorem d44_30 : decode (mB m44) 30 = .ok (.istore 7, 2) := by decide +kernel
theorem d44_32 : decode (mB m44) 32 = .ok (.aload_n 0, 1) := by decide +kernel
theorem d44_33 : decode (mB m44) 33 = .ok (.iload_n 1, 1) := by decide +kernel
theorem d44_34 : decode (mB m44) 34 = .ok (.iload 6, 2) := by decide +kernel
theorem d44_36 : decode (mB m44) 36 = .ok (.invokevirtual 84, 3) := by decide +kernel
theorem d44_39 : decode (mB m44) 39 = .ok (.istore 8, 2) := by decide +kernel
theorem d44_41 : decode (mB m44) 41 = .ok (.aload_n 0, 1) := by decide +kernel
theorem d44_42 : decode (mB m44) 42 = .ok (.iload 8, 2) := by decide +kernel
theorem d44_44 : decode (mB m44) 44 = .ok (.iload_n 2, 1) := by decide +kernel
theorem d44_45 : decode (mB m44) 45 = .ok (.iload_n 3, 1) := by decide +kernel
theorem d44_46 : decode (mB m44) 46 = .ok (.iload 7, 2) := by decide +kernel
theorem d44_48 : decode (mB m44) 48 = .ok (.invokevirtual 198, 3) := by decide +kernel
theorem d44_51 : decode (mB m44) 51 = .ok (.ifCond .eq 6, 3) := by decide +kernel
theorem d44_54 : decode (mB m44) 54 = .ok (.iconst 1, 1) := by decide +kernel
theorem d44_55 : decode (mB m44) 55 = .ok (.istore 4, 2) := by decide +kernel
theorem d44_57 : decode (mB m44) 57 = .ok (.iinc 6 1, 3) := by decide +kernel
theorem d44_60 : decode (mB m44) 60 = .ok (.goto (-46), 3) := by decide +kernel
theorem d44_63 : decode (mB m44) 63 = .ok (.iload 4, 2) := by decide +kernel
theorem d44_65 : decode (mB m44) 65 = .ok (.ireturn, 1) := by decide +kernel
theorem d45_0 : decode (mB m45) 0 = .ok (.iconst 0, 1) := by decide +kernel
theorem d45_1 : decode (mB m45) 1 = .ok (.istore_n 3, 1) := by decide +kernel
theorem d45_2 : decode (mB m45) 2 = .ok (.iconst 0, 1) := by decide +kernel
theorem d45_3 : decode (mB m45) 3 = .ok (.istore 4, 2) := by decide +kernel
theorem d45_5 : decode (mB m45) 5 = .ok (.iload 4, 2) := by decide +kernel
theorem d45_7 : decode (mB m45) 7 = .ok (.aload_n 0, 1) := by decide +kernel
theorem d45_8 : decode (mB m45) 8 = .ok (.getfield 67, 3) := by decide +kernel
theorem d45_11 : decode (mB m45) 11 = .ok (.if_icmp .ge 22, 3) := by decide +kernel
theorem d45_14 : decode (mB m45) 14 = .ok (.aload_n 0, 1) := by decide +kernel
theorem d45_15 : decode (mB m45) 15 = .ok (.iload 4, 2) := by decide +kernel
theorem d45_17 : decode (mB m45) 17 = .ok (.iload_n 1, 1) := by decide +kernel
theorem d45_18 : decode (mB m45) 18 = .ok (.iload_n 2, 1) := by decide +kernel
theorem d45_19 : decode (mB m45) 19 = .ok (.invokevirtual 207, 3) := by decide +kernel
theorem d45_22 : decode (mB m45) 22 = .ok (.ifCond .eq 5, 3) := by decide +kernel
theorem d45_25 : decode (mB m45) 25 = .ok (.iconst 1, 1) := by decide +kernel
theorem d45_26 : decode (mB m45) 26 = .ok (.istore_n 3, 1) := by decide +kernel
theorem d45_27 : decode (mB m45) 27 = .ok (.iinc 4 1, 3) := by decide +kernel
theorem d45_30 : decode (mB m45) 30 = .ok (.goto (-25), 3) := by decide +kernel
theorem d45_33 : decode (mB m45) 33 = .ok (.iload_n 3, 1) := by decide +kernel
theorem d45_34 : decode (mB m45) 34 = .ok (.ireturn, 1) := by decide +kernel
theorem d46_0 : decode (mB m46) 0 = .ok (.iconst 1, 1) := by decide +kernel
theorem d46_1 : decode (mB m46) 1 = .ok (.istore_n 3, 1) := by decide +kernel
theorem d46_2 : decode (mB m46) 2 = .ok (.iconst 0, 1) := by decide +kernel
theorem d46_3 : decode (mB m46) 3 = .ok (.istore 4, 2) := by decide +kernel
theorem d46_5 : decode (mB m46) 5 = .ok (.iload_n 3, 1) := by decide +kernel
theorem d46_6 : decode (mB m46) 6 = .ok (.ifCond .eq 23, 3) := by decide +kernel
theorem d46_9 : decode (mB m46) 9 = .ok (.iload 4, 2) := by decide +kernel
theorem d46_11 : decode (mB m46) 11 = .ok (.bipush 24, 2) := by decide +kernel
theorem d46_13 : decode (mB m46) 13 = .ok (.if_icmp .ge 16, 3) := by decide +kernel
theorem d46_16 : decode (mB m46) 16 = .ok (.aload_n 0, 1) := by decide +kernel
theorem d46_17 : decode (mB m46) 17 = .ok (.iload_n 1, 1) := by decide +kernel
theorem d46_18 : decode (mB m46) 18 = .ok (.iload_n 2, 1) := by decide +kernel
theorem d46_19 : decode (mB m46) 19 = .ok (.invokevirtual 204, 3) := by decide +kernel
theorem d46_22 : decode (mB m46) 22 = .ok (.istore_n 3, 1) := by decide +kernel
theorem d46_23 : decode (mB m46) 23 = .ok (.iinc 4 1, 3) := by decide +kernel
theorem d46_26 : decode (mB m46) 26 = .ok (.goto (-21), 3) := by decide +kernel
theorem d46_29 : decode (mB m46) 29 = .ok (.return_, 1) := by decide +kernel
theorem d47_0 : decode (mB m47) 0 = .ok (.aload_n 0, 1) := by decide +kernel
theorem d47_1 : decode (mB m47) 1 = .ok (.getfield 55, 3) := by decide +kernel
theorem d47_4 : decode (mB m47) 4 = .ok (.iconst 1, 1) := by decide +kernel
theorem d47_5 : decode (mB m47) 5 = .ok (.isub, 1) := by decide +kernel
theorem d47_6 : decode (mB m47) 6 = .ok (.istore_n 1, 1) := by decide +kernel
theorem d47_7 : decode (mB m47) 7 = .ok (.aload_n 0, 1) := by decide +kernel
theorem d47_8 : decode (mB m47) 8 = .ok (.bipush 8, 2) := by decide +kernel
theorem d47_10 : decode (mB m47) 10 = .ok (.iconst 0, 1) := by decide +kernel
theorem d47_11 : decode (mB m47) 11 = .ok (.iload_n 1, 1) := by decide +kernel
theorem d47_12 : decode (mB m47) 12 = .ok (.iconst 0, 1) := by decide +kernel
theorem d47_13 : decode (mB m47) 13 = .ok (.invokevirtual 198, 3) := by decide +kernel
theorem d47_16 : decode (mB m47) 16 = .ok (.pop, 1) := by decide +kernel
theorem d47_17 : decode (mB m47) 17 = .ok (.iload_n 1, 1) := by decide +kernel
theorem d47_18 : decode (mB m47) 18 = .ok (.istore_n 2, 1) := by decide +kernel
theorem d47_19 : decode (mB m47) 19 = .ok (.iload_n 2, 1) := by decide +kernel
theorem d47_20 : decode (mB m47) 20 = .ok (.ifCond .lt 32, 3) := by decide +kernel
theorem d47_23 : decode (mB m47) 23 = .ok (.iconst 0, 1) := by decide +kernel
theorem d47_24 : decode (mB m47) 24 = .ok (.istore_n 3, 1) := by decide +kernel
theorem d47_25 : decode (mB m47) 25 = .ok (.iload_n 3, 1) := by decide +kernel
theorem d47_26 : decode (mB m47) 26 = .ok (.iload_n 2, 1) := by decide +kernel
theorem d47_27 : decode (mB m47) 27 = .ok (.iadd, 1) := by decide +kernel
theorem d47_28 : decode (mB m47) 28 = .ok (.iload_n 1, 1) := by decide +kernel
theorem d47_29 : decode (mB m47) 29 = .ok (.if_icmp .gt 17, 3) := by decide +kernel
theorem d47_32 : decode (mB m47) 32 = .ok (.aload_n 0, 1) := by decide +kernel
theorem d47_33 : decode (mB m47) 33 = .ok (.iload_n 3, 1) := by decide +kernel
theorem d47_34 : decode (mB m47) 34 = .ok (.iload_n 3, 1) := by decide +kernel
theorem d47_35 : decode (mB m47) 35 = .ok (.iload_n 2, 1) := by decide +kernel
theorem d47_36 : decode (mB m47) 36 = .ok (.iadd, 1) := by decide +kernel
theorem d47_37 : decode (mB m47) 37 = .ok (.invokevirtual 201, 3) := by decide +kernel
theorem d47_40 : decode (mB m47) 40 = .ok (.iinc 3 1, 3) := by decide +kernel
theorem d47_43 : decode (mB m47) 43 = .ok (.goto (-18), 3) := by decide +kernel
theorem d47_46 : decode (mB m47) 46 = .ok (.iinc 2 (-1), 3) := by decide +kernel
theorem d47_49 : decode (mB m47) 49 = .ok (.goto (-30), 3) := by decide +kernel
theorem d47_52 : decode (mB m47) 52 = .ok (.return_, 1) := by decide +kernel
theorem d48_0 : decode (mB m48) 0 = .ok (.aload_n 0, 1) := by decide +kernel
theorem d48_1 : decode (mB m48) 1 = .ok (.invokevirtual 61, 3) := by decide +kernel
theorem d48_4 : decode (mB m48) 4 = .ok (.aload_n 0, 1) := by decide +kernel
theorem d48_5 : decode (mB m48) 5 = .ok (.invokevirtual 88, 3) := by decide +kernel
theorem d48_8 : decode (mB m48) 8 = .ok (.aload_n 0, 1) := by decide +kernel
theorem d48_9 : decode (mB m48) 9 = .ok (.getfield 55, 3) := by decide +kernel
theorem d48_12 : decode (mB m48) 12 = .ok (.iconst 1, 1) := by decide +kernel
theorem d48_13 : decode (mB m48) 13 = .ok (.isub, 1) := by decide +kernel
theorem d48_14 : decode (mB m48) 14 = .ok (.istore_n 1, 1) := by decide +kernel
theorem d48_15 : decode (mB m48) 15 = .ok (.aload_n 0, 1) := by decide +kernel
theorem d48_16 : decode (mB m48) 16 = .ok (.bipush 8, 2) := by decide +kernel
theorem d48_18 : decode (mB m48) 18 = .ok (.iconst 0, 1) := by decide +kernel
theorem d48_19 : decode (mB m48) 19 = .ok (.iload_n 1, 1) := by decide +kernel
theorem d48_20 : decode (mB m48) 20 = .ok (.invokevirtual 91, 3) := by decide +kernel
theorem d48_23 : decode (mB m48) 23 = .ok (.istore_n 2, 1) := by decide +kernel
theorem d48_24 : decode (mB m48) 24 = .ok (.iload_n 2, 1) := by decide +kernel
theorem d48_25 : decode (mB m48) 25 = .ok (.aload_n 0, 1) := by decide +kernel
theorem d48_26 : decode (mB m48) 26 = .ok (.getfield 8, 3) := by decide +kernel
theorem d48_29 : decode (mB m48) 29 = .ok (.if_icmp .ge 24, 3) := by decide +kernel
theorem d48_32 : decode (mB m48) 32 = .ok (.aload_n 0, 1) := by decide +kernel
theorem d48_33 : decode (mB m48) 33 = .ok (.iconst 1, 1) := by decide +kernel
theorem d48_34 : decode (mB m48) 34 = .ok (.putfield 95, 3) := by decide +kernel
theorem d48_37 : decode (mB m48) 37 = .ok (.aload_n 0, 1) := by decide +kernel
theorem d48_38 : decode (mB m48) 38 = .ok (.iload_n 2, 1) := by decide +kernel
theorem d48_39 : decode (mB m48) 39 = .ok (.putfield 98, 3) := by decide +kernel
theorem d48_42 : decode (mB m48) 42 = .ok (.aload_n 0, 1) := by decide +kernel
theorem d48_43 : decode (mB m48) 43 = .ok (.invokevirtual 101, 3) := by decide +kernel
theorem d48_46 : decode (mB m48) 46 = .ok (.aload_n 0, 1) := by decide +kernel
theorem d48_47 : decode (mB m48) 47 = .ok (.invokevirtual 104, 3) := by decide +kernel
theorem d48_50 : decode (mB m48) 50 = .ok (.goto 13, 3) := by decide +kernel
theorem d48_53 : decode (mB m48) 53 = .ok (.aload_n 0, 1) := by decide +kernel
theorem d48_54 : decode (mB m48) 54 = .ok (.iconst 2, 1) := by decide +kernel
theorem d48_55 : decode (mB m48) 55 = .ok (.putfield 95, 3) := by decide +kernel
theorem d48_58 : decode (mB m48) 58 = .ok (.aload_n 0, 1) := by decide +kernel
theorem d48_59 : decode (mB m48) 59 = .ok (.iconst (-1), 1) := by decide +kernel
theorem d48_60 : decode (mB m48) 60 = .ok (.putfield 98, 3) := by decide +kernel
theorem d48_63 : decode (mB m48) 63 = .ok (.aload_n 0, 1) := by decide +kernel
theorem d48_64 : decode (mB m48) 64 = .ok (.getfield 95, 3) := by decide +kernel
theorem d48_67 : decode (mB m48) 67 = .ok (.iconst 1, 1) := by decide +kernel
theorem d48_68 : decode (mB m48) 68 = .ok (.if_icmp .ne 7, 3) := by decide +kernel
theorem d48_71 : decode (mB m48) 71 = .ok (.iconst 1, 1) := by decide +kernel
theorem d48_72 : decode (mB m48) 72 = .ok (.goto 4, 3) := by decide +kernel
theorem d48_75 : decode (mB m48) 75 = .ok (.iconst 0, 1) := by decide +kernel
theorem d48_76 : decode (mB m48) 76 = .ok (.ireturn, 1) := by decide +kernel
theorem d49_0 : decode (mB m49) 0 = .ok (.aload_n 0, 1) := by decide +kernel
theorem d49_1 : decode (mB m49) 1 = .ok (.invokevirtual 58, 3) := by decide +kernel
theorem d49_4 : decode (mB m49) 4 = .ok (.aload_n 0, 1) := by decide +kernel
theorem d49_5 : decode (mB m49) 5 = .ok (.invokevirtual 61, 3) := by decide +kernel
theorem d49_8 : decode (mB m49) 8 = .ok (.return_, 1) := by decide +kernel
theorem d50_0 : decode (mB m50) 0 = .ok (.aload_n 0, 1) := by decide +kernel
theorem d50_1 : decode (mB m50) 1 = .ok (.getfield 64, 3) := by decide +kernel
theorem d50_4 : decode (mB m50) 4 = .ok (.ireturn, 1) := by decide +kernel
theorem d51_0 : decode (mB m51) 0 = .ok (.aload_n 0, 1) := by decide +kernel
theorem d51_1 : decode (mB m51) 1 = .ok (.getfield 67, 3) := by decide +kernel
theorem d51_4 : decode (mB m51) 4 = .ok (.ireturn, 1) := by decide +kernel
theorem d52_0 : decode (mB m52) 0 = .ok (.iload_n 1, 1) := by decide +kernel
theorem d52_1 : decode (mB m52) 1 = .ok (.ifCond .lt 11, 3) := by decide +kernel
theorem d52_4 : decode (mB m52) 4 = .ok (.iload_n 1, 1) := by decide +kernel
theorem d52_5 : decode (mB m52) 5 = .ok (.aload_n 0, 1) := by decide +kernel
theorem d52_6 : decode (mB m52) 6 = .ok (.getfield 64, 3) := by decide +kernel
theorem d52_9 : decode (mB m52) 9 = .ok (.if_icmp .lt 5, 3) := by decide +kernel
theorem d52_12 : decode (mB m52) 12 = .ok (.iconst (-1), 1) := by decide +kernel
theorem d52_13 : decode (mB m52) 13 = .ok (.ireturn, 1) := by decide +kernel
theorem d52_14 : decode (mB m52) 14 = .ok (.iload_n 2, 1) := by decide +kernel
theorem d52_15 : decode (mB m52) 15 = .ok (.ifCond .ne 10, 3) := by decide +kernel
theorem d52_18 : decode (mB m52) 18 = .ok (.aload_n 0, 1) := by decide +kernel
theorem d52_19 : decode (mB m52) 19 = .ok (.getfield 14, 3) := by decide +kernel
theorem d52_22 : decode (mB m52) 22 = .ok (.iload_n 1, 1) := by decide +kernel
theorem d52_23 : decode (mB m52) 23 = .ok (.iaload, 1) := by decide +kernel
theorem d52_24 : decode (mB m52) 24 = .ok (.ireturn, 1) := by decide +kernel
theorem d52_25 : decode (mB m52) 25 = .ok (.iload_n 2, 1) := by decide +kernel
theorem d52_26 : decode (mB m52) 26 = .ok (.iconst 1, 1) := by decide +kernel
theorem d52_27 : decode (mB m52) 27 = .ok (.if_icmp .ne 10, 3) := by decide +kernel
theorem d52_30 : decode (mB m52) 30 = .ok (.aload_n 0, 1) := by decide +kernel
theorem d52_31 : decode (mB m52) 31 = .ok (.getfield 18, 3) := by decide +kernel
theorem d52_34 : decode (mB m52) 34 = .ok (.iload_n 1, 1) := by decide +kernel
theorem d52_35 : decode (mB m52) 35 = .ok (.iaload, 1) := by decide +kernel
theorem d52_36 : decode (mB m52) 36 = .ok (.ireturn, 1) := by decide +kernel
theorem d52_37 : decode (mB m52) 37 = .ok (.iload_n 2, 1) := by decide +kernel
theorem d52_38 : decode (mB m52) 38 = .ok (.iconst 2, 1) := by decide +kernel
theorem d52_39 : decode (mB m52) 39 = .ok (.if_icmp .ne 10, 3) := by decide +kernel
theorem d52_42 : decode (mB m52) 42 = .ok (.aload_n 0, 1) := by decide +kernel
theorem d52_43 : decode (mB m52) 43 = .ok (.getfield 21, 3) := by decide +kernel
theorem d52_46 : decode (mB m52) 46 = .ok (.iload_n 1, 1) := by decide +kernel
theorem d52_47 : decode (mB m52) 47 = .ok (.iaload, 1) := by decide +kernel
theorem d52_48 : decode (mB m52) 48 = .ok (.ireturn, 1) := by decide +kernel
theorem d52_49 : decode (mB m52) 49 = .ok (.iload_n 2, 1) := by decide +kernel
theorem d52_50 : decode (mB m52) 50 = .ok (.iconst 3, 1) := by decide +kernel
theorem d52_51 : decode (mB m52) 51 = .ok (.if_icmp .ne 10, 3) := by decide +kernel
theorem d52_54 : decode (mB m52) 54 = .ok (.aload_n 0, 1) := by decide +kernel
theorem d52_55 : decode (mB m52) 55 = .ok (.getfield 24, 3) := by decide +kernel
theorem d52_58 : decode (mB m52) 58 = .ok (.iload_n 1, 1) := by decide +kernel
theorem d52_59 : decode (mB m52) 59 = .ok (.iaload, 1) := by decide +kernel
theorem d52_60 : decode (mB m52) 60 = .ok (.ireturn, 1) := by decide +kernel
theorem d52_61 : decode (mB m52) 61 = .ok (.iconst (-1), 1) := by decide +kernel
theorem d52_62 : decode (mB m52) 62 = .ok (.ireturn, 1) := by decide +kernel
theorem d53_0 : decode (mB m53) 0 = .ok (.iload_n 1, 1) := by decide +kernel
theorem d53_1 : decode (mB m53) 1 = .ok (.ifCond .lt 11, 3) := by decide +kernel
theorem d53_4 : decode (mB m53) 4 = .ok (.iload_n 1, 1) := by decide +kernel
theorem d53_5 : decode (mB m53) 5 = .ok (.aload_n 0, 1) := by decide +kernel
theorem d53_6 : decode (mB m53) 6 = .ok (.getfield 67, 3) := by decide +kernel
theorem d53_9 : decode (mB m53) 9 = .ok (.if_icmp .lt 5, 3) := by decide +kernel
theorem d53_12 : decode (mB m53) 12 = .ok (.iconst (-1), 1) := by decide +kernel
theorem d53_13 : decode (mB m53) 13 = .ok (.ireturn, 1) := by decide +kernel
theorem d53_14 : decode (mB m53) 14 = .ok (.iload_n 2, 1) := by decide +kernel
theorem d53_15 : decode (mB m53) 15 = .ok (.ifCond .ne 10, 3) := by decide +kernel
theorem d53_18 : decode (mB m53) 18 = .ok (.aload_n 0, 1) := by decide +kernel
theorem d53_19 : decode (mB m53) 19 = .ok (.getfield 27, 3) := by decide +kernel
theorem d53_22 : decode (mB m53) 22 = .ok (.iload_n 1, 1) := by decide +kernel
theorem d53_23 : decode (mB m53) 23 = .ok (.iaload, 1) := by decide +kernel
theorem d53_24 : decode (mB m53) 24 = .ok (.ireturn, 1) := by decide +kernel
theorem d53_25 : decode (mB m53) 25 = .ok (.iload_n 2, 1) := by decide +kernel
theorem d53_26 : decode (mB m53) 26 = .ok (.iconst 1, 1) := by decide +kernel
theorem d53_27 : decode (mB m53) 27 = .ok (.if_icmp .ne 10, 3) := by decide +kernel
theorem d53_30 : decode (mB m53) 30 = .ok (.aload_n 0, 1) := by decide +kernel
theorem d53_31 : decode (mB m53) 31 = .ok (.getfield 30, 3) := by decide +kernel
theorem d53_34 : decode (mB m53) 34 = .ok (.iload_n 1, 1) := by decide +kernel
theorem d53_35 : decode (mB m53) 35 = .ok (.iaload, 1) := by decide +kernel
theorem d53_36 : decode (mB m53) 36 = .ok (.ireturn, 1) := by decide +kernel
theorem d53_37 : decode (mB m53) 37 = .ok (.iload_n 2, 1) := by decide +kernel
theorem d53_38 : decode (mB m53) 38 = .ok (.iconst 2, 1) := by decide +kernel
theorem d53_39 : decode (mB m53) 39 = .ok (.if_icmp .ne 10, 3) := by decide +kernel
theorem d53_42 : decode (mB m53) 42 = .ok (.aload_n 0, 1) := by decide +kernel
theorem d53_43 : decode (mB m53) 43 = .ok (.getfield 33, 3) := by decide +kernel
theorem d53_46 : decode (mB m53) 46 = .ok (.iload_n 1, 1) := by decide +kernel
theorem d53_47 : decode (mB m53) 47 = .ok (.iaload, 1) := by decide +kernel
theorem d53_48 : decode (mB m53) 48 = .ok (.ireturn, 1) := by decide +kernel
theorem d53_49 : decode (mB m53) 49 = .ok (.iload_n 2, 1) := by decide +kernel
theorem d53_50 : decode (mB m53) 50 = .ok (.iconst 3, 1) := by decide +kernel
theorem d53_51 : decode (mB m53) 51 = .ok (.if_icmp .lt 8, 3) := by decide +kernel
theorem d53_54 : decode (mB m53) 54 = .ok (.iload_n 2, 1) := by decide +kernel
theorem d53_55 : decode (mB m53) 55 = .ok (.iconst 5, 1) := by decide +kernel
theorem d53_56 : decode (mB m53) 56 = .ok (.if_icmp .le 5, 3) := by decide +kernel
theorem d53_59 : decode (mB m53) 59 = .ok (.iconst (-1), 1) := by decide +kernel
theorem d53_60 : decode (mB m53) 60 = .ok (.ireturn, 1) := by decide +kernel
theorem d53_61 : decode (mB m53) 61 = .ok (.iload_n 2, 1) := by decide +kernel
theorem d53_62 : decode (mB m53) 62 = .ok (.iconst 3, 1) := by decide +kernel
theorem d53_63 : decode (mB m53) 63 = .ok (.isub, 1) := by decide +kernel
theorem d53_64 : decode (mB m53) 64 = .ok (.istore_n 3, 1) := by decide +kernel
theorem d53_65 : decode (mB m53) 65 = .ok (.iload_n 3, 1) := by decide +kernel
theorem d53_66 : decode (mB m53) 66 = .ok (.aload_n 0, 1) := by decide +kernel
theorem d53_67 : decode (mB m53) 67 = .ok (.getfield 33, 3) := by decide +kernel
theorem d53_70 : decode (mB m53) 70 = .ok (.iload_n 1, 1) := by decide +kernel
theorem d53_71 : decode (mB m53) 71 = .ok (.iaload, 1) := by decide +kernel
theorem d53_72 : decode (mB m53) 72 = .ok (.if_icmp .lt 5, 3) := by decide +kernel
theorem d53_75 : decode (mB m53) 75 = .ok (.iconst (-1), 1) := by decide +kernel
theorem d53_76 : decode (mB m53) 76 = .ok (.ireturn, 1) := by decide +kernel
theorem d53_77 : decode (mB m53) 77 = .ok (.aload_n 0, 1) := by decide +kernel
theorem d53_78 : decode (mB m53) 78 = .ok (.iload_n 1, 1) := by decide +kernel
theorem d53_79 : decode (mB m53) 79 = .ok (.iload_n 3, 1) := by decide +kernel
theorem d53_80 : decode (mB m53) 80 = .ok (.invokevirtual 84, 3) := by decide +kernel
theorem d53_83 : decode (mB m53) 83 = .ok (.ireturn, 1) := by decide +kernel
theorem d54_0 : decode (mB m54) 0 = .ok (.aload_n 0, 1) := by decide +kernel
theorem d54_1 : decode (mB m54) 1 = .ok (.getfield 95, 3) := by decide +kernel
theorem d54_4 : decode (mB m54) 4 = .ok (.ireturn, 1) := by decide +kernel
theorem d55_0 : decode (mB m55) 0 = .ok (.aload_n 0, 1) := by decide +kernel
theorem d55_1 : decode (mB m55) 1 = .ok (.getfield 95, 3) := by decide +kernel
theorem d55_4 : decode (mB m55) 4 = .ok (.iconst 1, 1) := by decide +kernel
theorem d55_5 : decode (mB m55) 5 = .ok (.if_icmp .eq 5, 3) := by decide +kernel
theorem d55_8 : decode (mB m55) 8 = .ok (.iconst (-1), 1) := by decide +kernel
theorem d55_9 : decode (mB m55) 9 = .ok (.ireturn, 1) := by decide +kernel
theorem d55_10 : decode (mB m55) 10 = .ok (.aload_n 0, 1) := by decide +kernel
theorem d55_11 : decode (mB m55) 11 = .ok (.getfield 98, 3) := by decide +kernel
theorem d55_14 : decode (mB m55) 14 = .ok (.ireturn, 1) := by decide +kernel
theorem d56_0 : decode (mB m56) 0 = .ok (.iload_n 2, 1) := by decide +kernel
theorem d56_1 : decode (mB m56) 1 = .ok (.ifCond .ne 14, 3) := by decide +kernel
theorem d56_4 : decode (mB m56) 4 = .ok (.iload_n 0, 1) := by decide +kernel
theorem d56_5 : decode (mB m56) 5 = .ok (.iload_n 1, 1) := by decide +kernel
theorem d56_6 : decode (mB m56) 6 = .ok (.if_icmp .ne 7, 3) := by decide +kernel
theorem d56_9 : decode (mB m56) 9 = .ok (.iconst 1, 1) := by decide +kernel
theorem d56_10 : decode (mB m56) 10 = .ok (.goto 4, 3) := by decide +kernel
theorem d56_13 : decode (mB m56) 13 = .ok (.iconst 0, 1) := by decide +kernel
theorem d56_14 : decode (mB m56) 14 = .ok (.ireturn, 1) := by decide +kernel
theorem d56_15 : decode (mB m56) 15 = .ok (.iload_n 0, 1) := by decide +kernel
theorem d56_16 : decode (mB m56) 16 = .ok (.ifCond .lt 12, 3) := by decide +kernel
theorem d56_19 : decode (mB m56) 19 = .ok (.iload_n 1, 1) := by decide +kernel
theorem d56_20 : decode (mB m56) 20 = .ok (.ifCond .lt 12, 3) := by decide +kernel
theorem d56_23 : decode (mB m56) 23 = .ok (.iload_n 1, 1) := by decide +kernel
theorem d56_24 : decode (mB m56) 24 = .ok (.iload_n 0, 1) := by decide +kernel
theorem d56_25 : decode (mB m56) 25 = .ok (.if_icmp .gt 7, 3) := by decide +kernel
theorem d56_28 : decode (mB m56) 28 = .ok (.iconst 1, 1) := by decide +kernel
theorem d56_29 : decode (mB m56) 29 = .ok (.goto 4, 3) := by decide +kernel
theorem d56_32 : decode (mB m56) 32 = .ok (.iconst 0, 1) := by decide +kernel
theorem d56_33 : decode (mB m56) 33 = .ok (.ireturn, 1) := by decide +kernel
theorem d57_0 : decode (mB m57) 0 = .ok (.iload_n 1, 1) := by decide +kernel
theorem d57_1 : decode (mB m57) 1 = .ok (.aload_n 0, 1) := by decide +kernel
theorem d57_2 : decode (mB m57) 2 = .ok (.getfield 8, 3) := by decide +kernel
theorem d57_5 : decode (mB m57) 5 = .ok (.if_icmp .ge 7, 3) := by decide +kernel
theorem d57_8 : decode (mB m57) 8 = .ok (.iload_n 1, 1) := by decide +kernel
theorem d57_9 : decode (mB m57) 9 = .ok (.ifCond .ge 5, 3) := by decide +kernel
theorem d57_12 : decode (mB m57) 12 = .ok (.iconst (-1), 1) := by decide +kernel
theorem d57_13 : decode (mB m57) 13 = .ok (.ireturn, 1) := by decide +kernel
theorem d57_14 : decode (mB m57) 14 = .ok (.iload_n 1, 1) := by decide +kernel
theorem d57_15 : decode (mB m57) 15 = .ok (.ireturn, 1) := by decide +kernel
theorem d58_0 : decode (mB m58) 0 = .ok (.aload_n 0, 1) := by decide +kernel
theorem d58_1 : decode (mB m58) 1 = .ok (.getfield 95, 3) := by decide +kernel
theorem d58_4 : decode (mB m58) 4 = .ok (.ifCond .ne 5, 3) := by decide +kernel
theorem d58_7 : decode (mB m58) 7 = .ok (.iconst (-1), 1) := by decide +kernel
theorem d58_8 : decode (mB m58) 8 = .ok (.ireturn, 1) := by decide +kernel
theorem d58_9 : decode (mB m58) 9 = .ok (.aload_n 0, 1) := by decide +kernel
theorem d58_10 : decode (mB m58) 10 = .ok (.iload_n 1, 1) := by decide +kernel
theorem d58_11 : decode (mB m58) 11 = .ok (.invokevirtual 107, 3) := by decide +kernel
theorem d58_14 : decode (mB m58) 14 = .ok (.ifCond .eq 19, 3) := by decide +kernel
theorem d58_17 : decode (mB m58) 17 = .ok (.aload_n 0, 1) := by decide +kernel
theorem d58_18 : decode (mB m58) 18 = .ok (.iload_n 2, 1) := by decide +kernel
theorem d58_19 : decode (mB m58) 19 = .ok (.invokevirtual 111, 3) := by decide +kernel
theorem d58_22 : decode (mB m58) 22 = .ok (.ifCond .eq 11, 3) := by decide +kernel
theorem d58_25 : decode (mB m58) 25 = .ok (.aload_n 0, 1) := by decide +kernel
theorem d58_26 : decode (mB m58) 26 = .ok (.iload_n 3, 1) := by decide +kernel
theorem d58_27 : decode (mB m58) 27 = .ok (.invokevirtual 111, 3) := by decide +kernel
theorem d58_30 : decode (mB m58) 30 = .ok (.ifCond .ne 5, 3) := by decide +kernel
theorem d58_33 : decode (mB m58) 33 = .ok (.iconst (-1), 1) := by decide +kernel
theorem d58_34 : decode (mB m58) 34 = .ok (.ireturn, 1) := by decide +kernel
theorem d58_35 : decode (mB m58) 35 = .ok (.iload_n 2, 1) := by decide +kernel
theorem d58_36 : decode (mB m58) 36 = .ok (.iload_n 3, 1) := by decide +kernel
theorem d58_37 : decode (mB m58) 37 = .ok (.if_icmp .le 5, 3) := by decide +kernel
theorem d58_40 : decode (mB m58) 40 = .ok (.iconst (-1), 1) := by decide +kernel
theorem d58_41 : decode (mB m58) 41 = .ok (.ireturn, 1) := by decide +kernel
theorem d58_42 : decode (mB m58) 42 = .ok (.aload_n 0, 1) := by decide +kernel
theorem d58_43 : decode (mB m58) 43 = .ok (.iload_n 1, 1) := by decide +kernel
theorem d58_44 : decode (mB m58) 44 = .ok (.iload_n 2, 1) := by decide +kernel
theorem d58_45 : decode (mB m58) 45 = .ok (.iload_n 3, 1) := by decide +kernel
theorem d58_46 : decode (mB m58) 46 = .ok (.invokevirtual 91, 3) := by decide +kernel
theorem d58_49 : decode (mB m58) 49 = .ok (.istore 4, 2) := by decide +kernel
theorem d58_51 : decode (mB m58) 51 = .ok (.aload_n 0, 1) := by decide +kernel
theorem d58_52 : decode (mB m58) 52 = .ok (.iload 4, 2) := by decide +kernel
theorem d58_54 : decode (mB m58) 54 = .ok (.invokevirtual 114, 3) := by decide +kernel
theorem d58_57 : decode (mB m58) 57 = .ok (.ireturn, 1) := by decide +kernel
theorem d59_0 : decode (mB m59) 0 = .ok (.aload_n 0, 1) := by decide +kernel
theorem d59_1 : decode (mB m59) 1 = .ok (.getfield 95, 3) := by decide +kernel
theorem d59_4 : decode (mB m59) 4 = .ok (.iconst 1, 1) := by decide +kernel
theorem d59_5 : decode (mB m59) 5 = .ok (.if_icmp .eq 5, 3) := by decide +kernel
theorem d59_8 : decode (mB m59) 8 = .ok (.iconst (-1), 1) := by decide +kernel
theorem d59_9 : decode (mB m59) 9 = .ok (.ireturn, 1) := by decide +kernel
theorem d59_10 : decode (mB m59) 10 = .ok (.iload_n 1, 1) := by decide +kernel
theorem d59_11 : decode (mB m59) 11 = .ok (.ifCond .lt 11, 3) := by decide +kernel
theorem d59_14 : decode (mB m59) 14 = .ok (.iload_n 1, 1) := by decide +kernel
theorem d59_15 : decode (mB m59) 15 = .ok (.aload_n 0, 1) := by decide +kernel
theorem d59_16 : decode (mB m59) 16 = .ok (.getfield 64, 3) := by decide +kernel
theorem d59_19 : decode (mB m59) 19 = .ok (.if_icmp .lt 5, 3) := by decide +kernel
theorem d59_22 : decode (mB m59) 22 = .ok (.iconst (-1), 1) := by decide +kernel
theorem d59_23 : decode (mB m59) 23 = .ok (.ireturn, 1) := by decide +kernel
theorem d59_24 : decode (mB m59) 24 = .ok (.aload_n 0, 1) := by decide +kernel
theorem d59_25 : decode (mB m59) 25 = .ok (.aload_n 0, 1) := by decide +kernel
theorem d59_26 : decode (mB m59) 26 = .ok (.getfield 21, 3) := by decide +kernel
theorem d59_29 : decode (mB m59) 29 = .ok (.iload_n 1, 1) := by decide +kernel
theorem d59_30 : decode (mB m59) 30 = .ok (.iaload, 1) := by decide +kernel
theorem d59_31 : decode (mB m59) 31 = .ok (.aload_n 0, 1) := by decide +kernel
theorem d59_32 : decode (mB m59) 32 = .ok (.getfield 14, 3) := by decide +kernel
theorem d59_35 : decode (mB m59) 35 = .ok (.iload_n 1, 1) := by decide +kernel
theorem d59_36 : decode (mB m59) 36 = .ok (.iaload, 1) := by decide +kernel
theorem d59_37 : decode (mB m59) 37 = .ok (.aload_n 0, 1) := by decide +kernel
theorem d59_38 : decode (mB m59) 38 = .ok (.getfield 18, 3) := by decide +kernel
theorem d59_41 : decode (mB m59) 41 = .ok (.iload_n 1, 1) := by decide +kernel
theorem d59_42 : decode (mB m59) 42 = .ok (.iaload, 1) := by decide +kernel
theorem d59_43 : decode (mB m59) 43 = .ok (.invokevirtual 117, 3) := by decide +kernel
theorem d59_46 : decode (mB m59) 46 = .ok (.istore_n 2, 1) := by decide +kernel
theorem d59_47 : decode (mB m59) 47 = .ok (.aload_n 0, 1) := by decide +kernel
theorem d59_48 : decode (mB m59) 48 = .ok (.iload_n 2, 1) := by decide +kernel
theorem d59_49 : decode (mB m59) 49 = .ok (.aload_n 0, 1) := by decide +kernel
theorem d59_50 : decode (mB m59) 50 = .ok (.getfield 24, 3) := by decide +kernel
theorem d59_53 : decode (mB m59) 53 = .ok (.iload_n 1, 1) := by decide +kernel
theorem d59_54 : decode (mB m59) 54 = .ok (.iaload, 1) := by decide +kernel
theorem d59_55 : decode (mB m59) 55 = .ok (.invokevirtual 120, 3) := by decide +kernel
theorem d59_58 : decode (mB m59) 58 = .ok (.istore_n 3, 1) := by decide +kernel
theorem d59_59 : decode (mB m59) 59 = .ok (.aload_n 0, 1) := by decide +kernel
theorem d59_60 : decode (mB m59) 60 = .ok (.iload_n 3, 1) := by decide +kernel
theorem d59_61 : decode (mB m59) 61 = .ok (.invokevirtual 114, 3) := by decide +kernel
theorem d59_64 : decode (mB m59) 64 = .ok (.ireturn, 1) := by decide +kernel
theorem d60_0 : decode (mB m60) 0 = .ok (.aload_n 0, 1) := by decide +kernel
theorem d60_1 : decode (mB m60) 1 = .ok (.iload_n 1, 1) := by decide +kernel
theorem d60_2 : decode (mB m60) 2 = .ok (.invokevirtual 179, 3) := by decide +kernel
theorem d60_5 : decode (mB m60) 5 = .ok (.istore_n 2, 1) := by decide +kernel
theorem d60_6 : decode (mB m60) 6 = .ok (.aload_n 0, 1) := by decide +kernel
theorem d60_7 : decode (mB m60) 7 = .ok (.getfield 33, 3) := by decide +kernel
theorem d60_10 : decode (mB m60) 10 = .ok (.iload_n 1, 1) := by decide +kernel
theorem d60_11 : decode (mB m60) 11 = .ok (.iaload, 1) := by decide +kernel
theorem d60_12 : decode (mB m60) 12 = .ok (.istore_n 3, 1) := by decide +kernel
theorem d60_13 : decode (mB m60) 13 = .ok (.aload_n 0, 1) := by decide +kernel
theorem d60_14 : decode (mB m60) 14 = .ok (.getfield 8, 3) := by decide +kernel
theorem d60_17 : decode (mB m60) 17 = .ok (.istore 4, 2) := by decide +kernel
theorem d60_19 : decode (mB m60) 19 = .ok (.iconst 0, 1) := by decide +kernel
theorem d60_20 : decode (mB m60) 20 = .ok (.istore 5, 2) := by decide +kernel
theorem d60_22 : decode (mB m60) 22 = .ok (.iload 5, 2) := by decide +kernel
theorem d60_24 : decode (mB m60) 24 = .ok (.aload_n 0, 1) := by decide +kernel
theorem d60_25 : decode (mB m60) 25 = .ok (.getfield 55, 3) := by decide +kernel
theorem d60_28 : decode (mB m60) 28 = .ok (.if_icmp .ge 72, 3) := by decide +kernel
theorem d60_31 : decode (mB m60) 31 = .ok (.iload 5, 2) := by decide +kernel
theorem d60_33 : decode (mB m60) 33 = .ok (.istore 6, 2) := by decide +kernel
theorem d60_35 : decode (mB m60) 35 = .ok (.iload 6, 2) := by decide +kernel
theorem d60_37 : decode (mB m60) 37 = .ok (.aload_n 0, 1) := by decide +kernel
theorem d60_38 : decode (mB m60) 38 = .ok (.getfield 55, 3) := by decide +kernel
theorem d60_41 : decode (mB m60) 41 = .ok (.if_icmp .ge 53, 3) := by decide +kernel
theorem d60_44 : decode (mB m60) 44 = .ok (.aload_n 0, 1) := by decide +kernel
theorem d60_45 : decode (mB m60) 45 = .ok (.iload_n 2, 1) := by decide +kernel
theorem d60_46 : decode (mB m60) 46 = .ok (.iload 5, 2) := by decide +kernel
theorem d60_48 : decode (mB m60) 48 = .ok (.iload 6, 2) := by decide +kernel
theorem d60_50 : decode (mB m60) 50 = .ok (.invokevirtual 117, 3) := by decide +kernel
theorem d60_53 : decode (mB m60) 53 = .ok (.istore 7, 2) := by decide +kernel
theorem d60_55 : decode (mB m60) 55 = .ok (.aload_n 0, 1) := by decide +kernel
theorem d60_56 : decode (mB m60) 56 = .ok (.iload_n 1, 1) := by decide +kernel
theorem d60_57 : decode (mB m60) 57 = .ok (.iload_n 3, 1) := by decide +kernel
theorem d60_58 : decode (mB m60) 58 = .ok (.iload 5, 2) := by decide +kernel
theorem d60_60 : decode (mB m60) 60 = .ok (.iload 6, 2) := by decide +kernel
theorem d60_62 : decode (mB m60) 62 = .ok (.invokevirtual 176, 3) := by decide +kernel
theorem d60_65 : decode (mB m60) 65 = .ok (.istore 8, 2) := by decide +kernel
theorem d60_67 : decode (mB m60) 67 = .ok (.aload_n 0, 1) := by decide +kernel
theorem d60_68 : decode (mB m60) 68 = .ok (.iload 7, 2) := by decide +kernel
theorem d60_70 : decode (mB m60) 70 = .ok (.iload 8, 2) := by decide +kernel
theorem d60_72 : decode (mB m60) 72 = .ok (.invokevirtual 120, 3) := by decide +kernel
theorem d60_75 : decode (mB m60) 75 = .ok (.istore 9, 2) := by decide +kernel
theorem d60_77 : decode (mB m60) 77 = .ok (.iload 9, 2) := by decide +kernel
theorem d60_79 : decode (mB m60) 79 = .ok (.iload 4, 2) := by decide +kernel
theorem d60_81 : decode (mB m60) 81 = .ok (.if_icmp .ge 7, 3) := by decide +kernel
theorem d60_84 : decode (mB m60) 84 = .ok (.iload 9, 2) := by decide +kernel
theorem d60_86 : decode (mB m60) 86 = .ok (.istore 4, 2) := by decide +kernel
theorem d60_88 : decode (mB m60) 88 = .ok (.iinc 6 1, 3) := by decide +kernel
theorem d60_91 : decode (mB m60) 91 = .ok (.goto (-56), 3) := by decide +kernel
theorem d60_94 : decode (mB m60) 94 = .ok (.iinc 5 1, 3) := by decide +kernel
theorem d60_97 : decode (mB m60) 97 = .ok (.goto (-75), 3) := by decide +kernel
theorem d60_100 : decode (mB m60) 100 = .ok (.iload 4, 2) := by decide +kernel
theorem d60_102 : decode (mB m60) 102 = .ok (.ireturn, 1) := by decide +kernel
theorem d61_0 : decode (mB m61) 0 = .ok (.aload_n 0, 1) := by decide +kernel
theorem d61_1 : decode (mB m61) 1 = .ok (.getfield 95, 3) := by decide +kernel
theorem d61_4 : decode (mB m61) 4 = .ok (.iconst 1, 1) := by decide +kernel
theorem d61_5 : decode (mB m61) 5 = .ok (.if_icmp .eq 5, 3) := by decide +kernel
theorem d61_8 : decode (mB m61) 8 = .ok (.iconst (-1), 1) := by decide +kernel
theorem d61_9 : decode (mB m61) 9 = .ok (.ireturn, 1) := by decide +kernel
theorem d61_10 : decode (mB m61) 10 = .ok (.aload_n 0, 1) := by decide +kernel
theorem d61_11 : decode (mB m61) 11 = .ok (.iload_n 1, 1) := by decide +kernel
theorem d61_12 : decode (mB m61) 12 = .ok (.invokevirtual 123, 3) := by decide +kernel
theorem d61_15 : decode (mB m61) 15 = .ok (.ifCond .ne 5, 3) := by decide +kernel
theorem d61_18 : decode (mB m61) 18 = .ok (.iconst (-1), 1) := by decide +kernel
theorem d61_19 : decode (mB m61) 19 = .ok (.ireturn, 1) := by decide +kernel
theorem d61_20 : decode (mB m61) 20 = .ok (.aload_n 0, 1) := by decide +kernel
theorem d61_21 : decode (mB m61) 21 = .ok (.iload_n 1, 1) := by decide +kernel
theorem d61_22 : decode (mB m61) 22 = .ok (.invokevirtual 126, 3) := by decide +kernel
theorem d61_25 : decode (mB m61) 25 = .ok (.istore_n 2, 1) := by decide +kernel
theorem d61_26 : decode (mB m61) 26 = .ok (.aload_n 0, 1) := by decide +kernel
theorem d61_27 : decode (mB m61) 27 = .ok (.iload_n 2, 1) := by decide +kernel
theorem d61_28 : decode (mB m61) 28 = .ok (.invokevirtual 114, 3) := by decide +kernel
theorem d61_31 : decode (mB m61) 31 = .ok (.ireturn, 1) := by decide +kernel
theorem d62_0 : decode (mB m62) 0 = .ok (.aload_n 0, 1) := by decide +kernel
theorem d62_1 : decode (mB m62) 1 = .ok (.arraylength, 1) := by decide +kernel
theorem d62_2 : decode (mB m62) 2 = .ok (.ifCond .le 9, 3) := by decide +kernel
theorem d62_5 : decode (mB m62) 5 = .ok (.aload_n 0, 1) := by decide +kernel
theorem d62_6 : decode (mB m62) 6 = .ok (.iconst 0, 1) := by decide +kernel
theorem d62_7 : decode (mB m62) 7 = .ok (.iaload, 1) := by decide +kernel
theorem d62_8 : decode (mB m62) 8 = .ok (.goto 4, 3) := by decide +kernel
theorem d62_11 : decode (mB m62) 11 = .ok (.iconst 0, 1) := by decide +kernel
theorem d62_12 : decode (mB m62) 12 = .ok (.istore_n 1, 1) := by decide +kernel
theorem d62_13 : decode (mB m62) 13 = .ok (.new 7, 3) := by decide +kernel
theorem d62_16 : decode (mB m62) 16 = .ok (.dup, 1) := by decide +kernel
theorem d62_17 : decode (mB m62) 17 = .ok (.iload_n 1, 1) := by decide +kernel
theorem d62_18 : decode (mB m62) 18 = .ok (.bipush 7, 2) := by decide +kernel
theorem d62_20 : decode (mB m62) 20 = .ok (.iand, 1) := by decide +kernel
theorem d62_21 : decode (mB m62) 21 = .ok (.invokespecial 9, 3) := by decide +kernel
theorem d62_24 : decode (mB m62) 24 = .ok (.astore_n 2, 1) := by decide +kernel
theorem d62_25 : decode (mB m62) 25 = .ok (.aload_n 2, 1) := by decide +kernel
theorem d62_26 : decode (mB m62) 26 = .ok (.invokevirtual 12, 3) := by decide +kernel
theorem d62_29 : decode (mB m62) 29 = .ok (.istore_n 3, 1) := by decide +kernel
theorem d62_30 : decode (mB m62) 30 = .ok (.iconst 1, 1) := by decide +kernel
theorem d62_31 : decode (mB m62) 31 = .ok (.istore 4, 2) := by decide +kernel
theorem d62_33 : decode (mB m62) 33 = .ok (.iload 4, 2) := by decide +kernel
theorem d62_35 : decode (mB m62) 35 = .ok (.iconst 4, 1) := by decide +kernel
theorem d62_36 : decode (mB m62) 36 = .ok (.iadd, 1) := by decide +kernel
theorem d62_37 : decode (mB m62) 37 = .ok (.aload_n 0, 1) := by decide +kernel
theorem d62_38 : decode (mB m62) 38 = .ok (.arraylength, 1) := by decide +kernel
theorem d62_39 : decode (mB m62) 39 = .ok (.if_icmp .ge 165, 3) := by decide +kernel
theorem d62_42 : decode (mB m62) 42 = .ok (.aload_n 0, 1) := by decide +kernel
theorem d62_43 : decode (mB m62) 43 = .ok (.iload 4, 2) := by decide +kernel
theorem d62_45 : decode (mB m62) 45 = .ok (.iaload, 1) := by decide +kernel
theorem d62_46 : decode (mB m62) 46 = .ok (.bipush 15, 2) := by decide +kernel
theorem d62_48 : decode (mB m62) 48 = .ok (.iand, 1) := by decide +kernel
theorem d62_49 : decode (mB m62) 49 = .ok (.istore 5, 2) := by decide +kernel
theorem d62_51 : decode (mB m62) 51 = .ok (.aload_n 0, 1) := by decide +kernel
theorem d62_52 : decode (mB m62) 52 = .ok (.iload 4, 2) := by decide +kernel
theorem d62_54 : decode (mB m62) 54 = .ok (.iconst 1, 1) := by decide +kernel
theorem d62_55 : decode (mB m62) 55 = .ok (.iadd, 1) := by decide +kernel
theorem d62_56 : decode (mB m62) 56 = .ok (.iaload, 1) := by decide +kernel
theorem d62_57 : decode (mB m62) 57 = .ok (.istore 6, 2) := by decide +kernel
theorem d62_59 : decode (mB m62) 59 = .ok (.aload_n 0, 1) := by decide +kernel
theorem d62_60 : decode (mB m62) 60 = .ok (.iload 4, 2) := by decide +kernel
theorem d62_62 : decode (mB m62) 62 = .ok (.iconst 2, 1) := by decide +kernel
theorem d62_63 : decode (mB m62) 63 = .ok (.iadd, 1) := by decide +kernel
theorem d62_64 : decode (mB m62) 64 = .ok (.iaload, 1) := by decide +kernel
theorem d62_65 : decode (mB m62) 65 = .ok (.istore 7, 2) := by decide +kernel
theorem d62_67 : decode (mB m62) 67 = .ok (.aload_n 0, 1) := by decide +kernel
theorem d62_68 : decode (mB m62) 68 = .ok (.iload 4, 2) := by decide +kernel
theorem d62_70 : decode (mB m62) 70 = .ok (.iconst 3, 1) := by decide +kernel
theorem d62_71 : decode (mB m62) 71 = .ok (.iadd, 1) := by decide +kernel
theorem d62_72 : decode (mB m62) 72 = .ok (.iaload, 1) := by decide +kernel
theorem d62_73 : decode (mB m62) 73 = .ok (.istore 8, 2) := by decide +kernel
theorem d62_75 : decode (mB m62) 75 = .ok (.aload_n 0, 1) := by decide +kernel
theorem d62_76 : decode (mB m62) 76 = .ok (.iload 4, 2) := by decide +kernel
theorem d62_78 : decode (mB m62) 78 = .ok (.iconst 4, 1) := by decide +kernel
theorem d62_79 : decode (mB m62) 79 = .ok (.iadd, 1) := by decide +kernel
theorem d62_80 : decode (mB m62) 80 = .ok (.iaload, 1) := by decide +kernel
theorem d62_81 : decode (mB m62) 81 = .ok (.istore 9, 2) := by decide +kernel
theorem d62_83 : decode (mB m62) 83 = .ok (.iload 5, 2) := by decide +kernel
theorem d62_85 : decode (mB m62) 85 = .ok (.bipush 7, 2) := by decide +kernel
theorem d62_87 : decode (mB m62) 87 = .ok (.if_icmp .ge 44, 3) := by decide +kernel
theorem d62_90 : decode (mB m62) 90 = .ok (.iload 6, 2) := by decide +kernel
theorem d62_92 : decode (mB m62) 92 = .ok (.bipush 7, 2) := by decide +kernel
theorem d62_94 : decode (mB m62) 94 = .ok (.iand, 1) := by decide +kernel
theorem d62_95 : decode (mB m62) 95 = .ok (.iload_n 3, 1) := by decide +kernel
theorem d62_96 : decode (mB m62) 96 = .ok (.irem, 1) := by decide +kernel
theorem d62_97 : decode (mB m62) 97 = .ok (.istore 10, 2) := by decide +kernel
theorem d62_99 : decode (mB m62) 99 = .ok (.iload 10, 2) := by decide +kernel
theorem d62_101 : decode (mB m62) 101 = .ok (.iconst 1, 1) := by decide +kernel
theorem d62_102 : decode (mB m62) 102 = .ok (.iadd, 1) := by decide +kernel
theorem d62_103 : decode (mB m62) 103 = .ok (.iload 7, 2) := by decide +kernel
theorem d62_105 : decode (mB m62) 105 = .ok (.iconst 1, 1) := by decide +kernel
theorem d62_106 : decode (mB m62) 106 = .ok (.iand, 1) := by decide +kernel
theorem d62_107 : decode (mB m62) 107 = .ok (.iadd, 1) := by decide +kernel
theorem d62_108 : decode (mB m62) 108 = .ok (.istore 11, 2) := by decide +kernel
theorem d62_110 : decode (mB m62) 110 = .ok (.aload_n 2, 1) := by decide +kernel
theorem d62_111 : decode (mB m62) 111 = .ok (.iload 10, 2) := by decide +kernel
theorem d62_113 : decode (mB m62) 113 = .ok (.iload 11, 2) := by decide +kernel
theorem d62_115 : decode (mB m62) 115 = .ok (.iload 8, 2) := by decide +kernel
theorem d62_117 : decode (mB m62) 117 = .ok (.iconst 3, 1) := by decide +kernel
theorem d62_118 : decode (mB m62) 118 = .ok (.iand, 1) := by decide +kernel
theorem d62_119 : decode (mB m62) 119 = .ok (.iload 9, 2) := by decide +kernel
theorem d62_121 : decode (mB m62) 121 = .ok (.bipush 127, 2) := by decide +kernel
theorem d62_123 : decode (mB m62) 123 = .ok (.iand, 1) := by decide +kernel
theorem d62_124 : decode (mB m62) 124 = .ok (.invokevirtual 16, 3) := by decide +kernel
theorem d62_127 : decode (mB m62) 127 = .ok (.pop, 1) := by decide +kernel
theorem d62_128 : decode (mB m62) 128 = .ok (.goto 70, 3) := by decide +kernel
theorem d62_131 : decode (mB m62) 131 = .ok (.iload 5, 2) := by decide +kernel
theorem d62_133 : decode (mB m62) 133 = .ok (.bipush 14, 2) := by decide +kernel
theorem d62_135 : decode (mB m62) 135 = .ok (.if_icmp .ge 44, 3) := by decide +kernel
theorem d62_138 : decode (mB m62) 138 = .ok (.iload 7, 2) := by decide +kernel
theorem d62_140 : decode (mB m62) 140 = .ok (.iconst 3, 1) := by decide +kernel
theorem d62_141 : decode (mB m62) 141 = .ok (.iand, 1) := by decide +kernel
theorem d62_142 : decode (mB m62) 142 = .ok (.istore 10, 2) := by decide +kernel
theorem d62_144 : decode (mB m62) 144 = .ok (.iload 9, 2) := by decide +kernel
theorem d62_146 : decode (mB m62) 146 = .ok (.iconst 1, 1) := by decide +kernel
theorem d62_147 : decode (mB m62) 147 = .ok (.iconst 4, 1) := by decide +kernel
theorem d62_148 : decode (mB m62) 148 = .ok (.iload 10, 2) := by decide +kernel
theorem d62_150 : decode (mB m62) 150 = .ok (.imul, 1) := by decide +kernel
theorem d62_151 : decode (mB m62) 151 = .ok (.ishl, 1) := by decide +kernel
theorem d62_152 : decode (mB m62) 152 = .ok (.iconst 1, 1) := by decide +kernel
theorem d62_153 : decode (mB m62) 153 = .ok (.isub, 1) := by decide +kernel
theorem d62_154 : decode (mB m62) 154 = .ok (.iand, 1) := by decide +kernel
theorem d62_155 : decode (mB m62) 155 = .ok (.istore 11, 2) := by decide +kernel
theorem d62_157 : decode (mB m62) 157 = .ok (.aload_n 2, 1) := by decide +kernel
theorem d62_158 : decode (mB m62) 158 = .ok (.iload 6, 2) := by decide +kernel
theorem d62_160 : decode (mB m62) 160 = .ok (.bipush 7, 2) := by decide +kernel
theorem d62_162 : decode (mB m62) 162 = .ok (.iand, 1) := by decide +kernel
theorem d62_163 : decode (mB m62) 163 = .ok (.iload 8, 2) := by decide +kernel
theorem d62_165 : decode (mB m62) 165 = .ok (.bipush 127, 2) := by decide +kernel
theorem d62_167 : decode (mB m62) 167 = .ok (.iand, 1) := by decide +kernel
theorem d62_168 : decode (mB m62) 168 = .ok (.iload 10, 2) := by decide +kernel
theorem d62_170 : decode (mB m62) 170 = .ok (.iload 11, 2) := by decide +kernel
theorem d62_172 : decode (mB m62) 172 = .ok (.invokevirtual 20, 3) := by decide +kernel
theorem d62_175 : decode (mB m62) 175 = .ok (.pop, 1) := by decide +kernel
theorem d62_176 : decode (mB m62) 176 = .ok (.goto 22, 3) := by decide +kernel
theorem d62_179 : decode (mB m62) 179 = .ok (.iload 5, 2) := by decide +kernel
theorem d62_181 : decode (mB m62) 181 = .ok (.bipush 14, 2) := by decide +kernel
theorem d62_183 : decode (mB m62) 183 = .ok (.if_icmp .ne 11, 3) := by decide +kernel
theorem d62_186 : decode (mB m62) 186 = .ok (.aload_n 2, 1) := by decide +kernel
theorem d62_187 : decode (mB m62) 187 = .ok (.invokevirtual 23, 3) := by decide +kernel
theorem d62_190 : decode (mB m62) 190 = .ok (.pop, 1) := by decide +kernel
theorem d62_191 : decode (mB m62) 191 = .ok (.goto 7, 3) := by decide +kernel
theorem d62_194 : decode (mB m62) 194 = .ok (.aload_n 2, 1) := by decide +kernel
theorem d62_195 : decode (mB m62) 195 = .ok (.invokevirtual 27, 3) := by decide +kernel
theorem d62_198 : decode (mB m62) 198 = .ok (.iinc 4 5, 3) := by decide +kernel
theorem d62_201 : decode (mB m62) 201 = .ok (.goto (-168), 3) := by decide +kernel
theorem d62_204 : decode (mB m62) 204 = .ok (.new 7, 3) := by decide +kernel
theorem d62_207 : decode (mB m62) 207 = .ok (.dup, 1) := by decide +kernel
theorem d62_208 : decode (mB m62) 208 = .ok (.iload_n 3, 1) := by decide +kernel
theorem d62_209 : decode (mB m62) 209 = .ok (.invokespecial 9, 3) := by decide +kernel
theorem d62_212 : decode (mB m62) 212 = .ok (.astore 4, 2) := by decide +kernel
theorem d62_214 : decode (mB m62) 214 = .ok (.aload_n 2, 1) := by decide +kernel
theorem d62_215 : decode (mB m62) 215 = .ok (.invokevirtual 30, 3) := by decide +kernel
theorem d62_218 : decode (mB m62) 218 = .ok (.istore 5, 2) := by decide +kernel
theorem d62_220 : decode (mB m62) 220 = .ok (.aload_n 2, 1) := by decide +kernel
theorem d62_221 : decode (mB m62) 221 = .ok (.invokevirtual 33, 3) := by decide +kernel
theorem d62_224 : decode (mB m62) 224 = .ok (.istore 6, 2) := by decide +kernel
theorem d62_226 : decode (mB m62) 226 = .ok (.iconst 0, 1) := by decide +kernel
theorem d62_227 : decode (mB m62) 227 = .ok (.istore 7, 2) := by decide +kernel
theorem d62_229 : decode (mB m62) 229 = .ok (.iload 7, 2) := by decide +kernel
theorem d62_231 : decode (mB m62) 231 = .ok (.iload 5, 2) := by decide +kernel
theorem d62_233 : decode (mB m62) 233 = .ok (.if_icmp .ge 65, 3) := by decide +kernel
theorem d62_236 : decode (mB m62) 236 = .ok (.aload_n 2, 1) := by decide +kernel
theorem d62_237 : decode (mB m62) 237 = .ok (.iload 7, 2) := by decide +kernel
theorem d62_239 : decode (mB m62) 239 = .ok (.iconst 0, 1) := by decide +kernel
theorem d62_240 : decode (mB m62) 240 = .ok (.invokevirtual 36, 3) := by decide +kernel
theorem d62_243 : decode (mB m62) 243 = .ok (.istore 8, 2) := by decide +kernel
theorem d62_245 : decode (mB m62) 245 = .ok (.aload_n 2, 1) := by decide +kernel
theorem d62_246 : decode (mB m62) 246 = .ok (.iload 7, 2) := by decide +kernel
theorem d62_248 : decode (mB m62) 248 = .ok (.iconst 1, 1) := by decide +kernel
theorem d62_249 : decode (mB m62) 249 = .ok (.invokevirtual 36, 3) := by decide +kernel
theorem d62_252 : decode (mB m62) 252 = .ok (.istore 9, 2) := by decide +kernel
theorem d62_254 : decode (mB m62) 254 = .ok (.aload_n 2, 1) := by decide +kernel
theorem d62_255 : decode (mB m62) 255 = .ok (.iload 7, 2) := by decide +kernel
theorem d62_257 : decode (mB m62) 257 = .ok (.iconst 2, 1) := by decide +kernel
theorem d62_258 : decode (mB m62) 258 = .ok (.invokevirtual 36, 3) := by decide +kernel
theorem d62_261 : decode (mB m62) 261 = .ok (.istore 10, 2) := by decide +kernel
theorem d62_263 : decode (mB m62) 263 = .ok (.aload_n 2, 1) := by decide +kernel
theorem d62_264 : decode (mB m62) 264 = .ok (.iload 7, 2) := by decide +kernel
theorem d62_266 : decode (mB m62) 266 = .ok (.iconst 3, 1) := by decide +kernel
theorem d62_267 : decode (mB m62) 267 = .ok (.invokevirtual 36, 3) := by decide +kernel
theorem d62_270 : decode (mB m62) 270 = .ok (.istore 11, 2) := by decide +kernel
theorem d62_272 : decode (mB m62) 272 = .ok (.aload 4, 2) := by decide +kernel
theorem d62_274 : decode (mB m62) 274 = .ok (.iload 8, 2) := by decide +kernel
theorem d62_276 : decode (mB m62) 276 = .ok (.iload 9, 2) := by decide +kernel
theorem d62_278 : decode (mB m62) 278 = .ok (.iload 10, 2) := by decide +kernel
theorem d62_280 : decode (mB m62) 280 = .ok (.iload 11, 2) := by decide +kernel
theorem d62_282 : decode (mB m62) 282 = .ok (.invokevirtual 16, 3) := by decide +kernel
theorem d62_285 : decode (mB m62) 285 = .ok (.iload 7, 2) := by decide +kernel
theorem d62_287 : decode (mB m62) 287 = .ok (.if_icmp .eq 5, 3) := by decide +kernel
theorem d62_290 : decode (mB m62) 290 = .ok (.iconst 0, 1) := by decide +kernel
theorem d62_291 : decode (mB m62) 291 = .ok (.ireturn, 1) := by decide +kernel
theorem d62_292 : decode (mB m62) 292 = .ok (.iinc 7 1, 3) := by decide +kernel
theorem d62_295 : decode (mB m62) 295 = .ok (.goto (-66), 3) := by decide +kernel
theorem d62_298 : decode (mB m62) 298 = .ok (.iconst 0, 1) := by decide +kernel
theorem d62_299 : decode (mB m62) 299 = .ok (.istore 7, 2) := by decide +kernel
theorem d62_301 : decode (mB m62) 301 = .ok (.iload 7, 2) := by decide +kernel
theorem d62_303 : decode (mB m62) 303 = .ok (.iload 6, 2) := by decide +kernel
theorem d62_305 : decode (mB m62) 305 = .ok (.if_icmp .ge 105, 3) := by decide +kernel
theorem d62_308 : decode (mB m62) 308 = .ok (.aload_n 2, 1) := by decide +kernel
theorem d62_309 : decode (mB m62) 309 = .ok (.iload 7, 2) := by decide +kernel
theorem d62_311 : decode (mB m62) 311 = .ok (.iconst 0, 1) := by decide +kernel
theorem d62_312 : decode (mB m62) 312 = .ok (.invokevirtual 40, 3) := by decide +kernel
theorem d62_315 : decode (mB m62) 315 = .ok (.istore 8, 2) := by decide +kernel
theorem d62_317 : decode (mB m62) 317 = .ok (.aload_n 2, 1) := by decide +kernel
theorem d62_318 : decode (mB m62) 318 = .ok (.iload 7, 2) := by decide +kernel
theorem d62_320 : decode (mB m62) 320 = .ok (.iconst 1, 1) := by decide +kernel
theorem d62_321 : decode (mB m62) 321 = .ok (.invokevirtual 40, 3) := by decide +kernel
theorem d62_324 : decode (mB m62) 324 = .ok (.istore 9, 2) := by decide +kernel
theorem d62_326 : decode (mB m62) 326 = .ok (.aload_n 2, 1) := by decide +kernel
theorem d62_327 : decode (mB m62) 327 = .ok (.iload 7, 2) := by decide +kernel
theorem d62_329 : decode (mB m62) 329 = .ok (.iconst 2, 1) := by decide +kernel
theorem d62_330 : decode (mB m62) 330 = .ok (.invokevirtual 40, 3) := by decide +kernel
theorem d62_333 : decode (mB m62) 333 = .ok (.istore 10, 2) := by decide +kernel
theorem d62_335 : decode (mB m62) 335 = .ok (.iconst 0, 1) := by decide +kernel
theorem d62_336 : decode (mB m62) 336 = .ok (.istore 11, 2) := by decide +kernel
theorem d62_338 : decode (mB m62) 338 = .ok (.iconst 0, 1) := by decide +kernel
theorem d62_339 : decode (mB m62) 339 = .ok (.istore 12, 2) := by decide +kernel
theorem d62_341 : decode (mB m62) 341 = .ok (.iload 12, 2) := by decide +kernel
theorem d62_343 : decode (mB m62) 343 = .ok (.iconst 3, 1) := by decide +kernel
theorem d62_344 : decode (mB m62) 344 = .ok (.if_icmp .ge 40, 3) := by decide +kernel
theorem d62_347 : decode (mB m62) 347 = .ok (.iload 12, 2) := by decide +kernel
theorem d62_349 : decode (mB m62) 349 = .ok (.iload 10, 2) := by decide +kernel
theorem d62_351 : decode (mB m62) 351 = .ok (.if_icmp .ge 27, 3) := by decide +kernel
theorem d62_354 : decode (mB m62) 354 = .ok (.aload_n 2, 1) := by decide +kernel
theorem d62_355 : decode (mB m62) 355 = .ok (.iload 7, 2) := by decide +kernel
theorem d62_357 : decode (mB m62) 357 = .ok (.iconst 3, 1) := by decide +kernel
theorem d62_358 : decode (mB m62) 358 = .ok (.iload 12, 2) := by decide +kernel
theorem d62_360 : decode (mB m62) 360 = .ok (.iadd, 1) := by decide +kernel
theorem d62_361 : decode (mB m62) 361 = .ok (.invokevirtual 40, 3) := by decide +kernel
theorem d62_364 : decode (mB m62) 364 = .ok (.istore 13, 2) := by decide +kernel
theorem d62_366 : decode (mB m62) 366 = .ok (.iload 11, 2) := by decide +kernel
theorem d62_368 : decode (mB m62) 368 = .ok (.iload 13, 2) := by decide +kernel
theorem d62_370 : decode (mB m62) 370 = .ok (.iconst 4, 1) := by decide +kernel
theorem d62_371 : decode (mB m62) 371 = .ok (.iload 12, 2) := by decide +kernel
theorem d62_373 : decode (mB m62) 373 = .ok (.imul, 1) := by decide +kernel
theorem d62_374 : decode (mB m62) 374 = .ok (.ishl, 1) := by decide +kernel
theorem d62_375 : decode (mB m62) 375 = .ok (.iadd, 1) := by decide +kernel
theorem d62_376 : decode (mB m62) 376 = .ok (.istore 11, 2) := by decide +kernel
theorem d62_378 : decode (mB m62) 378 = .ok (.iinc 12 1, 3) := by decide +kernel
theorem d62_381 : decode (mB m62) 381 = .ok (.goto (-40), 3) := by decide +kernel
theorem d62_384 : decode (mB m62) 384 = .ok (.aload 4, 2) := by decide +kernel
theorem d62_386 : decode (mB m62) 386 = .ok (.iload 8, 2) := by decide +kernel
theorem d62_388 : decode (mB m62) 388 = .ok (.iload 9, 2) := by decide +kernel
theorem d62_390 : decode (mB m62) 390 = .ok (.iload 10, 2) := by decide +kernel
theorem d62_392 : decode (mB m62) 392 = .ok (.iload 11, 2) := by decide +kernel
theorem d62_394 : decode (mB m62) 394 = .ok (.invokevirtual 20, 3) := by decide +kernel
theorem d62_397 : decode (mB m62) 397 = .ok (.iload 7, 2) := by decide +kernel
theorem d62_399 : decode (mB m62) 399 = .ok (.if_icmp .eq 5, 3) := by decide +kernel
theorem d62_402 : decode (mB m62) 402 = .ok (.iconst 0, 1) := by decide +kernel
theorem d62_403 : decode (mB m62) 403 = .ok (.ireturn, 1) := by decide +kernel
theorem d62_404 : decode (mB m62) 404 = .ok (.iinc 7 1, 3) := by decide +kernel
theorem d62_407 : decode (mB m62) 407 = .ok (.goto (-106), 3) := by decide +kernel
theorem d62_410 : decode (mB m62) 410 = .ok (.iload_n 1, 1) := by decide +kernel
theorem d62_411 : decode (mB m62) 411 = .ok (.iconst 3, 1) := by decide +kernel
theorem d62_412 : decode (mB m62) 412 = .ok (.ishr, 1) := by decide +kernel
theorem d62_413 : decode (mB m62) 413 = .ok (.iconst 1, 1) := by decide +kernel
theorem d62_414 : decode (mB m62) 414 = .ok (.iand, 1) := by decide +kernel
theorem d62_415 : decode (mB m62) 415 = .ok (.istore 7, 2) := by decide +kernel
theorem d62_417 : decode (mB m62) 417 = .ok (.iload_n 1, 1) := by decide +kernel
theorem d62_418 : decode (mB m62) 418 = .ok (.iconst 4, 1) := by decide +kernel
theorem d62_419 : decode (mB m62) 419 = .ok (.ishr, 1) := by decide +kernel
theorem d62_420 : decode (mB m62) 420 = .ok (.bipush 7, 2) := by decide +kernel
theorem d62_422 : decode (mB m62) 422 = .ok (.iand, 1) := by decide +kernel
theorem d62_423 : decode (mB m62) 423 = .ok (.istore 8, 2) := by decide +kernel
theorem d62_425 : decode (mB m62) 425 = .ok (.iload_n 1, 1) := by decide +kernel
theorem d62_426 : decode (mB m62) 426 = .ok (.bipush 7, 2) := by decide +kernel
theorem d62_428 : decode (mB m62) 428 = .ok (.ishr, 1) := by decide +kernel
theorem d62_429 : decode (mB m62) 429 = .ok (.bipush 7, 2) := by decide +kernel
theorem d62_431 : decode (mB m62) 431 = .ok (.iand, 1) := by decide +kernel
theorem d62_432 : decode (mB m62) 432 = .ok (.istore 9, 2) := by decide +kernel
theorem d62_434 : decode (mB m62) 434 = .ok (.iload_n 1, 1) := by decide +kernel
theorem d62_435 : decode (mB m62) 435 = .ok (.bipush 10, 2) := by decide +kernel
theorem d62_437 : decode (mB m62) 437 = .ok (.ishr, 1) := by decide +kernel
theorem d62_438 : decode (mB m62) 438 = .ok (.bipush 127, 2) := by decide +kernel
theorem d62_440 : decode (mB m62) 440 = .ok (.iand, 1) := by decide +kernel
theorem d62_441 : decode (mB m62) 441 = .ok (.istore 10, 2) := by decide +kernel
theorem d62_443 : decode (mB m62) 443 = .ok (.iload_n 1, 1) := by decide +kernel
theorem d62_444 : decode (mB m62) 444 = .ok (.bipush 17, 2) := by decide +kernel
theorem d62_446 : decode (mB m62) 446 = .ok (.ishr, 1) := by decide +kernel
theorem d62_447 : decode (mB m62) 447 = .ok (.iconst 3, 1) := by decide +kernel
theorem d62_448 : decode (mB m62) 448 = .ok (.iand, 1) := by decide +kernel
theorem d62_449 : decode (mB m62) 449 = .ok (.istore 11, 2) := by decide +kernel
theorem d62_451 : decode (mB m62) 451 = .ok (.iload_n 1, 1) := by decide +kernel
theorem d62_452 : decode (mB m62) 452 = .ok (.bipush 19, 2) := by decide +kernel
theorem d62_454 : decode (mB m62) 454 = .ok (.ishr, 1) := by decide +kernel
theorem d62_455 : decode (mB m62) 455 = .ok (.iconst 1, 1) := by decide +kernel
theorem d62_456 : decode (mB m62) 456 = .ok (.iconst 4, 1) := by decide +kernel
theorem d62_457 : decode (mB m62) 457 = .ok (.iload 11, 2) := by decide +kernel
theorem d62_459 : decode (mB m62) 459 = .ok (.imul, 1) := by decide +kernel
theorem d62_460 : decode (mB m62) 460 = .ok (.ishl, 1) := by decide +kernel
theorem d62_461 : decode (mB m62) 461 = .ok (.iconst 1, 1) := by decide +kernel
theorem d62_462 : decode (mB m62) 462 = .ok (.isub, 1) := by decide +kernel
theorem d62_463 : decode (mB m62) 463 = .ok (.iand, 1) := by decide +kernel
theorem d62_464 : decode (mB m62) 464 = .ok (.istore 12, 2) := by decide +kernel
theorem d62_466 : decode (mB m62) 466 = .ok (.iload_n 1, 1) := by decide +kernel
theorem d62_467 : decode (mB m62) 467 = .ok (.bipush 19, 2) := by decide +kernel
theorem d62_469 : decode (mB m62) 469 = .ok (.ishr, 1) := by decide +kernel
theorem d62_470 : decode (mB m62) 470 = .ok (.bipush 7, 2) := by decide +kernel
theorem d62_472 : decode (mB m62) 472 = .ok (.iand, 1) := by decide +kernel
theorem d62_473 : decode (mB m62) 473 = .ok (.istore 13, 2) := by decide +kernel
theorem d62_475 : decode (mB m62) 475 = .ok (.iload 7, 2) := by decide +kernel
theorem d62_477 : decode (mB m62) 477 = .ok (.ifCond .ne 19, 3) := by decide +kernel
theorem d62_480 : decode (mB m62) 480 = .ok (.aload 4, 2) := by decide +kernel
theorem d62_482 : decode (mB m62) 482 = .ok (.iload 8, 2) := by decide +kernel
theorem d62_484 : decode (mB m62) 484 = .ok (.iload 9, 2) := by decide +kernel
theorem d62_486 : decode (mB m62) 486 = .ok (.iload 13, 2) := by decide +kernel
theorem d62_488 : decode (mB m62) 488 = .ok (.iload 10, 2) := by decide +kernel
theorem d62_490 : decode (mB m62) 490 = .ok (.invokevirtual 16, 3) := by decide +kernel
theorem d62_493 : decode (mB m62) 493 = .ok (.goto 16, 3) := by decide +kernel
theorem d62_496 : decode (mB m62) 496 = .ok (.aload 4, 2) := by decide +kernel
theorem d62_498 : decode (mB m62) 498 = .ok (.iload 8, 2) := by decide +kernel
theorem d62_500 : decode (mB m62) 500 = .ok (.iload 10, 2) := by decide +kernel
theorem d62_502 : decode (mB m62) 502 = .ok (.iload 11, 2) := by decide +kernel
theorem d62_504 : decode (mB m62) 504 = .ok (.iload 12, 2) := by decide +kernel
theorem d62_506 : decode (mB m62) 506 = .ok (.invokevirtual 20, 3) := by decide +kernel
theorem d62_509 : decode (mB m62) 509 = .ok (.istore 14, 2) := by decide +kernel
theorem d62_511 : decode (mB m62) 511 = .ok (.iload 14, 2) := by decide +kernel
theorem d62_513 : decode (mB m62) 513 = .ok (.ifCond .lt 7, 3) := by decide +kernel
theorem d62_516 : decode (mB m62) 516 = .ok (.iconst 1, 1) := by decide +kernel
theorem d62_517 : decode (mB m62) 517 = .ok (.goto 4, 3) := by decide +kernel
theorem d62_520 : decode (mB m62) 520 = .ok (.iconst 0, 1) := by decide +kernel
theorem d62_521 : decode (mB m62) 521 = .ok (.istore 15, 2) := by decide +kernel
theorem d62_523 : decode (mB m62) 523 = .ok (.iload 15, 2) := by decide +kernel
theorem d62_525 : decode (mB m62) 525 = .ok (.ifCond .eq 22, 3) := by decide +kernel
theorem d62_528 : decode (mB m62) 528 = .ok (.iload 14, 2) := by decide +kernel
theorem d62_530 : decode (mB m62) 530 = .ok (.iload 7, 2) := by decide +kernel
theorem d62_532 : decode (mB m62) 532 = .ok (.ifCond .ne 8, 3) := by decide +kernel
theorem d62_535 : decode (mB m62) 535 = .ok (.iload 5, 2) := by decide +kernel
theorem d62_537 : decode (mB m62) 537 = .ok (.goto 5, 3) := by decide +kernel
theorem d62_540 : decode (mB m62) 540 = .ok (.iload 6, 2) := by decide +kernel
theorem d62_542 : decode (mB m62) 542 = .ok (.if_icmp .eq 5, 3) := by decide +kernel
theorem d62_545 : decode (mB m62) 545 = .ok (.iconst 0, 1) := by decide +kernel
theorem d62_546 : decode (mB m62) 546 = .ok (.ireturn, 1) := by decide +kernel
theorem d62_547 : decode (mB m62) 547 = .ok (.iload 15, 2) := by decide +kernel
theorem d62_549 : decode (mB m62) 549 = .ok (.ifCond .ne 11, 3) := by decide +kernel
theorem d62_552 : decode (mB m62) 552 = .ok (.iload 14, 2) := by decide +kernel
theorem d62_554 : decode (mB m62) 554 = .ok (.iconst (-1), 1) := by decide +kernel
theorem d62_555 : decode (mB m62) 555 = .ok (.if_icmp .eq 5, 3) := by decide +kernel
theorem d62_558 : decode (mB m62) 558 = .ok (.iconst 0, 1) := by decide +kernel
theorem d62_559 : decode (mB m62) 559 = .ok (.ireturn, 1) := by decide +kernel
theorem d62_560 : decode (mB m62) 560 = .ok (.aload 4, 2) := by decide +kernel
theorem d62_562 : decode (mB m62) 562 = .ok (.invokevirtual 30, 3) := by decide +kernel
theorem d62_565 : decode (mB m62) 565 = .ok (.iload 5, 2) := by decide +kernel
theorem d62_567 : decode (mB m62) 567 = .ok (.iload 15, 2) := by decide +kernel
theorem d62_569 : decode (mB m62) 569 = .ok (.ifCond .eq 12, 3) := by decide +kernel
theorem d62_572 : decode (mB m62) 572 = .ok (.iload 7, 2) := by decide +kernel
theorem d62_574 : decode (mB m62) 574 = .ok (.ifCond .ne 7, 3) := by decide +kernel
theorem d62_577 : decode (mB m62) 577 = .ok (.iconst 1, 1) := by decide +kernel
theorem d62_578 : decode (mB m62) 578 = .ok (.goto 4, 3) := by decide +kernel
theorem d62_581 : decode (mB m62) 581 = .ok (.iconst 0, 1) := by decide +kernel
theorem d62_582 : decode (mB m62) 582 = .ok (.iadd, 1) := by decide +kernel
theorem d62_583 : decode (mB m62) 583 = .ok (.if_icmp .eq 5, 3) := by decide +kernel
theorem d62_586 : decode (mB m62) 586 = .ok (.iconst 0, 1) := by decide +kernel
theorem d62_587 : decode (mB m62) 587 = .ok (.ireturn, 1) := by decide +kernel
theorem d62_588 : decode (mB m62) 588 = .ok (.aload 4, 2) := by decide +kernel
theorem d62_590 : decode (mB m62) 590 = .ok (.invokevirtual 33, 3) := by decide +kernel
theorem d62_593 : decode (mB m62) 593 = .ok (.iload 6, 2) := by decide +kernel
theorem d62_595 : decode (mB m62) 595 = .ok (.iload 15, 2) := by decide +kernel
theorem d62_597 : decode (mB m62) 597 = .ok (.ifCond .eq 13, 3) := by decide +kernel
theorem d62_600 : decode (mB m62) 600 = .ok (.iload 7, 2) := by decide +kernel
theorem d62_602 : decode (mB m62) 602 = .ok (.iconst 1, 1) := by decide +kernel
theorem d62_603 : decode (mB m62) 603 = .ok (.if_icmp .ne 7, 3) := by decide +kernel
theorem d62_606 : decode (mB m62) 606 = .ok (.iconst 1, 1) := by decide +kernel
theorem d62_607 : decode (mB m62) 607 = .ok (.goto 4, 3) := by decide +kernel
theorem d62_610 : decode (mB m62) 610 = .ok (.iconst 0, 1) := by decide +kernel
theorem d62_611 : decode (mB m62) 611 = .ok (.iadd, 1) := by decide +kernel
theorem d62_612 : decode (mB m62) 612 = .ok (.if_icmp .eq 5, 3) := by decide +kernel
theorem d62_615 : decode (mB m62) 615 = .ok (.iconst 0, 1) := by decide +kernel
theorem d62_616 : decode (mB m62) 616 = .ok (.ireturn, 1) := by decide +kernel
theorem d62_617 : decode (mB m62) 617 = .ok (.aload_n 2, 1) := by decide +kernel
theorem d62_618 : decode (mB m62) 618 = .ok (.invokevirtual 23, 3) := by decide +kernel
theorem d62_621 : decode (mB m62) 621 = .ok (.pop, 1) := by decide +kernel
theorem d62_622 : decode (mB m62) 622 = .ok (.aload 4, 2) := by decide +kernel
theorem d62_624 : decode (mB m62) 624 = .ok (.invokevirtual 23, 3) := by decide +kernel
theorem d62_627 : decode (mB m62) 627 = .ok (.pop, 1) := by decide +kernel
theorem d62_628 : decode (mB m62) 628 = .ok (.aload_n 2, 1) := by decide +kernel
theorem d62_629 : decode (mB m62) 629 = .ok (.invokevirtual 43, 3) := by decide +kernel
theorem d62_632 : decode (mB m62) 632 = .ok (.iconst 1, 1) := by decide +kernel
theorem d62_633 : decode (mB m62) 633 = .ok (.if_icmp .ne 14, 3) := by decide +kernel
theorem d62_636 : decode (mB m62) 636 = .ok (.aload 4, 2) := by decide +kernel
theorem d62_638 : decode (mB m62) 638 = .ok (.invokevirtual 43, 3) := by decide +kernel
theorem d62_641 : decode (mB m62) 641 = .ok (.iconst 1, 1) := by decide +kernel
theorem d62_642 : decode (mB m62) 642 = .ok (.if_icmp .eq 5, 3) := by decide +kernel
theorem d62_645 : decode (mB m62) 645 = .ok (.iconst 0, 1) := by decide +kernel
theorem d62_646 : decode (mB m62) 646 = .ok (.ireturn, 1) := by decide +kernel
theorem d62_647 : decode (mB m62) 647 = .ok (.iload 15, 2) := by decide +kernel
theorem d62_649 : decode (mB m62) 649 = .ok (.ifCond .ne 17, 3) := by decide +kernel
theorem d62_652 : decode (mB m62) 652 = .ok (.aload_n 2, 1) := by decide +kernel
theorem d62_653 : decode (mB m62) 653 = .ok (.invokevirtual 43, 3) := by decide +kernel
theorem d62_656 : decode (mB m62) 656 = .ok (.aload 4, 2) := by decide +kernel
theorem d62_658 : decode (mB m62) 658 = .ok (.invokevirtual 43, 3) := by decide +kernel
theorem d62_661 : decode (mB m62) 661 = .ok (.if_icmp .eq 5, 3) := by decide +kernel
theorem d62_664 : decode (mB m62) 664 = .ok (.iconst 0, 1) := by decide +kernel
theorem d62_665 : decode (mB m62) 665 = .ok (.ireturn, 1) := by decide +kernel
theorem d62_666 : decode (mB m62) 666 = .ok (.aload_n 2, 1) := by decide +kernel
theorem d62_667 : decode (mB m62) 667 = .ok (.invokevirtual 46, 3) := by decide +kernel
theorem d62_670 : decode (mB m62) 670 = .ok (.aload 4, 2) := by decide +kernel
theorem d62_672 : decode (mB m62) 672 = .ok (.invokevirtual 46, 3) := by decide +kernel
theorem d62_675 : decode (mB m62) 675 = .ok (.iload 15, 2) := by decide +kernel
theorem d62_677 : decode (mB m62) 677 = .ok (.invokestatic 49, 3) := by decide +kernel
theorem d62_680 : decode (mB m62) 680 = .ok (.ifCond .ne 5, 3) := by decide +kernel
theorem d62_683 : decode (mB m62) 683 = .ok (.iconst 0, 1) := by decide +kernel
theorem d62_684 : decode (mB m62) 684 = .ok (.ireturn, 1) := by decide +kernel
theorem d62_685 : decode (mB m62) 685 = .ok (.iconst 0, 1) := by decide +kernel
theorem d62_686 : decode (mB m62) 686 = .ok (.istore 16, 2) := by decide +kernel
theorem d62_688 : decode (mB m62) 688 = .ok (.iload 16, 2) := by decide +kernel
theorem d62_690 : decode (mB m62) 690 = .ok (.sipush 1024, 3) := by decide +kernel
theorem d62_693 : decode (mB m62) 693 = .ok (.if_icmp .ge 70, 3) := by decide +kernel
theorem d62_696 : decode (mB m62) 696 = .ok (.aload_n 2, 1) := by decide +kernel
theorem d62_697 : decode (mB m62) 697 = .ok (.iload 16, 2) := by decide +kernel
theorem d62_699 : decode (mB m62) 699 = .ok (.bipush 6, 2) := by decide +kernel
theorem d62_701 : decode (mB m62) 701 = .ok (.ishr, 1) := by decide +kernel
theorem d62_702 : decode (mB m62) 702 = .ok (.iload 16, 2) := by decide +kernel
theorem d62_704 : decode (mB m62) 704 = .ok (.iconst 3, 1) := by decide +kernel
theorem d62_705 : decode (mB m62) 705 = .ok (.ishr, 1) := by decide +kernel
theorem d62_706 : decode (mB m62) 706 = .ok (.bipush 7, 2) := by decide +kernel
theorem d62_708 : decode (mB m62) 708 = .ok (.iand, 1) := by decide +kernel
theorem d62_709 : decode (mB m62) 709 = .ok (.iload 16, 2) := by decide +kernel
theorem d62_711 : decode (mB m62) 711 = .ok (.bipush 7, 2) := by decide +kernel
theorem d62_713 : decode (mB m62) 713 = .ok (.iand, 1) := by decide +kernel
theorem d62_714 : decode (mB m62) 714 = .ok (.invokevirtual 55, 3) := by decide +kernel
theorem d62_717 : decode (mB m62) 717 = .ok (.istore 17, 2) := by decide +kernel
theorem d62_719 : decode (mB m62) 719 = .ok (.aload 4, 2) := by decide +kernel
theorem d62_721 : decode (mB m62) 721 = .ok (.iload 16, 2) := by decide +kernel
theorem d62_723 : decode (mB m62) 723 = .ok (.bipush 6, 2) := by decide +kernel
theorem d62_725 : decode (mB m62) 725 = .ok (.ishr, 1) := by decide +kernel
theorem d62_726 : decode (mB m62) 726 = .ok (.iload 16, 2) := by decide +kernel
theorem d62_728 : decode (mB m62) 728 = .ok (.iconst 3, 1) := by decide +kernel
theorem d62_729 : decode (mB m62) 729 = .ok (.ishr, 1) := by decide +kernel
theorem d62_730 : decode (mB m62) 730 = .ok (.bipush 7, 2) := by decide +kernel
theorem d62_732 : decode (mB m62) 732 = .ok (.iand, 1) := by decide +kernel
theorem d62_733 : decode (mB m62) 733 = .ok (.iload 16, 2) := by decide +kernel
theorem d62_735 : decode (mB m62) 735 = .ok (.bipush 7, 2) := by decide +kernel
theorem d62_737 : decode (mB m62) 737 = .ok (.iand, 1) := by decide +kernel
theorem d62_738 : decode (mB m62) 738 = .ok (.invokevirtual 55, 3) := by decide +kernel
theorem d62_741 : decode (mB m62) 741 = .ok (.istore 18, 2) := by decide +kernel
theorem d62_743 : decode (mB m62) 743 = .ok (.iload 17, 2) := by decide +kernel
theorem d62_745 : decode (mB m62) 745 = .ok (.iload 18, 2) := by decide +kernel
theorem d62_747 : decode (mB m62) 747 = .ok (.iload 15, 2) := by decide +kernel
theorem d62_749 : decode (mB m62) 749 = .ok (.invokestatic 49, 3) := by decide +kernel
theorem d62_752 : decode (mB m62) 752 = .ok (.ifCond .ne 5, 3) := by decide +kernel
theorem d62_755 : decode (mB m62) 755 = .ok (.iconst 0, 1) := by decide +kernel
theorem d62_756 : decode (mB m62) 756 = .ok (.ireturn, 1) := by decide +kernel
theorem d62_757 : decode (mB m62) 757 = .ok (.iinc 16 1, 3) := by decide +kernel
theorem d62_760 : decode (mB m62) 760 = .ok (.goto (-72), 3) := by decide +kernel
theorem d62_763 : decode (mB m62) 763 = .ok (.iconst 0, 1) := by decide +kernel
theorem d62_764 : decode (mB m62) 764 = .ok (.istore 16, 2) := by decide +kernel
theorem d62_766 : decode (mB m62) 766 = .ok (.iload 16, 2) := by decide +kernel
theorem d62_768 : decode (mB m62) 768 = .ok (.bipush 16, 2) := by decide +kernel
theorem d62_770 : decode (mB m62) 770 = .ok (.if_icmp .ge 40, 3) := by decide +kernel
theorem d62_773 : decode (mB m62) 773 = .ok (.aload_n 2, 1) := by decide +kernel
theorem d62_774 : decode (mB m62) 774 = .ok (.iload 16, 2) := by decide +kernel
theorem d62_776 : decode (mB m62) 776 = .ok (.invokevirtual 59, 3) := by decide +kernel
theorem d62_779 : decode (mB m62) 779 = .ok (.istore 17, 2) := by decide +kernel
theorem d62_781 : decode (mB m62) 781 = .ok (.aload 4, 2) := by decide +kernel
theorem d62_783 : decode (mB m62) 783 = .ok (.iload 16, 2) := by decide +kernel
theorem d62_785 : decode (mB m62) 785 = .ok (.invokevirtual 59, 3) := by decide +kernel
theorem d62_788 : decode (mB m62) 788 = .ok (.istore 18, 2) := by decide +kernel
theorem d62_790 : decode (mB m62) 790 = .ok (.iload 17, 2) := by decide +kernel
theorem d62_792 : decode (mB m62) 792 = .ok (.iload 18, 2) := by decide +kernel
theorem d62_794 : decode (mB m62) 794 = .ok (.iload 15, 2) := by decide +kernel
theorem d62_796 : decode (mB m62) 796 = .ok (.invokestatic 49, 3) := by decide +kernel
theorem d62_799 : decode (mB m62) 799 = .ok (.ifCond .ne 5, 3) := by decide +kernel
theorem d62_802 : decode (mB m62) 802 = .ok (.iconst 0, 1) := by decide +kernel
theorem d62_803 : decode (mB m62) 803 = .ok (.ireturn, 1) := by decide +kernel
theorem d62_804 : decode (mB m62) 804 = .ok (.iinc 16 1, 3) := by decide +kernel
theorem d62_807 : decode (mB m62) 807 = .ok (.goto (-41), 3) := by decide +kernel
theorem d62_810 : decode (mB m62) 810 = .ok (.iconst 0, 1) := by decide +kernel
theorem d62_811 : decode (mB m62) 811 = .ok (.istore 16, 2) := by decide +kernel
theorem d62_813 : decode (mB m62) 813 = .ok (.iload 16, 2) := by decide +kernel
theorem d62_815 : decode (mB m62) 815 = .ok (.bipush 12, 2) := by decide +kernel
theorem d62_817 : decode (mB m62) 817 = .ok (.if_icmp .ge 40, 3) := by decide +kernel
theorem d62_820 : decode (mB m62) 820 = .ok (.aload_n 2, 1) := by decide +kernel
theorem d62_821 : decode (mB m62) 821 = .ok (.iload 16, 2) := by decide +kernel
theorem d62_823 : decode (mB m62) 823 = .ok (.invokevirtual 63, 3) := by decide +kernel
theorem d62_826 : decode (mB m62) 826 = .ok (.istore 17, 2) := by decide +kernel
theorem d62_828 : decode (mB m62) 828 = .ok (.aload 4, 2) := by decide +kernel
theorem d62_830 : decode (mB m62) 830 = .ok (.iload 16, 2) := by decide +kernel
theorem d62_832 : decode (mB m62) 832 = .ok (.invokevirtual 63, 3) := by decide +kernel
theorem d62_835 : decode (mB m62) 835 = .ok (.istore 18, 2) := by decide +kernel
theorem d62_837 : decode (mB m62) 837 = .ok (.iload 17, 2) := by decide +kernel
theorem d62_839 : decode (mB m62) 839 = .ok (.iload 18, 2) := by decide +kernel
theorem d62_841 : decode (mB m62) 841 = .ok (.iload 15, 2) := by decide +kernel
theorem d62_843 : decode (mB m62) 843 = .ok (.invokestatic 49, 3) := by decide +kernel
theorem d62_846 : decode (mB m62) 846 = .ok (.ifCond .ne 5, 3) := by decide +kernel
theorem d62_849 : decode (mB m62) 849 = .ok (.iconst 0, 1) := by decide +kernel
theorem d62_850 : decode (mB m62) 850 = .ok (.ireturn, 1) := by decide +kernel
theorem d62_851 : decode (mB m62) 851 = .ok (.iinc 16 1, 3) := by decide +kernel
theorem d62_854 : decode (mB m62) 854 = .ok (.goto (-41), 3) := by decide +kernel
theorem d62_857 : decode (mB m62) 857 = .ok (.iconst 1, 1) := by decide +kernel
theorem d62_858 : decode (mB m62) 858 = .ok (.ireturn, 1) := by decide +kernel
theorem cb_6 : (6 : Int32) = (Int8.ofInt (6)).toInt32 := by decide
theorem cb_7 : (7 : Int32) = (Int8.ofInt (7)).toInt32 := by decide
theorem cb_8 : (8 : Int32) = (Int8.ofInt (8)).toInt32 := by decide
theorem cb_10 : (10 : Int32) = (Int8.ofInt (10)).toInt32 := by decide
theorem cb_12 : (12 : Int32) = (Int8.ofInt (12)).toInt32 := by decide
theorem cb_14 : (14 : Int32) = (Int8.ofInt (14)).toInt32 := by decide
theorem cb_15 : (15 : Int32) = (Int8.ofInt (15)).toInt32 := by decide
theorem cb_16 : (16 : Int32) = (Int8.ofInt (16)).toInt32 := by decide
theorem cb_17 : (17 : Int32) = (Int8.ofInt (17)).toInt32 := by decide
theorem cb_19 : (19 : Int32) = (Int8.ofInt (19)).toInt32 := by decide
theorem cb_24 : (24 : Int32) = (Int8.ofInt (24)).toInt32 := by decide
theorem cb_36 : (36 : Int32) = (Int8.ofInt (36)).toInt32 := by decide
theorem cb_64 : (64 : Int32) = (Int8.ofInt (64)).toInt32 := by decide
theorem cb_100 : (100 : Int32) = (Int8.ofInt (100)).toInt32 := by decide
theorem cb_127 : (127 : Int32) = (Int8.ofInt (127)).toInt32 := by decide
theorem ci_m1 : (-1 : Int32) = Int32.ofInt (-1) := by decide
theorem ci_0 : (0 : Int32) = Int32.ofInt (0) := by decide
theorem ci_1 : (1 : Int32) = Int32.ofInt (1) := by decide
theorem ci_2 : (2 : Int32) = Int32.ofInt (2) := by decide
theorem ci_3 : (3 : Int32) = Int32.ofInt (3) := by decide
theorem ci_4 : (4 : Int32) = Int32.ofInt (4) := by decide
theorem ci_5 : (5 : Int32) = Int32.ofInt (5) := by decide
theorem cs_1024 : (1024 : Int32) = (Int16.ofInt (1024)).toInt32 := by decide
theorem cs_3072 : (3072 : Int32) = (Int16.ofInt (3072)).toInt32 := by decide
theorem j_1_9 : 0 ≤ ((1 : Nat) : Int) + (9) ∧ (((1 : Nat) : Int) + (9)).toNat = 10 := by decide
theorem j_1_11 : 0 ≤ ((1 : Nat) : Int) + (11) ∧ (((1 : Nat) : Int) + (11)).toNat = 12 := by decide
theorem j_1_12 : 0 ≤ ((1 : Nat) : Int) + (12) ∧ (((1 : Nat) : Int) + (12)).toNat = 13 := by decide
theorem j_1_13 : 0 ≤ ((1 : Nat) : Int) + (13) ∧ (((1 : Nat) : Int) + (13)).toNat = 14 := by decide
theorem j_1_14 : 0 ≤ ((1 : Nat) : Int) + (14) ∧ (((1 : Nat) : Int) + (14)).toNat = 15 := by decide
theorem j_1_15 : 0 ≤ ((1 : Nat) : Int) + (15) ∧ (((1 : Nat) : Int) + (15)).toNat = 16 := by decide
theorem j_1_18 : 0 ≤ ((1 : Nat) : Int) + (18) ∧ (((1 : Nat) : Int) + (18)).toNat = 19 := by decide
theorem j_2_5 : 0 ≤ ((2 : Nat) : Int) + (5) ∧ (((2 : Nat) : Int) + (5)).toNat = 7 := by decide
theorem j_2_9 : 0 ≤ ((2 : Nat) : Int) + (9) ∧ (((2 : Nat) : Int) + (9)).toNat = 11 := by decide
theorem j_2_12 : 0 ≤ ((2 : Nat) : Int) + (12) ∧ (((2 : Nat) : Int) + (12)).toNat = 14 := by decide
theorem j_4_5 : 0 ≤ ((4 : Nat) : Int) + (5) ∧ (((4 : Nat) : Int) + (5)).toNat = 9 := by decide
theorem j_5_5 : 0 ≤ ((5 : Nat) : Int) + (5) ∧ (((5 : Nat) : Int) + (5)).toNat = 10 := by decide
theorem j_5_7 : 0 ≤ ((5 : Nat) : Int) + (7) ∧ (((5 : Nat) : Int) + (7)).toNat = 12 := by decide
theorem j_5_11 : 0 ≤ ((5 : Nat) : Int) + (11) ∧ (((5 : Nat) : Int) + (11)).toNat = 16 := by decide
theorem j_5_19 : 0 ≤ ((5 : Nat) : Int) + (19) ∧ (((5 : Nat) : Int) + (19)).toNat = 24 := by decide
theorem j_5_28 : 0 ≤ ((5 : Nat) : Int) + (28) ∧ (((5 : Nat) : Int) + (28)).toNat = 33 := by decide
theorem j_6_5 : 0 ≤ ((6 : Nat) : Int) + (5) ∧ (((6 : Nat) : Int) + (5)).toNat = 11 := by decide
theorem j_6_7 : 0 ≤ ((6 : Nat) : Int) + (7) ∧ (((6 : Nat) : Int) + (7)).toNat = 13 := by decide
theorem j_6_19 : 0 ≤ ((6 : Nat) : Int) + (19) ∧ (((6 : Nat) : Int) + (19)).toNat = 25 := by decide
theorem j_6_23 : 0 ≤ ((6 : Nat) : Int) + (23) ∧ (((6 : Nat) : Int) + (23)).toNat = 29 := by decide
theorem j_6_29 : 0 ≤ ((6 : Nat) : Int) + (29) ∧ (((6 : Nat) : Int) + (29)).toNat = 35 := by decide
theorem j_7_4 : 0 ≤ ((7 : Nat) : Int) + (4) ∧ (((7 : Nat) : Int) + (4)).toNat = 11 := by decide
theorem j_7_6 : 0 ≤ ((7 : Nat) : Int) + (6) ∧ (((7 : Nat) : Int) + (6)).toNat = 13 := by decide
theorem j_7_7 : 0 ≤ ((7 : Nat) : Int) + (7) ∧ (((7 : Nat) : Int) + (7)).toNat = 14 := by decide
theorem j_7_12 : 0 ≤ ((7 : Nat) : Int) + (12) ∧ (((7 : Nat) : Int) + (12)).toNat = 19 := by decide
theorem j_7_38 : 0 ≤ ((7 : Nat) : Int) + (38) ∧ (((7 : Nat) : Int) + (38)).toNat = 45 := by decide
theorem j_7_40 : 0 ≤ ((7 : Nat) : Int) + (40) ∧ (((7 : Nat) : Int) + (40)).toNat = 47 := by decide
theorem j_7_41 : 0 ≤ ((7 : Nat) : Int) + (41) ∧ (((7 : Nat) : Int) + (41)).toNat = 48 := by decide
theorem j_7_50 : 0 ≤ ((7 : Nat) : Int) + (50) ∧ (((7 : Nat) : Int) + (50)).toNat = 57 := by decide
theorem j_8_4 : 0 ≤ ((8 : Nat) : Int) + (4) ∧ (((8 : Nat) : Int) + (4)).toNat = 12 := by decide
theorem j_9_5 : 0 ≤ ((9 : Nat) : Int) + (5) ∧ (((9 : Nat) : Int) + (5)).toNat = 14 := by decide
theorem j_9_7 : 0 ≤ ((9 : Nat) : Int) + (7) ∧ (((9 : Nat) : Int) + (7)).toNat = 16 := by decide
theorem j_10_4 : 0 ≤ ((10 : Nat) : Int) + (4) ∧ (((10 : Nat) : Int) + (4)).toNat = 14 := by decide
theorem j_10_6 : 0 ≤ ((10 : Nat) : Int) + (6) ∧ (((10 : Nat) : Int) + (6)).toNat = 16 := by decide
theorem j_11_4 : 0 ≤ ((11 : Nat) : Int) + (4) ∧ (((11 : Nat) : Int) + (4)).toNat = 15 := by decide
theorem j_11_8 : 0 ≤ ((11 : Nat) : Int) + (8) ∧ (((11 : Nat) : Int) + (8)).toNat = 19 := by decide
theorem j_11_11 : 0 ≤ ((11 : Nat) : Int) + (11) ∧ (((11 : Nat) : Int) + (11)).toNat = 22 := by decide
theorem j_11_14 : 0 ≤ ((11 : Nat) : Int) + (14) ∧ (((11 : Nat) : Int) + (14)).toNat = 25 := by decide
theorem j_11_15 : 0 ≤ ((11 : Nat) : Int) + (15) ∧ (((11 : Nat) : Int) + (15)).toNat = 26 := by decide
theorem j_11_22 : 0 ≤ ((11 : Nat) : Int) + (22) ∧ (((11 : Nat) : Int) + (22)).toNat = 33 := by decide
theorem j_11_35 : 0 ≤ ((11 : Nat) : Int) + (35) ∧ (((11 : Nat) : Int) + (35)).toNat = 46 := by decide
theorem j_12_18 : 0 ≤ ((12 : Nat) : Int) + (18) ∧ (((12 : Nat) : Int) + (18)).toNat = 30 := by decide
theorem j_13_4 : 0 ≤ ((13 : Nat) : Int) + (4) ∧ (((13 : Nat) : Int) + (4)).toNat = 17 := by decide
theorem j_13_8 : 0 ≤ ((13 : Nat) : Int) + (8) ∧ (((13 : Nat) : Int) + (8)).toNat = 21 := by decide
theorem j_13_11 : 0 ≤ ((13 : Nat) : Int) + (11) ∧ (((13 : Nat) : Int) + (11)).toNat = 24 := by decide
theorem j_13_15 : 0 ≤ ((13 : Nat) : Int) + (15) ∧ (((13 : Nat) : Int) + (15)).toNat = 28 := by decide
theorem j_13_16 : 0 ≤ ((13 : Nat) : Int) + (16) ∧ (((13 : Nat) : Int) + (16)).toNat = 29 := by decide
theorem j_13_20 : 0 ≤ ((13 : Nat) : Int) + (20) ∧ (((13 : Nat) : Int) + (20)).toNat = 33 := by decide
theorem j_14_19 : 0 ≤ ((14 : Nat) : Int) + (19) ∧ (((14 : Nat) : Int) + (19)).toNat = 33 := by decide
theorem j_15_5 : 0 ≤ ((15 : Nat) : Int) + (5) ∧ (((15 : Nat) : Int) + (5)).toNat = 20 := by decide
theorem j_15_10 : 0 ≤ ((15 : Nat) : Int) + (10) ∧ (((15 : Nat) : Int) + (10)).toNat = 25 := by decide
theorem j_15_27 : 0 ≤ ((15 : Nat) : Int) + (27) ∧ (((15 : Nat) : Int) + (27)).toNat = 42 := by decide
theorem j_16_5 : 0 ≤ ((16 : Nat) : Int) + (5) ∧ (((16 : Nat) : Int) + (5)).toNat = 21 := by decide
theorem j_16_12 : 0 ≤ ((16 : Nat) : Int) + (12) ∧ (((16 : Nat) : Int) + (12)).toNat = 28 := by decide
theorem j_17_24 : 0 ≤ ((17 : Nat) : Int) + (24) ∧ (((17 : Nat) : Int) + (24)).toNat = 41 := by decide
theorem j_18_39 : 0 ≤ ((18 : Nat) : Int) + (39) ∧ (((18 : Nat) : Int) + (39)).toNat = 57 := by decide
theorem j_18_45 : 0 ≤ ((18 : Nat) : Int) + (45) ∧ (((18 : Nat) : Int) + (45)).toNat = 63 := by decide
theorem j_19_5 : 0 ≤ ((19 : Nat) : Int) + (5) ∧ (((19 : Nat) : Int) + (5)).toNat = 24 := by decide
theorem j_19_32 : 0 ≤ ((19 : Nat) : Int) + (32) ∧ (((19 : Nat) : Int) + (32)).toNat = 51 := by decide
theorem j_19_37 : 0 ≤ ((19 : Nat) : Int) + (37) ∧ (((19 : Nat) : Int) + (37)).toNat = 56 := by decide
theorem j_20_12 : 0 ≤ ((20 : Nat) : Int) + (12) ∧ (((20 : Nat) : Int) + (12)).toNat = 32 := by decide
theorem j_20_32 : 0 ≤ ((20 : Nat) : Int) + (32) ∧ (((20 : Nat) : Int) + (32)).toNat = 52 := by decide
theorem j_21_5 : 0 ≤ ((21 : Nat) : Int) + (5) ∧ (((21 : Nat) : Int) + (5)).toNat = 26 := by decide
theorem j_21_12 : 0 ≤ ((21 : Nat) : Int) + (12) ∧ (((21 : Nat) : Int) + (12)).toNat = 33 := by decide
theorem j_21_15 : 0 ≤ ((21 : Nat) : Int) + (15) ∧ (((21 : Nat) : Int) + (15)).toNat = 36 := by decide
theorem j_21_53 : 0 ≤ ((21 : Nat) : Int) + (53) ∧ (((21 : Nat) : Int) + (53)).toNat = 74 := by decide
theorem j_21_55 : 0 ≤ ((21 : Nat) : Int) + (55) ∧ (((21 : Nat) : Int) + (55)).toNat = 76 := by decide
theorem j_22_m18 : 0 ≤ ((22 : Nat) : Int) + (-18) ∧ (((22 : Nat) : Int) + (-18)).toNat = 4 := by decide
theorem j_22_5 : 0 ≤ ((22 : Nat) : Int) + (5) ∧ (((22 : Nat) : Int) + (5)).toNat = 27 := by decide
theorem j_22_8 : 0 ≤ ((22 : Nat) : Int) + (8) ∧ (((22 : Nat) : Int) + (8)).toNat = 30 := by decide
theorem j_22_11 : 0 ≤ ((22 : Nat) : Int) + (11) ∧ (((22 : Nat) : Int) + (11)).toNat = 33 := by decide
theorem j_23_5 : 0 ≤ ((23 : Nat) : Int) + (5) ∧ (((23 : Nat) : Int) + (5)).toNat = 28 := by decide
theorem j_25_5 : 0 ≤ ((25 : Nat) : Int) + (5) ∧ (((25 : Nat) : Int) + (5)).toNat = 30 := by decide
theorem j_25_7 : 0 ≤ ((25 : Nat) : Int) + (7) ∧ (((25 : Nat) : Int) + (7)).toNat = 32 := by decide
theorem j_26_m21 : 0 ≤ ((26 : Nat) : Int) + (-21) ∧ (((26 : Nat) : Int) + (-21)).toNat = 5 := by decide
theorem j_27_5 : 0 ≤ ((27 : Nat) : Int) + (5) ∧ (((27 : Nat) : Int) + (5)).toNat = 32 := by decide
theorem j_27_10 : 0 ≤ ((27 : Nat) : Int) + (10) ∧ (((27 : Nat) : Int) + (10)).toNat = 37 := by decide
theorem j_27_15 : 0 ≤ ((27 : Nat) : Int) + (15) ∧ (((27 : Nat) : Int) + (15)).toNat = 42 := by decide
theorem j_27_86 : 0 ≤ ((27 : Nat) : Int) + (86) ∧ (((27 : Nat) : Int) + (86)).toNat = 113 := by decide
theorem j_28_72 : 0 ≤ ((28 : Nat) : Int) + (72) ∧ (((28 : Nat) : Int) + (72)).toNat = 100 := by decide
theorem j_29_4 : 0 ≤ ((29 : Nat) : Int) + (4) ∧ (((29 : Nat) : Int) + (4)).toNat = 33 := by decide
theorem j_29_17 : 0 ≤ ((29 : Nat) : Int) + (17) ∧ (((29 : Nat) : Int) + (17)).toNat = 46 := by decide
theorem j_29_24 : 0 ≤ ((29 : Nat) : Int) + (24) ∧ (((29 : Nat) : Int) + (24)).toNat = 53 := by decide
theorem j_30_m25 : 0 ≤ ((30 : Nat) : Int) + (-25) ∧ (((30 : Nat) : Int) + (-25)).toNat = 5 := by decide
theorem j_30_m21 : 0 ≤ ((30 : Nat) : Int) + (-21) ∧ (((30 : Nat) : Int) + (-21)).toNat = 9 := by decide
theorem j_30_5 : 0 ≤ ((30 : Nat) : Int) + (5) ∧ (((30 : Nat) : Int) + (5)).toNat = 35 := by decide
theorem j_30_8 : 0 ≤ ((30 : Nat) : Int) + (8) ∧ (((30 : Nat) : Int) + (8)).toNat = 38 := by decide
theorem j_32_m30 : 0 ≤ ((32 : Nat) : Int) + (-30) ∧ (((32 : Nat) : Int) + (-30)).toNat = 2 := by decide
theorem j_32_5 : 0 ≤ ((32 : Nat) : Int) + (5) ∧ (((32 : Nat) : Int) + (5)).toNat = 37 := by decide
theorem j_33_m13 : 0 ≤ ((33 : Nat) : Int) + (-13) ∧ (((33 : Nat) : Int) + (-13)).toNat = 20 := by decide
theorem j_35_5 : 0 ≤ ((35 : Nat) : Int) + (5) ∧ (((35 : Nat) : Int) + (5)).toNat = 40 := by decide
theorem j_37_5 : 0 ≤ ((37 : Nat) : Int) + (5) ∧ (((37 : Nat) : Int) + (5)).toNat = 42 := by decide
theorem j_38_m26 : 0 ≤ ((38 : Nat) : Int) + (-26) ∧ (((38 : Nat) : Int) + (-26)).toNat = 12 := by decide
theorem j_38_69 : 0 ≤ ((38 : Nat) : Int) + (69) ∧ (((38 : Nat) : Int) + (69)).toNat = 107 := by decide
theorem j_39_m29 : 0 ≤ ((39 : Nat) : Int) + (-29) ∧ (((39 : Nat) : Int) + (-29)).toNat = 10 := by decide
theorem j_39_m13 : 0 ≤ ((39 : Nat) : Int) + (-13) ∧ (((39 : Nat) : Int) + (-13)).toNat = 26 := by decide
theorem j_39_10 : 0 ≤ ((39 : Nat) : Int) + (10) ∧ (((39 : Nat) : Int) + (10)).toNat = 49 := by decide
theorem j_39_44 : 0 ≤ ((39 : Nat) : Int) + (44) ∧ (((39 : Nat) : Int) + (44)).toNat = 83 := by decide
theorem j_39_165 : 0 ≤ ((39 : Nat) : Int) + (165) ∧ (((39 : Nat) : Int) + (165)).toNat = 204 := by decide
theorem j_40_5 : 0 ≤ ((40 : Nat) : Int) + (5) ∧ (((40 : Nat) : Int) + (5)).toNat = 45 := by decide
theorem j_41_29 : 0 ≤ ((41 : Nat) : Int) + (29) ∧ (((41 : Nat) : Int) + (29)).toNat = 70 := by decide
theorem j_41_53 : 0 ≤ ((41 : Nat) : Int) + (53) ∧ (((41 : Nat) : Int) + (53)).toNat = 94 := by decide
theorem j_42_m40 : 0 ≤ ((42 : Nat) : Int) + (-40) ∧ (((42 : Nat) : Int) + (-40)).toNat = 2 := by decide
theorem j_43_m38 : 0 ≤ ((43 : Nat) : Int) + (-38) ∧ (((43 : Nat) : Int) + (-38)).toNat = 5 := by decide
theorem j_43_m18 : 0 ≤ ((43 : Nat) : Int) + (-18) ∧ (((43 : Nat) : Int) + (-18)).toNat = 25 := by decide
theorem j_44_m42 : 0 ≤ ((44 : Nat) : Int) + (-42) ∧ (((44 : Nat) : Int) + (-42)).toNat = 2 := by decide
theorem j_44_5 : 0 ≤ ((44 : Nat) : Int) + (5) ∧ (((44 : Nat) : Int) + (5)).toNat = 49 := by decide
theorem j_45_m43 : 0 ≤ ((45 : Nat) : Int) + (-43) ∧ (((45 : Nat) : Int) + (-43)).toNat = 2 := by decide
theorem j_45_6 : 0 ≤ ((45 : Nat) : Int) + (6) ∧ (((45 : Nat) : Int) + (6)).toNat = 51 := by decide
theorem j_48_m35 : 0 ≤ ((48 : Nat) : Int) + (-35) ∧ (((48 : Nat) : Int) + (-35)).toNat = 13 := by decide
theorem j_49_m30 : 0 ≤ ((49 : Nat) : Int) + (-30) ∧ (((49 : Nat) : Int) + (-30)).toNat = 19 := by decide
theorem j_49_15 : 0 ≤ ((49 : Nat) : Int) + (15) ∧ (((49 : Nat) : Int) + (15)).toNat = 64 := by decide
theorem j_50_13 : 0 ≤ ((50 : Nat) : Int) + (13) ∧ (((50 : Nat) : Int) + (13)).toNat = 63 := by decide
theorem j_51_5 : 0 ≤ ((51 : Nat) : Int) + (5) ∧ (((51 : Nat) : Int) + (5)).toNat = 56 := by decide
theorem j_51_6 : 0 ≤ ((51 : Nat) : Int) + (6) ∧ (((51 : Nat) : Int) + (6)).toNat = 57 := by decide
theorem j_51_8 : 0 ≤ ((51 : Nat) : Int) + (8) ∧ (((51 : Nat) : Int) + (8)).toNat = 59 := by decide
theorem j_51_10 : 0 ≤ ((51 : Nat) : Int) + (10) ∧ (((51 : Nat) : Int) + (10)).toNat = 61 := by decide
theorem j_53_m37 : 0 ≤ ((53 : Nat) : Int) + (-37) ∧ (((53 : Nat) : Int) + (-37)).toNat = 16 := by decide
theorem j_54_m52 : 0 ≤ ((54 : Nat) : Int) + (-52) ∧ (((54 : Nat) : Int) + (-52)).toNat = 2 := by decide
theorem j_54_m40 : 0 ≤ ((54 : Nat) : Int) + (-40) ∧ (((54 : Nat) : Int) + (-40)).toNat = 14 := by decide
theorem j_54_7 : 0 ≤ ((54 : Nat) : Int) + (7) ∧ (((54 : Nat) : Int) + (7)).toNat = 61 := by decide
theorem j_56_5 : 0 ≤ ((56 : Nat) : Int) + (5) ∧ (((56 : Nat) : Int) + (5)).toNat = 61 := by decide
theorem j_58_4 : 0 ≤ ((58 : Nat) : Int) + (4) ∧ (((58 : Nat) : Int) + (4)).toNat = 62 := by decide
theorem j_60_m46 : 0 ≤ ((60 : Nat) : Int) + (-46) ∧ (((60 : Nat) : Int) + (-46)).toNat = 14 := by decide
theorem j_61_7 : 0 ≤ ((61 : Nat) : Int) + (7) ∧ (((61 : Nat) : Int) + (7)).toNat = 68 := by decide
theorem j_61_30 : 0 ≤ ((61 : Nat) : Int) + (30) ∧ (((61 : Nat) : Int) + (30)).toNat = 91 := by decide
theorem j_63_7 : 0 ≤ ((63 : Nat) : Int) + (7) ∧ (((63 : Nat) : Int) + (7)).toNat = 70 := by decide
theorem j_67_m30 : 0 ≤ ((67 : Nat) : Int) + (-30) ∧ (((67 : Nat) : Int) + (-30)).toNat = 37 := by decide
theorem j_67_4 : 0 ≤ ((67 : Nat) : Int) + (4) ∧ (((67 : Nat) : Int) + (4)).toNat = 71 := by decide
theorem j_68_7 : 0 ≤ ((68 : Nat) : Int) + (7) ∧ (((68 : Nat) : Int) + (7)).toNat = 75 := by decide
theorem j_71_m54 : 0 ≤ ((71 : Nat) : Int) + (-54) ∧ (((71 : Nat) : Int) + (-54)).toNat = 17 := by decide
theorem j_72_4 : 0 ≤ ((72 : Nat) : Int) + (4) ∧ (((72 : Nat) : Int) + (4)).toNat = 76 := by decide
theorem j_72_5 : 0 ≤ ((72 : Nat) : Int) + (5) ∧ (((72 : Nat) : Int) + (5)).toNat = 77 := by decide
theorem j_73_m56 : 0 ≤ ((73 : Nat) : Int) + (-56) ∧ (((73 : Nat) : Int) + (-56)).toNat = 17 := by decide
theorem j_80_m44 : 0 ≤ ((80 : Nat) : Int) + (-44) ∧ (((80 : Nat) : Int) + (-44)).toNat = 36 := by decide
theorem j_81_7 : 0 ≤ ((81 : Nat) : Int) + (7) ∧ (((81 : Nat) : Int) + (7)).toNat = 88 := by decide
theorem j_87_44 : 0 ≤ ((87 : Nat) : Int) + (44) ∧ (((87 : Nat) : Int) + (44)).toNat = 131 := by decide
theorem j_88_m30 : 0 ≤ ((88 : Nat) : Int) + (-30) ∧ (((88 : Nat) : Int) + (-30)).toNat = 58 := by decide
theorem j_91_m56 : 0 ≤ ((91 : Nat) : Int) + (-56) ∧ (((91 : Nat) : Int) + (-56)).toNat = 35 := by decide
theorem j_94_7 : 0 ≤ ((94 : Nat) : Int) + (7) ∧ (((94 : Nat) : Int) + (7)).toNat = 101 := by decide
theorem j_96_16 : 0 ≤ ((96 : Nat) : Int) + (16) ∧ (((96 : Nat) : Int) + (16)).toNat = 112 := by decide
theorem j_97_m75 : 0 ≤ ((97 : Nat) : Int) + (-75) ∧ (((97 : Nat) : Int) + (-75)).toNat = 22 := by decide
theorem j_104_m70 : 0 ≤ ((104 : Nat) : Int) + (-70) ∧ (((104 : Nat) : Int) + (-70)).toNat = 34 := by decide
theorem j_109_m16 : 0 ≤ ((109 : Nat) : Int) + (-16) ∧ (((109 : Nat) : Int) + (-16)).toNat = 93 := by decide
theorem j_110_m86 : 0 ≤ ((110 : Nat) : Int) + (-86) ∧ (((110 : Nat) : Int) + (-86)).toNat = 24 := by decide
theorem j_128_70 : 0 ≤ ((128 : Nat) : Int) + (70) ∧ (((128 : Nat) : Int) + (70)).toNat = 198 := by decide
theorem j_135_44 : 0 ≤ ((135 : Nat) : Int) + (44) ∧ (((135 : Nat) : Int) + (44)).toNat = 179 := by decide
theorem j_176_22 : 0 ≤ ((176 : Nat) : Int) + (22) ∧ (((176 : Nat) : Int) + (22)).toNat = 198 := by decide
theorem j_183_11 : 0 ≤ ((183 : Nat) : Int) + (11) ∧ (((183 : Nat) : Int) + (11)).toNat = 194 := by decide
theorem j_191_7 : 0 ≤ ((191 : Nat) : Int) + (7) ∧ (((191 : Nat) : Int) + (7)).toNat = 198 := by decide
theorem j_201_m168 : 0 ≤ ((201 : Nat) : Int) + (-168) ∧ (((201 : Nat) : Int) + (-168)).toNat = 33 := by decide
theorem j_233_65 : 0 ≤ ((233 : Nat) : Int) + (65) ∧ (((233 : Nat) : Int) + (65)).toNat = 298 := by decide
theorem j_287_5 : 0 ≤ ((287 : Nat) : Int) + (5) ∧ (((287 : Nat) : Int) + (5)).toNat = 292 := by decide
theorem j_295_m66 : 0 ≤ ((295 : Nat) : Int) + (-66) ∧ (((295 : Nat) : Int) + (-66)).toNat = 229 := by decide
theorem j_305_105 : 0 ≤ ((305 : Nat) : Int) + (105) ∧ (((305 : Nat) : Int) + (105)).toNat = 410 := by decide
theorem j_344_40 : 0 ≤ ((344 : Nat) : Int) + (40) ∧ (((344 : Nat) : Int) + (40)).toNat = 384 := by decide
theorem j_351_27 : 0 ≤ ((351 : Nat) : Int) + (27) ∧ (((351 : Nat) : Int) + (27)).toNat = 378 := by decide
theorem j_381_m40 : 0 ≤ ((381 : Nat) : Int) + (-40) ∧ (((381 : Nat) : Int) + (-40)).toNat = 341 := by decide
theorem j_399_5 : 0 ≤ ((399 : Nat) : Int) + (5) ∧ (((399 : Nat) : Int) + (5)).toNat = 404 := by decide
theorem j_407_m106 : 0 ≤ ((407 : Nat) : Int) + (-106) ∧ (((407 : Nat) : Int) + (-106)).toNat = 301 := by decide
theorem j_477_19 : 0 ≤ ((477 : Nat) : Int) + (19) ∧ (((477 : Nat) : Int) + (19)).toNat = 496 := by decide
theorem j_493_16 : 0 ≤ ((493 : Nat) : Int) + (16) ∧ (((493 : Nat) : Int) + (16)).toNat = 509 := by decide
theorem j_513_7 : 0 ≤ ((513 : Nat) : Int) + (7) ∧ (((513 : Nat) : Int) + (7)).toNat = 520 := by decide
theorem j_517_4 : 0 ≤ ((517 : Nat) : Int) + (4) ∧ (((517 : Nat) : Int) + (4)).toNat = 521 := by decide
theorem j_525_22 : 0 ≤ ((525 : Nat) : Int) + (22) ∧ (((525 : Nat) : Int) + (22)).toNat = 547 := by decide
theorem j_532_8 : 0 ≤ ((532 : Nat) : Int) + (8) ∧ (((532 : Nat) : Int) + (8)).toNat = 540 := by decide
theorem j_537_5 : 0 ≤ ((537 : Nat) : Int) + (5) ∧ (((537 : Nat) : Int) + (5)).toNat = 542 := by decide
theorem j_542_5 : 0 ≤ ((542 : Nat) : Int) + (5) ∧ (((542 : Nat) : Int) + (5)).toNat = 547 := by decide
theorem j_549_11 : 0 ≤ ((549 : Nat) : Int) + (11) ∧ (((549 : Nat) : Int) + (11)).toNat = 560 := by decide
theorem j_555_5 : 0 ≤ ((555 : Nat) : Int) + (5) ∧ (((555 : Nat) : Int) + (5)).toNat = 560 := by decide
theorem j_569_12 : 0 ≤ ((569 : Nat) : Int) + (12) ∧ (((569 : Nat) : Int) + (12)).toNat = 581 := by decide
theorem j_574_7 : 0 ≤ ((574 : Nat) : Int) + (7) ∧ (((574 : Nat) : Int) + (7)).toNat = 581 := by decide
theorem j_578_4 : 0 ≤ ((578 : Nat) : Int) + (4) ∧ (((578 : Nat) : Int) + (4)).toNat = 582 := by decide
theorem j_583_5 : 0 ≤ ((583 : Nat) : Int) + (5) ∧ (((583 : Nat) : Int) + (5)).toNat = 588 := by decide
theorem j_597_13 : 0 ≤ ((597 : Nat) : Int) + (13) ∧ (((597 : Nat) : Int) + (13)).toNat = 610 := by decide
theorem j_603_7 : 0 ≤ ((603 : Nat) : Int) + (7) ∧ (((603 : Nat) : Int) + (7)).toNat = 610 := by decide
theorem j_607_4 : 0 ≤ ((607 : Nat) : Int) + (4) ∧ (((607 : Nat) : Int) + (4)).toNat = 611 := by decide
theorem j_612_5 : 0 ≤ ((612 : Nat) : Int) + (5) ∧ (((612 : Nat) : Int) + (5)).toNat = 617 := by decide
theorem j_633_14 : 0 ≤ ((633 : Nat) : Int) + (14) ∧ (((633 : Nat) : Int) + (14)).toNat = 647 := by decide
theorem j_642_5 : 0 ≤ ((642 : Nat) : Int) + (5) ∧ (((642 : Nat) : Int) + (5)).toNat = 647 := by decide
theorem j_649_17 : 0 ≤ ((649 : Nat) : Int) + (17) ∧ (((649 : Nat) : Int) + (17)).toNat = 666 := by decide
theorem j_661_5 : 0 ≤ ((661 : Nat) : Int) + (5) ∧ (((661 : Nat) : Int) + (5)).toNat = 666 := by decide
theorem j_680_5 : 0 ≤ ((680 : Nat) : Int) + (5) ∧ (((680 : Nat) : Int) + (5)).toNat = 685 := by decide
theorem j_693_70 : 0 ≤ ((693 : Nat) : Int) + (70) ∧ (((693 : Nat) : Int) + (70)).toNat = 763 := by decide
theorem j_752_5 : 0 ≤ ((752 : Nat) : Int) + (5) ∧ (((752 : Nat) : Int) + (5)).toNat = 757 := by decide
theorem j_760_m72 : 0 ≤ ((760 : Nat) : Int) + (-72) ∧ (((760 : Nat) : Int) + (-72)).toNat = 688 := by decide
theorem j_770_40 : 0 ≤ ((770 : Nat) : Int) + (40) ∧ (((770 : Nat) : Int) + (40)).toNat = 810 := by decide
theorem j_799_5 : 0 ≤ ((799 : Nat) : Int) + (5) ∧ (((799 : Nat) : Int) + (5)).toNat = 804 := by decide
theorem j_807_m41 : 0 ≤ ((807 : Nat) : Int) + (-41) ∧ (((807 : Nat) : Int) + (-41)).toNat = 766 := by decide
theorem j_817_40 : 0 ≤ ((817 : Nat) : Int) + (40) ∧ (((817 : Nat) : Int) + (40)).toNat = 857 := by decide
theorem j_846_5 : 0 ≤ ((846 : Nat) : Int) + (5) ∧ (((846 : Nat) : Int) + (5)).toNat = 851 := by decide
theorem j_854_m41 : 0 ≤ ((854 : Nat) : Int) + (-41) ∧ (((854 : Nat) : Int) + (-41)).toNat = 813 := by decide
theorem lk_0_51 : LinkP PP "LatticeEarley" 51 m0 := ⟨List.mem_of_getElem? (i := 37) rfl, List.mem_of_getElem? (i := 38) rfl, List.mem_of_getElem? (i := 39) rfl, List.mem_of_getElem? (i := 40) rfl, rfl, rfl⟩
theorem lk_0_58 : LinkP PP "LatticeEarley" 58 m2 := ⟨List.mem_of_getElem? (i := 43) rfl, List.mem_of_getElem? (i := 44) rfl, List.mem_of_getElem? (i := 45) rfl, List.mem_of_getElem? (i := 46) rfl, rfl, rfl⟩
theorem lk_0_61 : LinkP PP "LatticeEarley" 61 m3 := ⟨List.mem_of_getElem? (i := 59) rfl, List.mem_of_getElem? (i := 60) rfl, List.mem_of_getElem? (i := 61) rfl, List.mem_of_getElem? (i := 62) rfl, rfl, rfl⟩
theorem lk_0_70 : LinkP PP "LatticeEarley" 70 m7 := ⟨List.mem_of_getElem? (i := 73) rfl, List.mem_of_getElem? (i := 74) rfl, List.mem_of_getElem? (i := 75) rfl, List.mem_of_getElem? (i := 76) rfl, rfl, rfl⟩
theorem lk_0_74 : LinkP PP "LatticeEarley" 74 m1 := ⟨List.mem_of_getElem? (i := 51) rfl, List.mem_of_getElem? (i := 52) rfl, List.mem_of_getElem? (i := 53) rfl, List.mem_of_getElem? (i := 54) rfl, rfl, rfl⟩
theorem lk_0_77 : LinkP PP "LatticeEarley" 77 m10 := ⟨List.mem_of_getElem? (i := 179) rfl, List.mem_of_getElem? (i := 180) rfl, List.mem_of_getElem? (i := 181) rfl, List.mem_of_getElem? (i := 182) rfl, rfl, rfl⟩
theorem lk_0_80 : LinkP PP "LatticeEarley" 80 m11 := ⟨List.mem_of_getElem? (i := 187) rfl, List.mem_of_getElem? (i := 188) rfl, List.mem_of_getElem? (i := 189) rfl, List.mem_of_getElem? (i := 190) rfl, rfl, rfl⟩
theorem lk_0_84 : LinkP PP "LatticeEarley" 84 m23 := ⟨List.mem_of_getElem? (i := 196) rfl, List.mem_of_getElem? (i := 197) rfl, List.mem_of_getElem? (i := 198) rfl, List.mem_of_getElem? (i := 199) rfl, rfl, rfl⟩
theorem lk_0_88 : LinkP PP "LatticeEarley" 88 m33 := ⟨List.mem_of_getElem? (i := 101) rfl, List.mem_of_getElem? (i := 102) rfl, List.mem_of_getElem? (i := 103) rfl, List.mem_of_getElem? (i := 104) rfl, rfl, rfl⟩
theorem lk_0_91 : LinkP PP "LatticeEarley" 91 m25 := ⟨List.mem_of_getElem? (i := 137) rfl, List.mem_of_getElem? (i := 138) rfl, List.mem_of_getElem? (i := 139) rfl, List.mem_of_getElem? (i := 140) rfl, rfl, rfl⟩
theorem lk_0_101 : LinkP PP "LatticeEarley" 101 m39 := ⟨List.mem_of_getElem? (i := 245) rfl, List.mem_of_getElem? (i := 246) rfl, List.mem_of_getElem? (i := 247) rfl, List.mem_of_getElem? (i := 248) rfl, rfl, rfl⟩
theorem lk_0_104 : LinkP PP "LatticeEarley" 104 m47 := ⟨List.mem_of_getElem? (i := 269) rfl, List.mem_of_getElem? (i := 270) rfl, List.mem_of_getElem? (i := 271) rfl, List.mem_of_getElem? (i := 272) rfl, rfl, rfl⟩
theorem lk_0_107 : LinkP PP "LatticeEarley" 107 m13 := ⟨List.mem_of_getElem? (i := 117) rfl, List.mem_of_getElem? (i := 118) rfl, List.mem_of_getElem? (i := 119) rfl, List.mem_of_getElem? (i := 120) rfl, rfl, rfl⟩
theorem lk_0_111 : LinkP PP "LatticeEarley" 111 m14 := ⟨List.mem_of_getElem? (i := 121) rfl, List.mem_of_getElem? (i := 122) rfl, List.mem_of_getElem? (i := 123) rfl, List.mem_of_getElem? (i := 124) rfl, rfl, rfl⟩
theorem lk_0_114 : LinkP PP "LatticeEarley" 114 m57 := ⟨List.mem_of_getElem? (i := 160) rfl, List.mem_of_getElem? (i := 161) rfl, List.mem_of_getElem? (i := 162) rfl, List.mem_of_getElem? (i := 163) rfl, rfl, rfl⟩
theorem lk_0_117 : LinkP PP "LatticeEarley" 117 m41 := ⟨List.mem_of_getElem? (i := 293) rfl, List.mem_of_getElem? (i := 294) rfl, List.mem_of_getElem? (i := 295) rfl, List.mem_of_getElem? (i := 296) rfl, rfl, rfl⟩
theorem lk_0_120 : LinkP PP "LatticeEarley" 120 m26 := ⟨List.mem_of_getElem? (i := 236) rfl, List.mem_of_getElem? (i := 237) rfl, List.mem_of_getElem? (i := 238) rfl, List.mem_of_getElem? (i := 239) rfl, rfl, rfl⟩
theorem lk_0_123 : LinkP PP "LatticeEarley" 123 m18 := ⟨List.mem_of_getElem? (i := 208) rfl, List.mem_of_getElem? (i := 209) rfl, List.mem_of_getElem? (i := 210) rfl, List.mem_of_getElem? (i := 211) rfl, rfl, rfl⟩
theorem lk_0_126 : LinkP PP "LatticeEarley" 126 m60 := ⟨List.mem_of_getElem? (i := 301) rfl, List.mem_of_getElem? (i := 302) rfl, List.mem_of_getElem? (i := 303) rfl, List.mem_of_getElem? (i := 304) rfl, rfl, rfl⟩
theorem lk_0_129 : LinkP PP "LatticeEarley" 129 m6 := ⟨List.mem_of_getElem? (i := 77) rfl, List.mem_of_getElem? (i := 78) rfl, List.mem_of_getElem? (i := 79) rfl, List.mem_of_getElem? (i := 80) rfl, rfl, rfl⟩
theorem lk_0_133 : LinkP PP "LatticeEarley" 133 m9 := ⟨List.mem_of_getElem? (i := 183) rfl, List.mem_of_getElem? (i := 184) rfl, List.mem_of_getElem? (i := 185) rfl, List.mem_of_getElem? (i := 186) rfl, rfl, rfl⟩
theorem lk_0_136 : LinkP PP "LatticeEarley" 136 m19 := ⟨List.mem_of_getElem? (i := 212) rfl, List.mem_of_getElem? (i := 213) rfl, List.mem_of_getElem? (i := 214) rfl, List.mem_of_getElem? (i := 215) rfl, rfl, rfl⟩
theorem lk_0_139 : LinkP PP "LatticeEarley" 139 m15 := ⟨List.mem_of_getElem? (i := 113) rfl, List.mem_of_getElem? (i := 114) rfl, List.mem_of_getElem? (i := 115) rfl, List.mem_of_getElem? (i := 116) rfl, rfl, rfl⟩
theorem lk_0_142 : LinkP PP "LatticeEarley" 142 m20 := ⟨List.mem_of_getElem? (i := 204) rfl, List.mem_of_getElem? (i := 205) rfl, List.mem_of_getElem? (i := 206) rfl, List.mem_of_getElem? (i := 207) rfl, rfl, rfl⟩
theorem lk_0_146 : LinkP PP "LatticeEarley" 146 m17 := ⟨List.mem_of_getElem? (i := 105) rfl, List.mem_of_getElem? (i := 106) rfl, List.mem_of_getElem? (i := 107) rfl, List.mem_of_getElem? (i := 108) rfl, rfl, rfl⟩
theorem lk_0_149 : LinkP PP "LatticeEarley" 149 m22 := ⟨List.mem_of_getElem? (i := 125) rfl, List.mem_of_getElem? (i := 126) rfl, List.mem_of_getElem? (i := 127) rfl, List.mem_of_getElem? (i := 128) rfl, rfl, rfl⟩
theorem lk_0_152 : LinkP PP "LatticeEarley" 152 m32 := ⟨List.mem_of_getElem? (i := 129) rfl, List.mem_of_getElem? (i := 130) rfl, List.mem_of_getElem? (i := 131) rfl, List.mem_of_getElem? (i := 132) rfl, rfl, rfl⟩
theorem lk_0_156 : LinkP PP "LatticeEarley" 156 m16 := ⟨List.mem_of_getElem? (i := 109) rfl, List.mem_of_getElem? (i := 110) rfl, List.mem_of_getElem? (i := 111) rfl, List.mem_of_getElem? (i := 112) rfl, rfl, rfl⟩
theorem lk_0_159 : LinkP PP "LatticeEarley" 159 m21 := ⟨List.mem_of_getElem? (i := 200) rfl, List.mem_of_getElem? (i := 201) rfl, List.mem_of_getElem? (i := 202) rfl, List.mem_of_getElem? (i := 203) rfl, rfl, rfl⟩
theorem lk_0_163 : LinkP PP "LatticeEarley" 163 m31 := ⟨List.mem_of_getElem? (i := 133) rfl, List.mem_of_getElem? (i := 134) rfl, List.mem_of_getElem? (i := 135) rfl, List.mem_of_getElem? (i := 136) rfl, rfl, rfl⟩
theorem lk_0_167 : LinkP PP "LatticeEarley" 167 m28 := ⟨List.mem_of_getElem? (i := 216) rfl, List.mem_of_getElem? (i := 217) rfl, List.mem_of_getElem? (i := 218) rfl, List.mem_of_getElem? (i := 219) rfl, rfl, rfl⟩
theorem lk_0_170 : LinkP PP "LatticeEarley" 170 m30 := ⟨List.mem_of_getElem? (i := 220) rfl, List.mem_of_getElem? (i := 221) rfl, List.mem_of_getElem? (i := 222) rfl, List.mem_of_getElem? (i := 223) rfl, rfl, rfl⟩
theorem lk_0_173 : LinkP PP "LatticeEarley" 173 m27 := ⟨List.mem_of_getElem? (i := 232) rfl, List.mem_of_getElem? (i := 233) rfl, List.mem_of_getElem? (i := 234) rfl, List.mem_of_getElem? (i := 235) rfl, rfl, rfl⟩
theorem lk_0_176 : LinkP PP "LatticeEarley" 176 m24 := ⟨List.mem_of_getElem? (i := 224) rfl, List.mem_of_getElem? (i := 225) rfl, List.mem_of_getElem? (i := 226) rfl, List.mem_of_getElem? (i := 227) rfl, rfl, rfl⟩
theorem lk_0_179 : LinkP PP "LatticeEarley" 179 m29 := ⟨List.mem_of_getElem? (i := 228) rfl, List.mem_of_getElem? (i := 229) rfl, List.mem_of_getElem? (i := 230) rfl, List.mem_of_getElem? (i := 231) rfl, rfl, rfl⟩
theorem lk_0_182 : LinkP PP "LatticeEarley" 182 m35 := ⟨List.mem_of_getElem? (i := 249) rfl, List.mem_of_getElem? (i := 250) rfl, List.mem_of_getElem? (i := 251) rfl, List.mem_of_getElem? (i := 252) rfl, rfl, rfl⟩
theorem lk_0_186 : LinkP PP "LatticeEarley" 186 m38 := ⟨List.mem_of_getElem? (i := 257) rfl, List.mem_of_getElem? (i := 258) rfl, List.mem_of_getElem? (i := 259) rfl, List.mem_of_getElem? (i := 260) rfl, rfl, rfl⟩
theorem lk_0_189 : LinkP PP "LatticeEarley" 189 m34 := ⟨List.mem_of_getElem? (i := 253) rfl, List.mem_of_getElem? (i := 254) rfl, List.mem_of_getElem? (i := 255) rfl, List.mem_of_getElem? (i := 256) rfl, rfl, rfl⟩
theorem lk_0_192 : LinkP PP "LatticeEarley" 192 m37 := ⟨List.mem_of_getElem? (i := 261) rfl, List.mem_of_getElem? (i := 262) rfl, List.mem_of_getElem? (i := 263) rfl, List.mem_of_getElem? (i := 264) rfl, rfl, rfl⟩
theorem lk_0_195 : LinkP PP "LatticeEarley" 195 m36 := ⟨List.mem_of_getElem? (i := 265) rfl, List.mem_of_getElem? (i := 266) rfl, List.mem_of_getElem? (i := 267) rfl, List.mem_of_getElem? (i := 268) rfl, rfl, rfl⟩
theorem lk_0_198 : LinkP PP "LatticeEarley" 198 m40 := ⟨List.mem_of_getElem? (i := 273) rfl, List.mem_of_getElem? (i := 274) rfl, List.mem_of_getElem? (i := 275) rfl, List.mem_of_getElem? (i := 276) rfl, rfl, rfl⟩
theorem lk_0_201 : LinkP PP "LatticeEarley" 201 m46 := ⟨List.mem_of_getElem? (i := 277) rfl, List.mem_of_getElem? (i := 278) rfl, List.mem_of_getElem? (i := 279) rfl, List.mem_of_getElem? (i := 280) rfl, rfl, rfl⟩
theorem lk_0_204 : LinkP PP "LatticeEarley" 204 m45 := ⟨List.mem_of_getElem? (i := 281) rfl, List.mem_of_getElem? (i := 282) rfl, List.mem_of_getElem? (i := 283) rfl, List.mem_of_getElem? (i := 284) rfl, rfl, rfl⟩
theorem lk_0_207 : LinkP PP "LatticeEarley" 207 m44 := ⟨List.mem_of_getElem? (i := 285) rfl, List.mem_of_getElem? (i := 286) rfl, List.mem_of_getElem? (i := 287) rfl, List.mem_of_getElem? (i := 288) rfl, rfl, rfl⟩
theorem lk_0_210 : LinkP PP "LatticeEarley" 210 m43 := ⟨List.mem_of_getElem? (i := 289) rfl, List.mem_of_getElem? (i := 290) rfl, List.mem_of_getElem? (i := 291) rfl, List.mem_of_getElem? (i := 292) rfl, rfl, rfl⟩
theorem lk_0_213 : LinkP PP "LatticeEarley" 213 m42 := ⟨List.mem_of_getElem? (i := 297) rfl, List.mem_of_getElem? (i := 298) rfl, List.mem_of_getElem? (i := 299) rfl, List.mem_of_getElem? (i := 300) rfl, rfl, rfl⟩
theorem lk_1_9 : LinkI PP "LatticeEarleyL7" 9 m4 := ⟨List.mem_of_getElem? (i := 3) rfl, List.mem_of_getElem? (i := 4) rfl, List.mem_of_getElem? (i := 5) rfl, rfl, rfl, rfl, rfl⟩
theorem lk_1_12 : LinkV PP "LatticeEarleyL7" 12 m5 := ⟨List.mem_of_getElem? (i := 63) rfl, List.mem_of_getElem? (i := 64) rfl, List.mem_of_getElem? (i := 66) rfl, List.mem_of_getElem? (i := 65) rfl, List.mem_of_getElem? (i := 67) rfl, rfl, rfl⟩
theorem lk_1_16 : LinkV PP "LatticeEarleyL7" 16 m8 := ⟨List.mem_of_getElem? (i := 68) rfl, List.mem_of_getElem? (i := 69) rfl, List.mem_of_getElem? (i := 71) rfl, List.mem_of_getElem? (i := 70) rfl, List.mem_of_getElem? (i := 72) rfl, rfl, rfl⟩
theorem lk_1_20 : LinkV PP "LatticeEarleyL7" 20 m12 := ⟨List.mem_of_getElem? (i := 174) rfl, List.mem_of_getElem? (i := 175) rfl, List.mem_of_getElem? (i := 177) rfl, List.mem_of_getElem? (i := 176) rfl, List.mem_of_getElem? (i := 178) rfl, rfl, rfl⟩
theorem lk_1_23 : LinkV PP "LatticeEarleyL7" 23 m48 := ⟨List.mem_of_getElem? (i := 96) rfl, List.mem_of_getElem? (i := 97) rfl, List.mem_of_getElem? (i := 99) rfl, List.mem_of_getElem? (i := 98) rfl, List.mem_of_getElem? (i := 100) rfl, rfl, rfl⟩
theorem lk_1_27 : LinkV PP "LatticeEarleyL7" 27 m49 := ⟨List.mem_of_getElem? (i := 240) rfl, List.mem_of_getElem? (i := 241) rfl, List.mem_of_getElem? (i := 243) rfl, List.mem_of_getElem? (i := 242) rfl, List.mem_of_getElem? (i := 244) rfl, rfl, rfl⟩
theorem lk_1_30 : LinkV PP "LatticeEarleyL7" 30 m50 := ⟨List.mem_of_getElem? (i := 81) rfl, List.mem_of_getElem? (i := 82) rfl, List.mem_of_getElem? (i := 84) rfl, List.mem_of_getElem? (i := 83) rfl, List.mem_of_getElem? (i := 85) rfl, rfl, rfl⟩
theorem lk_1_33 : LinkV PP "LatticeEarleyL7" 33 m51 := ⟨List.mem_of_getElem? (i := 86) rfl, List.mem_of_getElem? (i := 87) rfl, List.mem_of_getElem? (i := 89) rfl, List.mem_of_getElem? (i := 88) rfl, List.mem_of_getElem? (i := 90) rfl, rfl, rfl⟩
theorem lk_1_36 : LinkV PP "LatticeEarleyL7" 36 m52 := ⟨List.mem_of_getElem? (i := 91) rfl, List.mem_of_getElem? (i := 92) rfl, List.mem_of_getElem? (i := 94) rfl, List.mem_of_getElem? (i := 93) rfl, List.mem_of_getElem? (i := 95) rfl, rfl, rfl⟩
theorem lk_1_40 : LinkV PP "LatticeEarleyL7" 40 m53 := ⟨List.mem_of_getElem? (i := 191) rfl, List.mem_of_getElem? (i := 192) rfl, List.mem_of_getElem? (i := 194) rfl, List.mem_of_getElem? (i := 193) rfl, List.mem_of_getElem? (i := 195) rfl, rfl, rfl⟩
theorem lk_1_43 : LinkV PP "LatticeEarleyL7" 43 m54 := ⟨List.mem_of_getElem? (i := 141) rfl, List.mem_of_getElem? (i := 142) rfl, List.mem_of_getElem? (i := 144) rfl, List.mem_of_getElem? (i := 143) rfl, List.mem_of_getElem? (i := 145) rfl, rfl, rfl⟩
theorem lk_1_46 : LinkV PP "LatticeEarleyL7" 46 m55 := ⟨List.mem_of_getElem? (i := 146) rfl, List.mem_of_getElem? (i := 147) rfl, List.mem_of_getElem? (i := 149) rfl, List.mem_of_getElem? (i := 148) rfl, List.mem_of_getElem? (i := 150) rfl, rfl, rfl⟩
theorem lk_1_49 : LinkS PP "LatticeEarleyL7" 49 m56 := ⟨List.mem_of_getElem? (i := 151) rfl, List.mem_of_getElem? (i := 152) rfl, List.mem_of_getElem? (i := 153) rfl, List.mem_of_getElem? (i := 154) rfl, by decide⟩
theorem lk_1_55 : LinkV PP "LatticeEarleyL7" 55 m58 := ⟨List.mem_of_getElem? (i := 155) rfl, List.mem_of_getElem? (i := 156) rfl, List.mem_of_getElem? (i := 158) rfl, List.mem_of_getElem? (i := 157) rfl, List.mem_of_getElem? (i := 159) rfl, rfl, rfl⟩
theorem lk_1_59 : LinkV PP "LatticeEarleyL7" 59 m59 := ⟨List.mem_of_getElem? (i := 164) rfl, List.mem_of_getElem? (i := 165) rfl, List.mem_of_getElem? (i := 167) rfl, List.mem_of_getElem? (i := 166) rfl, List.mem_of_getElem? (i := 168) rfl, rfl, rfl⟩
theorem lk_1_63 : LinkV PP "LatticeEarleyL7" 63 m61 := ⟨List.mem_of_getElem? (i := 169) rfl, List.mem_of_getElem? (i := 170) rfl, List.mem_of_getElem? (i := 172) rfl, List.mem_of_getElem? (i := 171) rfl, List.mem_of_getElem? (i := 173) rfl, rfl, rfl⟩
theorem facts1 {Z : State} {a0 : Array Value} (hw : ∀ d ∈ tables_1, d.before a0 Z = true) : Facts Z a0 ci1 := by
  refine ⟨hw _ (List.mem_of_getElem? (i := 1) rfl), hw _ (List.mem_of_getElem? (i := 2) rfl), ?_, ?_, by decide, ?_, by decide⟩
  · intro f x hx
    match f, hx with
    | 0, hx => cases hx; exact ⟨Or.inl (hw _ (List.mem_of_getElem? (i := 11) rfl)), by decide⟩
    | 1, hx => cases hx; exact ⟨Or.inl (hw _ (List.mem_of_getElem? (i := 42) rfl)), by decide⟩
    | 2, hx => cases hx; exact ⟨Or.inl (hw _ (List.mem_of_getElem? (i := 48) rfl)), by decide⟩
    | 3, hx => cases hx; exact ⟨Or.inl (hw _ (List.mem_of_getElem? (i := 50) rfl)), by decide⟩
    | 4, hx => cases hx; exact ⟨Or.inl (hw _ (List.mem_of_getElem? (i := 56) rfl)), by decide⟩
    | 5, hx => cases hx; exact ⟨Or.inl (hw _ (List.mem_of_getElem? (i := 58) rfl)), by decide⟩
    | n + 6, hx => simp [cS, ci1] at hx
  · intro q x hx
    match q, hx with
    | 0, hx => cases hx; exact ⟨Or.inl (hw _ (List.mem_of_getElem? (i := 14) rfl)), by decide⟩
    | 1, hx => cases hx; exact ⟨Or.inl (hw _ (List.mem_of_getElem? (i := 16) rfl)), by decide⟩
    | 2, hx => cases hx; exact ⟨Or.inl (hw _ (List.mem_of_getElem? (i := 18) rfl)), by decide⟩
    | 3, hx => cases hx; exact ⟨Or.inl (hw _ (List.mem_of_getElem? (i := 20) rfl)), by decide⟩
    | 4, hx => cases hx; exact ⟨Or.inl (hw _ (List.mem_of_getElem? (i := 22) rfl)), by decide⟩
    | 5, hx => cases hx; exact ⟨Or.inl (hw _ (List.mem_of_getElem? (i := 24) rfl)), by decide⟩
    | 6, hx => cases hx; exact ⟨Or.inl (hw _ (List.mem_of_getElem? (i := 26) rfl)), by decide⟩
    | 7, hx => cases hx; exact ⟨Or.inl (hw _ (List.mem_of_getElem? (i := 28) rfl)), by decide⟩
    | 8, hx => cases hx; exact ⟨Or.inl (hw _ (List.mem_of_getElem? (i := 30) rfl)), by decide⟩
    | 9, hx => cases hx; exact ⟨Or.inl (hw _ (List.mem_of_getElem? (i := 32) rfl)), by decide⟩
    | 10, hx => cases hx; exact ⟨Or.inl (hw _ (List.mem_of_getElem? (i := 34) rfl)), by decide⟩
    | 11, hx => cases hx; exact ⟨Or.inl (hw _ (List.mem_of_getElem? (i := 36) rfl)), by decide⟩
    | n + 12, hx => simp [cA, ci1] at hx
  · intro f x hx
    match f, hx with
    | 0, hx => cases hx; rfl
    | 1, hx => cases hx; rfl
    | 2, hx => cases hx; rfl
    | 3, hx => cases hx; rfl
    | 4, hx => cases hx; rfl
    | 5, hx => cases hx; rfl
    | n + 6, hx => simp [cS, ci1] at hx
def k_clampNodes  (v1 : Int32)  : Int32 :=
  if v1 < (2 : Int32) then
    (2 : Int32)
  else
    if (8 : Int32) < v1 then
      (8 : Int32)
    else
      v1
def k_becomeBuilding   (s : S) : S :=
  sI (sI s 4 (0 : Int32)) 5 (-1 : Int32)
def k_clearStore_93  : Nat → Int32 → S → Option S
  | 0, _, _ => none
  | n + 1, v1, s =>
    if v1 < (36 : Int32) then
      (Jvm.AM.st (gA s 7) v1 (0 : Int32)).bind fun a105 =>
      k_clearStore_93 n (v1 + (1 : Int32)) (sA s 7 a105)
    else
      some s
def k_clearStore_91   (s : S) : Option S :=
  k_clearStore_93 BIG (0 : Int32) s
def k_clearStore_58  : Nat → Int32 → S → Option S
  | 0, _, _ => none
  | n + 1, v1, s =>
    if v1 < (12 : Int32) then
      (Jvm.AM.st (gA s 4) v1 (0 : Int32)).bind fun a70 =>
      (Jvm.AM.st (gA s 5) v1 (0 : Int32)).bind fun a77 =>
      (Jvm.AM.st (gA s 6) v1 (0 : Int32)).bind fun a84 =>
      k_clearStore_58 n (v1 + (1 : Int32)) (sA (sA (sA s 4 a70) 5 a77) 6 a84)
    else
      k_clearStore_91 s
def k_clearStore_56   (s : S) : Option S :=
  k_clearStore_58 BIG (0 : Int32) s
def k_clearStore_16  : Nat → Int32 → S → Option S
  | 0, _, _ => none
  | n + 1, v1, s =>
    if v1 < (16 : Int32) then
      (Jvm.AM.st (gA s 0) v1 (0 : Int32)).bind fun a28 =>
      (Jvm.AM.st (gA s 1) v1 (0 : Int32)).bind fun a35 =>
      (Jvm.AM.st (gA s 2) v1 (0 : Int32)).bind fun a42 =>
      (Jvm.AM.st (gA s 3) v1 (0 : Int32)).bind fun a49 =>
      k_clearStore_16 n (v1 + (1 : Int32)) (sA (sA (sA (sA s 0 a28) 1 a35) 2 a42) 3 a49)
    else
      k_clearStore_56 s
def k_clearStore   (s : S) : Option S :=
  k_clearStore_16 BIG (0 : Int32) (k_becomeBuilding (sI (sI s 2 (0 : Int32)) 3 (0 : Int32)))
def k_clearTables_37  : Nat → Int32 → S → Option S
  | 0, _, _ => none
  | n + 1, v1, s =>
    if v1 < (3072 : Int32) then
      (Jvm.AM.st (gA s 9) v1 (gI s 0)).bind fun a53 =>
      (Jvm.AM.st (gA s 10) v1 (gI s 0)).bind fun a63 =>
      k_clearTables_37 n (v1 + (1 : Int32)) (sA (sA s 9 a53) 10 a63)
    else
      some s
def k_clearTables_35   (s : S) : Option S :=
  k_clearTables_37 BIG (0 : Int32) s
def k_clearTables_2  : Nat → Int32 → S → Option S
  | 0, _, _ => none
  | n + 1, v1, s =>
    if v1 < (1024 : Int32) then
      (Jvm.AM.st (gA s 8) v1 (gI s 0)).bind fun a18 =>
      (Jvm.AM.st (gA s 11) v1 (gI s 0)).bind fun a28 =>
      k_clearTables_2 n (v1 + (1 : Int32)) (sA (sA s 8 a18) 11 a28)
    else
      k_clearTables_35 s
def k_clearTables   (s : S) : Option S :=
  k_clearTables_2 BIG (0 : Int32) s
def k_init  (v1 : Int32)  : Option S :=
  (k_clearStore (sI (sA (sA (sA (sA (sA (sA (sA (sA (sA (sA (sA (sA (sI s0 0 (1073741824 : Int32)) 0 (rep 16 0)) 1 (rep 16 0)) 2 (rep 16 0)) 3 (rep 16 0)) 4 (rep 12 0)) 5 (rep 12 0)) 6 (rep 12 0)) 7 (rep 36 0)) 8 (rep 1024 0)) 9 (rep 3072 0)) 10 (rep 3072 0)) 11 (rep 1024 0)) 1 (k_clampNodes v1))).bind fun r120 =>
  (k_clearTables r120).bind fun r124 =>
  some r124
def k_nodeCount   (s : S) : Int32 :=
  gI s 1
def k_inRange  (v1 : Int32) (v2 : Int32) (v3 : Int32)  : Int32 :=
  if v1 < v2 then
    (0 : Int32)
  else
    if v3 < v1 then
      (0 : Int32)
    else
      (1 : Int32)
def k_edgeRefused  (v1 : Int32) (v2 : Int32) (v3 : Int32) (v4 : Int32) (s : S) : Int32 :=
  if (gI s 2) < (16 : Int32) then
    if v1 < 0 then
      (1 : Int32)
    else
      if ((gI s 1) - (1 : Int32)) < v2 then
        (1 : Int32)
      else
        if v1 < v2 then
          if (k_inRange v3 (0 : Int32) (7 : Int32)) = 0 then
            (1 : Int32)
          else
            if (k_inRange v4 (0 : Int32) (100 : Int32)) = 0 then
              (1 : Int32)
            else
              (0 : Int32)
        else
          (1 : Int32)
  else
    (1 : Int32)
def k_addEdge  (v1 : Int32) (v2 : Int32) (v3 : Int32) (v4 : Int32) (s : S) : Option (Int32 × S) :=
  if (k_edgeRefused v1 v2 v3 v4 s) = 0 then
    (Jvm.AM.st (gA s 0) (gI s 2) v1).bind fun a27 =>
    (Jvm.AM.st (gA s 1) (gI s 2) v2).bind fun a35 =>
    (Jvm.AM.st (gA s 2) (gI s 2) v3).bind fun a43 =>
    (Jvm.AM.st (gA s 3) (gI s 2) v4).bind fun a52 =>
    some (gI s 2, (k_becomeBuilding (sI (sA (sA (sA (sA s 0 a27) 1 a35) 2 a43) 3 a52) 2 ((gI s 2) + (1 : Int32)))))
  else
    some ((-1 : Int32), s)
def k_bodyLimit_4  : Nat → Int32 → Int32 → Int32 → Option Int32
  | 0, _, _, _ => none
  | n + 1, v1, v2, v3 =>
    if v3 < v1 then
      if v3 < (3 : Int32) then
        k_bodyLimit_4 n v1 (v2 * (16 : Int32)) (v3 + (1 : Int32))
      else
        some v2
    else
      some v2
def k_bodyLimit  (v1 : Int32)  : Option Int32 :=
  k_bodyLimit_4 BIG v1 (1 : Int32) (0 : Int32)
def k_ruleRefused  (v1 : Int32) (v2 : Int32) (v3 : Int32) (v4 : Int32) (s : S) : Option Int32 :=
  if (gI s 3) < (12 : Int32) then
    if (k_inRange v1 (0 : Int32) (7 : Int32)) = 0 then
      some (1 : Int32)
    else
      if (k_inRange v2 (0 : Int32) (100 : Int32)) = 0 then
        some (1 : Int32)
      else
        if (k_inRange v3 (0 : Int32) (3 : Int32)) = 0 then
          some (1 : Int32)
        else
          if v4 < 0 then
            some (1 : Int32)
          else
            (k_bodyLimit v3).bind fun r60 =>
            if v4 < r60 then
              some (0 : Int32)
            else
              some (1 : Int32)
  else
    some (1 : Int32)
def k_storeRule_64 (k36 : Int32 → Int32 → Int32 → Int32 → S → Option S) (v1 : Int32) (v4 : Int32) (v5 : Int32) (v6 : Int32) (v7 : Int32) (s : S) : Option S :=
  (Jvm.AM.st (gA s 7) ((v1 * (3 : Int32)) + v6) v7).bind fun a76 =>
  k36 v1 v4 v5 (v6 + (1 : Int32)) (sA s 7 a76)
def k_storeRule_36  : Nat → Int32 → Int32 → Int32 → Int32 → S → Option S
  | 0, _, _, _, _, _ => none
  | n + 1, v1, v4, v5, v6, s =>
    if v6 < (3 : Int32) then
      k_storeRule_64 (fun v1 v4 v5 v6 s => k_storeRule_36 n v1 v4 v5 v6 s) v1 v4 v5 v6 (if v6 < v4 then (v5 >>> (((4 : Int32) * v6) &&& 31)) &&& (15 : Int32) else (0 : Int32)) s
    else
      some s
def k_storeRule  (v1 : Int32) (v2 : Int32) (v3 : Int32) (v4 : Int32) (v5 : Int32) (s : S) : Option S :=
  if v1 < 0 then
    some s
  else
    if v1 < (12 : Int32) then
      (Jvm.AM.st (gA s 4) v1 v2).bind fun a17 =>
      (Jvm.AM.st (gA s 5) v1 v3).bind fun a24 =>
      (Jvm.AM.st (gA s 6) v1 v4).bind fun a32 =>
      k_storeRule_36 BIG v1 v4 v5 (0 : Int32) (sA (sA (sA s 4 a17) 5 a24) 6 a32)
    else
      some s
def k_addRule  (v1 : Int32) (v2 : Int32) (v3 : Int32) (v4 : Int32) (s : S) : Option (Int32 × S) :=
  (k_ruleRefused v1 v2 v3 v4 s).bind fun r6 =>
  if r6 = 0 then
    (k_storeRule (gI s 3) v1 v2 v3 v4 s).bind fun r28 =>
    some (gI s 3, (k_becomeBuilding (sI r28 3 ((gI s 3) + (1 : Int32)))))
  else
    some ((-1 : Int32), s)
def k_isCode  (v1 : Int32)  : Int32 :=
  if v1 < 0 then
    (0 : Int32)
  else
    if v1 < (16 : Int32) then
      (1 : Int32)
    else
      (0 : Int32)
def k_isNode  (v1 : Int32) (s : S) : Int32 :=
  if v1 < 0 then
    (0 : Int32)
  else
    if v1 < (gI s 1) then
      (1 : Int32)
    else
      (0 : Int32)
def k_spanSlot  (v1 : Int32) (v2 : Int32) (v3 : Int32) (s : S) : Int32 :=
  if (k_isCode v1) = 0 then
    (-1 : Int32)
  else
    if (k_isNode v2 s) = 0 then
      (-1 : Int32)
    else
      if (k_isNode v3 s) = 0 then
        (-1 : Int32)
      else
        ((v1 * (64 : Int32)) + (v2 * (8 : Int32))) + v3
def k_lowerSpan  (v1 : Int32) (v2 : Int32) (v3 : Int32) (v4 : Int32) (s : S) : Option (Int32 × S) :=
  if (k_spanSlot v1 v2 v3 s) < 0 then
    some ((0 : Int32), s)
  else
    (ix (gA s 8) (k_spanSlot v1 v2 v3 s)).bind fun a22 =>
    if v4 < a22 then
      (Jvm.AM.st (gA s 8) (k_spanSlot v1 v2 v3 s) v4).bind fun a36 =>
      some ((1 : Int32), sA s 8 a36)
    else
      some ((0 : Int32), s)
def k_scanEdges_2  : Nat → Int32 → S → Option S
  | 0, _, _ => none
  | n + 1, v1, s =>
    if v1 < (gI s 2) then
      (ix (gA s 2) v1).bind fun a16 =>
      (ix (gA s 0) v1).bind fun a22 =>
      (ix (gA s 1) v1).bind fun a28 =>
      (ix (gA s 3) v1).bind fun a34 =>
      (k_lowerSpan a16 a22 a28 a34 s).bind fun r35 =>
      k_scanEdges_2 n (v1 + (1 : Int32)) r35.2
    else
      some s
def k_scanEdges   (s : S) : Option S :=
  k_scanEdges_2 BIG (0 : Int32) s
def k_isRule  (v1 : Int32) (s : S) : Int32 :=
  if v1 < 0 then
    (0 : Int32)
  else
    if v1 < (gI s 3) then
      (1 : Int32)
    else
      (0 : Int32)
def k_isDot  (v1 : Int32)  : Int32 :=
  if v1 < 0 then
    (0 : Int32)
  else
    if (3 : Int32) < v1 then
      (0 : Int32)
    else
      (1 : Int32)
def k_itemSlot  (v1 : Int32) (v2 : Int32) (v3 : Int32) (v4 : Int32) (s : S) : Int32 :=
  if (k_isRule v1 s) = 0 then
    (-1 : Int32)
  else
    if (k_isDot v2) = 0 then
      (-1 : Int32)
    else
      if (k_isNode v3 s) = 0 then
        (-1 : Int32)
      else
        if (k_isNode v4 s) = 0 then
          (-1 : Int32)
        else
          ((((v1 * (4 : Int32)) + v2) * (64 : Int32)) + (v3 * (8 : Int32))) + v4
def k_lowerItem  (v1 : Int32) (v2 : Int32) (v3 : Int32) (v4 : Int32) (v5 : Int32) (s : S) : Option (Int32 × S) :=
  if (k_itemSlot v1 v2 v3 v4 s) < 0 then
    some ((0 : Int32), s)
  else
    (ix (gA s 9) (k_itemSlot v1 v2 v3 v4 s)).bind fun a24 =>
    if v5 < a24 then
      (Jvm.AM.st (gA s 9) (k_itemSlot v1 v2 v3 v4 s) v5).bind fun a38 =>
      some ((1 : Int32), sA s 9 a38)
    else
      some ((0 : Int32), s)
def k_seedItems_12 (k2 : Int32 → S → Option S) : Nat → Int32 → Int32 → S → Option S
  | 0, _, _, _ => none
  | n + 1, v1, v2, s =>
    if v2 < (gI s 1) then
      (ix (gA s 5) v1).bind fun a30 =>
      (k_lowerItem v1 (0 : Int32) v2 v2 a30 s).bind fun r31 =>
      k_seedItems_12 k2 n v1 (v2 + (1 : Int32)) r31.2
    else
      k2 (v1 + (1 : Int32)) s
def k_seedItems_2  : Nat → Int32 → S → Option S
  | 0, _, _ => none
  | n + 1, v1, s =>
    if v1 < (gI s 3) then
      k_seedItems_12 (fun v1 s => k_seedItems_2 n v1 s) BIG v1 (0 : Int32) s
    else
      some s
def k_seedItems   (s : S) : Option S :=
  k_seedItems_2 BIG (0 : Int32) s
def k_symbolAt  (v1 : Int32) (v2 : Int32) (s : S) : Option Int32 :=
  if v1 < 0 then
    some (0 : Int32)
  else
    if v1 < (12 : Int32) then
      if v2 < 0 then
        some (0 : Int32)
      else
        if v2 < (3 : Int32) then
          (ix (gA s 7) ((v1 * (3 : Int32)) + v2)).bind fun a30 =>
          some a30
        else
          some (0 : Int32)
    else
      some (0 : Int32)
def k_getItem  (v1 : Int32) (v2 : Int32) (v3 : Int32) (v4 : Int32) (s : S) : Option Int32 :=
  if (k_itemSlot v1 v2 v3 v4 s) < 0 then
    some (gI s 0)
  else
    (ix (gA s 9) (k_itemSlot v1 v2 v3 v4 s)).bind fun a27 =>
    some a27
def k_getSpan  (v1 : Int32) (v2 : Int32) (v3 : Int32) (s : S) : Option Int32 :=
  if (k_spanSlot v1 v2 v3 s) < 0 then
    some (gI s 0)
  else
    (ix (gA s 8) (k_spanSlot v1 v2 v3 s)).bind fun a25 =>
    some a25
def k_plus  (v1 : Int32) (v2 : Int32) (s : S) : Int32 :=
  if v1 < (gI s 0) then
    if v2 < (gI s 0) then
      if (v1 + v2) < (gI s 0) then
        v1 + v2
      else
        gI s 0
    else
      gI s 0
  else
    gI s 0
def k_bestAdvance_17  : Nat → Int32 → Int32 → Int32 → Int32 → Int32 → Int32 → Int32 → S → Option Int32
  | 0, _, _, _, _, _, _, _, _ => none
  | n + 1, v1, v2, v3, v4, v5, v6, v7, s =>
    if v4 < v7 then
      some v6
    else
      (k_getItem v1 v2 v3 v7 s).bind fun r30 =>
      (k_getSpan v5 v7 v4 s).bind fun r42 =>
      k_bestAdvance_17 n v1 v2 v3 v4 v5 (if (k_plus r30 r42 s) < v6 then (k_plus r30 r42 s) else v6) (v7 + (1 : Int32)) s
def k_bestAdvance  (v1 : Int32) (v2 : Int32) (v3 : Int32) (v4 : Int32) (s : S) : Option Int32 :=
  (k_symbolAt v1 v2 s).bind fun r3 =>
  k_bestAdvance_17 BIG v1 v2 v3 v4 r3 (gI s 0) v3 s
def k_advanceItems_14  : Nat → Int32 → Int32 → Int32 → Int32 → Int32 → Int32 → S → Option (Int32 × S)
  | 0, _, _, _, _, _, _, _ => none
  | n + 1, v1, v2, v3, v4, v5, v6, s =>
    if v6 < v5 then
      (k_bestAdvance v1 v6 v2 v3 s).bind fun r27 =>
      (k_lowerItem v1 (v6 + (1 : Int32)) v2 v3 r27 s).bind fun r42 =>
      k_advanceItems_14 n v1 v2 v3 (if r42.1 = 0 then v4 else (1 : Int32)) v5 (v6 + (1 : Int32)) r42.2
    else
      some (nar .boolean v4, s)
def k_advanceItems  (v1 : Int32) (v2 : Int32) (v3 : Int32) (s : S) : Option (Int32 × S) :=
  (ix (gA s 6) v1).bind fun a8 =>
  k_advanceItems_14 BIG v1 v2 v3 (0 : Int32) a8 (0 : Int32) s
def k_headCode  (v1 : Int32) (s : S) : Option Int32 :=
  if v1 < 0 then
    some (8 : Int32)
  else
    if v1 < (12 : Int32) then
      (ix (gA s 4) v1).bind fun a20 =>
      some ((8 : Int32) + a20)
    else
      some (8 : Int32)
def k_completeItem  (v1 : Int32) (v2 : Int32) (v3 : Int32) (s : S) : Option (Int32 × S) :=
  (ix (gA s 6) v1).bind fun a7 =>
  (k_getItem v1 a7 v2 v3 s).bind fun r10 =>
  (k_headCode v1 s).bind fun r17 =>
  (k_lowerSpan r17 v2 v3 r10 s).bind fun r29 =>
  some (nar .boolean r29.1, r29.2)
def k_insideRound_27 (k5 : Int32 → Int32 → Int32 → Int32 → S → Option (Int32 × S)) (v1 : Int32) (v2 : Int32) (v3 : Int32) (v4 : Int32) (s : S) : Option (Int32 × S) :=
  (k_completeItem v4 v1 v2 s).bind fun r32 =>
  k5 v1 v2 (if r32.1 = 0 then v3 else (1 : Int32)) (v4 + (1 : Int32)) r32.2
def k_insideRound_5  : Nat → Int32 → Int32 → Int32 → Int32 → S → Option (Int32 × S)
  | 0, _, _, _, _, _ => none
  | n + 1, v1, v2, v3, v4, s =>
    if v4 < (gI s 3) then
      (k_advanceItems v4 v1 v2 s).bind fun r19 =>
      k_insideRound_27 (fun v1 v2 v3 v4 s => k_insideRound_5 n v1 v2 v3 v4 s) v1 v2 (if r19.1 = 0 then v3 else (1 : Int32)) v4 r19.2
    else
      some (nar .boolean v3, s)
def k_insideRound  (v1 : Int32) (v2 : Int32) (s : S) : Option (Int32 × S) :=
  k_insideRound_5 BIG v1 v2 (0 : Int32) (0 : Int32) s
def k_closeInsideCell_5  : Nat → Int32 → Int32 → Int32 → Int32 → S → Option S
  | 0, _, _, _, _, _ => none
  | n + 1, v1, v2, v3, v4, s =>
    if v3 = 0 then
      some s
    else
      if v4 < (24 : Int32) then
        (k_insideRound v1 v2 s).bind fun r19 =>
        k_closeInsideCell_5 n v1 v2 r19.1 (v4 + (1 : Int32)) r19.2
      else
        some s
def k_closeInsideCell  (v1 : Int32) (v2 : Int32) (s : S) : Option S :=
  k_closeInsideCell_5 BIG v1 v2 (1 : Int32) (0 : Int32) s
def k_runInside_20 (k10 : Int32 → S → Option S) : Nat → Int32 → Int32 → S → Option S
  | 0, _, _, _ => none
  | n + 1, v1, v2, s =>
    if v2 < 0 then
      k10 (v1 + (1 : Int32)) s
    else
      (k_closeInsideCell v2 v1 s).bind fun r27 =>
      k_runInside_20 k10 n v1 (v2 + (-1 : Int32)) r27
def k_runInside_10  : Nat → Int32 → S → Option S
  | 0, _, _ => none
  | n + 1, v1, s =>
    if v1 < (gI s 1) then
      k_runInside_20 (fun v1 s => k_runInside_10 n v1 s) BIG v1 v1 s
    else
      some s
def k_runInside   (s : S) : Option S :=
  (k_scanEdges s).bind fun r1 =>
  (k_seedItems r1).bind fun r5 =>
  k_runInside_10 BIG (0 : Int32) r5
def k_lowerRest  (v1 : Int32) (v2 : Int32) (v3 : Int32) (v4 : Int32) (v5 : Int32) (s : S) : Option (Int32 × S) :=
  if (k_itemSlot v1 v2 v3 v4 s) < 0 then
    some ((0 : Int32), s)
  else
    (ix (gA s 10) (k_itemSlot v1 v2 v3 v4 s)).bind fun a24 =>
    if v5 < a24 then
      (Jvm.AM.st (gA s 10) (k_itemSlot v1 v2 v3 v4 s) v5).bind fun a38 =>
      some ((1 : Int32), sA s 10 a38)
    else
      some ((0 : Int32), s)
def k_seedRest_9  : Nat → Int32 → Int32 → Int32 → S → Option S
  | 0, _, _, _, _ => none
  | n + 1, v1, v2, v3, s =>
    if v3 < (gI s 1) then
      (k_lowerRest v1 v2 v3 v3 (0 : Int32) s).bind fun r23 =>
      k_seedRest_9 n v1 v2 (v3 + (1 : Int32)) r23.2
    else
      some s
def k_seedRest  (v1 : Int32) (s : S) : Option S :=
  (ix (gA s 6) v1).bind fun a5 =>
  k_seedRest_9 BIG v1 a5 (0 : Int32) s
def k_getRest  (v1 : Int32) (v2 : Int32) (v3 : Int32) (v4 : Int32) (s : S) : Option Int32 :=
  if (k_itemSlot v1 v2 v3 v4 s) < 0 then
    some (gI s 0)
  else
    (ix (gA s 10) (k_itemSlot v1 v2 v3 v4 s)).bind fun a27 =>
    some a27
def k_restAt_17  : Nat → Int32 → Int32 → Int32 → Int32 → Int32 → Int32 → Int32 → S → Option Int32
  | 0, _, _, _, _, _, _, _, _ => none
  | n + 1, v1, v2, v3, v4, v5, v6, v7, s =>
    if v4 < v7 then
      some v6
    else
      (k_getSpan v5 v3 v7 s).bind fun r30 =>
      (k_getRest v1 (v2 + (1 : Int32)) v7 v4 s).bind fun r44 =>
      k_restAt_17 n v1 v2 v3 v4 v5 (if (k_plus r30 r44 s) < v6 then (k_plus r30 r44 s) else v6) (v7 + (1 : Int32)) s
def k_restAt  (v1 : Int32) (v2 : Int32) (v3 : Int32) (v4 : Int32) (s : S) : Option Int32 :=
  (k_symbolAt v1 v2 s).bind fun r3 =>
  k_restAt_17 BIG v1 v2 v3 v4 r3 (gI s 0) v3 s
def k_fillRestLevel_13 (k2 : Int32 → Int32 → Int32 → S → Option S) : Nat → Int32 → Int32 → Int32 → Int32 → S → Option S
  | 0, _, _, _, _, _ => none
  | n + 1, v1, v2, v3, v4, s =>
    if v4 < (gI s 1) then
      (k_restAt v1 v2 v3 v4 s).bind fun r28 =>
      (k_lowerRest v1 v2 v3 v4 r28 s).bind fun r41 =>
      k_fillRestLevel_13 k2 n v1 v2 v3 (v4 + (1 : Int32)) r41.2
    else
      k2 v1 v2 (v3 + (1 : Int32)) s
def k_fillRestLevel_2  : Nat → Int32 → Int32 → Int32 → S → Option S
  | 0, _, _, _, _ => none
  | n + 1, v1, v2, v3, s =>
    if v3 < (gI s 1) then
      k_fillRestLevel_13 (fun v1 v2 v3 s => k_fillRestLevel_2 n v1 v2 v3 s) BIG v1 v2 v3 v3 s
    else
      some s
def k_fillRestLevel  (v1 : Int32) (v2 : Int32) (s : S) : Option S :=
  k_fillRestLevel_2 BIG v1 v2 (0 : Int32) s
def k_runRest_26 (k2 : Int32 → S → Option S) : Nat → Int32 → Int32 → S → Option S
  | 0, _, _, _ => none
  | n + 1, v1, v3, s =>
    if v3 < 0 then
      k2 (v1 + (1 : Int32)) s
    else
      (k_fillRestLevel v1 v3 s).bind fun r33 =>
      k_runRest_26 k2 n v1 (v3 + (-1 : Int32)) r33
def k_runRest_2  : Nat → Int32 → S → Option S
  | 0, _, _ => none
  | n + 1, v1, s =>
    if v1 < (gI s 3) then
      (k_seedRest v1 s).bind fun r12 =>
      (ix (gA r12 6) v1).bind fun a20 =>
      k_runRest_26 (fun v1 s => k_runRest_2 n v1 s) BIG v1 (a20 - (1 : Int32)) r12
    else
      some s
def k_runRest   (s : S) : Option S :=
  k_runRest_2 BIG (0 : Int32) s
def k_lowerOuter  (v1 : Int32) (v2 : Int32) (v3 : Int32) (v4 : Int32) (s : S) : Option (Int32 × S) :=
  if (k_spanSlot v1 v2 v3 s) < 0 then
    some ((0 : Int32), s)
  else
    (ix (gA s 11) (k_spanSlot v1 v2 v3 s)).bind fun a22 =>
    if v4 < a22 then
      (Jvm.AM.st (gA s 11) (k_spanSlot v1 v2 v3 s) v4).bind fun a36 =>
      some ((1 : Int32), sA s 11 a36)
    else
      some ((0 : Int32), s)
def k_getOuter  (v1 : Int32) (v2 : Int32) (v3 : Int32) (s : S) : Option Int32 :=
  if (k_spanSlot v1 v2 v3 s) < 0 then
    some (gI s 0)
  else
    (ix (gA s 11) (k_spanSlot v1 v2 v3 s)).bind fun a25 =>
    some a25
def k_plus3  (v1 : Int32) (v2 : Int32) (v3 : Int32) (s : S) : Int32 :=
  (k_plus (k_plus v1 v2 s) v3 s)
def k_bestContext_34 (k24 : Int32 → Int32 → Int32 → Int32 → Int32 → Int32 → Int32 → Int32 → S → Option Int32) : Nat → Int32 → Int32 → Int32 → Int32 → Int32 → Int32 → Int32 → Int32 → Int32 → S → Option Int32
  | 0, _, _, _, _, _, _, _, _, _, _ => none
  | n + 1, v1, v2, v3, v4, v5, v6, v7, v8, v9, s =>
    if v6 < v9 then
      k24 v1 v2 v3 v4 v5 v6 v7 (v8 + (1 : Int32)) s
    else
      (k_getOuter v5 v8 v9 s).bind fun r48 =>
      (k_getItem v1 v2 v8 v3 s).bind fun r59 =>
      (k_getRest v1 (v2 + (1 : Int32)) v4 v9 s).bind fun r73 =>
      k_bestContext_34 k24 n v1 v2 v3 v4 v5 v6 (if (k_plus3 r48 r59 r73 s) < v7 then (k_plus3 r48 r59 r73 s) else v7) v8 (v9 + (1 : Int32)) s
def k_bestContext_24  : Nat → Int32 → Int32 → Int32 → Int32 → Int32 → Int32 → Int32 → Int32 → S → Option Int32
  | 0, _, _, _, _, _, _, _, _, _ => none
  | n + 1, v1, v2, v3, v4, v5, v6, v7, v8, s =>
    if v3 < v8 then
      some v7
    else
      k_bestContext_34 (fun v1 v2 v3 v4 v5 v6 v7 v8 s => k_bestContext_24 n v1 v2 v3 v4 v5 v6 v7 v8 s) BIG v1 v2 v3 v4 v5 v6 v7 v8 v4 s
def k_bestContext  (v1 : Int32) (v2 : Int32) (v3 : Int32) (v4 : Int32) (s : S) : Option Int32 :=
  (k_headCode v1 s).bind fun r2 =>
  k_bestContext_24 BIG v1 v2 v3 v4 r2 ((gI s 1) - (1 : Int32)) (gI s 0) (0 : Int32) s
def k_outerRule_14  : Nat → Int32 → Int32 → Int32 → Int32 → Int32 → Int32 → S → Option (Int32 × S)
  | 0, _, _, _, _, _, _, _ => none
  | n + 1, v1, v2, v3, v4, v5, v6, s =>
    if v6 < v5 then
      (k_bestContext v1 v6 v2 v3 s).bind fun r27 =>
      (k_symbolAt v1 v6 s).bind fun r36 =>
      (k_lowerOuter r36 v2 v3 r27 s).bind fun r48 =>
      k_outerRule_14 n v1 v2 v3 (if r48.1 = 0 then v4 else (1 : Int32)) v5 (v6 + (1 : Int32)) r48.2
    else
      some (nar .boolean v4, s)
def k_outerRule  (v1 : Int32) (v2 : Int32) (v3 : Int32) (s : S) : Option (Int32 × S) :=
  (ix (gA s 6) v1).bind fun a8 =>
  k_outerRule_14 BIG v1 v2 v3 (0 : Int32) a8 (0 : Int32) s
def k_outerRound_5  : Nat → Int32 → Int32 → Int32 → Int32 → S → Option (Int32 × S)
  | 0, _, _, _, _, _ => none
  | n + 1, v1, v2, v3, v4, s =>
    if v4 < (gI s 3) then
      (k_outerRule v4 v1 v2 s).bind fun r19 =>
      k_outerRound_5 n v1 v2 (if r19.1 = 0 then v3 else (1 : Int32)) (v4 + (1 : Int32)) r19.2
    else
      some (nar .boolean v3, s)
def k_outerRound  (v1 : Int32) (v2 : Int32) (s : S) : Option (Int32 × S) :=
  k_outerRound_5 BIG v1 v2 (0 : Int32) (0 : Int32) s
def k_closeOuterCell_5  : Nat → Int32 → Int32 → Int32 → Int32 → S → Option S
  | 0, _, _, _, _, _ => none
  | n + 1, v1, v2, v3, v4, s =>
    if v3 = 0 then
      some s
    else
      if v4 < (24 : Int32) then
        (k_outerRound v1 v2 s).bind fun r19 =>
        k_closeOuterCell_5 n v1 v2 r19.1 (v4 + (1 : Int32)) r19.2
      else
        some s
def k_closeOuterCell  (v1 : Int32) (v2 : Int32) (s : S) : Option S :=
  k_closeOuterCell_5 BIG v1 v2 (1 : Int32) (0 : Int32) s
def k_runOuter_25 (k19 : Int32 → Int32 → S → Option S) : Nat → Int32 → Int32 → Int32 → S → Option S
  | 0, _, _, _, _ => none
  | n + 1, v1, v2, v3, s =>
    if v1 < (v3 + v2) then
      k19 v1 (v2 + (-1 : Int32)) s
    else
      (k_closeOuterCell v3 (v3 + v2) s).bind fun r37 =>
      k_runOuter_25 k19 n v1 v2 (v3 + (1 : Int32)) r37
def k_runOuter_19  : Nat → Int32 → Int32 → S → Option S
  | 0, _, _, _ => none
  | n + 1, v1, v2, s =>
    if v2 < 0 then
      some s
    else
      k_runOuter_25 (fun v1 v2 s => k_runOuter_19 n v1 v2 s) BIG v1 v2 (0 : Int32) s
def k_runOuter   (s : S) : Option S :=
  (k_lowerOuter (8 : Int32) (0 : Int32) ((gI s 1) - (1 : Int32)) (0 : Int32) s).bind fun r13 =>
  k_runOuter_19 BIG ((gI s 1) - (1 : Int32)) ((gI s 1) - (1 : Int32)) r13.2
def k_parse_63   (s : S) : Option (Int32 × S) :=
  if (gI s 4) = (1 : Int32) then
    some ((1 : Int32), s)
  else
    some ((0 : Int32), s)
def k_parse   (s : S) : Option (Int32 × S) :=
  (k_clearTables s).bind fun r1 =>
  (k_runInside r1).bind fun r5 =>
  (k_getSpan (8 : Int32) (0 : Int32) ((gI r5 1) - (1 : Int32)) r5).bind fun r20 =>
  if r20 < (gI r5 0) then
    (k_runRest (sI (sI r5 4 (1 : Int32)) 5 r20)).bind fun r43 =>
    (k_runOuter r43).bind fun r47 =>
    k_parse_63 r47
  else
    k_parse_63 (sI (sI r5 4 (2 : Int32)) 5 (-1 : Int32))
def k_reset   (s : S) : Option S :=
  (k_clearStore s).bind fun r1 =>
  (k_clearTables r1).bind fun r5 =>
  some r5
def k_edgeCount   (s : S) : Int32 :=
  gI s 2
def k_ruleCount   (s : S) : Int32 :=
  gI s 3
def k_edgeInfo  (v1 : Int32) (v2 : Int32) (s : S) : Option Int32 :=
  if v1 < 0 then
    some (-1 : Int32)
  else
    if v1 < (gI s 2) then
      if v2 = 0 then
        (ix (gA s 0) v1).bind fun a23 =>
        some a23
      else
        if v2 = (1 : Int32) then
          (ix (gA s 1) v1).bind fun a35 =>
          some a35
        else
          if v2 = (2 : Int32) then
            (ix (gA s 2) v1).bind fun a47 =>
            some a47
          else
            if v2 = (3 : Int32) then
              (ix (gA s 3) v1).bind fun a59 =>
              some a59
            else
              some (-1 : Int32)
    else
      some (-1 : Int32)
def k_ruleInfo  (v1 : Int32) (v2 : Int32) (s : S) : Option Int32 :=
  if v1 < 0 then
    some (-1 : Int32)
  else
    if v1 < (gI s 3) then
      if v2 = 0 then
        (ix (gA s 4) v1).bind fun a23 =>
        some a23
      else
        if v2 = (1 : Int32) then
          (ix (gA s 5) v1).bind fun a35 =>
          some a35
        else
          if v2 = (2 : Int32) then
            (ix (gA s 6) v1).bind fun a47 =>
            some a47
          else
            if v2 < (3 : Int32) then
              some (-1 : Int32)
            else
              if (5 : Int32) < v2 then
                some (-1 : Int32)
              else
                (ix (gA s 6) v1).bind fun a71 =>
                if (v2 - (3 : Int32)) < a71 then
                  (k_symbolAt v1 (v2 - (3 : Int32)) s).bind fun r80 =>
                  some r80
                else
                  some (-1 : Int32)
    else
      some (-1 : Int32)
def k_status   (s : S) : Int32 :=
  gI s 4
def k_bestWeight   (s : S) : Int32 :=
  if (gI s 4) = (1 : Int32) then
    gI s 5
  else
    (-1 : Int32)
def k_answer  (v1 : Int32) (s : S) : Int32 :=
  if v1 < (gI s 0) then
    if v1 < 0 then
      (-1 : Int32)
    else
      v1
  else
    (-1 : Int32)
def k_spanWeight  (v1 : Int32) (v2 : Int32) (v3 : Int32) (s : S) : Option Int32 :=
  if (gI s 4) = 0 then
    some (-1 : Int32)
  else
    if (k_isCode v1) = 0 then
      some (-1 : Int32)
    else
      if (k_isNode v2 s) = 0 then
        some (-1 : Int32)
      else
        if (k_isNode v3 s) = 0 then
          some (-1 : Int32)
        else
          if v3 < v2 then
            some (-1 : Int32)
          else
            (k_getSpan v1 v2 v3 s).bind fun r46 =>
            some (k_answer r46 s)
def k_edgeBest  (v1 : Int32) (s : S) : Option Int32 :=
  if (gI s 4) = (1 : Int32) then
    if v1 < 0 then
      some (-1 : Int32)
    else
      if v1 < (gI s 2) then
        (ix (gA s 2) v1).bind fun a30 =>
        (ix (gA s 0) v1).bind fun a36 =>
        (ix (gA s 1) v1).bind fun a42 =>
        (k_getOuter a30 a36 a42 s).bind fun r43 =>
        (ix (gA s 3) v1).bind fun a54 =>
        some (k_answer (k_plus r43 a54 s) s)
      else
        some (-1 : Int32)
  else
    some (-1 : Int32)
def k_ruleContext_35 (k22 : Int32 → Int32 → Int32 → Int32 → Int32 → S → Option Int32) : Nat → Int32 → Int32 → Int32 → Int32 → Int32 → Int32 → S → Option Int32
  | 0, _, _, _, _, _, _, _ => none
  | n + 1, v1, v2, v3, v4, v5, v6, s =>
    if v6 < (gI s 1) then
      (k_getOuter v2 v5 v6 s).bind fun r50 =>
      (k_getItem v1 v3 v5 v6 s).bind fun r62 =>
      k_ruleContext_35 k22 n v1 v2 v3 (if (k_plus r50 r62 s) < v4 then (k_plus r50 r62 s) else v4) v5 (v6 + (1 : Int32)) s
    else
      k22 v1 v2 v3 v4 (v5 + (1 : Int32)) s
def k_ruleContext_22  : Nat → Int32 → Int32 → Int32 → Int32 → Int32 → S → Option Int32
  | 0, _, _, _, _, _, _ => none
  | n + 1, v1, v2, v3, v4, v5, s =>
    if v5 < (gI s 1) then
      k_ruleContext_35 (fun v1 v2 v3 v4 v5 s => k_ruleContext_22 n v1 v2 v3 v4 v5 s) BIG v1 v2 v3 v4 v5 v5 s
    else
      some v4
def k_ruleContext  (v1 : Int32) (s : S) : Option Int32 :=
  (k_headCode v1 s).bind fun r2 =>
  (ix (gA s 6) v1).bind fun a11 =>
  k_ruleContext_22 BIG v1 r2 a11 (gI s 0) (0 : Int32) s
def k_ruleBest  (v1 : Int32) (s : S) : Option Int32 :=
  if (gI s 4) = (1 : Int32) then
    if (k_isRule v1 s) = 0 then
      some (-1 : Int32)
    else
      (k_ruleContext v1 s).bind fun r22 =>
      some (k_answer r22 s)
  else
    some (-1 : Int32)
def h_rel  (v0 : Int32) (v1 : Int32) (v2 : Int32)  : Int32 :=
  if v2 = 0 then
    if v0 = v1 then
      (1 : Int32)
    else
      (0 : Int32)
  else
    if v0 < 0 then
      (1 : Int32)
    else
      if v1 < 0 then
        (0 : Int32)
      else
        if v0 < v1 then
          (0 : Int32)
        else
          (1 : Int32)
def law_813  : Nat → Int32 → Int32 → List Int32 → S → S → Option (Int32 × S × S)
  | 0, _, _, _, _, _ => none
  | n + 1, v15, v16, q, t0, t1 =>
    if v16 < (12 : Int32) then
      (k_ruleBest v16 t0).bind fun r823 =>
      (k_ruleBest v16 t1).bind fun r832 =>
      if (h_rel r823 r832 v15) = 0 then
        some ((0 : Int32), t0, t1)
      else
        law_813 n v15 (v16 + (1 : Int32)) q t0 t1
    else
      some ((1 : Int32), t0, t1)
def law_810  (v15 : Int32) (q : List Int32) (t0 : S) (t1 : S) : Option (Int32 × S × S) :=
  law_813 BIG v15 (0 : Int32) q t0 t1
def law_766  : Nat → Int32 → Int32 → List Int32 → S → S → Option (Int32 × S × S)
  | 0, _, _, _, _, _ => none
  | n + 1, v15, v16, q, t0, t1 =>
    if v16 < (16 : Int32) then
      (k_edgeBest v16 t0).bind fun r776 =>
      (k_edgeBest v16 t1).bind fun r785 =>
      if (h_rel r776 r785 v15) = 0 then
        some ((0 : Int32), t0, t1)
      else
        law_766 n v15 (v16 + (1 : Int32)) q t0 t1
    else
      law_810 v15 q t0 t1
def law_763  (v15 : Int32) (q : List Int32) (t0 : S) (t1 : S) : Option (Int32 × S × S) :=
  law_766 BIG v15 (0 : Int32) q t0 t1
def law_688  : Nat → Int32 → Int32 → List Int32 → S → S → Option (Int32 × S × S)
  | 0, _, _, _, _, _ => none
  | n + 1, v15, v16, q, t0, t1 =>
    if v16 < (1024 : Int32) then
      (k_spanWeight (v16 >>> ((6 : Int32) &&& 31)) ((v16 >>> ((3 : Int32) &&& 31)) &&& (7 : Int32)) (v16 &&& (7 : Int32)) t0).bind fun r714 =>
      (k_spanWeight (v16 >>> ((6 : Int32) &&& 31)) ((v16 >>> ((3 : Int32) &&& 31)) &&& (7 : Int32)) (v16 &&& (7 : Int32)) t1).bind fun r738 =>
      if (h_rel r714 r738 v15) = 0 then
        some ((0 : Int32), t0, t1)
      else
        law_688 n v15 (v16 + (1 : Int32)) q t0 t1
    else
      law_763 v15 q t0 t1
def law_666  (v15 : Int32) (q : List Int32) (t0 : S) (t1 : S) : Option (Int32 × S × S) :=
  if (h_rel (k_bestWeight t0) (k_bestWeight t1) v15) = 0 then
    some ((0 : Int32), t0, t1)
  else
    law_688 BIG v15 (0 : Int32) q t0 t1
def law_647  (v15 : Int32) (q : List Int32) (t0 : S) (t1 : S) : Option (Int32 × S × S) :=
  if v15 = 0 then
    if (k_status t0) = (k_status t1) then
      law_666 v15 q t0 t1
    else
      some ((0 : Int32), t0, t1)
  else
    law_666 v15 q t0 t1
def law_611  (v15 : Int32) (p0 : Int32) (p1 : Int32) (p2 : Int32) (q : List Int32) (t0 : S) (t1 : S) : Option (Int32 × S × S) :=
  if p2 = (p1 + p0) then
    (k_parse t0).bind fun r618 =>
    (k_parse t1).bind fun r624 =>
    if (k_status r618.2) = (1 : Int32) then
      if (k_status r624.2) = (1 : Int32) then
        law_647 v15 q r618.2 r624.2
      else
        some ((0 : Int32), r618.2, r624.2)
    else
      law_647 v15 q r618.2 r624.2
  else
    some ((0 : Int32), t0, t1)
def law_582  (v6 : Int32) (v7 : Int32) (v15 : Int32) (p0 : Int32) (p1 : Int32) (p2 : Int32) (q : List Int32) (t0 : S) (t1 : S) : Option (Int32 × S × S) :=
  if p2 = (p1 + p0) then
    law_611 v15 (if v15 = 0 then (0 : Int32) else if v7 = (1 : Int32) then (1 : Int32) else (0 : Int32)) v6 (k_ruleCount t1) q t0 t1
  else
    some ((0 : Int32), t0, t1)
def law_560  (v5 : Int32) (v6 : Int32) (v7 : Int32) (v15 : Int32) (q : List Int32) (t0 : S) (t1 : S) : Option (Int32 × S × S) :=
  law_582 v6 v7 v15 (if v15 = 0 then (0 : Int32) else if v7 = 0 then (1 : Int32) else (0 : Int32)) v5 (k_edgeCount t1) q t0 t1
def law_547  (v5 : Int32) (v6 : Int32) (v7 : Int32) (v14 : Int32) (v15 : Int32) (q : List Int32) (t0 : S) (t1 : S) : Option (Int32 × S × S) :=
  if v15 = 0 then
    if v14 = (-1 : Int32) then
      law_560 v5 v6 v7 v15 q t0 t1
    else
      some ((0 : Int32), t0, t1)
  else
    law_560 v5 v6 v7 v15 q t0 t1
def law_542  (v5 : Int32) (v6 : Int32) (v7 : Int32) (v14 : Int32) (v15 : Int32) (p0 : Int32) (p1 : Int32) (q : List Int32) (t0 : S) (t1 : S) : Option (Int32 × S × S) :=
  if p1 = p0 then
    law_547 v5 v6 v7 v14 v15 q t0 t1
  else
    some ((0 : Int32), t0, t1)
def law_521  (v5 : Int32) (v6 : Int32) (v7 : Int32) (v14 : Int32) (p0 : Int32) (q : List Int32) (t0 : S) (t1 : S) : Option (Int32 × S × S) :=
  if p0 = 0 then
    law_547 v5 v6 v7 v14 p0 q t0 t1
  else
    law_542 v5 v6 v7 v14 p0 (if v7 = 0 then v5 else v6) v14 q t0 t1
def law_509  (v5 : Int32) (v6 : Int32) (v7 : Int32) (p0 : Int32) (q : List Int32) (t0 : S) (t1 : S) : Option (Int32 × S × S) :=
  law_521 v5 v6 v7 p0 (if p0 < 0 then (0 : Int32) else (1 : Int32)) q t0 t1
def law_410  (v1 : Int32) (v5 : Int32) (v6 : Int32) (q : List Int32) (t0 : S) (t1 : S) : Option (Int32 × S × S) :=
  if ((v1 >>> ((3 : Int32) &&& 31)) &&& (1 : Int32)) = 0 then
    (k_addEdge ((v1 >>> ((4 : Int32) &&& 31)) &&& (7 : Int32)) ((v1 >>> ((7 : Int32) &&& 31)) &&& (7 : Int32)) ((v1 >>> ((19 : Int32) &&& 31)) &&& (7 : Int32)) ((v1 >>> ((10 : Int32) &&& 31)) &&& (127 : Int32)) t1).bind fun r490 =>
    law_509 v5 v6 ((v1 >>> ((3 : Int32) &&& 31)) &&& (1 : Int32)) r490.1 q t0 r490.2
  else
    (k_addRule ((v1 >>> ((4 : Int32) &&& 31)) &&& (7 : Int32)) ((v1 >>> ((10 : Int32) &&& 31)) &&& (127 : Int32)) ((v1 >>> ((17 : Int32) &&& 31)) &&& (3 : Int32)) ((v1 >>> ((19 : Int32) &&& 31)) &&& (((1 : Int32) <<< (((4 : Int32) * ((v1 >>> ((17 : Int32) &&& 31)) &&& (3 : Int32))) &&& 31)) - (1 : Int32))) t1).bind fun r506 =>
    law_509 v5 v6 ((v1 >>> ((3 : Int32) &&& 31)) &&& (1 : Int32)) r506.1 q t0 r506.2
def law_384 (k301 : Int32 → Int32 → Int32 → Int32 → List Int32 → S → S → Option (Int32 × S × S)) (v1 : Int32) (v5 : Int32) (v6 : Int32) (v7 : Int32) (v8 : Int32) (v9 : Int32) (v10 : Int32) (v11 : Int32) (q : List Int32) (t0 : S) (t1 : S) : Option (Int32 × S × S) :=
  (k_addRule v8 v9 v10 v11 t1).bind fun r394 =>
  if r394.1 = v7 then
    k301 v1 v5 v6 (v7 + (1 : Int32)) q t0 r394.2
  else
    some ((0 : Int32), t0, r394.2)
def law_341 (k301 : Int32 → Int32 → Int32 → Int32 → List Int32 → S → S → Option (Int32 × S × S)) : Nat → Int32 → Int32 → Int32 → Int32 → Int32 → Int32 → Int32 → Int32 → Int32 → List Int32 → S → S → Option (Int32 × S × S)
  | 0, _, _, _, _, _, _, _, _, _, _, _, _ => none
  | n + 1, v1, v5, v6, v7, v8, v9, v10, v11, v12, q, t0, t1 =>
    if v12 < (3 : Int32) then
      if v12 < v10 then
        (k_ruleInfo v7 ((3 : Int32) + v12) t0).bind fun r361 =>
        law_341 k301 n v1 v5 v6 v7 v8 v9 v10 (v11 + (r361 <<< (((4 : Int32) * v12) &&& 31))) (v12 + (1 : Int32)) q t0 t1
      else
        law_341 k301 n v1 v5 v6 v7 v8 v9 v10 v11 (v12 + (1 : Int32)) q t0 t1
    else
      law_384 k301 v1 v5 v6 v7 v8 v9 v10 v11 q t0 t1
def law_301  : Nat → Int32 → Int32 → Int32 → Int32 → List Int32 → S → S → Option (Int32 × S × S)
  | 0, _, _, _, _, _, _, _ => none
  | n + 1, v1, v5, v6, v7, q, t0, t1 =>
    if v7 < v6 then
      (k_ruleInfo v7 (0 : Int32) t0).bind fun r312 =>
      (k_ruleInfo v7 (1 : Int32) t0).bind fun r321 =>
      (k_ruleInfo v7 (2 : Int32) t0).bind fun r330 =>
      law_341 (fun v1 v5 v6 v7 q t0 t1 => law_301 n v1 v5 v6 v7 q t0 t1) BIG v1 v5 v6 v7 r312 r321 r330 (0 : Int32) (0 : Int32) q t0 t1
    else
      law_410 v1 v5 v6 q t0 t1
def law_298  (v1 : Int32) (v5 : Int32) (v6 : Int32) (q : List Int32) (t0 : S) (t1 : S) : Option (Int32 × S × S) :=
  law_301 BIG v1 v5 v6 (0 : Int32) q t0 t1
def law_229  : Nat → Int32 → Int32 → Int32 → Int32 → List Int32 → S → S → Option (Int32 × S × S)
  | 0, _, _, _, _, _, _, _ => none
  | n + 1, v1, v5, v6, v7, q, t0, t1 =>
    if v7 < v5 then
      (k_edgeInfo v7 (0 : Int32) t0).bind fun r240 =>
      (k_edgeInfo v7 (1 : Int32) t0).bind fun r249 =>
      (k_edgeInfo v7 (2 : Int32) t0).bind fun r258 =>
      (k_edgeInfo v7 (3 : Int32) t0).bind fun r267 =>
      (k_addEdge r240 r249 r258 r267 t1).bind fun r282 =>
      if r282.1 = v7 then
        law_229 n v1 v5 v6 (v7 + (1 : Int32)) q t0 r282.2
      else
        some ((0 : Int32), t0, r282.2)
    else
      law_298 v1 v5 v6 q t0 t1
def law_204  (v1 : Int32) (v3 : Int32) (q : List Int32) (t0 : S) : Option (Int32 × S × S) :=
  (k_init v3).bind fun r209 =>
  law_229 BIG v1 (k_edgeCount t0) (k_ruleCount t0) (0 : Int32) q t0 r209
def law_33  : Nat → Int32 → Int32 → Int32 → List Int32 → S → Option (Int32 × S × S)
  | 0, _, _, _, _, _ => none
  | n + 1, v1, v3, v4, q, t0 =>
    if (v4 + (4 : Int32)) < q.length.toInt32 then
      (ix q v4).bind fun a45 =>
      (ix q (v4 + (1 : Int32))).bind fun a56 =>
      (ix q (v4 + (2 : Int32))).bind fun a64 =>
      (ix q (v4 + (3 : Int32))).bind fun a72 =>
      (ix q (v4 + (4 : Int32))).bind fun a80 =>
      if (a45 &&& (15 : Int32)) < (7 : Int32) then
        if v3 = 0 then none else
        (k_addEdge ((a56 &&& (7 : Int32)) % v3) ((((a56 &&& (7 : Int32)) % v3) + (1 : Int32)) + (a64 &&& (1 : Int32))) (a72 &&& (3 : Int32)) (a80 &&& (127 : Int32)) t0).bind fun r124 =>
        law_33 n v1 v3 (v4 + (5 : Int32)) q r124.2
      else
        if (a45 &&& (15 : Int32)) < (14 : Int32) then
          (k_addRule (a56 &&& (7 : Int32)) (a72 &&& (127 : Int32)) (a64 &&& (3 : Int32)) (a80 &&& (((1 : Int32) <<< (((4 : Int32) * (a64 &&& (3 : Int32))) &&& 31)) - (1 : Int32))) t0).bind fun r172 =>
          law_33 n v1 v3 (v4 + (5 : Int32)) q r172.2
        else
          if (a45 &&& (15 : Int32)) = (14 : Int32) then
            (k_parse t0).bind fun r187 =>
            law_33 n v1 v3 (v4 + (5 : Int32)) q r187.2
          else
            (k_reset t0).bind fun r195 =>
            law_33 n v1 v3 (v4 + (5 : Int32)) q r195
    else
      law_204 v1 v3 q t0
def law_12  (p0 : Int32) (q : List Int32) : Option (Int32 × S × S) :=
  (k_init (p0 &&& (7 : Int32))).bind fun r21 =>
  law_33 BIG p0 (k_nodeCount r21) (1 : Int32) q r21
def law   (q : List Int32) : Option (Int32 × S × S) :=
  if 0 < q.length.toInt32 then
    (ix q (0 : Int32)).bind fun a7 =>
    law_12 a7 q
  else
    law_12 (0 : Int32) q
set_option maxRecDepth 65536 in
set_option maxHeartbeats 4000000 in
theorem k_clampNodes_ok  {s : S} : ∀ (v1 : Int32)   (o : Int32), k_clampNodes v1 = o → Go PP m0 0 [.val (.ref 1), .val (.int v1)] [] (none, [(12, s)]) (some (.int o), (none, [(12, s)])) := by
  intro v1 o hf
  unfold k_clampNodes at hf
  refine go_iloadN (pc := 0) d0_0 rfl (go_iconst (pc := 1) d0_1 ci_2 ?_)
  by_cases h1 : v1 < (2 : Int32)
  · replace hf := (if_pos h1).symm.trans hf
    refine go_icN (pc := 2) d0_2 (XT.ii_ge_f h1) ?_
    refine go_iconst (pc := 5) d0_5 ci_2 ?_
    cases hf
    exact go_iret (pc := 6) rfl d0_6
  · replace hf := (if_neg h1).symm.trans hf
    refine go_icY (pc := 2) (pc' := 7) d0_2 (XT.ii_ge_t h1) j_2_5 ?_
    refine go_iloadN (pc := 7) d0_7 rfl (go_bipush (pc := 8) d0_8 cb_8 ?_)
    by_cases h2 : (8 : Int32) < v1
    · replace hf := (if_pos h2).symm.trans hf
      refine go_icN (pc := 10) d0_10 (XT.ii_le_f h2) ?_
      refine go_bipush (pc := 13) d0_13 cb_8 ?_
      cases hf
      exact go_iret (pc := 15) rfl d0_15
    · replace hf := (if_neg h2).symm.trans hf
      refine go_icY (pc := 10) (pc' := 16) d0_10 (XT.ii_le_t h2) j_10_6 ?_
      refine go_iloadN (pc := 16) d0_16 rfl ?_
      cases hf
      exact go_iret (pc := 17) rfl d0_17
theorem c_k_clampNodes (v1 : Int32) (s : S) : Call PP m0 [.ref 1, .int v1] (none, [(12, s)]) (some (.int (k_clampNodes v1)), (none, [(12, s)])) := call_of_go pl_0 rfl (fun h => nomatch h) (k_clampNodes_ok v1   _ rfl)
set_option maxRecDepth 65536 in
set_option maxHeartbeats 4000000 in
theorem k_becomeBuilding_ok  : ∀  (s : S)  (o : S), k_becomeBuilding s = o → Go PP m1 0 [.val (.ref 1)] [] (none, [(12, s)]) (none, (none, [(12, o)])) := by
  intro s o hf
  unfold k_becomeBuilding at hf
  refine go_aloadN (pc := 0) d1_0 rfl (go_iconst (pc := 1) d1_1 ci_0 (go_putI (pc := 2) fs_95 hm_1 (wr_4 _) hn_1 d1_2 (go_aloadN (pc := 5) d1_5 rfl (go_iconst (pc := 6) d1_6 ci_m1 (go_putI (pc := 7) fs_98 hm_1 (wr_5 _) hn_1 d1_7 ?_)))))
  cases hf
  exact go_ret (pc := 10) rfl d1_10
theorem c_k_becomeBuilding (s : S) : Call PP m1 [.ref 1] (none, [(12, s)]) (none, (none, [(12, (k_becomeBuilding s))])) := call_of_go pl_0 rfl (fun _ => rfl) (k_becomeBuilding_ok s   _ rfl)
set_option maxRecDepth 65536 in
set_option maxHeartbeats 4000000 in
theorem k_clearStore_93_ok  : ∀ (n : Nat) (v1 : Int32) (s : S)  (o : S), k_clearStore_93 n v1 s = some o → Go PP m2 93 [.val (.ref 1), .val (.int v1)] [] (none, [(12, s)]) (none, (none, [(12, o)])) := by
  intro n
  induction n with
  | zero => intro v1 s o hf; exact nomatch hf
  | succ n ih =>
    intro v1 s o hf
    unfold k_clearStore_93 at hf
    refine go_iloadN (pc := 93) d2_93 rfl (go_bipush (pc := 94) d2_94 cb_36 ?_)
    by_cases h1 : v1 < (36 : Int32)
    · replace hf := (if_pos h1).symm.trans hf
      refine go_icN (pc := 96) d2_96 (XT.ii_ge_f h1) ?_
      refine go_aloadN (pc := 99) d2_99 rfl (go_getA (pc := 100) fa_36 hm_2 d2_100 rfl (go_iloadN (pc := 103) d2_103 rfl (go_iconst (pc := 104) d2_104 ci_0 ?_)))
      obtain ⟨a105, e2, hf⟩ := Option.bind_eq_some_iff.mp hf
      refine go_iastore (pc := 105) (q := 7) ar_7 rfl hn_2 e2 d2_105 ?_
      refine go_iinc (pc := 106) (L' := [.val (.ref 1), .val (.int (v1 + (1 : Int32)))]) d2_106 rfl ci_1 rfl (go_goto (pc := 109) (pc' := 93) d2_109 j_109_m16 ?_)
      exact ih (v1 + (1 : Int32)) (sA s 7 a105) _ hf
    · replace hf := (if_neg h1).symm.trans hf
      refine go_icY (pc := 96) (pc' := 112) d2_96 (XT.ii_ge_t h1) j_96_16 ?_
      cases hf
      exact go_ret (pc := 112) rfl d2_112
set_option maxRecDepth 65536 in
set_option maxHeartbeats 4000000 in
theorem k_clearStore_91_ok  : ∀  (s : S) (x1 : Slot) (hx1 : k1 x1) (o : S), k_clearStore_91 s = some o → Go PP m2 91 [.val (.ref 1), x1] [] (none, [(12, s)]) (none, (none, [(12, o)])) := by
  intro s x1 hx1 o hf
  unfold k_clearStore_91 at hf
  refine go_iconst (pc := 91) d2_91 ci_0 (go_istoreN (pc := 92) (L' := [.val (.ref 1), .val (.int (0 : Int32))]) d2_92 (stx rfl hx1 rfl) ?_)
  exact k_clearStore_93_ok BIG (0 : Int32) s _ hf
set_option maxRecDepth 65536 in
set_option maxHeartbeats 4000000 in
theorem k_clearStore_58_ok  : ∀ (n : Nat) (v1 : Int32) (s : S)  (o : S), k_clearStore_58 n v1 s = some o → Go PP m2 58 [.val (.ref 1), .val (.int v1)] [] (none, [(12, s)]) (none, (none, [(12, o)])) := by
  intro n
  induction n with
  | zero => intro v1 s o hf; exact nomatch hf
  | succ n ih =>
    intro v1 s o hf
    unfold k_clearStore_58 at hf
    refine go_iloadN (pc := 58) d2_58 rfl (go_bipush (pc := 59) d2_59 cb_12 ?_)
    by_cases h1 : v1 < (12 : Int32)
    · replace hf := (if_pos h1).symm.trans hf
      refine go_icN (pc := 61) d2_61 (XT.ii_ge_f h1) ?_
      refine go_aloadN (pc := 64) d2_64 rfl (go_getA (pc := 65) fa_27 hm_2 d2_65 rfl (go_iloadN (pc := 68) d2_68 rfl (go_iconst (pc := 69) d2_69 ci_0 ?_)))
      obtain ⟨a70, e2, hf⟩ := Option.bind_eq_some_iff.mp hf
      refine go_iastore (pc := 70) (q := 4) ar_4 rfl hn_2 e2 d2_70 ?_
      refine go_aloadN (pc := 71) d2_71 rfl (go_getA (pc := 72) fa_30 hm_2 d2_72 rfl (go_iloadN (pc := 75) d2_75 rfl (go_iconst (pc := 76) d2_76 ci_0 ?_)))
      obtain ⟨a77, e3, hf⟩ := Option.bind_eq_some_iff.mp hf
      refine go_iastore (pc := 77) (q := 5) ar_5 rfl hn_2 e3 d2_77 ?_
      refine go_aloadN (pc := 78) d2_78 rfl (go_getA (pc := 79) fa_33 hm_2 d2_79 rfl (go_iloadN (pc := 82) d2_82 rfl (go_iconst (pc := 83) d2_83 ci_0 ?_)))
      obtain ⟨a84, e4, hf⟩ := Option.bind_eq_some_iff.mp hf
      refine go_iastore (pc := 84) (q := 6) ar_6 rfl hn_2 e4 d2_84 ?_
      refine go_iinc (pc := 85) (L' := [.val (.ref 1), .val (.int (v1 + (1 : Int32)))]) d2_85 rfl ci_1 rfl (go_goto (pc := 88) (pc' := 58) d2_88 j_88_m30 ?_)
      exact ih (v1 + (1 : Int32)) (sA (sA (sA s 4 a70) 5 a77) 6 a84) _ hf
    · replace hf := (if_neg h1).symm.trans hf
      refine go_icY (pc := 61) (pc' := 91) d2_61 (XT.ii_ge_t h1) j_61_30 ?_
      exact k_clearStore_91_ok s (.val (.int v1)) (Or.inr ⟨_, rfl, rfl⟩) _ hf
set_option maxRecDepth 65536 in
set_option maxHeartbeats 4000000 in
theorem k_clearStore_56_ok  : ∀  (s : S) (x1 : Slot) (hx1 : k1 x1) (o : S), k_clearStore_56 s = some o → Go PP m2 56 [.val (.ref 1), x1] [] (none, [(12, s)]) (none, (none, [(12, o)])) := by
  intro s x1 hx1 o hf
  unfold k_clearStore_56 at hf
  refine go_iconst (pc := 56) d2_56 ci_0 (go_istoreN (pc := 57) (L' := [.val (.ref 1), .val (.int (0 : Int32))]) d2_57 (stx rfl hx1 rfl) ?_)
  exact k_clearStore_58_ok BIG (0 : Int32) s _ hf
set_option maxRecDepth 65536 in
set_option maxHeartbeats 4000000 in
theorem k_clearStore_16_ok  : ∀ (n : Nat) (v1 : Int32) (s : S)  (o : S), k_clearStore_16 n v1 s = some o → Go PP m2 16 [.val (.ref 1), .val (.int v1)] [] (none, [(12, s)]) (none, (none, [(12, o)])) := by
  intro n
  induction n with
  | zero => intro v1 s o hf; exact nomatch hf
  | succ n ih =>
    intro v1 s o hf
    unfold k_clearStore_16 at hf
    refine go_iloadN (pc := 16) d2_16 rfl (go_bipush (pc := 17) d2_17 cb_16 ?_)
    by_cases h1 : v1 < (16 : Int32)
    · replace hf := (if_pos h1).symm.trans hf
      refine go_icN (pc := 19) d2_19 (XT.ii_ge_f h1) ?_
      refine go_aloadN (pc := 22) d2_22 rfl (go_getA (pc := 23) fa_14 hm_2 d2_23 rfl (go_iloadN (pc := 26) d2_26 rfl (go_iconst (pc := 27) d2_27 ci_0 ?_)))
      obtain ⟨a28, e2, hf⟩ := Option.bind_eq_some_iff.mp hf
      refine go_iastore (pc := 28) (q := 0) ar_0 rfl hn_2 e2 d2_28 ?_
      refine go_aloadN (pc := 29) d2_29 rfl (go_getA (pc := 30) fa_18 hm_2 d2_30 rfl (go_iloadN (pc := 33) d2_33 rfl (go_iconst (pc := 34) d2_34 ci_0 ?_)))
      obtain ⟨a35, e3, hf⟩ := Option.bind_eq_some_iff.mp hf
      refine go_iastore (pc := 35) (q := 1) ar_1 rfl hn_2 e3 d2_35 ?_
      refine go_aloadN (pc := 36) d2_36 rfl (go_getA (pc := 37) fa_21 hm_2 d2_37 rfl (go_iloadN (pc := 40) d2_40 rfl (go_iconst (pc := 41) d2_41 ci_0 ?_)))
      obtain ⟨a42, e4, hf⟩ := Option.bind_eq_some_iff.mp hf
      refine go_iastore (pc := 42) (q := 2) ar_2 rfl hn_2 e4 d2_42 ?_
      refine go_aloadN (pc := 43) d2_43 rfl (go_getA (pc := 44) fa_24 hm_2 d2_44 rfl (go_iloadN (pc := 47) d2_47 rfl (go_iconst (pc := 48) d2_48 ci_0 ?_)))
      obtain ⟨a49, e5, hf⟩ := Option.bind_eq_some_iff.mp hf
      refine go_iastore (pc := 49) (q := 3) ar_3 rfl hn_2 e5 d2_49 ?_
      refine go_iinc (pc := 50) (L' := [.val (.ref 1), .val (.int (v1 + (1 : Int32)))]) d2_50 rfl ci_1 rfl (go_goto (pc := 53) (pc' := 16) d2_53 j_53_m37 ?_)
      exact ih (v1 + (1 : Int32)) (sA (sA (sA (sA s 0 a28) 1 a35) 2 a42) 3 a49) _ hf
    · replace hf := (if_neg h1).symm.trans hf
      refine go_icY (pc := 19) (pc' := 56) d2_19 (XT.ii_ge_t h1) j_19_37 ?_
      exact k_clearStore_56_ok s (.val (.int v1)) (Or.inr ⟨_, rfl, rfl⟩) _ hf
set_option maxRecDepth 65536 in
set_option maxHeartbeats 4000000 in
theorem k_clearStore_ok  : ∀  (s : S)  (o : S), k_clearStore s = some o → Go PP m2 0 [.val (.ref 1), .unset] [] (none, [(12, s)]) (none, (none, [(12, o)])) := by
  intro s o hf
  unfold k_clearStore at hf
  refine go_aloadN (pc := 0) d2_0 rfl (go_iconst (pc := 1) d2_1 ci_0 (go_putI (pc := 2) fs_64 hm_2 (wr_2 _) hn_2 d2_2 (go_aloadN (pc := 5) d2_5 rfl (go_iconst (pc := 6) d2_6 ci_0 (go_putI (pc := 7) fs_67 hm_2 (wr_3 _) hn_2 d2_7 (go_aloadN (pc := 10) d2_10 rfl ?_))))))
  refine go_priv (pc := 11) (i := 0) (as := []) (rest := []) (w' := (none, [(12, (k_becomeBuilding (sI (sI s 2 (0 : Int32)) 3 (0 : Int32))))])) lk_0_74 pd_1 rfl oid_0 rfl rfl rfl rfl rfl rfl ⟨rfl, rfl, rfl, rfl, rfl⟩ d2_11 (c_k_becomeBuilding (sI (sI s 2 (0 : Int32)) 3 (0 : Int32))) ?_
  refine go_iconst (pc := 14) d2_14 ci_0 (go_istoreN (pc := 15) (L' := [.val (.ref 1), .val (.int (0 : Int32))]) d2_15 rfl ?_)
  exact k_clearStore_16_ok BIG (0 : Int32) (k_becomeBuilding (sI (sI s 2 (0 : Int32)) 3 (0 : Int32))) _ hf
theorem c_k_clearStore (s : S) (o : S) (hf : k_clearStore s = some o) : Call PP m2 [.ref 1] (none, [(12, s)]) (none, (none, [(12, o)])) := call_of_go pl_0 rfl (fun _ => rfl) (k_clearStore_ok s   _ hf)
set_option maxRecDepth 65536 in
set_option maxHeartbeats 4000000 in
theorem k_clearTables_37_ok  : ∀ (n : Nat) (v1 : Int32) (s : S)  (o : S), k_clearTables_37 n v1 s = some o → Go PP m3 37 [.val (.ref 1), .val (.int v1)] [] (none, [(12, s)]) (none, (none, [(12, o)])) := by
  intro n
  induction n with
  | zero => intro v1 s o hf; exact nomatch hf
  | succ n ih =>
    intro v1 s o hf
    unfold k_clearTables_37 at hf
    refine go_iloadN (pc := 37) d3_37 rfl (go_sipush (pc := 38) d3_38 cs_3072 ?_)
    by_cases h1 : v1 < (3072 : Int32)
    · replace hf := (if_pos h1).symm.trans hf
      refine go_icN (pc := 41) d3_41 (XT.ii_ge_f h1) ?_
      refine go_aloadN (pc := 44) d3_44 rfl (go_getA (pc := 45) fa_42 hm_3 d3_45 rfl (go_iloadN (pc := 48) d3_48 rfl (go_aloadN (pc := 49) d3_49 rfl (go_getI (pc := 50) fs_8 hm_3 d3_50 ?_))))
      obtain ⟨a53, e2, hf⟩ := Option.bind_eq_some_iff.mp hf
      refine go_iastore (pc := 53) (q := 9) ar_9 rfl hn_3 e2 d3_53 ?_
      refine go_aloadN (pc := 54) d3_54 rfl (go_getA (pc := 55) fa_45 hm_3 d3_55 rfl (go_iloadN (pc := 58) d3_58 rfl (go_aloadN (pc := 59) d3_59 rfl (go_getI (pc := 60) fs_8 hm_3 d3_60 ?_))))
      obtain ⟨a63, e3, hf⟩ := Option.bind_eq_some_iff.mp hf
      refine go_iastore (pc := 63) (q := 10) ar_10 rfl hn_3 e3 d3_63 ?_
      refine go_iinc (pc := 64) (L' := [.val (.ref 1), .val (.int (v1 + (1 : Int32)))]) d3_64 rfl ci_1 rfl (go_goto (pc := 67) (pc' := 37) d3_67 j_67_m30 ?_)
      exact ih (v1 + (1 : Int32)) (sA (sA s 9 a53) 10 a63) _ hf
    · replace hf := (if_neg h1).symm.trans hf
      refine go_icY (pc := 41) (pc' := 70) d3_41 (XT.ii_ge_t h1) j_41_29 ?_
      cases hf
      exact go_ret (pc := 70) rfl d3_70
set_option maxRecDepth 65536 in
set_option maxHeartbeats 4000000 in
theorem k_clearTables_35_ok  : ∀  (s : S) (x1 : Slot) (hx1 : k1 x1) (o : S), k_clearTables_35 s = some o → Go PP m3 35 [.val (.ref 1), x1] [] (none, [(12, s)]) (none, (none, [(12, o)])) := by
  intro s x1 hx1 o hf
  unfold k_clearTables_35 at hf
  refine go_iconst (pc := 35) d3_35 ci_0 (go_istoreN (pc := 36) (L' := [.val (.ref 1), .val (.int (0 : Int32))]) d3_36 (stx rfl hx1 rfl) ?_)
  exact k_clearTables_37_ok BIG (0 : Int32) s _ hf
set_option maxRecDepth 65536 in
set_option maxHeartbeats 4000000 in
theorem k_clearTables_2_ok  : ∀ (n : Nat) (v1 : Int32) (s : S)  (o : S), k_clearTables_2 n v1 s = some o → Go PP m3 2 [.val (.ref 1), .val (.int v1)] [] (none, [(12, s)]) (none, (none, [(12, o)])) := by
  intro n
  induction n with
  | zero => intro v1 s o hf; exact nomatch hf
  | succ n ih =>
    intro v1 s o hf
    unfold k_clearTables_2 at hf
    refine go_iloadN (pc := 2) d3_2 rfl (go_sipush (pc := 3) d3_3 cs_1024 ?_)
    by_cases h1 : v1 < (1024 : Int32)
    · replace hf := (if_pos h1).symm.trans hf
      refine go_icN (pc := 6) d3_6 (XT.ii_ge_f h1) ?_
      refine go_aloadN (pc := 9) d3_9 rfl (go_getA (pc := 10) fa_39 hm_3 d3_10 rfl (go_iloadN (pc := 13) d3_13 rfl (go_aloadN (pc := 14) d3_14 rfl (go_getI (pc := 15) fs_8 hm_3 d3_15 ?_))))
      obtain ⟨a18, e2, hf⟩ := Option.bind_eq_some_iff.mp hf
      refine go_iastore (pc := 18) (q := 8) ar_8 rfl hn_3 e2 d3_18 ?_
      refine go_aloadN (pc := 19) d3_19 rfl (go_getA (pc := 20) fa_48 hm_3 d3_20 rfl (go_iloadN (pc := 23) d3_23 rfl (go_aloadN (pc := 24) d3_24 rfl (go_getI (pc := 25) fs_8 hm_3 d3_25 ?_))))
      obtain ⟨a28, e3, hf⟩ := Option.bind_eq_some_iff.mp hf
      refine go_iastore (pc := 28) (q := 11) ar_11 rfl hn_3 e3 d3_28 ?_
      refine go_iinc (pc := 29) (L' := [.val (.ref 1), .val (.int (v1 + (1 : Int32)))]) d3_29 rfl ci_1 rfl (go_goto (pc := 32) (pc' := 2) d3_32 j_32_m30 ?_)
      exact ih (v1 + (1 : Int32)) (sA (sA s 8 a18) 11 a28) _ hf
    · replace hf := (if_neg h1).symm.trans hf
      refine go_icY (pc := 6) (pc' := 35) d3_6 (XT.ii_ge_t h1) j_6_29 ?_
      exact k_clearTables_35_ok s (.val (.int v1)) (Or.inr ⟨_, rfl, rfl⟩) _ hf
set_option maxRecDepth 65536 in
set_option maxHeartbeats 4000000 in
theorem k_clearTables_ok  : ∀  (s : S)  (o : S), k_clearTables s = some o → Go PP m3 0 [.val (.ref 1), .unset] [] (none, [(12, s)]) (none, (none, [(12, o)])) := by
  intro s o hf
  unfold k_clearTables at hf
  refine go_iconst (pc := 0) d3_0 ci_0 (go_istoreN (pc := 1) (L' := [.val (.ref 1), .val (.int (0 : Int32))]) d3_1 rfl ?_)
  exact k_clearTables_2_ok BIG (0 : Int32) s _ hf
theorem c_k_clearTables (s : S) (o : S) (hf : k_clearTables s = some o) : Call PP m3 [.ref 1] (none, [(12, s)]) (none, (none, [(12, o)])) := call_of_go pl_0 rfl (fun _ => rfl) (k_clearTables_ok s   _ hf)
set_option maxRecDepth 65536 in
set_option maxHeartbeats 4000000 in
theorem k_init_ok  : ∀ (v1 : Int32)   (o : S), k_init v1 = some o → Go PP m4 0 [.val (.ref 1), .val (.int v1)] [] (none, [(0, s0)]) (none, (none, [(12, o)])) := by
  intro v1 o hf
  unfold k_init at hf
  refine go_aloadN (pc := 0) d4_0 rfl ?_
  refine go_objinit (pc := 1) (rest := []) (a := 0) (List.mem_of_getElem? (i := 6) rfl) (List.mem_of_getElem? (i := 7) rfl) (List.mem_of_getElem? (i := 8) rfl) rfl rfl d4_1 ?_
  refine go_aloadN (pc := 4) d4_4 rfl (go_ldc (pc := 5) (v := (1073741824 : Int32)) d4_5 (List.mem_of_getElem? (i := 9) rfl) (go_putI (pc := 7) fs_8 hm_4 (wr_0 _) hn_4 d4_7 (go_aloadN (pc := 10) d4_10 rfl (go_bipush (pc := 11) d4_11 cb_16 ?_))))
  refine go_newI (pc := 13) (ty := .int) rfl (by decide) ar_0 (List.mem_of_getElem? (i := 12) rfl) (List.mem_of_getElem? (i := 13) rfl) hm_4 (Or.inl (List.mem_of_getElem? (i := 14) rfl)) rfl hn_4 (by decide) rfl rfl rfl rfl d4_13 d4_15 ?_
  refine go_aloadN (pc := 18) d4_18 rfl (go_bipush (pc := 19) d4_19 cb_16 ?_)
  refine go_newI (pc := 21) (ty := .int) rfl (by decide) ar_1 (List.mem_of_getElem? (i := 12) rfl) (List.mem_of_getElem? (i := 15) rfl) hm_4 (Or.inl (List.mem_of_getElem? (i := 16) rfl)) rfl hn_4 (by decide) rfl rfl rfl rfl d4_21 d4_23 ?_
  refine go_aloadN (pc := 26) d4_26 rfl (go_bipush (pc := 27) d4_27 cb_16 ?_)
  refine go_newI (pc := 29) (ty := .int) rfl (by decide) ar_2 (List.mem_of_getElem? (i := 12) rfl) (List.mem_of_getElem? (i := 17) rfl) hm_4 (Or.inl (List.mem_of_getElem? (i := 18) rfl)) rfl hn_4 (by decide) rfl rfl rfl rfl d4_29 d4_31 ?_
  refine go_aloadN (pc := 34) d4_34 rfl (go_bipush (pc := 35) d4_35 cb_16 ?_)
  refine go_newI (pc := 37) (ty := .int) rfl (by decide) ar_3 (List.mem_of_getElem? (i := 12) rfl) (List.mem_of_getElem? (i := 19) rfl) hm_4 (Or.inl (List.mem_of_getElem? (i := 20) rfl)) rfl hn_4 (by decide) rfl rfl rfl rfl d4_37 d4_39 ?_
  refine go_aloadN (pc := 42) d4_42 rfl (go_bipush (pc := 43) d4_43 cb_12 ?_)
  refine go_newI (pc := 45) (ty := .int) rfl (by decide) ar_4 (List.mem_of_getElem? (i := 12) rfl) (List.mem_of_getElem? (i := 21) rfl) hm_4 (Or.inl (List.mem_of_getElem? (i := 22) rfl)) rfl hn_4 (by decide) rfl rfl rfl rfl d4_45 d4_47 ?_
  refine go_aloadN (pc := 50) d4_50 rfl (go_bipush (pc := 51) d4_51 cb_12 ?_)
  refine go_newI (pc := 53) (ty := .int) rfl (by decide) ar_5 (List.mem_of_getElem? (i := 12) rfl) (List.mem_of_getElem? (i := 23) rfl) hm_4 (Or.inl (List.mem_of_getElem? (i := 24) rfl)) rfl hn_4 (by decide) rfl rfl rfl rfl d4_53 d4_55 ?_
  refine go_aloadN (pc := 58) d4_58 rfl (go_bipush (pc := 59) d4_59 cb_12 ?_)
  refine go_newI (pc := 61) (ty := .int) rfl (by decide) ar_6 (List.mem_of_getElem? (i := 12) rfl) (List.mem_of_getElem? (i := 25) rfl) hm_4 (Or.inl (List.mem_of_getElem? (i := 26) rfl)) rfl hn_4 (by decide) rfl rfl rfl rfl d4_61 d4_63 ?_
  refine go_aloadN (pc := 66) d4_66 rfl (go_bipush (pc := 67) d4_67 cb_36 ?_)
  refine go_newI (pc := 69) (ty := .int) rfl (by decide) ar_7 (List.mem_of_getElem? (i := 12) rfl) (List.mem_of_getElem? (i := 27) rfl) hm_4 (Or.inl (List.mem_of_getElem? (i := 28) rfl)) rfl hn_4 (by decide) rfl rfl rfl rfl d4_69 d4_71 ?_
  refine go_aloadN (pc := 74) d4_74 rfl (go_sipush (pc := 75) d4_75 cs_1024 ?_)
  refine go_newI (pc := 78) (ty := .int) rfl (by decide) ar_8 (List.mem_of_getElem? (i := 12) rfl) (List.mem_of_getElem? (i := 29) rfl) hm_4 (Or.inl (List.mem_of_getElem? (i := 30) rfl)) rfl hn_4 (by decide) rfl rfl rfl rfl d4_78 d4_80 ?_
  refine go_aloadN (pc := 83) d4_83 rfl (go_sipush (pc := 84) d4_84 cs_3072 ?_)
  refine go_newI (pc := 87) (ty := .int) rfl (by decide) ar_9 (List.mem_of_getElem? (i := 12) rfl) (List.mem_of_getElem? (i := 31) rfl) hm_4 (Or.inl (List.mem_of_getElem? (i := 32) rfl)) rfl hn_4 (by decide) rfl rfl rfl rfl d4_87 d4_89 ?_
  refine go_aloadN (pc := 92) d4_92 rfl (go_sipush (pc := 93) d4_93 cs_3072 ?_)
  refine go_newI (pc := 96) (ty := .int) rfl (by decide) ar_10 (List.mem_of_getElem? (i := 12) rfl) (List.mem_of_getElem? (i := 33) rfl) hm_4 (Or.inl (List.mem_of_getElem? (i := 34) rfl)) rfl hn_4 (by decide) rfl rfl rfl rfl d4_96 d4_98 ?_
  refine go_aloadN (pc := 101) d4_101 rfl (go_sipush (pc := 102) d4_102 cs_1024 ?_)
  refine go_newI (pc := 105) (ty := .int) rfl (by decide) ar_11 (List.mem_of_getElem? (i := 12) rfl) (List.mem_of_getElem? (i := 35) rfl) hm_4 (Or.inl (List.mem_of_getElem? (i := 36) rfl)) rfl hn_4 (by decide) rfl rfl rfl rfl d4_105 d4_107 ?_
  refine go_aloadN (pc := 110) d4_110 rfl (go_aloadN (pc := 111) d4_111 rfl (go_iloadN (pc := 112) d4_112 rfl ?_))
  refine go_priv (pc := 113) (i := 0) (as := [.int v1]) (rest := [.ref 1]) (w' := (none, [(12, sA (sA (sA (sA (sA (sA (sA (sA (sA (sA (sA (sA (sI s0 0 (1073741824 : Int32)) 0 (rep 16 0)) 1 (rep 16 0)) 2 (rep 16 0)) 3 (rep 16 0)) 4 (rep 12 0)) 5 (rep 12 0)) 6 (rep 12 0)) 7 (rep 36 0)) 8 (rep 1024 0)) 9 (rep 3072 0)) 10 (rep 3072 0)) 11 (rep 1024 0))])) lk_0_51 pd_0 rfl oid_0 rfl rfl rfl rfl rfl rfl ⟨rfl, rfl, rfl, rfl, rfl⟩ d4_113 (c_k_clampNodes v1 (sA (sA (sA (sA (sA (sA (sA (sA (sA (sA (sA (sA (sI s0 0 (1073741824 : Int32)) 0 (rep 16 0)) 1 (rep 16 0)) 2 (rep 16 0)) 3 (rep 16 0)) 4 (rep 12 0)) 5 (rep 12 0)) 6 (rep 12 0)) 7 (rep 36 0)) 8 (rep 1024 0)) 9 (rep 3072 0)) 10 (rep 3072 0)) 11 (rep 1024 0))) ?_
  refine go_putI (pc := 116) fs_55 hm_4 (wr_1 _) hn_4 d4_116 (go_aloadN (pc := 119) d4_119 rfl ?_)
  obtain ⟨r120, e13, hf⟩ := Option.bind_eq_some_iff.mp hf
  refine go_priv (pc := 120) (i := 0) (as := []) (rest := []) (w' := (none, [(12, r120)])) lk_0_58 pd_2 rfl oid_0 rfl rfl rfl rfl rfl rfl ⟨rfl, rfl, rfl, rfl, rfl⟩ d4_120 (c_k_clearStore (sI (sA (sA (sA (sA (sA (sA (sA (sA (sA (sA (sA (sA (sI s0 0 (1073741824 : Int32)) 0 (rep 16 0)) 1 (rep 16 0)) 2 (rep 16 0)) 3 (rep 16 0)) 4 (rep 12 0)) 5 (rep 12 0)) 6 (rep 12 0)) 7 (rep 36 0)) 8 (rep 1024 0)) 9 (rep 3072 0)) 10 (rep 3072 0)) 11 (rep 1024 0)) 1 (k_clampNodes v1)) _ e13) ?_
  refine go_aloadN (pc := 123) d4_123 rfl ?_
  obtain ⟨r124, e14, hf⟩ := Option.bind_eq_some_iff.mp hf
  refine go_priv (pc := 124) (i := 0) (as := []) (rest := []) (w' := (none, [(12, r124)])) lk_0_61 pd_3 rfl oid_0 rfl rfl rfl rfl rfl rfl ⟨rfl, rfl, rfl, rfl, rfl⟩ d4_124 (c_k_clearTables r120 _ e14) ?_
  cases hf
  exact go_ret (pc := 127) rfl d4_127
theorem c_k_init (v1 : Int32) (o : S) (hf : k_init v1 = some o) : Call PP m4 [.ref 1, .int v1] (none, [(0, s0)]) (none, (none, [(12, o)])) := call_of_go pl_0 rfl (fun _ => rfl) (k_init_ok v1   _ hf)
set_option maxRecDepth 65536 in
set_option maxHeartbeats 4000000 in
theorem k_nodeCount_ok  : ∀  (s : S)  (o : Int32), k_nodeCount s = o → Go PP m5 0 [.val (.ref 1)] [] (none, [(12, s)]) (some (.int o), (none, [(12, s)])) := by
  intro s o hf
  unfold k_nodeCount at hf
  refine go_aloadN (pc := 0) d5_0 rfl (go_getI (pc := 1) fs_55 hm_5 d5_1 ?_)
  cases hf
  exact go_iret (pc := 4) rfl d5_4
theorem c_k_nodeCount (s : S) : Call PP m5 [.ref 1] (none, [(12, s)]) (some (.int (k_nodeCount s)), (none, [(12, s)])) := call_of_go pl_0 rfl (fun h => nomatch h) (k_nodeCount_ok s   _ rfl)
set_option maxRecDepth 65536 in
set_option maxHeartbeats 4000000 in
theorem k_inRange_ok  {s : S} : ∀ (v1 : Int32) (v2 : Int32) (v3 : Int32)   (o : Int32), k_inRange v1 v2 v3 = o → Go PP m6 0 [.val (.ref 1), .val (.int v1), .val (.int v2), .val (.int v3)] [] (none, [(12, s)]) (some (.int o), (none, [(12, s)])) := by
  intro v1 v2 v3 o hf
  unfold k_inRange at hf
  refine go_iloadN (pc := 0) d6_0 rfl (go_iloadN (pc := 1) d6_1 rfl ?_)
  by_cases h1 : v1 < v2
  · replace hf := (if_pos h1).symm.trans hf
    refine go_icY (pc := 2) (pc' := 14) d6_2 (XT.ii_lt_t h1) j_2_12 ?_
    refine go_iconst (pc := 14) d6_14 ci_0 ?_
    cases hf
    exact go_zret (pc := 15) rfl d6_15 (show (0 : Int32) = nar .boolean (0 : Int32) by decide)
  · replace hf := (if_neg h1).symm.trans hf
    refine go_icN (pc := 2) d6_2 (XT.ii_lt_f h1) ?_
    refine go_iloadN (pc := 5) d6_5 rfl (go_iloadN (pc := 6) d6_6 rfl ?_)
    by_cases h2 : v3 < v1
    · replace hf := (if_pos h2).symm.trans hf
      refine go_icY (pc := 7) (pc' := 14) d6_7 (XT.ii_gt_t h2) j_7_7 ?_
      refine go_iconst (pc := 14) d6_14 ci_0 ?_
      cases hf
      exact go_zret (pc := 15) rfl d6_15 (show (0 : Int32) = nar .boolean (0 : Int32) by decide)
    · replace hf := (if_neg h2).symm.trans hf
      refine go_icN (pc := 7) d6_7 (XT.ii_gt_f h2) ?_
      refine go_iconst (pc := 10) d6_10 ci_1 (go_goto (pc := 11) (pc' := 15) d6_11 j_11_4 ?_)
      cases hf
      exact go_zret (pc := 15) rfl d6_15 (show (1 : Int32) = nar .boolean (1 : Int32) by decide)
theorem c_k_inRange (v1 : Int32) (v2 : Int32) (v3 : Int32) (s : S) : Call PP m6 [.ref 1, .int v1, .int v2, .int v3] (none, [(12, s)]) (some (.int (k_inRange v1 v2 v3)), (none, [(12, s)])) := call_of_go pl_0 rfl (fun h => nomatch h) (k_inRange_ok v1 v2 v3   _ rfl)
set_option maxRecDepth 65536 in
set_option maxHeartbeats 4000000 in
theorem k_edgeRefused_ok  : ∀ (v1 : Int32) (v2 : Int32) (v3 : Int32) (v4 : Int32) (s : S)  (o : Int32), k_edgeRefused v1 v2 v3 v4 s = o → Go PP m7 0 [.val (.ref 1), .val (.int v1), .val (.int v2), .val (.int v3), .val (.int v4)] [] (none, [(12, s)]) (some (.int o), (none, [(12, s)])) := by
  intro v1 v2 v3 v4 s o hf
  unfold k_edgeRefused at hf
  refine go_aloadN (pc := 0) d7_0 rfl (go_getI (pc := 1) fs_64 hm_7 d7_1 (go_bipush (pc := 4) d7_4 cb_16 ?_))
  by_cases h1 : (gI s 2) < (16 : Int32)
  · replace hf := (if_pos h1).symm.trans hf
    refine go_icY (pc := 6) (pc' := 11) d7_6 (XT.ii_lt_t h1) j_6_5 ?_
    refine go_iloadN (pc := 11) d7_11 rfl ?_
    by_cases h2 : v1 < 0
    · replace hf := (if_pos h2).symm.trans hf
      refine go_ifY (pc := 12) (pc' := 30) d7_12 (XT.i0_lt_t h2) j_12_18 ?_
      refine go_iconst (pc := 30) d7_30 ci_1 ?_
      cases hf
      exact go_zret (pc := 31) rfl d7_31 (show (1 : Int32) = nar .boolean (1 : Int32) by decide)
    · replace hf := (if_neg h2).symm.trans hf
      refine go_ifN (pc := 12) d7_12 (XT.i0_lt_f h2) ?_
      refine go_iloadN (pc := 15) d7_15 rfl (go_aloadN (pc := 16) d7_16 rfl (go_getI (pc := 17) fs_55 hm_7 d7_17 (go_iconst (pc := 20) d7_20 ci_1 (go_isub (pc := 21) d7_21 ?_))))
      by_cases h3 : ((gI s 1) - (1 : Int32)) < v2
      · replace hf := (if_pos h3).symm.trans hf
        refine go_icY (pc := 22) (pc' := 30) d7_22 (XT.ii_gt_t h3) j_22_8 ?_
        refine go_iconst (pc := 30) d7_30 ci_1 ?_
        cases hf
        exact go_zret (pc := 31) rfl d7_31 (show (1 : Int32) = nar .boolean (1 : Int32) by decide)
      · replace hf := (if_neg h3).symm.trans hf
        refine go_icN (pc := 22) d7_22 (XT.ii_gt_f h3) ?_
        refine go_iloadN (pc := 25) d7_25 rfl (go_iloadN (pc := 26) d7_26 rfl ?_)
        by_cases h4 : v1 < v2
        · replace hf := (if_pos h4).symm.trans hf
          refine go_icY (pc := 27) (pc' := 32) d7_27 (XT.ii_lt_t h4) j_27_5 ?_
          refine go_aloadN (pc := 32) d7_32 rfl (go_iloadN (pc := 33) d7_33 rfl (go_iconst (pc := 34) d7_34 ci_0 (go_bipush (pc := 35) d7_35 cb_7 ?_)))
          refine go_priv (pc := 37) (i := 0) (as := [.int v3, .int (0 : Int32), .int (7 : Int32)]) (rest := []) (w' := (none, [(12, s)])) lk_0_129 pd_6 rfl oid_0 rfl rfl rfl rfl rfl rfl ⟨rfl, rfl, rfl, rfl, rfl⟩ d7_37 (c_k_inRange v3 (0 : Int32) (7 : Int32) s) ?_
          by_cases h5 : (k_inRange v3 (0 : Int32) (7 : Int32)) = 0
          · replace hf := (if_pos h5).symm.trans hf
            refine go_ifN (pc := 40) d7_40 (XT.i0_ne_f h5) ?_
            refine go_iconst (pc := 43) d7_43 ci_1 ?_
            cases hf
            exact go_zret (pc := 44) rfl d7_44 (show (1 : Int32) = nar .boolean (1 : Int32) by decide)
          · replace hf := (if_neg h5).symm.trans hf
            refine go_ifY (pc := 40) (pc' := 45) d7_40 (XT.i0_ne_t h5) j_40_5 ?_
            refine go_aloadN (pc := 45) d7_45 rfl (go_iload (pc := 46) d7_46 rfl (go_iconst (pc := 48) d7_48 ci_0 (go_bipush (pc := 49) d7_49 cb_100 ?_)))
            refine go_priv (pc := 51) (i := 0) (as := [.int v4, .int (0 : Int32), .int (100 : Int32)]) (rest := []) (w' := (none, [(12, s)])) lk_0_129 pd_6 rfl oid_0 rfl rfl rfl rfl rfl rfl ⟨rfl, rfl, rfl, rfl, rfl⟩ d7_51 (c_k_inRange v4 (0 : Int32) (100 : Int32) s) ?_
            by_cases h6 : (k_inRange v4 (0 : Int32) (100 : Int32)) = 0
            · replace hf := (if_pos h6).symm.trans hf
              refine go_ifN (pc := 54) d7_54 (XT.i0_ne_f h6) ?_
              refine go_iconst (pc := 57) d7_57 ci_1 (go_goto (pc := 58) (pc' := 62) d7_58 j_58_4 ?_)
              cases hf
              exact go_zret (pc := 62) rfl d7_62 (show (1 : Int32) = nar .boolean (1 : Int32) by decide)
            · replace hf := (if_neg h6).symm.trans hf
              refine go_ifY (pc := 54) (pc' := 61) d7_54 (XT.i0_ne_t h6) j_54_7 ?_
              refine go_iconst (pc := 61) d7_61 ci_0 ?_
              cases hf
              exact go_zret (pc := 62) rfl d7_62 (show (0 : Int32) = nar .boolean (0 : Int32) by decide)
        · replace hf := (if_neg h4).symm.trans hf
          refine go_icN (pc := 27) d7_27 (XT.ii_lt_f h4) ?_
          refine go_iconst (pc := 30) d7_30 ci_1 ?_
          cases hf
          exact go_zret (pc := 31) rfl d7_31 (show (1 : Int32) = nar .boolean (1 : Int32) by decide)
  · replace hf := (if_neg h1).symm.trans hf
    refine go_icN (pc := 6) d7_6 (XT.ii_lt_f h1) ?_
    refine go_iconst (pc := 9) d7_9 ci_1 ?_
    cases hf
    exact go_zret (pc := 10) rfl d7_10 (show (1 : Int32) = nar .boolean (1 : Int32) by decide)
theorem c_k_edgeRefused (v1 : Int32) (v2 : Int32) (v3 : Int32) (v4 : Int32) (s : S) : Call PP m7 [.ref 1, .int v1, .int v2, .int v3, .int v4] (none, [(12, s)]) (some (.int (k_edgeRefused v1 v2 v3 v4 s)), (none, [(12, s)])) := call_of_go pl_0 rfl (fun h => nomatch h) (k_edgeRefused_ok v1 v2 v3 v4 s   _ rfl)
set_option maxRecDepth 65536 in
set_option maxHeartbeats 4000000 in
theorem k_addEdge_ok  : ∀ (v1 : Int32) (v2 : Int32) (v3 : Int32) (v4 : Int32) (s : S)  (o : Int32 × S), k_addEdge v1 v2 v3 v4 s = some o → Go PP m8 0 [.val (.ref 1), .val (.int v1), .val (.int v2), .val (.int v3), .val (.int v4), .unset] [] (none, [(12, s)]) (some (.int o.1), (none, [(12, o.2)])) := by
  intro v1 v2 v3 v4 s o hf
  unfold k_addEdge at hf
  refine go_aloadN (pc := 0) d8_0 rfl (go_iloadN (pc := 1) d8_1 rfl (go_iloadN (pc := 2) d8_2 rfl (go_iloadN (pc := 3) d8_3 rfl (go_iload (pc := 4) d8_4 rfl ?_))))
  refine go_priv (pc := 6) (i := 0) (as := [.int v1, .int v2, .int v3, .int v4]) (rest := []) (w' := (none, [(12, s)])) lk_0_70 pd_7 rfl oid_0 rfl rfl rfl rfl rfl rfl ⟨rfl, rfl, rfl, rfl, rfl⟩ d8_6 (c_k_edgeRefused v1 v2 v3 v4 s) ?_
  by_cases h1 : (k_edgeRefused v1 v2 v3 v4 s) = 0
  · replace hf := (if_pos h1).symm.trans hf
    refine go_ifY (pc := 9) (pc' := 14) d8_9 (XT.i0_eq_t h1) j_9_5 ?_
    refine go_aloadN (pc := 14) d8_14 rfl (go_getI (pc := 15) fs_64 hm_8 d8_15 (go_istore (pc := 18) (L' := [.val (.ref 1), .val (.int v1), .val (.int v2), .val (.int v3), .val (.int v4), .val (.int (gI s 2))]) d8_18 rfl (go_aloadN (pc := 20) d8_20 rfl (go_getA (pc := 21) fa_14 hm_8 d8_21 rfl (go_iload (pc := 24) d8_24 rfl (go_iloadN (pc := 26) d8_26 rfl ?_))))))
    obtain ⟨a27, e2, hf⟩ := Option.bind_eq_some_iff.mp hf
    refine go_iastore (pc := 27) (q := 0) ar_0 rfl hn_8 e2 d8_27 ?_
    refine go_aloadN (pc := 28) d8_28 rfl (go_getA (pc := 29) fa_18 hm_8 d8_29 rfl (go_iload (pc := 32) d8_32 rfl (go_iloadN (pc := 34) d8_34 rfl ?_)))
    obtain ⟨a35, e3, hf⟩ := Option.bind_eq_some_iff.mp hf
    refine go_iastore (pc := 35) (q := 1) ar_1 rfl hn_8 e3 d8_35 ?_
    refine go_aloadN (pc := 36) d8_36 rfl (go_getA (pc := 37) fa_21 hm_8 d8_37 rfl (go_iload (pc := 40) d8_40 rfl (go_iloadN (pc := 42) d8_42 rfl ?_)))
    obtain ⟨a43, e4, hf⟩ := Option.bind_eq_some_iff.mp hf
    refine go_iastore (pc := 43) (q := 2) ar_2 rfl hn_8 e4 d8_43 ?_
    refine go_aloadN (pc := 44) d8_44 rfl (go_getA (pc := 45) fa_24 hm_8 d8_45 rfl (go_iload (pc := 48) d8_48 rfl (go_iload (pc := 50) d8_50 rfl ?_)))
    obtain ⟨a52, e5, hf⟩ := Option.bind_eq_some_iff.mp hf
    refine go_iastore (pc := 52) (q := 3) ar_3 rfl hn_8 e5 d8_52 ?_
    refine go_aloadN (pc := 53) d8_53 rfl (go_iload (pc := 54) d8_54 rfl (go_iconst (pc := 56) d8_56 ci_1 (go_iadd (pc := 57) d8_57 (go_putI (pc := 58) fs_64 hm_8 (wr_2 _) hn_8 d8_58 (go_aloadN (pc := 61) d8_61 rfl ?_)))))
    refine go_priv (pc := 62) (i := 0) (as := []) (rest := []) (w' := (none, [(12, (k_becomeBuilding (sI (sA (sA (sA (sA s 0 a27) 1 a35) 2 a43) 3 a52) 2 ((gI s 2) + (1 : Int32)))))])) lk_0_74 pd_1 rfl oid_0 rfl rfl rfl rfl rfl rfl ⟨rfl, rfl, rfl, rfl, rfl⟩ d8_62 (c_k_becomeBuilding (sI (sA (sA (sA (sA s 0 a27) 1 a35) 2 a43) 3 a52) 2 ((gI s 2) + (1 : Int32)))) ?_
    refine go_iload (pc := 65) d8_65 rfl ?_
    cases hf
    exact go_iret (pc := 67) rfl d8_67
  · replace hf := (if_neg h1).symm.trans hf
    refine go_ifN (pc := 9) d8_9 (XT.i0_eq_f h1) ?_
    refine go_iconst (pc := 12) d8_12 ci_m1 ?_
    cases hf
    exact go_iret (pc := 13) rfl d8_13
theorem c_k_addEdge (v1 : Int32) (v2 : Int32) (v3 : Int32) (v4 : Int32) (s : S) (o : Int32 × S) (hf : k_addEdge v1 v2 v3 v4 s = some o) : Call PP m8 [.ref 1, .int v1, .int v2, .int v3, .int v4] (none, [(12, s)]) (some (.int o.1), (none, [(12, o.2)])) := call_of_go pl_0 rfl (fun h => nomatch h) (k_addEdge_ok v1 v2 v3 v4 s   _ hf)
set_option maxRecDepth 65536 in
set_option maxHeartbeats 4000000 in
theorem k_bodyLimit_4_ok  {s : S} : ∀ (n : Nat) (v1 : Int32) (v2 : Int32) (v3 : Int32)   (o : Int32), k_bodyLimit_4 n v1 v2 v3 = some o → Go PP m9 4 [.val (.ref 1), .val (.int v1), .val (.int v2), .val (.int v3)] [] (none, [(12, s)]) (some (.int o), (none, [(12, s)])) := by
  intro n
  induction n with
  | zero => intro v1 v2 v3 o hf; exact nomatch hf
  | succ n ih =>
    intro v1 v2 v3 o hf
    unfold k_bodyLimit_4 at hf
    refine go_iloadN (pc := 4) d9_4 rfl (go_iloadN (pc := 5) d9_5 rfl ?_)
    by_cases h1 : v3 < v1
    · replace hf := (if_pos h1).symm.trans hf
      refine go_icN (pc := 6) d9_6 (XT.ii_ge_f h1) ?_
      refine go_iloadN (pc := 9) d9_9 rfl (go_iconst (pc := 10) d9_10 ci_3 ?_)
      by_cases h2 : v3 < (3 : Int32)
      · replace hf := (if_pos h2).symm.trans hf
        refine go_icN (pc := 11) d9_11 (XT.ii_ge_f h2) ?_
        refine go_iloadN (pc := 14) d9_14 rfl (go_bipush (pc := 15) d9_15 cb_16 (go_imul (pc := 17) d9_17 (go_istoreN (pc := 18) (L' := [.val (.ref 1), .val (.int v1), .val (.int (v2 * (16 : Int32))), .val (.int v3)]) d9_18 rfl (go_iinc (pc := 19) (L' := [.val (.ref 1), .val (.int v1), .val (.int (v2 * (16 : Int32))), .val (.int (v3 + (1 : Int32)))]) d9_19 rfl ci_1 rfl (go_goto (pc := 22) (pc' := 4) d9_22 j_22_m18 ?_)))))
        exact ih v1 (v2 * (16 : Int32)) (v3 + (1 : Int32)) _ hf
      · replace hf := (if_neg h2).symm.trans hf
        refine go_icY (pc := 11) (pc' := 25) d9_11 (XT.ii_ge_t h2) j_11_14 ?_
        refine go_iloadN (pc := 25) d9_25 rfl ?_
        cases hf
        exact go_iret (pc := 26) rfl d9_26
    · replace hf := (if_neg h1).symm.trans hf
      refine go_icY (pc := 6) (pc' := 25) d9_6 (XT.ii_ge_t h1) j_6_19 ?_
      refine go_iloadN (pc := 25) d9_25 rfl ?_
      cases hf
      exact go_iret (pc := 26) rfl d9_26
set_option maxRecDepth 65536 in
set_option maxHeartbeats 4000000 in
theorem k_bodyLimit_ok  {s : S} : ∀ (v1 : Int32)   (o : Int32), k_bodyLimit v1 = some o → Go PP m9 0 [.val (.ref 1), .val (.int v1), .unset, .unset] [] (none, [(12, s)]) (some (.int o), (none, [(12, s)])) := by
  intro v1 o hf
  unfold k_bodyLimit at hf
  refine go_iconst (pc := 0) d9_0 ci_1 (go_istoreN (pc := 1) (L' := [.val (.ref 1), .val (.int v1), .val (.int (1 : Int32)), .unset]) d9_1 rfl (go_iconst (pc := 2) d9_2 ci_0 (go_istoreN (pc := 3) (L' := [.val (.ref 1), .val (.int v1), .val (.int (1 : Int32)), .val (.int (0 : Int32))]) d9_3 rfl ?_)))
  exact k_bodyLimit_4_ok BIG v1 (1 : Int32) (0 : Int32) _ hf
theorem c_k_bodyLimit (v1 : Int32) (s : S) (o : Int32) (hf : k_bodyLimit v1 = some o) : Call PP m9 [.ref 1, .int v1] (none, [(12, s)]) (some (.int o), (none, [(12, s)])) := call_of_go pl_0 rfl (fun h => nomatch h) (k_bodyLimit_ok v1   _ hf)
set_option maxRecDepth 65536 in
set_option maxHeartbeats 4000000 in
theorem k_ruleRefused_ok  : ∀ (v1 : Int32) (v2 : Int32) (v3 : Int32) (v4 : Int32) (s : S)  (o : Int32), k_ruleRefused v1 v2 v3 v4 s = some o → Go PP m10 0 [.val (.ref 1), .val (.int v1), .val (.int v2), .val (.int v3), .val (.int v4)] [] (none, [(12, s)]) (some (.int o), (none, [(12, s)])) := by
  intro v1 v2 v3 v4 s o hf
  unfold k_ruleRefused at hf
  refine go_aloadN (pc := 0) d10_0 rfl (go_getI (pc := 1) fs_67 hm_10 d10_1 (go_bipush (pc := 4) d10_4 cb_12 ?_))
  by_cases h1 : (gI s 3) < (12 : Int32)
  · replace hf := (if_pos h1).symm.trans hf
    refine go_icY (pc := 6) (pc' := 11) d10_6 (XT.ii_lt_t h1) j_6_5 ?_
    refine go_aloadN (pc := 11) d10_11 rfl (go_iloadN (pc := 12) d10_12 rfl (go_iconst (pc := 13) d10_13 ci_0 (go_bipush (pc := 14) d10_14 cb_7 ?_)))
    refine go_priv (pc := 16) (i := 0) (as := [.int v1, .int (0 : Int32), .int (7 : Int32)]) (rest := []) (w' := (none, [(12, s)])) lk_0_129 pd_6 rfl oid_0 rfl rfl rfl rfl rfl rfl ⟨rfl, rfl, rfl, rfl, rfl⟩ d10_16 (c_k_inRange v1 (0 : Int32) (7 : Int32) s) ?_
    by_cases h2 : (k_inRange v1 (0 : Int32) (7 : Int32)) = 0
    · replace hf := (if_pos h2).symm.trans hf
      refine go_ifN (pc := 19) d10_19 (XT.i0_ne_f h2) ?_
      refine go_iconst (pc := 22) d10_22 ci_1 ?_
      cases hf
      exact go_zret (pc := 23) rfl d10_23 (show (1 : Int32) = nar .boolean (1 : Int32) by decide)
    · replace hf := (if_neg h2).symm.trans hf
      refine go_ifY (pc := 19) (pc' := 24) d10_19 (XT.i0_ne_t h2) j_19_5 ?_
      refine go_aloadN (pc := 24) d10_24 rfl (go_iloadN (pc := 25) d10_25 rfl (go_iconst (pc := 26) d10_26 ci_0 (go_bipush (pc := 27) d10_27 cb_100 ?_)))
      refine go_priv (pc := 29) (i := 0) (as := [.int v2, .int (0 : Int32), .int (100 : Int32)]) (rest := []) (w' := (none, [(12, s)])) lk_0_129 pd_6 rfl oid_0 rfl rfl rfl rfl rfl rfl ⟨rfl, rfl, rfl, rfl, rfl⟩ d10_29 (c_k_inRange v2 (0 : Int32) (100 : Int32) s) ?_
      by_cases h3 : (k_inRange v2 (0 : Int32) (100 : Int32)) = 0
      · replace hf := (if_pos h3).symm.trans hf
        refine go_ifN (pc := 32) d10_32 (XT.i0_ne_f h3) ?_
        refine go_iconst (pc := 35) d10_35 ci_1 ?_
        cases hf
        exact go_zret (pc := 36) rfl d10_36 (show (1 : Int32) = nar .boolean (1 : Int32) by decide)
      · replace hf := (if_neg h3).symm.trans hf
        refine go_ifY (pc := 32) (pc' := 37) d10_32 (XT.i0_ne_t h3) j_32_5 ?_
        refine go_aloadN (pc := 37) d10_37 rfl (go_iloadN (pc := 38) d10_38 rfl (go_iconst (pc := 39) d10_39 ci_0 (go_iconst (pc := 40) d10_40 ci_3 ?_)))
        refine go_priv (pc := 41) (i := 0) (as := [.int v3, .int (0 : Int32), .int (3 : Int32)]) (rest := []) (w' := (none, [(12, s)])) lk_0_129 pd_6 rfl oid_0 rfl rfl rfl rfl rfl rfl ⟨rfl, rfl, rfl, rfl, rfl⟩ d10_41 (c_k_inRange v3 (0 : Int32) (3 : Int32) s) ?_
        by_cases h4 : (k_inRange v3 (0 : Int32) (3 : Int32)) = 0
        · replace hf := (if_pos h4).symm.trans hf
          refine go_ifN (pc := 44) d10_44 (XT.i0_ne_f h4) ?_
          refine go_iconst (pc := 47) d10_47 ci_1 ?_
          cases hf
          exact go_zret (pc := 48) rfl d10_48 (show (1 : Int32) = nar .boolean (1 : Int32) by decide)
        · replace hf := (if_neg h4).symm.trans hf
          refine go_ifY (pc := 44) (pc' := 49) d10_44 (XT.i0_ne_t h4) j_44_5 ?_
          refine go_iload (pc := 49) d10_49 rfl ?_
          by_cases h5 : v4 < 0
          · replace hf := (if_pos h5).symm.trans hf
            refine go_ifN (pc := 51) d10_51 (XT.i0_ge_f h5) ?_
            refine go_iconst (pc := 54) d10_54 ci_1 ?_
            cases hf
            exact go_zret (pc := 55) rfl d10_55 (show (1 : Int32) = nar .boolean (1 : Int32) by decide)
          · replace hf := (if_neg h5).symm.trans hf
            refine go_ifY (pc := 51) (pc' := 56) d10_51 (XT.i0_ge_t h5) j_51_5 ?_
            refine go_iload (pc := 56) d10_56 rfl (go_aloadN (pc := 58) d10_58 rfl (go_iloadN (pc := 59) d10_59 rfl ?_))
            obtain ⟨r60, e6, hf⟩ := Option.bind_eq_some_iff.mp hf
            refine go_priv (pc := 60) (i := 0) (as := [.int v3]) (rest := [.int v4]) (w' := (none, [(12, s)])) lk_0_133 pd_9 rfl oid_0 rfl rfl rfl rfl rfl rfl ⟨rfl, rfl, rfl, rfl, rfl⟩ d10_60 (c_k_bodyLimit v3 s _ e6) ?_
            by_cases h7 : v4 < r60
            · replace hf := (if_pos h7).symm.trans hf
              refine go_icY (pc := 63) (pc' := 70) d10_63 (XT.ii_lt_t h7) j_63_7 ?_
              refine go_iconst (pc := 70) d10_70 ci_0 ?_
              cases hf
              exact go_zret (pc := 71) rfl d10_71 (show (0 : Int32) = nar .boolean (0 : Int32) by decide)
            · replace hf := (if_neg h7).symm.trans hf
              refine go_icN (pc := 63) d10_63 (XT.ii_lt_f h7) ?_
              refine go_iconst (pc := 66) d10_66 ci_1 (go_goto (pc := 67) (pc' := 71) d10_67 j_67_4 ?_)
              cases hf
              exact go_zret (pc := 71) rfl d10_71 (show (1 : Int32) = nar .boolean (1 : Int32) by decide)
  · replace hf := (if_neg h1).symm.trans hf
    refine go_icN (pc := 6) d10_6 (XT.ii_lt_f h1) ?_
    refine go_iconst (pc := 9) d10_9 ci_1 ?_
    cases hf
    exact go_zret (pc := 10) rfl d10_10 (show (1 : Int32) = nar .boolean (1 : Int32) by decide)
theorem c_k_ruleRefused (v1 : Int32) (v2 : Int32) (v3 : Int32) (v4 : Int32) (s : S) (o : Int32) (hf : k_ruleRefused v1 v2 v3 v4 s = some o) : Call PP m10 [.ref 1, .int v1, .int v2, .int v3, .int v4] (none, [(12, s)]) (some (.int o), (none, [(12, s)])) := call_of_go pl_0 rfl (fun h => nomatch h) (k_ruleRefused_ok v1 v2 v3 v4 s   _ hf)
def T_k_storeRule_36 (k36 : Int32 → Int32 → Int32 → Int32 → S → Option S) : Prop := ∀ (v1 : Int32) (v4 : Int32) (v5 : Int32) (v6 : Int32) (s : S) (x2 : Slot) (x3 : Slot) (x7 : Slot) (hx2 : k1 x2) (hx3 : k1 x3) (hx7 : k1 x7) (o : S), k36 v1 v4 v5 v6 s = some o → Go PP m11 36 [.val (.ref 1), .val (.int v1), x2, x3, .val (.int v4), .val (.int v5), .val (.int v6), x7] [] (none, [(12, s)]) (none, (none, [(12, o)]))
set_option maxRecDepth 65536 in
set_option maxHeartbeats 4000000 in
theorem k_storeRule_64_ok {k36 : Int32 → Int32 → Int32 → Int32 → S → Option S} (hk36 : T_k_storeRule_36 k36) : ∀ (v1 : Int32) (v4 : Int32) (v5 : Int32) (v6 : Int32) (v7 : Int32) (s : S) (x2 : Slot) (x3 : Slot) (hx2 : k1 x2) (hx3 : k1 x3) (o : S), k_storeRule_64 k36 v1 v4 v5 v6 v7 s = some o → Go PP m11 64 [.val (.ref 1), .val (.int v1), x2, x3, .val (.int v4), .val (.int v5), .val (.int v6), .val (.int v7)] [] (none, [(12, s)]) (none, (none, [(12, o)])) := by
  intro v1 v4 v5 v6 v7 s x2 x3 hx2 hx3 o hf
  unfold k_storeRule_64 at hf
  refine go_aloadN (pc := 64) d11_64 rfl (go_getA (pc := 65) fa_36 hm_11 d11_65 rfl (go_iloadN (pc := 68) d11_68 rfl (go_iconst (pc := 69) d11_69 ci_3 (go_imul (pc := 70) d11_70 (go_iload (pc := 71) d11_71 rfl (go_iadd (pc := 73) d11_73 (go_iload (pc := 74) d11_74 rfl ?_)))))))
  obtain ⟨a76, e1, hf⟩ := Option.bind_eq_some_iff.mp hf
  refine go_iastore (pc := 76) (q := 7) ar_7 rfl hn_11 e1 d11_76 ?_
  refine go_iinc (pc := 77) (L' := [.val (.ref 1), .val (.int v1), x2, x3, .val (.int v4), .val (.int v5), .val (.int (v6 + (1 : Int32))), .val (.int v7)]) d11_77 rfl ci_1 rfl (go_goto (pc := 80) (pc' := 36) d11_80 j_80_m44 ?_)
  exact hk36 v1 v4 v5 (v6 + (1 : Int32)) (sA s 7 a76) x2 x3 (.val (.int v7)) hx2 hx3 (Or.inr ⟨_, rfl, rfl⟩) _ hf
set_option maxRecDepth 65536 in
set_option maxHeartbeats 4000000 in
theorem k_storeRule_36_ok  : ∀ (n : Nat) (v1 : Int32) (v4 : Int32) (v5 : Int32) (v6 : Int32) (s : S) (x2 : Slot) (x3 : Slot) (x7 : Slot) (hx2 : k1 x2) (hx3 : k1 x3) (hx7 : k1 x7) (o : S), k_storeRule_36 n v1 v4 v5 v6 s = some o → Go PP m11 36 [.val (.ref 1), .val (.int v1), x2, x3, .val (.int v4), .val (.int v5), .val (.int v6), x7] [] (none, [(12, s)]) (none, (none, [(12, o)])) := by
  intro n
  induction n with
  | zero => intro v1 v4 v5 v6 s x2 x3 x7 hx2 hx3 hx7 o hf; exact nomatch hf
  | succ n ih =>
    intro v1 v4 v5 v6 s x2 x3 x7 hx2 hx3 hx7 o hf
    unfold k_storeRule_36 at hf
    refine go_iload (pc := 36) d11_36 rfl (go_iconst (pc := 38) d11_38 ci_3 ?_)
    by_cases h1 : v6 < (3 : Int32)
    · replace hf := (if_pos h1).symm.trans hf
      refine go_icN (pc := 39) d11_39 (XT.ii_ge_f h1) ?_
      refine go_iconst (pc := 42) d11_42 ci_0 (go_istore (pc := 43) (L' := [.val (.ref 1), .val (.int v1), x2, x3, .val (.int v4), .val (.int v5), .val (.int v6), .val (.int (0 : Int32))]) d11_43 (stx rfl hx7 rfl) (go_iload (pc := 45) d11_45 rfl (go_iload (pc := 47) d11_47 rfl ?_)))
      by_cases h2 : v6 < v4
      · refine go_icN (pc := 49) d11_49 (XT.ii_ge_f h2) ?_
        refine go_iload (pc := 52) d11_52 rfl (go_iconst (pc := 54) d11_54 ci_4 (go_iload (pc := 55) d11_55 rfl (go_imul (pc := 57) d11_57 (go_ishr (pc := 58) d11_58 (go_bipush (pc := 59) d11_59 cb_15 (go_iand (pc := 61) d11_61 (go_istore (pc := 62) (L' := [.val (.ref 1), .val (.int v1), x2, x3, .val (.int v4), .val (.int v5), .val (.int v6), .val (.int ((v5 >>> (((4 : Int32) * v6) &&& 31)) &&& (15 : Int32)))]) d11_62 rfl ?_)))))))
        exact k_storeRule_64_ok ih v1 v4 v5 v6 ((v5 >>> (((4 : Int32) * v6) &&& 31)) &&& (15 : Int32)) s x2 x3 hx2 hx3 _ (by simpa only [if_pos h2] using hf)
      · refine go_icY (pc := 49) (pc' := 64) d11_49 (XT.ii_ge_t h2) j_49_15 ?_
        exact k_storeRule_64_ok ih v1 v4 v5 v6 (0 : Int32) s x2 x3 hx2 hx3 _ (by simpa only [if_neg h2] using hf)
    · replace hf := (if_neg h1).symm.trans hf
      refine go_icY (pc := 39) (pc' := 83) d11_39 (XT.ii_ge_t h1) j_39_44 ?_
      cases hf
      exact go_ret (pc := 83) rfl d11_83
set_option maxRecDepth 65536 in
set_option maxHeartbeats 4000000 in
theorem k_storeRule_ok  : ∀ (v1 : Int32) (v2 : Int32) (v3 : Int32) (v4 : Int32) (v5 : Int32) (s : S)  (o : S), k_storeRule v1 v2 v3 v4 v5 s = some o → Go PP m11 0 [.val (.ref 1), .val (.int v1), .val (.int v2), .val (.int v3), .val (.int v4), .val (.int v5), .unset, .unset] [] (none, [(12, s)]) (none, (none, [(12, o)])) := by
  intro v1 v2 v3 v4 v5 s o hf
  unfold k_storeRule at hf
  refine go_iloadN (pc := 0) d11_0 rfl ?_
  by_cases h1 : v1 < 0
  · replace hf := (if_pos h1).symm.trans hf
    refine go_ifY (pc := 1) (pc' := 10) d11_1 (XT.i0_lt_t h1) j_1_9 ?_
    cases hf
    exact go_ret (pc := 10) rfl d11_10
  · replace hf := (if_neg h1).symm.trans hf
    refine go_ifN (pc := 1) d11_1 (XT.i0_lt_f h1) ?_
    refine go_iloadN (pc := 4) d11_4 rfl (go_bipush (pc := 5) d11_5 cb_12 ?_)
    by_cases h2 : v1 < (12 : Int32)
    · replace hf := (if_pos h2).symm.trans hf
      refine go_icY (pc := 7) (pc' := 11) d11_7 (XT.ii_lt_t h2) j_7_4 ?_
      refine go_aloadN (pc := 11) d11_11 rfl (go_getA (pc := 12) fa_27 hm_11 d11_12 rfl (go_iloadN (pc := 15) d11_15 rfl (go_iloadN (pc := 16) d11_16 rfl ?_)))
      obtain ⟨a17, e3, hf⟩ := Option.bind_eq_some_iff.mp hf
      refine go_iastore (pc := 17) (q := 4) ar_4 rfl hn_11 e3 d11_17 ?_
      refine go_aloadN (pc := 18) d11_18 rfl (go_getA (pc := 19) fa_30 hm_11 d11_19 rfl (go_iloadN (pc := 22) d11_22 rfl (go_iloadN (pc := 23) d11_23 rfl ?_)))
      obtain ⟨a24, e4, hf⟩ := Option.bind_eq_some_iff.mp hf
      refine go_iastore (pc := 24) (q := 5) ar_5 rfl hn_11 e4 d11_24 ?_
      refine go_aloadN (pc := 25) d11_25 rfl (go_getA (pc := 26) fa_33 hm_11 d11_26 rfl (go_iloadN (pc := 29) d11_29 rfl (go_iload (pc := 30) d11_30 rfl ?_)))
      obtain ⟨a32, e5, hf⟩ := Option.bind_eq_some_iff.mp hf
      refine go_iastore (pc := 32) (q := 6) ar_6 rfl hn_11 e5 d11_32 ?_
      refine go_iconst (pc := 33) d11_33 ci_0 (go_istore (pc := 34) (L' := [.val (.ref 1), .val (.int v1), .val (.int v2), .val (.int v3), .val (.int v4), .val (.int v5), .val (.int (0 : Int32)), .unset]) d11_34 rfl ?_)
      exact k_storeRule_36_ok BIG v1 v4 v5 (0 : Int32) (sA (sA (sA s 4 a17) 5 a24) 6 a32) (.val (.int v2)) (.val (.int v3)) .unset (Or.inr ⟨_, rfl, rfl⟩) (Or.inr ⟨_, rfl, rfl⟩) (Or.inl rfl) _ hf
    · replace hf := (if_neg h2).symm.trans hf
      refine go_icN (pc := 7) d11_7 (XT.ii_lt_f h2) ?_
      cases hf
      exact go_ret (pc := 10) rfl d11_10
theorem c_k_storeRule (v1 : Int32) (v2 : Int32) (v3 : Int32) (v4 : Int32) (v5 : Int32) (s : S) (o : S) (hf : k_storeRule v1 v2 v3 v4 v5 s = some o) : Call PP m11 [.ref 1, .int v1, .int v2, .int v3, .int v4, .int v5] (none, [(12, s)]) (none, (none, [(12, o)])) := call_of_go pl_0 rfl (fun _ => rfl) (k_storeRule_ok v1 v2 v3 v4 v5 s   _ hf)
set_option maxRecDepth 65536 in
set_option maxHeartbeats 4000000 in
theorem k_addRule_ok  : ∀ (v1 : Int32) (v2 : Int32) (v3 : Int32) (v4 : Int32) (s : S)  (o : Int32 × S), k_addRule v1 v2 v3 v4 s = some o → Go PP m12 0 [.val (.ref 1), .val (.int v1), .val (.int v2), .val (.int v3), .val (.int v4), .unset] [] (none, [(12, s)]) (some (.int o.1), (none, [(12, o.2)])) := by
  intro v1 v2 v3 v4 s o hf
  unfold k_addRule at hf
  refine go_aloadN (pc := 0) d12_0 rfl (go_iloadN (pc := 1) d12_1 rfl (go_iloadN (pc := 2) d12_2 rfl (go_iloadN (pc := 3) d12_3 rfl (go_iload (pc := 4) d12_4 rfl ?_))))
  obtain ⟨r6, e1, hf⟩ := Option.bind_eq_some_iff.mp hf
  refine go_priv (pc := 6) (i := 0) (as := [.int v1, .int v2, .int v3, .int v4]) (rest := []) (w' := (none, [(12, s)])) lk_0_77 pd_10 rfl oid_0 rfl rfl rfl rfl rfl rfl ⟨rfl, rfl, rfl, rfl, rfl⟩ d12_6 (c_k_ruleRefused v1 v2 v3 v4 s _ e1) ?_
  by_cases h2 : r6 = 0
  · replace hf := (if_pos h2).symm.trans hf
    refine go_ifY (pc := 9) (pc' := 14) d12_9 (XT.i0_eq_t h2) j_9_5 ?_
    refine go_aloadN (pc := 14) d12_14 rfl (go_getI (pc := 15) fs_67 hm_12 d12_15 (go_istore (pc := 18) (L' := [.val (.ref 1), .val (.int v1), .val (.int v2), .val (.int v3), .val (.int v4), .val (.int (gI s 3))]) d12_18 rfl (go_aloadN (pc := 20) d12_20 rfl (go_iload (pc := 21) d12_21 rfl (go_iloadN (pc := 23) d12_23 rfl (go_iloadN (pc := 24) d12_24 rfl (go_iloadN (pc := 25) d12_25 rfl ?_)))))))
    refine go_iload (pc := 26) d12_26 rfl ?_
    obtain ⟨r28, e3, hf⟩ := Option.bind_eq_some_iff.mp hf
    refine go_priv (pc := 28) (i := 0) (as := [.int (gI s 3), .int v1, .int v2, .int v3, .int v4]) (rest := []) (w' := (none, [(12, r28)])) lk_0_80 pd_11 rfl oid_0 rfl rfl rfl rfl rfl rfl ⟨rfl, rfl, rfl, rfl, rfl⟩ d12_28 (c_k_storeRule (gI s 3) v1 v2 v3 v4 s _ e3) ?_
    refine go_aloadN (pc := 31) d12_31 rfl (go_iload (pc := 32) d12_32 rfl (go_iconst (pc := 34) d12_34 ci_1 (go_iadd (pc := 35) d12_35 (go_putI (pc := 36) fs_67 hm_12 (wr_3 _) hn_12 d12_36 (go_aloadN (pc := 39) d12_39 rfl ?_)))))
    refine go_priv (pc := 40) (i := 0) (as := []) (rest := []) (w' := (none, [(12, (k_becomeBuilding (sI r28 3 ((gI s 3) + (1 : Int32)))))])) lk_0_74 pd_1 rfl oid_0 rfl rfl rfl rfl rfl rfl ⟨rfl, rfl, rfl, rfl, rfl⟩ d12_40 (c_k_becomeBuilding (sI r28 3 ((gI s 3) + (1 : Int32)))) ?_
    refine go_iload (pc := 43) d12_43 rfl ?_
    cases hf
    exact go_iret (pc := 45) rfl d12_45
  · replace hf := (if_neg h2).symm.trans hf
    refine go_ifN (pc := 9) d12_9 (XT.i0_eq_f h2) ?_
    refine go_iconst (pc := 12) d12_12 ci_m1 ?_
    cases hf
    exact go_iret (pc := 13) rfl d12_13
theorem c_k_addRule (v1 : Int32) (v2 : Int32) (v3 : Int32) (v4 : Int32) (s : S) (o : Int32 × S) (hf : k_addRule v1 v2 v3 v4 s = some o) : Call PP m12 [.ref 1, .int v1, .int v2, .int v3, .int v4] (none, [(12, s)]) (some (.int o.1), (none, [(12, o.2)])) := call_of_go pl_0 rfl (fun h => nomatch h) (k_addRule_ok v1 v2 v3 v4 s   _ hf)
set_option maxRecDepth 65536 in
set_option maxHeartbeats 4000000 in
theorem k_isCode_ok  {s : S} : ∀ (v1 : Int32)   (o : Int32), k_isCode v1 = o → Go PP m13 0 [.val (.ref 1), .val (.int v1)] [] (none, [(12, s)]) (some (.int o), (none, [(12, s)])) := by
  intro v1 o hf
  unfold k_isCode at hf
  refine go_iloadN (pc := 0) d13_0 rfl ?_
  by_cases h1 : v1 < 0
  · replace hf := (if_pos h1).symm.trans hf
    refine go_ifY (pc := 1) (pc' := 14) d13_1 (XT.i0_lt_t h1) j_1_13 ?_
    refine go_iconst (pc := 14) d13_14 ci_0 ?_
    cases hf
    exact go_zret (pc := 15) rfl d13_15 (show (0 : Int32) = nar .boolean (0 : Int32) by decide)
  · replace hf := (if_neg h1).symm.trans hf
    refine go_ifN (pc := 1) d13_1 (XT.i0_lt_f h1) ?_
    refine go_iloadN (pc := 4) d13_4 rfl (go_bipush (pc := 5) d13_5 cb_16 ?_)
    by_cases h2 : v1 < (16 : Int32)
    · replace hf := (if_pos h2).symm.trans hf
      refine go_icN (pc := 7) d13_7 (XT.ii_ge_f h2) ?_
      refine go_iconst (pc := 10) d13_10 ci_1 (go_goto (pc := 11) (pc' := 15) d13_11 j_11_4 ?_)
      cases hf
      exact go_zret (pc := 15) rfl d13_15 (show (1 : Int32) = nar .boolean (1 : Int32) by decide)
    · replace hf := (if_neg h2).symm.trans hf
      refine go_icY (pc := 7) (pc' := 14) d13_7 (XT.ii_ge_t h2) j_7_7 ?_
      refine go_iconst (pc := 14) d13_14 ci_0 ?_
      cases hf
      exact go_zret (pc := 15) rfl d13_15 (show (0 : Int32) = nar .boolean (0 : Int32) by decide)
theorem c_k_isCode (v1 : Int32) (s : S) : Call PP m13 [.ref 1, .int v1] (none, [(12, s)]) (some (.int (k_isCode v1)), (none, [(12, s)])) := call_of_go pl_0 rfl (fun h => nomatch h) (k_isCode_ok v1   _ rfl)
set_option maxRecDepth 65536 in
set_option maxHeartbeats 4000000 in
theorem k_isNode_ok  : ∀ (v1 : Int32) (s : S)  (o : Int32), k_isNode v1 s = o → Go PP m14 0 [.val (.ref 1), .val (.int v1)] [] (none, [(12, s)]) (some (.int o), (none, [(12, s)])) := by
  intro v1 s o hf
  unfold k_isNode at hf
  refine go_iloadN (pc := 0) d14_0 rfl ?_
  by_cases h1 : v1 < 0
  · replace hf := (if_pos h1).symm.trans hf
    refine go_ifY (pc := 1) (pc' := 16) d14_1 (XT.i0_lt_t h1) j_1_15 ?_
    refine go_iconst (pc := 16) d14_16 ci_0 ?_
    cases hf
    exact go_zret (pc := 17) rfl d14_17 (show (0 : Int32) = nar .boolean (0 : Int32) by decide)
  · replace hf := (if_neg h1).symm.trans hf
    refine go_ifN (pc := 1) d14_1 (XT.i0_lt_f h1) ?_
    refine go_iloadN (pc := 4) d14_4 rfl (go_aloadN (pc := 5) d14_5 rfl (go_getI (pc := 6) fs_55 hm_14 d14_6 ?_))
    by_cases h2 : v1 < (gI s 1)
    · replace hf := (if_pos h2).symm.trans hf
      refine go_icN (pc := 9) d14_9 (XT.ii_ge_f h2) ?_
      refine go_iconst (pc := 12) d14_12 ci_1 (go_goto (pc := 13) (pc' := 17) d14_13 j_13_4 ?_)
      cases hf
      exact go_zret (pc := 17) rfl d14_17 (show (1 : Int32) = nar .boolean (1 : Int32) by decide)
    · replace hf := (if_neg h2).symm.trans hf
      refine go_icY (pc := 9) (pc' := 16) d14_9 (XT.ii_ge_t h2) j_9_7 ?_
      refine go_iconst (pc := 16) d14_16 ci_0 ?_
      cases hf
      exact go_zret (pc := 17) rfl d14_17 (show (0 : Int32) = nar .boolean (0 : Int32) by decide)
theorem c_k_isNode (v1 : Int32) (s : S) : Call PP m14 [.ref 1, .int v1] (none, [(12, s)]) (some (.int (k_isNode v1 s)), (none, [(12, s)])) := call_of_go pl_0 rfl (fun h => nomatch h) (k_isNode_ok v1 s   _ rfl)
set_option maxRecDepth 65536 in
set_option maxHeartbeats 4000000 in
theorem k_spanSlot_ok  : ∀ (v1 : Int32) (v2 : Int32) (v3 : Int32) (s : S)  (o : Int32), k_spanSlot v1 v2 v3 s = o → Go PP m15 0 [.val (.ref 1), .val (.int v1), .val (.int v2), .val (.int v3)] [] (none, [(12, s)]) (some (.int o), (none, [(12, s)])) := by
  intro v1 v2 v3 s o hf
  unfold k_spanSlot at hf
  refine go_aloadN (pc := 0) d15_0 rfl (go_iloadN (pc := 1) d15_1 rfl ?_)
  refine go_priv (pc := 2) (i := 0) (as := [.int v1]) (rest := []) (w' := (none, [(12, s)])) lk_0_107 pd_13 rfl oid_0 rfl rfl rfl rfl rfl rfl ⟨rfl, rfl, rfl, rfl, rfl⟩ d15_2 (c_k_isCode v1 s) ?_
  by_cases h1 : (k_isCode v1) = 0
  · replace hf := (if_pos h1).symm.trans hf
    refine go_ifY (pc := 5) (pc' := 24) d15_5 (XT.i0_eq_t h1) j_5_19 ?_
    refine go_iconst (pc := 24) d15_24 ci_m1 ?_
    cases hf
    exact go_iret (pc := 25) rfl d15_25
  · replace hf := (if_neg h1).symm.trans hf
    refine go_ifN (pc := 5) d15_5 (XT.i0_eq_f h1) ?_
    refine go_aloadN (pc := 8) d15_8 rfl (go_iloadN (pc := 9) d15_9 rfl ?_)
    refine go_priv (pc := 10) (i := 0) (as := [.int v2]) (rest := []) (w' := (none, [(12, s)])) lk_0_111 pd_14 rfl oid_0 rfl rfl rfl rfl rfl rfl ⟨rfl, rfl, rfl, rfl, rfl⟩ d15_10 (c_k_isNode v2 s) ?_
    by_cases h2 : (k_isNode v2 s) = 0
    · replace hf := (if_pos h2).symm.trans hf
      refine go_ifY (pc := 13) (pc' := 24) d15_13 (XT.i0_eq_t h2) j_13_11 ?_
      refine go_iconst (pc := 24) d15_24 ci_m1 ?_
      cases hf
      exact go_iret (pc := 25) rfl d15_25
    · replace hf := (if_neg h2).symm.trans hf
      refine go_ifN (pc := 13) d15_13 (XT.i0_eq_f h2) ?_
      refine go_aloadN (pc := 16) d15_16 rfl (go_iloadN (pc := 17) d15_17 rfl ?_)
      refine go_priv (pc := 18) (i := 0) (as := [.int v3]) (rest := []) (w' := (none, [(12, s)])) lk_0_111 pd_14 rfl oid_0 rfl rfl rfl rfl rfl rfl ⟨rfl, rfl, rfl, rfl, rfl⟩ d15_18 (c_k_isNode v3 s) ?_
      by_cases h3 : (k_isNode v3 s) = 0
      · replace hf := (if_pos h3).symm.trans hf
        refine go_ifN (pc := 21) d15_21 (XT.i0_ne_f h3) ?_
        refine go_iconst (pc := 24) d15_24 ci_m1 ?_
        cases hf
        exact go_iret (pc := 25) rfl d15_25
      · replace hf := (if_neg h3).symm.trans hf
        refine go_ifY (pc := 21) (pc' := 26) d15_21 (XT.i0_ne_t h3) j_21_5 ?_
        refine go_iloadN (pc := 26) d15_26 rfl (go_bipush (pc := 27) d15_27 cb_64 (go_imul (pc := 29) d15_29 (go_iloadN (pc := 30) d15_30 rfl (go_bipush (pc := 31) d15_31 cb_8 (go_imul (pc := 33) d15_33 (go_iadd (pc := 34) d15_34 (go_iloadN (pc := 35) d15_35 rfl ?_)))))))
        refine go_iadd (pc := 36) d15_36 ?_
        cases hf
        exact go_iret (pc := 37) rfl d15_37
theorem c_k_spanSlot (v1 : Int32) (v2 : Int32) (v3 : Int32) (s : S) : Call PP m15 [.ref 1, .int v1, .int v2, .int v3] (none, [(12, s)]) (some (.int (k_spanSlot v1 v2 v3 s)), (none, [(12, s)])) := call_of_go pl_0 rfl (fun h => nomatch h) (k_spanSlot_ok v1 v2 v3 s   _ rfl)
set_option maxRecDepth 65536 in
set_option maxHeartbeats 4000000 in
theorem k_lowerSpan_ok  : ∀ (v1 : Int32) (v2 : Int32) (v3 : Int32) (v4 : Int32) (s : S)  (o : Int32 × S), k_lowerSpan v1 v2 v3 v4 s = some o → Go PP m16 0 [.val (.ref 1), .val (.int v1), .val (.int v2), .val (.int v3), .val (.int v4), .unset] [] (none, [(12, s)]) (some (.int o.1), (none, [(12, o.2)])) := by
  intro v1 v2 v3 v4 s o hf
  unfold k_lowerSpan at hf
  refine go_aloadN (pc := 0) d16_0 rfl (go_iloadN (pc := 1) d16_1 rfl (go_iloadN (pc := 2) d16_2 rfl (go_iloadN (pc := 3) d16_3 rfl ?_)))
  refine go_priv (pc := 4) (i := 0) (as := [.int v1, .int v2, .int v3]) (rest := []) (w' := (none, [(12, s)])) lk_0_139 pd_15 rfl oid_0 rfl rfl rfl rfl rfl rfl ⟨rfl, rfl, rfl, rfl, rfl⟩ d16_4 (c_k_spanSlot v1 v2 v3 s) ?_
  refine go_istore (pc := 7) (L' := [.val (.ref 1), .val (.int v1), .val (.int v2), .val (.int v3), .val (.int v4), .val (.int (k_spanSlot v1 v2 v3 s))]) d16_7 rfl (go_iload (pc := 9) d16_9 rfl ?_)
  by_cases h1 : (k_spanSlot v1 v2 v3 s) < 0
  · replace hf := (if_pos h1).symm.trans hf
    refine go_ifY (pc := 11) (pc' := 26) d16_11 (XT.i0_lt_t h1) j_11_15 ?_
    refine go_iconst (pc := 26) d16_26 ci_0 ?_
    cases hf
    exact go_zret (pc := 27) rfl d16_27 (show (0 : Int32) = nar .boolean (0 : Int32) by decide)
  · replace hf := (if_neg h1).symm.trans hf
    refine go_ifN (pc := 11) d16_11 (XT.i0_lt_f h1) ?_
    refine go_iload (pc := 14) d16_14 rfl (go_aloadN (pc := 16) d16_16 rfl (go_getA (pc := 17) fa_39 hm_16 d16_17 rfl (go_iload (pc := 20) d16_20 rfl ?_)))
    obtain ⟨a22, e2, hf⟩ := Option.bind_eq_some_iff.mp hf
    refine go_iaload (pc := 22) (q := 8) ar_8 rfl e2 d16_22 ?_
    by_cases h3 : v4 < a22
    · replace hf := (if_pos h3).symm.trans hf
      refine go_icY (pc := 23) (pc' := 28) d16_23 (XT.ii_lt_t h3) j_23_5 ?_
      refine go_aloadN (pc := 28) d16_28 rfl (go_getA (pc := 29) fa_39 hm_16 d16_29 rfl (go_iload (pc := 32) d16_32 rfl (go_iload (pc := 34) d16_34 rfl ?_)))
      obtain ⟨a36, e4, hf⟩ := Option.bind_eq_some_iff.mp hf
      refine go_iastore (pc := 36) (q := 8) ar_8 rfl hn_16 e4 d16_36 ?_
      refine go_iconst (pc := 37) d16_37 ci_1 ?_
      cases hf
      exact go_zret (pc := 38) rfl d16_38 (show (1 : Int32) = nar .boolean (1 : Int32) by decide)
    · replace hf := (if_neg h3).symm.trans hf
      refine go_icN (pc := 23) d16_23 (XT.ii_lt_f h3) ?_
      refine go_iconst (pc := 26) d16_26 ci_0 ?_
      cases hf
      exact go_zret (pc := 27) rfl d16_27 (show (0 : Int32) = nar .boolean (0 : Int32) by decide)
theorem c_k_lowerSpan (v1 : Int32) (v2 : Int32) (v3 : Int32) (v4 : Int32) (s : S) (o : Int32 × S) (hf : k_lowerSpan v1 v2 v3 v4 s = some o) : Call PP m16 [.ref 1, .int v1, .int v2, .int v3, .int v4] (none, [(12, s)]) (some (.int o.1), (none, [(12, o.2)])) := call_of_go pl_0 rfl (fun h => nomatch h) (k_lowerSpan_ok v1 v2 v3 v4 s   _ hf)
set_option maxRecDepth 65536 in
set_option maxHeartbeats 4000000 in
theorem k_scanEdges_2_ok  : ∀ (n : Nat) (v1 : Int32) (s : S)  (o : S), k_scanEdges_2 n v1 s = some o → Go PP m17 2 [.val (.ref 1), .val (.int v1)] [] (none, [(12, s)]) (none, (none, [(12, o)])) := by
  intro n
  induction n with
  | zero => intro v1 s o hf; exact nomatch hf
  | succ n ih =>
    intro v1 s o hf
    unfold k_scanEdges_2 at hf
    refine go_iloadN (pc := 2) d17_2 rfl (go_aloadN (pc := 3) d17_3 rfl (go_getI (pc := 4) fs_64 hm_17 d17_4 ?_))
    by_cases h1 : v1 < (gI s 2)
    · replace hf := (if_pos h1).symm.trans hf
      refine go_icN (pc := 7) d17_7 (XT.ii_ge_f h1) ?_
      refine go_aloadN (pc := 10) d17_10 rfl (go_aloadN (pc := 11) d17_11 rfl (go_getA (pc := 12) fa_21 hm_17 d17_12 rfl (go_iloadN (pc := 15) d17_15 rfl ?_)))
      obtain ⟨a16, e2, hf⟩ := Option.bind_eq_some_iff.mp hf
      refine go_iaload (pc := 16) (q := 2) ar_2 rfl e2 d17_16 ?_
      refine go_aloadN (pc := 17) d17_17 rfl (go_getA (pc := 18) fa_14 hm_17 d17_18 rfl (go_iloadN (pc := 21) d17_21 rfl ?_))
      obtain ⟨a22, e3, hf⟩ := Option.bind_eq_some_iff.mp hf
      refine go_iaload (pc := 22) (q := 0) ar_0 rfl e3 d17_22 ?_
      refine go_aloadN (pc := 23) d17_23 rfl (go_getA (pc := 24) fa_18 hm_17 d17_24 rfl (go_iloadN (pc := 27) d17_27 rfl ?_))
      obtain ⟨a28, e4, hf⟩ := Option.bind_eq_some_iff.mp hf
      refine go_iaload (pc := 28) (q := 1) ar_1 rfl e4 d17_28 ?_
      refine go_aloadN (pc := 29) d17_29 rfl (go_getA (pc := 30) fa_24 hm_17 d17_30 rfl (go_iloadN (pc := 33) d17_33 rfl ?_))
      obtain ⟨a34, e5, hf⟩ := Option.bind_eq_some_iff.mp hf
      refine go_iaload (pc := 34) (q := 3) ar_3 rfl e5 d17_34 ?_
      obtain ⟨r35, e6, hf⟩ := Option.bind_eq_some_iff.mp hf
      refine go_priv (pc := 35) (i := 0) (as := [.int a16, .int a22, .int a28, .int a34]) (rest := []) (w' := (none, [(12, r35.2)])) lk_0_156 pd_16 rfl oid_0 rfl rfl rfl rfl rfl rfl ⟨rfl, rfl, rfl, rfl, rfl⟩ d17_35 (c_k_lowerSpan a16 a22 a28 a34 s _ e6) ?_
      refine go_pop (pc := 38) d17_38 (go_iinc (pc := 39) (L' := [.val (.ref 1), .val (.int (v1 + (1 : Int32)))]) d17_39 rfl ci_1 rfl (go_goto (pc := 42) (pc' := 2) d17_42 j_42_m40 ?_))
      exact ih (v1 + (1 : Int32)) r35.2 _ hf
    · replace hf := (if_neg h1).symm.trans hf
      refine go_icY (pc := 7) (pc' := 45) d17_7 (XT.ii_ge_t h1) j_7_38 ?_
      cases hf
      exact go_ret (pc := 45) rfl d17_45
set_option maxRecDepth 65536 in
set_option maxHeartbeats 4000000 in
theorem k_scanEdges_ok  : ∀  (s : S)  (o : S), k_scanEdges s = some o → Go PP m17 0 [.val (.ref 1), .unset] [] (none, [(12, s)]) (none, (none, [(12, o)])) := by
  intro s o hf
  unfold k_scanEdges at hf
  refine go_iconst (pc := 0) d17_0 ci_0 (go_istoreN (pc := 1) (L' := [.val (.ref 1), .val (.int (0 : Int32))]) d17_1 rfl ?_)
  exact k_scanEdges_2_ok BIG (0 : Int32) s _ hf
theorem c_k_scanEdges (s : S) (o : S) (hf : k_scanEdges s = some o) : Call PP m17 [.ref 1] (none, [(12, s)]) (none, (none, [(12, o)])) := call_of_go pl_0 rfl (fun _ => rfl) (k_scanEdges_ok s   _ hf)
set_option maxRecDepth 65536 in
set_option maxHeartbeats 4000000 in
theorem k_isRule_ok  : ∀ (v1 : Int32) (s : S)  (o : Int32), k_isRule v1 s = o → Go PP m18 0 [.val (.ref 1), .val (.int v1)] [] (none, [(12, s)]) (some (.int o), (none, [(12, s)])) := by
  intro v1 s o hf
  unfold k_isRule at hf
  refine go_iloadN (pc := 0) d18_0 rfl ?_
  by_cases h1 : v1 < 0
  · replace hf := (if_pos h1).symm.trans hf
    refine go_ifY (pc := 1) (pc' := 16) d18_1 (XT.i0_lt_t h1) j_1_15 ?_
    refine go_iconst (pc := 16) d18_16 ci_0 ?_
    cases hf
    exact go_zret (pc := 17) rfl d18_17 (show (0 : Int32) = nar .boolean (0 : Int32) by decide)
  · replace hf := (if_neg h1).symm.trans hf
    refine go_ifN (pc := 1) d18_1 (XT.i0_lt_f h1) ?_
    refine go_iloadN (pc := 4) d18_4 rfl (go_aloadN (pc := 5) d18_5 rfl (go_getI (pc := 6) fs_67 hm_18 d18_6 ?_))
    by_cases h2 : v1 < (gI s 3)
    · replace hf := (if_pos h2).symm.trans hf
      refine go_icN (pc := 9) d18_9 (XT.ii_ge_f h2) ?_
      refine go_iconst (pc := 12) d18_12 ci_1 (go_goto (pc := 13) (pc' := 17) d18_13 j_13_4 ?_)
      cases hf
      exact go_zret (pc := 17) rfl d18_17 (show (1 : Int32) = nar .boolean (1 : Int32) by decide)
    · replace hf := (if_neg h2).symm.trans hf
      refine go_icY (pc := 9) (pc' := 16) d18_9 (XT.ii_ge_t h2) j_9_7 ?_
      refine go_iconst (pc := 16) d18_16 ci_0 ?_
      cases hf
      exact go_zret (pc := 17) rfl d18_17 (show (0 : Int32) = nar .boolean (0 : Int32) by decide)
theorem c_k_isRule (v1 : Int32) (s : S) : Call PP m18 [.ref 1, .int v1] (none, [(12, s)]) (some (.int (k_isRule v1 s)), (none, [(12, s)])) := call_of_go pl_0 rfl (fun h => nomatch h) (k_isRule_ok v1 s   _ rfl)
set_option maxRecDepth 65536 in
set_option maxHeartbeats 4000000 in
theorem k_isDot_ok  {s : S} : ∀ (v1 : Int32)   (o : Int32), k_isDot v1 = o → Go PP m19 0 [.val (.ref 1), .val (.int v1)] [] (none, [(12, s)]) (some (.int o), (none, [(12, s)])) := by
  intro v1 o hf
  unfold k_isDot at hf
  refine go_iloadN (pc := 0) d19_0 rfl ?_
  by_cases h1 : v1 < 0
  · replace hf := (if_pos h1).symm.trans hf
    refine go_ifY (pc := 1) (pc' := 13) d19_1 (XT.i0_lt_t h1) j_1_12 ?_
    refine go_iconst (pc := 13) d19_13 ci_0 ?_
    cases hf
    exact go_zret (pc := 14) rfl d19_14 (show (0 : Int32) = nar .boolean (0 : Int32) by decide)
  · replace hf := (if_neg h1).symm.trans hf
    refine go_ifN (pc := 1) d19_1 (XT.i0_lt_f h1) ?_
    refine go_iloadN (pc := 4) d19_4 rfl (go_iconst (pc := 5) d19_5 ci_3 ?_)
    by_cases h2 : (3 : Int32) < v1
    · replace hf := (if_pos h2).symm.trans hf
      refine go_icY (pc := 6) (pc' := 13) d19_6 (XT.ii_gt_t h2) j_6_7 ?_
      refine go_iconst (pc := 13) d19_13 ci_0 ?_
      cases hf
      exact go_zret (pc := 14) rfl d19_14 (show (0 : Int32) = nar .boolean (0 : Int32) by decide)
    · replace hf := (if_neg h2).symm.trans hf
      refine go_icN (pc := 6) d19_6 (XT.ii_gt_f h2) ?_
      refine go_iconst (pc := 9) d19_9 ci_1 (go_goto (pc := 10) (pc' := 14) d19_10 j_10_4 ?_)
      cases hf
      exact go_zret (pc := 14) rfl d19_14 (show (1 : Int32) = nar .boolean (1 : Int32) by decide)
theorem c_k_isDot (v1 : Int32) (s : S) : Call PP m19 [.ref 1, .int v1] (none, [(12, s)]) (some (.int (k_isDot v1)), (none, [(12, s)])) := call_of_go pl_0 rfl (fun h => nomatch h) (k_isDot_ok v1   _ rfl)
set_option maxRecDepth 65536 in
set_option maxHeartbeats 4000000 in
theorem k_itemSlot_ok  : ∀ (v1 : Int32) (v2 : Int32) (v3 : Int32) (v4 : Int32) (s : S)  (o : Int32), k_itemSlot v1 v2 v3 v4 s = o → Go PP m20 0 [.val (.ref 1), .val (.int v1), .val (.int v2), .val (.int v3), .val (.int v4)] [] (none, [(12, s)]) (some (.int o), (none, [(12, s)])) := by
  intro v1 v2 v3 v4 s o hf
  unfold k_itemSlot at hf
  refine go_aloadN (pc := 0) d20_0 rfl (go_iloadN (pc := 1) d20_1 rfl ?_)
  refine go_priv (pc := 2) (i := 0) (as := [.int v1]) (rest := []) (w' := (none, [(12, s)])) lk_0_123 pd_18 rfl oid_0 rfl rfl rfl rfl rfl rfl ⟨rfl, rfl, rfl, rfl, rfl⟩ d20_2 (c_k_isRule v1 s) ?_
  by_cases h1 : (k_isRule v1 s) = 0
  · replace hf := (if_pos h1).symm.trans hf
    refine go_ifY (pc := 5) (pc' := 33) d20_5 (XT.i0_eq_t h1) j_5_28 ?_
    refine go_iconst (pc := 33) d20_33 ci_m1 ?_
    cases hf
    exact go_iret (pc := 34) rfl d20_34
  · replace hf := (if_neg h1).symm.trans hf
    refine go_ifN (pc := 5) d20_5 (XT.i0_eq_f h1) ?_
    refine go_aloadN (pc := 8) d20_8 rfl (go_iloadN (pc := 9) d20_9 rfl ?_)
    refine go_priv (pc := 10) (i := 0) (as := [.int v2]) (rest := []) (w' := (none, [(12, s)])) lk_0_136 pd_19 rfl oid_0 rfl rfl rfl rfl rfl rfl ⟨rfl, rfl, rfl, rfl, rfl⟩ d20_10 (c_k_isDot v2 s) ?_
    by_cases h2 : (k_isDot v2) = 0
    · replace hf := (if_pos h2).symm.trans hf
      refine go_ifY (pc := 13) (pc' := 33) d20_13 (XT.i0_eq_t h2) j_13_20 ?_
      refine go_iconst (pc := 33) d20_33 ci_m1 ?_
      cases hf
      exact go_iret (pc := 34) rfl d20_34
    · replace hf := (if_neg h2).symm.trans hf
      refine go_ifN (pc := 13) d20_13 (XT.i0_eq_f h2) ?_
      refine go_aloadN (pc := 16) d20_16 rfl (go_iloadN (pc := 17) d20_17 rfl ?_)
      refine go_priv (pc := 18) (i := 0) (as := [.int v3]) (rest := []) (w' := (none, [(12, s)])) lk_0_111 pd_14 rfl oid_0 rfl rfl rfl rfl rfl rfl ⟨rfl, rfl, rfl, rfl, rfl⟩ d20_18 (c_k_isNode v3 s) ?_
      by_cases h3 : (k_isNode v3 s) = 0
      · replace hf := (if_pos h3).symm.trans hf
        refine go_ifY (pc := 21) (pc' := 33) d20_21 (XT.i0_eq_t h3) j_21_12 ?_
        refine go_iconst (pc := 33) d20_33 ci_m1 ?_
        cases hf
        exact go_iret (pc := 34) rfl d20_34
      · replace hf := (if_neg h3).symm.trans hf
        refine go_ifN (pc := 21) d20_21 (XT.i0_eq_f h3) ?_
        refine go_aloadN (pc := 24) d20_24 rfl (go_iload (pc := 25) d20_25 rfl ?_)
        refine go_priv (pc := 27) (i := 0) (as := [.int v4]) (rest := []) (w' := (none, [(12, s)])) lk_0_111 pd_14 rfl oid_0 rfl rfl rfl rfl rfl rfl ⟨rfl, rfl, rfl, rfl, rfl⟩ d20_27 (c_k_isNode v4 s) ?_
        by_cases h4 : (k_isNode v4 s) = 0
        · replace hf := (if_pos h4).symm.trans hf
          refine go_ifN (pc := 30) d20_30 (XT.i0_ne_f h4) ?_
          refine go_iconst (pc := 33) d20_33 ci_m1 ?_
          cases hf
          exact go_iret (pc := 34) rfl d20_34
        · replace hf := (if_neg h4).symm.trans hf
          refine go_ifY (pc := 30) (pc' := 35) d20_30 (XT.i0_ne_t h4) j_30_5 ?_
          refine go_iloadN (pc := 35) d20_35 rfl (go_iconst (pc := 36) d20_36 ci_4 (go_imul (pc := 37) d20_37 (go_iloadN (pc := 38) d20_38 rfl (go_iadd (pc := 39) d20_39 (go_bipush (pc := 40) d20_40 cb_64 (go_imul (pc := 42) d20_42 (go_iloadN (pc := 43) d20_43 rfl ?_)))))))
          refine go_bipush (pc := 44) d20_44 cb_8 (go_imul (pc := 46) d20_46 (go_iadd (pc := 47) d20_47 (go_iload (pc := 48) d20_48 rfl (go_iadd (pc := 50) d20_50 ?_))))
          cases hf
          exact go_iret (pc := 51) rfl d20_51
theorem c_k_itemSlot (v1 : Int32) (v2 : Int32) (v3 : Int32) (v4 : Int32) (s : S) : Call PP m20 [.ref 1, .int v1, .int v2, .int v3, .int v4] (none, [(12, s)]) (some (.int (k_itemSlot v1 v2 v3 v4 s)), (none, [(12, s)])) := call_of_go pl_0 rfl (fun h => nomatch h) (k_itemSlot_ok v1 v2 v3 v4 s   _ rfl)
set_option maxRecDepth 65536 in
set_option maxHeartbeats 4000000 in
theorem k_lowerItem_ok  : ∀ (v1 : Int32) (v2 : Int32) (v3 : Int32) (v4 : Int32) (v5 : Int32) (s : S)  (o : Int32 × S), k_lowerItem v1 v2 v3 v4 v5 s = some o → Go PP m21 0 [.val (.ref 1), .val (.int v1), .val (.int v2), .val (.int v3), .val (.int v4), .val (.int v5), .unset] [] (none, [(12, s)]) (some (.int o.1), (none, [(12, o.2)])) := by
  intro v1 v2 v3 v4 v5 s o hf
  unfold k_lowerItem at hf
  refine go_aloadN (pc := 0) d21_0 rfl (go_iloadN (pc := 1) d21_1 rfl (go_iloadN (pc := 2) d21_2 rfl (go_iloadN (pc := 3) d21_3 rfl (go_iload (pc := 4) d21_4 rfl ?_))))
  refine go_priv (pc := 6) (i := 0) (as := [.int v1, .int v2, .int v3, .int v4]) (rest := []) (w' := (none, [(12, s)])) lk_0_142 pd_20 rfl oid_0 rfl rfl rfl rfl rfl rfl ⟨rfl, rfl, rfl, rfl, rfl⟩ d21_6 (c_k_itemSlot v1 v2 v3 v4 s) ?_
  refine go_istore (pc := 9) (L' := [.val (.ref 1), .val (.int v1), .val (.int v2), .val (.int v3), .val (.int v4), .val (.int v5), .val (.int (k_itemSlot v1 v2 v3 v4 s))]) d21_9 rfl (go_iload (pc := 11) d21_11 rfl ?_)
  by_cases h1 : (k_itemSlot v1 v2 v3 v4 s) < 0
  · replace hf := (if_pos h1).symm.trans hf
    refine go_ifY (pc := 13) (pc' := 28) d21_13 (XT.i0_lt_t h1) j_13_15 ?_
    refine go_iconst (pc := 28) d21_28 ci_0 ?_
    cases hf
    exact go_zret (pc := 29) rfl d21_29 (show (0 : Int32) = nar .boolean (0 : Int32) by decide)
  · replace hf := (if_neg h1).symm.trans hf
    refine go_ifN (pc := 13) d21_13 (XT.i0_lt_f h1) ?_
    refine go_iload (pc := 16) d21_16 rfl (go_aloadN (pc := 18) d21_18 rfl (go_getA (pc := 19) fa_42 hm_21 d21_19 rfl (go_iload (pc := 22) d21_22 rfl ?_)))
    obtain ⟨a24, e2, hf⟩ := Option.bind_eq_some_iff.mp hf
    refine go_iaload (pc := 24) (q := 9) ar_9 rfl e2 d21_24 ?_
    by_cases h3 : v5 < a24
    · replace hf := (if_pos h3).symm.trans hf
      refine go_icY (pc := 25) (pc' := 30) d21_25 (XT.ii_lt_t h3) j_25_5 ?_
      refine go_aloadN (pc := 30) d21_30 rfl (go_getA (pc := 31) fa_42 hm_21 d21_31 rfl (go_iload (pc := 34) d21_34 rfl (go_iload (pc := 36) d21_36 rfl ?_)))
      obtain ⟨a38, e4, hf⟩ := Option.bind_eq_some_iff.mp hf
      refine go_iastore (pc := 38) (q := 9) ar_9 rfl hn_21 e4 d21_38 ?_
      refine go_iconst (pc := 39) d21_39 ci_1 ?_
      cases hf
      exact go_zret (pc := 40) rfl d21_40 (show (1 : Int32) = nar .boolean (1 : Int32) by decide)
    · replace hf := (if_neg h3).symm.trans hf
      refine go_icN (pc := 25) d21_25 (XT.ii_lt_f h3) ?_
      refine go_iconst (pc := 28) d21_28 ci_0 ?_
      cases hf
      exact go_zret (pc := 29) rfl d21_29 (show (0 : Int32) = nar .boolean (0 : Int32) by decide)
theorem c_k_lowerItem (v1 : Int32) (v2 : Int32) (v3 : Int32) (v4 : Int32) (v5 : Int32) (s : S) (o : Int32 × S) (hf : k_lowerItem v1 v2 v3 v4 v5 s = some o) : Call PP m21 [.ref 1, .int v1, .int v2, .int v3, .int v4, .int v5] (none, [(12, s)]) (some (.int o.1), (none, [(12, o.2)])) := call_of_go pl_0 rfl (fun h => nomatch h) (k_lowerItem_ok v1 v2 v3 v4 v5 s   _ hf)
def T_k_seedItems_2 (k2 : Int32 → S → Option S) : Prop := ∀ (v1 : Int32) (s : S) (x2 : Slot) (hx2 : k1 x2) (o : S), k2 v1 s = some o → Go PP m22 2 [.val (.ref 1), .val (.int v1), x2] [] (none, [(12, s)]) (none, (none, [(12, o)]))
set_option maxRecDepth 65536 in
set_option maxHeartbeats 4000000 in
theorem k_seedItems_12_ok {k2 : Int32 → S → Option S} (hk2 : T_k_seedItems_2 k2) : ∀ (n : Nat) (v1 : Int32) (v2 : Int32) (s : S)  (o : S), k_seedItems_12 k2 n v1 v2 s = some o → Go PP m22 12 [.val (.ref 1), .val (.int v1), .val (.int v2)] [] (none, [(12, s)]) (none, (none, [(12, o)])) := by
  intro n
  induction n with
  | zero => intro v1 v2 s o hf; exact nomatch hf
  | succ n ih =>
    intro v1 v2 s o hf
    unfold k_seedItems_12 at hf
    refine go_iloadN (pc := 12) d22_12 rfl (go_aloadN (pc := 13) d22_13 rfl (go_getI (pc := 14) fs_55 hm_22 d22_14 ?_))
    by_cases h1 : v2 < (gI s 1)
    · replace hf := (if_pos h1).symm.trans hf
      refine go_icN (pc := 17) d22_17 (XT.ii_ge_f h1) ?_
      refine go_aloadN (pc := 20) d22_20 rfl (go_iloadN (pc := 21) d22_21 rfl (go_iconst (pc := 22) d22_22 ci_0 (go_iloadN (pc := 23) d22_23 rfl (go_iloadN (pc := 24) d22_24 rfl (go_aloadN (pc := 25) d22_25 rfl (go_getA (pc := 26) fa_30 hm_22 d22_26 rfl (go_iloadN (pc := 29) d22_29 rfl ?_)))))))
      obtain ⟨a30, e2, hf⟩ := Option.bind_eq_some_iff.mp hf
      refine go_iaload (pc := 30) (q := 5) ar_5 rfl e2 d22_30 ?_
      obtain ⟨r31, e3, hf⟩ := Option.bind_eq_some_iff.mp hf
      refine go_priv (pc := 31) (i := 0) (as := [.int v1, .int (0 : Int32), .int v2, .int v2, .int a30]) (rest := []) (w' := (none, [(12, r31.2)])) lk_0_159 pd_21 rfl oid_0 rfl rfl rfl rfl rfl rfl ⟨rfl, rfl, rfl, rfl, rfl⟩ d22_31 (c_k_lowerItem v1 (0 : Int32) v2 v2 a30 s _ e3) ?_
      refine go_pop (pc := 34) d22_34 (go_iinc (pc := 35) (L' := [.val (.ref 1), .val (.int v1), .val (.int (v2 + (1 : Int32)))]) d22_35 rfl ci_1 rfl (go_goto (pc := 38) (pc' := 12) d22_38 j_38_m26 ?_))
      exact ih v1 (v2 + (1 : Int32)) r31.2 _ hf
    · replace hf := (if_neg h1).symm.trans hf
      refine go_icY (pc := 17) (pc' := 41) d22_17 (XT.ii_ge_t h1) j_17_24 ?_
      refine go_iinc (pc := 41) (L' := [.val (.ref 1), .val (.int (v1 + (1 : Int32))), .val (.int v2)]) d22_41 rfl ci_1 rfl (go_goto (pc := 44) (pc' := 2) d22_44 j_44_m42 ?_)
      exact hk2 (v1 + (1 : Int32)) s (.val (.int v2)) (Or.inr ⟨_, rfl, rfl⟩) _ hf
set_option maxRecDepth 65536 in
set_option maxHeartbeats 4000000 in
theorem k_seedItems_2_ok  : ∀ (n : Nat) (v1 : Int32) (s : S) (x2 : Slot) (hx2 : k1 x2) (o : S), k_seedItems_2 n v1 s = some o → Go PP m22 2 [.val (.ref 1), .val (.int v1), x2] [] (none, [(12, s)]) (none, (none, [(12, o)])) := by
  intro n
  induction n with
  | zero => intro v1 s x2 hx2 o hf; exact nomatch hf
  | succ n ih =>
    intro v1 s x2 hx2 o hf
    unfold k_seedItems_2 at hf
    refine go_iloadN (pc := 2) d22_2 rfl (go_aloadN (pc := 3) d22_3 rfl (go_getI (pc := 4) fs_67 hm_22 d22_4 ?_))
    by_cases h1 : v1 < (gI s 3)
    · replace hf := (if_pos h1).symm.trans hf
      refine go_icN (pc := 7) d22_7 (XT.ii_ge_f h1) ?_
      refine go_iconst (pc := 10) d22_10 ci_0 (go_istoreN (pc := 11) (L' := [.val (.ref 1), .val (.int v1), .val (.int (0 : Int32))]) d22_11 (stx rfl hx2 rfl) ?_)
      exact k_seedItems_12_ok ih BIG v1 (0 : Int32) s _ hf
    · replace hf := (if_neg h1).symm.trans hf
      refine go_icY (pc := 7) (pc' := 47) d22_7 (XT.ii_ge_t h1) j_7_40 ?_
      cases hf
      exact go_ret (pc := 47) rfl d22_47
set_option maxRecDepth 65536 in
set_option maxHeartbeats 4000000 in
theorem k_seedItems_ok  : ∀  (s : S)  (o : S), k_seedItems s = some o → Go PP m22 0 [.val (.ref 1), .unset, .unset] [] (none, [(12, s)]) (none, (none, [(12, o)])) := by
  intro s o hf
  unfold k_seedItems at hf
  refine go_iconst (pc := 0) d22_0 ci_0 (go_istoreN (pc := 1) (L' := [.val (.ref 1), .val (.int (0 : Int32)), .unset]) d22_1 rfl ?_)
  exact k_seedItems_2_ok BIG (0 : Int32) s .unset (Or.inl rfl) _ hf
theorem c_k_seedItems (s : S) (o : S) (hf : k_seedItems s = some o) : Call PP m22 [.ref 1] (none, [(12, s)]) (none, (none, [(12, o)])) := call_of_go pl_0 rfl (fun _ => rfl) (k_seedItems_ok s   _ hf)
set_option maxRecDepth 65536 in
set_option maxHeartbeats 4000000 in
theorem k_symbolAt_ok  : ∀ (v1 : Int32) (v2 : Int32) (s : S)  (o : Int32), k_symbolAt v1 v2 s = some o → Go PP m23 0 [.val (.ref 1), .val (.int v1), .val (.int v2)] [] (none, [(12, s)]) (some (.int o), (none, [(12, s)])) := by
  intro v1 v2 s o hf
  unfold k_symbolAt at hf
  refine go_iloadN (pc := 0) d23_0 rfl ?_
  by_cases h1 : v1 < 0
  · replace hf := (if_pos h1).symm.trans hf
    refine go_ifY (pc := 1) (pc' := 19) d23_1 (XT.i0_lt_t h1) j_1_18 ?_
    refine go_iconst (pc := 19) d23_19 ci_0 ?_
    cases hf
    exact go_iret (pc := 20) rfl d23_20
  · replace hf := (if_neg h1).symm.trans hf
    refine go_ifN (pc := 1) d23_1 (XT.i0_lt_f h1) ?_
    refine go_iloadN (pc := 4) d23_4 rfl (go_bipush (pc := 5) d23_5 cb_12 ?_)
    by_cases h2 : v1 < (12 : Int32)
    · replace hf := (if_pos h2).symm.trans hf
      refine go_icN (pc := 7) d23_7 (XT.ii_ge_f h2) ?_
      refine go_iloadN (pc := 10) d23_10 rfl ?_
      by_cases h3 : v2 < 0
      · replace hf := (if_pos h3).symm.trans hf
        refine go_ifY (pc := 11) (pc' := 19) d23_11 (XT.i0_lt_t h3) j_11_8 ?_
        refine go_iconst (pc := 19) d23_19 ci_0 ?_
        cases hf
        exact go_iret (pc := 20) rfl d23_20
      · replace hf := (if_neg h3).symm.trans hf
        refine go_ifN (pc := 11) d23_11 (XT.i0_lt_f h3) ?_
        refine go_iloadN (pc := 14) d23_14 rfl (go_iconst (pc := 15) d23_15 ci_3 ?_)
        by_cases h4 : v2 < (3 : Int32)
        · replace hf := (if_pos h4).symm.trans hf
          refine go_icY (pc := 16) (pc' := 21) d23_16 (XT.ii_lt_t h4) j_16_5 ?_
          refine go_aloadN (pc := 21) d23_21 rfl (go_getA (pc := 22) fa_36 hm_23 d23_22 rfl (go_iloadN (pc := 25) d23_25 rfl (go_iconst (pc := 26) d23_26 ci_3 (go_imul (pc := 27) d23_27 (go_iloadN (pc := 28) d23_28 rfl (go_iadd (pc := 29) d23_29 ?_))))))
          obtain ⟨a30, e5, hf⟩ := Option.bind_eq_some_iff.mp hf
          refine go_iaload (pc := 30) (q := 7) ar_7 rfl e5 d23_30 ?_
          cases hf
          exact go_iret (pc := 31) rfl d23_31
        · replace hf := (if_neg h4).symm.trans hf
          refine go_icN (pc := 16) d23_16 (XT.ii_lt_f h4) ?_
          refine go_iconst (pc := 19) d23_19 ci_0 ?_
          cases hf
          exact go_iret (pc := 20) rfl d23_20
    · replace hf := (if_neg h2).symm.trans hf
      refine go_icY (pc := 7) (pc' := 19) d23_7 (XT.ii_ge_t h2) j_7_12 ?_
      refine go_iconst (pc := 19) d23_19 ci_0 ?_
      cases hf
      exact go_iret (pc := 20) rfl d23_20
theorem c_k_symbolAt (v1 : Int32) (v2 : Int32) (s : S) (o : Int32) (hf : k_symbolAt v1 v2 s = some o) : Call PP m23 [.ref 1, .int v1, .int v2] (none, [(12, s)]) (some (.int o), (none, [(12, s)])) := call_of_go pl_0 rfl (fun h => nomatch h) (k_symbolAt_ok v1 v2 s   _ hf)
set_option maxRecDepth 65536 in
set_option maxHeartbeats 4000000 in
theorem k_getItem_ok  : ∀ (v1 : Int32) (v2 : Int32) (v3 : Int32) (v4 : Int32) (s : S)  (o : Int32), k_getItem v1 v2 v3 v4 s = some o → Go PP m24 0 [.val (.ref 1), .val (.int v1), .val (.int v2), .val (.int v3), .val (.int v4), .unset] [] (none, [(12, s)]) (some (.int o), (none, [(12, s)])) := by
  intro v1 v2 v3 v4 s o hf
  unfold k_getItem at hf
  refine go_aloadN (pc := 0) d24_0 rfl (go_iloadN (pc := 1) d24_1 rfl (go_iloadN (pc := 2) d24_2 rfl (go_iloadN (pc := 3) d24_3 rfl (go_iload (pc := 4) d24_4 rfl ?_))))
  refine go_priv (pc := 6) (i := 0) (as := [.int v1, .int v2, .int v3, .int v4]) (rest := []) (w' := (none, [(12, s)])) lk_0_142 pd_20 rfl oid_0 rfl rfl rfl rfl rfl rfl ⟨rfl, rfl, rfl, rfl, rfl⟩ d24_6 (c_k_itemSlot v1 v2 v3 v4 s) ?_
  refine go_istore (pc := 9) (L' := [.val (.ref 1), .val (.int v1), .val (.int v2), .val (.int v3), .val (.int v4), .val (.int (k_itemSlot v1 v2 v3 v4 s))]) d24_9 rfl (go_iload (pc := 11) d24_11 rfl ?_)
  by_cases h1 : (k_itemSlot v1 v2 v3 v4 s) < 0
  · replace hf := (if_pos h1).symm.trans hf
    refine go_ifN (pc := 13) d24_13 (XT.i0_ge_f h1) ?_
    refine go_aloadN (pc := 16) d24_16 rfl (go_getI (pc := 17) fs_8 hm_24 d24_17 ?_)
    cases hf
    exact go_iret (pc := 20) rfl d24_20
  · replace hf := (if_neg h1).symm.trans hf
    refine go_ifY (pc := 13) (pc' := 21) d24_13 (XT.i0_ge_t h1) j_13_8 ?_
    refine go_aloadN (pc := 21) d24_21 rfl (go_getA (pc := 22) fa_42 hm_24 d24_22 rfl (go_iload (pc := 25) d24_25 rfl ?_))
    obtain ⟨a27, e2, hf⟩ := Option.bind_eq_some_iff.mp hf
    refine go_iaload (pc := 27) (q := 9) ar_9 rfl e2 d24_27 ?_
    cases hf
    exact go_iret (pc := 28) rfl d24_28
theorem c_k_getItem (v1 : Int32) (v2 : Int32) (v3 : Int32) (v4 : Int32) (s : S) (o : Int32) (hf : k_getItem v1 v2 v3 v4 s = some o) : Call PP m24 [.ref 1, .int v1, .int v2, .int v3, .int v4] (none, [(12, s)]) (some (.int o), (none, [(12, s)])) := call_of_go pl_0 rfl (fun h => nomatch h) (k_getItem_ok v1 v2 v3 v4 s   _ hf)
set_option maxRecDepth 65536 in
set_option maxHeartbeats 4000000 in
theorem k_getSpan_ok  : ∀ (v1 : Int32) (v2 : Int32) (v3 : Int32) (s : S)  (o : Int32), k_getSpan v1 v2 v3 s = some o → Go PP m25 0 [.val (.ref 1), .val (.int v1), .val (.int v2), .val (.int v3), .unset] [] (none, [(12, s)]) (some (.int o), (none, [(12, s)])) := by
  intro v1 v2 v3 s o hf
  unfold k_getSpan at hf
  refine go_aloadN (pc := 0) d25_0 rfl (go_iloadN (pc := 1) d25_1 rfl (go_iloadN (pc := 2) d25_2 rfl (go_iloadN (pc := 3) d25_3 rfl ?_)))
  refine go_priv (pc := 4) (i := 0) (as := [.int v1, .int v2, .int v3]) (rest := []) (w' := (none, [(12, s)])) lk_0_139 pd_15 rfl oid_0 rfl rfl rfl rfl rfl rfl ⟨rfl, rfl, rfl, rfl, rfl⟩ d25_4 (c_k_spanSlot v1 v2 v3 s) ?_
  refine go_istore (pc := 7) (L' := [.val (.ref 1), .val (.int v1), .val (.int v2), .val (.int v3), .val (.int (k_spanSlot v1 v2 v3 s))]) d25_7 rfl (go_iload (pc := 9) d25_9 rfl ?_)
  by_cases h1 : (k_spanSlot v1 v2 v3 s) < 0
  · replace hf := (if_pos h1).symm.trans hf
    refine go_ifN (pc := 11) d25_11 (XT.i0_ge_f h1) ?_
    refine go_aloadN (pc := 14) d25_14 rfl (go_getI (pc := 15) fs_8 hm_25 d25_15 ?_)
    cases hf
    exact go_iret (pc := 18) rfl d25_18
  · replace hf := (if_neg h1).symm.trans hf
    refine go_ifY (pc := 11) (pc' := 19) d25_11 (XT.i0_ge_t h1) j_11_8 ?_
    refine go_aloadN (pc := 19) d25_19 rfl (go_getA (pc := 20) fa_39 hm_25 d25_20 rfl (go_iload (pc := 23) d25_23 rfl ?_))
    obtain ⟨a25, e2, hf⟩ := Option.bind_eq_some_iff.mp hf
    refine go_iaload (pc := 25) (q := 8) ar_8 rfl e2 d25_25 ?_
    cases hf
    exact go_iret (pc := 26) rfl d25_26
theorem c_k_getSpan (v1 : Int32) (v2 : Int32) (v3 : Int32) (s : S) (o : Int32) (hf : k_getSpan v1 v2 v3 s = some o) : Call PP m25 [.ref 1, .int v1, .int v2, .int v3] (none, [(12, s)]) (some (.int o), (none, [(12, s)])) := call_of_go pl_0 rfl (fun h => nomatch h) (k_getSpan_ok v1 v2 v3 s   _ hf)
set_option maxRecDepth 65536 in
set_option maxHeartbeats 4000000 in
theorem k_plus_ok  : ∀ (v1 : Int32) (v2 : Int32) (s : S)  (o : Int32), k_plus v1 v2 s = o → Go PP m26 0 [.val (.ref 1), .val (.int v1), .val (.int v2), .unset] [] (none, [(12, s)]) (some (.int o), (none, [(12, s)])) := by
  intro v1 v2 s o hf
  unfold k_plus at hf
  refine go_iloadN (pc := 0) d26_0 rfl (go_aloadN (pc := 1) d26_1 rfl (go_getI (pc := 2) fs_8 hm_26 d26_2 ?_))
  by_cases h1 : v1 < (gI s 0)
  · replace hf := (if_pos h1).symm.trans hf
    refine go_icN (pc := 5) d26_5 (XT.ii_ge_f h1) ?_
    refine go_iloadN (pc := 8) d26_8 rfl (go_aloadN (pc := 9) d26_9 rfl (go_getI (pc := 10) fs_8 hm_26 d26_10 ?_))
    by_cases h2 : v2 < (gI s 0)
    · replace hf := (if_pos h2).symm.trans hf
      refine go_icY (pc := 13) (pc' := 21) d26_13 (XT.ii_lt_t h2) j_13_8 ?_
      refine go_iloadN (pc := 21) d26_21 rfl (go_iloadN (pc := 22) d26_22 rfl (go_iadd (pc := 23) d26_23 (go_istoreN (pc := 24) (L' := [.val (.ref 1), .val (.int v1), .val (.int v2), .val (.int (v1 + v2))]) d26_24 rfl (go_iloadN (pc := 25) d26_25 rfl (go_aloadN (pc := 26) d26_26 rfl (go_getI (pc := 27) fs_8 hm_26 d26_27 ?_))))))
      by_cases h3 : (v1 + v2) < (gI s 0)
      · replace hf := (if_pos h3).symm.trans hf
        refine go_icY (pc := 30) (pc' := 38) d26_30 (XT.ii_lt_t h3) j_30_8 ?_
        refine go_iloadN (pc := 38) d26_38 rfl ?_
        cases hf
        exact go_iret (pc := 39) rfl d26_39
      · replace hf := (if_neg h3).symm.trans hf
        refine go_icN (pc := 30) d26_30 (XT.ii_lt_f h3) ?_
        refine go_aloadN (pc := 33) d26_33 rfl (go_getI (pc := 34) fs_8 hm_26 d26_34 ?_)
        cases hf
        exact go_iret (pc := 37) rfl d26_37
    · replace hf := (if_neg h2).symm.trans hf
      refine go_icN (pc := 13) d26_13 (XT.ii_lt_f h2) ?_
      refine go_aloadN (pc := 16) d26_16 rfl (go_getI (pc := 17) fs_8 hm_26 d26_17 ?_)
      cases hf
      exact go_iret (pc := 20) rfl d26_20
  · replace hf := (if_neg h1).symm.trans hf
    refine go_icY (pc := 5) (pc' := 16) d26_5 (XT.ii_ge_t h1) j_5_11 ?_
    refine go_aloadN (pc := 16) d26_16 rfl (go_getI (pc := 17) fs_8 hm_26 d26_17 ?_)
    cases hf
    exact go_iret (pc := 20) rfl d26_20
theorem c_k_plus (v1 : Int32) (v2 : Int32) (s : S) : Call PP m26 [.ref 1, .int v1, .int v2] (none, [(12, s)]) (some (.int (k_plus v1 v2 s)), (none, [(12, s)])) := call_of_go pl_0 rfl (fun h => nomatch h) (k_plus_ok v1 v2 s   _ rfl)
set_option maxRecDepth 65536 in
set_option maxHeartbeats 4000000 in
theorem k_bestAdvance_17_ok  : ∀ (n : Nat) (v1 : Int32) (v2 : Int32) (v3 : Int32) (v4 : Int32) (v5 : Int32) (v6 : Int32) (v7 : Int32) (s : S) (x8 : Slot) (x9 : Slot) (x10 : Slot) (hx8 : k1 x8) (hx9 : k1 x9) (hx10 : k1 x10) (o : Int32), k_bestAdvance_17 n v1 v2 v3 v4 v5 v6 v7 s = some o → Go PP m27 17 [.val (.ref 1), .val (.int v1), .val (.int v2), .val (.int v3), .val (.int v4), .val (.int v5), .val (.int v6), .val (.int v7), x8, x9, x10] [] (none, [(12, s)]) (some (.int o), (none, [(12, s)])) := by
  intro n
  induction n with
  | zero => intro v1 v2 v3 v4 v5 v6 v7 s x8 x9 x10 hx8 hx9 hx10 o hf; exact nomatch hf
  | succ n ih =>
    intro v1 v2 v3 v4 v5 v6 v7 s x8 x9 x10 hx8 hx9 hx10 o hf
    unfold k_bestAdvance_17 at hf
    refine go_iload (pc := 17) d27_17 rfl (go_iload (pc := 19) d27_19 rfl ?_)
    by_cases h1 : v4 < v7
    · replace hf := (if_pos h1).symm.trans hf
      refine go_icY (pc := 21) (pc' := 74) d27_21 (XT.ii_gt_t h1) j_21_53 ?_
      refine go_iload (pc := 74) d27_74 rfl ?_
      cases hf
      exact go_iret (pc := 76) rfl d27_76
    · replace hf := (if_neg h1).symm.trans hf
      refine go_icN (pc := 21) d27_21 (XT.ii_gt_f h1) ?_
      refine go_aloadN (pc := 24) d27_24 rfl (go_iloadN (pc := 25) d27_25 rfl (go_iloadN (pc := 26) d27_26 rfl (go_iloadN (pc := 27) d27_27 rfl (go_iload (pc := 28) d27_28 rfl ?_))))
      obtain ⟨r30, e2, hf⟩ := Option.bind_eq_some_iff.mp hf
      refine go_priv (pc := 30) (i := 0) (as := [.int v1, .int v2, .int v3, .int v7]) (rest := []) (w' := (none, [(12, s)])) lk_0_176 pd_24 rfl oid_0 rfl rfl rfl rfl rfl rfl ⟨rfl, rfl, rfl, rfl, rfl⟩ d27_30 (c_k_getItem v1 v2 v3 v7 s _ e2) ?_
      refine go_istore (pc := 33) (L' := [.val (.ref 1), .val (.int v1), .val (.int v2), .val (.int v3), .val (.int v4), .val (.int v5), .val (.int v6), .val (.int v7), .val (.int r30), x9, x10]) d27_33 (stx rfl hx8 rfl) (go_aloadN (pc := 35) d27_35 rfl (go_iload (pc := 36) d27_36 rfl (go_iload (pc := 38) d27_38 rfl (go_iload (pc := 40) d27_40 rfl ?_))))
      obtain ⟨r42, e3, hf⟩ := Option.bind_eq_some_iff.mp hf
      refine go_priv (pc := 42) (i := 0) (as := [.int v5, .int v7, .int v4]) (rest := []) (w' := (none, [(12, s)])) lk_0_91 pd_25 rfl oid_0 rfl rfl rfl rfl rfl rfl ⟨rfl, rfl, rfl, rfl, rfl⟩ d27_42 (c_k_getSpan v5 v7 v4 s _ e3) ?_
      refine go_istore (pc := 45) (L' := [.val (.ref 1), .val (.int v1), .val (.int v2), .val (.int v3), .val (.int v4), .val (.int v5), .val (.int v6), .val (.int v7), .val (.int r30), .val (.int r42), x10]) d27_45 (stx rfl hx9 rfl) (go_aloadN (pc := 47) d27_47 rfl (go_iload (pc := 48) d27_48 rfl (go_iload (pc := 50) d27_50 rfl ?_)))
      refine go_priv (pc := 52) (i := 0) (as := [.int r30, .int r42]) (rest := []) (w' := (none, [(12, s)])) lk_0_120 pd_26 rfl oid_0 rfl rfl rfl rfl rfl rfl ⟨rfl, rfl, rfl, rfl, rfl⟩ d27_52 (c_k_plus r30 r42 s) ?_
      refine go_istore (pc := 55) (L' := [.val (.ref 1), .val (.int v1), .val (.int v2), .val (.int v3), .val (.int v4), .val (.int v5), .val (.int v6), .val (.int v7), .val (.int r30), .val (.int r42), .val (.int (k_plus r30 r42 s))]) d27_55 (stx rfl hx10 rfl) (go_iload (pc := 57) d27_57 rfl (go_iload (pc := 59) d27_59 rfl ?_))
      by_cases h4 : (k_plus r30 r42 s) < v6
      · refine go_icN (pc := 61) d27_61 (XT.ii_ge_f h4) ?_
        refine go_iload (pc := 64) d27_64 rfl (go_istore (pc := 66) (L' := [.val (.ref 1), .val (.int v1), .val (.int v2), .val (.int v3), .val (.int v4), .val (.int v5), .val (.int (k_plus r30 r42 s)), .val (.int v7), .val (.int r30), .val (.int r42), .val (.int (k_plus r30 r42 s))]) d27_66 rfl (go_iinc (pc := 68) (L' := [.val (.ref 1), .val (.int v1), .val (.int v2), .val (.int v3), .val (.int v4), .val (.int v5), .val (.int (k_plus r30 r42 s)), .val (.int (v7 + (1 : Int32))), .val (.int r30), .val (.int r42), .val (.int (k_plus r30 r42 s))]) d27_68 rfl ci_1 rfl (go_goto (pc := 71) (pc' := 17) d27_71 j_71_m54 ?_)))
        exact ih v1 v2 v3 v4 v5 (k_plus r30 r42 s) (v7 + (1 : Int32)) s (.val (.int r30)) (.val (.int r42)) (.val (.int (k_plus r30 r42 s))) (Or.inr ⟨_, rfl, rfl⟩) (Or.inr ⟨_, rfl, rfl⟩) (Or.inr ⟨_, rfl, rfl⟩) _ (by simpa only [if_pos h4] using hf)
      · refine go_icY (pc := 61) (pc' := 68) d27_61 (XT.ii_ge_t h4) j_61_7 ?_
        refine go_iinc (pc := 68) (L' := [.val (.ref 1), .val (.int v1), .val (.int v2), .val (.int v3), .val (.int v4), .val (.int v5), .val (.int v6), .val (.int (v7 + (1 : Int32))), .val (.int r30), .val (.int r42), .val (.int (k_plus r30 r42 s))]) d27_68 rfl ci_1 rfl (go_goto (pc := 71) (pc' := 17) d27_71 j_71_m54 ?_)
        exact ih v1 v2 v3 v4 v5 v6 (v7 + (1 : Int32)) s (.val (.int r30)) (.val (.int r42)) (.val (.int (k_plus r30 r42 s))) (Or.inr ⟨_, rfl, rfl⟩) (Or.inr ⟨_, rfl, rfl⟩) (Or.inr ⟨_, rfl, rfl⟩) _ (by simpa only [if_neg h4] using hf)
set_option maxRecDepth 65536 in
set_option maxHeartbeats 4000000 in
theorem k_bestAdvance_ok  : ∀ (v1 : Int32) (v2 : Int32) (v3 : Int32) (v4 : Int32) (s : S)  (o : Int32), k_bestAdvance v1 v2 v3 v4 s = some o → Go PP m27 0 [.val (.ref 1), .val (.int v1), .val (.int v2), .val (.int v3), .val (.int v4), .unset, .unset, .unset, .unset, .unset, .unset] [] (none, [(12, s)]) (some (.int o), (none, [(12, s)])) := by
  intro v1 v2 v3 v4 s o hf
  unfold k_bestAdvance at hf
  refine go_aloadN (pc := 0) d27_0 rfl (go_iloadN (pc := 1) d27_1 rfl (go_iloadN (pc := 2) d27_2 rfl ?_))
  obtain ⟨r3, e1, hf⟩ := Option.bind_eq_some_iff.mp hf
  refine go_priv (pc := 3) (i := 0) (as := [.int v1, .int v2]) (rest := []) (w' := (none, [(12, s)])) lk_0_84 pd_23 rfl oid_0 rfl rfl rfl rfl rfl rfl ⟨rfl, rfl, rfl, rfl, rfl⟩ d27_3 (c_k_symbolAt v1 v2 s _ e1) ?_
  refine go_istore (pc := 6) (L' := [.val (.ref 1), .val (.int v1), .val (.int v2), .val (.int v3), .val (.int v4), .val (.int r3), .unset, .unset, .unset, .unset, .unset]) d27_6 rfl (go_aloadN (pc := 8) d27_8 rfl (go_getI (pc := 9) fs_8 hm_27 d27_9 (go_istore (pc := 12) (L' := [.val (.ref 1), .val (.int v1), .val (.int v2), .val (.int v3), .val (.int v4), .val (.int r3), .val (.int (gI s 0)), .unset, .unset, .unset, .unset]) d27_12 rfl (go_iloadN (pc := 14) d27_14 rfl (go_istore (pc := 15) (L' := [.val (.ref 1), .val (.int v1), .val (.int v2), .val (.int v3), .val (.int v4), .val (.int r3), .val (.int (gI s 0)), .val (.int v3), .unset, .unset, .unset]) d27_15 rfl ?_)))))
  exact k_bestAdvance_17_ok BIG v1 v2 v3 v4 r3 (gI s 0) v3 s .unset .unset .unset (Or.inl rfl) (Or.inl rfl) (Or.inl rfl) _ hf
theorem c_k_bestAdvance (v1 : Int32) (v2 : Int32) (v3 : Int32) (v4 : Int32) (s : S) (o : Int32) (hf : k_bestAdvance v1 v2 v3 v4 s = some o) : Call PP m27 [.ref 1, .int v1, .int v2, .int v3, .int v4] (none, [(12, s)]) (some (.int o), (none, [(12, s)])) := call_of_go pl_0 rfl (fun h => nomatch h) (k_bestAdvance_ok v1 v2 v3 v4 s   _ hf)
set_option maxRecDepth 65536 in
set_option maxHeartbeats 4000000 in
theorem k_advanceItems_14_ok  : ∀ (n : Nat) (v1 : Int32) (v2 : Int32) (v3 : Int32) (v4 : Int32) (v5 : Int32) (v6 : Int32) (s : S) (x7 : Slot) (hx7 : k1 x7) (o : Int32 × S), k_advanceItems_14 n v1 v2 v3 v4 v5 v6 s = some o → Go PP m28 14 [.val (.ref 1), .val (.int v1), .val (.int v2), .val (.int v3), .val (.int v4), .val (.int v5), .val (.int v6), x7] [] (none, [(12, s)]) (some (.int o.1), (none, [(12, o.2)])) := by
  intro n
  induction n with
  | zero => intro v1 v2 v3 v4 v5 v6 s x7 hx7 o hf; exact nomatch hf
  | succ n ih =>
    intro v1 v2 v3 v4 v5 v6 s x7 hx7 o hf
    unfold k_advanceItems_14 at hf
    refine go_iload (pc := 14) d28_14 rfl (go_iload (pc := 16) d28_16 rfl ?_)
    by_cases h1 : v6 < v5
    · replace hf := (if_pos h1).symm.trans hf
      refine go_icN (pc := 18) d28_18 (XT.ii_ge_f h1) ?_
      refine go_aloadN (pc := 21) d28_21 rfl (go_iloadN (pc := 22) d28_22 rfl (go_iload (pc := 23) d28_23 rfl (go_iloadN (pc := 25) d28_25 rfl (go_iloadN (pc := 26) d28_26 rfl ?_))))
      obtain ⟨r27, e2, hf⟩ := Option.bind_eq_some_iff.mp hf
      refine go_priv (pc := 27) (i := 0) (as := [.int v1, .int v6, .int v2, .int v3]) (rest := []) (w' := (none, [(12, s)])) lk_0_173 pd_27 rfl oid_0 rfl rfl rfl rfl rfl rfl ⟨rfl, rfl, rfl, rfl, rfl⟩ d28_27 (c_k_bestAdvance v1 v6 v2 v3 s _ e2) ?_
      refine go_istore (pc := 30) (L' := [.val (.ref 1), .val (.int v1), .val (.int v2), .val (.int v3), .val (.int v4), .val (.int v5), .val (.int v6), .val (.int r27)]) d28_30 (stx rfl hx7 rfl) (go_aloadN (pc := 32) d28_32 rfl (go_iloadN (pc := 33) d28_33 rfl (go_iload (pc := 34) d28_34 rfl (go_iconst (pc := 36) d28_36 ci_1 (go_iadd (pc := 37) d28_37 (go_iloadN (pc := 38) d28_38 rfl (go_iloadN (pc := 39) d28_39 rfl ?_)))))))
      refine go_iload (pc := 40) d28_40 rfl ?_
      obtain ⟨r42, e3, hf⟩ := Option.bind_eq_some_iff.mp hf
      refine go_priv (pc := 42) (i := 0) (as := [.int v1, .int (v6 + (1 : Int32)), .int v2, .int v3, .int r27]) (rest := []) (w' := (none, [(12, r42.2)])) lk_0_159 pd_21 rfl oid_0 rfl rfl rfl rfl rfl rfl ⟨rfl, rfl, rfl, rfl, rfl⟩ d28_42 (c_k_lowerItem v1 (v6 + (1 : Int32)) v2 v3 r27 s _ e3) ?_
      by_cases h4 : r42.1 = 0
      · refine go_ifY (pc := 45) (pc' := 51) d28_45 (XT.i0_eq_t h4) j_45_6 ?_
        refine go_iinc (pc := 51) (L' := [.val (.ref 1), .val (.int v1), .val (.int v2), .val (.int v3), .val (.int v4), .val (.int v5), .val (.int (v6 + (1 : Int32))), .val (.int r27)]) d28_51 rfl ci_1 rfl (go_goto (pc := 54) (pc' := 14) d28_54 j_54_m40 ?_)
        exact ih v1 v2 v3 v4 v5 (v6 + (1 : Int32)) r42.2 (.val (.int r27)) (Or.inr ⟨_, rfl, rfl⟩) _ (by simpa only [if_pos h4] using hf)
      · refine go_ifN (pc := 45) d28_45 (XT.i0_eq_f h4) ?_
        refine go_iconst (pc := 48) d28_48 ci_1 (go_istore (pc := 49) (L' := [.val (.ref 1), .val (.int v1), .val (.int v2), .val (.int v3), .val (.int (1 : Int32)), .val (.int v5), .val (.int v6), .val (.int r27)]) d28_49 rfl (go_iinc (pc := 51) (L' := [.val (.ref 1), .val (.int v1), .val (.int v2), .val (.int v3), .val (.int (1 : Int32)), .val (.int v5), .val (.int (v6 + (1 : Int32))), .val (.int r27)]) d28_51 rfl ci_1 rfl (go_goto (pc := 54) (pc' := 14) d28_54 j_54_m40 ?_)))
        exact ih v1 v2 v3 (1 : Int32) v5 (v6 + (1 : Int32)) r42.2 (.val (.int r27)) (Or.inr ⟨_, rfl, rfl⟩) _ (by simpa only [if_neg h4] using hf)
    · replace hf := (if_neg h1).symm.trans hf
      refine go_icY (pc := 18) (pc' := 57) d28_18 (XT.ii_ge_t h1) j_18_39 ?_
      refine go_iload (pc := 57) d28_57 rfl ?_
      cases hf
      exact go_zret (pc := 59) rfl d28_59 rfl
set_option maxRecDepth 65536 in
set_option maxHeartbeats 4000000 in
theorem k_advanceItems_ok  : ∀ (v1 : Int32) (v2 : Int32) (v3 : Int32) (s : S)  (o : Int32 × S), k_advanceItems v1 v2 v3 s = some o → Go PP m28 0 [.val (.ref 1), .val (.int v1), .val (.int v2), .val (.int v3), .unset, .unset, .unset, .unset] [] (none, [(12, s)]) (some (.int o.1), (none, [(12, o.2)])) := by
  intro v1 v2 v3 s o hf
  unfold k_advanceItems at hf
  refine go_iconst (pc := 0) d28_0 ci_0 (go_istore (pc := 1) (L' := [.val (.ref 1), .val (.int v1), .val (.int v2), .val (.int v3), .val (.int (0 : Int32)), .unset, .unset, .unset]) d28_1 rfl (go_aloadN (pc := 3) d28_3 rfl (go_getA (pc := 4) fa_33 hm_28 d28_4 rfl (go_iloadN (pc := 7) d28_7 rfl ?_))))
  obtain ⟨a8, e1, hf⟩ := Option.bind_eq_some_iff.mp hf
  refine go_iaload (pc := 8) (q := 6) ar_6 rfl e1 d28_8 ?_
  refine go_istore (pc := 9) (L' := [.val (.ref 1), .val (.int v1), .val (.int v2), .val (.int v3), .val (.int (0 : Int32)), .val (.int a8), .unset, .unset]) d28_9 rfl (go_iconst (pc := 11) d28_11 ci_0 (go_istore (pc := 12) (L' := [.val (.ref 1), .val (.int v1), .val (.int v2), .val (.int v3), .val (.int (0 : Int32)), .val (.int a8), .val (.int (0 : Int32)), .unset]) d28_12 rfl ?_))
  exact k_advanceItems_14_ok BIG v1 v2 v3 (0 : Int32) a8 (0 : Int32) s .unset (Or.inl rfl) _ hf
theorem c_k_advanceItems (v1 : Int32) (v2 : Int32) (v3 : Int32) (s : S) (o : Int32 × S) (hf : k_advanceItems v1 v2 v3 s = some o) : Call PP m28 [.ref 1, .int v1, .int v2, .int v3] (none, [(12, s)]) (some (.int o.1), (none, [(12, o.2)])) := call_of_go pl_0 rfl (fun h => nomatch h) (k_advanceItems_ok v1 v2 v3 s   _ hf)
set_option maxRecDepth 65536 in
set_option maxHeartbeats 4000000 in
theorem k_headCode_ok  : ∀ (v1 : Int32) (s : S)  (o : Int32), k_headCode v1 s = some o → Go PP m29 0 [.val (.ref 1), .val (.int v1)] [] (none, [(12, s)]) (some (.int o), (none, [(12, s)])) := by
  intro v1 s o hf
  unfold k_headCode at hf
  refine go_iloadN (pc := 0) d29_0 rfl ?_
  by_cases h1 : v1 < 0
  · replace hf := (if_pos h1).symm.trans hf
    refine go_ifY (pc := 1) (pc' := 10) d29_1 (XT.i0_lt_t h1) j_1_9 ?_
    refine go_bipush (pc := 10) d29_10 cb_8 ?_
    cases hf
    exact go_iret (pc := 12) rfl d29_12
  · replace hf := (if_neg h1).symm.trans hf
    refine go_ifN (pc := 1) d29_1 (XT.i0_lt_f h1) ?_
    refine go_iloadN (pc := 4) d29_4 rfl (go_bipush (pc := 5) d29_5 cb_12 ?_)
    by_cases h2 : v1 < (12 : Int32)
    · replace hf := (if_pos h2).symm.trans hf
      refine go_icY (pc := 7) (pc' := 13) d29_7 (XT.ii_lt_t h2) j_7_6 ?_
      refine go_bipush (pc := 13) d29_13 cb_8 (go_aloadN (pc := 15) d29_15 rfl (go_getA (pc := 16) fa_27 hm_29 d29_16 rfl (go_iloadN (pc := 19) d29_19 rfl ?_)))
      obtain ⟨a20, e3, hf⟩ := Option.bind_eq_some_iff.mp hf
      refine go_iaload (pc := 20) (q := 4) ar_4 rfl e3 d29_20 ?_
      refine go_iadd (pc := 21) d29_21 ?_
      cases hf
      exact go_iret (pc := 22) rfl d29_22
    · replace hf := (if_neg h2).symm.trans hf
      refine go_icN (pc := 7) d29_7 (XT.ii_lt_f h2) ?_
      refine go_bipush (pc := 10) d29_10 cb_8 ?_
      cases hf
      exact go_iret (pc := 12) rfl d29_12
theorem c_k_headCode (v1 : Int32) (s : S) (o : Int32) (hf : k_headCode v1 s = some o) : Call PP m29 [.ref 1, .int v1] (none, [(12, s)]) (some (.int o), (none, [(12, s)])) := call_of_go pl_0 rfl (fun h => nomatch h) (k_headCode_ok v1 s   _ hf)
set_option maxRecDepth 65536 in
set_option maxHeartbeats 4000000 in
theorem k_completeItem_ok  : ∀ (v1 : Int32) (v2 : Int32) (v3 : Int32) (s : S)  (o : Int32 × S), k_completeItem v1 v2 v3 s = some o → Go PP m30 0 [.val (.ref 1), .val (.int v1), .val (.int v2), .val (.int v3), .unset, .unset] [] (none, [(12, s)]) (some (.int o.1), (none, [(12, o.2)])) := by
  intro v1 v2 v3 s o hf
  unfold k_completeItem at hf
  refine go_aloadN (pc := 0) d30_0 rfl (go_iloadN (pc := 1) d30_1 rfl (go_aloadN (pc := 2) d30_2 rfl (go_getA (pc := 3) fa_33 hm_30 d30_3 rfl (go_iloadN (pc := 6) d30_6 rfl ?_))))
  obtain ⟨a7, e1, hf⟩ := Option.bind_eq_some_iff.mp hf
  refine go_iaload (pc := 7) (q := 6) ar_6 rfl e1 d30_7 ?_
  refine go_iloadN (pc := 8) d30_8 rfl (go_iloadN (pc := 9) d30_9 rfl ?_)
  obtain ⟨r10, e2, hf⟩ := Option.bind_eq_some_iff.mp hf
  refine go_priv (pc := 10) (i := 0) (as := [.int v1, .int a7, .int v2, .int v3]) (rest := []) (w' := (none, [(12, s)])) lk_0_176 pd_24 rfl oid_0 rfl rfl rfl rfl rfl rfl ⟨rfl, rfl, rfl, rfl, rfl⟩ d30_10 (c_k_getItem v1 a7 v2 v3 s _ e2) ?_
  refine go_istore (pc := 13) (L' := [.val (.ref 1), .val (.int v1), .val (.int v2), .val (.int v3), .val (.int r10), .unset]) d30_13 rfl (go_aloadN (pc := 15) d30_15 rfl (go_iloadN (pc := 16) d30_16 rfl ?_))
  obtain ⟨r17, e3, hf⟩ := Option.bind_eq_some_iff.mp hf
  refine go_priv (pc := 17) (i := 0) (as := [.int v1]) (rest := []) (w' := (none, [(12, s)])) lk_0_179 pd_29 rfl oid_0 rfl rfl rfl rfl rfl rfl ⟨rfl, rfl, rfl, rfl, rfl⟩ d30_17 (c_k_headCode v1 s _ e3) ?_
  refine go_istore (pc := 20) (L' := [.val (.ref 1), .val (.int v1), .val (.int v2), .val (.int v3), .val (.int r10), .val (.int r17)]) d30_20 rfl (go_aloadN (pc := 22) d30_22 rfl (go_iload (pc := 23) d30_23 rfl (go_iloadN (pc := 25) d30_25 rfl (go_iloadN (pc := 26) d30_26 rfl (go_iload (pc := 27) d30_27 rfl ?_)))))
  obtain ⟨r29, e4, hf⟩ := Option.bind_eq_some_iff.mp hf
  refine go_priv (pc := 29) (i := 0) (as := [.int r17, .int v2, .int v3, .int r10]) (rest := []) (w' := (none, [(12, r29.2)])) lk_0_156 pd_16 rfl oid_0 rfl rfl rfl rfl rfl rfl ⟨rfl, rfl, rfl, rfl, rfl⟩ d30_29 (c_k_lowerSpan r17 v2 v3 r10 s _ e4) ?_
  cases hf
  exact go_zret (pc := 32) rfl d30_32 rfl
theorem c_k_completeItem (v1 : Int32) (v2 : Int32) (v3 : Int32) (s : S) (o : Int32 × S) (hf : k_completeItem v1 v2 v3 s = some o) : Call PP m30 [.ref 1, .int v1, .int v2, .int v3] (none, [(12, s)]) (some (.int o.1), (none, [(12, o.2)])) := call_of_go pl_0 rfl (fun h => nomatch h) (k_completeItem_ok v1 v2 v3 s   _ hf)
def T_k_insideRound_5 (k5 : Int32 → Int32 → Int32 → Int32 → S → Option (Int32 × S)) : Prop := ∀ (v1 : Int32) (v2 : Int32) (v3 : Int32) (v4 : Int32) (s : S)  (o : Int32 × S), k5 v1 v2 v3 v4 s = some o → Go PP m31 5 [.val (.ref 1), .val (.int v1), .val (.int v2), .val (.int v3), .val (.int v4)] [] (none, [(12, s)]) (some (.int o.1), (none, [(12, o.2)]))
set_option maxRecDepth 65536 in
set_option maxHeartbeats 4000000 in
theorem k_insideRound_27_ok {k5 : Int32 → Int32 → Int32 → Int32 → S → Option (Int32 × S)} (hk5 : T_k_insideRound_5 k5) : ∀ (v1 : Int32) (v2 : Int32) (v3 : Int32) (v4 : Int32) (s : S)  (o : Int32 × S), k_insideRound_27 k5 v1 v2 v3 v4 s = some o → Go PP m31 27 [.val (.ref 1), .val (.int v1), .val (.int v2), .val (.int v3), .val (.int v4)] [] (none, [(12, s)]) (some (.int o.1), (none, [(12, o.2)])) := by
  intro v1 v2 v3 v4 s o hf
  unfold k_insideRound_27 at hf
  refine go_aloadN (pc := 27) d31_27 rfl (go_iload (pc := 28) d31_28 rfl (go_iloadN (pc := 30) d31_30 rfl (go_iloadN (pc := 31) d31_31 rfl ?_)))
  obtain ⟨r32, e1, hf⟩ := Option.bind_eq_some_iff.mp hf
  refine go_priv (pc := 32) (i := 0) (as := [.int v4, .int v1, .int v2]) (rest := []) (w' := (none, [(12, r32.2)])) lk_0_170 pd_30 rfl oid_0 rfl rfl rfl rfl rfl rfl ⟨rfl, rfl, rfl, rfl, rfl⟩ d31_32 (c_k_completeItem v4 v1 v2 s _ e1) ?_
  by_cases h2 : r32.1 = 0
  · refine go_ifY (pc := 35) (pc' := 40) d31_35 (XT.i0_eq_t h2) j_35_5 ?_
    refine go_iinc (pc := 40) (L' := [.val (.ref 1), .val (.int v1), .val (.int v2), .val (.int v3), .val (.int (v4 + (1 : Int32)))]) d31_40 rfl ci_1 rfl (go_goto (pc := 43) (pc' := 5) d31_43 j_43_m38 ?_)
    exact hk5 v1 v2 v3 (v4 + (1 : Int32)) r32.2 _ (by simpa only [if_pos h2] using hf)
  · refine go_ifN (pc := 35) d31_35 (XT.i0_eq_f h2) ?_
    refine go_iconst (pc := 38) d31_38 ci_1 (go_istoreN (pc := 39) (L' := [.val (.ref 1), .val (.int v1), .val (.int v2), .val (.int (1 : Int32)), .val (.int v4)]) d31_39 rfl (go_iinc (pc := 40) (L' := [.val (.ref 1), .val (.int v1), .val (.int v2), .val (.int (1 : Int32)), .val (.int (v4 + (1 : Int32)))]) d31_40 rfl ci_1 rfl (go_goto (pc := 43) (pc' := 5) d31_43 j_43_m38 ?_)))
    exact hk5 v1 v2 (1 : Int32) (v4 + (1 : Int32)) r32.2 _ (by simpa only [if_neg h2] using hf)
set_option maxRecDepth 65536 in
set_option maxHeartbeats 4000000 in
theorem k_insideRound_5_ok  : ∀ (n : Nat) (v1 : Int32) (v2 : Int32) (v3 : Int32) (v4 : Int32) (s : S)  (o : Int32 × S), k_insideRound_5 n v1 v2 v3 v4 s = some o → Go PP m31 5 [.val (.ref 1), .val (.int v1), .val (.int v2), .val (.int v3), .val (.int v4)] [] (none, [(12, s)]) (some (.int o.1), (none, [(12, o.2)])) := by
  intro n
  induction n with
  | zero => intro v1 v2 v3 v4 s o hf; exact nomatch hf
  | succ n ih =>
    intro v1 v2 v3 v4 s o hf
    unfold k_insideRound_5 at hf
    refine go_iload (pc := 5) d31_5 rfl (go_aloadN (pc := 7) d31_7 rfl (go_getI (pc := 8) fs_67 hm_31 d31_8 ?_))
    by_cases h1 : v4 < (gI s 3)
    · replace hf := (if_pos h1).symm.trans hf
      refine go_icN (pc := 11) d31_11 (XT.ii_ge_f h1) ?_
      refine go_aloadN (pc := 14) d31_14 rfl (go_iload (pc := 15) d31_15 rfl (go_iloadN (pc := 17) d31_17 rfl (go_iloadN (pc := 18) d31_18 rfl ?_)))
      obtain ⟨r19, e2, hf⟩ := Option.bind_eq_some_iff.mp hf
      refine go_priv (pc := 19) (i := 0) (as := [.int v4, .int v1, .int v2]) (rest := []) (w' := (none, [(12, r19.2)])) lk_0_167 pd_28 rfl oid_0 rfl rfl rfl rfl rfl rfl ⟨rfl, rfl, rfl, rfl, rfl⟩ d31_19 (c_k_advanceItems v4 v1 v2 s _ e2) ?_
      by_cases h3 : r19.1 = 0
      · refine go_ifY (pc := 22) (pc' := 27) d31_22 (XT.i0_eq_t h3) j_22_5 ?_
        exact k_insideRound_27_ok ih v1 v2 v3 v4 r19.2 _ (by simpa only [if_pos h3] using hf)
      · refine go_ifN (pc := 22) d31_22 (XT.i0_eq_f h3) ?_
        refine go_iconst (pc := 25) d31_25 ci_1 (go_istoreN (pc := 26) (L' := [.val (.ref 1), .val (.int v1), .val (.int v2), .val (.int (1 : Int32)), .val (.int v4)]) d31_26 rfl ?_)
        exact k_insideRound_27_ok ih v1 v2 (1 : Int32) v4 r19.2 _ (by simpa only [if_neg h3] using hf)
    · replace hf := (if_neg h1).symm.trans hf
      refine go_icY (pc := 11) (pc' := 46) d31_11 (XT.ii_ge_t h1) j_11_35 ?_
      refine go_iloadN (pc := 46) d31_46 rfl ?_
      cases hf
      exact go_zret (pc := 47) rfl d31_47 rfl
set_option maxRecDepth 65536 in
set_option maxHeartbeats 4000000 in
theorem k_insideRound_ok  : ∀ (v1 : Int32) (v2 : Int32) (s : S)  (o : Int32 × S), k_insideRound v1 v2 s = some o → Go PP m31 0 [.val (.ref 1), .val (.int v1), .val (.int v2), .unset, .unset] [] (none, [(12, s)]) (some (.int o.1), (none, [(12, o.2)])) := by
  intro v1 v2 s o hf
  unfold k_insideRound at hf
  refine go_iconst (pc := 0) d31_0 ci_0 (go_istoreN (pc := 1) (L' := [.val (.ref 1), .val (.int v1), .val (.int v2), .val (.int (0 : Int32)), .unset]) d31_1 rfl (go_iconst (pc := 2) d31_2 ci_0 (go_istore (pc := 3) (L' := [.val (.ref 1), .val (.int v1), .val (.int v2), .val (.int (0 : Int32)), .val (.int (0 : Int32))]) d31_3 rfl ?_)))
  exact k_insideRound_5_ok BIG v1 v2 (0 : Int32) (0 : Int32) s _ hf
theorem c_k_insideRound (v1 : Int32) (v2 : Int32) (s : S) (o : Int32 × S) (hf : k_insideRound v1 v2 s = some o) : Call PP m31 [.ref 1, .int v1, .int v2] (none, [(12, s)]) (some (.int o.1), (none, [(12, o.2)])) := call_of_go pl_0 rfl (fun h => nomatch h) (k_insideRound_ok v1 v2 s   _ hf)
set_option maxRecDepth 65536 in
set_option maxHeartbeats 4000000 in
theorem k_closeInsideCell_5_ok  : ∀ (n : Nat) (v1 : Int32) (v2 : Int32) (v3 : Int32) (v4 : Int32) (s : S)  (o : S), k_closeInsideCell_5 n v1 v2 v3 v4 s = some o → Go PP m32 5 [.val (.ref 1), .val (.int v1), .val (.int v2), .val (.int v3), .val (.int v4)] [] (none, [(12, s)]) (none, (none, [(12, o)])) := by
  intro n
  induction n with
  | zero => intro v1 v2 v3 v4 s o hf; exact nomatch hf
  | succ n ih =>
    intro v1 v2 v3 v4 s o hf
    unfold k_closeInsideCell_5 at hf
    refine go_iloadN (pc := 5) d32_5 rfl ?_
    by_cases h1 : v3 = 0
    · replace hf := (if_pos h1).symm.trans hf
      refine go_ifY (pc := 6) (pc' := 29) d32_6 (XT.i0_eq_t h1) j_6_23 ?_
      cases hf
      exact go_ret (pc := 29) rfl d32_29
    · replace hf := (if_neg h1).symm.trans hf
      refine go_ifN (pc := 6) d32_6 (XT.i0_eq_f h1) ?_
      refine go_iload (pc := 9) d32_9 rfl (go_bipush (pc := 11) d32_11 cb_24 ?_)
      by_cases h2 : v4 < (24 : Int32)
      · replace hf := (if_pos h2).symm.trans hf
        refine go_icN (pc := 13) d32_13 (XT.ii_ge_f h2) ?_
        refine go_aloadN (pc := 16) d32_16 rfl (go_iloadN (pc := 17) d32_17 rfl (go_iloadN (pc := 18) d32_18 rfl ?_))
        obtain ⟨r19, e3, hf⟩ := Option.bind_eq_some_iff.mp hf
        refine go_priv (pc := 19) (i := 0) (as := [.int v1, .int v2]) (rest := []) (w' := (none, [(12, r19.2)])) lk_0_163 pd_31 rfl oid_0 rfl rfl rfl rfl rfl rfl ⟨rfl, rfl, rfl, rfl, rfl⟩ d32_19 (c_k_insideRound v1 v2 s _ e3) ?_
        refine go_istoreN (pc := 22) (L' := [.val (.ref 1), .val (.int v1), .val (.int v2), .val (.int r19.1), .val (.int v4)]) d32_22 rfl (go_iinc (pc := 23) (L' := [.val (.ref 1), .val (.int v1), .val (.int v2), .val (.int r19.1), .val (.int (v4 + (1 : Int32)))]) d32_23 rfl ci_1 rfl (go_goto (pc := 26) (pc' := 5) d32_26 j_26_m21 ?_))
        exact ih v1 v2 r19.1 (v4 + (1 : Int32)) r19.2 _ hf
      · replace hf := (if_neg h2).symm.trans hf
        refine go_icY (pc := 13) (pc' := 29) d32_13 (XT.ii_ge_t h2) j_13_16 ?_
        cases hf
        exact go_ret (pc := 29) rfl d32_29
set_option maxRecDepth 65536 in
set_option maxHeartbeats 4000000 in
theorem k_closeInsideCell_ok  : ∀ (v1 : Int32) (v2 : Int32) (s : S)  (o : S), k_closeInsideCell v1 v2 s = some o → Go PP m32 0 [.val (.ref 1), .val (.int v1), .val (.int v2), .unset, .unset] [] (none, [(12, s)]) (none, (none, [(12, o)])) := by
  intro v1 v2 s o hf
  unfold k_closeInsideCell at hf
  refine go_iconst (pc := 0) d32_0 ci_1 (go_istoreN (pc := 1) (L' := [.val (.ref 1), .val (.int v1), .val (.int v2), .val (.int (1 : Int32)), .unset]) d32_1 rfl (go_iconst (pc := 2) d32_2 ci_0 (go_istore (pc := 3) (L' := [.val (.ref 1), .val (.int v1), .val (.int v2), .val (.int (1 : Int32)), .val (.int (0 : Int32))]) d32_3 rfl ?_)))
  exact k_closeInsideCell_5_ok BIG v1 v2 (1 : Int32) (0 : Int32) s _ hf
theorem c_k_closeInsideCell (v1 : Int32) (v2 : Int32) (s : S) (o : S) (hf : k_closeInsideCell v1 v2 s = some o) : Call PP m32 [.ref 1, .int v1, .int v2] (none, [(12, s)]) (none, (none, [(12, o)])) := call_of_go pl_0 rfl (fun _ => rfl) (k_closeInsideCell_ok v1 v2 s   _ hf)
def T_k_runInside_10 (k10 : Int32 → S → Option S) : Prop := ∀ (v1 : Int32) (s : S) (x2 : Slot) (hx2 : k1 x2) (o : S), k10 v1 s = some o → Go PP m33 10 [.val (.ref 1), .val (.int v1), x2] [] (none, [(12, s)]) (none, (none, [(12, o)]))
set_option maxRecDepth 65536 in
set_option maxHeartbeats 4000000 in
theorem k_runInside_20_ok {k10 : Int32 → S → Option S} (hk10 : T_k_runInside_10 k10) : ∀ (n : Nat) (v1 : Int32) (v2 : Int32) (s : S)  (o : S), k_runInside_20 k10 n v1 v2 s = some o → Go PP m33 20 [.val (.ref 1), .val (.int v1), .val (.int v2)] [] (none, [(12, s)]) (none, (none, [(12, o)])) := by
  intro n
  induction n with
  | zero => intro v1 v2 s o hf; exact nomatch hf
  | succ n ih =>
    intro v1 v2 s o hf
    unfold k_runInside_20 at hf
    refine go_iloadN (pc := 20) d33_20 rfl ?_
    by_cases h1 : v2 < 0
    · replace hf := (if_pos h1).symm.trans hf
      refine go_ifY (pc := 21) (pc' := 36) d33_21 (XT.i0_lt_t h1) j_21_15 ?_
      refine go_iinc (pc := 36) (L' := [.val (.ref 1), .val (.int (v1 + (1 : Int32))), .val (.int v2)]) d33_36 rfl ci_1 rfl (go_goto (pc := 39) (pc' := 10) d33_39 j_39_m29 ?_)
      exact hk10 (v1 + (1 : Int32)) s (.val (.int v2)) (Or.inr ⟨_, rfl, rfl⟩) _ hf
    · replace hf := (if_neg h1).symm.trans hf
      refine go_ifN (pc := 21) d33_21 (XT.i0_lt_f h1) ?_
      refine go_aloadN (pc := 24) d33_24 rfl (go_iloadN (pc := 25) d33_25 rfl (go_iloadN (pc := 26) d33_26 rfl ?_))
      obtain ⟨r27, e2, hf⟩ := Option.bind_eq_some_iff.mp hf
      refine go_priv (pc := 27) (i := 0) (as := [.int v2, .int v1]) (rest := []) (w' := (none, [(12, r27)])) lk_0_152 pd_32 rfl oid_0 rfl rfl rfl rfl rfl rfl ⟨rfl, rfl, rfl, rfl, rfl⟩ d33_27 (c_k_closeInsideCell v2 v1 s _ e2) ?_
      refine go_iinc (pc := 30) (L' := [.val (.ref 1), .val (.int v1), .val (.int (v2 + (-1 : Int32)))]) d33_30 rfl ci_m1 rfl (go_goto (pc := 33) (pc' := 20) d33_33 j_33_m13 ?_)
      exact ih v1 (v2 + (-1 : Int32)) r27 _ hf
set_option maxRecDepth 65536 in
set_option maxHeartbeats 4000000 in
theorem k_runInside_10_ok  : ∀ (n : Nat) (v1 : Int32) (s : S) (x2 : Slot) (hx2 : k1 x2) (o : S), k_runInside_10 n v1 s = some o → Go PP m33 10 [.val (.ref 1), .val (.int v1), x2] [] (none, [(12, s)]) (none, (none, [(12, o)])) := by
  intro n
  induction n with
  | zero => intro v1 s x2 hx2 o hf; exact nomatch hf
  | succ n ih =>
    intro v1 s x2 hx2 o hf
    unfold k_runInside_10 at hf
    refine go_iloadN (pc := 10) d33_10 rfl (go_aloadN (pc := 11) d33_11 rfl (go_getI (pc := 12) fs_55 hm_33 d33_12 ?_))
    by_cases h1 : v1 < (gI s 1)
    · replace hf := (if_pos h1).symm.trans hf
      refine go_icN (pc := 15) d33_15 (XT.ii_ge_f h1) ?_
      refine go_iloadN (pc := 18) d33_18 rfl (go_istoreN (pc := 19) (L' := [.val (.ref 1), .val (.int v1), .val (.int v1)]) d33_19 (stx rfl hx2 rfl) ?_)
      exact k_runInside_20_ok ih BIG v1 v1 s _ hf
    · replace hf := (if_neg h1).symm.trans hf
      refine go_icY (pc := 15) (pc' := 42) d33_15 (XT.ii_ge_t h1) j_15_27 ?_
      cases hf
      exact go_ret (pc := 42) rfl d33_42
set_option maxRecDepth 65536 in
set_option maxHeartbeats 4000000 in
theorem k_runInside_ok  : ∀  (s : S)  (o : S), k_runInside s = some o → Go PP m33 0 [.val (.ref 1), .unset, .unset] [] (none, [(12, s)]) (none, (none, [(12, o)])) := by
  intro s o hf
  unfold k_runInside at hf
  refine go_aloadN (pc := 0) d33_0 rfl ?_
  obtain ⟨r1, e1, hf⟩ := Option.bind_eq_some_iff.mp hf
  refine go_priv (pc := 1) (i := 0) (as := []) (rest := []) (w' := (none, [(12, r1)])) lk_0_146 pd_17 rfl oid_0 rfl rfl rfl rfl rfl rfl ⟨rfl, rfl, rfl, rfl, rfl⟩ d33_1 (c_k_scanEdges s _ e1) ?_
  refine go_aloadN (pc := 4) d33_4 rfl ?_
  obtain ⟨r5, e2, hf⟩ := Option.bind_eq_some_iff.mp hf
  refine go_priv (pc := 5) (i := 0) (as := []) (rest := []) (w' := (none, [(12, r5)])) lk_0_149 pd_22 rfl oid_0 rfl rfl rfl rfl rfl rfl ⟨rfl, rfl, rfl, rfl, rfl⟩ d33_5 (c_k_seedItems r1 _ e2) ?_
  refine go_iconst (pc := 8) d33_8 ci_0 (go_istoreN (pc := 9) (L' := [.val (.ref 1), .val (.int (0 : Int32)), .unset]) d33_9 rfl ?_)
  exact k_runInside_10_ok BIG (0 : Int32) r5 .unset (Or.inl rfl) _ hf
theorem c_k_runInside (s : S) (o : S) (hf : k_runInside s = some o) : Call PP m33 [.ref 1] (none, [(12, s)]) (none, (none, [(12, o)])) := call_of_go pl_0 rfl (fun _ => rfl) (k_runInside_ok s   _ hf)
set_option maxRecDepth 65536 in
set_option maxHeartbeats 4000000 in
theorem k_lowerRest_ok  : ∀ (v1 : Int32) (v2 : Int32) (v3 : Int32) (v4 : Int32) (v5 : Int32) (s : S)  (o : Int32 × S), k_lowerRest v1 v2 v3 v4 v5 s = some o → Go PP m34 0 [.val (.ref 1), .val (.int v1), .val (.int v2), .val (.int v3), .val (.int v4), .val (.int v5), .unset] [] (none, [(12, s)]) (some (.int o.1), (none, [(12, o.2)])) := by
  intro v1 v2 v3 v4 v5 s o hf
  unfold k_lowerRest at hf
  refine go_aloadN (pc := 0) d34_0 rfl (go_iloadN (pc := 1) d34_1 rfl (go_iloadN (pc := 2) d34_2 rfl (go_iloadN (pc := 3) d34_3 rfl (go_iload (pc := 4) d34_4 rfl ?_))))
  refine go_priv (pc := 6) (i := 0) (as := [.int v1, .int v2, .int v3, .int v4]) (rest := []) (w' := (none, [(12, s)])) lk_0_142 pd_20 rfl oid_0 rfl rfl rfl rfl rfl rfl ⟨rfl, rfl, rfl, rfl, rfl⟩ d34_6 (c_k_itemSlot v1 v2 v3 v4 s) ?_
  refine go_istore (pc := 9) (L' := [.val (.ref 1), .val (.int v1), .val (.int v2), .val (.int v3), .val (.int v4), .val (.int v5), .val (.int (k_itemSlot v1 v2 v3 v4 s))]) d34_9 rfl (go_iload (pc := 11) d34_11 rfl ?_)
  by_cases h1 : (k_itemSlot v1 v2 v3 v4 s) < 0
  · replace hf := (if_pos h1).symm.trans hf
    refine go_ifY (pc := 13) (pc' := 28) d34_13 (XT.i0_lt_t h1) j_13_15 ?_
    refine go_iconst (pc := 28) d34_28 ci_0 ?_
    cases hf
    exact go_zret (pc := 29) rfl d34_29 (show (0 : Int32) = nar .boolean (0 : Int32) by decide)
  · replace hf := (if_neg h1).symm.trans hf
    refine go_ifN (pc := 13) d34_13 (XT.i0_lt_f h1) ?_
    refine go_iload (pc := 16) d34_16 rfl (go_aloadN (pc := 18) d34_18 rfl (go_getA (pc := 19) fa_45 hm_34 d34_19 rfl (go_iload (pc := 22) d34_22 rfl ?_)))
    obtain ⟨a24, e2, hf⟩ := Option.bind_eq_some_iff.mp hf
    refine go_iaload (pc := 24) (q := 10) ar_10 rfl e2 d34_24 ?_
    by_cases h3 : v5 < a24
    · replace hf := (if_pos h3).symm.trans hf
      refine go_icY (pc := 25) (pc' := 30) d34_25 (XT.ii_lt_t h3) j_25_5 ?_
      refine go_aloadN (pc := 30) d34_30 rfl (go_getA (pc := 31) fa_45 hm_34 d34_31 rfl (go_iload (pc := 34) d34_34 rfl (go_iload (pc := 36) d34_36 rfl ?_)))
      obtain ⟨a38, e4, hf⟩ := Option.bind_eq_some_iff.mp hf
      refine go_iastore (pc := 38) (q := 10) ar_10 rfl hn_34 e4 d34_38 ?_
      refine go_iconst (pc := 39) d34_39 ci_1 ?_
      cases hf
      exact go_zret (pc := 40) rfl d34_40 (show (1 : Int32) = nar .boolean (1 : Int32) by decide)
    · replace hf := (if_neg h3).symm.trans hf
      refine go_icN (pc := 25) d34_25 (XT.ii_lt_f h3) ?_
      refine go_iconst (pc := 28) d34_28 ci_0 ?_
      cases hf
      exact go_zret (pc := 29) rfl d34_29 (show (0 : Int32) = nar .boolean (0 : Int32) by decide)
theorem c_k_lowerRest (v1 : Int32) (v2 : Int32) (v3 : Int32) (v4 : Int32) (v5 : Int32) (s : S) (o : Int32 × S) (hf : k_lowerRest v1 v2 v3 v4 v5 s = some o) : Call PP m34 [.ref 1, .int v1, .int v2, .int v3, .int v4, .int v5] (none, [(12, s)]) (some (.int o.1), (none, [(12, o.2)])) := call_of_go pl_0 rfl (fun h => nomatch h) (k_lowerRest_ok v1 v2 v3 v4 v5 s   _ hf)
set_option maxRecDepth 65536 in
set_option maxHeartbeats 4000000 in
theorem k_seedRest_9_ok  : ∀ (n : Nat) (v1 : Int32) (v2 : Int32) (v3 : Int32) (s : S)  (o : S), k_seedRest_9 n v1 v2 v3 s = some o → Go PP m35 9 [.val (.ref 1), .val (.int v1), .val (.int v2), .val (.int v3)] [] (none, [(12, s)]) (none, (none, [(12, o)])) := by
  intro n
  induction n with
  | zero => intro v1 v2 v3 s o hf; exact nomatch hf
  | succ n ih =>
    intro v1 v2 v3 s o hf
    unfold k_seedRest_9 at hf
    refine go_iloadN (pc := 9) d35_9 rfl (go_aloadN (pc := 10) d35_10 rfl (go_getI (pc := 11) fs_55 hm_35 d35_11 ?_))
    by_cases h1 : v3 < (gI s 1)
    · replace hf := (if_pos h1).symm.trans hf
      refine go_icN (pc := 14) d35_14 (XT.ii_ge_f h1) ?_
      refine go_aloadN (pc := 17) d35_17 rfl (go_iloadN (pc := 18) d35_18 rfl (go_iloadN (pc := 19) d35_19 rfl (go_iloadN (pc := 20) d35_20 rfl (go_iloadN (pc := 21) d35_21 rfl (go_iconst (pc := 22) d35_22 ci_0 ?_)))))
      obtain ⟨r23, e2, hf⟩ := Option.bind_eq_some_iff.mp hf
      refine go_priv (pc := 23) (i := 0) (as := [.int v1, .int v2, .int v3, .int v3, .int (0 : Int32)]) (rest := []) (w' := (none, [(12, r23.2)])) lk_0_189 pd_34 rfl oid_0 rfl rfl rfl rfl rfl rfl ⟨rfl, rfl, rfl, rfl, rfl⟩ d35_23 (c_k_lowerRest v1 v2 v3 v3 (0 : Int32) s _ e2) ?_
      refine go_pop (pc := 26) d35_26 (go_iinc (pc := 27) (L' := [.val (.ref 1), .val (.int v1), .val (.int v2), .val (.int (v3 + (1 : Int32)))]) d35_27 rfl ci_1 rfl (go_goto (pc := 30) (pc' := 9) d35_30 j_30_m21 ?_))
      exact ih v1 v2 (v3 + (1 : Int32)) r23.2 _ hf
    · replace hf := (if_neg h1).symm.trans hf
      refine go_icY (pc := 14) (pc' := 33) d35_14 (XT.ii_ge_t h1) j_14_19 ?_
      cases hf
      exact go_ret (pc := 33) rfl d35_33
set_option maxRecDepth 65536 in
set_option maxHeartbeats 4000000 in
theorem k_seedRest_ok  : ∀ (v1 : Int32) (s : S)  (o : S), k_seedRest v1 s = some o → Go PP m35 0 [.val (.ref 1), .val (.int v1), .unset, .unset] [] (none, [(12, s)]) (none, (none, [(12, o)])) := by
  intro v1 s o hf
  unfold k_seedRest at hf
  refine go_aloadN (pc := 0) d35_0 rfl (go_getA (pc := 1) fa_33 hm_35 d35_1 rfl (go_iloadN (pc := 4) d35_4 rfl ?_))
  obtain ⟨a5, e1, hf⟩ := Option.bind_eq_some_iff.mp hf
  refine go_iaload (pc := 5) (q := 6) ar_6 rfl e1 d35_5 ?_
  refine go_istoreN (pc := 6) (L' := [.val (.ref 1), .val (.int v1), .val (.int a5), .unset]) d35_6 rfl (go_iconst (pc := 7) d35_7 ci_0 (go_istoreN (pc := 8) (L' := [.val (.ref 1), .val (.int v1), .val (.int a5), .val (.int (0 : Int32))]) d35_8 rfl ?_))
  exact k_seedRest_9_ok BIG v1 a5 (0 : Int32) s _ hf
theorem c_k_seedRest (v1 : Int32) (s : S) (o : S) (hf : k_seedRest v1 s = some o) : Call PP m35 [.ref 1, .int v1] (none, [(12, s)]) (none, (none, [(12, o)])) := call_of_go pl_0 rfl (fun _ => rfl) (k_seedRest_ok v1 s   _ hf)
set_option maxRecDepth 65536 in
set_option maxHeartbeats 4000000 in
theorem k_getRest_ok  : ∀ (v1 : Int32) (v2 : Int32) (v3 : Int32) (v4 : Int32) (s : S)  (o : Int32), k_getRest v1 v2 v3 v4 s = some o → Go PP m36 0 [.val (.ref 1), .val (.int v1), .val (.int v2), .val (.int v3), .val (.int v4), .unset] [] (none, [(12, s)]) (some (.int o), (none, [(12, s)])) := by
  intro v1 v2 v3 v4 s o hf
  unfold k_getRest at hf
  refine go_aloadN (pc := 0) d36_0 rfl (go_iloadN (pc := 1) d36_1 rfl (go_iloadN (pc := 2) d36_2 rfl (go_iloadN (pc := 3) d36_3 rfl (go_iload (pc := 4) d36_4 rfl ?_))))
  refine go_priv (pc := 6) (i := 0) (as := [.int v1, .int v2, .int v3, .int v4]) (rest := []) (w' := (none, [(12, s)])) lk_0_142 pd_20 rfl oid_0 rfl rfl rfl rfl rfl rfl ⟨rfl, rfl, rfl, rfl, rfl⟩ d36_6 (c_k_itemSlot v1 v2 v3 v4 s) ?_
  refine go_istore (pc := 9) (L' := [.val (.ref 1), .val (.int v1), .val (.int v2), .val (.int v3), .val (.int v4), .val (.int (k_itemSlot v1 v2 v3 v4 s))]) d36_9 rfl (go_iload (pc := 11) d36_11 rfl ?_)
  by_cases h1 : (k_itemSlot v1 v2 v3 v4 s) < 0
  · replace hf := (if_pos h1).symm.trans hf
    refine go_ifN (pc := 13) d36_13 (XT.i0_ge_f h1) ?_
    refine go_aloadN (pc := 16) d36_16 rfl (go_getI (pc := 17) fs_8 hm_36 d36_17 ?_)
    cases hf
    exact go_iret (pc := 20) rfl d36_20
  · replace hf := (if_neg h1).symm.trans hf
    refine go_ifY (pc := 13) (pc' := 21) d36_13 (XT.i0_ge_t h1) j_13_8 ?_
    refine go_aloadN (pc := 21) d36_21 rfl (go_getA (pc := 22) fa_45 hm_36 d36_22 rfl (go_iload (pc := 25) d36_25 rfl ?_))
    obtain ⟨a27, e2, hf⟩ := Option.bind_eq_some_iff.mp hf
    refine go_iaload (pc := 27) (q := 10) ar_10 rfl e2 d36_27 ?_
    cases hf
    exact go_iret (pc := 28) rfl d36_28
theorem c_k_getRest (v1 : Int32) (v2 : Int32) (v3 : Int32) (v4 : Int32) (s : S) (o : Int32) (hf : k_getRest v1 v2 v3 v4 s = some o) : Call PP m36 [.ref 1, .int v1, .int v2, .int v3, .int v4] (none, [(12, s)]) (some (.int o), (none, [(12, s)])) := call_of_go pl_0 rfl (fun h => nomatch h) (k_getRest_ok v1 v2 v3 v4 s   _ hf)
set_option maxRecDepth 65536 in
set_option maxHeartbeats 4000000 in
theorem k_restAt_17_ok  : ∀ (n : Nat) (v1 : Int32) (v2 : Int32) (v3 : Int32) (v4 : Int32) (v5 : Int32) (v6 : Int32) (v7 : Int32) (s : S) (x8 : Slot) (x9 : Slot) (x10 : Slot) (hx8 : k1 x8) (hx9 : k1 x9) (hx10 : k1 x10) (o : Int32), k_restAt_17 n v1 v2 v3 v4 v5 v6 v7 s = some o → Go PP m37 17 [.val (.ref 1), .val (.int v1), .val (.int v2), .val (.int v3), .val (.int v4), .val (.int v5), .val (.int v6), .val (.int v7), x8, x9, x10] [] (none, [(12, s)]) (some (.int o), (none, [(12, s)])) := by
  intro n
  induction n with
  | zero => intro v1 v2 v3 v4 v5 v6 v7 s x8 x9 x10 hx8 hx9 hx10 o hf; exact nomatch hf
  | succ n ih =>
    intro v1 v2 v3 v4 v5 v6 v7 s x8 x9 x10 hx8 hx9 hx10 o hf
    unfold k_restAt_17 at hf
    refine go_iload (pc := 17) d37_17 rfl (go_iload (pc := 19) d37_19 rfl ?_)
    by_cases h1 : v4 < v7
    · replace hf := (if_pos h1).symm.trans hf
      refine go_icY (pc := 21) (pc' := 76) d37_21 (XT.ii_gt_t h1) j_21_55 ?_
      refine go_iload (pc := 76) d37_76 rfl ?_
      cases hf
      exact go_iret (pc := 78) rfl d37_78
    · replace hf := (if_neg h1).symm.trans hf
      refine go_icN (pc := 21) d37_21 (XT.ii_gt_f h1) ?_
      refine go_aloadN (pc := 24) d37_24 rfl (go_iload (pc := 25) d37_25 rfl (go_iloadN (pc := 27) d37_27 rfl (go_iload (pc := 28) d37_28 rfl ?_)))
      obtain ⟨r30, e2, hf⟩ := Option.bind_eq_some_iff.mp hf
      refine go_priv (pc := 30) (i := 0) (as := [.int v5, .int v3, .int v7]) (rest := []) (w' := (none, [(12, s)])) lk_0_91 pd_25 rfl oid_0 rfl rfl rfl rfl rfl rfl ⟨rfl, rfl, rfl, rfl, rfl⟩ d37_30 (c_k_getSpan v5 v3 v7 s _ e2) ?_
      refine go_istore (pc := 33) (L' := [.val (.ref 1), .val (.int v1), .val (.int v2), .val (.int v3), .val (.int v4), .val (.int v5), .val (.int v6), .val (.int v7), .val (.int r30), x9, x10]) d37_33 (stx rfl hx8 rfl) (go_aloadN (pc := 35) d37_35 rfl (go_iloadN (pc := 36) d37_36 rfl (go_iloadN (pc := 37) d37_37 rfl (go_iconst (pc := 38) d37_38 ci_1 (go_iadd (pc := 39) d37_39 (go_iload (pc := 40) d37_40 rfl (go_iload (pc := 42) d37_42 rfl ?_)))))))
      obtain ⟨r44, e3, hf⟩ := Option.bind_eq_some_iff.mp hf
      refine go_priv (pc := 44) (i := 0) (as := [.int v1, .int (v2 + (1 : Int32)), .int v7, .int v4]) (rest := []) (w' := (none, [(12, s)])) lk_0_195 pd_36 rfl oid_0 rfl rfl rfl rfl rfl rfl ⟨rfl, rfl, rfl, rfl, rfl⟩ d37_44 (c_k_getRest v1 (v2 + (1 : Int32)) v7 v4 s _ e3) ?_
      refine go_istore (pc := 47) (L' := [.val (.ref 1), .val (.int v1), .val (.int v2), .val (.int v3), .val (.int v4), .val (.int v5), .val (.int v6), .val (.int v7), .val (.int r30), .val (.int r44), x10]) d37_47 (stx rfl hx9 rfl) (go_aloadN (pc := 49) d37_49 rfl (go_iload (pc := 50) d37_50 rfl (go_iload (pc := 52) d37_52 rfl ?_)))
      refine go_priv (pc := 54) (i := 0) (as := [.int r30, .int r44]) (rest := []) (w' := (none, [(12, s)])) lk_0_120 pd_26 rfl oid_0 rfl rfl rfl rfl rfl rfl ⟨rfl, rfl, rfl, rfl, rfl⟩ d37_54 (c_k_plus r30 r44 s) ?_
      refine go_istore (pc := 57) (L' := [.val (.ref 1), .val (.int v1), .val (.int v2), .val (.int v3), .val (.int v4), .val (.int v5), .val (.int v6), .val (.int v7), .val (.int r30), .val (.int r44), .val (.int (k_plus r30 r44 s))]) d37_57 (stx rfl hx10 rfl) (go_iload (pc := 59) d37_59 rfl (go_iload (pc := 61) d37_61 rfl ?_))
      by_cases h4 : (k_plus r30 r44 s) < v6
      · refine go_icN (pc := 63) d37_63 (XT.ii_ge_f h4) ?_
        refine go_iload (pc := 66) d37_66 rfl (go_istore (pc := 68) (L' := [.val (.ref 1), .val (.int v1), .val (.int v2), .val (.int v3), .val (.int v4), .val (.int v5), .val (.int (k_plus r30 r44 s)), .val (.int v7), .val (.int r30), .val (.int r44), .val (.int (k_plus r30 r44 s))]) d37_68 rfl (go_iinc (pc := 70) (L' := [.val (.ref 1), .val (.int v1), .val (.int v2), .val (.int v3), .val (.int v4), .val (.int v5), .val (.int (k_plus r30 r44 s)), .val (.int (v7 + (1 : Int32))), .val (.int r30), .val (.int r44), .val (.int (k_plus r30 r44 s))]) d37_70 rfl ci_1 rfl (go_goto (pc := 73) (pc' := 17) d37_73 j_73_m56 ?_)))
        exact ih v1 v2 v3 v4 v5 (k_plus r30 r44 s) (v7 + (1 : Int32)) s (.val (.int r30)) (.val (.int r44)) (.val (.int (k_plus r30 r44 s))) (Or.inr ⟨_, rfl, rfl⟩) (Or.inr ⟨_, rfl, rfl⟩) (Or.inr ⟨_, rfl, rfl⟩) _ (by simpa only [if_pos h4] using hf)
      · refine go_icY (pc := 63) (pc' := 70) d37_63 (XT.ii_ge_t h4) j_63_7 ?_
        refine go_iinc (pc := 70) (L' := [.val (.ref 1), .val (.int v1), .val (.int v2), .val (.int v3), .val (.int v4), .val (.int v5), .val (.int v6), .val (.int (v7 + (1 : Int32))), .val (.int r30), .val (.int r44), .val (.int (k_plus r30 r44 s))]) d37_70 rfl ci_1 rfl (go_goto (pc := 73) (pc' := 17) d37_73 j_73_m56 ?_)
        exact ih v1 v2 v3 v4 v5 v6 (v7 + (1 : Int32)) s (.val (.int r30)) (.val (.int r44)) (.val (.int (k_plus r30 r44 s))) (Or.inr ⟨_, rfl, rfl⟩) (Or.inr ⟨_, rfl, rfl⟩) (Or.inr ⟨_, rfl, rfl⟩) _ (by simpa only [if_neg h4] using hf)
set_option maxRecDepth 65536 in
set_option maxHeartbeats 4000000 in
theorem k_restAt_ok  : ∀ (v1 : Int32) (v2 : Int32) (v3 : Int32) (v4 : Int32) (s : S)  (o : Int32), k_restAt v1 v2 v3 v4 s = some o → Go PP m37 0 [.val (.ref 1), .val (.int v1), .val (.int v2), .val (.int v3), .val (.int v4), .unset, .unset, .unset, .unset, .unset, .unset] [] (none, [(12, s)]) (some (.int o), (none, [(12, s)])) := by
  intro v1 v2 v3 v4 s o hf
  unfold k_restAt at hf
  refine go_aloadN (pc := 0) d37_0 rfl (go_iloadN (pc := 1) d37_1 rfl (go_iloadN (pc := 2) d37_2 rfl ?_))
  obtain ⟨r3, e1, hf⟩ := Option.bind_eq_some_iff.mp hf
  refine go_priv (pc := 3) (i := 0) (as := [.int v1, .int v2]) (rest := []) (w' := (none, [(12, s)])) lk_0_84 pd_23 rfl oid_0 rfl rfl rfl rfl rfl rfl ⟨rfl, rfl, rfl, rfl, rfl⟩ d37_3 (c_k_symbolAt v1 v2 s _ e1) ?_
  refine go_istore (pc := 6) (L' := [.val (.ref 1), .val (.int v1), .val (.int v2), .val (.int v3), .val (.int v4), .val (.int r3), .unset, .unset, .unset, .unset, .unset]) d37_6 rfl (go_aloadN (pc := 8) d37_8 rfl (go_getI (pc := 9) fs_8 hm_37 d37_9 (go_istore (pc := 12) (L' := [.val (.ref 1), .val (.int v1), .val (.int v2), .val (.int v3), .val (.int v4), .val (.int r3), .val (.int (gI s 0)), .unset, .unset, .unset, .unset]) d37_12 rfl (go_iloadN (pc := 14) d37_14 rfl (go_istore (pc := 15) (L' := [.val (.ref 1), .val (.int v1), .val (.int v2), .val (.int v3), .val (.int v4), .val (.int r3), .val (.int (gI s 0)), .val (.int v3), .unset, .unset, .unset]) d37_15 rfl ?_)))))
  exact k_restAt_17_ok BIG v1 v2 v3 v4 r3 (gI s 0) v3 s .unset .unset .unset (Or.inl rfl) (Or.inl rfl) (Or.inl rfl) _ hf
theorem c_k_restAt (v1 : Int32) (v2 : Int32) (v3 : Int32) (v4 : Int32) (s : S) (o : Int32) (hf : k_restAt v1 v2 v3 v4 s = some o) : Call PP m37 [.ref 1, .int v1, .int v2, .int v3, .int v4] (none, [(12, s)]) (some (.int o), (none, [(12, s)])) := call_of_go pl_0 rfl (fun h => nomatch h) (k_restAt_ok v1 v2 v3 v4 s   _ hf)
def T_k_fillRestLevel_2 (k2 : Int32 → Int32 → Int32 → S → Option S) : Prop := ∀ (v1 : Int32) (v2 : Int32) (v3 : Int32) (s : S) (x4 : Slot) (x5 : Slot) (hx4 : k1 x4) (hx5 : k1 x5) (o : S), k2 v1 v2 v3 s = some o → Go PP m38 2 [.val (.ref 1), .val (.int v1), .val (.int v2), .val (.int v3), x4, x5] [] (none, [(12, s)]) (none, (none, [(12, o)]))
set_option maxRecDepth 65536 in
set_option maxHeartbeats 4000000 in
theorem k_fillRestLevel_13_ok {k2 : Int32 → Int32 → Int32 → S → Option S} (hk2 : T_k_fillRestLevel_2 k2) : ∀ (n : Nat) (v1 : Int32) (v2 : Int32) (v3 : Int32) (v4 : Int32) (s : S) (x5 : Slot) (hx5 : k1 x5) (o : S), k_fillRestLevel_13 k2 n v1 v2 v3 v4 s = some o → Go PP m38 13 [.val (.ref 1), .val (.int v1), .val (.int v2), .val (.int v3), .val (.int v4), x5] [] (none, [(12, s)]) (none, (none, [(12, o)])) := by
  intro n
  induction n with
  | zero => intro v1 v2 v3 v4 s x5 hx5 o hf; exact nomatch hf
  | succ n ih =>
    intro v1 v2 v3 v4 s x5 hx5 o hf
    unfold k_fillRestLevel_13 at hf
    refine go_iload (pc := 13) d38_13 rfl (go_aloadN (pc := 15) d38_15 rfl (go_getI (pc := 16) fs_55 hm_38 d38_16 ?_))
    by_cases h1 : v4 < (gI s 1)
    · replace hf := (if_pos h1).symm.trans hf
      refine go_icN (pc := 19) d38_19 (XT.ii_ge_f h1) ?_
      refine go_aloadN (pc := 22) d38_22 rfl (go_iloadN (pc := 23) d38_23 rfl (go_iloadN (pc := 24) d38_24 rfl (go_iloadN (pc := 25) d38_25 rfl (go_iload (pc := 26) d38_26 rfl ?_))))
      obtain ⟨r28, e2, hf⟩ := Option.bind_eq_some_iff.mp hf
      refine go_priv (pc := 28) (i := 0) (as := [.int v1, .int v2, .int v3, .int v4]) (rest := []) (w' := (none, [(12, s)])) lk_0_192 pd_37 rfl oid_0 rfl rfl rfl rfl rfl rfl ⟨rfl, rfl, rfl, rfl, rfl⟩ d38_28 (c_k_restAt v1 v2 v3 v4 s _ e2) ?_
      refine go_istore (pc := 31) (L' := [.val (.ref 1), .val (.int v1), .val (.int v2), .val (.int v3), .val (.int v4), .val (.int r28)]) d38_31 (stx rfl hx5 rfl) (go_aloadN (pc := 33) d38_33 rfl (go_iloadN (pc := 34) d38_34 rfl (go_iloadN (pc := 35) d38_35 rfl (go_iloadN (pc := 36) d38_36 rfl (go_iload (pc := 37) d38_37 rfl (go_iload (pc := 39) d38_39 rfl ?_))))))
      obtain ⟨r41, e3, hf⟩ := Option.bind_eq_some_iff.mp hf
      refine go_priv (pc := 41) (i := 0) (as := [.int v1, .int v2, .int v3, .int v4, .int r28]) (rest := []) (w' := (none, [(12, r41.2)])) lk_0_189 pd_34 rfl oid_0 rfl rfl rfl rfl rfl rfl ⟨rfl, rfl, rfl, rfl, rfl⟩ d38_41 (c_k_lowerRest v1 v2 v3 v4 r28 s _ e3) ?_
      refine go_pop (pc := 44) d38_44 (go_iinc (pc := 45) (L' := [.val (.ref 1), .val (.int v1), .val (.int v2), .val (.int v3), .val (.int (v4 + (1 : Int32))), .val (.int r28)]) d38_45 rfl ci_1 rfl (go_goto (pc := 48) (pc' := 13) d38_48 j_48_m35 ?_))
      exact ih v1 v2 v3 (v4 + (1 : Int32)) r41.2 (.val (.int r28)) (Or.inr ⟨_, rfl, rfl⟩) _ hf
    · replace hf := (if_neg h1).symm.trans hf
      refine go_icY (pc := 19) (pc' := 51) d38_19 (XT.ii_ge_t h1) j_19_32 ?_
      refine go_iinc (pc := 51) (L' := [.val (.ref 1), .val (.int v1), .val (.int v2), .val (.int (v3 + (1 : Int32))), .val (.int v4), x5]) d38_51 rfl ci_1 rfl (go_goto (pc := 54) (pc' := 2) d38_54 j_54_m52 ?_)
      exact hk2 v1 v2 (v3 + (1 : Int32)) s (.val (.int v4)) x5 (Or.inr ⟨_, rfl, rfl⟩) hx5 _ hf
set_option maxRecDepth 65536 in
set_option maxHeartbeats 4000000 in
theorem k_fillRestLevel_2_ok  : ∀ (n : Nat) (v1 : Int32) (v2 : Int32) (v3 : Int32) (s : S) (x4 : Slot) (x5 : Slot) (hx4 : k1 x4) (hx5 : k1 x5) (o : S), k_fillRestLevel_2 n v1 v2 v3 s = some o → Go PP m38 2 [.val (.ref 1), .val (.int v1), .val (.int v2), .val (.int v3), x4, x5] [] (none, [(12, s)]) (none, (none, [(12, o)])) := by
  intro n
  induction n with
  | zero => intro v1 v2 v3 s x4 x5 hx4 hx5 o hf; exact nomatch hf
  | succ n ih =>
    intro v1 v2 v3 s x4 x5 hx4 hx5 o hf
    unfold k_fillRestLevel_2 at hf
    refine go_iloadN (pc := 2) d38_2 rfl (go_aloadN (pc := 3) d38_3 rfl (go_getI (pc := 4) fs_55 hm_38 d38_4 ?_))
    by_cases h1 : v3 < (gI s 1)
    · replace hf := (if_pos h1).symm.trans hf
      refine go_icN (pc := 7) d38_7 (XT.ii_ge_f h1) ?_
      refine go_iloadN (pc := 10) d38_10 rfl (go_istore (pc := 11) (L' := [.val (.ref 1), .val (.int v1), .val (.int v2), .val (.int v3), .val (.int v3), x5]) d38_11 (stx rfl hx4 rfl) ?_)
      exact k_fillRestLevel_13_ok ih BIG v1 v2 v3 v3 s x5 hx5 _ hf
    · replace hf := (if_neg h1).symm.trans hf
      refine go_icY (pc := 7) (pc' := 57) d38_7 (XT.ii_ge_t h1) j_7_50 ?_
      cases hf
      exact go_ret (pc := 57) rfl d38_57
set_option maxRecDepth 65536 in
set_option maxHeartbeats 4000000 in
theorem k_fillRestLevel_ok  : ∀ (v1 : Int32) (v2 : Int32) (s : S)  (o : S), k_fillRestLevel v1 v2 s = some o → Go PP m38 0 [.val (.ref 1), .val (.int v1), .val (.int v2), .unset, .unset, .unset] [] (none, [(12, s)]) (none, (none, [(12, o)])) := by
  intro v1 v2 s o hf
  unfold k_fillRestLevel at hf
  refine go_iconst (pc := 0) d38_0 ci_0 (go_istoreN (pc := 1) (L' := [.val (.ref 1), .val (.int v1), .val (.int v2), .val (.int (0 : Int32)), .unset, .unset]) d38_1 rfl ?_)
  exact k_fillRestLevel_2_ok BIG v1 v2 (0 : Int32) s .unset .unset (Or.inl rfl) (Or.inl rfl) _ hf
theorem c_k_fillRestLevel (v1 : Int32) (v2 : Int32) (s : S) (o : S) (hf : k_fillRestLevel v1 v2 s = some o) : Call PP m38 [.ref 1, .int v1, .int v2] (none, [(12, s)]) (none, (none, [(12, o)])) := call_of_go pl_0 rfl (fun _ => rfl) (k_fillRestLevel_ok v1 v2 s   _ hf)
def T_k_runRest_2 (k2 : Int32 → S → Option S) : Prop := ∀ (v1 : Int32) (s : S) (x2 : Slot) (x3 : Slot) (hx2 : k1 x2) (hx3 : k1 x3) (o : S), k2 v1 s = some o → Go PP m39 2 [.val (.ref 1), .val (.int v1), x2, x3] [] (none, [(12, s)]) (none, (none, [(12, o)]))
set_option maxRecDepth 65536 in
set_option maxHeartbeats 4000000 in
theorem k_runRest_26_ok {k2 : Int32 → S → Option S} (hk2 : T_k_runRest_2 k2) : ∀ (n : Nat) (v1 : Int32) (v3 : Int32) (s : S) (x2 : Slot) (hx2 : k1 x2) (o : S), k_runRest_26 k2 n v1 v3 s = some o → Go PP m39 26 [.val (.ref 1), .val (.int v1), x2, .val (.int v3)] [] (none, [(12, s)]) (none, (none, [(12, o)])) := by
  intro n
  induction n with
  | zero => intro v1 v3 s x2 hx2 o hf; exact nomatch hf
  | succ n ih =>
    intro v1 v3 s x2 hx2 o hf
    unfold k_runRest_26 at hf
    refine go_iloadN (pc := 26) d39_26 rfl ?_
    by_cases h1 : v3 < 0
    · replace hf := (if_pos h1).symm.trans hf
      refine go_ifY (pc := 27) (pc' := 42) d39_27 (XT.i0_lt_t h1) j_27_15 ?_
      refine go_iinc (pc := 42) (L' := [.val (.ref 1), .val (.int (v1 + (1 : Int32))), x2, .val (.int v3)]) d39_42 rfl ci_1 rfl (go_goto (pc := 45) (pc' := 2) d39_45 j_45_m43 ?_)
      exact hk2 (v1 + (1 : Int32)) s x2 (.val (.int v3)) hx2 (Or.inr ⟨_, rfl, rfl⟩) _ hf
    · replace hf := (if_neg h1).symm.trans hf
      refine go_ifN (pc := 27) d39_27 (XT.i0_lt_f h1) ?_
      refine go_aloadN (pc := 30) d39_30 rfl (go_iloadN (pc := 31) d39_31 rfl (go_iloadN (pc := 32) d39_32 rfl ?_))
      obtain ⟨r33, e2, hf⟩ := Option.bind_eq_some_iff.mp hf
      refine go_priv (pc := 33) (i := 0) (as := [.int v1, .int v3]) (rest := []) (w' := (none, [(12, r33)])) lk_0_186 pd_38 rfl oid_0 rfl rfl rfl rfl rfl rfl ⟨rfl, rfl, rfl, rfl, rfl⟩ d39_33 (c_k_fillRestLevel v1 v3 s _ e2) ?_
      refine go_iinc (pc := 36) (L' := [.val (.ref 1), .val (.int v1), x2, .val (.int (v3 + (-1 : Int32)))]) d39_36 rfl ci_m1 rfl (go_goto (pc := 39) (pc' := 26) d39_39 j_39_m13 ?_)
      exact ih v1 (v3 + (-1 : Int32)) r33 x2 hx2 _ hf
set_option maxRecDepth 65536 in
set_option maxHeartbeats 4000000 in
theorem k_runRest_2_ok  : ∀ (n : Nat) (v1 : Int32) (s : S) (x2 : Slot) (x3 : Slot) (hx2 : k1 x2) (hx3 : k1 x3) (o : S), k_runRest_2 n v1 s = some o → Go PP m39 2 [.val (.ref 1), .val (.int v1), x2, x3] [] (none, [(12, s)]) (none, (none, [(12, o)])) := by
  intro n
  induction n with
  | zero => intro v1 s x2 x3 hx2 hx3 o hf; exact nomatch hf
  | succ n ih =>
    intro v1 s x2 x3 hx2 hx3 o hf
    unfold k_runRest_2 at hf
    refine go_iloadN (pc := 2) d39_2 rfl (go_aloadN (pc := 3) d39_3 rfl (go_getI (pc := 4) fs_67 hm_39 d39_4 ?_))
    by_cases h1 : v1 < (gI s 3)
    · replace hf := (if_pos h1).symm.trans hf
      refine go_icN (pc := 7) d39_7 (XT.ii_ge_f h1) ?_
      refine go_aloadN (pc := 10) d39_10 rfl (go_iloadN (pc := 11) d39_11 rfl ?_)
      obtain ⟨r12, e2, hf⟩ := Option.bind_eq_some_iff.mp hf
      refine go_priv (pc := 12) (i := 0) (as := [.int v1]) (rest := []) (w' := (none, [(12, r12)])) lk_0_182 pd_35 rfl oid_0 rfl rfl rfl rfl rfl rfl ⟨rfl, rfl, rfl, rfl, rfl⟩ d39_12 (c_k_seedRest v1 s _ e2) ?_
      refine go_aloadN (pc := 15) d39_15 rfl (go_getA (pc := 16) fa_33 hm_39 d39_16 rfl (go_iloadN (pc := 19) d39_19 rfl ?_))
      obtain ⟨a20, e3, hf⟩ := Option.bind_eq_some_iff.mp hf
      refine go_iaload (pc := 20) (q := 6) ar_6 rfl e3 d39_20 ?_
      refine go_istoreN (pc := 21) (L' := [.val (.ref 1), .val (.int v1), .val (.int a20), x3]) d39_21 (stx rfl hx2 rfl) (go_iloadN (pc := 22) d39_22 rfl (go_iconst (pc := 23) d39_23 ci_1 (go_isub (pc := 24) d39_24 (go_istoreN (pc := 25) (L' := [.val (.ref 1), .val (.int v1), .val (.int a20), .val (.int (a20 - (1 : Int32)))]) d39_25 (stx rfl hx3 rfl) ?_))))
      exact k_runRest_26_ok ih BIG v1 (a20 - (1 : Int32)) r12 (.val (.int a20)) (Or.inr ⟨_, rfl, rfl⟩) _ hf
    · replace hf := (if_neg h1).symm.trans hf
      refine go_icY (pc := 7) (pc' := 48) d39_7 (XT.ii_ge_t h1) j_7_41 ?_
      cases hf
      exact go_ret (pc := 48) rfl d39_48
set_option maxRecDepth 65536 in
set_option maxHeartbeats 4000000 in
theorem k_runRest_ok  : ∀  (s : S)  (o : S), k_runRest s = some o → Go PP m39 0 [.val (.ref 1), .unset, .unset, .unset] [] (none, [(12, s)]) (none, (none, [(12, o)])) := by
  intro s o hf
  unfold k_runRest at hf
  refine go_iconst (pc := 0) d39_0 ci_0 (go_istoreN (pc := 1) (L' := [.val (.ref 1), .val (.int (0 : Int32)), .unset, .unset]) d39_1 rfl ?_)
  exact k_runRest_2_ok BIG (0 : Int32) s .unset .unset (Or.inl rfl) (Or.inl rfl) _ hf
theorem c_k_runRest (s : S) (o : S) (hf : k_runRest s = some o) : Call PP m39 [.ref 1] (none, [(12, s)]) (none, (none, [(12, o)])) := call_of_go pl_0 rfl (fun _ => rfl) (k_runRest_ok s   _ hf)
set_option maxRecDepth 65536 in
set_option maxHeartbeats 4000000 in
theorem k_lowerOuter_ok  : ∀ (v1 : Int32) (v2 : Int32) (v3 : Int32) (v4 : Int32) (s : S)  (o : Int32 × S), k_lowerOuter v1 v2 v3 v4 s = some o → Go PP m40 0 [.val (.ref 1), .val (.int v1), .val (.int v2), .val (.int v3), .val (.int v4), .unset] [] (none, [(12, s)]) (some (.int o.1), (none, [(12, o.2)])) := by
  intro v1 v2 v3 v4 s o hf
  unfold k_lowerOuter at hf
  refine go_aloadN (pc := 0) d40_0 rfl (go_iloadN (pc := 1) d40_1 rfl (go_iloadN (pc := 2) d40_2 rfl (go_iloadN (pc := 3) d40_3 rfl ?_)))
  refine go_priv (pc := 4) (i := 0) (as := [.int v1, .int v2, .int v3]) (rest := []) (w' := (none, [(12, s)])) lk_0_139 pd_15 rfl oid_0 rfl rfl rfl rfl rfl rfl ⟨rfl, rfl, rfl, rfl, rfl⟩ d40_4 (c_k_spanSlot v1 v2 v3 s) ?_
  refine go_istore (pc := 7) (L' := [.val (.ref 1), .val (.int v1), .val (.int v2), .val (.int v3), .val (.int v4), .val (.int (k_spanSlot v1 v2 v3 s))]) d40_7 rfl (go_iload (pc := 9) d40_9 rfl ?_)
  by_cases h1 : (k_spanSlot v1 v2 v3 s) < 0
  · replace hf := (if_pos h1).symm.trans hf
    refine go_ifY (pc := 11) (pc' := 26) d40_11 (XT.i0_lt_t h1) j_11_15 ?_
    refine go_iconst (pc := 26) d40_26 ci_0 ?_
    cases hf
    exact go_zret (pc := 27) rfl d40_27 (show (0 : Int32) = nar .boolean (0 : Int32) by decide)
  · replace hf := (if_neg h1).symm.trans hf
    refine go_ifN (pc := 11) d40_11 (XT.i0_lt_f h1) ?_
    refine go_iload (pc := 14) d40_14 rfl (go_aloadN (pc := 16) d40_16 rfl (go_getA (pc := 17) fa_48 hm_40 d40_17 rfl (go_iload (pc := 20) d40_20 rfl ?_)))
    obtain ⟨a22, e2, hf⟩ := Option.bind_eq_some_iff.mp hf
    refine go_iaload (pc := 22) (q := 11) ar_11 rfl e2 d40_22 ?_
    by_cases h3 : v4 < a22
    · replace hf := (if_pos h3).symm.trans hf
      refine go_icY (pc := 23) (pc' := 28) d40_23 (XT.ii_lt_t h3) j_23_5 ?_
      refine go_aloadN (pc := 28) d40_28 rfl (go_getA (pc := 29) fa_48 hm_40 d40_29 rfl (go_iload (pc := 32) d40_32 rfl (go_iload (pc := 34) d40_34 rfl ?_)))
      obtain ⟨a36, e4, hf⟩ := Option.bind_eq_some_iff.mp hf
      refine go_iastore (pc := 36) (q := 11) ar_11 rfl hn_40 e4 d40_36 ?_
      refine go_iconst (pc := 37) d40_37 ci_1 ?_
      cases hf
      exact go_zret (pc := 38) rfl d40_38 (show (1 : Int32) = nar .boolean (1 : Int32) by decide)
    · replace hf := (if_neg h3).symm.trans hf
      refine go_icN (pc := 23) d40_23 (XT.ii_lt_f h3) ?_
      refine go_iconst (pc := 26) d40_26 ci_0 ?_
      cases hf
      exact go_zret (pc := 27) rfl d40_27 (show (0 : Int32) = nar .boolean (0 : Int32) by decide)
theorem c_k_lowerOuter (v1 : Int32) (v2 : Int32) (v3 : Int32) (v4 : Int32) (s : S) (o : Int32 × S) (hf : k_lowerOuter v1 v2 v3 v4 s = some o) : Call PP m40 [.ref 1, .int v1, .int v2, .int v3, .int v4] (none, [(12, s)]) (some (.int o.1), (none, [(12, o.2)])) := call_of_go pl_0 rfl (fun h => nomatch h) (k_lowerOuter_ok v1 v2 v3 v4 s   _ hf)
set_option maxRecDepth 65536 in
set_option maxHeartbeats 4000000 in
theorem k_getOuter_ok  : ∀ (v1 : Int32) (v2 : Int32) (v3 : Int32) (s : S)  (o : Int32), k_getOuter v1 v2 v3 s = some o → Go PP m41 0 [.val (.ref 1), .val (.int v1), .val (.int v2), .val (.int v3), .unset] [] (none, [(12, s)]) (some (.int o), (none, [(12, s)])) := by
  intro v1 v2 v3 s o hf
  unfold k_getOuter at hf
  refine go_aloadN (pc := 0) d41_0 rfl (go_iloadN (pc := 1) d41_1 rfl (go_iloadN (pc := 2) d41_2 rfl (go_iloadN (pc := 3) d41_3 rfl ?_)))
  refine go_priv (pc := 4) (i := 0) (as := [.int v1, .int v2, .int v3]) (rest := []) (w' := (none, [(12, s)])) lk_0_139 pd_15 rfl oid_0 rfl rfl rfl rfl rfl rfl ⟨rfl, rfl, rfl, rfl, rfl⟩ d41_4 (c_k_spanSlot v1 v2 v3 s) ?_
  refine go_istore (pc := 7) (L' := [.val (.ref 1), .val (.int v1), .val (.int v2), .val (.int v3), .val (.int (k_spanSlot v1 v2 v3 s))]) d41_7 rfl (go_iload (pc := 9) d41_9 rfl ?_)
  by_cases h1 : (k_spanSlot v1 v2 v3 s) < 0
  · replace hf := (if_pos h1).symm.trans hf
    refine go_ifN (pc := 11) d41_11 (XT.i0_ge_f h1) ?_
    refine go_aloadN (pc := 14) d41_14 rfl (go_getI (pc := 15) fs_8 hm_41 d41_15 ?_)
    cases hf
    exact go_iret (pc := 18) rfl d41_18
  · replace hf := (if_neg h1).symm.trans hf
    refine go_ifY (pc := 11) (pc' := 19) d41_11 (XT.i0_ge_t h1) j_11_8 ?_
    refine go_aloadN (pc := 19) d41_19 rfl (go_getA (pc := 20) fa_48 hm_41 d41_20 rfl (go_iload (pc := 23) d41_23 rfl ?_))
    obtain ⟨a25, e2, hf⟩ := Option.bind_eq_some_iff.mp hf
    refine go_iaload (pc := 25) (q := 11) ar_11 rfl e2 d41_25 ?_
    cases hf
    exact go_iret (pc := 26) rfl d41_26
theorem c_k_getOuter (v1 : Int32) (v2 : Int32) (v3 : Int32) (s : S) (o : Int32) (hf : k_getOuter v1 v2 v3 s = some o) : Call PP m41 [.ref 1, .int v1, .int v2, .int v3] (none, [(12, s)]) (some (.int o), (none, [(12, s)])) := call_of_go pl_0 rfl (fun h => nomatch h) (k_getOuter_ok v1 v2 v3 s   _ hf)
set_option maxRecDepth 65536 in
set_option maxHeartbeats 4000000 in
theorem k_plus3_ok  : ∀ (v1 : Int32) (v2 : Int32) (v3 : Int32) (s : S)  (o : Int32), k_plus3 v1 v2 v3 s = o → Go PP m42 0 [.val (.ref 1), .val (.int v1), .val (.int v2), .val (.int v3), .unset] [] (none, [(12, s)]) (some (.int o), (none, [(12, s)])) := by
  intro v1 v2 v3 s o hf
  unfold k_plus3 at hf
  refine go_aloadN (pc := 0) d42_0 rfl (go_iloadN (pc := 1) d42_1 rfl (go_iloadN (pc := 2) d42_2 rfl ?_))
  refine go_priv (pc := 3) (i := 0) (as := [.int v1, .int v2]) (rest := []) (w' := (none, [(12, s)])) lk_0_120 pd_26 rfl oid_0 rfl rfl rfl rfl rfl rfl ⟨rfl, rfl, rfl, rfl, rfl⟩ d42_3 (c_k_plus v1 v2 s) ?_
  refine go_istore (pc := 6) (L' := [.val (.ref 1), .val (.int v1), .val (.int v2), .val (.int v3), .val (.int (k_plus v1 v2 s))]) d42_6 rfl (go_aloadN (pc := 8) d42_8 rfl (go_iload (pc := 9) d42_9 rfl (go_iloadN (pc := 11) d42_11 rfl ?_)))
  refine go_priv (pc := 12) (i := 0) (as := [.int (k_plus v1 v2 s), .int v3]) (rest := []) (w' := (none, [(12, s)])) lk_0_120 pd_26 rfl oid_0 rfl rfl rfl rfl rfl rfl ⟨rfl, rfl, rfl, rfl, rfl⟩ d42_12 (c_k_plus (k_plus v1 v2 s) v3 s) ?_
  cases hf
  exact go_iret (pc := 15) rfl d42_15
theorem c_k_plus3 (v1 : Int32) (v2 : Int32) (v3 : Int32) (s : S) : Call PP m42 [.ref 1, .int v1, .int v2, .int v3] (none, [(12, s)]) (some (.int (k_plus3 v1 v2 v3 s)), (none, [(12, s)])) := call_of_go pl_0 rfl (fun h => nomatch h) (k_plus3_ok v1 v2 v3 s   _ rfl)
def T_k_bestContext_24 (k24 : Int32 → Int32 → Int32 → Int32 → Int32 → Int32 → Int32 → Int32 → S → Option Int32) : Prop := ∀ (v1 : Int32) (v2 : Int32) (v3 : Int32) (v4 : Int32) (v5 : Int32) (v6 : Int32) (v7 : Int32) (v8 : Int32) (s : S) (x9 : Slot) (x10 : Slot) (x11 : Slot) (x12 : Slot) (x13 : Slot) (hx9 : k1 x9) (hx10 : k1 x10) (hx11 : k1 x11) (hx12 : k1 x12) (hx13 : k1 x13) (o : Int32), k24 v1 v2 v3 v4 v5 v6 v7 v8 s = some o → Go PP m43 24 [.val (.ref 1), .val (.int v1), .val (.int v2), .val (.int v3), .val (.int v4), .val (.int v5), .val (.int v6), .val (.int v7), .val (.int v8), x9, x10, x11, x12, x13] [] (none, [(12, s)]) (some (.int o), (none, [(12, s)]))
set_option maxRecDepth 65536 in
set_option maxHeartbeats 4000000 in
theorem k_bestContext_34_ok {k24 : Int32 → Int32 → Int32 → Int32 → Int32 → Int32 → Int32 → Int32 → S → Option Int32} (hk24 : T_k_bestContext_24 k24) : ∀ (n : Nat) (v1 : Int32) (v2 : Int32) (v3 : Int32) (v4 : Int32) (v5 : Int32) (v6 : Int32) (v7 : Int32) (v8 : Int32) (v9 : Int32) (s : S) (x10 : Slot) (x11 : Slot) (x12 : Slot) (x13 : Slot) (hx10 : k1 x10) (hx11 : k1 x11) (hx12 : k1 x12) (hx13 : k1 x13) (o : Int32), k_bestContext_34 k24 n v1 v2 v3 v4 v5 v6 v7 v8 v9 s = some o → Go PP m43 34 [.val (.ref 1), .val (.int v1), .val (.int v2), .val (.int v3), .val (.int v4), .val (.int v5), .val (.int v6), .val (.int v7), .val (.int v8), .val (.int v9), x10, x11, x12, x13] [] (none, [(12, s)]) (some (.int o), (none, [(12, s)])) := by
  intro n
  induction n with
  | zero => intro v1 v2 v3 v4 v5 v6 v7 v8 v9 s x10 x11 x12 x13 hx10 hx11 hx12 hx13 o hf; exact nomatch hf
  | succ n ih =>
    intro v1 v2 v3 v4 v5 v6 v7 v8 v9 s x10 x11 x12 x13 hx10 hx11 hx12 hx13 o hf
    unfold k_bestContext_34 at hf
    refine go_iload (pc := 34) d43_34 rfl (go_iload (pc := 36) d43_36 rfl ?_)
    by_cases h1 : v6 < v9
    · replace hf := (if_pos h1).symm.trans hf
      refine go_icY (pc := 38) (pc' := 107) d43_38 (XT.ii_gt_t h1) j_38_69 ?_
      refine go_iinc (pc := 107) (L' := [.val (.ref 1), .val (.int v1), .val (.int v2), .val (.int v3), .val (.int v4), .val (.int v5), .val (.int v6), .val (.int v7), .val (.int (v8 + (1 : Int32))), .val (.int v9), x10, x11, x12, x13]) d43_107 rfl ci_1 rfl (go_goto (pc := 110) (pc' := 24) d43_110 j_110_m86 ?_)
      exact hk24 v1 v2 v3 v4 v5 v6 v7 (v8 + (1 : Int32)) s (.val (.int v9)) x10 x11 x12 x13 (Or.inr ⟨_, rfl, rfl⟩) hx10 hx11 hx12 hx13 _ hf
    · replace hf := (if_neg h1).symm.trans hf
      refine go_icN (pc := 38) d43_38 (XT.ii_gt_f h1) ?_
      refine go_aloadN (pc := 41) d43_41 rfl (go_iload (pc := 42) d43_42 rfl (go_iload (pc := 44) d43_44 rfl (go_iload (pc := 46) d43_46 rfl ?_)))
      obtain ⟨r48, e2, hf⟩ := Option.bind_eq_some_iff.mp hf
      refine go_priv (pc := 48) (i := 0) (as := [.int v5, .int v8, .int v9]) (rest := []) (w' := (none, [(12, s)])) lk_0_117 pd_41 rfl oid_0 rfl rfl rfl rfl rfl rfl ⟨rfl, rfl, rfl, rfl, rfl⟩ d43_48 (c_k_getOuter v5 v8 v9 s _ e2) ?_
      refine go_istore (pc := 51) (L' := [.val (.ref 1), .val (.int v1), .val (.int v2), .val (.int v3), .val (.int v4), .val (.int v5), .val (.int v6), .val (.int v7), .val (.int v8), .val (.int v9), .val (.int r48), x11, x12, x13]) d43_51 (stx rfl hx10 rfl) (go_aloadN (pc := 53) d43_53 rfl (go_iloadN (pc := 54) d43_54 rfl (go_iloadN (pc := 55) d43_55 rfl (go_iload (pc := 56) d43_56 rfl (go_iloadN (pc := 58) d43_58 rfl ?_)))))
      obtain ⟨r59, e3, hf⟩ := Option.bind_eq_some_iff.mp hf
      refine go_priv (pc := 59) (i := 0) (as := [.int v1, .int v2, .int v8, .int v3]) (rest := []) (w' := (none, [(12, s)])) lk_0_176 pd_24 rfl oid_0 rfl rfl rfl rfl rfl rfl ⟨rfl, rfl, rfl, rfl, rfl⟩ d43_59 (c_k_getItem v1 v2 v8 v3 s _ e3) ?_
      refine go_istore (pc := 62) (L' := [.val (.ref 1), .val (.int v1), .val (.int v2), .val (.int v3), .val (.int v4), .val (.int v5), .val (.int v6), .val (.int v7), .val (.int v8), .val (.int v9), .val (.int r48), .val (.int r59), x12, x13]) d43_62 (stx rfl hx11 rfl) (go_aloadN (pc := 64) d43_64 rfl (go_iloadN (pc := 65) d43_65 rfl (go_iloadN (pc := 66) d43_66 rfl (go_iconst (pc := 67) d43_67 ci_1 (go_iadd (pc := 68) d43_68 (go_iload (pc := 69) d43_69 rfl (go_iload (pc := 71) d43_71 rfl ?_)))))))
      obtain ⟨r73, e4, hf⟩ := Option.bind_eq_some_iff.mp hf
      refine go_priv (pc := 73) (i := 0) (as := [.int v1, .int (v2 + (1 : Int32)), .int v4, .int v9]) (rest := []) (w' := (none, [(12, s)])) lk_0_195 pd_36 rfl oid_0 rfl rfl rfl rfl rfl rfl ⟨rfl, rfl, rfl, rfl, rfl⟩ d43_73 (c_k_getRest v1 (v2 + (1 : Int32)) v4 v9 s _ e4) ?_
      refine go_istore (pc := 76) (L' := [.val (.ref 1), .val (.int v1), .val (.int v2), .val (.int v3), .val (.int v4), .val (.int v5), .val (.int v6), .val (.int v7), .val (.int v8), .val (.int v9), .val (.int r48), .val (.int r59), .val (.int r73), x13]) d43_76 (stx rfl hx12 rfl) (go_aloadN (pc := 78) d43_78 rfl (go_iload (pc := 79) d43_79 rfl (go_iload (pc := 81) d43_81 rfl (go_iload (pc := 83) d43_83 rfl ?_))))
      refine go_priv (pc := 85) (i := 0) (as := [.int r48, .int r59, .int r73]) (rest := []) (w' := (none, [(12, s)])) lk_0_213 pd_42 rfl oid_0 rfl rfl rfl rfl rfl rfl ⟨rfl, rfl, rfl, rfl, rfl⟩ d43_85 (c_k_plus3 r48 r59 r73 s) ?_
      refine go_istore (pc := 88) (L' := [.val (.ref 1), .val (.int v1), .val (.int v2), .val (.int v3), .val (.int v4), .val (.int v5), .val (.int v6), .val (.int v7), .val (.int v8), .val (.int v9), .val (.int r48), .val (.int r59), .val (.int r73), .val (.int (k_plus3 r48 r59 r73 s))]) d43_88 (stx rfl hx13 rfl) (go_iload (pc := 90) d43_90 rfl (go_iload (pc := 92) d43_92 rfl ?_))
      by_cases h5 : (k_plus3 r48 r59 r73 s) < v7
      · refine go_icN (pc := 94) d43_94 (XT.ii_ge_f h5) ?_
        refine go_iload (pc := 97) d43_97 rfl (go_istore (pc := 99) (L' := [.val (.ref 1), .val (.int v1), .val (.int v2), .val (.int v3), .val (.int v4), .val (.int v5), .val (.int v6), .val (.int (k_plus3 r48 r59 r73 s)), .val (.int v8), .val (.int v9), .val (.int r48), .val (.int r59), .val (.int r73), .val (.int (k_plus3 r48 r59 r73 s))]) d43_99 rfl (go_iinc (pc := 101) (L' := [.val (.ref 1), .val (.int v1), .val (.int v2), .val (.int v3), .val (.int v4), .val (.int v5), .val (.int v6), .val (.int (k_plus3 r48 r59 r73 s)), .val (.int v8), .val (.int (v9 + (1 : Int32))), .val (.int r48), .val (.int r59), .val (.int r73), .val (.int (k_plus3 r48 r59 r73 s))]) d43_101 rfl ci_1 rfl (go_goto (pc := 104) (pc' := 34) d43_104 j_104_m70 ?_)))
        exact ih v1 v2 v3 v4 v5 v6 (k_plus3 r48 r59 r73 s) v8 (v9 + (1 : Int32)) s (.val (.int r48)) (.val (.int r59)) (.val (.int r73)) (.val (.int (k_plus3 r48 r59 r73 s))) (Or.inr ⟨_, rfl, rfl⟩) (Or.inr ⟨_, rfl, rfl⟩) (Or.inr ⟨_, rfl, rfl⟩) (Or.inr ⟨_, rfl, rfl⟩) _ (by simpa only [if_pos h5] using hf)
      · refine go_icY (pc := 94) (pc' := 101) d43_94 (XT.ii_ge_t h5) j_94_7 ?_
        refine go_iinc (pc := 101) (L' := [.val (.ref 1), .val (.int v1), .val (.int v2), .val (.int v3), .val (.int v4), .val (.int v5), .val (.int v6), .val (.int v7), .val (.int v8), .val (.int (v9 + (1 : Int32))), .val (.int r48), .val (.int r59), .val (.int r73), .val (.int (k_plus3 r48 r59 r73 s))]) d43_101 rfl ci_1 rfl (go_goto (pc := 104) (pc' := 34) d43_104 j_104_m70 ?_)
        exact ih v1 v2 v3 v4 v5 v6 v7 v8 (v9 + (1 : Int32)) s (.val (.int r48)) (.val (.int r59)) (.val (.int r73)) (.val (.int (k_plus3 r48 r59 r73 s))) (Or.inr ⟨_, rfl, rfl⟩) (Or.inr ⟨_, rfl, rfl⟩) (Or.inr ⟨_, rfl, rfl⟩) (Or.inr ⟨_, rfl, rfl⟩) _ (by simpa only [if_neg h5] using hf)
set_option maxRecDepth 65536 in
set_option maxHeartbeats 4000000 in
theorem k_bestContext_24_ok  : ∀ (n : Nat) (v1 : Int32) (v2 : Int32) (v3 : Int32) (v4 : Int32) (v5 : Int32) (v6 : Int32) (v7 : Int32) (v8 : Int32) (s : S) (x9 : Slot) (x10 : Slot) (x11 : Slot) (x12 : Slot) (x13 : Slot) (hx9 : k1 x9) (hx10 : k1 x10) (hx11 : k1 x11) (hx12 : k1 x12) (hx13 : k1 x13) (o : Int32), k_bestContext_24 n v1 v2 v3 v4 v5 v6 v7 v8 s = some o → Go PP m43 24 [.val (.ref 1), .val (.int v1), .val (.int v2), .val (.int v3), .val (.int v4), .val (.int v5), .val (.int v6), .val (.int v7), .val (.int v8), x9, x10, x11, x12, x13] [] (none, [(12, s)]) (some (.int o), (none, [(12, s)])) := by
  intro n
  induction n with
  | zero => intro v1 v2 v3 v4 v5 v6 v7 v8 s x9 x10 x11 x12 x13 hx9 hx10 hx11 hx12 hx13 o hf; exact nomatch hf
  | succ n ih =>
    intro v1 v2 v3 v4 v5 v6 v7 v8 s x9 x10 x11 x12 x13 hx9 hx10 hx11 hx12 hx13 o hf
    unfold k_bestContext_24 at hf
    refine go_iload (pc := 24) d43_24 rfl (go_iloadN (pc := 26) d43_26 rfl ?_)
    by_cases h1 : v3 < v8
    · replace hf := (if_pos h1).symm.trans hf
      refine go_icY (pc := 27) (pc' := 113) d43_27 (XT.ii_gt_t h1) j_27_86 ?_
      refine go_iload (pc := 113) d43_113 rfl ?_
      cases hf
      exact go_iret (pc := 115) rfl d43_115
    · replace hf := (if_neg h1).symm.trans hf
      refine go_icN (pc := 27) d43_27 (XT.ii_gt_f h1) ?_
      refine go_iload (pc := 30) d43_30 rfl (go_istore (pc := 32) (L' := [.val (.ref 1), .val (.int v1), .val (.int v2), .val (.int v3), .val (.int v4), .val (.int v5), .val (.int v6), .val (.int v7), .val (.int v8), .val (.int v4), x10, x11, x12, x13]) d43_32 (stx rfl hx9 rfl) ?_)
      exact k_bestContext_34_ok ih BIG v1 v2 v3 v4 v5 v6 v7 v8 v4 s x10 x11 x12 x13 hx10 hx11 hx12 hx13 _ hf
set_option maxRecDepth 65536 in
set_option maxHeartbeats 4000000 in
theorem k_bestContext_ok  : ∀ (v1 : Int32) (v2 : Int32) (v3 : Int32) (v4 : Int32) (s : S)  (o : Int32), k_bestContext v1 v2 v3 v4 s = some o → Go PP m43 0 [.val (.ref 1), .val (.int v1), .val (.int v2), .val (.int v3), .val (.int v4), .unset, .unset, .unset, .unset, .unset, .unset, .unset, .unset, .unset] [] (none, [(12, s)]) (some (.int o), (none, [(12, s)])) := by
  intro v1 v2 v3 v4 s o hf
  unfold k_bestContext at hf
  refine go_aloadN (pc := 0) d43_0 rfl (go_iloadN (pc := 1) d43_1 rfl ?_)
  obtain ⟨r2, e1, hf⟩ := Option.bind_eq_some_iff.mp hf
  refine go_priv (pc := 2) (i := 0) (as := [.int v1]) (rest := []) (w' := (none, [(12, s)])) lk_0_179 pd_29 rfl oid_0 rfl rfl rfl rfl rfl rfl ⟨rfl, rfl, rfl, rfl, rfl⟩ d43_2 (c_k_headCode v1 s _ e1) ?_
  refine go_istore (pc := 5) (L' := [.val (.ref 1), .val (.int v1), .val (.int v2), .val (.int v3), .val (.int v4), .val (.int r2), .unset, .unset, .unset, .unset, .unset, .unset, .unset, .unset]) d43_5 rfl (go_aloadN (pc := 7) d43_7 rfl (go_getI (pc := 8) fs_55 hm_43 d43_8 (go_iconst (pc := 11) d43_11 ci_1 (go_isub (pc := 12) d43_12 (go_istore (pc := 13) (L' := [.val (.ref 1), .val (.int v1), .val (.int v2), .val (.int v3), .val (.int v4), .val (.int r2), .val (.int ((gI s 1) - (1 : Int32))), .unset, .unset, .unset, .unset, .unset, .unset, .unset]) d43_13 rfl (go_aloadN (pc := 15) d43_15 rfl (go_getI (pc := 16) fs_8 hm_43 d43_16 ?_)))))))
  refine go_istore (pc := 19) (L' := [.val (.ref 1), .val (.int v1), .val (.int v2), .val (.int v3), .val (.int v4), .val (.int r2), .val (.int ((gI s 1) - (1 : Int32))), .val (.int (gI s 0)), .unset, .unset, .unset, .unset, .unset, .unset]) d43_19 rfl (go_iconst (pc := 21) d43_21 ci_0 (go_istore (pc := 22) (L' := [.val (.ref 1), .val (.int v1), .val (.int v2), .val (.int v3), .val (.int v4), .val (.int r2), .val (.int ((gI s 1) - (1 : Int32))), .val (.int (gI s 0)), .val (.int (0 : Int32)), .unset, .unset, .unset, .unset, .unset]) d43_22 rfl ?_))
  exact k_bestContext_24_ok BIG v1 v2 v3 v4 r2 ((gI s 1) - (1 : Int32)) (gI s 0) (0 : Int32) s .unset .unset .unset .unset .unset (Or.inl rfl) (Or.inl rfl) (Or.inl rfl) (Or.inl rfl) (Or.inl rfl) _ hf
theorem c_k_bestContext (v1 : Int32) (v2 : Int32) (v3 : Int32) (v4 : Int32) (s : S) (o : Int32) (hf : k_bestContext v1 v2 v3 v4 s = some o) : Call PP m43 [.ref 1, .int v1, .int v2, .int v3, .int v4] (none, [(12, s)]) (some (.int o), (none, [(12, s)])) := call_of_go pl_0 rfl (fun h => nomatch h) (k_bestContext_ok v1 v2 v3 v4 s   _ hf)
set_option maxRecDepth 65536 in
set_option maxHeartbeats 4000000 in
theorem k_outerRule_14_ok  : ∀ (n : Nat) (v1 : Int32) (v2 : Int32) (v3 : Int32) (v4 : Int32) (v5 : Int32) (v6 : Int32) (s : S) (x7 : Slot) (x8 : Slot) (hx7 : k1 x7) (hx8 : k1 x8) (o : Int32 × S), k_outerRule_14 n v1 v2 v3 v4 v5 v6 s = some o → Go PP m44 14 [.val (.ref 1), .val (.int v1), .val (.int v2), .val (.int v3), .val (.int v4), .val (.int v5), .val (.int v6), x7, x8] [] (none, [(12, s)]) (some (.int o.1), (none, [(12, o.2)])) := by
  intro n
  induction n with
  | zero => intro v1 v2 v3 v4 v5 v6 s x7 x8 hx7 hx8 o hf; exact nomatch hf
  | succ n ih =>
    intro v1 v2 v3 v4 v5 v6 s x7 x8 hx7 hx8 o hf
    unfold k_outerRule_14 at hf
    refine go_iload (pc := 14) d44_14 rfl (go_iload (pc := 16) d44_16 rfl ?_)
    by_cases h1 : v6 < v5
    · replace hf := (if_pos h1).symm.trans hf
      refine go_icN (pc := 18) d44_18 (XT.ii_ge_f h1) ?_
      refine go_aloadN (pc := 21) d44_21 rfl (go_iloadN (pc := 22) d44_22 rfl (go_iload (pc := 23) d44_23 rfl (go_iloadN (pc := 25) d44_25 rfl (go_iloadN (pc := 26) d44_26 rfl ?_))))
      obtain ⟨r27, e2, hf⟩ := Option.bind_eq_some_iff.mp hf
      refine go_priv (pc := 27) (i := 0) (as := [.int v1, .int v6, .int v2, .int v3]) (rest := []) (w' := (none, [(12, s)])) lk_0_210 pd_43 rfl oid_0 rfl rfl rfl rfl rfl rfl ⟨rfl, rfl, rfl, rfl, rfl⟩ d44_27 (c_k_bestContext v1 v6 v2 v3 s _ e2) ?_
      refine go_istore (pc := 30) (L' := [.val (.ref 1), .val (.int v1), .val (.int v2), .val (.int v3), .val (.int v4), .val (.int v5), .val (.int v6), .val (.int r27), x8]) d44_30 (stx rfl hx7 rfl) (go_aloadN (pc := 32) d44_32 rfl (go_iloadN (pc := 33) d44_33 rfl (go_iload (pc := 34) d44_34 rfl ?_)))
      obtain ⟨r36, e3, hf⟩ := Option.bind_eq_some_iff.mp hf
      refine go_priv (pc := 36) (i := 0) (as := [.int v1, .int v6]) (rest := []) (w' := (none, [(12, s)])) lk_0_84 pd_23 rfl oid_0 rfl rfl rfl rfl rfl rfl ⟨rfl, rfl, rfl, rfl, rfl⟩ d44_36 (c_k_symbolAt v1 v6 s _ e3) ?_
      refine go_istore (pc := 39) (L' := [.val (.ref 1), .val (.int v1), .val (.int v2), .val (.int v3), .val (.int v4), .val (.int v5), .val (.int v6), .val (.int r27), .val (.int r36)]) d44_39 (stx rfl hx8 rfl) (go_aloadN (pc := 41) d44_41 rfl (go_iload (pc := 42) d44_42 rfl (go_iloadN (pc := 44) d44_44 rfl (go_iloadN (pc := 45) d44_45 rfl (go_iload (pc := 46) d44_46 rfl ?_)))))
      obtain ⟨r48, e4, hf⟩ := Option.bind_eq_some_iff.mp hf
      refine go_priv (pc := 48) (i := 0) (as := [.int r36, .int v2, .int v3, .int r27]) (rest := []) (w' := (none, [(12, r48.2)])) lk_0_198 pd_40 rfl oid_0 rfl rfl rfl rfl rfl rfl ⟨rfl, rfl, rfl, rfl, rfl⟩ d44_48 (c_k_lowerOuter r36 v2 v3 r27 s _ e4) ?_
      by_cases h5 : r48.1 = 0
      · refine go_ifY (pc := 51) (pc' := 57) d44_51 (XT.i0_eq_t h5) j_51_6 ?_
        refine go_iinc (pc := 57) (L' := [.val (.ref 1), .val (.int v1), .val (.int v2), .val (.int v3), .val (.int v4), .val (.int v5), .val (.int (v6 + (1 : Int32))), .val (.int r27), .val (.int r36)]) d44_57 rfl ci_1 rfl (go_goto (pc := 60) (pc' := 14) d44_60 j_60_m46 ?_)
        exact ih v1 v2 v3 v4 v5 (v6 + (1 : Int32)) r48.2 (.val (.int r27)) (.val (.int r36)) (Or.inr ⟨_, rfl, rfl⟩) (Or.inr ⟨_, rfl, rfl⟩) _ (by simpa only [if_pos h5] using hf)
      · refine go_ifN (pc := 51) d44_51 (XT.i0_eq_f h5) ?_
        refine go_iconst (pc := 54) d44_54 ci_1 (go_istore (pc := 55) (L' := [.val (.ref 1), .val (.int v1), .val (.int v2), .val (.int v3), .val (.int (1 : Int32)), .val (.int v5), .val (.int v6), .val (.int r27), .val (.int r36)]) d44_55 rfl (go_iinc (pc := 57) (L' := [.val (.ref 1), .val (.int v1), .val (.int v2), .val (.int v3), .val (.int (1 : Int32)), .val (.int v5), .val (.int (v6 + (1 : Int32))), .val (.int r27), .val (.int r36)]) d44_57 rfl ci_1 rfl (go_goto (pc := 60) (pc' := 14) d44_60 j_60_m46 ?_)))
        exact ih v1 v2 v3 (1 : Int32) v5 (v6 + (1 : Int32)) r48.2 (.val (.int r27)) (.val (.int r36)) (Or.inr ⟨_, rfl, rfl⟩) (Or.inr ⟨_, rfl, rfl⟩) _ (by simpa only [if_neg h5] using hf)
    · replace hf := (if_neg h1).symm.trans hf
      refine go_icY (pc := 18) (pc' := 63) d44_18 (XT.ii_ge_t h1) j_18_45 ?_
      refine go_iload (pc := 63) d44_63 rfl ?_
      cases hf
      exact go_zret (pc := 65) rfl d44_65 rfl
set_option maxRecDepth 65536 in
set_option maxHeartbeats 4000000 in
theorem k_outerRule_ok  : ∀ (v1 : Int32) (v2 : Int32) (v3 : Int32) (s : S)  (o : Int32 × S), k_outerRule v1 v2 v3 s = some o → Go PP m44 0 [.val (.ref 1), .val (.int v1), .val (.int v2), .val (.int v3), .unset, .unset, .unset, .unset, .unset] [] (none, [(12, s)]) (some (.int o.1), (none, [(12, o.2)])) := by
  intro v1 v2 v3 s o hf
  unfold k_outerRule at hf
  refine go_iconst (pc := 0) d44_0 ci_0 (go_istore (pc := 1) (L' := [.val (.ref 1), .val (.int v1), .val (.int v2), .val (.int v3), .val (.int (0 : Int32)), .unset, .unset, .unset, .unset]) d44_1 rfl (go_aloadN (pc := 3) d44_3 rfl (go_getA (pc := 4) fa_33 hm_44 d44_4 rfl (go_iloadN (pc := 7) d44_7 rfl ?_))))
  obtain ⟨a8, e1, hf⟩ := Option.bind_eq_some_iff.mp hf
  refine go_iaload (pc := 8) (q := 6) ar_6 rfl e1 d44_8 ?_
  refine go_istore (pc := 9) (L' := [.val (.ref 1), .val (.int v1), .val (.int v2), .val (.int v3), .val (.int (0 : Int32)), .val (.int a8), .unset, .unset, .unset]) d44_9 rfl (go_iconst (pc := 11) d44_11 ci_0 (go_istore (pc := 12) (L' := [.val (.ref 1), .val (.int v1), .val (.int v2), .val (.int v3), .val (.int (0 : Int32)), .val (.int a8), .val (.int (0 : Int32)), .unset, .unset]) d44_12 rfl ?_))
  exact k_outerRule_14_ok BIG v1 v2 v3 (0 : Int32) a8 (0 : Int32) s .unset .unset (Or.inl rfl) (Or.inl rfl) _ hf
theorem c_k_outerRule (v1 : Int32) (v2 : Int32) (v3 : Int32) (s : S) (o : Int32 × S) (hf : k_outerRule v1 v2 v3 s = some o) : Call PP m44 [.ref 1, .int v1, .int v2, .int v3] (none, [(12, s)]) (some (.int o.1), (none, [(12, o.2)])) := call_of_go pl_0 rfl (fun h => nomatch h) (k_outerRule_ok v1 v2 v3 s   _ hf)
set_option maxRecDepth 65536 in
set_option maxHeartbeats 4000000 in
theorem k_outerRound_5_ok  : ∀ (n : Nat) (v1 : Int32) (v2 : Int32) (v3 : Int32) (v4 : Int32) (s : S)  (o : Int32 × S), k_outerRound_5 n v1 v2 v3 v4 s = some o → Go PP m45 5 [.val (.ref 1), .val (.int v1), .val (.int v2), .val (.int v3), .val (.int v4)] [] (none, [(12, s)]) (some (.int o.1), (none, [(12, o.2)])) := by
  intro n
  induction n with
  | zero => intro v1 v2 v3 v4 s o hf; exact nomatch hf
  | succ n ih =>
    intro v1 v2 v3 v4 s o hf
    unfold k_outerRound_5 at hf
    refine go_iload (pc := 5) d45_5 rfl (go_aloadN (pc := 7) d45_7 rfl (go_getI (pc := 8) fs_67 hm_45 d45_8 ?_))
    by_cases h1 : v4 < (gI s 3)
    · replace hf := (if_pos h1).symm.trans hf
      refine go_icN (pc := 11) d45_11 (XT.ii_ge_f h1) ?_
      refine go_aloadN (pc := 14) d45_14 rfl (go_iload (pc := 15) d45_15 rfl (go_iloadN (pc := 17) d45_17 rfl (go_iloadN (pc := 18) d45_18 rfl ?_)))
      obtain ⟨r19, e2, hf⟩ := Option.bind_eq_some_iff.mp hf
      refine go_priv (pc := 19) (i := 0) (as := [.int v4, .int v1, .int v2]) (rest := []) (w' := (none, [(12, r19.2)])) lk_0_207 pd_44 rfl oid_0 rfl rfl rfl rfl rfl rfl ⟨rfl, rfl, rfl, rfl, rfl⟩ d45_19 (c_k_outerRule v4 v1 v2 s _ e2) ?_
      by_cases h3 : r19.1 = 0
      · refine go_ifY (pc := 22) (pc' := 27) d45_22 (XT.i0_eq_t h3) j_22_5 ?_
        refine go_iinc (pc := 27) (L' := [.val (.ref 1), .val (.int v1), .val (.int v2), .val (.int v3), .val (.int (v4 + (1 : Int32)))]) d45_27 rfl ci_1 rfl (go_goto (pc := 30) (pc' := 5) d45_30 j_30_m25 ?_)
        exact ih v1 v2 v3 (v4 + (1 : Int32)) r19.2 _ (by simpa only [if_pos h3] using hf)
      · refine go_ifN (pc := 22) d45_22 (XT.i0_eq_f h3) ?_
        refine go_iconst (pc := 25) d45_25 ci_1 (go_istoreN (pc := 26) (L' := [.val (.ref 1), .val (.int v1), .val (.int v2), .val (.int (1 : Int32)), .val (.int v4)]) d45_26 rfl (go_iinc (pc := 27) (L' := [.val (.ref 1), .val (.int v1), .val (.int v2), .val (.int (1 : Int32)), .val (.int (v4 + (1 : Int32)))]) d45_27 rfl ci_1 rfl (go_goto (pc := 30) (pc' := 5) d45_30 j_30_m25 ?_)))
        exact ih v1 v2 (1 : Int32) (v4 + (1 : Int32)) r19.2 _ (by simpa only [if_neg h3] using hf)
    · replace hf := (if_neg h1).symm.trans hf
      refine go_icY (pc := 11) (pc' := 33) d45_11 (XT.ii_ge_t h1) j_11_22 ?_
      refine go_iloadN (pc := 33) d45_33 rfl ?_
      cases hf
      exact go_zret (pc := 34) rfl d45_34 rfl
set_option maxRecDepth 65536 in
set_option maxHeartbeats 4000000 in
theorem k_outerRound_ok  : ∀ (v1 : Int32) (v2 : Int32) (s : S)  (o : Int32 × S), k_outerRound v1 v2 s = some o → Go PP m45 0 [.val (.ref 1), .val (.int v1), .val (.int v2), .unset, .unset] [] (none, [(12, s)]) (some (.int o.1), (none, [(12, o.2)])) := by
  intro v1 v2 s o hf
  unfold k_outerRound at hf
  refine go_iconst (pc := 0) d45_0 ci_0 (go_istoreN (pc := 1) (L' := [.val (.ref 1), .val (.int v1), .val (.int v2), .val (.int (0 : Int32)), .unset]) d45_1 rfl (go_iconst (pc := 2) d45_2 ci_0 (go_istore (pc := 3) (L' := [.val (.ref 1), .val (.int v1), .val (.int v2), .val (.int (0 : Int32)), .val (.int (0 : Int32))]) d45_3 rfl ?_)))
  exact k_outerRound_5_ok BIG v1 v2 (0 : Int32) (0 : Int32) s _ hf
theorem c_k_outerRound (v1 : Int32) (v2 : Int32) (s : S) (o : Int32 × S) (hf : k_outerRound v1 v2 s = some o) : Call PP m45 [.ref 1, .int v1, .int v2] (none, [(12, s)]) (some (.int o.1), (none, [(12, o.2)])) := call_of_go pl_0 rfl (fun h => nomatch h) (k_outerRound_ok v1 v2 s   _ hf)
set_option maxRecDepth 65536 in
set_option maxHeartbeats 4000000 in
theorem k_closeOuterCell_5_ok  : ∀ (n : Nat) (v1 : Int32) (v2 : Int32) (v3 : Int32) (v4 : Int32) (s : S)  (o : S), k_closeOuterCell_5 n v1 v2 v3 v4 s = some o → Go PP m46 5 [.val (.ref 1), .val (.int v1), .val (.int v2), .val (.int v3), .val (.int v4)] [] (none, [(12, s)]) (none, (none, [(12, o)])) := by
  intro n
  induction n with
  | zero => intro v1 v2 v3 v4 s o hf; exact nomatch hf
  | succ n ih =>
    intro v1 v2 v3 v4 s o hf
    unfold k_closeOuterCell_5 at hf
    refine go_iloadN (pc := 5) d46_5 rfl ?_
    by_cases h1 : v3 = 0
    · replace hf := (if_pos h1).symm.trans hf
      refine go_ifY (pc := 6) (pc' := 29) d46_6 (XT.i0_eq_t h1) j_6_23 ?_
      cases hf
      exact go_ret (pc := 29) rfl d46_29
    · replace hf := (if_neg h1).symm.trans hf
      refine go_ifN (pc := 6) d46_6 (XT.i0_eq_f h1) ?_
      refine go_iload (pc := 9) d46_9 rfl (go_bipush (pc := 11) d46_11 cb_24 ?_)
      by_cases h2 : v4 < (24 : Int32)
      · replace hf := (if_pos h2).symm.trans hf
        refine go_icN (pc := 13) d46_13 (XT.ii_ge_f h2) ?_
        refine go_aloadN (pc := 16) d46_16 rfl (go_iloadN (pc := 17) d46_17 rfl (go_iloadN (pc := 18) d46_18 rfl ?_))
        obtain ⟨r19, e3, hf⟩ := Option.bind_eq_some_iff.mp hf
        refine go_priv (pc := 19) (i := 0) (as := [.int v1, .int v2]) (rest := []) (w' := (none, [(12, r19.2)])) lk_0_204 pd_45 rfl oid_0 rfl rfl rfl rfl rfl rfl ⟨rfl, rfl, rfl, rfl, rfl⟩ d46_19 (c_k_outerRound v1 v2 s _ e3) ?_
        refine go_istoreN (pc := 22) (L' := [.val (.ref 1), .val (.int v1), .val (.int v2), .val (.int r19.1), .val (.int v4)]) d46_22 rfl (go_iinc (pc := 23) (L' := [.val (.ref 1), .val (.int v1), .val (.int v2), .val (.int r19.1), .val (.int (v4 + (1 : Int32)))]) d46_23 rfl ci_1 rfl (go_goto (pc := 26) (pc' := 5) d46_26 j_26_m21 ?_))
        exact ih v1 v2 r19.1 (v4 + (1 : Int32)) r19.2 _ hf
      · replace hf := (if_neg h2).symm.trans hf
        refine go_icY (pc := 13) (pc' := 29) d46_13 (XT.ii_ge_t h2) j_13_16 ?_
        cases hf
        exact go_ret (pc := 29) rfl d46_29
set_option maxRecDepth 65536 in
set_option maxHeartbeats 4000000 in
theorem k_closeOuterCell_ok  : ∀ (v1 : Int32) (v2 : Int32) (s : S)  (o : S), k_closeOuterCell v1 v2 s = some o → Go PP m46 0 [.val (.ref 1), .val (.int v1), .val (.int v2), .unset, .unset] [] (none, [(12, s)]) (none, (none, [(12, o)])) := by
  intro v1 v2 s o hf
  unfold k_closeOuterCell at hf
  refine go_iconst (pc := 0) d46_0 ci_1 (go_istoreN (pc := 1) (L' := [.val (.ref 1), .val (.int v1), .val (.int v2), .val (.int (1 : Int32)), .unset]) d46_1 rfl (go_iconst (pc := 2) d46_2 ci_0 (go_istore (pc := 3) (L' := [.val (.ref 1), .val (.int v1), .val (.int v2), .val (.int (1 : Int32)), .val (.int (0 : Int32))]) d46_3 rfl ?_)))
  exact k_closeOuterCell_5_ok BIG v1 v2 (1 : Int32) (0 : Int32) s _ hf
theorem c_k_closeOuterCell (v1 : Int32) (v2 : Int32) (s : S) (o : S) (hf : k_closeOuterCell v1 v2 s = some o) : Call PP m46 [.ref 1, .int v1, .int v2] (none, [(12, s)]) (none, (none, [(12, o)])) := call_of_go pl_0 rfl (fun _ => rfl) (k_closeOuterCell_ok v1 v2 s   _ hf)
def T_k_runOuter_19 (k19 : Int32 → Int32 → S → Option S) : Prop := ∀ (v1 : Int32) (v2 : Int32) (s : S) (x3 : Slot) (hx3 : k1 x3) (o : S), k19 v1 v2 s = some o → Go PP m47 19 [.val (.ref 1), .val (.int v1), .val (.int v2), x3] [] (none, [(12, s)]) (none, (none, [(12, o)]))
set_option maxRecDepth 65536 in
set_option maxHeartbeats 4000000 in
theorem k_runOuter_25_ok {k19 : Int32 → Int32 → S → Option S} (hk19 : T_k_runOuter_19 k19) : ∀ (n : Nat) (v1 : Int32) (v2 : Int32) (v3 : Int32) (s : S)  (o : S), k_runOuter_25 k19 n v1 v2 v3 s = some o → Go PP m47 25 [.val (.ref 1), .val (.int v1), .val (.int v2), .val (.int v3)] [] (none, [(12, s)]) (none, (none, [(12, o)])) := by
  intro n
  induction n with
  | zero => intro v1 v2 v3 s o hf; exact nomatch hf
  | succ n ih =>
    intro v1 v2 v3 s o hf
    unfold k_runOuter_25 at hf
    refine go_iloadN (pc := 25) d47_25 rfl (go_iloadN (pc := 26) d47_26 rfl (go_iadd (pc := 27) d47_27 (go_iloadN (pc := 28) d47_28 rfl ?_)))
    by_cases h1 : v1 < (v3 + v2)
    · replace hf := (if_pos h1).symm.trans hf
      refine go_icY (pc := 29) (pc' := 46) d47_29 (XT.ii_gt_t h1) j_29_17 ?_
      refine go_iinc (pc := 46) (L' := [.val (.ref 1), .val (.int v1), .val (.int (v2 + (-1 : Int32))), .val (.int v3)]) d47_46 rfl ci_m1 rfl (go_goto (pc := 49) (pc' := 19) d47_49 j_49_m30 ?_)
      exact hk19 v1 (v2 + (-1 : Int32)) s (.val (.int v3)) (Or.inr ⟨_, rfl, rfl⟩) _ hf
    · replace hf := (if_neg h1).symm.trans hf
      refine go_icN (pc := 29) d47_29 (XT.ii_gt_f h1) ?_
      refine go_aloadN (pc := 32) d47_32 rfl (go_iloadN (pc := 33) d47_33 rfl (go_iloadN (pc := 34) d47_34 rfl (go_iloadN (pc := 35) d47_35 rfl (go_iadd (pc := 36) d47_36 ?_))))
      obtain ⟨r37, e2, hf⟩ := Option.bind_eq_some_iff.mp hf
      refine go_priv (pc := 37) (i := 0) (as := [.int v3, .int (v3 + v2)]) (rest := []) (w' := (none, [(12, r37)])) lk_0_201 pd_46 rfl oid_0 rfl rfl rfl rfl rfl rfl ⟨rfl, rfl, rfl, rfl, rfl⟩ d47_37 (c_k_closeOuterCell v3 (v3 + v2) s _ e2) ?_
      refine go_iinc (pc := 40) (L' := [.val (.ref 1), .val (.int v1), .val (.int v2), .val (.int (v3 + (1 : Int32)))]) d47_40 rfl ci_1 rfl (go_goto (pc := 43) (pc' := 25) d47_43 j_43_m18 ?_)
      exact ih v1 v2 (v3 + (1 : Int32)) r37 _ hf
set_option maxRecDepth 65536 in
set_option maxHeartbeats 4000000 in
theorem k_runOuter_19_ok  : ∀ (n : Nat) (v1 : Int32) (v2 : Int32) (s : S) (x3 : Slot) (hx3 : k1 x3) (o : S), k_runOuter_19 n v1 v2 s = some o → Go PP m47 19 [.val (.ref 1), .val (.int v1), .val (.int v2), x3] [] (none, [(12, s)]) (none, (none, [(12, o)])) := by
  intro n
  induction n with
  | zero => intro v1 v2 s x3 hx3 o hf; exact nomatch hf
  | succ n ih =>
    intro v1 v2 s x3 hx3 o hf
    unfold k_runOuter_19 at hf
    refine go_iloadN (pc := 19) d47_19 rfl ?_
    by_cases h1 : v2 < 0
    · replace hf := (if_pos h1).symm.trans hf
      refine go_ifY (pc := 20) (pc' := 52) d47_20 (XT.i0_lt_t h1) j_20_32 ?_
      cases hf
      exact go_ret (pc := 52) rfl d47_52
    · replace hf := (if_neg h1).symm.trans hf
      refine go_ifN (pc := 20) d47_20 (XT.i0_lt_f h1) ?_
      refine go_iconst (pc := 23) d47_23 ci_0 (go_istoreN (pc := 24) (L' := [.val (.ref 1), .val (.int v1), .val (.int v2), .val (.int (0 : Int32))]) d47_24 (stx rfl hx3 rfl) ?_)
      exact k_runOuter_25_ok ih BIG v1 v2 (0 : Int32) s _ hf
set_option maxRecDepth 65536 in
set_option maxHeartbeats 4000000 in
theorem k_runOuter_ok  : ∀  (s : S)  (o : S), k_runOuter s = some o → Go PP m47 0 [.val (.ref 1), .unset, .unset, .unset] [] (none, [(12, s)]) (none, (none, [(12, o)])) := by
  intro s o hf
  unfold k_runOuter at hf
  refine go_aloadN (pc := 0) d47_0 rfl (go_getI (pc := 1) fs_55 hm_47 d47_1 (go_iconst (pc := 4) d47_4 ci_1 (go_isub (pc := 5) d47_5 (go_istoreN (pc := 6) (L' := [.val (.ref 1), .val (.int ((gI s 1) - (1 : Int32))), .unset, .unset]) d47_6 rfl (go_aloadN (pc := 7) d47_7 rfl (go_bipush (pc := 8) d47_8 cb_8 (go_iconst (pc := 10) d47_10 ci_0 ?_)))))))
  refine go_iloadN (pc := 11) d47_11 rfl (go_iconst (pc := 12) d47_12 ci_0 ?_)
  obtain ⟨r13, e1, hf⟩ := Option.bind_eq_some_iff.mp hf
  refine go_priv (pc := 13) (i := 0) (as := [.int (8 : Int32), .int (0 : Int32), .int ((gI s 1) - (1 : Int32)), .int (0 : Int32)]) (rest := []) (w' := (none, [(12, r13.2)])) lk_0_198 pd_40 rfl oid_0 rfl rfl rfl rfl rfl rfl ⟨rfl, rfl, rfl, rfl, rfl⟩ d47_13 (c_k_lowerOuter (8 : Int32) (0 : Int32) ((gI s 1) - (1 : Int32)) (0 : Int32) s _ e1) ?_
  refine go_pop (pc := 16) d47_16 (go_iloadN (pc := 17) d47_17 rfl (go_istoreN (pc := 18) (L' := [.val (.ref 1), .val (.int ((gI s 1) - (1 : Int32))), .val (.int ((gI s 1) - (1 : Int32))), .unset]) d47_18 rfl ?_))
  exact k_runOuter_19_ok BIG ((gI s 1) - (1 : Int32)) ((gI s 1) - (1 : Int32)) r13.2 .unset (Or.inl rfl) _ hf
theorem c_k_runOuter (s : S) (o : S) (hf : k_runOuter s = some o) : Call PP m47 [.ref 1] (none, [(12, s)]) (none, (none, [(12, o)])) := call_of_go pl_0 rfl (fun _ => rfl) (k_runOuter_ok s   _ hf)
set_option maxRecDepth 65536 in
set_option maxHeartbeats 4000000 in
theorem k_parse_63_ok  : ∀  (s : S) (x1 : Slot) (x2 : Slot) (hx1 : k1 x1) (hx2 : k1 x2) (o : Int32 × S), k_parse_63 s = some o → Go PP m48 63 [.val (.ref 1), x1, x2] [] (none, [(12, s)]) (some (.int o.1), (none, [(12, o.2)])) := by
  intro s x1 x2 hx1 hx2 o hf
  unfold k_parse_63 at hf
  refine go_aloadN (pc := 63) d48_63 rfl (go_getI (pc := 64) fs_95 hm_48 d48_64 (go_iconst (pc := 67) d48_67 ci_1 ?_))
  by_cases h1 : (gI s 4) = (1 : Int32)
  · replace hf := (if_pos h1).symm.trans hf
    refine go_icN (pc := 68) d48_68 (XT.ii_ne_f h1) ?_
    refine go_iconst (pc := 71) d48_71 ci_1 (go_goto (pc := 72) (pc' := 76) d48_72 j_72_4 ?_)
    cases hf
    exact go_zret (pc := 76) rfl d48_76 (show (1 : Int32) = nar .boolean (1 : Int32) by decide)
  · replace hf := (if_neg h1).symm.trans hf
    refine go_icY (pc := 68) (pc' := 75) d48_68 (XT.ii_ne_t h1) j_68_7 ?_
    refine go_iconst (pc := 75) d48_75 ci_0 ?_
    cases hf
    exact go_zret (pc := 76) rfl d48_76 (show (0 : Int32) = nar .boolean (0 : Int32) by decide)
set_option maxRecDepth 65536 in
set_option maxHeartbeats 4000000 in
theorem k_parse_ok  : ∀  (s : S)  (o : Int32 × S), k_parse s = some o → Go PP m48 0 [.val (.ref 1), .unset, .unset] [] (none, [(12, s)]) (some (.int o.1), (none, [(12, o.2)])) := by
  intro s o hf
  unfold k_parse at hf
  refine go_aloadN (pc := 0) d48_0 rfl ?_
  obtain ⟨r1, e1, hf⟩ := Option.bind_eq_some_iff.mp hf
  refine go_priv (pc := 1) (i := 0) (as := []) (rest := []) (w' := (none, [(12, r1)])) lk_0_61 pd_3 rfl oid_0 rfl rfl rfl rfl rfl rfl ⟨rfl, rfl, rfl, rfl, rfl⟩ d48_1 (c_k_clearTables s _ e1) ?_
  refine go_aloadN (pc := 4) d48_4 rfl ?_
  obtain ⟨r5, e2, hf⟩ := Option.bind_eq_some_iff.mp hf
  refine go_priv (pc := 5) (i := 0) (as := []) (rest := []) (w' := (none, [(12, r5)])) lk_0_88 pd_33 rfl oid_0 rfl rfl rfl rfl rfl rfl ⟨rfl, rfl, rfl, rfl, rfl⟩ d48_5 (c_k_runInside r1 _ e2) ?_
  refine go_aloadN (pc := 8) d48_8 rfl (go_getI (pc := 9) fs_55 hm_48 d48_9 (go_iconst (pc := 12) d48_12 ci_1 (go_isub (pc := 13) d48_13 (go_istoreN (pc := 14) (L' := [.val (.ref 1), .val (.int ((gI r5 1) - (1 : Int32))), .unset]) d48_14 rfl (go_aloadN (pc := 15) d48_15 rfl (go_bipush (pc := 16) d48_16 cb_8 (go_iconst (pc := 18) d48_18 ci_0 ?_)))))))
  refine go_iloadN (pc := 19) d48_19 rfl ?_
  obtain ⟨r20, e3, hf⟩ := Option.bind_eq_some_iff.mp hf
  refine go_priv (pc := 20) (i := 0) (as := [.int (8 : Int32), .int (0 : Int32), .int ((gI r5 1) - (1 : Int32))]) (rest := []) (w' := (none, [(12, r5)])) lk_0_91 pd_25 rfl oid_0 rfl rfl rfl rfl rfl rfl ⟨rfl, rfl, rfl, rfl, rfl⟩ d48_20 (c_k_getSpan (8 : Int32) (0 : Int32) ((gI r5 1) - (1 : Int32)) r5 _ e3) ?_
  refine go_istoreN (pc := 23) (L' := [.val (.ref 1), .val (.int ((gI r5 1) - (1 : Int32))), .val (.int r20)]) d48_23 rfl (go_iloadN (pc := 24) d48_24 rfl (go_aloadN (pc := 25) d48_25 rfl (go_getI (pc := 26) fs_8 hm_48 d48_26 ?_)))
  by_cases h4 : r20 < (gI r5 0)
  · replace hf := (if_pos h4).symm.trans hf
    refine go_icN (pc := 29) d48_29 (XT.ii_ge_f h4) ?_
    refine go_aloadN (pc := 32) d48_32 rfl (go_iconst (pc := 33) d48_33 ci_1 (go_putI (pc := 34) fs_95 hm_48 (wr_4 _) hn_48 d48_34 (go_aloadN (pc := 37) d48_37 rfl (go_iloadN (pc := 38) d48_38 rfl (go_putI (pc := 39) fs_98 hm_48 (wr_5 _) hn_48 d48_39 (go_aloadN (pc := 42) d48_42 rfl ?_))))))
    obtain ⟨r43, e5, hf⟩ := Option.bind_eq_some_iff.mp hf
    refine go_priv (pc := 43) (i := 0) (as := []) (rest := []) (w' := (none, [(12, r43)])) lk_0_101 pd_39 rfl oid_0 rfl rfl rfl rfl rfl rfl ⟨rfl, rfl, rfl, rfl, rfl⟩ d48_43 (c_k_runRest (sI (sI r5 4 (1 : Int32)) 5 r20) _ e5) ?_
    refine go_aloadN (pc := 46) d48_46 rfl ?_
    obtain ⟨r47, e6, hf⟩ := Option.bind_eq_some_iff.mp hf
    refine go_priv (pc := 47) (i := 0) (as := []) (rest := []) (w' := (none, [(12, r47)])) lk_0_104 pd_47 rfl oid_0 rfl rfl rfl rfl rfl rfl ⟨rfl, rfl, rfl, rfl, rfl⟩ d48_47 (c_k_runOuter r43 _ e6) ?_
    refine go_goto (pc := 50) (pc' := 63) d48_50 j_50_13 ?_
    exact k_parse_63_ok r47 (.val (.int ((gI r5 1) - (1 : Int32)))) (.val (.int r20)) (Or.inr ⟨_, rfl, rfl⟩) (Or.inr ⟨_, rfl, rfl⟩) _ hf
  · replace hf := (if_neg h4).symm.trans hf
    refine go_icY (pc := 29) (pc' := 53) d48_29 (XT.ii_ge_t h4) j_29_24 ?_
    refine go_aloadN (pc := 53) d48_53 rfl (go_iconst (pc := 54) d48_54 ci_2 (go_putI (pc := 55) fs_95 hm_48 (wr_4 _) hn_48 d48_55 (go_aloadN (pc := 58) d48_58 rfl (go_iconst (pc := 59) d48_59 ci_m1 (go_putI (pc := 60) fs_98 hm_48 (wr_5 _) hn_48 d48_60 ?_)))))
    exact k_parse_63_ok (sI (sI r5 4 (2 : Int32)) 5 (-1 : Int32)) (.val (.int ((gI r5 1) - (1 : Int32)))) (.val (.int r20)) (Or.inr ⟨_, rfl, rfl⟩) (Or.inr ⟨_, rfl, rfl⟩) _ hf
theorem c_k_parse (s : S) (o : Int32 × S) (hf : k_parse s = some o) : Call PP m48 [.ref 1] (none, [(12, s)]) (some (.int o.1), (none, [(12, o.2)])) := call_of_go pl_0 rfl (fun h => nomatch h) (k_parse_ok s   _ hf)
set_option maxRecDepth 65536 in
set_option maxHeartbeats 4000000 in
theorem k_reset_ok  : ∀  (s : S)  (o : S), k_reset s = some o → Go PP m49 0 [.val (.ref 1)] [] (none, [(12, s)]) (none, (none, [(12, o)])) := by
  intro s o hf
  unfold k_reset at hf
  refine go_aloadN (pc := 0) d49_0 rfl ?_
  obtain ⟨r1, e1, hf⟩ := Option.bind_eq_some_iff.mp hf
  refine go_priv (pc := 1) (i := 0) (as := []) (rest := []) (w' := (none, [(12, r1)])) lk_0_58 pd_2 rfl oid_0 rfl rfl rfl rfl rfl rfl ⟨rfl, rfl, rfl, rfl, rfl⟩ d49_1 (c_k_clearStore s _ e1) ?_
  refine go_aloadN (pc := 4) d49_4 rfl ?_
  obtain ⟨r5, e2, hf⟩ := Option.bind_eq_some_iff.mp hf
  refine go_priv (pc := 5) (i := 0) (as := []) (rest := []) (w' := (none, [(12, r5)])) lk_0_61 pd_3 rfl oid_0 rfl rfl rfl rfl rfl rfl ⟨rfl, rfl, rfl, rfl, rfl⟩ d49_5 (c_k_clearTables r1 _ e2) ?_
  cases hf
  exact go_ret (pc := 8) rfl d49_8
theorem c_k_reset (s : S) (o : S) (hf : k_reset s = some o) : Call PP m49 [.ref 1] (none, [(12, s)]) (none, (none, [(12, o)])) := call_of_go pl_0 rfl (fun _ => rfl) (k_reset_ok s   _ hf)
set_option maxRecDepth 65536 in
set_option maxHeartbeats 4000000 in
theorem k_edgeCount_ok  : ∀  (s : S)  (o : Int32), k_edgeCount s = o → Go PP m50 0 [.val (.ref 1)] [] (none, [(12, s)]) (some (.int o), (none, [(12, s)])) := by
  intro s o hf
  unfold k_edgeCount at hf
  refine go_aloadN (pc := 0) d50_0 rfl (go_getI (pc := 1) fs_64 hm_50 d50_1 ?_)
  cases hf
  exact go_iret (pc := 4) rfl d50_4
theorem c_k_edgeCount (s : S) : Call PP m50 [.ref 1] (none, [(12, s)]) (some (.int (k_edgeCount s)), (none, [(12, s)])) := call_of_go pl_0 rfl (fun h => nomatch h) (k_edgeCount_ok s   _ rfl)
set_option maxRecDepth 65536 in
set_option maxHeartbeats 4000000 in
theorem k_ruleCount_ok  : ∀  (s : S)  (o : Int32), k_ruleCount s = o → Go PP m51 0 [.val (.ref 1)] [] (none, [(12, s)]) (some (.int o), (none, [(12, s)])) := by
  intro s o hf
  unfold k_ruleCount at hf
  refine go_aloadN (pc := 0) d51_0 rfl (go_getI (pc := 1) fs_67 hm_51 d51_1 ?_)
  cases hf
  exact go_iret (pc := 4) rfl d51_4
theorem c_k_ruleCount (s : S) : Call PP m51 [.ref 1] (none, [(12, s)]) (some (.int (k_ruleCount s)), (none, [(12, s)])) := call_of_go pl_0 rfl (fun h => nomatch h) (k_ruleCount_ok s   _ rfl)
set_option maxRecDepth 65536 in
set_option maxHeartbeats 4000000 in
theorem k_edgeInfo_ok  : ∀ (v1 : Int32) (v2 : Int32) (s : S)  (o : Int32), k_edgeInfo v1 v2 s = some o → Go PP m52 0 [.val (.ref 1), .val (.int v1), .val (.int v2)] [] (none, [(12, s)]) (some (.int o), (none, [(12, s)])) := by
  intro v1 v2 s o hf
  unfold k_edgeInfo at hf
  refine go_iloadN (pc := 0) d52_0 rfl ?_
  by_cases h1 : v1 < 0
  · replace hf := (if_pos h1).symm.trans hf
    refine go_ifY (pc := 1) (pc' := 12) d52_1 (XT.i0_lt_t h1) j_1_11 ?_
    refine go_iconst (pc := 12) d52_12 ci_m1 ?_
    cases hf
    exact go_iret (pc := 13) rfl d52_13
  · replace hf := (if_neg h1).symm.trans hf
    refine go_ifN (pc := 1) d52_1 (XT.i0_lt_f h1) ?_
    refine go_iloadN (pc := 4) d52_4 rfl (go_aloadN (pc := 5) d52_5 rfl (go_getI (pc := 6) fs_64 hm_52 d52_6 ?_))
    by_cases h2 : v1 < (gI s 2)
    · replace hf := (if_pos h2).symm.trans hf
      refine go_icY (pc := 9) (pc' := 14) d52_9 (XT.ii_lt_t h2) j_9_5 ?_
      refine go_iloadN (pc := 14) d52_14 rfl ?_
      by_cases h3 : v2 = 0
      · replace hf := (if_pos h3).symm.trans hf
        refine go_ifN (pc := 15) d52_15 (XT.i0_ne_f h3) ?_
        refine go_aloadN (pc := 18) d52_18 rfl (go_getA (pc := 19) fa_14 hm_52 d52_19 rfl (go_iloadN (pc := 22) d52_22 rfl ?_))
        obtain ⟨a23, e10, hf⟩ := Option.bind_eq_some_iff.mp hf
        refine go_iaload (pc := 23) (q := 0) ar_0 rfl e10 d52_23 ?_
        cases hf
        exact go_iret (pc := 24) rfl d52_24
      · replace hf := (if_neg h3).symm.trans hf
        refine go_ifY (pc := 15) (pc' := 25) d52_15 (XT.i0_ne_t h3) j_15_10 ?_
        refine go_iloadN (pc := 25) d52_25 rfl (go_iconst (pc := 26) d52_26 ci_1 ?_)
        by_cases h4 : v2 = (1 : Int32)
        · replace hf := (if_pos h4).symm.trans hf
          refine go_icN (pc := 27) d52_27 (XT.ii_ne_f h4) ?_
          refine go_aloadN (pc := 30) d52_30 rfl (go_getA (pc := 31) fa_18 hm_52 d52_31 rfl (go_iloadN (pc := 34) d52_34 rfl ?_))
          obtain ⟨a35, e9, hf⟩ := Option.bind_eq_some_iff.mp hf
          refine go_iaload (pc := 35) (q := 1) ar_1 rfl e9 d52_35 ?_
          cases hf
          exact go_iret (pc := 36) rfl d52_36
        · replace hf := (if_neg h4).symm.trans hf
          refine go_icY (pc := 27) (pc' := 37) d52_27 (XT.ii_ne_t h4) j_27_10 ?_
          refine go_iloadN (pc := 37) d52_37 rfl (go_iconst (pc := 38) d52_38 ci_2 ?_)
          by_cases h5 : v2 = (2 : Int32)
          · replace hf := (if_pos h5).symm.trans hf
            refine go_icN (pc := 39) d52_39 (XT.ii_ne_f h5) ?_
            refine go_aloadN (pc := 42) d52_42 rfl (go_getA (pc := 43) fa_21 hm_52 d52_43 rfl (go_iloadN (pc := 46) d52_46 rfl ?_))
            obtain ⟨a47, e8, hf⟩ := Option.bind_eq_some_iff.mp hf
            refine go_iaload (pc := 47) (q := 2) ar_2 rfl e8 d52_47 ?_
            cases hf
            exact go_iret (pc := 48) rfl d52_48
          · replace hf := (if_neg h5).symm.trans hf
            refine go_icY (pc := 39) (pc' := 49) d52_39 (XT.ii_ne_t h5) j_39_10 ?_
            refine go_iloadN (pc := 49) d52_49 rfl (go_iconst (pc := 50) d52_50 ci_3 ?_)
            by_cases h6 : v2 = (3 : Int32)
            · replace hf := (if_pos h6).symm.trans hf
              refine go_icN (pc := 51) d52_51 (XT.ii_ne_f h6) ?_
              refine go_aloadN (pc := 54) d52_54 rfl (go_getA (pc := 55) fa_24 hm_52 d52_55 rfl (go_iloadN (pc := 58) d52_58 rfl ?_))
              obtain ⟨a59, e7, hf⟩ := Option.bind_eq_some_iff.mp hf
              refine go_iaload (pc := 59) (q := 3) ar_3 rfl e7 d52_59 ?_
              cases hf
              exact go_iret (pc := 60) rfl d52_60
            · replace hf := (if_neg h6).symm.trans hf
              refine go_icY (pc := 51) (pc' := 61) d52_51 (XT.ii_ne_t h6) j_51_10 ?_
              refine go_iconst (pc := 61) d52_61 ci_m1 ?_
              cases hf
              exact go_iret (pc := 62) rfl d52_62
    · replace hf := (if_neg h2).symm.trans hf
      refine go_icN (pc := 9) d52_9 (XT.ii_lt_f h2) ?_
      refine go_iconst (pc := 12) d52_12 ci_m1 ?_
      cases hf
      exact go_iret (pc := 13) rfl d52_13
theorem c_k_edgeInfo (v1 : Int32) (v2 : Int32) (s : S) (o : Int32) (hf : k_edgeInfo v1 v2 s = some o) : Call PP m52 [.ref 1, .int v1, .int v2] (none, [(12, s)]) (some (.int o), (none, [(12, s)])) := call_of_go pl_0 rfl (fun h => nomatch h) (k_edgeInfo_ok v1 v2 s   _ hf)
set_option maxRecDepth 65536 in
set_option maxHeartbeats 4000000 in
theorem k_ruleInfo_ok  : ∀ (v1 : Int32) (v2 : Int32) (s : S)  (o : Int32), k_ruleInfo v1 v2 s = some o → Go PP m53 0 [.val (.ref 1), .val (.int v1), .val (.int v2), .unset] [] (none, [(12, s)]) (some (.int o), (none, [(12, s)])) := by
  intro v1 v2 s o hf
  unfold k_ruleInfo at hf
  refine go_iloadN (pc := 0) d53_0 rfl ?_
  by_cases h1 : v1 < 0
  · replace hf := (if_pos h1).symm.trans hf
    refine go_ifY (pc := 1) (pc' := 12) d53_1 (XT.i0_lt_t h1) j_1_11 ?_
    refine go_iconst (pc := 12) d53_12 ci_m1 ?_
    cases hf
    exact go_iret (pc := 13) rfl d53_13
  · replace hf := (if_neg h1).symm.trans hf
    refine go_ifN (pc := 1) d53_1 (XT.i0_lt_f h1) ?_
    refine go_iloadN (pc := 4) d53_4 rfl (go_aloadN (pc := 5) d53_5 rfl (go_getI (pc := 6) fs_67 hm_53 d53_6 ?_))
    by_cases h2 : v1 < (gI s 3)
    · replace hf := (if_pos h2).symm.trans hf
      refine go_icY (pc := 9) (pc' := 14) d53_9 (XT.ii_lt_t h2) j_9_5 ?_
      refine go_iloadN (pc := 14) d53_14 rfl ?_
      by_cases h3 : v2 = 0
      · replace hf := (if_pos h3).symm.trans hf
        refine go_ifN (pc := 15) d53_15 (XT.i0_ne_f h3) ?_
        refine go_aloadN (pc := 18) d53_18 rfl (go_getA (pc := 19) fa_27 hm_53 d53_19 rfl (go_iloadN (pc := 22) d53_22 rfl ?_))
        obtain ⟨a23, e13, hf⟩ := Option.bind_eq_some_iff.mp hf
        refine go_iaload (pc := 23) (q := 4) ar_4 rfl e13 d53_23 ?_
        cases hf
        exact go_iret (pc := 24) rfl d53_24
      · replace hf := (if_neg h3).symm.trans hf
        refine go_ifY (pc := 15) (pc' := 25) d53_15 (XT.i0_ne_t h3) j_15_10 ?_
        refine go_iloadN (pc := 25) d53_25 rfl (go_iconst (pc := 26) d53_26 ci_1 ?_)
        by_cases h4 : v2 = (1 : Int32)
        · replace hf := (if_pos h4).symm.trans hf
          refine go_icN (pc := 27) d53_27 (XT.ii_ne_f h4) ?_
          refine go_aloadN (pc := 30) d53_30 rfl (go_getA (pc := 31) fa_30 hm_53 d53_31 rfl (go_iloadN (pc := 34) d53_34 rfl ?_))
          obtain ⟨a35, e12, hf⟩ := Option.bind_eq_some_iff.mp hf
          refine go_iaload (pc := 35) (q := 5) ar_5 rfl e12 d53_35 ?_
          cases hf
          exact go_iret (pc := 36) rfl d53_36
        · replace hf := (if_neg h4).symm.trans hf
          refine go_icY (pc := 27) (pc' := 37) d53_27 (XT.ii_ne_t h4) j_27_10 ?_
          refine go_iloadN (pc := 37) d53_37 rfl (go_iconst (pc := 38) d53_38 ci_2 ?_)
          by_cases h5 : v2 = (2 : Int32)
          · replace hf := (if_pos h5).symm.trans hf
            refine go_icN (pc := 39) d53_39 (XT.ii_ne_f h5) ?_
            refine go_aloadN (pc := 42) d53_42 rfl (go_getA (pc := 43) fa_33 hm_53 d53_43 rfl (go_iloadN (pc := 46) d53_46 rfl ?_))
            obtain ⟨a47, e11, hf⟩ := Option.bind_eq_some_iff.mp hf
            refine go_iaload (pc := 47) (q := 6) ar_6 rfl e11 d53_47 ?_
            cases hf
            exact go_iret (pc := 48) rfl d53_48
          · replace hf := (if_neg h5).symm.trans hf
            refine go_icY (pc := 39) (pc' := 49) d53_39 (XT.ii_ne_t h5) j_39_10 ?_
            refine go_iloadN (pc := 49) d53_49 rfl (go_iconst (pc := 50) d53_50 ci_3 ?_)
            by_cases h6 : v2 < (3 : Int32)
            · replace hf := (if_pos h6).symm.trans hf
              refine go_icY (pc := 51) (pc' := 59) d53_51 (XT.ii_lt_t h6) j_51_8 ?_
              refine go_iconst (pc := 59) d53_59 ci_m1 ?_
              cases hf
              exact go_iret (pc := 60) rfl d53_60
            · replace hf := (if_neg h6).symm.trans hf
              refine go_icN (pc := 51) d53_51 (XT.ii_lt_f h6) ?_
              refine go_iloadN (pc := 54) d53_54 rfl (go_iconst (pc := 55) d53_55 ci_5 ?_)
              by_cases h7 : (5 : Int32) < v2
              · replace hf := (if_pos h7).symm.trans hf
                refine go_icN (pc := 56) d53_56 (XT.ii_le_f h7) ?_
                refine go_iconst (pc := 59) d53_59 ci_m1 ?_
                cases hf
                exact go_iret (pc := 60) rfl d53_60
              · replace hf := (if_neg h7).symm.trans hf
                refine go_icY (pc := 56) (pc' := 61) d53_56 (XT.ii_le_t h7) j_56_5 ?_
                refine go_iloadN (pc := 61) d53_61 rfl (go_iconst (pc := 62) d53_62 ci_3 (go_isub (pc := 63) d53_63 (go_istoreN (pc := 64) (L' := [.val (.ref 1), .val (.int v1), .val (.int v2), .val (.int (v2 - (3 : Int32)))]) d53_64 rfl (go_iloadN (pc := 65) d53_65 rfl (go_aloadN (pc := 66) d53_66 rfl (go_getA (pc := 67) fa_33 hm_53 d53_67 rfl (go_iloadN (pc := 70) d53_70 rfl ?_)))))))
                obtain ⟨a71, e8, hf⟩ := Option.bind_eq_some_iff.mp hf
                refine go_iaload (pc := 71) (q := 6) ar_6 rfl e8 d53_71 ?_
                by_cases h9 : (v2 - (3 : Int32)) < a71
                · replace hf := (if_pos h9).symm.trans hf
                  refine go_icY (pc := 72) (pc' := 77) d53_72 (XT.ii_lt_t h9) j_72_5 ?_
                  refine go_aloadN (pc := 77) d53_77 rfl (go_iloadN (pc := 78) d53_78 rfl (go_iloadN (pc := 79) d53_79 rfl ?_))
                  obtain ⟨r80, e10, hf⟩ := Option.bind_eq_some_iff.mp hf
                  refine go_priv (pc := 80) (i := 0) (as := [.int v1, .int (v2 - (3 : Int32))]) (rest := []) (w' := (none, [(12, s)])) lk_0_84 pd_23 rfl oid_0 rfl rfl rfl rfl rfl rfl ⟨rfl, rfl, rfl, rfl, rfl⟩ d53_80 (c_k_symbolAt v1 (v2 - (3 : Int32)) s _ e10) ?_
                  cases hf
                  exact go_iret (pc := 83) rfl d53_83
                · replace hf := (if_neg h9).symm.trans hf
                  refine go_icN (pc := 72) d53_72 (XT.ii_lt_f h9) ?_
                  refine go_iconst (pc := 75) d53_75 ci_m1 ?_
                  cases hf
                  exact go_iret (pc := 76) rfl d53_76
    · replace hf := (if_neg h2).symm.trans hf
      refine go_icN (pc := 9) d53_9 (XT.ii_lt_f h2) ?_
      refine go_iconst (pc := 12) d53_12 ci_m1 ?_
      cases hf
      exact go_iret (pc := 13) rfl d53_13
theorem c_k_ruleInfo (v1 : Int32) (v2 : Int32) (s : S) (o : Int32) (hf : k_ruleInfo v1 v2 s = some o) : Call PP m53 [.ref 1, .int v1, .int v2] (none, [(12, s)]) (some (.int o), (none, [(12, s)])) := call_of_go pl_0 rfl (fun h => nomatch h) (k_ruleInfo_ok v1 v2 s   _ hf)
set_option maxRecDepth 65536 in
set_option maxHeartbeats 4000000 in
theorem k_status_ok  : ∀  (s : S)  (o : Int32), k_status s = o → Go PP m54 0 [.val (.ref 1)] [] (none, [(12, s)]) (some (.int o), (none, [(12, s)])) := by
  intro s o hf
  unfold k_status at hf
  refine go_aloadN (pc := 0) d54_0 rfl (go_getI (pc := 1) fs_95 hm_54 d54_1 ?_)
  cases hf
  exact go_iret (pc := 4) rfl d54_4
theorem c_k_status (s : S) : Call PP m54 [.ref 1] (none, [(12, s)]) (some (.int (k_status s)), (none, [(12, s)])) := call_of_go pl_0 rfl (fun h => nomatch h) (k_status_ok s   _ rfl)
set_option maxRecDepth 65536 in
set_option maxHeartbeats 4000000 in
theorem k_bestWeight_ok  : ∀  (s : S)  (o : Int32), k_bestWeight s = o → Go PP m55 0 [.val (.ref 1)] [] (none, [(12, s)]) (some (.int o), (none, [(12, s)])) := by
  intro s o hf
  unfold k_bestWeight at hf
  refine go_aloadN (pc := 0) d55_0 rfl (go_getI (pc := 1) fs_95 hm_55 d55_1 (go_iconst (pc := 4) d55_4 ci_1 ?_))
  by_cases h1 : (gI s 4) = (1 : Int32)
  · replace hf := (if_pos h1).symm.trans hf
    refine go_icY (pc := 5) (pc' := 10) d55_5 (XT.ii_eq_t h1) j_5_5 ?_
    refine go_aloadN (pc := 10) d55_10 rfl (go_getI (pc := 11) fs_98 hm_55 d55_11 ?_)
    cases hf
    exact go_iret (pc := 14) rfl d55_14
  · replace hf := (if_neg h1).symm.trans hf
    refine go_icN (pc := 5) d55_5 (XT.ii_eq_f h1) ?_
    refine go_iconst (pc := 8) d55_8 ci_m1 ?_
    cases hf
    exact go_iret (pc := 9) rfl d55_9
theorem c_k_bestWeight (s : S) : Call PP m55 [.ref 1] (none, [(12, s)]) (some (.int (k_bestWeight s)), (none, [(12, s)])) := call_of_go pl_0 rfl (fun h => nomatch h) (k_bestWeight_ok s   _ rfl)
set_option maxRecDepth 65536 in
set_option maxHeartbeats 4000000 in
theorem k_answer_ok  : ∀ (v1 : Int32) (s : S)  (o : Int32), k_answer v1 s = o → Go PP m57 0 [.val (.ref 1), .val (.int v1)] [] (none, [(12, s)]) (some (.int o), (none, [(12, s)])) := by
  intro v1 s o hf
  unfold k_answer at hf
  refine go_iloadN (pc := 0) d57_0 rfl (go_aloadN (pc := 1) d57_1 rfl (go_getI (pc := 2) fs_8 hm_57 d57_2 ?_))
  by_cases h1 : v1 < (gI s 0)
  · replace hf := (if_pos h1).symm.trans hf
    refine go_icN (pc := 5) d57_5 (XT.ii_ge_f h1) ?_
    refine go_iloadN (pc := 8) d57_8 rfl ?_
    by_cases h2 : v1 < 0
    · replace hf := (if_pos h2).symm.trans hf
      refine go_ifN (pc := 9) d57_9 (XT.i0_ge_f h2) ?_
      refine go_iconst (pc := 12) d57_12 ci_m1 ?_
      cases hf
      exact go_iret (pc := 13) rfl d57_13
    · replace hf := (if_neg h2).symm.trans hf
      refine go_ifY (pc := 9) (pc' := 14) d57_9 (XT.i0_ge_t h2) j_9_5 ?_
      refine go_iloadN (pc := 14) d57_14 rfl ?_
      cases hf
      exact go_iret (pc := 15) rfl d57_15
  · replace hf := (if_neg h1).symm.trans hf
    refine go_icY (pc := 5) (pc' := 12) d57_5 (XT.ii_ge_t h1) j_5_7 ?_
    refine go_iconst (pc := 12) d57_12 ci_m1 ?_
    cases hf
    exact go_iret (pc := 13) rfl d57_13
theorem c_k_answer (v1 : Int32) (s : S) : Call PP m57 [.ref 1, .int v1] (none, [(12, s)]) (some (.int (k_answer v1 s)), (none, [(12, s)])) := call_of_go pl_0 rfl (fun h => nomatch h) (k_answer_ok v1 s   _ rfl)
set_option maxRecDepth 65536 in
set_option maxHeartbeats 4000000 in
theorem k_spanWeight_ok  : ∀ (v1 : Int32) (v2 : Int32) (v3 : Int32) (s : S)  (o : Int32), k_spanWeight v1 v2 v3 s = some o → Go PP m58 0 [.val (.ref 1), .val (.int v1), .val (.int v2), .val (.int v3), .unset] [] (none, [(12, s)]) (some (.int o), (none, [(12, s)])) := by
  intro v1 v2 v3 s o hf
  unfold k_spanWeight at hf
  refine go_aloadN (pc := 0) d58_0 rfl (go_getI (pc := 1) fs_95 hm_58 d58_1 ?_)
  by_cases h1 : (gI s 4) = 0
  · replace hf := (if_pos h1).symm.trans hf
    refine go_ifN (pc := 4) d58_4 (XT.i0_ne_f h1) ?_
    refine go_iconst (pc := 7) d58_7 ci_m1 ?_
    cases hf
    exact go_iret (pc := 8) rfl d58_8
  · replace hf := (if_neg h1).symm.trans hf
    refine go_ifY (pc := 4) (pc' := 9) d58_4 (XT.i0_ne_t h1) j_4_5 ?_
    refine go_aloadN (pc := 9) d58_9 rfl (go_iloadN (pc := 10) d58_10 rfl ?_)
    refine go_priv (pc := 11) (i := 0) (as := [.int v1]) (rest := []) (w' := (none, [(12, s)])) lk_0_107 pd_13 rfl oid_0 rfl rfl rfl rfl rfl rfl ⟨rfl, rfl, rfl, rfl, rfl⟩ d58_11 (c_k_isCode v1 s) ?_
    by_cases h2 : (k_isCode v1) = 0
    · replace hf := (if_pos h2).symm.trans hf
      refine go_ifY (pc := 14) (pc' := 33) d58_14 (XT.i0_eq_t h2) j_14_19 ?_
      refine go_iconst (pc := 33) d58_33 ci_m1 ?_
      cases hf
      exact go_iret (pc := 34) rfl d58_34
    · replace hf := (if_neg h2).symm.trans hf
      refine go_ifN (pc := 14) d58_14 (XT.i0_eq_f h2) ?_
      refine go_aloadN (pc := 17) d58_17 rfl (go_iloadN (pc := 18) d58_18 rfl ?_)
      refine go_priv (pc := 19) (i := 0) (as := [.int v2]) (rest := []) (w' := (none, [(12, s)])) lk_0_111 pd_14 rfl oid_0 rfl rfl rfl rfl rfl rfl ⟨rfl, rfl, rfl, rfl, rfl⟩ d58_19 (c_k_isNode v2 s) ?_
      by_cases h3 : (k_isNode v2 s) = 0
      · replace hf := (if_pos h3).symm.trans hf
        refine go_ifY (pc := 22) (pc' := 33) d58_22 (XT.i0_eq_t h3) j_22_11 ?_
        refine go_iconst (pc := 33) d58_33 ci_m1 ?_
        cases hf
        exact go_iret (pc := 34) rfl d58_34
      · replace hf := (if_neg h3).symm.trans hf
        refine go_ifN (pc := 22) d58_22 (XT.i0_eq_f h3) ?_
        refine go_aloadN (pc := 25) d58_25 rfl (go_iloadN (pc := 26) d58_26 rfl ?_)
        refine go_priv (pc := 27) (i := 0) (as := [.int v3]) (rest := []) (w' := (none, [(12, s)])) lk_0_111 pd_14 rfl oid_0 rfl rfl rfl rfl rfl rfl ⟨rfl, rfl, rfl, rfl, rfl⟩ d58_27 (c_k_isNode v3 s) ?_
        by_cases h4 : (k_isNode v3 s) = 0
        · replace hf := (if_pos h4).symm.trans hf
          refine go_ifN (pc := 30) d58_30 (XT.i0_ne_f h4) ?_
          refine go_iconst (pc := 33) d58_33 ci_m1 ?_
          cases hf
          exact go_iret (pc := 34) rfl d58_34
        · replace hf := (if_neg h4).symm.trans hf
          refine go_ifY (pc := 30) (pc' := 35) d58_30 (XT.i0_ne_t h4) j_30_5 ?_
          refine go_iloadN (pc := 35) d58_35 rfl (go_iloadN (pc := 36) d58_36 rfl ?_)
          by_cases h5 : v3 < v2
          · replace hf := (if_pos h5).symm.trans hf
            refine go_icN (pc := 37) d58_37 (XT.ii_le_f h5) ?_
            refine go_iconst (pc := 40) d58_40 ci_m1 ?_
            cases hf
            exact go_iret (pc := 41) rfl d58_41
          · replace hf := (if_neg h5).symm.trans hf
            refine go_icY (pc := 37) (pc' := 42) d58_37 (XT.ii_le_t h5) j_37_5 ?_
            refine go_aloadN (pc := 42) d58_42 rfl (go_iloadN (pc := 43) d58_43 rfl (go_iloadN (pc := 44) d58_44 rfl (go_iloadN (pc := 45) d58_45 rfl ?_)))
            obtain ⟨r46, e6, hf⟩ := Option.bind_eq_some_iff.mp hf
            refine go_priv (pc := 46) (i := 0) (as := [.int v1, .int v2, .int v3]) (rest := []) (w' := (none, [(12, s)])) lk_0_91 pd_25 rfl oid_0 rfl rfl rfl rfl rfl rfl ⟨rfl, rfl, rfl, rfl, rfl⟩ d58_46 (c_k_getSpan v1 v2 v3 s _ e6) ?_
            refine go_istore (pc := 49) (L' := [.val (.ref 1), .val (.int v1), .val (.int v2), .val (.int v3), .val (.int r46)]) d58_49 rfl (go_aloadN (pc := 51) d58_51 rfl (go_iload (pc := 52) d58_52 rfl ?_))
            refine go_priv (pc := 54) (i := 0) (as := [.int r46]) (rest := []) (w' := (none, [(12, s)])) lk_0_114 pd_57 rfl oid_0 rfl rfl rfl rfl rfl rfl ⟨rfl, rfl, rfl, rfl, rfl⟩ d58_54 (c_k_answer r46 s) ?_
            cases hf
            exact go_iret (pc := 57) rfl d58_57
theorem c_k_spanWeight (v1 : Int32) (v2 : Int32) (v3 : Int32) (s : S) (o : Int32) (hf : k_spanWeight v1 v2 v3 s = some o) : Call PP m58 [.ref 1, .int v1, .int v2, .int v3] (none, [(12, s)]) (some (.int o), (none, [(12, s)])) := call_of_go pl_0 rfl (fun h => nomatch h) (k_spanWeight_ok v1 v2 v3 s   _ hf)
set_option maxRecDepth 65536 in
set_option maxHeartbeats 4000000 in
theorem k_edgeBest_ok  : ∀ (v1 : Int32) (s : S)  (o : Int32), k_edgeBest v1 s = some o → Go PP m59 0 [.val (.ref 1), .val (.int v1), .unset, .unset] [] (none, [(12, s)]) (some (.int o), (none, [(12, s)])) := by
  intro v1 s o hf
  unfold k_edgeBest at hf
  refine go_aloadN (pc := 0) d59_0 rfl (go_getI (pc := 1) fs_95 hm_59 d59_1 (go_iconst (pc := 4) d59_4 ci_1 ?_))
  by_cases h1 : (gI s 4) = (1 : Int32)
  · replace hf := (if_pos h1).symm.trans hf
    refine go_icY (pc := 5) (pc' := 10) d59_5 (XT.ii_eq_t h1) j_5_5 ?_
    refine go_iloadN (pc := 10) d59_10 rfl ?_
    by_cases h2 : v1 < 0
    · replace hf := (if_pos h2).symm.trans hf
      refine go_ifY (pc := 11) (pc' := 22) d59_11 (XT.i0_lt_t h2) j_11_11 ?_
      refine go_iconst (pc := 22) d59_22 ci_m1 ?_
      cases hf
      exact go_iret (pc := 23) rfl d59_23
    · replace hf := (if_neg h2).symm.trans hf
      refine go_ifN (pc := 11) d59_11 (XT.i0_lt_f h2) ?_
      refine go_iloadN (pc := 14) d59_14 rfl (go_aloadN (pc := 15) d59_15 rfl (go_getI (pc := 16) fs_64 hm_59 d59_16 ?_))
      by_cases h3 : v1 < (gI s 2)
      · replace hf := (if_pos h3).symm.trans hf
        refine go_icY (pc := 19) (pc' := 24) d59_19 (XT.ii_lt_t h3) j_19_5 ?_
        refine go_aloadN (pc := 24) d59_24 rfl (go_aloadN (pc := 25) d59_25 rfl (go_getA (pc := 26) fa_21 hm_59 d59_26 rfl (go_iloadN (pc := 29) d59_29 rfl ?_)))
        obtain ⟨a30, e4, hf⟩ := Option.bind_eq_some_iff.mp hf
        refine go_iaload (pc := 30) (q := 2) ar_2 rfl e4 d59_30 ?_
        refine go_aloadN (pc := 31) d59_31 rfl (go_getA (pc := 32) fa_14 hm_59 d59_32 rfl (go_iloadN (pc := 35) d59_35 rfl ?_))
        obtain ⟨a36, e5, hf⟩ := Option.bind_eq_some_iff.mp hf
        refine go_iaload (pc := 36) (q := 0) ar_0 rfl e5 d59_36 ?_
        refine go_aloadN (pc := 37) d59_37 rfl (go_getA (pc := 38) fa_18 hm_59 d59_38 rfl (go_iloadN (pc := 41) d59_41 rfl ?_))
        obtain ⟨a42, e6, hf⟩ := Option.bind_eq_some_iff.mp hf
        refine go_iaload (pc := 42) (q := 1) ar_1 rfl e6 d59_42 ?_
        obtain ⟨r43, e7, hf⟩ := Option.bind_eq_some_iff.mp hf
        refine go_priv (pc := 43) (i := 0) (as := [.int a30, .int a36, .int a42]) (rest := []) (w' := (none, [(12, s)])) lk_0_117 pd_41 rfl oid_0 rfl rfl rfl rfl rfl rfl ⟨rfl, rfl, rfl, rfl, rfl⟩ d59_43 (c_k_getOuter a30 a36 a42 s _ e7) ?_
        refine go_istoreN (pc := 46) (L' := [.val (.ref 1), .val (.int v1), .val (.int r43), .unset]) d59_46 rfl (go_aloadN (pc := 47) d59_47 rfl (go_iloadN (pc := 48) d59_48 rfl (go_aloadN (pc := 49) d59_49 rfl (go_getA (pc := 50) fa_24 hm_59 d59_50 rfl (go_iloadN (pc := 53) d59_53 rfl ?_)))))
        obtain ⟨a54, e8, hf⟩ := Option.bind_eq_some_iff.mp hf
        refine go_iaload (pc := 54) (q := 3) ar_3 rfl e8 d59_54 ?_
        refine go_priv (pc := 55) (i := 0) (as := [.int r43, .int a54]) (rest := []) (w' := (none, [(12, s)])) lk_0_120 pd_26 rfl oid_0 rfl rfl rfl rfl rfl rfl ⟨rfl, rfl, rfl, rfl, rfl⟩ d59_55 (c_k_plus r43 a54 s) ?_
        refine go_istoreN (pc := 58) (L' := [.val (.ref 1), .val (.int v1), .val (.int r43), .val (.int (k_plus r43 a54 s))]) d59_58 rfl (go_aloadN (pc := 59) d59_59 rfl (go_iloadN (pc := 60) d59_60 rfl ?_))
        refine go_priv (pc := 61) (i := 0) (as := [.int (k_plus r43 a54 s)]) (rest := []) (w' := (none, [(12, s)])) lk_0_114 pd_57 rfl oid_0 rfl rfl rfl rfl rfl rfl ⟨rfl, rfl, rfl, rfl, rfl⟩ d59_61 (c_k_answer (k_plus r43 a54 s) s) ?_
        cases hf
        exact go_iret (pc := 64) rfl d59_64
      · replace hf := (if_neg h3).symm.trans hf
        refine go_icN (pc := 19) d59_19 (XT.ii_lt_f h3) ?_
        refine go_iconst (pc := 22) d59_22 ci_m1 ?_
        cases hf
        exact go_iret (pc := 23) rfl d59_23
  · replace hf := (if_neg h1).symm.trans hf
    refine go_icN (pc := 5) d59_5 (XT.ii_eq_f h1) ?_
    refine go_iconst (pc := 8) d59_8 ci_m1 ?_
    cases hf
    exact go_iret (pc := 9) rfl d59_9
theorem c_k_edgeBest (v1 : Int32) (s : S) (o : Int32) (hf : k_edgeBest v1 s = some o) : Call PP m59 [.ref 1, .int v1] (none, [(12, s)]) (some (.int o), (none, [(12, s)])) := call_of_go pl_0 rfl (fun h => nomatch h) (k_edgeBest_ok v1 s   _ hf)
def T_k_ruleContext_22 (k22 : Int32 → Int32 → Int32 → Int32 → Int32 → S → Option Int32) : Prop := ∀ (v1 : Int32) (v2 : Int32) (v3 : Int32) (v4 : Int32) (v5 : Int32) (s : S) (x6 : Slot) (x7 : Slot) (x8 : Slot) (x9 : Slot) (hx6 : k1 x6) (hx7 : k1 x7) (hx8 : k1 x8) (hx9 : k1 x9) (o : Int32), k22 v1 v2 v3 v4 v5 s = some o → Go PP m60 22 [.val (.ref 1), .val (.int v1), .val (.int v2), .val (.int v3), .val (.int v4), .val (.int v5), x6, x7, x8, x9] [] (none, [(12, s)]) (some (.int o), (none, [(12, s)]))
set_option maxRecDepth 65536 in
set_option maxHeartbeats 4000000 in
theorem k_ruleContext_35_ok {k22 : Int32 → Int32 → Int32 → Int32 → Int32 → S → Option Int32} (hk22 : T_k_ruleContext_22 k22) : ∀ (n : Nat) (v1 : Int32) (v2 : Int32) (v3 : Int32) (v4 : Int32) (v5 : Int32) (v6 : Int32) (s : S) (x7 : Slot) (x8 : Slot) (x9 : Slot) (hx7 : k1 x7) (hx8 : k1 x8) (hx9 : k1 x9) (o : Int32), k_ruleContext_35 k22 n v1 v2 v3 v4 v5 v6 s = some o → Go PP m60 35 [.val (.ref 1), .val (.int v1), .val (.int v2), .val (.int v3), .val (.int v4), .val (.int v5), .val (.int v6), x7, x8, x9] [] (none, [(12, s)]) (some (.int o), (none, [(12, s)])) := by
  intro n
  induction n with
  | zero => intro v1 v2 v3 v4 v5 v6 s x7 x8 x9 hx7 hx8 hx9 o hf; exact nomatch hf
  | succ n ih =>
    intro v1 v2 v3 v4 v5 v6 s x7 x8 x9 hx7 hx8 hx9 o hf
    unfold k_ruleContext_35 at hf
    refine go_iload (pc := 35) d60_35 rfl (go_aloadN (pc := 37) d60_37 rfl (go_getI (pc := 38) fs_55 hm_60 d60_38 ?_))
    by_cases h1 : v6 < (gI s 1)
    · replace hf := (if_pos h1).symm.trans hf
      refine go_icN (pc := 41) d60_41 (XT.ii_ge_f h1) ?_
      refine go_aloadN (pc := 44) d60_44 rfl (go_iloadN (pc := 45) d60_45 rfl (go_iload (pc := 46) d60_46 rfl (go_iload (pc := 48) d60_48 rfl ?_)))
      obtain ⟨r50, e2, hf⟩ := Option.bind_eq_some_iff.mp hf
      refine go_priv (pc := 50) (i := 0) (as := [.int v2, .int v5, .int v6]) (rest := []) (w' := (none, [(12, s)])) lk_0_117 pd_41 rfl oid_0 rfl rfl rfl rfl rfl rfl ⟨rfl, rfl, rfl, rfl, rfl⟩ d60_50 (c_k_getOuter v2 v5 v6 s _ e2) ?_
      refine go_istore (pc := 53) (L' := [.val (.ref 1), .val (.int v1), .val (.int v2), .val (.int v3), .val (.int v4), .val (.int v5), .val (.int v6), .val (.int r50), x8, x9]) d60_53 (stx rfl hx7 rfl) (go_aloadN (pc := 55) d60_55 rfl (go_iloadN (pc := 56) d60_56 rfl (go_iloadN (pc := 57) d60_57 rfl (go_iload (pc := 58) d60_58 rfl (go_iload (pc := 60) d60_60 rfl ?_)))))
      obtain ⟨r62, e3, hf⟩ := Option.bind_eq_some_iff.mp hf
      refine go_priv (pc := 62) (i := 0) (as := [.int v1, .int v3, .int v5, .int v6]) (rest := []) (w' := (none, [(12, s)])) lk_0_176 pd_24 rfl oid_0 rfl rfl rfl rfl rfl rfl ⟨rfl, rfl, rfl, rfl, rfl⟩ d60_62 (c_k_getItem v1 v3 v5 v6 s _ e3) ?_
      refine go_istore (pc := 65) (L' := [.val (.ref 1), .val (.int v1), .val (.int v2), .val (.int v3), .val (.int v4), .val (.int v5), .val (.int v6), .val (.int r50), .val (.int r62), x9]) d60_65 (stx rfl hx8 rfl) (go_aloadN (pc := 67) d60_67 rfl (go_iload (pc := 68) d60_68 rfl (go_iload (pc := 70) d60_70 rfl ?_)))
      refine go_priv (pc := 72) (i := 0) (as := [.int r50, .int r62]) (rest := []) (w' := (none, [(12, s)])) lk_0_120 pd_26 rfl oid_0 rfl rfl rfl rfl rfl rfl ⟨rfl, rfl, rfl, rfl, rfl⟩ d60_72 (c_k_plus r50 r62 s) ?_
      refine go_istore (pc := 75) (L' := [.val (.ref 1), .val (.int v1), .val (.int v2), .val (.int v3), .val (.int v4), .val (.int v5), .val (.int v6), .val (.int r50), .val (.int r62), .val (.int (k_plus r50 r62 s))]) d60_75 (stx rfl hx9 rfl) (go_iload (pc := 77) d60_77 rfl (go_iload (pc := 79) d60_79 rfl ?_))
      by_cases h4 : (k_plus r50 r62 s) < v4
      · refine go_icN (pc := 81) d60_81 (XT.ii_ge_f h4) ?_
        refine go_iload (pc := 84) d60_84 rfl (go_istore (pc := 86) (L' := [.val (.ref 1), .val (.int v1), .val (.int v2), .val (.int v3), .val (.int (k_plus r50 r62 s)), .val (.int v5), .val (.int v6), .val (.int r50), .val (.int r62), .val (.int (k_plus r50 r62 s))]) d60_86 rfl (go_iinc (pc := 88) (L' := [.val (.ref 1), .val (.int v1), .val (.int v2), .val (.int v3), .val (.int (k_plus r50 r62 s)), .val (.int v5), .val (.int (v6 + (1 : Int32))), .val (.int r50), .val (.int r62), .val (.int (k_plus r50 r62 s))]) d60_88 rfl ci_1 rfl (go_goto (pc := 91) (pc' := 35) d60_91 j_91_m56 ?_)))
        exact ih v1 v2 v3 (k_plus r50 r62 s) v5 (v6 + (1 : Int32)) s (.val (.int r50)) (.val (.int r62)) (.val (.int (k_plus r50 r62 s))) (Or.inr ⟨_, rfl, rfl⟩) (Or.inr ⟨_, rfl, rfl⟩) (Or.inr ⟨_, rfl, rfl⟩) _ (by simpa only [if_pos h4] using hf)
      · refine go_icY (pc := 81) (pc' := 88) d60_81 (XT.ii_ge_t h4) j_81_7 ?_
        refine go_iinc (pc := 88) (L' := [.val (.ref 1), .val (.int v1), .val (.int v2), .val (.int v3), .val (.int v4), .val (.int v5), .val (.int (v6 + (1 : Int32))), .val (.int r50), .val (.int r62), .val (.int (k_plus r50 r62 s))]) d60_88 rfl ci_1 rfl (go_goto (pc := 91) (pc' := 35) d60_91 j_91_m56 ?_)
        exact ih v1 v2 v3 v4 v5 (v6 + (1 : Int32)) s (.val (.int r50)) (.val (.int r62)) (.val (.int (k_plus r50 r62 s))) (Or.inr ⟨_, rfl, rfl⟩) (Or.inr ⟨_, rfl, rfl⟩) (Or.inr ⟨_, rfl, rfl⟩) _ (by simpa only [if_neg h4] using hf)
    · replace hf := (if_neg h1).symm.trans hf
      refine go_icY (pc := 41) (pc' := 94) d60_41 (XT.ii_ge_t h1) j_41_53 ?_
      refine go_iinc (pc := 94) (L' := [.val (.ref 1), .val (.int v1), .val (.int v2), .val (.int v3), .val (.int v4), .val (.int (v5 + (1 : Int32))), .val (.int v6), x7, x8, x9]) d60_94 rfl ci_1 rfl (go_goto (pc := 97) (pc' := 22) d60_97 j_97_m75 ?_)
      exact hk22 v1 v2 v3 v4 (v5 + (1 : Int32)) s (.val (.int v6)) x7 x8 x9 (Or.inr ⟨_, rfl, rfl⟩) hx7 hx8 hx9 _ hf
set_option maxRecDepth 65536 in
set_option maxHeartbeats 4000000 in
theorem k_ruleContext_22_ok  : ∀ (n : Nat) (v1 : Int32) (v2 : Int32) (v3 : Int32) (v4 : Int32) (v5 : Int32) (s : S) (x6 : Slot) (x7 : Slot) (x8 : Slot) (x9 : Slot) (hx6 : k1 x6) (hx7 : k1 x7) (hx8 : k1 x8) (hx9 : k1 x9) (o : Int32), k_ruleContext_22 n v1 v2 v3 v4 v5 s = some o → Go PP m60 22 [.val (.ref 1), .val (.int v1), .val (.int v2), .val (.int v3), .val (.int v4), .val (.int v5), x6, x7, x8, x9] [] (none, [(12, s)]) (some (.int o), (none, [(12, s)])) := by
  intro n
  induction n with
  | zero => intro v1 v2 v3 v4 v5 s x6 x7 x8 x9 hx6 hx7 hx8 hx9 o hf; exact nomatch hf
  | succ n ih =>
    intro v1 v2 v3 v4 v5 s x6 x7 x8 x9 hx6 hx7 hx8 hx9 o hf
    unfold k_ruleContext_22 at hf
    refine go_iload (pc := 22) d60_22 rfl (go_aloadN (pc := 24) d60_24 rfl (go_getI (pc := 25) fs_55 hm_60 d60_25 ?_))
    by_cases h1 : v5 < (gI s 1)
    · replace hf := (if_pos h1).symm.trans hf
      refine go_icN (pc := 28) d60_28 (XT.ii_ge_f h1) ?_
      refine go_iload (pc := 31) d60_31 rfl (go_istore (pc := 33) (L' := [.val (.ref 1), .val (.int v1), .val (.int v2), .val (.int v3), .val (.int v4), .val (.int v5), .val (.int v5), x7, x8, x9]) d60_33 (stx rfl hx6 rfl) ?_)
      exact k_ruleContext_35_ok ih BIG v1 v2 v3 v4 v5 v5 s x7 x8 x9 hx7 hx8 hx9 _ hf
    · replace hf := (if_neg h1).symm.trans hf
      refine go_icY (pc := 28) (pc' := 100) d60_28 (XT.ii_ge_t h1) j_28_72 ?_
      refine go_iload (pc := 100) d60_100 rfl ?_
      cases hf
      exact go_iret (pc := 102) rfl d60_102
set_option maxRecDepth 65536 in
set_option maxHeartbeats 4000000 in
theorem k_ruleContext_ok  : ∀ (v1 : Int32) (s : S)  (o : Int32), k_ruleContext v1 s = some o → Go PP m60 0 [.val (.ref 1), .val (.int v1), .unset, .unset, .unset, .unset, .unset, .unset, .unset, .unset] [] (none, [(12, s)]) (some (.int o), (none, [(12, s)])) := by
  intro v1 s o hf
  unfold k_ruleContext at hf
  refine go_aloadN (pc := 0) d60_0 rfl (go_iloadN (pc := 1) d60_1 rfl ?_)
  obtain ⟨r2, e1, hf⟩ := Option.bind_eq_some_iff.mp hf
  refine go_priv (pc := 2) (i := 0) (as := [.int v1]) (rest := []) (w' := (none, [(12, s)])) lk_0_179 pd_29 rfl oid_0 rfl rfl rfl rfl rfl rfl ⟨rfl, rfl, rfl, rfl, rfl⟩ d60_2 (c_k_headCode v1 s _ e1) ?_
  refine go_istoreN (pc := 5) (L' := [.val (.ref 1), .val (.int v1), .val (.int r2), .unset, .unset, .unset, .unset, .unset, .unset, .unset]) d60_5 rfl (go_aloadN (pc := 6) d60_6 rfl (go_getA (pc := 7) fa_33 hm_60 d60_7 rfl (go_iloadN (pc := 10) d60_10 rfl ?_)))
  obtain ⟨a11, e2, hf⟩ := Option.bind_eq_some_iff.mp hf
  refine go_iaload (pc := 11) (q := 6) ar_6 rfl e2 d60_11 ?_
  refine go_istoreN (pc := 12) (L' := [.val (.ref 1), .val (.int v1), .val (.int r2), .val (.int a11), .unset, .unset, .unset, .unset, .unset, .unset]) d60_12 rfl (go_aloadN (pc := 13) d60_13 rfl (go_getI (pc := 14) fs_8 hm_60 d60_14 (go_istore (pc := 17) (L' := [.val (.ref 1), .val (.int v1), .val (.int r2), .val (.int a11), .val (.int (gI s 0)), .unset, .unset, .unset, .unset, .unset]) d60_17 rfl (go_iconst (pc := 19) d60_19 ci_0 (go_istore (pc := 20) (L' := [.val (.ref 1), .val (.int v1), .val (.int r2), .val (.int a11), .val (.int (gI s 0)), .val (.int (0 : Int32)), .unset, .unset, .unset, .unset]) d60_20 rfl ?_)))))
  exact k_ruleContext_22_ok BIG v1 r2 a11 (gI s 0) (0 : Int32) s .unset .unset .unset .unset (Or.inl rfl) (Or.inl rfl) (Or.inl rfl) (Or.inl rfl) _ hf
theorem c_k_ruleContext (v1 : Int32) (s : S) (o : Int32) (hf : k_ruleContext v1 s = some o) : Call PP m60 [.ref 1, .int v1] (none, [(12, s)]) (some (.int o), (none, [(12, s)])) := call_of_go pl_0 rfl (fun h => nomatch h) (k_ruleContext_ok v1 s   _ hf)
set_option maxRecDepth 65536 in
set_option maxHeartbeats 4000000 in
theorem k_ruleBest_ok  : ∀ (v1 : Int32) (s : S)  (o : Int32), k_ruleBest v1 s = some o → Go PP m61 0 [.val (.ref 1), .val (.int v1), .unset] [] (none, [(12, s)]) (some (.int o), (none, [(12, s)])) := by
  intro v1 s o hf
  unfold k_ruleBest at hf
  refine go_aloadN (pc := 0) d61_0 rfl (go_getI (pc := 1) fs_95 hm_61 d61_1 (go_iconst (pc := 4) d61_4 ci_1 ?_))
  by_cases h1 : (gI s 4) = (1 : Int32)
  · replace hf := (if_pos h1).symm.trans hf
    refine go_icY (pc := 5) (pc' := 10) d61_5 (XT.ii_eq_t h1) j_5_5 ?_
    refine go_aloadN (pc := 10) d61_10 rfl (go_iloadN (pc := 11) d61_11 rfl ?_)
    refine go_priv (pc := 12) (i := 0) (as := [.int v1]) (rest := []) (w' := (none, [(12, s)])) lk_0_123 pd_18 rfl oid_0 rfl rfl rfl rfl rfl rfl ⟨rfl, rfl, rfl, rfl, rfl⟩ d61_12 (c_k_isRule v1 s) ?_
    by_cases h2 : (k_isRule v1 s) = 0
    · replace hf := (if_pos h2).symm.trans hf
      refine go_ifN (pc := 15) d61_15 (XT.i0_ne_f h2) ?_
      refine go_iconst (pc := 18) d61_18 ci_m1 ?_
      cases hf
      exact go_iret (pc := 19) rfl d61_19
    · replace hf := (if_neg h2).symm.trans hf
      refine go_ifY (pc := 15) (pc' := 20) d61_15 (XT.i0_ne_t h2) j_15_5 ?_
      refine go_aloadN (pc := 20) d61_20 rfl (go_iloadN (pc := 21) d61_21 rfl ?_)
      obtain ⟨r22, e3, hf⟩ := Option.bind_eq_some_iff.mp hf
      refine go_priv (pc := 22) (i := 0) (as := [.int v1]) (rest := []) (w' := (none, [(12, s)])) lk_0_126 pd_60 rfl oid_0 rfl rfl rfl rfl rfl rfl ⟨rfl, rfl, rfl, rfl, rfl⟩ d61_22 (c_k_ruleContext v1 s _ e3) ?_
      refine go_istoreN (pc := 25) (L' := [.val (.ref 1), .val (.int v1), .val (.int r22)]) d61_25 rfl (go_aloadN (pc := 26) d61_26 rfl (go_iloadN (pc := 27) d61_27 rfl ?_))
      refine go_priv (pc := 28) (i := 0) (as := [.int r22]) (rest := []) (w' := (none, [(12, s)])) lk_0_114 pd_57 rfl oid_0 rfl rfl rfl rfl rfl rfl ⟨rfl, rfl, rfl, rfl, rfl⟩ d61_28 (c_k_answer r22 s) ?_
      cases hf
      exact go_iret (pc := 31) rfl d61_31
  · replace hf := (if_neg h1).symm.trans hf
    refine go_icN (pc := 5) d61_5 (XT.ii_eq_f h1) ?_
    refine go_iconst (pc := 8) d61_8 ci_m1 ?_
    cases hf
    exact go_iret (pc := 9) rfl d61_9
theorem c_k_ruleBest (v1 : Int32) (s : S) (o : Int32) (hf : k_ruleBest v1 s = some o) : Call PP m61 [.ref 1, .int v1] (none, [(12, s)]) (some (.int o), (none, [(12, s)])) := call_of_go pl_0 rfl (fun h => nomatch h) (k_ruleBest_ok v1 s   _ hf)
set_option maxRecDepth 65536 in
set_option maxHeartbeats 4000000 in
theorem h_rel_ok_n2  {y0 : S} {y1 : S} {q : List Int32} : ∀ (v0 : Int32) (v1 : Int32) (v2 : Int32)   (o : Int32), h_rel v0 v1 v2 = o → Go PP m56 0 [.val (.int v0), .val (.int v1), .val (.int v2)] [] (some q, [(12, y0), (12, y1)]) (some (.int o), (some q, [(12, y0), (12, y1)])) := by
  intro v0 v1 v2 o hf
  unfold h_rel at hf
  refine go_iloadN (pc := 0) d56_0 rfl ?_
  by_cases h1 : v2 = 0
  · replace hf := (if_pos h1).symm.trans hf
    refine go_ifN (pc := 1) d56_1 (XT.i0_ne_f h1) ?_
    refine go_iloadN (pc := 4) d56_4 rfl (go_iloadN (pc := 5) d56_5 rfl ?_)
    by_cases h5 : v0 = v1
    · replace hf := (if_pos h5).symm.trans hf
      refine go_icN (pc := 6) d56_6 (XT.ii_ne_f h5) ?_
      refine go_iconst (pc := 9) d56_9 ci_1 (go_goto (pc := 10) (pc' := 14) d56_10 j_10_4 ?_)
      cases hf
      exact go_zret (pc := 14) rfl d56_14 (show (1 : Int32) = nar .boolean (1 : Int32) by decide)
    · replace hf := (if_neg h5).symm.trans hf
      refine go_icY (pc := 6) (pc' := 13) d56_6 (XT.ii_ne_t h5) j_6_7 ?_
      refine go_iconst (pc := 13) d56_13 ci_0 ?_
      cases hf
      exact go_zret (pc := 14) rfl d56_14 (show (0 : Int32) = nar .boolean (0 : Int32) by decide)
  · replace hf := (if_neg h1).symm.trans hf
    refine go_ifY (pc := 1) (pc' := 15) d56_1 (XT.i0_ne_t h1) j_1_14 ?_
    refine go_iloadN (pc := 15) d56_15 rfl ?_
    by_cases h2 : v0 < 0
    · replace hf := (if_pos h2).symm.trans hf
      refine go_ifY (pc := 16) (pc' := 28) d56_16 (XT.i0_lt_t h2) j_16_12 ?_
      refine go_iconst (pc := 28) d56_28 ci_1 (go_goto (pc := 29) (pc' := 33) d56_29 j_29_4 ?_)
      cases hf
      exact go_zret (pc := 33) rfl d56_33 (show (1 : Int32) = nar .boolean (1 : Int32) by decide)
    · replace hf := (if_neg h2).symm.trans hf
      refine go_ifN (pc := 16) d56_16 (XT.i0_lt_f h2) ?_
      refine go_iloadN (pc := 19) d56_19 rfl ?_
      by_cases h3 : v1 < 0
      · replace hf := (if_pos h3).symm.trans hf
        refine go_ifY (pc := 20) (pc' := 32) d56_20 (XT.i0_lt_t h3) j_20_12 ?_
        refine go_iconst (pc := 32) d56_32 ci_0 ?_
        cases hf
        exact go_zret (pc := 33) rfl d56_33 (show (0 : Int32) = nar .boolean (0 : Int32) by decide)
      · replace hf := (if_neg h3).symm.trans hf
        refine go_ifN (pc := 20) d56_20 (XT.i0_lt_f h3) ?_
        refine go_iloadN (pc := 23) d56_23 rfl (go_iloadN (pc := 24) d56_24 rfl ?_)
        by_cases h4 : v0 < v1
        · replace hf := (if_pos h4).symm.trans hf
          refine go_icY (pc := 25) (pc' := 32) d56_25 (XT.ii_gt_t h4) j_25_7 ?_
          refine go_iconst (pc := 32) d56_32 ci_0 ?_
          cases hf
          exact go_zret (pc := 33) rfl d56_33 (show (0 : Int32) = nar .boolean (0 : Int32) by decide)
        · replace hf := (if_neg h4).symm.trans hf
          refine go_icN (pc := 25) d56_25 (XT.ii_gt_f h4) ?_
          refine go_iconst (pc := 28) d56_28 ci_1 (go_goto (pc := 29) (pc' := 33) d56_29 j_29_4 ?_)
          cases hf
          exact go_zret (pc := 33) rfl d56_33 (show (1 : Int32) = nar .boolean (1 : Int32) by decide)
theorem c_h_rel_n2 (v0 : Int32) (v1 : Int32) (v2 : Int32) (q : List Int32) (y0 : S) (y1 : S) : Call PP m56 [.int v0, .int v1, .int v2] (some q, [(12, y0), (12, y1)]) (some (.int (h_rel v0 v1 v2)), (some q, [(12, y0), (12, y1)])) := call_of_go pl_1 rfl (fun h => nomatch h) (h_rel_ok_n2 v0 v1 v2   _ rfl)
set_option maxRecDepth 65536 in
set_option maxHeartbeats 4000000 in
theorem law_813_ok  : ∀ (n : Nat) (v15 : Int32) (v16 : Int32) (q : List Int32) (t0 : S) (t1 : S) (x1 : Slot) (x3 : Slot) (x5 : Slot) (x6 : Slot) (x7 : Slot) (x8 : Slot) (x9 : Slot) (x10 : Slot) (x11 : Slot) (x12 : Slot) (x13 : Slot) (x14 : Slot) (x17 : Slot) (x18 : Slot) (hx1 : k1 x1) (hx3 : k1 x3) (hx5 : k1 x5) (hx6 : k1 x6) (hx7 : k1 x7) (hx8 : k1 x8) (hx9 : k1 x9) (hx10 : k1 x10) (hx11 : k1 x11) (hx12 : k1 x12) (hx13 : k1 x13) (hx14 : k1 x14) (hx17 : k1 x17) (hx18 : k1 x18) (o : Int32 × S × S), law_813 n v15 v16 q t0 t1 = some o → Go PP m62 813 [.val (.ref 0), x1, .val (.ref 1), x3, .val (.ref 14), x5, x6, x7, x8, x9, x10, x11, x12, x13, x14, .val (.int v15), .val (.int v16), x17, x18] [] (some q, [(12, t0), (12, t1)]) (some (.int o.1), (some q, [(12, o.2.1), (12, o.2.2)])) := by
  intro n
  induction n with
  | zero => intro v15 v16 q t0 t1 x1 x3 x5 x6 x7 x8 x9 x10 x11 x12 x13 x14 x17 x18 hx1 hx3 hx5 hx6 hx7 hx8 hx9 hx10 hx11 hx12 hx13 hx14 hx17 hx18 o hf; exact nomatch hf
  | succ n ih =>
    intro v15 v16 q t0 t1 x1 x3 x5 x6 x7 x8 x9 x10 x11 x12 x13 x14 x17 x18 hx1 hx3 hx5 hx6 hx7 hx8 hx9 hx10 hx11 hx12 hx13 hx14 hx17 hx18 o hf
    unfold law_813 at hf
    refine go_iload (pc := 813) d62_813 rfl (go_bipush (pc := 815) d62_815 cb_12 ?_)
    by_cases h1 : v16 < (12 : Int32)
    · replace hf := (if_pos h1).symm.trans hf
      refine go_icN (pc := 817) d62_817 (XT.ii_ge_f h1) ?_
      refine go_aloadN (pc := 820) d62_820 rfl (go_iload (pc := 821) d62_821 rfl ?_)
      obtain ⟨r823, e2, hf⟩ := Option.bind_eq_some_iff.mp hf
      refine go_virt (pc := 823) (i := 0) (as := [.int v16]) (rest := []) (w' := (some q, [(12, t0), (12, t1)])) lk_1_63 pd_61 rfl oid_0 rfl rfl rfl rfl rfl rfl ⟨rfl, rfl, rfl, rfl, rfl⟩ d62_823 (c_k_ruleBest v16 t0 _ e2) ?_
      refine go_istore (pc := 826) (L' := [.val (.ref 0), x1, .val (.ref 1), x3, .val (.ref 14), x5, x6, x7, x8, x9, x10, x11, x12, x13, x14, .val (.int v15), .val (.int v16), .val (.int r823), x18]) d62_826 (stx rfl hx17 rfl) (go_aload (pc := 828) d62_828 rfl (go_iload (pc := 830) d62_830 rfl ?_))
      obtain ⟨r832, e3, hf⟩ := Option.bind_eq_some_iff.mp hf
      refine go_virt (pc := 832) (i := 1) (as := [.int v16]) (rest := []) (w' := (some q, [(12, t0), (12, t1)])) lk_1_63 pd_61 rfl oid_1 rfl rfl rfl rfl rfl rfl ⟨rfl, rfl, rfl, rfl, rfl⟩ d62_832 (c_k_ruleBest v16 t1 _ e3) ?_
      refine go_istore (pc := 835) (L' := [.val (.ref 0), x1, .val (.ref 1), x3, .val (.ref 14), x5, x6, x7, x8, x9, x10, x11, x12, x13, x14, .val (.int v15), .val (.int v16), .val (.int r823), .val (.int r832)]) d62_835 (stx rfl hx18 rfl) (go_iload (pc := 837) d62_837 rfl (go_iload (pc := 839) d62_839 rfl (go_iload (pc := 841) d62_841 rfl ?_)))
      refine go_stat (pc := 843) (as := [.int r823, .int r832, .int v15]) (rest := []) (w' := (some q, [(12, t0), (12, t1)])) lk_1_49 pd_56 rfl rfl ⟨Nat.le_of_ble_eq_true rfl, Nat.le_of_ble_eq_true rfl⟩ ⟨rfl, rfl, rfl⟩ ⟨rfl, rfl, rfl, rfl, rfl⟩ d62_843 (c_h_rel_n2 r823 r832 v15 q t0 t1) ?_
      by_cases h4 : (h_rel r823 r832 v15) = 0
      · replace hf := (if_pos h4).symm.trans hf
        refine go_ifN (pc := 846) d62_846 (XT.i0_ne_f h4) ?_
        refine go_iconst (pc := 849) d62_849 ci_0 ?_
        cases hf
        exact go_zret (pc := 850) rfl d62_850 (show (0 : Int32) = nar .boolean (0 : Int32) by decide)
      · replace hf := (if_neg h4).symm.trans hf
        refine go_ifY (pc := 846) (pc' := 851) d62_846 (XT.i0_ne_t h4) j_846_5 ?_
        refine go_iinc (pc := 851) (L' := [.val (.ref 0), x1, .val (.ref 1), x3, .val (.ref 14), x5, x6, x7, x8, x9, x10, x11, x12, x13, x14, .val (.int v15), .val (.int (v16 + (1 : Int32))), .val (.int r823), .val (.int r832)]) d62_851 rfl ci_1 rfl (go_goto (pc := 854) (pc' := 813) d62_854 j_854_m41 ?_)
        exact ih v15 (v16 + (1 : Int32)) q t0 t1 x1 x3 x5 x6 x7 x8 x9 x10 x11 x12 x13 x14 (.val (.int r823)) (.val (.int r832)) hx1 hx3 hx5 hx6 hx7 hx8 hx9 hx10 hx11 hx12 hx13 hx14 (Or.inr ⟨_, rfl, rfl⟩) (Or.inr ⟨_, rfl, rfl⟩) _ hf
    · replace hf := (if_neg h1).symm.trans hf
      refine go_icY (pc := 817) (pc' := 857) d62_817 (XT.ii_ge_t h1) j_817_40 ?_
      refine go_iconst (pc := 857) d62_857 ci_1 ?_
      cases hf
      exact go_zret (pc := 858) rfl d62_858 (show (1 : Int32) = nar .boolean (1 : Int32) by decide)
set_option maxRecDepth 65536 in
set_option maxHeartbeats 4000000 in
theorem law_810_ok  : ∀ (v15 : Int32) (q : List Int32) (t0 : S) (t1 : S) (x1 : Slot) (x3 : Slot) (x5 : Slot) (x6 : Slot) (x7 : Slot) (x8 : Slot) (x9 : Slot) (x10 : Slot) (x11 : Slot) (x12 : Slot) (x13 : Slot) (x14 : Slot) (x16 : Slot) (x17 : Slot) (x18 : Slot) (hx1 : k1 x1) (hx3 : k1 x3) (hx5 : k1 x5) (hx6 : k1 x6) (hx7 : k1 x7) (hx8 : k1 x8) (hx9 : k1 x9) (hx10 : k1 x10) (hx11 : k1 x11) (hx12 : k1 x12) (hx13 : k1 x13) (hx14 : k1 x14) (hx16 : k1 x16) (hx17 : k1 x17) (hx18 : k1 x18) (o : Int32 × S × S), law_810 v15 q t0 t1 = some o → Go PP m62 810 [.val (.ref 0), x1, .val (.ref 1), x3, .val (.ref 14), x5, x6, x7, x8, x9, x10, x11, x12, x13, x14, .val (.int v15), x16, x17, x18] [] (some q, [(12, t0), (12, t1)]) (some (.int o.1), (some q, [(12, o.2.1), (12, o.2.2)])) := by
  intro v15 q t0 t1 x1 x3 x5 x6 x7 x8 x9 x10 x11 x12 x13 x14 x16 x17 x18 hx1 hx3 hx5 hx6 hx7 hx8 hx9 hx10 hx11 hx12 hx13 hx14 hx16 hx17 hx18 o hf
  unfold law_810 at hf
  refine go_iconst (pc := 810) d62_810 ci_0 (go_istore (pc := 811) (L' := [.val (.ref 0), x1, .val (.ref 1), x3, .val (.ref 14), x5, x6, x7, x8, x9, x10, x11, x12, x13, x14, .val (.int v15), .val (.int (0 : Int32)), x17, x18]) d62_811 (stx rfl hx16 rfl) ?_)
  exact law_813_ok BIG v15 (0 : Int32) q t0 t1 x1 x3 x5 x6 x7 x8 x9 x10 x11 x12 x13 x14 x17 x18 hx1 hx3 hx5 hx6 hx7 hx8 hx9 hx10 hx11 hx12 hx13 hx14 hx17 hx18 _ hf
set_option maxRecDepth 65536 in
set_option maxHeartbeats 4000000 in
theorem law_766_ok  : ∀ (n : Nat) (v15 : Int32) (v16 : Int32) (q : List Int32) (t0 : S) (t1 : S) (x1 : Slot) (x3 : Slot) (x5 : Slot) (x6 : Slot) (x7 : Slot) (x8 : Slot) (x9 : Slot) (x10 : Slot) (x11 : Slot) (x12 : Slot) (x13 : Slot) (x14 : Slot) (x17 : Slot) (x18 : Slot) (hx1 : k1 x1) (hx3 : k1 x3) (hx5 : k1 x5) (hx6 : k1 x6) (hx7 : k1 x7) (hx8 : k1 x8) (hx9 : k1 x9) (hx10 : k1 x10) (hx11 : k1 x11) (hx12 : k1 x12) (hx13 : k1 x13) (hx14 : k1 x14) (hx17 : k1 x17) (hx18 : k1 x18) (o : Int32 × S × S), law_766 n v15 v16 q t0 t1 = some o → Go PP m62 766 [.val (.ref 0), x1, .val (.ref 1), x3, .val (.ref 14), x5, x6, x7, x8, x9, x10, x11, x12, x13, x14, .val (.int v15), .val (.int v16), x17, x18] [] (some q, [(12, t0), (12, t1)]) (some (.int o.1), (some q, [(12, o.2.1), (12, o.2.2)])) := by
  intro n
  induction n with
  | zero => intro v15 v16 q t0 t1 x1 x3 x5 x6 x7 x8 x9 x10 x11 x12 x13 x14 x17 x18 hx1 hx3 hx5 hx6 hx7 hx8 hx9 hx10 hx11 hx12 hx13 hx14 hx17 hx18 o hf; exact nomatch hf
  | succ n ih =>
    intro v15 v16 q t0 t1 x1 x3 x5 x6 x7 x8 x9 x10 x11 x12 x13 x14 x17 x18 hx1 hx3 hx5 hx6 hx7 hx8 hx9 hx10 hx11 hx12 hx13 hx14 hx17 hx18 o hf
    unfold law_766 at hf
    refine go_iload (pc := 766) d62_766 rfl (go_bipush (pc := 768) d62_768 cb_16 ?_)
    by_cases h1 : v16 < (16 : Int32)
    · replace hf := (if_pos h1).symm.trans hf
      refine go_icN (pc := 770) d62_770 (XT.ii_ge_f h1) ?_
      refine go_aloadN (pc := 773) d62_773 rfl (go_iload (pc := 774) d62_774 rfl ?_)
      obtain ⟨r776, e2, hf⟩ := Option.bind_eq_some_iff.mp hf
      refine go_virt (pc := 776) (i := 0) (as := [.int v16]) (rest := []) (w' := (some q, [(12, t0), (12, t1)])) lk_1_59 pd_59 rfl oid_0 rfl rfl rfl rfl rfl rfl ⟨rfl, rfl, rfl, rfl, rfl⟩ d62_776 (c_k_edgeBest v16 t0 _ e2) ?_
      refine go_istore (pc := 779) (L' := [.val (.ref 0), x1, .val (.ref 1), x3, .val (.ref 14), x5, x6, x7, x8, x9, x10, x11, x12, x13, x14, .val (.int v15), .val (.int v16), .val (.int r776), x18]) d62_779 (stx rfl hx17 rfl) (go_aload (pc := 781) d62_781 rfl (go_iload (pc := 783) d62_783 rfl ?_))
      obtain ⟨r785, e3, hf⟩ := Option.bind_eq_some_iff.mp hf
      refine go_virt (pc := 785) (i := 1) (as := [.int v16]) (rest := []) (w' := (some q, [(12, t0), (12, t1)])) lk_1_59 pd_59 rfl oid_1 rfl rfl rfl rfl rfl rfl ⟨rfl, rfl, rfl, rfl, rfl⟩ d62_785 (c_k_edgeBest v16 t1 _ e3) ?_
      refine go_istore (pc := 788) (L' := [.val (.ref 0), x1, .val (.ref 1), x3, .val (.ref 14), x5, x6, x7, x8, x9, x10, x11, x12, x13, x14, .val (.int v15), .val (.int v16), .val (.int r776), .val (.int r785)]) d62_788 (stx rfl hx18 rfl) (go_iload (pc := 790) d62_790 rfl (go_iload (pc := 792) d62_792 rfl (go_iload (pc := 794) d62_794 rfl ?_)))
      refine go_stat (pc := 796) (as := [.int r776, .int r785, .int v15]) (rest := []) (w' := (some q, [(12, t0), (12, t1)])) lk_1_49 pd_56 rfl rfl ⟨Nat.le_of_ble_eq_true rfl, Nat.le_of_ble_eq_true rfl⟩ ⟨rfl, rfl, rfl⟩ ⟨rfl, rfl, rfl, rfl, rfl⟩ d62_796 (c_h_rel_n2 r776 r785 v15 q t0 t1) ?_
      by_cases h4 : (h_rel r776 r785 v15) = 0
      · replace hf := (if_pos h4).symm.trans hf
        refine go_ifN (pc := 799) d62_799 (XT.i0_ne_f h4) ?_
        refine go_iconst (pc := 802) d62_802 ci_0 ?_
        cases hf
        exact go_zret (pc := 803) rfl d62_803 (show (0 : Int32) = nar .boolean (0 : Int32) by decide)
      · replace hf := (if_neg h4).symm.trans hf
        refine go_ifY (pc := 799) (pc' := 804) d62_799 (XT.i0_ne_t h4) j_799_5 ?_
        refine go_iinc (pc := 804) (L' := [.val (.ref 0), x1, .val (.ref 1), x3, .val (.ref 14), x5, x6, x7, x8, x9, x10, x11, x12, x13, x14, .val (.int v15), .val (.int (v16 + (1 : Int32))), .val (.int r776), .val (.int r785)]) d62_804 rfl ci_1 rfl (go_goto (pc := 807) (pc' := 766) d62_807 j_807_m41 ?_)
        exact ih v15 (v16 + (1 : Int32)) q t0 t1 x1 x3 x5 x6 x7 x8 x9 x10 x11 x12 x13 x14 (.val (.int r776)) (.val (.int r785)) hx1 hx3 hx5 hx6 hx7 hx8 hx9 hx10 hx11 hx12 hx13 hx14 (Or.inr ⟨_, rfl, rfl⟩) (Or.inr ⟨_, rfl, rfl⟩) _ hf
    · replace hf := (if_neg h1).symm.trans hf
      refine go_icY (pc := 770) (pc' := 810) d62_770 (XT.ii_ge_t h1) j_770_40 ?_
      exact law_810_ok v15 q t0 t1 x1 x3 x5 x6 x7 x8 x9 x10 x11 x12 x13 x14 (.val (.int v16)) x17 x18 hx1 hx3 hx5 hx6 hx7 hx8 hx9 hx10 hx11 hx12 hx13 hx14 (Or.inr ⟨_, rfl, rfl⟩) hx17 hx18 _ hf
set_option maxRecDepth 65536 in
set_option maxHeartbeats 4000000 in
theorem law_763_ok  : ∀ (v15 : Int32) (q : List Int32) (t0 : S) (t1 : S) (x1 : Slot) (x3 : Slot) (x5 : Slot) (x6 : Slot) (x7 : Slot) (x8 : Slot) (x9 : Slot) (x10 : Slot) (x11 : Slot) (x12 : Slot) (x13 : Slot) (x14 : Slot) (x16 : Slot) (x17 : Slot) (x18 : Slot) (hx1 : k1 x1) (hx3 : k1 x3) (hx5 : k1 x5) (hx6 : k1 x6) (hx7 : k1 x7) (hx8 : k1 x8) (hx9 : k1 x9) (hx10 : k1 x10) (hx11 : k1 x11) (hx12 : k1 x12) (hx13 : k1 x13) (hx14 : k1 x14) (hx16 : k1 x16) (hx17 : k1 x17) (hx18 : k1 x18) (o : Int32 × S × S), law_763 v15 q t0 t1 = some o → Go PP m62 763 [.val (.ref 0), x1, .val (.ref 1), x3, .val (.ref 14), x5, x6, x7, x8, x9, x10, x11, x12, x13, x14, .val (.int v15), x16, x17, x18] [] (some q, [(12, t0), (12, t1)]) (some (.int o.1), (some q, [(12, o.2.1), (12, o.2.2)])) := by
  intro v15 q t0 t1 x1 x3 x5 x6 x7 x8 x9 x10 x11 x12 x13 x14 x16 x17 x18 hx1 hx3 hx5 hx6 hx7 hx8 hx9 hx10 hx11 hx12 hx13 hx14 hx16 hx17 hx18 o hf
  unfold law_763 at hf
  refine go_iconst (pc := 763) d62_763 ci_0 (go_istore (pc := 764) (L' := [.val (.ref 0), x1, .val (.ref 1), x3, .val (.ref 14), x5, x6, x7, x8, x9, x10, x11, x12, x13, x14, .val (.int v15), .val (.int (0 : Int32)), x17, x18]) d62_764 (stx rfl hx16 rfl) ?_)
  exact law_766_ok BIG v15 (0 : Int32) q t0 t1 x1 x3 x5 x6 x7 x8 x9 x10 x11 x12 x13 x14 x17 x18 hx1 hx3 hx5 hx6 hx7 hx8 hx9 hx10 hx11 hx12 hx13 hx14 hx17 hx18 _ hf
set_option maxRecDepth 65536 in
set_option maxHeartbeats 4000000 in
theorem law_688_ok  : ∀ (n : Nat) (v15 : Int32) (v16 : Int32) (q : List Int32) (t0 : S) (t1 : S) (x1 : Slot) (x3 : Slot) (x5 : Slot) (x6 : Slot) (x7 : Slot) (x8 : Slot) (x9 : Slot) (x10 : Slot) (x11 : Slot) (x12 : Slot) (x13 : Slot) (x14 : Slot) (x17 : Slot) (x18 : Slot) (hx1 : k1 x1) (hx3 : k1 x3) (hx5 : k1 x5) (hx6 : k1 x6) (hx7 : k1 x7) (hx8 : k1 x8) (hx9 : k1 x9) (hx10 : k1 x10) (hx11 : k1 x11) (hx12 : k1 x12) (hx13 : k1 x13) (hx14 : k1 x14) (hx17 : k1 x17) (hx18 : k1 x18) (o : Int32 × S × S), law_688 n v15 v16 q t0 t1 = some o → Go PP m62 688 [.val (.ref 0), x1, .val (.ref 1), x3, .val (.ref 14), x5, x6, x7, x8, x9, x10, x11, x12, x13, x14, .val (.int v15), .val (.int v16), x17, x18] [] (some q, [(12, t0), (12, t1)]) (some (.int o.1), (some q, [(12, o.2.1), (12, o.2.2)])) := by
  intro n
  induction n with
  | zero => intro v15 v16 q t0 t1 x1 x3 x5 x6 x7 x8 x9 x10 x11 x12 x13 x14 x17 x18 hx1 hx3 hx5 hx6 hx7 hx8 hx9 hx10 hx11 hx12 hx13 hx14 hx17 hx18 o hf; exact nomatch hf
  | succ n ih =>
    intro v15 v16 q t0 t1 x1 x3 x5 x6 x7 x8 x9 x10 x11 x12 x13 x14 x17 x18 hx1 hx3 hx5 hx6 hx7 hx8 hx9 hx10 hx11 hx12 hx13 hx14 hx17 hx18 o hf
    unfold law_688 at hf
    refine go_iload (pc := 688) d62_688 rfl (go_sipush (pc := 690) d62_690 cs_1024 ?_)
    by_cases h1 : v16 < (1024 : Int32)
    · replace hf := (if_pos h1).symm.trans hf
      refine go_icN (pc := 693) d62_693 (XT.ii_ge_f h1) ?_
      refine go_aloadN (pc := 696) d62_696 rfl (go_iload (pc := 697) d62_697 rfl (go_bipush (pc := 699) d62_699 cb_6 (go_ishr (pc := 701) d62_701 (go_iload (pc := 702) d62_702 rfl (go_iconst (pc := 704) d62_704 ci_3 (go_ishr (pc := 705) d62_705 (go_bipush (pc := 706) d62_706 cb_7 ?_)))))))
      refine go_iand (pc := 708) d62_708 (go_iload (pc := 709) d62_709 rfl (go_bipush (pc := 711) d62_711 cb_7 (go_iand (pc := 713) d62_713 ?_)))
      obtain ⟨r714, e2, hf⟩ := Option.bind_eq_some_iff.mp hf
      refine go_virt (pc := 714) (i := 0) (as := [.int (v16 >>> ((6 : Int32) &&& 31)), .int ((v16 >>> ((3 : Int32) &&& 31)) &&& (7 : Int32)), .int (v16 &&& (7 : Int32))]) (rest := []) (w' := (some q, [(12, t0), (12, t1)])) lk_1_55 pd_58 rfl oid_0 rfl rfl rfl rfl rfl rfl ⟨rfl, rfl, rfl, rfl, rfl⟩ d62_714 (c_k_spanWeight (v16 >>> ((6 : Int32) &&& 31)) ((v16 >>> ((3 : Int32) &&& 31)) &&& (7 : Int32)) (v16 &&& (7 : Int32)) t0 _ e2) ?_
      refine go_istore (pc := 717) (L' := [.val (.ref 0), x1, .val (.ref 1), x3, .val (.ref 14), x5, x6, x7, x8, x9, x10, x11, x12, x13, x14, .val (.int v15), .val (.int v16), .val (.int r714), x18]) d62_717 (stx rfl hx17 rfl) (go_aload (pc := 719) d62_719 rfl (go_iload (pc := 721) d62_721 rfl (go_bipush (pc := 723) d62_723 cb_6 (go_ishr (pc := 725) d62_725 (go_iload (pc := 726) d62_726 rfl (go_iconst (pc := 728) d62_728 ci_3 (go_ishr (pc := 729) d62_729 ?_)))))))
      refine go_bipush (pc := 730) d62_730 cb_7 (go_iand (pc := 732) d62_732 (go_iload (pc := 733) d62_733 rfl (go_bipush (pc := 735) d62_735 cb_7 (go_iand (pc := 737) d62_737 ?_))))
      obtain ⟨r738, e3, hf⟩ := Option.bind_eq_some_iff.mp hf
      refine go_virt (pc := 738) (i := 1) (as := [.int (v16 >>> ((6 : Int32) &&& 31)), .int ((v16 >>> ((3 : Int32) &&& 31)) &&& (7 : Int32)), .int (v16 &&& (7 : Int32))]) (rest := []) (w' := (some q, [(12, t0), (12, t1)])) lk_1_55 pd_58 rfl oid_1 rfl rfl rfl rfl rfl rfl ⟨rfl, rfl, rfl, rfl, rfl⟩ d62_738 (c_k_spanWeight (v16 >>> ((6 : Int32) &&& 31)) ((v16 >>> ((3 : Int32) &&& 31)) &&& (7 : Int32)) (v16 &&& (7 : Int32)) t1 _ e3) ?_
      refine go_istore (pc := 741) (L' := [.val (.ref 0), x1, .val (.ref 1), x3, .val (.ref 14), x5, x6, x7, x8, x9, x10, x11, x12, x13, x14, .val (.int v15), .val (.int v16), .val (.int r714), .val (.int r738)]) d62_741 (stx rfl hx18 rfl) (go_iload (pc := 743) d62_743 rfl (go_iload (pc := 745) d62_745 rfl (go_iload (pc := 747) d62_747 rfl ?_)))
      refine go_stat (pc := 749) (as := [.int r714, .int r738, .int v15]) (rest := []) (w' := (some q, [(12, t0), (12, t1)])) lk_1_49 pd_56 rfl rfl ⟨Nat.le_of_ble_eq_true rfl, Nat.le_of_ble_eq_true rfl⟩ ⟨rfl, rfl, rfl⟩ ⟨rfl, rfl, rfl, rfl, rfl⟩ d62_749 (c_h_rel_n2 r714 r738 v15 q t0 t1) ?_
      by_cases h4 : (h_rel r714 r738 v15) = 0
      · replace hf := (if_pos h4).symm.trans hf
        refine go_ifN (pc := 752) d62_752 (XT.i0_ne_f h4) ?_
        refine go_iconst (pc := 755) d62_755 ci_0 ?_
        cases hf
        exact go_zret (pc := 756) rfl d62_756 (show (0 : Int32) = nar .boolean (0 : Int32) by decide)
      · replace hf := (if_neg h4).symm.trans hf
        refine go_ifY (pc := 752) (pc' := 757) d62_752 (XT.i0_ne_t h4) j_752_5 ?_
        refine go_iinc (pc := 757) (L' := [.val (.ref 0), x1, .val (.ref 1), x3, .val (.ref 14), x5, x6, x7, x8, x9, x10, x11, x12, x13, x14, .val (.int v15), .val (.int (v16 + (1 : Int32))), .val (.int r714), .val (.int r738)]) d62_757 rfl ci_1 rfl (go_goto (pc := 760) (pc' := 688) d62_760 j_760_m72 ?_)
        exact ih v15 (v16 + (1 : Int32)) q t0 t1 x1 x3 x5 x6 x7 x8 x9 x10 x11 x12 x13 x14 (.val (.int r714)) (.val (.int r738)) hx1 hx3 hx5 hx6 hx7 hx8 hx9 hx10 hx11 hx12 hx13 hx14 (Or.inr ⟨_, rfl, rfl⟩) (Or.inr ⟨_, rfl, rfl⟩) _ hf
    · replace hf := (if_neg h1).symm.trans hf
      refine go_icY (pc := 693) (pc' := 763) d62_693 (XT.ii_ge_t h1) j_693_70 ?_
      exact law_763_ok v15 q t0 t1 x1 x3 x5 x6 x7 x8 x9 x10 x11 x12 x13 x14 (.val (.int v16)) x17 x18 hx1 hx3 hx5 hx6 hx7 hx8 hx9 hx10 hx11 hx12 hx13 hx14 (Or.inr ⟨_, rfl, rfl⟩) hx17 hx18 _ hf
set_option maxRecDepth 65536 in
set_option maxHeartbeats 4000000 in
theorem law_666_ok  : ∀ (v15 : Int32) (q : List Int32) (t0 : S) (t1 : S) (x1 : Slot) (x3 : Slot) (x5 : Slot) (x6 : Slot) (x7 : Slot) (x8 : Slot) (x9 : Slot) (x10 : Slot) (x11 : Slot) (x12 : Slot) (x13 : Slot) (x14 : Slot) (hx1 : k1 x1) (hx3 : k1 x3) (hx5 : k1 x5) (hx6 : k1 x6) (hx7 : k1 x7) (hx8 : k1 x8) (hx9 : k1 x9) (hx10 : k1 x10) (hx11 : k1 x11) (hx12 : k1 x12) (hx13 : k1 x13) (hx14 : k1 x14) (o : Int32 × S × S), law_666 v15 q t0 t1 = some o → Go PP m62 666 [.val (.ref 0), x1, .val (.ref 1), x3, .val (.ref 14), x5, x6, x7, x8, x9, x10, x11, x12, x13, x14, .val (.int v15), .unset, .unset, .unset] [] (some q, [(12, t0), (12, t1)]) (some (.int o.1), (some q, [(12, o.2.1), (12, o.2.2)])) := by
  intro v15 q t0 t1 x1 x3 x5 x6 x7 x8 x9 x10 x11 x12 x13 x14 hx1 hx3 hx5 hx6 hx7 hx8 hx9 hx10 hx11 hx12 hx13 hx14 o hf
  unfold law_666 at hf
  refine go_aloadN (pc := 666) d62_666 rfl ?_
  refine go_virt (pc := 667) (i := 0) (as := []) (rest := []) (w' := (some q, [(12, t0), (12, t1)])) lk_1_46 pd_55 rfl oid_0 rfl rfl rfl rfl rfl rfl ⟨rfl, rfl, rfl, rfl, rfl⟩ d62_667 (c_k_bestWeight t0) ?_
  refine go_aload (pc := 670) d62_670 rfl ?_
  refine go_virt (pc := 672) (i := 1) (as := []) (rest := [.int (k_bestWeight t0)]) (w' := (some q, [(12, t0), (12, t1)])) lk_1_46 pd_55 rfl oid_1 rfl rfl rfl rfl rfl rfl ⟨rfl, rfl, rfl, rfl, rfl⟩ d62_672 (c_k_bestWeight t1) ?_
  refine go_iload (pc := 675) d62_675 rfl ?_
  refine go_stat (pc := 677) (as := [.int (k_bestWeight t0), .int (k_bestWeight t1), .int v15]) (rest := []) (w' := (some q, [(12, t0), (12, t1)])) lk_1_49 pd_56 rfl rfl ⟨Nat.le_of_ble_eq_true rfl, Nat.le_of_ble_eq_true rfl⟩ ⟨rfl, rfl, rfl⟩ ⟨rfl, rfl, rfl, rfl, rfl⟩ d62_677 (c_h_rel_n2 (k_bestWeight t0) (k_bestWeight t1) v15 q t0 t1) ?_
  by_cases h1 : (h_rel (k_bestWeight t0) (k_bestWeight t1) v15) = 0
  · replace hf := (if_pos h1).symm.trans hf
    refine go_ifN (pc := 680) d62_680 (XT.i0_ne_f h1) ?_
    refine go_iconst (pc := 683) d62_683 ci_0 ?_
    cases hf
    exact go_zret (pc := 684) rfl d62_684 (show (0 : Int32) = nar .boolean (0 : Int32) by decide)
  · replace hf := (if_neg h1).symm.trans hf
    refine go_ifY (pc := 680) (pc' := 685) d62_680 (XT.i0_ne_t h1) j_680_5 ?_
    refine go_iconst (pc := 685) d62_685 ci_0 (go_istore (pc := 686) (L' := [.val (.ref 0), x1, .val (.ref 1), x3, .val (.ref 14), x5, x6, x7, x8, x9, x10, x11, x12, x13, x14, .val (.int v15), .val (.int (0 : Int32)), .unset, .unset]) d62_686 rfl ?_)
    exact law_688_ok BIG v15 (0 : Int32) q t0 t1 x1 x3 x5 x6 x7 x8 x9 x10 x11 x12 x13 x14 .unset .unset hx1 hx3 hx5 hx6 hx7 hx8 hx9 hx10 hx11 hx12 hx13 hx14 (Or.inl rfl) (Or.inl rfl) _ hf
set_option maxRecDepth 65536 in
set_option maxHeartbeats 4000000 in
theorem law_647_ok  : ∀ (v15 : Int32) (q : List Int32) (t0 : S) (t1 : S) (x1 : Slot) (x3 : Slot) (x5 : Slot) (x6 : Slot) (x7 : Slot) (x8 : Slot) (x9 : Slot) (x10 : Slot) (x11 : Slot) (x12 : Slot) (x13 : Slot) (x14 : Slot) (hx1 : k1 x1) (hx3 : k1 x3) (hx5 : k1 x5) (hx6 : k1 x6) (hx7 : k1 x7) (hx8 : k1 x8) (hx9 : k1 x9) (hx10 : k1 x10) (hx11 : k1 x11) (hx12 : k1 x12) (hx13 : k1 x13) (hx14 : k1 x14) (o : Int32 × S × S), law_647 v15 q t0 t1 = some o → Go PP m62 647 [.val (.ref 0), x1, .val (.ref 1), x3, .val (.ref 14), x5, x6, x7, x8, x9, x10, x11, x12, x13, x14, .val (.int v15), .unset, .unset, .unset] [] (some q, [(12, t0), (12, t1)]) (some (.int o.1), (some q, [(12, o.2.1), (12, o.2.2)])) := by
  intro v15 q t0 t1 x1 x3 x5 x6 x7 x8 x9 x10 x11 x12 x13 x14 hx1 hx3 hx5 hx6 hx7 hx8 hx9 hx10 hx11 hx12 hx13 hx14 o hf
  unfold law_647 at hf
  refine go_iload (pc := 647) d62_647 rfl ?_
  by_cases h1 : v15 = 0
  · replace hf := (if_pos h1).symm.trans hf
    refine go_ifN (pc := 649) d62_649 (XT.i0_ne_f h1) ?_
    refine go_aloadN (pc := 652) d62_652 rfl ?_
    refine go_virt (pc := 653) (i := 0) (as := []) (rest := []) (w' := (some q, [(12, t0), (12, t1)])) lk_1_43 pd_54 rfl oid_0 rfl rfl rfl rfl rfl rfl ⟨rfl, rfl, rfl, rfl, rfl⟩ d62_653 (c_k_status t0) ?_
    refine go_aload (pc := 656) d62_656 rfl ?_
    refine go_virt (pc := 658) (i := 1) (as := []) (rest := [.int (k_status t0)]) (w' := (some q, [(12, t0), (12, t1)])) lk_1_43 pd_54 rfl oid_1 rfl rfl rfl rfl rfl rfl ⟨rfl, rfl, rfl, rfl, rfl⟩ d62_658 (c_k_status t1) ?_
    by_cases h2 : (k_status t0) = (k_status t1)
    · replace hf := (if_pos h2).symm.trans hf
      refine go_icY (pc := 661) (pc' := 666) d62_661 (XT.ii_eq_t h2) j_661_5 ?_
      exact law_666_ok v15 q t0 t1 x1 x3 x5 x6 x7 x8 x9 x10 x11 x12 x13 x14 hx1 hx3 hx5 hx6 hx7 hx8 hx9 hx10 hx11 hx12 hx13 hx14 _ hf
    · replace hf := (if_neg h2).symm.trans hf
      refine go_icN (pc := 661) d62_661 (XT.ii_eq_f h2) ?_
      refine go_iconst (pc := 664) d62_664 ci_0 ?_
      cases hf
      exact go_zret (pc := 665) rfl d62_665 (show (0 : Int32) = nar .boolean (0 : Int32) by decide)
  · replace hf := (if_neg h1).symm.trans hf
    refine go_ifY (pc := 649) (pc' := 666) d62_649 (XT.i0_ne_t h1) j_649_17 ?_
    exact law_666_ok v15 q t0 t1 x1 x3 x5 x6 x7 x8 x9 x10 x11 x12 x13 x14 hx1 hx3 hx5 hx6 hx7 hx8 hx9 hx10 hx11 hx12 hx13 hx14 _ hf
set_option maxRecDepth 65536 in
set_option maxHeartbeats 4000000 in
theorem law_611_ok  : ∀ (v15 : Int32) (p0 : Int32) (p1 : Int32) (p2 : Int32) (q : List Int32) (t0 : S) (t1 : S) (x1 : Slot) (x3 : Slot) (x5 : Slot) (x6 : Slot) (x7 : Slot) (x8 : Slot) (x9 : Slot) (x10 : Slot) (x11 : Slot) (x12 : Slot) (x13 : Slot) (x14 : Slot) (hx1 : k1 x1) (hx3 : k1 x3) (hx5 : k1 x5) (hx6 : k1 x6) (hx7 : k1 x7) (hx8 : k1 x8) (hx9 : k1 x9) (hx10 : k1 x10) (hx11 : k1 x11) (hx12 : k1 x12) (hx13 : k1 x13) (hx14 : k1 x14) (o : Int32 × S × S), law_611 v15 p0 p1 p2 q t0 t1 = some o → Go PP m62 611 [.val (.ref 0), x1, .val (.ref 1), x3, .val (.ref 14), x5, x6, x7, x8, x9, x10, x11, x12, x13, x14, .val (.int v15), .unset, .unset, .unset] [.int p0, .int p1, .int p2] (some q, [(12, t0), (12, t1)]) (some (.int o.1), (some q, [(12, o.2.1), (12, o.2.2)])) := by
  intro v15 p0 p1 p2 q t0 t1 x1 x3 x5 x6 x7 x8 x9 x10 x11 x12 x13 x14 hx1 hx3 hx5 hx6 hx7 hx8 hx9 hx10 hx11 hx12 hx13 hx14 o hf
  unfold law_611 at hf
  refine go_iadd (pc := 611) d62_611 ?_
  by_cases h1 : p2 = (p1 + p0)
  · replace hf := (if_pos h1).symm.trans hf
    refine go_icY (pc := 612) (pc' := 617) d62_612 (XT.ii_eq_t h1) j_612_5 ?_
    refine go_aloadN (pc := 617) d62_617 rfl ?_
    obtain ⟨r618, e2, hf⟩ := Option.bind_eq_some_iff.mp hf
    refine go_virt (pc := 618) (i := 0) (as := []) (rest := []) (w' := (some q, [(12, r618.2), (12, t1)])) lk_1_23 pd_48 rfl oid_0 rfl rfl rfl rfl rfl rfl ⟨rfl, rfl, rfl, rfl, rfl⟩ d62_618 (c_k_parse t0 _ e2) ?_
    refine go_pop (pc := 621) d62_621 (go_aload (pc := 622) d62_622 rfl ?_)
    obtain ⟨r624, e3, hf⟩ := Option.bind_eq_some_iff.mp hf
    refine go_virt (pc := 624) (i := 1) (as := []) (rest := []) (w' := (some q, [(12, r618.2), (12, r624.2)])) lk_1_23 pd_48 rfl oid_1 rfl rfl rfl rfl rfl rfl ⟨rfl, rfl, rfl, rfl, rfl⟩ d62_624 (c_k_parse t1 _ e3) ?_
    refine go_pop (pc := 627) d62_627 (go_aloadN (pc := 628) d62_628 rfl ?_)
    refine go_virt (pc := 629) (i := 0) (as := []) (rest := []) (w' := (some q, [(12, r618.2), (12, r624.2)])) lk_1_43 pd_54 rfl oid_0 rfl rfl rfl rfl rfl rfl ⟨rfl, rfl, rfl, rfl, rfl⟩ d62_629 (c_k_status r618.2) ?_
    refine go_iconst (pc := 632) d62_632 ci_1 ?_
    by_cases h4 : (k_status r618.2) = (1 : Int32)
    · replace hf := (if_pos h4).symm.trans hf
      refine go_icN (pc := 633) d62_633 (XT.ii_ne_f h4) ?_
      refine go_aload (pc := 636) d62_636 rfl ?_
      refine go_virt (pc := 638) (i := 1) (as := []) (rest := []) (w' := (some q, [(12, r618.2), (12, r624.2)])) lk_1_43 pd_54 rfl oid_1 rfl rfl rfl rfl rfl rfl ⟨rfl, rfl, rfl, rfl, rfl⟩ d62_638 (c_k_status r624.2) ?_
      refine go_iconst (pc := 641) d62_641 ci_1 ?_
      by_cases h5 : (k_status r624.2) = (1 : Int32)
      · replace hf := (if_pos h5).symm.trans hf
        refine go_icY (pc := 642) (pc' := 647) d62_642 (XT.ii_eq_t h5) j_642_5 ?_
        exact law_647_ok v15 q r618.2 r624.2 x1 x3 x5 x6 x7 x8 x9 x10 x11 x12 x13 x14 hx1 hx3 hx5 hx6 hx7 hx8 hx9 hx10 hx11 hx12 hx13 hx14 _ hf
      · replace hf := (if_neg h5).symm.trans hf
        refine go_icN (pc := 642) d62_642 (XT.ii_eq_f h5) ?_
        refine go_iconst (pc := 645) d62_645 ci_0 ?_
        cases hf
        exact go_zret (pc := 646) rfl d62_646 (show (0 : Int32) = nar .boolean (0 : Int32) by decide)
    · replace hf := (if_neg h4).symm.trans hf
      refine go_icY (pc := 633) (pc' := 647) d62_633 (XT.ii_ne_t h4) j_633_14 ?_
      exact law_647_ok v15 q r618.2 r624.2 x1 x3 x5 x6 x7 x8 x9 x10 x11 x12 x13 x14 hx1 hx3 hx5 hx6 hx7 hx8 hx9 hx10 hx11 hx12 hx13 hx14 _ hf
  · replace hf := (if_neg h1).symm.trans hf
    refine go_icN (pc := 612) d62_612 (XT.ii_eq_f h1) ?_
    refine go_iconst (pc := 615) d62_615 ci_0 ?_
    cases hf
    exact go_zret (pc := 616) rfl d62_616 (show (0 : Int32) = nar .boolean (0 : Int32) by decide)
set_option maxRecDepth 65536 in
set_option maxHeartbeats 4000000 in
theorem law_582_ok  : ∀ (v6 : Int32) (v7 : Int32) (v15 : Int32) (p0 : Int32) (p1 : Int32) (p2 : Int32) (q : List Int32) (t0 : S) (t1 : S) (x1 : Slot) (x3 : Slot) (x5 : Slot) (x8 : Slot) (x9 : Slot) (x10 : Slot) (x11 : Slot) (x12 : Slot) (x13 : Slot) (x14 : Slot) (hx1 : k1 x1) (hx3 : k1 x3) (hx5 : k1 x5) (hx8 : k1 x8) (hx9 : k1 x9) (hx10 : k1 x10) (hx11 : k1 x11) (hx12 : k1 x12) (hx13 : k1 x13) (hx14 : k1 x14) (o : Int32 × S × S), law_582 v6 v7 v15 p0 p1 p2 q t0 t1 = some o → Go PP m62 582 [.val (.ref 0), x1, .val (.ref 1), x3, .val (.ref 14), x5, .val (.int v6), .val (.int v7), x8, x9, x10, x11, x12, x13, x14, .val (.int v15), .unset, .unset, .unset] [.int p0, .int p1, .int p2] (some q, [(12, t0), (12, t1)]) (some (.int o.1), (some q, [(12, o.2.1), (12, o.2.2)])) := by
  intro v6 v7 v15 p0 p1 p2 q t0 t1 x1 x3 x5 x8 x9 x10 x11 x12 x13 x14 hx1 hx3 hx5 hx8 hx9 hx10 hx11 hx12 hx13 hx14 o hf
  unfold law_582 at hf
  refine go_iadd (pc := 582) d62_582 ?_
  by_cases h1 : p2 = (p1 + p0)
  · replace hf := (if_pos h1).symm.trans hf
    refine go_icY (pc := 583) (pc' := 588) d62_583 (XT.ii_eq_t h1) j_583_5 ?_
    refine go_aload (pc := 588) d62_588 rfl ?_
    refine go_virt (pc := 590) (i := 1) (as := []) (rest := []) (w' := (some q, [(12, t0), (12, t1)])) lk_1_33 pd_51 rfl oid_1 rfl rfl rfl rfl rfl rfl ⟨rfl, rfl, rfl, rfl, rfl⟩ d62_590 (c_k_ruleCount t1) ?_
    refine go_iload (pc := 593) d62_593 rfl (go_iload (pc := 595) d62_595 rfl ?_)
    by_cases h2 : v15 = 0
    · refine go_ifY (pc := 597) (pc' := 610) d62_597 (XT.i0_eq_t h2) j_597_13 ?_
      refine go_iconst (pc := 610) d62_610 ci_0 ?_
      exact law_611_ok v15 (0 : Int32) v6 (k_ruleCount t1) q t0 t1 x1 x3 x5 (.val (.int v6)) (.val (.int v7)) x8 x9 x10 x11 x12 x13 x14 hx1 hx3 hx5 (Or.inr ⟨_, rfl, rfl⟩) (Or.inr ⟨_, rfl, rfl⟩) hx8 hx9 hx10 hx11 hx12 hx13 hx14 _ (by simpa only [if_pos h2] using hf)
    · refine go_ifN (pc := 597) d62_597 (XT.i0_eq_f h2) ?_
      refine go_iload (pc := 600) d62_600 rfl (go_iconst (pc := 602) d62_602 ci_1 ?_)
      by_cases h3 : v7 = (1 : Int32)
      · refine go_icN (pc := 603) d62_603 (XT.ii_ne_f h3) ?_
        refine go_iconst (pc := 606) d62_606 ci_1 (go_goto (pc := 607) (pc' := 611) d62_607 j_607_4 ?_)
        exact law_611_ok v15 (1 : Int32) v6 (k_ruleCount t1) q t0 t1 x1 x3 x5 (.val (.int v6)) (.val (.int v7)) x8 x9 x10 x11 x12 x13 x14 hx1 hx3 hx5 (Or.inr ⟨_, rfl, rfl⟩) (Or.inr ⟨_, rfl, rfl⟩) hx8 hx9 hx10 hx11 hx12 hx13 hx14 _ (by simpa only [if_neg h2, if_pos h3] using hf)
      · refine go_icY (pc := 603) (pc' := 610) d62_603 (XT.ii_ne_t h3) j_603_7 ?_
        refine go_iconst (pc := 610) d62_610 ci_0 ?_
        exact law_611_ok v15 (0 : Int32) v6 (k_ruleCount t1) q t0 t1 x1 x3 x5 (.val (.int v6)) (.val (.int v7)) x8 x9 x10 x11 x12 x13 x14 hx1 hx3 hx5 (Or.inr ⟨_, rfl, rfl⟩) (Or.inr ⟨_, rfl, rfl⟩) hx8 hx9 hx10 hx11 hx12 hx13 hx14 _ (by simpa only [if_neg h2, if_neg h3] using hf)
  · replace hf := (if_neg h1).symm.trans hf
    refine go_icN (pc := 583) d62_583 (XT.ii_eq_f h1) ?_
    refine go_iconst (pc := 586) d62_586 ci_0 ?_
    cases hf
    exact go_zret (pc := 587) rfl d62_587 (show (0 : Int32) = nar .boolean (0 : Int32) by decide)
set_option maxRecDepth 65536 in
set_option maxHeartbeats 4000000 in
theorem law_560_ok  : ∀ (v5 : Int32) (v6 : Int32) (v7 : Int32) (v15 : Int32) (q : List Int32) (t0 : S) (t1 : S) (x1 : Slot) (x3 : Slot) (x8 : Slot) (x9 : Slot) (x10 : Slot) (x11 : Slot) (x12 : Slot) (x13 : Slot) (x14 : Slot) (hx1 : k1 x1) (hx3 : k1 x3) (hx8 : k1 x8) (hx9 : k1 x9) (hx10 : k1 x10) (hx11 : k1 x11) (hx12 : k1 x12) (hx13 : k1 x13) (hx14 : k1 x14) (o : Int32 × S × S), law_560 v5 v6 v7 v15 q t0 t1 = some o → Go PP m62 560 [.val (.ref 0), x1, .val (.ref 1), x3, .val (.ref 14), .val (.int v5), .val (.int v6), .val (.int v7), x8, x9, x10, x11, x12, x13, x14, .val (.int v15), .unset, .unset, .unset] [] (some q, [(12, t0), (12, t1)]) (some (.int o.1), (some q, [(12, o.2.1), (12, o.2.2)])) := by
  intro v5 v6 v7 v15 q t0 t1 x1 x3 x8 x9 x10 x11 x12 x13 x14 hx1 hx3 hx8 hx9 hx10 hx11 hx12 hx13 hx14 o hf
  unfold law_560 at hf
  refine go_aload (pc := 560) d62_560 rfl ?_
  refine go_virt (pc := 562) (i := 1) (as := []) (rest := []) (w' := (some q, [(12, t0), (12, t1)])) lk_1_30 pd_50 rfl oid_1 rfl rfl rfl rfl rfl rfl ⟨rfl, rfl, rfl, rfl, rfl⟩ d62_562 (c_k_edgeCount t1) ?_
  refine go_iload (pc := 565) d62_565 rfl (go_iload (pc := 567) d62_567 rfl ?_)
  by_cases h1 : v15 = 0
  · refine go_ifY (pc := 569) (pc' := 581) d62_569 (XT.i0_eq_t h1) j_569_12 ?_
    refine go_iconst (pc := 581) d62_581 ci_0 ?_
    exact law_582_ok v6 v7 v15 (0 : Int32) v5 (k_edgeCount t1) q t0 t1 x1 x3 (.val (.int v5)) x8 x9 x10 x11 x12 x13 x14 hx1 hx3 (Or.inr ⟨_, rfl, rfl⟩) hx8 hx9 hx10 hx11 hx12 hx13 hx14 _ (by simpa only [if_pos h1] using hf)
  · refine go_ifN (pc := 569) d62_569 (XT.i0_eq_f h1) ?_
    refine go_iload (pc := 572) d62_572 rfl ?_
    by_cases h2 : v7 = 0
    · refine go_ifN (pc := 574) d62_574 (XT.i0_ne_f h2) ?_
      refine go_iconst (pc := 577) d62_577 ci_1 (go_goto (pc := 578) (pc' := 582) d62_578 j_578_4 ?_)
      exact law_582_ok v6 v7 v15 (1 : Int32) v5 (k_edgeCount t1) q t0 t1 x1 x3 (.val (.int v5)) x8 x9 x10 x11 x12 x13 x14 hx1 hx3 (Or.inr ⟨_, rfl, rfl⟩) hx8 hx9 hx10 hx11 hx12 hx13 hx14 _ (by simpa only [if_neg h1, if_pos h2] using hf)
    · refine go_ifY (pc := 574) (pc' := 581) d62_574 (XT.i0_ne_t h2) j_574_7 ?_
      refine go_iconst (pc := 581) d62_581 ci_0 ?_
      exact law_582_ok v6 v7 v15 (0 : Int32) v5 (k_edgeCount t1) q t0 t1 x1 x3 (.val (.int v5)) x8 x9 x10 x11 x12 x13 x14 hx1 hx3 (Or.inr ⟨_, rfl, rfl⟩) hx8 hx9 hx10 hx11 hx12 hx13 hx14 _ (by simpa only [if_neg h1, if_neg h2] using hf)
set_option maxRecDepth 65536 in
set_option maxHeartbeats 4000000 in
theorem law_547_ok  : ∀ (v5 : Int32) (v6 : Int32) (v7 : Int32) (v14 : Int32) (v15 : Int32) (q : List Int32) (t0 : S) (t1 : S) (x1 : Slot) (x3 : Slot) (x8 : Slot) (x9 : Slot) (x10 : Slot) (x11 : Slot) (x12 : Slot) (x13 : Slot) (hx1 : k1 x1) (hx3 : k1 x3) (hx8 : k1 x8) (hx9 : k1 x9) (hx10 : k1 x10) (hx11 : k1 x11) (hx12 : k1 x12) (hx13 : k1 x13) (o : Int32 × S × S), law_547 v5 v6 v7 v14 v15 q t0 t1 = some o → Go PP m62 547 [.val (.ref 0), x1, .val (.ref 1), x3, .val (.ref 14), .val (.int v5), .val (.int v6), .val (.int v7), x8, x9, x10, x11, x12, x13, .val (.int v14), .val (.int v15), .unset, .unset, .unset] [] (some q, [(12, t0), (12, t1)]) (some (.int o.1), (some q, [(12, o.2.1), (12, o.2.2)])) := by
  intro v5 v6 v7 v14 v15 q t0 t1 x1 x3 x8 x9 x10 x11 x12 x13 hx1 hx3 hx8 hx9 hx10 hx11 hx12 hx13 o hf
  unfold law_547 at hf
  refine go_iload (pc := 547) d62_547 rfl ?_
  by_cases h1 : v15 = 0
  · replace hf := (if_pos h1).symm.trans hf
    refine go_ifN (pc := 549) d62_549 (XT.i0_ne_f h1) ?_
    refine go_iload (pc := 552) d62_552 rfl (go_iconst (pc := 554) d62_554 ci_m1 ?_)
    by_cases h2 : v14 = (-1 : Int32)
    · replace hf := (if_pos h2).symm.trans hf
      refine go_icY (pc := 555) (pc' := 560) d62_555 (XT.ii_eq_t h2) j_555_5 ?_
      exact law_560_ok v5 v6 v7 v15 q t0 t1 x1 x3 x8 x9 x10 x11 x12 x13 (.val (.int v14)) hx1 hx3 hx8 hx9 hx10 hx11 hx12 hx13 (Or.inr ⟨_, rfl, rfl⟩) _ hf
    · replace hf := (if_neg h2).symm.trans hf
      refine go_icN (pc := 555) d62_555 (XT.ii_eq_f h2) ?_
      refine go_iconst (pc := 558) d62_558 ci_0 ?_
      cases hf
      exact go_zret (pc := 559) rfl d62_559 (show (0 : Int32) = nar .boolean (0 : Int32) by decide)
  · replace hf := (if_neg h1).symm.trans hf
    refine go_ifY (pc := 549) (pc' := 560) d62_549 (XT.i0_ne_t h1) j_549_11 ?_
    exact law_560_ok v5 v6 v7 v15 q t0 t1 x1 x3 x8 x9 x10 x11 x12 x13 (.val (.int v14)) hx1 hx3 hx8 hx9 hx10 hx11 hx12 hx13 (Or.inr ⟨_, rfl, rfl⟩) _ hf
set_option maxRecDepth 65536 in
set_option maxHeartbeats 4000000 in
theorem law_542_ok  : ∀ (v5 : Int32) (v6 : Int32) (v7 : Int32) (v14 : Int32) (v15 : Int32) (p0 : Int32) (p1 : Int32) (q : List Int32) (t0 : S) (t1 : S) (x1 : Slot) (x3 : Slot) (x8 : Slot) (x9 : Slot) (x10 : Slot) (x11 : Slot) (x12 : Slot) (x13 : Slot) (hx1 : k1 x1) (hx3 : k1 x3) (hx8 : k1 x8) (hx9 : k1 x9) (hx10 : k1 x10) (hx11 : k1 x11) (hx12 : k1 x12) (hx13 : k1 x13) (o : Int32 × S × S), law_542 v5 v6 v7 v14 v15 p0 p1 q t0 t1 = some o → Go PP m62 542 [.val (.ref 0), x1, .val (.ref 1), x3, .val (.ref 14), .val (.int v5), .val (.int v6), .val (.int v7), x8, x9, x10, x11, x12, x13, .val (.int v14), .val (.int v15), .unset, .unset, .unset] [.int p0, .int p1] (some q, [(12, t0), (12, t1)]) (some (.int o.1), (some q, [(12, o.2.1), (12, o.2.2)])) := by
  intro v5 v6 v7 v14 v15 p0 p1 q t0 t1 x1 x3 x8 x9 x10 x11 x12 x13 hx1 hx3 hx8 hx9 hx10 hx11 hx12 hx13 o hf
  unfold law_542 at hf
  by_cases h1 : p1 = p0
  · replace hf := (if_pos h1).symm.trans hf
    refine go_icY (pc := 542) (pc' := 547) d62_542 (XT.ii_eq_t h1) j_542_5 ?_
    exact law_547_ok v5 v6 v7 v14 v15 q t0 t1 x1 x3 x8 x9 x10 x11 x12 x13 hx1 hx3 hx8 hx9 hx10 hx11 hx12 hx13 _ hf
  · replace hf := (if_neg h1).symm.trans hf
    refine go_icN (pc := 542) d62_542 (XT.ii_eq_f h1) ?_
    refine go_iconst (pc := 545) d62_545 ci_0 ?_
    cases hf
    exact go_zret (pc := 546) rfl d62_546 (show (0 : Int32) = nar .boolean (0 : Int32) by decide)
set_option maxRecDepth 65536 in
set_option maxHeartbeats 4000000 in
theorem law_521_ok  : ∀ (v5 : Int32) (v6 : Int32) (v7 : Int32) (v14 : Int32) (p0 : Int32) (q : List Int32) (t0 : S) (t1 : S) (x1 : Slot) (x3 : Slot) (x8 : Slot) (x9 : Slot) (x10 : Slot) (x11 : Slot) (x12 : Slot) (x13 : Slot) (hx1 : k1 x1) (hx3 : k1 x3) (hx8 : k1 x8) (hx9 : k1 x9) (hx10 : k1 x10) (hx11 : k1 x11) (hx12 : k1 x12) (hx13 : k1 x13) (o : Int32 × S × S), law_521 v5 v6 v7 v14 p0 q t0 t1 = some o → Go PP m62 521 [.val (.ref 0), x1, .val (.ref 1), x3, .val (.ref 14), .val (.int v5), .val (.int v6), .val (.int v7), x8, x9, x10, x11, x12, x13, .val (.int v14), .unset, .unset, .unset, .unset] [.int p0] (some q, [(12, t0), (12, t1)]) (some (.int o.1), (some q, [(12, o.2.1), (12, o.2.2)])) := by
  intro v5 v6 v7 v14 p0 q t0 t1 x1 x3 x8 x9 x10 x11 x12 x13 hx1 hx3 hx8 hx9 hx10 hx11 hx12 hx13 o hf
  unfold law_521 at hf
  refine go_istore (pc := 521) (L' := [.val (.ref 0), x1, .val (.ref 1), x3, .val (.ref 14), .val (.int v5), .val (.int v6), .val (.int v7), x8, x9, x10, x11, x12, x13, .val (.int v14), .val (.int p0), .unset, .unset, .unset]) d62_521 rfl (go_iload (pc := 523) d62_523 rfl ?_)
  by_cases h1 : p0 = 0
  · replace hf := (if_pos h1).symm.trans hf
    refine go_ifY (pc := 525) (pc' := 547) d62_525 (XT.i0_eq_t h1) j_525_22 ?_
    exact law_547_ok v5 v6 v7 v14 p0 q t0 t1 x1 x3 x8 x9 x10 x11 x12 x13 hx1 hx3 hx8 hx9 hx10 hx11 hx12 hx13 _ hf
  · replace hf := (if_neg h1).symm.trans hf
    refine go_ifN (pc := 525) d62_525 (XT.i0_eq_f h1) ?_
    refine go_iload (pc := 528) d62_528 rfl (go_iload (pc := 530) d62_530 rfl ?_)
    by_cases h2 : v7 = 0
    · refine go_ifN (pc := 532) d62_532 (XT.i0_ne_f h2) ?_
      refine go_iload (pc := 535) d62_535 rfl (go_goto (pc := 537) (pc' := 542) d62_537 j_537_5 ?_)
      exact law_542_ok v5 v6 v7 v14 p0 v5 v14 q t0 t1 x1 x3 x8 x9 x10 x11 x12 x13 hx1 hx3 hx8 hx9 hx10 hx11 hx12 hx13 _ (by simpa only [if_pos h2] using hf)
    · refine go_ifY (pc := 532) (pc' := 540) d62_532 (XT.i0_ne_t h2) j_532_8 ?_
      refine go_iload (pc := 540) d62_540 rfl ?_
      exact law_542_ok v5 v6 v7 v14 p0 v6 v14 q t0 t1 x1 x3 x8 x9 x10 x11 x12 x13 hx1 hx3 hx8 hx9 hx10 hx11 hx12 hx13 _ (by simpa only [if_neg h2] using hf)
set_option maxRecDepth 65536 in
set_option maxHeartbeats 4000000 in
theorem law_509_ok  : ∀ (v5 : Int32) (v6 : Int32) (v7 : Int32) (p0 : Int32) (q : List Int32) (t0 : S) (t1 : S) (x1 : Slot) (x3 : Slot) (x8 : Slot) (x9 : Slot) (x10 : Slot) (x11 : Slot) (x12 : Slot) (x13 : Slot) (hx1 : k1 x1) (hx3 : k1 x3) (hx8 : k1 x8) (hx9 : k1 x9) (hx10 : k1 x10) (hx11 : k1 x11) (hx12 : k1 x12) (hx13 : k1 x13) (o : Int32 × S × S), law_509 v5 v6 v7 p0 q t0 t1 = some o → Go PP m62 509 [.val (.ref 0), x1, .val (.ref 1), x3, .val (.ref 14), .val (.int v5), .val (.int v6), .val (.int v7), x8, x9, x10, x11, x12, x13, .unset, .unset, .unset, .unset, .unset] [.int p0] (some q, [(12, t0), (12, t1)]) (some (.int o.1), (some q, [(12, o.2.1), (12, o.2.2)])) := by
  intro v5 v6 v7 p0 q t0 t1 x1 x3 x8 x9 x10 x11 x12 x13 hx1 hx3 hx8 hx9 hx10 hx11 hx12 hx13 o hf
  unfold law_509 at hf
  refine go_istore (pc := 509) (L' := [.val (.ref 0), x1, .val (.ref 1), x3, .val (.ref 14), .val (.int v5), .val (.int v6), .val (.int v7), x8, x9, x10, x11, x12, x13, .val (.int p0), .unset, .unset, .unset, .unset]) d62_509 rfl (go_iload (pc := 511) d62_511 rfl ?_)
  by_cases h1 : p0 < 0
  · refine go_ifY (pc := 513) (pc' := 520) d62_513 (XT.i0_lt_t h1) j_513_7 ?_
    refine go_iconst (pc := 520) d62_520 ci_0 ?_
    exact law_521_ok v5 v6 v7 p0 (0 : Int32) q t0 t1 x1 x3 x8 x9 x10 x11 x12 x13 hx1 hx3 hx8 hx9 hx10 hx11 hx12 hx13 _ (by simpa only [if_pos h1] using hf)
  · refine go_ifN (pc := 513) d62_513 (XT.i0_lt_f h1) ?_
    refine go_iconst (pc := 516) d62_516 ci_1 (go_goto (pc := 517) (pc' := 521) d62_517 j_517_4 ?_)
    exact law_521_ok v5 v6 v7 p0 (1 : Int32) q t0 t1 x1 x3 x8 x9 x10 x11 x12 x13 hx1 hx3 hx8 hx9 hx10 hx11 hx12 hx13 _ (by simpa only [if_neg h1] using hf)
set_option maxRecDepth 65536 in
set_option maxHeartbeats 4000000 in
theorem law_410_ok  : ∀ (v1 : Int32) (v5 : Int32) (v6 : Int32) (q : List Int32) (t0 : S) (t1 : S) (x3 : Slot) (x7 : Slot) (x8 : Slot) (x9 : Slot) (x10 : Slot) (x11 : Slot) (x12 : Slot) (x13 : Slot) (hx3 : k1 x3) (hx7 : k1 x7) (hx8 : k1 x8) (hx9 : k1 x9) (hx10 : k1 x10) (hx11 : k1 x11) (hx12 : k1 x12) (hx13 : k1 x13) (o : Int32 × S × S), law_410 v1 v5 v6 q t0 t1 = some o → Go PP m62 410 [.val (.ref 0), .val (.int v1), .val (.ref 1), x3, .val (.ref 14), .val (.int v5), .val (.int v6), x7, x8, x9, x10, x11, x12, x13, .unset, .unset, .unset, .unset, .unset] [] (some q, [(12, t0), (12, t1)]) (some (.int o.1), (some q, [(12, o.2.1), (12, o.2.2)])) := by
  intro v1 v5 v6 q t0 t1 x3 x7 x8 x9 x10 x11 x12 x13 hx3 hx7 hx8 hx9 hx10 hx11 hx12 hx13 o hf
  unfold law_410 at hf
  refine go_iloadN (pc := 410) d62_410 rfl (go_iconst (pc := 411) d62_411 ci_3 (go_ishr (pc := 412) d62_412 (go_iconst (pc := 413) d62_413 ci_1 (go_iand (pc := 414) d62_414 (go_istore (pc := 415) (L' := [.val (.ref 0), .val (.int v1), .val (.ref 1), x3, .val (.ref 14), .val (.int v5), .val (.int v6), .val (.int ((v1 >>> ((3 : Int32) &&& 31)) &&& (1 : Int32))), x8, x9, x10, x11, x12, x13, .unset, .unset, .unset, .unset, .unset]) d62_415 (stx rfl hx7 rfl) (go_iloadN (pc := 417) d62_417 rfl (go_iconst (pc := 418) d62_418 ci_4 ?_)))))))
  refine go_ishr (pc := 419) d62_419 (go_bipush (pc := 420) d62_420 cb_7 (go_iand (pc := 422) d62_422 (go_istore (pc := 423) (L' := [.val (.ref 0), .val (.int v1), .val (.ref 1), x3, .val (.ref 14), .val (.int v5), .val (.int v6), .val (.int ((v1 >>> ((3 : Int32) &&& 31)) &&& (1 : Int32))), .val (.int ((v1 >>> ((4 : Int32) &&& 31)) &&& (7 : Int32))), x9, x10, x11, x12, x13, .unset, .unset, .unset, .unset, .unset]) d62_423 (stx rfl hx8 rfl) (go_iloadN (pc := 425) d62_425 rfl (go_bipush (pc := 426) d62_426 cb_7 (go_ishr (pc := 428) d62_428 (go_bipush (pc := 429) d62_429 cb_7 ?_)))))))
  refine go_iand (pc := 431) d62_431 (go_istore (pc := 432) (L' := [.val (.ref 0), .val (.int v1), .val (.ref 1), x3, .val (.ref 14), .val (.int v5), .val (.int v6), .val (.int ((v1 >>> ((3 : Int32) &&& 31)) &&& (1 : Int32))), .val (.int ((v1 >>> ((4 : Int32) &&& 31)) &&& (7 : Int32))), .val (.int ((v1 >>> ((7 : Int32) &&& 31)) &&& (7 : Int32))), x10, x11, x12, x13, .unset, .unset, .unset, .unset, .unset]) d62_432 (stx rfl hx9 rfl) (go_iloadN (pc := 434) d62_434 rfl (go_bipush (pc := 435) d62_435 cb_10 (go_ishr (pc := 437) d62_437 (go_bipush (pc := 438) d62_438 cb_127 (go_iand (pc := 440) d62_440 (go_istore (pc := 441) (L' := [.val (.ref 0), .val (.int v1), .val (.ref 1), x3, .val (.ref 14), .val (.int v5), .val (.int v6), .val (.int ((v1 >>> ((3 : Int32) &&& 31)) &&& (1 : Int32))), .val (.int ((v1 >>> ((4 : Int32) &&& 31)) &&& (7 : Int32))), .val (.int ((v1 >>> ((7 : Int32) &&& 31)) &&& (7 : Int32))), .val (.int ((v1 >>> ((10 : Int32) &&& 31)) &&& (127 : Int32))), x11, x12, x13, .unset, .unset, .unset, .unset, .unset]) d62_441 (stx rfl hx10 rfl) ?_)))))))
  refine go_iloadN (pc := 443) d62_443 rfl (go_bipush (pc := 444) d62_444 cb_17 (go_ishr (pc := 446) d62_446 (go_iconst (pc := 447) d62_447 ci_3 (go_iand (pc := 448) d62_448 (go_istore (pc := 449) (L' := [.val (.ref 0), .val (.int v1), .val (.ref 1), x3, .val (.ref 14), .val (.int v5), .val (.int v6), .val (.int ((v1 >>> ((3 : Int32) &&& 31)) &&& (1 : Int32))), .val (.int ((v1 >>> ((4 : Int32) &&& 31)) &&& (7 : Int32))), .val (.int ((v1 >>> ((7 : Int32) &&& 31)) &&& (7 : Int32))), .val (.int ((v1 >>> ((10 : Int32) &&& 31)) &&& (127 : Int32))), .val (.int ((v1 >>> ((17 : Int32) &&& 31)) &&& (3 : Int32))), x12, x13, .unset, .unset, .unset, .unset, .unset]) d62_449 (stx rfl hx11 rfl) (go_iloadN (pc := 451) d62_451 rfl (go_bipush (pc := 452) d62_452 cb_19 ?_)))))))
  refine go_ishr (pc := 454) d62_454 (go_iconst (pc := 455) d62_455 ci_1 (go_iconst (pc := 456) d62_456 ci_4 (go_iload (pc := 457) d62_457 rfl (go_imul (pc := 459) d62_459 (go_ishl (pc := 460) d62_460 (go_iconst (pc := 461) d62_461 ci_1 (go_isub (pc := 462) d62_462 ?_)))))))
  refine go_iand (pc := 463) d62_463 (go_istore (pc := 464) (L' := [.val (.ref 0), .val (.int v1), .val (.ref 1), x3, .val (.ref 14), .val (.int v5), .val (.int v6), .val (.int ((v1 >>> ((3 : Int32) &&& 31)) &&& (1 : Int32))), .val (.int ((v1 >>> ((4 : Int32) &&& 31)) &&& (7 : Int32))), .val (.int ((v1 >>> ((7 : Int32) &&& 31)) &&& (7 : Int32))), .val (.int ((v1 >>> ((10 : Int32) &&& 31)) &&& (127 : Int32))), .val (.int ((v1 >>> ((17 : Int32) &&& 31)) &&& (3 : Int32))), .val (.int ((v1 >>> ((19 : Int32) &&& 31)) &&& (((1 : Int32) <<< (((4 : Int32) * ((v1 >>> ((17 : Int32) &&& 31)) &&& (3 : Int32))) &&& 31)) - (1 : Int32)))), x13, .unset, .unset, .unset, .unset, .unset]) d62_464 (stx rfl hx12 rfl) (go_iloadN (pc := 466) d62_466 rfl (go_bipush (pc := 467) d62_467 cb_19 (go_ishr (pc := 469) d62_469 (go_bipush (pc := 470) d62_470 cb_7 (go_iand (pc := 472) d62_472 (go_istore (pc := 473) (L' := [.val (.ref 0), .val (.int v1), .val (.ref 1), x3, .val (.ref 14), .val (.int v5), .val (.int v6), .val (.int ((v1 >>> ((3 : Int32) &&& 31)) &&& (1 : Int32))), .val (.int ((v1 >>> ((4 : Int32) &&& 31)) &&& (7 : Int32))), .val (.int ((v1 >>> ((7 : Int32) &&& 31)) &&& (7 : Int32))), .val (.int ((v1 >>> ((10 : Int32) &&& 31)) &&& (127 : Int32))), .val (.int ((v1 >>> ((17 : Int32) &&& 31)) &&& (3 : Int32))), .val (.int ((v1 >>> ((19 : Int32) &&& 31)) &&& (((1 : Int32) <<< (((4 : Int32) * ((v1 >>> ((17 : Int32) &&& 31)) &&& (3 : Int32))) &&& 31)) - (1 : Int32)))), .val (.int ((v1 >>> ((19 : Int32) &&& 31)) &&& (7 : Int32))), .unset, .unset, .unset, .unset, .unset]) d62_473 (stx rfl hx13 rfl) ?_)))))))
  refine go_iload (pc := 475) d62_475 rfl ?_
  by_cases h1 : ((v1 >>> ((3 : Int32) &&& 31)) &&& (1 : Int32)) = 0
  · replace hf := (if_pos h1).symm.trans hf
    refine go_ifN (pc := 477) d62_477 (XT.i0_ne_f h1) ?_
    refine go_aload (pc := 480) d62_480 rfl (go_iload (pc := 482) d62_482 rfl (go_iload (pc := 484) d62_484 rfl (go_iload (pc := 486) d62_486 rfl (go_iload (pc := 488) d62_488 rfl ?_))))
    obtain ⟨r490, e3, hf⟩ := Option.bind_eq_some_iff.mp hf
    refine go_virt (pc := 490) (i := 1) (as := [.int ((v1 >>> ((4 : Int32) &&& 31)) &&& (7 : Int32)), .int ((v1 >>> ((7 : Int32) &&& 31)) &&& (7 : Int32)), .int ((v1 >>> ((19 : Int32) &&& 31)) &&& (7 : Int32)), .int ((v1 >>> ((10 : Int32) &&& 31)) &&& (127 : Int32))]) (rest := []) (w' := (some q, [(12, t0), (12, r490.2)])) lk_1_16 pd_8 rfl oid_1 rfl rfl rfl rfl rfl rfl ⟨rfl, rfl, rfl, rfl, rfl⟩ d62_490 (c_k_addEdge ((v1 >>> ((4 : Int32) &&& 31)) &&& (7 : Int32)) ((v1 >>> ((7 : Int32) &&& 31)) &&& (7 : Int32)) ((v1 >>> ((19 : Int32) &&& 31)) &&& (7 : Int32)) ((v1 >>> ((10 : Int32) &&& 31)) &&& (127 : Int32)) t1 _ e3) ?_
    refine go_goto (pc := 493) (pc' := 509) d62_493 j_493_16 ?_
    exact law_509_ok v5 v6 ((v1 >>> ((3 : Int32) &&& 31)) &&& (1 : Int32)) r490.1 q t0 r490.2 (.val (.int v1)) x3 (.val (.int ((v1 >>> ((4 : Int32) &&& 31)) &&& (7 : Int32)))) (.val (.int ((v1 >>> ((7 : Int32) &&& 31)) &&& (7 : Int32)))) (.val (.int ((v1 >>> ((10 : Int32) &&& 31)) &&& (127 : Int32)))) (.val (.int ((v1 >>> ((17 : Int32) &&& 31)) &&& (3 : Int32)))) (.val (.int ((v1 >>> ((19 : Int32) &&& 31)) &&& (((1 : Int32) <<< (((4 : Int32) * ((v1 >>> ((17 : Int32) &&& 31)) &&& (3 : Int32))) &&& 31)) - (1 : Int32))))) (.val (.int ((v1 >>> ((19 : Int32) &&& 31)) &&& (7 : Int32)))) (Or.inr ⟨_, rfl, rfl⟩) hx3 (Or.inr ⟨_, rfl, rfl⟩) (Or.inr ⟨_, rfl, rfl⟩) (Or.inr ⟨_, rfl, rfl⟩) (Or.inr ⟨_, rfl, rfl⟩) (Or.inr ⟨_, rfl, rfl⟩) (Or.inr ⟨_, rfl, rfl⟩) _ hf
  · replace hf := (if_neg h1).symm.trans hf
    refine go_ifY (pc := 477) (pc' := 496) d62_477 (XT.i0_ne_t h1) j_477_19 ?_
    refine go_aload (pc := 496) d62_496 rfl (go_iload (pc := 498) d62_498 rfl (go_iload (pc := 500) d62_500 rfl (go_iload (pc := 502) d62_502 rfl (go_iload (pc := 504) d62_504 rfl ?_))))
    obtain ⟨r506, e2, hf⟩ := Option.bind_eq_some_iff.mp hf
    refine go_virt (pc := 506) (i := 1) (as := [.int ((v1 >>> ((4 : Int32) &&& 31)) &&& (7 : Int32)), .int ((v1 >>> ((10 : Int32) &&& 31)) &&& (127 : Int32)), .int ((v1 >>> ((17 : Int32) &&& 31)) &&& (3 : Int32)), .int ((v1 >>> ((19 : Int32) &&& 31)) &&& (((1 : Int32) <<< (((4 : Int32) * ((v1 >>> ((17 : Int32) &&& 31)) &&& (3 : Int32))) &&& 31)) - (1 : Int32)))]) (rest := []) (w' := (some q, [(12, t0), (12, r506.2)])) lk_1_20 pd_12 rfl oid_1 rfl rfl rfl rfl rfl rfl ⟨rfl, rfl, rfl, rfl, rfl⟩ d62_506 (c_k_addRule ((v1 >>> ((4 : Int32) &&& 31)) &&& (7 : Int32)) ((v1 >>> ((10 : Int32) &&& 31)) &&& (127 : Int32)) ((v1 >>> ((17 : Int32) &&& 31)) &&& (3 : Int32)) ((v1 >>> ((19 : Int32) &&& 31)) &&& (((1 : Int32) <<< (((4 : Int32) * ((v1 >>> ((17 : Int32) &&& 31)) &&& (3 : Int32))) &&& 31)) - (1 : Int32))) t1 _ e2) ?_
    exact law_509_ok v5 v6 ((v1 >>> ((3 : Int32) &&& 31)) &&& (1 : Int32)) r506.1 q t0 r506.2 (.val (.int v1)) x3 (.val (.int ((v1 >>> ((4 : Int32) &&& 31)) &&& (7 : Int32)))) (.val (.int ((v1 >>> ((7 : Int32) &&& 31)) &&& (7 : Int32)))) (.val (.int ((v1 >>> ((10 : Int32) &&& 31)) &&& (127 : Int32)))) (.val (.int ((v1 >>> ((17 : Int32) &&& 31)) &&& (3 : Int32)))) (.val (.int ((v1 >>> ((19 : Int32) &&& 31)) &&& (((1 : Int32) <<< (((4 : Int32) * ((v1 >>> ((17 : Int32) &&& 31)) &&& (3 : Int32))) &&& 31)) - (1 : Int32))))) (.val (.int ((v1 >>> ((19 : Int32) &&& 31)) &&& (7 : Int32)))) (Or.inr ⟨_, rfl, rfl⟩) hx3 (Or.inr ⟨_, rfl, rfl⟩) (Or.inr ⟨_, rfl, rfl⟩) (Or.inr ⟨_, rfl, rfl⟩) (Or.inr ⟨_, rfl, rfl⟩) (Or.inr ⟨_, rfl, rfl⟩) (Or.inr ⟨_, rfl, rfl⟩) _ hf
def T_law_301 (k301 : Int32 → Int32 → Int32 → Int32 → List Int32 → S → S → Option (Int32 × S × S)) : Prop := ∀ (v1 : Int32) (v5 : Int32) (v6 : Int32) (v7 : Int32) (q : List Int32) (t0 : S) (t1 : S) (x3 : Slot) (x8 : Slot) (x9 : Slot) (x10 : Slot) (x11 : Slot) (x12 : Slot) (x13 : Slot) (hx3 : k1 x3) (hx8 : k1 x8) (hx9 : k1 x9) (hx10 : k1 x10) (hx11 : k1 x11) (hx12 : k1 x12) (hx13 : k1 x13) (o : Int32 × S × S), k301 v1 v5 v6 v7 q t0 t1 = some o → Go PP m62 301 [.val (.ref 0), .val (.int v1), .val (.ref 1), x3, .val (.ref 14), .val (.int v5), .val (.int v6), .val (.int v7), x8, x9, x10, x11, x12, x13, .unset, .unset, .unset, .unset, .unset] [] (some q, [(12, t0), (12, t1)]) (some (.int o.1), (some q, [(12, o.2.1), (12, o.2.2)]))
set_option maxRecDepth 65536 in
set_option maxHeartbeats 4000000 in
theorem law_384_ok {k301 : Int32 → Int32 → Int32 → Int32 → List Int32 → S → S → Option (Int32 × S × S)} (hk301 : T_law_301 k301) : ∀ (v1 : Int32) (v5 : Int32) (v6 : Int32) (v7 : Int32) (v8 : Int32) (v9 : Int32) (v10 : Int32) (v11 : Int32) (q : List Int32) (t0 : S) (t1 : S) (x3 : Slot) (x12 : Slot) (x13 : Slot) (hx3 : k1 x3) (hx12 : k1 x12) (hx13 : k1 x13) (o : Int32 × S × S), law_384 k301 v1 v5 v6 v7 v8 v9 v10 v11 q t0 t1 = some o → Go PP m62 384 [.val (.ref 0), .val (.int v1), .val (.ref 1), x3, .val (.ref 14), .val (.int v5), .val (.int v6), .val (.int v7), .val (.int v8), .val (.int v9), .val (.int v10), .val (.int v11), x12, x13, .unset, .unset, .unset, .unset, .unset] [] (some q, [(12, t0), (12, t1)]) (some (.int o.1), (some q, [(12, o.2.1), (12, o.2.2)])) := by
  intro v1 v5 v6 v7 v8 v9 v10 v11 q t0 t1 x3 x12 x13 hx3 hx12 hx13 o hf
  unfold law_384 at hf
  refine go_aload (pc := 384) d62_384 rfl (go_iload (pc := 386) d62_386 rfl (go_iload (pc := 388) d62_388 rfl (go_iload (pc := 390) d62_390 rfl (go_iload (pc := 392) d62_392 rfl ?_))))
  obtain ⟨r394, e1, hf⟩ := Option.bind_eq_some_iff.mp hf
  refine go_virt (pc := 394) (i := 1) (as := [.int v8, .int v9, .int v10, .int v11]) (rest := []) (w' := (some q, [(12, t0), (12, r394.2)])) lk_1_20 pd_12 rfl oid_1 rfl rfl rfl rfl rfl rfl ⟨rfl, rfl, rfl, rfl, rfl⟩ d62_394 (c_k_addRule v8 v9 v10 v11 t1 _ e1) ?_
  refine go_iload (pc := 397) d62_397 rfl ?_
  by_cases h2 : r394.1 = v7
  · replace hf := (if_pos h2).symm.trans hf
    refine go_icY (pc := 399) (pc' := 404) d62_399 (XT.ii_eq_t h2) j_399_5 ?_
    refine go_iinc (pc := 404) (L' := [.val (.ref 0), .val (.int v1), .val (.ref 1), x3, .val (.ref 14), .val (.int v5), .val (.int v6), .val (.int (v7 + (1 : Int32))), .val (.int v8), .val (.int v9), .val (.int v10), .val (.int v11), x12, x13, .unset, .unset, .unset, .unset, .unset]) d62_404 rfl ci_1 rfl (go_goto (pc := 407) (pc' := 301) d62_407 j_407_m106 ?_)
    exact hk301 v1 v5 v6 (v7 + (1 : Int32)) q t0 r394.2 x3 (.val (.int v8)) (.val (.int v9)) (.val (.int v10)) (.val (.int v11)) x12 x13 hx3 (Or.inr ⟨_, rfl, rfl⟩) (Or.inr ⟨_, rfl, rfl⟩) (Or.inr ⟨_, rfl, rfl⟩) (Or.inr ⟨_, rfl, rfl⟩) hx12 hx13 _ hf
  · replace hf := (if_neg h2).symm.trans hf
    refine go_icN (pc := 399) d62_399 (XT.ii_eq_f h2) ?_
    refine go_iconst (pc := 402) d62_402 ci_0 ?_
    cases hf
    exact go_zret (pc := 403) rfl d62_403 (show (0 : Int32) = nar .boolean (0 : Int32) by decide)
set_option maxRecDepth 65536 in
set_option maxHeartbeats 4000000 in
theorem law_341_ok {k301 : Int32 → Int32 → Int32 → Int32 → List Int32 → S → S → Option (Int32 × S × S)} (hk301 : T_law_301 k301) : ∀ (n : Nat) (v1 : Int32) (v5 : Int32) (v6 : Int32) (v7 : Int32) (v8 : Int32) (v9 : Int32) (v10 : Int32) (v11 : Int32) (v12 : Int32) (q : List Int32) (t0 : S) (t1 : S) (x3 : Slot) (x13 : Slot) (hx3 : k1 x3) (hx13 : k1 x13) (o : Int32 × S × S), law_341 k301 n v1 v5 v6 v7 v8 v9 v10 v11 v12 q t0 t1 = some o → Go PP m62 341 [.val (.ref 0), .val (.int v1), .val (.ref 1), x3, .val (.ref 14), .val (.int v5), .val (.int v6), .val (.int v7), .val (.int v8), .val (.int v9), .val (.int v10), .val (.int v11), .val (.int v12), x13, .unset, .unset, .unset, .unset, .unset] [] (some q, [(12, t0), (12, t1)]) (some (.int o.1), (some q, [(12, o.2.1), (12, o.2.2)])) := by
  intro n
  induction n with
  | zero => intro v1 v5 v6 v7 v8 v9 v10 v11 v12 q t0 t1 x3 x13 hx3 hx13 o hf; exact nomatch hf
  | succ n ih =>
    intro v1 v5 v6 v7 v8 v9 v10 v11 v12 q t0 t1 x3 x13 hx3 hx13 o hf
    unfold law_341 at hf
    refine go_iload (pc := 341) d62_341 rfl (go_iconst (pc := 343) d62_343 ci_3 ?_)
    by_cases h1 : v12 < (3 : Int32)
    · replace hf := (if_pos h1).symm.trans hf
      refine go_icN (pc := 344) d62_344 (XT.ii_ge_f h1) ?_
      refine go_iload (pc := 347) d62_347 rfl (go_iload (pc := 349) d62_349 rfl ?_)
      by_cases h2 : v12 < v10
      · replace hf := (if_pos h2).symm.trans hf
        refine go_icN (pc := 351) d62_351 (XT.ii_ge_f h2) ?_
        refine go_aloadN (pc := 354) d62_354 rfl (go_iload (pc := 355) d62_355 rfl (go_iconst (pc := 357) d62_357 ci_3 (go_iload (pc := 358) d62_358 rfl (go_iadd (pc := 360) d62_360 ?_))))
        obtain ⟨r361, e3, hf⟩ := Option.bind_eq_some_iff.mp hf
        refine go_virt (pc := 361) (i := 0) (as := [.int v7, .int ((3 : Int32) + v12)]) (rest := []) (w' := (some q, [(12, t0), (12, t1)])) lk_1_40 pd_53 rfl oid_0 rfl rfl rfl rfl rfl rfl ⟨rfl, rfl, rfl, rfl, rfl⟩ d62_361 (c_k_ruleInfo v7 ((3 : Int32) + v12) t0 _ e3) ?_
        refine go_istore (pc := 364) (L' := [.val (.ref 0), .val (.int v1), .val (.ref 1), x3, .val (.ref 14), .val (.int v5), .val (.int v6), .val (.int v7), .val (.int v8), .val (.int v9), .val (.int v10), .val (.int v11), .val (.int v12), .val (.int r361), .unset, .unset, .unset, .unset, .unset]) d62_364 (stx rfl hx13 rfl) (go_iload (pc := 366) d62_366 rfl (go_iload (pc := 368) d62_368 rfl (go_iconst (pc := 370) d62_370 ci_4 (go_iload (pc := 371) d62_371 rfl (go_imul (pc := 373) d62_373 (go_ishl (pc := 374) d62_374 (go_iadd (pc := 375) d62_375 ?_)))))))
        refine go_istore (pc := 376) (L' := [.val (.ref 0), .val (.int v1), .val (.ref 1), x3, .val (.ref 14), .val (.int v5), .val (.int v6), .val (.int v7), .val (.int v8), .val (.int v9), .val (.int v10), .val (.int (v11 + (r361 <<< (((4 : Int32) * v12) &&& 31)))), .val (.int v12), .val (.int r361), .unset, .unset, .unset, .unset, .unset]) d62_376 rfl (go_iinc (pc := 378) (L' := [.val (.ref 0), .val (.int v1), .val (.ref 1), x3, .val (.ref 14), .val (.int v5), .val (.int v6), .val (.int v7), .val (.int v8), .val (.int v9), .val (.int v10), .val (.int (v11 + (r361 <<< (((4 : Int32) * v12) &&& 31)))), .val (.int (v12 + (1 : Int32))), .val (.int r361), .unset, .unset, .unset, .unset, .unset]) d62_378 rfl ci_1 rfl (go_goto (pc := 381) (pc' := 341) d62_381 j_381_m40 ?_))
        exact ih v1 v5 v6 v7 v8 v9 v10 (v11 + (r361 <<< (((4 : Int32) * v12) &&& 31))) (v12 + (1 : Int32)) q t0 t1 x3 (.val (.int r361)) hx3 (Or.inr ⟨_, rfl, rfl⟩) _ hf
      · replace hf := (if_neg h2).symm.trans hf
        refine go_icY (pc := 351) (pc' := 378) d62_351 (XT.ii_ge_t h2) j_351_27 ?_
        refine go_iinc (pc := 378) (L' := [.val (.ref 0), .val (.int v1), .val (.ref 1), x3, .val (.ref 14), .val (.int v5), .val (.int v6), .val (.int v7), .val (.int v8), .val (.int v9), .val (.int v10), .val (.int v11), .val (.int (v12 + (1 : Int32))), x13, .unset, .unset, .unset, .unset, .unset]) d62_378 rfl ci_1 rfl (go_goto (pc := 381) (pc' := 341) d62_381 j_381_m40 ?_)
        exact ih v1 v5 v6 v7 v8 v9 v10 v11 (v12 + (1 : Int32)) q t0 t1 x3 x13 hx3 hx13 _ hf
    · replace hf := (if_neg h1).symm.trans hf
      refine go_icY (pc := 344) (pc' := 384) d62_344 (XT.ii_ge_t h1) j_344_40 ?_
      exact law_384_ok hk301 v1 v5 v6 v7 v8 v9 v10 v11 q t0 t1 x3 (.val (.int v12)) x13 hx3 (Or.inr ⟨_, rfl, rfl⟩) hx13 _ hf
set_option maxRecDepth 65536 in
set_option maxHeartbeats 4000000 in
theorem law_301_ok  : ∀ (n : Nat) (v1 : Int32) (v5 : Int32) (v6 : Int32) (v7 : Int32) (q : List Int32) (t0 : S) (t1 : S) (x3 : Slot) (x8 : Slot) (x9 : Slot) (x10 : Slot) (x11 : Slot) (x12 : Slot) (x13 : Slot) (hx3 : k1 x3) (hx8 : k1 x8) (hx9 : k1 x9) (hx10 : k1 x10) (hx11 : k1 x11) (hx12 : k1 x12) (hx13 : k1 x13) (o : Int32 × S × S), law_301 n v1 v5 v6 v7 q t0 t1 = some o → Go PP m62 301 [.val (.ref 0), .val (.int v1), .val (.ref 1), x3, .val (.ref 14), .val (.int v5), .val (.int v6), .val (.int v7), x8, x9, x10, x11, x12, x13, .unset, .unset, .unset, .unset, .unset] [] (some q, [(12, t0), (12, t1)]) (some (.int o.1), (some q, [(12, o.2.1), (12, o.2.2)])) := by
  intro n
  induction n with
  | zero => intro v1 v5 v6 v7 q t0 t1 x3 x8 x9 x10 x11 x12 x13 hx3 hx8 hx9 hx10 hx11 hx12 hx13 o hf; exact nomatch hf
  | succ n ih =>
    intro v1 v5 v6 v7 q t0 t1 x3 x8 x9 x10 x11 x12 x13 hx3 hx8 hx9 hx10 hx11 hx12 hx13 o hf
    unfold law_301 at hf
    refine go_iload (pc := 301) d62_301 rfl (go_iload (pc := 303) d62_303 rfl ?_)
    by_cases h1 : v7 < v6
    · replace hf := (if_pos h1).symm.trans hf
      refine go_icN (pc := 305) d62_305 (XT.ii_ge_f h1) ?_
      refine go_aloadN (pc := 308) d62_308 rfl (go_iload (pc := 309) d62_309 rfl (go_iconst (pc := 311) d62_311 ci_0 ?_))
      obtain ⟨r312, e2, hf⟩ := Option.bind_eq_some_iff.mp hf
      refine go_virt (pc := 312) (i := 0) (as := [.int v7, .int (0 : Int32)]) (rest := []) (w' := (some q, [(12, t0), (12, t1)])) lk_1_40 pd_53 rfl oid_0 rfl rfl rfl rfl rfl rfl ⟨rfl, rfl, rfl, rfl, rfl⟩ d62_312 (c_k_ruleInfo v7 (0 : Int32) t0 _ e2) ?_
      refine go_istore (pc := 315) (L' := [.val (.ref 0), .val (.int v1), .val (.ref 1), x3, .val (.ref 14), .val (.int v5), .val (.int v6), .val (.int v7), .val (.int r312), x9, x10, x11, x12, x13, .unset, .unset, .unset, .unset, .unset]) d62_315 (stx rfl hx8 rfl) (go_aloadN (pc := 317) d62_317 rfl (go_iload (pc := 318) d62_318 rfl (go_iconst (pc := 320) d62_320 ci_1 ?_)))
      obtain ⟨r321, e3, hf⟩ := Option.bind_eq_some_iff.mp hf
      refine go_virt (pc := 321) (i := 0) (as := [.int v7, .int (1 : Int32)]) (rest := []) (w' := (some q, [(12, t0), (12, t1)])) lk_1_40 pd_53 rfl oid_0 rfl rfl rfl rfl rfl rfl ⟨rfl, rfl, rfl, rfl, rfl⟩ d62_321 (c_k_ruleInfo v7 (1 : Int32) t0 _ e3) ?_
      refine go_istore (pc := 324) (L' := [.val (.ref 0), .val (.int v1), .val (.ref 1), x3, .val (.ref 14), .val (.int v5), .val (.int v6), .val (.int v7), .val (.int r312), .val (.int r321), x10, x11, x12, x13, .unset, .unset, .unset, .unset, .unset]) d62_324 (stx rfl hx9 rfl) (go_aloadN (pc := 326) d62_326 rfl (go_iload (pc := 327) d62_327 rfl (go_iconst (pc := 329) d62_329 ci_2 ?_)))
      obtain ⟨r330, e4, hf⟩ := Option.bind_eq_some_iff.mp hf
      refine go_virt (pc := 330) (i := 0) (as := [.int v7, .int (2 : Int32)]) (rest := []) (w' := (some q, [(12, t0), (12, t1)])) lk_1_40 pd_53 rfl oid_0 rfl rfl rfl rfl rfl rfl ⟨rfl, rfl, rfl, rfl, rfl⟩ d62_330 (c_k_ruleInfo v7 (2 : Int32) t0 _ e4) ?_
      refine go_istore (pc := 333) (L' := [.val (.ref 0), .val (.int v1), .val (.ref 1), x3, .val (.ref 14), .val (.int v5), .val (.int v6), .val (.int v7), .val (.int r312), .val (.int r321), .val (.int r330), x11, x12, x13, .unset, .unset, .unset, .unset, .unset]) d62_333 (stx rfl hx10 rfl) (go_iconst (pc := 335) d62_335 ci_0 (go_istore (pc := 336) (L' := [.val (.ref 0), .val (.int v1), .val (.ref 1), x3, .val (.ref 14), .val (.int v5), .val (.int v6), .val (.int v7), .val (.int r312), .val (.int r321), .val (.int r330), .val (.int (0 : Int32)), x12, x13, .unset, .unset, .unset, .unset, .unset]) d62_336 (stx rfl hx11 rfl) (go_iconst (pc := 338) d62_338 ci_0 (go_istore (pc := 339) (L' := [.val (.ref 0), .val (.int v1), .val (.ref 1), x3, .val (.ref 14), .val (.int v5), .val (.int v6), .val (.int v7), .val (.int r312), .val (.int r321), .val (.int r330), .val (.int (0 : Int32)), .val (.int (0 : Int32)), x13, .unset, .unset, .unset, .unset, .unset]) d62_339 (stx rfl hx12 rfl) ?_))))
      exact law_341_ok ih BIG v1 v5 v6 v7 r312 r321 r330 (0 : Int32) (0 : Int32) q t0 t1 x3 x13 hx3 hx13 _ hf
    · replace hf := (if_neg h1).symm.trans hf
      refine go_icY (pc := 305) (pc' := 410) d62_305 (XT.ii_ge_t h1) j_305_105 ?_
      exact law_410_ok v1 v5 v6 q t0 t1 x3 (.val (.int v7)) x8 x9 x10 x11 x12 x13 hx3 (Or.inr ⟨_, rfl, rfl⟩) hx8 hx9 hx10 hx11 hx12 hx13 _ hf
set_option maxRecDepth 65536 in
set_option maxHeartbeats 4000000 in
theorem law_298_ok  : ∀ (v1 : Int32) (v5 : Int32) (v6 : Int32) (q : List Int32) (t0 : S) (t1 : S) (x3 : Slot) (x7 : Slot) (x8 : Slot) (x9 : Slot) (x10 : Slot) (x11 : Slot) (hx3 : k1 x3) (hx7 : k1 x7) (hx8 : k1 x8) (hx9 : k1 x9) (hx10 : k1 x10) (hx11 : k1 x11) (o : Int32 × S × S), law_298 v1 v5 v6 q t0 t1 = some o → Go PP m62 298 [.val (.ref 0), .val (.int v1), .val (.ref 1), x3, .val (.ref 14), .val (.int v5), .val (.int v6), x7, x8, x9, x10, x11, .unset, .unset, .unset, .unset, .unset, .unset, .unset] [] (some q, [(12, t0), (12, t1)]) (some (.int o.1), (some q, [(12, o.2.1), (12, o.2.2)])) := by
  intro v1 v5 v6 q t0 t1 x3 x7 x8 x9 x10 x11 hx3 hx7 hx8 hx9 hx10 hx11 o hf
  unfold law_298 at hf
  refine go_iconst (pc := 298) d62_298 ci_0 (go_istore (pc := 299) (L' := [.val (.ref 0), .val (.int v1), .val (.ref 1), x3, .val (.ref 14), .val (.int v5), .val (.int v6), .val (.int (0 : Int32)), x8, x9, x10, x11, .unset, .unset, .unset, .unset, .unset, .unset, .unset]) d62_299 (stx rfl hx7 rfl) ?_)
  exact law_301_ok BIG v1 v5 v6 (0 : Int32) q t0 t1 x3 x8 x9 x10 x11 .unset .unset hx3 hx8 hx9 hx10 hx11 (Or.inl rfl) (Or.inl rfl) _ hf
set_option maxRecDepth 65536 in
set_option maxHeartbeats 4000000 in
theorem law_229_ok  : ∀ (n : Nat) (v1 : Int32) (v5 : Int32) (v6 : Int32) (v7 : Int32) (q : List Int32) (t0 : S) (t1 : S) (x3 : Slot) (x8 : Slot) (x9 : Slot) (x10 : Slot) (x11 : Slot) (hx3 : k1 x3) (hx8 : k1 x8) (hx9 : k1 x9) (hx10 : k1 x10) (hx11 : k1 x11) (o : Int32 × S × S), law_229 n v1 v5 v6 v7 q t0 t1 = some o → Go PP m62 229 [.val (.ref 0), .val (.int v1), .val (.ref 1), x3, .val (.ref 14), .val (.int v5), .val (.int v6), .val (.int v7), x8, x9, x10, x11, .unset, .unset, .unset, .unset, .unset, .unset, .unset] [] (some q, [(12, t0), (12, t1)]) (some (.int o.1), (some q, [(12, o.2.1), (12, o.2.2)])) := by
  intro n
  induction n with
  | zero => intro v1 v5 v6 v7 q t0 t1 x3 x8 x9 x10 x11 hx3 hx8 hx9 hx10 hx11 o hf; exact nomatch hf
  | succ n ih =>
    intro v1 v5 v6 v7 q t0 t1 x3 x8 x9 x10 x11 hx3 hx8 hx9 hx10 hx11 o hf
    unfold law_229 at hf
    refine go_iload (pc := 229) d62_229 rfl (go_iload (pc := 231) d62_231 rfl ?_)
    by_cases h1 : v7 < v5
    · replace hf := (if_pos h1).symm.trans hf
      refine go_icN (pc := 233) d62_233 (XT.ii_ge_f h1) ?_
      refine go_aloadN (pc := 236) d62_236 rfl (go_iload (pc := 237) d62_237 rfl (go_iconst (pc := 239) d62_239 ci_0 ?_))
      obtain ⟨r240, e2, hf⟩ := Option.bind_eq_some_iff.mp hf
      refine go_virt (pc := 240) (i := 0) (as := [.int v7, .int (0 : Int32)]) (rest := []) (w' := (some q, [(12, t0), (12, t1)])) lk_1_36 pd_52 rfl oid_0 rfl rfl rfl rfl rfl rfl ⟨rfl, rfl, rfl, rfl, rfl⟩ d62_240 (c_k_edgeInfo v7 (0 : Int32) t0 _ e2) ?_
      refine go_istore (pc := 243) (L' := [.val (.ref 0), .val (.int v1), .val (.ref 1), x3, .val (.ref 14), .val (.int v5), .val (.int v6), .val (.int v7), .val (.int r240), x9, x10, x11, .unset, .unset, .unset, .unset, .unset, .unset, .unset]) d62_243 (stx rfl hx8 rfl) (go_aloadN (pc := 245) d62_245 rfl (go_iload (pc := 246) d62_246 rfl (go_iconst (pc := 248) d62_248 ci_1 ?_)))
      obtain ⟨r249, e3, hf⟩ := Option.bind_eq_some_iff.mp hf
      refine go_virt (pc := 249) (i := 0) (as := [.int v7, .int (1 : Int32)]) (rest := []) (w' := (some q, [(12, t0), (12, t1)])) lk_1_36 pd_52 rfl oid_0 rfl rfl rfl rfl rfl rfl ⟨rfl, rfl, rfl, rfl, rfl⟩ d62_249 (c_k_edgeInfo v7 (1 : Int32) t0 _ e3) ?_
      refine go_istore (pc := 252) (L' := [.val (.ref 0), .val (.int v1), .val (.ref 1), x3, .val (.ref 14), .val (.int v5), .val (.int v6), .val (.int v7), .val (.int r240), .val (.int r249), x10, x11, .unset, .unset, .unset, .unset, .unset, .unset, .unset]) d62_252 (stx rfl hx9 rfl) (go_aloadN (pc := 254) d62_254 rfl (go_iload (pc := 255) d62_255 rfl (go_iconst (pc := 257) d62_257 ci_2 ?_)))
      obtain ⟨r258, e4, hf⟩ := Option.bind_eq_some_iff.mp hf
      refine go_virt (pc := 258) (i := 0) (as := [.int v7, .int (2 : Int32)]) (rest := []) (w' := (some q, [(12, t0), (12, t1)])) lk_1_36 pd_52 rfl oid_0 rfl rfl rfl rfl rfl rfl ⟨rfl, rfl, rfl, rfl, rfl⟩ d62_258 (c_k_edgeInfo v7 (2 : Int32) t0 _ e4) ?_
      refine go_istore (pc := 261) (L' := [.val (.ref 0), .val (.int v1), .val (.ref 1), x3, .val (.ref 14), .val (.int v5), .val (.int v6), .val (.int v7), .val (.int r240), .val (.int r249), .val (.int r258), x11, .unset, .unset, .unset, .unset, .unset, .unset, .unset]) d62_261 (stx rfl hx10 rfl) (go_aloadN (pc := 263) d62_263 rfl (go_iload (pc := 264) d62_264 rfl (go_iconst (pc := 266) d62_266 ci_3 ?_)))
      obtain ⟨r267, e5, hf⟩ := Option.bind_eq_some_iff.mp hf
      refine go_virt (pc := 267) (i := 0) (as := [.int v7, .int (3 : Int32)]) (rest := []) (w' := (some q, [(12, t0), (12, t1)])) lk_1_36 pd_52 rfl oid_0 rfl rfl rfl rfl rfl rfl ⟨rfl, rfl, rfl, rfl, rfl⟩ d62_267 (c_k_edgeInfo v7 (3 : Int32) t0 _ e5) ?_
      refine go_istore (pc := 270) (L' := [.val (.ref 0), .val (.int v1), .val (.ref 1), x3, .val (.ref 14), .val (.int v5), .val (.int v6), .val (.int v7), .val (.int r240), .val (.int r249), .val (.int r258), .val (.int r267), .unset, .unset, .unset, .unset, .unset, .unset, .unset]) d62_270 (stx rfl hx11 rfl) (go_aload (pc := 272) d62_272 rfl (go_iload (pc := 274) d62_274 rfl (go_iload (pc := 276) d62_276 rfl (go_iload (pc := 278) d62_278 rfl (go_iload (pc := 280) d62_280 rfl ?_)))))
      obtain ⟨r282, e6, hf⟩ := Option.bind_eq_some_iff.mp hf
      refine go_virt (pc := 282) (i := 1) (as := [.int r240, .int r249, .int r258, .int r267]) (rest := []) (w' := (some q, [(12, t0), (12, r282.2)])) lk_1_16 pd_8 rfl oid_1 rfl rfl rfl rfl rfl rfl ⟨rfl, rfl, rfl, rfl, rfl⟩ d62_282 (c_k_addEdge r240 r249 r258 r267 t1 _ e6) ?_
      refine go_iload (pc := 285) d62_285 rfl ?_
      by_cases h7 : r282.1 = v7
      · replace hf := (if_pos h7).symm.trans hf
        refine go_icY (pc := 287) (pc' := 292) d62_287 (XT.ii_eq_t h7) j_287_5 ?_
        refine go_iinc (pc := 292) (L' := [.val (.ref 0), .val (.int v1), .val (.ref 1), x3, .val (.ref 14), .val (.int v5), .val (.int v6), .val (.int (v7 + (1 : Int32))), .val (.int r240), .val (.int r249), .val (.int r258), .val (.int r267), .unset, .unset, .unset, .unset, .unset, .unset, .unset]) d62_292 rfl ci_1 rfl (go_goto (pc := 295) (pc' := 229) d62_295 j_295_m66 ?_)
        exact ih v1 v5 v6 (v7 + (1 : Int32)) q t0 r282.2 x3 (.val (.int r240)) (.val (.int r249)) (.val (.int r258)) (.val (.int r267)) hx3 (Or.inr ⟨_, rfl, rfl⟩) (Or.inr ⟨_, rfl, rfl⟩) (Or.inr ⟨_, rfl, rfl⟩) (Or.inr ⟨_, rfl, rfl⟩) _ hf
      · replace hf := (if_neg h7).symm.trans hf
        refine go_icN (pc := 287) d62_287 (XT.ii_eq_f h7) ?_
        refine go_iconst (pc := 290) d62_290 ci_0 ?_
        cases hf
        exact go_zret (pc := 291) rfl d62_291 (show (0 : Int32) = nar .boolean (0 : Int32) by decide)
    · replace hf := (if_neg h1).symm.trans hf
      refine go_icY (pc := 233) (pc' := 298) d62_233 (XT.ii_ge_t h1) j_233_65 ?_
      exact law_298_ok v1 v5 v6 q t0 t1 x3 (.val (.int v7)) x8 x9 x10 x11 hx3 (Or.inr ⟨_, rfl, rfl⟩) hx8 hx9 hx10 hx11 _ hf
set_option maxRecDepth 65536 in
set_option maxHeartbeats 4000000 in
theorem law_204_ok  : ∀ (v1 : Int32) (v3 : Int32) (q : List Int32) (t0 : S) (x4 : Slot) (x5 : Slot) (x6 : Slot) (x7 : Slot) (x8 : Slot) (x9 : Slot) (x10 : Slot) (x11 : Slot) (hx4 : k1 x4) (hx5 : k1 x5) (hx6 : k1 x6) (hx7 : k1 x7) (hx8 : k1 x8) (hx9 : k1 x9) (hx10 : k1 x10) (hx11 : k1 x11) (o : Int32 × S × S), law_204 v1 v3 q t0 = some o → Go PP m62 204 [.val (.ref 0), .val (.int v1), .val (.ref 1), .val (.int v3), x4, x5, x6, x7, x8, x9, x10, x11, .unset, .unset, .unset, .unset, .unset, .unset, .unset] [] (some q, [(12, t0)]) (some (.int o.1), (some q, [(12, o.2.1), (12, o.2.2)])) := by
  intro v1 v3 q t0 x4 x5 x6 x7 x8 x9 x10 x11 hx4 hx5 hx6 hx7 hx8 hx9 hx10 hx11 o hf
  unfold law_204 at hf
  refine go_new (pc := 204) (n := 1) (w' := (some q, [(12, t0), (0, s0)])) (List.mem_of_getElem? (i := 0) rfl) rfl rfl rfl rfl rfl rfl rfl d62_204 oid_1 ?_
  refine go_dupR (pc := 207) d62_207 (go_iloadN (pc := 208) d62_208 rfl ?_)
  obtain ⟨r209, e2, hf⟩ := Option.bind_eq_some_iff.mp hf
  refine go_init (pc := 209) (i := 1) (as := [.int v3]) (rest := [.ref 14]) (w' := (some q, [(12, t0), (12, r209)])) lk_1_9 pd_4 rfl oid_1 rfl rfl rfl rfl rfl rfl rfl rfl rfl ⟨rfl, rfl, rfl⟩ ⟨rfl, rfl⟩ d62_209 (c_k_init v3 _ e2) ?_
  refine go_astore (pc := 212) (L' := [.val (.ref 0), .val (.int v1), .val (.ref 1), .val (.int v3), .val (.ref 14), x5, x6, x7, x8, x9, x10, x11, .unset, .unset, .unset, .unset, .unset, .unset, .unset]) d62_212 (stx rfl hx4 rfl) (go_aloadN (pc := 214) d62_214 rfl ?_)
  refine go_virt (pc := 215) (i := 0) (as := []) (rest := []) (w' := (some q, [(12, t0), (12, r209)])) lk_1_30 pd_50 rfl oid_0 rfl rfl rfl rfl rfl rfl ⟨rfl, rfl, rfl, rfl, rfl⟩ d62_215 (c_k_edgeCount t0) ?_
  refine go_istore (pc := 218) (L' := [.val (.ref 0), .val (.int v1), .val (.ref 1), .val (.int v3), .val (.ref 14), .val (.int (k_edgeCount t0)), x6, x7, x8, x9, x10, x11, .unset, .unset, .unset, .unset, .unset, .unset, .unset]) d62_218 (stx rfl hx5 rfl) (go_aloadN (pc := 220) d62_220 rfl ?_)
  refine go_virt (pc := 221) (i := 0) (as := []) (rest := []) (w' := (some q, [(12, t0), (12, r209)])) lk_1_33 pd_51 rfl oid_0 rfl rfl rfl rfl rfl rfl ⟨rfl, rfl, rfl, rfl, rfl⟩ d62_221 (c_k_ruleCount t0) ?_
  refine go_istore (pc := 224) (L' := [.val (.ref 0), .val (.int v1), .val (.ref 1), .val (.int v3), .val (.ref 14), .val (.int (k_edgeCount t0)), .val (.int (k_ruleCount t0)), x7, x8, x9, x10, x11, .unset, .unset, .unset, .unset, .unset, .unset, .unset]) d62_224 (stx rfl hx6 rfl) (go_iconst (pc := 226) d62_226 ci_0 (go_istore (pc := 227) (L' := [.val (.ref 0), .val (.int v1), .val (.ref 1), .val (.int v3), .val (.ref 14), .val (.int (k_edgeCount t0)), .val (.int (k_ruleCount t0)), .val (.int (0 : Int32)), x8, x9, x10, x11, .unset, .unset, .unset, .unset, .unset, .unset, .unset]) d62_227 (stx rfl hx7 rfl) ?_))
  exact law_229_ok BIG v1 (k_edgeCount t0) (k_ruleCount t0) (0 : Int32) q t0 r209 (.val (.int v3)) x8 x9 x10 x11 (Or.inr ⟨_, rfl, rfl⟩) hx8 hx9 hx10 hx11 _ hf
set_option maxRecDepth 65536 in
set_option maxHeartbeats 4000000 in
theorem law_33_ok  : ∀ (n : Nat) (v1 : Int32) (v3 : Int32) (v4 : Int32) (q : List Int32) (t0 : S) (x5 : Slot) (x6 : Slot) (x7 : Slot) (x8 : Slot) (x9 : Slot) (x10 : Slot) (x11 : Slot) (hx5 : k1 x5) (hx6 : k1 x6) (hx7 : k1 x7) (hx8 : k1 x8) (hx9 : k1 x9) (hx10 : k1 x10) (hx11 : k1 x11) (o : Int32 × S × S), law_33 n v1 v3 v4 q t0 = some o → Go PP m62 33 [.val (.ref 0), .val (.int v1), .val (.ref 1), .val (.int v3), .val (.int v4), x5, x6, x7, x8, x9, x10, x11, .unset, .unset, .unset, .unset, .unset, .unset, .unset] [] (some q, [(12, t0)]) (some (.int o.1), (some q, [(12, o.2.1), (12, o.2.2)])) := by
  intro n
  induction n with
  | zero => intro v1 v3 v4 q t0 x5 x6 x7 x8 x9 x10 x11 hx5 hx6 hx7 hx8 hx9 hx10 hx11 o hf; exact nomatch hf
  | succ n ih =>
    intro v1 v3 v4 q t0 x5 x6 x7 x8 x9 x10 x11 hx5 hx6 hx7 hx8 hx9 hx10 hx11 o hf
    unfold law_33 at hf
    refine go_iload (pc := 33) d62_33 rfl (go_iconst (pc := 35) d62_35 ci_4 (go_iadd (pc := 36) d62_36 (go_aloadN (pc := 37) d62_37 rfl (go_slen (pc := 38) d62_38 ?_))))
    by_cases h1 : (v4 + (4 : Int32)) < q.length.toInt32
    · replace hf := (if_pos h1).symm.trans hf
      refine go_icN (pc := 39) d62_39 (XT.ii_ge_f h1) ?_
      refine go_aloadN (pc := 42) d62_42 rfl (go_iload (pc := 43) d62_43 rfl ?_)
      obtain ⟨a45, e2, hf⟩ := Option.bind_eq_some_iff.mp hf
      refine go_sload (pc := 45) e2 d62_45 ?_
      refine go_bipush (pc := 46) d62_46 cb_15 (go_iand (pc := 48) d62_48 (go_istore (pc := 49) (L' := [.val (.ref 0), .val (.int v1), .val (.ref 1), .val (.int v3), .val (.int v4), .val (.int (a45 &&& (15 : Int32))), x6, x7, x8, x9, x10, x11, .unset, .unset, .unset, .unset, .unset, .unset, .unset]) d62_49 (stx rfl hx5 rfl) (go_aloadN (pc := 51) d62_51 rfl (go_iload (pc := 52) d62_52 rfl (go_iconst (pc := 54) d62_54 ci_1 (go_iadd (pc := 55) d62_55 ?_))))))
      obtain ⟨a56, e3, hf⟩ := Option.bind_eq_some_iff.mp hf
      refine go_sload (pc := 56) e3 d62_56 ?_
      refine go_istore (pc := 57) (L' := [.val (.ref 0), .val (.int v1), .val (.ref 1), .val (.int v3), .val (.int v4), .val (.int (a45 &&& (15 : Int32))), .val (.int a56), x7, x8, x9, x10, x11, .unset, .unset, .unset, .unset, .unset, .unset, .unset]) d62_57 (stx rfl hx6 rfl) (go_aloadN (pc := 59) d62_59 rfl (go_iload (pc := 60) d62_60 rfl (go_iconst (pc := 62) d62_62 ci_2 (go_iadd (pc := 63) d62_63 ?_))))
      obtain ⟨a64, e4, hf⟩ := Option.bind_eq_some_iff.mp hf
      refine go_sload (pc := 64) e4 d62_64 ?_
      refine go_istore (pc := 65) (L' := [.val (.ref 0), .val (.int v1), .val (.ref 1), .val (.int v3), .val (.int v4), .val (.int (a45 &&& (15 : Int32))), .val (.int a56), .val (.int a64), x8, x9, x10, x11, .unset, .unset, .unset, .unset, .unset, .unset, .unset]) d62_65 (stx rfl hx7 rfl) (go_aloadN (pc := 67) d62_67 rfl (go_iload (pc := 68) d62_68 rfl (go_iconst (pc := 70) d62_70 ci_3 (go_iadd (pc := 71) d62_71 ?_))))
      obtain ⟨a72, e5, hf⟩ := Option.bind_eq_some_iff.mp hf
      refine go_sload (pc := 72) e5 d62_72 ?_
      refine go_istore (pc := 73) (L' := [.val (.ref 0), .val (.int v1), .val (.ref 1), .val (.int v3), .val (.int v4), .val (.int (a45 &&& (15 : Int32))), .val (.int a56), .val (.int a64), .val (.int a72), x9, x10, x11, .unset, .unset, .unset, .unset, .unset, .unset, .unset]) d62_73 (stx rfl hx8 rfl) (go_aloadN (pc := 75) d62_75 rfl (go_iload (pc := 76) d62_76 rfl (go_iconst (pc := 78) d62_78 ci_4 (go_iadd (pc := 79) d62_79 ?_))))
      obtain ⟨a80, e6, hf⟩ := Option.bind_eq_some_iff.mp hf
      refine go_sload (pc := 80) e6 d62_80 ?_
      refine go_istore (pc := 81) (L' := [.val (.ref 0), .val (.int v1), .val (.ref 1), .val (.int v3), .val (.int v4), .val (.int (a45 &&& (15 : Int32))), .val (.int a56), .val (.int a64), .val (.int a72), .val (.int a80), x10, x11, .unset, .unset, .unset, .unset, .unset, .unset, .unset]) d62_81 (stx rfl hx9 rfl) (go_iload (pc := 83) d62_83 rfl (go_bipush (pc := 85) d62_85 cb_7 ?_))
      by_cases h7 : (a45 &&& (15 : Int32)) < (7 : Int32)
      · replace hf := (if_pos h7).symm.trans hf
        refine go_icN (pc := 87) d62_87 (XT.ii_ge_f h7) ?_
        refine go_iload (pc := 90) d62_90 rfl (go_bipush (pc := 92) d62_92 cb_7 (go_iand (pc := 94) d62_94 (go_iloadN (pc := 95) d62_95 rfl ?_)))
        by_cases e13 : v3 = 0
        · exact nomatch ((if_pos e13).symm.trans hf)
        replace hf := (if_neg e13).symm.trans hf
        refine go_irem (pc := 96) d62_96 e13 ?_
        refine go_istore (pc := 97) (L' := [.val (.ref 0), .val (.int v1), .val (.ref 1), .val (.int v3), .val (.int v4), .val (.int (a45 &&& (15 : Int32))), .val (.int a56), .val (.int a64), .val (.int a72), .val (.int a80), .val (.int ((a56 &&& (7 : Int32)) % v3)), x11, .unset, .unset, .unset, .unset, .unset, .unset, .unset]) d62_97 (stx rfl hx10 rfl) (go_iload (pc := 99) d62_99 rfl (go_iconst (pc := 101) d62_101 ci_1 (go_iadd (pc := 102) d62_102 (go_iload (pc := 103) d62_103 rfl (go_iconst (pc := 105) d62_105 ci_1 (go_iand (pc := 106) d62_106 (go_iadd (pc := 107) d62_107 ?_)))))))
        refine go_istore (pc := 108) (L' := [.val (.ref 0), .val (.int v1), .val (.ref 1), .val (.int v3), .val (.int v4), .val (.int (a45 &&& (15 : Int32))), .val (.int a56), .val (.int a64), .val (.int a72), .val (.int a80), .val (.int ((a56 &&& (7 : Int32)) % v3)), .val (.int ((((a56 &&& (7 : Int32)) % v3) + (1 : Int32)) + (a64 &&& (1 : Int32)))), .unset, .unset, .unset, .unset, .unset, .unset, .unset]) d62_108 (stx rfl hx11 rfl) (go_aloadN (pc := 110) d62_110 rfl (go_iload (pc := 111) d62_111 rfl (go_iload (pc := 113) d62_113 rfl (go_iload (pc := 115) d62_115 rfl (go_iconst (pc := 117) d62_117 ci_3 (go_iand (pc := 118) d62_118 (go_iload (pc := 119) d62_119 rfl ?_)))))))
        refine go_bipush (pc := 121) d62_121 cb_127 (go_iand (pc := 123) d62_123 ?_)
        obtain ⟨r124, e14, hf⟩ := Option.bind_eq_some_iff.mp hf
        refine go_virt (pc := 124) (i := 0) (as := [.int ((a56 &&& (7 : Int32)) % v3), .int ((((a56 &&& (7 : Int32)) % v3) + (1 : Int32)) + (a64 &&& (1 : Int32))), .int (a72 &&& (3 : Int32)), .int (a80 &&& (127 : Int32))]) (rest := []) (w' := (some q, [(12, r124.2)])) lk_1_16 pd_8 rfl oid_0 rfl rfl rfl rfl rfl rfl ⟨rfl, rfl, rfl, rfl, rfl⟩ d62_124 (c_k_addEdge ((a56 &&& (7 : Int32)) % v3) ((((a56 &&& (7 : Int32)) % v3) + (1 : Int32)) + (a64 &&& (1 : Int32))) (a72 &&& (3 : Int32)) (a80 &&& (127 : Int32)) t0 _ e14) ?_
        refine go_pop (pc := 127) d62_127 (go_goto (pc := 128) (pc' := 198) d62_128 j_128_70 (go_iinc (pc := 198) (L' := [.val (.ref 0), .val (.int v1), .val (.ref 1), .val (.int v3), .val (.int (v4 + (5 : Int32))), .val (.int (a45 &&& (15 : Int32))), .val (.int a56), .val (.int a64), .val (.int a72), .val (.int a80), .val (.int ((a56 &&& (7 : Int32)) % v3)), .val (.int ((((a56 &&& (7 : Int32)) % v3) + (1 : Int32)) + (a64 &&& (1 : Int32)))), .unset, .unset, .unset, .unset, .unset, .unset, .unset]) d62_198 rfl ci_5 rfl (go_goto (pc := 201) (pc' := 33) d62_201 j_201_m168 ?_)))
        exact ih v1 v3 (v4 + (5 : Int32)) q r124.2 (.val (.int (a45 &&& (15 : Int32)))) (.val (.int a56)) (.val (.int a64)) (.val (.int a72)) (.val (.int a80)) (.val (.int ((a56 &&& (7 : Int32)) % v3))) (.val (.int ((((a56 &&& (7 : Int32)) % v3) + (1 : Int32)) + (a64 &&& (1 : Int32))))) (Or.inr ⟨_, rfl, rfl⟩) (Or.inr ⟨_, rfl, rfl⟩) (Or.inr ⟨_, rfl, rfl⟩) (Or.inr ⟨_, rfl, rfl⟩) (Or.inr ⟨_, rfl, rfl⟩) (Or.inr ⟨_, rfl, rfl⟩) (Or.inr ⟨_, rfl, rfl⟩) _ hf
      · replace hf := (if_neg h7).symm.trans hf
        refine go_icY (pc := 87) (pc' := 131) d62_87 (XT.ii_ge_t h7) j_87_44 ?_
        refine go_iload (pc := 131) d62_131 rfl (go_bipush (pc := 133) d62_133 cb_14 ?_)
        by_cases h8 : (a45 &&& (15 : Int32)) < (14 : Int32)
        · replace hf := (if_pos h8).symm.trans hf
          refine go_icN (pc := 135) d62_135 (XT.ii_ge_f h8) ?_
          refine go_iload (pc := 138) d62_138 rfl (go_iconst (pc := 140) d62_140 ci_3 (go_iand (pc := 141) d62_141 (go_istore (pc := 142) (L' := [.val (.ref 0), .val (.int v1), .val (.ref 1), .val (.int v3), .val (.int v4), .val (.int (a45 &&& (15 : Int32))), .val (.int a56), .val (.int a64), .val (.int a72), .val (.int a80), .val (.int (a64 &&& (3 : Int32))), x11, .unset, .unset, .unset, .unset, .unset, .unset, .unset]) d62_142 (stx rfl hx10 rfl) (go_iload (pc := 144) d62_144 rfl (go_iconst (pc := 146) d62_146 ci_1 (go_iconst (pc := 147) d62_147 ci_4 (go_iload (pc := 148) d62_148 rfl ?_)))))))
          refine go_imul (pc := 150) d62_150 (go_ishl (pc := 151) d62_151 (go_iconst (pc := 152) d62_152 ci_1 (go_isub (pc := 153) d62_153 (go_iand (pc := 154) d62_154 (go_istore (pc := 155) (L' := [.val (.ref 0), .val (.int v1), .val (.ref 1), .val (.int v3), .val (.int v4), .val (.int (a45 &&& (15 : Int32))), .val (.int a56), .val (.int a64), .val (.int a72), .val (.int a80), .val (.int (a64 &&& (3 : Int32))), .val (.int (a80 &&& (((1 : Int32) <<< (((4 : Int32) * (a64 &&& (3 : Int32))) &&& 31)) - (1 : Int32)))), .unset, .unset, .unset, .unset, .unset, .unset, .unset]) d62_155 (stx rfl hx11 rfl) (go_aloadN (pc := 157) d62_157 rfl (go_iload (pc := 158) d62_158 rfl ?_)))))))
          refine go_bipush (pc := 160) d62_160 cb_7 (go_iand (pc := 162) d62_162 (go_iload (pc := 163) d62_163 rfl (go_bipush (pc := 165) d62_165 cb_127 (go_iand (pc := 167) d62_167 (go_iload (pc := 168) d62_168 rfl (go_iload (pc := 170) d62_170 rfl ?_))))))
          obtain ⟨r172, e12, hf⟩ := Option.bind_eq_some_iff.mp hf
          refine go_virt (pc := 172) (i := 0) (as := [.int (a56 &&& (7 : Int32)), .int (a72 &&& (127 : Int32)), .int (a64 &&& (3 : Int32)), .int (a80 &&& (((1 : Int32) <<< (((4 : Int32) * (a64 &&& (3 : Int32))) &&& 31)) - (1 : Int32)))]) (rest := []) (w' := (some q, [(12, r172.2)])) lk_1_20 pd_12 rfl oid_0 rfl rfl rfl rfl rfl rfl ⟨rfl, rfl, rfl, rfl, rfl⟩ d62_172 (c_k_addRule (a56 &&& (7 : Int32)) (a72 &&& (127 : Int32)) (a64 &&& (3 : Int32)) (a80 &&& (((1 : Int32) <<< (((4 : Int32) * (a64 &&& (3 : Int32))) &&& 31)) - (1 : Int32))) t0 _ e12) ?_
          refine go_pop (pc := 175) d62_175 (go_goto (pc := 176) (pc' := 198) d62_176 j_176_22 (go_iinc (pc := 198) (L' := [.val (.ref 0), .val (.int v1), .val (.ref 1), .val (.int v3), .val (.int (v4 + (5 : Int32))), .val (.int (a45 &&& (15 : Int32))), .val (.int a56), .val (.int a64), .val (.int a72), .val (.int a80), .val (.int (a64 &&& (3 : Int32))), .val (.int (a80 &&& (((1 : Int32) <<< (((4 : Int32) * (a64 &&& (3 : Int32))) &&& 31)) - (1 : Int32)))), .unset, .unset, .unset, .unset, .unset, .unset, .unset]) d62_198 rfl ci_5 rfl (go_goto (pc := 201) (pc' := 33) d62_201 j_201_m168 ?_)))
          exact ih v1 v3 (v4 + (5 : Int32)) q r172.2 (.val (.int (a45 &&& (15 : Int32)))) (.val (.int a56)) (.val (.int a64)) (.val (.int a72)) (.val (.int a80)) (.val (.int (a64 &&& (3 : Int32)))) (.val (.int (a80 &&& (((1 : Int32) <<< (((4 : Int32) * (a64 &&& (3 : Int32))) &&& 31)) - (1 : Int32))))) (Or.inr ⟨_, rfl, rfl⟩) (Or.inr ⟨_, rfl, rfl⟩) (Or.inr ⟨_, rfl, rfl⟩) (Or.inr ⟨_, rfl, rfl⟩) (Or.inr ⟨_, rfl, rfl⟩) (Or.inr ⟨_, rfl, rfl⟩) (Or.inr ⟨_, rfl, rfl⟩) _ hf
        · replace hf := (if_neg h8).symm.trans hf
          refine go_icY (pc := 135) (pc' := 179) d62_135 (XT.ii_ge_t h8) j_135_44 ?_
          refine go_iload (pc := 179) d62_179 rfl (go_bipush (pc := 181) d62_181 cb_14 ?_)
          by_cases h9 : (a45 &&& (15 : Int32)) = (14 : Int32)
          · replace hf := (if_pos h9).symm.trans hf
            refine go_icN (pc := 183) d62_183 (XT.ii_ne_f h9) ?_
            refine go_aloadN (pc := 186) d62_186 rfl ?_
            obtain ⟨r187, e11, hf⟩ := Option.bind_eq_some_iff.mp hf
            refine go_virt (pc := 187) (i := 0) (as := []) (rest := []) (w' := (some q, [(12, r187.2)])) lk_1_23 pd_48 rfl oid_0 rfl rfl rfl rfl rfl rfl ⟨rfl, rfl, rfl, rfl, rfl⟩ d62_187 (c_k_parse t0 _ e11) ?_
            refine go_pop (pc := 190) d62_190 (go_goto (pc := 191) (pc' := 198) d62_191 j_191_7 (go_iinc (pc := 198) (L' := [.val (.ref 0), .val (.int v1), .val (.ref 1), .val (.int v3), .val (.int (v4 + (5 : Int32))), .val (.int (a45 &&& (15 : Int32))), .val (.int a56), .val (.int a64), .val (.int a72), .val (.int a80), x10, x11, .unset, .unset, .unset, .unset, .unset, .unset, .unset]) d62_198 rfl ci_5 rfl (go_goto (pc := 201) (pc' := 33) d62_201 j_201_m168 ?_)))
            exact ih v1 v3 (v4 + (5 : Int32)) q r187.2 (.val (.int (a45 &&& (15 : Int32)))) (.val (.int a56)) (.val (.int a64)) (.val (.int a72)) (.val (.int a80)) x10 x11 (Or.inr ⟨_, rfl, rfl⟩) (Or.inr ⟨_, rfl, rfl⟩) (Or.inr ⟨_, rfl, rfl⟩) (Or.inr ⟨_, rfl, rfl⟩) (Or.inr ⟨_, rfl, rfl⟩) hx10 hx11 _ hf
          · replace hf := (if_neg h9).symm.trans hf
            refine go_icY (pc := 183) (pc' := 194) d62_183 (XT.ii_ne_t h9) j_183_11 ?_
            refine go_aloadN (pc := 194) d62_194 rfl ?_
            obtain ⟨r195, e10, hf⟩ := Option.bind_eq_some_iff.mp hf
            refine go_virt (pc := 195) (i := 0) (as := []) (rest := []) (w' := (some q, [(12, r195)])) lk_1_27 pd_49 rfl oid_0 rfl rfl rfl rfl rfl rfl ⟨rfl, rfl, rfl, rfl, rfl⟩ d62_195 (c_k_reset t0 _ e10) ?_
            refine go_iinc (pc := 198) (L' := [.val (.ref 0), .val (.int v1), .val (.ref 1), .val (.int v3), .val (.int (v4 + (5 : Int32))), .val (.int (a45 &&& (15 : Int32))), .val (.int a56), .val (.int a64), .val (.int a72), .val (.int a80), x10, x11, .unset, .unset, .unset, .unset, .unset, .unset, .unset]) d62_198 rfl ci_5 rfl (go_goto (pc := 201) (pc' := 33) d62_201 j_201_m168 ?_)
            exact ih v1 v3 (v4 + (5 : Int32)) q r195 (.val (.int (a45 &&& (15 : Int32)))) (.val (.int a56)) (.val (.int a64)) (.val (.int a72)) (.val (.int a80)) x10 x11 (Or.inr ⟨_, rfl, rfl⟩) (Or.inr ⟨_, rfl, rfl⟩) (Or.inr ⟨_, rfl, rfl⟩) (Or.inr ⟨_, rfl, rfl⟩) (Or.inr ⟨_, rfl, rfl⟩) hx10 hx11 _ hf
    · replace hf := (if_neg h1).symm.trans hf
      refine go_icY (pc := 39) (pc' := 204) d62_39 (XT.ii_ge_t h1) j_39_165 ?_
      exact law_204_ok v1 v3 q t0 (.val (.int v4)) x5 x6 x7 x8 x9 x10 x11 (Or.inr ⟨_, rfl, rfl⟩) hx5 hx6 hx7 hx8 hx9 hx10 hx11 _ hf
set_option maxRecDepth 65536 in
set_option maxHeartbeats 4000000 in
theorem law_12_ok  : ∀ (p0 : Int32) (q : List Int32)  (o : Int32 × S × S), law_12 p0 q = some o → Go PP m62 12 [.val (.ref 0), .unset, .unset, .unset, .unset, .unset, .unset, .unset, .unset, .unset, .unset, .unset, .unset, .unset, .unset, .unset, .unset, .unset, .unset] [.int p0] (some q, []) (some (.int o.1), (some q, [(12, o.2.1), (12, o.2.2)])) := by
  intro p0 q o hf
  unfold law_12 at hf
  refine go_istoreN (pc := 12) (L' := [.val (.ref 0), .val (.int p0), .unset, .unset, .unset, .unset, .unset, .unset, .unset, .unset, .unset, .unset, .unset, .unset, .unset, .unset, .unset, .unset, .unset]) d62_12 rfl ?_
  refine go_new (pc := 13) (n := 0) (w' := (some q, [(0, s0)])) (List.mem_of_getElem? (i := 0) rfl) rfl rfl rfl rfl rfl rfl rfl d62_13 oid_0 ?_
  refine go_dupR (pc := 16) d62_16 (go_iloadN (pc := 17) d62_17 rfl (go_bipush (pc := 18) d62_18 cb_7 (go_iand (pc := 20) d62_20 ?_)))
  obtain ⟨r21, e2, hf⟩ := Option.bind_eq_some_iff.mp hf
  refine go_init (pc := 21) (i := 0) (as := [.int (p0 &&& (7 : Int32))]) (rest := [.ref 1]) (w' := (some q, [(12, r21)])) lk_1_9 pd_4 rfl oid_0 rfl rfl rfl rfl rfl rfl rfl rfl rfl ⟨rfl, rfl, rfl⟩ ⟨rfl, rfl⟩ d62_21 (c_k_init (p0 &&& (7 : Int32)) _ e2) ?_
  refine go_astoreN (pc := 24) (L' := [.val (.ref 0), .val (.int p0), .val (.ref 1), .unset, .unset, .unset, .unset, .unset, .unset, .unset, .unset, .unset, .unset, .unset, .unset, .unset, .unset, .unset, .unset]) d62_24 rfl (go_aloadN (pc := 25) d62_25 rfl ?_)
  refine go_virt (pc := 26) (i := 0) (as := []) (rest := []) (w' := (some q, [(12, r21)])) lk_1_12 pd_5 rfl oid_0 rfl rfl rfl rfl rfl rfl ⟨rfl, rfl, rfl, rfl, rfl⟩ d62_26 (c_k_nodeCount r21) ?_
  refine go_istoreN (pc := 29) (L' := [.val (.ref 0), .val (.int p0), .val (.ref 1), .val (.int (k_nodeCount r21)), .unset, .unset, .unset, .unset, .unset, .unset, .unset, .unset, .unset, .unset, .unset, .unset, .unset, .unset, .unset]) d62_29 rfl (go_iconst (pc := 30) d62_30 ci_1 (go_istore (pc := 31) (L' := [.val (.ref 0), .val (.int p0), .val (.ref 1), .val (.int (k_nodeCount r21)), .val (.int (1 : Int32)), .unset, .unset, .unset, .unset, .unset, .unset, .unset, .unset, .unset, .unset, .unset, .unset, .unset, .unset]) d62_31 rfl ?_))
  exact law_33_ok BIG p0 (k_nodeCount r21) (1 : Int32) q r21 .unset .unset .unset .unset .unset .unset .unset (Or.inl rfl) (Or.inl rfl) (Or.inl rfl) (Or.inl rfl) (Or.inl rfl) (Or.inl rfl) (Or.inl rfl) _ hf
set_option maxRecDepth 65536 in
set_option maxHeartbeats 4000000 in
theorem law_ok  : ∀  (q : List Int32)  (o : Int32 × S × S), law q = some o → Go PP m62 0 [.val (.ref 0), .unset, .unset, .unset, .unset, .unset, .unset, .unset, .unset, .unset, .unset, .unset, .unset, .unset, .unset, .unset, .unset, .unset, .unset] [] (some q, []) (some (.int o.1), (some q, [(12, o.2.1), (12, o.2.2)])) := by
  intro q o hf
  unfold law at hf
  refine go_aloadN (pc := 0) d62_0 rfl (go_slen (pc := 1) d62_1 ?_)
  by_cases h1 : 0 < q.length.toInt32
  · replace hf := (if_pos h1).symm.trans hf
    refine go_ifN (pc := 2) d62_2 (XT.i0_le_f h1) ?_
    refine go_aloadN (pc := 5) d62_5 rfl (go_iconst (pc := 6) d62_6 ci_0 ?_)
    obtain ⟨a7, e2, hf⟩ := Option.bind_eq_some_iff.mp hf
    refine go_sload (pc := 7) e2 d62_7 ?_
    refine go_goto (pc := 8) (pc' := 12) d62_8 j_8_4 ?_
    exact law_12_ok a7 q _ hf
  · replace hf := (if_neg h1).symm.trans hf
    refine go_ifY (pc := 2) (pc' := 11) d62_2 (XT.i0_le_t h1) j_2_9 ?_
    refine go_iconst (pc := 11) d62_11 ci_0 ?_
    exact law_12_ok (0 : Int32) q _ hf
/-- a general loop upwards -/
theorem lp {C Z : Type} (L : Nat → C → Int32 → S → Option Z) (I : C → S → Prop) (Q : Option Z → Prop) (m : Nat) (step : ∀ n k c s, k < m → I c s → ∃ c' s', L (n + 1) c (Int32.ofNat k) s = L n c' (Int32.ofNat (k + 1)) s' ∧ I c' s') (fin : ∀ n c s, I c s → Q (L (n + 1) c (Int32.ofNat m) s)) : ∀ j k N c s, k + j = m → j < N → I c s → Q (L N c (Int32.ofNat k) s)
  | _, _, 0, _, _, _, h, _ => by omega
  | 0, k, N + 1, c, s, hk, _, i => by
    have : k = m := by omega
    subst this
    exact fin N c s i
  | j + 1, k, N + 1, c, s, hk, hN, i => by
    obtain ⟨c', s', e, i'⟩ := step N k c s (by omega) i
    rw [e]
    exact lp L I Q m step fin j (k + 1) N c' s' (by omega) (by omega) i'
def NB (v : Int32) : Prop := ¬ v < 0 ∧ ¬ (1073741824 : Int32) < v
def ElenT (s : S) : Prop := (gA s 0).length = 16 ∧ (gA s 1).length = 16 ∧ (gA s 2).length = 16 ∧ (gA s 3).length = 16 ∧ (gA s 4).length = 12 ∧ (gA s 5).length = 12 ∧ (gA s 6).length = 12 ∧ (gA s 7).length = 36 ∧ (gA s 8).length = 1024 ∧ (gA s 9).length = 3072 ∧ (gA s 10).length = 3072 ∧ (gA s 11).length = 1024
/-- the store -/
def Es (n E R : Nat) (s : S) : Prop := ElenT s ∧ gI s 0 = 1073741824 ∧ gI s 1 = Int32.ofNat n ∧ gI s 2 = Int32.ofNat E ∧ gI s 3 = Int32.ofNat R ∧ 2 ≤ n ∧ n ≤ 8 ∧ E ≤ 16 ∧ R ≤ 12 ∧ (∀ i, i < 12 → ∃ l, l ≤ 3 ∧ (gA s 6)[i]? = some (Int32.ofNat l)) ∧ (∀ i, i < 16 → ∃ w, NB w ∧ (gA s 3)[i]? = some w) ∧ (∀ i, i < 12 → ∃ w, NB w ∧ (gA s 5)[i]? = some w)
/-- the store and the charts within bounds -/
def Et (n E R : Nat) (s : S) : Prop := Es n E R s ∧ (∀ i, i < 1024 → ∃ w, NB w ∧ (gA s 8)[i]? = some w) ∧ ∀ i, i < 3072 → ∃ w, NB w ∧ (gA s 9)[i]? = some w
theorem Es.fx {n E R : Nat} {s t : S} (h : Es n E R s) (F : Fx [4, 5] [] [8, 9, 10, 11] [] s t) (l : ElenT t) : Es n E R t := by
  obtain ⟨a, b, c, d, e, f, g, i, j, k, m, o⟩ := h
  refine ⟨l, by rw [F.1 0 (by simp)]; exact b, by rw [F.1 1 (by simp)]; exact c, by rw [F.1 2 (by simp)]; exact d, by rw [F.1 3 (by simp)]; exact e, f, g, i, j, by rw [F.2.2.1 6 (by simp)]; exact k, by rw [F.2.2.1 3 (by simp)]; exact m, by rw [F.2.2.1 5 (by simp)]; exact o⟩
theorem nat_of {v : Int32} {m : Nat} (hm : m < 2147483648) (h0 : ¬ v < 0) (h : v < Int32.ofNat m) : ∃ k, k < m ∧ v = Int32.ofNat k := by
  obtain ⟨e, hl⟩ := eq_ofNat h0
  refine ⟨v.toNatClampNeg, ?_, e⟩
  rw [e] at h
  exact (ofNat_lt hl hm).mp h
theorem mul_nat (a b : Nat) : Int32.ofNat a * Int32.ofNat b = Int32.ofNat (a * b) := (Int32.ofNat_mul a b).symm
theorem node_cases {n : Nat} {s : S} (h1 : gI s 1 = Int32.ofNat n) (n8 : n ≤ 8) (v : Int32) : k_isNode v s = 0 ∨ ∃ u, u < n ∧ v = Int32.ofNat u ∧ k_isNode v s = 1 := by
  unfold k_isNode
  by_cases a : v < 0
  · left; rw [if_pos a]
  · rw [if_neg a, h1]
    by_cases b : v < Int32.ofNat n
    · obtain ⟨u, hu, e⟩ := nat_of (by omega) a b
      right; exact ⟨u, hu, e, by rw [if_pos b]⟩
    · left; rw [if_neg b]
theorem span_cases {n : Nat} {s : S} (h1 : gI s 1 = Int32.ofNat n) (n8 : n ≤ 8) (v1 v2 v3 : Int32) : k_spanSlot v1 v2 v3 s = -1 ∨ ∃ i, i < 1024 ∧ k_spanSlot v1 v2 v3 s = Int32.ofNat i := by
  unfold k_spanSlot k_isCode
  by_cases a : v1 < 0
  · left; rw [if_pos a, if_pos rfl]
  · rw [if_neg a]
    by_cases b : v1 < 16
    · obtain ⟨c, hc, e⟩ := nat_of (m := 16) (by omega) a b
      rw [if_pos b, if_neg (show ¬ (1 : Int32) = 0 by decide)]
      rcases node_cases h1 n8 v2 with z | ⟨u, hu, eu, z⟩
      · left; rw [z, if_pos rfl]
      · rw [z, if_neg (show ¬ (1 : Int32) = 0 by decide)]
        rcases node_cases h1 n8 v3 with z | ⟨w, hw, ew, z⟩
        · left; rw [z, if_pos rfl]
        · right
          rw [z, if_neg (show ¬ (1 : Int32) = 0 by decide)]
          refine ⟨c * 64 + u * 8 + w, by omega, ?_⟩
          rw [e, eu, ew, show (64 : Int32) = Int32.ofNat 64 from rfl, show (8 : Int32) = Int32.ofNat 8 from rfl, mul_nat, mul_nat, ofNat_add', ofNat_add']
    · left; rw [if_neg b, if_pos rfl]
theorem item_cases {n R : Nat} {s : S} (h1 : gI s 1 = Int32.ofNat n) (n8 : n ≤ 8) (h3 : gI s 3 = Int32.ofNat R) (r12 : R ≤ 12) (v1 v2 v3 v4 : Int32) : k_itemSlot v1 v2 v3 v4 s = -1 ∨ ∃ i, i < 3072 ∧ k_itemSlot v1 v2 v3 v4 s = Int32.ofNat i := by
  unfold k_itemSlot k_isRule k_isDot
  rw [h3]
  by_cases a : v1 < 0
  · left; rw [if_pos a, if_pos rfl]
  · rw [if_neg a]
    by_cases b : v1 < Int32.ofNat R
    · obtain ⟨c, hc, e⟩ := nat_of (by omega) a b
      rw [if_pos b, if_neg (show ¬ (1 : Int32) = 0 by decide)]
      by_cases a2 : v2 < 0
      · left; rw [if_pos a2, if_pos rfl]
      · rw [if_neg a2]
        by_cases b2 : (3 : Int32) < v2
        · left; rw [if_pos b2, if_pos rfl]
        · rw [if_neg b2, if_neg (show ¬ (1 : Int32) = 0 by decide)]
          obtain ⟨d, hd, e2⟩ : ∃ d, d < 4 ∧ v2 = Int32.ofNat d := nat_of (by omega) a2 (by
            rw [Int32.lt_iff_toInt_lt] at b2 ⊢
            have : (3 : Int32).toInt = 3 := rfl
            have : (Int32.ofNat 4).toInt = 4 := rfl
            omega)
          rcases node_cases h1 n8 v3 with z | ⟨u, hu, eu, z⟩
          · left; rw [z, if_pos rfl]
          · rw [z, if_neg (show ¬ (1 : Int32) = 0 by decide)]
            rcases node_cases h1 n8 v4 with z | ⟨w, hw, ew, z⟩
            · left; rw [z, if_pos rfl]
            · right
              rw [z, if_neg (show ¬ (1 : Int32) = 0 by decide)]
              refine ⟨(c * 4 + d) * 64 + u * 8 + w, by omega, ?_⟩
              rw [e, e2, eu, ew, show (64 : Int32) = Int32.ofNat 64 from rfl, show (8 : Int32) = Int32.ofNat 8 from rfl, show (4 : Int32) = Int32.ofNat 4 from rfl, mul_nat, mul_nat, ofNat_add', mul_nat, ofNat_add', ofNat_add']
    · left; rw [if_neg b, if_pos rfl]
theorem ent_set {N : Nat} {l : List Int32} {w : Int32} {j : Nat} (h : ∀ i, i < N → ∃ w, NB w ∧ l[i]? = some w) (hw : NB w) (hj : j < l.length) : ∀ i, i < N → ∃ w', NB w' ∧ (l.set j w)[i]? = some w' := fun i hi => by
  by_cases q : j = i
  · subst q; exact ⟨w, hw, List.getElem?_set_self hj⟩
  · rw [List.getElem?_set_ne q]; exact h i hi
section
variable {n E R : Nat}
theorem lspan {s : S} (h : Et n E R s) (v1 v2 v3 : Int32) {w : Int32} (hw : NB w) : ∃ r s', k_lowerSpan v1 v2 v3 w s = some (r, s') ∧ Et n E R s' ∧ Fx [] [] [8] [] s s' := by
  obtain ⟨hs, h8, h9⟩ := id h
  obtain ⟨L, g0, g1, g2, g3, n2, n8, e16, r12, _⟩ := id hs
  unfold k_lowerSpan
  rcases span_cases g1 n8 v1 v2 v3 with z | ⟨i, hi, z⟩
  · rw [z, if_pos (show (-1 : Int32) < 0 by decide)]; exact ⟨_, _, rfl, h, Fx.refl ..⟩
  · obtain ⟨x, hx, ex⟩ := h8 i hi
    rw [z, if_neg (ofNat_nonneg (by omega)), ix_ofNat _ (by omega), ex, Option.bind_some, st_ofNat _ _ (by omega) (by rw [L.2.2.2.2.2.2.2.2.1]; omega), Option.bind_some]
    split
    · have F : Fx [] [] [8] [] s (sA s 8 ((gA s 8).set i w)) := (Fx.refl ..).sA (by simp)
      refine ⟨_, _, rfl, ⟨hs.fx (F.mono (by simp) (by simp) (by simp) (by simp)) (by simpa [ElenT, gA_sA] using L), ?_, ?_⟩, F⟩
      · rw [gA_sA, if_pos rfl]; exact ent_set h8 hw (by rw [L.2.2.2.2.2.2.2.2.1]; omega)
      · rw [gA_sA, if_neg (by decide)]; exact h9
    · exact ⟨_, _, rfl, h, Fx.refl ..⟩
theorem litem {s : S} (h : Et n E R s) (v1 v2 v3 v4 : Int32) {w : Int32} (hw : NB w) : ∃ r s', k_lowerItem v1 v2 v3 v4 w s = some (r, s') ∧ Et n E R s' ∧ Fx [] [] [9] [] s s' := by
  obtain ⟨hs, h8, h9⟩ := id h
  obtain ⟨L, g0, g1, g2, g3, n2, n8, e16, r12, _⟩ := id hs
  unfold k_lowerItem
  rcases item_cases g1 n8 g3 r12 v1 v2 v3 v4 with z | ⟨i, hi, z⟩
  · rw [z, if_pos (show (-1 : Int32) < 0 by decide)]; exact ⟨_, _, rfl, h, Fx.refl ..⟩
  · obtain ⟨x, hx, ex⟩ := h9 i hi
    rw [z, if_neg (ofNat_nonneg (by omega)), ix_ofNat _ (by omega), ex, Option.bind_some, st_ofNat _ _ (by omega) (by rw [L.2.2.2.2.2.2.2.2.2.1]; omega), Option.bind_some]
    split
    · have F : Fx [] [] [9] [] s (sA s 9 ((gA s 9).set i w)) := (Fx.refl ..).sA (by simp)
      refine ⟨_, _, rfl, ⟨hs.fx (F.mono (by simp) (by simp) (by simp) (by simp)) (by simpa [ElenT, gA_sA] using L), ?_, ?_⟩, F⟩
      · rw [gA_sA, if_neg (by decide)]; exact h8
      · rw [gA_sA, if_pos rfl]; exact ent_set h9 hw (by rw [L.2.2.2.2.2.2.2.2.2.1]; omega)
    · exact ⟨_, _, rfl, h, Fx.refl ..⟩
theorem lrest {s : S} (h : Et n E R s) (v1 v2 v3 v4 w : Int32) : ∃ r s', k_lowerRest v1 v2 v3 v4 w s = some (r, s') ∧ Et n E R s' ∧ Fx [] [] [10] [] s s' := by
  obtain ⟨hs, h8, h9⟩ := id h
  obtain ⟨L, g0, g1, g2, g3, n2, n8, e16, r12, _⟩ := id hs
  have l10 : (gA s 10).length = 3072 := L.2.2.2.2.2.2.2.2.2.2.1
  unfold k_lowerRest
  rcases item_cases g1 n8 g3 r12 v1 v2 v3 v4 with z | ⟨i, hi, z⟩
  · rw [z, if_pos (show (-1 : Int32) < 0 by decide)]; exact ⟨_, _, rfl, h, Fx.refl ..⟩
  · rw [z, if_neg (ofNat_nonneg (by omega)), ix_ofNat _ (by omega), List.getElem?_eq_getElem (by omega), Option.bind_some, st_ofNat _ _ (by omega) (by omega), Option.bind_some]
    split
    · have F : Fx [] [] [10] [] s (sA s 10 ((gA s 10).set i w)) := (Fx.refl ..).sA (by simp)
      refine ⟨_, _, rfl, ⟨hs.fx (F.mono (by simp) (by simp) (by simp) (by simp)) (by simpa [ElenT, gA_sA] using L), ?_, ?_⟩, F⟩
      · rw [gA_sA, if_neg (by decide)]; exact h8
      · rw [gA_sA, if_neg (by decide)]; exact h9
    · exact ⟨_, _, rfl, h, Fx.refl ..⟩
theorem louter {s : S} (h : Et n E R s) (v1 v2 v3 w : Int32) : ∃ r s', k_lowerOuter v1 v2 v3 w s = some (r, s') ∧ Et n E R s' ∧ Fx [] [] [11] [] s s' := by
  obtain ⟨hs, h8, h9⟩ := id h
  obtain ⟨L, g0, g1, g2, g3, n2, n8, e16, r12, _⟩ := id hs
  have l11 : (gA s 11).length = 1024 := L.2.2.2.2.2.2.2.2.2.2.2
  unfold k_lowerOuter
  rcases span_cases g1 n8 v1 v2 v3 with z | ⟨i, hi, z⟩
  · rw [z, if_pos (show (-1 : Int32) < 0 by decide)]; exact ⟨_, _, rfl, h, Fx.refl ..⟩
  · rw [z, if_neg (ofNat_nonneg (by omega)), ix_ofNat _ (by omega), List.getElem?_eq_getElem (by omega), Option.bind_some, st_ofNat _ _ (by omega) (by omega), Option.bind_some]
    split
    · have F : Fx [] [] [11] [] s (sA s 11 ((gA s 11).set i w)) := (Fx.refl ..).sA (by simp)
      refine ⟨_, _, rfl, ⟨hs.fx (F.mono (by simp) (by simp) (by simp) (by simp)) (by simpa [ElenT, gA_sA] using L), ?_, ?_⟩, F⟩
      · rw [gA_sA, if_neg (by decide)]; exact h8
      · rw [gA_sA, if_neg (by decide)]; exact h9
    · exact ⟨_, _, rfl, h, Fx.refl ..⟩
theorem NB_inf : NB 1073741824 := ⟨by decide, by decide⟩
theorem gspan {s : S} (h : Et n E R s) (v1 v2 v3 : Int32) : ∃ w, k_getSpan v1 v2 v3 s = some w ∧ NB w := by
  obtain ⟨hs, h8, h9⟩ := id h
  obtain ⟨L, g0, g1, g2, g3, n2, n8, e16, r12, _⟩ := id hs
  unfold k_getSpan
  rcases span_cases g1 n8 v1 v2 v3 with z | ⟨i, hi, z⟩
  · rw [z, if_pos (show (-1 : Int32) < 0 by decide), g0]; exact ⟨_, rfl, NB_inf⟩
  · obtain ⟨x, hx, ex⟩ := h8 i hi
    rw [z, if_neg (ofNat_nonneg (by omega)), ix_ofNat _ (by omega), ex, Option.bind_some]; exact ⟨_, rfl, hx⟩
theorem gitem {s : S} (h : Et n E R s) (v1 v2 v3 v4 : Int32) : ∃ w, k_getItem v1 v2 v3 v4 s = some w ∧ NB w := by
  obtain ⟨hs, h8, h9⟩ := id h
  obtain ⟨L, g0, g1, g2, g3, n2, n8, e16, r12, _⟩ := id hs
  unfold k_getItem
  rcases item_cases g1 n8 g3 r12 v1 v2 v3 v4 with z | ⟨i, hi, z⟩
  · rw [z, if_pos (show (-1 : Int32) < 0 by decide), g0]; exact ⟨_, rfl, NB_inf⟩
  · obtain ⟨x, hx, ex⟩ := h9 i hi
    rw [z, if_neg (ofNat_nonneg (by omega)), ix_ofNat _ (by omega), ex, Option.bind_some]; exact ⟨_, rfl, hx⟩
theorem grest {s : S} (h : Et n E R s) (v1 v2 v3 v4 : Int32) : ∃ w, k_getRest v1 v2 v3 v4 s = some w := by
  obtain ⟨L, g0, g1, g2, g3, n2, n8, e16, r12, _⟩ := id h.1
  have l10 : (gA s 10).length = 3072 := L.2.2.2.2.2.2.2.2.2.2.1
  unfold k_getRest
  rcases item_cases g1 n8 g3 r12 v1 v2 v3 v4 with z | ⟨i, hi, z⟩
  · rw [z, if_pos (show (-1 : Int32) < 0 by decide)]; exact ⟨_, rfl⟩
  · rw [z, if_neg (ofNat_nonneg (by omega)), ix_ofNat _ (by omega), List.getElem?_eq_getElem (by omega), Option.bind_some]; exact ⟨_, rfl⟩
theorem gouter {s : S} (h : Et n E R s) (v1 v2 v3 : Int32) : ∃ w, k_getOuter v1 v2 v3 s = some w := by
  obtain ⟨L, g0, g1, g2, g3, n2, n8, e16, r12, _⟩ := id h.1
  have l11 : (gA s 11).length = 1024 := L.2.2.2.2.2.2.2.2.2.2.2
  unfold k_getOuter
  rcases span_cases g1 n8 v1 v2 v3 with z | ⟨i, hi, z⟩
  · rw [z, if_pos (show (-1 : Int32) < 0 by decide)]; exact ⟨_, rfl⟩
  · rw [z, if_neg (ofNat_nonneg (by omega)), ix_ofNat _ (by omega), List.getElem?_eq_getElem (by omega), Option.bind_some]; exact ⟨_, rfl⟩
theorem plus_NB {s : S} (g0 : gI s 0 = 1073741824) {a b : Int32} (ha : NB a) (hb : NB b) : NB (k_plus a b s) := by
  unfold k_plus
  rw [g0]
  by_cases q1 : a < 1073741824
  · rw [if_pos q1]
    by_cases q2 : b < 1073741824
    · rw [if_pos q2]
      by_cases q3 : a + b < 1073741824
      · rw [if_pos q3]
        obtain ⟨ea, la⟩ := eq_ofNat ha.1
        obtain ⟨eb, lb⟩ := eq_ofNat hb.1
        rw [ea] at q1 ⊢
        rw [eb] at q2 ⊢
        have h1 := (lt_lit (m := 1073741824) la).mp q1
        have h2 := (lt_lit (m := 1073741824) lb).mp q2
        rw [ea, eb, ofNat_add'] at q3
        rw [ofNat_add']
        have h3 := (lt_lit (m := 1073741824) (by omega)).mp q3
        exact ⟨ofNat_nonneg (by omega), fun z => by
          have := (ofNat_lt (k := 1073741824) (by omega) (by omega)).mp z
          omega⟩
      · rw [if_neg q3]; exact NB_inf
    · rw [if_neg q2]; exact NB_inf
  · rw [if_neg q1]; exact NB_inf
theorem sym_ok {s : S} (L : ElenT s) (v1 v2 : Int32) : ∃ w, k_symbolAt v1 v2 s = some w := by
  have l7 : (gA s 7).length = 36 := L.2.2.2.2.2.2.2.1
  unfold k_symbolAt
  by_cases a : v1 < 0
  · rw [if_pos a]; exact ⟨_, rfl⟩
  rw [if_neg a]
  by_cases b : v1 < 12
  · rw [if_pos b]
    by_cases c : v2 < 0
    · rw [if_pos c]; exact ⟨_, rfl⟩
    rw [if_neg c]
    by_cases d : v2 < 3
    · rw [if_pos d]
      obtain ⟨x, hx, e1⟩ := nat_of (m := 12) (by omega) a b
      obtain ⟨y, hy, e2⟩ := nat_of (m := 3) (by omega) c d
      rw [e1, e2, show (3 : Int32) = Int32.ofNat 3 from rfl, mul_nat, ofNat_add', ix_ofNat _ (by omega), List.getElem?_eq_getElem (by omega), Option.bind_some]
      exact ⟨_, rfl⟩
    · rw [if_neg d]; exact ⟨_, rfl⟩
  · rw [if_neg b]; exact ⟨_, rfl⟩
theorem head_ok {s : S} (L : ElenT s) (v1 : Int32) : ∃ w, k_headCode v1 s = some w := by
  have l4 : (gA s 4).length = 12 := L.2.2.2.2.1
  unfold k_headCode
  by_cases a : v1 < 0
  · rw [if_pos a]; exact ⟨_, rfl⟩
  rw [if_neg a]
  by_cases b : v1 < 12
  · rw [if_pos b]
    obtain ⟨x, hx, e1⟩ := nat_of (m := 12) (by omega) a b
    rw [e1, ix_ofNat _ (by omega), List.getElem?_eq_getElem (by omega), Option.bind_some]
    exact ⟨_, rfl⟩
  · rw [if_neg b]; exact ⟨_, rfl⟩
end
section
variable {n E R : Nat}
theorem scan_ok {s : S} (h : Et n E R s) : ∃ s', k_scanEdges s = some s' ∧ Et n E R s' ∧ Fx [] [] [8] [] s s' := by
  unfold k_scanEdges
  have e16 := h.1.2.2.2.2.2.2.2.1
  refine lp (fun N (_ : Unit) v s => k_scanEdges_2 N v s) (fun _ t => Et n E R t ∧ Fx [] [] [8] [] s t) (fun o => ∃ s', o = some s' ∧ Et n E R s' ∧ Fx [] [] [8] [] s s') E ?_ ?_ E 0 BIG () s (by omega) (by unfold BIG; omega) ⟨h, Fx.refl ..⟩
  · rintro N k _ t hk ⟨ht, F⟩
    obtain ⟨L, g0, g1, g2, g3, n2, n8, _, r12, a6, a3, a5⟩ := id ht.1
    obtain ⟨w, hw, ew⟩ := a3 k (by omega)
    have l0 : (gA t 0).length = 16 := L.1
    have l1 : (gA t 1).length = 16 := L.2.1
    have l2 : (gA t 2).length = 16 := L.2.2.1
    obtain ⟨r, t', e, ht', F'⟩ := lspan ht ((gA t 2)[k]'(by omega)) ((gA t 0)[k]'(by omega)) ((gA t 1)[k]'(by omega)) hw
    refine ⟨(), t', ?_, ht', F.trans F'⟩
    show k_scanEdges_2 (N + 1) _ _ = k_scanEdges_2 N _ _
    rw [k_scanEdges_2, g2, if_pos ((ofNat_lt (by omega) (by omega)).mpr hk), ix_ofNat _ (by omega), List.getElem?_eq_getElem (by omega), Option.bind_some, ix_ofNat _ (by omega), List.getElem?_eq_getElem (by omega), Option.bind_some, ix_ofNat _ (by omega), List.getElem?_eq_getElem (by omega), Option.bind_some, ix_ofNat _ (by omega), ew, Option.bind_some, e, Option.bind_some, ofNat_succ]
  · rintro N _ t ⟨ht, F⟩
    show ∃ s', k_scanEdges_2 (N + 1) _ _ = _ ∧ _
    rw [k_scanEdges_2, ht.1.2.2.2.1, if_neg (fun z => by have := (ofNat_lt (by omega) (by omega)).mp z; omega)]
    exact ⟨t, rfl, ht, F⟩
theorem seed_in (K : Int32 → S → Option S) {s : S} (h : Et n E R s) {r : Nat} (hr : r < R) : ∃ s', k_seedItems_12 K BIG (Int32.ofNat r) 0 s = K (Int32.ofNat (r + 1)) s' ∧ Et n E R s' ∧ Fx [] [] [9] [] s s' := by
  have n8 := h.1.2.2.2.2.2.2.1
  refine lp (fun N (_ : Unit) v s => k_seedItems_12 K N (Int32.ofNat r) v s) (fun _ t => Et n E R t ∧ Fx [] [] [9] [] s t) (fun o => ∃ s', o = K (Int32.ofNat (r + 1)) s' ∧ Et n E R s' ∧ Fx [] [] [9] [] s s') n ?_ ?_ n 0 BIG () s (by omega) (by unfold BIG; omega) ⟨h, Fx.refl ..⟩
  · rintro N k _ t hk ⟨ht, F⟩
    obtain ⟨L, g0, g1, g2, g3, n2, _, _, r12, a6, a3, a5⟩ := id ht.1
    obtain ⟨w, hw, ew⟩ := a5 r (by omega)
    obtain ⟨x, t', e, ht', F'⟩ := litem ht (Int32.ofNat r) 0 (Int32.ofNat k) (Int32.ofNat k) hw
    refine ⟨(), t', ?_, ht', F.trans F'⟩
    show k_seedItems_12 K (N + 1) _ _ _ = k_seedItems_12 K N _ _ _
    rw [k_seedItems_12, g1, if_pos ((ofNat_lt (by omega) (by omega)).mpr hk), ix_ofNat _ (by omega), ew, Option.bind_some, e, Option.bind_some, ofNat_succ]
  · rintro N _ t ⟨ht, F⟩
    show ∃ s', k_seedItems_12 K (N + 1) _ _ _ = _ ∧ _
    rw [k_seedItems_12, ht.1.2.2.1, if_neg (fun z => by have := (ofNat_lt (by omega) (by omega)).mp z; omega), ofNat_succ]
    exact ⟨t, rfl, ht, F⟩
theorem seed_ok {s : S} (h : Et n E R s) : ∃ s', k_seedItems s = some s' ∧ Et n E R s' ∧ Fx [] [] [9] [] s s' := by
  unfold k_seedItems
  have r12 := h.1.2.2.2.2.2.2.2.2.1
  refine lp (fun N (_ : Unit) v s => k_seedItems_2 N v s) (fun _ t => Et n E R t ∧ Fx [] [] [9] [] s t) (fun o => ∃ s', o = some s' ∧ Et n E R s' ∧ Fx [] [] [9] [] s s') R ?_ ?_ R 0 BIG () s (by omega) (by unfold BIG; omega) ⟨h, Fx.refl ..⟩
  · rintro N k _ t hk ⟨ht, F⟩
    obtain ⟨t', e, ht', F'⟩ := seed_in (fun v1 s => k_seedItems_2 N v1 s) ht hk
    refine ⟨(), t', ?_, ht', F.trans F'⟩
    show k_seedItems_2 (N + 1) _ _ = k_seedItems_2 N _ _
    rw [k_seedItems_2, ht.1.2.2.2.2.1, if_pos ((ofNat_lt (by omega) (by omega)).mpr hk), e]
  · rintro N _ t ⟨ht, F⟩
    show ∃ s', k_seedItems_2 (N + 1) _ _ = _ ∧ _
    rw [k_seedItems_2, ht.1.2.2.2.2.1, if_neg (fun z => by have := (ofNat_lt (by omega) (by omega)).mp z; omega)]
    exact ⟨t, rfl, ht, F⟩
theorem best_ok {s : S} (h : Et n E R s) (v1 v2 : Int32) {u v : Nat} (hu : u ≤ v) (hv : v < 8) : ∃ w, k_bestAdvance v1 v2 (Int32.ofNat u) (Int32.ofNat v) s = some w ∧ NB w := by
  unfold k_bestAdvance
  obtain ⟨x, ex⟩ := sym_ok h.1.1 v1 v2
  have g0 : gI s 0 = 1073741824 := h.1.2.1
  rw [ex, Option.bind_some, g0]
  refine lp (fun N (c : Int32) k s => k_bestAdvance_17 N v1 v2 (Int32.ofNat u) (Int32.ofNat v) x c k s) (fun c t => t = s ∧ NB c) (fun o => ∃ w, o = some w ∧ NB w) (v + 1) ?_ ?_ (v + 1 - u) u BIG _ s (by omega) (by unfold BIG; omega) ⟨rfl, NB_inf⟩
  · rintro N k c t hk ⟨rfl, hc⟩
    obtain ⟨a, ea, ha⟩ := gitem h v1 v2 (Int32.ofNat u) (Int32.ofNat k)
    obtain ⟨b, eb, hb⟩ := gspan h x (Int32.ofNat k) (Int32.ofNat v)
    refine ⟨(if (k_plus a b t) < c then (k_plus a b t) else c), t, ?_, rfl, ?_⟩
    · show k_bestAdvance_17 (N + 1) _ _ _ _ _ _ _ _ = k_bestAdvance_17 N _ _ _ _ _ _ _ _
      rw [k_bestAdvance_17, if_neg (fun z => by have := (ofNat_lt (by omega) (by omega)).mp z; omega), ea, Option.bind_some, eb, Option.bind_some, ofNat_succ]
    · split
      · exact plus_NB g0 ha hb
      · exact hc
  · rintro N c t ⟨rfl, hc⟩
    show ∃ w, k_bestAdvance_17 (N + 1) _ _ _ _ _ _ _ _ = _ ∧ _
    rw [k_bestAdvance_17, if_pos ((ofNat_lt (by omega) (by omega)).mpr (by omega))]
    exact ⟨c, rfl, hc⟩
theorem adv_ok {s : S} (h : Et n E R s) {r u v : Nat} (hr : r < R) (hu : u ≤ v) (hv : v < 8) : ∃ x s', k_advanceItems (Int32.ofNat r) (Int32.ofNat u) (Int32.ofNat v) s = some (x, s') ∧ Et n E R s' ∧ Fx [] [] [8, 9] [] s s' := by
  unfold k_advanceItems
  have r12 := h.1.2.2.2.2.2.2.2.2.1
  obtain ⟨l, l3, el⟩ := h.1.2.2.2.2.2.2.2.2.2.1 r (by omega)
  rw [ix_ofNat _ (by omega), el, Option.bind_some]
  refine lp (fun N (c : Int32) k s => k_advanceItems_14 N (Int32.ofNat r) (Int32.ofNat u) (Int32.ofNat v) c (Int32.ofNat l) k s) (fun c t => Et n E R t ∧ Fx [] [] [8, 9] [] s t) (fun o => ∃ x s', o = some (x, s') ∧ Et n E R s' ∧ Fx [] [] [8, 9] [] s s') l ?_ ?_ l 0 BIG 0 s (by omega) (by unfold BIG; omega) ⟨h, Fx.refl ..⟩
  · rintro N k c t hk ⟨ht, F⟩
    obtain ⟨w, ew, hw⟩ := best_ok ht (Int32.ofNat r) (Int32.ofNat k) hu hv
    obtain ⟨x, t', e, ht', F'⟩ := litem ht (Int32.ofNat r) (Int32.ofNat k + 1) (Int32.ofNat u) (Int32.ofNat v) hw
    refine ⟨(if x = 0 then c else 1), t', ?_, ht', F.trans (F'.mono (by simp) (by simp) (by simp) (by simp))⟩
    show k_advanceItems_14 (N + 1) _ _ _ _ _ _ _ = k_advanceItems_14 N _ _ _ _ _ _ _
    rw [k_advanceItems_14, if_pos ((ofNat_lt (by omega) (by omega)).mpr hk), ew, Option.bind_some, e, Option.bind_some, ofNat_succ]
  · rintro N c t ⟨ht, F⟩
    show ∃ x s', k_advanceItems_14 (N + 1) _ _ _ _ _ _ _ = _ ∧ _
    rw [k_advanceItems_14, if_neg (fun z => by have := (ofNat_lt (by omega) (by omega)).mp z; omega)]
    exact ⟨_, t, rfl, ht, F⟩
theorem comp_ok {s : S} (h : Et n E R s) {r u v : Nat} (hr : r < R) : ∃ x s', k_completeItem (Int32.ofNat r) (Int32.ofNat u) (Int32.ofNat v) s = some (x, s') ∧ Et n E R s' ∧ Fx [] [] [8, 9] [] s s' := by
  unfold k_completeItem
  have r12 := h.1.2.2.2.2.2.2.2.2.1
  obtain ⟨l, l3, el⟩ := h.1.2.2.2.2.2.2.2.2.2.1 r (by omega)
  obtain ⟨w, ew, hw⟩ := gitem h (Int32.ofNat r) (Int32.ofNat l) (Int32.ofNat u) (Int32.ofNat v)
  obtain ⟨c, ec⟩ := head_ok h.1.1 (Int32.ofNat r)
  obtain ⟨x, t', e, ht', F'⟩ := lspan h c (Int32.ofNat u) (Int32.ofNat v) hw
  rw [ix_ofNat _ (by omega), el, Option.bind_some, ew, Option.bind_some, ec, Option.bind_some, e, Option.bind_some]
  exact ⟨_, t', rfl, ht', F'.mono (by simp) (by simp) (by simp) (by simp)⟩
theorem round_ok {s : S} (h : Et n E R s) {u v : Nat} (hu : u ≤ v) (hv : v < 8) : ∃ x s', k_insideRound (Int32.ofNat u) (Int32.ofNat v) s = some (x, s') ∧ Et n E R s' ∧ Fx [] [] [8, 9] [] s s' := by
  unfold k_insideRound
  have r12 := h.1.2.2.2.2.2.2.2.2.1
  refine lp (fun N (c : Int32) k s => k_insideRound_5 N (Int32.ofNat u) (Int32.ofNat v) c k s) (fun c t => Et n E R t ∧ Fx [] [] [8, 9] [] s t) (fun o => ∃ x s', o = some (x, s') ∧ Et n E R s' ∧ Fx [] [] [8, 9] [] s s') R ?_ ?_ R 0 BIG 0 s (by omega) (by unfold BIG; omega) ⟨h, Fx.refl ..⟩
  · rintro N k c t hk ⟨ht, F⟩
    obtain ⟨x, t1, e1, ht1, F1⟩ := adv_ok ht hk hu hv
    obtain ⟨y, t2, e2, ht2, F2⟩ := comp_ok (u := u) (v := v) ht1 hk
    refine ⟨(if y = 0 then (if x = 0 then c else 1) else 1), t2, ?_, ht2, (F.trans F1).trans F2⟩
    show k_insideRound_5 (N + 1) _ _ _ _ _ = k_insideRound_5 N _ _ _ _ _
    rw [k_insideRound_5, ht.1.2.2.2.2.1, if_pos ((ofNat_lt (by omega) (by omega)).mpr hk), e1, Option.bind_some]
    unfold k_insideRound_27
    dsimp only
    rw [e2, Option.bind_some, ofNat_succ]
  · rintro N c t ⟨ht, F⟩
    show ∃ x s', k_insideRound_5 (N + 1) _ _ _ _ _ = _ ∧ _
    rw [k_insideRound_5, ht.1.2.2.2.2.1, if_neg (fun z => by have := (ofNat_lt (by omega) (by omega)).mp z; omega)]
    exact ⟨_, t, rfl, ht, F⟩
theorem close_ok {u v : Nat} (hu : u ≤ v) (hv : v < 8) : ∀ j k N c s, k + j = 24 → j < N → Et n E R s → ∃ s', k_closeInsideCell_5 N (Int32.ofNat u) (Int32.ofNat v) c (Int32.ofNat k) s = some s' ∧ Et n E R s' ∧ Fx [] [] [8, 9] [] s s'
  | _, _, 0, _, _, _, h, _ => by omega
  | 0, k, N + 1, c, s, hk, _, h => by
    rw [k_closeInsideCell_5]
    split
    · exact ⟨s, rfl, h, Fx.refl ..⟩
    · rw [if_neg (fun z => by have := (lt_lit (m := 24) (by omega)).mp z; omega)]
      exact ⟨s, rfl, h, Fx.refl ..⟩
  | j + 1, k, N + 1, c, s, hk, hN, h => by
    rw [k_closeInsideCell_5]
    split
    · exact ⟨s, rfl, h, Fx.refl ..⟩
    · obtain ⟨x, t, e, ht, F⟩ := round_ok h hu hv
      rw [if_pos ((lt_lit (m := 24) (by omega)).mpr (by omega)), e, Option.bind_some, ofNat_succ]
      obtain ⟨t', e', ht', F'⟩ := close_ok hu hv j (k + 1) N x t (by omega) (by omega) ht
      exact ⟨t', e', ht', F.trans F'⟩
theorem dec_nat (k : Nat) : Int32.ofNat (k + 1) + (-1) = Int32.ofNat k := by
  rw [← ofNat_succ, Int32.add_assoc, show (1 : Int32) + -1 = 0 from rfl, Int32.add_zero]
theorem ins_row (K : Int32 → S → Option S) {v : Nat} (hv : v < 8) : ∀ u N s, u ≤ v → u + 1 < N → Et n E R s → ∃ s', k_runInside_20 K N (Int32.ofNat v) (Int32.ofNat u) s = K (Int32.ofNat (v + 1)) s' ∧ Et n E R s' ∧ Fx [] [] [8, 9] [] s s'
  | _, 0, _, _, h, _ => by omega
  | 0, N + 1, s, hu, hN, h => by
    obtain ⟨t, e, ht, F⟩ := close_ok (Nat.zero_le v) hv 24 0 BIG 1 s (by omega) (by unfold BIG; omega) h
    obtain ⟨N, rfl⟩ : ∃ M, N = M + 1 := ⟨N - 1, by omega⟩
    rw [k_runInside_20, if_neg (ofNat_nonneg (by omega))]
    unfold k_closeInsideCell
    rw [show k_closeInsideCell_5 BIG (Int32.ofNat 0) (Int32.ofNat v) 1 0 s = some t from e, Option.bind_some, show Int32.ofNat 0 + (-1) = (-1 : Int32) from rfl, k_runInside_20, if_pos (show (-1 : Int32) < 0 by decide), ofNat_succ]
    exact ⟨t, rfl, ht, F⟩
  | u + 1, N + 1, s, hu, hN, h => by
    obtain ⟨t, e, ht, F⟩ := close_ok hu hv 24 0 BIG 1 s (by omega) (by unfold BIG; omega) h
    rw [k_runInside_20, if_neg (ofNat_nonneg (by omega))]
    unfold k_closeInsideCell
    rw [show k_closeInsideCell_5 BIG (Int32.ofNat (u + 1)) (Int32.ofNat v) 1 0 s = some t from e, Option.bind_some, dec_nat]
    obtain ⟨t', e', ht', F'⟩ := ins_row K hv u N t (by omega) (by omega) ht
    exact ⟨t', e', ht', F.trans F'⟩
theorem inside_ok {s : S} (h : Et n E R s) : ∃ s', k_runInside s = some s' ∧ Et n E R s' ∧ Fx [] [] [8, 9] [] s s' := by
  unfold k_runInside
  have n8 := h.1.2.2.2.2.2.2.1
  obtain ⟨s1, e1, h1, F1⟩ := scan_ok h
  obtain ⟨s2, e2, h2, F2⟩ := seed_ok h1
  rw [e1, Option.bind_some, e2, Option.bind_some]
  have F12 : Fx [] [] [8, 9] [] s s2 := (F1.mono (by simp) (by simp) (by simp) (by simp)).trans (F2.mono (by simp) (by simp) (by simp) (by simp))
  refine lp (fun N (_ : Unit) v s => k_runInside_10 N v s) (fun _ t => Et n E R t ∧ Fx [] [] [8, 9] [] s t) (fun o => ∃ s', o = some s' ∧ Et n E R s' ∧ Fx [] [] [8, 9] [] s s') n ?_ ?_ n 0 BIG () s2 (by omega) (by unfold BIG; omega) ⟨h2, F12⟩
  · rintro N k _ t hk ⟨ht, F⟩
    obtain ⟨t', e, ht', F'⟩ := ins_row (fun v1 s => k_runInside_10 N v1 s) (show k < 8 by omega) k BIG t (by omega) (by unfold BIG; omega) ht
    refine ⟨(), t', ?_, ht', F.trans F'⟩
    show k_runInside_10 (N + 1) _ _ = k_runInside_10 N _ _
    rw [k_runInside_10, ht.1.2.2.1, if_pos ((ofNat_lt (by omega) (by omega)).mpr hk), e]
  · rintro N _ t ⟨ht, F⟩
    show ∃ s', k_runInside_10 (N + 1) _ _ = _ ∧ _
    rw [k_runInside_10, ht.1.2.2.1, if_neg (fun z => by have := (ofNat_lt (by omega) (by omega)).mp z; omega)]
    exact ⟨t, rfl, ht, F⟩
end
section
variable {n E R : Nat}
theorem seedRest_ok {s : S} (h : Et n E R s) {r : Nat} (hr : r < R) : ∃ s', k_seedRest (Int32.ofNat r) s = some s' ∧ Et n E R s' ∧ Fx [] [] [10] [] s s' := by
  unfold k_seedRest
  have n8 := h.1.2.2.2.2.2.2.1
  have r12 := h.1.2.2.2.2.2.2.2.2.1
  obtain ⟨l, l3, el⟩ := h.1.2.2.2.2.2.2.2.2.2.1 r (by omega)
  rw [ix_ofNat _ (by omega), el, Option.bind_some]
  refine lp (fun N (_ : Unit) v s => k_seedRest_9 N (Int32.ofNat r) (Int32.ofNat l) v s) (fun _ t => Et n E R t ∧ Fx [] [] [10] [] s t) (fun o => ∃ s', o = some s' ∧ Et n E R s' ∧ Fx [] [] [10] [] s s') n ?_ ?_ n 0 BIG () s (by omega) (by unfold BIG; omega) ⟨h, Fx.refl ..⟩
  · rintro N k _ t hk ⟨ht, F⟩
    obtain ⟨x, t', e, ht', F'⟩ := lrest ht (Int32.ofNat r) (Int32.ofNat l) (Int32.ofNat k) (Int32.ofNat k) 0
    refine ⟨(), t', ?_, ht', F.trans F'⟩
    show k_seedRest_9 (N + 1) _ _ _ _ = k_seedRest_9 N _ _ _ _
    rw [k_seedRest_9, ht.1.2.2.1, if_pos ((ofNat_lt (by omega) (by omega)).mpr hk), e, Option.bind_some, ofNat_succ]
  · rintro N _ t ⟨ht, F⟩
    show ∃ s', k_seedRest_9 (N + 1) _ _ _ _ = _ ∧ _
    rw [k_seedRest_9, ht.1.2.2.1, if_neg (fun z => by have := (ofNat_lt (by omega) (by omega)).mp z; omega)]
    exact ⟨t, rfl, ht, F⟩
theorem restAt_ok {s : S} (h : Et n E R s) (v1 v2 : Int32) {u v : Nat} (hu : u ≤ v) (hv : v < 8) : ∃ w, k_restAt v1 v2 (Int32.ofNat u) (Int32.ofNat v) s = some w := by
  unfold k_restAt
  obtain ⟨x, ex⟩ := sym_ok h.1.1 v1 v2
  rw [ex, Option.bind_some]
  refine lp (fun N (c : Int32) k s => k_restAt_17 N v1 v2 (Int32.ofNat u) (Int32.ofNat v) x c k s) (fun c t => t = s) (fun o => ∃ w, o = some w) (v + 1) ?_ ?_ (v + 1 - u) u BIG _ s (by omega) (by unfold BIG; omega) rfl
  · rintro N k c t hk rfl
    obtain ⟨a, ea, ha⟩ := gspan h x (Int32.ofNat u) (Int32.ofNat k)
    obtain ⟨b, eb⟩ := grest h v1 (v2 + 1) (Int32.ofNat k) (Int32.ofNat v)
    refine ⟨(if (k_plus a b t) < c then (k_plus a b t) else c), t, ?_, rfl⟩
    show k_restAt_17 (N + 1) _ _ _ _ _ _ _ _ = k_restAt_17 N _ _ _ _ _ _ _ _
    rw [k_restAt_17, if_neg (fun z => by have := (ofNat_lt (by omega) (by omega)).mp z; omega), ea, Option.bind_some, eb, Option.bind_some, ofNat_succ]
  · rintro N c t rfl
    show ∃ w, k_restAt_17 (N + 1) _ _ _ _ _ _ _ _ = _
    rw [k_restAt_17, if_pos ((ofNat_lt (by omega) (by omega)).mpr (by omega))]
    exact ⟨c, rfl⟩
theorem fill_in (K : Int32 → Int32 → Int32 → S → Option S) {s : S} (h : Et n E R s) (v1 v2 : Int32) {u : Nat} (hu : u < n) : ∃ s', k_fillRestLevel_13 K BIG v1 v2 (Int32.ofNat u) (Int32.ofNat u) s = K v1 v2 (Int32.ofNat (u + 1)) s' ∧ Et n E R s' ∧ Fx [] [] [10] [] s s' := by
  have n8 := h.1.2.2.2.2.2.2.1
  refine lp (fun N (c : Unit) v s => k_fillRestLevel_13 K N v1 v2 (Int32.ofNat u) v s) (fun _ t => Et n E R t ∧ Fx [] [] [10] [] s t) (fun o => ∃ s', o = K v1 v2 (Int32.ofNat (u + 1)) s' ∧ Et n E R s' ∧ Fx [] [] [10] [] s s') n ?_ ?_ (n - u) u BIG () s (by omega) (by unfold BIG; omega) ⟨h, Fx.refl ..⟩
  · rintro N k c t hk ⟨ht, F⟩
    rcases Nat.lt_or_ge k u with q | q
    · obtain ⟨w, ew⟩ : ∃ w, k_restAt v1 v2 (Int32.ofNat u) (Int32.ofNat k) t = some w := by
        unfold k_restAt
        obtain ⟨x, ex⟩ := sym_ok ht.1.1 v1 v2
        rw [ex, Option.bind_some, show BIG = 999999 + 1 from rfl, k_restAt_17, if_pos ((ofNat_lt (by omega) (by omega)).mpr q)]
        exact ⟨_, rfl⟩
      obtain ⟨x, t', e, ht', F'⟩ := lrest ht v1 v2 (Int32.ofNat u) (Int32.ofNat k) w
      refine ⟨c, t', ?_, ht', F.trans F'⟩
      show k_fillRestLevel_13 K (N + 1) _ _ _ _ _ = k_fillRestLevel_13 K N _ _ _ _ _
      rw [k_fillRestLevel_13, ht.1.2.2.1, if_pos ((ofNat_lt (by omega) (by omega)).mpr hk), ew, Option.bind_some, e, Option.bind_some, ofNat_succ]
    · obtain ⟨w, ew⟩ := restAt_ok ht v1 v2 q (show k < 8 by omega)
      obtain ⟨x, t', e, ht', F'⟩ := lrest ht v1 v2 (Int32.ofNat u) (Int32.ofNat k) w
      refine ⟨c, t', ?_, ht', F.trans F'⟩
      show k_fillRestLevel_13 K (N + 1) _ _ _ _ _ = k_fillRestLevel_13 K N _ _ _ _ _
      rw [k_fillRestLevel_13, ht.1.2.2.1, if_pos ((ofNat_lt (by omega) (by omega)).mpr hk), ew, Option.bind_some, e, Option.bind_some, ofNat_succ]
  · rintro N _ t ⟨ht, F⟩
    show ∃ s', k_fillRestLevel_13 K (N + 1) _ _ _ _ _ = _ ∧ _
    rw [k_fillRestLevel_13, ht.1.2.2.1, if_neg (fun z => by have := (ofNat_lt (by omega) (by omega)).mp z; omega), ofNat_succ]
    exact ⟨t, rfl, ht, F⟩
theorem fill_ok {s : S} (h : Et n E R s) (v1 v2 : Int32) : ∃ s', k_fillRestLevel v1 v2 s = some s' ∧ Et n E R s' ∧ Fx [] [] [10] [] s s' := by
  unfold k_fillRestLevel
  have n8 := h.1.2.2.2.2.2.2.1
  refine lp (fun N (_ : Unit) v s => k_fillRestLevel_2 N v1 v2 v s) (fun _ t => Et n E R t ∧ Fx [] [] [10] [] s t) (fun o => ∃ s', o = some s' ∧ Et n E R s' ∧ Fx [] [] [10] [] s s') n ?_ ?_ n 0 BIG () s (by omega) (by unfold BIG; omega) ⟨h, Fx.refl ..⟩
  · rintro N k _ t hk ⟨ht, F⟩
    obtain ⟨t', e, ht', F'⟩ := fill_in (fun v1 v2 v3 s => k_fillRestLevel_2 N v1 v2 v3 s) ht v1 v2 hk
    refine ⟨(), t', ?_, ht', F.trans F'⟩
    show k_fillRestLevel_2 (N + 1) _ _ _ _ = k_fillRestLevel_2 N _ _ _ _
    rw [k_fillRestLevel_2, ht.1.2.2.1, if_pos ((ofNat_lt (by omega) (by omega)).mpr hk), e]
  · rintro N _ t ⟨ht, F⟩
    show ∃ s', k_fillRestLevel_2 (N + 1) _ _ _ _ = _ ∧ _
    rw [k_fillRestLevel_2, ht.1.2.2.1, if_neg (fun z => by have := (ofNat_lt (by omega) (by omega)).mp z; omega)]
    exact ⟨t, rfl, ht, F⟩
theorem rest_lv (K : Int32 → S → Option S) (r : Nat) : ∀ d N s, d ≤ 3 → d < N → Et n E R s → ∃ s', k_runRest_26 K N (Int32.ofNat r) (Int32.ofNat d - 1) s = K (Int32.ofNat (r + 1)) s' ∧ Et n E R s' ∧ Fx [] [] [10] [] s s'
  | _, 0, _, _, h, _ => by omega
  | 0, N + 1, s, _, _, h => by
    rw [show Int32.ofNat 0 - 1 = (-1 : Int32) from rfl, k_runRest_26, if_pos (show (-1 : Int32) < 0 by decide), ofNat_succ]
    exact ⟨s, rfl, h, Fx.refl ..⟩
  | d + 1, N + 1, s, h3, hN, h => by
    obtain ⟨t, e, ht, F⟩ := fill_ok h (Int32.ofNat r) (Int32.ofNat d)
    rw [← ofNat_succ, Int32.add_sub_cancel, k_runRest_26, if_neg (ofNat_nonneg (by omega)), e, Option.bind_some]
    have e1 : Int32.ofNat d + (-1) = Int32.ofNat d - 1 := by rw [Int32.sub_eq_add_neg]
    rw [e1]
    obtain ⟨t', e', ht', F'⟩ := rest_lv K r d N t (by omega) (by omega) ht
    exact ⟨t', e', ht', F.trans F'⟩
theorem rest_ok {s : S} (h : Et n E R s) : ∃ s', k_runRest s = some s' ∧ Et n E R s' ∧ Fx [] [] [10] [] s s' := by
  unfold k_runRest
  have r12 := h.1.2.2.2.2.2.2.2.2.1
  refine lp (fun N (_ : Unit) v s => k_runRest_2 N v s) (fun _ t => Et n E R t ∧ Fx [] [] [10] [] s t) (fun o => ∃ s', o = some s' ∧ Et n E R s' ∧ Fx [] [] [10] [] s s') R ?_ ?_ R 0 BIG () s (by omega) (by unfold BIG; omega) ⟨h, Fx.refl ..⟩
  · rintro N k _ t hk ⟨ht, F⟩
    obtain ⟨t1, e1, ht1, F1⟩ := seedRest_ok ht hk
    obtain ⟨l, l3, el⟩ := ht1.1.2.2.2.2.2.2.2.2.2.1 k (by omega)
    obtain ⟨t', e, ht', F'⟩ := rest_lv (fun v1 s => k_runRest_2 N v1 s) k l BIG t1 l3 (by unfold BIG; omega) ht1
    refine ⟨(), t', ?_, ht', (F.trans F1).trans F'⟩
    show k_runRest_2 (N + 1) _ _ = k_runRest_2 N _ _
    rw [k_runRest_2, ht.1.2.2.2.2.1, if_pos ((ofNat_lt (by omega) (by omega)).mpr hk), e1, Option.bind_some, ix_ofNat _ (by omega), el, Option.bind_some, e]
  · rintro N _ t ⟨ht, F⟩
    show ∃ s', k_runRest_2 (N + 1) _ _ = _ ∧ _
    rw [k_runRest_2, ht.1.2.2.2.2.1, if_neg (fun z => by have := (ofNat_lt (by omega) (by omega)).mp z; omega)]
    exact ⟨t, rfl, ht, F⟩
theorem ctx_in (K : Int32 → Int32 → Int32 → Int32 → Int32 → Int32 → Int32 → Int32 → S → Option Int32) {s : S} (h : Et n E R s) (v1 v2 v3 v5 v7 v8 : Int32) {v top : Nat} (hv : v ≤ top) (ht : top < 8) : ∃ c, k_bestContext_34 K BIG v1 v2 v3 (Int32.ofNat v) v5 (Int32.ofNat top) v7 v8 (Int32.ofNat v) s = K v1 v2 v3 (Int32.ofNat v) v5 (Int32.ofNat top) c (v8 + 1) s := by
  refine lp (fun N (c : Int32) k t => k_bestContext_34 K N v1 v2 v3 (Int32.ofNat v) v5 (Int32.ofNat top) c v8 k t) (fun c t => t = s) (fun o => ∃ c, o = K v1 v2 v3 (Int32.ofNat v) v5 (Int32.ofNat top) c (v8 + 1) s) (top + 1) ?_ ?_ (top + 1 - v) v BIG v7 s (by omega) (by unfold BIG; omega) rfl
  · rintro N k c t hk rfl
    obtain ⟨a, ea⟩ := gouter h v5 v8 (Int32.ofNat k)
    obtain ⟨b, eb, _⟩ := gitem h v1 v2 v8 v3
    obtain ⟨d, ed⟩ := grest h v1 (v2 + 1) (Int32.ofNat v) (Int32.ofNat k)
    refine ⟨(if (k_plus3 a b d t) < c then (k_plus3 a b d t) else c), t, ?_, rfl⟩
    show k_bestContext_34 K (N + 1) _ _ _ _ _ _ _ _ _ _ = k_bestContext_34 K N _ _ _ _ _ _ _ _ _ _
    rw [k_bestContext_34, if_neg (fun z => by have := (ofNat_lt (by omega) (by omega)).mp z; omega), ea, Option.bind_some, eb, Option.bind_some, ed, Option.bind_some, ofNat_succ]
  · rintro N c t rfl
    show ∃ c', k_bestContext_34 K (N + 1) _ _ _ _ _ _ _ _ _ _ = _
    rw [k_bestContext_34, if_pos ((ofNat_lt (by omega) (by omega)).mpr (by omega))]
    exact ⟨c, rfl⟩
theorem top_nat (h : 2 ≤ n) : Int32.ofNat n - 1 = Int32.ofNat (n - 1) := by
  obtain ⟨m, rfl⟩ : ∃ m, n = m + 1 := ⟨n - 1, by omega⟩
  rw [← ofNat_succ, Int32.add_sub_cancel]; rfl
theorem ctx_ok {s : S} (h : Et n E R s) (v1 v2 : Int32) {u v : Nat} (hu : u ≤ v) (hv : v < n) : ∃ w, k_bestContext v1 v2 (Int32.ofNat u) (Int32.ofNat v) s = some w := by
  unfold k_bestContext
  have n2 := h.1.2.2.2.2.2.1
  have n8 := h.1.2.2.2.2.2.2.1
  obtain ⟨x, ex⟩ := head_ok h.1.1 v1
  rw [ex, Option.bind_some, h.1.2.2.1, top_nat n2]
  refine lp (fun N (c : Int32) k t => k_bestContext_24 N v1 v2 (Int32.ofNat u) (Int32.ofNat v) x (Int32.ofNat (n - 1)) c k t) (fun c t => t = s) (fun o => ∃ w, o = some w) (u + 1) ?_ ?_ (u + 1) 0 BIG _ s (by omega) (by unfold BIG; omega) rfl
  · rintro N k c t hk rfl
    obtain ⟨c', e⟩ := ctx_in (fun v1 v2 v3 v4 v5 v6 v7 v8 s => k_bestContext_24 N v1 v2 v3 v4 v5 v6 v7 v8 s) h v1 v2 (Int32.ofNat u) x c (Int32.ofNat k) (v := v) (top := n - 1) (by omega) (by omega)
    refine ⟨c', t, ?_, rfl⟩
    show k_bestContext_24 (N + 1) _ _ _ _ _ _ _ _ _ = k_bestContext_24 N _ _ _ _ _ _ _ _ _
    rw [k_bestContext_24, if_neg (fun z => by have := (ofNat_lt (by omega) (by omega)).mp z; omega), e, ofNat_succ]
  · rintro N c t rfl
    show ∃ c', k_bestContext_24 (N + 1) _ _ _ _ _ _ _ _ _ = _
    rw [k_bestContext_24, if_pos ((ofNat_lt (by omega) (by omega)).mpr (by omega))]
    exact ⟨c, rfl⟩
theorem orule_ok {s : S} (h : Et n E R s) {r u v : Nat} (hr : r < R) (hu : u ≤ v) (hv : v < n) : ∃ x s', k_outerRule (Int32.ofNat r) (Int32.ofNat u) (Int32.ofNat v) s = some (x, s') ∧ Et n E R s' ∧ Fx [] [] [11] [] s s' := by
  unfold k_outerRule
  have r12 := h.1.2.2.2.2.2.2.2.2.1
  obtain ⟨l, l3, el⟩ := h.1.2.2.2.2.2.2.2.2.2.1 r (by omega)
  rw [ix_ofNat _ (by omega), el, Option.bind_some]
  refine lp (fun N (c : Int32) k t => k_outerRule_14 N (Int32.ofNat r) (Int32.ofNat u) (Int32.ofNat v) c (Int32.ofNat l) k t) (fun c t => Et n E R t ∧ Fx [] [] [11] [] s t) (fun o => ∃ x s', o = some (x, s') ∧ Et n E R s' ∧ Fx [] [] [11] [] s s') l ?_ ?_ l 0 BIG 0 s (by omega) (by unfold BIG; omega) ⟨h, Fx.refl ..⟩
  · rintro N k c t hk ⟨ht, F⟩
    obtain ⟨w, ew⟩ := ctx_ok ht (Int32.ofNat r) (Int32.ofNat k) hu hv
    obtain ⟨y, ey⟩ := sym_ok ht.1.1 (Int32.ofNat r) (Int32.ofNat k)
    obtain ⟨x, t', e, ht', F'⟩ := louter ht y (Int32.ofNat u) (Int32.ofNat v) w
    refine ⟨(if x = 0 then c else 1), t', ?_, ht', F.trans F'⟩
    show k_outerRule_14 (N + 1) _ _ _ _ _ _ _ = k_outerRule_14 N _ _ _ _ _ _ _
    rw [k_outerRule_14, if_pos ((ofNat_lt (by omega) (by omega)).mpr hk), ew, Option.bind_some, ey, Option.bind_some, e, Option.bind_some, ofNat_succ]
  · rintro N c t ⟨ht, F⟩
    show ∃ x s', k_outerRule_14 (N + 1) _ _ _ _ _ _ _ = _ ∧ _
    rw [k_outerRule_14, if_neg (fun z => by have := (ofNat_lt (by omega) (by omega)).mp z; omega)]
    exact ⟨_, t, rfl, ht, F⟩
theorem oround_ok {s : S} (h : Et n E R s) {u v : Nat} (hu : u ≤ v) (hv : v < n) : ∃ x s', k_outerRound (Int32.ofNat u) (Int32.ofNat v) s = some (x, s') ∧ Et n E R s' ∧ Fx [] [] [11] [] s s' := by
  unfold k_outerRound
  have r12 := h.1.2.2.2.2.2.2.2.2.1
  refine lp (fun N (c : Int32) k t => k_outerRound_5 N (Int32.ofNat u) (Int32.ofNat v) c k t) (fun c t => Et n E R t ∧ Fx [] [] [11] [] s t) (fun o => ∃ x s', o = some (x, s') ∧ Et n E R s' ∧ Fx [] [] [11] [] s s') R ?_ ?_ R 0 BIG 0 s (by omega) (by unfold BIG; omega) ⟨h, Fx.refl ..⟩
  · rintro N k c t hk ⟨ht, F⟩
    obtain ⟨x, t1, e1, ht1, F1⟩ := orule_ok ht hk hu hv
    refine ⟨(if x = 0 then c else 1), t1, ?_, ht1, F.trans F1⟩
    show k_outerRound_5 (N + 1) _ _ _ _ _ = k_outerRound_5 N _ _ _ _ _
    rw [k_outerRound_5, ht.1.2.2.2.2.1, if_pos ((ofNat_lt (by omega) (by omega)).mpr hk), e1, Option.bind_some, ofNat_succ]
  · rintro N c t ⟨ht, F⟩
    show ∃ x s', k_outerRound_5 (N + 1) _ _ _ _ _ = _ ∧ _
    rw [k_outerRound_5, ht.1.2.2.2.2.1, if_neg (fun z => by have := (ofNat_lt (by omega) (by omega)).mp z; omega)]
    exact ⟨_, t, rfl, ht, F⟩
theorem oclose_ok {u v : Nat} (hu : u ≤ v) (hv : v < n) : ∀ j k N c s, k + j = 24 → j < N → Et n E R s → ∃ s', k_closeOuterCell_5 N (Int32.ofNat u) (Int32.ofNat v) c (Int32.ofNat k) s = some s' ∧ Et n E R s' ∧ Fx [] [] [11] [] s s'
  | _, _, 0, _, _, _, h, _ => by omega
  | 0, k, N + 1, c, s, hk, _, h => by
    rw [k_closeOuterCell_5]
    split
    · exact ⟨s, rfl, h, Fx.refl ..⟩
    · rw [if_neg (fun z => by have := (lt_lit (m := 24) (by omega)).mp z; omega)]
      exact ⟨s, rfl, h, Fx.refl ..⟩
  | j + 1, k, N + 1, c, s, hk, hN, h => by
    rw [k_closeOuterCell_5]
    split
    · exact ⟨s, rfl, h, Fx.refl ..⟩
    · obtain ⟨x, t, e, ht, F⟩ := oround_ok h hu hv
      rw [if_pos ((lt_lit (m := 24) (by omega)).mpr (by omega)), e, Option.bind_some, ofNat_succ]
      obtain ⟨t', e', ht', F'⟩ := oclose_ok hu hv j (k + 1) N x t (by omega) (by omega) ht
      exact ⟨t', e', ht', F.trans F'⟩
theorem out_row (K : Int32 → Int32 → S → Option S) {d : Nat} (hd : d ≤ n - 1) (n8 : n ≤ 8) (n2 : 2 ≤ n) {s : S} (h : Et n E R s) : ∃ s', k_runOuter_25 K BIG (Int32.ofNat (n - 1)) (Int32.ofNat d) 0 s = K (Int32.ofNat (n - 1)) (Int32.ofNat d + (-1)) s' ∧ Et n E R s' ∧ Fx [] [] [11] [] s s' := by
  refine lp (fun N (_ : Unit) k t => k_runOuter_25 K N (Int32.ofNat (n - 1)) (Int32.ofNat d) k t) (fun _ t => Et n E R t ∧ Fx [] [] [11] [] s t) (fun o => ∃ s', o = K (Int32.ofNat (n - 1)) (Int32.ofNat d + (-1)) s' ∧ Et n E R s' ∧ Fx [] [] [11] [] s s') (n - d) ?_ ?_ (n - d) 0 BIG () s (by omega) (by unfold BIG; omega) ⟨h, Fx.refl ..⟩
  · rintro N k _ t hk ⟨ht, F⟩
    obtain ⟨t', e, ht', F'⟩ := oclose_ok (show k ≤ k + d by omega) (show k + d < n by omega) 24 0 BIG 1 t (by omega) (by unfold BIG; omega) ht
    refine ⟨(), t', ?_, ht', F.trans F'⟩
    show k_runOuter_25 K (N + 1) _ _ _ _ = k_runOuter_25 K N _ _ _ _
    rw [k_runOuter_25, ofNat_add', if_neg (fun z => by have := (ofNat_lt (by omega) (by omega)).mp z; omega)]
    unfold k_closeOuterCell
    rw [show k_closeOuterCell_5 BIG (Int32.ofNat k) (Int32.ofNat (k + d)) 1 0 t = some t' from e, Option.bind_some, ofNat_succ]
  · rintro N _ t ⟨ht, F⟩
    show ∃ s', k_runOuter_25 K (N + 1) _ _ _ _ = _ ∧ _
    rw [k_runOuter_25, ofNat_add', if_pos ((ofNat_lt (by omega) (by omega)).mpr (by omega))]
    exact ⟨t, rfl, ht, F⟩
theorem out_loop (n8 : n ≤ 8) (n2 : 2 ≤ n) : ∀ d N s, d ≤ n - 1 → d + 1 < N → Et n E R s → ∃ s', k_runOuter_19 N (Int32.ofNat (n - 1)) (Int32.ofNat d) s = some s' ∧ Et n E R s' ∧ Fx [] [] [11] [] s s'
  | _, 0, _, _, h, _ => by omega
  | 0, N + 1, s, hd, hN, h => by
    obtain ⟨t, e, ht, F⟩ := out_row (fun v1 v2 s => k_runOuter_19 N v1 v2 s) hd n8 n2 h
    obtain ⟨N, rfl⟩ : ∃ M, N = M + 1 := ⟨N - 1, by omega⟩
    rw [k_runOuter_19, if_neg (ofNat_nonneg (by omega)), e, show Int32.ofNat 0 + (-1) = (-1 : Int32) from rfl, k_runOuter_19, if_pos (show (-1 : Int32) < 0 by decide)]
    exact ⟨t, rfl, ht, F⟩
  | d + 1, N + 1, s, hd, hN, h => by
    obtain ⟨t, e, ht, F⟩ := out_row (fun v1 v2 s => k_runOuter_19 N v1 v2 s) hd n8 n2 h
    rw [k_runOuter_19, if_neg (ofNat_nonneg (by omega)), e, dec_nat]
    obtain ⟨t', e', ht', F'⟩ := out_loop n8 n2 d N t (by omega) (by omega) ht
    exact ⟨t', e', ht', F.trans F'⟩
theorem outer_ok {s : S} (h : Et n E R s) : ∃ s', k_runOuter s = some s' ∧ Et n E R s' ∧ Fx [] [] [11] [] s s' := by
  unfold k_runOuter
  have n2 := h.1.2.2.2.2.2.1
  have n8 := h.1.2.2.2.2.2.2.1
  obtain ⟨x, t, e, ht, F⟩ := louter h 8 0 (gI s 1 - 1) 0
  obtain ⟨t', e', ht', F'⟩ := out_loop n8 n2 (n - 1) BIG t (by omega) (by unfold BIG; omega) ht
  rw [e, Option.bind_some, h.1.2.2.1, top_nat n2]
  exact ⟨t', e', ht', F.trans F'⟩
end
section
theorem zero_set {N : Nat} {l : List Int32} {x : Int32} {k : Nat} (hl : l.length = N) (hk : k < N) (h : ∀ i, i < k → l[i]? = some x) : ∀ i, i < k + 1 → (l.set k x)[i]? = some x := fun i hi => by
  by_cases q : k = i
  · subst q; exact List.getElem?_set_self (by omega)
  · rw [List.getElem?_set_ne q]; exact h i (by omega)
theorem lpk {Z : Type} (L : Nat → Int32 → S → Option Z) (I : Nat → S → Prop) (Q : Option Z → Prop) (m : Nat) (step : ∀ n k s, k < m → I k s → ∃ s', L (n + 1) (Int32.ofNat k) s = L n (Int32.ofNat (k + 1)) s' ∧ I (k + 1) s') (fin : ∀ n s, I m s → Q (L (n + 1) (Int32.ofNat m) s)) : ∀ j k N s, k + j = m → j < N → I k s → Q (L N (Int32.ofNat k) s)
  | _, _, 0, _, _, h, _ => by omega
  | 0, k, N + 1, s, hk, _, i => by
    have : k = m := by omega
    subst this
    exact fin N s i
  | j + 1, k, N + 1, s, hk, hN, i => by
    obtain ⟨s', e, i'⟩ := step N k s (by omega) i
    rw [e]
    exact lpk L I Q m step fin j (k + 1) N s' (by omega) (by omega) i'
theorem ct37 {s : S} (L : ElenT s) : ∃ s', k_clearTables_35 s = some s' ∧ ElenT s' ∧ Fx [] [] [9, 10] [] s s' ∧ ∀ i, i < 3072 → (gA s' 9)[i]? = some (gI s 0) := by
  unfold k_clearTables_35
  refine lpk k_clearTables_37 (fun k t => ElenT t ∧ Fx [] [] [9, 10] [] s t ∧ ∀ i, i < k → (gA t 9)[i]? = some (gI s 0)) (fun o => ∃ s', o = some s' ∧ ElenT s' ∧ Fx [] [] [9, 10] [] s s' ∧ ∀ i, i < 3072 → (gA s' 9)[i]? = some (gI s 0)) 3072 ?_ ?_ 3072 0 BIG s (by omega) (by unfold BIG; omega) ⟨L, Fx.refl .., fun i hi => by omega⟩
  · rintro N k t hk ⟨Lt, F, Z⟩
    have l9 : (gA t 9).length = 3072 := Lt.2.2.2.2.2.2.2.2.2.1
    have l10 : (gA t 10).length = 3072 := Lt.2.2.2.2.2.2.2.2.2.2.1
    have g0 : gI t 0 = gI s 0 := F.1 0 (by simp)
    refine ⟨sA (sA t 9 ((gA t 9).set k (gI t 0))) 10 ((gA t 10).set k (gI t 0)), ?_, by simpa [ElenT, gA_sA] using Lt, (F.sA (by simp)).sA (by simp), ?_⟩
    · rw [k_clearTables_37, if_pos ((lt_lit (m := 3072) (by omega)).mpr hk), st_ofNat _ _ (by omega) (by omega), Option.bind_some, st_ofNat _ _ (by omega) (by omega), Option.bind_some, ofNat_succ]
    · rw [gA_sA, if_neg (by decide), gA_sA, if_pos rfl, g0]
      exact zero_set l9 hk Z
  · rintro N t ⟨Lt, F, Z⟩
    rw [k_clearTables_37, if_neg (show ¬ Int32.ofNat 3072 < 3072 by decide)]
    exact ⟨t, rfl, Lt, F, Z⟩
theorem ct_ok {s : S} (L : ElenT s) : ∃ s', k_clearTables s = some s' ∧ ElenT s' ∧ Fx [] [] [8, 9, 10, 11] [] s s' ∧ (∀ i, i < 1024 → (gA s' 8)[i]? = some (gI s 0)) ∧ ∀ i, i < 3072 → (gA s' 9)[i]? = some (gI s 0) := by
  unfold k_clearTables
  refine lpk k_clearTables_2 (fun k t => ElenT t ∧ Fx [] [] [8, 11] [] s t ∧ ∀ i, i < k → (gA t 8)[i]? = some (gI s 0)) (fun o => ∃ s', o = some s' ∧ ElenT s' ∧ Fx [] [] [8, 9, 10, 11] [] s s' ∧ (∀ i, i < 1024 → (gA s' 8)[i]? = some (gI s 0)) ∧ ∀ i, i < 3072 → (gA s' 9)[i]? = some (gI s 0)) 1024 ?_ ?_ 1024 0 BIG s (by omega) (by unfold BIG; omega) ⟨L, Fx.refl .., fun i hi => by omega⟩
  · rintro N k t hk ⟨Lt, F, Z⟩
    have l8 : (gA t 8).length = 1024 := Lt.2.2.2.2.2.2.2.2.1
    have l11 : (gA t 11).length = 1024 := Lt.2.2.2.2.2.2.2.2.2.2.2
    have g0 : gI t 0 = gI s 0 := F.1 0 (by simp)
    refine ⟨sA (sA t 8 ((gA t 8).set k (gI t 0))) 11 ((gA t 11).set k (gI t 0)), ?_, by simpa [ElenT, gA_sA] using Lt, (F.sA (by simp)).sA (by simp), ?_⟩
    · rw [k_clearTables_2, if_pos ((lt_lit (m := 1024) (by omega)).mpr hk), st_ofNat _ _ (by omega) (by omega), Option.bind_some, st_ofNat _ _ (by omega) (by omega), Option.bind_some, ofNat_succ]
    · rw [gA_sA, if_neg (by decide), gA_sA, if_pos rfl, g0]
      exact zero_set l8 hk Z
  · rintro N t ⟨Lt, F, Z⟩
    obtain ⟨t', e, Lt', F', Z'⟩ := ct37 Lt
    rw [k_clearTables_2, if_neg (show ¬ Int32.ofNat 1024 < 1024 by decide), e]
    refine ⟨t', rfl, Lt', (F.mono (by simp) (by simp) (by simp) (by simp)).trans (F'.mono (by simp) (by simp) (by simp) (by simp)), ?_, ?_⟩
    · rw [F'.2.2.1 8 (by simp)]; exact Z
    · rw [← F.1 0 (by simp)]; exact Z'
theorem cs93 {s : S} (L : ElenT s) : ∃ s', k_clearStore_91 s = some s' ∧ ElenT s' ∧ Fx [] [] [7] [] s s' := by
  unfold k_clearStore_91
  refine lpk k_clearStore_93 (fun k t => ElenT t ∧ Fx [] [] [7] [] s t) (fun o => ∃ s', o = some s' ∧ ElenT s' ∧ Fx [] [] [7] [] s s') 36 ?_ ?_ 36 0 BIG s (by omega) (by unfold BIG; omega) ⟨L, Fx.refl ..⟩
  · rintro N k t hk ⟨Lt, F⟩
    have l7 : (gA t 7).length = 36 := Lt.2.2.2.2.2.2.2.1
    refine ⟨sA t 7 ((gA t 7).set k 0), ?_, by simpa [ElenT, gA_sA] using Lt, F.sA (by simp)⟩
    rw [k_clearStore_93, if_pos ((lt_lit (m := 36) (by omega)).mpr hk), st_ofNat _ _ (by omega) (by omega), Option.bind_some, ofNat_succ]
  · rintro N t ⟨Lt, F⟩
    rw [k_clearStore_93, if_neg (show ¬ Int32.ofNat 36 < 36 by decide)]
    exact ⟨t, rfl, Lt, F⟩
theorem cs58 {s : S} (L : ElenT s) : ∃ s', k_clearStore_56 s = some s' ∧ ElenT s' ∧ Fx [] [] [4, 5, 6, 7] [] s s' ∧ (∀ i, i < 12 → (gA s' 5)[i]? = some 0) ∧ ∀ i, i < 12 → (gA s' 6)[i]? = some 0 := by
  unfold k_clearStore_56
  refine lpk k_clearStore_58 (fun k t => ElenT t ∧ Fx [] [] [4, 5, 6, 7] [] s t ∧ (∀ i, i < k → (gA t 5)[i]? = some 0) ∧ ∀ i, i < k → (gA t 6)[i]? = some 0) (fun o => ∃ s', o = some s' ∧ ElenT s' ∧ Fx [] [] [4, 5, 6, 7] [] s s' ∧ (∀ i, i < 12 → (gA s' 5)[i]? = some 0) ∧ ∀ i, i < 12 → (gA s' 6)[i]? = some 0) 12 ?_ ?_ 12 0 BIG s (by omega) (by unfold BIG; omega) ⟨L, Fx.refl .., fun i hi => by omega, fun i hi => by omega⟩
  · rintro N k t hk ⟨Lt, F, Z5, Z6⟩
    have l4 : (gA t 4).length = 12 := Lt.2.2.2.2.1
    have l5 : (gA t 5).length = 12 := Lt.2.2.2.2.2.1
    have l6 : (gA t 6).length = 12 := Lt.2.2.2.2.2.2.1
    refine ⟨sA (sA (sA t 4 ((gA t 4).set k 0)) 5 ((gA t 5).set k 0)) 6 ((gA t 6).set k 0), ?_, by simpa [ElenT, gA_sA] using Lt, ((F.sA (by simp)).sA (by simp)).sA (by simp), ?_, ?_⟩
    · rw [k_clearStore_58, if_pos ((lt_lit (m := 12) (by omega)).mpr hk), st_ofNat _ _ (by omega) (by omega), Option.bind_some, st_ofNat _ _ (by omega) (by omega), Option.bind_some, st_ofNat _ _ (by omega) (by omega), Option.bind_some, ofNat_succ]
    · rw [gA_sA, if_neg (by decide), gA_sA, if_pos rfl]; exact zero_set l5 hk Z5
    · rw [gA_sA, if_pos rfl]; exact zero_set l6 hk Z6
  · rintro N t ⟨Lt, F, Z5, Z6⟩
    obtain ⟨t', e, Lt', F'⟩ := cs93 Lt
    rw [k_clearStore_58, if_neg (show ¬ Int32.ofNat 12 < 12 by decide), e]
    exact ⟨t', rfl, Lt', F.trans (F'.mono (by simp) (by simp) (by simp) (by simp)), by rw [F'.2.2.1 5 (by simp)]; exact Z5, by rw [F'.2.2.1 6 (by simp)]; exact Z6⟩
theorem cs16 {s : S} (L : ElenT s) : ∃ s', k_clearStore_16 BIG 0 s = some s' ∧ ElenT s' ∧ Fx [] [] [0, 1, 2, 3, 4, 5, 6, 7] [] s s' ∧ (∀ i, i < 16 → (gA s' 3)[i]? = some 0) ∧ (∀ i, i < 12 → (gA s' 5)[i]? = some 0) ∧ ∀ i, i < 12 → (gA s' 6)[i]? = some 0 := by
  refine lpk k_clearStore_16 (fun k t => ElenT t ∧ Fx [] [] [0, 1, 2, 3] [] s t ∧ (∀ i, i < k → (gA t 3)[i]? = some 0)) (fun o => ∃ s', o = some s' ∧ ElenT s' ∧ Fx [] [] [0, 1, 2, 3, 4, 5, 6, 7] [] s s' ∧ (∀ i, i < 16 → (gA s' 3)[i]? = some 0) ∧ (∀ i, i < 12 → (gA s' 5)[i]? = some 0) ∧ ∀ i, i < 12 → (gA s' 6)[i]? = some 0) 16 ?_ ?_ 16 0 BIG s (by omega) (by unfold BIG; omega) ⟨L, Fx.refl .., fun i hi => by omega⟩
  · rintro N k t hk ⟨Lt, F, Z⟩
    have l0 : (gA t 0).length = 16 := Lt.1
    have l1 : (gA t 1).length = 16 := Lt.2.1
    have l2 : (gA t 2).length = 16 := Lt.2.2.1
    have l3 : (gA t 3).length = 16 := Lt.2.2.2.1
    refine ⟨sA (sA (sA (sA t 0 ((gA t 0).set k 0)) 1 ((gA t 1).set k 0)) 2 ((gA t 2).set k 0)) 3 ((gA t 3).set k 0), ?_, by simpa [ElenT, gA_sA] using Lt, (((F.sA (by simp)).sA (by simp)).sA (by simp)).sA (by simp), ?_⟩
    · rw [k_clearStore_16, if_pos ((lt_lit (m := 16) (by omega)).mpr hk), st_ofNat _ _ (by omega) (by omega), Option.bind_some, st_ofNat _ _ (by omega) (by omega), Option.bind_some, st_ofNat _ _ (by omega) (by omega), Option.bind_some, st_ofNat _ _ (by omega) (by omega), Option.bind_some, ofNat_succ]
    · rw [gA_sA, if_pos rfl]; exact zero_set l3 hk Z
  · rintro N t ⟨Lt, F, Z⟩
    obtain ⟨t', e, Lt', F', Z5, Z6⟩ := cs58 Lt
    rw [k_clearStore_16, if_neg (show ¬ Int32.ofNat 16 < 16 by decide), e]
    exact ⟨t', rfl, Lt', (F.mono (by simp) (by simp) (by simp) (by simp)).trans (F'.mono (by simp) (by simp) (by simp) (by simp)), by rw [F'.2.2.1 3 (by simp)]; exact Z, Z5, Z6⟩
theorem NB0 : NB 0 := ⟨by decide, by decide⟩
theorem reset_Es {n : Nat} {s : S} (L : ElenT s) (g0 : gI s 0 = 1073741824) (g1 : gI s 1 = Int32.ofNat n) (n2 : 2 ≤ n) (n8 : n ≤ 8) : ∃ s', k_reset s = some s' ∧ Es n 0 0 s' ∧ gI s' 4 = 0 ∧ gI s' 5 = -1 := by
  unfold k_reset k_clearStore k_becomeBuilding
  obtain ⟨X, hX⟩ : ∃ X, X = sI (sI (sI (sI s 2 0) 3 0) 4 0) 5 (-1) := ⟨_, rfl⟩
  rw [← hX]
  have LX : ElenT X := by rw [hX]; simpa [ElenT, gA_sI] using L
  have x0 : gI X 0 = 1073741824 := by rw [hX]; simp [gI_sI, g0]
  have x1 : gI X 1 = Int32.ofNat n := by rw [hX]; simp [gI_sI, g1]
  have x2 : gI X 2 = 0 := by rw [hX]; simp [gI_sI]
  have x3 : gI X 3 = 0 := by rw [hX]; simp [gI_sI]
  have x4 : gI X 4 = 0 := by rw [hX]; simp [gI_sI]
  have x5 : gI X 5 = -1 := by rw [hX]; simp [gI_sI]
  obtain ⟨t, et, Lt, F, Z3, Z5, Z6⟩ := cs16 LX
  obtain ⟨u, eu, Lu, G, _, _⟩ := ct_ok Lt
  rw [et, Option.bind_some, eu, Option.bind_some]
  have gi : ∀ f, gI u f = gI X f := fun f => by rw [G.1 f (by simp), F.1 f (by simp)]
  refine ⟨u, rfl, ⟨Lu, by rw [gi, x0], by rw [gi, x1], by rw [gi, x2]; rfl, by rw [gi, x3]; rfl, n2, n8, by omega, by omega, ?_, ?_, ?_⟩, by rw [gi, x4], by rw [gi, x5]⟩
  · intro i hi; exact ⟨0, by omega, by rw [G.2.2.1 6 (by simp)]; exact Z6 i hi⟩
  · intro i hi; exact ⟨0, NB0, by rw [G.2.2.1 3 (by simp)]; exact Z3 i hi⟩
  · intro i hi; exact ⟨0, NB0, by rw [G.2.2.1 5 (by simp)]; exact Z5 i hi⟩
theorem clamp_n (v : Int32) : ∃ n, 2 ≤ n ∧ n ≤ 8 ∧ k_clampNodes v = Int32.ofNat n := by
  unfold k_clampNodes
  by_cases a : v < 2
  · rw [if_pos a]; exact ⟨2, by omega, by omega, rfl⟩
  · rw [if_neg a]
    by_cases b : (8 : Int32) < v
    · rw [if_pos b]; exact ⟨8, by omega, by omega, rfl⟩
    · rw [if_neg b]
      have h0 : ¬ v < 0 := by
        intro q
        rw [Int32.lt_iff_toInt_lt] at q a
        have : (0 : Int32).toInt = 0 := rfl
        have : (2 : Int32).toInt = 2 := rfl
        omega
      obtain ⟨e, hl⟩ := eq_ofNat h0
      rw [e] at a b
      have a' : ¬ v.toNatClampNeg < 2 := fun z => a ((lt_lit (m := 2) hl).mpr z)
      have b' : ¬ 8 < v.toNatClampNeg := fun z => b (by rw [show (8 : Int32) = Int32.ofNat 8 from rfl]; exact (ofNat_lt (by omega) hl).mpr z)
      exact ⟨v.toNatClampNeg, by omega, by omega, e⟩
theorem init_Es (v : Int32) : ∃ n s, 2 ≤ n ∧ n ≤ 8 ∧ k_clampNodes v = Int32.ofNat n ∧ k_init v = some s ∧ Es n 0 0 s ∧ gI s 4 = 0 ∧ gI s 5 = -1 := by
  obtain ⟨n, n2, n8, en⟩ := clamp_n v
  obtain ⟨Y, hY⟩ : ∃ Y, Y = sI (sA (sA (sA (sA (sA (sA (sA (sA (sA (sA (sA (sA (sI s0 0 (1073741824 : Int32)) 0 (rep 16 0)) 1 (rep 16 0)) 2 (rep 16 0)) 3 (rep 16 0)) 4 (rep 12 0)) 5 (rep 12 0)) 6 (rep 12 0)) 7 (rep 36 0)) 8 (rep 1024 0)) 9 (rep 3072 0)) 10 (rep 3072 0)) 11 (rep 1024 0)) 1 (k_clampNodes v) := ⟨_, rfl⟩
  have LY : ElenT Y := by rw [hY]; simp [ElenT, gA_sI, gA_sA, rep_length]
  have y0 : gI Y 0 = 1073741824 := by rw [hY]; simp [gI_sI, gI_sA]
  have y1 : gI Y 1 = Int32.ofNat n := by rw [hY]; simp [gI_sI, en]
  obtain ⟨s, es, h, h4, h5⟩ := reset_Es LY y0 y1 n2 n8
  refine ⟨n, s, n2, n8, en, ?_, h, h4, h5⟩
  unfold k_init
  rw [← hY]
  unfold k_reset at es
  exact es
theorem node_yes {n : Nat} {s : S} (h1 : gI s 1 = Int32.ofNat n) {u : Nat} (hu : u < n) (n8 : n ≤ 8) : k_isNode (Int32.ofNat u) s = 1 := by
  unfold k_isNode
  rw [if_neg (ofNat_nonneg (by omega)), h1, if_pos ((ofNat_lt (by omega) (by omega)).mpr hu)]
theorem slot_top {n : Nat} {s : S} (h1 : gI s 1 = Int32.ofNat n) (n2 : 2 ≤ n) (n8 : n ≤ 8) : k_spanSlot 8 0 (Int32.ofNat (n - 1)) s = Int32.ofNat (512 + (n - 1)) := by
  have a := node_yes h1 (u := 0) (by omega) n8
  have b := node_yes h1 (u := n - 1) (by omega) n8
  unfold k_spanSlot
  rw [show k_isCode 8 = 1 by decide, if_neg (show ¬ (1 : Int32) = 0 by decide), show k_isNode 0 s = 1 from a, if_neg (show ¬ (1 : Int32) = 0 by decide), b, if_neg (show ¬ (1 : Int32) = 0 by decide), ← ofNat_add']
  rfl
theorem sw_top {n : Nat} {s : S} (h1 : gI s 1 = Int32.ofNat n) (n2 : 2 ≤ n) (n8 : n ≤ 8) (h4 : ¬ gI s 4 = 0) {w : Int32} (hw : (gA s 8)[512 + (n - 1)]? = some w) : k_spanWeight 8 0 (Int32.ofNat (n - 1)) s = some (k_answer w s) := by
  have a := node_yes h1 (u := 0) (by omega) n8
  have b := node_yes h1 (u := n - 1) (by omega) n8
  unfold k_spanWeight k_getSpan
  rw [if_neg h4, show k_isCode 8 = 1 by decide, if_neg (show ¬ (1 : Int32) = 0 by decide), show k_isNode 0 s = 1 from a, if_neg (show ¬ (1 : Int32) = 0 by decide), b, if_neg (show ¬ (1 : Int32) = 0 by decide), if_neg (ofNat_nonneg (by omega)), slot_top h1 n2 n8, if_neg (ofNat_nonneg (by omega)), ix_ofNat _ (by omega), hw, Option.bind_some, Option.bind_some]
theorem parse_ok {n E R : Nat} {s : S} (h : Es n E R s) : ∃ b w s', k_parse s = some (b, s') ∧ Es n E R s' ∧ Fx [4, 5] [] [8, 9, 10, 11] [] s s' ∧ ((b = 1 ∧ ¬ w < 0 ∧ w < 1073741824 ∧ gI s' 4 = 1 ∧ gI s' 5 = w ∧ k_spanWeight 8 0 (Int32.ofNat (n - 1)) s' = some w) ∨ (b = 0 ∧ gI s' 4 = 2 ∧ gI s' 5 = -1 ∧ k_spanWeight 8 0 (Int32.ofNat (n - 1)) s' = some (-1))) := by
  obtain ⟨L, g0, g1, g2, g3, n2, n8, e16, r12, a6, a3, a5⟩ := id h
  unfold k_parse
  obtain ⟨s1, e1, L1, F1, Z8, Z9⟩ := ct_ok L
  rw [g0] at Z8 Z9
  have h1 : Et n E R s1 := ⟨h.fx (F1.mono (by simp) (by simp) (by simp) (by simp)) L1, fun i hi => ⟨_, NB_inf, Z8 i hi⟩, fun i hi => ⟨_, NB_inf, Z9 i hi⟩⟩
  obtain ⟨s2, e2, h2, F2⟩ := inside_ok h1
  have k0 : gI s2 0 = 1073741824 := h2.1.2.1
  have k1 : gI s2 1 = Int32.ofNat n := h2.1.2.2.1
  obtain ⟨w, hw, ew⟩ := h2.2.1 (512 + (n - 1)) (by omega)
  have eg : k_getSpan 8 0 (gI s2 1 - 1) s2 = some w := by
    unfold k_getSpan
    rw [k1, top_nat n2, slot_top k1 n2 n8, if_neg (ofNat_nonneg (by omega)), ix_ofNat _ (by omega), ew, Option.bind_some]
  have F12 : Fx [4, 5] [] [8, 9, 10, 11] [] s s2 := (F1.mono (by simp) (by simp) (by simp) (by simp)).trans (F2.mono (by simp) (by simp) (by simp) (by simp))
  rw [e1, Option.bind_some, e2, Option.bind_some, eg, Option.bind_some, k0]
  by_cases c : w < 1073741824
  · rw [if_pos c]
    obtain ⟨t, ht⟩ : ∃ t, t = sI (sI s2 4 1) 5 w := ⟨_, rfl⟩
    rw [← ht]
    have Ft : Fx [4, 5] [] [8, 9, 10, 11] [] s2 t := by rw [ht]; exact ((Fx.refl ..).sI (by simp)).sI (by simp)
    have tA : ∀ f, gA t f = gA s2 f := fun f => by rw [ht]; simp [gA_sI]
    have h3 : Et n E R t := ⟨h2.1.fx Ft (by have := h2.1.1; unfold ElenT at this ⊢; simp only [tA]; exact this), by rw [tA]; exact h2.2.1, by rw [tA]; exact h2.2.2⟩
    obtain ⟨s4, e4, h4, F4⟩ := rest_ok h3
    obtain ⟨s5, e5, h5, F5⟩ := outer_ok h4
    have st : gI s5 4 = 1 := by rw [F5.1 4 (by simp), F4.1 4 (by simp), ht]; simp [gI_sI]
    have bt : gI s5 5 = w := by rw [F5.1 5 (by simp), F4.1 5 (by simp), ht]; simp [gI_sI]
    have sp : (gA s5 8)[512 + (n - 1)]? = some w := by rw [F5.2.2.1 8 (by simp), F4.2.2.1 8 (by simp), tA]; exact ew
    unfold k_parse_63
    rw [e4, Option.bind_some, e5, Option.bind_some, st, if_pos rfl]
    refine ⟨1, w, s5, rfl, h5.1, (F12.trans Ft).trans ((F4.mono (by simp) (by simp) (by simp) (by simp)).trans (F5.mono (by simp) (by simp) (by simp) (by simp))), Or.inl ⟨rfl, hw.1, c, st, bt, ?_⟩⟩
    rw [sw_top h5.1.2.2.1 n2 n8 (by rw [st]; decide) sp]
    unfold k_answer
    rw [h5.1.2.1, if_pos c, if_neg hw.1]
  · rw [if_neg c]
    obtain ⟨t, ht⟩ : ∃ t, t = sI (sI s2 4 2) 5 (-1) := ⟨_, rfl⟩
    rw [← ht]
    have Ft : Fx [4, 5] [] [8, 9, 10, 11] [] s2 t := by rw [ht]; exact ((Fx.refl ..).sI (by simp)).sI (by simp)
    have tA : ∀ f, gA t f = gA s2 f := fun f => by rw [ht]; simp [gA_sI]
    have h3 : Es n E R t := h2.1.fx Ft (by have := h2.1.1; unfold ElenT at this ⊢; simp only [tA]; exact this)
    have st : gI t 4 = 2 := by rw [ht]; simp [gI_sI]
    have bt : gI t 5 = -1 := by rw [ht]; simp [gI_sI]
    unfold k_parse_63
    rw [st, if_neg (show ¬ (2 : Int32) = 1 by decide)]
    refine ⟨0, w, t, rfl, h3, F12.trans Ft, Or.inr ⟨rfl, st, bt, ?_⟩⟩
    rw [sw_top h3.2.2.1 n2 n8 (by rw [st]; decide) (by rw [tA]; exact ew)]
    unfold k_answer
    rw [h3.2.1, if_neg c]
end
/-- two tables, the second nowhere above the first -/
def T (N : Nat) (l l' : List Int32) : Prop := l.length = N ∧ l'.length = N ∧ ∀ i, i < N → ∃ a b, b ≤ a ∧ a ≤ 1073741824 ∧ l[i]? = some (Int32.ofNat a) ∧ l'[i]? = some (Int32.ofNat b)
theorem on_inj {a b : Nat} (ha : a ≤ 1073741824) (hb : b ≤ 1073741824) (e : Int32.ofNat a = Int32.ofNat b) : a = b := by
  have q := congrArg Int32.toNatClampNeg e
  rwa [ofNat_clamp (by omega), ofNat_clamp (by omega)] at q
theorem T.trans {N : Nat} {l m o : List Int32} (h : T N l m) (k : T N m o) : T N l o := by
  refine ⟨h.1, k.2.1, fun i hi => ?_⟩
  obtain ⟨a, b, h1, h2, h3, h4⟩ := h.2.2 i hi
  obtain ⟨c, d, k1, k2, k3, k4⟩ := k.2.2 i hi
  rw [h4] at k3
  have e := on_inj (by omega) k2 (Option.some.inj k3)
  exact ⟨a, d, by omega, h2, h3, k4⟩
theorem T.left {N : Nat} {l m : List Int32} (h : T N l m) : T N l l := ⟨h.1, h.1, fun i hi => by
  obtain ⟨a, b, h1, h2, h3, h4⟩ := h.2.2 i hi
  exact ⟨a, a, by omega, h2, h3, h3⟩⟩
theorem T.right {N : Nat} {l m : List Int32} (h : T N l m) : T N m m := ⟨h.2.1, h.2.1, fun i hi => by
  obtain ⟨a, b, h1, h2, h3, h4⟩ := h.2.2 i hi
  exact ⟨b, b, by omega, by omega, h4, h4⟩⟩
theorem T.set {N : Nat} {l l' : List Int32} (h : T N l l') {i a b : Nat} (hi : i < N) (hb : b ≤ a) (ha : a ≤ 1073741824) : T N (l.set i (Int32.ofNat a)) (l'.set i (Int32.ofNat b)) := by
  refine ⟨by rw [List.length_set]; exact h.1, by rw [List.length_set]; exact h.2.1, fun j hj => ?_⟩
  by_cases c : i = j
  · subst c
    exact ⟨a, b, hb, ha, List.getElem?_set_self (by rw [h.1]; exact hi), List.getElem?_set_self (by rw [h.2.1]; exact hi)⟩
  · rw [List.getElem?_set_ne c, List.getElem?_set_ne c]; exact h.2.2 j hj
theorem set_same {l : List Int32} {i : Nat} {x : Int32} (e : l[i]? = some x) : l.set i x = l := by
  apply List.ext_getElem?
  intro j
  by_cases c : i = j
  · subst c
    rw [List.getElem?_set_self (by
      by_cases d : i < l.length
      · exact d
      · rw [List.getElem?_eq_none (by omega)] at e; cases e), e]
  · rw [List.getElem?_set_ne c]
def gl (f : Nat) (sl w : Int32) (s : S) : Option (Int32 × S) := if sl < 0 then some ((0 : Int32), s) else (ix (gA s f) sl).bind fun a => if w < a then (Jvm.AM.st (gA s f) sl w).bind fun l => some ((1 : Int32), sA s f l) else some ((0 : Int32), s)
def gg (f : Nat) (sl : Int32) (s : S) : Option Int32 := if sl < 0 then some (gI s 0) else (ix (gA s f) sl).bind fun a => some a
theorem ls_gl (v1 v2 v3 w : Int32) (s : S) : k_lowerSpan v1 v2 v3 w s = gl 8 (k_spanSlot v1 v2 v3 s) w s := rfl
theorem li_gl (v1 v2 v3 v4 w : Int32) (s : S) : k_lowerItem v1 v2 v3 v4 w s = gl 9 (k_itemSlot v1 v2 v3 v4 s) w s := rfl
theorem lr_gl (v1 v2 v3 v4 w : Int32) (s : S) : k_lowerRest v1 v2 v3 v4 w s = gl 10 (k_itemSlot v1 v2 v3 v4 s) w s := rfl
theorem lo_gl (v1 v2 v3 w : Int32) (s : S) : k_lowerOuter v1 v2 v3 w s = gl 11 (k_spanSlot v1 v2 v3 s) w s := rfl
theorem gs_gg (v1 v2 v3 : Int32) (s : S) : k_getSpan v1 v2 v3 s = gg 8 (k_spanSlot v1 v2 v3 s) s := rfl
theorem gi_gg (v1 v2 v3 v4 : Int32) (s : S) : k_getItem v1 v2 v3 v4 s = gg 9 (k_itemSlot v1 v2 v3 v4 s) s := rfl
theorem gr_gg (v1 v2 v3 v4 : Int32) (s : S) : k_getRest v1 v2 v3 v4 s = gg 10 (k_itemSlot v1 v2 v3 v4 s) s := rfl
theorem go_gg (v1 v2 v3 : Int32) (s : S) : k_getOuter v1 v2 v3 s = gg 11 (k_spanSlot v1 v2 v3 s) s := rfl
theorem gl_at {f i a w : Nat} {s : S} (hi : i < 4000) (hl : i < (gA s f).length) (e : (gA s f)[i]? = some (Int32.ofNat a)) (ha : a ≤ 1073741824) (hw : w ≤ 1073741824) : ∃ x s', gl f (Int32.ofNat i) (Int32.ofNat w) s = some (x, s') ∧ Fx [] [] [f] [] s s' ∧ gA s' f = (gA s f).set i (Int32.ofNat (min w a)) := by
  unfold gl
  rw [if_neg (ofNat_nonneg (by omega)), ix_ofNat _ (by omega), e, Option.bind_some, st_ofNat _ _ (by omega) hl, Option.bind_some]
  by_cases c : w < a
  · rw [if_pos ((ofNat_lt (by omega) (by omega)).mpr c), Nat.min_eq_left (by omega)]
    exact ⟨_, _, rfl, (Fx.refl ..).sA (by simp), by rw [gA_sA, if_pos rfl]⟩
  · rw [if_neg (fun z => c ((ofNat_lt (by omega) (by omega)).mp z)), Nat.min_eq_right (by omega), set_same e]
    exact ⟨_, _, rfl, Fx.refl .., rfl⟩
theorem gl_z {f : Nat} {sl w x : Int32} {s s' : S} (e : gl f sl w s = some (x, s')) : (x = 0 ∨ x = 1) ∧ (x = 0 → s' = s) := by
  unfold gl at e
  split at e
  · cases e; exact ⟨Or.inl rfl, fun _ => rfl⟩
  · obtain ⟨a, _, e⟩ := Option.bind_eq_some_iff.mp e
    split at e
    · obtain ⟨l, _, e⟩ := Option.bind_eq_some_iff.mp e
      cases e; exact ⟨Or.inr rfl, fun z => absurd z (by decide)⟩
    · cases e; exact ⟨Or.inl rfl, fun _ => rfl⟩
def sz (f : Nat) : Nat := if f = 8 then 1024 else if f = 11 then 1024 else 3072
/-- the store of t begins as that of s -/
def Sub (E R : Nat) (s t : S) : Prop := (∀ i, i < E → (gA t 0)[i]? = (gA s 0)[i]? ∧ (gA t 1)[i]? = (gA s 1)[i]? ∧ (gA t 2)[i]? = (gA s 2)[i]? ∧ (gA t 3)[i]? = (gA s 3)[i]?) ∧ (∀ i, i < R → (gA t 4)[i]? = (gA s 4)[i]? ∧ (gA t 5)[i]? = (gA s 5)[i]? ∧ (gA t 6)[i]? = (gA s 6)[i]?) ∧ ∀ i, i < 3 * R → (gA t 7)[i]? = (gA s 7)[i]?
def M (n E R E' R' : Nat) (s t : S) : Prop := Es n E R s ∧ Es n E' R' t ∧ E ≤ E' ∧ R ≤ R' ∧ Sub E R s t ∧ ∀ f, 8 ≤ f → f ≤ 11 → T (sz f) (gA s f) (gA t f)
/-- t is s with lower tables -/
def D (s t : S) : Prop := Fx [] [] [8, 9, 10, 11] [] s t ∧ ∀ f, 8 ≤ f → f ≤ 11 → T (sz f) (gA s f) (gA t f)
theorem D.trans {s t u : S} (h : D s t) (k : D t u) : D s u := ⟨h.1.trans k.1, fun f a b => (h.2 f a b).trans (k.2 f a b)⟩
theorem D.elen {s t : S} (h : D s t) (L : ElenT s) : ElenT t := by
  have e : ∀ f, (gA t f).length = (gA s f).length := fun f => by
    by_cases c : 8 ≤ f ∧ f ≤ 11
    · obtain ⟨a, b, _⟩ := h.2 f c.1 c.2; rw [a, b]
    · rw [h.1.2.2.1 f (by simp; omega)]
  unfold ElenT
  simp only [e]
  exact L
theorem D.es {n E R : Nat} {s t : S} (h : D s t) (k : Es n E R s) : Es n E R t := k.fx (h.1.mono (by simp) (by simp) (by simp) (by simp)) (h.elen k.1)
theorem Sub.same {E R : Nat} {s t s' t' : S} (h : Sub E R s t) (e : ∀ f, f < 8 → gA s' f = gA s f) (e' : ∀ f, f < 8 → gA t' f = gA t f) : Sub E R s' t' := by
  unfold Sub
  rw [e 0 (by omega), e 1 (by omega), e 2 (by omega), e 3 (by omega), e 4 (by omega), e 5 (by omega), e 6 (by omega), e 7 (by omega), e' 0 (by omega), e' 1 (by omega), e' 2 (by omega), e' 3 (by omega), e' 4 (by omega), e' 5 (by omega), e' 6 (by omega), e' 7 (by omega)]
  exact h
theorem D.st {s t : S} (h : D s t) (f : Nat) (hf : f < 8) : gA t f = gA s f := h.1.2.2.1 f (by simp; omega)
theorem M.to {n E R E' R' : Nat} {s t s' t' : S} (h : M n E R E' R' s t) (d : D s s') (d' : D t t') (k : ∀ f, 8 ≤ f → f ≤ 11 → T (sz f) (gA s' f) (gA t' f)) : M n E R E' R' s' t' := by
  obtain ⟨a, b, c, e, g, _⟩ := h
  exact ⟨d.es a, d'.es b, c, e, g.same d.st d'.st, k⟩
theorem M.self {n E R E' R' : Nat} {s t : S} (h : M n E R E' R' s t) : M n E' R' E' R' t t := by
  obtain ⟨a, b, c, e, g, k⟩ := h
  exact ⟨b, b, by omega, by omega, ⟨fun _ _ => ⟨rfl, rfl, rfl, rfl⟩, fun _ _ => ⟨rfl, rfl, rfl⟩, fun _ _ => rfl⟩, fun f x y => (k f x y).right⟩
theorem M.dl {n E R E' R' : Nat} {s t : S} (h : M n E R E' R' s t) : D s s := ⟨Fx.refl .., fun f a b => (h.2.2.2.2.2 f a b).left⟩
theorem M.dr {n E R E' R' : Nat} {s t : S} (h : M n E R E' R' s t) : D t t := ⟨Fx.refl .., fun f a b => (h.2.2.2.2.2 f a b).right⟩
theorem M.low {n E R E' R' : Nat} {s t t' : S} (h : M n E R E' R' s t) (d : D t t') : M n E R E' R' s t' := h.to h.dl d (fun f a b => (h.2.2.2.2.2 f a b).trans (d.2 f a b))
def OK (f : Nat) (sl : Int32) : Prop := sl = -1 ∨ ∃ i, i < sz f ∧ sl = Int32.ofNat i
theorem sz_le (f : Nat) : sz f < 4000 := by unfold sz; split; decide; split <;> decide
theorem D.one {s s' : S} {f : Nat} (h1 : 8 ≤ f) (h2 : f ≤ 11) (F : Fx [] [] [f] [] s s') (d : D s s) (k : T (sz f) (gA s f) (gA s' f)) : D s s' := by
  refine ⟨F.mono (by simp) (by simp) (by simp; omega) (by simp), fun g a b => ?_⟩
  by_cases c : g = f
  · rw [c]; exact k
  · rw [F.2.2.1 g (by simpa using c)]; exact d.2 g a b
theorem both {n E R E' R' : Nat} {s t : S} (h : M n E R E' R' s t) {f : Nat} (h1 : 8 ≤ f) (h2 : f ≤ 11) {sl : Int32} (o : OK f sl) {w w' : Nat} (hw : w' ≤ w) (hi : w ≤ 1073741824) : ∃ x s' y t', gl f sl (Int32.ofNat w) s = some (x, s') ∧ gl f sl (Int32.ofNat w') t = some (y, t') ∧ M n E R E' R' s' t' ∧ D s s' ∧ D t t' := by
  rcases o with rfl | ⟨i, hi', rfl⟩
  · unfold gl
    rw [if_pos (show (-1 : Int32) < 0 by decide), if_pos (show (-1 : Int32) < 0 by decide)]
    exact ⟨_, _, _, _, rfl, rfl, h, h.dl, h.dr⟩
  · have hT := h.2.2.2.2.2 f h1 h2
    obtain ⟨a, b, k1, k2, k3, k4⟩ := hT.2.2 i hi'
    have hz := sz_le f
    obtain ⟨x, s', e1, F1, g1⟩ := gl_at (by omega) (by rw [hT.1]; exact hi') k3 k2 hi
    obtain ⟨y, t', e2, F2, g2⟩ := gl_at (w := w') (by omega) (by rw [hT.2.1]; exact hi') k4 (by omega) (by omega)
    have d1 : D s s' := D.one h1 h2 F1 h.dl (by
      rw [g1]
      have := hT.left.set hi' (a := a) (b := min w a) (by omega) k2
      rwa [set_same k3] at this)
    have d2 : D t t' := D.one h1 h2 F2 h.dr (by
      rw [g2]
      have := hT.right.set hi' (a := b) (b := min w' b) (by omega) (by omega)
      rwa [set_same k4] at this)
    refine ⟨x, s', y, t', e1, e2, h.to d1 d2 (fun g u v => ?_), d1, d2⟩
    by_cases c : g = f
    · subst c; rw [g1, g2]; exact hT.set hi' (by omega) (by omega)
    · rw [F1.2.2.1 g (by simpa using c), F2.2.2.1 g (by simpa using c)]; exact h.2.2.2.2.2 g u v
theorem gget {n E R E' R' : Nat} {s t : S} (h : M n E R E' R' s t) {f : Nat} (h1 : 8 ≤ f) (h2 : f ≤ 11) {sl : Int32} (o : OK f sl) : ∃ a b, b ≤ a ∧ a ≤ 1073741824 ∧ gg f sl s = some (Int32.ofNat a) ∧ gg f sl t = some (Int32.ofNat b) := by
  rcases o with rfl | ⟨i, hi', rfl⟩
  · unfold gg
    rw [if_pos (show (-1 : Int32) < 0 by decide), if_pos (show (-1 : Int32) < 0 by decide), h.1.2.1, h.2.1.2.1]
    exact ⟨1073741824, 1073741824, by omega, by omega, rfl, rfl⟩
  · obtain ⟨a, b, k1, k2, k3, k4⟩ := (h.2.2.2.2.2 f h1 h2).2.2 i hi'
    have hz := sz_le f
    unfold gg
    rw [if_neg (ofNat_nonneg (by omega)), if_neg (ofNat_nonneg (by omega)), ix_ofNat _ (by omega), ix_ofNat _ (by omega), k3, k4, Option.bind_some, Option.bind_some]
    exact ⟨a, b, k1, k2, rfl, rfl⟩
theorem plus_n {s : S} (g0 : gI s 0 = 1073741824) {a b : Nat} (ha : a ≤ 1073741824) (hb : b ≤ 1073741824) : k_plus (Int32.ofNat a) (Int32.ofNat b) s = Int32.ofNat (min (a + b) 1073741824) := by
  unfold k_plus
  rw [g0, ofNat_add']
  by_cases q1 : a < 1073741824
  · rw [if_pos ((lt_lit (m := 1073741824) (by omega)).mpr q1)]
    by_cases q2 : b < 1073741824
    · rw [if_pos ((lt_lit (m := 1073741824) (by omega)).mpr q2)]
      by_cases q3 : a + b < 1073741824
      · rw [if_pos ((lt_lit (m := 1073741824) (by omega)).mpr q3), Nat.min_eq_left (by omega)]
      · rw [if_neg (fun z => q3 ((lt_lit (m := 1073741824) (by omega)).mp z)), Nat.min_eq_right (by omega)]; rfl
    · rw [if_neg (fun z => q2 ((lt_lit (m := 1073741824) (by omega)).mp z)), Nat.min_eq_right (by omega)]; rfl
  · rw [if_neg (fun z => q1 ((lt_lit (m := 1073741824) (by omega)).mp z)), Nat.min_eq_right (by omega)]; rfl
theorem min_n {a c : Nat} (ha : a ≤ 1073741824) (hc : c ≤ 1073741824) : (if Int32.ofNat a < Int32.ofNat c then Int32.ofNat a else Int32.ofNat c) = Int32.ofNat (min a c) := by
  by_cases q : a < c
  · rw [if_pos ((ofNat_lt (by omega) (by omega)).mpr q), Nat.min_eq_left (by omega)]
  · rw [if_neg (fun z => q ((ofNat_lt (by omega) (by omega)).mp z)), Nat.min_eq_right (by omega)]
theorem span_same {n E R E' R' : Nat} {s t : S} (h : M n E R E' R' s t) (v1 v2 v3 : Int32) : k_spanSlot v1 v2 v3 t = k_spanSlot v1 v2 v3 s ∧ OK 8 (k_spanSlot v1 v2 v3 s) ∧ OK 11 (k_spanSlot v1 v2 v3 s) := by
  have g1 := h.1.2.2.1
  have g1' := h.2.1.2.2.1
  have n8 := h.1.2.2.2.2.2.2.1
  refine ⟨?_, ?_, ?_⟩
  · unfold k_spanSlot k_isNode; rw [g1, g1']
  · exact span_cases g1 n8 v1 v2 v3
  · exact span_cases g1 n8 v1 v2 v3
theorem item_same {n E R E' R' : Nat} {s t : S} (h : M n E R E' R' s t) {r : Nat} (hr : r < R) (v2 v3 v4 : Int32) : k_itemSlot (Int32.ofNat r) v2 v3 v4 t = k_itemSlot (Int32.ofNat r) v2 v3 v4 s ∧ OK 9 (k_itemSlot (Int32.ofNat r) v2 v3 v4 s) ∧ OK 10 (k_itemSlot (Int32.ofNat r) v2 v3 v4 s) := by
  have g1 := h.1.2.2.1
  have g1' := h.2.1.2.2.1
  have g3 := h.1.2.2.2.2.1
  have g3' := h.2.1.2.2.2.2.1
  have n8 := h.1.2.2.2.2.2.2.1
  have r12 := h.1.2.2.2.2.2.2.2.2.1
  have r12' := h.2.1.2.2.2.2.2.2.2.2.1
  have rr := h.2.2.2.1
  refine ⟨?_, ?_, ?_⟩
  · unfold k_itemSlot k_isNode k_isRule
    rw [g1, g1', g3, g3', if_pos (show Int32.ofNat r < Int32.ofNat R from (ofNat_lt (by omega) (by omega)).mpr hr), if_pos (show Int32.ofNat r < Int32.ofNat R' from (ofNat_lt (by omega) (by omega)).mpr (by omega))]
  · exact item_cases g1 n8 g3 r12 (Int32.ofNat r) v2 v3 v4
  · exact item_cases g1 n8 g3 r12 (Int32.ofNat r) v2 v3 v4
/-- two loops side by side -/
theorem lp2 {C Z : Type} (L : Nat → C → Int32 → S → Option Z) (I : C → C → S → S → Prop) (Q : Option Z → Option Z → Prop) (m : Nat) (step : ∀ n n' k c c' s t, k < m → I c c' s t → ∃ d d' s' t', L (n + 1) c (Int32.ofNat k) s = L n d (Int32.ofNat (k + 1)) s' ∧ L (n' + 1) c' (Int32.ofNat k) t = L n' d' (Int32.ofNat (k + 1)) t' ∧ I d d' s' t') (fin : ∀ n n' c c' s t, 100 ≤ n → 100 ≤ n' → I c c' s t → Q (L (n + 1) c (Int32.ofNat m) s) (L (n' + 1) c' (Int32.ofNat m) t)) : ∀ j k N N' c c' s t, k + j = m → j + 100 < N → j + 100 < N' → I c c' s t → Q (L N c (Int32.ofNat k) s) (L N' c' (Int32.ofNat k) t)
  | _, _, 0, _, _, _, _, _, _, h, _, _ => by omega
  | _, _, _, 0, _, _, _, _, _, _, h, _ => by omega
  | 0, k, N + 1, N' + 1, c, c', s, t, hk, h1, h2, i => by
    have : k = m := by omega
    subst this
    exact fin N N' c c' s t (by omega) (by omega) i
  | j + 1, k, N + 1, N' + 1, c, c', s, t, hk, hN, hN', i => by
    obtain ⟨d, d', s', t', e, e', i'⟩ := step N N' k c c' s t (by omega) i
    rw [e, e']
    exact lp2 L I Q m step fin j (k + 1) N N' d d' s' t' (by omega) (by omega) (by omega) i'
section
variable {n E R E' R' : Nat} {s t : S}
theorem len_same (h : M n E R E' R' s t) {r : Nat} (hr : r < R) : ∃ l, l ≤ 3 ∧ (gA s 6)[r]? = some (Int32.ofNat l) ∧ (gA t 6)[r]? = some (Int32.ofNat l) := by
  have r12 := h.1.2.2.2.2.2.2.2.2.1
  obtain ⟨l, h3, e⟩ := h.1.2.2.2.2.2.2.2.2.2.1 r (by omega)
  exact ⟨l, h3, e, by rw [(h.2.2.2.2.1.2.1 r hr).2.2]; exact e⟩
theorem head_same (h : M n E R E' R' s t) {r : Nat} (hr : r < R) : ∃ x, k_headCode (Int32.ofNat r) s = some x ∧ k_headCode (Int32.ofNat r) t = some x := by
  have r12 := h.1.2.2.2.2.2.2.2.2.1
  have l4 : (gA s 4).length = 12 := h.1.1.2.2.2.2.1
  refine ⟨8 + (gA s 4)[r]'(by omega), ?_, ?_⟩
  · unfold k_headCode
    rw [if_neg (ofNat_nonneg (by omega)), if_pos ((lt_lit (m := 12) (by omega)).mpr (by omega)), ix_ofNat _ (by omega), List.getElem?_eq_getElem (by omega), Option.bind_some]
  · unfold k_headCode
    rw [if_neg (ofNat_nonneg (by omega)), if_pos ((lt_lit (m := 12) (by omega)).mpr (by omega)), ix_ofNat _ (by omega), (h.2.2.2.2.1.2.1 r hr).1, List.getElem?_eq_getElem (by omega), Option.bind_some]
theorem sym_same (h : M n E R E' R' s t) {r d : Nat} (hr : r < R) (hd : d < 3) : ∃ x, k_symbolAt (Int32.ofNat r) (Int32.ofNat d) s = some x ∧ k_symbolAt (Int32.ofNat r) (Int32.ofNat d) t = some x := by
  have r12 := h.1.2.2.2.2.2.2.2.2.1
  have l7 : (gA s 7).length = 36 := h.1.1.2.2.2.2.2.2.2.1
  refine ⟨(gA s 7)[r * 3 + d]'(by omega), ?_, ?_⟩
  · unfold k_symbolAt
    rw [if_neg (ofNat_nonneg (by omega)), if_pos ((lt_lit (m := 12) (by omega)).mpr (by omega)), if_neg (ofNat_nonneg (by omega)), if_pos ((lt_lit (m := 3) (by omega)).mpr (by omega)), show (3 : Int32) = Int32.ofNat 3 from rfl, mul_nat, ofNat_add', ix_ofNat _ (by omega), List.getElem?_eq_getElem (by omega), Option.bind_some]
  · unfold k_symbolAt
    rw [if_neg (ofNat_nonneg (by omega)), if_pos ((lt_lit (m := 12) (by omega)).mpr (by omega)), if_neg (ofNat_nonneg (by omega)), if_pos ((lt_lit (m := 3) (by omega)).mpr (by omega)), show (3 : Int32) = Int32.ofNat 3 from rfl, mul_nat, ofNat_add', ix_ofNat _ (by omega), h.2.2.2.2.1.2.2 (r * 3 + d) (by omega), List.getElem?_eq_getElem (by omega), Option.bind_some]
/-- two values, the second not above the first -/
def V2 (c c' : Int32) : Prop := ∃ a b, b ≤ a ∧ a ≤ 1073741824 ∧ c = Int32.ofNat a ∧ c' = Int32.ofNat b
theorem V2.inf : V2 1073741824 1073741824 := ⟨1073741824, 1073741824, by omega, by omega, rfl, rfl⟩
theorem V2.min {s t : S} (g : gI s 0 = 1073741824) (g' : gI t 0 = 1073741824) {c c' x x' y y' : Int32} (h : V2 c c') (hx : V2 x x') (hy : V2 y y') : V2 (if k_plus x y s < c then k_plus x y s else c) (if k_plus x' y' t < c' then k_plus x' y' t else c') := by
  obtain ⟨a, b, h1, h2, rfl, rfl⟩ := h
  obtain ⟨p, q, i1, i2, rfl, rfl⟩ := hx
  obtain ⟨u, v, j1, j2, rfl, rfl⟩ := hy
  rw [plus_n g i2 j2, plus_n g' (by omega) (by omega), min_n (by omega) h2, min_n (by omega) (by omega)]
  exact ⟨_, _, by omega, by omega, rfl, rfl⟩
theorem V2.plus {s t : S} (g : gI s 0 = 1073741824) (g' : gI t 0 = 1073741824) {x x' y y' : Int32} (hx : V2 x x') (hy : V2 y y') : V2 (k_plus x y s) (k_plus x' y' t) := by
  obtain ⟨p, q, i1, i2, rfl, rfl⟩ := hx
  obtain ⟨u, v, j1, j2, rfl, rfl⟩ := hy
  rw [plus_n g i2 j2, plus_n g' (by omega) (by omega)]
  exact ⟨_, _, by omega, by omega, rfl, rfl⟩
theorem gspan2 (h : M n E R E' R' s t) (v1 v2 v3 : Int32) : ∃ c c', k_getSpan v1 v2 v3 s = some c ∧ k_getSpan v1 v2 v3 t = some c' ∧ V2 c c' := by
  obtain ⟨e, o, _⟩ := span_same h v1 v2 v3
  obtain ⟨a, b, h1, h2, e1, e2⟩ := gget h (f := 8) (by omega) (by omega) o
  rw [gs_gg, gs_gg, e]
  exact ⟨_, _, e1, e2, a, b, h1, h2, rfl, rfl⟩
theorem gout2 (h : M n E R E' R' s t) (v1 v2 v3 : Int32) : ∃ c c', k_getOuter v1 v2 v3 s = some c ∧ k_getOuter v1 v2 v3 t = some c' ∧ V2 c c' := by
  obtain ⟨e, _, o⟩ := span_same h v1 v2 v3
  obtain ⟨a, b, h1, h2, e1, e2⟩ := gget h (f := 11) (by omega) (by omega) o
  rw [go_gg, go_gg, e]
  exact ⟨_, _, e1, e2, a, b, h1, h2, rfl, rfl⟩
theorem gitem2 (h : M n E R E' R' s t) {r : Nat} (hr : r < R) (v2 v3 v4 : Int32) : ∃ c c', k_getItem (Int32.ofNat r) v2 v3 v4 s = some c ∧ k_getItem (Int32.ofNat r) v2 v3 v4 t = some c' ∧ V2 c c' := by
  obtain ⟨e, o, _⟩ := item_same h hr v2 v3 v4
  obtain ⟨a, b, h1, h2, e1, e2⟩ := gget h (f := 9) (by omega) (by omega) o
  rw [gi_gg, gi_gg, e]
  exact ⟨_, _, e1, e2, a, b, h1, h2, rfl, rfl⟩
theorem grest2 (h : M n E R E' R' s t) {r : Nat} (hr : r < R) (v2 v3 v4 : Int32) : ∃ c c', k_getRest (Int32.ofNat r) v2 v3 v4 s = some c ∧ k_getRest (Int32.ofNat r) v2 v3 v4 t = some c' ∧ V2 c c' := by
  obtain ⟨e, _, o⟩ := item_same h hr v2 v3 v4
  obtain ⟨a, b, h1, h2, e1, e2⟩ := gget h (f := 10) (by omega) (by omega) o
  rw [gr_gg, gr_gg, e]
  exact ⟨_, _, e1, e2, a, b, h1, h2, rfl, rfl⟩
theorem lspan2 (h : M n E R E' R' s t) (v1 v2 v3 : Int32) {w w' : Int32} (hw : V2 w w') : ∃ x s' y t', k_lowerSpan v1 v2 v3 w s = some (x, s') ∧ k_lowerSpan v1 v2 v3 w' t = some (y, t') ∧ M n E R E' R' s' t' ∧ D s s' ∧ D t t' := by
  obtain ⟨a, b, h1, h2, rfl, rfl⟩ := hw
  obtain ⟨e, o, _⟩ := span_same h v1 v2 v3
  rw [ls_gl, ls_gl, e]
  exact both h (by omega) (by omega) o h1 h2
theorem lout2 (h : M n E R E' R' s t) (v1 v2 v3 : Int32) {w w' : Int32} (hw : V2 w w') : ∃ x s' y t', k_lowerOuter v1 v2 v3 w s = some (x, s') ∧ k_lowerOuter v1 v2 v3 w' t = some (y, t') ∧ M n E R E' R' s' t' ∧ D s s' ∧ D t t' := by
  obtain ⟨a, b, h1, h2, rfl, rfl⟩ := hw
  obtain ⟨e, _, o⟩ := span_same h v1 v2 v3
  rw [lo_gl, lo_gl, e]
  exact both h (by omega) (by omega) o h1 h2
theorem litem2 (h : M n E R E' R' s t) {r : Nat} (hr : r < R) (v2 v3 v4 : Int32) {w w' : Int32} (hw : V2 w w') : ∃ x s' y t', k_lowerItem (Int32.ofNat r) v2 v3 v4 w s = some (x, s') ∧ k_lowerItem (Int32.ofNat r) v2 v3 v4 w' t = some (y, t') ∧ M n E R E' R' s' t' ∧ D s s' ∧ D t t' := by
  obtain ⟨a, b, h1, h2, rfl, rfl⟩ := hw
  obtain ⟨e, o, _⟩ := item_same h hr v2 v3 v4
  rw [li_gl, li_gl, e]
  exact both h (by omega) (by omega) o h1 h2
theorem lrest2 (h : M n E R E' R' s t) {r : Nat} (hr : r < R) (v2 v3 v4 : Int32) {w w' : Int32} (hw : V2 w w') : ∃ x s' y t', k_lowerRest (Int32.ofNat r) v2 v3 v4 w s = some (x, s') ∧ k_lowerRest (Int32.ofNat r) v2 v3 v4 w' t = some (y, t') ∧ M n E R E' R' s' t' ∧ D s s' ∧ D t t' := by
  obtain ⟨a, b, h1, h2, rfl, rfl⟩ := hw
  obtain ⟨e, _, o⟩ := item_same h hr v2 v3 v4
  rw [lr_gl, lr_gl, e]
  exact both h (by omega) (by omega) o h1 h2
theorem best2 (h : M n E R E' R' s t) {r d u v : Nat} (hr : r < R) (hd : d < 3) (hu : u ≤ v) (hv : v < 8) : ∃ c c', k_bestAdvance (Int32.ofNat r) (Int32.ofNat d) (Int32.ofNat u) (Int32.ofNat v) s = some c ∧ k_bestAdvance (Int32.ofNat r) (Int32.ofNat d) (Int32.ofNat u) (Int32.ofNat v) t = some c' ∧ V2 c c' := by
  unfold k_bestAdvance
  obtain ⟨x, ex, ex'⟩ := sym_same h hr hd
  have g0 : gI s 0 = 1073741824 := h.1.2.1
  have g0' : gI t 0 = 1073741824 := h.2.1.2.1
  rw [ex, Option.bind_some, g0, ex', Option.bind_some, g0']
  refine lp2 (fun N (c : Int32) k s => k_bestAdvance_17 N (Int32.ofNat r) (Int32.ofNat d) (Int32.ofNat u) (Int32.ofNat v) x c k s) (fun c c' s1 t1 => s1 = s ∧ t1 = t ∧ V2 c c') (fun o o' => ∃ c c', o = some c ∧ o' = some c' ∧ V2 c c') (v + 1) ?_ ?_ (v + 1 - u) u BIG BIG _ _ s t (by omega) (by unfold BIG; omega) (by unfold BIG; omega) ⟨rfl, rfl, V2.inf⟩
  · rintro N N' k c c' s1 t1 hk ⟨rfl, rfl, hc⟩
    obtain ⟨a, a', ea, ea', ha⟩ := gitem2 h hr (Int32.ofNat d) (Int32.ofNat u) (Int32.ofNat k)
    obtain ⟨b, b', eb, eb', hb⟩ := gspan2 h x (Int32.ofNat k) (Int32.ofNat v)
    refine ⟨_, _, s1, t1, ?_, ?_, rfl, rfl, hc.min g0 g0' ha hb⟩
    · show k_bestAdvance_17 (N + 1) _ _ _ _ _ _ _ _ = k_bestAdvance_17 N _ _ _ _ _ _ _ _
      rw [k_bestAdvance_17, if_neg (fun z => by have := (ofNat_lt (by omega) (by omega)).mp z; omega), ea, Option.bind_some, eb, Option.bind_some, ofNat_succ]
    · show k_bestAdvance_17 (N' + 1) _ _ _ _ _ _ _ _ = k_bestAdvance_17 N' _ _ _ _ _ _ _ _
      rw [k_bestAdvance_17, if_neg (fun z => by have := (ofNat_lt (by omega) (by omega)).mp z; omega), ea', Option.bind_some, eb', Option.bind_some, ofNat_succ]
  · rintro N N' c c' s1 t1 _ _ ⟨rfl, rfl, hc⟩
    show ∃ d d', k_bestAdvance_17 (N + 1) _ _ _ _ _ _ _ _ = _ ∧ k_bestAdvance_17 (N' + 1) _ _ _ _ _ _ _ _ = _ ∧ _
    rw [k_bestAdvance_17, k_bestAdvance_17, if_pos ((ofNat_lt (by omega) (by omega)).mpr (by omega)), if_pos ((ofNat_lt (by omega) (by omega)).mpr (by omega))]
    exact ⟨c, c', rfl, rfl, hc⟩
theorem adv2 (h : M n E R E' R' s t) {r u v : Nat} (hr : r < R) (hu : u ≤ v) (hv : v < 8) : ∃ x s' y t', k_advanceItems (Int32.ofNat r) (Int32.ofNat u) (Int32.ofNat v) s = some (x, s') ∧ k_advanceItems (Int32.ofNat r) (Int32.ofNat u) (Int32.ofNat v) t = some (y, t') ∧ M n E R E' R' s' t' ∧ D s s' ∧ D t t' := by
  unfold k_advanceItems
  have r12 := h.1.2.2.2.2.2.2.2.2.1
  obtain ⟨l, l3, el, el'⟩ := len_same h hr
  rw [ix_ofNat _ (by omega), el, Option.bind_some, ix_ofNat _ (by omega), el', Option.bind_some]
  refine lp2 (fun N (c : Int32) k s => k_advanceItems_14 N (Int32.ofNat r) (Int32.ofNat u) (Int32.ofNat v) c (Int32.ofNat l) k s) (fun c c' s1 t1 => M n E R E' R' s1 t1 ∧ D s s1 ∧ D t t1) (fun o o' => ∃ x s' y t', o = some (x, s') ∧ o' = some (y, t') ∧ M n E R E' R' s' t' ∧ D s s' ∧ D t t') l ?_ ?_ l 0 BIG BIG 0 0 s t (by omega) (by unfold BIG; omega) (by unfold BIG; omega) ⟨h, h.dl, h.dr⟩
  · rintro N N' k c c' s1 t1 hk ⟨h1, d1, d1'⟩
    obtain ⟨w, w', ew, ew', hw⟩ := best2 h1 hr (show k < 3 by omega) hu hv
    obtain ⟨x, s2, y, t2, e, e', h2, d2, d2'⟩ := litem2 h1 hr (Int32.ofNat k + 1) (Int32.ofNat u) (Int32.ofNat v) hw
    refine ⟨(if x = 0 then c else 1), (if y = 0 then c' else 1), s2, t2, ?_, ?_, h2, d1.trans d2, d1'.trans d2'⟩
    · show k_advanceItems_14 (N + 1) _ _ _ _ _ _ _ = k_advanceItems_14 N _ _ _ _ _ _ _
      rw [k_advanceItems_14, if_pos ((ofNat_lt (by omega) (by omega)).mpr hk), ew, Option.bind_some, e, Option.bind_some, ofNat_succ]
    · show k_advanceItems_14 (N' + 1) _ _ _ _ _ _ _ = k_advanceItems_14 N' _ _ _ _ _ _ _
      rw [k_advanceItems_14, if_pos ((ofNat_lt (by omega) (by omega)).mpr hk), ew', Option.bind_some, e', Option.bind_some, ofNat_succ]
  · rintro N N' c c' s1 t1 _ _ ⟨h1, d1, d1'⟩
    show ∃ x s' y t', k_advanceItems_14 (N + 1) _ _ _ _ _ _ _ = _ ∧ k_advanceItems_14 (N' + 1) _ _ _ _ _ _ _ = _ ∧ _
    rw [k_advanceItems_14, if_neg (fun z => by have := (ofNat_lt (by omega) (by omega)).mp z; omega), k_advanceItems_14, if_neg (fun z => by have := (ofNat_lt (by omega) (by omega)).mp z; omega)]
    exact ⟨_, s1, _, t1, rfl, rfl, h1, d1, d1'⟩
theorem comp2 (h : M n E R E' R' s t) {r u v : Nat} (hr : r < R) : ∃ x s' y t', k_completeItem (Int32.ofNat r) (Int32.ofNat u) (Int32.ofNat v) s = some (x, s') ∧ k_completeItem (Int32.ofNat r) (Int32.ofNat u) (Int32.ofNat v) t = some (y, t') ∧ M n E R E' R' s' t' ∧ D s s' ∧ D t t' := by
  unfold k_completeItem
  have r12 := h.1.2.2.2.2.2.2.2.2.1
  obtain ⟨l, l3, el, el'⟩ := len_same h hr
  obtain ⟨w, w', ew, ew', hw⟩ := gitem2 h hr (Int32.ofNat l) (Int32.ofNat u) (Int32.ofNat v)
  obtain ⟨c, ec, ec'⟩ := head_same h hr
  obtain ⟨x, s2, y, t2, e, e', h2, d2, d2'⟩ := lspan2 h c (Int32.ofNat u) (Int32.ofNat v) hw
  rw [ix_ofNat _ (by omega), el, Option.bind_some, ew, Option.bind_some, ec, Option.bind_some, e, Option.bind_some, ix_ofNat _ (by omega), el', Option.bind_some, ew', Option.bind_some, ec', Option.bind_some, e', Option.bind_some]
  exact ⟨_, s2, _, t2, rfl, rfl, h2, d2, d2'⟩
/-- adv, then comp -/
theorem ac2 (h : M n E R E' R' s t) {r u v : Nat} (hr : r < R) (hu : u ≤ v) (hv : v < 8) : ∃ x s1 y t1 x' s' y' t', k_advanceItems (Int32.ofNat r) (Int32.ofNat u) (Int32.ofNat v) s = some (x, s1) ∧ k_completeItem (Int32.ofNat r) (Int32.ofNat u) (Int32.ofNat v) s1 = some (x', s') ∧ k_advanceItems (Int32.ofNat r) (Int32.ofNat u) (Int32.ofNat v) t = some (y, t1) ∧ k_completeItem (Int32.ofNat r) (Int32.ofNat u) (Int32.ofNat v) t1 = some (y', t') ∧ M n E R E' R' s' t' ∧ D s s' ∧ D t t' := by
  obtain ⟨x, s1, y, t1, e1, e1', h1, d1, d1'⟩ := adv2 h hr hu hv
  obtain ⟨x', s2, y', t2, e2, e2', h2, d2, d2'⟩ := comp2 (u := u) (v := v) h1 hr
  exact ⟨x, s1, y, t1, x', s2, y', t2, e1, e2, e1', e2', h2, d1.trans d2, d1'.trans d2'⟩
theorem ir_step {N : Nat} {u v c x x' : Int32} {k : Nat} {s s1 s' : S} (hk : Int32.ofNat k < gI s 3) (e1 : k_advanceItems (Int32.ofNat k) u v s = some (x, s1)) (e2 : k_completeItem (Int32.ofNat k) u v s1 = some (x', s')) : k_insideRound_5 (N + 1) u v c (Int32.ofNat k) s = k_insideRound_5 N u v (if x' = 0 then (if x = 0 then c else 1) else 1) (Int32.ofNat (k + 1)) s' := by
  rw [k_insideRound_5, if_pos hk, e1, Option.bind_some]
  unfold k_insideRound_27
  dsimp only
  rw [e2, Option.bind_some, ofNat_succ]
theorem round2 (h : M n E R E' R' s t) {u v : Nat} (hu : u ≤ v) (hv : v < 8) : ∃ x s' y t', k_insideRound (Int32.ofNat u) (Int32.ofNat v) s = some (x, s') ∧ k_insideRound (Int32.ofNat u) (Int32.ofNat v) t = some (y, t') ∧ M n E R E' R' s' t' ∧ D s s' ∧ D t t' := by
  unfold k_insideRound
  have r12 := h.1.2.2.2.2.2.2.2.2.1
  have r12' := h.2.1.2.2.2.2.2.2.2.2.1
  have rr := h.2.2.2.1
  refine lp2 (fun N (c : Int32) k s => k_insideRound_5 N (Int32.ofNat u) (Int32.ofNat v) c k s) (fun c c' s1 t1 => M n E R E' R' s1 t1 ∧ D s s1 ∧ D t t1) (fun o o' => ∃ x s' y t', o = some (x, s') ∧ o' = some (y, t') ∧ M n E R E' R' s' t' ∧ D s s' ∧ D t t') R ?_ ?_ R 0 BIG BIG 0 0 s t (by omega) (by unfold BIG; omega) (by unfold BIG; omega) ⟨h, h.dl, h.dr⟩
  · rintro N N' k c c' s1 t1 hk ⟨h1, d1, d1'⟩
    obtain ⟨x, s2, y, t2, x', s3, y', t3, e1, e2, e1', e2', h3, d3, d3'⟩ := ac2 h1 hk hu hv
    exact ⟨_, _, s3, t3, ir_step (by rw [h1.1.2.2.2.2.1]; exact (ofNat_lt (by omega) (by omega)).mpr hk) e1 e2, ir_step (by rw [h1.2.1.2.2.2.2.1]; exact (ofNat_lt (by omega) (by omega)).mpr (by omega)) e1' e2', h3, d1.trans d3, d1'.trans d3'⟩
  · rintro N N' c c' s1 t1 hN hN' ⟨h1, d1, d1'⟩
    show ∃ x s' y t', k_insideRound_5 (N + 1) _ _ _ _ _ = _ ∧ _
    rw [k_insideRound_5, h1.1.2.2.2.2.1, if_neg (fun z => by have := (ofNat_lt (by omega) (by omega)).mp z; omega)]
    have : ∃ y t', k_insideRound_5 (N' + 1) (Int32.ofNat u) (Int32.ofNat v) c' (Int32.ofNat R) t1 = some (y, t') ∧ M n E R E' R' s1 t' ∧ D t1 t' := by
      refine lp (fun N (c : Int32) k s => k_insideRound_5 N (Int32.ofNat u) (Int32.ofNat v) c k s) (fun c t2 => M n E R E' R' s1 t2 ∧ D t1 t2) (fun o => ∃ y t', o = some (y, t') ∧ M n E R E' R' s1 t' ∧ D t1 t') R' ?_ ?_ (R' - R) R (N' + 1) c' t1 (by omega) (by omega) ⟨h1, h1.dr⟩
      · rintro N k c t2 hk ⟨h2, d2⟩
        obtain ⟨x, s2, y, t3, x', s3, y', t4, e1, e2, e1', e2', h3, d3, d3'⟩ := ac2 h2.self hk hu hv
        exact ⟨_, t4, ir_step (by rw [h2.2.1.2.2.2.2.1]; exact (ofNat_lt (by omega) (by omega)).mpr hk) e1' e2', h2.low d3', d2.trans d3'⟩
      · rintro N c t2 ⟨h2, d2⟩
        show ∃ y t', k_insideRound_5 (N + 1) _ _ _ _ _ = _ ∧ _
        rw [k_insideRound_5, h2.2.1.2.2.2.2.1, if_neg (fun z => by have := (ofNat_lt (by omega) (by omega)).mp z; omega)]
        exact ⟨_, t2, rfl, h2, d2⟩
    obtain ⟨y, t', e', h2, d2⟩ := this
    exact ⟨_, s1, y, t', rfl, e', h2, d1, d1'.trans d2⟩
end
theorem nar01 {c : Int32} (h : c = 0 ∨ c = 1) : nar .boolean c = c := by
  rcases h with rfl | rfl <;> decide
theorem flag_z {x c d : Int32} (hx : x = 0 ∨ x = 1) (hc : c = 0 ∨ c = 1) (e : d = if x = 0 then c else 1) : (d = 0 ∨ d = 1) ∧ (d = 0 → x = 0 ∧ c = 0) := by
  by_cases q : x = 0
  · rw [if_pos q] at e; rw [e]; exact ⟨hc, fun z => ⟨q, z⟩⟩
  · rw [if_neg q] at e; rw [e]; exact ⟨Or.inr rfl, fun z => absurd z (by decide)⟩
theorem adv_z : ∀ N v1 v2 v3 c v5 v6 s x s', (c = 0 ∨ c = 1) → k_advanceItems_14 N v1 v2 v3 c v5 v6 s = some (x, s') → (x = 0 ∨ x = 1) ∧ (x = 0 → c = 0 ∧ s' = s)
  | 0, _, _, _, _, _, _, _, _, _, _, e => by cases e
  | N + 1, v1, v2, v3, c, v5, v6, s, x, s', hc, e => by
    rw [k_advanceItems_14] at e
    split at e
    · obtain ⟨w, _, e⟩ := Option.bind_eq_some_iff.mp e
      obtain ⟨⟨y, s1⟩, e1, e⟩ := Option.bind_eq_some_iff.mp e
      rw [li_gl] at e1
      obtain ⟨z1, z2⟩ := gl_z e1
      dsimp only at e
      obtain ⟨f1, f2⟩ := flag_z z1 hc rfl
      obtain ⟨g1, g2⟩ := adv_z N _ _ _ _ _ _ _ _ _ f1 e
      refine ⟨g1, fun q => ?_⟩
      obtain ⟨a, b⟩ := g2 q
      obtain ⟨p, r⟩ := f2 a
      exact ⟨r, by rw [b, z2 p]⟩
    · cases e
      rw [nar01 hc]
      exact ⟨hc, fun z => ⟨z, rfl⟩⟩
theorem advI_z {v1 v2 v3 x : Int32} {s s' : S} (e : k_advanceItems v1 v2 v3 s = some (x, s')) : (x = 0 ∨ x = 1) ∧ (x = 0 → s' = s) := by
  unfold k_advanceItems at e
  obtain ⟨w, _, e⟩ := Option.bind_eq_some_iff.mp e
  obtain ⟨a, b⟩ := adv_z _ _ _ _ _ _ _ _ _ _ (Or.inl rfl) e
  exact ⟨a, fun z => (b z).2⟩
theorem compI_z {v1 v2 v3 x : Int32} {s s' : S} (e : k_completeItem v1 v2 v3 s = some (x, s')) : (x = 0 ∨ x = 1) ∧ (x = 0 → s' = s) := by
  unfold k_completeItem at e
  obtain ⟨w, _, e⟩ := Option.bind_eq_some_iff.mp e
  obtain ⟨w2, _, e⟩ := Option.bind_eq_some_iff.mp e
  obtain ⟨w3, _, e⟩ := Option.bind_eq_some_iff.mp e
  obtain ⟨⟨y, s1⟩, e1, e⟩ := Option.bind_eq_some_iff.mp e
  rw [ls_gl] at e1
  obtain ⟨z1, z2⟩ := gl_z e1
  cases e
  rw [nar01 z1]
  exact ⟨z1, z2⟩
theorem rnd_z : ∀ N v1 v2 c v4 s x s', (c = 0 ∨ c = 1) → k_insideRound_5 N v1 v2 c v4 s = some (x, s') → (x = 0 ∨ x = 1) ∧ (x = 0 → c = 0 ∧ s' = s)
  | 0, _, _, _, _, _, _, _, _, e => by cases e
  | N + 1, v1, v2, c, v4, s, x, s', hc, e => by
    rw [k_insideRound_5] at e
    split at e
    · obtain ⟨⟨y, s1⟩, e1, e⟩ := Option.bind_eq_some_iff.mp e
      unfold k_insideRound_27 at e
      obtain ⟨⟨y', s2⟩, e2, e⟩ := Option.bind_eq_some_iff.mp e
      dsimp only at e e2
      obtain ⟨a1, a2⟩ := advI_z e1
      obtain ⟨b1, b2⟩ := compI_z e2
      obtain ⟨f1, f2⟩ := flag_z a1 hc rfl
      obtain ⟨h1, h2⟩ := flag_z b1 f1 rfl
      obtain ⟨g1, g2⟩ := rnd_z N _ _ _ _ _ _ _ h1 e
      refine ⟨g1, fun q => ?_⟩
      obtain ⟨p1, p2⟩ := g2 q
      obtain ⟨p3, p4⟩ := h2 p1
      obtain ⟨p5, p6⟩ := f2 p4
      exact ⟨p6, by rw [p2, b2 p3, a2 p5]⟩
    · cases e
      rw [nar01 hc]
      exact ⟨hc, fun z => ⟨z, rfl⟩⟩
theorem rndI_z {v1 v2 x : Int32} {s s' : S} (e : k_insideRound v1 v2 s = some (x, s')) : x = 0 → s' = s := by
  unfold k_insideRound at e
  obtain ⟨a, b⟩ := rnd_z _ _ _ _ _ _ _ _ (Or.inl rfl) e
  exact fun z => (b z).2
theorem orule_z : ∀ N v1 v2 v3 c v5 v6 s x s', (c = 0 ∨ c = 1) → k_outerRule_14 N v1 v2 v3 c v5 v6 s = some (x, s') → (x = 0 ∨ x = 1) ∧ (x = 0 → c = 0 ∧ s' = s)
  | 0, _, _, _, _, _, _, _, _, _, _, e => by cases e
  | N + 1, v1, v2, v3, c, v5, v6, s, x, s', hc, e => by
    rw [k_outerRule_14] at e
    split at e
    · obtain ⟨w, _, e⟩ := Option.bind_eq_some_iff.mp e
      obtain ⟨w2, _, e⟩ := Option.bind_eq_some_iff.mp e
      obtain ⟨⟨y, s1⟩, e1, e⟩ := Option.bind_eq_some_iff.mp e
      rw [lo_gl] at e1
      obtain ⟨z1, z2⟩ := gl_z e1
      dsimp only at e
      obtain ⟨f1, f2⟩ := flag_z z1 hc rfl
      obtain ⟨g1, g2⟩ := orule_z N _ _ _ _ _ _ _ _ _ f1 e
      refine ⟨g1, fun q => ?_⟩
      obtain ⟨a, b⟩ := g2 q
      obtain ⟨p, r⟩ := f2 a
      exact ⟨r, by rw [b, z2 p]⟩
    · cases e
      rw [nar01 hc]
      exact ⟨hc, fun z => ⟨z, rfl⟩⟩
theorem ornd_z : ∀ N v1 v2 c v4 s x s', (c = 0 ∨ c = 1) → k_outerRound_5 N v1 v2 c v4 s = some (x, s') → (x = 0 ∨ x = 1) ∧ (x = 0 → c = 0 ∧ s' = s)
  | 0, _, _, _, _, _, _, _, _, e => by cases e
  | N + 1, v1, v2, c, v4, s, x, s', hc, e => by
    rw [k_outerRound_5] at e
    split at e
    · obtain ⟨⟨y, s1⟩, e1, e⟩ := Option.bind_eq_some_iff.mp e
      dsimp only at e
      unfold k_outerRule at e1
      obtain ⟨w, _, e1⟩ := Option.bind_eq_some_iff.mp e1
      obtain ⟨a1, a2⟩ := orule_z _ _ _ _ _ _ _ _ _ _ (Or.inl rfl) e1
      obtain ⟨f1, f2⟩ := flag_z a1 hc rfl
      obtain ⟨g1, g2⟩ := ornd_z N _ _ _ _ _ _ _ f1 e
      refine ⟨g1, fun q => ?_⟩
      obtain ⟨p1, p2⟩ := g2 q
      obtain ⟨p5, p6⟩ := f2 p1
      exact ⟨p6, by rw [p2, (a2 p5).2]⟩
    · cases e
      rw [nar01 hc]
      exact ⟨hc, fun z => ⟨z, rfl⟩⟩
theorem orndI_z {v1 v2 x : Int32} {s s' : S} (e : k_outerRound v1 v2 s = some (x, s')) : x = 0 → s' = s := by
  unfold k_outerRound at e
  obtain ⟨a, b⟩ := ornd_z _ _ _ _ _ _ _ _ (Or.inl rfl) e
  exact fun z => (b z).2
/-- the closing of a cell, in general -/
def cl (rd : S → Option (Int32 × S)) : Nat → Int32 → Int32 → S → Option S
  | 0, _, _, _ => none
  | n + 1, c, k, s => if c = 0 then some s else if k < (24 : Int32) then (rd s).bind fun r => cl rd n r.1 (k + (1 : Int32)) r.2 else some s
theorem cl_in (v1 v2 : Int32) : ∀ N c k s, k_closeInsideCell_5 N v1 v2 c k s = cl (k_insideRound v1 v2) N c k s
  | 0, _, _, _ => rfl
  | N + 1, c, k, s => by
    rw [k_closeInsideCell_5, cl]
    simp only [cl_in v1 v2 N]
theorem cl_out (v1 v2 : Int32) : ∀ N c k s, k_closeOuterCell_5 N v1 v2 c k s = cl (k_outerRound v1 v2) N c k s
  | 0, _, _, _ => rfl
  | N + 1, c, k, s => by
    rw [k_closeOuterCell_5, cl]
    simp only [cl_out v1 v2 N]
section
variable {n E R E' R' : Nat}
theorem cl2 {rd : S → Option (Int32 × S)} (hz : ∀ s x s', rd s = some (x, s') → x = 0 → s' = s) (hr : ∀ s t, M n E R E' R' s t → ∃ x s' y t', rd s = some (x, s') ∧ rd t = some (y, t') ∧ M n E R E' R' s' t' ∧ D s s' ∧ D t t') : ∀ j k N N' c c' s t, k + j = 24 → j < N → j < N' → M n E R E' R' s t → (c = 0 → rd s = some (0, s)) → (c' = 0 → rd t = some (0, t)) → ∃ s' t', cl rd N c (Int32.ofNat k) s = some s' ∧ cl rd N' c' (Int32.ofNat k) t = some t' ∧ M n E R E' R' s' t' ∧ D s s' ∧ D t t'
  | _, _, 0, _, _, _, _, _, _, h, _, _, _, _ => by omega
  | _, _, _, 0, _, _, _, _, _, _, h, _, _, _ => by omega
  | 0, k, N + 1, N' + 1, c, c', s, t, hk, _, _, h, _, _ => by
    have e : ∀ N c s, cl rd (N + 1) c (Int32.ofNat k) s = some s := fun N c s => by
      rw [cl]
      split
      · rfl
      · rw [if_neg (fun z => by have := (lt_lit (m := 24) (by omega)).mp z; omega)]
    exact ⟨s, t, e _ _ _, e _ _ _, h, h.dl, h.dr⟩
  | j + 1, k, N + 1, N' + 1, c, c', s, t, hk, hN, hN', h, f, f' => by
    have lt : Int32.ofNat k < 24 := (lt_lit (m := 24) (by omega)).mpr (by omega)
    obtain ⟨x, s1, y, t1, e1, e1', h1, d1, d1'⟩ := hr s t h
    have z1 : x = 0 → rd s1 = some (0, s1) := fun q => by have w := hz _ _ _ e1 q; rw [w]; rw [q, w] at e1; exact e1
    have z1' : y = 0 → rd t1 = some (0, t1) := fun q => by have w := hz _ _ _ e1' q; rw [w]; rw [q, w] at e1'; exact e1'
    by_cases q : c = 0
    · have es := f q
      rw [es] at e1
      cases e1
      have stay : ∀ M k, cl rd (M + 1) 0 k s = some s := fun M k => by rw [cl, if_pos rfl]
      rw [q, stay]
      by_cases q' : c' = 0
      · rw [q', cl, if_pos rfl]; exact ⟨s, t, rfl, rfl, h, h.dl, h.dr⟩
      · rw [cl, if_neg q', if_pos lt, e1', Option.bind_some, ofNat_succ]
        obtain ⟨s2, t2, i1, i2, i3, i4, i5⟩ := cl2 hz hr j (k + 1) (j + 1) N' 0 y s t1 (by omega) (by omega) (by omega) h1 (fun _ => es) z1'
        rw [stay] at i1
        cases i1
        exact ⟨s, t2, rfl, i2, i3, i4, d1'.trans i5⟩
    · rw [cl, if_neg q, if_pos lt, e1, Option.bind_some, ofNat_succ]
      by_cases q' : c' = 0
      · have et := f' q'
        rw [et] at e1'
        cases e1'
        have stay : ∀ M k, cl rd (M + 1) 0 k t = some t := fun M k => by rw [cl, if_pos rfl]
        rw [q', stay]
        obtain ⟨s2, t2, i1, i2, i3, i4, i5⟩ := cl2 hz hr j (k + 1) N (j + 1) x 0 s1 t (by omega) (by omega) (by omega) h1 z1 (fun _ => et)
        rw [stay] at i2
        cases i2
        exact ⟨s2, t, i1, rfl, i3, d1.trans i4, i5⟩
      · rw [cl, if_neg q', if_pos lt, e1', Option.bind_some, ofNat_succ]
        obtain ⟨s2, t2, i1, i2, i3, i4, i5⟩ := cl2 hz hr j (k + 1) N N' x y s1 t1 (by omega) (by omega) (by omega) h1 z1 z1'
        exact ⟨s2, t2, i1, i2, i3, d1.trans i4, d1'.trans i5⟩
theorem close2 {s t : S} (h : M n E R E' R' s t) {u v : Nat} (hu : u ≤ v) (hv : v < 8) : ∃ s' t', k_closeInsideCell (Int32.ofNat u) (Int32.ofNat v) s = some s' ∧ k_closeInsideCell (Int32.ofNat u) (Int32.ofNat v) t = some t' ∧ M n E R E' R' s' t' ∧ D s s' ∧ D t t' := by
  unfold k_closeInsideCell
  rw [cl_in, cl_in]
  exact cl2 (fun s x s' e => rndI_z e) (fun s t h => round2 h hu hv) 24 0 BIG BIG 1 1 s t (by omega) (by unfold BIG; omega) (by unfold BIG; omega) h (fun z => absurd z (by decide)) (fun z => absurd z (by decide))
theorem row2 (K K' : Int32 → S → Option S) {v : Nat} (hv : v < 8) : ∀ u N N' s t, u ≤ v → u + 1 < N → u + 1 < N' → M n E R E' R' s t → ∃ s' t', k_runInside_20 K N (Int32.ofNat v) (Int32.ofNat u) s = K (Int32.ofNat (v + 1)) s' ∧ k_runInside_20 K' N' (Int32.ofNat v) (Int32.ofNat u) t = K' (Int32.ofNat (v + 1)) t' ∧ M n E R E' R' s' t' ∧ D s s' ∧ D t t'
  | _, 0, _, _, _, _, h, _, _ => by omega
  | _, _, 0, _, _, _, _, h, _ => by omega
  | 0, N + 1, N' + 1, s, t, hu, hN, hN', h => by
    obtain ⟨s1, t1, e, e', h1, d1, d1'⟩ := close2 h (Nat.zero_le v) hv
    obtain ⟨N, rfl⟩ : ∃ M, N = M + 1 := ⟨N - 1, by omega⟩
    obtain ⟨N', rfl⟩ : ∃ M, N' = M + 1 := ⟨N' - 1, by omega⟩
    have last : ∀ (K : Int32 → S → Option S) (N : Nat) (s s1 : S), k_closeInsideCell (Int32.ofNat 0) (Int32.ofNat v) s = some s1 → k_runInside_20 K (N + 1 + 1) (Int32.ofNat v) (Int32.ofNat 0) s = K (Int32.ofNat (v + 1)) s1 := fun K N s s1 e => by
      rw [k_runInside_20, if_neg (ofNat_nonneg (by omega)), e, Option.bind_some, show Int32.ofNat 0 + (-1) = (-1 : Int32) from rfl, k_runInside_20, if_pos (show (-1 : Int32) < 0 by decide), ofNat_succ]
    rw [last K N s s1 e, last K' N' t t1 e']
    exact ⟨s1, t1, rfl, rfl, h1, d1, d1'⟩
  | u + 1, N + 1, N' + 1, s, t, hu, hN, hN', h => by
    obtain ⟨s1, t1, e, e', h1, d1, d1'⟩ := close2 h hu hv
    rw [k_runInside_20, if_neg (ofNat_nonneg (by omega)), e, Option.bind_some, k_runInside_20, if_neg (ofNat_nonneg (by omega)), e', Option.bind_some, dec_nat]
    obtain ⟨s2, t2, i1, i2, i3, i4, i5⟩ := row2 K K' hv u N N' s1 t1 (by omega) (by omega) (by omega) h1
    exact ⟨s2, t2, i1, i2, i3, d1.trans i4, d1'.trans i5⟩
theorem V2.nat {w : Int32} (h : NB w) : V2 w w := by
  obtain ⟨e, hl⟩ := eq_ofNat h.1
  refine ⟨w.toNatClampNeg, w.toNatClampNeg, by omega, ?_, e, e⟩
  have h2 := h.2
  rw [e] at h2
  have : ¬ 1073741824 < w.toNatClampNeg := fun z => h2 ((ofNat_lt (k := 1073741824) (by omega) hl).mpr z)
  omega
/-- one edge, on both sides -/
theorem edge2 {s t : S} (h : M n E R E' R' s t) {k : Nat} (hk : k < E) : ∃ a b c w x s' y t', (gA s 2)[k]? = some a ∧ (gA s 0)[k]? = some b ∧ (gA s 1)[k]? = some c ∧ (gA s 3)[k]? = some w ∧ (gA t 2)[k]? = some a ∧ (gA t 0)[k]? = some b ∧ (gA t 1)[k]? = some c ∧ (gA t 3)[k]? = some w ∧ k_lowerSpan a b c w s = some (x, s') ∧ k_lowerSpan a b c w t = some (y, t') ∧ M n E R E' R' s' t' ∧ D s s' ∧ D t t' := by
  obtain ⟨L, g0, g1, g2, g3, n2, n8, e16, r12, a6, a3, a5⟩ := id h.1
  obtain ⟨w, hw, ew⟩ := a3 k (by omega)
  have l0 : (gA s 0).length = 16 := L.1
  have l1 : (gA s 1).length = 16 := L.2.1
  have l2 : (gA s 2).length = 16 := L.2.2.1
  obtain ⟨c0, c1, c2, c3⟩ := h.2.2.2.2.1.1 k hk
  obtain ⟨x, s', y, t', e, e', h', d, d'⟩ := lspan2 h ((gA s 2)[k]'(by omega)) ((gA s 0)[k]'(by omega)) ((gA s 1)[k]'(by omega)) (V2.nat hw)
  refine ⟨_, _, _, w, x, s', y, t', List.getElem?_eq_getElem (by omega), List.getElem?_eq_getElem (by omega), List.getElem?_eq_getElem (by omega), ew, ?_, ?_, ?_, by rw [c3]; exact ew, e, e', h', d, d'⟩
  · rw [c2]; exact List.getElem?_eq_getElem (by omega)
  · rw [c0]; exact List.getElem?_eq_getElem (by omega)
  · rw [c1]; exact List.getElem?_eq_getElem (by omega)
theorem sc_step {N k : Nat} {s s' : S} {a b c w x : Int32} (hk : Int32.ofNat k < gI s 2) (h16 : k < 16) (e1 : (gA s 2)[k]? = some a) (e2 : (gA s 0)[k]? = some b) (e3 : (gA s 1)[k]? = some c) (e4 : (gA s 3)[k]? = some w) (e5 : k_lowerSpan a b c w s = some (x, s')) : k_scanEdges_2 (N + 1) (Int32.ofNat k) s = k_scanEdges_2 N (Int32.ofNat (k + 1)) s' := by
  rw [k_scanEdges_2, if_pos hk, ix_ofNat _ (by omega), e1, Option.bind_some, ix_ofNat _ (by omega), e2, Option.bind_some, ix_ofNat _ (by omega), e3, Option.bind_some, ix_ofNat _ (by omega), e4, Option.bind_some, e5, Option.bind_some, ofNat_succ]
theorem scan2 {s t : S} (h : M n E R E' R' s t) : ∃ s' t', k_scanEdges s = some s' ∧ k_scanEdges t = some t' ∧ M n E R E' R' s' t' ∧ D s s' ∧ D t t' := by
  unfold k_scanEdges
  have e16 := h.1.2.2.2.2.2.2.2.1
  have e16' := h.2.1.2.2.2.2.2.2.2.1
  have ee := h.2.2.1
  refine lp2 (fun N (_ : Unit) k s => k_scanEdges_2 N k s) (fun _ _ s1 t1 => M n E R E' R' s1 t1 ∧ D s s1 ∧ D t t1) (fun o o' => ∃ s' t', o = some s' ∧ o' = some t' ∧ M n E R E' R' s' t' ∧ D s s' ∧ D t t') E ?_ ?_ E 0 BIG BIG () () s t (by omega) (by unfold BIG; omega) (by unfold BIG; omega) ⟨h, h.dl, h.dr⟩
  · rintro N N' k _ _ s1 t1 hk ⟨h1, d1, d1'⟩
    obtain ⟨a, b, c, w, x, s2, y, t2, p1, p2, p3, p4, q1, q2, q3, q4, e, e', h2, d2, d2'⟩ := edge2 h1 hk
    exact ⟨(), (), s2, t2, sc_step (by rw [h1.1.2.2.2.1]; exact (ofNat_lt (by omega) (by omega)).mpr hk) (by omega) p1 p2 p3 p4 e, sc_step (by rw [h1.2.1.2.2.2.1]; exact (ofNat_lt (by omega) (by omega)).mpr (by omega)) (by omega) q1 q2 q3 q4 e', h2, d1.trans d2, d1'.trans d2'⟩
  · rintro N N' _ _ s1 t1 hN hN' ⟨h1, d1, d1'⟩
    show ∃ s' t', k_scanEdges_2 (N + 1) _ _ = _ ∧ _
    rw [k_scanEdges_2, h1.1.2.2.2.1, if_neg (fun z => by have := (ofNat_lt (by omega) (by omega)).mp z; omega)]
    have : ∃ t', k_scanEdges_2 (N' + 1) (Int32.ofNat E) t1 = some t' ∧ M n E R E' R' s1 t' ∧ D t1 t' := by
      refine lp (fun N (_ : Unit) k s => k_scanEdges_2 N k s) (fun _ t2 => M n E R E' R' s1 t2 ∧ D t1 t2) (fun o => ∃ t', o = some t' ∧ M n E R E' R' s1 t' ∧ D t1 t') E' ?_ ?_ (E' - E) E (N' + 1) () t1 (by omega) (by omega) ⟨h1, h1.dr⟩
      · rintro N k _ t2 hk ⟨h2, d2⟩
        obtain ⟨a, b, c, w, x, s3, y, t3, p1, p2, p3, p4, q1, q2, q3, q4, e, e', h3, d3, d3'⟩ := edge2 h2.self hk
        exact ⟨(), t3, sc_step (by rw [h2.2.1.2.2.2.1]; exact (ofNat_lt (by omega) (by omega)).mpr hk) (by omega) q1 q2 q3 q4 e', h2.low d3', d2.trans d3'⟩
      · rintro N _ t2 ⟨h2, d2⟩
        show ∃ t', k_scanEdges_2 (N + 1) _ _ = _ ∧ _
        rw [k_scanEdges_2, h2.2.1.2.2.2.1, if_neg (fun z => by have := (ofNat_lt (by omega) (by omega)).mp z; omega)]
        exact ⟨t2, rfl, h2, d2⟩
    obtain ⟨t', e', h2, d2⟩ := this
    exact ⟨s1, t', rfl, e', h2, d1, d1'.trans d2⟩
theorem seedin2 (K K' : Int32 → S → Option S) {s t : S} (h : M n E R E' R' s t) {r : Nat} (hr : r < R) : ∃ s' t', k_seedItems_12 K BIG (Int32.ofNat r) 0 s = K (Int32.ofNat (r + 1)) s' ∧ k_seedItems_12 K' BIG (Int32.ofNat r) 0 t = K' (Int32.ofNat (r + 1)) t' ∧ M n E R E' R' s' t' ∧ D s s' ∧ D t t' := by
  have n8 := h.1.2.2.2.2.2.2.1
  have r12 := h.1.2.2.2.2.2.2.2.2.1
  obtain ⟨w, hw, ew⟩ := h.1.2.2.2.2.2.2.2.2.2.2.2 r (by omega)
  have ew' : (gA t 5)[r]? = some w := by rw [(h.2.2.2.2.1.2.1 r hr).2.1]; exact ew
  have stp : ∀ (K : Int32 → S → Option S) (N k : Nat) (s s' : S) (x : Int32), k < n → gI s 1 = Int32.ofNat n → (gA s 5)[r]? = some w → k_lowerItem (Int32.ofNat r) 0 (Int32.ofNat k) (Int32.ofNat k) w s = some (x, s') → k_seedItems_12 K (N + 1) (Int32.ofNat r) (Int32.ofNat k) s = k_seedItems_12 K N (Int32.ofNat r) (Int32.ofNat (k + 1)) s' := fun K N k s s' x hk g e5 e => by
    rw [k_seedItems_12, g, if_pos ((ofNat_lt (by omega) (by omega)).mpr hk), ix_ofNat _ (by omega), e5, Option.bind_some, e, Option.bind_some, ofNat_succ]
  have fin : ∀ (K : Int32 → S → Option S) (N : Nat) (s : S), gI s 1 = Int32.ofNat n → k_seedItems_12 K (N + 1) (Int32.ofNat r) (Int32.ofNat n) s = K (Int32.ofNat (r + 1)) s := fun K N s g => by
    rw [k_seedItems_12, g, if_neg (fun z => by have := (ofNat_lt (by omega) (by omega)).mp z; omega), ofNat_succ]
  have go : ∀ j k N N' s1 t1, k + j = n → j < N → j < N' → M n E R E' R' s1 t1 → D s s1 → D t t1 → ∃ s' t', k_seedItems_12 K N (Int32.ofNat r) (Int32.ofNat k) s1 = K (Int32.ofNat (r + 1)) s' ∧ k_seedItems_12 K' N' (Int32.ofNat r) (Int32.ofNat k) t1 = K' (Int32.ofNat (r + 1)) t' ∧ M n E R E' R' s' t' ∧ D s s' ∧ D t t' := by
    intro j
    induction j with
    | zero =>
      intro k N N' s1 t1 hk hN hN' h1 d1 d1'
      obtain ⟨N, rfl⟩ : ∃ M, N = M + 1 := ⟨N - 1, by omega⟩
      obtain ⟨N', rfl⟩ : ∃ M, N' = M + 1 := ⟨N' - 1, by omega⟩
      have : k = n := by omega
      rw [this, fin K N s1 h1.1.2.2.1, fin K' N' t1 h1.2.1.2.2.1]
      exact ⟨s1, t1, rfl, rfl, h1, d1, d1'⟩
    | succ j ih =>
      intro k N N' s1 t1 hk hN hN' h1 d1 d1'
      obtain ⟨N, rfl⟩ : ∃ M, N = M + 1 := ⟨N - 1, by omega⟩
      obtain ⟨N', rfl⟩ : ∃ M, N' = M + 1 := ⟨N' - 1, by omega⟩
      obtain ⟨x, s2, y, t2, e, e', h2, d2, d2'⟩ := litem2 h1 hr 0 (Int32.ofNat k) (Int32.ofNat k) (V2.nat hw)
      rw [stp K N k s1 s2 x (by omega) h1.1.2.2.1 (by rw [d1.st 5 (by omega)]; exact ew) e, stp K' N' k t1 t2 y (by omega) h1.2.1.2.2.1 (by rw [d1'.st 5 (by omega)]; exact ew') e']
      exact ih (k + 1) N N' s2 t2 (by omega) (by omega) (by omega) h2 (d1.trans d2) (d1'.trans d2')
  exact go n 0 BIG BIG s t (by omega) (by unfold BIG; omega) (by unfold BIG; omega) h h.dl h.dr
theorem seed2 {s t : S} (h : M n E R E' R' s t) : ∃ s' t', k_seedItems s = some s' ∧ k_seedItems t = some t' ∧ M n E R E' R' s' t' ∧ D s s' ∧ D t t' := by
  unfold k_seedItems
  have r12 := h.1.2.2.2.2.2.2.2.2.1
  have r12' := h.2.1.2.2.2.2.2.2.2.2.1
  have rr := h.2.2.2.1
  refine lp2 (fun N (_ : Unit) k s => k_seedItems_2 N k s) (fun _ _ s1 t1 => M n E R E' R' s1 t1 ∧ D s s1 ∧ D t t1) (fun o o' => ∃ s' t', o = some s' ∧ o' = some t' ∧ M n E R E' R' s' t' ∧ D s s' ∧ D t t') R ?_ ?_ R 0 BIG BIG () () s t (by omega) (by unfold BIG; omega) (by unfold BIG; omega) ⟨h, h.dl, h.dr⟩
  · rintro N N' k _ _ s1 t1 hk ⟨h1, d1, d1'⟩
    obtain ⟨s2, t2, e, e', h2, d2, d2'⟩ := seedin2 (fun v1 s => k_seedItems_2 N v1 s) (fun v1 s => k_seedItems_2 N' v1 s) h1 hk
    refine ⟨(), (), s2, t2, ?_, ?_, h2, d1.trans d2, d1'.trans d2'⟩
    · show k_seedItems_2 (N + 1) _ _ = k_seedItems_2 N _ _
      rw [k_seedItems_2, h1.1.2.2.2.2.1, if_pos ((ofNat_lt (by omega) (by omega)).mpr hk), e]
    · show k_seedItems_2 (N' + 1) _ _ = k_seedItems_2 N' _ _
      rw [k_seedItems_2, h1.2.1.2.2.2.2.1, if_pos ((ofNat_lt (by omega) (by omega)).mpr (by omega)), e']
  · rintro N N' _ _ s1 t1 hN hN' ⟨h1, d1, d1'⟩
    show ∃ s' t', k_seedItems_2 (N + 1) _ _ = _ ∧ _
    rw [k_seedItems_2, h1.1.2.2.2.2.1, if_neg (fun z => by have := (ofNat_lt (by omega) (by omega)).mp z; omega)]
    have : ∃ t', k_seedItems_2 (N' + 1) (Int32.ofNat R) t1 = some t' ∧ M n E R E' R' s1 t' ∧ D t1 t' := by
      refine lp (fun N (_ : Unit) k s => k_seedItems_2 N k s) (fun _ t2 => M n E R E' R' s1 t2 ∧ D t1 t2) (fun o => ∃ t', o = some t' ∧ M n E R E' R' s1 t' ∧ D t1 t') R' ?_ ?_ (R' - R) R (N' + 1) () t1 (by omega) (by omega) ⟨h1, h1.dr⟩
      · rintro N k _ t2 hk ⟨h2, d2⟩
        obtain ⟨s3, t3, e, e', h3, d3, d3'⟩ := seedin2 (fun v1 s => k_seedItems_2 N v1 s) (fun v1 s => k_seedItems_2 N v1 s) h2.self hk
        refine ⟨(), t3, ?_, h2.low d3', d2.trans d3'⟩
        show k_seedItems_2 (N + 1) _ _ = k_seedItems_2 N _ _
        rw [k_seedItems_2, h2.2.1.2.2.2.2.1, if_pos ((ofNat_lt (by omega) (by omega)).mpr hk), e']
      · rintro N _ t2 ⟨h2, d2⟩
        show ∃ t', k_seedItems_2 (N + 1) _ _ = _ ∧ _
        rw [k_seedItems_2, h2.2.1.2.2.2.2.1, if_neg (fun z => by have := (ofNat_lt (by omega) (by omega)).mp z; omega)]
        exact ⟨t2, rfl, h2, d2⟩
    obtain ⟨t', e', h2, d2⟩ := this
    exact ⟨s1, t', rfl, e', h2, d1, d1'.trans d2⟩
theorem inside2 {s t : S} (h : M n E R E' R' s t) : ∃ s' t', k_runInside s = some s' ∧ k_runInside t = some t' ∧ M n E R E' R' s' t' ∧ D s s' ∧ D t t' := by
  unfold k_runInside
  have n8 := h.1.2.2.2.2.2.2.1
  obtain ⟨s1, t1, e1, e1', h1, d1, d1'⟩ := scan2 h
  obtain ⟨s2, t2, e2, e2', h2, d2, d2'⟩ := seed2 h1
  rw [e1, Option.bind_some, e2, Option.bind_some, e1', Option.bind_some, e2', Option.bind_some]
  refine lp2 (fun N (_ : Unit) k s => k_runInside_10 N k s) (fun _ _ s1 t1 => M n E R E' R' s1 t1 ∧ D s s1 ∧ D t t1) (fun o o' => ∃ s' t', o = some s' ∧ o' = some t' ∧ M n E R E' R' s' t' ∧ D s s' ∧ D t t') n ?_ ?_ n 0 BIG BIG () () s2 t2 (by omega) (by unfold BIG; omega) (by unfold BIG; omega) ⟨h2, d1.trans d2, d1'.trans d2'⟩
  · rintro N N' k _ _ s1 t1 hk ⟨h1, d1, d1'⟩
    obtain ⟨s2, t2, e, e', h2, d2, d2'⟩ := row2 (fun v1 s => k_runInside_10 N v1 s) (fun v1 s => k_runInside_10 N' v1 s) (show k < 8 by omega) k BIG BIG s1 t1 (by omega) (by unfold BIG; omega) (by unfold BIG; omega) h1
    refine ⟨(), (), s2, t2, ?_, ?_, h2, d1.trans d2, d1'.trans d2'⟩
    · show k_runInside_10 (N + 1) _ _ = k_runInside_10 N _ _
      rw [k_runInside_10, h1.1.2.2.1, if_pos ((ofNat_lt (by omega) (by omega)).mpr hk), e]
    · show k_runInside_10 (N' + 1) _ _ = k_runInside_10 N' _ _
      rw [k_runInside_10, h1.2.1.2.2.1, if_pos ((ofNat_lt (by omega) (by omega)).mpr hk), e']
  · rintro N N' _ _ s1 t1 hN hN' ⟨h1, d1, d1'⟩
    show ∃ s' t', k_runInside_10 (N + 1) _ _ = _ ∧ k_runInside_10 (N' + 1) _ _ = _ ∧ _
    rw [k_runInside_10, h1.1.2.2.1, if_neg (fun z => by have := (ofNat_lt (by omega) (by omega)).mp z; omega), k_runInside_10, h1.2.1.2.2.1, if_neg (fun z => by have := (ofNat_lt (by omega) (by omega)).mp z; omega)]
    exact ⟨s1, t1, rfl, rfl, h1, d1, d1'⟩
end
section
variable {n E R E' R' : Nat}
theorem seedR2 {s t : S} (h : M n E R E' R' s t) {r : Nat} (hr : r < R) : ∃ s' t', k_seedRest (Int32.ofNat r) s = some s' ∧ k_seedRest (Int32.ofNat r) t = some t' ∧ M n E R E' R' s' t' ∧ D s s' ∧ D t t' := by
  unfold k_seedRest
  have n8 := h.1.2.2.2.2.2.2.1
  have r12 := h.1.2.2.2.2.2.2.2.2.1
  obtain ⟨l, l3, el, el'⟩ := len_same h hr
  rw [ix_ofNat _ (by omega), el, Option.bind_some, ix_ofNat _ (by omega), el', Option.bind_some]
  refine lp2 (fun N (_ : Unit) k s => k_seedRest_9 N (Int32.ofNat r) (Int32.ofNat l) k s) (fun _ _ s1 t1 => M n E R E' R' s1 t1 ∧ D s s1 ∧ D t t1) (fun o o' => ∃ s' t', o = some s' ∧ o' = some t' ∧ M n E R E' R' s' t' ∧ D s s' ∧ D t t') n ?_ ?_ n 0 BIG BIG () () s t (by omega) (by unfold BIG; omega) (by unfold BIG; omega) ⟨h, h.dl, h.dr⟩
  · rintro N N' k _ _ s1 t1 hk ⟨h1, d1, d1'⟩
    obtain ⟨x, s2, y, t2, e, e', h2, d2, d2'⟩ := lrest2 h1 hr (Int32.ofNat l) (Int32.ofNat k) (Int32.ofNat k) (w := 0) (w' := 0) ⟨0, 0, by omega, by omega, rfl, rfl⟩
    refine ⟨(), (), s2, t2, ?_, ?_, h2, d1.trans d2, d1'.trans d2'⟩
    · show k_seedRest_9 (N + 1) _ _ _ _ = k_seedRest_9 N _ _ _ _
      rw [k_seedRest_9, h1.1.2.2.1, if_pos ((ofNat_lt (by omega) (by omega)).mpr hk), e, Option.bind_some, ofNat_succ]
    · show k_seedRest_9 (N' + 1) _ _ _ _ = k_seedRest_9 N' _ _ _ _
      rw [k_seedRest_9, h1.2.1.2.2.1, if_pos ((ofNat_lt (by omega) (by omega)).mpr hk), e', Option.bind_some, ofNat_succ]
  · rintro N N' _ _ s1 t1 hN hN' ⟨h1, d1, d1'⟩
    show ∃ s' t', k_seedRest_9 (N + 1) _ _ _ _ = _ ∧ k_seedRest_9 (N' + 1) _ _ _ _ = _ ∧ _
    rw [k_seedRest_9, h1.1.2.2.1, if_neg (fun z => by have := (ofNat_lt (by omega) (by omega)).mp z; omega), k_seedRest_9, h1.2.1.2.2.1, if_neg (fun z => by have := (ofNat_lt (by omega) (by omega)).mp z; omega)]
    exact ⟨s1, t1, rfl, rfl, h1, d1, d1'⟩
theorem restAt2 {s t : S} (h : M n E R E' R' s t) {r d u v : Nat} (hr : r < R) (hd : d < 3) (hu : u ≤ v) (hv : v < 8) : ∃ c c', k_restAt (Int32.ofNat r) (Int32.ofNat d) (Int32.ofNat u) (Int32.ofNat v) s = some c ∧ k_restAt (Int32.ofNat r) (Int32.ofNat d) (Int32.ofNat u) (Int32.ofNat v) t = some c' ∧ V2 c c' := by
  unfold k_restAt
  obtain ⟨x, ex, ex'⟩ := sym_same h hr hd
  have g0 : gI s 0 = 1073741824 := h.1.2.1
  have g0' : gI t 0 = 1073741824 := h.2.1.2.1
  rw [ex, Option.bind_some, g0, ex', Option.bind_some, g0']
  refine lp2 (fun N (c : Int32) k s => k_restAt_17 N (Int32.ofNat r) (Int32.ofNat d) (Int32.ofNat u) (Int32.ofNat v) x c k s) (fun c c' s1 t1 => s1 = s ∧ t1 = t ∧ V2 c c') (fun o o' => ∃ c c', o = some c ∧ o' = some c' ∧ V2 c c') (v + 1) ?_ ?_ (v + 1 - u) u BIG BIG _ _ s t (by omega) (by unfold BIG; omega) (by unfold BIG; omega) ⟨rfl, rfl, V2.inf⟩
  · rintro N N' k c c' s1 t1 hk ⟨rfl, rfl, hc⟩
    obtain ⟨b, b', eb, eb', hb⟩ := gspan2 h x (Int32.ofNat u) (Int32.ofNat k)
    obtain ⟨a, a', ea, ea', ha⟩ := grest2 h hr (Int32.ofNat d + 1) (Int32.ofNat k) (Int32.ofNat v)
    refine ⟨_, _, s1, t1, ?_, ?_, rfl, rfl, hc.min g0 g0' hb ha⟩
    · show k_restAt_17 (N + 1) _ _ _ _ _ _ _ _ = k_restAt_17 N _ _ _ _ _ _ _ _
      rw [k_restAt_17, if_neg (fun z => by have := (ofNat_lt (by omega) (by omega)).mp z; omega), eb, Option.bind_some, ea, Option.bind_some, ofNat_succ]
    · show k_restAt_17 (N' + 1) _ _ _ _ _ _ _ _ = k_restAt_17 N' _ _ _ _ _ _ _ _
      rw [k_restAt_17, if_neg (fun z => by have := (ofNat_lt (by omega) (by omega)).mp z; omega), eb', Option.bind_some, ea', Option.bind_some, ofNat_succ]
  · rintro N N' c c' s1 t1 _ _ ⟨rfl, rfl, hc⟩
    show ∃ d d', k_restAt_17 (N + 1) _ _ _ _ _ _ _ _ = _ ∧ k_restAt_17 (N' + 1) _ _ _ _ _ _ _ _ = _ ∧ _
    rw [k_restAt_17, k_restAt_17, if_pos ((ofNat_lt (by omega) (by omega)).mpr (by omega)), if_pos ((ofNat_lt (by omega) (by omega)).mpr (by omega))]
    exact ⟨c, c', rfl, rfl, hc⟩
theorem fillin2 (K K' : Int32 → Int32 → Int32 → S → Option S) {s t : S} (h : M n E R E' R' s t) {r d u : Nat} (hr : r < R) (hd : d < 3) (hu : u < n) : ∃ s' t', k_fillRestLevel_13 K BIG (Int32.ofNat r) (Int32.ofNat d) (Int32.ofNat u) (Int32.ofNat u) s = K (Int32.ofNat r) (Int32.ofNat d) (Int32.ofNat (u + 1)) s' ∧ k_fillRestLevel_13 K' BIG (Int32.ofNat r) (Int32.ofNat d) (Int32.ofNat u) (Int32.ofNat u) t = K' (Int32.ofNat r) (Int32.ofNat d) (Int32.ofNat (u + 1)) t' ∧ M n E R E' R' s' t' ∧ D s s' ∧ D t t' := by
  have n8 := h.1.2.2.2.2.2.2.1
  have stp : ∀ (K : Int32 → Int32 → Int32 → S → Option S) (N k : Nat) (s s' : S) (x w : Int32), k < n → gI s 1 = Int32.ofNat n → k_restAt (Int32.ofNat r) (Int32.ofNat d) (Int32.ofNat u) (Int32.ofNat k) s = some w → k_lowerRest (Int32.ofNat r) (Int32.ofNat d) (Int32.ofNat u) (Int32.ofNat k) w s = some (x, s') → k_fillRestLevel_13 K (N + 1) (Int32.ofNat r) (Int32.ofNat d) (Int32.ofNat u) (Int32.ofNat k) s = k_fillRestLevel_13 K N (Int32.ofNat r) (Int32.ofNat d) (Int32.ofNat u) (Int32.ofNat (k + 1)) s' := fun K N k s s' x w hk g e1 e2 => by
    rw [k_fillRestLevel_13, g, if_pos ((ofNat_lt (by omega) (by omega)).mpr hk), e1, Option.bind_some, e2, Option.bind_some, ofNat_succ]
  have fin : ∀ (K : Int32 → Int32 → Int32 → S → Option S) (N : Nat) (s : S), gI s 1 = Int32.ofNat n → k_fillRestLevel_13 K (N + 1) (Int32.ofNat r) (Int32.ofNat d) (Int32.ofNat u) (Int32.ofNat n) s = K (Int32.ofNat r) (Int32.ofNat d) (Int32.ofNat (u + 1)) s := fun K N s g => by
    rw [k_fillRestLevel_13, g, if_neg (fun z => by have := (ofNat_lt (by omega) (by omega)).mp z; omega), ofNat_succ]
  have go : ∀ j k N N' s1 t1, k + j = n → u ≤ k → j < N → j < N' → M n E R E' R' s1 t1 → D s s1 → D t t1 → ∃ s' t', k_fillRestLevel_13 K N (Int32.ofNat r) (Int32.ofNat d) (Int32.ofNat u) (Int32.ofNat k) s1 = K (Int32.ofNat r) (Int32.ofNat d) (Int32.ofNat (u + 1)) s' ∧ k_fillRestLevel_13 K' N' (Int32.ofNat r) (Int32.ofNat d) (Int32.ofNat u) (Int32.ofNat k) t1 = K' (Int32.ofNat r) (Int32.ofNat d) (Int32.ofNat (u + 1)) t' ∧ M n E R E' R' s' t' ∧ D s s' ∧ D t t' := by
    intro j
    induction j with
    | zero =>
      intro k N N' s1 t1 hk _ hN hN' h1 d1 d1'
      obtain ⟨N, rfl⟩ : ∃ M, N = M + 1 := ⟨N - 1, by omega⟩
      obtain ⟨N', rfl⟩ : ∃ M, N' = M + 1 := ⟨N' - 1, by omega⟩
      have : k = n := by omega
      rw [this, fin K N s1 h1.1.2.2.1, fin K' N' t1 h1.2.1.2.2.1]
      exact ⟨s1, t1, rfl, rfl, h1, d1, d1'⟩
    | succ j ih =>
      intro k N N' s1 t1 hk huk hN hN' h1 d1 d1'
      obtain ⟨N, rfl⟩ : ∃ M, N = M + 1 := ⟨N - 1, by omega⟩
      obtain ⟨N', rfl⟩ : ∃ M, N' = M + 1 := ⟨N' - 1, by omega⟩
      obtain ⟨w, w', ew, ew', hw⟩ := restAt2 h1 hr hd huk (show k < 8 by omega)
      obtain ⟨x, s2, y, t2, e, e', h2, d2, d2'⟩ := lrest2 h1 hr (Int32.ofNat d) (Int32.ofNat u) (Int32.ofNat k) hw
      rw [stp K N k s1 s2 x w (by omega) h1.1.2.2.1 ew e, stp K' N' k t1 t2 y w' (by omega) h1.2.1.2.2.1 ew' e']
      exact ih (k + 1) N N' s2 t2 (by omega) (by omega) (by omega) (by omega) h2 (d1.trans d2) (d1'.trans d2')
  exact go (n - u) u BIG BIG s t (by omega) (by omega) (by unfold BIG; omega) (by unfold BIG; omega) h h.dl h.dr
theorem fill2 {s t : S} (h : M n E R E' R' s t) {r d : Nat} (hr : r < R) (hd : d < 3) : ∃ s' t', k_fillRestLevel (Int32.ofNat r) (Int32.ofNat d) s = some s' ∧ k_fillRestLevel (Int32.ofNat r) (Int32.ofNat d) t = some t' ∧ M n E R E' R' s' t' ∧ D s s' ∧ D t t' := by
  unfold k_fillRestLevel
  have n8 := h.1.2.2.2.2.2.2.1
  refine lp2 (fun N (_ : Unit) k s => k_fillRestLevel_2 N (Int32.ofNat r) (Int32.ofNat d) k s) (fun _ _ s1 t1 => M n E R E' R' s1 t1 ∧ D s s1 ∧ D t t1) (fun o o' => ∃ s' t', o = some s' ∧ o' = some t' ∧ M n E R E' R' s' t' ∧ D s s' ∧ D t t') n ?_ ?_ n 0 BIG BIG () () s t (by omega) (by unfold BIG; omega) (by unfold BIG; omega) ⟨h, h.dl, h.dr⟩
  · rintro N N' k _ _ s1 t1 hk ⟨h1, d1, d1'⟩
    obtain ⟨s2, t2, e, e', h2, d2, d2'⟩ := fillin2 (fun v1 v2 v3 s => k_fillRestLevel_2 N v1 v2 v3 s) (fun v1 v2 v3 s => k_fillRestLevel_2 N' v1 v2 v3 s) h1 hr hd hk
    refine ⟨(), (), s2, t2, ?_, ?_, h2, d1.trans d2, d1'.trans d2'⟩
    · show k_fillRestLevel_2 (N + 1) _ _ _ _ = k_fillRestLevel_2 N _ _ _ _
      rw [k_fillRestLevel_2, h1.1.2.2.1, if_pos ((ofNat_lt (by omega) (by omega)).mpr hk), e]
    · show k_fillRestLevel_2 (N' + 1) _ _ _ _ = k_fillRestLevel_2 N' _ _ _ _
      rw [k_fillRestLevel_2, h1.2.1.2.2.1, if_pos ((ofNat_lt (by omega) (by omega)).mpr hk), e']
  · rintro N N' _ _ s1 t1 hN hN' ⟨h1, d1, d1'⟩
    show ∃ s' t', k_fillRestLevel_2 (N + 1) _ _ _ _ = _ ∧ k_fillRestLevel_2 (N' + 1) _ _ _ _ = _ ∧ _
    rw [k_fillRestLevel_2, h1.1.2.2.1, if_neg (fun z => by have := (ofNat_lt (by omega) (by omega)).mp z; omega), k_fillRestLevel_2, h1.2.1.2.2.1, if_neg (fun z => by have := (ofNat_lt (by omega) (by omega)).mp z; omega)]
    exact ⟨s1, t1, rfl, rfl, h1, d1, d1'⟩
theorem rlev2 (K K' : Int32 → S → Option S) {r : Nat} (hr : r < R) : ∀ d N N' s t, d ≤ 3 → d < N → d < N' → M n E R E' R' s t → ∃ s' t', k_runRest_26 K N (Int32.ofNat r) (Int32.ofNat d - 1) s = K (Int32.ofNat (r + 1)) s' ∧ k_runRest_26 K' N' (Int32.ofNat r) (Int32.ofNat d - 1) t = K' (Int32.ofNat (r + 1)) t' ∧ M n E R E' R' s' t' ∧ D s s' ∧ D t t'
  | _, 0, _, _, _, _, h, _, _ => by omega
  | _, _, 0, _, _, _, _, h, _ => by omega
  | 0, N + 1, N' + 1, s, t, hd, hN, hN', h => by
    rw [k_runRest_26, if_pos (show Int32.ofNat 0 - 1 < 0 by decide), k_runRest_26, if_pos (show Int32.ofNat 0 - 1 < 0 by decide), ofNat_succ]
    exact ⟨s, t, rfl, rfl, h, h.dl, h.dr⟩
  | d + 1, N + 1, N' + 1, s, t, hd, hN, hN', h => by
    obtain ⟨s1, t1, e, e', h1, d1, d1'⟩ := fill2 h hr (show d < 3 by omega)
    have ed : Int32.ofNat (d + 1) - 1 = Int32.ofNat d := by rw [← ofNat_succ, Int32.add_sub_cancel]
    have em : Int32.ofNat d + -1 = Int32.ofNat d - 1 := (Int32.sub_eq_add_neg (Int32.ofNat d) 1).symm
    rw [ed, k_runRest_26, if_neg (ofNat_nonneg (by omega)), e, Option.bind_some, k_runRest_26, if_neg (ofNat_nonneg (by omega)), e', Option.bind_some, em]
    obtain ⟨s2, t2, i1, i2, i3, i4, i5⟩ := rlev2 K K' hr d N N' s1 t1 (by omega) (by omega) (by omega) h1
    exact ⟨s2, t2, i1, i2, i3, d1.trans i4, d1'.trans i5⟩
/-- one rule of the suffix pass -/
theorem rule2 (K K' : Int32 → S → Option S) {s t : S} (h : M n E R E' R' s t) {r : Nat} (hr : r < R) : ∃ s1 t1 a s' t', k_seedRest (Int32.ofNat r) s = some s1 ∧ k_seedRest (Int32.ofNat r) t = some t1 ∧ (gA s1 6)[r]? = some a ∧ (gA t1 6)[r]? = some a ∧ k_runRest_26 K BIG (Int32.ofNat r) (a - 1) s1 = K (Int32.ofNat (r + 1)) s' ∧ k_runRest_26 K' BIG (Int32.ofNat r) (a - 1) t1 = K' (Int32.ofNat (r + 1)) t' ∧ M n E R E' R' s' t' ∧ D s s' ∧ D t t' := by
  obtain ⟨s1, t1, e, e', h1, d1, d1'⟩ := seedR2 h hr
  obtain ⟨l, l3, el, el'⟩ := len_same h1 hr
  obtain ⟨s2, t2, i1, i2, i3, i4, i5⟩ := rlev2 K K' hr l BIG BIG s1 t1 l3 (by unfold BIG; omega) (by unfold BIG; omega) h1
  exact ⟨s1, t1, _, s2, t2, e, e', el, el', i1, i2, i3, d1.trans i4, d1'.trans i5⟩
theorem rr_step {N r : Nat} {s s1 s' : S} {a : Int32} (hk : Int32.ofNat r < gI s 3) (h12 : r < 12) (e1 : k_seedRest (Int32.ofNat r) s = some s1) (e2 : (gA s1 6)[r]? = some a) (e3 : k_runRest_26 (fun v1 s => k_runRest_2 N v1 s) BIG (Int32.ofNat r) (a - 1) s1 = k_runRest_2 N (Int32.ofNat (r + 1)) s') : k_runRest_2 (N + 1) (Int32.ofNat r) s = k_runRest_2 N (Int32.ofNat (r + 1)) s' := by
  rw [k_runRest_2, if_pos hk, e1, Option.bind_some, ix_ofNat _ (by omega), e2, Option.bind_some, e3]
theorem rest2 {s t : S} (h : M n E R E' R' s t) : ∃ s' t', k_runRest s = some s' ∧ k_runRest t = some t' ∧ M n E R E' R' s' t' ∧ D s s' ∧ D t t' := by
  unfold k_runRest
  have r12 := h.1.2.2.2.2.2.2.2.2.1
  have r12' := h.2.1.2.2.2.2.2.2.2.2.1
  have rr := h.2.2.2.1
  refine lp2 (fun N (_ : Unit) k s => k_runRest_2 N k s) (fun _ _ s1 t1 => M n E R E' R' s1 t1 ∧ D s s1 ∧ D t t1) (fun o o' => ∃ s' t', o = some s' ∧ o' = some t' ∧ M n E R E' R' s' t' ∧ D s s' ∧ D t t') R ?_ ?_ R 0 BIG BIG () () s t (by omega) (by unfold BIG; omega) (by unfold BIG; omega) ⟨h, h.dl, h.dr⟩
  · rintro N N' k _ _ s1 t1 hk ⟨h1, d1, d1'⟩
    obtain ⟨s2, t2, a, s3, t3, e1, e1', e2, e2', e3, e3', h3, d3, d3'⟩ := rule2 (fun v1 s => k_runRest_2 N v1 s) (fun v1 s => k_runRest_2 N' v1 s) h1 hk
    exact ⟨(), (), s3, t3, rr_step (by rw [h1.1.2.2.2.2.1]; exact (ofNat_lt (by omega) (by omega)).mpr hk) (by omega) e1 e2 e3, rr_step (by rw [h1.2.1.2.2.2.2.1]; exact (ofNat_lt (by omega) (by omega)).mpr (by omega)) (by omega) e1' e2' e3', h3, d1.trans d3, d1'.trans d3'⟩
  · rintro N N' _ _ s1 t1 hN hN' ⟨h1, d1, d1'⟩
    show ∃ s' t', k_runRest_2 (N + 1) _ _ = _ ∧ _
    rw [k_runRest_2, h1.1.2.2.2.2.1, if_neg (fun z => by have := (ofNat_lt (by omega) (by omega)).mp z; omega)]
    have : ∃ t', k_runRest_2 (N' + 1) (Int32.ofNat R) t1 = some t' ∧ M n E R E' R' s1 t' ∧ D t1 t' := by
      refine lp (fun N (_ : Unit) k s => k_runRest_2 N k s) (fun _ t2 => M n E R E' R' s1 t2 ∧ D t1 t2) (fun o => ∃ t', o = some t' ∧ M n E R E' R' s1 t' ∧ D t1 t') R' ?_ ?_ (R' - R) R (N' + 1) () t1 (by omega) (by omega) ⟨h1, h1.dr⟩
      · rintro N k _ t2 hk ⟨h2, d2⟩
        obtain ⟨s3, t3, a, s4, t4, e1, e1', e2, e2', e3, e3', h3, d3, d3'⟩ := rule2 (fun v1 s => k_runRest_2 N v1 s) (fun v1 s => k_runRest_2 N v1 s) h2.self hk
        exact ⟨(), t4, rr_step (by rw [h2.2.1.2.2.2.2.1]; exact (ofNat_lt (by omega) (by omega)).mpr hk) (by omega) e1' e2' e3', h2.low d3', d2.trans d3'⟩
      · rintro N _ t2 ⟨h2, d2⟩
        show ∃ t', k_runRest_2 (N + 1) _ _ = _ ∧ _
        rw [k_runRest_2, h2.2.1.2.2.2.2.1, if_neg (fun z => by have := (ofNat_lt (by omega) (by omega)).mp z; omega)]
        exact ⟨t2, rfl, h2, d2⟩
    obtain ⟨t', e', h2, d2⟩ := this
    exact ⟨s1, t', rfl, e', h2, d1, d1'.trans d2⟩
theorem V2.min3 {s t : S} (g : gI s 0 = 1073741824) (g' : gI t 0 = 1073741824) {c c' x x' y y' z z' : Int32} (h : V2 c c') (hx : V2 x x') (hy : V2 y y') (hz : V2 z z') : V2 (if k_plus3 x y z s < c then k_plus3 x y z s else c) (if k_plus3 x' y' z' t < c' then k_plus3 x' y' z' t else c') := by
  unfold k_plus3
  exact h.min g g' (V2.plus g g' hx hy) hz
theorem ctxin2 (K K' : Int32 → Int32 → Int32 → Int32 → Int32 → Int32 → Int32 → Int32 → S → Option Int32) {s t : S} (h : M n E R E' R' s t) {r : Nat} (hr : r < R) (v2 v3 v5 v8 : Int32) {v top : Nat} (hv : v ≤ top) (ht : top < 8) {c c' : Int32} (hc : V2 c c') : ∃ e e', k_bestContext_34 K BIG (Int32.ofNat r) v2 v3 (Int32.ofNat v) v5 (Int32.ofNat top) c v8 (Int32.ofNat v) s = K (Int32.ofNat r) v2 v3 (Int32.ofNat v) v5 (Int32.ofNat top) e (v8 + 1) s ∧ k_bestContext_34 K' BIG (Int32.ofNat r) v2 v3 (Int32.ofNat v) v5 (Int32.ofNat top) c' v8 (Int32.ofNat v) t = K' (Int32.ofNat r) v2 v3 (Int32.ofNat v) v5 (Int32.ofNat top) e' (v8 + 1) t ∧ V2 e e' := by
  have g0 : gI s 0 = 1073741824 := h.1.2.1
  have g0' : gI t 0 = 1073741824 := h.2.1.2.1
  have fin : ∀ (K : Int32 → Int32 → Int32 → Int32 → Int32 → Int32 → Int32 → Int32 → S → Option Int32) (N : Nat) (c : Int32) (s : S), k_bestContext_34 K (N + 1) (Int32.ofNat r) v2 v3 (Int32.ofNat v) v5 (Int32.ofNat top) c v8 (Int32.ofNat (top + 1)) s = K (Int32.ofNat r) v2 v3 (Int32.ofNat v) v5 (Int32.ofNat top) c (v8 + 1) s := fun K N c s => by
    rw [k_bestContext_34, if_pos ((ofNat_lt (by omega) (by omega)).mpr (by omega))]
  have stp : ∀ (K : Int32 → Int32 → Int32 → Int32 → Int32 → Int32 → Int32 → Int32 → S → Option Int32) (N k : Nat) (c x y z : Int32) (s : S), k ≤ top → k_getOuter v5 v8 (Int32.ofNat k) s = some x → k_getItem (Int32.ofNat r) v2 v8 v3 s = some y → k_getRest (Int32.ofNat r) (v2 + 1) (Int32.ofNat v) (Int32.ofNat k) s = some z → k_bestContext_34 K (N + 1) (Int32.ofNat r) v2 v3 (Int32.ofNat v) v5 (Int32.ofNat top) c v8 (Int32.ofNat k) s = k_bestContext_34 K N (Int32.ofNat r) v2 v3 (Int32.ofNat v) v5 (Int32.ofNat top) (if k_plus3 x y z s < c then k_plus3 x y z s else c) v8 (Int32.ofNat (k + 1)) s := fun K N k c x y z s hk e1 e2 e3 => by
    rw [k_bestContext_34, if_neg (fun z => by have := (ofNat_lt (by omega) (by omega)).mp z; omega), e1, Option.bind_some, e2, Option.bind_some, e3, Option.bind_some, ofNat_succ]
  have go : ∀ j k N N' c c', k + j = top + 1 → j < N → j < N' → V2 c c' → ∃ e e', k_bestContext_34 K N (Int32.ofNat r) v2 v3 (Int32.ofNat v) v5 (Int32.ofNat top) c v8 (Int32.ofNat k) s = K (Int32.ofNat r) v2 v3 (Int32.ofNat v) v5 (Int32.ofNat top) e (v8 + 1) s ∧ k_bestContext_34 K' N' (Int32.ofNat r) v2 v3 (Int32.ofNat v) v5 (Int32.ofNat top) c' v8 (Int32.ofNat k) t = K' (Int32.ofNat r) v2 v3 (Int32.ofNat v) v5 (Int32.ofNat top) e' (v8 + 1) t ∧ V2 e e' := by
    intro j
    induction j with
    | zero =>
      intro k N N' c c' hk hN hN' hc
      obtain ⟨N, rfl⟩ : ∃ M, N = M + 1 := ⟨N - 1, by omega⟩
      obtain ⟨N', rfl⟩ : ∃ M, N' = M + 1 := ⟨N' - 1, by omega⟩
      have : k = top + 1 := by omega
      rw [this, fin, fin]
      exact ⟨c, c', rfl, rfl, hc⟩
    | succ j ih =>
      intro k N N' c c' hk hN hN' hc
      obtain ⟨N, rfl⟩ : ∃ M, N = M + 1 := ⟨N - 1, by omega⟩
      obtain ⟨N', rfl⟩ : ∃ M, N' = M + 1 := ⟨N' - 1, by omega⟩
      obtain ⟨x, x', ex, ex', hx⟩ := gout2 h v5 v8 (Int32.ofNat k)
      obtain ⟨y, y', ey, ey', hy⟩ := gitem2 h hr v2 v8 v3
      obtain ⟨z, z', ez, ez', hz⟩ := grest2 h hr (v2 + 1) (Int32.ofNat v) (Int32.ofNat k)
      rw [stp K N k c x y z s (by omega) ex ey ez, stp K' N' k c' x' y' z' t (by omega) ex' ey' ez']
      exact ih (k + 1) N N' _ _ (by omega) (by omega) (by omega) (hc.min3 g0 g0' hx hy hz)
  exact go (top + 1 - v) v BIG BIG c c' (by omega) (by unfold BIG; omega) (by unfold BIG; omega) hc
theorem ctx2 {s t : S} (h : M n E R E' R' s t) {r : Nat} (hr : r < R) (v2 : Int32) {u v : Nat} (hu : u ≤ v) (hv : v < n) : ∃ c c', k_bestContext (Int32.ofNat r) v2 (Int32.ofNat u) (Int32.ofNat v) s = some c ∧ k_bestContext (Int32.ofNat r) v2 (Int32.ofNat u) (Int32.ofNat v) t = some c' ∧ V2 c c' := by
  unfold k_bestContext
  obtain ⟨L, g0, g1, g2, g3, n2, n8, _⟩ := id h.1
  have g0' : gI t 0 = 1073741824 := h.2.1.2.1
  have g1' : gI t 1 = Int32.ofNat n := h.2.1.2.2.1
  obtain ⟨x, ex, ex'⟩ := head_same h hr
  rw [ex, Option.bind_some, g0, g1, ex', Option.bind_some, g0', g1', top_nat n2]
  refine lp2 (fun N (c : Int32) k s => k_bestContext_24 N (Int32.ofNat r) v2 (Int32.ofNat u) (Int32.ofNat v) x (Int32.ofNat (n - 1)) c k s) (fun c c' s1 t1 => s1 = s ∧ t1 = t ∧ V2 c c') (fun o o' => ∃ c c', o = some c ∧ o' = some c' ∧ V2 c c') (u + 1) ?_ ?_ (u + 1) 0 BIG BIG _ _ s t (by omega) (by unfold BIG; omega) (by unfold BIG; omega) ⟨rfl, rfl, V2.inf⟩
  · rintro N N' k c c' s1 t1 hk ⟨rfl, rfl, hc⟩
    obtain ⟨e, e', i1, i2, i3⟩ := ctxin2 (fun v1 v2 v3 v4 v5 v6 v7 v8 s => k_bestContext_24 N v1 v2 v3 v4 v5 v6 v7 v8 s) (fun v1 v2 v3 v4 v5 v6 v7 v8 s => k_bestContext_24 N' v1 v2 v3 v4 v5 v6 v7 v8 s) h hr v2 (Int32.ofNat u) x (Int32.ofNat k) (show v ≤ n - 1 by omega) (by omega) hc
    refine ⟨e, e', s1, t1, ?_, ?_, rfl, rfl, i3⟩
    · show k_bestContext_24 (N + 1) _ _ _ _ _ _ _ _ _ = k_bestContext_24 N _ _ _ _ _ _ _ _ _
      rw [k_bestContext_24, if_neg (fun z => by have := (ofNat_lt (by omega) (by omega)).mp z; omega), i1, ofNat_succ]
    · show k_bestContext_24 (N' + 1) _ _ _ _ _ _ _ _ _ = k_bestContext_24 N' _ _ _ _ _ _ _ _ _
      rw [k_bestContext_24, if_neg (fun z => by have := (ofNat_lt (by omega) (by omega)).mp z; omega), i2, ofNat_succ]
  · rintro N N' c c' s1 t1 _ _ ⟨rfl, rfl, hc⟩
    show ∃ d d', k_bestContext_24 (N + 1) _ _ _ _ _ _ _ _ _ = _ ∧ k_bestContext_24 (N' + 1) _ _ _ _ _ _ _ _ _ = _ ∧ _
    rw [k_bestContext_24, k_bestContext_24, if_pos ((ofNat_lt (by omega) (by omega)).mpr (by omega)), if_pos ((ofNat_lt (by omega) (by omega)).mpr (by omega))]
    exact ⟨c, c', rfl, rfl, hc⟩
theorem orule2 {s t : S} (h : M n E R E' R' s t) {r u v : Nat} (hr : r < R) (hu : u ≤ v) (hv : v < n) : ∃ x s' y t', k_outerRule (Int32.ofNat r) (Int32.ofNat u) (Int32.ofNat v) s = some (x, s') ∧ k_outerRule (Int32.ofNat r) (Int32.ofNat u) (Int32.ofNat v) t = some (y, t') ∧ M n E R E' R' s' t' ∧ D s s' ∧ D t t' := by
  unfold k_outerRule
  have r12 := h.1.2.2.2.2.2.2.2.2.1
  obtain ⟨l, l3, el, el'⟩ := len_same h hr
  rw [ix_ofNat _ (by omega), el, Option.bind_some, ix_ofNat _ (by omega), el', Option.bind_some]
  refine lp2 (fun N (c : Int32) k s => k_outerRule_14 N (Int32.ofNat r) (Int32.ofNat u) (Int32.ofNat v) c (Int32.ofNat l) k s) (fun c c' s1 t1 => M n E R E' R' s1 t1 ∧ D s s1 ∧ D t t1) (fun o o' => ∃ x s' y t', o = some (x, s') ∧ o' = some (y, t') ∧ M n E R E' R' s' t' ∧ D s s' ∧ D t t') l ?_ ?_ l 0 BIG BIG 0 0 s t (by omega) (by unfold BIG; omega) (by unfold BIG; omega) ⟨h, h.dl, h.dr⟩
  · rintro N N' k c c' s1 t1 hk ⟨h1, d1, d1'⟩
    obtain ⟨w, w', ew, ew', hw⟩ := ctx2 h1 hr (Int32.ofNat k) hu hv
    obtain ⟨z, ez, ez'⟩ := sym_same h1 hr (show k < 3 by omega)
    obtain ⟨x, s2, y, t2, e, e', h2, d2, d2'⟩ := lout2 h1 z (Int32.ofNat u) (Int32.ofNat v) hw
    refine ⟨(if x = 0 then c else 1), (if y = 0 then c' else 1), s2, t2, ?_, ?_, h2, d1.trans d2, d1'.trans d2'⟩
    · show k_outerRule_14 (N + 1) _ _ _ _ _ _ _ = k_outerRule_14 N _ _ _ _ _ _ _
      rw [k_outerRule_14, if_pos ((ofNat_lt (by omega) (by omega)).mpr hk), ew, Option.bind_some, ez, Option.bind_some, e, Option.bind_some, ofNat_succ]
    · show k_outerRule_14 (N' + 1) _ _ _ _ _ _ _ = k_outerRule_14 N' _ _ _ _ _ _ _
      rw [k_outerRule_14, if_pos ((ofNat_lt (by omega) (by omega)).mpr hk), ew', Option.bind_some, ez', Option.bind_some, e', Option.bind_some, ofNat_succ]
  · rintro N N' c c' s1 t1 _ _ ⟨h1, d1, d1'⟩
    show ∃ x s' y t', k_outerRule_14 (N + 1) _ _ _ _ _ _ _ = _ ∧ k_outerRule_14 (N' + 1) _ _ _ _ _ _ _ = _ ∧ _
    rw [k_outerRule_14, if_neg (fun z => by have := (ofNat_lt (by omega) (by omega)).mp z; omega), k_outerRule_14, if_neg (fun z => by have := (ofNat_lt (by omega) (by omega)).mp z; omega)]
    exact ⟨_, s1, _, t1, rfl, rfl, h1, d1, d1'⟩
theorem or_step {N : Nat} {u v c x : Int32} {k : Nat} {s s' : S} (hk : Int32.ofNat k < gI s 3) (e1 : k_outerRule (Int32.ofNat k) u v s = some (x, s')) : k_outerRound_5 (N + 1) u v c (Int32.ofNat k) s = k_outerRound_5 N u v (if x = 0 then c else 1) (Int32.ofNat (k + 1)) s' := by
  rw [k_outerRound_5, if_pos hk, e1, Option.bind_some, ofNat_succ]
theorem oround2 {s t : S} (h : M n E R E' R' s t) {u v : Nat} (hu : u ≤ v) (hv : v < n) : ∃ x s' y t', k_outerRound (Int32.ofNat u) (Int32.ofNat v) s = some (x, s') ∧ k_outerRound (Int32.ofNat u) (Int32.ofNat v) t = some (y, t') ∧ M n E R E' R' s' t' ∧ D s s' ∧ D t t' := by
  unfold k_outerRound
  have r12 := h.1.2.2.2.2.2.2.2.2.1
  have r12' := h.2.1.2.2.2.2.2.2.2.2.1
  have rr := h.2.2.2.1
  refine lp2 (fun N (c : Int32) k s => k_outerRound_5 N (Int32.ofNat u) (Int32.ofNat v) c k s) (fun c c' s1 t1 => M n E R E' R' s1 t1 ∧ D s s1 ∧ D t t1) (fun o o' => ∃ x s' y t', o = some (x, s') ∧ o' = some (y, t') ∧ M n E R E' R' s' t' ∧ D s s' ∧ D t t') R ?_ ?_ R 0 BIG BIG 0 0 s t (by omega) (by unfold BIG; omega) (by unfold BIG; omega) ⟨h, h.dl, h.dr⟩
  · rintro N N' k c c' s1 t1 hk ⟨h1, d1, d1'⟩
    obtain ⟨x, s2, y, t2, e1, e1', h3, d3, d3'⟩ := orule2 h1 hk hu hv
    exact ⟨_, _, s2, t2, or_step (by rw [h1.1.2.2.2.2.1]; exact (ofNat_lt (by omega) (by omega)).mpr hk) e1, or_step (by rw [h1.2.1.2.2.2.2.1]; exact (ofNat_lt (by omega) (by omega)).mpr (by omega)) e1', h3, d1.trans d3, d1'.trans d3'⟩
  · rintro N N' c c' s1 t1 hN hN' ⟨h1, d1, d1'⟩
    show ∃ x s' y t', k_outerRound_5 (N + 1) _ _ _ _ _ = _ ∧ _
    rw [k_outerRound_5, h1.1.2.2.2.2.1, if_neg (fun z => by have := (ofNat_lt (by omega) (by omega)).mp z; omega)]
    have : ∃ y t', k_outerRound_5 (N' + 1) (Int32.ofNat u) (Int32.ofNat v) c' (Int32.ofNat R) t1 = some (y, t') ∧ M n E R E' R' s1 t' ∧ D t1 t' := by
      refine lp (fun N (c : Int32) k s => k_outerRound_5 N (Int32.ofNat u) (Int32.ofNat v) c k s) (fun c t2 => M n E R E' R' s1 t2 ∧ D t1 t2) (fun o => ∃ y t', o = some (y, t') ∧ M n E R E' R' s1 t' ∧ D t1 t') R' ?_ ?_ (R' - R) R (N' + 1) c' t1 (by omega) (by omega) ⟨h1, h1.dr⟩
      · rintro N k c t2 hk ⟨h2, d2⟩
        obtain ⟨x, s2, y, t3, e1, e1', h3, d3, d3'⟩ := orule2 h2.self hk hu hv
        exact ⟨_, t3, or_step (by rw [h2.2.1.2.2.2.2.1]; exact (ofNat_lt (by omega) (by omega)).mpr hk) e1', h2.low d3', d2.trans d3'⟩
      · rintro N c t2 ⟨h2, d2⟩
        show ∃ y t', k_outerRound_5 (N + 1) _ _ _ _ _ = _ ∧ _
        rw [k_outerRound_5, h2.2.1.2.2.2.2.1, if_neg (fun z => by have := (ofNat_lt (by omega) (by omega)).mp z; omega)]
        exact ⟨_, t2, rfl, h2, d2⟩
    obtain ⟨y, t', e', h2, d2⟩ := this
    exact ⟨_, s1, y, t', rfl, e', h2, d1, d1'.trans d2⟩
theorem oclose2 {s t : S} (h : M n E R E' R' s t) {u v : Nat} (hu : u ≤ v) (hv : v < n) : ∃ s' t', k_closeOuterCell (Int32.ofNat u) (Int32.ofNat v) s = some s' ∧ k_closeOuterCell (Int32.ofNat u) (Int32.ofNat v) t = some t' ∧ M n E R E' R' s' t' ∧ D s s' ∧ D t t' := by
  unfold k_closeOuterCell
  rw [cl_out, cl_out]
  exact cl2 (fun s x s' e => orndI_z e) (fun s t h => oround2 h hu hv) 24 0 BIG BIG 1 1 s t (by omega) (by unfold BIG; omega) (by unfold BIG; omega) h (fun z => absurd z (by decide)) (fun z => absurd z (by decide))
theorem orow2 (K K' : Int32 → Int32 → S → Option S) {d : Nat} {s t : S} (h : M n E R E' R' s t) (hd : d ≤ n - 1) : ∃ s' t', k_runOuter_25 K BIG (Int32.ofNat (n - 1)) (Int32.ofNat d) 0 s = K (Int32.ofNat (n - 1)) (Int32.ofNat d + (-1)) s' ∧ k_runOuter_25 K' BIG (Int32.ofNat (n - 1)) (Int32.ofNat d) 0 t = K' (Int32.ofNat (n - 1)) (Int32.ofNat d + (-1)) t' ∧ M n E R E' R' s' t' ∧ D s s' ∧ D t t' := by
  have n8 := h.1.2.2.2.2.2.2.1
  have n2 := h.1.2.2.2.2.2.1
  have fin : ∀ (K : Int32 → Int32 → S → Option S) (N k : Nat) (s : S), k + d = n → k_runOuter_25 K (N + 1) (Int32.ofNat (n - 1)) (Int32.ofNat d) (Int32.ofNat k) s = K (Int32.ofNat (n - 1)) (Int32.ofNat d + (-1)) s := fun K N k s e => by
    rw [k_runOuter_25, ofNat_add', if_pos ((ofNat_lt (by omega) (by omega)).mpr (by omega))]
  have stp : ∀ (K : Int32 → Int32 → S → Option S) (N k : Nat) (s s' : S), k + d < n → k_closeOuterCell (Int32.ofNat k) (Int32.ofNat (k + d)) s = some s' → k_runOuter_25 K (N + 1) (Int32.ofNat (n - 1)) (Int32.ofNat d) (Int32.ofNat k) s = k_runOuter_25 K N (Int32.ofNat (n - 1)) (Int32.ofNat d) (Int32.ofNat (k + 1)) s' := fun K N k s s' hk e => by
    rw [k_runOuter_25, ofNat_add', if_neg (fun z => by have := (ofNat_lt (by omega) (by omega)).mp z; omega), e, Option.bind_some, ofNat_succ]
  have go : ∀ j k N N' s1 t1, k + d + j = n → j < N → j < N' → M n E R E' R' s1 t1 → D s s1 → D t t1 → ∃ s' t', k_runOuter_25 K N (Int32.ofNat (n - 1)) (Int32.ofNat d) (Int32.ofNat k) s1 = K (Int32.ofNat (n - 1)) (Int32.ofNat d + (-1)) s' ∧ k_runOuter_25 K' N' (Int32.ofNat (n - 1)) (Int32.ofNat d) (Int32.ofNat k) t1 = K' (Int32.ofNat (n - 1)) (Int32.ofNat d + (-1)) t' ∧ M n E R E' R' s' t' ∧ D s s' ∧ D t t' := by
    intro j
    induction j with
    | zero =>
      intro k N N' s1 t1 hk hN hN' h1 d1 d1'
      obtain ⟨N, rfl⟩ : ∃ M, N = M + 1 := ⟨N - 1, by omega⟩
      obtain ⟨N', rfl⟩ : ∃ M, N' = M + 1 := ⟨N' - 1, by omega⟩
      rw [fin K N k s1 (by omega), fin K' N' k t1 (by omega)]
      exact ⟨s1, t1, rfl, rfl, h1, d1, d1'⟩
    | succ j ih =>
      intro k N N' s1 t1 hk hN hN' h1 d1 d1'
      obtain ⟨N, rfl⟩ : ∃ M, N = M + 1 := ⟨N - 1, by omega⟩
      obtain ⟨N', rfl⟩ : ∃ M, N' = M + 1 := ⟨N' - 1, by omega⟩
      obtain ⟨s2, t2, e, e', h2, d2, d2'⟩ := oclose2 h1 (show k ≤ k + d by omega) (show k + d < n by omega)
      rw [stp K N k s1 s2 (by omega) e, stp K' N' k t1 t2 (by omega) e']
      exact ih (k + 1) N N' s2 t2 (by omega) (by omega) (by omega) h2 (d1.trans d2) (d1'.trans d2')
  exact go (n - d) 0 BIG BIG s t (by omega) (by unfold BIG; omega) (by unfold BIG; omega) h h.dl h.dr
theorem oloop2 : ∀ d N N' s t, d ≤ n - 1 → d + 1 < N → d + 1 < N' → M n E R E' R' s t → ∃ s' t', k_runOuter_19 N (Int32.ofNat (n - 1)) (Int32.ofNat d) s = some s' ∧ k_runOuter_19 N' (Int32.ofNat (n - 1)) (Int32.ofNat d) t = some t' ∧ M n E R E' R' s' t' ∧ D s s' ∧ D t t'
  | _, 0, _, _, _, _, h, _, _ => by omega
  | _, _, 0, _, _, _, _, h, _ => by omega
  | 0, N + 1, N' + 1, s, t, hd, hN, hN', h => by
    have n8 := h.1.2.2.2.2.2.2.1
    obtain ⟨N, rfl⟩ : ∃ M, N = M + 1 := ⟨N - 1, by omega⟩
    obtain ⟨N', rfl⟩ : ∃ M, N' = M + 1 := ⟨N' - 1, by omega⟩
    obtain ⟨s1, t1, e, e', h1, d1, d1'⟩ := orow2 (fun v1 v2 s => k_runOuter_19 (N + 1) v1 v2 s) (fun v1 v2 s => k_runOuter_19 (N' + 1) v1 v2 s) h hd
    have last : ∀ N s, k_runOuter_19 (N + 1) (Int32.ofNat (n - 1)) (Int32.ofNat 0 + -1) s = some s := fun N s => by rw [k_runOuter_19, if_pos (show Int32.ofNat 0 + -1 < 0 by decide)]
    rw [k_runOuter_19, if_neg (ofNat_nonneg (by omega)), e, last, k_runOuter_19, if_neg (ofNat_nonneg (by omega)), e', last]
    exact ⟨s1, t1, rfl, rfl, h1, d1, d1'⟩
  | d + 1, N + 1, N' + 1, s, t, hd, hN, hN', h => by
    have n8 := h.1.2.2.2.2.2.2.1
    obtain ⟨s1, t1, e, e', h1, d1, d1'⟩ := orow2 (fun v1 v2 s => k_runOuter_19 N v1 v2 s) (fun v1 v2 s => k_runOuter_19 N' v1 v2 s) h hd
    rw [k_runOuter_19, if_neg (ofNat_nonneg (by omega)), e, k_runOuter_19, if_neg (ofNat_nonneg (by omega)), e', dec_nat]
    obtain ⟨s2, t2, i1, i2, i3, i4, i5⟩ := oloop2 d N N' s1 t1 (by omega) (by omega) (by omega) h1
    exact ⟨s2, t2, i1, i2, i3, d1.trans i4, d1'.trans i5⟩
theorem outer2 {s t : S} (h : M n E R E' R' s t) : ∃ s' t', k_runOuter s = some s' ∧ k_runOuter t = some t' ∧ M n E R E' R' s' t' ∧ D s s' ∧ D t t' := by
  unfold k_runOuter
  obtain ⟨L, g0, g1, g2, g3, n2, n8, _⟩ := id h.1
  have g1' : gI t 1 = Int32.ofNat n := h.2.1.2.2.1
  obtain ⟨x, s1, y, t1, e, e', h1, d1, d1'⟩ := lout2 h 8 0 (Int32.ofNat (n - 1)) (w := 0) (w' := 0) ⟨0, 0, by omega, by omega, rfl, rfl⟩
  rw [g1, g1', top_nat n2, e, Option.bind_some, e', Option.bind_some]
  obtain ⟨s2, t2, i1, i2, i3, i4, i5⟩ := oloop2 (n - 1) BIG BIG s1 t1 (by omega) (by unfold BIG; omega) (by unfold BIG; omega) h1
  exact ⟨s2, t2, i1, i2, i3, d1.trans i4, d1'.trans i5⟩
end
theorem ct37' {s : S} (L : ElenT s) : ∃ s', k_clearTables_35 s = some s' ∧ ElenT s' ∧ Fx [] [] [9, 10] [] s s' ∧ (∀ i, i < 3072 → (gA s' 9)[i]? = some (gI s 0)) ∧ ∀ i, i < 3072 → (gA s' 10)[i]? = some (gI s 0) := by
  unfold k_clearTables_35
  refine lpk k_clearTables_37 (fun k t => ElenT t ∧ Fx [] [] [9, 10] [] s t ∧ (∀ i, i < k → (gA t 9)[i]? = some (gI s 0)) ∧ ∀ i, i < k → (gA t 10)[i]? = some (gI s 0)) (fun o => ∃ s', o = some s' ∧ ElenT s' ∧ Fx [] [] [9, 10] [] s s' ∧ (∀ i, i < 3072 → (gA s' 9)[i]? = some (gI s 0)) ∧ ∀ i, i < 3072 → (gA s' 10)[i]? = some (gI s 0)) 3072 ?_ ?_ 3072 0 BIG s (by omega) (by unfold BIG; omega) ⟨L, Fx.refl .., fun i hi => by omega, fun i hi => by omega⟩
  · rintro N k t hk ⟨Lt, F, Z, Z'⟩
    have l9 : (gA t 9).length = 3072 := Lt.2.2.2.2.2.2.2.2.2.1
    have l10 : (gA t 10).length = 3072 := Lt.2.2.2.2.2.2.2.2.2.2.1
    have g0 : gI t 0 = gI s 0 := F.1 0 (by simp)
    refine ⟨sA (sA t 9 ((gA t 9).set k (gI t 0))) 10 ((gA t 10).set k (gI t 0)), ?_, by simpa [ElenT, gA_sA] using Lt, (F.sA (by simp)).sA (by simp), ?_, ?_⟩
    · rw [k_clearTables_37, if_pos ((lt_lit (m := 3072) (by omega)).mpr hk), st_ofNat _ _ (by omega) (by omega), Option.bind_some, st_ofNat _ _ (by omega) (by omega), Option.bind_some, ofNat_succ]
    · rw [gA_sA, if_neg (by decide), gA_sA, if_pos rfl, g0]
      exact zero_set l9 hk Z
    · rw [gA_sA, if_pos rfl, g0]
      exact zero_set l10 hk Z'
  · rintro N t ⟨Lt, F, Z⟩
    rw [k_clearTables_37, if_neg (show ¬ Int32.ofNat 3072 < 3072 by decide)]
    exact ⟨t, rfl, Lt, F, Z⟩
theorem ct4 {s : S} (L : ElenT s) : ∃ s', k_clearTables s = some s' ∧ ElenT s' ∧ Fx [] [] [8, 9, 10, 11] [] s s' ∧ (∀ i, i < 1024 → (gA s' 8)[i]? = some (gI s 0)) ∧ (∀ i, i < 1024 → (gA s' 11)[i]? = some (gI s 0)) ∧ (∀ i, i < 3072 → (gA s' 9)[i]? = some (gI s 0)) ∧ ∀ i, i < 3072 → (gA s' 10)[i]? = some (gI s 0) := by
  unfold k_clearTables
  refine lpk k_clearTables_2 (fun k t => ElenT t ∧ Fx [] [] [8, 11] [] s t ∧ (∀ i, i < k → (gA t 8)[i]? = some (gI s 0)) ∧ ∀ i, i < k → (gA t 11)[i]? = some (gI s 0)) (fun o => ∃ s', o = some s' ∧ ElenT s' ∧ Fx [] [] [8, 9, 10, 11] [] s s' ∧ (∀ i, i < 1024 → (gA s' 8)[i]? = some (gI s 0)) ∧ (∀ i, i < 1024 → (gA s' 11)[i]? = some (gI s 0)) ∧ (∀ i, i < 3072 → (gA s' 9)[i]? = some (gI s 0)) ∧ ∀ i, i < 3072 → (gA s' 10)[i]? = some (gI s 0)) 1024 ?_ ?_ 1024 0 BIG s (by omega) (by unfold BIG; omega) ⟨L, Fx.refl .., fun i hi => by omega, fun i hi => by omega⟩
  · rintro N k t hk ⟨Lt, F, Z, Z'⟩
    have l8 : (gA t 8).length = 1024 := Lt.2.2.2.2.2.2.2.2.1
    have l11 : (gA t 11).length = 1024 := Lt.2.2.2.2.2.2.2.2.2.2.2
    have g0 : gI t 0 = gI s 0 := F.1 0 (by simp)
    refine ⟨sA (sA t 8 ((gA t 8).set k (gI t 0))) 11 ((gA t 11).set k (gI t 0)), ?_, by simpa [ElenT, gA_sA] using Lt, (F.sA (by simp)).sA (by simp), ?_, ?_⟩
    · rw [k_clearTables_2, if_pos ((lt_lit (m := 1024) (by omega)).mpr hk), st_ofNat _ _ (by omega) (by omega), Option.bind_some, st_ofNat _ _ (by omega) (by omega), Option.bind_some, ofNat_succ]
    · rw [gA_sA, if_neg (by decide), gA_sA, if_pos rfl, g0]
      exact zero_set l8 hk Z
    · rw [gA_sA, if_pos rfl, g0]
      exact zero_set l11 hk Z'
  · rintro N t ⟨Lt, F, Z, Z'⟩
    obtain ⟨t', e, Lt', F', Y, Y'⟩ := ct37' Lt
    rw [k_clearTables_2, if_neg (show ¬ Int32.ofNat 1024 < 1024 by decide), e]
    refine ⟨t', rfl, Lt', (F.mono (by simp) (by simp) (by simp) (by simp)).trans (F'.mono (by simp) (by simp) (by simp) (by simp)), ?_, ?_, ?_, ?_⟩
    · rw [F'.2.2.1 8 (by simp)]; exact Z
    · rw [F'.2.2.1 11 (by simp)]; exact Z'
    · rw [← F.1 0 (by simp)]; exact Y
    · rw [← F.1 0 (by simp)]; exact Y'
section
variable {n E R E' R' : Nat}
theorem T.inf {N : Nat} {l l' : List Int32} (hl : l.length = N) (hl' : l'.length = N) (h : ∀ i, i < N → l[i]? = some 1073741824) (h' : ∀ i, i < N → l'[i]? = some 1073741824) : T N l l' := ⟨hl, hl', fun i hi => ⟨1073741824, 1073741824, by omega, by omega, h i hi, h' i hi⟩⟩
theorem tf8 {P : Nat → Prop} (h8 : P 8) (h9 : P 9) (h10 : P 10) (h11 : P 11) : ∀ f, 8 ≤ f → f ≤ 11 → P f := fun f a b => by
  rcases (by omega : f = 8 ∨ f = 9 ∨ f = 10 ∨ f = 11) with rfl | rfl | rfl | rfl
  · exact h8
  · exact h9
  · exact h10
  · exact h11
theorem clear2 {s t : S} (hs : Es n E R s) (ht : Es n E' R' t) (ee : E ≤ E') (rr : R ≤ R') (su : Sub E R s t) : ∃ s' t', k_clearTables s = some s' ∧ k_clearTables t = some t' ∧ M n E R E' R' s' t' ∧ Fx [] [] [8, 9, 10, 11] [] s s' ∧ Fx [] [] [8, 9, 10, 11] [] t t' := by
  obtain ⟨s', e, L, F, a8, a11, a9, a10⟩ := ct4 hs.1
  obtain ⟨t', e', L', F', b8, b11, b9, b10⟩ := ct4 ht.1
  rw [hs.2.1] at a8 a9 a10 a11
  rw [ht.2.1] at b8 b9 b10 b11
  refine ⟨s', t', e, e', ⟨hs.fx (F.mono (by simp) (by simp) (by simp) (by simp)) L, ht.fx (F'.mono (by simp) (by simp) (by simp) (by simp)) L', ee, rr, su.same (fun f hf => F.2.2.1 f (by simp; omega)) (fun f hf => F'.2.2.1 f (by simp; omega)), ?_⟩, F, F'⟩
  obtain ⟨_, _, _, _, _, _, _, _, l8, l9, l10, l11⟩ := L
  obtain ⟨_, _, _, _, _, _, _, _, m8, m9, m10, m11⟩ := L'
  exact tf8 (T.inf l8 m8 a8 b8) (T.inf l9 m9 a9 b9) (T.inf l10 m10 a10 b10) (T.inf l11 m11 a11 b11)
theorem M.st45 {s t : S} (h : M n E R E' R' s t) (a b c d : Int32) : M n E R E' R' (sI (sI s 4 a) 5 b) (sI (sI t 4 c) 5 d) := by
  obtain ⟨x, y, z, u, v, w⟩ := h
  have F : ∀ (s : S) a b, Fx [4, 5] [] [8, 9, 10, 11] [] s (sI (sI s 4 a) 5 b) := fun s a b => ((Fx.refl ..).sI (by simp)).sI (by simp)
  have A : ∀ (s : S) a b f, gA (sI (sI s 4 a) 5 b) f = gA s f := fun s a b f => by simp [gA_sI]
  refine ⟨x.fx (F s a b) ?_, y.fx (F t c d) ?_, z, u, v.same (fun f _ => A s a b f) (fun f _ => A t c d f), fun f p q => ?_⟩
  · have := x.1; unfold ElenT at this ⊢; simp only [A]; exact this
  · have := y.1; unfold ElenT at this ⊢; simp only [A]; exact this
  · rw [A, A]; exact w f p q
theorem top2 {s t : S} (h : M n E R E' R' s t) : ∃ c c', k_getSpan 8 0 (gI s 1 - 1) s = some c ∧ k_getSpan 8 0 (gI t 1 - 1) t = some c' ∧ V2 c c' := by
  rw [h.1.2.2.1, h.2.1.2.2.1]
  exact gspan2 h 8 0 (Int32.ofNat n - 1)
/-- what two parses give -/
theorem parse2 {s t : S} (hs : Es n E R s) (ht : Es n E' R' t) (ee : E ≤ E') (rr : R ≤ R') (su : Sub E R s t) : ∃ b s' b' t', k_parse s = some (b, s') ∧ k_parse t = some (b', t') ∧ M n E R E' R' s' t' ∧ ((gI s' 4 = 1 ∧ gI t' 4 = 1 ∧ V2 (gI s' 5) (gI t' 5)) ∨ (gI s' 4 = 2 ∧ (gI t' 4 = 1 ∨ gI t' 4 = 2))) := by
  obtain ⟨s1, t1, e1, e1', h1, F1, F1'⟩ := clear2 hs ht ee rr su
  obtain ⟨s2, t2, e2, e2', h2, d2, d2'⟩ := inside2 h1
  obtain ⟨c, c', ec, ec', hv⟩ := top2 h2
  have g0 : gI s2 0 = 1073741824 := h2.1.2.1
  have g0' : gI t2 0 = 1073741824 := h2.2.1.2.1
  obtain ⟨a, b, ba, ai, rfl, rfl⟩ := id hv
  unfold k_parse
  rw [e1, Option.bind_some, e2, Option.bind_some, ec, Option.bind_some, e1', Option.bind_some, e2', Option.bind_some, ec', Option.bind_some, g0, g0']
  have ga : ∀ (s : S) a b, gI (sI (sI s 4 a) 5 b) 4 = a ∧ gI (sI (sI s 4 a) 5 b) 5 = b := fun s a b => by simp [gI_sI]
  by_cases q : a < 1073741824
  · have ia : Int32.ofNat a < 1073741824 := (lt_lit (m := 1073741824) (by omega)).mpr q
    have ib : Int32.ofNat b < 1073741824 := (lt_lit (m := 1073741824) (by omega)).mpr (by omega)
    rw [if_pos ia, if_pos ib]
    obtain ⟨s4, t4, e4, e4', h4, d4, d4'⟩ := rest2 (h2.st45 1 (Int32.ofNat a) 1 (Int32.ofNat b))
    obtain ⟨s5, t5, e5, e5', h5, d5, d5'⟩ := outer2 h4
    have p4 : gI s5 4 = 1 := by rw [d5.1.1 4 (by simp), d4.1.1 4 (by simp), (ga _ _ _).1]
    have p5 : gI s5 5 = Int32.ofNat a := by rw [d5.1.1 5 (by simp), d4.1.1 5 (by simp), (ga _ _ _).2]
    have q4 : gI t5 4 = 1 := by rw [d5'.1.1 4 (by simp), d4'.1.1 4 (by simp), (ga _ _ _).1]
    have q5 : gI t5 5 = Int32.ofNat b := by rw [d5'.1.1 5 (by simp), d4'.1.1 5 (by simp), (ga _ _ _).2]
    unfold k_parse_63
    rw [e4, Option.bind_some, e5, Option.bind_some, e4', Option.bind_some, e5', Option.bind_some, p4, q4, if_pos rfl]
    refine ⟨_, s5, _, t5, rfl, rfl, h5, Or.inl ⟨p4, q4, ?_⟩⟩
    rw [p5, q5]; exact hv
  · have ia : ¬ Int32.ofNat a < 1073741824 := fun z => q ((lt_lit (m := 1073741824) (by omega)).mp z)
    rw [if_neg ia]
    by_cases q' : b < 1073741824
    · have ib : Int32.ofNat b < 1073741824 := (lt_lit (m := 1073741824) (by omega)).mpr (by omega)
      rw [if_pos ib]
      have h3 := h2.st45 2 (-1) 1 (Int32.ofNat b)
      obtain ⟨_, t4, _, e4', h4, _, d4'⟩ := rest2 h3.self
      obtain ⟨_, t5, _, e5', h5, _, d5'⟩ := outer2 h4.self
      have q4 : gI t5 4 = 1 := by rw [d5'.1.1 4 (by simp), d4'.1.1 4 (by simp), (ga _ _ _).1]
      unfold k_parse_63
      rw [e4', Option.bind_some, e5', Option.bind_some, q4, if_pos rfl, (ga s2 2 (-1)).1, if_neg (show ¬ (2 : Int32) = 1 by decide)]
      exact ⟨_, _, _, t5, rfl, rfl, h3.low (d4'.trans d5'), Or.inr ⟨(ga _ _ _).1, Or.inl q4⟩⟩
    · have ib : ¬ Int32.ofNat b < 1073741824 := fun z => q' ((lt_lit (m := 1073741824) (by omega)).mp z)
      rw [if_neg ib]
      unfold k_parse_63
      rw [(ga s2 2 (-1)).1, (ga t2 2 (-1)).1, if_neg (show ¬ (2 : Int32) = 1 by decide)]
      exact ⟨_, _, _, _, rfl, rfl, h2.st45 2 (-1) 2 (-1), Or.inr ⟨(ga _ _ _).1, Or.inr (ga _ _ _).1⟩⟩
/-- an answer, and one that is not worse -/
def Q (x y : Int32) : Prop := x = -1 ∨ ∃ a b, b ≤ a ∧ a ≤ 1073741824 ∧ x = Int32.ofNat a ∧ y = Int32.ofNat b
theorem nat_m1 {a : Nat} (h : a ≤ 1073741824) : ¬ Int32.ofNat a = -1 := fun e => by
  have := ofNat_nonneg (k := a) (by omega)
  rw [e] at this
  exact this (by decide)
theorem Q.eq {x y : Int32} (h : Q x y) (k : Q y x) : x = y := by
  rcases h with h | ⟨a, b, h1, h2, h3, h4⟩
  · rcases k with k | ⟨c, d, k1, k2, k3, k4⟩
    · rw [h, k]
    · rw [h] at k4; exact absurd k4.symm (nat_m1 (by omega))
  · rcases k with k | ⟨c, d, k1, k2, k3, k4⟩
    · rw [k] at h4; exact absurd h4.symm (nat_m1 (by omega))
    · rw [h3] at k4; rw [h4] at k3
      have e1 := on_inj h2 (by omega) k4
      have e2 := on_inj (by omega) k2 k3
      rw [h3, h4]
      congr 1
      omega
theorem Q.ans {s t : S} (g : gI s 0 = 1073741824) (g' : gI t 0 = 1073741824) {c c' : Int32} (h : V2 c c') : Q (k_answer c s) (k_answer c' t) := by
  obtain ⟨a, b, h1, h2, rfl, rfl⟩ := h
  unfold k_answer
  rw [g, g']
  by_cases q : a < 1073741824
  · rw [if_pos ((lt_lit (m := 1073741824) (by omega)).mpr q), if_pos ((lt_lit (m := 1073741824) (by omega)).mpr (show b < 1073741824 by omega)), if_neg (ofNat_nonneg (by omega)), if_neg (ofNat_nonneg (by omega))]
    exact Or.inr ⟨a, b, h1, h2, rfl, rfl⟩
  · rw [if_neg (fun z => q ((lt_lit (m := 1073741824) (by omega)).mp z))]; exact Or.inl rfl
theorem sw2 {s t : S} (h : M n E R E' R' s t) (s4 : ¬ gI s 4 = 0) (t4 : ¬ gI t 4 = 0) (v1 v2 v3 : Int32) : ∃ x y, k_spanWeight v1 v2 v3 s = some x ∧ k_spanWeight v1 v2 v3 t = some y ∧ Q x y := by
  unfold k_spanWeight
  rw [if_neg s4, if_neg t4]
  have en : ∀ v, k_isNode v t = k_isNode v s := fun v => by unfold k_isNode; rw [h.1.2.2.1, h.2.1.2.2.1]
  rw [en, en]
  by_cases c1 : k_isCode v1 = 0
  · rw [if_pos c1, if_pos c1]; exact ⟨_, _, rfl, rfl, Or.inl rfl⟩
  rw [if_neg c1, if_neg c1]
  by_cases c2 : k_isNode v2 s = 0
  · rw [if_pos c2, if_pos c2]; exact ⟨_, _, rfl, rfl, Or.inl rfl⟩
  rw [if_neg c2, if_neg c2]
  by_cases c3 : k_isNode v3 s = 0
  · rw [if_pos c3, if_pos c3]; exact ⟨_, _, rfl, rfl, Or.inl rfl⟩
  rw [if_neg c3, if_neg c3]
  by_cases c4 : v3 < v2
  · rw [if_pos c4, if_pos c4]; exact ⟨_, _, rfl, rfl, Or.inl rfl⟩
  rw [if_neg c4, if_neg c4]
  obtain ⟨c, c', e, e', hv⟩ := gspan2 h v1 v2 v3
  rw [e, Option.bind_some, e', Option.bind_some]
  exact ⟨_, _, rfl, rfl, Q.ans h.1.2.1 h.2.1.2.1 hv⟩
theorem eb_both {s t : S} (h : M n E R E' R' s t) (s4 : gI s 4 = 1) (t4 : gI t 4 = 1) {e : Nat} (he : e < E) : ∃ x y, k_edgeBest (Int32.ofNat e) s = some x ∧ k_edgeBest (Int32.ofNat e) t = some y ∧ Q x y := by
  obtain ⟨L, g0, g1, g2, g3, n2, n8, e16, r12, a6, a3, a5⟩ := id h.1
  have e16' := h.2.1.2.2.2.2.2.2.2.1
  have ee := h.2.2.1
  obtain ⟨a, b, c, w, _, _, _, _, p1, p2, p3, p4, q1, q2, q3, q4, _⟩ := edge2 h he
  have hw : V2 w w := by
    obtain ⟨w', hw', ew'⟩ := a3 e (by omega)
    rw [p4] at ew'
    cases ew'
    exact V2.nat hw'
  obtain ⟨d, d', ed, ed', hd⟩ := gout2 h a b c
  unfold k_edgeBest
  rw [if_pos s4, if_neg (ofNat_nonneg (by omega)), g2, if_pos ((ofNat_lt (by omega) (by omega)).mpr he), ix_ofNat _ (by omega), p1, Option.bind_some, ix_ofNat _ (by omega), p2, Option.bind_some, ix_ofNat _ (by omega), p3, Option.bind_some, ed, Option.bind_some, ix_ofNat _ (by omega), p4, Option.bind_some]
  rw [if_pos t4, if_neg (ofNat_nonneg (by omega)), h.2.1.2.2.2.1, if_pos ((ofNat_lt (by omega) (by omega)).mpr (by omega)), ix_ofNat _ (by omega), q1, Option.bind_some, ix_ofNat _ (by omega), q2, Option.bind_some, ix_ofNat _ (by omega), q3, Option.bind_some, ed', Option.bind_some, ix_ofNat _ (by omega), q4, Option.bind_some]
  exact ⟨_, _, rfl, rfl, Q.ans g0 h.2.1.2.1 (V2.plus g0 h.2.1.2.1 hd hw)⟩
theorem eb_no {s : S} (hs : Es n E R s) {e : Nat} (he : e < 16) (c : ¬ gI s 4 = 1 ∨ E ≤ e) : k_edgeBest (Int32.ofNat e) s = some (-1) := by
  have e16 := hs.2.2.2.2.2.2.2.1
  unfold k_edgeBest
  by_cases q : gI s 4 = 1
  · have c2 : E ≤ e := c.resolve_left (fun z => z q)
    rw [if_pos q, if_neg (ofNat_nonneg (by omega)), hs.2.2.2.1, if_neg (fun z => by have := (ofNat_lt (by omega) (by omega)).mp z; omega)]
  · rw [if_neg q]
theorem eb2 {s t : S} (h : M n E R E' R' s t) (i : gI s 4 = 1 → gI t 4 = 1) {e : Nat} (he : e < 16) : ∃ x y, k_edgeBest (Int32.ofNat e) s = some x ∧ k_edgeBest (Int32.ofNat e) t = some y ∧ Q x y := by
  by_cases c : gI s 4 = 1 ∧ e < E
  · exact eb_both h c.1 (i c.1) c.2
  · rw [eb_no h.1 he (by by_cases q : gI s 4 = 1; right; have : ¬ e < E := fun z => c ⟨q, z⟩; omega; left; exact q)]
    by_cases c' : gI t 4 = 1 ∧ e < E'
    · obtain ⟨x, y, _, ey, _⟩ := eb_both h.self c'.1 c'.1 c'.2
      exact ⟨_, y, rfl, ey, Or.inl rfl⟩
    · rw [eb_no h.2.1 he (by by_cases q : gI t 4 = 1; right; have : ¬ e < E' := fun z => c' ⟨q, z⟩; omega; left; exact q)]
      exact ⟨_, _, rfl, rfl, Or.inl rfl⟩
theorem rcin2 (K K' : Int32 → Int32 → Int32 → Int32 → Int32 → S → Option Int32) {s t : S} (h : M n E R E' R' s t) {r : Nat} (hr : r < R) (v2 v3 : Int32) {u : Nat} (hu : u < n) {c c' : Int32} (hc : V2 c c') : ∃ e e', k_ruleContext_35 K BIG (Int32.ofNat r) v2 v3 c (Int32.ofNat u) (Int32.ofNat u) s = K (Int32.ofNat r) v2 v3 e (Int32.ofNat (u + 1)) s ∧ k_ruleContext_35 K' BIG (Int32.ofNat r) v2 v3 c' (Int32.ofNat u) (Int32.ofNat u) t = K' (Int32.ofNat r) v2 v3 e' (Int32.ofNat (u + 1)) t ∧ V2 e e' := by
  have g0 : gI s 0 = 1073741824 := h.1.2.1
  have g0' : gI t 0 = 1073741824 := h.2.1.2.1
  have n8 := h.1.2.2.2.2.2.2.1
  have fin : ∀ (K : Int32 → Int32 → Int32 → Int32 → Int32 → S → Option Int32) (N : Nat) (c : Int32) (s : S), gI s 1 = Int32.ofNat n → k_ruleContext_35 K (N + 1) (Int32.ofNat r) v2 v3 c (Int32.ofNat u) (Int32.ofNat n) s = K (Int32.ofNat r) v2 v3 c (Int32.ofNat (u + 1)) s := fun K N c s g => by
    rw [k_ruleContext_35, g, if_neg (fun z => by have := (ofNat_lt (by omega) (by omega)).mp z; omega), ofNat_succ]
  have stp : ∀ (K : Int32 → Int32 → Int32 → Int32 → Int32 → S → Option Int32) (N k : Nat) (c x y : Int32) (s : S), gI s 1 = Int32.ofNat n → k < n → k_getOuter v2 (Int32.ofNat u) (Int32.ofNat k) s = some x → k_getItem (Int32.ofNat r) v3 (Int32.ofNat u) (Int32.ofNat k) s = some y → k_ruleContext_35 K (N + 1) (Int32.ofNat r) v2 v3 c (Int32.ofNat u) (Int32.ofNat k) s = k_ruleContext_35 K N (Int32.ofNat r) v2 v3 (if k_plus x y s < c then k_plus x y s else c) (Int32.ofNat u) (Int32.ofNat (k + 1)) s := fun K N k c x y s g hk e1 e2 => by
    rw [k_ruleContext_35, g, if_pos ((ofNat_lt (by omega) (by omega)).mpr hk), e1, Option.bind_some, e2, Option.bind_some, ofNat_succ]
  have go : ∀ j k N N' c c', k + j = n → j < N → j < N' → V2 c c' → ∃ e e', k_ruleContext_35 K N (Int32.ofNat r) v2 v3 c (Int32.ofNat u) (Int32.ofNat k) s = K (Int32.ofNat r) v2 v3 e (Int32.ofNat (u + 1)) s ∧ k_ruleContext_35 K' N' (Int32.ofNat r) v2 v3 c' (Int32.ofNat u) (Int32.ofNat k) t = K' (Int32.ofNat r) v2 v3 e' (Int32.ofNat (u + 1)) t ∧ V2 e e' := by
    intro j
    induction j with
    | zero =>
      intro k N N' c c' hk hN hN' hc
      obtain ⟨N, rfl⟩ : ∃ M, N = M + 1 := ⟨N - 1, by omega⟩
      obtain ⟨N', rfl⟩ : ∃ M, N' = M + 1 := ⟨N' - 1, by omega⟩
      have : k = n := by omega
      rw [this, fin K N c s h.1.2.2.1, fin K' N' c' t h.2.1.2.2.1]
      exact ⟨c, c', rfl, rfl, hc⟩
    | succ j ih =>
      intro k N N' c c' hk hN hN' hc
      obtain ⟨N, rfl⟩ : ∃ M, N = M + 1 := ⟨N - 1, by omega⟩
      obtain ⟨N', rfl⟩ : ∃ M, N' = M + 1 := ⟨N' - 1, by omega⟩
      obtain ⟨x, x', ex, ex', hx⟩ := gout2 h v2 (Int32.ofNat u) (Int32.ofNat k)
      obtain ⟨y, y', ey, ey', hy⟩ := gitem2 h hr v3 (Int32.ofNat u) (Int32.ofNat k)
      rw [stp K N k c x y s h.1.2.2.1 (by omega) ex ey, stp K' N' k c' x' y' t h.2.1.2.2.1 (by omega) ex' ey']
      exact ih (k + 1) N N' _ _ (by omega) (by omega) (by omega) (hc.min g0 g0' hx hy)
  exact go (n - u) u BIG BIG c c' (by omega) (by unfold BIG; omega) (by unfold BIG; omega) hc
theorem rb_both {s t : S} (h : M n E R E' R' s t) (s4 : gI s 4 = 1) (t4 : gI t 4 = 1) {r : Nat} (hr : r < R) : ∃ x y, k_ruleBest (Int32.ofNat r) s = some x ∧ k_ruleBest (Int32.ofNat r) t = some y ∧ Q x y := by
  obtain ⟨L, g0, g1, g2, g3, n2, n8, e16, r12, a6, a3, a5⟩ := id h.1
  have g0' : gI t 0 = 1073741824 := h.2.1.2.1
  have r12' := h.2.1.2.2.2.2.2.2.2.2.1
  have rr := h.2.2.2.1
  obtain ⟨l, l3, el, el'⟩ := len_same h hr
  obtain ⟨z, ez, ez'⟩ := head_same h hr
  have ir : ∀ (s : S) (R : Nat), gI s 3 = Int32.ofNat R → r < R → R ≤ 12 → k_isRule (Int32.ofNat r) s = 1 := fun s R g a b => by
    unfold k_isRule
    rw [if_neg (ofNat_nonneg (by omega)), g, if_pos ((ofNat_lt (by omega) (by omega)).mpr a)]
  have : ∃ c c', k_ruleContext (Int32.ofNat r) s = some c ∧ k_ruleContext (Int32.ofNat r) t = some c' ∧ V2 c c' := by
    unfold k_ruleContext
    rw [ez, Option.bind_some, ix_ofNat _ (by omega), el, Option.bind_some, ez', Option.bind_some, ix_ofNat _ (by omega), el', Option.bind_some, g0, g0']
    refine lp2 (fun N (c : Int32) k s => k_ruleContext_22 N (Int32.ofNat r) z (Int32.ofNat l) c k s) (fun c c' s1 t1 => s1 = s ∧ t1 = t ∧ V2 c c') (fun o o' => ∃ c c', o = some c ∧ o' = some c' ∧ V2 c c') n ?_ ?_ n 0 BIG BIG _ _ s t (by omega) (by unfold BIG; omega) (by unfold BIG; omega) ⟨rfl, rfl, V2.inf⟩
    · rintro N N' k c c' s1 t1 hk ⟨rfl, rfl, hc⟩
      obtain ⟨e, e', i1, i2, i3⟩ := rcin2 (fun v1 v2 v3 v4 v5 s => k_ruleContext_22 N v1 v2 v3 v4 v5 s) (fun v1 v2 v3 v4 v5 s => k_ruleContext_22 N' v1 v2 v3 v4 v5 s) h hr z (Int32.ofNat l) hk hc
      refine ⟨e, e', s1, t1, ?_, ?_, rfl, rfl, i3⟩
      · show k_ruleContext_22 (N + 1) _ _ _ _ _ _ = k_ruleContext_22 N _ _ _ _ _ _
        rw [k_ruleContext_22, g1, if_pos ((ofNat_lt (by omega) (by omega)).mpr hk), i1]
      · show k_ruleContext_22 (N' + 1) _ _ _ _ _ _ = k_ruleContext_22 N' _ _ _ _ _ _
        rw [k_ruleContext_22, h.2.1.2.2.1, if_pos ((ofNat_lt (by omega) (by omega)).mpr hk), i2]
    · rintro N N' c c' s1 t1 _ _ ⟨rfl, rfl, hc⟩
      show ∃ d d', k_ruleContext_22 (N + 1) _ _ _ _ _ _ = _ ∧ k_ruleContext_22 (N' + 1) _ _ _ _ _ _ = _ ∧ _
      rw [k_ruleContext_22, g1, if_neg (fun z => by have := (ofNat_lt (by omega) (by omega)).mp z; omega), k_ruleContext_22, h.2.1.2.2.1, if_neg (fun z => by have := (ofNat_lt (by omega) (by omega)).mp z; omega)]
      exact ⟨c, c', rfl, rfl, hc⟩
  obtain ⟨c, c', ec, ec', hv⟩ := this
  unfold k_ruleBest
  rw [if_pos s4, if_pos t4, ir s R g3 hr r12, ir t R' h.2.1.2.2.2.2.1 (by omega) r12', if_neg (show ¬ (1 : Int32) = 0 by decide), ec, Option.bind_some, if_neg (show ¬ (1 : Int32) = 0 by decide), ec', Option.bind_some]
  exact ⟨_, _, rfl, rfl, Q.ans g0 g0' hv⟩
theorem rb_no {s : S} (hs : Es n E R s) {r : Nat} (he : r < 12) (c : ¬ gI s 4 = 1 ∨ R ≤ r) : k_ruleBest (Int32.ofNat r) s = some (-1) := by
  have r12 := hs.2.2.2.2.2.2.2.2.1
  unfold k_ruleBest
  by_cases q : gI s 4 = 1
  · have c2 : R ≤ r := c.resolve_left (fun z => z q)
    unfold k_isRule
    rw [if_pos q, if_neg (ofNat_nonneg (by omega)), hs.2.2.2.2.1, if_neg (show ¬ Int32.ofNat r < Int32.ofNat R from fun z => by have := (ofNat_lt (by omega) (by omega)).mp z; omega), if_pos rfl]
  · rw [if_neg q]
theorem rb2 {s t : S} (h : M n E R E' R' s t) (i : gI s 4 = 1 → gI t 4 = 1) {r : Nat} (he : r < 12) : ∃ x y, k_ruleBest (Int32.ofNat r) s = some x ∧ k_ruleBest (Int32.ofNat r) t = some y ∧ Q x y := by
  by_cases c : gI s 4 = 1 ∧ r < R
  · exact rb_both h c.1 (i c.1) c.2
  · rw [rb_no h.1 he (by by_cases q : gI s 4 = 1; right; have : ¬ r < R := fun z => c ⟨q, z⟩; omega; left; exact q)]
    by_cases c' : gI t 4 = 1 ∧ r < R'
    · obtain ⟨x, y, _, ey, _⟩ := rb_both h.self c'.1 c'.1 c'.2
      exact ⟨_, y, rfl, ey, Or.inl rfl⟩
    · rw [rb_no h.2.1 he (by by_cases q : gI t 4 = 1; right; have : ¬ r < R' := fun z => c' ⟨q, z⟩; omega; left; exact q)]
      exact ⟨_, _, rfl, rfl, Or.inl rfl⟩
/-- what can be seen after two parses -/
def Ob (P : Int32 → Int32 → Prop) (s t : S) : Prop := P (k_bestWeight s) (k_bestWeight t) ∧ (∀ v1 v2 v3, ∃ x y, k_spanWeight v1 v2 v3 s = some x ∧ k_spanWeight v1 v2 v3 t = some y ∧ P x y) ∧ (∀ e, e < 16 → ∃ x y, k_edgeBest (Int32.ofNat e) s = some x ∧ k_edgeBest (Int32.ofNat e) t = some y ∧ P x y) ∧ ∀ r, r < 12 → ∃ x y, k_ruleBest (Int32.ofNat r) s = some x ∧ k_ruleBest (Int32.ofNat r) t = some y ∧ P x y
theorem Ob.eq {s t : S} (h : Ob Q s t) (k : Ob Q t s) : Ob Eq s t := by
  obtain ⟨h1, h2, h3, h4⟩ := h
  obtain ⟨k1, k2, k3, k4⟩ := k
  refine ⟨h1.eq k1, fun v1 v2 v3 => ?_, fun e he => ?_, fun r hr => ?_⟩
  · obtain ⟨x, y, a, b, c⟩ := h2 v1 v2 v3
    obtain ⟨y', x', b', a', c'⟩ := k2 v1 v2 v3
    rw [a] at a'; rw [b] at b'; cases a'; cases b'
    exact ⟨x, y, a, b, c.eq c'⟩
  · obtain ⟨x, y, a, b, c⟩ := h3 e he
    obtain ⟨y', x', b', a', c'⟩ := k3 e he
    rw [a] at a'; rw [b] at b'; cases a'; cases b'
    exact ⟨x, y, a, b, c.eq c'⟩
  · obtain ⟨x, y, a, b, c⟩ := h4 r hr
    obtain ⟨y', x', b', a', c'⟩ := k4 r hr
    rw [a] at a'; rw [b] at b'; cases a'; cases b'
    exact ⟨x, y, a, b, c.eq c'⟩
theorem par2 {s t : S} (hs : Es n E R s) (ht : Es n E' R' t) (ee : E ≤ E') (rr : R ≤ R') (su : Sub E R s t) : ∃ b s' b' t', k_parse s = some (b, s') ∧ k_parse t = some (b', t') ∧ Ob Q s' t' ∧ (gI s' 4 = 1 → gI t' 4 = 1) ∧ (gI s' 4 = 1 ∨ gI s' 4 = 2) := by
  obtain ⟨b, s', b', t', e, e', h, o⟩ := parse2 hs ht ee rr su
  have i : gI s' 4 = 1 → gI t' 4 = 1 := fun z => by
    rcases o with ⟨_, o, _⟩ | ⟨o, _⟩
    · exact o
    · rw [o] at z; exact absurd z (by decide)
  have s4 : ¬ gI s' 4 = 0 := fun z => by
    rcases o with ⟨o, _, _⟩ | ⟨o, _⟩ <;> (rw [o] at z; exact absurd z (by decide))
  have t4 : ¬ gI t' 4 = 0 := fun z => by
    rcases o with ⟨_, o, _⟩ | ⟨_, o | o⟩ <;> (rw [o] at z; exact absurd z (by decide))
  refine ⟨b, s', b', t', e, e', ⟨?_, fun v1 v2 v3 => sw2 h s4 t4 v1 v2 v3, fun k hk => eb2 h i hk, fun k hk => rb2 h i hk⟩, i, ?_⟩
  · unfold k_bestWeight
    rcases o with ⟨o1, o2, o3⟩ | ⟨o, _⟩
    · rw [if_pos o1, if_pos o2]
      obtain ⟨a, b, h1, h2, h3, h4⟩ := o3
      exact Or.inr ⟨a, b, h1, h2, h3, h4⟩
    · rw [if_neg (show ¬ gI s' 4 = 1 by rw [o]; decide)]; exact Or.inl rfl
  · rcases o with ⟨o1, o2, o3⟩ | ⟨o, _⟩
    · exact Or.inl o1
    · exact Or.inr o
end
theorem and_nat (x : Int32) {m : Nat} (hm : m < 2147483648) : ∃ a, a ≤ m ∧ x &&& Int32.ofNat m = Int32.ofNat a := by
  have h1 : x.toBitVec.toNat &&& m ≤ m := Nat.and_le_right
  refine ⟨x.toBitVec.toNat &&& m, h1, ?_⟩
  apply Int32.toBitVec_inj.mp
  apply BitVec.eq_of_toNat_eq
  rw [Int32.toBitVec_and, BitVec.toNat_and]
  show x.toBitVec.toNat &&& (BitVec.ofNat 32 m).toNat = (BitVec.ofNat 32 (x.toBitVec.toNat &&& m)).toNat
  rw [BitVec.toNat_ofNat, BitVec.toNat_ofNat, Nat.mod_eq_of_lt (by omega), Nat.mod_eq_of_lt (by omega)]
theorem mod_nat {n k : Nat} (hn : n < 2147483648) (hk : k < 2147483648) : Int32.ofNat n % Int32.ofNat k = Int32.ofNat (n % k) := by
  apply Int32.toInt_inj.mp
  have hm : n % k < 2147483648 := Nat.lt_of_le_of_lt (Nat.mod_le _ _) hn
  rw [Int32.toInt_mod, ofNat_toInt hn, ofNat_toInt hk, ofNat_toInt hm]
  exact (Int.ofNat_tmod n k).symm
theorem lim_tab : ∀ l : Fin 4, k_bodyLimit (Int32.ofNat l.val) = some (Int32.ofNat (16 ^ l.val)) ∧ ((1 : Int32) <<< (((4 : Int32) * Int32.ofNat l.val) &&& 31)) - 1 = Int32.ofNat (16 ^ l.val - 1) ∧ 16 ^ l.val ≤ 4096 ∧ 1 ≤ 16 ^ l.val := by decide +kernel
/-- the j-th symbol of a body -/
def dig (l b j : Nat) : Int32 := if Int32.ofNat j < Int32.ofNat l then (Int32.ofNat b >>> (((4 : Int32) * Int32.ofNat j) &&& 31)) &&& 15 else 0
theorem store3' {s : S} (l7 : (gA s 7).length = 36) {R : Nat} (hR : R < 12) (l b : Nat) : ∃ s', k_storeRule_36 BIG (Int32.ofNat R) (Int32.ofNat l) (Int32.ofNat b) 0 s = some s' ∧ Fx [] [] [7] [] s s' ∧ (gA s' 7).length = 36 ∧ (∀ i, i < 3 → (gA s' 7)[3 * R + i]? = some (dig l b i)) ∧ ∀ i, i < 3 * R → (gA s' 7)[i]? = (gA s 7)[i]? := by
  refine lpk (fun N k t => k_storeRule_36 N (Int32.ofNat R) (Int32.ofNat l) (Int32.ofNat b) k t) (fun k t => Fx [] [] [7] [] s t ∧ (gA t 7).length = 36 ∧ (∀ i, i < k → (gA t 7)[3 * R + i]? = some (dig l b i)) ∧ ∀ i, i < 3 * R → (gA t 7)[i]? = (gA s 7)[i]?) (fun o => ∃ s', o = some s' ∧ Fx [] [] [7] [] s s' ∧ (gA s' 7).length = 36 ∧ (∀ i, i < 3 → (gA s' 7)[3 * R + i]? = some (dig l b i)) ∧ ∀ i, i < 3 * R → (gA s' 7)[i]? = (gA s 7)[i]?) 3 ?_ ?_ 3 0 BIG s (by omega) (by unfold BIG; omega) ⟨Fx.refl .., l7, fun i hi => by omega, fun i hi => rfl⟩
  · rintro N k t hk ⟨F, lt, Z, Y⟩
    refine ⟨sA t 7 ((gA t 7).set (3 * R + k) (dig l b k)), ?_, F.sA (by simp), by rw [gA_sA, if_pos rfl, List.length_set]; exact lt, ?_, ?_⟩
    · show k_storeRule_36 (N + 1) _ _ _ _ _ = k_storeRule_36 N _ _ _ _ _
      rw [k_storeRule_36, if_pos ((lt_lit (m := 3) (by omega)).mpr hk)]
      unfold k_storeRule_64
      rw [show Int32.ofNat R * (3 : Int32) + Int32.ofNat k = Int32.ofNat (3 * R + k) by rw [show (3 : Int32) = Int32.ofNat 3 from rfl, mul_nat, ofNat_add', Nat.mul_comm], st_ofNat _ _ (by omega) (by omega), Option.bind_some, ofNat_succ]
      rfl
    · intro i hi
      rw [gA_sA, if_pos rfl]
      by_cases c : i = k
      · subst c; rw [List.getElem?_set_self (by omega)]
      · rw [List.getElem?_set_ne (by omega)]; exact Z i (by omega)
    · intro i hi
      rw [gA_sA, if_pos rfl, List.getElem?_set_ne (by omega)]; exact Y i hi
  · rintro N t ⟨F, lt, Z, Y⟩
    show ∃ s', k_storeRule_36 (N + 1) _ _ _ _ _ = _ ∧ _
    rw [k_storeRule_36, if_neg (show ¬ Int32.ofNat 3 < 3 by decide)]
    exact ⟨t, rfl, F, lt, Z, Y⟩
theorem nbn {w : Nat} (h : w ≤ 127) : NB (Int32.ofNat w) := ⟨ofNat_nonneg (by omega), fun z => by have := (ofNat_lt (k := 1073741824) (by omega) (by omega)).mp z; omega⟩
theorem rng {v m : Nat} (hv : v < 1000) (hm : m < 1000) : k_inRange (Int32.ofNat v) 0 (Int32.ofNat m) = if m < v then 0 else 1 := by
  unfold k_inRange
  rw [if_neg (ofNat_nonneg (by omega))]
  by_cases c : m < v
  · rw [if_pos ((ofNat_lt (by omega) (by omega)).mpr c), if_pos c]
  · rw [if_neg (fun z => c ((ofNat_lt (by omega) (by omega)).mp z)), if_neg c]
theorem addE {n E R : Nat} {s : S} (hs : Es n E R s) {f t l w : Nat} (hf : f ≤ 20) (ht : t ≤ 20) (hl : l ≤ 20) (hw : w ≤ 127) : (¬ (E < 16 ∧ f < t ∧ t ≤ n - 1 ∧ l ≤ 7 ∧ w ≤ 100) ∧ k_addEdge (Int32.ofNat f) (Int32.ofNat t) (Int32.ofNat l) (Int32.ofNat w) s = some (-1, s)) ∨ ((E < 16 ∧ f < t ∧ t ≤ n - 1 ∧ l ≤ 7 ∧ w ≤ 100) ∧ ∃ u, k_addEdge (Int32.ofNat f) (Int32.ofNat t) (Int32.ofNat l) (Int32.ofNat w) s = some (Int32.ofNat E, u) ∧ Es n (E + 1) R u ∧ gA u 0 = (gA s 0).set E (Int32.ofNat f) ∧ gA u 1 = (gA s 1).set E (Int32.ofNat t) ∧ gA u 2 = (gA s 2).set E (Int32.ofNat l) ∧ gA u 3 = (gA s 3).set E (Int32.ofNat w) ∧ ∀ k, 4 ≤ k → gA u k = gA s k) := by
  obtain ⟨L, g0, g1, g2, g3, n2, n8, e16, r12, a6, a3, a5⟩ := id hs
  have c1 : Int32.ofNat E < 16 ↔ E < 16 := lt_lit (m := 16) (by omega)
  have c2 : Int32.ofNat n - 1 < Int32.ofNat t ↔ n - 1 < t := by rw [top_nat n2]; exact ofNat_lt (by omega) (by omega)
  have c3 : Int32.ofNat f < Int32.ofNat t ↔ f < t := ofNat_lt (by omega) (by omega)
  have rl : k_inRange (Int32.ofNat l) 0 7 = if 7 < l then 0 else 1 := rng (m := 7) (by omega) (by omega)
  have rw' : k_inRange (Int32.ofNat w) 0 100 = if 100 < w then 0 else 1 := rng (m := 100) (by omega) (by omega)
  have ref : k_edgeRefused (Int32.ofNat f) (Int32.ofNat t) (Int32.ofNat l) (Int32.ofNat w) s = if E < 16 ∧ f < t ∧ t ≤ n - 1 ∧ l ≤ 7 ∧ w ≤ 100 then 0 else 1 := by
    unfold k_edgeRefused
    rw [g2, g1, rl, rw']
    by_cases d1 : E < 16
    · rw [if_pos (c1.mpr d1), if_neg (ofNat_nonneg (by omega))]
      by_cases d2 : n - 1 < t
      · rw [if_pos (c2.mpr d2), if_neg (by omega)]
      · rw [if_neg (fun z => d2 (c2.mp z))]
        by_cases d0 : f < t
        · rw [if_pos (c3.mpr d0)]
          by_cases d4 : 7 < l
          · rw [if_pos d4, if_pos rfl, if_neg (by omega)]
          · rw [if_neg d4, if_neg (show ¬ (1 : Int32) = 0 by decide)]
            by_cases d3 : 100 < w
            · rw [if_pos d3, if_pos rfl, if_neg (by omega)]
            · rw [if_neg d3, if_neg (show ¬ (1 : Int32) = 0 by decide), if_pos (by omega)]
        · rw [if_neg (fun z => d0 (c3.mp z)), if_neg (by omega)]
    · rw [if_neg (fun z => d1 (c1.mp z)), if_neg (by omega)]
  unfold k_addEdge
  rw [ref]
  by_cases ok : E < 16 ∧ f < t ∧ t ≤ n - 1 ∧ l ≤ 7 ∧ w ≤ 100
  · right
    refine ⟨ok, ?_⟩
    rw [if_pos ok, if_pos rfl, g2, st_ofNat _ _ (by omega) (by rw [L.1]; omega), Option.bind_some, st_ofNat _ _ (by omega) (by rw [L.2.1]; omega), Option.bind_some, st_ofNat _ _ (by omega) (by rw [L.2.2.1]; omega), Option.bind_some, st_ofNat _ _ (by omega) (by rw [L.2.2.2.1]; omega), Option.bind_some, ofNat_succ]
    obtain ⟨u, hu⟩ : ∃ u, u = k_becomeBuilding (sI (sA (sA (sA (sA s 0 ((gA s 0).set E (Int32.ofNat f))) 1 ((gA s 1).set E (Int32.ofNat t))) 2 ((gA s 2).set E (Int32.ofNat l))) 3 ((gA s 3).set E (Int32.ofNat w))) 2 (Int32.ofNat (E + 1))) := ⟨_, rfl⟩
    rw [← hu]
    unfold k_becomeBuilding at hu
    have uI : ∀ k, k ≠ 2 → k ≠ 4 → k ≠ 5 → gI u k = gI s k := fun k x y z => by rw [hu]; simp [gI_sI, gI_sA, x, y, z]
    have u2 : gI u 2 = Int32.ofNat (E + 1) := by rw [hu]; simp [gI_sI]
    have u0 : gA u 0 = (gA s 0).set E (Int32.ofNat f) := by rw [hu]; simp [gA_sI, gA_sA]
    have u1 : gA u 1 = (gA s 1).set E (Int32.ofNat t) := by rw [hu]; simp [gA_sI, gA_sA]
    have uu2 : gA u 2 = (gA s 2).set E (Int32.ofNat l) := by rw [hu]; simp [gA_sI, gA_sA]
    have u3 : gA u 3 = (gA s 3).set E (Int32.ofNat w) := by rw [hu]; simp [gA_sI, gA_sA]
    have uA : ∀ k, 4 ≤ k → gA u k = gA s k := fun k hk => by
      rw [hu]; simp [gA_sI, gA_sA, show k ≠ 0 by omega, show k ≠ 1 by omega, show k ≠ 2 by omega, show k ≠ 3 by omega]
    refine ⟨u, rfl, ⟨?_, by rw [uI 0 (by decide) (by decide) (by decide)]; exact g0, by rw [uI 1 (by decide) (by decide) (by decide)]; exact g1, u2, by rw [uI 3 (by decide) (by decide) (by decide)]; exact g3, n2, n8, by omega, r12, by rw [uA 6 (by omega)]; exact a6, ?_, by rw [uA 5 (by omega)]; exact a5⟩, u0, u1, uu2, u3, uA⟩
    · unfold ElenT
      rw [u0, u1, uu2, u3, uA 4 (by omega), uA 5 (by omega), uA 6 (by omega), uA 7 (by omega), uA 8 (by omega), uA 9 (by omega), uA 10 (by omega), uA 11 (by omega), List.length_set, List.length_set, List.length_set, List.length_set]
      exact L
    · rw [u3]
      exact ent_set a3 (nbn hw) (by rw [L.2.2.2.1]; omega)
  · left
    rw [if_neg ok, if_neg (show ¬ (1 : Int32) = 0 by decide)]
    exact ⟨ok, rfl⟩
theorem addR {n E R : Nat} {s : S} (hs : Es n E R s) {a l w b : Nat} (ha : a ≤ 7) (hl : l ≤ 3) (hw : w ≤ 127) (hb : b ≤ 16 ^ l - 1) : (¬ (R < 12 ∧ w ≤ 100) ∧ k_addRule (Int32.ofNat a) (Int32.ofNat w) (Int32.ofNat l) (Int32.ofNat b) s = some (-1, s)) ∨ ((R < 12 ∧ w ≤ 100) ∧ ∃ u, k_addRule (Int32.ofNat a) (Int32.ofNat w) (Int32.ofNat l) (Int32.ofNat b) s = some (Int32.ofNat R, u) ∧ Es n E (R + 1) u ∧ gA u 4 = (gA s 4).set R (Int32.ofNat a) ∧ gA u 5 = (gA s 5).set R (Int32.ofNat w) ∧ gA u 6 = (gA s 6).set R (Int32.ofNat l) ∧ (∀ i, i < 3 → (gA u 7)[3 * R + i]? = some (dig l b i)) ∧ (∀ i, i < 3 * R → (gA u 7)[i]? = (gA s 7)[i]?) ∧ ∀ k, k ≠ 4 → k ≠ 5 → k ≠ 6 → k ≠ 7 → gA u k = gA s k) := by
  obtain ⟨L, g0, g1, g2, g3, n2, n8, e16, r12, a6, a3, a5⟩ := id hs
  obtain ⟨lim, _, p4, p1⟩ := lim_tab ⟨l, by omega⟩
  dsimp only at lim p4 p1
  have c1 : Int32.ofNat R < 12 ↔ R < 12 := lt_lit (m := 12) (by omega)
  have ra : k_inRange (Int32.ofNat a) 0 7 = 1 := by rw [show (7 : Int32) = Int32.ofNat 7 from rfl, rng (by omega) (by omega), if_neg (by omega)]
  have rl : k_inRange (Int32.ofNat l) 0 3 = 1 := by rw [show (3 : Int32) = Int32.ofNat 3 from rfl, rng (by omega) (by omega), if_neg (by omega)]
  have rw' : k_inRange (Int32.ofNat w) 0 100 = if 100 < w then 0 else 1 := rng (m := 100) (by omega) (by omega)
  have ref : k_ruleRefused (Int32.ofNat a) (Int32.ofNat w) (Int32.ofNat l) (Int32.ofNat b) s = some (if R < 12 ∧ w ≤ 100 then 0 else 1) := by
    unfold k_ruleRefused
    rw [g3, ra, rl, rw']
    by_cases d1 : R < 12
    · rw [if_pos (c1.mpr d1), if_neg (show ¬ (1 : Int32) = 0 by decide)]
      by_cases d3 : 100 < w
      · rw [if_pos d3, if_pos rfl, if_neg (show ¬ (R < 12 ∧ w ≤ 100) by omega)]
      · rw [if_neg d3, if_neg (show ¬ (1 : Int32) = 0 by decide), if_neg (show ¬ (1 : Int32) = 0 by decide), if_neg (ofNat_nonneg (by omega)), lim, Option.bind_some, if_pos ((ofNat_lt (by omega) (by omega)).mpr (by omega)), if_pos (show R < 12 ∧ w ≤ 100 by omega)]
    · rw [if_neg (fun z => d1 (c1.mp z)), if_neg (show ¬ (R < 12 ∧ w ≤ 100) by omega)]
  unfold k_addRule
  rw [ref, Option.bind_some]
  by_cases ok : R < 12 ∧ w ≤ 100
  · right
    refine ⟨ok, ?_⟩
    obtain ⟨X, hX⟩ : ∃ X, X = sA (sA (sA s 4 ((gA s 4).set R (Int32.ofNat a))) 5 ((gA s 5).set R (Int32.ofNat w))) 6 ((gA s 6).set R (Int32.ofNat l)) := ⟨_, rfl⟩
    have X7 : gA X 7 = gA s 7 := by rw [hX]; simp [gA_sA]
    obtain ⟨Y, eY, FY, LY, ZY, OY⟩ := store3' (s := X) (by rw [X7]; exact L.2.2.2.2.2.2.2.1) ok.1 l b
    have es : k_storeRule (Int32.ofNat R) (Int32.ofNat a) (Int32.ofNat w) (Int32.ofNat l) (Int32.ofNat b) s = some Y := by
      unfold k_storeRule
      rw [if_neg (ofNat_nonneg (by omega)), if_pos (c1.mpr ok.1), st_ofNat _ _ (by omega) (by rw [L.2.2.2.2.1]; omega), Option.bind_some, st_ofNat _ _ (by omega) (by rw [L.2.2.2.2.2.1]; omega), Option.bind_some, st_ofNat _ _ (by omega) (by rw [L.2.2.2.2.2.2.1]; omega), Option.bind_some, ← hX, eY]
    rw [if_pos ok, if_pos rfl, g3, es, Option.bind_some, ofNat_succ]
    obtain ⟨u, hu⟩ : ∃ u, u = k_becomeBuilding (sI Y 3 (Int32.ofNat (R + 1))) := ⟨_, rfl⟩
    rw [← hu]
    unfold k_becomeBuilding at hu
    have XI : ∀ k, gI X k = gI s k := fun k => by rw [hX]; simp [gI_sA]
    have uI : ∀ k, k ≠ 3 → k ≠ 4 → k ≠ 5 → gI u k = gI s k := fun k x y z => by rw [hu]; simp [gI_sI, x, y, z]; rw [FY.1 k (by simp), XI]
    have u3 : gI u 3 = Int32.ofNat (R + 1) := by rw [hu]; simp [gI_sI]
    have uA : ∀ k, gA u k = gA Y k := fun k => by rw [hu]; simp [gA_sI]
    have YA : ∀ k, k ≠ 7 → gA u k = gA X k := fun k hk => by rw [uA, FY.2.2.1 k (by simpa using hk)]
    have u4 : gA u 4 = (gA s 4).set R (Int32.ofNat a) := by rw [YA 4 (by decide), hX]; simp [gA_sA]
    have u5 : gA u 5 = (gA s 5).set R (Int32.ofNat w) := by rw [YA 5 (by decide), hX]; simp [gA_sA]
    have u6 : gA u 6 = (gA s 6).set R (Int32.ofNat l) := by rw [YA 6 (by decide), hX]; simp [gA_sA]
    have uo : ∀ k, k ≠ 4 → k ≠ 5 → k ≠ 6 → k ≠ 7 → gA u k = gA s k := fun k p x y z => by rw [YA k z, hX]; simp [gA_sA, p, x, y]
    have l7 : (gA u 7).length = 36 := by rw [uA]; exact LY
    refine ⟨u, rfl, ⟨?_, by rw [uI 0 (by decide) (by decide) (by decide)]; exact g0, by rw [uI 1 (by decide) (by decide) (by decide)]; exact g1, by rw [uI 2 (by decide) (by decide) (by decide)]; exact g2, u3, n2, n8, e16, by omega, ?_, by rw [uo 3 (by decide) (by decide) (by decide) (by decide)]; exact a3, ?_⟩, u4, u5, u6, fun i hi => by rw [uA]; exact ZY i hi, fun i hi => by rw [uA, OY i hi, X7], uo⟩
    · unfold ElenT
      rw [u4, u5, u6, uo 0 (by decide) (by decide) (by decide) (by decide), uo 1 (by decide) (by decide) (by decide) (by decide), uo 2 (by decide) (by decide) (by decide) (by decide), uo 3 (by decide) (by decide) (by decide) (by decide), uo 8 (by decide) (by decide) (by decide) (by decide), uo 9 (by decide) (by decide) (by decide) (by decide), uo 10 (by decide) (by decide) (by decide) (by decide), uo 11 (by decide) (by decide) (by decide) (by decide), List.length_set, List.length_set, List.length_set]
      obtain ⟨q0, q1, q2, q3, q4, q5, q6, q7, q8⟩ := L
      exact ⟨q0, q1, q2, q3, q4, q5, q6, l7, q8⟩
    · intro i hi
      rw [u6]
      by_cases c : R = i
      · subst c; exact ⟨l, hl, List.getElem?_set_self (by rw [L.2.2.2.2.2.2.1]; omega)⟩
      · rw [List.getElem?_set_ne c]; exact a6 i hi
    · rw [u5]
      exact ent_set a5 (nbn hw) (by rw [L.2.2.2.2.2.1]; omega)
  · left
    rw [if_neg ok, if_neg (show ¬ (1 : Int32) = 0 by decide)]
    exact ⟨ok, rfl⟩
/-- the store holds what addEdge and addRule take -/
def Sv (n E R : Nat) (s : S) : Prop := Es n E R s ∧ (∀ i, i < E → ∃ f t l w, f < t ∧ t ≤ n - 1 ∧ l ≤ 7 ∧ w ≤ 100 ∧ (gA s 0)[i]? = some (Int32.ofNat f) ∧ (gA s 1)[i]? = some (Int32.ofNat t) ∧ (gA s 2)[i]? = some (Int32.ofNat l) ∧ (gA s 3)[i]? = some (Int32.ofNat w)) ∧ ∀ i, i < R → ∃ a w l b, a ≤ 7 ∧ w ≤ 100 ∧ l ≤ 3 ∧ b ≤ 16 ^ l - 1 ∧ (gA s 4)[i]? = some (Int32.ofNat a) ∧ (gA s 5)[i]? = some (Int32.ofNat w) ∧ (gA s 6)[i]? = some (Int32.ofNat l) ∧ ∀ j, j < 3 → (gA s 7)[3 * i + j]? = some (dig l b j)
theorem Sv.fx {n E R : Nat} {s t : S} (h : Sv n E R s) (k : Es n E R t) (e : ∀ f, f < 8 → gA t f = gA s f) : Sv n E R t := by
  obtain ⟨a, b, c⟩ := h
  unfold Sv
  rw [e 0 (by omega), e 1 (by omega), e 2 (by omega), e 3 (by omega), e 4 (by omega), e 5 (by omega), e 6 (by omega), e 7 (by omega)]
  exact ⟨k, b, c⟩
theorem sv_edge {n E R : Nat} {s : S} (h : Sv n E R s) {f t l w : Nat} (hf : f ≤ 20) (ht : t ≤ 20) (hl : l ≤ 20) (hw : w ≤ 127) : ∃ x E' u, k_addEdge (Int32.ofNat f) (Int32.ofNat t) (Int32.ofNat l) (Int32.ofNat w) s = some (x, u) ∧ Sv n E' R u := by
  rcases addE h.1 hf ht hl hw with ⟨_, e⟩ | ⟨ok, u, e, hu, u0, u1, u2, u3, uA⟩
  · exact ⟨_, E, s, e, h⟩
  · refine ⟨_, E + 1, u, e, hu, fun i hi => ?_, ?_⟩
    · obtain ⟨L, _⟩ := id h.1
      rw [u0, u1, u2, u3]
      by_cases c : E = i
      · subst c
        exact ⟨f, t, l, w, ok.2.1, ok.2.2.1, ok.2.2.2.1, ok.2.2.2.2, List.getElem?_set_self (by rw [L.1]; omega), List.getElem?_set_self (by rw [L.2.1]; omega), List.getElem?_set_self (by rw [L.2.2.1]; omega), List.getElem?_set_self (by rw [L.2.2.2.1]; omega)⟩
      · rw [List.getElem?_set_ne c, List.getElem?_set_ne c, List.getElem?_set_ne c, List.getElem?_set_ne c]
        exact h.2.1 i (by omega)
    · rw [uA 4 (by omega), uA 5 (by omega), uA 6 (by omega), uA 7 (by omega)]; exact h.2.2
theorem sv_rule {n E R : Nat} {s : S} (h : Sv n E R s) {a l w b : Nat} (ha : a ≤ 7) (hl : l ≤ 3) (hw : w ≤ 127) (hb : b ≤ 16 ^ l - 1) : ∃ x R' u, k_addRule (Int32.ofNat a) (Int32.ofNat w) (Int32.ofNat l) (Int32.ofNat b) s = some (x, u) ∧ Sv n E R' u := by
  rcases addR h.1 ha hl hw hb with ⟨_, e⟩ | ⟨ok, u, e, hu, u4, u5, u6, u7, o7, uA⟩
  · exact ⟨_, R, s, e, h⟩
  · refine ⟨_, R + 1, u, e, hu, ?_, fun i hi => ?_⟩
    · rw [uA 0 (by decide) (by decide) (by decide) (by decide), uA 1 (by decide) (by decide) (by decide) (by decide), uA 2 (by decide) (by decide) (by decide) (by decide), uA 3 (by decide) (by decide) (by decide) (by decide)]; exact h.2.1
    · obtain ⟨L, _⟩ := id h.1
      rw [u4, u5, u6]
      by_cases c : R = i
      · subst c
        exact ⟨a, w, l, b, ha, ok.2, hl, hb, List.getElem?_set_self (by rw [L.2.2.2.2.1]; omega), List.getElem?_set_self (by rw [L.2.2.2.2.2.1]; omega), List.getElem?_set_self (by rw [L.2.2.2.2.2.2.1]; omega), u7⟩
      · rw [List.getElem?_set_ne c, List.getElem?_set_ne c, List.getElem?_set_ne c]
        obtain ⟨a', w', l', b', k1, k2, k3, k4, k5, k6, k7, k8⟩ := h.2.2 i (by omega)
        exact ⟨a', w', l', b', k1, k2, k3, k4, k5, k6, k7, fun j hj => by rw [o7 _ (by omega)]; exact k8 j hj⟩

theorem dig_tab' : ∀ (c d : Fin 64) (j : Fin 3), (Int32.ofNat (c.val * 64 + d.val) >>> (((4 : Int32) * Int32.ofNat j.val) &&& 31)) &&& 15 = Int32.ofNat ((c.val * 64 + d.val) / 16 ^ j.val % 16) := by decide +kernel
theorem shl_tab : ∀ (c : Fin 16) (j : Fin 3), Int32.ofNat c.val <<< (((4 : Int32) * Int32.ofNat j.val) &&& 31) = Int32.ofNat (c.val * 16 ^ j.val) := by decide +kernel
theorem pow_tab : ∀ l : Fin 4, 16 ^ l.val ≤ 4096 ∧ 1 ≤ 16 ^ l.val := by decide
theorem dig_nat {l b j : Nat} (hl : l ≤ 3) (hb : b ≤ 16 ^ l - 1) (hj : j < l) : dig l b j = Int32.ofNat (b / 16 ^ j % 16) := by
  have p := pow_tab ⟨l, by omega⟩
  dsimp only at p
  unfold dig
  rw [if_pos ((ofNat_lt (by omega) (by omega)).mpr hj)]
  have t := dig_tab' ⟨b / 64, by omega⟩ ⟨b % 64, by omega⟩ ⟨j, by omega⟩
  dsimp only at t
  rw [show b / 64 * 64 + b % 64 = b by omega] at t
  exact t
def ps (l b : Nat) : Nat → Nat
  | 0 => 0
  | j + 1 => ps l b j + if j < l then b / 16 ^ j % 16 * 16 ^ j else 0
theorem ps3 {l b : Nat} (hl : l ≤ 3) (hb : b ≤ 16 ^ l - 1) : ps l b 3 = b := by
  have e : ps l b 3 = (if 0 < l then b % 16 else 0) + (if 1 < l then b / 16 % 16 * 16 else 0) + (if 2 < l then b / 256 % 16 * 256 else 0) := by
    simp [ps]
  rw [e]
  rcases (by omega : l = 0 ∨ l = 1 ∨ l = 2 ∨ l = 3) with rfl | rfl | rfl | rfl <;> simp at hb ⊢ <;> omega
section
variable {n E R : Nat} {s : S}
theorem info_e (h : Sv n E R s) {k : Nat} (hk : k < E) : ∃ f t l w, f < t ∧ t ≤ n - 1 ∧ l ≤ 7 ∧ w ≤ 100 ∧ (gA s 0)[k]? = some (Int32.ofNat f) ∧ (gA s 1)[k]? = some (Int32.ofNat t) ∧ (gA s 2)[k]? = some (Int32.ofNat l) ∧ (gA s 3)[k]? = some (Int32.ofNat w) ∧ k_edgeInfo (Int32.ofNat k) 0 s = some (Int32.ofNat f) ∧ k_edgeInfo (Int32.ofNat k) 1 s = some (Int32.ofNat t) ∧ k_edgeInfo (Int32.ofNat k) 2 s = some (Int32.ofNat l) ∧ k_edgeInfo (Int32.ofNat k) 3 s = some (Int32.ofNat w) := by
  obtain ⟨f, t, l, w, h1, h2, h3, h4, e0, e1, e2, e3⟩ := h.2.1 k hk
  have e16 := h.1.2.2.2.2.2.2.2.1
  have g2 := h.1.2.2.2.1
  have lt : Int32.ofNat k < Int32.ofNat E := (ofNat_lt (by omega) (by omega)).mpr hk
  refine ⟨f, t, l, w, h1, h2, h3, h4, e0, e1, e2, e3, ?_, ?_, ?_, ?_⟩ <;> unfold k_edgeInfo <;> rw [if_neg (ofNat_nonneg (by omega)), g2, if_pos lt]
  · rw [if_pos rfl, ix_ofNat _ (by omega), e0, Option.bind_some]
  · rw [if_neg (by decide), if_pos rfl, ix_ofNat _ (by omega), e1, Option.bind_some]
  · rw [if_neg (by decide), if_neg (by decide), if_pos rfl, ix_ofNat _ (by omega), e2, Option.bind_some]
  · rw [if_neg (by decide), if_neg (by decide), if_neg (by decide), if_pos rfl, ix_ofNat _ (by omega), e3, Option.bind_some]
theorem info_r (h : Sv n E R s) {k : Nat} (hk : k < R) : ∃ a w l b, a ≤ 7 ∧ w ≤ 100 ∧ l ≤ 3 ∧ b ≤ 16 ^ l - 1 ∧ (gA s 4)[k]? = some (Int32.ofNat a) ∧ (gA s 5)[k]? = some (Int32.ofNat w) ∧ (gA s 6)[k]? = some (Int32.ofNat l) ∧ (∀ j, j < 3 → (gA s 7)[3 * k + j]? = some (dig l b j)) ∧ k_ruleInfo (Int32.ofNat k) 0 s = some (Int32.ofNat a) ∧ k_ruleInfo (Int32.ofNat k) 1 s = some (Int32.ofNat w) ∧ k_ruleInfo (Int32.ofNat k) 2 s = some (Int32.ofNat l) ∧ ∀ i, i < l → k_ruleInfo (Int32.ofNat k) (3 + Int32.ofNat i) s = some (dig l b i) := by
  obtain ⟨a, w, l, b, h1, h2, h3, h4, e4, e5, e6, e7⟩ := h.2.2 k hk
  have r12 := h.1.2.2.2.2.2.2.2.2.1
  have g3 := h.1.2.2.2.2.1
  have L7 : (gA s 7).length = 36 := h.1.1.2.2.2.2.2.2.2.1
  have lt : Int32.ofNat k < Int32.ofNat R := (ofNat_lt (by omega) (by omega)).mpr hk
  have nn : ¬ Int32.ofNat k < 0 := ofNat_nonneg (by omega)
  refine ⟨a, w, l, b, h1, h2, h3, h4, e4, e5, e6, e7, ?_, ?_, ?_, fun i hi => ?_⟩
  · unfold k_ruleInfo
    rw [g3, if_neg nn, if_pos lt, if_pos rfl, ix_ofNat _ (by omega), e4, Option.bind_some]
  · unfold k_ruleInfo
    rw [g3, if_neg nn, if_pos lt, if_neg (by decide), if_pos rfl, ix_ofNat _ (by omega), e5, Option.bind_some]
  · unfold k_ruleInfo
    rw [g3, if_neg nn, if_pos lt, if_neg (by decide), if_neg (by decide), if_pos rfl, ix_ofNat _ (by omega), e6, Option.bind_some]
  · have tab : ∀ i : Fin 3, ¬ (3 : Int32) + Int32.ofNat i.val = 0 ∧ ¬ (3 : Int32) + Int32.ofNat i.val = 1 ∧ ¬ (3 : Int32) + Int32.ofNat i.val = 2 ∧ ¬ (3 : Int32) + Int32.ofNat i.val < 3 ∧ ¬ (5 : Int32) < (3 : Int32) + Int32.ofNat i.val ∧ ((3 : Int32) + Int32.ofNat i.val) - 3 = Int32.ofNat i.val := by decide
    obtain ⟨t0, t1, t2, t3, t4, t5⟩ := tab ⟨i, by omega⟩
    dsimp only at t0 t1 t2 t3 t4 t5
    unfold k_ruleInfo
    rw [g3, if_neg nn, if_pos lt, if_neg t0, if_neg t1, if_neg t2, if_neg t3, if_neg t4, ix_ofNat _ (by omega), e6, Option.bind_some, t5, if_pos ((ofNat_lt (by omega) (by omega)).mpr hi)]
    unfold k_symbolAt
    rw [if_neg nn, if_pos ((lt_lit (m := 12) (by omega)).mpr (by omega)), if_neg (ofNat_nonneg (by omega)), if_pos ((lt_lit (m := 3) (by omega)).mpr (by omega)), show (3 : Int32) = Int32.ofNat 3 from rfl, mul_nat, ofNat_add', ix_ofNat _ (by omega), show k * 3 + i = 3 * k + i by omega, e7 i (by omega), Option.bind_some, Option.bind_some]
end
theorem rel_q {x y : Int32} (h : Q x y) : h_rel x y 1 = 1 := by
  unfold h_rel
  rw [if_neg (show ¬ (1 : Int32) = 0 by decide)]
  rcases h with h | ⟨a, b, h1, h2, rfl, rfl⟩
  · rw [h, if_pos (show (-1 : Int32) < 0 by decide)]
  · rw [if_neg (ofNat_nonneg (by omega)), if_neg (ofNat_nonneg (by omega)), if_neg (fun z => by have := (ofNat_lt (by omega) (by omega)).mp z; omega)]
theorem rel_eq {x y : Int32} (h : x = y) : h_rel x y 0 = 1 := by
  unfold h_rel
  rw [if_pos rfl, if_pos h]
section
variable {P : Int32 → Int32 → Prop} {v15 : Int32} {s t : S}
theorem end_813 (hp : ∀ x y, P x y → h_rel x y v15 = 1) (o : Ob P s t) (q : List Int32) : ∀ j k N, k + j = 12 → j < N → law_813 N v15 (Int32.ofNat k) q s t = some (1, s, t)
  | _, _, 0, _, h => by omega
  | 0, k, N + 1, hk, _ => by
    rw [law_813, if_neg (fun z => by have := (lt_lit (m := 12) (by omega)).mp z; omega)]
  | j + 1, k, N + 1, hk, hN => by
    obtain ⟨x, y, e, e', p⟩ := o.2.2.2 k (by omega)
    rw [law_813, if_pos ((lt_lit (m := 12) (by omega)).mpr (by omega)), e, Option.bind_some, e', Option.bind_some, hp x y p, if_neg (show ¬ (1 : Int32) = 0 by decide), ofNat_succ]
    exact end_813 hp o q j (k + 1) N (by omega) (by omega)
theorem end_766 (hp : ∀ x y, P x y → h_rel x y v15 = 1) (o : Ob P s t) (q : List Int32) : ∀ j k N, k + j = 16 → j < N → law_766 N v15 (Int32.ofNat k) q s t = some (1, s, t)
  | _, _, 0, _, h => by omega
  | 0, k, N + 1, hk, _ => by
    rw [law_766, if_neg (fun z => by have := (lt_lit (m := 16) (by omega)).mp z; omega), law_810]
    exact end_813 hp o q 12 0 BIG (by omega) (by unfold BIG; omega)
  | j + 1, k, N + 1, hk, hN => by
    obtain ⟨x, y, e, e', p⟩ := o.2.2.1 k (by omega)
    rw [law_766, if_pos ((lt_lit (m := 16) (by omega)).mpr (by omega)), e, Option.bind_some, e', Option.bind_some, hp x y p, if_neg (show ¬ (1 : Int32) = 0 by decide), ofNat_succ]
    exact end_766 hp o q j (k + 1) N (by omega) (by omega)
theorem end_688 (hp : ∀ x y, P x y → h_rel x y v15 = 1) (o : Ob P s t) (q : List Int32) : ∀ j k N, k + j = 1024 → j < N → law_688 N v15 (Int32.ofNat k) q s t = some (1, s, t)
  | _, _, 0, _, h => by omega
  | 0, k, N + 1, hk, _ => by
    rw [law_688, if_neg (fun z => by have := (lt_lit (m := 1024) (by omega)).mp z; omega), law_763]
    exact end_766 hp o q 16 0 BIG (by omega) (by unfold BIG; omega)
  | j + 1, k, N + 1, hk, hN => by
    obtain ⟨x, y, e, e', p⟩ := o.2.1 (Int32.ofNat k >>> ((6 : Int32) &&& 31)) ((Int32.ofNat k >>> ((3 : Int32) &&& 31)) &&& (7 : Int32)) (Int32.ofNat k &&& (7 : Int32))
    rw [law_688, if_pos ((lt_lit (m := 1024) (by omega)).mpr (by omega)), e, Option.bind_some, e', Option.bind_some, hp x y p, if_neg (show ¬ (1 : Int32) = 0 by decide), ofNat_succ]
    exact end_688 hp o q j (k + 1) N (by omega) (by omega)
theorem end_666 (hp : ∀ x y, P x y → h_rel x y v15 = 1) (o : Ob P s t) (q : List Int32) : law_666 v15 q s t = some (1, s, t) := by
  unfold law_666
  rw [hp _ _ o.1, if_neg (show ¬ (1 : Int32) = 0 by decide)]
  exact end_688 hp o q 1024 0 BIG (by omega) (by unfold BIG; omega)
end
section
variable {n E R E' R' : Nat} {s t : S}
/-- the parses and what follows, where something was added -/
theorem end_grew (hs : Es n E R s) (ht : Es n E' R' t) (ee : E ≤ E') (rr : R ≤ R') (su : Sub E R s t) (q : List Int32) {p0 p1 p2 : Int32} (hp : p2 = p1 + p0) : ∃ u, law_611 1 p0 p1 p2 q s t = some (1, u) := by
  obtain ⟨b, s', b', t', e, e', o, i, _⟩ := par2 hs ht ee rr su
  have f := end_666 (v15 := 1) (fun x y h => rel_q h) o q
  unfold law_611 k_status
  rw [if_pos hp, e, Option.bind_some, e', Option.bind_some]
  dsimp only
  have g : law_647 1 q s' t' = some (1, s', t') := by
    unfold law_647
    rw [if_neg (show ¬ (1 : Int32) = 0 by decide), f]
  by_cases c : gI s' 4 = 1
  · rw [if_pos c, if_pos (i c), g]; exact ⟨_, rfl⟩
  · rw [if_neg c, g]; exact ⟨_, rfl⟩
theorem end_same (hs : Es n E R s) (ht : Es n E R t) (su : Sub E R s t) (q : List Int32) {p0 p1 p2 : Int32} (hp : p2 = p1 + p0) : ∃ u, law_611 0 p0 p1 p2 q s t = some (1, u) := by
  obtain ⟨b, s', b', t', e, e', o, i, i2⟩ := par2 hs ht (Nat.le_refl _) (Nat.le_refl _) su
  have us : Sub E R t s := ⟨fun i hi => by obtain ⟨a, b, c, d⟩ := su.1 i hi; exact ⟨a.symm, b.symm, c.symm, d.symm⟩, fun i hi => by obtain ⟨a, b, c⟩ := su.2.1 i hi; exact ⟨a.symm, b.symm, c.symm⟩, fun i hi => (su.2.2 i hi).symm⟩
  obtain ⟨c', t2, c, s2, f', f, o2, j, j2⟩ := par2 ht hs (Nat.le_refl _) (Nat.le_refl _) us
  rw [e] at f
  rw [e'] at f'
  cases f
  cases f'
  have oe := o.eq o2
  have f := end_666 (v15 := 0) (fun x y h => rel_eq h) oe q
  have st : gI s' 4 = gI t' 4 := by
    rcases i2 with z | z
    · rw [z, i z]
    · rcases j2 with w | w
      · rw [j w] at z; exact absurd z (by decide)
      · rw [z, w]
  unfold law_611 k_status
  rw [if_pos hp, e, Option.bind_some, e', Option.bind_some]
  dsimp only
  have g : law_647 0 q s' t' = some (1, s', t') := by
    unfold law_647 k_status
    rw [if_pos rfl, if_pos st, f]
  by_cases c : gI s' 4 = 1
  · rw [if_pos c, if_pos (i c), g]; exact ⟨_, rfl⟩
  · rw [if_neg c, g]; exact ⟨_, rfl⟩
theorem Sub.set_e (su : Sub E R s t) {u : S} {f tt l w : Int32} (u0 : gA u 0 = (gA t 0).set E f) (u1 : gA u 1 = (gA t 1).set E tt) (u2 : gA u 2 = (gA t 2).set E l) (u3 : gA u 3 = (gA t 3).set E w) (uA : ∀ k, 4 ≤ k → gA u k = gA t k) : Sub E R s u := by
  refine ⟨fun i hi => ?_, ?_, ?_⟩
  · rw [u0, u1, u2, u3, List.getElem?_set_ne (by omega), List.getElem?_set_ne (by omega), List.getElem?_set_ne (by omega), List.getElem?_set_ne (by omega)]; exact su.1 i hi
  · rw [uA 4 (by omega), uA 5 (by omega), uA 6 (by omega)]; exact su.2.1
  · rw [uA 7 (by omega)]; exact su.2.2
theorem Sub.set_r (su : Sub E R s t) {u : S} {a w l : Int32} (u4 : gA u 4 = (gA t 4).set R a) (u5 : gA u 5 = (gA t 5).set R w) (u6 : gA u 6 = (gA t 6).set R l) (o7 : ∀ i, i < 3 * R → (gA u 7)[i]? = (gA t 7)[i]?) (uA : ∀ k, k ≠ 4 → k ≠ 5 → k ≠ 6 → k ≠ 7 → gA u k = gA t k) : Sub E R s u := by
  refine ⟨?_, fun i hi => ?_, fun i hi => ?_⟩
  · rw [uA 0 (by decide) (by decide) (by decide) (by decide), uA 1 (by decide) (by decide) (by decide) (by decide), uA 2 (by decide) (by decide) (by decide) (by decide), uA 3 (by decide) (by decide) (by decide) (by decide)]; exact su.1
  · rw [u4, u5, u6, List.getElem?_set_ne (by omega), List.getElem?_set_ne (by omega), List.getElem?_set_ne (by omega)]; exact su.2.1 i hi
  · rw [o7 i hi]; exact su.2.2 i hi
/-- the addition and what follows -/
theorem end_410 (hs : Es n E R s) (ht : Es n E R t) (su : Sub E R s t) (v1 : Int32) (q : List Int32) : ∃ u, law_410 v1 (Int32.ofNat E) (Int32.ofNat R) q s t = some (1, u) := by
  have e16 := hs.2.2.2.2.2.2.2.1
  have r12 := hs.2.2.2.2.2.2.2.2.1
  obtain ⟨kd, hkd, qkd⟩ := and_nat (v1 >>> ((3 : Int32) &&& 31)) (m := 1) (by omega)
  obtain ⟨a, ha, qa⟩ := and_nat (v1 >>> ((4 : Int32) &&& 31)) (m := 7) (by omega)
  obtain ⟨b, hb, qb⟩ := and_nat (v1 >>> ((7 : Int32) &&& 31)) (m := 7) (by omega)
  obtain ⟨c, hc, qc⟩ := and_nat (v1 >>> ((10 : Int32) &&& 31)) (m := 127) (by omega)
  obtain ⟨l, hl, ql⟩ := and_nat (v1 >>> ((17 : Int32) &&& 31)) (m := 3) (by omega)
  obtain ⟨d, hd, qd⟩ := and_nat (v1 >>> ((19 : Int32) &&& 31)) (m := 7) (by omega)
  change v1 >>> ((3 : Int32) &&& 31) &&& 1 = Int32.ofNat kd at qkd
  change v1 >>> ((4 : Int32) &&& 31) &&& 7 = Int32.ofNat a at qa
  change v1 >>> ((7 : Int32) &&& 31) &&& 7 = Int32.ofNat b at qb
  change v1 >>> ((10 : Int32) &&& 31) &&& 127 = Int32.ofNat c at qc
  change v1 >>> ((17 : Int32) &&& 31) &&& 3 = Int32.ofNat l at ql
  change v1 >>> ((19 : Int32) &&& 31) &&& 7 = Int32.ofNat d at qd
  obtain ⟨_, lm, p4, p1⟩ := lim_tab ⟨l, by omega⟩
  dsimp only at lm p4 p1
  obtain ⟨y, hy, qy⟩ := and_nat (v1 >>> ((19 : Int32) &&& 31)) (m := 16 ^ l - 1) (by omega)
  -- nothing was added
  have no : ∀ v7, ∃ u, law_509 (Int32.ofNat E) (Int32.ofNat R) v7 (-1) q s t = some (1, u) := fun v7 => by
    unfold law_509 law_521 law_547 law_560 law_582
    rw [if_pos (show (-1 : Int32) < 0 by decide), if_pos rfl, if_pos rfl, if_pos rfl, if_pos rfl, if_pos (by unfold k_edgeCount; rw [ht.2.2.2.1, Int32.add_zero])]
    exact end_same hs ht su q (by unfold k_ruleCount; rw [ht.2.2.2.2.1, if_pos rfl, Int32.add_zero])
  unfold law_410
  rw [qkd, qa, qb, qc, ql, qd, lm, qy]
  by_cases k0 : kd = 0
  · rw [k0, if_pos (show Int32.ofNat 0 = 0 from rfl)]
    rcases addE ht (f := a) (t := b) (l := d) (w := c) (by omega) (by omega) (by omega) hc with ⟨_, e⟩ | ⟨ok, u, e, hu, u0, u1, u2, u3, uA⟩
    · rw [e, Option.bind_some]; exact no _
    · rw [e, Option.bind_some]
      dsimp only
      unfold law_509 law_521 law_542 law_547 law_560 law_582
      have ec : k_edgeCount u = Int32.ofNat E + 1 := by unfold k_edgeCount; rw [hu.2.2.2.1, ofNat_succ]
      rw [if_neg (ofNat_nonneg (by omega))]
      simp only [if_neg (show ¬ (1 : Int32) = 0 by decide), if_pos (show Int32.ofNat 0 = 0 from rfl), if_true]
      rw [if_pos ec, if_neg (show ¬ Int32.ofNat 0 = 1 by decide)]
      exact end_grew hs hu (by omega) (Nat.le_refl _) (su.set_e u0 u1 u2 u3 uA) q (by unfold k_ruleCount; rw [hu.2.2.2.2.1, Int32.add_zero])
  · have k1 : kd = 1 := by omega
    rw [k1, if_neg (show ¬ Int32.ofNat 1 = 0 by decide)]
    rcases addR ht (a := a) (l := l) (w := c) (b := y) ha hl hc hy with ⟨_, e⟩ | ⟨ok, u, e, hu, u4, u5, u6, u7, o7, uA⟩
    · rw [e, Option.bind_some]; exact no _
    · rw [e, Option.bind_some]
      dsimp only
      unfold law_509 law_521 law_542 law_547 law_560 law_582
      have ec : k_edgeCount u = Int32.ofNat E + 0 := by unfold k_edgeCount; rw [hu.2.2.2.1, Int32.add_zero]
      rw [if_neg (ofNat_nonneg (by omega))]
      simp only [if_neg (show ¬ (1 : Int32) = 0 by decide), if_neg (show ¬ Int32.ofNat 1 = 0 by decide), if_pos (show Int32.ofNat 1 = 1 from rfl), if_true]
      rw [if_pos ec]
      exact end_grew hs hu (Nat.le_refl _) (by omega) (su.set_r u4 u5 u6 o7 uA) q (by unfold k_ruleCount; rw [hu.2.2.2.2.1, ofNat_succ])
theorem get_sub {A : Type} {l l' : List A} {i : Nat} {x : A} (e : l[i]? = some x) (h : l'[i]? = some x) : l'[i]? = l[i]? := by rw [e, h]
theorem rules_301 (h : Sv n E R s) (v1 : Int32) (q : List Int32) : ∀ j k N t, k + j = R → j < N → Es n E k t → Sub E k s t → ∃ u, law_301 N v1 (Int32.ofNat E) (Int32.ofNat R) (Int32.ofNat k) q s t = some (1, u)
  | _, _, 0, _, _, h, _, _ => by omega
  | 0, k, N + 1, t, hk, _, ht, su => by
    have r12 := h.1.2.2.2.2.2.2.2.2.1
    have : k = R := by omega
    subst this
    rw [law_301, if_neg (fun z => by have := (ofNat_lt (by omega) (by omega)).mp z; omega)]
    exact end_410 h.1 ht su v1 q
  | j + 1, k, N + 1, t, hk, hN, ht, su => by
    have r12 := h.1.2.2.2.2.2.2.2.2.1
    obtain ⟨a, w, l, b, h1, h2, h3, h4, e4, e5, e6, e7, i0, i1, i2, i3⟩ := info_r h (show k < R by omega)
    rw [law_301, if_pos ((ofNat_lt (by omega) (by omega)).mpr (by omega)), i0, Option.bind_some, i1, Option.bind_some, i2, Option.bind_some]
    generalize hK : (fun v1 v5 v6 v7 (q : List Int32) (t0 t1 : S) => law_301 N v1 v5 v6 v7 q t0 t1) = K
    have stp : ∀ M i, i < 3 → law_341 K (M + 1) v1 (Int32.ofNat E) (Int32.ofNat R) (Int32.ofNat k) (Int32.ofNat a) (Int32.ofNat w) (Int32.ofNat l) (Int32.ofNat (ps l b i)) (Int32.ofNat i) q s t = law_341 K M v1 (Int32.ofNat E) (Int32.ofNat R) (Int32.ofNat k) (Int32.ofNat a) (Int32.ofNat w) (Int32.ofNat l) (Int32.ofNat (ps l b (i + 1))) (Int32.ofNat (i + 1)) q s t := fun M i hi => by
      rw [law_341, if_pos ((lt_lit (m := 3) (by omega)).mpr hi)]
      by_cases c : i < l
      · rw [if_pos ((ofNat_lt (by omega) (by omega)).mpr c), i3 i c, Option.bind_some, dig_nat h3 h4 c, shl_tab ⟨b / 16 ^ i % 16, Nat.mod_lt _ (by omega)⟩ ⟨i, hi⟩, ofNat_add', ofNat_succ, ps, if_pos c]
      · rw [if_neg (fun z => c ((ofNat_lt (by omega) (by omega)).mp z)), ofNat_succ, ps, if_neg c]; rfl
    have bd : law_341 K BIG v1 (Int32.ofNat E) (Int32.ofNat R) (Int32.ofNat k) (Int32.ofNat a) (Int32.ofNat w) (Int32.ofNat l) 0 0 q s t = law_384 K v1 (Int32.ofNat E) (Int32.ofNat R) (Int32.ofNat k) (Int32.ofNat a) (Int32.ofNat w) (Int32.ofNat l) (Int32.ofNat b) q s t := by
      rw [show law_341 K BIG v1 (Int32.ofNat E) (Int32.ofNat R) (Int32.ofNat k) (Int32.ofNat a) (Int32.ofNat w) (Int32.ofNat l) 0 0 q s t = law_341 K (999996 + 1 + 1 + 1 + 1) v1 (Int32.ofNat E) (Int32.ofNat R) (Int32.ofNat k) (Int32.ofNat a) (Int32.ofNat w) (Int32.ofNat l) (Int32.ofNat (ps l b 0)) (Int32.ofNat 0) q s t from rfl, stp _ 0 (by omega), stp _ (0 + 1) (by omega), stp _ (0 + 1 + 1) (by omega), law_341, if_neg (show ¬ Int32.ofNat (0 + 1 + 1 + 1) < 3 by decide), show ps l b (0 + 1 + 1 + 1) = b from ps3 h3 h4]
    rw [bd]
    unfold law_384
    rcases addR ht (a := a) (l := l) (w := w) (b := b) h1 h3 (by omega) h4 with ⟨no, _⟩ | ⟨ok, u, e, hu, u4, u5, u6, u7, o7, uA⟩
    · exact absurd ⟨(by omega : k < 12), h2⟩ no
    · rw [e, Option.bind_some, if_pos rfl, ← hK, ofNat_succ]
      refine rules_301 h v1 q j (k + 1) N u (by omega) (by omega) hu ?_
      obtain ⟨L, _⟩ := id ht
      have sr := su.set_r u4 u5 u6 o7 uA
      refine ⟨sr.1, fun i hi => ?_, fun i hi => ?_⟩
      · by_cases c : i = k
        · subst c
          rw [u4, u5, u6]
          exact ⟨get_sub e4 (List.getElem?_set_self (by rw [L.2.2.2.2.1]; omega)), get_sub e5 (List.getElem?_set_self (by rw [L.2.2.2.2.2.1]; omega)), get_sub e6 (List.getElem?_set_self (by rw [L.2.2.2.2.2.2.1]; omega))⟩
        · exact sr.2.1 i (by omega)
      · by_cases c : i < 3 * k
        · exact sr.2.2 i c
        · have ei : i = 3 * k + (i - 3 * k) := by omega
          rw [ei]
          exact get_sub (e7 _ (by omega)) (u7 _ (by omega))
theorem edges_229 (h : Sv n E R s) (v1 : Int32) (q : List Int32) : ∀ j k N t, k + j = E → j < N → Es n k 0 t → Sub k 0 s t → ∃ u, law_229 N v1 (Int32.ofNat E) (Int32.ofNat R) (Int32.ofNat k) q s t = some (1, u)
  | _, _, 0, _, _, h, _, _ => by omega
  | 0, k, N + 1, t, hk, _, ht, su => by
    have e16 := h.1.2.2.2.2.2.2.2.1
    have r12 := h.1.2.2.2.2.2.2.2.2.1
    have : k = E := by omega
    subst this
    rw [law_229, if_neg (fun z => by have := (ofNat_lt (by omega) (by omega)).mp z; omega), law_298]
    exact rules_301 h v1 q R 0 BIG t (by omega) (by unfold BIG; omega) ht su
  | j + 1, k, N + 1, t, hk, hN, ht, su => by
    have e16 := h.1.2.2.2.2.2.2.2.1
    have n8 := h.1.2.2.2.2.2.2.1
    obtain ⟨f, tt, l, w, h1, h2, h3, h4, e0, e1, e2, e3, i0, i1, i2, i3⟩ := info_e h (show k < E by omega)
    rw [law_229, if_pos ((ofNat_lt (by omega) (by omega)).mpr (by omega)), i0, Option.bind_some, i1, Option.bind_some, i2, Option.bind_some, i3, Option.bind_some]
    rcases addE ht (f := f) (t := tt) (l := l) (w := w) (by omega) (by omega) (by omega) (by omega) with ⟨no, _⟩ | ⟨ok, u, e, hu, u0, u1, u2, u3, uA⟩
    · exact absurd ⟨(by omega : k < 16), h1, h2, h3, h4⟩ no
    · rw [e, Option.bind_some, if_pos rfl, ofNat_succ]
      refine edges_229 h v1 q j (k + 1) N u (by omega) (by omega) hu ?_
      obtain ⟨L, _⟩ := id ht
      have sr := su.set_e u0 u1 u2 u3 uA
      refine ⟨fun i hi => ?_, sr.2.1, sr.2.2⟩
      by_cases c : i = k
      · subst c
        rw [u0, u1, u2, u3]
        exact ⟨get_sub e0 (List.getElem?_set_self (by rw [L.1]; omega)), get_sub e1 (List.getElem?_set_self (by rw [L.2.1]; omega)), get_sub e2 (List.getElem?_set_self (by rw [L.2.2.1]; omega)), get_sub e3 (List.getElem?_set_self (by rw [L.2.2.2.1]; omega))⟩
      · exact sr.1 i (by omega)
theorem end_204 (h : Sv n E R s) (v1 : Int32) (q : List Int32) : ∃ u, law_204 v1 (Int32.ofNat n) q s = some (1, u) := by
  have e16 := h.1.2.2.2.2.2.2.2.1
  have n8 := h.1.2.2.2.2.2.2.1
  have n2 := h.1.2.2.2.2.2.1
  obtain ⟨n', t, m2, m8, en, es, ht, _, _⟩ := init_Es (Int32.ofNat n)
  have cn : k_clampNodes (Int32.ofNat n) = Int32.ofNat n := by
    unfold k_clampNodes
    rw [if_neg (fun z => by have := (lt_lit (m := 2) (by omega)).mp z; omega), if_neg (fun z => by have := (ofNat_lt (k := 8) (by omega) (by omega)).mp z; omega)]
  rw [cn] at en
  have nn : n = n' := on_inj (by omega) (by omega) en
  subst nn
  unfold law_204 k_edgeCount k_ruleCount
  rw [es, Option.bind_some, h.1.2.2.2.1, h.1.2.2.2.2.1]
  exact edges_229 h v1 q E 0 BIG t (by omega) (by unfold BIG; omega) ht ⟨fun i hi => by omega, fun i hi => by omega, fun i hi => by omega⟩
end
theorem main_law (p0 : Int32) (q : List Int32) (hq : q.length ≤ 260) : ∃ t, law_12 p0 q = some (1, t) := by
  obtain ⟨n, s, n2, n8, en, es, hs, k4, k5⟩ := init_Es (p0 &&& 7)
  unfold law_12 k_nodeCount
  rw [es, Option.bind_some, hs.2.2.1]
  have lt4 : ∀ k, k ≤ 300 → ((Int32.ofNat k + 4) < q.length.toInt32 ↔ k + 4 < q.length) := fun k hk => by
    rw [show Int32.ofNat k + 4 = Int32.ofNat (k + 4) from ofNat_lit k 4]; exact ofNat_lt (by omega) (by omega)
  have loop : ∀ m N k s E R, q.length < k + 5 * m + 5 → m < N → k ≤ 280 → Sv n E R s → ∃ t, law_33 N p0 (Int32.ofNat n) (Int32.ofNat k) q s = some (1, t) := by
    intro m
    induction m with
    | zero =>
      intro N k s E R hm hN hk h
      obtain ⟨N, rfl⟩ : ∃ M, N = M + 1 := ⟨N - 1, by omega⟩
      rw [law_33, if_neg (fun z => by have := (lt4 k (by omega)).mp z; omega)]
      exact end_204 h p0 q
    | succ m ih =>
      intro N k s E R hm hN hk h
      obtain ⟨N, rfl⟩ : ∃ M, N = M + 1 := ⟨N - 1, by omega⟩
      rw [law_33]
      by_cases c : k + 4 < q.length
      · obtain ⟨x0, e0⟩ := ix_some q (k := k) (by omega) (by omega)
        obtain ⟨x1, e1⟩ := ix_some q (k := k + 1) (by omega) (by omega)
        obtain ⟨x2, e2⟩ := ix_some q (k := k + 2) (by omega) (by omega)
        obtain ⟨x3, e3⟩ := ix_some q (k := k + 3) (by omega) (by omega)
        obtain ⟨x4, e4⟩ := ix_some q (k := k + 4) (by omega) (by omega)
        rw [if_pos ((lt4 k (by omega)).mpr c), e0, Option.bind_some, ofNat_lit, e1, Option.bind_some, ofNat_lit, e2, Option.bind_some, ofNat_lit, e3, Option.bind_some, ofNat_lit, e4, Option.bind_some]
        obtain ⟨a7, h7, q7⟩ := and_nat x1 (m := 7) (by omega)
        obtain ⟨b1, hb1, qb1⟩ := and_nat x2 (m := 1) (by omega)
        obtain ⟨b3, hb3, qb3⟩ := and_nat x2 (m := 3) (by omega)
        obtain ⟨c3, hc3, qc3⟩ := and_nat x3 (m := 3) (by omega)
        obtain ⟨c127, hc127, qc127⟩ := and_nat x3 (m := 127) (by omega)
        obtain ⟨d127, hd127, qd127⟩ := and_nat x4 (m := 127) (by omega)
        change x1 &&& 7 = Int32.ofNat a7 at q7
        change x2 &&& 1 = Int32.ofNat b1 at qb1
        change x2 &&& 3 = Int32.ofNat b3 at qb3
        change x3 &&& 3 = Int32.ofNat c3 at qc3
        change x3 &&& 127 = Int32.ofNat c127 at qc127
        change x4 &&& 127 = Int32.ofNat d127 at qd127
        have nz : ¬ Int32.ofNat n = 0 := fun z => by have := on_inj (a := n) (b := 0) (by omega) (by omega) z; omega
        have to : Int32.ofNat (a7 % n) + 1 + Int32.ofNat b1 = Int32.ofNat (a7 % n + 1 + b1) := by rw [ofNat_succ, ofNat_add']
        have am : a7 % n < n := Nat.mod_lt _ (by omega)
        rw [show Int32.ofNat k + 5 = Int32.ofNat (k + 5) from ofNat_lit k 5]
        by_cases o1 : (x0 &&& 15) < (7 : Int32)
        · rw [if_pos o1, if_neg nz, q7, qb1, qc3, qd127, mod_nat (by omega) (by omega), to]
          obtain ⟨x, E', u, e, hu⟩ := sv_edge h (f := a7 % n) (t := a7 % n + 1 + b1) (l := c3) (w := d127) (by omega) (by omega) (by omega) hd127
          rw [e, Option.bind_some]
          exact ih N (k + 5) u E' R (by omega) (by omega) (by omega) hu
        · rw [if_neg o1]
          by_cases o2 : (x0 &&& 15) < (14 : Int32)
          · obtain ⟨_, lm, p4, p1⟩ := lim_tab ⟨b3, by omega⟩
            dsimp only at lm p4 p1
            obtain ⟨body, hbody, qbody⟩ := and_nat x4 (m := 16 ^ b3 - 1) (by omega)
            rw [if_pos o2, q7, qb3, qc127, lm, qbody]
            obtain ⟨x, R', u, e, hu⟩ := sv_rule h (a := a7) (l := b3) (w := c127) (b := body) h7 hb3 hc127 hbody
            rw [e, Option.bind_some]
            exact ih N (k + 5) u E R' (by omega) (by omega) (by omega) hu
          · rw [if_neg o2]
            by_cases o3 : (x0 &&& 15) = (14 : Int32)
            · obtain ⟨b, w, s', e, hs', F, _⟩ := parse_ok h.1
              rw [if_pos o3, e, Option.bind_some]
              exact ih N (k + 5) s' E R (by omega) (by omega) (by omega) (h.fx hs' (fun f hf => F.2.2.1 f (by simp; omega)))
            · obtain ⟨s', e, hs', _, _⟩ := reset_Es h.1.1 h.1.2.1 h.1.2.2.1 h.1.2.2.2.2.2.1 h.1.2.2.2.2.2.2.1
              rw [if_neg o3, e, Option.bind_some]
              exact ih N (k + 5) s' 0 0 (by omega) (by omega) (by omega) ⟨hs', fun i hi => by omega, fun i hi => by omega⟩
      · rw [if_neg (fun z => c ((lt4 k (by omega)).mp z))]
        exact end_204 h p0 q
  exact loop 60 BIG 1 s 0 0 (by omega) (by unfold BIG; omega) (by omega) ⟨hs, fun i hi => by omega, fun i hi => by omega⟩
theorem law_true (q : List Int32) (hq : q.length ≤ 260) : ∃ t, law q = some (1, t) := by
  unfold law
  by_cases c : (0 : Int32) < q.length.toInt32
  · have : 0 < q.length := (ofNat_lt (k := 0) (by omega) (by omega)).mp c
    obtain ⟨x, e⟩ := ix_some q (k := 0) (by omega) this
    rw [if_pos c, show ix q 0 = some x from e, Option.bind_some]
    exact main_law x q hq
  · rw [if_neg c]
    exact main_law 0 q hq
set_option maxRecDepth 65536 in
set_option maxHeartbeats 40000000 in
theorem comes_1 {Post : Tables → Env → Array Value → State → Outcome → State → Prop} (hpost : ∀ tb e args s v u, (limb_1_1.after args s (.returned v) u = true ∧ limb_1_2.after args s (.returned v) u = true ∧ True) → FrameEnd s (.returned v) u (Jvm.fieldLocs frame_1_writes args s ++ Jvm.arrayLocs frame_1_arrays args s ++ Jvm.staticLocs frame_1_statics s) 64 33472 → Post tb e args s (.returned v) u) :
    ArmFor flags0 classFile x code maxLocals ret World_1 tables_1 room_1 Calls_1 rest_1 Pre_1 Post := by
  intro l hfl _ _ p e ha hc hk s m args below hf hA hF happ hP
  obtain ⟨hcalls, hrest, hpre⟩ := hP
  obtain ⟨-, -, -, hnamed, -, -, -, hat⟩ := (Spec.applies_iff hf).mp happ
  obtain ⟨hg, hn⟩ := and_e (Cond.before_iff.mp (show (Jvm.Cond.and given_1 narrow_1).before args s = true from hpre))
  obtain ⟨g0, b0⟩ := and_e hg
  have a0 := b0
  obtain ⟨w0, rfl⟩ : ∃ w0 : Value, args = #[w0] := by
    have hs : args.size = 1 := by simpa [Cond.value, given_1] using g0
    obtain ⟨L⟩ := args
    match L, hs with
    | [w0], _ => exact ⟨w0, rfl⟩
  have hw := fun d (hd : d ∈ tables_1) => atoms_spec (ws := Jvm.Cond.code x code maxLocals ret :: tables_1) hat d (List.mem_cons_of_mem _ hd)
  have hfit : Fit s := fun {y c} hc i hi => by
    obtain ⟨ha, rfl⟩ := Array.getElem?_eq_some_iff.mp hc
    have q := List.all_eq_true.mp ((Array.all_eq_true_iff_forall_mem.mp hF) _ (Array.getElem_mem ha)) i (List.mem_range.mpr hi)
    simpa [Array.getElem?_eq_getElem hi] using q
  obtain ⟨q1, q2⟩ := and_e hn
  obtain ⟨al, q, ei, A, hal, hlen⟩ := script_of hfit q1 q2
  obtain rfl : w0 = (.ref al) := Option.some.inj ei
  have hlen' : q.length ≤ 260 := by
    have e260 : (260 : Int32).toInt = 260 := rfl
    omega
  obtain ⟨t, ht⟩ := law_true q hlen'
  have C : Call PP m62 [.ref 0] (some q, []) (some (.int ((1 : Int32), t).1), (some q, [(12, ((1 : Int32), t).2.1), (12, ((1 : Int32), t).2.2)])) := call_of_go pl_1 rfl (fun h => by cases h) (law_ok q _ ht)
  obtain ⟨n, o, h1, h2, h3, _, L, rfl, ⟨rfl, N, _⟩, hq⟩ := C l s _ tables_1 al s.heap.size s.heap.size s.heap hw (facts1 hw) (Nat.le_refl _) (repW_some A hal) (Nat.zero_le _) (fun _ => ⟨rfl, rfl, rfl⟩) p e ha hc hk s m _ below hf ((Spec.applies_iff_loose hf).mp happ).1 ⟨rfl, State.Warmed39.refl s, rfl⟩ trivial
  refine ⟨n, _, h1, h2, h3, hpost _ _ _ _ _ _ ⟨Cond.after_iff.mpr rfl, Cond.after_iff.mpr (eq_i res_at (Term.int_eval (1)) rfl), trivial⟩ ⟨hq.1, hq.2.1, (hq.2.2.sift fun y hy => Or.inr (N y hy)).mono (by decide) (by decide)⟩⟩
theorem main_1_1 : Claimed_1_1 := comes_1 fun _ _ _ _ _ _ h hF => ⟨h.1, hF⟩
theorem main_1_2 : Claimed_1_2 := comes_1 fun _ _ _ _ _ _ h hF => ⟨h.2.1, hF⟩
end Jvm.Pilot.@@N@@
namespace Jvm.Pilot.@@N@@
open Jvm Jvm.ClassFile Sem Op Lib Jvm.Free Jvm.Stand Jvm.Pilot.@@N@@.Jvm.D
/-! MADE BY PROGRAM (witnessworld.py) out of the Statement's table words and the real class files: 9 classes; the members and pool entries that the words name. The judged class is class 1, her method 1. -/
namespace start1
open Jvm.ClassFile
def u (s : String) : CpInfo := .utf8 (stringToUtf16 s)
/-- a pool by its gaps: so many unusable entries, then the entry; so many at the end -/
def gap : Nat → List CpInfo → List CpInfo
  | 0, r => r
  | n + 1, r => .unusable :: gap n r
def poolList (es : List (Nat × CpInfo)) (last : Nat) : List CpInfo := es.foldr (fun e r => gap e.1 (e.2 :: r)) (gap last [])
def pool (es : List (Nat × CpInfo)) (last : Nat) : Array CpInfo := ⟨poolList es last⟩
def fileOf (pool : Array CpInfo) (this : Nat) (attrs : Array Attribute := #[]) (ms : Array MethodInfo := #[]) (fl : Nat := 33) (sup : Nat := 0) (ifs : Array Nat := #[]) (fds : Array FieldInfo := #[]) : ClassFile where
  minorVersion := 0
  majorVersion := 65
  constantPool := pool
  accessFlags := fl
  thisClass := this
  superClass := sup
  interfaces := ifs
  fields := fds
  methods := ms
  attributes := attrs
def plain (name : String) (sup : Option ClassId) : Class where
  name := name
  kind := .ordinary
  loader := none
  accessFlags := 33
  super := sup
  interfaces := #[]
  cf := none
  fields := #[]
  methods := #[]
  instanceTypes := #[]
  staticTypes := #[]
  resolved := #[]
  callSites := []
  init := .initialized
  statics := none
  mirror := none

def pool0 : Array CpInfo := pool [(5, u "<init>"), (0, u "()V"), (1, .class_ 10), (1, u "java/lang/Object")] 113

def k0c0 : Code := { maxStack := 0, maxLocals := 1, code := object_method_1_code, exceptionTable := #[], attributes := #[] }
def k0m0 : Method := { name := "<init>", desc := "()V", sig := { parameters := [], returnType := none }, accessFlags := 1, code := some k0c0 }
/-- java/lang/Object -/
def k0 : Class := { plain "java/lang/Object" none with
  accessFlags := 33
  interfaces := #[]
  cf := some (fileOf pool0 8 #[] #[{ accessFlags := 1, nameIndex := 5, descriptorIndex := 6, attributes := #[] }] 33 0 #[] #[])
  fields := #[]
  methods := #[k0m0]
  instanceTypes := #[]
  staticTypes := #[]
  resolved := Array.replicate 124 none
  statics := none }

def pool1 : Array CpInfo := pool [(2, .class_ 4), (1, u "java/lang/Object"), (0, u "<init>"), (0, u "()V"), (0, .class_ 8), (0, u "LatticeEarley"), (0, .methodref 7 10), (0, .nameAndType 5 11), (0, u "(I)V"), (0, .methodref 7 13), (0, .nameAndType 14 15), (0, u "nodeCount"), (0, u "()I"), (0, .methodref 7 17), (0, .nameAndType 18 19), (0, u "addEdge"), (0, u "(IIII)I"), (0, .methodref 7 21), (0, .nameAndType 22 19), (0, u "addRule"), (0, .methodref 7 24), (0, .nameAndType 25 26), (0, u "parse"), (0, u "()Z"), (0, .methodref 7 28), (0, .nameAndType 29 6), (0, u "reset"), (0, .methodref 7 31), (0, .nameAndType 32 15), (0, u "edgeCount"), (0, .methodref 7 34), (0, .nameAndType 35 15), (0, u "ruleCount"), (0, .methodref 7 37), (0, .nameAndType 38 39), (0, u "edgeInfo"), (0, u "(II)I"), (0, .methodref 7 41), (0, .nameAndType 42 39), (0, u "ruleInfo"), (0, .methodref 7 44), (0, .nameAndType 45 15), (0, u "status"), (0, .methodref 7 47), (0, .nameAndType 48 15), (0, u "bestWeight"), (0, .methodref 50 51), (0, .class_ 52), (0, .nameAndType 53 54), (0, u "LatticeEarleyL7"), (0, u "rel"), (0, u "(IIZ)Z"), (0, .methodref 7 56), (0, .nameAndType 57 58), (0, u "spanWeight"), (0, u "(III)I"), (0, .methodref 7 60), (0, .nameAndType 61 62), (0, u "edgeBest"), (0, u "(I)I"), (0, .methodref 7 64), (0, .nameAndType 65 62), (0, u "ruleBest"), (2, u "law"), (0, u "([I)Z")] 5

def k1m0 : Method := { name := "<init>", desc := "()V", sig := { parameters := [], returnType := none }, accessFlags := 1, code := none }
def k1c1 : Code := { maxStack := 6, maxLocals := 19, code := code, exceptionTable := #[], attributes := #[] }
def k1m1 : Method := { name := "law", desc := "([I)Z", sig := { parameters := [(.array .int)], returnType := some .boolean }, accessFlags := 9, code := some k1c1 }
def k1c2 : Code := { maxStack := 2, maxLocals := 3, code := method_3_code, exceptionTable := #[], attributes := #[] }
def k1m2 : Method := { name := "rel", desc := "(IIZ)Z", sig := { parameters := [.int, .int, .boolean], returnType := some .boolean }, accessFlags := 10, code := some k1c2 }
/-- LatticeEarleyL7 -/
def k1 : Class := { plain "LatticeEarleyL7" (some 0) with
  accessFlags := 49
  interfaces := #[]
  cf := some (fileOf pool1 50 #[] #[{ accessFlags := 1, nameIndex := 5, descriptorIndex := 6, attributes := #[] }, { accessFlags := 9, nameIndex := 68, descriptorIndex := 69, attributes := #[] }, { accessFlags := 10, nameIndex := 53, descriptorIndex := 54, attributes := #[] }] 49 2 #[] #[])
  fields := #[]
  methods := #[k1m0, k1m1, k1m2]
  instanceTypes := #[]
  staticTypes := #[]
  resolved := Array.replicate 75 none
  statics := none }

def pool2 : Array CpInfo := pool [(1, .methodref 2 3), (0, .class_ 4), (0, .nameAndType 5 6), (0, u "java/lang/Object"), (0, u "<init>"), (0, u "()V"), (0, .integer 1073741824), (0, .fieldref 9 10), (0, .class_ 11), (0, .nameAndType 12 13), (0, u "LatticeEarley"), (0, u "inf"), (0, u "I"), (0, .fieldref 9 15), (0, .nameAndType 16 17), (0, u "edgeFrom"), (0, u "[I"), (0, .fieldref 9 19), (0, .nameAndType 20 17), (0, u "edgeTo"), (0, .fieldref 9 22), (0, .nameAndType 23 17), (0, u "edgeLabel"), (0, .fieldref 9 25), (0, .nameAndType 26 17), (0, u "edgeWeight"), (0, .fieldref 9 28), (0, .nameAndType 29 17), (0, u "ruleHead"), (0, .fieldref 9 31), (0, .nameAndType 32 17), (0, u "ruleWeight"), (0, .fieldref 9 34), (0, .nameAndType 35 17), (0, u "ruleLength"), (0, .fieldref 9 37), (0, .nameAndType 38 17), (0, u "ruleSym"), (0, .fieldref 9 40), (0, .nameAndType 41 17), (0, u "span"), (0, .fieldref 9 43), (0, .nameAndType 44 17), (0, u "item"), (0, .fieldref 9 46), (0, .nameAndType 47 17), (0, u "rest"), (0, .fieldref 9 49), (0, .nameAndType 50 17), (0, u "outer"), (0, .methodref 9 52), (0, .nameAndType 53 54), (0, u "clampNodes"), (0, u "(I)I"), (0, .fieldref 9 56), (0, .nameAndType 57 13), (0, u "nodeTotal"), (0, .methodref 9 59), (0, .nameAndType 60 6), (0, u "clearStore"), (0, .methodref 9 62), (0, .nameAndType 63 6), (0, u "clearTables"), (0, .fieldref 9 65), (0, .nameAndType 66 13), (0, u "edgeTotal"), (0, .fieldref 9 68), (0, .nameAndType 69 13), (0, u "ruleTotal"), (0, .methodref 9 71), (0, .nameAndType 72 73), (0, u "edgeRefused"), (0, u "(IIII)Z"), (0, .methodref 9 75), (0, .nameAndType 76 6), (0, u "becomeBuilding"), (0, .methodref 9 78), (0, .nameAndType 79 73), (0, u "ruleRefused"), (0, .methodref 9 81), (0, .nameAndType 82 83), (0, u "storeRule"), (0, u "(IIIII)V"), (0, .methodref 9 85), (0, .nameAndType 86 87), (0, u "symbolAt"), (0, u "(II)I"), (0, .methodref 9 89), (0, .nameAndType 90 6), (0, u "runInside"), (0, .methodref 9 92), (0, .nameAndType 93 94), (0, u "getSpan"), (0, u "(III)I"), (0, .fieldref 9 96), (0, .nameAndType 97 13), (0, u "state"), (0, .fieldref 9 99), (0, .nameAndType 100 13), (0, u "bestTotal"), (0, .methodref 9 102), (0, .nameAndType 103 6), (0, u "runRest"), (0, .methodref 9 105), (0, .nameAndType 106 6), (0, u "runOuter"), (0, .methodref 9 108), (0, .nameAndType 109 110), (0, u "isCode"), (0, u "(I)Z"), (0, .methodref 9 112), (0, .nameAndType 113 110), (0, u "isNode"), (0, .methodref 9 115), (0, .nameAndType 116 54), (0, u "answer"), (0, .methodref 9 118), (0, .nameAndType 119 94), (0, u "getOuter"), (0, .methodref 9 121), (0, .nameAndType 122 87), (0, u "plus"), (0, .methodref 9 124), (0, .nameAndType 125 110), (0, u "isRule"), (0, .methodref 9 127), (0, .nameAndType 128 54), (0, u "ruleContext"), (0, .methodref 9 130), (0, .nameAndType 131 132), (0, u "inRange"), (0, u "(III)Z"), (0, .methodref 9 134), (0, .nameAndType 135 54), (0, u "bodyLimit"), (0, .methodref 9 137), (0, .nameAndType 138 110), (0, u "isDot"), (0, .methodref 9 140), (0, .nameAndType 141 94), (0, u "spanSlot"), (0, .methodref 9 143), (0, .nameAndType 144 145), (0, u "itemSlot"), (0, u "(IIII)I"), (0, .methodref 9 147), (0, .nameAndType 148 6), (0, u "scanEdges"), (0, .methodref 9 150), (0, .nameAndType 151 6), (0, u "seedItems"), (0, .methodref 9 153), (0, .nameAndType 154 155), (0, u "closeInsideCell"), (0, u "(II)V"), (0, .methodref 9 157), (0, .nameAndType 158 73), (0, u "lowerSpan"), (0, .methodref 9 160), (0, .nameAndType 161 162), (0, u "lowerItem"), (0, u "(IIIII)Z"), (0, .methodref 9 164), (0, .nameAndType 165 166), (0, u "insideRound"), (0, u "(II)Z"), (0, .methodref 9 168), (0, .nameAndType 169 132), (0, u "advanceItems"), (0, .methodref 9 171), (0, .nameAndType 172 132), (0, u "completeItem"), (0, .methodref 9 174), (0, .nameAndType 175 145), (0, u "bestAdvance"), (0, .methodref 9 177), (0, .nameAndType 178 145), (0, u "getItem"), (0, .methodref 9 180), (0, .nameAndType 181 54), (0, u "headCode"), (0, .methodref 9 183), (0, .nameAndType 184 185), (0, u "seedRest"), (0, u "(I)V"), (0, .methodref 9 187), (0, .nameAndType 188 155), (0, u "fillRestLevel"), (0, .methodref 9 190), (0, .nameAndType 191 162), (0, u "lowerRest"), (0, .methodref 9 193), (0, .nameAndType 194 145), (0, u "restAt"), (0, .methodref 9 196), (0, .nameAndType 197 145), (0, u "getRest"), (0, .methodref 9 199), (0, .nameAndType 200 73), (0, u "lowerOuter"), (0, .methodref 9 202), (0, .nameAndType 203 155), (0, u "closeOuterCell"), (0, .methodref 9 205), (0, .nameAndType 206 166), (0, u "outerRound"), (0, .methodref 9 208), (0, .nameAndType 209 132), (0, u "outerRule"), (0, .methodref 9 211), (0, .nameAndType 212 145), (0, u "bestContext"), (0, .methodref 9 214), (0, .nameAndType 215 94), (0, u "plus3"), (0, u "MIN_NODES"), (2, u "MAX_NODES"), (1, u "MAX_EDGES"), (1, u "MAX_RULES"), (1, u "MAX_BODY"), (1, u "TERMINALS"), (0, u "NONTERMINALS"), (0, u "NONTERMINAL_BASE"), (0, u "START_CODE"), (0, u "MAX_WEIGHT"), (1, u "NONE"), (1, u "STATUS_BUILDING"), (1, u "STATUS_ACCEPTED"), (1, u "STATUS_REJECTED"), (0, u "EDGE_FROM"), (0, u "EDGE_TO"), (0, u "EDGE_LABEL"), (0, u "EDGE_WEIGHT"), (0, u "RULE_HEAD"), (0, u "RULE_WEIGHT"), (0, u "RULE_LENGTH"), (0, u "RULE_SYM0"), (0, u "RULE_SYM1"), (1, u "RULE_SYM2"), (3, u "reset"), (0, u "nodeCount"), (0, u "()I"), (0, u "edgeCount"), (0, u "ruleCount"), (0, u "addEdge"), (1, u "addRule"), (0, u "edgeInfo"), (0, u "ruleInfo"), (0, u "parse"), (0, u "()Z"), (0, u "status"), (0, u "bestWeight"), (0, u "spanWeight"), (0, u "edgeBest"), (0, u "ruleBest")] 2

def k2c0 : Code := { maxStack := 3, maxLocals := 2, code := prog_1_method_1_code, exceptionTable := #[], attributes := #[] }
def k2m0 : Method := { name := "<init>", desc := "(I)V", sig := { parameters := [.int], returnType := none }, accessFlags := 1, code := some k2c0 }
def k2c1 : Code := { maxStack := 1, maxLocals := 1, code := prog_1_method_2_code, exceptionTable := #[], attributes := #[] }
def k2m1 : Method := { name := "reset", desc := "()V", sig := { parameters := [], returnType := none }, accessFlags := 1, code := some k2c1 }
def k2c2 : Code := { maxStack := 1, maxLocals := 1, code := prog_1_method_3_code, exceptionTable := #[], attributes := #[] }
def k2m2 : Method := { name := "nodeCount", desc := "()I", sig := { parameters := [], returnType := some .int }, accessFlags := 1, code := some k2c2 }
def k2c3 : Code := { maxStack := 1, maxLocals := 1, code := prog_1_method_4_code, exceptionTable := #[], attributes := #[] }
def k2m3 : Method := { name := "edgeCount", desc := "()I", sig := { parameters := [], returnType := some .int }, accessFlags := 1, code := some k2c3 }
def k2c4 : Code := { maxStack := 1, maxLocals := 1, code := prog_1_method_5_code, exceptionTable := #[], attributes := #[] }
def k2m4 : Method := { name := "ruleCount", desc := "()I", sig := { parameters := [], returnType := some .int }, accessFlags := 1, code := some k2c4 }
def k2c5 : Code := { maxStack := 5, maxLocals := 6, code := prog_1_method_6_code, exceptionTable := #[], attributes := #[] }
def k2m5 : Method := { name := "addEdge", desc := "(IIII)I", sig := { parameters := [.int, .int, .int, .int], returnType := some .int }, accessFlags := 1, code := some k2c5 }
def k2c6 : Code := { maxStack := 6, maxLocals := 6, code := prog_1_method_7_code, exceptionTable := #[], attributes := #[] }
def k2m6 : Method := { name := "addRule", desc := "(IIII)I", sig := { parameters := [.int, .int, .int, .int], returnType := some .int }, accessFlags := 1, code := some k2c6 }
def k2c7 : Code := { maxStack := 2, maxLocals := 3, code := prog_1_method_8_code, exceptionTable := #[], attributes := #[] }
def k2m7 : Method := { name := "edgeInfo", desc := "(II)I", sig := { parameters := [.int, .int], returnType := some .int }, accessFlags := 1, code := some k2c7 }
def k2c8 : Code := { maxStack := 3, maxLocals := 4, code := prog_1_method_9_code, exceptionTable := #[], attributes := #[] }
def k2m8 : Method := { name := "ruleInfo", desc := "(II)I", sig := { parameters := [.int, .int], returnType := some .int }, accessFlags := 1, code := some k2c8 }
def k2c9 : Code := { maxStack := 4, maxLocals := 3, code := prog_1_method_10_code, exceptionTable := #[], attributes := #[] }
def k2m9 : Method := { name := "parse", desc := "()Z", sig := { parameters := [], returnType := some .boolean }, accessFlags := 1, code := some k2c9 }
def k2c10 : Code := { maxStack := 1, maxLocals := 1, code := prog_1_method_11_code, exceptionTable := #[], attributes := #[] }
def k2m10 : Method := { name := "status", desc := "()I", sig := { parameters := [], returnType := some .int }, accessFlags := 1, code := some k2c10 }
def k2c11 : Code := { maxStack := 2, maxLocals := 1, code := prog_1_method_12_code, exceptionTable := #[], attributes := #[] }
def k2m11 : Method := { name := "bestWeight", desc := "()I", sig := { parameters := [], returnType := some .int }, accessFlags := 1, code := some k2c11 }
def k2c12 : Code := { maxStack := 4, maxLocals := 5, code := prog_1_method_13_code, exceptionTable := #[], attributes := #[] }
def k2m12 : Method := { name := "spanWeight", desc := "(III)I", sig := { parameters := [.int, .int, .int], returnType := some .int }, accessFlags := 1, code := some k2c12 }
def k2c13 : Code := { maxStack := 5, maxLocals := 4, code := prog_1_method_14_code, exceptionTable := #[], attributes := #[] }
def k2m13 : Method := { name := "edgeBest", desc := "(I)I", sig := { parameters := [.int], returnType := some .int }, accessFlags := 1, code := some k2c13 }
def k2c14 : Code := { maxStack := 2, maxLocals := 3, code := prog_1_method_15_code, exceptionTable := #[], attributes := #[] }
def k2m14 : Method := { name := "ruleBest", desc := "(I)I", sig := { parameters := [.int], returnType := some .int }, accessFlags := 1, code := some k2c14 }
def k2c15 : Code := { maxStack := 2, maxLocals := 2, code := prog_1_method_16_code, exceptionTable := #[], attributes := #[] }
def k2m15 : Method := { name := "clampNodes", desc := "(I)I", sig := { parameters := [.int], returnType := some .int }, accessFlags := 2, code := some k2c15 }
def k2c16 : Code := { maxStack := 3, maxLocals := 2, code := prog_1_method_17_code, exceptionTable := #[], attributes := #[] }
def k2m16 : Method := { name := "clearStore", desc := "()V", sig := { parameters := [], returnType := none }, accessFlags := 2, code := some k2c16 }
def k2c17 : Code := { maxStack := 2, maxLocals := 1, code := prog_1_method_18_code, exceptionTable := #[], attributes := #[] }
def k2m17 : Method := { name := "becomeBuilding", desc := "()V", sig := { parameters := [], returnType := none }, accessFlags := 2, code := some k2c17 }
def k2c18 : Code := { maxStack := 3, maxLocals := 2, code := prog_1_method_19_code, exceptionTable := #[], attributes := #[] }
def k2m18 : Method := { name := "clearTables", desc := "()V", sig := { parameters := [], returnType := none }, accessFlags := 2, code := some k2c18 }
def k2c19 : Code := { maxStack := 2, maxLocals := 4, code := prog_1_method_20_code, exceptionTable := #[], attributes := #[] }
def k2m19 : Method := { name := "inRange", desc := "(III)Z", sig := { parameters := [.int, .int, .int], returnType := some .boolean }, accessFlags := 2, code := some k2c19 }
def k2c20 : Code := { maxStack := 4, maxLocals := 5, code := prog_1_method_21_code, exceptionTable := #[], attributes := #[] }
def k2m20 : Method := { name := "edgeRefused", desc := "(IIII)Z", sig := { parameters := [.int, .int, .int, .int], returnType := some .boolean }, accessFlags := 2, code := some k2c20 }
def k2c21 : Code := { maxStack := 4, maxLocals := 5, code := prog_1_method_22_code, exceptionTable := #[], attributes := #[] }
def k2m21 : Method := { name := "ruleRefused", desc := "(IIII)Z", sig := { parameters := [.int, .int, .int, .int], returnType := some .boolean }, accessFlags := 2, code := some k2c21 }
def k2c22 : Code := { maxStack := 2, maxLocals := 4, code := prog_1_method_23_code, exceptionTable := #[], attributes := #[] }
def k2m22 : Method := { name := "bodyLimit", desc := "(I)I", sig := { parameters := [.int], returnType := some .int }, accessFlags := 2, code := some k2c22 }
def k2c23 : Code := { maxStack := 3, maxLocals := 8, code := prog_1_method_24_code, exceptionTable := #[], attributes := #[] }
def k2m23 : Method := { name := "storeRule", desc := "(IIIII)V", sig := { parameters := [.int, .int, .int, .int, .int], returnType := none }, accessFlags := 2, code := some k2c23 }
def k2c24 : Code := { maxStack := 3, maxLocals := 3, code := prog_1_method_25_code, exceptionTable := #[], attributes := #[] }
def k2m24 : Method := { name := "symbolAt", desc := "(II)I", sig := { parameters := [.int, .int], returnType := some .int }, accessFlags := 2, code := some k2c24 }
def k2c25 : Code := { maxStack := 3, maxLocals := 2, code := prog_1_method_26_code, exceptionTable := #[], attributes := #[] }
def k2m25 : Method := { name := "headCode", desc := "(I)I", sig := { parameters := [.int], returnType := some .int }, accessFlags := 2, code := some k2c25 }
def k2c26 : Code := { maxStack := 2, maxLocals := 2, code := prog_1_method_27_code, exceptionTable := #[], attributes := #[] }
def k2m26 : Method := { name := "isNode", desc := "(I)Z", sig := { parameters := [.int], returnType := some .boolean }, accessFlags := 2, code := some k2c26 }
def k2c27 : Code := { maxStack := 2, maxLocals := 2, code := prog_1_method_28_code, exceptionTable := #[], attributes := #[] }
def k2m27 : Method := { name := "isCode", desc := "(I)Z", sig := { parameters := [.int], returnType := some .boolean }, accessFlags := 2, code := some k2c27 }
def k2c28 : Code := { maxStack := 2, maxLocals := 2, code := prog_1_method_29_code, exceptionTable := #[], attributes := #[] }
def k2m28 : Method := { name := "isRule", desc := "(I)Z", sig := { parameters := [.int], returnType := some .boolean }, accessFlags := 2, code := some k2c28 }
def k2c29 : Code := { maxStack := 2, maxLocals := 2, code := prog_1_method_30_code, exceptionTable := #[], attributes := #[] }
def k2m29 : Method := { name := "isDot", desc := "(I)Z", sig := { parameters := [.int], returnType := some .boolean }, accessFlags := 2, code := some k2c29 }
def k2c30 : Code := { maxStack := 3, maxLocals := 4, code := prog_1_method_31_code, exceptionTable := #[], attributes := #[] }
def k2m30 : Method := { name := "spanSlot", desc := "(III)I", sig := { parameters := [.int, .int, .int], returnType := some .int }, accessFlags := 2, code := some k2c30 }
def k2c31 : Code := { maxStack := 3, maxLocals := 5, code := prog_1_method_32_code, exceptionTable := #[], attributes := #[] }
def k2m31 : Method := { name := "itemSlot", desc := "(IIII)I", sig := { parameters := [.int, .int, .int, .int], returnType := some .int }, accessFlags := 2, code := some k2c31 }
def k2c32 : Code := { maxStack := 4, maxLocals := 5, code := prog_1_method_33_code, exceptionTable := #[], attributes := #[] }
def k2m32 : Method := { name := "getSpan", desc := "(III)I", sig := { parameters := [.int, .int, .int], returnType := some .int }, accessFlags := 2, code := some k2c32 }
def k2c33 : Code := { maxStack := 4, maxLocals := 6, code := prog_1_method_34_code, exceptionTable := #[], attributes := #[] }
def k2m33 : Method := { name := "lowerSpan", desc := "(IIII)Z", sig := { parameters := [.int, .int, .int, .int], returnType := some .boolean }, accessFlags := 2, code := some k2c33 }
def k2c34 : Code := { maxStack := 4, maxLocals := 5, code := prog_1_method_35_code, exceptionTable := #[], attributes := #[] }
def k2m34 : Method := { name := "getOuter", desc := "(III)I", sig := { parameters := [.int, .int, .int], returnType := some .int }, accessFlags := 2, code := some k2c34 }
def k2c35 : Code := { maxStack := 4, maxLocals := 6, code := prog_1_method_36_code, exceptionTable := #[], attributes := #[] }
def k2m35 : Method := { name := "lowerOuter", desc := "(IIII)Z", sig := { parameters := [.int, .int, .int, .int], returnType := some .boolean }, accessFlags := 2, code := some k2c35 }
def k2c36 : Code := { maxStack := 5, maxLocals := 6, code := prog_1_method_37_code, exceptionTable := #[], attributes := #[] }
def k2m36 : Method := { name := "getItem", desc := "(IIII)I", sig := { parameters := [.int, .int, .int, .int], returnType := some .int }, accessFlags := 2, code := some k2c36 }
def k2c37 : Code := { maxStack := 5, maxLocals := 7, code := prog_1_method_38_code, exceptionTable := #[], attributes := #[] }
def k2m37 : Method := { name := "lowerItem", desc := "(IIIII)Z", sig := { parameters := [.int, .int, .int, .int, .int], returnType := some .boolean }, accessFlags := 2, code := some k2c37 }
def k2c38 : Code := { maxStack := 5, maxLocals := 6, code := prog_1_method_39_code, exceptionTable := #[], attributes := #[] }
def k2m38 : Method := { name := "getRest", desc := "(IIII)I", sig := { parameters := [.int, .int, .int, .int], returnType := some .int }, accessFlags := 2, code := some k2c38 }
def k2c39 : Code := { maxStack := 5, maxLocals := 7, code := prog_1_method_40_code, exceptionTable := #[], attributes := #[] }
def k2m39 : Method := { name := "lowerRest", desc := "(IIIII)Z", sig := { parameters := [.int, .int, .int, .int, .int], returnType := some .boolean }, accessFlags := 2, code := some k2c39 }
def k2c40 : Code := { maxStack := 2, maxLocals := 4, code := prog_1_method_41_code, exceptionTable := #[], attributes := #[] }
def k2m40 : Method := { name := "plus", desc := "(II)I", sig := { parameters := [.int, .int], returnType := some .int }, accessFlags := 2, code := some k2c40 }
def k2c41 : Code := { maxStack := 3, maxLocals := 5, code := prog_1_method_42_code, exceptionTable := #[], attributes := #[] }
def k2m41 : Method := { name := "plus3", desc := "(III)I", sig := { parameters := [.int, .int, .int], returnType := some .int }, accessFlags := 2, code := some k2c41 }
def k2c42 : Code := { maxStack := 2, maxLocals := 2, code := prog_1_method_43_code, exceptionTable := #[], attributes := #[] }
def k2m42 : Method := { name := "answer", desc := "(I)I", sig := { parameters := [.int], returnType := some .int }, accessFlags := 2, code := some k2c42 }
def k2c43 : Code := { maxStack := 3, maxLocals := 3, code := prog_1_method_44_code, exceptionTable := #[], attributes := #[] }
def k2m43 : Method := { name := "runInside", desc := "()V", sig := { parameters := [], returnType := none }, accessFlags := 2, code := some k2c43 }
def k2c44 : Code := { maxStack := 6, maxLocals := 2, code := prog_1_method_45_code, exceptionTable := #[], attributes := #[] }
def k2m44 : Method := { name := "scanEdges", desc := "()V", sig := { parameters := [], returnType := none }, accessFlags := 2, code := some k2c44 }
def k2c45 : Code := { maxStack := 7, maxLocals := 3, code := prog_1_method_46_code, exceptionTable := #[], attributes := #[] }
def k2m45 : Method := { name := "seedItems", desc := "()V", sig := { parameters := [], returnType := none }, accessFlags := 2, code := some k2c45 }
def k2c46 : Code := { maxStack := 3, maxLocals := 5, code := prog_1_method_47_code, exceptionTable := #[], attributes := #[] }
def k2m46 : Method := { name := "closeInsideCell", desc := "(II)V", sig := { parameters := [.int, .int], returnType := none }, accessFlags := 2, code := some k2c46 }
def k2c47 : Code := { maxStack := 4, maxLocals := 5, code := prog_1_method_48_code, exceptionTable := #[], attributes := #[] }
def k2m47 : Method := { name := "insideRound", desc := "(II)Z", sig := { parameters := [.int, .int], returnType := some .boolean }, accessFlags := 2, code := some k2c47 }
def k2c48 : Code := { maxStack := 6, maxLocals := 8, code := prog_1_method_49_code, exceptionTable := #[], attributes := #[] }
def k2m48 : Method := { name := "advanceItems", desc := "(III)Z", sig := { parameters := [.int, .int, .int], returnType := some .boolean }, accessFlags := 2, code := some k2c48 }
def k2c49 : Code := { maxStack := 5, maxLocals := 11, code := prog_1_method_50_code, exceptionTable := #[], attributes := #[] }
def k2m49 : Method := { name := "bestAdvance", desc := "(IIII)I", sig := { parameters := [.int, .int, .int, .int], returnType := some .int }, accessFlags := 2, code := some k2c49 }
def k2c50 : Code := { maxStack := 5, maxLocals := 6, code := prog_1_method_51_code, exceptionTable := #[], attributes := #[] }
def k2m50 : Method := { name := "completeItem", desc := "(III)Z", sig := { parameters := [.int, .int, .int], returnType := some .boolean }, accessFlags := 2, code := some k2c50 }
def k2c51 : Code := { maxStack := 3, maxLocals := 4, code := prog_1_method_52_code, exceptionTable := #[], attributes := #[] }
def k2m51 : Method := { name := "runRest", desc := "()V", sig := { parameters := [], returnType := none }, accessFlags := 2, code := some k2c51 }
def k2c52 : Code := { maxStack := 6, maxLocals := 4, code := prog_1_method_53_code, exceptionTable := #[], attributes := #[] }
def k2m52 : Method := { name := "seedRest", desc := "(I)V", sig := { parameters := [.int], returnType := none }, accessFlags := 2, code := some k2c52 }
def k2c53 : Code := { maxStack := 6, maxLocals := 6, code := prog_1_method_54_code, exceptionTable := #[], attributes := #[] }
def k2m53 : Method := { name := "fillRestLevel", desc := "(II)V", sig := { parameters := [.int, .int], returnType := none }, accessFlags := 2, code := some k2c53 }
def k2c54 : Code := { maxStack := 5, maxLocals := 11, code := prog_1_method_55_code, exceptionTable := #[], attributes := #[] }
def k2m54 : Method := { name := "restAt", desc := "(IIII)I", sig := { parameters := [.int, .int, .int, .int], returnType := some .int }, accessFlags := 2, code := some k2c54 }
def k2c55 : Code := { maxStack := 5, maxLocals := 4, code := prog_1_method_56_code, exceptionTable := #[], attributes := #[] }
def k2m55 : Method := { name := "runOuter", desc := "()V", sig := { parameters := [], returnType := none }, accessFlags := 2, code := some k2c55 }
def k2c56 : Code := { maxStack := 3, maxLocals := 5, code := prog_1_method_57_code, exceptionTable := #[], attributes := #[] }
def k2m56 : Method := { name := "closeOuterCell", desc := "(II)V", sig := { parameters := [.int, .int], returnType := none }, accessFlags := 2, code := some k2c56 }
def k2c57 : Code := { maxStack := 4, maxLocals := 5, code := prog_1_method_58_code, exceptionTable := #[], attributes := #[] }
def k2m57 : Method := { name := "outerRound", desc := "(II)Z", sig := { parameters := [.int, .int], returnType := some .boolean }, accessFlags := 2, code := some k2c57 }
def k2c58 : Code := { maxStack := 5, maxLocals := 9, code := prog_1_method_59_code, exceptionTable := #[], attributes := #[] }
def k2m58 : Method := { name := "outerRule", desc := "(III)Z", sig := { parameters := [.int, .int, .int], returnType := some .boolean }, accessFlags := 2, code := some k2c58 }
def k2c59 : Code := { maxStack := 5, maxLocals := 14, code := prog_1_method_60_code, exceptionTable := #[], attributes := #[] }
def k2m59 : Method := { name := "bestContext", desc := "(IIII)I", sig := { parameters := [.int, .int, .int, .int], returnType := some .int }, accessFlags := 2, code := some k2c59 }
def k2c60 : Code := { maxStack := 5, maxLocals := 10, code := prog_1_method_61_code, exceptionTable := #[], attributes := #[] }
def k2m60 : Method := { name := "ruleContext", desc := "(I)I", sig := { parameters := [.int], returnType := some .int }, accessFlags := 2, code := some k2c60 }
/-- LatticeEarley -/
def k2 : Class := { plain "LatticeEarley" (some 0) with
  accessFlags := 49
  interfaces := #[]
  cf := some (fileOf pool2 9 #[] #[{ accessFlags := 1, nameIndex := 5, descriptorIndex := 185, attributes := #[] }, { accessFlags := 1, nameIndex := 254, descriptorIndex := 6, attributes := #[] }, { accessFlags := 1, nameIndex := 255, descriptorIndex := 256, attributes := #[] }, { accessFlags := 1, nameIndex := 257, descriptorIndex := 256, attributes := #[] }, { accessFlags := 1, nameIndex := 258, descriptorIndex := 256, attributes := #[] }, { accessFlags := 1, nameIndex := 259, descriptorIndex := 145, attributes := #[] }, { accessFlags := 1, nameIndex := 261, descriptorIndex := 145, attributes := #[] }, { accessFlags := 1, nameIndex := 262, descriptorIndex := 87, attributes := #[] }, { accessFlags := 1, nameIndex := 263, descriptorIndex := 87, attributes := #[] }, { accessFlags := 1, nameIndex := 264, descriptorIndex := 265, attributes := #[] }, { accessFlags := 1, nameIndex := 266, descriptorIndex := 256, attributes := #[] }, { accessFlags := 1, nameIndex := 267, descriptorIndex := 256, attributes := #[] }, { accessFlags := 1, nameIndex := 268, descriptorIndex := 94, attributes := #[] }, { accessFlags := 1, nameIndex := 269, descriptorIndex := 54, attributes := #[] }, { accessFlags := 1, nameIndex := 270, descriptorIndex := 54, attributes := #[] }, { accessFlags := 2, nameIndex := 53, descriptorIndex := 54, attributes := #[] }, { accessFlags := 2, nameIndex := 60, descriptorIndex := 6, attributes := #[] }, { accessFlags := 2, nameIndex := 76, descriptorIndex := 6, attributes := #[] }, { accessFlags := 2, nameIndex := 63, descriptorIndex := 6, attributes := #[] }, { accessFlags := 2, nameIndex := 131, descriptorIndex := 132, attributes := #[] }, { accessFlags := 2, nameIndex := 72, descriptorIndex := 73, attributes := #[] }, { accessFlags := 2, nameIndex := 79, descriptorIndex := 73, attributes := #[] }, { accessFlags := 2, nameIndex := 135, descriptorIndex := 54, attributes := #[] }, { accessFlags := 2, nameIndex := 82, descriptorIndex := 83, attributes := #[] }, { accessFlags := 2, nameIndex := 86, descriptorIndex := 87, attributes := #[] }, { accessFlags := 2, nameIndex := 181, descriptorIndex := 54, attributes := #[] }, { accessFlags := 2, nameIndex := 113, descriptorIndex := 110, attributes := #[] }, { accessFlags := 2, nameIndex := 109, descriptorIndex := 110, attributes := #[] }, { accessFlags := 2, nameIndex := 125, descriptorIndex := 110, attributes := #[] }, { accessFlags := 2, nameIndex := 138, descriptorIndex := 110, attributes := #[] }, { accessFlags := 2, nameIndex := 141, descriptorIndex := 94, attributes := #[] }, { accessFlags := 2, nameIndex := 144, descriptorIndex := 145, attributes := #[] }, { accessFlags := 2, nameIndex := 93, descriptorIndex := 94, attributes := #[] }, { accessFlags := 2, nameIndex := 158, descriptorIndex := 73, attributes := #[] }, { accessFlags := 2, nameIndex := 119, descriptorIndex := 94, attributes := #[] }, { accessFlags := 2, nameIndex := 200, descriptorIndex := 73, attributes := #[] }, { accessFlags := 2, nameIndex := 178, descriptorIndex := 145, attributes := #[] }, { accessFlags := 2, nameIndex := 161, descriptorIndex := 162, attributes := #[] }, { accessFlags := 2, nameIndex := 197, descriptorIndex := 145, attributes := #[] }, { accessFlags := 2, nameIndex := 191, descriptorIndex := 162, attributes := #[] }, { accessFlags := 2, nameIndex := 122, descriptorIndex := 87, attributes := #[] }, { accessFlags := 2, nameIndex := 215, descriptorIndex := 94, attributes := #[] }, { accessFlags := 2, nameIndex := 116, descriptorIndex := 54, attributes := #[] }, { accessFlags := 2, nameIndex := 90, descriptorIndex := 6, attributes := #[] }, { accessFlags := 2, nameIndex := 148, descriptorIndex := 6, attributes := #[] }, { accessFlags := 2, nameIndex := 151, descriptorIndex := 6, attributes := #[] }, { accessFlags := 2, nameIndex := 154, descriptorIndex := 155, attributes := #[] }, { accessFlags := 2, nameIndex := 165, descriptorIndex := 166, attributes := #[] }, { accessFlags := 2, nameIndex := 169, descriptorIndex := 132, attributes := #[] }, { accessFlags := 2, nameIndex := 175, descriptorIndex := 145, attributes := #[] }, { accessFlags := 2, nameIndex := 172, descriptorIndex := 132, attributes := #[] }, { accessFlags := 2, nameIndex := 103, descriptorIndex := 6, attributes := #[] }, { accessFlags := 2, nameIndex := 184, descriptorIndex := 185, attributes := #[] }, { accessFlags := 2, nameIndex := 188, descriptorIndex := 155, attributes := #[] }, { accessFlags := 2, nameIndex := 194, descriptorIndex := 145, attributes := #[] }, { accessFlags := 2, nameIndex := 106, descriptorIndex := 6, attributes := #[] }, { accessFlags := 2, nameIndex := 203, descriptorIndex := 155, attributes := #[] }, { accessFlags := 2, nameIndex := 206, descriptorIndex := 166, attributes := #[] }, { accessFlags := 2, nameIndex := 209, descriptorIndex := 132, attributes := #[] }, { accessFlags := 2, nameIndex := 212, descriptorIndex := 145, attributes := #[] }, { accessFlags := 2, nameIndex := 128, descriptorIndex := 54, attributes := #[] }] 49 2 #[] #[{ accessFlags := 25, nameIndex := 216, descriptorIndex := 13, attributes := #[] }, { accessFlags := 25, nameIndex := 219, descriptorIndex := 13, attributes := #[] }, { accessFlags := 25, nameIndex := 221, descriptorIndex := 13, attributes := #[] }, { accessFlags := 25, nameIndex := 223, descriptorIndex := 13, attributes := #[] }, { accessFlags := 25, nameIndex := 225, descriptorIndex := 13, attributes := #[] }, { accessFlags := 25, nameIndex := 227, descriptorIndex := 13, attributes := #[] }, { accessFlags := 25, nameIndex := 228, descriptorIndex := 13, attributes := #[] }, { accessFlags := 25, nameIndex := 229, descriptorIndex := 13, attributes := #[] }, { accessFlags := 25, nameIndex := 230, descriptorIndex := 13, attributes := #[] }, { accessFlags := 25, nameIndex := 231, descriptorIndex := 13, attributes := #[] }, { accessFlags := 25, nameIndex := 233, descriptorIndex := 13, attributes := #[] }, { accessFlags := 25, nameIndex := 235, descriptorIndex := 13, attributes := #[] }, { accessFlags := 25, nameIndex := 237, descriptorIndex := 13, attributes := #[] }, { accessFlags := 25, nameIndex := 239, descriptorIndex := 13, attributes := #[] }, { accessFlags := 25, nameIndex := 240, descriptorIndex := 13, attributes := #[] }, { accessFlags := 25, nameIndex := 241, descriptorIndex := 13, attributes := #[] }, { accessFlags := 25, nameIndex := 242, descriptorIndex := 13, attributes := #[] }, { accessFlags := 25, nameIndex := 243, descriptorIndex := 13, attributes := #[] }, { accessFlags := 25, nameIndex := 244, descriptorIndex := 13, attributes := #[] }, { accessFlags := 25, nameIndex := 245, descriptorIndex := 13, attributes := #[] }, { accessFlags := 25, nameIndex := 246, descriptorIndex := 13, attributes := #[] }, { accessFlags := 25, nameIndex := 247, descriptorIndex := 13, attributes := #[] }, { accessFlags := 25, nameIndex := 248, descriptorIndex := 13, attributes := #[] }, { accessFlags := 25, nameIndex := 250, descriptorIndex := 13, attributes := #[] }, { accessFlags := 2, nameIndex := 57, descriptorIndex := 13, attributes := #[] }, { accessFlags := 2, nameIndex := 66, descriptorIndex := 13, attributes := #[] }, { accessFlags := 2, nameIndex := 69, descriptorIndex := 13, attributes := #[] }, { accessFlags := 2, nameIndex := 97, descriptorIndex := 13, attributes := #[] }, { accessFlags := 2, nameIndex := 100, descriptorIndex := 13, attributes := #[] }, { accessFlags := 2, nameIndex := 12, descriptorIndex := 13, attributes := #[] }, { accessFlags := 2, nameIndex := 16, descriptorIndex := 17, attributes := #[] }, { accessFlags := 2, nameIndex := 20, descriptorIndex := 17, attributes := #[] }, { accessFlags := 2, nameIndex := 23, descriptorIndex := 17, attributes := #[] }, { accessFlags := 2, nameIndex := 26, descriptorIndex := 17, attributes := #[] }, { accessFlags := 2, nameIndex := 29, descriptorIndex := 17, attributes := #[] }, { accessFlags := 2, nameIndex := 32, descriptorIndex := 17, attributes := #[] }, { accessFlags := 2, nameIndex := 35, descriptorIndex := 17, attributes := #[] }, { accessFlags := 2, nameIndex := 38, descriptorIndex := 17, attributes := #[] }, { accessFlags := 2, nameIndex := 41, descriptorIndex := 17, attributes := #[] }, { accessFlags := 2, nameIndex := 44, descriptorIndex := 17, attributes := #[] }, { accessFlags := 2, nameIndex := 47, descriptorIndex := 17, attributes := #[] }, { accessFlags := 2, nameIndex := 50, descriptorIndex := 17, attributes := #[] }])
  fields := #[{ name := "MIN_NODES", type := .int, accessFlags := 25, slot := 0, constantValue := 0 }, { name := "MAX_NODES", type := .int, accessFlags := 25, slot := 1, constantValue := 0 }, { name := "MAX_EDGES", type := .int, accessFlags := 25, slot := 2, constantValue := 0 }, { name := "MAX_RULES", type := .int, accessFlags := 25, slot := 3, constantValue := 0 }, { name := "MAX_BODY", type := .int, accessFlags := 25, slot := 4, constantValue := 0 }, { name := "TERMINALS", type := .int, accessFlags := 25, slot := 5, constantValue := 0 }, { name := "NONTERMINALS", type := .int, accessFlags := 25, slot := 6, constantValue := 0 }, { name := "NONTERMINAL_BASE", type := .int, accessFlags := 25, slot := 7, constantValue := 0 }, { name := "START_CODE", type := .int, accessFlags := 25, slot := 8, constantValue := 0 }, { name := "MAX_WEIGHT", type := .int, accessFlags := 25, slot := 9, constantValue := 0 }, { name := "NONE", type := .int, accessFlags := 25, slot := 10, constantValue := 0 }, { name := "STATUS_BUILDING", type := .int, accessFlags := 25, slot := 11, constantValue := 0 }, { name := "STATUS_ACCEPTED", type := .int, accessFlags := 25, slot := 12, constantValue := 0 }, { name := "STATUS_REJECTED", type := .int, accessFlags := 25, slot := 13, constantValue := 0 }, { name := "EDGE_FROM", type := .int, accessFlags := 25, slot := 14, constantValue := 0 }, { name := "EDGE_TO", type := .int, accessFlags := 25, slot := 15, constantValue := 0 }, { name := "EDGE_LABEL", type := .int, accessFlags := 25, slot := 16, constantValue := 0 }, { name := "EDGE_WEIGHT", type := .int, accessFlags := 25, slot := 17, constantValue := 0 }, { name := "RULE_HEAD", type := .int, accessFlags := 25, slot := 18, constantValue := 0 }, { name := "RULE_WEIGHT", type := .int, accessFlags := 25, slot := 19, constantValue := 0 }, { name := "RULE_LENGTH", type := .int, accessFlags := 25, slot := 20, constantValue := 0 }, { name := "RULE_SYM0", type := .int, accessFlags := 25, slot := 21, constantValue := 0 }, { name := "RULE_SYM1", type := .int, accessFlags := 25, slot := 22, constantValue := 0 }, { name := "RULE_SYM2", type := .int, accessFlags := 25, slot := 23, constantValue := 0 }, { name := "nodeTotal", type := .int, accessFlags := 2, slot := 0, constantValue := 0 }, { name := "edgeTotal", type := .int, accessFlags := 2, slot := 1, constantValue := 0 }, { name := "ruleTotal", type := .int, accessFlags := 2, slot := 2, constantValue := 0 }, { name := "state", type := .int, accessFlags := 2, slot := 3, constantValue := 0 }, { name := "bestTotal", type := .int, accessFlags := 2, slot := 4, constantValue := 0 }, { name := "inf", type := .int, accessFlags := 2, slot := 5, constantValue := 0 }, { name := "edgeFrom", type := (.array .int), accessFlags := 2, slot := 6, constantValue := 0 }, { name := "edgeTo", type := (.array .int), accessFlags := 2, slot := 7, constantValue := 0 }, { name := "edgeLabel", type := (.array .int), accessFlags := 2, slot := 8, constantValue := 0 }, { name := "edgeWeight", type := (.array .int), accessFlags := 2, slot := 9, constantValue := 0 }, { name := "ruleHead", type := (.array .int), accessFlags := 2, slot := 10, constantValue := 0 }, { name := "ruleWeight", type := (.array .int), accessFlags := 2, slot := 11, constantValue := 0 }, { name := "ruleLength", type := (.array .int), accessFlags := 2, slot := 12, constantValue := 0 }, { name := "ruleSym", type := (.array .int), accessFlags := 2, slot := 13, constantValue := 0 }, { name := "span", type := (.array .int), accessFlags := 2, slot := 14, constantValue := 0 }, { name := "item", type := (.array .int), accessFlags := 2, slot := 15, constantValue := 0 }, { name := "rest", type := (.array .int), accessFlags := 2, slot := 16, constantValue := 0 }, { name := "outer", type := (.array .int), accessFlags := 2, slot := 17, constantValue := 0 }]
  methods := #[k2m0, k2m1, k2m2, k2m3, k2m4, k2m5, k2m6, k2m7, k2m8, k2m9, k2m10, k2m11, k2m12, k2m13, k2m14, k2m15, k2m16, k2m17, k2m18, k2m19, k2m20, k2m21, k2m22, k2m23, k2m24, k2m25, k2m26, k2m27, k2m28, k2m29, k2m30, k2m31, k2m32, k2m33, k2m34, k2m35, k2m36, k2m37, k2m38, k2m39, k2m40, k2m41, k2m42, k2m43, k2m44, k2m45, k2m46, k2m47, k2m48, k2m49, k2m50, k2m51, k2m52, k2m53, k2m54, k2m55, k2m56, k2m57, k2m58, k2m59, k2m60]
  instanceTypes := #[.int, .int, .int, .int, .int, .int, (.array .int), (.array .int), (.array .int), (.array .int), (.array .int), (.array .int), (.array .int), (.array .int), (.array .int), (.array .int), (.array .int), (.array .int)]
  staticTypes := #[.int, .int, .int, .int, .int, .int, .int, .int, .int, .int, .int, .int, .int, .int, .int, .int, .int, .int, .int, .int, .int, .int, .int, .int]
  resolved := Array.replicate 273 none
  statics := none }

def pool3 : Array CpInfo := pool [(1, u "java/lang/Cloneable"), (0, .class_ 1), (0, u "java/lang/Object"), (0, .class_ 3)] 3

/-- java/lang/Cloneable -/
def k3 : Class := { plain "java/lang/Cloneable" (some 0) with
  accessFlags := 1537
  interfaces := #[]
  cf := some (fileOf pool3 2 #[] #[] 1537 4 #[] #[])
  fields := #[]
  methods := #[]
  instanceTypes := #[]
  staticTypes := #[]
  resolved := Array.replicate 8 none
  statics := none }

def pool4 : Array CpInfo := pool [(1, u "java/io/Serializable"), (0, .class_ 1), (0, u "java/lang/Object"), (0, .class_ 3)] 3

/-- java/io/Serializable -/
def k4 : Class := { plain "java/io/Serializable" (some 0) with
  accessFlags := 1537
  interfaces := #[]
  cf := some (fileOf pool4 2 #[] #[] 1537 4 #[] #[])
  fields := #[]
  methods := #[]
  instanceTypes := #[]
  staticTypes := #[]
  resolved := Array.replicate 8 none
  statics := none }

/-- the primitive byte -/
def k5 : Class := { plain "byte" none with kind := .primitive 'B', accessFlags := 0x411 }
/-- [B -/
def k6 : Class := { plain "[B" (some 0) with kind := .array 5 .byte, interfaces := #[3, 4], accessFlags := 1041 }

/-- the primitive int -/
def k7 : Class := { plain "int" none with kind := .primitive 'I', accessFlags := 0x411 }
/-- [I -/
def k8 : Class := { plain "[I" (some 0) with kind := .array 7 .int, interfaces := #[3, 4], accessFlags := 1041 }

def heap : Heap := #[{ cls := 8, slots := #[.int 0, .int 1, .int 2], vm := .none }]
def classes : Array Class := #[k0, k1, k2, k3, k4, k5, k6, k7, k8]
def interned : List (Array UInt16 × Addr) := []
def slotsUsed : Nat := 3
def theMethod : MethodId := ⟨1, 1⟩
def args0 : Array Value := #[.ref 0]
def aboutOver (below : List Frame) : State where
  vm := { classes := classes, interned := interned.toArray }
  heap := heap
  slotsUsed := slotsUsed
  threads := #[{ frames := .invoking theMethod args0 :: below }]
def below0 : List Frame := [.native { method := ⟨0, 0⟩, args := #[] }]
def about1 : State := aboutOver below0
def p0 : Program := .bare "" "" ""
def e0 : Env := launch0.env 0 0 0
theorem w_frames : about1.frames = Frame.invoking theMethod args0 :: below0 := rfl
set_option maxRecDepth 65536 in
theorem w_args : argsFit about1.vm theMethod args0 = true := by decide +kernel
set_option maxRecDepth 65536 in
theorem w_heap : heapFits about1 = true := by decide +kernel
set_option maxRecDepth 65536 in
theorem w_runnable : about1.curStatus? = some .runnable := by decide +kernel
set_option maxRecDepth 65536 in
theorem w_alone : about1.alone = true := by decide +kernel
set_option maxRecDepth 65536 in
theorem w_named : about1.methodNamed? x = some theMethod := by decide +kernel
set_option maxRecDepth 65536 in
theorem w_hears : about1.hears theMethod below0 = true := by decide +kernel
set_option maxRecDepth 65536 in
theorem w_ripe : about1.ripe theMethod args0 below0 = true := by decide +kernel
theorem w_running : about1.status = .running := rfl
set_option maxRecDepth 65536 in
theorem w_room : about1.hasRoom e0.platform room_1 = true :=
  launch0.hasRoom_least _ room_1 (by decide +kernel) (by decide +kernel) (by decide +kernel) (by decide +kernel) (by decide +kernel) (by decide +kernel)
theorem allAtoms_all (ts : List Jvm.Cond) (a : Array Jvm.Value) (st : Jvm.State) : (allAtoms ts).before a st = ts.all (fun c => c.before a st) := by
  induction ts with
  | nil => rfl
  | cons c t ih =>
    show (Jvm.Cond.and c (allAtoms t)).before a st = _
    rw [Jvm.Cond.before_and, ih, List.all_cons]
def words1 : List Jvm.Cond := Jvm.Cond.code x code maxLocals ret :: tables_1
/-- a 'code' word, met by the world's own term for the bytes: nothing is compared byte by byte -/
theorem code_word {y : MethodName} {bytes : ByteArray} {mx : Nat} {rt : Option FieldType} {a : Array Value} {s : State} {m : MethodId} {meth : Method} {c : Code} (h1 : s.methodNamed? y = some m) (h2 : s.vm.method? m = some meth) (h3 : meth.code = some c) (h4 : c.code = bytes)
    (h5 : (c.maxLocals == mx && c.exceptionTable.isEmpty && decide (c.maxStack ≤ mostOperands) && decide (meth.sig.returnType = rt) && !meth.locks && decide (parseMethodDescriptor y.desc = some meth.sig)) = true) : (Jvm.Cond.code y bytes mx rt).before a s = true := by
  simp only [Bool.and_eq_true, beq_iff_eq, Bool.not_eq_true', decide_eq_true_eq] at h5
  obtain ⟨⟨⟨⟨⟨g1, g2⟩, g3⟩, g4⟩, g5⟩, g6⟩ := h5
  simp [Cond.before, Cond.holds, Cond.value, h1, h2, h3, h4, g1, g2, g3, g4, g5, g6]
def isCode : Jvm.Cond → Bool
  | .code _ _ _ _ => true
  | _ => false
theorem all_split {L : List Jvm.Cond} {P : Jvm.Cond → Bool} (h1 : L.all (fun c => isCode c || P c) = true) (h2 : ∀ c ∈ L.filter isCode, P c = true) : L.all P = true := by
  refine List.all_eq_true.mpr fun c hc => ?_
  have h := List.all_eq_true.mp h1 c hc
  rcases Bool.eq_false_or_eq_true (isCode c) with hi | hi
  · exact h2 c (List.mem_filter.mpr ⟨hc, hi⟩)
  · simpa [hi] using h
set_option maxRecDepth 65536 in
theorem w_c0 : (Jvm.Cond.code x code maxLocals ret).before args0 about1 = true := code_word (m := ⟨1, 1⟩) (meth := k1m1) (c := k1c1) (by decide +kernel) rfl rfl rfl (by decide +kernel)
set_option maxRecDepth 65536 in
theorem w_c1 : (Jvm.Cond.code ({ cls := "LatticeEarley", name := "<init>", desc := "(I)V" } : Jvm.MethodName) prog_1_method_1_code (2 : Nat) (Option.none : Option Jvm.ClassFile.FieldType)).before args0 about1 = true := code_word (m := ⟨2, 0⟩) (meth := k2m0) (c := k2c0) (by decide +kernel) rfl rfl rfl (by decide +kernel)
set_option maxRecDepth 65536 in
theorem w_c2 : (Jvm.Cond.code ({ cls := "java/lang/Object", name := "<init>", desc := "()V" } : Jvm.MethodName) object_method_1_code (1 : Nat) (Option.none : Option Jvm.ClassFile.FieldType)).before args0 about1 = true := code_word (m := ⟨0, 0⟩) (meth := k0m0) (c := k0c0) (by decide +kernel) rfl rfl rfl (by decide +kernel)
set_option maxRecDepth 65536 in
theorem w_c3 : (Jvm.Cond.code ({ cls := "LatticeEarley", name := "clampNodes", desc := "(I)I" } : Jvm.MethodName) prog_1_method_16_code (2 : Nat) (Option.some Jvm.ClassFile.FieldType.int)).before args0 about1 = true := code_word (m := ⟨2, 15⟩) (meth := k2m15) (c := k2c15) (by decide +kernel) rfl rfl rfl (by decide +kernel)
set_option maxRecDepth 65536 in
theorem w_c4 : (Jvm.Cond.code ({ cls := "LatticeEarley", name := "clearStore", desc := "()V" } : Jvm.MethodName) prog_1_method_17_code (2 : Nat) (Option.none : Option Jvm.ClassFile.FieldType)).before args0 about1 = true := code_word (m := ⟨2, 16⟩) (meth := k2m16) (c := k2c16) (by decide +kernel) rfl rfl rfl (by decide +kernel)
set_option maxRecDepth 65536 in
theorem w_c5 : (Jvm.Cond.code ({ cls := "LatticeEarley", name := "becomeBuilding", desc := "()V" } : Jvm.MethodName) prog_1_method_18_code (1 : Nat) (Option.none : Option Jvm.ClassFile.FieldType)).before args0 about1 = true := code_word (m := ⟨2, 17⟩) (meth := k2m17) (c := k2c17) (by decide +kernel) rfl rfl rfl (by decide +kernel)
set_option maxRecDepth 65536 in
theorem w_c6 : (Jvm.Cond.code ({ cls := "LatticeEarley", name := "clearTables", desc := "()V" } : Jvm.MethodName) prog_1_method_19_code (2 : Nat) (Option.none : Option Jvm.ClassFile.FieldType)).before args0 about1 = true := code_word (m := ⟨2, 18⟩) (meth := k2m18) (c := k2c18) (by decide +kernel) rfl rfl rfl (by decide +kernel)
set_option maxRecDepth 65536 in
theorem w_c7 : (Jvm.Cond.code ({ cls := "LatticeEarley", name := "nodeCount", desc := "()I" } : Jvm.MethodName) prog_1_method_3_code (1 : Nat) (Option.some Jvm.ClassFile.FieldType.int)).before args0 about1 = true := code_word (m := ⟨2, 2⟩) (meth := k2m2) (c := k2c2) (by decide +kernel) rfl rfl rfl (by decide +kernel)
set_option maxRecDepth 65536 in
theorem w_c8 : (Jvm.Cond.code ({ cls := "LatticeEarley", name := "addEdge", desc := "(IIII)I" } : Jvm.MethodName) prog_1_method_6_code (6 : Nat) (Option.some Jvm.ClassFile.FieldType.int)).before args0 about1 = true := code_word (m := ⟨2, 5⟩) (meth := k2m5) (c := k2c5) (by decide +kernel) rfl rfl rfl (by decide +kernel)
set_option maxRecDepth 65536 in
theorem w_c9 : (Jvm.Cond.code ({ cls := "LatticeEarley", name := "edgeRefused", desc := "(IIII)Z" } : Jvm.MethodName) prog_1_method_21_code (5 : Nat) (Option.some Jvm.ClassFile.FieldType.boolean)).before args0 about1 = true := code_word (m := ⟨2, 20⟩) (meth := k2m20) (c := k2c20) (by decide +kernel) rfl rfl rfl (by decide +kernel)
set_option maxRecDepth 65536 in
theorem w_c10 : (Jvm.Cond.code ({ cls := "LatticeEarley", name := "inRange", desc := "(III)Z" } : Jvm.MethodName) prog_1_method_20_code (4 : Nat) (Option.some Jvm.ClassFile.FieldType.boolean)).before args0 about1 = true := code_word (m := ⟨2, 19⟩) (meth := k2m19) (c := k2c19) (by decide +kernel) rfl rfl rfl (by decide +kernel)
set_option maxRecDepth 65536 in
theorem w_c11 : (Jvm.Cond.code ({ cls := "LatticeEarley", name := "edgeCount", desc := "()I" } : Jvm.MethodName) prog_1_method_4_code (1 : Nat) (Option.some Jvm.ClassFile.FieldType.int)).before args0 about1 = true := code_word (m := ⟨2, 3⟩) (meth := k2m3) (c := k2c3) (by decide +kernel) rfl rfl rfl (by decide +kernel)
set_option maxRecDepth 65536 in
theorem w_c12 : (Jvm.Cond.code ({ cls := "LatticeEarley", name := "ruleCount", desc := "()I" } : Jvm.MethodName) prog_1_method_5_code (1 : Nat) (Option.some Jvm.ClassFile.FieldType.int)).before args0 about1 = true := code_word (m := ⟨2, 4⟩) (meth := k2m4) (c := k2c4) (by decide +kernel) rfl rfl rfl (by decide +kernel)
set_option maxRecDepth 65536 in
theorem w_c13 : (Jvm.Cond.code ({ cls := "LatticeEarley", name := "edgeInfo", desc := "(II)I" } : Jvm.MethodName) prog_1_method_8_code (3 : Nat) (Option.some Jvm.ClassFile.FieldType.int)).before args0 about1 = true := code_word (m := ⟨2, 7⟩) (meth := k2m7) (c := k2c7) (by decide +kernel) rfl rfl rfl (by decide +kernel)
set_option maxRecDepth 65536 in
theorem w_c14 : (Jvm.Cond.code ({ cls := "LatticeEarley", name := "parse", desc := "()Z" } : Jvm.MethodName) prog_1_method_10_code (3 : Nat) (Option.some Jvm.ClassFile.FieldType.boolean)).before args0 about1 = true := code_word (m := ⟨2, 9⟩) (meth := k2m9) (c := k2c9) (by decide +kernel) rfl rfl rfl (by decide +kernel)
set_option maxRecDepth 65536 in
theorem w_c15 : (Jvm.Cond.code ({ cls := "LatticeEarley", name := "runInside", desc := "()V" } : Jvm.MethodName) prog_1_method_44_code (3 : Nat) (Option.none : Option Jvm.ClassFile.FieldType)).before args0 about1 = true := code_word (m := ⟨2, 43⟩) (meth := k2m43) (c := k2c43) (by decide +kernel) rfl rfl rfl (by decide +kernel)
set_option maxRecDepth 65536 in
theorem w_c16 : (Jvm.Cond.code ({ cls := "LatticeEarley", name := "scanEdges", desc := "()V" } : Jvm.MethodName) prog_1_method_45_code (2 : Nat) (Option.none : Option Jvm.ClassFile.FieldType)).before args0 about1 = true := code_word (m := ⟨2, 44⟩) (meth := k2m44) (c := k2c44) (by decide +kernel) rfl rfl rfl (by decide +kernel)
set_option maxRecDepth 65536 in
theorem w_c17 : (Jvm.Cond.code ({ cls := "LatticeEarley", name := "lowerSpan", desc := "(IIII)Z" } : Jvm.MethodName) prog_1_method_34_code (6 : Nat) (Option.some Jvm.ClassFile.FieldType.boolean)).before args0 about1 = true := code_word (m := ⟨2, 33⟩) (meth := k2m33) (c := k2c33) (by decide +kernel) rfl rfl rfl (by decide +kernel)
set_option maxRecDepth 65536 in
theorem w_c18 : (Jvm.Cond.code ({ cls := "LatticeEarley", name := "spanSlot", desc := "(III)I" } : Jvm.MethodName) prog_1_method_31_code (4 : Nat) (Option.some Jvm.ClassFile.FieldType.int)).before args0 about1 = true := code_word (m := ⟨2, 30⟩) (meth := k2m30) (c := k2c30) (by decide +kernel) rfl rfl rfl (by decide +kernel)
set_option maxRecDepth 65536 in
theorem w_c19 : (Jvm.Cond.code ({ cls := "LatticeEarley", name := "isCode", desc := "(I)Z" } : Jvm.MethodName) prog_1_method_28_code (2 : Nat) (Option.some Jvm.ClassFile.FieldType.boolean)).before args0 about1 = true := code_word (m := ⟨2, 27⟩) (meth := k2m27) (c := k2c27) (by decide +kernel) rfl rfl rfl (by decide +kernel)
set_option maxRecDepth 65536 in
theorem w_c20 : (Jvm.Cond.code ({ cls := "LatticeEarley", name := "isNode", desc := "(I)Z" } : Jvm.MethodName) prog_1_method_27_code (2 : Nat) (Option.some Jvm.ClassFile.FieldType.boolean)).before args0 about1 = true := code_word (m := ⟨2, 26⟩) (meth := k2m26) (c := k2c26) (by decide +kernel) rfl rfl rfl (by decide +kernel)
set_option maxRecDepth 65536 in
theorem w_c21 : (Jvm.Cond.code ({ cls := "LatticeEarley", name := "seedItems", desc := "()V" } : Jvm.MethodName) prog_1_method_46_code (3 : Nat) (Option.none : Option Jvm.ClassFile.FieldType)).before args0 about1 = true := code_word (m := ⟨2, 45⟩) (meth := k2m45) (c := k2c45) (by decide +kernel) rfl rfl rfl (by decide +kernel)
set_option maxRecDepth 65536 in
theorem w_c22 : (Jvm.Cond.code ({ cls := "LatticeEarley", name := "closeInsideCell", desc := "(II)V" } : Jvm.MethodName) prog_1_method_47_code (5 : Nat) (Option.none : Option Jvm.ClassFile.FieldType)).before args0 about1 = true := code_word (m := ⟨2, 46⟩) (meth := k2m46) (c := k2c46) (by decide +kernel) rfl rfl rfl (by decide +kernel)
set_option maxRecDepth 65536 in
theorem w_c23 : (Jvm.Cond.code ({ cls := "LatticeEarley", name := "insideRound", desc := "(II)Z" } : Jvm.MethodName) prog_1_method_48_code (5 : Nat) (Option.some Jvm.ClassFile.FieldType.boolean)).before args0 about1 = true := code_word (m := ⟨2, 47⟩) (meth := k2m47) (c := k2c47) (by decide +kernel) rfl rfl rfl (by decide +kernel)
set_option maxRecDepth 65536 in
theorem w_c24 : (Jvm.Cond.code ({ cls := "LatticeEarley", name := "getSpan", desc := "(III)I" } : Jvm.MethodName) prog_1_method_33_code (5 : Nat) (Option.some Jvm.ClassFile.FieldType.int)).before args0 about1 = true := code_word (m := ⟨2, 32⟩) (meth := k2m32) (c := k2c32) (by decide +kernel) rfl rfl rfl (by decide +kernel)
set_option maxRecDepth 65536 in
theorem w_c25 : (Jvm.Cond.code ({ cls := "LatticeEarley", name := "status", desc := "()I" } : Jvm.MethodName) prog_1_method_11_code (1 : Nat) (Option.some Jvm.ClassFile.FieldType.int)).before args0 about1 = true := code_word (m := ⟨2, 10⟩) (meth := k2m10) (c := k2c10) (by decide +kernel) rfl rfl rfl (by decide +kernel)
set_option maxRecDepth 65536 in
theorem w_c26 : (Jvm.Cond.code ({ cls := "LatticeEarley", name := "bestWeight", desc := "()I" } : Jvm.MethodName) prog_1_method_12_code (1 : Nat) (Option.some Jvm.ClassFile.FieldType.int)).before args0 about1 = true := code_word (m := ⟨2, 11⟩) (meth := k2m11) (c := k2c11) (by decide +kernel) rfl rfl rfl (by decide +kernel)
set_option maxRecDepth 65536 in
theorem w_c27 : (Jvm.Cond.code ({ cls := "LatticeEarleyL7", name := "rel", desc := "(IIZ)Z" } : Jvm.MethodName) method_3_code (3 : Nat) (Option.some Jvm.ClassFile.FieldType.boolean)).before args0 about1 = true := code_word (m := ⟨1, 2⟩) (meth := k1m2) (c := k1c2) (by decide +kernel) rfl rfl rfl (by decide +kernel)
set_option maxRecDepth 65536 in
theorem w_c28 : (Jvm.Cond.code ({ cls := "LatticeEarley", name := "spanWeight", desc := "(III)I" } : Jvm.MethodName) prog_1_method_13_code (5 : Nat) (Option.some Jvm.ClassFile.FieldType.int)).before args0 about1 = true := code_word (m := ⟨2, 12⟩) (meth := k2m12) (c := k2c12) (by decide +kernel) rfl rfl rfl (by decide +kernel)
set_option maxRecDepth 65536 in
theorem w_c29 : (Jvm.Cond.code ({ cls := "LatticeEarley", name := "answer", desc := "(I)I" } : Jvm.MethodName) prog_1_method_43_code (2 : Nat) (Option.some Jvm.ClassFile.FieldType.int)).before args0 about1 = true := code_word (m := ⟨2, 42⟩) (meth := k2m42) (c := k2c42) (by decide +kernel) rfl rfl rfl (by decide +kernel)
set_option maxRecDepth 65536 in
theorem w_c30 : (Jvm.Cond.code ({ cls := "LatticeEarley", name := "edgeBest", desc := "(I)I" } : Jvm.MethodName) prog_1_method_14_code (4 : Nat) (Option.some Jvm.ClassFile.FieldType.int)).before args0 about1 = true := code_word (m := ⟨2, 13⟩) (meth := k2m13) (c := k2c13) (by decide +kernel) rfl rfl rfl (by decide +kernel)
set_option maxRecDepth 65536 in
theorem w_c31 : (Jvm.Cond.code ({ cls := "LatticeEarley", name := "ruleBest", desc := "(I)I" } : Jvm.MethodName) prog_1_method_15_code (3 : Nat) (Option.some Jvm.ClassFile.FieldType.int)).before args0 about1 = true := code_word (m := ⟨2, 14⟩) (meth := k2m14) (c := k2c14) (by decide +kernel) rfl rfl rfl (by decide +kernel)
set_option maxRecDepth 65536 in
theorem w_c32 : (Jvm.Cond.code ({ cls := "LatticeEarley", name := "addRule", desc := "(IIII)I" } : Jvm.MethodName) prog_1_method_7_code (6 : Nat) (Option.some Jvm.ClassFile.FieldType.int)).before args0 about1 = true := code_word (m := ⟨2, 6⟩) (meth := k2m6) (c := k2c6) (by decide +kernel) rfl rfl rfl (by decide +kernel)
set_option maxRecDepth 65536 in
theorem w_c33 : (Jvm.Cond.code ({ cls := "LatticeEarley", name := "ruleRefused", desc := "(IIII)Z" } : Jvm.MethodName) prog_1_method_22_code (5 : Nat) (Option.some Jvm.ClassFile.FieldType.boolean)).before args0 about1 = true := code_word (m := ⟨2, 21⟩) (meth := k2m21) (c := k2c21) (by decide +kernel) rfl rfl rfl (by decide +kernel)
set_option maxRecDepth 65536 in
theorem w_c34 : (Jvm.Cond.code ({ cls := "LatticeEarley", name := "bodyLimit", desc := "(I)I" } : Jvm.MethodName) prog_1_method_23_code (4 : Nat) (Option.some Jvm.ClassFile.FieldType.int)).before args0 about1 = true := code_word (m := ⟨2, 22⟩) (meth := k2m22) (c := k2c22) (by decide +kernel) rfl rfl rfl (by decide +kernel)
set_option maxRecDepth 65536 in
theorem w_c35 : (Jvm.Cond.code ({ cls := "LatticeEarley", name := "storeRule", desc := "(IIIII)V" } : Jvm.MethodName) prog_1_method_24_code (8 : Nat) (Option.none : Option Jvm.ClassFile.FieldType)).before args0 about1 = true := code_word (m := ⟨2, 23⟩) (meth := k2m23) (c := k2c23) (by decide +kernel) rfl rfl rfl (by decide +kernel)
set_option maxRecDepth 65536 in
theorem w_c36 : (Jvm.Cond.code ({ cls := "LatticeEarley", name := "ruleInfo", desc := "(II)I" } : Jvm.MethodName) prog_1_method_9_code (4 : Nat) (Option.some Jvm.ClassFile.FieldType.int)).before args0 about1 = true := code_word (m := ⟨2, 8⟩) (meth := k2m8) (c := k2c8) (by decide +kernel) rfl rfl rfl (by decide +kernel)
set_option maxRecDepth 65536 in
theorem w_c37 : (Jvm.Cond.code ({ cls := "LatticeEarley", name := "symbolAt", desc := "(II)I" } : Jvm.MethodName) prog_1_method_25_code (3 : Nat) (Option.some Jvm.ClassFile.FieldType.int)).before args0 about1 = true := code_word (m := ⟨2, 24⟩) (meth := k2m24) (c := k2c24) (by decide +kernel) rfl rfl rfl (by decide +kernel)
set_option maxRecDepth 65536 in
theorem w_c38 : (Jvm.Cond.code ({ cls := "LatticeEarley", name := "lowerItem", desc := "(IIIII)Z" } : Jvm.MethodName) prog_1_method_38_code (7 : Nat) (Option.some Jvm.ClassFile.FieldType.boolean)).before args0 about1 = true := code_word (m := ⟨2, 37⟩) (meth := k2m37) (c := k2c37) (by decide +kernel) rfl rfl rfl (by decide +kernel)
set_option maxRecDepth 65536 in
theorem w_c39 : (Jvm.Cond.code ({ cls := "LatticeEarley", name := "itemSlot", desc := "(IIII)I" } : Jvm.MethodName) prog_1_method_32_code (5 : Nat) (Option.some Jvm.ClassFile.FieldType.int)).before args0 about1 = true := code_word (m := ⟨2, 31⟩) (meth := k2m31) (c := k2c31) (by decide +kernel) rfl rfl rfl (by decide +kernel)
set_option maxRecDepth 65536 in
theorem w_c40 : (Jvm.Cond.code ({ cls := "LatticeEarley", name := "isRule", desc := "(I)Z" } : Jvm.MethodName) prog_1_method_29_code (2 : Nat) (Option.some Jvm.ClassFile.FieldType.boolean)).before args0 about1 = true := code_word (m := ⟨2, 28⟩) (meth := k2m28) (c := k2c28) (by decide +kernel) rfl rfl rfl (by decide +kernel)
set_option maxRecDepth 65536 in
theorem w_c41 : (Jvm.Cond.code ({ cls := "LatticeEarley", name := "isDot", desc := "(I)Z" } : Jvm.MethodName) prog_1_method_30_code (2 : Nat) (Option.some Jvm.ClassFile.FieldType.boolean)).before args0 about1 = true := code_word (m := ⟨2, 29⟩) (meth := k2m29) (c := k2c29) (by decide +kernel) rfl rfl rfl (by decide +kernel)
set_option maxRecDepth 65536 in
theorem w_c42 : (Jvm.Cond.code ({ cls := "LatticeEarley", name := "advanceItems", desc := "(III)Z" } : Jvm.MethodName) prog_1_method_49_code (8 : Nat) (Option.some Jvm.ClassFile.FieldType.boolean)).before args0 about1 = true := code_word (m := ⟨2, 48⟩) (meth := k2m48) (c := k2c48) (by decide +kernel) rfl rfl rfl (by decide +kernel)
set_option maxRecDepth 65536 in
theorem w_c43 : (Jvm.Cond.code ({ cls := "LatticeEarley", name := "completeItem", desc := "(III)Z" } : Jvm.MethodName) prog_1_method_51_code (6 : Nat) (Option.some Jvm.ClassFile.FieldType.boolean)).before args0 about1 = true := code_word (m := ⟨2, 50⟩) (meth := k2m50) (c := k2c50) (by decide +kernel) rfl rfl rfl (by decide +kernel)
set_option maxRecDepth 65536 in
theorem w_c44 : (Jvm.Cond.code ({ cls := "LatticeEarley", name := "getItem", desc := "(IIII)I" } : Jvm.MethodName) prog_1_method_37_code (6 : Nat) (Option.some Jvm.ClassFile.FieldType.int)).before args0 about1 = true := code_word (m := ⟨2, 36⟩) (meth := k2m36) (c := k2c36) (by decide +kernel) rfl rfl rfl (by decide +kernel)
set_option maxRecDepth 65536 in
theorem w_c45 : (Jvm.Cond.code ({ cls := "LatticeEarley", name := "headCode", desc := "(I)I" } : Jvm.MethodName) prog_1_method_26_code (2 : Nat) (Option.some Jvm.ClassFile.FieldType.int)).before args0 about1 = true := code_word (m := ⟨2, 25⟩) (meth := k2m25) (c := k2c25) (by decide +kernel) rfl rfl rfl (by decide +kernel)
set_option maxRecDepth 65536 in
theorem w_c46 : (Jvm.Cond.code ({ cls := "LatticeEarley", name := "bestAdvance", desc := "(IIII)I" } : Jvm.MethodName) prog_1_method_50_code (11 : Nat) (Option.some Jvm.ClassFile.FieldType.int)).before args0 about1 = true := code_word (m := ⟨2, 49⟩) (meth := k2m49) (c := k2c49) (by decide +kernel) rfl rfl rfl (by decide +kernel)
set_option maxRecDepth 65536 in
theorem w_c47 : (Jvm.Cond.code ({ cls := "LatticeEarley", name := "plus", desc := "(II)I" } : Jvm.MethodName) prog_1_method_41_code (4 : Nat) (Option.some Jvm.ClassFile.FieldType.int)).before args0 about1 = true := code_word (m := ⟨2, 40⟩) (meth := k2m40) (c := k2c40) (by decide +kernel) rfl rfl rfl (by decide +kernel)
set_option maxRecDepth 65536 in
theorem w_c48 : (Jvm.Cond.code ({ cls := "LatticeEarley", name := "reset", desc := "()V" } : Jvm.MethodName) prog_1_method_2_code (1 : Nat) (Option.none : Option Jvm.ClassFile.FieldType)).before args0 about1 = true := code_word (m := ⟨2, 1⟩) (meth := k2m1) (c := k2c1) (by decide +kernel) rfl rfl rfl (by decide +kernel)
set_option maxRecDepth 65536 in
theorem w_c49 : (Jvm.Cond.code ({ cls := "LatticeEarley", name := "runRest", desc := "()V" } : Jvm.MethodName) prog_1_method_52_code (4 : Nat) (Option.none : Option Jvm.ClassFile.FieldType)).before args0 about1 = true := code_word (m := ⟨2, 51⟩) (meth := k2m51) (c := k2c51) (by decide +kernel) rfl rfl rfl (by decide +kernel)
set_option maxRecDepth 65536 in
theorem w_c50 : (Jvm.Cond.code ({ cls := "LatticeEarley", name := "seedRest", desc := "(I)V" } : Jvm.MethodName) prog_1_method_53_code (4 : Nat) (Option.none : Option Jvm.ClassFile.FieldType)).before args0 about1 = true := code_word (m := ⟨2, 52⟩) (meth := k2m52) (c := k2c52) (by decide +kernel) rfl rfl rfl (by decide +kernel)
set_option maxRecDepth 65536 in
theorem w_c51 : (Jvm.Cond.code ({ cls := "LatticeEarley", name := "lowerRest", desc := "(IIIII)Z" } : Jvm.MethodName) prog_1_method_40_code (7 : Nat) (Option.some Jvm.ClassFile.FieldType.boolean)).before args0 about1 = true := code_word (m := ⟨2, 39⟩) (meth := k2m39) (c := k2c39) (by decide +kernel) rfl rfl rfl (by decide +kernel)
set_option maxRecDepth 65536 in
theorem w_c52 : (Jvm.Cond.code ({ cls := "LatticeEarley", name := "fillRestLevel", desc := "(II)V" } : Jvm.MethodName) prog_1_method_54_code (6 : Nat) (Option.none : Option Jvm.ClassFile.FieldType)).before args0 about1 = true := code_word (m := ⟨2, 53⟩) (meth := k2m53) (c := k2c53) (by decide +kernel) rfl rfl rfl (by decide +kernel)
set_option maxRecDepth 65536 in
theorem w_c53 : (Jvm.Cond.code ({ cls := "LatticeEarley", name := "restAt", desc := "(IIII)I" } : Jvm.MethodName) prog_1_method_55_code (11 : Nat) (Option.some Jvm.ClassFile.FieldType.int)).before args0 about1 = true := code_word (m := ⟨2, 54⟩) (meth := k2m54) (c := k2c54) (by decide +kernel) rfl rfl rfl (by decide +kernel)
set_option maxRecDepth 65536 in
theorem w_c54 : (Jvm.Cond.code ({ cls := "LatticeEarley", name := "getRest", desc := "(IIII)I" } : Jvm.MethodName) prog_1_method_39_code (6 : Nat) (Option.some Jvm.ClassFile.FieldType.int)).before args0 about1 = true := code_word (m := ⟨2, 38⟩) (meth := k2m38) (c := k2c38) (by decide +kernel) rfl rfl rfl (by decide +kernel)
set_option maxRecDepth 65536 in
theorem w_c55 : (Jvm.Cond.code ({ cls := "LatticeEarley", name := "runOuter", desc := "()V" } : Jvm.MethodName) prog_1_method_56_code (4 : Nat) (Option.none : Option Jvm.ClassFile.FieldType)).before args0 about1 = true := code_word (m := ⟨2, 55⟩) (meth := k2m55) (c := k2c55) (by decide +kernel) rfl rfl rfl (by decide +kernel)
set_option maxRecDepth 65536 in
theorem w_c56 : (Jvm.Cond.code ({ cls := "LatticeEarley", name := "lowerOuter", desc := "(IIII)Z" } : Jvm.MethodName) prog_1_method_36_code (6 : Nat) (Option.some Jvm.ClassFile.FieldType.boolean)).before args0 about1 = true := code_word (m := ⟨2, 35⟩) (meth := k2m35) (c := k2c35) (by decide +kernel) rfl rfl rfl (by decide +kernel)
set_option maxRecDepth 65536 in
theorem w_c57 : (Jvm.Cond.code ({ cls := "LatticeEarley", name := "closeOuterCell", desc := "(II)V" } : Jvm.MethodName) prog_1_method_57_code (5 : Nat) (Option.none : Option Jvm.ClassFile.FieldType)).before args0 about1 = true := code_word (m := ⟨2, 56⟩) (meth := k2m56) (c := k2c56) (by decide +kernel) rfl rfl rfl (by decide +kernel)
set_option maxRecDepth 65536 in
theorem w_c58 : (Jvm.Cond.code ({ cls := "LatticeEarley", name := "outerRound", desc := "(II)Z" } : Jvm.MethodName) prog_1_method_58_code (5 : Nat) (Option.some Jvm.ClassFile.FieldType.boolean)).before args0 about1 = true := code_word (m := ⟨2, 57⟩) (meth := k2m57) (c := k2c57) (by decide +kernel) rfl rfl rfl (by decide +kernel)
set_option maxRecDepth 65536 in
theorem w_c59 : (Jvm.Cond.code ({ cls := "LatticeEarley", name := "outerRule", desc := "(III)Z" } : Jvm.MethodName) prog_1_method_59_code (9 : Nat) (Option.some Jvm.ClassFile.FieldType.boolean)).before args0 about1 = true := code_word (m := ⟨2, 58⟩) (meth := k2m58) (c := k2c58) (by decide +kernel) rfl rfl rfl (by decide +kernel)
set_option maxRecDepth 65536 in
theorem w_c60 : (Jvm.Cond.code ({ cls := "LatticeEarley", name := "bestContext", desc := "(IIII)I" } : Jvm.MethodName) prog_1_method_60_code (14 : Nat) (Option.some Jvm.ClassFile.FieldType.int)).before args0 about1 = true := code_word (m := ⟨2, 59⟩) (meth := k2m59) (c := k2c59) (by decide +kernel) rfl rfl rfl (by decide +kernel)
set_option maxRecDepth 65536 in
theorem w_c61 : (Jvm.Cond.code ({ cls := "LatticeEarley", name := "getOuter", desc := "(III)I" } : Jvm.MethodName) prog_1_method_35_code (5 : Nat) (Option.some Jvm.ClassFile.FieldType.int)).before args0 about1 = true := code_word (m := ⟨2, 34⟩) (meth := k2m34) (c := k2c34) (by decide +kernel) rfl rfl rfl (by decide +kernel)
set_option maxRecDepth 65536 in
theorem w_c62 : (Jvm.Cond.code ({ cls := "LatticeEarley", name := "plus3", desc := "(III)I" } : Jvm.MethodName) prog_1_method_42_code (5 : Nat) (Option.some Jvm.ClassFile.FieldType.int)).before args0 about1 = true := code_word (m := ⟨2, 41⟩) (meth := k2m41) (c := k2c41) (by decide +kernel) rfl rfl rfl (by decide +kernel)
set_option maxRecDepth 65536 in
theorem w_c63 : (Jvm.Cond.code ({ cls := "LatticeEarley", name := "ruleContext", desc := "(I)I" } : Jvm.MethodName) prog_1_method_61_code (10 : Nat) (Option.some Jvm.ClassFile.FieldType.int)).before args0 about1 = true := code_word (m := ⟨2, 60⟩) (meth := k2m60) (c := k2c60) (by decide +kernel) rfl rfl rfl (by decide +kernel)
def codes1 : List Jvm.Cond := [Jvm.Cond.code x code maxLocals ret, Jvm.Cond.code ({ cls := "LatticeEarley", name := "<init>", desc := "(I)V" } : Jvm.MethodName) prog_1_method_1_code (2 : Nat) (Option.none : Option Jvm.ClassFile.FieldType), Jvm.Cond.code ({ cls := "java/lang/Object", name := "<init>", desc := "()V" } : Jvm.MethodName) object_method_1_code (1 : Nat) (Option.none : Option Jvm.ClassFile.FieldType), Jvm.Cond.code ({ cls := "LatticeEarley", name := "clampNodes", desc := "(I)I" } : Jvm.MethodName) prog_1_method_16_code (2 : Nat) (Option.some Jvm.ClassFile.FieldType.int), Jvm.Cond.code ({ cls := "LatticeEarley", name := "clearStore", desc := "()V" } : Jvm.MethodName) prog_1_method_17_code (2 : Nat) (Option.none : Option Jvm.ClassFile.FieldType), Jvm.Cond.code ({ cls := "LatticeEarley", name := "becomeBuilding", desc := "()V" } : Jvm.MethodName) prog_1_method_18_code (1 : Nat) (Option.none : Option Jvm.ClassFile.FieldType), Jvm.Cond.code ({ cls := "LatticeEarley", name := "clearTables", desc := "()V" } : Jvm.MethodName) prog_1_method_19_code (2 : Nat) (Option.none : Option Jvm.ClassFile.FieldType), Jvm.Cond.code ({ cls := "LatticeEarley", name := "nodeCount", desc := "()I" } : Jvm.MethodName) prog_1_method_3_code (1 : Nat) (Option.some Jvm.ClassFile.FieldType.int), Jvm.Cond.code ({ cls := "LatticeEarley", name := "addEdge", desc := "(IIII)I" } : Jvm.MethodName) prog_1_method_6_code (6 : Nat) (Option.some Jvm.ClassFile.FieldType.int), Jvm.Cond.code ({ cls := "LatticeEarley", name := "edgeRefused", desc := "(IIII)Z" } : Jvm.MethodName) prog_1_method_21_code (5 : Nat) (Option.some Jvm.ClassFile.FieldType.boolean), Jvm.Cond.code ({ cls := "LatticeEarley", name := "inRange", desc := "(III)Z" } : Jvm.MethodName) prog_1_method_20_code (4 : Nat) (Option.some Jvm.ClassFile.FieldType.boolean), Jvm.Cond.code ({ cls := "LatticeEarley", name := "edgeCount", desc := "()I" } : Jvm.MethodName) prog_1_method_4_code (1 : Nat) (Option.some Jvm.ClassFile.FieldType.int), Jvm.Cond.code ({ cls := "LatticeEarley", name := "ruleCount", desc := "()I" } : Jvm.MethodName) prog_1_method_5_code (1 : Nat) (Option.some Jvm.ClassFile.FieldType.int), Jvm.Cond.code ({ cls := "LatticeEarley", name := "edgeInfo", desc := "(II)I" } : Jvm.MethodName) prog_1_method_8_code (3 : Nat) (Option.some Jvm.ClassFile.FieldType.int), Jvm.Cond.code ({ cls := "LatticeEarley", name := "parse", desc := "()Z" } : Jvm.MethodName) prog_1_method_10_code (3 : Nat) (Option.some Jvm.ClassFile.FieldType.boolean), Jvm.Cond.code ({ cls := "LatticeEarley", name := "runInside", desc := "()V" } : Jvm.MethodName) prog_1_method_44_code (3 : Nat) (Option.none : Option Jvm.ClassFile.FieldType), Jvm.Cond.code ({ cls := "LatticeEarley", name := "scanEdges", desc := "()V" } : Jvm.MethodName) prog_1_method_45_code (2 : Nat) (Option.none : Option Jvm.ClassFile.FieldType), Jvm.Cond.code ({ cls := "LatticeEarley", name := "lowerSpan", desc := "(IIII)Z" } : Jvm.MethodName) prog_1_method_34_code (6 : Nat) (Option.some Jvm.ClassFile.FieldType.boolean), Jvm.Cond.code ({ cls := "LatticeEarley", name := "spanSlot", desc := "(III)I" } : Jvm.MethodName) prog_1_method_31_code (4 : Nat) (Option.some Jvm.ClassFile.FieldType.int), Jvm.Cond.code ({ cls := "LatticeEarley", name := "isCode", desc := "(I)Z" } : Jvm.MethodName) prog_1_method_28_code (2 : Nat) (Option.some Jvm.ClassFile.FieldType.boolean), Jvm.Cond.code ({ cls := "LatticeEarley", name := "isNode", desc := "(I)Z" } : Jvm.MethodName) prog_1_method_27_code (2 : Nat) (Option.some Jvm.ClassFile.FieldType.boolean), Jvm.Cond.code ({ cls := "LatticeEarley", name := "seedItems", desc := "()V" } : Jvm.MethodName) prog_1_method_46_code (3 : Nat) (Option.none : Option Jvm.ClassFile.FieldType), Jvm.Cond.code ({ cls := "LatticeEarley", name := "closeInsideCell", desc := "(II)V" } : Jvm.MethodName) prog_1_method_47_code (5 : Nat) (Option.none : Option Jvm.ClassFile.FieldType), Jvm.Cond.code ({ cls := "LatticeEarley", name := "insideRound", desc := "(II)Z" } : Jvm.MethodName) prog_1_method_48_code (5 : Nat) (Option.some Jvm.ClassFile.FieldType.boolean), Jvm.Cond.code ({ cls := "LatticeEarley", name := "getSpan", desc := "(III)I" } : Jvm.MethodName) prog_1_method_33_code (5 : Nat) (Option.some Jvm.ClassFile.FieldType.int), Jvm.Cond.code ({ cls := "LatticeEarley", name := "status", desc := "()I" } : Jvm.MethodName) prog_1_method_11_code (1 : Nat) (Option.some Jvm.ClassFile.FieldType.int), Jvm.Cond.code ({ cls := "LatticeEarley", name := "bestWeight", desc := "()I" } : Jvm.MethodName) prog_1_method_12_code (1 : Nat) (Option.some Jvm.ClassFile.FieldType.int), Jvm.Cond.code ({ cls := "LatticeEarleyL7", name := "rel", desc := "(IIZ)Z" } : Jvm.MethodName) method_3_code (3 : Nat) (Option.some Jvm.ClassFile.FieldType.boolean), Jvm.Cond.code ({ cls := "LatticeEarley", name := "spanWeight", desc := "(III)I" } : Jvm.MethodName) prog_1_method_13_code (5 : Nat) (Option.some Jvm.ClassFile.FieldType.int), Jvm.Cond.code ({ cls := "LatticeEarley", name := "answer", desc := "(I)I" } : Jvm.MethodName) prog_1_method_43_code (2 : Nat) (Option.some Jvm.ClassFile.FieldType.int), Jvm.Cond.code ({ cls := "LatticeEarley", name := "edgeBest", desc := "(I)I" } : Jvm.MethodName) prog_1_method_14_code (4 : Nat) (Option.some Jvm.ClassFile.FieldType.int), Jvm.Cond.code ({ cls := "LatticeEarley", name := "ruleBest", desc := "(I)I" } : Jvm.MethodName) prog_1_method_15_code (3 : Nat) (Option.some Jvm.ClassFile.FieldType.int), Jvm.Cond.code ({ cls := "LatticeEarley", name := "addRule", desc := "(IIII)I" } : Jvm.MethodName) prog_1_method_7_code (6 : Nat) (Option.some Jvm.ClassFile.FieldType.int), Jvm.Cond.code ({ cls := "LatticeEarley", name := "ruleRefused", desc := "(IIII)Z" } : Jvm.MethodName) prog_1_method_22_code (5 : Nat) (Option.some Jvm.ClassFile.FieldType.boolean), Jvm.Cond.code ({ cls := "LatticeEarley", name := "bodyLimit", desc := "(I)I" } : Jvm.MethodName) prog_1_method_23_code (4 : Nat) (Option.some Jvm.ClassFile.FieldType.int), Jvm.Cond.code ({ cls := "LatticeEarley", name := "storeRule", desc := "(IIIII)V" } : Jvm.MethodName) prog_1_method_24_code (8 : Nat) (Option.none : Option Jvm.ClassFile.FieldType), Jvm.Cond.code ({ cls := "LatticeEarley", name := "ruleInfo", desc := "(II)I" } : Jvm.MethodName) prog_1_method_9_code (4 : Nat) (Option.some Jvm.ClassFile.FieldType.int), Jvm.Cond.code ({ cls := "LatticeEarley", name := "symbolAt", desc := "(II)I" } : Jvm.MethodName) prog_1_method_25_code (3 : Nat) (Option.some Jvm.ClassFile.FieldType.int), Jvm.Cond.code ({ cls := "LatticeEarley", name := "lowerItem", desc := "(IIIII)Z" } : Jvm.MethodName) prog_1_method_38_code (7 : Nat) (Option.some Jvm.ClassFile.FieldType.boolean), Jvm.Cond.code ({ cls := "LatticeEarley", name := "itemSlot", desc := "(IIII)I" } : Jvm.MethodName) prog_1_method_32_code (5 : Nat) (Option.some Jvm.ClassFile.FieldType.int), Jvm.Cond.code ({ cls := "LatticeEarley", name := "isRule", desc := "(I)Z" } : Jvm.MethodName) prog_1_method_29_code (2 : Nat) (Option.some Jvm.ClassFile.FieldType.boolean), Jvm.Cond.code ({ cls := "LatticeEarley", name := "isDot", desc := "(I)Z" } : Jvm.MethodName) prog_1_method_30_code (2 : Nat) (Option.some Jvm.ClassFile.FieldType.boolean), Jvm.Cond.code ({ cls := "LatticeEarley", name := "advanceItems", desc := "(III)Z" } : Jvm.MethodName) prog_1_method_49_code (8 : Nat) (Option.some Jvm.ClassFile.FieldType.boolean), Jvm.Cond.code ({ cls := "LatticeEarley", name := "completeItem", desc := "(III)Z" } : Jvm.MethodName) prog_1_method_51_code (6 : Nat) (Option.some Jvm.ClassFile.FieldType.boolean), Jvm.Cond.code ({ cls := "LatticeEarley", name := "getItem", desc := "(IIII)I" } : Jvm.MethodName) prog_1_method_37_code (6 : Nat) (Option.some Jvm.ClassFile.FieldType.int), Jvm.Cond.code ({ cls := "LatticeEarley", name := "headCode", desc := "(I)I" } : Jvm.MethodName) prog_1_method_26_code (2 : Nat) (Option.some Jvm.ClassFile.FieldType.int), Jvm.Cond.code ({ cls := "LatticeEarley", name := "bestAdvance", desc := "(IIII)I" } : Jvm.MethodName) prog_1_method_50_code (11 : Nat) (Option.some Jvm.ClassFile.FieldType.int), Jvm.Cond.code ({ cls := "LatticeEarley", name := "plus", desc := "(II)I" } : Jvm.MethodName) prog_1_method_41_code (4 : Nat) (Option.some Jvm.ClassFile.FieldType.int), Jvm.Cond.code ({ cls := "LatticeEarley", name := "reset", desc := "()V" } : Jvm.MethodName) prog_1_method_2_code (1 : Nat) (Option.none : Option Jvm.ClassFile.FieldType), Jvm.Cond.code ({ cls := "LatticeEarley", name := "runRest", desc := "()V" } : Jvm.MethodName) prog_1_method_52_code (4 : Nat) (Option.none : Option Jvm.ClassFile.FieldType), Jvm.Cond.code ({ cls := "LatticeEarley", name := "seedRest", desc := "(I)V" } : Jvm.MethodName) prog_1_method_53_code (4 : Nat) (Option.none : Option Jvm.ClassFile.FieldType), Jvm.Cond.code ({ cls := "LatticeEarley", name := "lowerRest", desc := "(IIIII)Z" } : Jvm.MethodName) prog_1_method_40_code (7 : Nat) (Option.some Jvm.ClassFile.FieldType.boolean), Jvm.Cond.code ({ cls := "LatticeEarley", name := "fillRestLevel", desc := "(II)V" } : Jvm.MethodName) prog_1_method_54_code (6 : Nat) (Option.none : Option Jvm.ClassFile.FieldType), Jvm.Cond.code ({ cls := "LatticeEarley", name := "restAt", desc := "(IIII)I" } : Jvm.MethodName) prog_1_method_55_code (11 : Nat) (Option.some Jvm.ClassFile.FieldType.int), Jvm.Cond.code ({ cls := "LatticeEarley", name := "getRest", desc := "(IIII)I" } : Jvm.MethodName) prog_1_method_39_code (6 : Nat) (Option.some Jvm.ClassFile.FieldType.int), Jvm.Cond.code ({ cls := "LatticeEarley", name := "runOuter", desc := "()V" } : Jvm.MethodName) prog_1_method_56_code (4 : Nat) (Option.none : Option Jvm.ClassFile.FieldType), Jvm.Cond.code ({ cls := "LatticeEarley", name := "lowerOuter", desc := "(IIII)Z" } : Jvm.MethodName) prog_1_method_36_code (6 : Nat) (Option.some Jvm.ClassFile.FieldType.boolean), Jvm.Cond.code ({ cls := "LatticeEarley", name := "closeOuterCell", desc := "(II)V" } : Jvm.MethodName) prog_1_method_57_code (5 : Nat) (Option.none : Option Jvm.ClassFile.FieldType), Jvm.Cond.code ({ cls := "LatticeEarley", name := "outerRound", desc := "(II)Z" } : Jvm.MethodName) prog_1_method_58_code (5 : Nat) (Option.some Jvm.ClassFile.FieldType.boolean), Jvm.Cond.code ({ cls := "LatticeEarley", name := "outerRule", desc := "(III)Z" } : Jvm.MethodName) prog_1_method_59_code (9 : Nat) (Option.some Jvm.ClassFile.FieldType.boolean), Jvm.Cond.code ({ cls := "LatticeEarley", name := "bestContext", desc := "(IIII)I" } : Jvm.MethodName) prog_1_method_60_code (14 : Nat) (Option.some Jvm.ClassFile.FieldType.int), Jvm.Cond.code ({ cls := "LatticeEarley", name := "getOuter", desc := "(III)I" } : Jvm.MethodName) prog_1_method_35_code (5 : Nat) (Option.some Jvm.ClassFile.FieldType.int), Jvm.Cond.code ({ cls := "LatticeEarley", name := "plus3", desc := "(III)I" } : Jvm.MethodName) prog_1_method_42_code (5 : Nat) (Option.some Jvm.ClassFile.FieldType.int), Jvm.Cond.code ({ cls := "LatticeEarley", name := "ruleContext", desc := "(I)I" } : Jvm.MethodName) prog_1_method_61_code (10 : Nat) (Option.some Jvm.ClassFile.FieldType.int)]
set_option maxRecDepth 65536 in
theorem codes_eq : words1.filter isCode = codes1 := rfl
theorem w_codes : ∀ c ∈ words1.filter isCode, c.before args0 about1 = true := by
  rw [codes_eq]
  intro c hc
  simp only [codes1, List.mem_cons, List.not_mem_nil, or_false] at hc
  rcases hc with rfl | rfl | rfl | rfl | rfl | rfl | rfl | rfl | rfl | rfl | rfl | rfl | rfl | rfl | rfl | rfl | rfl | rfl | rfl | rfl | rfl | rfl | rfl | rfl | rfl | rfl | rfl | rfl | rfl | rfl | rfl | rfl | rfl | rfl | rfl | rfl | rfl | rfl | rfl | rfl | rfl | rfl | rfl | rfl | rfl | rfl | rfl | rfl | rfl | rfl | rfl | rfl | rfl | rfl | rfl | rfl | rfl | rfl | rfl | rfl | rfl | rfl | rfl | rfl
  · exact w_c0
  · exact w_c1
  · exact w_c2
  · exact w_c3
  · exact w_c4
  · exact w_c5
  · exact w_c6
  · exact w_c7
  · exact w_c8
  · exact w_c9
  · exact w_c10
  · exact w_c11
  · exact w_c12
  · exact w_c13
  · exact w_c14
  · exact w_c15
  · exact w_c16
  · exact w_c17
  · exact w_c18
  · exact w_c19
  · exact w_c20
  · exact w_c21
  · exact w_c22
  · exact w_c23
  · exact w_c24
  · exact w_c25
  · exact w_c26
  · exact w_c27
  · exact w_c28
  · exact w_c29
  · exact w_c30
  · exact w_c31
  · exact w_c32
  · exact w_c33
  · exact w_c34
  · exact w_c35
  · exact w_c36
  · exact w_c37
  · exact w_c38
  · exact w_c39
  · exact w_c40
  · exact w_c41
  · exact w_c42
  · exact w_c43
  · exact w_c44
  · exact w_c45
  · exact w_c46
  · exact w_c47
  · exact w_c48
  · exact w_c49
  · exact w_c50
  · exact w_c51
  · exact w_c52
  · exact w_c53
  · exact w_c54
  · exact w_c55
  · exact w_c56
  · exact w_c57
  · exact w_c58
  · exact w_c59
  · exact w_c60
  · exact w_c61
  · exact w_c62
  · exact w_c63
set_option maxRecDepth 65536 in
theorem w_t1 : (words1.take 24).all (fun c => isCode c || c.before args0 about1) = true := by decide +kernel
set_option maxRecDepth 65536 in
theorem w_t2 : ((words1.drop 24).take 24).all (fun c => isCode c || c.before args0 about1) = true := by decide +kernel
set_option maxRecDepth 65536 in
theorem w_t3 : (((words1.drop 24).drop 24).take 24).all (fun c => isCode c || c.before args0 about1) = true := by decide +kernel
set_option maxRecDepth 65536 in
theorem w_t4 : ((((words1.drop 24).drop 24).drop 24).take 24).all (fun c => isCode c || c.before args0 about1) = true := by decide +kernel
set_option maxRecDepth 65536 in
theorem w_t5 : (((((words1.drop 24).drop 24).drop 24).drop 24).take 24).all (fun c => isCode c || c.before args0 about1) = true := by decide +kernel
set_option maxRecDepth 65536 in
theorem w_t6 : ((((((words1.drop 24).drop 24).drop 24).drop 24).drop 24).take 24).all (fun c => isCode c || c.before args0 about1) = true := by decide +kernel
set_option maxRecDepth 65536 in
theorem w_t7 : (((((((words1.drop 24).drop 24).drop 24).drop 24).drop 24).drop 24).take 24).all (fun c => isCode c || c.before args0 about1) = true := by decide +kernel
set_option maxRecDepth 65536 in
theorem w_t8 : ((((((((words1.drop 24).drop 24).drop 24).drop 24).drop 24).drop 24).drop 24).take 24).all (fun c => isCode c || c.before args0 about1) = true := by decide +kernel
set_option maxRecDepth 65536 in
theorem w_t9 : (((((((((words1.drop 24).drop 24).drop 24).drop 24).drop 24).drop 24).drop 24).drop 24).take 24).all (fun c => isCode c || c.before args0 about1) = true := by decide +kernel
set_option maxRecDepth 65536 in
theorem w_t10 : ((((((((((words1.drop 24).drop 24).drop 24).drop 24).drop 24).drop 24).drop 24).drop 24).drop 24).take 24).all (fun c => isCode c || c.before args0 about1) = true := by decide +kernel
set_option maxRecDepth 65536 in
theorem w_t11 : (((((((((((words1.drop 24).drop 24).drop 24).drop 24).drop 24).drop 24).drop 24).drop 24).drop 24).drop 24).take 24).all (fun c => isCode c || c.before args0 about1) = true := by decide +kernel
set_option maxRecDepth 65536 in
theorem w_t12 : ((((((((((((words1.drop 24).drop 24).drop 24).drop 24).drop 24).drop 24).drop 24).drop 24).drop 24).drop 24).drop 24).take 24).all (fun c => isCode c || c.before args0 about1) = true := by decide +kernel
set_option maxRecDepth 65536 in
theorem w_t13 : ((((((((((((words1.drop 24).drop 24).drop 24).drop 24).drop 24).drop 24).drop 24).drop 24).drop 24).drop 24).drop 24).drop 24).all (fun c => isCode c || c.before args0 about1) = true := by decide +kernel
theorem w_tables : (allAtoms (Jvm.Cond.code x code maxLocals ret :: tables_1)).before args0 about1 = true := by
  rw [allAtoms_all]
  show words1.all (fun c => c.before args0 about1) = true
  refine all_split ?_ w_codes
  rw [← List.take_append_drop 24 words1, List.all_append, w_t1, ← List.take_append_drop 24 (words1.drop 24), List.all_append, w_t2, ← List.take_append_drop 24 ((words1.drop 24).drop 24), List.all_append, w_t3, ← List.take_append_drop 24 (((words1.drop 24).drop 24).drop 24), List.all_append, w_t4, ← List.take_append_drop 24 ((((words1.drop 24).drop 24).drop 24).drop 24), List.all_append, w_t5, ← List.take_append_drop 24 (((((words1.drop 24).drop 24).drop 24).drop 24).drop 24), List.all_append, w_t6, ← List.take_append_drop 24 ((((((words1.drop 24).drop 24).drop 24).drop 24).drop 24).drop 24), List.all_append, w_t7, ← List.take_append_drop 24 (((((((words1.drop 24).drop 24).drop 24).drop 24).drop 24).drop 24).drop 24), List.all_append, w_t8, ← List.take_append_drop 24 ((((((((words1.drop 24).drop 24).drop 24).drop 24).drop 24).drop 24).drop 24).drop 24), List.all_append, w_t9, ← List.take_append_drop 24 (((((((((words1.drop 24).drop 24).drop 24).drop 24).drop 24).drop 24).drop 24).drop 24).drop 24), List.all_append, w_t10, ← List.take_append_drop 24 ((((((((((words1.drop 24).drop 24).drop 24).drop 24).drop 24).drop 24).drop 24).drop 24).drop 24).drop 24), List.all_append, w_t11, ← List.take_append_drop 24 (((((((((((words1.drop 24).drop 24).drop 24).drop 24).drop 24).drop 24).drop 24).drop 24).drop 24).drop 24).drop 24), List.all_append, w_t12, w_t13]
  rfl
set_option maxRecDepth 65536 in
theorem w_rest : rest_1_c.before args0 about1 = true := by decide +kernel
set_option maxRecDepth 65536 in
theorem w_case : (Jvm.Cond.and given_1 narrow_1).before args0 about1 = true := by decide +kernel
theorem w_applies : (headSpec (Jvm.Cond.code x code maxLocals ret :: tables_1) room_1).applies x e0.platform about1 = true :=
  (Spec.applies_iff w_frames).mpr ⟨w_running, w_runnable, w_alone, w_named, w_hears, w_ripe, w_room, w_tables⟩
theorem atStart : AtStart classFile x code maxLocals ret World_1 tables_1 room_1 Calls_1 rest_1 Pre_1 launch0 p0 e0 about1 theMethod args0 below0 :=
  ⟨lists_1, trivial, launch0.admits_env _ _ _, launch0.least_env, fairChoices_fair.cas, fairChoices_fair.clock, w_frames, w_args, w_heap, w_applies, trivial, w_rest, w_case⟩
end start1
theorem witness_1 : WitnessClaimed_1 := ⟨start1.p0, start1.e0, start1.about1, start1.theMethod, start1.args0, start1.below0, start1.atStart⟩
end Jvm.Pilot.@@N@@
