import JvmDerived
import JvmDerived.Pilot.@@N@@Statement
import JvmDerived.Pilot.@@N@@Code
set_option linter.unusedVariables false
set_option linter.unusedSimpArgs false
namespace Jvm.AM
open Sem ClassFile Op Lib Jvm.Stand Jvm.Free Jvm.LawKit Jvm.RoadKit
/-! ## 1. The abstract objects: one object of the class, its scalars and its arrays by number -/
abbrev S : Type := (Nat → Int32) × (Nat → Int64) × (Nat → List Int32) × (Nat → List Int64)
def aupd {A : Type} (g : Nat → A) (f : Nat) (v : A) : Nat → A := fun x => if x = f then v else g x
def gI (s : S) (f : Nat) : Int32 := s.1 f
def gL (s : S) (f : Nat) : Int64 := s.2.1 f
def gA (s : S) (f : Nat) : List Int32 := s.2.2.1 f
def gB (s : S) (f : Nat) : List Int64 := s.2.2.2 f
def sI (s : S) (f : Nat) (v : Int32) : S := (aupd s.1 f v, s.2)
def sL (s : S) (f : Nat) (v : Int64) : S := (s.1, aupd s.2.1 f v, s.2.2)
def sA (s : S) (f : Nat) (v : List Int32) : S := (s.1, s.2.1, aupd s.2.2.1 f v, s.2.2.2)
def sB (s : S) (f : Nat) (v : List Int64) : S := (s.1, s.2.1, s.2.2.1, aupd s.2.2.2 f v)
def s0 : S := (fun _ => 0, fun _ => 0, fun _ => [], fun _ => [])
theorem gI_s0 (f : Nat) : gI s0 f = 0 := by simp only [gI, s0]
theorem gL_s0 (f : Nat) : gL s0 f = 0 := by simp only [gL, s0]
theorem gA_s0 (f : Nat) : gA s0 f = [] := by simp only [gA, s0]
theorem gB_s0 (f : Nat) : gB s0 f = [] := by simp only [gB, s0]
theorem gI_sI (s : S) (f g : Nat) (v : Int32) : gI (sI s f v) g = if g = f then v else gI s g := by simp only [gI, gL, gA, gB, sI, sL, sA, sB, aupd]
theorem gI_sL (s : S) (f g : Nat) (v : Int64) : gI (sL s f v) g = gI s g := by simp only [gI, gL, gA, gB, sI, sL, sA, sB, aupd]
theorem gI_sA (s : S) (f g : Nat) (v : List Int32) : gI (sA s f v) g = gI s g := by simp only [gI, gL, gA, gB, sI, sL, sA, sB, aupd]
theorem gI_sB (s : S) (f g : Nat) (v : List Int64) : gI (sB s f v) g = gI s g := by simp only [gI, gL, gA, gB, sI, sL, sA, sB, aupd]
theorem gL_sI (s : S) (f g : Nat) (v : Int32) : gL (sI s f v) g = gL s g := by simp only [gI, gL, gA, gB, sI, sL, sA, sB, aupd]
theorem gL_sL (s : S) (f g : Nat) (v : Int64) : gL (sL s f v) g = if g = f then v else gL s g := by simp only [gI, gL, gA, gB, sI, sL, sA, sB, aupd]
theorem gL_sA (s : S) (f g : Nat) (v : List Int32) : gL (sA s f v) g = gL s g := by simp only [gI, gL, gA, gB, sI, sL, sA, sB, aupd]
theorem gL_sB (s : S) (f g : Nat) (v : List Int64) : gL (sB s f v) g = gL s g := by simp only [gI, gL, gA, gB, sI, sL, sA, sB, aupd]
theorem gA_sI (s : S) (f g : Nat) (v : Int32) : gA (sI s f v) g = gA s g := by simp only [gI, gL, gA, gB, sI, sL, sA, sB, aupd]
theorem gA_sL (s : S) (f g : Nat) (v : Int64) : gA (sL s f v) g = gA s g := by simp only [gI, gL, gA, gB, sI, sL, sA, sB, aupd]
theorem gA_sA (s : S) (f g : Nat) (v : List Int32) : gA (sA s f v) g = if g = f then v else gA s g := by simp only [gI, gL, gA, gB, sI, sL, sA, sB, aupd]
theorem gA_sB (s : S) (f g : Nat) (v : List Int64) : gA (sB s f v) g = gA s g := by simp only [gI, gL, gA, gB, sI, sL, sA, sB, aupd]
theorem gB_sI (s : S) (f g : Nat) (v : Int32) : gB (sI s f v) g = gB s g := by simp only [gI, gL, gA, gB, sI, sL, sA, sB, aupd]
theorem gB_sL (s : S) (f g : Nat) (v : Int64) : gB (sL s f v) g = gB s g := by simp only [gI, gL, gA, gB, sI, sL, sA, sB, aupd]
theorem gB_sA (s : S) (f g : Nat) (v : List Int32) : gB (sA s f v) g = gB s g := by simp only [gI, gL, gA, gB, sI, sL, sA, sB, aupd]
theorem gB_sB (s : S) (f g : Nat) (v : List Int64) : gB (sB s f v) g = if g = f then v else gB s g := by simp only [gI, gL, gA, gB, sI, sL, sA, sB, aupd]
def rep {A : Type} (n : Nat) (x : A) : List A := List.replicate n x
theorem rep_length {A : Type} (n : Nat) (x : A) : (rep n x).length = n := by simp only [rep, List.length_replicate]
theorem rep_get {A : Type} (n : Nat) (x : A) (k : Nat) : (rep n x)[k]? = if k < n then some x else none := by simp only [rep, List.getElem?_replicate]
theorem rep_set {A : Type} (n : Nat) (x : A) (k : Nat) : (rep n x).set k x = rep n x := by simp only [rep, List.set_replicate_self]
/-- reading and writing a component -/
def ix {A : Type} (l : List A) (j : Int32) : Option A := if j < 0 then none else l[j.toNatClampNeg]?
def st {A : Type} (l : List A) (j : Int32) (x : A) : Option (List A) := if j < 0 then none else if j.toNatClampNeg < l.length then some (l.set j.toNatClampNeg x) else none
/-- the world of a run: the script array, if there is one; the objects made so far, each with the number of arrays that it has been given -/
abbrev W : Type := Option (List Int32) × List (Nat × S)
/-- the class: name, slots, scalar fields (name, descriptor, type), array fields in the order of their making (name, descriptor, component type, most slots) -/
abbrev CI : Type := String × Nat × List (String × String × FieldType) × List (String × String × FieldType × Nat)
def cN (c : CI) : String := c.1
def cF (c : CI) : Nat := c.2.1
def cS (c : CI) : List (String × String × FieldType) := c.2.2.1
def cA (c : CI) : List (String × String × FieldType × Nat) := c.2.2.2
def cK (c : CI) : Nat := (cA c).length
/-- the program: the sheet's words, the class -/
abbrev PI : Type := List Jvm.Cond × CI
/-- a method: name, bytes, variables, return type, room, most objects, whether it makes cells, cells and slots at its start -/
abbrev Meth : Type := MethodName × ByteArray × Nat × Option FieldType × Room × Nat × Bool × Nat × Nat
def mY (M : Meth) : MethodName := M.1
def mB (M : Meth) : ByteArray := M.2.1
def mL (M : Meth) : Nat := M.2.2.1
def mT (M : Meth) : Option FieldType := M.2.2.2.1
def mR (M : Meth) : Room := M.2.2.2.2.1
def mN (M : Meth) : Nat := M.2.2.2.2.2.1
def mTop (M : Meth) : Bool := M.2.2.2.2.2.2.1
def mUC (M : Meth) : Nat := M.2.2.2.2.2.2.2.1
def mUS (M : Meth) : Nat := M.2.2.2.2.2.2.2.2
/-! ## 2. Abstract references: 0 the script; j + 1 the cell at b + j -/
def con (α b : Nat) : Value → Value
  | .ref 0 => .ref α
  | .ref (j + 1) => .ref (b + j)
  | v => v
def cs (α b : Nat) : Slot → Slot
  | .val v => .val (con α b v)
  | .unset => .unset
  | .second => .second
def cL (α b : Nat) (L : List Slot) : Array Slot := (L.map (cs α b)).toArray
def cV (α b : Nat) (l : List Value) : List Value := l.map (con α b)
theorem con_cat (α b : Nat) (v : Value) : (con α b v).category = v.category := by
  cases v <;> try rfl
  rename_i a; cases a <;> rfl
theorem con_ref (α b : Nat) (v : Value) : (con α b v).isRef = v.isRef := by
  cases v <;> try rfl
  rename_i a; cases a <;> rfl
theorem cL_get {α b : Nat} {L : List Slot} {k : Nat} {x : Slot} (h : L[k]? = some x) : (cL α b L)[k]? = some (cs α b x) := by
  simp [cL, List.getElem?_toArray, List.getElem?_map, h]
theorem cL_size (α b : Nat) (L : List Slot) : (cL α b L).size = L.length := by simp [cL]
theorem cV_sum (α b : Nat) (l : List Value) : ((cV α b l).map fun v => v.category).sum = (l.map fun v => v.category).sum := by
  simp [cV, List.map_map, Function.comp_def, con_cat]
theorem setAt_map {α b : Nat} {l l' : Array Slot} {i : Nat} {x : Slot} (h : setAt l i x = some l') : setAt (l.map (cs α b)) i (cs α b x) = some (l'.map (cs α b)) := by
  unfold setAt at h ⊢
  split at h
  · rename_i q
    cases h
    rw [if_pos (by simpa using q)]
    simp [Array.map_setIfInBounds]
  · cases h
theorem storeSelf_map {α b : Nat} {l l' : Array Slot} {i : Nat} {v : Value} (h : storeSelf l i v = some l') : storeSelf (l.map (cs α b)) i (con α b v) = some (l'.map (cs α b)) := by
  simp only [storeSelf, Option.bind_eq_bind, Option.bind_eq_some_iff] at h ⊢
  obtain ⟨l1, h1, h2⟩ := h
  refine ⟨l1.map (cs α b), setAt_map (x := .val v) h1, ?_⟩
  rw [con_cat]
  split at h2
  · rename_i q
    rw [if_pos q]
    obtain ⟨x, h3, h4⟩ := Option.bind_eq_some_iff.mp h2
    refine Option.bind_eq_some_iff.mpr ⟨cs α b x, by simp [h3], ?_⟩
    cases x with
    | unset => exact setAt_map (x := .second) h4
    | second => exact setAt_map (x := .second) h4
    | val old =>
      simp only [cs, con_cat] at h4 ⊢
      split at h4
      · rename_i q2
        rw [if_pos q2]
        obtain ⟨y, h5, h6⟩ := Option.bind_eq_some_iff.mp h4
        exact Option.bind_eq_some_iff.mpr ⟨_, setAt_map (x := .unset) h5, setAt_map (x := .second) h6⟩
      · rename_i q2
        rw [if_neg q2]
        exact setAt_map (x := .second) h4
  · rename_i q
    rw [if_neg q]
    cases h2; rfl
theorem store_map {α b : Nat} {l l' : Array Slot} {i : Nat} {v : Value} (h : storeLocals l i v = some l') : storeLocals (l.map (cs α b)) i (con α b v) = some (l'.map (cs α b)) := by
  simp only [storeLocals, Option.bind_eq_bind, Option.bind_eq_some_iff] at h ⊢
  obtain ⟨x, h1, h2⟩ := h
  refine ⟨cs α b x, by simp [h1], ?_⟩
  cases x with
  | unset => exact storeSelf_map h2
  | second =>
    obtain ⟨y, h3, h4⟩ := Option.bind_eq_some_iff.mp h2
    exact Option.bind_eq_some_iff.mpr ⟨_, setAt_map (x := .unset) h3, storeSelf_map h4⟩
  | val old =>
    simp only [cs, con_cat] at h2 ⊢
    split at h2
    · rename_i q
      rw [if_pos q]
      obtain ⟨y, h3, h4⟩ := Option.bind_eq_some_iff.mp h2
      exact Option.bind_eq_some_iff.mpr ⟨_, setAt_map (x := .unset) h3, storeSelf_map h4⟩
    · rename_i q
      rw [if_neg q]
      exact storeSelf_map h2
theorem storeC {α b : Nat} {L L' : List Slot} {i : Nat} {v : Value} (h : storeLocals L.toArray i v = some L'.toArray) : storeLocals (cL α b L) i (con α b v) = some (cL α b L') := by
  have := store_map (α := α) (b := b) h
  simpa [cL] using this
theorem setAt_size {l l' : Array Slot} {i : Nat} {x : Slot} (h : setAt l i x = some l') : l'.size = l.size := by
  unfold setAt at h; split at h <;> cases h; simp
theorem storeSelf_size {l l' : Array Slot} {i : Nat} {v : Value} (h : storeSelf l i v = some l') : l'.size = l.size := by
  simp only [storeSelf, Option.bind_eq_bind, Option.bind_eq_some_iff] at h
  obtain ⟨l1, h1, h2⟩ := h
  have e1 := setAt_size h1
  split at h2
  · obtain ⟨x, h3, h4⟩ := Option.bind_eq_some_iff.mp h2
    cases x with
    | unset => exact (setAt_size h4).trans e1
    | second => exact (setAt_size h4).trans e1
    | val old =>
      dsimp only at h4
      split at h4
      · obtain ⟨y, h5, h6⟩ := Option.bind_eq_some_iff.mp h4
        exact (setAt_size h6).trans ((setAt_size h5).trans e1)
      · exact (setAt_size h4).trans e1
  · cases h2; exact e1
theorem store_size {l l' : Array Slot} {i : Nat} {v : Value} (h : storeLocals l i v = some l') : l'.size = l.size := by
  simp only [storeLocals, Option.bind_eq_bind, Option.bind_eq_some_iff] at h
  obtain ⟨x, h1, h2⟩ := h
  cases x with
  | unset => exact storeSelf_size h2
  | second =>
    obtain ⟨y, h3, h4⟩ := Option.bind_eq_some_iff.mp h2
    exact (storeSelf_size h4).trans (setAt_size h3)
  | val old =>
    dsimp only at h2
    split at h2
    · obtain ⟨y, h3, h4⟩ := Option.bind_eq_some_iff.mp h2
      exact (storeSelf_size h4).trans (setAt_size h3)
    · exact storeSelf_size h2
/-- a variable that may be written over by a value of one word -/
def k1 (o : Slot) : Prop := o = .unset ∨ ∃ w, o = .val w ∧ w.category = 1
def k2 (o o2 : Slot) : Prop := (o = .unset ∧ o2 = .unset) ∨ ∃ u, o = .val (.long u) ∧ o2 = .second
theorem setAt_l {L : List Slot} {k : Nat} {x : Slot} (h : k < L.length) : setAt L.toArray k x = some (L.set k x).toArray := by simp [setAt, h]
theorem get_l {L : List Slot} {k : Nat} {o : Slot} (h : L[k]? = some o) : L.toArray[k]? = some o := by rw [List.getElem?_toArray]; exact h
theorem store_u {L : List Slot} {k : Nat} {v : Value} (h : L[k]? = some .unset) : storeLocals L.toArray k v = storeSelf L.toArray k v := by
  simp only [storeLocals, Option.bind_eq_bind, get_l h, Option.bind_some]
theorem store_1 {L : List Slot} {k : Nat} {v w : Value} (h : L[k]? = some (.val w)) (hw : w.category = 1) : storeLocals L.toArray k v = storeSelf L.toArray k v := by
  simp only [storeLocals, Option.bind_eq_bind, get_l h, Option.bind_some]
  rw [if_neg (by rw [hw]; decide)]
theorem store_k {L : List Slot} {k : Nat} {v : Value} {o : Slot} (h : L[k]? = some o) (ho : k1 o) : storeLocals L.toArray k v = storeSelf L.toArray k v := by
  rcases ho with rfl | ⟨w, rfl, hw⟩
  · exact store_u h
  · exact store_1 h hw
theorem store_2 {L : List Slot} {k : Nat} {v w : Value} (h : L[k]? = some (.val w)) (hw : w.category = 2) (l2 : k + 1 < L.length) : storeLocals L.toArray k v = storeSelf (L.set (k + 1) .unset).toArray k v := by
  simp only [storeLocals, Option.bind_eq_bind, get_l h, Option.bind_some]
  rw [if_pos hw, setAt_l l2, Option.bind_some]
theorem self_1 {L : List Slot} {k : Nat} {v : Value} (hv : v.category = 1) (l : k < L.length) : storeSelf L.toArray k v = some (L.set k (.val v)).toArray := by
  simp only [storeSelf, Option.bind_eq_bind, setAt_l l, Option.bind_some]
  rw [if_neg (by rw [hv]; decide)]
theorem self_2 {L : List Slot} {k : Nat} {v : Value} {o : Slot} (hv : v.category = 2) (h : L[k + 1]? = some o) (ho : k1 o ∨ o = .second) (l : k < L.length) : storeSelf L.toArray k v = some ((L.set k (.val v)).set (k + 1) .second).toArray := by
  have l2 := (List.getElem?_eq_some_iff.mp h).1
  have e2 : (L.set k (.val v))[k + 1]? = some o := by rw [List.getElem?_set_ne (by omega)]; exact h
  simp only [storeSelf, Option.bind_eq_bind, setAt_l l, Option.bind_some]
  rw [if_pos hv, get_l e2, Option.bind_some]
  rcases ho with (rfl | ⟨w, rfl, hw⟩) | rfl
  · exact setAt_l (by rw [List.length_set]; exact l2)
  · dsimp only
    rw [if_neg (by rw [hw]; decide)]
    exact setAt_l (by rw [List.length_set]; exact l2)
  · exact setAt_l (by rw [List.length_set]; exact l2)
theorem self_3 {L : List Slot} {k : Nat} {v w : Value} (hv : v.category = 2) (h : L[k + 1]? = some (.val w)) (hw : w.category = 2) (l3 : k + 2 < L.length) (l : k < L.length) : storeSelf L.toArray k v = some (((L.set k (.val v)).set (k + 2) .unset).set (k + 1) .second).toArray := by
  have l2 := (List.getElem?_eq_some_iff.mp h).1
  have e2 : (L.set k (.val v))[k + 1]? = some (.val w) := by rw [List.getElem?_set_ne (by omega)]; exact h
  simp only [storeSelf, Option.bind_eq_bind, setAt_l l, Option.bind_some]
  rw [if_pos hv, get_l e2, Option.bind_some]
  dsimp only
  rw [if_pos hw, setAt_l (by rw [List.length_set]; exact l3), Option.bind_some, setAt_l (by rw [List.length_set, List.length_set]; exact l2)]
theorem stx {L : List Slot} {k : Nat} {o : Slot} {v : Value} (h : L[k]? = some o) (ho : k1 o) (hv : v.category = 1) : storeLocals L.toArray k v = some (L.set k (.val v)).toArray := by
  rw [store_k h ho, self_1 hv (List.getElem?_eq_some_iff.mp h).1]
theorem stx3 {L : List Slot} {k : Nat} {o o2 : Slot} {u : Int64} (h : L[k]? = some o) (h2 : L[k + 1]? = some o2) (ho : k1 o) (ho2 : k1 o2) : storeLocals L.toArray k (.long u) = some ((L.set k (.val (.long u))).set (k + 1) .second).toArray := by
  rw [store_k h ho, self_2 rfl h2 (Or.inl ho2) (List.getElem?_eq_some_iff.mp h).1]
theorem stx2 {L : List Slot} {k : Nat} {o o2 : Slot} {u : Int64} (h : L[k]? = some o) (h2 : L[k + 1]? = some o2) (ho : k2 o o2) : storeLocals L.toArray k (.long u) = some ((L.set k (.val (.long u))).set (k + 1) .second).toArray := by
  have l1 := (List.getElem?_eq_some_iff.mp h).1
  have l2 := (List.getElem?_eq_some_iff.mp h2).1
  rcases ho with ⟨rfl, rfl⟩ | ⟨u', rfl, rfl⟩
  · exact stx3 h h2 (Or.inl rfl) (Or.inl rfl)
  · rw [store_2 h rfl l2, self_2 (o := .unset) rfl (by rw [List.getElem?_set_self l2]) (Or.inl (Or.inl rfl)) (by rw [List.length_set]; exact l1)]
    rw [List.set_comm _ _ (show k + 1 ≠ k by omega), List.set_set]
theorem stx4 {L : List Slot} {k : Nat} {o2 : Slot} {w : Int64} {v : Value} (h : L[k]? = some (.val (.long w))) (h2 : L[k + 1]? = some o2) (hv : v.category = 1) : storeLocals L.toArray k v = some ((L.set (k + 1) .unset).set k (.val v)).toArray := by
  rw [store_2 h rfl (List.getElem?_eq_some_iff.mp h2).1, self_1 hv (by rw [List.length_set]; exact (List.getElem?_eq_some_iff.mp h).1)]
theorem stx5 {L : List Slot} {k : Nat} {o o3 : Slot} {w u : Int64} (h : L[k]? = some o) (ho : k1 o) (h2 : L[k + 1]? = some (.val (.long w))) (h3 : L[k + 2]? = some o3) : storeLocals L.toArray k (.long u) = some (((L.set k (.val (.long u))).set (k + 2) .unset).set (k + 1) .second).toArray := by
  rw [store_k h ho, self_3 rfl h2 rfl (List.getElem?_eq_some_iff.mp h3).1 (List.getElem?_eq_some_iff.mp h).1]
/-- a tail of dead variables -/
def wtf : Slot ⊕ Int64 → List Slot
  | .inl x => [x]
  | .inr u => [.val (.long u), .second]
def WT (D : List Slot) : Prop := ∃ l : List (Slot ⊕ Int64), D = l.flatMap wtf ∧ ∀ x, Sum.inl x ∈ l → k1 x
theorem wt0 : WT [] := ⟨[], rfl, fun _ h => nomatch h⟩
theorem wt1 {x : Slot} {D : List Slot} (h : k1 x) (W : WT D) : WT (x :: D) := by
  obtain ⟨l, rfl, g⟩ := W
  refine ⟨.inl x :: l, by simp [wtf], fun y hy => ?_⟩
  rcases List.mem_cons.mp hy with e | e
  · cases e; exact h
  · exact g y e
theorem wt2 {u : Int64} {D : List Slot} (W : WT D) : WT (.val (.long u) :: .second :: D) := by
  obtain ⟨l, rfl, g⟩ := W
  refine ⟨.inr u :: l, by simp [wtf], fun y hy => ?_⟩
  rcases List.mem_cons.mp hy with e | e
  · cases e
  · exact g y e
theorem wt12 {x y : Slot} {D : List Slot} (h : k2 x y) (W : WT D) : WT (x :: y :: D) := by
  rcases h with ⟨rfl, rfl⟩ | ⟨u, rfl, rfl⟩
  · exact wt1 (Or.inl rfl) (wt1 (Or.inl rfl) W)
  · exact wt2 W
theorem wt_cases {D : List Slot} (W : WT D) : D = [] ∨ (∃ x E, D = x :: E ∧ k1 x ∧ WT E) ∨ ∃ u E, D = .val (.long u) :: .second :: E ∧ WT E := by
  obtain ⟨l, rfl, g⟩ := W
  match l, g with
  | [], _ => exact Or.inl rfl
  | .inl x :: r, g => exact Or.inr (Or.inl ⟨x, r.flatMap wtf, by simp [wtf], g x (List.mem_cons_self ..), r, rfl, fun y hy => g y (List.mem_cons_of_mem _ hy)⟩)
  | .inr u :: r, g => exact Or.inr (Or.inr ⟨u, r.flatMap wtf, by simp [wtf], r, rfl, fun y hy => g y (List.mem_cons_of_mem _ hy)⟩)
theorem stT {L0 D : List Slot} {v : Value} {n : Nat} (W : WT D) (hl : D.length = n + 1) (hv : v.category = 1) : ∃ D', WT D' ∧ D'.length = n ∧ storeLocals (L0 ++ D).toArray L0.length v = some (L0 ++ ([.val v] : List Slot) ++ D').toArray := by
  rcases wt_cases W with rfl | ⟨x, E, rfl, hx, WE⟩ | ⟨u, E, rfl, WE⟩
  · simp at hl
  · refine ⟨E, WE, by simpa using hl, ?_⟩
    rw [stx (o := x) (by simp) hx hv]; simp
  · refine ⟨.unset :: E, wt1 (Or.inl rfl) WE, by simpa using hl, ?_⟩
    rw [stx4 (w := u) (o2 := .second) (by simp) (by rw [List.getElem?_append_right (by omega)]; simp) hv]
    simp [List.set_append]
theorem stT2 {L0 D : List Slot} {u : Int64} {n : Nat} (W : WT D) (hl : D.length = n + 2) : ∃ D', WT D' ∧ D'.length = n ∧ storeLocals (L0 ++ D).toArray L0.length (.long u) = some (L0 ++ ([.val (.long u), .second] : List Slot) ++ D').toArray := by
  rcases wt_cases W with rfl | ⟨x, E, rfl, hx, WE⟩ | ⟨w, E, rfl, WE⟩
  · simp at hl
  · rcases wt_cases WE with rfl | ⟨y, F, rfl, hy, WF⟩ | ⟨w, F, rfl, WF⟩
    · simp at hl
    · refine ⟨F, WF, by simpa using hl, ?_⟩
      rw [stx3 (o := x) (o2 := y) (by simp) (by rw [List.getElem?_append_right (by omega)]; simp) hx hy]
      simp [List.set_append]
    · refine ⟨.unset :: F, wt1 (Or.inl rfl) WF, by simpa using hl, ?_⟩
      rw [stx5 (o := x) (w := w) (o3 := .second) (by simp) hx (by rw [List.getElem?_append_right (by omega)]; simp) (by rw [List.getElem?_append_right (by omega)]; simp)]
      simp [List.set_append]
  · refine ⟨E, WE, by simpa using hl, ?_⟩
    rw [stx2 (o := .val (.long w)) (o2 := .second) (by simp) (by rw [List.getElem?_append_right (by omega)]; simp) (Or.inr ⟨w, rfl, rfl⟩)]
    simp [List.set_append]
/-- the variables at a method's entry -/
def argL : List Value → List Slot
  | [] => []
  | v :: r => if v.category = 2 then .val v :: .second :: argL r else .val v :: argL r
def entryL (as : List Value) (n : Nat) : List Slot := argL as ++ List.replicate (n - (argL as).length) .unset
theorem argL_fold : ∀ (as : List Value) (acc : List Slot), as.foldl (fun acc v => if v.category = 2 then (acc.push (.val v)).push .second else acc.push (.val v)) acc.toArray = (acc ++ argL as).toArray
  | [], acc => by simp [argL]
  | v :: r, acc => by
    simp only [List.foldl_cons, argL]
    split
    · rename_i q
      rw [show ((acc.toArray.push (Slot.val v)).push Slot.second) = (acc ++ [Slot.val v, Slot.second]).toArray by simp, argL_fold r]
      simp
    · rename_i q
      rw [show (acc.toArray.push (Slot.val v)) = (acc ++ [Slot.val v]).toArray by simp, argL_fold r]
      simp
theorem argL_map (α b : Nat) : ∀ as : List Value, argL (cV α b as) = (argL as).map (cs α b)
  | [] => rfl
  | v :: r => by
    have ih := argL_map α b r
    simp only [cV, List.map_cons, argL, con_cat] at ih ⊢
    split <;> simp [ih, cs]
theorem entry_locals (α b : Nat) (as : List Value) (n : Nat) : argsToLocals (cV α b as).toArray n = cL α b (entryL as n) := by
  have h := argL_fold (cV α b as) []
  simp only [List.nil_append] at h
  have h' : (cV α b as).toArray.foldl (fun acc v => if v.category = 2 then (acc.push (Slot.val v)).push Slot.second else acc.push (Slot.val v)) #[] = (argL (cV α b as)).toArray := by
    rw [← h]; simp
  simp only [argsToLocals]
  rw [h', argL_map]
  simp [cL, entryL, List.map_append, cs]
/-! ## 3. What the heap shows -/
def scV (ty : FieldType) (s : S) (f : Nat) : Value := match ty with
  | .long => .long (gL s f)
  | _ => .int (gI s f)
def arV (ty : FieldType) (s : S) (q : Nat) : List Value := match ty with
  | .long => (gB s q).map .long
  | _ => (gA s q).map .int
def Ar (Z : State) (h : Heap) (a : Nat) (ty : FieldType) (vs : List Value) : Prop := ∃ c : Cell, Arr Z h a c ty ∧ c.slots = vs.toArray
def Rep1 (Z : State) (ci : CI) (h : Heap) (b : Nat) (o : Nat × S) : Prop :=
  Exa Z h b (cN ci) ∧ (∀ f x, (cS ci)[f]? = some x → Fld Z h b (cN ci) x.1 x.2.1 (scV x.2.2 o.2 f)) ∧
  (∀ q x, (cA ci)[q]? = some x → Fld Z h b (cN ci) x.1 x.2.1 (if q < o.1 then .ref (b + 1 + q) else .null)) ∧
  (∀ q x, (cA ci)[q]? = some x → q < o.1 → Ar Z h (b + 1 + q) x.2.2.1 (arV x.2.2.1 o.2 q))
def RepW (Z : State) (ci : CI) (α b : Nat) (w : W) (h : Heap) : Prop :=
  (∀ l, w.1 = some l → Ar Z h α .int (l.map .int) ∧ α < b) ∧ ∀ i o, w.2[i]? = some o → Rep1 Z ci h (b + (cK ci + 1) * i) o
def Frm (lo hi : Nat) (h0 h : Heap) : Prop := ∀ (x : Nat) (c : Cell), h0[x]? = some c → (x < lo ∨ hi ≤ x) → h[x]? = some c
def usedC (w : W) : Nat := (w.2.map fun o => 1 + o.1).sum
def usedS (ci : CI) (w : W) : Nat := (w.2.map fun o => cF ci + (((cA ci).take o.1).map fun x => x.2.2.2).sum).sum
/-- what the sheet says of the class -/
def Facts (Z : State) (a0 : Array Value) (ci : CI) : Prop :=
  (Jvm.Cond.instantiable (cN ci) (cF ci)).before a0 Z = true ∧ (Jvm.Cond.initialized (cN ci)).before a0 Z = true ∧
  (∀ (f : Nat) (x : String × String × FieldType), (cS ci)[f]? = some x → Laid Z a0 (cN ci) (cN ci) x.1 x.2.1 ∧ parseFieldDescriptor x.2.1 = some x.2.2) ∧
  (∀ (q : Nat) (x : String × String × FieldType × Nat), (cA ci)[q]? = some x → Laid Z a0 (cN ci) (cN ci) x.1 x.2.1 ∧ parseFieldDescriptor x.2.1 = some (.array x.2.2.1)) ∧
  ((cS ci).map (fun x => x.1) ++ (cA ci).map (fun x => x.1)).Nodup ∧ (∀ f x, (cS ci)[f]? = some x → defaultValue x.2.2 = scV x.2.2 s0 f) ∧ (cN ci ≠ "java/lang/invoke/MethodHandle" ∧ cN ci ≠ "java/lang/invoke/VarHandle")
theorem nq {a b : Nat} (h : a ≠ b) : @Ne Addr a b := h
theorem Ar.frm {Z : State} {h h' : Heap} {a : Nat} {ty : FieldType} {vs : List Value} (A : Ar Z h a ty vs) (k : ∀ c, h[a]? = some c → h'[a]? = some c) : Ar Z h' a ty vs := by
  obtain ⟨c, ⟨q1, q2⟩, q3⟩ := A; exact ⟨c, ⟨k c q1, q2⟩, q3⟩
theorem fld_frm {Z : State} {h h' : Heap} {a : Nat} {C n d : String} {v : Value} (F : Fld Z h a C n d v) (k : ∀ c, h[a]? = some c → h'[a]? = some c) : Fld Z h' a C n d v := by
  obtain ⟨cell, cf, kc, i, f, h1, r⟩ := F; exact ⟨cell, cf, kc, i, f, k _ h1, r⟩
theorem exa_frm {Z : State} {h h' : Heap} {a : Nat} {C : String} (F : Exa Z h a C) (k : ∀ c, h[a]? = some c → h'[a]? = some c) : Exa Z h' a C := by
  obtain ⟨cell, kc, h1, r⟩ := F; exact ⟨cell, kc, k _ h1, r⟩
theorem get_lt {A : Type} {l : List A} {i : Nat} {x : A} (h : l[i]? = some x) : i < l.length := (List.getElem?_eq_some_iff.mp h).1
theorem Rep1.frm {Z : State} {ci : CI} {h h' : Heap} {b : Nat} {o : Nat × S} (F : Rep1 Z ci h b o) (k : ∀ x c, b ≤ x → x < b + (cK ci + 1) → h[x]? = some c → h'[x]? = some c) : Rep1 Z ci h' b o := by
  obtain ⟨f1, f2, f3, f4⟩ := F
  refine ⟨exa_frm f1 fun c => k b c (Nat.le_refl _) (by omega), fun f x hx => fld_frm (f2 f x hx) fun c => k b c (Nat.le_refl _) (by omega), fun q x hx => fld_frm (f3 q x hx) fun c => k b c (Nat.le_refl _) (by omega), fun q x hx hq => (f4 q x hx hq).frm fun c => k _ c (by omega) ?_⟩
  have := get_lt hx
  simp only [cK]; omega
theorem RepW.ext {Z : State} {ci : CI} {α b : Nat} {w : W} {h h' : Heap} (F : RepW Z ci α b w h) (E : Ext h h') : RepW Z ci α b w h' :=
  ⟨fun l hl => ⟨((F.1 l hl).1).frm fun c q => E.2 _ _ q, (F.1 l hl).2⟩, fun i o ho => (F.2 i o ho).frm fun x c _ _ q => E.2 _ _ q⟩
theorem Frm.refl (lo hi : Nat) (h : Heap) : Frm lo hi h h := fun _ _ q _ => q
theorem Frm.trans {lo hi : Nat} {h0 h1 h2 : Heap} (A : Frm lo hi h0 h1) (B : Frm lo hi h1 h2) : Frm lo hi h0 h2 := fun x c q r => B x c (A x c q r) r
theorem Frm.wide {lo hi lo' hi' : Nat} {h0 h1 : Heap} (A : Frm lo hi h0 h1) (q1 : lo' ≤ lo) (q2 : hi ≤ hi') : Frm lo' hi' h0 h1 := fun x c q r => A x c q (by omega)
theorem Frm.ext {lo hi : Nat} {h0 h1 h2 : Heap} (A : Frm lo hi h0 h1) (E : Ext h1 h2) : Frm lo hi h0 h2 := fun x c q r => E.2 _ _ (A x c q r)
theorem Frm.wr {lo hi : Nat} {h0 h1 h2 : Heap} {a : Nat} {sl : Nat} {v : Value} (A : Frm lo hi h0 h1) (Wt : Wr h1 h2 a sl v) (q1 : lo ≤ a) (q2 : a < hi) : Frm lo hi h0 h2 := fun x c q r => by
  have q3 := A x c q r
  obtain ⟨c', e1, -, -, -, e5, -⟩ := wr_at Wt q3
  have : x ≠ a := by omega
  rw [← e5 this]; exact e1
/-! ## 4. The walk -/
def Ok (P : PI) (M : Meth) (Z : State) (a0 : Array Value) (p : Program) (R : Room) (s : State) (m : MethodId) (meth : Method) (c : Code) (b n0 : Nat) (h0 : Heap) (uC uS : Nat) : Prop :=
  (∀ d ∈ P.1, d.before a0 Z = true) ∧ Facts Z a0 P.2 ∧ p.tables.exec = Jvm.exec ∧ Z.Warmed39 s.vm ∧ s.vm.findClass (mY M).cls = some m.cls ∧ c.code = mB M ∧ c.maxLocals = mL M ∧ meth.sig.returnType = mT M ∧ meth.name = (mY M).name ∧ R = mR M ∧ n0 ≤ b ∧
  (mTop M = true → h0.size = b + uC ∧ uC = mUC M ∧ uS = mUS M) ∧ s.heap.size = h0.size
def Inv (P : PI) (M : Meth) (l : Launch) (Z : State) (p : Program) (e : Env) (R : Room) (s : State) (m : MethodId) (args : Array Value) (below : List Frame) (meth : Method) (c : Code) (α b n0 : Nat) (h0 : Heap) (uC uS : Nat) (w : W) (T : State) (locs : List Loc) (cells slots : Nat) : Prop :=
  Stand p l e R s m args below meth c T locs cells slots ∧ RepW Z P.2 α b w T.heap ∧ Frm b (b + (cK P.2 + 1) * mN M) h0 T.heap ∧ Fr n0 locs ∧ T.heap.size = h0.size + cells ∧ cells + uC = usedC w ∧ slots + uS = usedS P.2 w ∧ cells ≤ R.cells ∧ slots ≤ R.slots ∧ w.2.length ≤ mN M
def Lv (e : Env) (T : State) (m : MethodId) (r : Option Value) (fs : List Frame) : Prop := ∀ (f : JFrame) (acts : List Action), f.method = m → f.locked = none → f.entered = [] → (doReturn e (T.setTop f) acts r).1 = T.setFrames fs
/-- from here the invocation comes to its end, with this value and this world -/
def Go (P : PI) (M : Meth) (pc : Nat) (L : List Slot) (st : List Value) (w : W) (out : Option Value × W) : Prop :=
  L.length = mL M → ∀ (l : Launch) (Z : State) (a0 : Array Value) (p : Program) (e : Env) (R : Room) (s : State) (m : MethodId) (args : Array Value) (below : List Frame) (meth : Method) (c : Code) (α b n0 : Nat) (h0 : Heap) (uC uS : Nat),
    Ok P M Z a0 p R s m meth c b n0 h0 uC uS → ∀ (T : State) (locs : List Loc) (cells slots : Nat), Inv P M l Z p e R s m args below meth c α b n0 h0 uC uS w T locs cells slots →
    ∃ (T' : State) (locs' : List Loc) (cells' slots' : Nat), Inv P M l Z p e R s m args below meth c α b n0 h0 uC uS out.2 T' locs' cells' slots' ∧
      ∀ fs, Lv e T' m (out.1.map (con α b)) fs → Steps p.tables e below (T.setTop (mkF m pc (cL α b L) (cV α b st))) (T'.setFrames fs)
section Rules
variable {P : PI} {M : Meth} {pc pc' : Nat} {L L' : List Slot} {st st' : List Value} {w w' : W} {out : Option Value × W} {x y z v : Int32} {u r : Int64}
theorem go_mv (hL : L.length = mL M → L'.length = mL M)
    (H : ∀ {p : Program} {e : Env} {below : List Frame} {T target : State} {m : MethodId} {c : Code}, At T m c below → p.tables.exec = Jvm.exec → c.code = mB M → ∀ α b : Nat, Steps p.tables e below (T.setTop (mkF m pc' (cL α b L') (cV α b st'))) target → Steps p.tables e below (T.setTop (mkF m pc (cL α b L) (cV α b st))) target)
    (k : Go P M pc' L' st' w out) : Go P M pc L st w out := by
  intro hl l Z a0 p e R s m args below meth c α b n0 h0 uC uS ok T locs cells slots I
  obtain ⟨T', l', c', n', I', fin⟩ := k (hL hl) l Z a0 p e R s m args below meth c α b n0 h0 uC uS ok T locs cells slots I
  exact ⟨T', l', c', n', I', fun fs hv => H I.1.here ok.2.2.1 ok.2.2.2.2.2.1 α b (fin fs hv)⟩
theorem go_ch (H : ∀ (l : Launch) (Z : State) (a0 : Array Value) (p : Program) (e : Env) (R : Room) (s : State) (m : MethodId) (args : Array Value) (below : List Frame) (meth : Method) (c : Code) (α b n0 : Nat) (h0 : Heap) (uC uS : Nat),
      Ok P M Z a0 p R s m meth c b n0 h0 uC uS → L.length = mL M → ∀ (T : State) (locs : List Loc) (cells slots : Nat), Inv P M l Z p e R s m args below meth c α b n0 h0 uC uS w T locs cells slots →
      ∃ (T' : State) (locs' : List Loc) (cells' slots' : Nat), Inv P M l Z p e R s m args below meth c α b n0 h0 uC uS w' T' locs' cells' slots' ∧
        ∀ target, Steps p.tables e below (T'.setTop (mkF m pc' (cL α b L) (cV α b st'))) target → Steps p.tables e below (T.setTop (mkF m pc (cL α b L) (cV α b st))) target)
    (k : Go P M pc' L st' w' out) : Go P M pc L st w out := by
  intro hl l Z a0 p e R s m args below meth c α b n0 h0 uC uS ok T locs cells slots I
  obtain ⟨T1, l1, c1, n1, I1, h1⟩ := H l Z a0 p e R s m args below meth c α b n0 h0 uC uS ok hl T locs cells slots I
  obtain ⟨T', l', c', n', I', fin⟩ := k hl l Z a0 p e R s m args below meth c α b n0 h0 uC uS ok T1 l1 c1 n1 I1
  exact ⟨T', l', c', n', I', fun fs hv => h1 _ (fin fs hv)⟩
/-! ### loads, stores, constants -/
theorem go_iloadN {k : Fin 4} (d : decode (mB M) pc = .ok (.iload_n k, 1)) (hl : L[k.val]? = some (.val (.int v))) (g : Go P M (pc + 1) L (.int v :: st) w out) : Go P M pc L (st) w out :=
  go_mv id (fun h hx hc α b r => XS.iloadN (g := mkF _ pc (cL α b L) (cV α b (st))) h hx rfl (hb hc d) (cL_get hl) r) g
theorem go_iload {k : Nat} (d : decode (mB M) pc = .ok (.iload k, 2)) (hl : L[k]? = some (.val (.int v))) (g : Go P M (pc + 2) L (.int v :: st) w out) : Go P M pc L (st) w out :=
  go_mv id (fun h hx hc α b r => XS.iload (g := mkF _ pc (cL α b L) (cV α b (st))) h hx rfl (hb hc d) (cL_get hl) r) g
theorem go_lloadN {k : Fin 4} (d : decode (mB M) pc = .ok (.lload_n k, 1)) (hl : L[k.val]? = some (.val (.long u))) (g : Go P M (pc + 1) L (.long u :: st) w out) : Go P M pc L (st) w out :=
  go_mv id (fun h hx hc α b r => XT.lloadN (g := mkF _ pc (cL α b L) (cV α b (st))) h hx rfl (hb hc d) (cL_get hl) r) g
theorem go_lload {k : Nat} (d : decode (mB M) pc = .ok (.lload k, 2)) (hl : L[k]? = some (.val (.long u))) (g : Go P M (pc + 2) L (.long u :: st) w out) : Go P M pc L (st) w out :=
  go_mv id (fun h hx hc α b r => XT.lload (g := mkF _ pc (cL α b L) (cV α b (st))) h hx rfl (hb hc d) (cL_get hl) r) g
theorem go_aloadN {k : Fin 4} {a : Nat} (d : decode (mB M) pc = .ok (.aload_n k, 1)) (hl : L[k.val]? = some (.val (.ref a))) (g : Go P M (pc + 1) L (.ref a :: st) w out) : Go P M pc L (st) w out :=
  go_mv id (fun h hx hc α b r => XS.aloadN (g := mkF _ pc (cL α b L) (cV α b (st))) h hx rfl (hb hc d) (cL_get hl) (con_ref α b (.ref a)) r) g
theorem go_aload {k : Nat} {a : Nat} (d : decode (mB M) pc = .ok (.aload k, 2)) (hl : L[k]? = some (.val (.ref a))) (g : Go P M (pc + 2) L (.ref a :: st) w out) : Go P M pc L (st) w out :=
  go_mv id (fun h hx hc α b r => XS.aload (g := mkF _ pc (cL α b L) (cV α b (st))) h hx rfl (hb hc d) (cL_get hl) (con_ref α b (.ref a)) r) g
theorem go_istoreN {k : Fin 4} (d : decode (mB M) pc = .ok (.istore_n k, 1)) (hl : storeLocals L.toArray k.val (.int x) = some L'.toArray) (g : Go P M (pc + 1) L' (st) w out) : Go P M pc L (.int x :: st) w out :=
  go_mv (fun q => by have := store_size hl; simp at this; omega) (fun h hx hc α b r => XS.istoreN (g := mkF _ pc (cL α b L) (cV α b (.int x :: st))) h hx rfl (hb hc d) rfl (storeC hl) r) g
theorem go_istore {k : Nat} (d : decode (mB M) pc = .ok (.istore k, 2)) (hl : storeLocals L.toArray k (.int x) = some L'.toArray) (g : Go P M (pc + 2) L' (st) w out) : Go P M pc L (.int x :: st) w out :=
  go_mv (fun q => by have := store_size hl; simp at this; omega) (fun h hx hc α b r => XS.istore (g := mkF _ pc (cL α b L) (cV α b (.int x :: st))) h hx rfl (hb hc d) rfl (storeC hl) r) g
theorem go_lstoreN {k : Fin 4} (d : decode (mB M) pc = .ok (.lstore_n k, 1)) (hl : storeLocals L.toArray k.val (.long u) = some L'.toArray) (g : Go P M (pc + 1) L' (st) w out) : Go P M pc L (.long u :: st) w out :=
  go_mv (fun q => by have := store_size hl; simp at this; omega) (fun h hx hc α b r => XT.lstoreN (g := mkF _ pc (cL α b L) (cV α b (.long u :: st))) h hx rfl (hb hc d) rfl (storeC hl) r) g
theorem go_lstore {k : Nat} (d : decode (mB M) pc = .ok (.lstore k, 2)) (hl : storeLocals L.toArray k (.long u) = some L'.toArray) (g : Go P M (pc + 2) L' (st) w out) : Go P M pc L (.long u :: st) w out :=
  go_mv (fun q => by have := store_size hl; simp at this; omega) (fun h hx hc α b r => XT.lstore (g := mkF _ pc (cL α b L) (cV α b (.long u :: st))) h hx rfl (hb hc d) rfl (storeC hl) r) g
theorem go_astoreN {k : Fin 4} {a : Nat} (d : decode (mB M) pc = .ok (.astore_n k, 1)) (hl : storeLocals L.toArray k.val (.ref a) = some L'.toArray) (g : Go P M (pc + 1) L' (st) w out) : Go P M pc L (.ref a :: st) w out :=
  go_mv (fun q => by have := store_size hl; simp at this; omega) (fun h hx hc α b r => XS.astoreN (g := mkF _ pc (cL α b L) (cV α b (.ref a :: st))) h hx rfl (hb hc d) rfl (con_ref α b (.ref a)) (storeC hl) r) g
theorem go_astore {k : Nat} {a : Nat} (d : decode (mB M) pc = .ok (.astore k, 2)) (hl : storeLocals L.toArray k (.ref a) = some L'.toArray) (g : Go P M (pc + 2) L' (st) w out) : Go P M pc L (.ref a :: st) w out :=
  go_mv (fun q => by have := store_size hl; simp at this; omega) (fun h hx hc α b r => XS.astore (g := mkF _ pc (cL α b L) (cV α b (.ref a :: st))) h hx rfl (hb hc d) rfl (con_ref α b (.ref a)) (storeC hl) r) g
theorem go_istoreNT {k : Fin 4} {L0 L1 D : List Slot} {n : Nat} (d : decode (mB M) pc = .ok (.istore_n k, 1)) (hk : k.val = L0.length) (h1 : L1 = L0 ++ [.val (.int x)]) (W : WT D) (hl : D.length = n + 1) (g : ∀ D', WT D' → D'.length = n → Go P M (pc + 1) (L1 ++ D') st w out) : Go P M pc (L0 ++ D) (.int x :: st) w out := by
  obtain ⟨D', W', l', e⟩ := stT (L0 := L0) (v := .int x) W hl rfl
  subst h1
  exact go_istoreN d (by rw [hk]; exact e) (g D' W' l')
theorem nilT {Q : List Slot → Prop} (g : Q []) : ∀ D', WT D' → D'.length = 0 → Q D' := fun D' _ l => by
  cases D' with
  | nil => exact g
  | cons => cases l
theorem go_istoreT {k : Nat} {L0 L1 D : List Slot} {n : Nat} (d : decode (mB M) pc = .ok (.istore k, 2)) (hk : k = L0.length) (h1 : L1 = L0 ++ [.val (.int x)]) (W : WT D) (hl : D.length = n + 1) (g : ∀ D', WT D' → D'.length = n → Go P M (pc + 2) (L1 ++ D') st w out) : Go P M pc (L0 ++ D) (.int x :: st) w out := by
  obtain ⟨D', W', l', e⟩ := stT (L0 := L0) (v := .int x) W hl rfl
  subst h1
  exact go_istore d (by rw [hk]; exact e) (g D' W' l')
theorem go_astoreNT {k : Fin 4} {L0 L1 D : List Slot} {n : Nat} {a : Nat} (d : decode (mB M) pc = .ok (.astore_n k, 1)) (hk : k.val = L0.length) (h1 : L1 = L0 ++ [.val (.ref a)]) (W : WT D) (hl : D.length = n + 1) (g : ∀ D', WT D' → D'.length = n → Go P M (pc + 1) (L1 ++ D') st w out) : Go P M pc (L0 ++ D) (.ref a :: st) w out := by
  obtain ⟨D', W', l', e⟩ := stT (L0 := L0) (v := .ref a) W hl rfl
  subst h1
  exact go_astoreN d (by rw [hk]; exact e) (g D' W' l')
theorem go_astoreT {k : Nat} {L0 L1 D : List Slot} {n : Nat} {a : Nat} (d : decode (mB M) pc = .ok (.astore k, 2)) (hk : k = L0.length) (h1 : L1 = L0 ++ [.val (.ref a)]) (W : WT D) (hl : D.length = n + 1) (g : ∀ D', WT D' → D'.length = n → Go P M (pc + 2) (L1 ++ D') st w out) : Go P M pc (L0 ++ D) (.ref a :: st) w out := by
  obtain ⟨D', W', l', e⟩ := stT (L0 := L0) (v := .ref a) W hl rfl
  subst h1
  exact go_astore d (by rw [hk]; exact e) (g D' W' l')
theorem go_lstoreNT {k : Fin 4} {L0 L1 D : List Slot} {n : Nat} (d : decode (mB M) pc = .ok (.lstore_n k, 1)) (hk : k.val = L0.length) (h1 : L1 = L0 ++ [.val (.long u), .second]) (W : WT D) (hl : D.length = n + 2) (g : ∀ D', WT D' → D'.length = n → Go P M (pc + 1) (L1 ++ D') st w out) : Go P M pc (L0 ++ D) (.long u :: st) w out := by
  obtain ⟨D', W', l', e⟩ := stT2 (L0 := L0) (u := u) W hl
  subst h1
  exact go_lstoreN d (by rw [hk]; exact e) (g D' W' l')
theorem go_lstoreT {k : Nat} {L0 L1 D : List Slot} {n : Nat} (d : decode (mB M) pc = .ok (.lstore k, 2)) (hk : k = L0.length) (h1 : L1 = L0 ++ [.val (.long u), .second]) (W : WT D) (hl : D.length = n + 2) (g : ∀ D', WT D' → D'.length = n → Go P M (pc + 2) (L1 ++ D') st w out) : Go P M pc (L0 ++ D) (.long u :: st) w out := by
  obtain ⟨D', W', l', e⟩ := stT2 (L0 := L0) (u := u) W hl
  subst h1
  exact go_lstore d (by rw [hk]; exact e) (g D' W' l')
theorem go_iconst {i : Int} (d : decode (mB M) pc = .ok (.iconst i, 1)) (hv : v = Int32.ofInt i) (g : Go P M (pc + 1) L (.int v :: st) w out) : Go P M pc L (st) w out :=
  go_mv id (fun h hx hc α b r => XS.iconst (g := mkF _ pc (cL α b L) (cV α b (st))) h hx rfl (hb hc d) (hv ▸ r)) g
theorem go_bipush {i : Int} (d : decode (mB M) pc = .ok (.bipush i, 2)) (hv : v = (Int8.ofInt i).toInt32) (g : Go P M (pc + 2) L (.int v :: st) w out) : Go P M pc L (st) w out :=
  go_mv id (fun h hx hc α b r => XS.bipush (g := mkF _ pc (cL α b L) (cV α b (st))) h hx rfl (hb hc d) (hv ▸ r)) g
theorem go_sipush {i : Int} (d : decode (mB M) pc = .ok (.sipush i, 3)) (hv : v = (Int16.ofInt i).toInt32) (g : Go P M (pc + 3) L (.int v :: st) w out) : Go P M pc L (st) w out :=
  go_mv id (fun h hx hc α b r => XS.sipush (g := mkF _ pc (cL α b L) (cV α b (st))) h hx rfl (hb hc d) (hv ▸ r)) g
theorem go_lconst {i : Fin 2} (d : decode (mB M) pc = .ok (.lconst i, 1)) (hv : u = Int64.ofNat i) (g : Go P M (pc + 1) L (.long u :: st) w out) : Go P M pc L (st) w out :=
  go_mv id (fun h hx hc α b r => XT.lconst (g := mkF _ pc (cL α b L) (cV α b (st))) h hx rfl (hb hc d) (hv ▸ r)) g
theorem go_dup  (d : decode (mB M) pc = .ok (.dup, 1))  (g : Go P M (pc + 1) L (.int x :: .int x :: st) w out) : Go P M pc L (.int x :: st) w out :=
  go_mv id (fun h hx hc α b r => XS.dup (g := mkF _ pc (cL α b L) (cV α b (.int x :: st))) h hx rfl (hb hc d) rfl rfl r) g
theorem go_dupR {a : Nat} (d : decode (mB M) pc = .ok (.dup, 1))  (g : Go P M (pc + 1) L (.ref a :: .ref a :: st) w out) : Go P M pc L (.ref a :: st) w out :=
  go_mv id (fun h hx hc α b r => XS.dup (g := mkF _ pc (cL α b L) (cV α b (.ref a :: st))) h hx rfl (hb hc d) rfl (con_cat α b (.ref a)) r) g
theorem go_dup2 {a : Nat} (d : decode (mB M) pc = .ok (.dup2, 1))  (g : Go P M (pc + 1) L (.int x :: .ref a :: .int x :: .ref a :: st) w out) : Go P M pc L (.int x :: .ref a :: st) w out :=
  go_mv id (fun h hx hc α b r => XT.dup2 (g := mkF _ pc (cL α b L) (cV α b (.int x :: .ref a :: st))) h hx rfl (hb hc d) rfl rfl (con_cat α b (.ref a)) r) g
theorem go_dup2I  (d : decode (mB M) pc = .ok (.dup2, 1))  (g : Go P M (pc + 1) L (.int x :: .int y :: .int x :: .int y :: st) w out) : Go P M pc L (.int x :: .int y :: st) w out :=
  go_mv id (fun h hx hc α b r => XT.dup2 (g := mkF _ pc (cL α b L) (cV α b (.int x :: .int y :: st))) h hx rfl (hb hc d) rfl rfl rfl r) g
theorem go_dup2L  (d : decode (mB M) pc = .ok (.dup2, 1))  (g : Go P M (pc + 1) L (.long u :: .long u :: st) w out) : Go P M pc L (.long u :: st) w out :=
  go_mv id (fun h hx hc α b r => XT.dup2L (g := mkF _ pc (cL α b L) (cV α b (.long u :: st))) h hx rfl (hb hc d) rfl r) g
theorem go_pop  (d : decode (mB M) pc = .ok (.pop, 1))  (g : Go P M (pc + 1) L (st) w out) : Go P M pc L (.int x :: st) w out :=
  go_mv id (fun h hx hc α b r => XT.pop (g := mkF _ pc (cL α b L) (cV α b (.int x :: st))) h hx rfl (hb hc d) rfl rfl r) g
theorem go_iadd  (d : decode (mB M) pc = .ok (.iadd, 1))  (g : Go P M (pc + 1) L (.int (x + y) :: st) w out) : Go P M pc L (.int y :: .int x :: st) w out :=
  go_mv id (fun h hx hc α b r => XS.iadd (g := mkF _ pc (cL α b L) (cV α b (.int y :: .int x :: st))) h hx rfl (hb hc d) rfl r) g
theorem go_isub  (d : decode (mB M) pc = .ok (.isub, 1))  (g : Go P M (pc + 1) L (.int (x - y) :: st) w out) : Go P M pc L (.int y :: .int x :: st) w out :=
  go_mv id (fun h hx hc α b r => XS.isub (g := mkF _ pc (cL α b L) (cV α b (.int y :: .int x :: st))) h hx rfl (hb hc d) rfl r) g
theorem go_imul  (d : decode (mB M) pc = .ok (.imul, 1))  (g : Go P M (pc + 1) L (.int (x * y) :: st) w out) : Go P M pc L (.int y :: .int x :: st) w out :=
  go_mv id (fun h hx hc α b r => XS.imul (g := mkF _ pc (cL α b L) (cV α b (.int y :: .int x :: st))) h hx rfl (hb hc d) rfl r) g
theorem go_iand  (d : decode (mB M) pc = .ok (.iand, 1))  (g : Go P M (pc + 1) L (.int (x &&& y) :: st) w out) : Go P M pc L (.int y :: .int x :: st) w out :=
  go_mv id (fun h hx hc α b r => XS.iand (g := mkF _ pc (cL α b L) (cV α b (.int y :: .int x :: st))) h hx rfl (hb hc d) rfl r) g
theorem go_ior  (d : decode (mB M) pc = .ok (.ior, 1))  (g : Go P M (pc + 1) L (.int (x ||| y) :: st) w out) : Go P M pc L (.int y :: .int x :: st) w out :=
  go_mv id (fun h hx hc α b r => XT.ior (g := mkF _ pc (cL α b L) (cV α b (.int y :: .int x :: st))) h hx rfl (hb hc d) rfl r) g
theorem go_ixor  (d : decode (mB M) pc = .ok (.ixor, 1))  (g : Go P M (pc + 1) L (.int (x ^^^ y) :: st) w out) : Go P M pc L (.int y :: .int x :: st) w out :=
  go_mv id (fun h hx hc α b r => XT.ixor (g := mkF _ pc (cL α b L) (cV α b (.int y :: .int x :: st))) h hx rfl (hb hc d) rfl r) g
theorem go_ishl  (d : decode (mB M) pc = .ok (.ishl, 1))  (g : Go P M (pc + 1) L (.int (x <<< (y &&& 31)) :: st) w out) : Go P M pc L (.int y :: .int x :: st) w out :=
  go_mv id (fun h hx hc α b r => XT.ishl (g := mkF _ pc (cL α b L) (cV α b (.int y :: .int x :: st))) h hx rfl (hb hc d) rfl r) g
theorem go_ishr  (d : decode (mB M) pc = .ok (.ishr, 1))  (g : Go P M (pc + 1) L (.int (x >>> (y &&& 31)) :: st) w out) : Go P M pc L (.int y :: .int x :: st) w out :=
  go_mv id (fun h hx hc α b r => XT.ishr (g := mkF _ pc (cL α b L) (cV α b (.int y :: .int x :: st))) h hx rfl (hb hc d) rfl r) g
theorem go_iushr  (d : decode (mB M) pc = .ok (.iushr, 1))  (g : Go P M (pc + 1) L (.int (XT.ushr x y) :: st) w out) : Go P M pc L (.int y :: .int x :: st) w out :=
  go_mv id (fun h hx hc α b r => XT.iushr (g := mkF _ pc (cL α b L) (cV α b (.int y :: .int x :: st))) h hx rfl (hb hc d) rfl r) g
theorem go_idiv  (d : decode (mB M) pc = .ok (.idiv, 1)) (hy : y ≠ 0) (g : Go P M (pc + 1) L (.int (x / y) :: st) w out) : Go P M pc L (.int y :: .int x :: st) w out :=
  go_mv id (fun h hx hc α b r => XS.idiv (g := mkF _ pc (cL α b L) (cV α b (.int y :: .int x :: st))) h hx rfl (hb hc d) rfl hy r) g
theorem go_irem  (d : decode (mB M) pc = .ok (.irem, 1)) (hy : y ≠ 0) (g : Go P M (pc + 1) L (.int (x % y) :: st) w out) : Go P M pc L (.int y :: .int x :: st) w out :=
  go_mv id (fun h hx hc α b r => XS.irem (g := mkF _ pc (cL α b L) (cV α b (.int y :: .int x :: st))) h hx rfl (hb hc d) rfl hy (by rw [irem_eq_mod x y]; exact r)) g
theorem go_ineg  (d : decode (mB M) pc = .ok (.ineg, 1))  (g : Go P M (pc + 1) L (.int (-x) :: st) w out) : Go P M pc L (.int x :: st) w out :=
  go_mv id (fun h hx hc α b r => XS.ineg (g := mkF _ pc (cL α b L) (cV α b (.int x :: st))) h hx rfl (hb hc d) rfl r) g
theorem go_ladd  (d : decode (mB M) pc = .ok (.ladd, 1))  (g : Go P M (pc + 1) L (.long (u + r) :: st) w out) : Go P M pc L (.long r :: .long u :: st) w out :=
  go_mv id (fun h hx hc α b k => XT.ladd (g := mkF _ pc (cL α b L) (cV α b (.long r :: .long u :: st))) h hx rfl (hb hc d) rfl k) g
theorem go_lsub  (d : decode (mB M) pc = .ok (.lsub, 1))  (g : Go P M (pc + 1) L (.long (u - r) :: st) w out) : Go P M pc L (.long r :: .long u :: st) w out :=
  go_mv id (fun h hx hc α b k => XT.lsub (g := mkF _ pc (cL α b L) (cV α b (.long r :: .long u :: st))) h hx rfl (hb hc d) rfl k) g
theorem go_lmul  (d : decode (mB M) pc = .ok (.lmul, 1))  (g : Go P M (pc + 1) L (.long (u * r) :: st) w out) : Go P M pc L (.long r :: .long u :: st) w out :=
  go_mv id (fun h hx hc α b k => XT.lmul (g := mkF _ pc (cL α b L) (cV α b (.long r :: .long u :: st))) h hx rfl (hb hc d) rfl k) g
theorem go_land  (d : decode (mB M) pc = .ok (.land, 1))  (g : Go P M (pc + 1) L (.long (u &&& r) :: st) w out) : Go P M pc L (.long r :: .long u :: st) w out :=
  go_mv id (fun h hx hc α b k => XT.land (g := mkF _ pc (cL α b L) (cV α b (.long r :: .long u :: st))) h hx rfl (hb hc d) rfl k) g
theorem go_lor  (d : decode (mB M) pc = .ok (.lor, 1))  (g : Go P M (pc + 1) L (.long (u ||| r) :: st) w out) : Go P M pc L (.long r :: .long u :: st) w out :=
  go_mv id (fun h hx hc α b k => XT.lor (g := mkF _ pc (cL α b L) (cV α b (.long r :: .long u :: st))) h hx rfl (hb hc d) rfl k) g
theorem go_lxor  (d : decode (mB M) pc = .ok (.lxor, 1))  (g : Go P M (pc + 1) L (.long (u ^^^ r) :: st) w out) : Go P M pc L (.long r :: .long u :: st) w out :=
  go_mv id (fun h hx hc α b k => XT.lxor (g := mkF _ pc (cL α b L) (cV α b (.long r :: .long u :: st))) h hx rfl (hb hc d) rfl k) g
theorem go_lshl  (d : decode (mB M) pc = .ok (.lshl, 1))  (g : Go P M (pc + 1) L (.long (u <<< (y.toInt64 &&& 63)) :: st) w out) : Go P M pc L (.int y :: .long u :: st) w out :=
  go_mv id (fun h hx hc α b r => XT.lshl (g := mkF _ pc (cL α b L) (cV α b (.int y :: .long u :: st))) h hx rfl (hb hc d) rfl r) g
theorem go_lshr  (d : decode (mB M) pc = .ok (.lshr, 1))  (g : Go P M (pc + 1) L (.long (u >>> (y.toInt64 &&& 63)) :: st) w out) : Go P M pc L (.int y :: .long u :: st) w out :=
  go_mv id (fun h hx hc α b r => XT.lshr (g := mkF _ pc (cL α b L) (cV α b (.int y :: .long u :: st))) h hx rfl (hb hc d) rfl r) g
theorem go_lushr  (d : decode (mB M) pc = .ok (.lushr, 1))  (g : Go P M (pc + 1) L (.long (XT.ushrL u y) :: st) w out) : Go P M pc L (.int y :: .long u :: st) w out :=
  go_mv id (fun h hx hc α b r => XT.lushr (g := mkF _ pc (cL α b L) (cV α b (.int y :: .long u :: st))) h hx rfl (hb hc d) rfl r) g
theorem go_lcmp  (d : decode (mB M) pc = .ok (.lcmp, 1))  (g : Go P M (pc + 1) L (.int (XT.cmpL u r) :: st) w out) : Go P M pc L (.long r :: .long u :: st) w out :=
  go_mv id (fun h hx hc α b k => XT.lcmp (g := mkF _ pc (cL α b L) (cV α b (.long r :: .long u :: st))) h hx rfl (hb hc d) rfl k) g
theorem go_i2l  (d : decode (mB M) pc = .ok (.i2l, 1))  (g : Go P M (pc + 1) L (.long x.toInt64 :: st) w out) : Go P M pc L (.int x :: st) w out :=
  go_mv id (fun h hx hc α b r => XT.i2l (g := mkF _ pc (cL α b L) (cV α b (.int x :: st))) h hx rfl (hb hc d) rfl r) g
theorem go_l2i  (d : decode (mB M) pc = .ok (.l2i, 1))  (g : Go P M (pc + 1) L (.int u.toInt32 :: st) w out) : Go P M pc L (.long u :: st) w out :=
  go_mv id (fun h hx hc α b r => XT.l2i (g := mkF _ pc (cL α b L) (cV α b (.long u :: st))) h hx rfl (hb hc d) rfl r) g
theorem go_i2b  (d : decode (mB M) pc = .ok (.i2b, 1))  (g : Go P M (pc + 1) L (.int x.toInt8.toInt32 :: st) w out) : Go P M pc L (.int x :: st) w out :=
  go_mv id (fun h hx hc α b r => XT.i2b (g := mkF _ pc (cL α b L) (cV α b (.int x :: st))) h hx rfl (hb hc d) rfl r) g
theorem go_iinc {k : Nat} {i : Int} (d : decode (mB M) pc = .ok (.iinc k i, 3)) (h1 : L[k]? = some (.val (.int x))) (hv : v = Int32.ofInt i) (hl : storeLocals L.toArray k (.int (x + v)) = some L'.toArray) (g : Go P M (pc + 3) L' (st) w out) : Go P M pc L (st) w out :=
  by subst hv; exact go_mv (fun q => by have := store_size hl; simp at this; omega) (fun h hx hc α b r => XS.iinc (g := mkF _ pc (cL α b L) (cV α b (st))) h hx rfl (hb hc d) (cL_get h1) (storeC hl) r) g
theorem go_goto {o : Int} (d : decode (mB M) pc = .ok (.goto o, 3)) (hp : 0 ≤ (pc : Int) + o ∧ ((pc : Int) + o).toNat = pc') (g : Go P M pc' L (st) w out) : Go P M pc L (st) w out :=
  go_mv id (fun h hx hc α b r => XS.goto (g := mkF _ pc (cL α b L) (cV α b (st))) h hx rfl rfl (hb hc d) hp.1 hp.2 r) g
theorem go_ifY {cd : ClassFile.Cond} {o : Int} (d : decode (mB M) pc = .ok (.ifCond cd o, 3)) (hq : ifCond.holds cd x = true) (hp : 0 ≤ (pc : Int) + o ∧ ((pc : Int) + o).toNat = pc') (g : Go P M pc' L (st) w out) : Go P M pc L (.int x :: st) w out :=
  go_mv id (fun h hx hc α b r => XS.ifYes (g := mkF _ pc (cL α b L) (cV α b (.int x :: st))) h hx rfl rfl (hb hc d) rfl hq hp.1 hp.2 r) g
theorem go_ifN {cd : ClassFile.Cond} {o : Int} (d : decode (mB M) pc = .ok (.ifCond cd o, 3)) (hq : ifCond.holds cd x = false) (g : Go P M (pc + 3) L (st) w out) : Go P M pc L (.int x :: st) w out :=
  go_mv id (fun h hx hc α b r => XS.ifNo (g := mkF _ pc (cL α b L) (cV α b (.int x :: st))) h hx rfl (hb hc d) rfl hq r) g
theorem go_icY {cd : ClassFile.Cond} {o : Int} (d : decode (mB M) pc = .ok (.if_icmp cd o, 3)) (hq : if_icmp.holds cd x y = true) (hp : 0 ≤ (pc : Int) + o ∧ ((pc : Int) + o).toNat = pc') (g : Go P M pc' L (st) w out) : Go P M pc L (.int y :: .int x :: st) w out :=
  go_mv id (fun h hx hc α b r => XS.icmpYes (g := mkF _ pc (cL α b L) (cV α b (.int y :: .int x :: st))) h hx rfl rfl (hb hc d) rfl hq hp.1 hp.2 r) g
theorem go_icN {cd : ClassFile.Cond} {o : Int} (d : decode (mB M) pc = .ok (.if_icmp cd o, 3)) (hq : if_icmp.holds cd x y = false) (g : Go P M (pc + 3) L (st) w out) : Go P M pc L (.int y :: .int x :: st) w out :=
  go_mv id (fun h hx hc α b r => XS.icmpNo (g := mkF _ pc (cL α b L) (cV α b (.int y :: .int x :: st))) h hx rfl (hb hc d) rfl hq r) g
theorem go_nonnull {o : Int} (d : decode (mB M) pc = .ok (.ifnonnull o, 3)) (hp : 0 ≤ (pc : Int) + o ∧ ((pc : Int) + o).toNat = pc') (g : Go P M pc' L st w out) : Go P M pc L (.ref 0 :: st) w out :=
  go_mv id (fun h hx hc α b r => XT.ifnonnullYes (g := mkF _ pc (cL α b L) (cV α b (.ref 0 :: st))) (b := α) h hx rfl rfl (hb hc d) rfl hp.1 hp.2 r) g
theorem go_tswIn {dflt low high : Int} {offs : Array Int} {len : Nat} {o : Int} (d : decode (mB M) pc = .ok (.tableswitch dflt low high offs, len)) (hin : ¬ (x.toInt < low ∨ x.toInt > high)) (hoff : offs[(x.toInt - low).toNat]? = some o) (hp : 0 ≤ (pc : Int) + o ∧ ((pc : Int) + o).toNat = pc') (g : Go P M pc' L st w out) : Go P M pc L (.int x :: st) w out :=
  go_mv id (fun h hx hc α b r => XS.tswIn (g := mkF _ pc (cL α b L) (cV α b (.int x :: st))) h hx rfl rfl (hb hc d) rfl hin hoff hp.1 hp.2 r) g
theorem go_tswOut {dflt low high : Int} {offs : Array Int} {len : Nat} (d : decode (mB M) pc = .ok (.tableswitch dflt low high offs, len)) (hout : x.toInt < low ∨ x.toInt > high) (hp : 0 ≤ (pc : Int) + dflt ∧ ((pc : Int) + dflt).toNat = pc') (g : Go P M pc' L st w out) : Go P M pc L (.int x :: st) w out :=
  go_mv id (fun h hx hc α b r => XS.tswOut (g := mkF _ pc (cL α b L) (cV α b (.int x :: st))) h hx rfl rfl (hb hc d) rfl hout hp.1 hp.2 r) g
/-! ### constants of the pool -/
theorem go_ldc {k : Nat} (d : decode (mB M) pc = .ok (.ldc k, 2)) (hk : Jvm.Cond.constant (mY M).cls k v ∈ P.1) (g : Go P M (pc + 2) L (.int v :: st) w out) : Go P M pc L st w out :=
  go_ch (fun l Z a0 p e R s m args below meth c α b n0 h0 uC uS ok hl T locs cells slots I => ⟨T, locs, cells, slots, I, fun target r => Stand.ldcI (g := mkF m pc (cL α b L) (cV α b st)) I.1 ok.2.2.1 ok.2.2.2.2.1 (mvT ok.2.2.2.1 (ok.1 _ hk)) rfl (hb ok.2.2.2.2.2.1 d) r⟩) g
theorem go_ldcW {k : Nat} (d : decode (mB M) pc = .ok (.ldc_w k, 3)) (hk : Jvm.Cond.constant (mY M).cls k v ∈ P.1) (g : Go P M (pc + 3) L (.int v :: st) w out) : Go P M pc L st w out :=
  go_ch (fun l Z a0 p e R s m args below meth c α b n0 h0 uC uS ok hl T locs cells slots I => ⟨T, locs, cells, slots, I, fun target r => Stand.ldcWI (g := mkF m pc (cL α b L) (cV α b st)) I.1 ok.2.2.1 ok.2.2.2.2.1 (mvT ok.2.2.2.1 (ok.1 _ hk)) rfl (hb ok.2.2.2.2.2.1 d) r⟩) g
theorem go_ldc2 {k : Nat} (d : decode (mB M) pc = .ok (.ldc2_w k, 3)) (hk : Jvm.Cond.constantLong (mY M).cls k u ∈ P.1) (g : Go P M (pc + 3) L (.long u :: st) w out) : Go P M pc L st w out :=
  go_ch (fun l Z a0 p e R s m args below meth c α b n0 h0 uC uS ok hl T locs cells slots I => ⟨T, locs, cells, slots, I, fun target r => Stand.ldc2J (g := mkF m pc (cL α b L) (cV α b st)) I.1 ok.2.2.1 ok.2.2.2.2.1 (mvT ok.2.2.2.1 (ok.1 _ hk)) rfl (hb ok.2.2.2.2.2.1 d) r⟩) g
/-! ### returns -/
theorem go_iret (hT : mT M = some .int) (d : decode (mB M) pc = .ok (.ireturn, 1)) : Go P M pc L (.int x :: st) w (some (.int x), w) := by
  intro hl l Z a0 p e R s m args below meth c α b n0 h0 uC uS ok T locs cells slots I
  exact ⟨T, locs, cells, slots, I, fun fs hv => retOut I.1 ok.2.2.1 (t := .int) (ok.2.2.2.2.2.2.2.1.trans hT) rfl (Or.inl ⟨rfl, Or.inl rfl, x, rfl⟩) (hb ok.2.2.2.2.2.1 d) hv⟩
theorem go_zret (hT : mT M = some .boolean) (d : decode (mB M) pc = .ok (.ireturn, 1)) (hz : v = nar .boolean x) : Go P M pc L (.int x :: st) w (some (.int v), w) := by
  intro hl l Z a0 p e R s m args below meth c α b n0 h0 uC uS ok T locs cells slots I
  subst hz
  exact ⟨T, locs, cells, slots, I, fun fs hv => retN I.1 ok.2.2.1 (t := .boolean) (ok.2.2.2.2.2.2.2.1.trans hT) (Or.inl rfl) (hb ok.2.2.2.2.2.1 d) hv⟩
theorem go_lret (hT : mT M = some .long) (d : decode (mB M) pc = .ok (.lreturn, 1)) : Go P M pc L (.long u :: st) w (some (.long u), w) := by
  intro hl l Z a0 p e R s m args below meth c α b n0 h0 uC uS ok T locs cells slots I
  exact ⟨T, locs, cells, slots, I, fun fs hv => retOut I.1 ok.2.2.1 (t := .long) (ok.2.2.2.2.2.2.2.1.trans hT) rfl (Or.inr (Or.inl ⟨rfl, rfl, u, rfl⟩)) (hb ok.2.2.2.2.2.1 d) hv⟩
theorem go_ret (hT : mT M = none) (d : decode (mB M) pc = .ok (.return_, 1)) : Go P M pc L [] w (none, w) := by
  intro hl l Z a0 p e R s m args below meth c α b n0 h0 uC uS ok T locs cells slots I
  exact ⟨T, locs, cells, slots, I, fun fs hv => I.1.returnOut ok.2.2.1 (ok.2.2.2.2.2.2.2.1.trans hT) (hb ok.2.2.2.2.2.1 d) hv⟩
/-! ### fields -/
variable {o o' : Nat × S} {s : S} {k n : Nat}
theorem rep_one {Z : State} {ci : CI} {α b : Nat} {h : Heap} (F : RepW Z ci α b (none, [o]) h) : Rep1 Z ci h b o := by
  have := F.2 0 o rfl
  simpa using this
theorem rep_mk {Z : State} {ci : CI} {α b : Nat} {h : Heap} (F : Rep1 Z ci h b o) : RepW Z ci α b (none, [o]) h :=
  ⟨fun l hl => (nomatch hl), fun i o1 ho => by
    cases i with
    | zero => cases ho; simpa using F
    | succ i => simp at ho⟩
/-- the entry idx names the scalar field number f; of type ty -/
def FldS (P : PI) (idx f : Nat) (ty : FieldType) : Prop := ∃ nm ds, (cS P.2)[f]? = some (nm, ds, ty) ∧ Jvm.Cond.fieldLink (cN P.2) idx (cN P.2) nm ds ∈ P.1
def FldA (P : PI) (idx q : Nat) (ty : FieldType) : Prop := ∃ nm ds cap, (cA P.2)[q]? = some (nm, ds, ty, cap) ∧ Jvm.Cond.fieldLink (cN P.2) idx (cN P.2) nm ds ∈ P.1
theorem go_getV {idx f : Nat} {ty : FieldType} (F : FldS P idx f ty) (hM : (mY M).cls = cN P.2) (d : decode (mB M) pc = .ok (.getfield idx, 3)) {vv : Value} (hv : vv = scV ty s f) (hr : ∀ α b, con α b vv = vv) (g : Go P M (pc + 3) L (vv :: st) (none, [(k, s)]) out) : Go P M pc L (.ref 1 :: st) (none, [(k, s)]) out :=
  go_ch (fun l Z a0 p e R s1 m args below meth c α b n0 h0 uC uS ok hl T locs cells slots I => by
    obtain ⟨nm, ds, f1, f2⟩ := F
    obtain ⟨hw, fa, hx, hZ, hown, hc, hml, hret, hnm, hR, hn0, htop, hsz⟩ := ok
    obtain ⟨X, Rp, Fm, Nl, hs, u1, u2, c1, c2, hN⟩ := I
    have Fd := (rep_one Rp).2.1 f _ f1
    rw [hM] at hown
    obtain ⟨T', X', e', stp⟩ := getF X hx hZ hown (host := "") (Or.inl (hw _ f2)) Via.refl rfl Fd (g := mkF m pc (cL α b L) (cV α b (.ref 1 :: st))) rfl rfl (hb hc d)
    refine ⟨T', locs, cells, slots, ⟨X', by rw [e']; exact Rp, by rw [e']; exact Fm, Nl, by rw [e']; exact hs, u1, u2, c1, c2, hN⟩, fun target r => stp target ?_⟩
    rw [show cV α b (vv :: st) = con α b vv :: cV α b st from rfl, hr, hv] at r
    exact r) g
theorem go_getI {idx f : Nat} (F : FldS P idx f .int) (hM : (mY M).cls = cN P.2) (d : decode (mB M) pc = .ok (.getfield idx, 3)) (g : Go P M (pc + 3) L (.int (gI s f) :: st) (none, [(k, s)]) out) : Go P M pc L (.ref 1 :: st) (none, [(k, s)]) out :=
  go_getV F hM d rfl (fun _ _ => rfl) g
theorem go_getZ {idx f : Nat} (F : FldS P idx f .boolean) (hM : (mY M).cls = cN P.2) (d : decode (mB M) pc = .ok (.getfield idx, 3)) (g : Go P M (pc + 3) L (.int (gI s f) :: st) (none, [(k, s)]) out) : Go P M pc L (.ref 1 :: st) (none, [(k, s)]) out :=
  go_getV F hM d rfl (fun _ _ => rfl) g
theorem go_getJ {idx f : Nat} (F : FldS P idx f .long) (hM : (mY M).cls = cN P.2) (d : decode (mB M) pc = .ok (.getfield idx, 3)) (g : Go P M (pc + 3) L (.long (gL s f) :: st) (none, [(k, s)]) out) : Go P M pc L (.ref 1 :: st) (none, [(k, s)]) out :=
  go_getV F hM d rfl (fun _ _ => rfl) g
theorem go_getA {idx q : Nat} {ty : FieldType} (F : FldA P idx q ty) (hM : (mY M).cls = cN P.2) (d : decode (mB M) pc = .ok (.getfield idx, 3)) (hq : Nat.blt q k = true) (g : Go P M (pc + 3) L (.ref (q + 2) :: st) (none, [(k, s)]) out) : Go P M pc L (.ref 1 :: st) (none, [(k, s)]) out :=
  go_ch (fun l Z a0 p e R s1 m args below meth c α b n0 h0 uC uS ok hl T locs cells slots I => by
    obtain ⟨nm, ds, cap, f1, f2⟩ := F
    obtain ⟨hw, fa, hx, hZ, hown, hc, hml, hret, hnm, hR, hn0, htop, hsz⟩ := ok
    obtain ⟨X, Rp, Fm, Nl, hs, u1, u2, c1, c2, hN⟩ := I
    have Fd := (rep_one Rp).2.2.1 q _ f1
    rw [if_pos (show q < (k, s).1 by simpa [Nat.blt_eq] using hq)] at Fd
    rw [hM] at hown
    obtain ⟨T', X', e', stp⟩ := getF X hx hZ hown (host := "") (Or.inl (hw _ f2)) Via.refl rfl Fd (g := mkF m pc (cL α b L) (cV α b (.ref 1 :: st))) rfl rfl (hb hc d)
    refine ⟨T', locs, cells, slots, ⟨X', by rw [e']; exact Rp, by rw [e']; exact Fm, Nl, by rw [e']; exact hs, u1, u2, c1, c2, hN⟩, fun target r => stp target ?_⟩
    rw [show cV α b (.ref (q + 2) :: st) = .ref (b + (q + 1)) :: cV α b st from rfl] at r
    rw [show b + 1 + q = b + (q + 1) by omega]
    exact r) g
/-- another scalar of the object takes its value -/
theorem rep_put {Z : State} {a0 : Array Value} {ci : CI} {h h' : Heap} {b : Nat} {s s' : S} {k f : Nat} {nm ds : String} {ty : FieldType} {vv : Value} (fa : Facts Z a0 ci) (F : Rep1 Z ci h b (k, s)) (hf : (cS ci)[f]? = some (nm, ds, ty))
    (Wt : Wr h h' b (Jvm.RoadKit.slotOf Z (cN ci) nm ds) vv) (hv : vv = scV ty s' f) (ho : ∀ f' x, (cS ci)[f']? = some x → f' ≠ f → scV x.2.2 s' f' = scV x.2.2 s f') (ha : gA s' = gA s) (hbb : gB s' = gB s) : Rep1 Z ci h' b (k, s') := by
  obtain ⟨f1, f2, f3, f4⟩ := F
  obtain ⟨-, -, g1, g2, g3, -⟩ := fa
  have lt := get_lt hf
  refine ⟨f1.wr Wt, fun f' x hx => ?_, fun q x hx => ?_, fun q x hx hq => ?_⟩
  · by_cases e : f' = f
    · subst e
      cases hf.symm.trans hx
      show Fld Z h' b (cN ci) nm ds (scV ty s' f')
      rw [← hv]; exact (f2 f' _ hf).same Wt
    · have lt' := get_lt hx
      show Fld Z h' b (cN ci) x.1 x.2.1 (scV x.2.2 s' f')
      rw [ho f' x hx e]
      refine (f2 f' x hx).other Wt (Or.inr ?_)
      refine slot_ne (g1 f' x hx).1 (g1 f _ hf).1 ?_ (g1 f' x hx).2 (g1 f _ hf).2
      intro en
      have n1 : ((cS ci).map (fun x => x.1) ++ (cA ci).map (fun x => x.1))[f']? = some x.1 := by rw [List.getElem?_append_left (by simpa using lt')]; simp [hx]
      have n2 : ((cS ci).map (fun x => x.1) ++ (cA ci).map (fun x => x.1))[f]? = some nm := by rw [List.getElem?_append_left (by simpa using lt)]; simp [hf]
      rw [en] at n1
      obtain ⟨i1, j1⟩ := List.getElem?_eq_some_iff.mp n1
      obtain ⟨i2, j2⟩ := List.getElem?_eq_some_iff.mp n2
      exact e ((List.getElem_inj g3).mp (j1.trans j2.symm))
  · refine (f3 q x hx).other Wt (Or.inr ?_)
    have lt' := get_lt hx
    refine slot_ne (g2 q x hx).1 (g1 f _ hf).1 ?_ (g2 q x hx).2 (g1 f _ hf).2
    intro en
    have n1 : ((cS ci).map (fun x => x.1) ++ (cA ci).map (fun x => x.1))[(cS ci).length + q]? = some x.1 := by rw [List.getElem?_append_right (by simp)]; simp [hx]
    have n2 : ((cS ci).map (fun x => x.1) ++ (cA ci).map (fun x => x.1))[f]? = some nm := by rw [List.getElem?_append_left (by simpa using lt)]; simp [hf]
    rw [en] at n1
    obtain ⟨i1, j1⟩ := List.getElem?_eq_some_iff.mp n1
    obtain ⟨i2, j2⟩ := List.getElem?_eq_some_iff.mp n2
    have := (List.getElem_inj g3).mp (j1.trans j2.symm)
    omega
  · obtain ⟨c, A, e⟩ := f4 q x hx hq
    refine ⟨c, A.other Wt (nq (by omega)), e.trans ?_⟩
    show (arV x.2.2.1 s q).toArray = (arV x.2.2.1 s' q).toArray
    unfold arV
    split <;> simp [ha, hbb]
theorem go_putV {idx f : Nat} {ty : FieldType} {vv : Value} {s' : S} (F : FldS P idx f ty) (hM : (mY M).cls = cN P.2)
    (hlays : ∀ nm ds, (cS P.2)[f]? = some (nm, ds, ty) → Jvm.Cond.lays (cN P.2) (cN P.2) nm ds ∈ P.1 ∨ (Jvm.Cond.laysFinal (cN P.2) (cN P.2) nm ds ∈ P.1 ∧ (mY M).name = "<init>"))
    (hpos : 0 < mN M) (hr : ∀ α b, con α b vv = vv) (hn : narrow ty vv = vv) (hfi : fits ty vv = true) (hv : vv = scV ty s' f) (ho : ∀ f' x, (cS P.2)[f']? = some x → f' ≠ f → scV x.2.2 s' f' = scV x.2.2 s f') (ha : gA s' = gA s) (hbb : gB s' = gB s)
    (d : decode (mB M) pc = .ok (.putfield idx, 3)) (g : Go P M (pc + 3) L st (none, [(k, s')]) out) : Go P M pc L (vv :: .ref 1 :: st) (none, [(k, s)]) out :=
  go_ch (fun l Z a0 p e R s1 m args below meth c α b n0 h0 uC uS ok hl T locs cells slots I => by
    obtain ⟨nm, ds, f1, f2⟩ := F
    obtain ⟨hw, fa, hx, hZ, hown, hc, hml, hret, hnm, hR, hn0, htop, hsz⟩ := ok
    obtain ⟨X, Rp, Fm, Nl, hs, u1, u2, c1, c2, hN⟩ := I
    have Rp1 := rep_one Rp
    have Fd := Rp1.2.1 f _ f1
    rw [hM] at hown
    obtain ⟨T', h', X', e', Wt, stp⟩ := putF X hx hZ hown (host := "") (Or.inl (hw _ f2)) Via.refl rfl Fd Rp1.1 ((hlays nm ds f1).imp (fun q => hw _ q) (fun q => ⟨hw _ q.1, rfl, hnm.trans q.2⟩)) fa.1 (fa.2.2.1 f _ f1).2 hn hfi (g := mkF m pc (cL α b L) (vv :: .ref b :: cV α b st)) rfl rfl (hb hc d)
    refine ⟨T', _, cells, slots, ⟨X', rep_mk (by rw [e']; exact rep_put fa Rp1 f1 Wt hv ho ha hbb), by rw [e']; exact Fm.wr Wt (Nat.le_refl _) (by have := Nat.mul_le_mul_left (cK P.2 + 1) hpos; omega), Fr.snoc X' Nl hn0, by rw [e', Wt.size]; exact hs, u1, u2, c1, c2, hN⟩, fun target r => ?_⟩
    rw [show cV α b (vv :: .ref 1 :: st) = con α b vv :: .ref b :: cV α b st from rfl, hr]
    exact stp target r) g
theorem scV_sI (s : S) (f : Nat) (x : Int32) (ty : FieldType) (f' : Nat) (h : f' ≠ f) : scV ty (sI s f x) f' = scV ty s f' := by
  unfold scV; split <;> simp [gI_sI, gL_sI, h]
theorem scV_sL (s : S) (f : Nat) (x : Int64) (ty : FieldType) (f' : Nat) (h : f' ≠ f) : scV ty (sL s f x) f' = scV ty s f' := by
  unfold scV; split <;> simp [gI_sL, gL_sL, h]
/-- the word that lets the field be written -/
def Wrt (P : PI) (M : Meth) (f : Nat) : Prop := ∃ nm ds ty, (cS P.2)[f]? = some (nm, ds, ty) ∧ (Jvm.Cond.lays (cN P.2) (cN P.2) nm ds ∈ P.1 ∨ (Jvm.Cond.laysFinal (cN P.2) (cN P.2) nm ds ∈ P.1 ∧ (mY M).name = "<init>"))
theorem Wrt.use {f : Nat} {ty : FieldType} (h : Wrt P M f) : ∀ nm ds, (cS P.2)[f]? = some (nm, ds, ty) → Jvm.Cond.lays (cN P.2) (cN P.2) nm ds ∈ P.1 ∨ (Jvm.Cond.laysFinal (cN P.2) (cN P.2) nm ds ∈ P.1 ∧ (mY M).name = "<init>") := by
  obtain ⟨nm, ds, ty', h1, h2⟩ := h
  intro nm' ds' h3
  cases h1.symm.trans h3
  exact h2
theorem go_putI {idx f : Nat} (F : FldS P idx f .int) (hM : (mY M).cls = cN P.2) (hl : Wrt P M f) (hp : 0 < mN M) (d : decode (mB M) pc = .ok (.putfield idx, 3)) (g : Go P M (pc + 3) L st (none, [(k, sI s f x)]) out) : Go P M pc L (.int x :: .ref 1 :: st) (none, [(k, s)]) out :=
  go_putV F hM hl.use hp (fun _ _ => rfl) rfl rfl (by simp [scV, gI_sI]) (fun f' y _ h => scV_sI s f x _ f' h) rfl rfl d g
theorem go_putZ {idx f : Nat} (F : FldS P idx f .boolean) (hM : (mY M).cls = cN P.2) (hl : Wrt P M f) (hp : 0 < mN M) (hz : x = 0 ∨ x = 1) (d : decode (mB M) pc = .ok (.putfield idx, 3)) (g : Go P M (pc + 3) L st (none, [(k, sI s f x)]) out) : Go P M pc L (.int x :: .ref 1 :: st) (none, [(k, s)]) out :=
  go_putV F hM hl.use hp (fun _ _ => rfl) (by rcases hz with rfl | rfl <;> rfl) (by rcases hz with rfl | rfl <;> rfl) (by simp [scV, gI_sI]) (fun f' y _ h => scV_sI s f x _ f' h) rfl rfl d g
theorem go_putJ {idx f : Nat} (F : FldS P idx f .long) (hM : (mY M).cls = cN P.2) (hl : Wrt P M f) (hp : 0 < mN M) (d : decode (mB M) pc = .ok (.putfield idx, 3)) (g : Go P M (pc + 3) L st (none, [(k, sL s f u)]) out) : Go P M pc L (.long u :: .ref 1 :: st) (none, [(k, s)]) out :=
  go_putV F hM hl.use hp (fun _ _ => rfl) rfl rfl (by simp [scV, gL_sL]) (fun f' y _ h => scV_sL s f u _ f' h) rfl rfl d g
/-! ### arrays -/
theorem ix_some {A : Type} {l : List A} {j : Int32} {x : A} (h : ix l j = some x) : ¬ j < 0 ∧ l[j.toNatClampNeg]? = some x := by
  unfold ix at h; split at h
  · cases h
  · rename_i q; exact ⟨q, h⟩
theorem st_some {A : Type} {l l' : List A} {j : Int32} {x : A} (h : Jvm.AM.st l j x = some l') : ¬ j < 0 ∧ j.toNatClampNeg < l.length ∧ l' = l.set j.toNatClampNeg x := by
  unfold Jvm.AM.st at h; split at h
  · cases h
  · rename_i q; split at h
    · rename_i q2; cases h; exact ⟨q, q2, rfl⟩
    · cases h
theorem ar_in {c : Cell} {vs : List Value} {j : Int32} {vv : Value} (e : c.slots = vs.toArray) (h1 : ¬ j < 0) (h2 : vs[j.toNatClampNeg]? = some vv) : ¬ (j < 0 ∨ c.slots.size ≤ j.toNatClampNeg) ∧ c.slots[j.toNatClampNeg]? = some vv := by
  have := get_lt h2
  refine ⟨fun q => ?_, by rw [e]; simpa using h2⟩
  rcases q with q | q
  · exact h1 q
  · rw [e] at q; simp at q; omega
theorem go_iaload {q : Nat} {j : Int32} {nm ds : String} {cap : Nat} (ha : (cA P.2)[q]? = some (nm, ds, .int, cap)) (hq : Nat.blt q k = true) (hx : ix (gA s q) j = some v) (d : decode (mB M) pc = .ok (.iaload, 1)) (g : Go P M (pc + 1) L (.int v :: st) (none, [(k, s)]) out) : Go P M pc L (.int j :: .ref (q + 2) :: st) (none, [(k, s)]) out :=
  go_ch (fun l Z a0 p e R s1 m args below meth c α b n0 h0 uC uS ok hl T locs cells slots I => by
    obtain ⟨cl, A, ec⟩ := (rep_one I.2.1).2.2.2 q _ ha (by simpa [Nat.blt_eq] using hq)
    obtain ⟨h1, h2⟩ := ix_some hx
    obtain ⟨h3, h4⟩ := ar_in ec h1 (vv := .int v) (by simp [arV, h2])
    refine ⟨T, locs, cells, slots, I, fun target r => ?_⟩
    refine I.1.iaload ok.2.2.1 (j := j) (v := .int v) A.1 (State.isArrayOf_alike ok.2.2.2.1.alike A.2.1) A.2.2 h3 h4 (g := mkF m pc (cL α b L) (.int j :: .ref (b + 1 + q) :: cV α b st)) rfl rfl (hb ok.2.2.2.2.2.1 d) _ r |> fun t => ?_
    rw [show cV α b (.int j :: .ref (q + 2) :: st) = .int j :: .ref (b + (q + 1)) :: cV α b st from rfl, show b + (q + 1) = b + 1 + q by omega]
    exact t) g
theorem go_laload {q : Nat} {j : Int32} {nm ds : String} {cap : Nat} (ha : (cA P.2)[q]? = some (nm, ds, .long, cap)) (hq : Nat.blt q k = true) (hx : ix (gB s q) j = some u) (d : decode (mB M) pc = .ok (.laload, 1)) (g : Go P M (pc + 1) L (.long u :: st) (none, [(k, s)]) out) : Go P M pc L (.int j :: .ref (q + 2) :: st) (none, [(k, s)]) out :=
  go_ch (fun l Z a0 p e R s1 m args below meth c α b n0 h0 uC uS ok hl T locs cells slots I => by
    obtain ⟨cl, A, ec⟩ := (rep_one I.2.1).2.2.2 q _ ha (by simpa [Nat.blt_eq] using hq)
    obtain ⟨h1, h2⟩ := ix_some hx
    obtain ⟨h3, h4⟩ := ar_in ec h1 (vv := .long u) (by simp [arV, h2])
    refine ⟨T, locs, cells, slots, I, fun target r => ?_⟩
    refine I.1.laload ok.2.2.1 (j := j) (v := .long u) A.1 (State.isArrayOf_alike ok.2.2.2.1.alike A.2.1) A.2.2 h3 h4 (g := mkF m pc (cL α b L) (.int j :: .ref (b + 1 + q) :: cV α b st)) rfl rfl (hb ok.2.2.2.2.2.1 d) _ r |> fun t => ?_
    rw [show cV α b (.int j :: .ref (q + 2) :: st) = .int j :: .ref (b + (q + 1)) :: cV α b st from rfl, show b + (q + 1) = b + 1 + q by omega]
    exact t) g
theorem go_baload {q : Nat} {j : Int32} {nm ds : String} {ty : FieldType} {cap : Nat} (ha : (cA P.2)[q]? = some (nm, ds, ty, cap)) (hty : ty = .boolean ∨ ty = .byte) (hq : Nat.blt q k = true) (hx : ix (gA s q) j = some v) (d : decode (mB M) pc = .ok (.baload, 1)) (g : Go P M (pc + 1) L (.int v :: st) (none, [(k, s)]) out) : Go P M pc L (.int j :: .ref (q + 2) :: st) (none, [(k, s)]) out :=
  go_ch (fun l Z a0 p e R s1 m args below meth c α b n0 h0 uC uS ok hl T locs cells slots I => by
    obtain ⟨cl, A, ec⟩ := (rep_one I.2.1).2.2.2 q _ ha (by simpa [Nat.blt_eq] using hq)
    obtain ⟨h1, h2⟩ := ix_some hx
    refine ⟨T, locs, cells, slots, I, fun target r => ?_⟩
    rw [show cV α b (.int j :: .ref (q + 2) :: st) = .int j :: .ref (b + (q + 1)) :: cV α b st from rfl, show b + (q + 1) = b + 1 + q by omega]
    rcases hty with rfl | rfl
    · obtain ⟨h3, h4⟩ := ar_in ec h1 (vv := .int v) (by simp [arV, h2])
      exact I.1.baloadBooleans ok.2.2.1 (j := j) (v := .int v) A.1 (State.isArrayOf_alike ok.2.2.2.1.alike A.2.1) A.2.2 h3 h4 (g := mkF m pc (cL α b L) (.int j :: .ref (b + 1 + q) :: cV α b st)) rfl rfl (hb ok.2.2.2.2.2.1 d) _ r
    · obtain ⟨h3, h4⟩ := ar_in ec h1 (vv := .int v) (by simp [arV, h2])
      exact I.1.baloadBytes ok.2.2.1 (j := j) (v := .int v) A.1 (State.isArrayOf_alike ok.2.2.2.1.alike A.2.1) A.2.2 h3 h4 (g := mkF m pc (cL α b L) (.int j :: .ref (b + 1 + q) :: cV α b st)) rfl rfl (hb ok.2.2.2.2.2.1 d) _ r) g
theorem go_alen {q : Nat} {nm ds : String} {ty : FieldType} {cap : Nat} (ha : (cA P.2)[q]? = some (nm, ds, ty, cap)) (hty : ty ≠ .long) (hq : Nat.blt q k = true) (d : decode (mB M) pc = .ok (.arraylength, 1)) (g : Go P M (pc + 1) L (.int (gA s q).length.toInt32 :: st) (none, [(k, s)]) out) : Go P M pc L (.ref (q + 2) :: st) (none, [(k, s)]) out :=
  go_ch (fun l Z a0 p e R s1 m args below meth c α b n0 h0 uC uS ok hl T locs cells slots I => by
    obtain ⟨cl, A, ec⟩ := (rep_one I.2.1).2.2.2 q _ ha (by simpa [Nat.blt_eq] using hq)
    refine ⟨T, locs, cells, slots, I, fun target r => ?_⟩
    have e1 : cl.slots.size = (gA s q).length := by rw [ec]; cases ty <;> simp [arV] at hty ⊢
    rw [show cV α b (.ref (q + 2) :: st) = .ref (b + (q + 1)) :: cV α b st from rfl, show b + (q + 1) = b + 1 + q by omega]
    refine I.1.arraylength ok.2.2.1 (cell := cl) A.1 (State.isArrayOf_alike ok.2.2.2.1.alike A.2.1) (g := mkF m pc (cL α b L) (.ref (b + 1 + q) :: cV α b st)) rfl rfl (hb ok.2.2.2.2.2.1 d) _ ?_
    rw [e1]; exact r) g
theorem go_sload {l0 : List Int32} {os : List (Nat × S)} {j : Int32} (hx : ix l0 j = some v) (d : decode (mB M) pc = .ok (.iaload, 1)) (g : Go P M (pc + 1) L (.int v :: st) (some l0, os) out) : Go P M pc L (.int j :: .ref 0 :: st) (some l0, os) out :=
  go_ch (fun l Z a0 p e R s1 m args below meth c α b n0 h0 uC uS ok hl T locs cells slots I => by
    obtain ⟨cl, A, ec⟩ := (I.2.1.1 l0 rfl).1
    obtain ⟨h1, h2⟩ := ix_some hx
    obtain ⟨h3, h4⟩ := ar_in ec h1 (vv := .int v) (by simp [h2])
    exact ⟨T, locs, cells, slots, I, fun target r => I.1.iaload ok.2.2.1 (j := j) (v := .int v) A.1 (State.isArrayOf_alike ok.2.2.2.1.alike A.2.1) A.2.2 h3 h4 (g := mkF m pc (cL α b L) (cV α b (.int j :: .ref 0 :: st))) rfl rfl (hb ok.2.2.2.2.2.1 d) _ r⟩) g
theorem go_slen {l0 : List Int32} {os : List (Nat × S)} (d : decode (mB M) pc = .ok (.arraylength, 1)) (g : Go P M (pc + 1) L (.int l0.length.toInt32 :: st) (some l0, os) out) : Go P M pc L (.ref 0 :: st) (some l0, os) out :=
  go_ch (fun l Z a0 p e R s1 m args below meth c α b n0 h0 uC uS ok hl T locs cells slots I => by
    obtain ⟨cl, A, ec⟩ := (I.2.1.1 l0 rfl).1
    refine ⟨T, locs, cells, slots, I, fun target r => ?_⟩
    have e1 : cl.slots.size = l0.length := by rw [ec]; simp
    refine I.1.arraylength ok.2.2.1 (cell := cl) A.1 (State.isArrayOf_alike ok.2.2.2.1.alike A.2.1) (g := mkF m pc (cL α b L) (cV α b (.ref 0 :: st))) rfl rfl (hb ok.2.2.2.2.2.1 d) _ ?_
    rw [e1]; exact r) g
/-- a component of an array of the object takes its value -/
theorem rep_store {Z : State} {ci : CI} {h h' : Heap} {b : Nat} {s s' : S} {k q i : Nat} {nm ds : String} {ty : FieldType} {cap : Nat} {vv : Value} (F : Rep1 Z ci h b (k, s)) (hf : (cA ci)[q]? = some (nm, ds, ty, cap)) (hq : q < k)
    (Wt : Wr h h' (b + 1 + q) i vv) (hi : i < (arV ty s q).length) (hv : arV ty s' q = (arV ty s q).set i vv) (ho : ∀ q' x, (cA ci)[q']? = some x → q' ≠ q → arV x.2.2.1 s' q' = arV x.2.2.1 s q') (ha : gI s' = gI s) (hbb : gL s' = gL s) : Rep1 Z ci h' b (k, s') := by
  obtain ⟨f1, f2, f3, f4⟩ := F
  refine ⟨f1.wr Wt, fun f x hx => ?_, fun q' x hx => (f3 q' x hx).other Wt (Or.inl (nq (by omega))), fun q' x hx hq' => ?_⟩
  · have e : scV x.2.2 s' f = scV x.2.2 s f := by unfold scV; split <;> simp [ha, hbb]
    show Fld Z h' b (cN ci) x.1 x.2.1 (scV x.2.2 s' f)
    rw [e]
    exact (f2 f x hx).other Wt (Or.inl (nq (by omega)))
  · by_cases e : q' = q
    · subst e
      cases hf.symm.trans hx
      obtain ⟨c, A, ec⟩ := f4 q' _ hf hq
      refine ⟨_, A.same Wt, ?_⟩
      show (c.setSlot i vv).slots = (arV ty s' q').toArray
      rw [hv]
      simp only [Cell.setSlot, ec]
      simp
    · obtain ⟨c, A, ec⟩ := f4 q' x hx hq'
      refine ⟨c, A.other Wt (nq (by omega)), ec.trans ?_⟩
      rw [ho q' x hx e]
theorem arV_sA (s : S) (q : Nat) (l : List Int32) (ty : FieldType) (q' : Nat) (h : q' ≠ q) : arV ty (sA s q l) q' = arV ty s q' := by
  unfold arV; split <;> simp [gA_sA, gB_sA, h]
theorem arV_sB (s : S) (q : Nat) (l : List Int64) (ty : FieldType) (q' : Nat) (h : q' ≠ q) : arV ty (sB s q l) q' = arV ty s q' := by
  unfold arV; split <;> simp [gA_sB, gB_sB, h]
theorem in_of {c : Cell} {vs : List Value} {j : Int32} (e : c.slots = vs.toArray) (h1 : ¬ j < 0) (h2 : j.toNatClampNeg < vs.length) : ¬ (j < 0 ∨ c.slots.size ≤ j.toNatClampNeg) := fun q => by
  rcases q with q | q
  · exact h1 q
  · rw [e] at q; simp at q; omega
theorem go_iastore {q : Nat} {j : Int32} {nm ds : String} {cap : Nat} {l' : List Int32} (ha : (cA P.2)[q]? = some (nm, ds, .int, cap)) (hq : Nat.blt q k = true) (hp : 0 < mN M) (hx : Jvm.AM.st (gA s q) j x = some l') (d : decode (mB M) pc = .ok (.iastore, 1)) (g : Go P M (pc + 1) L st (none, [(k, sA s q l')]) out) : Go P M pc L (.int x :: .int j :: .ref (q + 2) :: st) (none, [(k, s)]) out :=
  go_ch (fun l Z a0 p e R s1 m args below meth c α b n0 h0 uC uS ok hl T locs cells slots I => by
    have hq' : q < k := by simpa [Nat.blt_eq] using hq
    have hqK := get_lt ha
    obtain ⟨X, Rp, Fm, Nl, hs, u1, u2, c1, c2, hN⟩ := I
    obtain ⟨cl, A, ec⟩ := (rep_one Rp).2.2.2 q _ ha hq'
    obtain ⟨h1, h2, rfl⟩ := st_some hx
    have hin := in_of ec h1 (by simpa [arV] using h2)
    obtain ⟨T', h', X', e', Wt, stp⟩ := stI X ok.2.2.1 ok.2.2.2.1 rfl A (x := x) hin (g := mkF m pc (cL α b L) (.int x :: .int j :: .ref (b + 1 + q) :: cV α b st)) rfl rfl (hb ok.2.2.2.2.2.1 d)
    refine ⟨T', _, cells, slots, ⟨X', rep_mk (by rw [e']; exact rep_store (rep_one Rp) ha hq' Wt (by simpa [arV] using h2) (by simp [arV, gA_sA, List.map_set]) (fun q' y _ h => arV_sA s q _ _ q' h) rfl rfl), by rw [e']; exact Fm.wr Wt (by omega) (by have := Nat.mul_le_mul_left (cK P.2 + 1) hp; simp only [cK] at *; omega), Fr.snoc X' Nl (by have := ok.2.2.2.2.2.2.2.2.2.2.1; omega), by rw [e', Wt.size]; exact hs, u1, u2, c1, c2, hN⟩, fun target r => ?_⟩
    rw [show cV α b (.int x :: .int j :: .ref (q + 2) :: st) = .int x :: .int j :: .ref (b + (q + 1)) :: cV α b st from rfl, show b + (q + 1) = b + 1 + q by omega]
    exact stp target r) g
theorem go_lastore {q : Nat} {j : Int32} {nm ds : String} {cap : Nat} {l' : List Int64} (ha : (cA P.2)[q]? = some (nm, ds, .long, cap)) (hq : Nat.blt q k = true) (hp : 0 < mN M) (hx : Jvm.AM.st (gB s q) j u = some l') (d : decode (mB M) pc = .ok (.lastore, 1)) (g : Go P M (pc + 1) L st (none, [(k, sB s q l')]) out) : Go P M pc L (.long u :: .int j :: .ref (q + 2) :: st) (none, [(k, s)]) out :=
  go_ch (fun l Z a0 p e R s1 m args below meth c α b n0 h0 uC uS ok hl T locs cells slots I => by
    have hq' : q < k := by simpa [Nat.blt_eq] using hq
    have hqK := get_lt ha
    obtain ⟨X, Rp, Fm, Nl, hs, u1, u2, c1, c2, hN⟩ := I
    obtain ⟨cl, A, ec⟩ := (rep_one Rp).2.2.2 q _ ha hq'
    obtain ⟨h1, h2, rfl⟩ := st_some hx
    have hin := in_of ec h1 (by simpa [arV] using h2)
    obtain ⟨T', h', X', e', Wt, stp⟩ := stJ X ok.2.2.1 ok.2.2.2.1 rfl A (x := u) hin (g := mkF m pc (cL α b L) (.long u :: .int j :: .ref (b + 1 + q) :: cV α b st)) rfl rfl (hb ok.2.2.2.2.2.1 d)
    refine ⟨T', _, cells, slots, ⟨X', rep_mk (by rw [e']; exact rep_store (rep_one Rp) ha hq' Wt (by simpa [arV] using h2) (by simp [arV, gB_sB, List.map_set]) (fun q' y _ h => arV_sB s q _ _ q' h) rfl rfl), by rw [e']; exact Fm.wr Wt (by omega) (by have := Nat.mul_le_mul_left (cK P.2 + 1) hp; simp only [cK] at *; omega), Fr.snoc X' Nl (by have := ok.2.2.2.2.2.2.2.2.2.2.1; omega), by rw [e', Wt.size]; exact hs, u1, u2, c1, c2, hN⟩, fun target r => ?_⟩
    rw [show cV α b (.long u :: .int j :: .ref (q + 2) :: st) = .long u :: .int j :: .ref (b + (q + 1)) :: cV α b st from rfl, show b + (q + 1) = b + 1 + q by omega]
    exact stp target r) g
theorem go_bastore {q : Nat} {j : Int32} {nm ds : String} {ty : FieldType} {cap : Nat} {l' : List Int32} (ha : (cA P.2)[q]? = some (nm, ds, ty, cap)) (hty : ty = .boolean ∨ ty = .byte) (hq : Nat.blt q k = true) (hp : 0 < mN M) (hv : v = nar ty x) (hx : Jvm.AM.st (gA s q) j v = some l') (d : decode (mB M) pc = .ok (.bastore, 1)) (g : Go P M (pc + 1) L st (none, [(k, sA s q l')]) out) : Go P M pc L (.int x :: .int j :: .ref (q + 2) :: st) (none, [(k, s)]) out :=
  go_ch (fun l Z a0 p e R s1 m args below meth c α b n0 h0 uC uS ok hl T locs cells slots I => by
    have hq' : q < k := by simpa [Nat.blt_eq] using hq
    have hqK := get_lt ha
    obtain ⟨X, Rp, Fm, Nl, hs, u1, u2, c1, c2, hN⟩ := I
    obtain ⟨cl, A, ec⟩ := (rep_one Rp).2.2.2 q _ ha hq'
    obtain ⟨h1, h2, rfl⟩ := st_some hx
    subst hv
    have hlen : j.toNatClampNeg < (arV ty s q).length := by rcases hty with rfl | rfl <;> simpa [arV] using h2
    have hset : arV ty (sA s q ((gA s q).set j.toNatClampNeg (nar ty x))) q = (arV ty s q).set j.toNatClampNeg (.int (nar ty x)) := by rcases hty with rfl | rfl <;> simp [arV, gA_sA, List.map_set]
    have hin := in_of ec h1 hlen
    obtain ⟨T', h', X', e', Wt, stp⟩ : ∃ T' h', Stand p l e R s1 m args below meth c T' (locs ++ [⟨b + 1 + q, j.toNatClampNeg⟩]) cells slots ∧ T'.heap = h' ∧ Wr T.heap h' (b + 1 + q) j.toNatClampNeg (.int (nar ty x)) ∧ ∀ target, Steps p.tables e below (T'.setTop (mkF m (pc + 1) (cL α b L) (cV α b st))) target → Steps p.tables e below (T.setTop (mkF m pc (cL α b L) (.int x :: .int j :: .ref (b + 1 + q) :: cV α b st))) target := by
      rcases hty with rfl | rfl
      · exact stZ X ok.2.2.1 ok.2.2.2.1 rfl A (x := x) hin (g := mkF m pc (cL α b L) (.int x :: .int j :: .ref (b + 1 + q) :: cV α b st)) rfl rfl (hb ok.2.2.2.2.2.1 d)
      · exact stB X ok.2.2.1 ok.2.2.2.1 rfl A (x := x) hin (g := mkF m pc (cL α b L) (.int x :: .int j :: .ref (b + 1 + q) :: cV α b st)) rfl rfl (hb ok.2.2.2.2.2.1 d)
    refine ⟨T', _, cells, slots, ⟨X', rep_mk (by rw [e']; exact rep_store (rep_one Rp) ha hq' Wt hlen hset (fun q' y _ h => arV_sA s q _ _ q' h) rfl rfl), by rw [e']; exact Fm.wr Wt (by omega) (by have := Nat.mul_le_mul_left (cK P.2 + 1) hp; simp only [cK] at *; omega), Fr.snoc X' Nl (by have := ok.2.2.2.2.2.2.2.2.2.2.1; omega), by rw [e', Wt.size]; exact hs, u1, u2, c1, c2, hN⟩, fun target r => ?_⟩
    rw [show cV α b (.int x :: .int j :: .ref (q + 2) :: st) = .int x :: .int j :: .ref (b + (q + 1)) :: cV α b st from rfl, show b + (q + 1) = b + 1 + q by omega]
    exact stp target r) g
/-! ## 5. A method as a whole; calls -/
def Call (P : PI) (M : Meth) (as : List Value) (w : W) (out : Option Value × W) : Prop :=
  ∀ (l : Launch) (Z : State) (a0 : Array Value) (ws : List Jvm.Cond) (α b n0 : Nat) (h0 : Heap), (∀ d ∈ P.1, d.before a0 Z = true) → Facts Z a0 P.2 → n0 ≤ b → RepW Z P.2 α b w h0 → w.2.length ≤ mN M → (mTop M = true → h0.size = b + usedC w ∧ usedC w = mUC M ∧ usedS P.2 w = mUS M) →
    MetFree l (mY M) (head1 (Jvm.Cond.code (mY M) (mB M) (mL M) (mT M) :: ws) (mR M)) (fun a U => a = (cV α b as).toArray ∧ Z.Warmed39 U.vm ∧ U.heap = h0) (fun _ _ _ _ _ => True)
      (fun _ U o U' => ∃ v L, o = .returned v ∧ (v = out.1.map (con α b) ∧ Fr n0 L ∧ RepW Z P.2 α b out.2 U'.heap ∧ Frm b (b + (cK P.2 + 1) * mN M) h0 U'.heap ∧ ∃ k, U'.heap.size = h0.size + k ∧ k + usedC w = usedC out.2) ∧ FrameEnd U o U' L (mR M).cells (mR M).slots)
theorem call_of_go {as : List Value} (hpl : plainName (mY M).cls = true) (hlen : (entryL as (mL M)).length = mL M) (hret : mT M = none → out.1 = none) (g : Go P M 0 (entryL as (mL M)) [] w out) : Call P M as w out := by
  intro l Z a0 ws α b n0 h0 hw fa hn0 Rp hN htop
  refine MetFree.of_bodySF (plainFor_of_name hpl) hisR ?_
  intro p e s m args below meth c s₁ Bd hml0 hP hK
  obtain ⟨rfl, hZ, hh⟩ := hP
  have X0 : Stand p l e (mR M) s m (cV α b as).toArray below meth c s₁ [] 0 0 := Stand.of_body Bd
  have e0 : s₁.heap = h0 := by rw [← hh, Bd.state]; rfl
  obtain ⟨T', L', c', n', I', fin⟩ := g hlen l Z a0 p e (mR M) s m (cV α b as).toArray below meth c α b n0 h0 (usedC w) (usedS P.2 w) ⟨hw, fa, Bd.exec, hZ, findClass_of_methodNamed Bd.named, Bd.bytes, hml0, Bd.returns, (name_of_methodNamed Bd.named Bd.method).1, rfl, hn0, htop, by rw [hh]⟩ s₁ [] 0 0 ⟨X0, by rw [e0]; exact Rp, by rw [e0]; exact Frm.refl _ _ _, Fr.nil _, by rw [e0]; rfl, by simp, by simp, Nat.zero_le _, Nat.zero_le _, hN⟩
  obtain ⟨X', Rp', Fm', Nl', hs', u1', u2', c1', c2', hN'⟩ := I'
  obtain ⟨fs, hr, hrun, hended, hW, hsame⟩ := X'.leave (v := out.1.map (con α b)) (fun h => by rw [Bd.returns] at h; rw [hret h]; rfl)
  refine ⟨_, _, ?_, hrun, hended, _, _, rfl, ⟨rfl, Nl', Rp', Fm', c', hs', u1'⟩, ⟨_, rfl⟩, hW, hsame.mono c1' c2'⟩
  have q := fin fs hr
  rw [← entry_locals] at q
  exact q
def nr : Value → Bool
  | .ref _ => false
  | _ => true
theorem con_nr {α b : Nat} {v : Value} (h : nr v = true) : con α b v = v := by
  cases v <;> first | rfl | cases h
theorem cV_nr {α b : Nat} {l : List Value} (h : l.all nr = true) : cV α b l = l := by
  have : ∀ x ∈ l, con α b x = x := fun x hx => con_nr (List.all_eq_true.mp h x hx)
  unfold cV
  exact (List.map_congr_left this).trans (List.map_id _)
theorem rep_obj {Z : State} {ci : CI} {α b : Nat} {h : Heap} {i : Nat} (F : RepW Z ci α b w h) (ho : w.2[i]? = some o) : RepW Z ci 0 (b + (cK ci + 1) * i) (none, [o]) h := rep_mk (F.2 i o ho)
theorem rep_back {Z : State} {ci : CI} {α α' b : Nat} {h h' : Heap} {i : Nat} (F : RepW Z ci α b w h) (ho : w.2[i]? = some o) (G : RepW Z ci α' (b + (cK ci + 1) * i) (none, [o']) h') (Fm : Frm (b + (cK ci + 1) * i) (b + (cK ci + 1) * i + (cK ci + 1) * 1) h h') : RepW Z ci α b (w.1, w.2.set i o') h' := by
  refine ⟨fun l hl => ⟨((F.1 l hl).1).frm fun c q => Fm _ _ q (Or.inl ?_), (F.1 l hl).2⟩, fun j oj hj => ?_⟩
  · have := (F.1 l hl).2; exact Nat.lt_of_lt_of_le this (Nat.le_add_right _ _)
  · by_cases e : j = i
    · subst e
      rw [show (w.1, w.2.set j o').2 = w.2.set j o' from rfl, List.getElem?_set_self (get_lt ho)] at hj
      cases hj
      exact rep_one G
    · rw [show (w.1, w.2.set i o').2 = w.2.set i o' from rfl, List.getElem?_set_ne (Ne.symm e)] at hj
      refine (F.2 j oj hj).frm fun x c q1 q2 q3 => Fm _ _ q3 ?_
      rcases Nat.lt_or_gt_of_ne e with q | q
      · have := Nat.mul_le_mul_left (cK ci + 1) q
        rw [Nat.mul_succ] at this; omega
      · have := Nat.mul_le_mul_left (cK ci + 1) q
        rw [Nat.mul_succ] at this; omega
theorem sum_set {A : Type} (f : A → Nat) {a a' : A} : ∀ {l : List A} {i : Nat}, l[i]? = some a → ((l.set i a').map f).sum + f a = (l.map f).sum + f a'
  | [], i, h => by simp at h
  | b :: r, 0, h => by simp at h; subst h; simp; omega
  | b :: r, i + 1, h => by
    simp only [List.getElem?_cons_succ] at h
    have := sum_set f (a' := a') h
    simp only [List.set_cons_succ, List.map_cons, List.sum_cons]; omega
def CQ (ci : CI) (Z : State) (α b n0 : Nat) (h0 : Heap) (N : Nat) (w : W) (out : Option Value × W) (v : Option Value) (hp : Heap) (L : List Loc) : Prop := v = out.1.map (con α b) ∧ Fr n0 L ∧ RepW Z ci α b out.2 hp ∧ Frm b (b + (cK ci + 1) * N) h0 hp ∧ ∃ k, hp.size = h0.size + k ∧ k + usedC w = usedC out.2
/-- what a callee that makes nothing must fit into -/
def Small (M M' : Meth) (rest : List Value) : Prop := (mR M').cells = 0 ∧ (mR M').slots = 0 ∧ mTop M' = false ∧ Nat.ble ((mR M').frames + 1) (mR M).frames = true ∧ Nat.ble ((rest.map fun v => v.category).sum + (mL M' + 11) + (mR M').locals) (mR M).locals = true
theorem ret_st {α b b' : Nat} {r : Option Value} {rest : List Value} (hr : r.all nr = true) : (r.map (con 0 b')).toList ++ cV α b rest = cV α b (r.toList ++ rest) := by
  cases r with
  | none => rfl
  | some v => simp only [Option.map_some, Option.toList_some, cV, List.cons_append, List.nil_append, List.map_cons]; rw [con_nr (show nr v = true from hr), con_nr (show nr v = true from hr)]
theorem inv_obj {l : Launch} {Z : State} {p : Program} {e : Env} {R : Room} {s : State} {m : MethodId} {args : Array Value} {below : List Frame} {meth : Method} {c : Code} {α b n0 : Nat} {h0 : Heap} {uC uS : Nat} {T T2 : State} {locs L2 : List Loc} {cells slots rc rs i : Nat}
    (I : Inv P M l Z p e R s m args below meth c α b n0 h0 uC uS w T locs cells slots) (ho : w.2[i]? = some o) (X2 : Stand p l e R s m args below meth c T2 (locs ++ L2) (cells + rc) (slots + rs))
    (N2 : Fr n0 L2) (R2 : RepW Z P.2 0 (b + (cK P.2 + 1) * i) (none, [o']) T2.heap) (F2 : Frm (b + (cK P.2 + 1) * i) (b + (cK P.2 + 1) * i + (cK P.2 + 1) * 1) T.heap T2.heap) (k2 : ∃ k, T2.heap.size = T.heap.size + k ∧ k + usedC (none, [o]) = usedC (none, [o']))
    (hC : o'.1 = o.1 + rc) (hS : usedS P.2 (none, [o']) = usedS P.2 (none, [o]) + rs) (q1 : cells + rc ≤ R.cells) (q2 : slots + rs ≤ R.slots) : Inv P M l Z p e R s m args below meth c α b n0 h0 uC uS (w.1, w.2.set i o') T2 (locs ++ L2) (cells + rc) (slots + rs) := by
  obtain ⟨X, Rp, Fm, Nl, hs, u1, u2, c1, c2, hN⟩ := I
  obtain ⟨k, k1, k3⟩ := k2
  have hi := get_lt ho
  have a1 := sum_set (fun o : Nat × S => 1 + o.1) (a' := o') ho
  have a2 := sum_set (fun o : Nat × S => cF P.2 + (((cA P.2).take o.1).map fun x => x.2.2.2).sum) (a' := o') ho
  have hle : (cK P.2 + 1) * (i + 1) ≤ (cK P.2 + 1) * mN M := Nat.mul_le_mul_left _ (by omega)
  rw [Nat.mul_succ] at hle
  refine ⟨X2, rep_back Rp ho R2 F2, Fm.trans (F2.wide (Nat.le_add_right _ _) (by omega)), Nl.app N2, ?_, ?_, ?_, q1, q2, by simpa using hN⟩
  · simp only [usedC, List.map_cons, List.map_nil, List.sum_cons, List.sum_nil] at k3; omega
  · simp only [usedC] at u1 ⊢; omega
  · simp only [usedS, List.map_cons, List.map_nil, List.sum_cons, List.sum_nil] at u2 hS ⊢; omega
def LinkV (P : PI) (own : String) (idx : Nat) (M' : Meth) : Prop := Jvm.Cond.methodLink own idx (mY M') ∈ P.1 ∧ Jvm.Cond.declares (mY M') ∈ P.1 ∧ Jvm.Cond.selects (cN P.2) (mY M') (mY M') ∈ P.1 ∧ Jvm.Cond.instanceMethod (mY M') ∈ P.1 ∧ Jvm.Cond.code (mY M') (mB M') (mL M') (mT M') ∈ P.1 ∧ (mY M').cls = cN P.2 ∧ mN M' = 1
def LinkP (P : PI) (own : String) (idx : Nat) (M' : Meth) : Prop := Jvm.Cond.methodLink own idx (mY M') ∈ P.1 ∧ Jvm.Cond.instanceMethod (mY M') ∈ P.1 ∧ Jvm.Cond.privateMethod (mY M') ∈ P.1 ∧ Jvm.Cond.code (mY M') (mB M') (mL M') (mT M') ∈ P.1 ∧ (mY M').cls = cN P.2 ∧ mN M' = 1
def LinkS (P : PI) (own : String) (idx : Nat) (M' : Meth) : Prop := Jvm.Cond.methodLink own idx (mY M') ∈ P.1 ∧ Jvm.Cond.static (mY M') ∈ P.1 ∧ Jvm.Cond.initialized (mY M').cls ∈ P.1 ∧ Jvm.Cond.code (mY M') (mB M') (mL M') (mT M') ∈ P.1 ∧ ((mY M').cls ≠ "java/lang/invoke/MethodHandle" ∧ (mY M').cls ≠ "java/lang/invoke/VarHandle")
def LinkI (P : PI) (own : String) (idx : Nat) (M' : Meth) : Prop := Jvm.Cond.methodLink own idx (mY M') ∈ P.1 ∧ Jvm.Cond.instanceMethod (mY M') ∈ P.1 ∧ Jvm.Cond.code (mY M') (mB M') (mL M') (mT M') ∈ P.1 ∧ (mY M').cls = cN P.2 ∧ mN M' = 1 ∧ mT M' = none ∧ (mY M').name = "<init>"
variable {M' : Meth} {i idx id : Nat} {as rest : List Value} {rv : Option Value} {ps : List FieldType} {rt : Option FieldType}
theorem cV_call {α b : Nat} {jd : Nat} (hnr : as.all nr = true) (hst : st = as.reverse ++ .ref (jd + 1) :: rest) : cV α b st = as.reverse ++ .ref (b + jd) :: cV α b rest := by
  subst hst
  have h1 : cV α b as.reverse = as.reverse := cV_nr (by rw [List.all_reverse]; exact hnr)
  unfold cV at h1 ⊢
  rw [List.map_append, h1]; rfl
theorem go_virt (lk : LinkV P (mY M).cls idx M') (pd : parseMethodDescriptor (mY M').desc = some ⟨ps, rt⟩) (hn : as.length = ps.length) (hid : id = (cK P.2 + 1) * i + 1) (hst : st = as.reverse ++ .ref id :: rest) (hnr : as.all nr = true) (hrr : rv.all nr = true) (ho : w.2[i]? = some o) (hw' : w' = (w.1, w.2.set i o')) (hC : o'.1 = o.1) (sm : Small M M' rest)
    (d : decode (mB M) pc = .ok (.invokevirtual idx, 3)) (cl : Call P M' (.ref 1 :: as) (none, [o]) (rv, (none, [o']))) (g : Go P M (pc + 3) L (rv.toList ++ rest) w' out) : Go P M pc L st w out :=
  go_ch (fun l Z a0 p e R s1 m args below meth c α b n0 h0 uC uS ok hl T locs cells slots I => by
    subst hw' hid
    obtain ⟨hw, fa, hx, hZ, hown, hc, hml, hret, hnm, hR, hn0, htop, hsz⟩ := ok
    obtain ⟨k1, k2, k3, k4, k5, k6, k7⟩ := lk
    obtain ⟨z1, z2, z3, z4, z5⟩ := sm
    have C := cl l Z a0 [] 0 (b + (cK P.2 + 1) * i) n0 T.heap hw fa (Nat.le_trans hn0 (Nat.le_add_right _ _)) (rep_obj I.2.1 ho) (by rw [k7]; exact Nat.le_refl _) (fun q => by rw [z3] at q; cases q)
    have Bk := backOf (Q := CQ P.2 Z 0 (b + (cK P.2 + 1) * i) n0 T.heap (mN M') (none, [o]) (rv, (none, [o']))) (R := R) (p := p) (e := e) (below := below) (s := s1) (args := args) (len := 3) (W := (rest.map fun v => v.category).sum) C hZ (hw _ k5) (by rw [k6]; exact fa.2.1) (by rw [hR]; exact Nat.le_of_ble_eq_true z4) (by rw [hR]; exact Nat.le_of_ble_eq_true z5)
    have E := (I.2.1.2 i o ho).1
    obtain ⟨cB, kB, q1, q2, q3⟩ := isOf (T := T) hZ rfl E
    obtain ⟨v, vm1, ⟨T2, Lx, kx, nx⟩, -, X2, ⟨L2, hQ, l2, y2, n2⟩, stp⟩ := I.1.virtualBack hx (y := mY M') (z := mY M') hown (mvT hZ (hw _ k1)) (mvT hZ (hw _ k2)) (notFace_of_selects (args := #[]) (mvT hZ (hw _ k3))) (mvT hZ (hw _ k3)) (mvT hZ (hw _ k4)) (by rw [k6]; exact fa.2.2.2.2.2.2) Bk q1 q3 (g := mkF m pc (cL α b L) (cV α b st)) rfl (by show (cL α b L).size = c.maxLocals; rw [cL_size, hl, hml]) (Steps.refl _) (argsL := as) (rest := cV α b rest) (lenOf pd hn) (cV_call hnr hst)
      (by show 2 * 0 + _ ≤ _; rw [cV_sum]; exact Nat.le_of_eq (Nat.zero_add _)) (hb hc d) (fun _ _ => ⟨by rw [show (cV 0 (b + (cK P.2 + 1) * i) (.ref 1 :: as)) = .ref (b + (cK P.2 + 1) * i) :: cV 0 (b + (cK P.2 + 1) * i) as from rfl, cV_nr hnr], rfl, by rw [z1]; exact I.2.2.2.2.2.2.2.1, by rw [z2]; exact I.2.2.2.2.2.2.2.2.1⟩)
    dsimp only [Pt.U, Pt.locs, Pt.cells, Pt.slots] at X2 l2 y2 n2 stp hQ
    subst l2 y2 n2
    obtain ⟨rfl, N2, R2, F2, k8⟩ := hQ
    rw [k7] at F2
    refine ⟨T2, _, _, _, inv_obj I ho X2 N2 R2 F2 k8 (by rw [z1]; exact hC) (by rw [z2]; simp [usedS, hC]) (by rw [z1]; exact I.2.2.2.2.2.2.2.1) (by rw [z2]; exact I.2.2.2.2.2.2.2.2.1), fun target r => stp.trans ?_⟩
    rw [← ret_st (b' := b + (cK P.2 + 1) * i) hrr] at r
    exact r) g
theorem go_priv (lk : LinkP P (mY M).cls idx M') (pd : parseMethodDescriptor (mY M').desc = some ⟨ps, rt⟩) (hn : as.length = ps.length) (hid : id = (cK P.2 + 1) * i + 1) (hst : st = as.reverse ++ .ref id :: rest) (hnr : as.all nr = true) (hrr : rv.all nr = true) (ho : w.2[i]? = some o) (hw' : w' = (w.1, w.2.set i o')) (hC : o'.1 = o.1) (sm : Small M M' rest)
    (d : decode (mB M) pc = .ok (.invokevirtual idx, 3)) (cl : Call P M' (.ref 1 :: as) (none, [o]) (rv, (none, [o']))) (g : Go P M (pc + 3) L (rv.toList ++ rest) w' out) : Go P M pc L st w out :=
  go_ch (fun l Z a0 p e R s1 m args below meth c α b n0 h0 uC uS ok hl T locs cells slots I => by
    subst hw' hid
    obtain ⟨hw, fa, hx, hZ, hown, hc, hml, hret, hnm, hR, hn0, htop, hsz⟩ := ok
    obtain ⟨k1, k4, k3, k5, k6, k7⟩ := lk
    obtain ⟨z1, z2, z3, z4, z5⟩ := sm
    have C := cl l Z a0 [] 0 (b + (cK P.2 + 1) * i) n0 T.heap hw fa (Nat.le_trans hn0 (Nat.le_add_right _ _)) (rep_obj I.2.1 ho) (by rw [k7]; exact Nat.le_refl _) (fun q => by rw [z3] at q; cases q)
    have Bk := backOf (Q := CQ P.2 Z 0 (b + (cK P.2 + 1) * i) n0 T.heap (mN M') (none, [o]) (rv, (none, [o']))) (R := R) (p := p) (e := e) (below := below) (s := s1) (args := args) (len := 3) (W := (rest.map fun v => v.category).sum) C hZ (hw _ k5) (by rw [k6]; exact fa.2.1) (by rw [hR]; exact Nat.le_of_ble_eq_true z4) (by rw [hR]; exact Nat.le_of_ble_eq_true z5)
    obtain ⟨cell, q1, q2⟩ := (I.2.1.2 i o ho).1.cell
    have hy : (mY M').cls ≠ "java/lang/invoke/MethodHandle" ∧ (mY M').cls ≠ "java/lang/invoke/VarHandle" := by rw [k6]; exact fa.2.2.2.2.2.2
    have hpriv : s1.PrivateAt (mY M') := Cond.privateMethod_at (mvP hZ (hw _ k3) (args := #[]))
    have hin : (Jvm.Cond.instanceMethod (mY M')).before args s1 = true := mvT hZ (hw _ k4)
    obtain ⟨c2, kk, i1, i2, i3, i4, -⟩ := Cond.instantiable_spec fa.1
    obtain ⟨k', j1, j2⟩ := hZ.alike.2.2 _ _ i2
    have hsel : (Jvm.Cond.selects (mY M').cls (mY M') (mY M')).before args s1 = true := selects_self_of_private (c := c2) (k := k') (by rw [k6, hZ.alike.findClass]; exact i1) j1 (by
      have : kk.isInterface = false := by simp only [Bool.or_eq_false_iff] at i4; exact i4.1
      rw [j2]; exact this) hpriv hin hy
    obtain ⟨v, vm1, ⟨T2, Lx, kx, nx⟩, -, X2, ⟨L2, hQ, l2, y2, n2⟩, stp⟩ := I.1.privateBack hx (y := mY M') hown (mvT hZ (hw _ k1)) hin hsel hpriv (mvT hZ (hw _ k5)) hy Bk (g := mkF m pc (cL α b L) (cV α b st)) rfl (by show (cL α b L).size = c.maxLocals; rw [cL_size, hl, hml]) (Steps.refl _) (a := b + (cK P.2 + 1) * i) q1 q2 (argsL := as) (rest := cV α b rest) (lenOf pd hn) (cV_call hnr hst)
      (by show 2 * 0 + _ ≤ _; rw [cV_sum]; exact Nat.le_of_eq (Nat.zero_add _)) (hb hc d) (fun _ _ => ⟨by rw [show (cV 0 (b + (cK P.2 + 1) * i) (.ref 1 :: as)) = .ref (b + (cK P.2 + 1) * i) :: cV 0 (b + (cK P.2 + 1) * i) as from rfl, cV_nr hnr], rfl, by rw [z1]; exact I.2.2.2.2.2.2.2.1, by rw [z2]; exact I.2.2.2.2.2.2.2.2.1⟩)
    dsimp only [Pt.U, Pt.locs, Pt.cells, Pt.slots] at X2 l2 y2 n2 stp hQ
    subst l2 y2 n2
    obtain ⟨rfl, N2, R2, F2, k8⟩ := hQ
    rw [k7] at F2
    refine ⟨T2, _, _, _, inv_obj I ho X2 N2 R2 F2 k8 (by rw [z1]; exact hC) (by rw [z2]; simp [usedS, hC]) (by rw [z1]; exact I.2.2.2.2.2.2.2.1) (by rw [z2]; exact I.2.2.2.2.2.2.2.2.1), fun target r => stp.trans ?_⟩
    rw [← ret_st (b' := b + (cK P.2 + 1) * i) hrr] at r
    exact r) g
theorem go_stat (lk : LinkS P (mY M).cls idx M') (pd : parseMethodDescriptor (mY M').desc = some ⟨ps, rt⟩) (hn : as.length = ps.length) (hst : st = as.reverse ++ rest) (hN' : mN M' ≤ mN M ∧ w.2.length ≤ mN M') (hu : usedC w' = usedC w ∧ usedS P.2 w' = usedS P.2 w ∧ w'.2.length = w.2.length) (sm : Small M M' rest)
    (d : decode (mB M) pc = .ok (.invokestatic idx, 3)) (cl : Call P M' as w (rv, w')) (g : Go P M (pc + 3) L (rv.toList ++ rest) w' out) : Go P M pc L st w out :=
  go_ch (fun l Z a0 p e R s1 m args below meth c α b n0 h0 uC uS ok hl T locs cells slots I => by
    obtain ⟨hw, fa, hx, hZ, hown, hc, hml, hret, hnm, hR, hn0, htop, hsz⟩ := ok
    obtain ⟨k1, k2, k3, k5, k6⟩ := lk
    obtain ⟨z1, z2, z3, z4, z5⟩ := sm
    have C := cl l Z a0 [] α b n0 T.heap hw fa hn0 I.2.1 hN'.2 (fun q => by rw [z3] at q; cases q)
    have Bk := backOf (Q := CQ P.2 Z α b n0 T.heap (mN M') w (rv, w')) (R := R) (p := p) (e := e) (below := below) (s := s1) (args := args) (len := 3) (W := (rest.map fun v => v.category).sum) C hZ (hw _ k5) (hw _ k3) (by rw [hR]; exact Nat.le_of_ble_eq_true z4) (by rw [hR]; exact Nat.le_of_ble_eq_true z5)
    obtain ⟨v, vm1, ⟨T2, Lx, kx, nx⟩, -, X2, ⟨L2, hQ, l2, y2, n2⟩, stp⟩ := Jvm.LawKit.callS I.1 hx (y := mY M') hown (mvT hZ (hw _ k1)) (mvT hZ (hw _ k2)) (mvT hZ (hw _ k3)) (mvT hZ (hw _ k5)) k6 Bk (g := mkF m pc (cL α b L) (cV α b st)) rfl (by show (cL α b L).size = c.maxLocals; rw [cL_size, hl, hml]) (argsL := cV α b as) (rest := cV α b rest) (lenOf pd (by simpa [cV] using hn)) (by subst hst; simp [cV])
      (by show 2 * 0 + _ ≤ _; rw [cV_sum]; exact Nat.le_of_eq (Nat.zero_add _)) (hb hc d) (fun _ _ => ⟨rfl, rfl, by rw [z1]; exact I.2.2.2.2.2.2.2.1, by rw [z2]; exact I.2.2.2.2.2.2.2.2.1⟩)
    dsimp only [Pt.U, Pt.locs, Pt.cells, Pt.slots] at X2 l2 y2 n2 stp hQ
    subst l2 y2 n2
    obtain ⟨rfl, N2, R2, F2, k, k8, k9⟩ := hQ
    obtain ⟨X, Rp, Fm, Nl, hs, u1, u2, c1, c2, hN⟩ := I
    rw [z1, z2] at X2
    refine ⟨T2, _, _, _, ⟨X2, R2, Fm.trans (F2.wide (Nat.le_refl _) (by have := Nat.mul_le_mul_left (cK P.2 + 1) hN'.1; omega)), Nl.app N2, ?_, ?_, ?_, c1, c2, by rw [hu.2.2]; exact hN⟩, fun target r => stp target ?_⟩
    · rw [k8]; have := hu.1; simp only at k9; omega
    · rw [hu.1]; exact u1
    · rw [hu.2.1]; exact u2
    · have e1 : cV α b (rv.toList ++ rest) = (rv.map (con α b)).toList ++ cV α b rest := by cases rv <;> rfl
      rw [e1] at r; exact r) g
/-- a constructor, by its contract -/
theorem go_init {k2 : Nat} {s2 : S} (lk : LinkI P (mY M).cls idx M') (pd : parseMethodDescriptor (mY M').desc = some ⟨ps, rt⟩) (hn : as.length = ps.length) (hid : id = (cK P.2 + 1) * i + 1) (hst : st = as.reverse ++ .ref id :: rest) (hnr : as.all nr = true) (ho : w.2[i]? = some (k, s)) (hw' : w' = (w.1, w.2.set i (k2, s2)))
    (hC : k2 = k + (mR M').cells) (hS : usedS P.2 (none, [(k2, s2)]) = usedS P.2 (none, [(k, s)]) + (mR M').slots) (htM : mTop M = true) (hR1 : Nat.ble (usedC w + (mR M').cells) ((mR M).cells + mUC M) = true) (hR2 : Nat.ble (usedS P.2 w + (mR M').slots) ((mR M).slots + mUS M) = true)
    (hq : usedC w = (cK P.2 + 1) * i + usedC (none, [(k, s)]) ∧ usedC (none, [(k, s)]) = mUC M' ∧ usedS P.2 (none, [(k, s)]) = mUS M') (sm : Nat.ble ((mR M').frames + 1) (mR M).frames = true ∧ Nat.ble ((rest.map fun v => v.category).sum + (mL M' + 11) + (mR M').locals) (mR M).locals = true)
    (d : decode (mB M) pc = .ok (.invokespecial idx, 3)) (cl : Call P M' (.ref 1 :: as) (none, [(k, s)]) (none, (none, [(k2, s2)]))) (g : Go P M (pc + 3) L rest w' out) : Go P M pc L st w out :=
  go_ch (fun l Z a0 p e R s1 m args below meth c α b n0 h0 uC uS ok hl T locs cells slots I => by
    subst hw' hid
    obtain ⟨hw, fa, hx, hZ, hown, hc, hml, hret, hnm, hR, hn0, htop, hsz⟩ := ok
    obtain ⟨k1, k4, k5, k6, k7, k9, k10⟩ := lk
    obtain ⟨z4, z5⟩ := sm
    obtain ⟨t1, t2, t3⟩ := htop htM
    have Ic := I.2.2.2.2.2.1
    have Is := I.2.2.2.2.2.2.1
    have b1 : cells + (mR M').cells ≤ R.cells := by have := Nat.le_of_ble_eq_true hR1; rw [hR]; omega
    have b2 : slots + (mR M').slots ≤ R.slots := by have := Nat.le_of_ble_eq_true hR2; rw [hR]; omega
    have C := cl l Z a0 [] 0 (b + (cK P.2 + 1) * i) n0 T.heap hw fa (Nat.le_trans hn0 (Nat.le_add_right _ _)) (rep_obj I.2.1 ho) (by rw [k7]; exact Nat.le_refl _) (fun _ => ⟨by rw [I.2.2.2.2.1]; have := hq.1; omega, hq.2.1, hq.2.2⟩)
    have Bk := backOf (Q := CQ P.2 Z 0 (b + (cK P.2 + 1) * i) n0 T.heap (mN M') (none, [(k, s)]) (none, (none, [(k2, s2)]))) (R := R) (p := p) (e := e) (below := below) (s := s1) (args := args) (len := 3) (W := (rest.map fun v => v.category).sum) C hZ (hw _ k5) (by rw [k6]; exact fa.2.1) (by rw [hR]; exact Nat.le_of_ble_eq_true z4) (by rw [hR]; exact Nat.le_of_ble_eq_true z5)
    have hy : (mY M').cls ≠ "java/lang/invoke/MethodHandle" ∧ (mY M').cls ≠ "java/lang/invoke/VarHandle" := by rw [k6]; exact fa.2.2.2.2.2.2
    have hcd := hw _ k5
    rw [k9] at hcd
    obtain ⟨v, vm1, ⟨T2, Lx, kx, nx⟩, -, X2, ⟨L2, hQ, l2, y2, n2⟩, stp⟩ := I.1.specialBack hx (y := mY M') k10 hown (mvT hZ (hw _ k1)) (mvT hZ (hw _ k4)) (mvT hZ hcd) hy Bk (g := mkF m pc (cL α b L) (cV α b st)) rfl (by show (cL α b L).size = c.maxLocals; rw [cL_size, hl, hml]) (Steps.refl _) (a := b + (cK P.2 + 1) * i) (argsL := as) (rest := cV α b rest) (lenOf pd hn) (cV_call hnr hst)
      (by show 2 * 0 + _ ≤ _; rw [cV_sum]; exact Nat.le_of_eq (Nat.zero_add _)) (hb hc d) (fun _ _ => ⟨by rw [show (cV 0 (b + (cK P.2 + 1) * i) (.ref 1 :: as)) = .ref (b + (cK P.2 + 1) * i) :: cV 0 (b + (cK P.2 + 1) * i) as from rfl, cV_nr hnr], rfl, b1, b2⟩)
    dsimp only [Pt.U, Pt.locs, Pt.cells, Pt.slots] at X2 l2 y2 n2 stp hQ
    subst l2 y2 n2
    obtain ⟨rfl, N2, R2, F2, k8⟩ := hQ
    rw [k7] at F2
    exact ⟨T2, _, _, _, inv_obj I ho X2 N2 R2 F2 k8 hC hS b1 b2, fun target r => stp.trans r⟩) g
/-- Object's constructor -/
theorem go_objinit {a : Nat} (k1 : Jvm.Cond.methodLink (mY M).cls idx Lib.objectInit ∈ P.1) (k2 : Jvm.Cond.instanceMethod Lib.objectInit ∈ P.1) (k3 : Jvm.Cond.code Lib.objectInit ⟨#[0xb1]⟩ 1 none ∈ P.1) (z4 : Nat.ble 1 (mR M).frames = true) (z5 : Nat.ble ((rest.map fun v => v.category).sum + 12) (mR M).locals = true)
    (d : decode (mB M) pc = .ok (.invokespecial idx, 3)) (g : Go P M (pc + 3) L rest w out) : Go P M pc L (.ref (a + 1) :: rest) w out :=
  go_ch (fun l Z a0 p e R s1 m args below meth c α b n0 h0 uC uS ok hl T locs cells slots I => by
    obtain ⟨hw, fa, hx, hZ, hown, hc, hml, hret, hnm, hR, hn0, htop, hsz⟩ := ok
    obtain ⟨X, Rp, Fm, Nl, hs, u1, u2, c1, c2, hN⟩ := I
    obtain ⟨T', X', e', stp⟩ := initO X hx hZ hown (hw _ k1) (hw _ k2) (hw _ k3) rfl (g := mkF m pc (cL α b L) (cV α b (.ref (a + 1) :: rest))) rfl (by show (cL α b L).size = c.maxLocals; rw [cL_size, hl, hml]) (a := b + a) (rest := cV α b rest) rfl (hb hc d) (by rw [hR]; exact Nat.le_of_ble_eq_true z4) (W := (rest.map fun v => v.category).sum) (by show 2 * 0 + _ ≤ _; rw [cV_sum]; exact Nat.le_of_eq (Nat.zero_add _)) (by rw [hR]; exact Nat.le_of_ble_eq_true z5)
    exact ⟨T', locs, cells, slots, ⟨X', by rw [e']; exact Rp, by rw [e']; exact Fm, Nl, by rw [e']; exact hs, u1, u2, c1, c2, hN⟩, fun target r => stp target r⟩) g
/-- a new object of the class -/
theorem go_new {n : Nat} (k1 : Jvm.Cond.classLink (mY M).cls idx (cN P.2) ∈ P.1) (htM : mTop M = true) (hn : w.2.length = n) (hq : usedC w = (cK P.2 + 1) * n) (hw' : w' = (w.1, w.2 ++ [(0, s0)])) (hN' : Nat.blt n (mN M) = true) (hR1 : Nat.ble (usedC w + 1) ((mR M).cells + mUC M) = true) (hR2 : Nat.ble (usedS P.2 w + cF P.2) ((mR M).slots + mUS M) = true)
    (d : decode (mB M) pc = .ok (.new idx, 3)) (hid : id = (cK P.2 + 1) * n + 1) (g : Go P M (pc + 3) L (.ref id :: st) w' out) : Go P M pc L st w out :=
  go_ch (fun l Z a0 p e R s1 m args below meth c α b n0 h0 uC uS ok hl T locs cells slots I => by
    subst hw' hid
    obtain ⟨hw, fa, hx, hZ, hown, hc, hml, hret, hnm, hR, hn0, htop, hsz⟩ := ok
    obtain ⟨X, Rp, Fm, Nl, hs, u1, u2, c1, c2, hN⟩ := I
    obtain ⟨t1, t2, t3⟩ := htop htM
    have b1 : cells + 1 ≤ R.cells := by have := Nat.le_of_ble_eq_true hR1; rw [hR]; omega
    have b2 : slots + cF P.2 ≤ R.slots := by have := Nat.le_of_ble_eq_true hR2; rw [hR]; omega
    obtain ⟨T2, h2, X2, e2, E2, A2, D2, -, st2⟩ := newO X hx hZ hown (hw _ k1) fa.1 fa.2.1 rfl (g := mkF m pc (cL α b L) (cV α b st)) rfl (hb hc d) b1 b2
    have ha : T.heap.size = b + (cK P.2 + 1) * n := by rw [hs, t1]; omega
    rw [ha] at A2 D2 st2
    have sz2 : T2.heap.size = T.heap.size + 1 := by
      have q1 := X2.heapSize
      have q2 : b + (cK P.2 + 1) * n < h2.size := A2.lt
      rw [e2] at q1 ⊢
      omega
    refine ⟨T2, locs, _, _, ⟨X2, ?_, by rw [e2]; exact Fm.ext E2, Nl, by rw [sz2, hs]; omega, ?_, ?_, b1, b2, ?_⟩, fun target r => st2 target ?_⟩
    · rw [e2]
      refine ⟨fun l1 h1 => (Rp.ext E2).1 l1 h1, fun j oj hj => ?_⟩
      by_cases q : j < w.2.length
      · rw [show (w.1, w.2 ++ [(0, s0)]).2 = w.2 ++ [(0, s0)] from rfl, List.getElem?_append_left q] at hj
        exact (Rp.ext E2).2 j oj hj
      · have hj' := get_lt hj
        simp at hj'
        have ej : j = n := by omega
        subst ej
        rw [show (w.1, w.2 ++ [(0, s0)]).2 = w.2 ++ [(0, s0)] from rfl, List.getElem?_append_right (by omega)] at hj
        rw [hn] at hj; simp at hj; subst hj
        refine ⟨A2, fun f x hx => ?_, fun q x hx => ?_, fun q x _ hq => absurd hq (Nat.not_lt_zero _)⟩
        · have := D2 (fa.2.2.1 f x hx).1 (fa.2.2.1 f x hx).2
          rw [fa.2.2.2.2.2.1 f x hx] at this
          exact this
        · have := D2 (fa.2.2.2.1 q x hx).1 (fa.2.2.2.1 q x hx).2
          rw [if_neg (Nat.not_lt_zero _)]
          exact this
    · simp [usedC] at u1 ⊢; omega
    · simp [usedS] at u2 ⊢; omega
    · simp; have : n < mN M := by simpa [Nat.blt_eq] using hN'
      omega
    · exact r) g
/-- a new array, laid into its field at once -/
theorem rep_new {Z : State} {a0 : Array Value} {ci : CI} {h h1 h2 : Heap} {b : Nat} {s s' : S} {k : Nat} {nm ds : String} {ty : FieldType} {cap : Nat} {cl : Cell} (fa : Facts Z a0 ci) (F : Rep1 Z ci h b (k, s)) (hf : (cA ci)[k]? = some (nm, ds, ty, cap)) (E : Ext h h1) (A : Arr Z h1 (b + 1 + k) cl ty) (ec : cl.slots = (arV ty s' k).toArray)
    (Wt : Wr h1 h2 b (Jvm.RoadKit.slotOf Z (cN ci) nm ds) (.ref (b + 1 + k))) (ho : ∀ q' x, (cA ci)[q']? = some x → q' ≠ k → arV x.2.2.1 s' q' = arV x.2.2.1 s q') (ha : gI s' = gI s) (hbb : gL s' = gL s) : Rep1 Z ci h2 b (k + 1, s') := by
  obtain ⟨f1, f2, f3, f4⟩ := F
  obtain ⟨-, -, g1, g2, g3, -⟩ := fa
  have lt := get_lt hf
  refine ⟨(f1.ext E).wr Wt, fun f x hx => ?_, fun q x hx => ?_, fun q x hx hq => ?_⟩
  · have e : scV x.2.2 s' f = scV x.2.2 s f := by unfold scV; split <;> simp [ha, hbb]
    have lt' := get_lt hx
    show Fld Z h2 b (cN ci) x.1 x.2.1 (scV x.2.2 s' f)
    rw [e]
    refine ((f2 f x hx).ext E).other Wt (Or.inr ?_)
    refine slot_ne (g1 f x hx).1 (g2 k _ hf).1 ?_ (g1 f x hx).2 (g2 k _ hf).2
    intro en
    have n1 : ((cS ci).map (fun x => x.1) ++ (cA ci).map (fun x => x.1))[f]? = some x.1 := by rw [List.getElem?_append_left (by simpa using lt')]; simp [hx]
    have n2 : ((cS ci).map (fun x => x.1) ++ (cA ci).map (fun x => x.1))[(cS ci).length + k]? = some nm := by rw [List.getElem?_append_right (by simp)]; simp [hf]
    rw [en] at n1
    obtain ⟨i1, j1⟩ := List.getElem?_eq_some_iff.mp n1
    obtain ⟨i2, j2⟩ := List.getElem?_eq_some_iff.mp n2
    have := (List.getElem_inj g3).mp (j1.trans j2.symm)
    omega
  · by_cases e : q = k
    · subst e
      cases hf.symm.trans hx
      rw [if_pos (show q < (q + 1, s').1 from Nat.lt_succ_self q)]
      exact ((f3 q _ hf).ext E).same Wt
    · have lt' := get_lt hx
      have e2 : (if q < (k + 1, s').1 then Value.ref (b + 1 + q) else Value.null) = (if q < (k, s).1 then Value.ref (b + 1 + q) else Value.null) := by
        show (if q < k + 1 then _ else _) = (if q < k then _ else _)
        by_cases q1 : q < k
        · rw [if_pos q1, if_pos (by omega)]
        · rw [if_neg q1, if_neg (by omega)]
      rw [e2]
      refine ((f3 q x hx).ext E).other Wt (Or.inr ?_)
      refine slot_ne (g2 q x hx).1 (g2 k _ hf).1 ?_ (g2 q x hx).2 (g2 k _ hf).2
      intro en
      have n1 : ((cS ci).map (fun x => x.1) ++ (cA ci).map (fun x => x.1))[(cS ci).length + q]? = some x.1 := by rw [List.getElem?_append_right (by simp)]; simp [hx]
      have n2 : ((cS ci).map (fun x => x.1) ++ (cA ci).map (fun x => x.1))[(cS ci).length + k]? = some nm := by rw [List.getElem?_append_right (by simp)]; simp [hf]
      rw [en] at n1
      obtain ⟨i1, j1⟩ := List.getElem?_eq_some_iff.mp n1
      obtain ⟨i2, j2⟩ := List.getElem?_eq_some_iff.mp n2
      have := (List.getElem_inj g3).mp (j1.trans j2.symm)
      omega
  · by_cases e : q = k
    · subst e
      cases hf.symm.trans hx
      exact ⟨cl, A.other Wt (nq (by omega)), ec⟩
    · obtain ⟨c, B, eb⟩ := f4 q x hx (by have : q < k + 1 := hq; show q < k; omega)
      refine ⟨c, (B.ext E).other Wt (nq (by omega)), eb.trans ?_⟩
      rw [ho q x hx e]
theorem go_newV {aty : ArrayType} {ty : FieldType} {nm ds : String} {cap : Nat} {n : Int32} {s' : S} (hty : newarray.typeOf aty = ty) (ha : (cA P.2)[k]? = some (nm, ds, ty, cap)) (k0 : Jvm.Cond.arrayClass ty ∈ P.1) (k1 : Jvm.Cond.fieldLink (cN P.2) idx (cN P.2) nm ds ∈ P.1) (hM : (mY M).cls = cN P.2)
    (hlays : Jvm.Cond.lays (cN P.2) (cN P.2) nm ds ∈ P.1 ∨ (Jvm.Cond.laysFinal (cN P.2) (cN P.2) nm ds ∈ P.1 ∧ (mY M).name = "<init>")) (htM : mTop M = true) (hp : 0 < mN M) (hn : ¬ n < 0) (hcap : Nat.ble n.toNatClampNeg cap = true) (hbig : Nat.ble (cap * 8) 536870912 = true)
    (hR1 : Nat.ble (1 + k + 1) ((mR M).cells + mUC M) = true) (hR2 : Nat.ble (usedS P.2 (none, [(k, s)]) + cap) ((mR M).slots + mUS M) = true)
    (hv : arV ty s' k = List.replicate n.toNatClampNeg (defaultValue ty)) (hoth : ∀ q' x, (cA P.2)[q']? = some x → q' ≠ k → arV x.2.2.1 s' q' = arV x.2.2.1 s q') (hgI : gI s' = gI s) (hgL : gL s' = gL s)
    (d : decode (mB M) pc = .ok (.newarray aty, 2)) (d2 : decode (mB M) (pc + 2) = .ok (.putfield idx, 3)) (g : Go P M (pc + 5) L st (none, [(k + 1, s')]) out) : Go P M pc L (.int n :: .ref 1 :: st) (none, [(k, s)]) out :=
  go_ch (fun l Z a0 p e R s1 m args below meth c α b n0 h0 uC uS ok hl T locs cells slots I => by
    obtain ⟨hw, fa, hx, hZ, hown, hc, hml, hret, hnm, hR, hn0, htop, hsz⟩ := ok
    obtain ⟨X, Rp, Fm, Nl, hs, u1, u2, c1, c2, hN⟩ := I
    obtain ⟨t1, t2, t3⟩ := htop htM
    have u1' : cells + uC = 1 + k := by simpa [usedC] using u1
    have b1 : cells + 1 ≤ R.cells := by have := Nat.le_of_ble_eq_true hR1; rw [hR]; omega
    have b2 : slots + cap ≤ R.slots := by have := Nat.le_of_ble_eq_true hR2; rw [hR]; omega
    subst hty
    obtain ⟨T2, h2, cA2, X2, e2, E2, A2, st2⟩ := newP X hx hZ (hw _ k0) rfl (g := mkF m pc (cL α b L) (.int n :: .ref b :: cV α b st)) rfl (hb hc d) rfl hn (Nat.le_of_ble_eq_true hcap) (Nat.le_of_ble_eq_true hbig) b1 b2
    have hadr : T.heap.size = b + 1 + k := by rw [hs, t1]; omega
    rw [hadr] at A2 st2
    have sz2 : T2.heap.size = T.heap.size + 1 := by
      have q1 := X2.heapSize
      have q2 : b + 1 + k < h2.size := A2.lt
      rw [e2] at q1 ⊢
      omega
    have Rp1 := rep_one Rp
    have Fd := Rp1.2.2.1 k _ ha
    rw [if_neg (show ¬ k < (k, s).1 from Nat.lt_irrefl k)] at Fd
    rw [hM] at hown
    obtain ⟨T3, h3, X3, e3, Wt, st3⟩ := putF X2 hx hZ hown (host := "") (Or.inl (hw _ k1)) Via.refl e2 (Fd.ext E2) (Rp1.1.ext E2) (hlays.imp (fun q => hw _ q) (fun q => ⟨hw _ q.1, rfl, hnm.trans q.2⟩)) fa.1 (fa.2.2.2.1 k _ ha).2 (v := .ref (b + 1 + k)) rfl rfl (g := mkF m (pc + 2) (cL α b L) (.ref (b + 1 + k) :: .ref b :: cV α b st)) rfl rfl (hb hc d2)
    refine ⟨T3, _, _, _, ⟨X3, rep_mk (by rw [e3]; exact rep_new fa Rp1 ha E2 A2 (by rw [hv]; simp [newA]) Wt hoth hgI hgL), by rw [e3]; exact (Fm.ext E2).wr Wt (Nat.le_refl _) (by have := Nat.mul_le_mul_left (cK P.2 + 1) hp; omega), Fr.snoc X3 Nl hn0, by rw [e3, Wt.size, ← e2, sz2, hs]; omega, by simp [usedC]; omega, ?_, b1, b2, hN⟩, fun target r => st2 target (st3 target r)⟩
    have hk := get_lt ha
    simp only [usedS, List.map_cons, List.map_nil, List.sum_cons, List.sum_nil] at u2 ⊢
    rw [List.take_add_one, List.map_append, List.sum_append, ha]
    simp [List.map_take] at u2 ⊢; omega) g
theorem go_newI {aty : ArrayType} {ty : FieldType} {nm ds : String} {cap : Nat} {n : Int32} (hty : newarray.typeOf aty = ty) (hi : ty = .int ∨ ty = .boolean ∨ ty = .byte) (ha : (cA P.2)[k]? = some (nm, ds, ty, cap)) (k0 : Jvm.Cond.arrayClass ty ∈ P.1) (k1 : Jvm.Cond.fieldLink (cN P.2) idx (cN P.2) nm ds ∈ P.1) (hM : (mY M).cls = cN P.2)
    (hlays : Jvm.Cond.lays (cN P.2) (cN P.2) nm ds ∈ P.1 ∨ (Jvm.Cond.laysFinal (cN P.2) (cN P.2) nm ds ∈ P.1 ∧ (mY M).name = "<init>")) (htM : mTop M = true) (hp : 0 < mN M) (hn : ¬ n < 0) (hcap : Nat.ble n.toNatClampNeg cap = true) (hbig : Nat.ble (cap * 8) 536870912 = true)
    (hR1 : Nat.ble (1 + k + 1) ((mR M).cells + mUC M) = true) (hR2 : Nat.ble (usedS P.2 (none, [(k, s)]) + cap) ((mR M).slots + mUS M) = true)
    (d : decode (mB M) pc = .ok (.newarray aty, 2)) (d2 : decode (mB M) (pc + 2) = .ok (.putfield idx, 3)) (g : Go P M (pc + 5) L st (none, [(k + 1, sA s k (rep n.toNatClampNeg 0))]) out) : Go P M pc L (.int n :: .ref 1 :: st) (none, [(k, s)]) out :=
  go_newV hty ha k0 k1 hM hlays htM hp hn hcap hbig hR1 hR2 (by rcases hi with rfl | rfl | rfl <;> simp [arV, gA_sA, defaultValue, rep]) (fun q' x _ h => arV_sA s k _ _ q' h) rfl rfl d d2 g
theorem go_newJ {nm ds : String} {cap : Nat} {n : Int32} (ha : (cA P.2)[k]? = some (nm, ds, .long, cap)) (k0 : Jvm.Cond.arrayClass .long ∈ P.1) (k1 : Jvm.Cond.fieldLink (cN P.2) idx (cN P.2) nm ds ∈ P.1) (hM : (mY M).cls = cN P.2)
    (hlays : Jvm.Cond.lays (cN P.2) (cN P.2) nm ds ∈ P.1 ∨ (Jvm.Cond.laysFinal (cN P.2) (cN P.2) nm ds ∈ P.1 ∧ (mY M).name = "<init>")) (htM : mTop M = true) (hp : 0 < mN M) (hn : ¬ n < 0) (hcap : Nat.ble n.toNatClampNeg cap = true) (hbig : Nat.ble (cap * 8) 536870912 = true)
    (hR1 : Nat.ble (1 + k + 1) ((mR M).cells + mUC M) = true) (hR2 : Nat.ble (usedS P.2 (none, [(k, s)]) + cap) ((mR M).slots + mUS M) = true)
    (d : decode (mB M) pc = .ok (.newarray .long, 2)) (d2 : decode (mB M) (pc + 2) = .ok (.putfield idx, 3)) (g : Go P M (pc + 5) L st (none, [(k + 1, sB s k (rep n.toNatClampNeg 0))]) out) : Go P M pc L (.int n :: .ref 1 :: st) (none, [(k, s)]) out :=
  go_newV (aty := .long) (ty := .long) rfl ha k0 k1 hM hlays htM hp hn hcap hbig hR1 hR2 (by simp [arV, gB_sB, defaultValue, rep]) (fun q' x _ h => arV_sB s k _ _ q' h) rfl rfl d d2 g
end Rules
/-! ## the start -/
theorem tsw_out {x : Int32} {lo hi : Int} (h1 : -2147483648 ≤ lo) (h2 : hi < 2147483648) (ks : List Int32) (hk : ks = ((List.range (hi - lo + 1).toNat).map fun (j : Nat) => Int32.ofInt (lo + (j : Int)))) (hx : ∀ k ∈ ks, x ≠ k) : x.toInt < lo ∨ x.toInt > hi := by
  by_cases q1 : x.toInt < lo
  · exact Or.inl q1
  by_cases q2 : x.toInt > hi
  · exact Or.inr q2
  refine absurd rfl (hx x ?_)
  rw [hk, List.mem_map]
  refine ⟨(x.toInt - lo).toNat, List.mem_range.mpr (by omega), ?_⟩
  rw [show lo + (((x.toInt - lo).toNat : Nat) : Int) = x.toInt by omega]
  exact Int32.ofInt_toInt x
theorem list_of_array {V : Type} (a : Array V) (f : Nat → V) (h : ∀ j, j < a.size → a[j]? = some (f j)) : a = ((List.range a.size).map f).toArray := by
  apply Array.ext'
  apply List.ext_getElem?
  intro j
  by_cases q : j < a.size
  · simpa [q] using h j q
  · simp [q]
theorem small_len {n : Nat} {k : Int32} (h : n < 2 ^ 31) (q : n.toInt32 ≤ k) : (n : Int) ≤ k.toInt := by
  have e : (Int32.ofNat n).toInt = n := Int32.toInt_ofNat_of_lt h
  have := Int32.le_iff_toInt_le.mp q
  rwa [show n.toInt32.toInt = n from e] at this
theorem script_of {s : State} {args : Array Value} {t : Term} {k : Int32} (hf : Fit s) (h1 : (Cond.arrayOf t .int).value args s none s [] = some true) (h2 : (Cond.le (.length t) (.int k)).value args s none s [] = some true) :
    ∃ (a : Nat) (l : List Int32), t.eval args s none [] s = some (.ref a) ∧ Ar s s.heap a .int (l.map .int) ∧ a < s.heap.size ∧ (l.length : Int) ≤ k.toInt := by
  obtain ⟨a, ev⟩ := arr_v h1
  obtain ⟨c, A⟩ := Arr.start ev h1
  obtain ⟨x, y, ex, ey, -, -⟩ := cmp_v (Or.inr (Or.inr h2))
  obtain ⟨b, cell, e1, e2, e3, ev2⟩ := Jvm.Lib.length_spec ex
  have ea : b = a := by rw [ev] at e1; cases e1; rfl
  have ec : cell = c := by
    have := Arr.fin (Vm.Alike.refl _) A
    rw [ea, this] at e2; cases e2; rfl
  subst ea ec ev2
  obtain ⟨n, en, S⟩ := Scr.start hf A e3
  have hle : cell.slots.size.toInt32 ≤ k := by
    have ek : (Term.int k).eval args s none [] s = some (.int k) := rfl
    simp only [Cond.value, ex, ek] at h2
    simpa using h2
  refine ⟨b, (List.range cell.slots.size).map fun j => atv cell (Int32.ofNat j), ev, ⟨cell, A, ?_⟩, A.lt, ?_⟩
  · rw [List.map_map]
    refine list_of_array cell.slots _ fun j hj => ?_
    have e4 : (Int32.ofNat j).toNatClampNeg = j := by
      have : (Int32.ofNat j).toInt = j := Int32.toInt_ofNat_of_lt (by omega)
      simp [Int32.toNatClampNeg, this]
    have e5 : ¬ (Int32.ofNat j < 0) := by
      rw [Int32.lt_iff_toInt_lt, Int32.toInt_ofNat_of_lt (by omega)]; simp
    have := S.2.2.2 (Int32.ofNat j) (by rw [e4]; rintro (q | q); exact e5 q; omega)
    rw [e4] at this
    exact this
  · simpa using small_len e3 hle
theorem repW_none (Z : State) (ci : CI) (α b : Nat) (h : Heap) : RepW Z ci α b (none, []) h := ⟨fun l hl => (by cases hl), fun i o ho => (by simp at ho)⟩
theorem repW_some {Z : State} {ci : CI} {α b : Nat} {h : Heap} {l : List Int32} (A : Ar Z h α .int (l.map .int)) (q : α < b) : RepW Z ci α b (some l, []) h := ⟨fun l' hl => by cases hl; exact ⟨A, q⟩, fun i o ho => by simp at ho⟩
end Jvm.AM
/-! ## plain lemmas on ints, arrays and updates -/
namespace Jvm.PL
open Jvm.AM
theorem ofNat_toInt {k : Nat} (h : k < 2147483648) : (Int32.ofNat k).toInt = k := Int32.toInt_ofNat_of_lt h
theorem ofNat_lt {k m : Nat} (hk : k < 2147483648) (hm : m < 2147483648) : Int32.ofNat k < Int32.ofNat m ↔ k < m := by
  rw [Int32.lt_iff_toInt_lt, ofNat_toInt hk, ofNat_toInt hm]; omega
theorem lt_lit {k m : Nat} (hk : k < 2147483648) (hm : m < 2147483648 := by decide) : Int32.ofNat k < (OfNat.ofNat m : Int32) ↔ k < m := ofNat_lt hk hm
theorem ofNat_succ (k : Nat) : Int32.ofNat k + 1 = Int32.ofNat (k + 1) := by
  rw [Int32.ofNat_add]; rfl
theorem ofNat_nonneg {k : Nat} (hk : k < 2147483648) : ¬ Int32.ofNat k < 0 := by rw [Int32.lt_iff_toInt_lt, ofNat_toInt hk]; simp
theorem ofNat_clamp {k : Nat} (hk : k < 2147483648) : (Int32.ofNat k).toNatClampNeg = k := by simp [Int32.toNatClampNeg, ofNat_toInt hk]
theorem ix_ofNat {A : Type} (l : List A) {k : Nat} (hk : k < 2147483648) : ix l (Int32.ofNat k) = l[k]? := by
  unfold ix; rw [if_neg (ofNat_nonneg hk), ofNat_clamp hk]
theorem st_ofNat {A : Type} (l : List A) (x : A) {k : Nat} (hk : k < 2147483648) (hl : k < l.length) : Jvm.AM.st l (Int32.ofNat k) x = some (l.set k x) := by
  unfold Jvm.AM.st; rw [if_neg (ofNat_nonneg hk), ofNat_clamp hk, if_pos hl]
theorem toInt_clamp {v : Int32} (h : ¬ v < 0) : (v.toNatClampNeg : Int) = v.toInt := by
  rw [Int32.lt_iff_toInt_lt] at h
  simp only [Int32.toNatClampNeg]
  have : (0 : Int32).toInt = 0 := rfl
  omega
theorem eq_ofNat {v : Int32} (h : ¬ v < 0) : v = Int32.ofNat v.toNatClampNeg ∧ v.toNatClampNeg < 2147483648 := by
  have h1 := toInt_clamp h
  have h2 := v.toInt_lt
  have h3 : v.toNatClampNeg < 2147483648 := by omega
  refine ⟨Int32.toInt_inj.mp ?_, h3⟩
  rw [ofNat_toInt h3]; exact h1.symm
theorem ix_rep {A : Type} {v : Int32} {n : Nat} {x : A} (h0 : ¬ v < 0) (h1 : v < Int32.ofNat n) (hn : n < 2147483648) : ix (rep n x) v = some x := by
  obtain ⟨e, hl⟩ := eq_ofNat h0
  rw [e] at h1 ⊢
  have h2 := (ofNat_lt hl hn).mp h1
  rw [ix_ofNat _ hl, rep_get, if_pos h2]
theorem ix_nat {A : Type} (l : List A) {v : Int32} (h0 : ¬ v < 0) : ix l v = l[v.toNatClampNeg]? := by unfold ix; rw [if_neg h0]
theorem st_nat {A : Type} (l : List A) {v : Int32} {x : A} (h0 : ¬ v < 0) (hl : v.toNatClampNeg < l.length) : Jvm.AM.st l v x = some (l.set v.toNatClampNeg x) := by
  unfold Jvm.AM.st; rw [if_neg h0, if_pos hl]
theorem clamp_lt {v : Int32} {n : Nat} (h0 : ¬ v < 0) (h1 : v < Int32.ofNat n) (hn : n < 2147483648) : v.toNatClampNeg < n := by
  obtain ⟨e, hl⟩ := eq_ofNat h0
  rw [e] at h1
  exact (ofNat_lt hl hn).mp h1
theorem clamp_inj {v w : Int32} (h0 : ¬ v < 0) (h1 : ¬ w < 0) : v.toNatClampNeg = w.toNatClampNeg ↔ v = w := by
  constructor
  · intro h
    have a := toInt_clamp h0
    have b := toInt_clamp h1
    exact Int32.toInt_inj.mp (by omega)
  · intro h; rw [h]
end Jvm.PL
namespace Jvm.PL
open Jvm.AM
/-- all but the named fields and arrays is as it was -/
def Fx (I L A B : List Nat) (s s' : S) : Prop := (∀ f, f ∉ I → gI s' f = gI s f) ∧ (∀ f, f ∉ L → gL s' f = gL s f) ∧ (∀ f, f ∉ A → gA s' f = gA s f) ∧ (∀ f, f ∉ B → gB s' f = gB s f)
theorem Fx.refl (I L A B : List Nat) (s : S) : Fx I L A B s s := ⟨fun _ _ => rfl, fun _ _ => rfl, fun _ _ => rfl, fun _ _ => rfl⟩
theorem Fx.trans {I L A B : List Nat} {s t u : S} (h : Fx I L A B s t) (k : Fx I L A B t u) : Fx I L A B s u :=
  ⟨fun f q => (k.1 f q).trans (h.1 f q), fun f q => (k.2.1 f q).trans (h.2.1 f q), fun f q => (k.2.2.1 f q).trans (h.2.2.1 f q), fun f q => (k.2.2.2 f q).trans (h.2.2.2 f q)⟩
theorem Fx.mono {I L A B I' L' A' B' : List Nat} {s t : S} (h : Fx I L A B s t) (a : ∀ f ∈ I, f ∈ I') (b : ∀ f ∈ L, f ∈ L') (c : ∀ f ∈ A, f ∈ A') (d : ∀ f ∈ B, f ∈ B') : Fx I' L' A' B' s t :=
  ⟨fun f q => h.1 f fun x => q (a f x), fun f q => h.2.1 f fun x => q (b f x), fun f q => h.2.2.1 f fun x => q (c f x), fun f q => h.2.2.2 f fun x => q (d f x)⟩
theorem Fx.sA {I L A B : List Nat} {s t : S} {f : Nat} {l : List Int32} (h : Fx I L A B s t) (hf : f ∈ A) : Fx I L A B s (Jvm.AM.sA t f l) :=
  ⟨fun g q => (gI_sA _ _ _ _).trans (h.1 g q), fun g q => (gL_sA _ _ _ _).trans (h.2.1 g q), fun g q => by rw [gA_sA, if_neg (fun e : g = f => q (e ▸ hf))]; exact h.2.2.1 g q, fun g q => (gB_sA _ _ _ _).trans (h.2.2.2 g q)⟩
theorem Fx.sI {I L A B : List Nat} {s t : S} {f : Nat} {l : Int32} (h : Fx I L A B s t) (hf : f ∈ I) : Fx I L A B s (Jvm.AM.sI t f l) :=
  ⟨fun g q => by rw [gI_sI, if_neg (fun e : g = f => q (e ▸ hf))]; exact h.1 g q, fun g q => (gL_sI _ _ _ _).trans (h.2.1 g q), fun g q => (gA_sI _ _ _ _).trans (h.2.2.1 g q), fun g q => (gB_sI _ _ _ _).trans (h.2.2.2 g q)⟩
theorem Fx.sL {I L A B : List Nat} {s t : S} {f : Nat} {l : Int64} (h : Fx I L A B s t) (hf : f ∈ L) : Fx I L A B s (Jvm.AM.sL t f l) :=
  ⟨fun g q => (gI_sL _ _ _ _).trans (h.1 g q), fun g q => by rw [gL_sL, if_neg (fun e : g = f => q (e ▸ hf))]; exact h.2.1 g q, fun g q => (gA_sL _ _ _ _).trans (h.2.2.1 g q), fun g q => (gB_sL _ _ _ _).trans (h.2.2.2 g q)⟩
theorem Fx.sB {I L A B : List Nat} {s t : S} {f : Nat} {l : List Int64} (h : Fx I L A B s t) (hf : f ∈ B) : Fx I L A B s (Jvm.AM.sB t f l) :=
  ⟨fun g q => (gI_sB _ _ _ _).trans (h.1 g q), fun g q => (gL_sB _ _ _ _).trans (h.2.1 g q), fun g q => (gA_sB _ _ _ _).trans (h.2.2.1 g q), fun g q => by rw [gB_sB, if_neg (fun e : g = f => q (e ▸ hf))]; exact h.2.2.2 g q⟩
theorem ofNat_add' (a b : Nat) : Int32.ofNat a + Int32.ofNat b = Int32.ofNat (a + b) := (Int32.ofNat_add a b).symm
/-- the first k entries are x -/
def Upto {A : Type} (l : List A) (k : Nat) (x : A) : Prop := ∀ i, i < k → l[i]? = some x
theorem Upto.zero {A : Type} (l : List A) (x : A) : Upto l 0 x := fun _ h => absurd h (Nat.not_lt_zero _)
theorem Upto.set {A : Type} {l : List A} {k : Nat} {x : A} (h : Upto l k x) (hk : k < l.length) : Upto (l.set k x) (k + 1) x := fun i hi => by
  by_cases e : i = k
  · subst e; simp [hk]
  · rw [List.getElem?_set_ne (Ne.symm e)]; exact h i (by omega)
theorem Upto.all {A : Type} {l : List A} {k : Nat} {x : A} (h : Upto l k x) (hk : l.length = k) : l = rep k x := by
  apply List.ext_getElem?
  intro i
  rw [rep_get]
  by_cases q : i < k
  · rw [if_pos q]; exact h i q
  · rw [if_neg q, List.getElem?_eq_none (by omega)]
end Jvm.PL
namespace Jvm.PL
open Jvm.AM
/-- a loop by its invariant; m: the turns that are left -/
theorem run_loop {A B : Type} (L : Nat → A → B) (F : A → B) (I : Nat → A → Prop) (h : ∀ n m a, I (m + 1) a → ∃ a', L (n + 1) a = L n a' ∧ I m a') (h0 : ∀ n a, I 0 a → L (n + 1) a = F a) : ∀ m n a, m < n → I m a → ∃ a', L n a = F a' ∧ I 0 a'
  | 0, n + 1, a, _, i => ⟨a, h0 n a i, i⟩
  | m + 1, n + 1, a, q, i => by
    obtain ⟨a', e, i'⟩ := h n m a i
    obtain ⟨a'', e', i''⟩ := run_loop L F I h h0 m n a' (by omega) i'
    exact ⟨a'', e.trans e', i''⟩
/-- 'for k in 0 .. N' -/
theorem run_for {B : Type} (L : Nat → Int32 → S → B) (F : S → B) (N : Nat) (I : Nat → S → Prop) (h : ∀ n k s, k < N → I k s → ∃ s', L (n + 1) (Int32.ofNat k) s = L n (Int32.ofNat (k + 1)) s' ∧ I (k + 1) s') (h0 : ∀ n s, I N s → L (n + 1) (Int32.ofNat N) s = F s) (n : Nat) (s : S) (hn : N < n) (i : I 0 s) :
    ∃ s', L n (Int32.ofNat 0) s = F s' ∧ I N s' := by
  obtain ⟨a, e, k, hk, ea, ia⟩ := run_loop (fun n (a : Int32 × S) => L n a.1 a.2) (fun a => F a.2) (fun m a => ∃ k, k + m = N ∧ a.1 = Int32.ofNat k ∧ I k a.2)
    (fun n m a ⟨k, h1, h2, h3⟩ => by
      obtain ⟨s', e, i'⟩ := h n k a.2 (by omega) h3
      exact ⟨(Int32.ofNat (k + 1), s'), by show L (n + 1) a.1 a.2 = _; rw [h2]; exact e, k + 1, by omega, rfl, i'⟩)
    (fun n a ⟨k, h1, h2, h3⟩ => by
      have : k = N := by omega
      subst this
      show L (n + 1) a.1 a.2 = _; rw [h2]; exact h0 n a.2 h3) N n (Int32.ofNat 0, s) hn ⟨0, by omega, rfl, i⟩
  have : k = N := by omega
  subst this
  exact ⟨a.2, e, ia⟩
end Jvm.PL
namespace Jvm.PL
open Jvm.AM
/-- the end test of a loop over a script -/
theorem len_lt {n k c : Nat} (hn : n ≤ 100000) (hk : k ≤ 100000) (hc : c ≤ 100000) : (n.toInt32 - Int32.ofNat c) < Int32.ofNat k ↔ n < k + c := by
  rw [Int32.lt_iff_toInt_lt, Int32.toInt_sub, show n.toInt32 = Int32.ofNat n from rfl, ofNat_toInt (by omega), ofNat_toInt (by omega), ofNat_toInt (by omega)]
  have : ((n : Int) - c).bmod (2 ^ 32) = n - c := by
    rw [Int.bmod_eq_of_le] <;> omega
  rw [this]; omega
/-- a loop over a script, c entries a turn: it ends in what every way out says -/
theorem run_script {A B : Type} (L : Nat → Int32 → A → B) (c len : Nat) (hc : 0 < c) (P : B → Prop) (I : Nat → A → Prop) (h : ∀ n k a, k + c ≤ len → I k a → P (L (n + 1) (Int32.ofNat k) a) ∨ ∃ a', L (n + 1) (Int32.ofNat k) a = L n (Int32.ofNat (k + c)) a' ∧ I (k + c) a') (h0 : ∀ n k a, k ≤ len → len < k + c → I k a → P (L (n + 1) (Int32.ofNat k) a)) : ∀ n k a, len < n + k → k ≤ len → I k a → P (L n (Int32.ofNat k) a)
  | 0, k, a, hn, hk, i => by omega
  | n + 1, k, a, hn, hk, i => by
    by_cases q : k + c ≤ len
    · rcases h n k a q i with p | ⟨a', e, i'⟩
      · exact p
      · rw [e]; exact run_script L c len hc P I h h0 n (k + c) a' (by omega) q i'
    · exact h0 n k a hk (by omega) i
theorem ix_some {A : Type} (l : List A) {k : Nat} (hk : k < 2147483648) (hl : k < l.length) : ∃ x, ix l (Int32.ofNat k) = some x := ⟨l[k], by rw [ix_ofNat _ hk, List.getElem?_eq_getElem hl]⟩
theorem ofNat_lit (a b : Nat) : Int32.ofNat a + (OfNat.ofNat b : Int32) = Int32.ofNat (a + b) := ofNat_add' a b
end Jvm.PL
namespace Jvm.PL
open Jvm.AM
theorem upd_same {A : Type} (g : Nat → A) (f : Nat) (a b : A) : aupd (aupd g f a) f b = aupd g f b := by
  funext x; unfold aupd; by_cases q : x = f <;> simp [q]
theorem upd_comm {A : Type} (g : Nat → A) {f h : Nat} (n : f ≠ h) (a b : A) : aupd (aupd g f a) h b = aupd (aupd g h b) f a := by
  funext x; unfold aupd
  by_cases q : x = f
  · have : ¬ f = h := n
    simp [q, this]
  · by_cases r : x = h
    · rw [if_pos r, if_neg q, if_pos r]
    · rw [if_neg r, if_neg q, if_neg q, if_neg r]
theorem sA_same (s : S) (f : Nat) (a b : List Int32) : Jvm.AM.sA (Jvm.AM.sA s f a) f b = Jvm.AM.sA s f b := by
  unfold Jvm.AM.sA; simp only [upd_same]
theorem sA_comm (s : S) {f h : Nat} (n : f ≠ h) (a b : List Int32) : Jvm.AM.sA (Jvm.AM.sA s f a) h b = Jvm.AM.sA (Jvm.AM.sA s h b) f a := by
  unfold Jvm.AM.sA; simp only; rw [upd_comm _ n]
end Jvm.PL
/-! ## rows of bits -/
namespace Jvm.PL
open Jvm.AM Jvm.Free
def bt (w : Int32) (y : Nat) : Bool := w.toBitVec.getLsbD y
theorem bt_zero (y : Nat) : bt 0 y = false := by simp [bt]
theorem bt_or (a b : Int32) (y : Nat) : bt (a ||| b) y = (bt a y || bt b y) := by simp [bt]
theorem bt_and (a b : Int32) (y : Nat) : bt (a &&& b) y = (bt a y && bt b y) := by simp [bt]
theorem bt_ge (w : Int32) {y : Nat} (h : 32 ≤ y) : bt w y = false := by unfold bt; exact BitVec.getLsbD_of_ge _ _ h
theorem bt_m1 {y : Nat} (h : y < 32) : bt (-1) y = true := by
  unfold bt
  rw [show (-1 : Int32).toBitVec = BitVec.allOnes 32 from rfl, BitVec.getLsbD_allOnes]
  simp [h]
theorem bt_not (a : Int32) {y : Nat} (h : y < 32) : bt (a ^^^ (-1)) y = !bt a y := by
  have := bt_m1 h
  unfold bt at *
  rw [Int32.toBitVec_xor, BitVec.getLsbD_xor, this]; simp
theorem bt_andn (a b : Int32) (y : Nat) : bt (a &&& (b ^^^ (-1))) y = (bt a y && !bt b y) := by
  rw [bt_and]
  by_cases h : y < 32
  · rw [bt_not b h]
  · rw [bt_ge a (by omega)]; simp
theorem bt_ext {a b : Int32} (h : ∀ y, y < 32 → bt a y = bt b y) : a = b := by
  apply Int32.toBitVec_inj.mp
  apply BitVec.eq_of_getLsbD_eq
  intro i hi
  exact h i hi
theorem bt_eq0 {w : Int32} : w = 0 ↔ ∀ y, y < 32 → bt w y = false := by
  constructor
  · rintro rfl y _; exact bt_zero y
  · intro h; exact bt_ext fun y hy => by rw [h y hy, bt_zero]
theorem ushr_bit (w : Int32) {y : Nat} (hy : y < 32) : (XT.ushr w (Int32.ofNat y)).toBitVec = w.toBitVec >>> y := by
  unfold XT.ushr
  have h1 : ((Int32.ofNat y &&& 31).toUInt32.toBitVec).toNat = y := by
    show ((Int32.ofNat y &&& 31).toBitVec).toNat = y
    rw [Int32.toBitVec_and, BitVec.toNat_and]
    have e1 : (Int32.ofNat y).toBitVec.toNat = y := by
      show (BitVec.ofNat 32 y).toNat = y
      rw [BitVec.toNat_ofNat]; omega
    have e2 : (31 : Int32).toBitVec.toNat = 31 := rfl
    rw [e1, e2, show 31 = 2 ^ 5 - 1 from rfl, Nat.and_two_pow_sub_one_eq_mod]; omega
  show (w.toUInt32 >>> (Int32.ofNat y &&& 31).toUInt32).toBitVec = _
  rw [UInt32.toBitVec_shiftRight]
  show w.toBitVec >>> ((Int32.ofNat y &&& 31).toUInt32.toBitVec % 32) = _
  rw [BitVec.ushiftRight_eq']
  congr 1
  rw [BitVec.toNat_umod, h1]
  show y % 32 = y
  omega
theorem and1 (w : Int32) : (w &&& 1 = 0) ↔ bt w 0 = false := by
  constructor
  · intro h
    have : bt (w &&& 1) 0 = false := by rw [h, bt_zero]
    rw [bt_and] at this
    simpa [show bt 1 0 = true from rfl] using this
  · intro h
    refine bt_ext fun y hy => ?_
    rw [bt_and, bt_zero]
    cases y with
    | zero => rw [h]; rfl
    | succ y =>
      have : bt 1 (y + 1) = false := by
        unfold bt
        show (1#32).getLsbD (y + 1) = false
        simp [BitVec.getLsbD_one]
      rw [this]; simp
theorem test_bit (w : Int32) {y : Nat} (hy : y < 32) : (XT.ushr w (Int32.ofNat y) &&& 1 = 0) ↔ bt w y = false := by
  rw [and1]
  unfold bt
  rw [ushr_bit w hy]; simp
theorem shl_bit {b : Nat} (hb : b < 32) (y : Nat) : bt ((1 : Int32) <<< (Int32.ofNat b &&& 31)) y = decide (y = b) := by
  have h1 : (Int32.ofNat b &&& 31) = Int32.ofNat b := by
    apply Int32.toBitVec_inj.mp
    rw [Int32.toBitVec_and]
    apply BitVec.eq_of_toNat_eq
    rw [BitVec.toNat_and]
    have e1 : (Int32.ofNat b).toBitVec.toNat = b := by
      show (BitVec.ofNat 32 b).toNat = b
      rw [BitVec.toNat_ofNat]; omega
    have e2 : (31 : Int32).toBitVec.toNat = 31 := rfl
    rw [e1, e2, show 31 = 2 ^ 5 - 1 from rfl, Nat.and_two_pow_sub_one_eq_mod]; omega
  rw [h1]
  unfold bt
  have e : ((1 : Int32) <<< Int32.ofNat b).toBitVec = (1#32) <<< b := by
    rw [Int32.toBitVec_shiftLeft]
    show (1#32) <<< ((Int32.ofNat b).toBitVec.smod 32) = _
    have : (Int32.ofNat b).toBitVec.smod 32 = BitVec.ofNat 32 b := by
      have hz : ∀ b : Fin 32, (Int32.ofNat b.val).toBitVec.smod 32 = BitVec.ofNat 32 b.val := by decide
      exact hz ⟨b, hb⟩
    rw [this, BitVec.shiftLeft_eq']
    congr 1
    rw [BitVec.toNat_ofNat]; omega
  rw [e]
  simp only [BitVec.getLsbD_shiftLeft, BitVec.getLsbD_one]
  by_cases h : y = b
  · subst h; simp [hb]
  · simp [h]; omega
end Jvm.PL
namespace Jvm.Pilot.@@N@@
open Jvm Jvm.ClassFile Sem Op Lib Jvm.Free Jvm.Stand Jvm.LawKit Jvm.RoadKit Jvm.AM Jvm.PL Jvm.Pilot.@@N@@.Jvm.D
def ci1 : CI := ("DredViewKeeper", 18, [("kindInsert", "I", .int), ("kindDelete", "I", .int), ("n", "I", .int), ("m", "I", .int), ("roundLimit", "I", .int), ("edgeCount", "I", .int), ("pendLen", "I", .int), ("lastAdd", "I", .int), ("lastRem", "I", .int)], [("edgeRow", "[I", .int, 32), ("reachRow", "[I", .int, 32), ("snapRow", "[I", .int, 32), ("deltaCur", "[I", .int, 32), ("deltaNext", "[I", .int, 32), ("doomedRow", "[I", .int, 32), ("pendKind", "[I", .int, 16), ("pendFrom", "[I", .int, 16), ("pendTo", "[I", .int, 16)])
def PP : PI := (tables_1, ci1)
def BIG : Nat := 1000000
def m0 : Meth := (⟨"DredViewKeeperOwnLaw", "cell", "([II)I"⟩, method_2_code, 2, (some .int), { frames := 0, cells := 0, slots := 0, locals := 0 }, 1, false, 0, 0)
def m1 : Meth := (⟨"DredViewKeeper", "<init>", "(II)V"⟩, prog_1_method_1_code, 5, none, { frames := 1, cells := 9, slots := 240, locals := 12 }, 1, true, 1, 18)
def m2 : Meth := (⟨"DredViewKeeper", "isValid", "(I)Z"⟩, prog_1_method_38_code, 2, (some .boolean), { frames := 0, cells := 0, slots := 0, locals := 0 }, 1, false, 0, 0)
def m3 : Meth := (⟨"DredViewKeeper", "edgePresent", "(II)Z"⟩, prog_1_method_41_code, 3, (some .boolean), { frames := 0, cells := 0, slots := 0, locals := 0 }, 1, false, 0, 0)
def m4 : Meth := (⟨"DredViewKeeper", "hasEdge", "(II)Z"⟩, prog_1_method_11_code, 3, (some .boolean), { frames := 1, cells := 0, slots := 0, locals := 14 }, 1, false, 0, 0)
def m5 : Meth := (⟨"DredViewKeeperOwnLaw", "bit", "(JII)Z"⟩, method_3_code, 4, (some .boolean), { frames := 0, cells := 0, slots := 0, locals := 0 }, 1, false, 0, 0)
def m6 : Meth := (⟨"DredViewKeeperOwnLaw", "closure", "(JI)J"⟩, method_4_code, 10, (some .long), { frames := 1, cells := 0, slots := 0, locals := 15 }, 1, false, 0, 0)
def m7 : Meth := (⟨"DredViewKeeperOwnLaw", "pop", "(J)I"⟩, method_5_code, 4, (some .int), { frames := 0, cells := 0, slots := 0, locals := 0 }, 1, false, 0, 0)
def m8 : Meth := (⟨"DredViewKeeperOwnLaw", "nth", "(JI)I"⟩, method_6_code, 5, (some .int), { frames := 0, cells := 0, slots := 0, locals := 0 }, 1, false, 0, 0)
def m9 : Meth := (⟨"DredViewKeeper", "takeSnapshot", "()V"⟩, prog_1_method_35_code, 2, none, { frames := 0, cells := 0, slots := 0, locals := 0 }, 1, false, 0, 0)
def m10 : Meth := (⟨"DredViewKeeper", "bit", "(I)I"⟩, prog_1_method_39_code, 2, (some .int), { frames := 0, cells := 0, slots := 0, locals := 0 }, 1, false, 0, 0)
def m11 : Meth := (⟨"DredViewKeeper", "clearDelta", "()V"⟩, prog_1_method_33_code, 2, none, { frames := 0, cells := 0, slots := 0, locals := 0 }, 1, false, 0, 0)
def m12 : Meth := (⟨"DredViewKeeper", "mergeDeltaIntoReach", "()Z"⟩, prog_1_method_22_code, 4, (some .boolean), { frames := 0, cells := 0, slots := 0, locals := 0 }, 1, false, 0, 0)
def m13 : Meth := (⟨"DredViewKeeper", "gatherDelta", "(I)I"⟩, prog_1_method_30_code, 5, (some .int), { frames := 0, cells := 0, slots := 0, locals := 0 }, 1, false, 0, 0)
def m14 : Meth := (⟨"DredViewKeeper", "computeNextAdditions", "()V"⟩, prog_1_method_23_code, 3, none, { frames := 1, cells := 0, slots := 0, locals := 16 }, 1, false, 0, 0)
def m15 : Meth := (⟨"DredViewKeeper", "shiftDelta", "()V"⟩, prog_1_method_32_code, 2, none, { frames := 0, cells := 0, slots := 0, locals := 0 }, 1, false, 0, 0)
def m16 : Meth := (⟨"DredViewKeeper", "propagateAdditions", "()V"⟩, prog_1_method_21_code, 2, none, { frames := 2, cells := 0, slots := 0, locals := 30 }, 1, false, 0, 0)
def m17 : Meth := (⟨"DredViewKeeper", "addEdgeAndPropagate", "(II)V"⟩, prog_1_method_20_code, 5, none, { frames := 3, cells := 0, slots := 0, locals := 43 }, 1, false, 0, 0)
def m18 : Meth := (⟨"DredViewKeeper", "popCount", "(I)I"⟩, prog_1_method_42_code, 3, (some .int), { frames := 0, cells := 0, slots := 0, locals := 0 }, 1, false, 0, 0)
def m19 : Meth := (⟨"DredViewKeeper", "countAdded", "()I"⟩, prog_1_method_36_code, 3, (some .int), { frames := 1, cells := 0, slots := 0, locals := 15 }, 1, false, 0, 0)
def m20 : Meth := (⟨"DredViewKeeper", "insertEdge", "(II)I"⟩, prog_1_method_2_code, 3, (some .int), { frames := 4, cells := 0, slots := 0, locals := 59 }, 1, false, 0, 0)
def m21 : Meth := (⟨"DredViewKeeper", "clearDoomed", "()V"⟩, prog_1_method_34_code, 2, none, { frames := 0, cells := 0, slots := 0, locals := 0 }, 1, false, 0, 0)
def m22 : Meth := (⟨"DredViewKeeper", "absorbDoomed", "()Z"⟩, prog_1_method_26_code, 4, (some .boolean), { frames := 0, cells := 0, slots := 0, locals := 0 }, 1, false, 0, 0)
def m23 : Meth := (⟨"DredViewKeeper", "computeNextDoomed", "()V"⟩, prog_1_method_27_code, 3, none, { frames := 1, cells := 0, slots := 0, locals := 16 }, 1, false, 0, 0)
def m24 : Meth := (⟨"DredViewKeeper", "overDelete", "(II)V"⟩, prog_1_method_25_code, 6, none, { frames := 2, cells := 0, slots := 0, locals := 30 }, 1, false, 0, 0)
def m25 : Meth := (⟨"DredViewKeeper", "dropDoomed", "()V"⟩, prog_1_method_28_code, 2, none, { frames := 0, cells := 0, slots := 0, locals := 0 }, 1, false, 0, 0)
def m26 : Meth := (⟨"DredViewKeeper", "gatherReach", "(I)I"⟩, prog_1_method_31_code, 5, (some .int), { frames := 0, cells := 0, slots := 0, locals := 0 }, 1, false, 0, 0)
def m27 : Meth := (⟨"DredViewKeeper", "rederive", "()V"⟩, prog_1_method_29_code, 4, none, { frames := 3, cells := 0, slots := 0, locals := 43 }, 1, false, 0, 0)
def m28 : Meth := (⟨"DredViewKeeper", "removeEdgeAndRederive", "(II)V"⟩, prog_1_method_24_code, 4, none, { frames := 4, cells := 0, slots := 0, locals := 58 }, 1, false, 0, 0)
def m29 : Meth := (⟨"DredViewKeeper", "countRemoved", "()I"⟩, prog_1_method_37_code, 3, (some .int), { frames := 1, cells := 0, slots := 0, locals := 15 }, 1, false, 0, 0)
def m30 : Meth := (⟨"DredViewKeeper", "deleteEdge", "(II)I"⟩, prog_1_method_3_code, 3, (some .int), { frames := 5, cells := 0, slots := 0, locals := 73 }, 1, false, 0, 0)
def m31 : Meth := (⟨"DredViewKeeper", "stage", "(III)I"⟩, prog_1_method_18_code, 4, (some .int), { frames := 1, cells := 0, slots := 0, locals := 13 }, 1, false, 0, 0)
def m32 : Meth := (⟨"DredViewKeeper", "stageInsert", "(II)I"⟩, prog_1_method_4_code, 3, (some .int), { frames := 2, cells := 0, slots := 0, locals := 28 }, 1, false, 0, 0)
def m33 : Meth := (⟨"DredViewKeeper", "stageDelete", "(II)I"⟩, prog_1_method_5_code, 3, (some .int), { frames := 2, cells := 0, slots := 0, locals := 28 }, 1, false, 0, 0)
def m34 : Meth := (⟨"DredViewKeeper", "applyStaged", "(I)V"⟩, prog_1_method_19_code, 5, none, { frames := 5, cells := 0, slots := 0, locals := 73 }, 1, false, 0, 0)
def m35 : Meth := (⟨"DredViewKeeper", "commit", "()I"⟩, prog_1_method_6_code, 2, (some .int), { frames := 6, cells := 0, slots := 0, locals := 89 }, 1, false, 0, 0)
def m36 : Meth := (⟨"DredViewKeeper", "clearPending", "()I"⟩, prog_1_method_7_code, 2, (some .int), { frames := 0, cells := 0, slots := 0, locals := 0 }, 1, false, 0, 0)
def m37 : Meth := (⟨"DredViewKeeper", "testBit", "(II)Z"⟩, prog_1_method_40_code, 3, (some .boolean), { frames := 0, cells := 0, slots := 0, locals := 0 }, 1, false, 0, 0)
def m38 : Meth := (⟨"DredViewKeeper", "reaches", "(II)Z"⟩, prog_1_method_9_code, 3, (some .boolean), { frames := 1, cells := 0, slots := 0, locals := 14 }, 1, false, 0, 0)
def m39 : Meth := (⟨"DredViewKeeper", "derivationCount", "(II)I"⟩, prog_1_method_10_code, 6, (some .int), { frames := 1, cells := 0, slots := 0, locals := 14 }, 1, false, 0, 0)
def m40 : Meth := (⟨"DredViewKeeper", "reachCountFrom", "(I)I"⟩, prog_1_method_14_code, 2, (some .int), { frames := 1, cells := 0, slots := 0, locals := 14 }, 1, false, 0, 0)
def m41 : Meth := (⟨"DredViewKeeper", "reachCountTo", "(I)I"⟩, prog_1_method_15_code, 4, (some .int), { frames := 1, cells := 0, slots := 0, locals := 13 }, 1, false, 0, 0)
def m42 : Meth := (⟨"DredViewKeeper", "viewSize", "()I"⟩, prog_1_method_13_code, 3, (some .int), { frames := 1, cells := 0, slots := 0, locals := 15 }, 1, false, 0, 0)
def m43 : Meth := (⟨"DredViewKeeper", "lastAdded", "()I"⟩, prog_1_method_16_code, 1, (some .int), { frames := 0, cells := 0, slots := 0, locals := 0 }, 1, false, 0, 0)
def m44 : Meth := (⟨"DredViewKeeper", "lastRemoved", "()I"⟩, prog_1_method_17_code, 1, (some .int), { frames := 0, cells := 0, slots := 0, locals := 0 }, 1, false, 0, 0)
def m45 : Meth := (x, code, maxLocals, ret, room_1, 1, true, 0, 0)
theorem ar_0 : (cA PP.2)[0]? = some ("edgeRow", "[I", .int, 32) := rfl
theorem ar_1 : (cA PP.2)[1]? = some ("reachRow", "[I", .int, 32) := rfl
theorem ar_2 : (cA PP.2)[2]? = some ("snapRow", "[I", .int, 32) := rfl
theorem ar_3 : (cA PP.2)[3]? = some ("deltaCur", "[I", .int, 32) := rfl
theorem ar_4 : (cA PP.2)[4]? = some ("deltaNext", "[I", .int, 32) := rfl
theorem ar_5 : (cA PP.2)[5]? = some ("doomedRow", "[I", .int, 32) := rfl
theorem ar_6 : (cA PP.2)[6]? = some ("pendKind", "[I", .int, 16) := rfl
theorem ar_7 : (cA PP.2)[7]? = some ("pendFrom", "[I", .int, 16) := rfl
theorem ar_8 : (cA PP.2)[8]? = some ("pendTo", "[I", .int, 16) := rfl
theorem fs_7 : FldS PP 7 0 .int := ⟨_, _, rfl, List.mem_of_getElem? (i := 14) rfl⟩
theorem fs_13 : FldS PP 13 1 .int := ⟨_, _, rfl, List.mem_of_getElem? (i := 16) rfl⟩
theorem fa_16 : FldA PP 16 0 .int := ⟨_, _, _, rfl, List.mem_of_getElem? (i := 19) rfl⟩
theorem fa_20 : FldA PP 20 1 .int := ⟨_, _, _, rfl, List.mem_of_getElem? (i := 21) rfl⟩
theorem fa_23 : FldA PP 23 2 .int := ⟨_, _, _, rfl, List.mem_of_getElem? (i := 23) rfl⟩
theorem fa_26 : FldA PP 26 3 .int := ⟨_, _, _, rfl, List.mem_of_getElem? (i := 25) rfl⟩
theorem fa_29 : FldA PP 29 4 .int := ⟨_, _, _, rfl, List.mem_of_getElem? (i := 27) rfl⟩
theorem fa_32 : FldA PP 32 5 .int := ⟨_, _, _, rfl, List.mem_of_getElem? (i := 29) rfl⟩
theorem fa_35 : FldA PP 35 6 .int := ⟨_, _, _, rfl, List.mem_of_getElem? (i := 31) rfl⟩
theorem fa_38 : FldA PP 38 7 .int := ⟨_, _, _, rfl, List.mem_of_getElem? (i := 33) rfl⟩
theorem fa_41 : FldA PP 41 8 .int := ⟨_, _, _, rfl, List.mem_of_getElem? (i := 35) rfl⟩
theorem fs_44 : FldS PP 44 2 .int := ⟨_, _, rfl, List.mem_of_getElem? (i := 37) rfl⟩
theorem fs_47 : FldS PP 47 3 .int := ⟨_, _, rfl, List.mem_of_getElem? (i := 39) rfl⟩
theorem fs_50 : FldS PP 50 4 .int := ⟨_, _, rfl, List.mem_of_getElem? (i := 41) rfl⟩
theorem fs_53 : FldS PP 53 5 .int := ⟨_, _, rfl, List.mem_of_getElem? (i := 43) rfl⟩
theorem fs_56 : FldS PP 56 6 .int := ⟨_, _, rfl, List.mem_of_getElem? (i := 45) rfl⟩
theorem fs_59 : FldS PP 59 7 .int := ⟨_, _, rfl, List.mem_of_getElem? (i := 47) rfl⟩
theorem fs_62 : FldS PP 62 8 .int := ⟨_, _, rfl, List.mem_of_getElem? (i := 49) rfl⟩
theorem wr_0 : Wrt PP m1 0 := ⟨_, _, _, rfl, Or.inr ⟨List.mem_of_getElem? (i := 15) rfl, rfl⟩⟩
theorem wr_1 : Wrt PP m1 1 := ⟨_, _, _, rfl, Or.inr ⟨List.mem_of_getElem? (i := 17) rfl, rfl⟩⟩
theorem wr_2 (M : Meth) : Wrt PP M 2 := ⟨_, _, _, rfl, Or.inl (List.mem_of_getElem? (i := 38) rfl)⟩
theorem wr_3 (M : Meth) : Wrt PP M 3 := ⟨_, _, _, rfl, Or.inl (List.mem_of_getElem? (i := 40) rfl)⟩
theorem wr_4 (M : Meth) : Wrt PP M 4 := ⟨_, _, _, rfl, Or.inl (List.mem_of_getElem? (i := 42) rfl)⟩
theorem wr_5 (M : Meth) : Wrt PP M 5 := ⟨_, _, _, rfl, Or.inl (List.mem_of_getElem? (i := 44) rfl)⟩
theorem wr_6 (M : Meth) : Wrt PP M 6 := ⟨_, _, _, rfl, Or.inl (List.mem_of_getElem? (i := 46) rfl)⟩
theorem wr_7 (M : Meth) : Wrt PP M 7 := ⟨_, _, _, rfl, Or.inl (List.mem_of_getElem? (i := 48) rfl)⟩
theorem wr_8 (M : Meth) : Wrt PP M 8 := ⟨_, _, _, rfl, Or.inl (List.mem_of_getElem? (i := 50) rfl)⟩
theorem oid_0 : 1 = (cK PP.2 + 1) * 0 + 1 := rfl
theorem pl_0 : plainName "DredViewKeeper" = true := by first | (simp [plainName, overriddenIn]; done) | decide +kernel
theorem pl_1 : plainName "DredViewKeeperOwnLaw" = true := by first | (simp [plainName, overriddenIn]; done) | decide +kernel
theorem hn_0 : 0 < mN m0 := by decide
theorem pd_0 : parseMethodDescriptor (mY m0).desc = some ⟨[.array .int, .int], (some .int)⟩ := by decide +kernel
theorem hm_1 : (mY m1).cls = cN PP.2 := rfl
theorem hn_1 : 0 < mN m1 := by decide
theorem pd_1 : parseMethodDescriptor (mY m1).desc = some ⟨[.int, .int], none⟩ := by decide +kernel
theorem hm_2 : (mY m2).cls = cN PP.2 := rfl
theorem hn_2 : 0 < mN m2 := by decide
theorem pd_2 : parseMethodDescriptor (mY m2).desc = some ⟨[.int], (some .boolean)⟩ := by decide +kernel
theorem hm_3 : (mY m3).cls = cN PP.2 := rfl
theorem hn_3 : 0 < mN m3 := by decide
theorem pd_3 : parseMethodDescriptor (mY m3).desc = some ⟨[.int, .int], (some .boolean)⟩ := by decide +kernel
theorem hm_4 : (mY m4).cls = cN PP.2 := rfl
theorem hn_4 : 0 < mN m4 := by decide
theorem pd_4 : parseMethodDescriptor (mY m4).desc = some ⟨[.int, .int], (some .boolean)⟩ := by decide +kernel
theorem hn_5 : 0 < mN m5 := by decide
theorem pd_5 : parseMethodDescriptor (mY m5).desc = some ⟨[.long, .int, .int], (some .boolean)⟩ := by decide +kernel
theorem hn_6 : 0 < mN m6 := by decide
theorem pd_6 : parseMethodDescriptor (mY m6).desc = some ⟨[.long, .int], (some .long)⟩ := by decide +kernel
theorem hn_7 : 0 < mN m7 := by decide
theorem pd_7 : parseMethodDescriptor (mY m7).desc = some ⟨[.long], (some .int)⟩ := by decide +kernel
theorem hn_8 : 0 < mN m8 := by decide
theorem pd_8 : parseMethodDescriptor (mY m8).desc = some ⟨[.long, .int], (some .int)⟩ := by decide +kernel
theorem hm_9 : (mY m9).cls = cN PP.2 := rfl
theorem hn_9 : 0 < mN m9 := by decide
theorem pd_9 : parseMethodDescriptor (mY m9).desc = some ⟨[], none⟩ := by decide +kernel
theorem hm_10 : (mY m10).cls = cN PP.2 := rfl
theorem hn_10 : 0 < mN m10 := by decide
theorem pd_10 : parseMethodDescriptor (mY m10).desc = some ⟨[.int], (some .int)⟩ := by decide +kernel
theorem hm_11 : (mY m11).cls = cN PP.2 := rfl
theorem hn_11 : 0 < mN m11 := by decide
theorem pd_11 : parseMethodDescriptor (mY m11).desc = some ⟨[], none⟩ := by decide +kernel
theorem hm_12 : (mY m12).cls = cN PP.2 := rfl
theorem hn_12 : 0 < mN m12 := by decide
theorem pd_12 : parseMethodDescriptor (mY m12).desc = some ⟨[], (some .boolean)⟩ := by decide +kernel
theorem hm_13 : (mY m13).cls = cN PP.2 := rfl
theorem hn_13 : 0 < mN m13 := by decide
theorem pd_13 : parseMethodDescriptor (mY m13).desc = some ⟨[.int], (some .int)⟩ := by decide +kernel
theorem hm_14 : (mY m14).cls = cN PP.2 := rfl
theorem hn_14 : 0 < mN m14 := by decide
theorem pd_14 : parseMethodDescriptor (mY m14).desc = some ⟨[], none⟩ := by decide +kernel
theorem hm_15 : (mY m15).cls = cN PP.2 := rfl
theorem hn_15 : 0 < mN m15 := by decide
theorem pd_15 : parseMethodDescriptor (mY m15).desc = some ⟨[], none⟩ := by decide +kernel
theorem hm_16 : (mY m16).cls = cN PP.2 := rfl
theorem hn_16 : 0 < mN m16 := by decide
theorem pd_16 : parseMethodDescriptor (mY m16).desc = some ⟨[], none⟩ := by decide +kernel
theorem hm_17 : (mY m17).cls = cN PP.2 := rfl
theorem hn_17 : 0 < mN m17 := by decide
theorem pd_17 : parseMethodDescriptor (mY m17).desc = some ⟨[.int, .int], none⟩ := by decide +kernel
theorem hm_18 : (mY m18).cls = cN PP.2 := rfl
theorem hn_18 : 0 < mN m18 := by decide
theorem pd_18 : parseMethodDescriptor (mY m18).desc = some ⟨[.int], (some .int)⟩ := by decide +kernel
theorem hm_19 : (mY m19).cls = cN PP.2 := rfl
theorem hn_19 : 0 < mN m19 := by decide
theorem pd_19 : parseMethodDescriptor (mY m19).desc = some ⟨[], (some .int)⟩ := by decide +kernel
theorem hm_20 : (mY m20).cls = cN PP.2 := rfl
theorem hn_20 : 0 < mN m20 := by decide
theorem pd_20 : parseMethodDescriptor (mY m20).desc = some ⟨[.int, .int], (some .int)⟩ := by decide +kernel
theorem hm_21 : (mY m21).cls = cN PP.2 := rfl
theorem hn_21 : 0 < mN m21 := by decide
theorem pd_21 : parseMethodDescriptor (mY m21).desc = some ⟨[], none⟩ := by decide +kernel
theorem hm_22 : (mY m22).cls = cN PP.2 := rfl
theorem hn_22 : 0 < mN m22 := by decide
theorem pd_22 : parseMethodDescriptor (mY m22).desc = some ⟨[], (some .boolean)⟩ := by decide +kernel
theorem hm_23 : (mY m23).cls = cN PP.2 := rfl
theorem hn_23 : 0 < mN m23 := by decide
theorem pd_23 : parseMethodDescriptor (mY m23).desc = some ⟨[], none⟩ := by decide +kernel
theorem hm_24 : (mY m24).cls = cN PP.2 := rfl
theorem hn_24 : 0 < mN m24 := by decide
theorem pd_24 : parseMethodDescriptor (mY m24).desc = some ⟨[.int, .int], none⟩ := by decide +kernel
theorem hm_25 : (mY m25).cls = cN PP.2 := rfl
theorem hn_25 : 0 < mN m25 := by decide
theorem pd_25 : parseMethodDescriptor (mY m25).desc = some ⟨[], none⟩ := by decide +kernel
theorem hm_26 : (mY m26).cls = cN PP.2 := rfl
theorem hn_26 : 0 < mN m26 := by decide
theorem pd_26 : parseMethodDescriptor (mY m26).desc = some ⟨[.int], (some .int)⟩ := by decide +kernel
theorem hm_27 : (mY m27).cls = cN PP.2 := rfl
theorem hn_27 : 0 < mN m27 := by decide
theorem pd_27 : parseMethodDescriptor (mY m27).desc = some ⟨[], none⟩ := by decide +kernel
theorem hm_28 : (mY m28).cls = cN PP.2 := rfl
theorem hn_28 : 0 < mN m28 := by decide
theorem pd_28 : parseMethodDescriptor (mY m28).desc = some ⟨[.int, .int], none⟩ := by decide +kernel
theorem hm_29 : (mY m29).cls = cN PP.2 := rfl
theorem hn_29 : 0 < mN m29 := by decide
theorem pd_29 : parseMethodDescriptor (mY m29).desc = some ⟨[], (some .int)⟩ := by decide +kernel
theorem hm_30 : (mY m30).cls = cN PP.2 := rfl
theorem hn_30 : 0 < mN m30 := by decide
theorem pd_30 : parseMethodDescriptor (mY m30).desc = some ⟨[.int, .int], (some .int)⟩ := by decide +kernel
theorem hm_31 : (mY m31).cls = cN PP.2 := rfl
theorem hn_31 : 0 < mN m31 := by decide
theorem pd_31 : parseMethodDescriptor (mY m31).desc = some ⟨[.int, .int, .int], (some .int)⟩ := by decide +kernel
theorem hm_32 : (mY m32).cls = cN PP.2 := rfl
theorem hn_32 : 0 < mN m32 := by decide
theorem pd_32 : parseMethodDescriptor (mY m32).desc = some ⟨[.int, .int], (some .int)⟩ := by decide +kernel
theorem hm_33 : (mY m33).cls = cN PP.2 := rfl
theorem hn_33 : 0 < mN m33 := by decide
theorem pd_33 : parseMethodDescriptor (mY m33).desc = some ⟨[.int, .int], (some .int)⟩ := by decide +kernel
theorem hm_34 : (mY m34).cls = cN PP.2 := rfl
theorem hn_34 : 0 < mN m34 := by decide
theorem pd_34 : parseMethodDescriptor (mY m34).desc = some ⟨[.int], none⟩ := by decide +kernel
theorem hm_35 : (mY m35).cls = cN PP.2 := rfl
theorem hn_35 : 0 < mN m35 := by decide
theorem pd_35 : parseMethodDescriptor (mY m35).desc = some ⟨[], (some .int)⟩ := by decide +kernel
theorem hm_36 : (mY m36).cls = cN PP.2 := rfl
theorem hn_36 : 0 < mN m36 := by decide
theorem pd_36 : parseMethodDescriptor (mY m36).desc = some ⟨[], (some .int)⟩ := by decide +kernel
theorem hm_37 : (mY m37).cls = cN PP.2 := rfl
theorem hn_37 : 0 < mN m37 := by decide
theorem pd_37 : parseMethodDescriptor (mY m37).desc = some ⟨[.int, .int], (some .boolean)⟩ := by decide +kernel
theorem hm_38 : (mY m38).cls = cN PP.2 := rfl
theorem hn_38 : 0 < mN m38 := by decide
theorem pd_38 : parseMethodDescriptor (mY m38).desc = some ⟨[.int, .int], (some .boolean)⟩ := by decide +kernel
theorem hm_39 : (mY m39).cls = cN PP.2 := rfl
theorem hn_39 : 0 < mN m39 := by decide
theorem pd_39 : parseMethodDescriptor (mY m39).desc = some ⟨[.int, .int], (some .int)⟩ := by decide +kernel
theorem hm_40 : (mY m40).cls = cN PP.2 := rfl
theorem hn_40 : 0 < mN m40 := by decide
theorem pd_40 : parseMethodDescriptor (mY m40).desc = some ⟨[.int], (some .int)⟩ := by decide +kernel
theorem hm_41 : (mY m41).cls = cN PP.2 := rfl
theorem hn_41 : 0 < mN m41 := by decide
theorem pd_41 : parseMethodDescriptor (mY m41).desc = some ⟨[.int], (some .int)⟩ := by decide +kernel
theorem hm_42 : (mY m42).cls = cN PP.2 := rfl
theorem hn_42 : 0 < mN m42 := by decide
theorem pd_42 : parseMethodDescriptor (mY m42).desc = some ⟨[], (some .int)⟩ := by decide +kernel
theorem hm_43 : (mY m43).cls = cN PP.2 := rfl
theorem hn_43 : 0 < mN m43 := by decide
theorem pd_43 : parseMethodDescriptor (mY m43).desc = some ⟨[], (some .int)⟩ := by decide +kernel
theorem hm_44 : (mY m44).cls = cN PP.2 := rfl
theorem hn_44 : 0 < mN m44 := by decide
theorem pd_44 : parseMethodDescriptor (mY m44).desc = some ⟨[], (some .int)⟩ := by decide +kernel
theorem hn_45 : 0 < mN m45 := by decide
theorem d0_0 : decode (mB m0) 0 = .ok (.iload_n 1, 1) := by decide +kernel
theorem d0_1 : decode (mB m0) 1 = .ok (.aload_n 0, 1) := by decide +kernel
theorem d0_2 : decode (mB m0) 2 = .ok (.arraylength, 1) := by decide +kernel
theorem d0_3 : decode (mB m0) 3 = .ok (.if_icmp .ge 9, 3) := by decide +kernel
theorem d0_6 : decode (mB m0) 6 = .ok (.aload_n 0, 1) := by decide +kernel
theorem d0_7 : decode (mB m0) 7 = .ok (.iload_n 1, 1) := by decide +kernel
theorem d0_8 : decode (mB m0) 8 = .ok (.iaload, 1) := by decide +kernel
theorem d0_9 : decode (mB m0) 9 = .ok (.goto 4, 3) := by decide +kernel
theorem d0_12 : decode (mB m0) 12 = .ok (.iconst 0, 1) := by decide +kernel
theorem d0_13 : decode (mB m0) 13 = .ok (.ireturn, 1) := by decide +kernel
theorem d1_0 : decode (mB m1) 0 = .ok (.aload_n 0, 1) := by decide +kernel
theorem d1_1 : decode (mB m1) 1 = .ok (.invokespecial 1, 3) := by decide +kernel
theorem d1_4 : decode (mB m1) 4 = .ok (.aload_n 0, 1) := by decide +kernel
theorem d1_5 : decode (mB m1) 5 = .ok (.iconst 1, 1) := by decide +kernel
theorem d1_6 : decode (mB m1) 6 = .ok (.putfield 7, 3) := by decide +kernel
theorem d1_9 : decode (mB m1) 9 = .ok (.aload_n 0, 1) := by decide +kernel
theorem d1_10 : decode (mB m1) 10 = .ok (.iconst 2, 1) := by decide +kernel
theorem d1_11 : decode (mB m1) 11 = .ok (.putfield 13, 3) := by decide +kernel
theorem d1_14 : decode (mB m1) 14 = .ok (.aload_n 0, 1) := by decide +kernel
theorem d1_15 : decode (mB m1) 15 = .ok (.bipush 32, 2) := by decide +kernel
theorem d1_17 : decode (mB m1) 17 = .ok (.newarray .int, 2) := by decide +kernel
theorem d1_19 : decode (mB m1) 19 = .ok (.putfield 16, 3) := by decide +kernel
theorem d1_22 : decode (mB m1) 22 = .ok (.aload_n 0, 1) := by decide +kernel
theorem d1_23 : decode (mB m1) 23 = .ok (.bipush 32, 2) := by decide +kernel
theorem d1_25 : decode (mB m1) 25 = .ok (.newarray .int, 2) := by decide +kernel
theorem d1_27 : decode (mB m1) 27 = .ok (.putfield 20, 3) := by decide +kernel
theorem d1_30 : decode (mB m1) 30 = .ok (.aload_n 0, 1) := by decide +kernel
theorem d1_31 : decode (mB m1) 31 = .ok (.bipush 32, 2) := by decide +kernel
theorem d1_33 : decode (mB m1) 33 = .ok (.newarray .int, 2) := by decide +kernel
theorem d1_35 : decode (mB m1) 35 = .ok (.putfield 23, 3) := by decide +kernel
theorem d1_38 : decode (mB m1) 38 = .ok (.aload_n 0, 1) := by decide +kernel
theorem d1_39 : decode (mB m1) 39 = .ok (.bipush 32, 2) := by decide +kernel
theorem d1_41 : decode (mB m1) 41 = .ok (.newarray .int, 2) := by decide +kernel
theorem d1_43 : decode (mB m1) 43 = .ok (.putfield 26, 3) := by decide +kernel
theorem d1_46 : decode (mB m1) 46 = .ok (.aload_n 0, 1) := by decide +kernel
theorem d1_47 : decode (mB m1) 47 = .ok (.bipush 32, 2) := by decide +kernel
theorem d1_49 : decode (mB m1) 49 = .ok (.newarray .int, 2) := by decide +kernel
theorem d1_51 : decode (mB m1) 51 = .ok (.putfield 29, 3) := by decide +kernel
theorem d1_54 : decode (mB m1) 54 = .ok (.aload_n 0, 1) := by decide +kernel
theorem d1_55 : decode (mB m1) 55 = .ok (.bipush 32, 2) := by decide +kernel
theorem d1_57 : decode (mB m1) 57 = .ok (.newarray .int, 2) := by decide +kernel
theorem d1_59 : decode (mB m1) 59 = .ok (.putfield 32, 3) := by decide +kernel
theorem d1_62 : decode (mB m1) 62 = .ok (.aload_n 0, 1) := by decide +kernel
theorem d1_63 : decode (mB m1) 63 = .ok (.bipush 16, 2) := by decide +kernel
theorem d1_65 : decode (mB m1) 65 = .ok (.newarray .int, 2) := by decide +kernel
theorem d1_67 : decode (mB m1) 67 = .ok (.putfield 35, 3) := by decide +kernel
theorem d1_70 : decode (mB m1) 70 = .ok (.aload_n 0, 1) := by decide +kernel
theorem d1_71 : decode (mB m1) 71 = .ok (.bipush 16, 2) := by decide +kernel
theorem d1_73 : decode (mB m1) 73 = .ok (.newarray .int, 2) := by decide +kernel
theorem d1_75 : decode (mB m1) 75 = .ok (.putfield 38, 3) := by decide +kernel
theorem d1_78 : decode (mB m1) 78 = .ok (.aload_n 0, 1) := by decide +kernel
theorem d1_79 : decode (mB m1) 79 = .ok (.bipush 16, 2) := by decide +kernel
theorem d1_81 : decode (mB m1) 81 = .ok (.newarray .int, 2) := by decide +kernel
theorem d1_83 : decode (mB m1) 83 = .ok (.putfield 41, 3) := by decide +kernel
theorem d1_86 : decode (mB m1) 86 = .ok (.iload_n 1, 1) := by decide +kernel
theorem d1_87 : decode (mB m1) 87 = .ok (.istore_n 3, 1) := by decide +kernel
theorem d1_88 : decode (mB m1) 88 = .ok (.iload_n 3, 1) := by decide +kernel
theorem d1_89 : decode (mB m1) 89 = .ok (.iconst 2, 1) := by decide +kernel
theorem d1_90 : decode (mB m1) 90 = .ok (.if_icmp .ge 5, 3) := by decide +kernel
theorem d1_93 : decode (mB m1) 93 = .ok (.iconst 2, 1) := by decide +kernel
theorem d1_94 : decode (mB m1) 94 = .ok (.istore_n 3, 1) := by decide +kernel
theorem d1_95 : decode (mB m1) 95 = .ok (.iload_n 3, 1) := by decide +kernel
theorem d1_96 : decode (mB m1) 96 = .ok (.bipush 32, 2) := by decide +kernel
theorem d1_98 : decode (mB m1) 98 = .ok (.if_icmp .le 6, 3) := by decide +kernel
theorem d1_101 : decode (mB m1) 101 = .ok (.bipush 32, 2) := by decide +kernel
theorem d1_103 : decode (mB m1) 103 = .ok (.istore_n 3, 1) := by decide +kernel
theorem d1_104 : decode (mB m1) 104 = .ok (.iload_n 2, 1) := by decide +kernel
theorem d1_105 : decode (mB m1) 105 = .ok (.istore 4, 2) := by decide +kernel
theorem d1_107 : decode (mB m1) 107 = .ok (.iload 4, 2) := by decide +kernel
theorem d1_109 : decode (mB m1) 109 = .ok (.iconst 1, 1) := by decide +kernel
theorem d1_110 : decode (mB m1) 110 = .ok (.if_icmp .ge 6, 3) := by decide +kernel
theorem d1_113 : decode (mB m1) 113 = .ok (.iconst 1, 1) := by decide +kernel
theorem d1_114 : decode (mB m1) 114 = .ok (.istore 4, 2) := by decide +kernel
theorem d1_116 : decode (mB m1) 116 = .ok (.iload 4, 2) := by decide +kernel
theorem d1_118 : decode (mB m1) 118 = .ok (.sipush 256, 3) := by decide +kernel
theorem d1_121 : decode (mB m1) 121 = .ok (.if_icmp .le 8, 3) := by decide +kernel
theorem d1_124 : decode (mB m1) 124 = .ok (.sipush 256, 3) := by decide +kernel
theorem d1_127 : decode (mB m1) 127 = .ok (.istore 4, 2) := by decide +kernel
theorem d1_129 : decode (mB m1) 129 = .ok (.aload_n 0, 1) := by decide +kernel
theorem d1_130 : decode (mB m1) 130 = .ok (.iload_n 3, 1) := by decide +kernel
theorem d1_131 : decode (mB m1) 131 = .ok (.putfield 44, 3) := by decide +kernel
theorem d1_134 : decode (mB m1) 134 = .ok (.aload_n 0, 1) := by decide +kernel
theorem d1_135 : decode (mB m1) 135 = .ok (.iload 4, 2) := by decide +kernel
theorem d1_137 : decode (mB m1) 137 = .ok (.putfield 47, 3) := by decide +kernel
theorem d1_140 : decode (mB m1) 140 = .ok (.aload_n 0, 1) := by decide +kernel
theorem d1_141 : decode (mB m1) 141 = .ok (.iload_n 3, 1) := by decide +kernel
theorem d1_142 : decode (mB m1) 142 = .ok (.iload_n 3, 1) := by decide +kernel
theorem d1_143 : decode (mB m1) 143 = .ok (.imul, 1) := by decide +kernel
theorem d1_144 : decode (mB m1) 144 = .ok (.iconst 2, 1) := by decide +kernel
theorem d1_145 : decode (mB m1) 145 = .ok (.iadd, 1) := by decide +kernel
theorem d1_146 : decode (mB m1) 146 = .ok (.putfield 50, 3) := by decide +kernel
theorem d1_149 : decode (mB m1) 149 = .ok (.aload_n 0, 1) := by decide +kernel
theorem d1_150 : decode (mB m1) 150 = .ok (.iconst 0, 1) := by decide +kernel
theorem d1_151 : decode (mB m1) 151 = .ok (.putfield 53, 3) := by decide +kernel
theorem d1_154 : decode (mB m1) 154 = .ok (.aload_n 0, 1) := by decide +kernel
theorem d1_155 : decode (mB m1) 155 = .ok (.iconst 0, 1) := by decide +kernel
theorem d1_156 : decode (mB m1) 156 = .ok (.putfield 56, 3) := by decide +kernel
theorem d1_159 : decode (mB m1) 159 = .ok (.aload_n 0, 1) := by decide +kernel
theorem d1_160 : decode (mB m1) 160 = .ok (.iconst 0, 1) := by decide +kernel
theorem d1_161 : decode (mB m1) 161 = .ok (.putfield 59, 3) := by decide +kernel
theorem d1_164 : decode (mB m1) 164 = .ok (.aload_n 0, 1) := by decide +kernel
theorem d1_165 : decode (mB m1) 165 = .ok (.iconst 0, 1) := by decide +kernel
theorem d1_166 : decode (mB m1) 166 = .ok (.putfield 62, 3) := by decide +kernel
theorem d1_169 : decode (mB m1) 169 = .ok (.return_, 1) := by decide +kernel
theorem d2_0 : decode (mB m2) 0 = .ok (.iload_n 1, 1) := by decide +kernel
theorem d2_1 : decode (mB m2) 1 = .ok (.ifCond .lt 15, 3) := by decide +kernel
theorem d2_4 : decode (mB m2) 4 = .ok (.iload_n 1, 1) := by decide +kernel
theorem d2_5 : decode (mB m2) 5 = .ok (.aload_n 0, 1) := by decide +kernel
theorem d2_6 : decode (mB m2) 6 = .ok (.getfield 44, 3) := by decide +kernel
theorem d2_9 : decode (mB m2) 9 = .ok (.if_icmp .ge 7, 3) := by decide +kernel
theorem d2_12 : decode (mB m2) 12 = .ok (.iconst 1, 1) := by decide +kernel
theorem d2_13 : decode (mB m2) 13 = .ok (.goto 4, 3) := by decide +kernel
theorem d2_16 : decode (mB m2) 16 = .ok (.iconst 0, 1) := by decide +kernel
theorem d2_17 : decode (mB m2) 17 = .ok (.ireturn, 1) := by decide +kernel
theorem d3_0 : decode (mB m3) 0 = .ok (.aload_n 0, 1) := by decide +kernel
theorem d3_1 : decode (mB m3) 1 = .ok (.getfield 16, 3) := by decide +kernel
theorem d3_4 : decode (mB m3) 4 = .ok (.iload_n 1, 1) := by decide +kernel
theorem d3_5 : decode (mB m3) 5 = .ok (.iaload, 1) := by decide +kernel
theorem d3_6 : decode (mB m3) 6 = .ok (.iload_n 2, 1) := by decide +kernel
theorem d3_7 : decode (mB m3) 7 = .ok (.iushr, 1) := by decide +kernel
theorem d3_8 : decode (mB m3) 8 = .ok (.iconst 1, 1) := by decide +kernel
theorem d3_9 : decode (mB m3) 9 = .ok (.iand, 1) := by decide +kernel
theorem d3_10 : decode (mB m3) 10 = .ok (.ifCond .eq 7, 3) := by decide +kernel
theorem d3_13 : decode (mB m3) 13 = .ok (.iconst 1, 1) := by decide +kernel
theorem d3_14 : decode (mB m3) 14 = .ok (.goto 4, 3) := by decide +kernel
theorem d3_17 : decode (mB m3) 17 = .ok (.iconst 0, 1) := by decide +kernel
theorem d3_18 : decode (mB m3) 18 = .ok (.ireturn, 1) := by decide +kernel
theorem d4_0 : decode (mB m4) 0 = .ok (.aload_n 0, 1) := by decide +kernel
theorem d4_1 : decode (mB m4) 1 = .ok (.iload_n 1, 1) := by decide +kernel
theorem d4_2 : decode (mB m4) 2 = .ok (.invokevirtual 65, 3) := by decide +kernel
theorem d4_5 : decode (mB m4) 5 = .ok (.ifCond .eq 11, 3) := by decide +kernel
theorem d4_8 : decode (mB m4) 8 = .ok (.aload_n 0, 1) := by decide +kernel
theorem d4_9 : decode (mB m4) 9 = .ok (.iload_n 2, 1) := by decide +kernel
theorem d4_10 : decode (mB m4) 10 = .ok (.invokevirtual 65, 3) := by decide +kernel
theorem d4_13 : decode (mB m4) 13 = .ok (.ifCond .ne 5, 3) := by decide +kernel
theorem d4_16 : decode (mB m4) 16 = .ok (.iconst 0, 1) := by decide +kernel
theorem d4_17 : decode (mB m4) 17 = .ok (.ireturn, 1) := by decide +kernel
theorem d4_18 : decode (mB m4) 18 = .ok (.aload_n 0, 1) := by decide +kernel
theorem d4_19 : decode (mB m4) 19 = .ok (.iload_n 1, 1) := by decide +kernel
theorem d4_20 : decode (mB m4) 20 = .ok (.iload_n 2, 1) := by decide +kernel
theorem d4_21 : decode (mB m4) 21 = .ok (.invokevirtual 69, 3) := by decide +kernel
theorem d4_24 : decode (mB m4) 24 = .ok (.ireturn, 1) := by decide +kernel
theorem d5_0 : decode (mB m5) 0 = .ok (.lload_n 0, 1) := by decide +kernel
theorem d5_1 : decode (mB m5) 1 = .ok (.iload_n 2, 1) := by decide +kernel
theorem d5_2 : decode (mB m5) 2 = .ok (.bipush 8, 2) := by decide +kernel
theorem d5_4 : decode (mB m5) 4 = .ok (.imul, 1) := by decide +kernel
theorem d5_5 : decode (mB m5) 5 = .ok (.iload_n 3, 1) := by decide +kernel
theorem d5_6 : decode (mB m5) 6 = .ok (.iadd, 1) := by decide +kernel
theorem d5_7 : decode (mB m5) 7 = .ok (.lushr, 1) := by decide +kernel
theorem d5_8 : decode (mB m5) 8 = .ok (.lconst 1, 1) := by decide +kernel
theorem d5_9 : decode (mB m5) 9 = .ok (.land, 1) := by decide +kernel
theorem d5_10 : decode (mB m5) 10 = .ok (.lconst 0, 1) := by decide +kernel
theorem d5_11 : decode (mB m5) 11 = .ok (.lcmp, 1) := by decide +kernel
theorem d5_12 : decode (mB m5) 12 = .ok (.ifCond .eq 7, 3) := by decide +kernel
theorem d5_15 : decode (mB m5) 15 = .ok (.iconst 1, 1) := by decide +kernel
theorem d5_16 : decode (mB m5) 16 = .ok (.goto 4, 3) := by decide +kernel
theorem d5_19 : decode (mB m5) 19 = .ok (.iconst 0, 1) := by decide +kernel
theorem d5_20 : decode (mB m5) 20 = .ok (.ireturn, 1) := by decide +kernel
theorem d6_0 : decode (mB m6) 0 = .ok (.lload_n 0, 1) := by decide +kernel
theorem d6_1 : decode (mB m6) 1 = .ok (.lstore_n 3, 1) := by decide +kernel
theorem d6_2 : decode (mB m6) 2 = .ok (.iconst 0, 1) := by decide +kernel
theorem d6_3 : decode (mB m6) 3 = .ok (.istore 5, 2) := by decide +kernel
theorem d6_5 : decode (mB m6) 5 = .ok (.iload 5, 2) := by decide +kernel
theorem d6_7 : decode (mB m6) 7 = .ok (.bipush 8, 2) := by decide +kernel
theorem d6_9 : decode (mB m6) 9 = .ok (.if_icmp .ge 78, 3) := by decide +kernel
theorem d6_12 : decode (mB m6) 12 = .ok (.lload_n 0, 1) := by decide +kernel
theorem d6_13 : decode (mB m6) 13 = .ok (.lstore 6, 2) := by decide +kernel
theorem d6_15 : decode (mB m6) 15 = .ok (.iconst 0, 1) := by decide +kernel
theorem d6_16 : decode (mB m6) 16 = .ok (.istore 8, 2) := by decide +kernel
theorem d6_18 : decode (mB m6) 18 = .ok (.iload 8, 2) := by decide +kernel
theorem d6_20 : decode (mB m6) 20 = .ok (.iload_n 2, 1) := by decide +kernel
theorem d6_21 : decode (mB m6) 21 = .ok (.if_icmp .ge 57, 3) := by decide +kernel
theorem d6_24 : decode (mB m6) 24 = .ok (.iconst 0, 1) := by decide +kernel
theorem d6_25 : decode (mB m6) 25 = .ok (.istore 9, 2) := by decide +kernel
theorem d6_27 : decode (mB m6) 27 = .ok (.iload 9, 2) := by decide +kernel
theorem d6_29 : decode (mB m6) 29 = .ok (.iload_n 2, 1) := by decide +kernel
theorem d6_30 : decode (mB m6) 30 = .ok (.if_icmp .ge 42, 3) := by decide +kernel
theorem d6_33 : decode (mB m6) 33 = .ok (.lload_n 0, 1) := by decide +kernel
theorem d6_34 : decode (mB m6) 34 = .ok (.iload 8, 2) := by decide +kernel
theorem d6_36 : decode (mB m6) 36 = .ok (.iload 9, 2) := by decide +kernel
theorem d6_38 : decode (mB m6) 38 = .ok (.invokestatic 7, 3) := by decide +kernel
theorem d6_41 : decode (mB m6) 41 = .ok (.ifCond .eq 25, 3) := by decide +kernel
theorem d6_44 : decode (mB m6) 44 = .ok (.lload 6, 2) := by decide +kernel
theorem d6_46 : decode (mB m6) 46 = .ok (.lload_n 3, 1) := by decide +kernel
theorem d6_47 : decode (mB m6) 47 = .ok (.iload 9, 2) := by decide +kernel
theorem d6_49 : decode (mB m6) 49 = .ok (.bipush 8, 2) := by decide +kernel
theorem d6_51 : decode (mB m6) 51 = .ok (.imul, 1) := by decide +kernel
theorem d6_52 : decode (mB m6) 52 = .ok (.lushr, 1) := by decide +kernel
theorem d6_53 : decode (mB m6) 53 = .ok (.ldc2_w 13, 3) := by decide +kernel
theorem d6_56 : decode (mB m6) 56 = .ok (.land, 1) := by decide +kernel
theorem d6_57 : decode (mB m6) 57 = .ok (.iload 8, 2) := by decide +kernel
theorem d6_59 : decode (mB m6) 59 = .ok (.bipush 8, 2) := by decide +kernel
theorem d6_61 : decode (mB m6) 61 = .ok (.imul, 1) := by decide +kernel
theorem d6_62 : decode (mB m6) 62 = .ok (.lshl, 1) := by decide +kernel
theorem d6_63 : decode (mB m6) 63 = .ok (.lor, 1) := by decide +kernel
theorem d6_64 : decode (mB m6) 64 = .ok (.lstore 6, 2) := by decide +kernel
theorem d6_66 : decode (mB m6) 66 = .ok (.iinc 9 1, 3) := by decide +kernel
theorem d6_69 : decode (mB m6) 69 = .ok (.goto (-42), 3) := by decide +kernel
theorem d6_72 : decode (mB m6) 72 = .ok (.iinc 8 1, 3) := by decide +kernel
theorem d6_75 : decode (mB m6) 75 = .ok (.goto (-57), 3) := by decide +kernel
theorem d6_78 : decode (mB m6) 78 = .ok (.lload 6, 2) := by decide +kernel
theorem d6_80 : decode (mB m6) 80 = .ok (.lstore_n 3, 1) := by decide +kernel
theorem d6_81 : decode (mB m6) 81 = .ok (.iinc 5 1, 3) := by decide +kernel
theorem d6_84 : decode (mB m6) 84 = .ok (.goto (-79), 3) := by decide +kernel
theorem d6_87 : decode (mB m6) 87 = .ok (.lload_n 3, 1) := by decide +kernel
theorem d6_88 : decode (mB m6) 88 = .ok (.lreturn, 1) := by decide +kernel
theorem d7_0 : decode (mB m7) 0 = .ok (.iconst 0, 1) := by decide +kernel
theorem d7_1 : decode (mB m7) 1 = .ok (.istore_n 2, 1) := by decide +kernel
theorem d7_2 : decode (mB m7) 2 = .ok (.iconst 0, 1) := by decide +kernel
theorem d7_3 : decode (mB m7) 3 = .ok (.istore_n 3, 1) := by decide +kernel
theorem d7_4 : decode (mB m7) 4 = .ok (.iload_n 3, 1) := by decide +kernel
theorem d7_5 : decode (mB m7) 5 = .ok (.bipush 64, 2) := by decide +kernel
theorem d7_7 : decode (mB m7) 7 = .ok (.if_icmp .ge 22, 3) := by decide +kernel
theorem d7_10 : decode (mB m7) 10 = .ok (.lload_n 0, 1) := by decide +kernel
theorem d7_11 : decode (mB m7) 11 = .ok (.iload_n 3, 1) := by decide +kernel
theorem d7_12 : decode (mB m7) 12 = .ok (.lushr, 1) := by decide +kernel
theorem d7_13 : decode (mB m7) 13 = .ok (.lconst 1, 1) := by decide +kernel
theorem d7_14 : decode (mB m7) 14 = .ok (.land, 1) := by decide +kernel
theorem d7_15 : decode (mB m7) 15 = .ok (.lconst 0, 1) := by decide +kernel
theorem d7_16 : decode (mB m7) 16 = .ok (.lcmp, 1) := by decide +kernel
theorem d7_17 : decode (mB m7) 17 = .ok (.ifCond .eq 6, 3) := by decide +kernel
theorem d7_20 : decode (mB m7) 20 = .ok (.iinc 2 1, 3) := by decide +kernel
theorem d7_23 : decode (mB m7) 23 = .ok (.iinc 3 1, 3) := by decide +kernel
theorem d7_26 : decode (mB m7) 26 = .ok (.goto (-22), 3) := by decide +kernel
theorem d7_29 : decode (mB m7) 29 = .ok (.iload_n 2, 1) := by decide +kernel
theorem d7_30 : decode (mB m7) 30 = .ok (.ireturn, 1) := by decide +kernel
theorem d8_0 : decode (mB m8) 0 = .ok (.iconst 0, 1) := by decide +kernel
theorem d8_1 : decode (mB m8) 1 = .ok (.istore_n 3, 1) := by decide +kernel
theorem d8_2 : decode (mB m8) 2 = .ok (.iconst 0, 1) := by decide +kernel
theorem d8_3 : decode (mB m8) 3 = .ok (.istore 4, 2) := by decide +kernel
theorem d8_5 : decode (mB m8) 5 = .ok (.iload 4, 2) := by decide +kernel
theorem d8_7 : decode (mB m8) 7 = .ok (.bipush 64, 2) := by decide +kernel
theorem d8_9 : decode (mB m8) 9 = .ok (.if_icmp .ge 31, 3) := by decide +kernel
theorem d8_12 : decode (mB m8) 12 = .ok (.lload_n 0, 1) := by decide +kernel
theorem d8_13 : decode (mB m8) 13 = .ok (.iload 4, 2) := by decide +kernel
theorem d8_15 : decode (mB m8) 15 = .ok (.lushr, 1) := by decide +kernel
theorem d8_16 : decode (mB m8) 16 = .ok (.lconst 1, 1) := by decide +kernel
theorem d8_17 : decode (mB m8) 17 = .ok (.land, 1) := by decide +kernel
theorem d8_18 : decode (mB m8) 18 = .ok (.lconst 0, 1) := by decide +kernel
theorem d8_19 : decode (mB m8) 19 = .ok (.lcmp, 1) := by decide +kernel
theorem d8_20 : decode (mB m8) 20 = .ok (.ifCond .eq 14, 3) := by decide +kernel
theorem d8_23 : decode (mB m8) 23 = .ok (.iload_n 3, 1) := by decide +kernel
theorem d8_24 : decode (mB m8) 24 = .ok (.iload_n 2, 1) := by decide +kernel
theorem d8_25 : decode (mB m8) 25 = .ok (.if_icmp .ne 6, 3) := by decide +kernel
theorem d8_28 : decode (mB m8) 28 = .ok (.iload 4, 2) := by decide +kernel
theorem d8_30 : decode (mB m8) 30 = .ok (.ireturn, 1) := by decide +kernel
theorem d8_31 : decode (mB m8) 31 = .ok (.iinc 3 1, 3) := by decide +kernel
theorem d8_34 : decode (mB m8) 34 = .ok (.iinc 4 1, 3) := by decide +kernel
theorem d8_37 : decode (mB m8) 37 = .ok (.goto (-32), 3) := by decide +kernel
theorem d8_40 : decode (mB m8) 40 = .ok (.iconst (-1), 1) := by decide +kernel
theorem d8_41 : decode (mB m8) 41 = .ok (.ireturn, 1) := by decide +kernel
theorem d9_0 : decode (mB m9) 0 = .ok (.iconst 0, 1) := by decide +kernel
theorem d9_1 : decode (mB m9) 1 = .ok (.istore_n 1, 1) := by decide +kernel
theorem d9_2 : decode (mB m9) 2 = .ok (.iload_n 1, 1) := by decide +kernel
theorem d9_3 : decode (mB m9) 3 = .ok (.bipush 32, 2) := by decide +kernel
theorem d9_5 : decode (mB m9) 5 = .ok (.if_icmp .ge 21, 3) := by decide +kernel
theorem d9_8 : decode (mB m9) 8 = .ok (.aload_n 0, 1) := by decide +kernel
theorem d9_9 : decode (mB m9) 9 = .ok (.getfield 23, 3) := by decide +kernel
theorem d9_12 : decode (mB m9) 12 = .ok (.iload_n 1, 1) := by decide +kernel
theorem d9_13 : decode (mB m9) 13 = .ok (.aload_n 0, 1) := by decide +kernel
theorem d9_14 : decode (mB m9) 14 = .ok (.getfield 20, 3) := by decide +kernel
theorem d9_17 : decode (mB m9) 17 = .ok (.iload_n 1, 1) := by decide +kernel
theorem d9_18 : decode (mB m9) 18 = .ok (.iaload, 1) := by decide +kernel
theorem d9_19 : decode (mB m9) 19 = .ok (.iastore, 1) := by decide +kernel
theorem d9_20 : decode (mB m9) 20 = .ok (.iinc 1 1, 3) := by decide +kernel
theorem d9_23 : decode (mB m9) 23 = .ok (.goto (-21), 3) := by decide +kernel
theorem d9_26 : decode (mB m9) 26 = .ok (.return_, 1) := by decide +kernel
theorem d10_0 : decode (mB m10) 0 = .ok (.iconst 1, 1) := by decide +kernel
theorem d10_1 : decode (mB m10) 1 = .ok (.iload_n 1, 1) := by decide +kernel
theorem d10_2 : decode (mB m10) 2 = .ok (.ishl, 1) := by decide +kernel
theorem d10_3 : decode (mB m10) 3 = .ok (.ireturn, 1) := by decide +kernel
theorem d11_0 : decode (mB m11) 0 = .ok (.iconst 0, 1) := by decide +kernel
theorem d11_1 : decode (mB m11) 1 = .ok (.istore_n 1, 1) := by decide +kernel
theorem d11_2 : decode (mB m11) 2 = .ok (.iload_n 1, 1) := by decide +kernel
theorem d11_3 : decode (mB m11) 3 = .ok (.bipush 32, 2) := by decide +kernel
theorem d11_5 : decode (mB m11) 5 = .ok (.if_icmp .ge 23, 3) := by decide +kernel
theorem d11_8 : decode (mB m11) 8 = .ok (.aload_n 0, 1) := by decide +kernel
theorem d11_9 : decode (mB m11) 9 = .ok (.getfield 26, 3) := by decide +kernel
theorem d11_12 : decode (mB m11) 12 = .ok (.iload_n 1, 1) := by decide +kernel
theorem d11_13 : decode (mB m11) 13 = .ok (.iconst 0, 1) := by decide +kernel
theorem d11_14 : decode (mB m11) 14 = .ok (.iastore, 1) := by decide +kernel
theorem d11_15 : decode (mB m11) 15 = .ok (.aload_n 0, 1) := by decide +kernel
theorem d11_16 : decode (mB m11) 16 = .ok (.getfield 29, 3) := by decide +kernel
theorem d11_19 : decode (mB m11) 19 = .ok (.iload_n 1, 1) := by decide +kernel
theorem d11_20 : decode (mB m11) 20 = .ok (.iconst 0, 1) := by decide +kernel
theorem d11_21 : decode (mB m11) 21 = .ok (.iastore, 1) := by decide +kernel
theorem d11_22 : decode (mB m11) 22 = .ok (.iinc 1 1, 3) := by decide +kernel
theorem d11_25 : decode (mB m11) 25 = .ok (.goto (-23), 3) := by decide +kernel
theorem d11_28 : decode (mB m11) 28 = .ok (.return_, 1) := by decide +kernel
theorem d12_0 : decode (mB m12) 0 = .ok (.iconst 0, 1) := by decide +kernel
theorem d12_1 : decode (mB m12) 1 = .ok (.istore_n 1, 1) := by decide +kernel
theorem d12_2 : decode (mB m12) 2 = .ok (.iconst 0, 1) := by decide +kernel
theorem d12_3 : decode (mB m12) 3 = .ok (.istore_n 2, 1) := by decide +kernel
theorem d12_4 : decode (mB m12) 4 = .ok (.iload_n 2, 1) := by decide +kernel
theorem d12_5 : decode (mB m12) 5 = .ok (.aload_n 0, 1) := by decide +kernel
theorem d12_6 : decode (mB m12) 6 = .ok (.getfield 44, 3) := by decide +kernel
theorem d12_9 : decode (mB m12) 9 = .ok (.if_icmp .ge 36, 3) := by decide +kernel
theorem d12_12 : decode (mB m12) 12 = .ok (.aload_n 0, 1) := by decide +kernel
theorem d12_13 : decode (mB m12) 13 = .ok (.getfield 26, 3) := by decide +kernel
theorem d12_16 : decode (mB m12) 16 = .ok (.iload_n 2, 1) := by decide +kernel
theorem d12_17 : decode (mB m12) 17 = .ok (.iaload, 1) := by decide +kernel
theorem d12_18 : decode (mB m12) 18 = .ok (.istore_n 3, 1) := by decide +kernel
theorem d12_19 : decode (mB m12) 19 = .ok (.iload_n 3, 1) := by decide +kernel
theorem d12_20 : decode (mB m12) 20 = .ok (.ifCond .eq 19, 3) := by decide +kernel
theorem d12_23 : decode (mB m12) 23 = .ok (.aload_n 0, 1) := by decide +kernel
theorem d12_24 : decode (mB m12) 24 = .ok (.getfield 20, 3) := by decide +kernel
theorem d12_27 : decode (mB m12) 27 = .ok (.iload_n 2, 1) := by decide +kernel
theorem d12_28 : decode (mB m12) 28 = .ok (.aload_n 0, 1) := by decide +kernel
theorem d12_29 : decode (mB m12) 29 = .ok (.getfield 20, 3) := by decide +kernel
theorem d12_32 : decode (mB m12) 32 = .ok (.iload_n 2, 1) := by decide +kernel
theorem d12_33 : decode (mB m12) 33 = .ok (.iaload, 1) := by decide +kernel
theorem d12_34 : decode (mB m12) 34 = .ok (.iload_n 3, 1) := by decide +kernel
theorem d12_35 : decode (mB m12) 35 = .ok (.ior, 1) := by decide +kernel
theorem d12_36 : decode (mB m12) 36 = .ok (.iastore, 1) := by decide +kernel
theorem d12_37 : decode (mB m12) 37 = .ok (.iconst 1, 1) := by decide +kernel
theorem d12_38 : decode (mB m12) 38 = .ok (.istore_n 1, 1) := by decide +kernel
theorem d12_39 : decode (mB m12) 39 = .ok (.iinc 2 1, 3) := by decide +kernel
theorem d12_42 : decode (mB m12) 42 = .ok (.goto (-38), 3) := by decide +kernel
theorem d12_45 : decode (mB m12) 45 = .ok (.iload_n 1, 1) := by decide +kernel
theorem d12_46 : decode (mB m12) 46 = .ok (.ireturn, 1) := by decide +kernel
theorem d13_0 : decode (mB m13) 0 = .ok (.aload_n 0, 1) := by decide +kernel
theorem d13_1 : decode (mB m13) 1 = .ok (.getfield 16, 3) := by decide +kernel
theorem d13_4 : decode (mB m13) 4 = .ok (.iload_n 1, 1) := by decide +kernel
theorem d13_5 : decode (mB m13) 5 = .ok (.iaload, 1) := by decide +kernel
theorem d13_6 : decode (mB m13) 6 = .ok (.istore_n 2, 1) := by decide +kernel
theorem d13_7 : decode (mB m13) 7 = .ok (.iconst 0, 1) := by decide +kernel
theorem d13_8 : decode (mB m13) 8 = .ok (.istore_n 3, 1) := by decide +kernel
theorem d13_9 : decode (mB m13) 9 = .ok (.iconst 0, 1) := by decide +kernel
theorem d13_10 : decode (mB m13) 10 = .ok (.istore 4, 2) := by decide +kernel
theorem d13_12 : decode (mB m13) 12 = .ok (.iload 4, 2) := by decide +kernel
theorem d13_14 : decode (mB m13) 14 = .ok (.aload_n 0, 1) := by decide +kernel
theorem d13_15 : decode (mB m13) 15 = .ok (.getfield 44, 3) := by decide +kernel
theorem d13_18 : decode (mB m13) 18 = .ok (.if_icmp .ge 28, 3) := by decide +kernel
theorem d13_21 : decode (mB m13) 21 = .ok (.iload_n 2, 1) := by decide +kernel
theorem d13_22 : decode (mB m13) 22 = .ok (.iload 4, 2) := by decide +kernel
theorem d13_24 : decode (mB m13) 24 = .ok (.iushr, 1) := by decide +kernel
theorem d13_25 : decode (mB m13) 25 = .ok (.iconst 1, 1) := by decide +kernel
theorem d13_26 : decode (mB m13) 26 = .ok (.iand, 1) := by decide +kernel
theorem d13_27 : decode (mB m13) 27 = .ok (.ifCond .eq 13, 3) := by decide +kernel
theorem d13_30 : decode (mB m13) 30 = .ok (.iload_n 3, 1) := by decide +kernel
theorem d13_31 : decode (mB m13) 31 = .ok (.aload_n 0, 1) := by decide +kernel
theorem d13_32 : decode (mB m13) 32 = .ok (.getfield 26, 3) := by decide +kernel
theorem d13_35 : decode (mB m13) 35 = .ok (.iload 4, 2) := by decide +kernel
theorem d13_37 : decode (mB m13) 37 = .ok (.iaload, 1) := by decide +kernel
theorem d13_38 : decode (mB m13) 38 = .ok (.ior, 1) := by decide +kernel
theorem d13_39 : decode (mB m13) 39 = .ok (.istore_n 3, 1) := by decide +kernel
theorem d13_40 : decode (mB m13) 40 = .ok (.iinc 4 1, 3) := by decide +kernel
theorem d13_43 : decode (mB m13) 43 = .ok (.goto (-31), 3) := by decide +kernel
theorem d13_46 : decode (mB m13) 46 = .ok (.iload_n 3, 1) := by decide +kernel
theorem d13_47 : decode (mB m13) 47 = .ok (.ireturn, 1) := by decide +kernel
theorem d14_0 : decode (mB m14) 0 = .ok (.iconst 0, 1) := by decide +kernel
theorem d14_1 : decode (mB m14) 1 = .ok (.istore_n 1, 1) := by decide +kernel
theorem d14_2 : decode (mB m14) 2 = .ok (.iload_n 1, 1) := by decide +kernel
theorem d14_3 : decode (mB m14) 3 = .ok (.aload_n 0, 1) := by decide +kernel
theorem d14_4 : decode (mB m14) 4 = .ok (.getfield 44, 3) := by decide +kernel
theorem d14_7 : decode (mB m14) 7 = .ok (.if_icmp .ge 31, 3) := by decide +kernel
theorem d14_10 : decode (mB m14) 10 = .ok (.aload_n 0, 1) := by decide +kernel
theorem d14_11 : decode (mB m14) 11 = .ok (.iload_n 1, 1) := by decide +kernel
theorem d14_12 : decode (mB m14) 12 = .ok (.invokevirtual 124, 3) := by decide +kernel
theorem d14_15 : decode (mB m14) 15 = .ok (.istore_n 2, 1) := by decide +kernel
theorem d14_16 : decode (mB m14) 16 = .ok (.aload_n 0, 1) := by decide +kernel
theorem d14_17 : decode (mB m14) 17 = .ok (.getfield 29, 3) := by decide +kernel
theorem d14_20 : decode (mB m14) 20 = .ok (.iload_n 1, 1) := by decide +kernel
theorem d14_21 : decode (mB m14) 21 = .ok (.iload_n 2, 1) := by decide +kernel
theorem d14_22 : decode (mB m14) 22 = .ok (.aload_n 0, 1) := by decide +kernel
theorem d14_23 : decode (mB m14) 23 = .ok (.getfield 20, 3) := by decide +kernel
theorem d14_26 : decode (mB m14) 26 = .ok (.iload_n 1, 1) := by decide +kernel
theorem d14_27 : decode (mB m14) 27 = .ok (.iaload, 1) := by decide +kernel
theorem d14_28 : decode (mB m14) 28 = .ok (.iconst (-1), 1) := by decide +kernel
theorem d14_29 : decode (mB m14) 29 = .ok (.ixor, 1) := by decide +kernel
theorem d14_30 : decode (mB m14) 30 = .ok (.iand, 1) := by decide +kernel
theorem d14_31 : decode (mB m14) 31 = .ok (.iastore, 1) := by decide +kernel
theorem d14_32 : decode (mB m14) 32 = .ok (.iinc 1 1, 3) := by decide +kernel
theorem d14_35 : decode (mB m14) 35 = .ok (.goto (-33), 3) := by decide +kernel
theorem d14_38 : decode (mB m14) 38 = .ok (.return_, 1) := by decide +kernel
theorem d15_0 : decode (mB m15) 0 = .ok (.iconst 0, 1) := by decide +kernel
theorem d15_1 : decode (mB m15) 1 = .ok (.istore_n 1, 1) := by decide +kernel
theorem d15_2 : decode (mB m15) 2 = .ok (.iload_n 1, 1) := by decide +kernel
theorem d15_3 : decode (mB m15) 3 = .ok (.bipush 32, 2) := by decide +kernel
theorem d15_5 : decode (mB m15) 5 = .ok (.if_icmp .ge 28, 3) := by decide +kernel
theorem d15_8 : decode (mB m15) 8 = .ok (.aload_n 0, 1) := by decide +kernel
theorem d15_9 : decode (mB m15) 9 = .ok (.getfield 26, 3) := by decide +kernel
theorem d15_12 : decode (mB m15) 12 = .ok (.iload_n 1, 1) := by decide +kernel
theorem d15_13 : decode (mB m15) 13 = .ok (.aload_n 0, 1) := by decide +kernel
theorem d15_14 : decode (mB m15) 14 = .ok (.getfield 29, 3) := by decide +kernel
theorem d15_17 : decode (mB m15) 17 = .ok (.iload_n 1, 1) := by decide +kernel
theorem d15_18 : decode (mB m15) 18 = .ok (.iaload, 1) := by decide +kernel
theorem d15_19 : decode (mB m15) 19 = .ok (.iastore, 1) := by decide +kernel
theorem d15_20 : decode (mB m15) 20 = .ok (.aload_n 0, 1) := by decide +kernel
theorem d15_21 : decode (mB m15) 21 = .ok (.getfield 29, 3) := by decide +kernel
theorem d15_24 : decode (mB m15) 24 = .ok (.iload_n 1, 1) := by decide +kernel
theorem d15_25 : decode (mB m15) 25 = .ok (.iconst 0, 1) := by decide +kernel
theorem d15_26 : decode (mB m15) 26 = .ok (.iastore, 1) := by decide +kernel
theorem d15_27 : decode (mB m15) 27 = .ok (.iinc 1 1, 3) := by decide +kernel
theorem d15_30 : decode (mB m15) 30 = .ok (.goto (-28), 3) := by decide +kernel
theorem d15_33 : decode (mB m15) 33 = .ok (.return_, 1) := by decide +kernel
theorem d16_0 : decode (mB m16) 0 = .ok (.iconst 0, 1) := by decide +kernel
theorem d16_1 : decode (mB m16) 1 = .ok (.istore_n 1, 1) := by decide +kernel
theorem d16_2 : decode (mB m16) 2 = .ok (.iload_n 1, 1) := by decide +kernel
theorem d16_3 : decode (mB m16) 3 = .ok (.aload_n 0, 1) := by decide +kernel
theorem d16_4 : decode (mB m16) 4 = .ok (.getfield 50, 3) := by decide +kernel
theorem d16_7 : decode (mB m16) 7 = .ok (.if_icmp .ge 25, 3) := by decide +kernel
theorem d16_10 : decode (mB m16) 10 = .ok (.aload_n 0, 1) := by decide +kernel
theorem d16_11 : decode (mB m16) 11 = .ok (.invokevirtual 114, 3) := by decide +kernel
theorem d16_14 : decode (mB m16) 14 = .ok (.ifCond .ne 4, 3) := by decide +kernel
theorem d16_17 : decode (mB m16) 17 = .ok (.return_, 1) := by decide +kernel
theorem d16_18 : decode (mB m16) 18 = .ok (.aload_n 0, 1) := by decide +kernel
theorem d16_19 : decode (mB m16) 19 = .ok (.invokevirtual 118, 3) := by decide +kernel
theorem d16_22 : decode (mB m16) 22 = .ok (.aload_n 0, 1) := by decide +kernel
theorem d16_23 : decode (mB m16) 23 = .ok (.invokevirtual 121, 3) := by decide +kernel
theorem d16_26 : decode (mB m16) 26 = .ok (.iinc 1 1, 3) := by decide +kernel
theorem d16_29 : decode (mB m16) 29 = .ok (.goto (-27), 3) := by decide +kernel
theorem d16_32 : decode (mB m16) 32 = .ok (.return_, 1) := by decide +kernel
theorem d17_0 : decode (mB m17) 0 = .ok (.aload_n 0, 1) := by decide +kernel
theorem d17_1 : decode (mB m17) 1 = .ok (.iload_n 2, 1) := by decide +kernel
theorem d17_2 : decode (mB m17) 2 = .ok (.invokevirtual 105, 3) := by decide +kernel
theorem d17_5 : decode (mB m17) 5 = .ok (.istore_n 3, 1) := by decide +kernel
theorem d17_6 : decode (mB m17) 6 = .ok (.aload_n 0, 1) := by decide +kernel
theorem d17_7 : decode (mB m17) 7 = .ok (.getfield 16, 3) := by decide +kernel
theorem d17_10 : decode (mB m17) 10 = .ok (.iload_n 1, 1) := by decide +kernel
theorem d17_11 : decode (mB m17) 11 = .ok (.aload_n 0, 1) := by decide +kernel
theorem d17_12 : decode (mB m17) 12 = .ok (.getfield 16, 3) := by decide +kernel
theorem d17_15 : decode (mB m17) 15 = .ok (.iload_n 1, 1) := by decide +kernel
theorem d17_16 : decode (mB m17) 16 = .ok (.iaload, 1) := by decide +kernel
theorem d17_17 : decode (mB m17) 17 = .ok (.iload_n 3, 1) := by decide +kernel
theorem d17_18 : decode (mB m17) 18 = .ok (.ior, 1) := by decide +kernel
theorem d17_19 : decode (mB m17) 19 = .ok (.iastore, 1) := by decide +kernel
theorem d17_20 : decode (mB m17) 20 = .ok (.aload_n 0, 1) := by decide +kernel
theorem d17_21 : decode (mB m17) 21 = .ok (.dup, 1) := by decide +kernel
theorem d17_22 : decode (mB m17) 22 = .ok (.getfield 53, 3) := by decide +kernel
theorem d17_25 : decode (mB m17) 25 = .ok (.iconst 1, 1) := by decide +kernel
theorem d17_26 : decode (mB m17) 26 = .ok (.iadd, 1) := by decide +kernel
theorem d17_27 : decode (mB m17) 27 = .ok (.putfield 53, 3) := by decide +kernel
theorem d17_30 : decode (mB m17) 30 = .ok (.aload_n 0, 1) := by decide +kernel
theorem d17_31 : decode (mB m17) 31 = .ok (.invokevirtual 108, 3) := by decide +kernel
theorem d17_34 : decode (mB m17) 34 = .ok (.iload_n 3, 1) := by decide +kernel
theorem d17_35 : decode (mB m17) 35 = .ok (.aload_n 0, 1) := by decide +kernel
theorem d17_36 : decode (mB m17) 36 = .ok (.getfield 20, 3) := by decide +kernel
theorem d17_39 : decode (mB m17) 39 = .ok (.iload_n 2, 1) := by decide +kernel
theorem d17_40 : decode (mB m17) 40 = .ok (.iaload, 1) := by decide +kernel
theorem d17_41 : decode (mB m17) 41 = .ok (.ior, 1) := by decide +kernel
theorem d17_42 : decode (mB m17) 42 = .ok (.istore 4, 2) := by decide +kernel
theorem d17_44 : decode (mB m17) 44 = .ok (.aload_n 0, 1) := by decide +kernel
theorem d17_45 : decode (mB m17) 45 = .ok (.getfield 26, 3) := by decide +kernel
theorem d17_48 : decode (mB m17) 48 = .ok (.iload_n 1, 1) := by decide +kernel
theorem d17_49 : decode (mB m17) 49 = .ok (.iload 4, 2) := by decide +kernel
theorem d17_51 : decode (mB m17) 51 = .ok (.aload_n 0, 1) := by decide +kernel
theorem d17_52 : decode (mB m17) 52 = .ok (.getfield 20, 3) := by decide +kernel
theorem d17_55 : decode (mB m17) 55 = .ok (.iload_n 1, 1) := by decide +kernel
theorem d17_56 : decode (mB m17) 56 = .ok (.iaload, 1) := by decide +kernel
theorem d17_57 : decode (mB m17) 57 = .ok (.iconst (-1), 1) := by decide +kernel
theorem d17_58 : decode (mB m17) 58 = .ok (.ixor, 1) := by decide +kernel
theorem d17_59 : decode (mB m17) 59 = .ok (.iand, 1) := by decide +kernel
theorem d17_60 : decode (mB m17) 60 = .ok (.iastore, 1) := by decide +kernel
theorem d17_61 : decode (mB m17) 61 = .ok (.aload_n 0, 1) := by decide +kernel
theorem d17_62 : decode (mB m17) 62 = .ok (.invokevirtual 111, 3) := by decide +kernel
theorem d17_65 : decode (mB m17) 65 = .ok (.return_, 1) := by decide +kernel
theorem d18_0 : decode (mB m18) 0 = .ok (.iload_n 1, 1) := by decide +kernel
theorem d18_1 : decode (mB m18) 1 = .ok (.iload_n 1, 1) := by decide +kernel
theorem d18_2 : decode (mB m18) 2 = .ok (.iconst 1, 1) := by decide +kernel
theorem d18_3 : decode (mB m18) 3 = .ok (.iushr, 1) := by decide +kernel
theorem d18_4 : decode (mB m18) 4 = .ok (.ldc 148, 2) := by decide +kernel
theorem d18_6 : decode (mB m18) 6 = .ok (.iand, 1) := by decide +kernel
theorem d18_7 : decode (mB m18) 7 = .ok (.isub, 1) := by decide +kernel
theorem d18_8 : decode (mB m18) 8 = .ok (.istore_n 2, 1) := by decide +kernel
theorem d18_9 : decode (mB m18) 9 = .ok (.iload_n 2, 1) := by decide +kernel
theorem d18_10 : decode (mB m18) 10 = .ok (.ldc 149, 2) := by decide +kernel
theorem d18_12 : decode (mB m18) 12 = .ok (.iand, 1) := by decide +kernel
theorem d18_13 : decode (mB m18) 13 = .ok (.iload_n 2, 1) := by decide +kernel
theorem d18_14 : decode (mB m18) 14 = .ok (.iconst 2, 1) := by decide +kernel
theorem d18_15 : decode (mB m18) 15 = .ok (.iushr, 1) := by decide +kernel
theorem d18_16 : decode (mB m18) 16 = .ok (.ldc 149, 2) := by decide +kernel
theorem d18_18 : decode (mB m18) 18 = .ok (.iand, 1) := by decide +kernel
theorem d18_19 : decode (mB m18) 19 = .ok (.iadd, 1) := by decide +kernel
theorem d18_20 : decode (mB m18) 20 = .ok (.istore_n 2, 1) := by decide +kernel
theorem d18_21 : decode (mB m18) 21 = .ok (.iload_n 2, 1) := by decide +kernel
theorem d18_22 : decode (mB m18) 22 = .ok (.iload_n 2, 1) := by decide +kernel
theorem d18_23 : decode (mB m18) 23 = .ok (.iconst 4, 1) := by decide +kernel
theorem d18_24 : decode (mB m18) 24 = .ok (.iushr, 1) := by decide +kernel
theorem d18_25 : decode (mB m18) 25 = .ok (.iadd, 1) := by decide +kernel
theorem d18_26 : decode (mB m18) 26 = .ok (.ldc 150, 2) := by decide +kernel
theorem d18_28 : decode (mB m18) 28 = .ok (.iand, 1) := by decide +kernel
theorem d18_29 : decode (mB m18) 29 = .ok (.istore_n 2, 1) := by decide +kernel
theorem d18_30 : decode (mB m18) 30 = .ok (.iload_n 2, 1) := by decide +kernel
theorem d18_31 : decode (mB m18) 31 = .ok (.ldc 151, 2) := by decide +kernel
theorem d18_33 : decode (mB m18) 33 = .ok (.imul, 1) := by decide +kernel
theorem d18_34 : decode (mB m18) 34 = .ok (.bipush 24, 2) := by decide +kernel
theorem d18_36 : decode (mB m18) 36 = .ok (.iushr, 1) := by decide +kernel
theorem d18_37 : decode (mB m18) 37 = .ok (.ireturn, 1) := by decide +kernel
theorem d19_0 : decode (mB m19) 0 = .ok (.iconst 0, 1) := by decide +kernel
theorem d19_1 : decode (mB m19) 1 = .ok (.istore_n 1, 1) := by decide +kernel
theorem d19_2 : decode (mB m19) 2 = .ok (.iconst 0, 1) := by decide +kernel
theorem d19_3 : decode (mB m19) 3 = .ok (.istore_n 2, 1) := by decide +kernel
theorem d19_4 : decode (mB m19) 4 = .ok (.iload_n 2, 1) := by decide +kernel
theorem d19_5 : decode (mB m19) 5 = .ok (.aload_n 0, 1) := by decide +kernel
theorem d19_6 : decode (mB m19) 6 = .ok (.getfield 44, 3) := by decide +kernel
theorem d19_9 : decode (mB m19) 9 = .ok (.if_icmp .ge 31, 3) := by decide +kernel
theorem d19_12 : decode (mB m19) 12 = .ok (.iload_n 1, 1) := by decide +kernel
theorem d19_13 : decode (mB m19) 13 = .ok (.aload_n 0, 1) := by decide +kernel
theorem d19_14 : decode (mB m19) 14 = .ok (.aload_n 0, 1) := by decide +kernel
theorem d19_15 : decode (mB m19) 15 = .ok (.getfield 20, 3) := by decide +kernel
theorem d19_18 : decode (mB m19) 18 = .ok (.iload_n 2, 1) := by decide +kernel
theorem d19_19 : decode (mB m19) 19 = .ok (.iaload, 1) := by decide +kernel
theorem d19_20 : decode (mB m19) 20 = .ok (.aload_n 0, 1) := by decide +kernel
theorem d19_21 : decode (mB m19) 21 = .ok (.getfield 23, 3) := by decide +kernel
theorem d19_24 : decode (mB m19) 24 = .ok (.iload_n 2, 1) := by decide +kernel
theorem d19_25 : decode (mB m19) 25 = .ok (.iaload, 1) := by decide +kernel
theorem d19_26 : decode (mB m19) 26 = .ok (.iconst (-1), 1) := by decide +kernel
theorem d19_27 : decode (mB m19) 27 = .ok (.ixor, 1) := by decide +kernel
theorem d19_28 : decode (mB m19) 28 = .ok (.iand, 1) := by decide +kernel
theorem d19_29 : decode (mB m19) 29 = .ok (.invokevirtual 101, 3) := by decide +kernel
theorem d19_32 : decode (mB m19) 32 = .ok (.iadd, 1) := by decide +kernel
theorem d19_33 : decode (mB m19) 33 = .ok (.istore_n 1, 1) := by decide +kernel
theorem d19_34 : decode (mB m19) 34 = .ok (.iinc 2 1, 3) := by decide +kernel
theorem d19_37 : decode (mB m19) 37 = .ok (.goto (-33), 3) := by decide +kernel
theorem d19_40 : decode (mB m19) 40 = .ok (.iload_n 1, 1) := by decide +kernel
theorem d19_41 : decode (mB m19) 41 = .ok (.ireturn, 1) := by decide +kernel
theorem d20_0 : decode (mB m20) 0 = .ok (.aload_n 0, 1) := by decide +kernel
theorem d20_1 : decode (mB m20) 1 = .ok (.iload_n 1, 1) := by decide +kernel
theorem d20_2 : decode (mB m20) 2 = .ok (.invokevirtual 65, 3) := by decide +kernel
theorem d20_5 : decode (mB m20) 5 = .ok (.ifCond .eq 11, 3) := by decide +kernel
theorem d20_8 : decode (mB m20) 8 = .ok (.aload_n 0, 1) := by decide +kernel
theorem d20_9 : decode (mB m20) 9 = .ok (.iload_n 2, 1) := by decide +kernel
theorem d20_10 : decode (mB m20) 10 = .ok (.invokevirtual 65, 3) := by decide +kernel
theorem d20_13 : decode (mB m20) 13 = .ok (.ifCond .ne 5, 3) := by decide +kernel
theorem d20_16 : decode (mB m20) 16 = .ok (.iconst (-1), 1) := by decide +kernel
theorem d20_17 : decode (mB m20) 17 = .ok (.ireturn, 1) := by decide +kernel
theorem d20_18 : decode (mB m20) 18 = .ok (.aload_n 0, 1) := by decide +kernel
theorem d20_19 : decode (mB m20) 19 = .ok (.iload_n 1, 1) := by decide +kernel
theorem d20_20 : decode (mB m20) 20 = .ok (.iload_n 2, 1) := by decide +kernel
theorem d20_21 : decode (mB m20) 21 = .ok (.invokevirtual 69, 3) := by decide +kernel
theorem d20_24 : decode (mB m20) 24 = .ok (.ifCond .eq 6, 3) := by decide +kernel
theorem d20_27 : decode (mB m20) 27 = .ok (.bipush (-2), 2) := by decide +kernel
theorem d20_29 : decode (mB m20) 29 = .ok (.ireturn, 1) := by decide +kernel
theorem d20_30 : decode (mB m20) 30 = .ok (.aload_n 0, 1) := by decide +kernel
theorem d20_31 : decode (mB m20) 31 = .ok (.getfield 53, 3) := by decide +kernel
theorem d20_34 : decode (mB m20) 34 = .ok (.aload_n 0, 1) := by decide +kernel
theorem d20_35 : decode (mB m20) 35 = .ok (.getfield 47, 3) := by decide +kernel
theorem d20_38 : decode (mB m20) 38 = .ok (.if_icmp .ne 6, 3) := by decide +kernel
theorem d20_41 : decode (mB m20) 41 = .ok (.bipush (-4), 2) := by decide +kernel
theorem d20_43 : decode (mB m20) 43 = .ok (.ireturn, 1) := by decide +kernel
theorem d20_44 : decode (mB m20) 44 = .ok (.aload_n 0, 1) := by decide +kernel
theorem d20_45 : decode (mB m20) 45 = .ok (.invokevirtual 73, 3) := by decide +kernel
theorem d20_48 : decode (mB m20) 48 = .ok (.aload_n 0, 1) := by decide +kernel
theorem d20_49 : decode (mB m20) 49 = .ok (.iload_n 1, 1) := by decide +kernel
theorem d20_50 : decode (mB m20) 50 = .ok (.iload_n 2, 1) := by decide +kernel
theorem d20_51 : decode (mB m20) 51 = .ok (.invokevirtual 76, 3) := by decide +kernel
theorem d20_54 : decode (mB m20) 54 = .ok (.aload_n 0, 1) := by decide +kernel
theorem d20_55 : decode (mB m20) 55 = .ok (.aload_n 0, 1) := by decide +kernel
theorem d20_56 : decode (mB m20) 56 = .ok (.invokevirtual 80, 3) := by decide +kernel
theorem d20_59 : decode (mB m20) 59 = .ok (.putfield 59, 3) := by decide +kernel
theorem d20_62 : decode (mB m20) 62 = .ok (.aload_n 0, 1) := by decide +kernel
theorem d20_63 : decode (mB m20) 63 = .ok (.iconst 0, 1) := by decide +kernel
theorem d20_64 : decode (mB m20) 64 = .ok (.putfield 62, 3) := by decide +kernel
theorem d20_67 : decode (mB m20) 67 = .ok (.aload_n 0, 1) := by decide +kernel
theorem d20_68 : decode (mB m20) 68 = .ok (.getfield 59, 3) := by decide +kernel
theorem d20_71 : decode (mB m20) 71 = .ok (.ireturn, 1) := by decide +kernel
theorem d21_0 : decode (mB m21) 0 = .ok (.iconst 0, 1) := by decide +kernel
theorem d21_1 : decode (mB m21) 1 = .ok (.istore_n 1, 1) := by decide +kernel
theorem d21_2 : decode (mB m21) 2 = .ok (.iload_n 1, 1) := by decide +kernel
theorem d21_3 : decode (mB m21) 3 = .ok (.bipush 32, 2) := by decide +kernel
theorem d21_5 : decode (mB m21) 5 = .ok (.if_icmp .ge 16, 3) := by decide +kernel
theorem d21_8 : decode (mB m21) 8 = .ok (.aload_n 0, 1) := by decide +kernel
theorem d21_9 : decode (mB m21) 9 = .ok (.getfield 32, 3) := by decide +kernel
theorem d21_12 : decode (mB m21) 12 = .ok (.iload_n 1, 1) := by decide +kernel
theorem d21_13 : decode (mB m21) 13 = .ok (.iconst 0, 1) := by decide +kernel
theorem d21_14 : decode (mB m21) 14 = .ok (.iastore, 1) := by decide +kernel
theorem d21_15 : decode (mB m21) 15 = .ok (.iinc 1 1, 3) := by decide +kernel
theorem d21_18 : decode (mB m21) 18 = .ok (.goto (-16), 3) := by decide +kernel
theorem d21_21 : decode (mB m21) 21 = .ok (.return_, 1) := by decide +kernel
theorem d22_0 : decode (mB m22) 0 = .ok (.iconst 0, 1) := by decide +kernel
theorem d22_1 : decode (mB m22) 1 = .ok (.istore_n 1, 1) := by decide +kernel
theorem d22_2 : decode (mB m22) 2 = .ok (.iconst 0, 1) := by decide +kernel
theorem d22_3 : decode (mB m22) 3 = .ok (.istore_n 2, 1) := by decide +kernel
theorem d22_4 : decode (mB m22) 4 = .ok (.iload_n 2, 1) := by decide +kernel
theorem d22_5 : decode (mB m22) 5 = .ok (.aload_n 0, 1) := by decide +kernel
theorem d22_6 : decode (mB m22) 6 = .ok (.getfield 44, 3) := by decide +kernel
theorem d22_9 : decode (mB m22) 9 = .ok (.if_icmp .ge 36, 3) := by decide +kernel
theorem d22_12 : decode (mB m22) 12 = .ok (.aload_n 0, 1) := by decide +kernel
theorem d22_13 : decode (mB m22) 13 = .ok (.getfield 26, 3) := by decide +kernel
theorem d22_16 : decode (mB m22) 16 = .ok (.iload_n 2, 1) := by decide +kernel
theorem d22_17 : decode (mB m22) 17 = .ok (.iaload, 1) := by decide +kernel
theorem d22_18 : decode (mB m22) 18 = .ok (.istore_n 3, 1) := by decide +kernel
theorem d22_19 : decode (mB m22) 19 = .ok (.iload_n 3, 1) := by decide +kernel
theorem d22_20 : decode (mB m22) 20 = .ok (.ifCond .eq 19, 3) := by decide +kernel
theorem d22_23 : decode (mB m22) 23 = .ok (.aload_n 0, 1) := by decide +kernel
theorem d22_24 : decode (mB m22) 24 = .ok (.getfield 32, 3) := by decide +kernel
theorem d22_27 : decode (mB m22) 27 = .ok (.iload_n 2, 1) := by decide +kernel
theorem d22_28 : decode (mB m22) 28 = .ok (.aload_n 0, 1) := by decide +kernel
theorem d22_29 : decode (mB m22) 29 = .ok (.getfield 32, 3) := by decide +kernel
theorem d22_32 : decode (mB m22) 32 = .ok (.iload_n 2, 1) := by decide +kernel
theorem d22_33 : decode (mB m22) 33 = .ok (.iaload, 1) := by decide +kernel
theorem d22_34 : decode (mB m22) 34 = .ok (.iload_n 3, 1) := by decide +kernel
theorem d22_35 : decode (mB m22) 35 = .ok (.ior, 1) := by decide +kernel
theorem d22_36 : decode (mB m22) 36 = .ok (.iastore, 1) := by decide +kernel
theorem d22_37 : decode (mB m22) 37 = .ok (.iconst 1, 1) := by decide +kernel
theorem d22_38 : decode (mB m22) 38 = .ok (.istore_n 1, 1) := by decide +kernel
theorem d22_39 : decode (mB m22) 39 = .ok (.iinc 2 1, 3) := by decide +kernel
theorem d22_42 : decode (mB m22) 42 = .ok (.goto (-38), 3) := by decide +kernel
theorem d22_45 : decode (mB m22) 45 = .ok (.iload_n 1, 1) := by decide +kernel
theorem d22_46 : decode (mB m22) 46 = .ok (.ireturn, 1) := by decide +kernel
theorem d23_0 : decode (mB m23) 0 = .ok (.iconst 0, 1) := by decide +kernel
theorem d23_1 : decode (mB m23) 1 = .ok (.istore_n 1, 1) := by decide +kernel
theorem d23_2 : decode (mB m23) 2 = .ok (.iload_n 1, 1) := by decide +kernel
theorem d23_3 : decode (mB m23) 3 = .ok (.aload_n 0, 1) := by decide +kernel
theorem d23_4 : decode (mB m23) 4 = .ok (.getfield 44, 3) := by decide +kernel
theorem d23_7 : decode (mB m23) 7 = .ok (.if_icmp .ge 38, 3) := by decide +kernel
theorem d23_10 : decode (mB m23) 10 = .ok (.aload_n 0, 1) := by decide +kernel
theorem d23_11 : decode (mB m23) 11 = .ok (.iload_n 1, 1) := by decide +kernel
theorem d23_12 : decode (mB m23) 12 = .ok (.invokevirtual 124, 3) := by decide +kernel
theorem d23_15 : decode (mB m23) 15 = .ok (.istore_n 2, 1) := by decide +kernel
theorem d23_16 : decode (mB m23) 16 = .ok (.aload_n 0, 1) := by decide +kernel
theorem d23_17 : decode (mB m23) 17 = .ok (.getfield 29, 3) := by decide +kernel
theorem d23_20 : decode (mB m23) 20 = .ok (.iload_n 1, 1) := by decide +kernel
theorem d23_21 : decode (mB m23) 21 = .ok (.iload_n 2, 1) := by decide +kernel
theorem d23_22 : decode (mB m23) 22 = .ok (.aload_n 0, 1) := by decide +kernel
theorem d23_23 : decode (mB m23) 23 = .ok (.getfield 20, 3) := by decide +kernel
theorem d23_26 : decode (mB m23) 26 = .ok (.iload_n 1, 1) := by decide +kernel
theorem d23_27 : decode (mB m23) 27 = .ok (.iaload, 1) := by decide +kernel
theorem d23_28 : decode (mB m23) 28 = .ok (.iand, 1) := by decide +kernel
theorem d23_29 : decode (mB m23) 29 = .ok (.aload_n 0, 1) := by decide +kernel
theorem d23_30 : decode (mB m23) 30 = .ok (.getfield 32, 3) := by decide +kernel
theorem d23_33 : decode (mB m23) 33 = .ok (.iload_n 1, 1) := by decide +kernel
theorem d23_34 : decode (mB m23) 34 = .ok (.iaload, 1) := by decide +kernel
theorem d23_35 : decode (mB m23) 35 = .ok (.iconst (-1), 1) := by decide +kernel
theorem d23_36 : decode (mB m23) 36 = .ok (.ixor, 1) := by decide +kernel
theorem d23_37 : decode (mB m23) 37 = .ok (.iand, 1) := by decide +kernel
theorem d23_38 : decode (mB m23) 38 = .ok (.iastore, 1) := by decide +kernel
theorem d23_39 : decode (mB m23) 39 = .ok (.iinc 1 1, 3) := by decide +kernel
theorem d23_42 : decode (mB m23) 42 = .ok (.goto (-40), 3) := by decide +kernel
theorem d23_45 : decode (mB m23) 45 = .ok (.return_, 1) := by decide +kernel
theorem d24_0 : decode (mB m24) 0 = .ok (.aload_n 0, 1) := by decide +kernel
theorem d24_1 : decode (mB m24) 1 = .ok (.invokevirtual 136, 3) := by decide +kernel
theorem d24_4 : decode (mB m24) 4 = .ok (.aload_n 0, 1) := by decide +kernel
theorem d24_5 : decode (mB m24) 5 = .ok (.invokevirtual 108, 3) := by decide +kernel
theorem d24_8 : decode (mB m24) 8 = .ok (.aload_n 0, 1) := by decide +kernel
theorem d24_9 : decode (mB m24) 9 = .ok (.iload_n 2, 1) := by decide +kernel
theorem d24_10 : decode (mB m24) 10 = .ok (.invokevirtual 105, 3) := by decide +kernel
theorem d24_13 : decode (mB m24) 13 = .ok (.istore_n 3, 1) := by decide +kernel
theorem d24_14 : decode (mB m24) 14 = .ok (.iload_n 3, 1) := by decide +kernel
theorem d24_15 : decode (mB m24) 15 = .ok (.aload_n 0, 1) := by decide +kernel
theorem d24_16 : decode (mB m24) 16 = .ok (.getfield 20, 3) := by decide +kernel
theorem d24_19 : decode (mB m24) 19 = .ok (.iload_n 2, 1) := by decide +kernel
theorem d24_20 : decode (mB m24) 20 = .ok (.iaload, 1) := by decide +kernel
theorem d24_21 : decode (mB m24) 21 = .ok (.ior, 1) := by decide +kernel
theorem d24_22 : decode (mB m24) 22 = .ok (.istore 4, 2) := by decide +kernel
theorem d24_24 : decode (mB m24) 24 = .ok (.aload_n 0, 1) := by decide +kernel
theorem d24_25 : decode (mB m24) 25 = .ok (.getfield 26, 3) := by decide +kernel
theorem d24_28 : decode (mB m24) 28 = .ok (.iload_n 1, 1) := by decide +kernel
theorem d24_29 : decode (mB m24) 29 = .ok (.iload 4, 2) := by decide +kernel
theorem d24_31 : decode (mB m24) 31 = .ok (.aload_n 0, 1) := by decide +kernel
theorem d24_32 : decode (mB m24) 32 = .ok (.getfield 20, 3) := by decide +kernel
theorem d24_35 : decode (mB m24) 35 = .ok (.iload_n 1, 1) := by decide +kernel
theorem d24_36 : decode (mB m24) 36 = .ok (.iaload, 1) := by decide +kernel
theorem d24_37 : decode (mB m24) 37 = .ok (.iand, 1) := by decide +kernel
theorem d24_38 : decode (mB m24) 38 = .ok (.iastore, 1) := by decide +kernel
theorem d24_39 : decode (mB m24) 39 = .ok (.iconst 0, 1) := by decide +kernel
theorem d24_40 : decode (mB m24) 40 = .ok (.istore 5, 2) := by decide +kernel
theorem d24_42 : decode (mB m24) 42 = .ok (.iload 5, 2) := by decide +kernel
theorem d24_44 : decode (mB m24) 44 = .ok (.aload_n 0, 1) := by decide +kernel
theorem d24_45 : decode (mB m24) 45 = .ok (.getfield 50, 3) := by decide +kernel
theorem d24_48 : decode (mB m24) 48 = .ok (.if_icmp .ge 25, 3) := by decide +kernel
theorem d24_51 : decode (mB m24) 51 = .ok (.aload_n 0, 1) := by decide +kernel
theorem d24_52 : decode (mB m24) 52 = .ok (.invokevirtual 139, 3) := by decide +kernel
theorem d24_55 : decode (mB m24) 55 = .ok (.ifCond .ne 4, 3) := by decide +kernel
theorem d24_58 : decode (mB m24) 58 = .ok (.return_, 1) := by decide +kernel
theorem d24_59 : decode (mB m24) 59 = .ok (.aload_n 0, 1) := by decide +kernel
theorem d24_60 : decode (mB m24) 60 = .ok (.invokevirtual 142, 3) := by decide +kernel
theorem d24_63 : decode (mB m24) 63 = .ok (.aload_n 0, 1) := by decide +kernel
theorem d24_64 : decode (mB m24) 64 = .ok (.invokevirtual 121, 3) := by decide +kernel
theorem d24_67 : decode (mB m24) 67 = .ok (.iinc 5 1, 3) := by decide +kernel
theorem d24_70 : decode (mB m24) 70 = .ok (.goto (-28), 3) := by decide +kernel
theorem d24_73 : decode (mB m24) 73 = .ok (.return_, 1) := by decide +kernel
theorem d25_0 : decode (mB m25) 0 = .ok (.iconst 0, 1) := by decide +kernel
theorem d25_1 : decode (mB m25) 1 = .ok (.istore_n 1, 1) := by decide +kernel
theorem d25_2 : decode (mB m25) 2 = .ok (.iload_n 1, 1) := by decide +kernel
theorem d25_3 : decode (mB m25) 3 = .ok (.aload_n 0, 1) := by decide +kernel
theorem d25_4 : decode (mB m25) 4 = .ok (.getfield 44, 3) := by decide +kernel
theorem d25_7 : decode (mB m25) 7 = .ok (.if_icmp .ge 30, 3) := by decide +kernel
theorem d25_10 : decode (mB m25) 10 = .ok (.aload_n 0, 1) := by decide +kernel
theorem d25_11 : decode (mB m25) 11 = .ok (.getfield 20, 3) := by decide +kernel
theorem d25_14 : decode (mB m25) 14 = .ok (.iload_n 1, 1) := by decide +kernel
theorem d25_15 : decode (mB m25) 15 = .ok (.aload_n 0, 1) := by decide +kernel
theorem d25_16 : decode (mB m25) 16 = .ok (.getfield 20, 3) := by decide +kernel
theorem d25_19 : decode (mB m25) 19 = .ok (.iload_n 1, 1) := by decide +kernel
theorem d25_20 : decode (mB m25) 20 = .ok (.iaload, 1) := by decide +kernel
theorem d25_21 : decode (mB m25) 21 = .ok (.aload_n 0, 1) := by decide +kernel
theorem d25_22 : decode (mB m25) 22 = .ok (.getfield 32, 3) := by decide +kernel
theorem d25_25 : decode (mB m25) 25 = .ok (.iload_n 1, 1) := by decide +kernel
theorem d25_26 : decode (mB m25) 26 = .ok (.iaload, 1) := by decide +kernel
theorem d25_27 : decode (mB m25) 27 = .ok (.iconst (-1), 1) := by decide +kernel
theorem d25_28 : decode (mB m25) 28 = .ok (.ixor, 1) := by decide +kernel
theorem d25_29 : decode (mB m25) 29 = .ok (.iand, 1) := by decide +kernel
theorem d25_30 : decode (mB m25) 30 = .ok (.iastore, 1) := by decide +kernel
theorem d25_31 : decode (mB m25) 31 = .ok (.iinc 1 1, 3) := by decide +kernel
theorem d25_34 : decode (mB m25) 34 = .ok (.goto (-32), 3) := by decide +kernel
theorem d25_37 : decode (mB m25) 37 = .ok (.return_, 1) := by decide +kernel
theorem d26_0 : decode (mB m26) 0 = .ok (.aload_n 0, 1) := by decide +kernel
theorem d26_1 : decode (mB m26) 1 = .ok (.getfield 16, 3) := by decide +kernel
theorem d26_4 : decode (mB m26) 4 = .ok (.iload_n 1, 1) := by decide +kernel
theorem d26_5 : decode (mB m26) 5 = .ok (.iaload, 1) := by decide +kernel
theorem d26_6 : decode (mB m26) 6 = .ok (.istore_n 2, 1) := by decide +kernel
theorem d26_7 : decode (mB m26) 7 = .ok (.iconst 0, 1) := by decide +kernel
theorem d26_8 : decode (mB m26) 8 = .ok (.istore_n 3, 1) := by decide +kernel
theorem d26_9 : decode (mB m26) 9 = .ok (.iconst 0, 1) := by decide +kernel
theorem d26_10 : decode (mB m26) 10 = .ok (.istore 4, 2) := by decide +kernel
theorem d26_12 : decode (mB m26) 12 = .ok (.iload 4, 2) := by decide +kernel
theorem d26_14 : decode (mB m26) 14 = .ok (.aload_n 0, 1) := by decide +kernel
theorem d26_15 : decode (mB m26) 15 = .ok (.getfield 44, 3) := by decide +kernel
theorem d26_18 : decode (mB m26) 18 = .ok (.if_icmp .ge 28, 3) := by decide +kernel
theorem d26_21 : decode (mB m26) 21 = .ok (.iload_n 2, 1) := by decide +kernel
theorem d26_22 : decode (mB m26) 22 = .ok (.iload 4, 2) := by decide +kernel
theorem d26_24 : decode (mB m26) 24 = .ok (.iushr, 1) := by decide +kernel
theorem d26_25 : decode (mB m26) 25 = .ok (.iconst 1, 1) := by decide +kernel
theorem d26_26 : decode (mB m26) 26 = .ok (.iand, 1) := by decide +kernel
theorem d26_27 : decode (mB m26) 27 = .ok (.ifCond .eq 13, 3) := by decide +kernel
theorem d26_30 : decode (mB m26) 30 = .ok (.iload_n 3, 1) := by decide +kernel
theorem d26_31 : decode (mB m26) 31 = .ok (.aload_n 0, 1) := by decide +kernel
theorem d26_32 : decode (mB m26) 32 = .ok (.getfield 20, 3) := by decide +kernel
theorem d26_35 : decode (mB m26) 35 = .ok (.iload 4, 2) := by decide +kernel
theorem d26_37 : decode (mB m26) 37 = .ok (.iaload, 1) := by decide +kernel
theorem d26_38 : decode (mB m26) 38 = .ok (.ior, 1) := by decide +kernel
theorem d26_39 : decode (mB m26) 39 = .ok (.istore_n 3, 1) := by decide +kernel
theorem d26_40 : decode (mB m26) 40 = .ok (.iinc 4 1, 3) := by decide +kernel
theorem d26_43 : decode (mB m26) 43 = .ok (.goto (-31), 3) := by decide +kernel
theorem d26_46 : decode (mB m26) 46 = .ok (.iload_n 3, 1) := by decide +kernel
theorem d26_47 : decode (mB m26) 47 = .ok (.ireturn, 1) := by decide +kernel
theorem d27_0 : decode (mB m27) 0 = .ok (.aload_n 0, 1) := by decide +kernel
theorem d27_1 : decode (mB m27) 1 = .ok (.invokevirtual 108, 3) := by decide +kernel
theorem d27_4 : decode (mB m27) 4 = .ok (.iconst 0, 1) := by decide +kernel
theorem d27_5 : decode (mB m27) 5 = .ok (.istore_n 1, 1) := by decide +kernel
theorem d27_6 : decode (mB m27) 6 = .ok (.iload_n 1, 1) := by decide +kernel
theorem d27_7 : decode (mB m27) 7 = .ok (.aload_n 0, 1) := by decide +kernel
theorem d27_8 : decode (mB m27) 8 = .ok (.getfield 44, 3) := by decide +kernel
theorem d27_11 : decode (mB m27) 11 = .ok (.if_icmp .ge 51, 3) := by decide +kernel
theorem d27_14 : decode (mB m27) 14 = .ok (.aload_n 0, 1) := by decide +kernel
theorem d27_15 : decode (mB m27) 15 = .ok (.getfield 32, 3) := by decide +kernel
theorem d27_18 : decode (mB m27) 18 = .ok (.iload_n 1, 1) := by decide +kernel
theorem d27_19 : decode (mB m27) 19 = .ok (.iaload, 1) := by decide +kernel
theorem d27_20 : decode (mB m27) 20 = .ok (.istore_n 2, 1) := by decide +kernel
theorem d27_21 : decode (mB m27) 21 = .ok (.iload_n 2, 1) := by decide +kernel
theorem d27_22 : decode (mB m27) 22 = .ok (.ifCond .eq 34, 3) := by decide +kernel
theorem d27_25 : decode (mB m27) 25 = .ok (.aload_n 0, 1) := by decide +kernel
theorem d27_26 : decode (mB m27) 26 = .ok (.getfield 16, 3) := by decide +kernel
theorem d27_29 : decode (mB m27) 29 = .ok (.iload_n 1, 1) := by decide +kernel
theorem d27_30 : decode (mB m27) 30 = .ok (.iaload, 1) := by decide +kernel
theorem d27_31 : decode (mB m27) 31 = .ok (.aload_n 0, 1) := by decide +kernel
theorem d27_32 : decode (mB m27) 32 = .ok (.iload_n 1, 1) := by decide +kernel
theorem d27_33 : decode (mB m27) 33 = .ok (.invokevirtual 145, 3) := by decide +kernel
theorem d27_36 : decode (mB m27) 36 = .ok (.ior, 1) := by decide +kernel
theorem d27_37 : decode (mB m27) 37 = .ok (.istore_n 3, 1) := by decide +kernel
theorem d27_38 : decode (mB m27) 38 = .ok (.aload_n 0, 1) := by decide +kernel
theorem d27_39 : decode (mB m27) 39 = .ok (.getfield 26, 3) := by decide +kernel
theorem d27_42 : decode (mB m27) 42 = .ok (.iload_n 1, 1) := by decide +kernel
theorem d27_43 : decode (mB m27) 43 = .ok (.iload_n 2, 1) := by decide +kernel
theorem d27_44 : decode (mB m27) 44 = .ok (.iload_n 3, 1) := by decide +kernel
theorem d27_45 : decode (mB m27) 45 = .ok (.iand, 1) := by decide +kernel
theorem d27_46 : decode (mB m27) 46 = .ok (.aload_n 0, 1) := by decide +kernel
theorem d27_47 : decode (mB m27) 47 = .ok (.getfield 20, 3) := by decide +kernel
theorem d27_50 : decode (mB m27) 50 = .ok (.iload_n 1, 1) := by decide +kernel
theorem d27_51 : decode (mB m27) 51 = .ok (.iaload, 1) := by decide +kernel
theorem d27_52 : decode (mB m27) 52 = .ok (.iconst (-1), 1) := by decide +kernel
theorem d27_53 : decode (mB m27) 53 = .ok (.ixor, 1) := by decide +kernel
theorem d27_54 : decode (mB m27) 54 = .ok (.iand, 1) := by decide +kernel
theorem d27_55 : decode (mB m27) 55 = .ok (.iastore, 1) := by decide +kernel
theorem d27_56 : decode (mB m27) 56 = .ok (.iinc 1 1, 3) := by decide +kernel
theorem d27_59 : decode (mB m27) 59 = .ok (.goto (-53), 3) := by decide +kernel
theorem d27_62 : decode (mB m27) 62 = .ok (.aload_n 0, 1) := by decide +kernel
theorem d27_63 : decode (mB m27) 63 = .ok (.invokevirtual 111, 3) := by decide +kernel
theorem d27_66 : decode (mB m27) 66 = .ok (.return_, 1) := by decide +kernel
theorem d28_0 : decode (mB m28) 0 = .ok (.aload_n 0, 1) := by decide +kernel
theorem d28_1 : decode (mB m28) 1 = .ok (.iload_n 2, 1) := by decide +kernel
theorem d28_2 : decode (mB m28) 2 = .ok (.invokevirtual 105, 3) := by decide +kernel
theorem d28_5 : decode (mB m28) 5 = .ok (.istore_n 3, 1) := by decide +kernel
theorem d28_6 : decode (mB m28) 6 = .ok (.aload_n 0, 1) := by decide +kernel
theorem d28_7 : decode (mB m28) 7 = .ok (.getfield 16, 3) := by decide +kernel
theorem d28_10 : decode (mB m28) 10 = .ok (.iload_n 1, 1) := by decide +kernel
theorem d28_11 : decode (mB m28) 11 = .ok (.aload_n 0, 1) := by decide +kernel
theorem d28_12 : decode (mB m28) 12 = .ok (.getfield 16, 3) := by decide +kernel
theorem d28_15 : decode (mB m28) 15 = .ok (.iload_n 1, 1) := by decide +kernel
theorem d28_16 : decode (mB m28) 16 = .ok (.iaload, 1) := by decide +kernel
theorem d28_17 : decode (mB m28) 17 = .ok (.iload_n 3, 1) := by decide +kernel
theorem d28_18 : decode (mB m28) 18 = .ok (.iconst (-1), 1) := by decide +kernel
theorem d28_19 : decode (mB m28) 19 = .ok (.ixor, 1) := by decide +kernel
theorem d28_20 : decode (mB m28) 20 = .ok (.iand, 1) := by decide +kernel
theorem d28_21 : decode (mB m28) 21 = .ok (.iastore, 1) := by decide +kernel
theorem d28_22 : decode (mB m28) 22 = .ok (.aload_n 0, 1) := by decide +kernel
theorem d28_23 : decode (mB m28) 23 = .ok (.dup, 1) := by decide +kernel
theorem d28_24 : decode (mB m28) 24 = .ok (.getfield 53, 3) := by decide +kernel
theorem d28_27 : decode (mB m28) 27 = .ok (.iconst 1, 1) := by decide +kernel
theorem d28_28 : decode (mB m28) 28 = .ok (.isub, 1) := by decide +kernel
theorem d28_29 : decode (mB m28) 29 = .ok (.putfield 53, 3) := by decide +kernel
theorem d28_32 : decode (mB m28) 32 = .ok (.aload_n 0, 1) := by decide +kernel
theorem d28_33 : decode (mB m28) 33 = .ok (.iload_n 1, 1) := by decide +kernel
theorem d28_34 : decode (mB m28) 34 = .ok (.iload_n 2, 1) := by decide +kernel
theorem d28_35 : decode (mB m28) 35 = .ok (.invokevirtual 127, 3) := by decide +kernel
theorem d28_38 : decode (mB m28) 38 = .ok (.aload_n 0, 1) := by decide +kernel
theorem d28_39 : decode (mB m28) 39 = .ok (.invokevirtual 130, 3) := by decide +kernel
theorem d28_42 : decode (mB m28) 42 = .ok (.aload_n 0, 1) := by decide +kernel
theorem d28_43 : decode (mB m28) 43 = .ok (.invokevirtual 133, 3) := by decide +kernel
theorem d28_46 : decode (mB m28) 46 = .ok (.return_, 1) := by decide +kernel
theorem d29_0 : decode (mB m29) 0 = .ok (.iconst 0, 1) := by decide +kernel
theorem d29_1 : decode (mB m29) 1 = .ok (.istore_n 1, 1) := by decide +kernel
theorem d29_2 : decode (mB m29) 2 = .ok (.iconst 0, 1) := by decide +kernel
theorem d29_3 : decode (mB m29) 3 = .ok (.istore_n 2, 1) := by decide +kernel
theorem d29_4 : decode (mB m29) 4 = .ok (.iload_n 2, 1) := by decide +kernel
theorem d29_5 : decode (mB m29) 5 = .ok (.aload_n 0, 1) := by decide +kernel
theorem d29_6 : decode (mB m29) 6 = .ok (.getfield 44, 3) := by decide +kernel
theorem d29_9 : decode (mB m29) 9 = .ok (.if_icmp .ge 31, 3) := by decide +kernel
theorem d29_12 : decode (mB m29) 12 = .ok (.iload_n 1, 1) := by decide +kernel
theorem d29_13 : decode (mB m29) 13 = .ok (.aload_n 0, 1) := by decide +kernel
theorem d29_14 : decode (mB m29) 14 = .ok (.aload_n 0, 1) := by decide +kernel
theorem d29_15 : decode (mB m29) 15 = .ok (.getfield 23, 3) := by decide +kernel
theorem d29_18 : decode (mB m29) 18 = .ok (.iload_n 2, 1) := by decide +kernel
theorem d29_19 : decode (mB m29) 19 = .ok (.iaload, 1) := by decide +kernel
theorem d29_20 : decode (mB m29) 20 = .ok (.aload_n 0, 1) := by decide +kernel
theorem d29_21 : decode (mB m29) 21 = .ok (.getfield 20, 3) := by decide +kernel
theorem d29_24 : decode (mB m29) 24 = .ok (.iload_n 2, 1) := by decide +kernel
theorem d29_25 : decode (mB m29) 25 = .ok (.iaload, 1) := by decide +kernel
theorem d29_26 : decode (mB m29) 26 = .ok (.iconst (-1), 1) := by decide +kernel
theorem d29_27 : decode (mB m29) 27 = .ok (.ixor, 1) := by decide +kernel
theorem d29_28 : decode (mB m29) 28 = .ok (.iand, 1) := by decide +kernel
theorem d29_29 : decode (mB m29) 29 = .ok (.invokevirtual 101, 3) := by decide +kernel
theorem d29_32 : decode (mB m29) 32 = .ok (.iadd, 1) := by decide +kernel
theorem d29_33 : decode (mB m29) 33 = .ok (.istore_n 1, 1) := by decide +kernel
theorem d29_34 : decode (mB m29) 34 = .ok (.iinc 2 1, 3) := by decide +kernel
theorem d29_37 : decode (mB m29) 37 = .ok (.goto (-33), 3) := by decide +kernel
theorem d29_40 : decode (mB m29) 40 = .ok (.iload_n 1, 1) := by decide +kernel
theorem d29_41 : decode (mB m29) 41 = .ok (.ireturn, 1) := by decide +kernel
theorem d30_0 : decode (mB m30) 0 = .ok (.aload_n 0, 1) := by decide +kernel
theorem d30_1 : decode (mB m30) 1 = .ok (.iload_n 1, 1) := by decide +kernel
theorem d30_2 : decode (mB m30) 2 = .ok (.invokevirtual 65, 3) := by decide +kernel
theorem d30_5 : decode (mB m30) 5 = .ok (.ifCond .eq 11, 3) := by decide +kernel
theorem d30_8 : decode (mB m30) 8 = .ok (.aload_n 0, 1) := by decide +kernel
theorem d30_9 : decode (mB m30) 9 = .ok (.iload_n 2, 1) := by decide +kernel
theorem d30_10 : decode (mB m30) 10 = .ok (.invokevirtual 65, 3) := by decide +kernel
theorem d30_13 : decode (mB m30) 13 = .ok (.ifCond .ne 5, 3) := by decide +kernel
theorem d30_16 : decode (mB m30) 16 = .ok (.iconst (-1), 1) := by decide +kernel
theorem d30_17 : decode (mB m30) 17 = .ok (.ireturn, 1) := by decide +kernel
theorem d30_18 : decode (mB m30) 18 = .ok (.aload_n 0, 1) := by decide +kernel
theorem d30_19 : decode (mB m30) 19 = .ok (.iload_n 1, 1) := by decide +kernel
theorem d30_20 : decode (mB m30) 20 = .ok (.iload_n 2, 1) := by decide +kernel
theorem d30_21 : decode (mB m30) 21 = .ok (.invokevirtual 69, 3) := by decide +kernel
theorem d30_24 : decode (mB m30) 24 = .ok (.ifCond .ne 6, 3) := by decide +kernel
theorem d30_27 : decode (mB m30) 27 = .ok (.bipush (-3), 2) := by decide +kernel
theorem d30_29 : decode (mB m30) 29 = .ok (.ireturn, 1) := by decide +kernel
theorem d30_30 : decode (mB m30) 30 = .ok (.aload_n 0, 1) := by decide +kernel
theorem d30_31 : decode (mB m30) 31 = .ok (.invokevirtual 73, 3) := by decide +kernel
theorem d30_34 : decode (mB m30) 34 = .ok (.aload_n 0, 1) := by decide +kernel
theorem d30_35 : decode (mB m30) 35 = .ok (.iload_n 1, 1) := by decide +kernel
theorem d30_36 : decode (mB m30) 36 = .ok (.iload_n 2, 1) := by decide +kernel
theorem d30_37 : decode (mB m30) 37 = .ok (.invokevirtual 84, 3) := by decide +kernel
theorem d30_40 : decode (mB m30) 40 = .ok (.aload_n 0, 1) := by decide +kernel
theorem d30_41 : decode (mB m30) 41 = .ok (.aload_n 0, 1) := by decide +kernel
theorem d30_42 : decode (mB m30) 42 = .ok (.invokevirtual 87, 3) := by decide +kernel
theorem d30_45 : decode (mB m30) 45 = .ok (.putfield 62, 3) := by decide +kernel
theorem d30_48 : decode (mB m30) 48 = .ok (.aload_n 0, 1) := by decide +kernel
theorem d30_49 : decode (mB m30) 49 = .ok (.iconst 0, 1) := by decide +kernel
theorem d30_50 : decode (mB m30) 50 = .ok (.putfield 59, 3) := by decide +kernel
theorem d30_53 : decode (mB m30) 53 = .ok (.aload_n 0, 1) := by decide +kernel
theorem d30_54 : decode (mB m30) 54 = .ok (.getfield 62, 3) := by decide +kernel
theorem d30_57 : decode (mB m30) 57 = .ok (.ireturn, 1) := by decide +kernel
theorem d31_0 : decode (mB m31) 0 = .ok (.aload_n 0, 1) := by decide +kernel
theorem d31_1 : decode (mB m31) 1 = .ok (.iload_n 2, 1) := by decide +kernel
theorem d31_2 : decode (mB m31) 2 = .ok (.invokevirtual 65, 3) := by decide +kernel
theorem d31_5 : decode (mB m31) 5 = .ok (.ifCond .eq 11, 3) := by decide +kernel
theorem d31_8 : decode (mB m31) 8 = .ok (.aload_n 0, 1) := by decide +kernel
theorem d31_9 : decode (mB m31) 9 = .ok (.iload_n 3, 1) := by decide +kernel
theorem d31_10 : decode (mB m31) 10 = .ok (.invokevirtual 65, 3) := by decide +kernel
theorem d31_13 : decode (mB m31) 13 = .ok (.ifCond .ne 5, 3) := by decide +kernel
theorem d31_16 : decode (mB m31) 16 = .ok (.iconst (-1), 1) := by decide +kernel
theorem d31_17 : decode (mB m31) 17 = .ok (.ireturn, 1) := by decide +kernel
theorem d31_18 : decode (mB m31) 18 = .ok (.aload_n 0, 1) := by decide +kernel
theorem d31_19 : decode (mB m31) 19 = .ok (.getfield 56, 3) := by decide +kernel
theorem d31_22 : decode (mB m31) 22 = .ok (.bipush 16, 2) := by decide +kernel
theorem d31_24 : decode (mB m31) 24 = .ok (.if_icmp .lt 6, 3) := by decide +kernel
theorem d31_27 : decode (mB m31) 27 = .ok (.bipush (-5), 2) := by decide +kernel
theorem d31_29 : decode (mB m31) 29 = .ok (.ireturn, 1) := by decide +kernel
theorem d31_30 : decode (mB m31) 30 = .ok (.aload_n 0, 1) := by decide +kernel
theorem d31_31 : decode (mB m31) 31 = .ok (.getfield 35, 3) := by decide +kernel
theorem d31_34 : decode (mB m31) 34 = .ok (.aload_n 0, 1) := by decide +kernel
theorem d31_35 : decode (mB m31) 35 = .ok (.getfield 56, 3) := by decide +kernel
theorem d31_38 : decode (mB m31) 38 = .ok (.iload_n 1, 1) := by decide +kernel
theorem d31_39 : decode (mB m31) 39 = .ok (.iastore, 1) := by decide +kernel
theorem d31_40 : decode (mB m31) 40 = .ok (.aload_n 0, 1) := by decide +kernel
theorem d31_41 : decode (mB m31) 41 = .ok (.getfield 38, 3) := by decide +kernel
theorem d31_44 : decode (mB m31) 44 = .ok (.aload_n 0, 1) := by decide +kernel
theorem d31_45 : decode (mB m31) 45 = .ok (.getfield 56, 3) := by decide +kernel
theorem d31_48 : decode (mB m31) 48 = .ok (.iload_n 2, 1) := by decide +kernel
theorem d31_49 : decode (mB m31) 49 = .ok (.iastore, 1) := by decide +kernel
theorem d31_50 : decode (mB m31) 50 = .ok (.aload_n 0, 1) := by decide +kernel
theorem d31_51 : decode (mB m31) 51 = .ok (.getfield 41, 3) := by decide +kernel
theorem d31_54 : decode (mB m31) 54 = .ok (.aload_n 0, 1) := by decide +kernel
theorem d31_55 : decode (mB m31) 55 = .ok (.getfield 56, 3) := by decide +kernel
theorem d31_58 : decode (mB m31) 58 = .ok (.iload_n 3, 1) := by decide +kernel
theorem d31_59 : decode (mB m31) 59 = .ok (.iastore, 1) := by decide +kernel
theorem d31_60 : decode (mB m31) 60 = .ok (.aload_n 0, 1) := by decide +kernel
theorem d31_61 : decode (mB m31) 61 = .ok (.dup, 1) := by decide +kernel
theorem d31_62 : decode (mB m31) 62 = .ok (.getfield 56, 3) := by decide +kernel
theorem d31_65 : decode (mB m31) 65 = .ok (.iconst 1, 1) := by decide +kernel
theorem d31_66 : decode (mB m31) 66 = .ok (.iadd, 1) := by decide +kernel
theorem d31_67 : decode (mB m31) 67 = .ok (.putfield 56, 3) := by decide +kernel
theorem d31_70 : decode (mB m31) 70 = .ok (.aload_n 0, 1) := by decide +kernel
theorem d31_71 : decode (mB m31) 71 = .ok (.getfield 56, 3) := by decide +kernel
theorem d31_74 : decode (mB m31) 74 = .ok (.ireturn, 1) := by decide +kernel
theorem d32_0 : decode (mB m32) 0 = .ok (.aload_n 0, 1) := by decide +kernel
theorem d32_1 : decode (mB m32) 1 = .ok (.iconst 1, 1) := by decide +kernel
theorem d32_2 : decode (mB m32) 2 = .ok (.iload_n 1, 1) := by decide +kernel
theorem d32_3 : decode (mB m32) 3 = .ok (.iload_n 2, 1) := by decide +kernel
theorem d32_4 : decode (mB m32) 4 = .ok (.invokevirtual 90, 3) := by decide +kernel
theorem d32_7 : decode (mB m32) 7 = .ok (.ireturn, 1) := by decide +kernel
theorem d33_0 : decode (mB m33) 0 = .ok (.aload_n 0, 1) := by decide +kernel
theorem d33_1 : decode (mB m33) 1 = .ok (.iconst 2, 1) := by decide +kernel
theorem d33_2 : decode (mB m33) 2 = .ok (.iload_n 1, 1) := by decide +kernel
theorem d33_3 : decode (mB m33) 3 = .ok (.iload_n 2, 1) := by decide +kernel
theorem d33_4 : decode (mB m33) 4 = .ok (.invokevirtual 90, 3) := by decide +kernel
theorem d33_7 : decode (mB m33) 7 = .ok (.ireturn, 1) := by decide +kernel
theorem d34_0 : decode (mB m34) 0 = .ok (.iload_n 1, 1) := by decide +kernel
theorem d34_1 : decode (mB m34) 1 = .ok (.ifCond .lt 9, 3) := by decide +kernel
theorem d34_4 : decode (mB m34) 4 = .ok (.iload_n 1, 1) := by decide +kernel
theorem d34_5 : decode (mB m34) 5 = .ok (.bipush 16, 2) := by decide +kernel
theorem d34_7 : decode (mB m34) 7 = .ok (.if_icmp .lt 4, 3) := by decide +kernel
theorem d34_10 : decode (mB m34) 10 = .ok (.return_, 1) := by decide +kernel
theorem d34_11 : decode (mB m34) 11 = .ok (.aload_n 0, 1) := by decide +kernel
theorem d34_12 : decode (mB m34) 12 = .ok (.getfield 38, 3) := by decide +kernel
theorem d34_15 : decode (mB m34) 15 = .ok (.iload_n 1, 1) := by decide +kernel
theorem d34_16 : decode (mB m34) 16 = .ok (.iaload, 1) := by decide +kernel
theorem d34_17 : decode (mB m34) 17 = .ok (.istore_n 2, 1) := by decide +kernel
theorem d34_18 : decode (mB m34) 18 = .ok (.aload_n 0, 1) := by decide +kernel
theorem d34_19 : decode (mB m34) 19 = .ok (.getfield 41, 3) := by decide +kernel
theorem d34_22 : decode (mB m34) 22 = .ok (.iload_n 1, 1) := by decide +kernel
theorem d34_23 : decode (mB m34) 23 = .ok (.iaload, 1) := by decide +kernel
theorem d34_24 : decode (mB m34) 24 = .ok (.istore_n 3, 1) := by decide +kernel
theorem d34_25 : decode (mB m34) 25 = .ok (.aload_n 0, 1) := by decide +kernel
theorem d34_26 : decode (mB m34) 26 = .ok (.iload_n 2, 1) := by decide +kernel
theorem d34_27 : decode (mB m34) 27 = .ok (.invokevirtual 65, 3) := by decide +kernel
theorem d34_30 : decode (mB m34) 30 = .ok (.ifCond .eq 11, 3) := by decide +kernel
theorem d34_33 : decode (mB m34) 33 = .ok (.aload_n 0, 1) := by decide +kernel
theorem d34_34 : decode (mB m34) 34 = .ok (.iload_n 3, 1) := by decide +kernel
theorem d34_35 : decode (mB m34) 35 = .ok (.invokevirtual 65, 3) := by decide +kernel
theorem d34_38 : decode (mB m34) 38 = .ok (.ifCond .ne 4, 3) := by decide +kernel
theorem d34_41 : decode (mB m34) 41 = .ok (.return_, 1) := by decide +kernel
theorem d34_42 : decode (mB m34) 42 = .ok (.aload_n 0, 1) := by decide +kernel
theorem d34_43 : decode (mB m34) 43 = .ok (.iload_n 2, 1) := by decide +kernel
theorem d34_44 : decode (mB m34) 44 = .ok (.iload_n 3, 1) := by decide +kernel
theorem d34_45 : decode (mB m34) 45 = .ok (.invokevirtual 69, 3) := by decide +kernel
theorem d34_48 : decode (mB m34) 48 = .ok (.istore 4, 2) := by decide +kernel
theorem d34_50 : decode (mB m34) 50 = .ok (.aload_n 0, 1) := by decide +kernel
theorem d34_51 : decode (mB m34) 51 = .ok (.getfield 35, 3) := by decide +kernel
theorem d34_54 : decode (mB m34) 54 = .ok (.iload_n 1, 1) := by decide +kernel
theorem d34_55 : decode (mB m34) 55 = .ok (.iaload, 1) := by decide +kernel
theorem d34_56 : decode (mB m34) 56 = .ok (.iconst 1, 1) := by decide +kernel
theorem d34_57 : decode (mB m34) 57 = .ok (.if_icmp .ne 28, 3) := by decide +kernel
theorem d34_60 : decode (mB m34) 60 = .ok (.iload 4, 2) := by decide +kernel
theorem d34_62 : decode (mB m34) 62 = .ok (.ifCond .ne 44, 3) := by decide +kernel
theorem d34_65 : decode (mB m34) 65 = .ok (.aload_n 0, 1) := by decide +kernel
theorem d34_66 : decode (mB m34) 66 = .ok (.getfield 53, 3) := by decide +kernel
theorem d34_69 : decode (mB m34) 69 = .ok (.aload_n 0, 1) := by decide +kernel
theorem d34_70 : decode (mB m34) 70 = .ok (.getfield 47, 3) := by decide +kernel
theorem d34_73 : decode (mB m34) 73 = .ok (.if_icmp .ge 33, 3) := by decide +kernel
theorem d34_76 : decode (mB m34) 76 = .ok (.aload_n 0, 1) := by decide +kernel
theorem d34_77 : decode (mB m34) 77 = .ok (.iload_n 2, 1) := by decide +kernel
theorem d34_78 : decode (mB m34) 78 = .ok (.iload_n 3, 1) := by decide +kernel
theorem d34_79 : decode (mB m34) 79 = .ok (.invokevirtual 76, 3) := by decide +kernel
theorem d34_82 : decode (mB m34) 82 = .ok (.goto 24, 3) := by decide +kernel
theorem d34_85 : decode (mB m34) 85 = .ok (.aload_n 0, 1) := by decide +kernel
theorem d34_86 : decode (mB m34) 86 = .ok (.getfield 35, 3) := by decide +kernel
theorem d34_89 : decode (mB m34) 89 = .ok (.iload_n 1, 1) := by decide +kernel
theorem d34_90 : decode (mB m34) 90 = .ok (.iaload, 1) := by decide +kernel
theorem d34_91 : decode (mB m34) 91 = .ok (.iconst 2, 1) := by decide +kernel
theorem d34_92 : decode (mB m34) 92 = .ok (.if_icmp .ne 14, 3) := by decide +kernel
theorem d34_95 : decode (mB m34) 95 = .ok (.iload 4, 2) := by decide +kernel
theorem d34_97 : decode (mB m34) 97 = .ok (.ifCond .eq 9, 3) := by decide +kernel
theorem d34_100 : decode (mB m34) 100 = .ok (.aload_n 0, 1) := by decide +kernel
theorem d34_101 : decode (mB m34) 101 = .ok (.iload_n 2, 1) := by decide +kernel
theorem d34_102 : decode (mB m34) 102 = .ok (.iload_n 3, 1) := by decide +kernel
theorem d34_103 : decode (mB m34) 103 = .ok (.invokevirtual 84, 3) := by decide +kernel
theorem d34_106 : decode (mB m34) 106 = .ok (.return_, 1) := by decide +kernel
theorem d35_0 : decode (mB m35) 0 = .ok (.aload_n 0, 1) := by decide +kernel
theorem d35_1 : decode (mB m35) 1 = .ok (.invokevirtual 73, 3) := by decide +kernel
theorem d35_4 : decode (mB m35) 4 = .ok (.iconst 0, 1) := by decide +kernel
theorem d35_5 : decode (mB m35) 5 = .ok (.istore_n 1, 1) := by decide +kernel
theorem d35_6 : decode (mB m35) 6 = .ok (.iload_n 1, 1) := by decide +kernel
theorem d35_7 : decode (mB m35) 7 = .ok (.aload_n 0, 1) := by decide +kernel
theorem d35_8 : decode (mB m35) 8 = .ok (.getfield 56, 3) := by decide +kernel
theorem d35_11 : decode (mB m35) 11 = .ok (.if_icmp .ge 20, 3) := by decide +kernel
theorem d35_14 : decode (mB m35) 14 = .ok (.iload_n 1, 1) := by decide +kernel
theorem d35_15 : decode (mB m35) 15 = .ok (.bipush 16, 2) := by decide +kernel
theorem d35_17 : decode (mB m35) 17 = .ok (.if_icmp .ge 14, 3) := by decide +kernel
theorem d35_20 : decode (mB m35) 20 = .ok (.aload_n 0, 1) := by decide +kernel
theorem d35_21 : decode (mB m35) 21 = .ok (.iload_n 1, 1) := by decide +kernel
theorem d35_22 : decode (mB m35) 22 = .ok (.invokevirtual 94, 3) := by decide +kernel
theorem d35_25 : decode (mB m35) 25 = .ok (.iinc 1 1, 3) := by decide +kernel
theorem d35_28 : decode (mB m35) 28 = .ok (.goto (-22), 3) := by decide +kernel
theorem d35_31 : decode (mB m35) 31 = .ok (.aload_n 0, 1) := by decide +kernel
theorem d35_32 : decode (mB m35) 32 = .ok (.iconst 0, 1) := by decide +kernel
theorem d35_33 : decode (mB m35) 33 = .ok (.putfield 56, 3) := by decide +kernel
theorem d35_36 : decode (mB m35) 36 = .ok (.aload_n 0, 1) := by decide +kernel
theorem d35_37 : decode (mB m35) 37 = .ok (.aload_n 0, 1) := by decide +kernel
theorem d35_38 : decode (mB m35) 38 = .ok (.invokevirtual 80, 3) := by decide +kernel
theorem d35_41 : decode (mB m35) 41 = .ok (.putfield 59, 3) := by decide +kernel
theorem d35_44 : decode (mB m35) 44 = .ok (.aload_n 0, 1) := by decide +kernel
theorem d35_45 : decode (mB m35) 45 = .ok (.aload_n 0, 1) := by decide +kernel
theorem d35_46 : decode (mB m35) 46 = .ok (.invokevirtual 87, 3) := by decide +kernel
theorem d35_49 : decode (mB m35) 49 = .ok (.putfield 62, 3) := by decide +kernel
theorem d35_52 : decode (mB m35) 52 = .ok (.aload_n 0, 1) := by decide +kernel
theorem d35_53 : decode (mB m35) 53 = .ok (.getfield 59, 3) := by decide +kernel
theorem d35_56 : decode (mB m35) 56 = .ok (.aload_n 0, 1) := by decide +kernel
theorem d35_57 : decode (mB m35) 57 = .ok (.getfield 62, 3) := by decide +kernel
theorem d35_60 : decode (mB m35) 60 = .ok (.iadd, 1) := by decide +kernel
theorem d35_61 : decode (mB m35) 61 = .ok (.ireturn, 1) := by decide +kernel
theorem d36_0 : decode (mB m36) 0 = .ok (.aload_n 0, 1) := by decide +kernel
theorem d36_1 : decode (mB m36) 1 = .ok (.getfield 56, 3) := by decide +kernel
theorem d36_4 : decode (mB m36) 4 = .ok (.istore_n 1, 1) := by decide +kernel
theorem d36_5 : decode (mB m36) 5 = .ok (.aload_n 0, 1) := by decide +kernel
theorem d36_6 : decode (mB m36) 6 = .ok (.iconst 0, 1) := by decide +kernel
theorem d36_7 : decode (mB m36) 7 = .ok (.putfield 56, 3) := by decide +kernel
theorem d36_10 : decode (mB m36) 10 = .ok (.iload_n 1, 1) := by decide +kernel
theorem d36_11 : decode (mB m36) 11 = .ok (.ireturn, 1) := by decide +kernel
theorem d37_0 : decode (mB m37) 0 = .ok (.iload_n 1, 1) := by decide +kernel
theorem d37_1 : decode (mB m37) 1 = .ok (.iload_n 2, 1) := by decide +kernel
theorem d37_2 : decode (mB m37) 2 = .ok (.iushr, 1) := by decide +kernel
theorem d37_3 : decode (mB m37) 3 = .ok (.iconst 1, 1) := by decide +kernel
theorem d37_4 : decode (mB m37) 4 = .ok (.iand, 1) := by decide +kernel
theorem d37_5 : decode (mB m37) 5 = .ok (.ifCond .eq 7, 3) := by decide +kernel
theorem d37_8 : decode (mB m37) 8 = .ok (.iconst 1, 1) := by decide +kernel
theorem d37_9 : decode (mB m37) 9 = .ok (.goto 4, 3) := by decide +kernel
theorem d37_12 : decode (mB m37) 12 = .ok (.iconst 0, 1) := by decide +kernel
theorem d37_13 : decode (mB m37) 13 = .ok (.ireturn, 1) := by decide +kernel
theorem d38_0 : decode (mB m38) 0 = .ok (.aload_n 0, 1) := by decide +kernel
theorem d38_1 : decode (mB m38) 1 = .ok (.iload_n 1, 1) := by decide +kernel
theorem d38_2 : decode (mB m38) 2 = .ok (.invokevirtual 65, 3) := by decide +kernel
theorem d38_5 : decode (mB m38) 5 = .ok (.ifCond .eq 11, 3) := by decide +kernel
theorem d38_8 : decode (mB m38) 8 = .ok (.aload_n 0, 1) := by decide +kernel
theorem d38_9 : decode (mB m38) 9 = .ok (.iload_n 2, 1) := by decide +kernel
theorem d38_10 : decode (mB m38) 10 = .ok (.invokevirtual 65, 3) := by decide +kernel
theorem d38_13 : decode (mB m38) 13 = .ok (.ifCond .ne 5, 3) := by decide +kernel
theorem d38_16 : decode (mB m38) 16 = .ok (.iconst 0, 1) := by decide +kernel
theorem d38_17 : decode (mB m38) 17 = .ok (.ireturn, 1) := by decide +kernel
theorem d38_18 : decode (mB m38) 18 = .ok (.aload_n 0, 1) := by decide +kernel
theorem d38_19 : decode (mB m38) 19 = .ok (.aload_n 0, 1) := by decide +kernel
theorem d38_20 : decode (mB m38) 20 = .ok (.getfield 20, 3) := by decide +kernel
theorem d38_23 : decode (mB m38) 23 = .ok (.iload_n 1, 1) := by decide +kernel
theorem d38_24 : decode (mB m38) 24 = .ok (.iaload, 1) := by decide +kernel
theorem d38_25 : decode (mB m38) 25 = .ok (.iload_n 2, 1) := by decide +kernel
theorem d38_26 : decode (mB m38) 26 = .ok (.invokevirtual 98, 3) := by decide +kernel
theorem d38_29 : decode (mB m38) 29 = .ok (.ireturn, 1) := by decide +kernel
theorem d39_0 : decode (mB m39) 0 = .ok (.aload_n 0, 1) := by decide +kernel
theorem d39_1 : decode (mB m39) 1 = .ok (.iload_n 1, 1) := by decide +kernel
theorem d39_2 : decode (mB m39) 2 = .ok (.invokevirtual 65, 3) := by decide +kernel
theorem d39_5 : decode (mB m39) 5 = .ok (.ifCond .eq 11, 3) := by decide +kernel
theorem d39_8 : decode (mB m39) 8 = .ok (.aload_n 0, 1) := by decide +kernel
theorem d39_9 : decode (mB m39) 9 = .ok (.iload_n 2, 1) := by decide +kernel
theorem d39_10 : decode (mB m39) 10 = .ok (.invokevirtual 65, 3) := by decide +kernel
theorem d39_13 : decode (mB m39) 13 = .ok (.ifCond .ne 5, 3) := by decide +kernel
theorem d39_16 : decode (mB m39) 16 = .ok (.iconst (-1), 1) := by decide +kernel
theorem d39_17 : decode (mB m39) 17 = .ok (.ireturn, 1) := by decide +kernel
theorem d39_18 : decode (mB m39) 18 = .ok (.aload_n 0, 1) := by decide +kernel
theorem d39_19 : decode (mB m39) 19 = .ok (.getfield 16, 3) := by decide +kernel
theorem d39_22 : decode (mB m39) 22 = .ok (.iload_n 1, 1) := by decide +kernel
theorem d39_23 : decode (mB m39) 23 = .ok (.iaload, 1) := by decide +kernel
theorem d39_24 : decode (mB m39) 24 = .ok (.istore_n 3, 1) := by decide +kernel
theorem d39_25 : decode (mB m39) 25 = .ok (.iconst 0, 1) := by decide +kernel
theorem d39_26 : decode (mB m39) 26 = .ok (.istore 4, 2) := by decide +kernel
theorem d39_28 : decode (mB m39) 28 = .ok (.aload_n 0, 1) := by decide +kernel
theorem d39_29 : decode (mB m39) 29 = .ok (.iload_n 3, 1) := by decide +kernel
theorem d39_30 : decode (mB m39) 30 = .ok (.iload_n 2, 1) := by decide +kernel
theorem d39_31 : decode (mB m39) 31 = .ok (.invokevirtual 98, 3) := by decide +kernel
theorem d39_34 : decode (mB m39) 34 = .ok (.ifCond .eq 6, 3) := by decide +kernel
theorem d39_37 : decode (mB m39) 37 = .ok (.iconst 1, 1) := by decide +kernel
theorem d39_38 : decode (mB m39) 38 = .ok (.istore 4, 2) := by decide +kernel
theorem d39_40 : decode (mB m39) 40 = .ok (.iconst 0, 1) := by decide +kernel
theorem d39_41 : decode (mB m39) 41 = .ok (.istore 5, 2) := by decide +kernel
theorem d39_43 : decode (mB m39) 43 = .ok (.iload 5, 2) := by decide +kernel
theorem d39_45 : decode (mB m39) 45 = .ok (.aload_n 0, 1) := by decide +kernel
theorem d39_46 : decode (mB m39) 46 = .ok (.getfield 44, 3) := by decide +kernel
theorem d39_49 : decode (mB m39) 49 = .ok (.if_icmp .ge 35, 3) := by decide +kernel
theorem d39_52 : decode (mB m39) 52 = .ok (.iload_n 3, 1) := by decide +kernel
theorem d39_53 : decode (mB m39) 53 = .ok (.iload 5, 2) := by decide +kernel
theorem d39_55 : decode (mB m39) 55 = .ok (.iushr, 1) := by decide +kernel
theorem d39_56 : decode (mB m39) 56 = .ok (.iconst 1, 1) := by decide +kernel
theorem d39_57 : decode (mB m39) 57 = .ok (.iand, 1) := by decide +kernel
theorem d39_58 : decode (mB m39) 58 = .ok (.ifCond .eq 20, 3) := by decide +kernel
theorem d39_61 : decode (mB m39) 61 = .ok (.aload_n 0, 1) := by decide +kernel
theorem d39_62 : decode (mB m39) 62 = .ok (.getfield 20, 3) := by decide +kernel
theorem d39_65 : decode (mB m39) 65 = .ok (.iload 5, 2) := by decide +kernel
theorem d39_67 : decode (mB m39) 67 = .ok (.iaload, 1) := by decide +kernel
theorem d39_68 : decode (mB m39) 68 = .ok (.iload_n 2, 1) := by decide +kernel
theorem d39_69 : decode (mB m39) 69 = .ok (.iushr, 1) := by decide +kernel
theorem d39_70 : decode (mB m39) 70 = .ok (.iconst 1, 1) := by decide +kernel
theorem d39_71 : decode (mB m39) 71 = .ok (.iand, 1) := by decide +kernel
theorem d39_72 : decode (mB m39) 72 = .ok (.ifCond .eq 6, 3) := by decide +kernel
theorem d39_75 : decode (mB m39) 75 = .ok (.iinc 4 1, 3) := by decide +kernel
theorem d39_78 : decode (mB m39) 78 = .ok (.iinc 5 1, 3) := by decide +kernel
theorem d39_81 : decode (mB m39) 81 = .ok (.goto (-38), 3) := by decide +kernel
theorem d39_84 : decode (mB m39) 84 = .ok (.iload 4, 2) := by decide +kernel
theorem d39_86 : decode (mB m39) 86 = .ok (.ireturn, 1) := by decide +kernel
theorem d40_0 : decode (mB m40) 0 = .ok (.aload_n 0, 1) := by decide +kernel
theorem d40_1 : decode (mB m40) 1 = .ok (.iload_n 1, 1) := by decide +kernel
theorem d40_2 : decode (mB m40) 2 = .ok (.invokevirtual 65, 3) := by decide +kernel
theorem d40_5 : decode (mB m40) 5 = .ok (.ifCond .ne 5, 3) := by decide +kernel
theorem d40_8 : decode (mB m40) 8 = .ok (.iconst (-1), 1) := by decide +kernel
theorem d40_9 : decode (mB m40) 9 = .ok (.ireturn, 1) := by decide +kernel
theorem d40_10 : decode (mB m40) 10 = .ok (.aload_n 0, 1) := by decide +kernel
theorem d40_11 : decode (mB m40) 11 = .ok (.aload_n 0, 1) := by decide +kernel
theorem d40_12 : decode (mB m40) 12 = .ok (.getfield 20, 3) := by decide +kernel
theorem d40_15 : decode (mB m40) 15 = .ok (.iload_n 1, 1) := by decide +kernel
theorem d40_16 : decode (mB m40) 16 = .ok (.iaload, 1) := by decide +kernel
theorem d40_17 : decode (mB m40) 17 = .ok (.invokevirtual 101, 3) := by decide +kernel
theorem d40_20 : decode (mB m40) 20 = .ok (.ireturn, 1) := by decide +kernel
theorem d41_0 : decode (mB m41) 0 = .ok (.aload_n 0, 1) := by decide +kernel
theorem d41_1 : decode (mB m41) 1 = .ok (.iload_n 1, 1) := by decide +kernel
theorem d41_2 : decode (mB m41) 2 = .ok (.invokevirtual 65, 3) := by decide +kernel
theorem d41_5 : decode (mB m41) 5 = .ok (.ifCond .ne 5, 3) := by decide +kernel
theorem d41_8 : decode (mB m41) 8 = .ok (.iconst (-1), 1) := by decide +kernel
theorem d41_9 : decode (mB m41) 9 = .ok (.ireturn, 1) := by decide +kernel
theorem d41_10 : decode (mB m41) 10 = .ok (.iconst 0, 1) := by decide +kernel
theorem d41_11 : decode (mB m41) 11 = .ok (.istore_n 2, 1) := by decide +kernel
theorem d41_12 : decode (mB m41) 12 = .ok (.iconst 0, 1) := by decide +kernel
theorem d41_13 : decode (mB m41) 13 = .ok (.istore_n 3, 1) := by decide +kernel
theorem d41_14 : decode (mB m41) 14 = .ok (.iload_n 3, 1) := by decide +kernel
theorem d41_15 : decode (mB m41) 15 = .ok (.aload_n 0, 1) := by decide +kernel
theorem d41_16 : decode (mB m41) 16 = .ok (.getfield 44, 3) := by decide +kernel
theorem d41_19 : decode (mB m41) 19 = .ok (.if_icmp .ge 25, 3) := by decide +kernel
theorem d41_22 : decode (mB m41) 22 = .ok (.aload_n 0, 1) := by decide +kernel
theorem d41_23 : decode (mB m41) 23 = .ok (.getfield 20, 3) := by decide +kernel
theorem d41_26 : decode (mB m41) 26 = .ok (.iload_n 3, 1) := by decide +kernel
theorem d41_27 : decode (mB m41) 27 = .ok (.iaload, 1) := by decide +kernel
theorem d41_28 : decode (mB m41) 28 = .ok (.iload_n 1, 1) := by decide +kernel
theorem d41_29 : decode (mB m41) 29 = .ok (.iushr, 1) := by decide +kernel
theorem d41_30 : decode (mB m41) 30 = .ok (.iconst 1, 1) := by decide +kernel
theorem d41_31 : decode (mB m41) 31 = .ok (.iand, 1) := by decide +kernel
theorem d41_32 : decode (mB m41) 32 = .ok (.ifCond .eq 6, 3) := by decide +kernel
theorem d41_35 : decode (mB m41) 35 = .ok (.iinc 2 1, 3) := by decide +kernel
theorem d41_38 : decode (mB m41) 38 = .ok (.iinc 3 1, 3) := by decide +kernel
theorem d41_41 : decode (mB m41) 41 = .ok (.goto (-27), 3) := by decide +kernel
theorem d41_44 : decode (mB m41) 44 = .ok (.iload_n 2, 1) := by decide +kernel
theorem d41_45 : decode (mB m41) 45 = .ok (.ireturn, 1) := by decide +kernel
theorem d42_0 : decode (mB m42) 0 = .ok (.iconst 0, 1) := by decide +kernel
theorem d42_1 : decode (mB m42) 1 = .ok (.istore_n 1, 1) := by decide +kernel
theorem d42_2 : decode (mB m42) 2 = .ok (.iconst 0, 1) := by decide +kernel
theorem d42_3 : decode (mB m42) 3 = .ok (.istore_n 2, 1) := by decide +kernel
theorem d42_4 : decode (mB m42) 4 = .ok (.iload_n 2, 1) := by decide +kernel
theorem d42_5 : decode (mB m42) 5 = .ok (.aload_n 0, 1) := by decide +kernel
theorem d42_6 : decode (mB m42) 6 = .ok (.getfield 44, 3) := by decide +kernel
theorem d42_9 : decode (mB m42) 9 = .ok (.if_icmp .ge 22, 3) := by decide +kernel
theorem d42_12 : decode (mB m42) 12 = .ok (.iload_n 1, 1) := by decide +kernel
theorem d42_13 : decode (mB m42) 13 = .ok (.aload_n 0, 1) := by decide +kernel
theorem d42_14 : decode (mB m42) 14 = .ok (.aload_n 0, 1) := by decide +kernel
theorem d42_15 : decode (mB m42) 15 = .ok (.getfield 20, 3) := by decide +kernel
theorem d42_18 : decode (mB m42) 18 = .ok (.iload_n 2, 1) := by decide +kernel
theorem d42_19 : decode (mB m42) 19 = .ok (.iaload, 1) := by decide +kernel
theorem d42_20 : decode (mB m42) 20 = .ok (.invokevirtual 101, 3) := by decide +kernel
theorem d42_23 : decode (mB m42) 23 = .ok (.iadd, 1) := by decide +kernel
theorem d42_24 : decode (mB m42) 24 = .ok (.istore_n 1, 1) := by decide +kernel
theorem d42_25 : decode (mB m42) 25 = .ok (.iinc 2 1, 3) := by decide +kernel
theorem d42_28 : decode (mB m42) 28 = .ok (.goto (-24), 3) := by decide +kernel
theorem d42_31 : decode (mB m42) 31 = .ok (.iload_n 1, 1) := by decide +kernel
theorem d42_32 : decode (mB m42) 32 = .ok (.ireturn, 1) := by decide +kernel
theorem d43_0 : decode (mB m43) 0 = .ok (.aload_n 0, 1) := by decide +kernel
theorem d43_1 : decode (mB m43) 1 = .ok (.getfield 59, 3) := by decide +kernel
theorem d43_4 : decode (mB m43) 4 = .ok (.ireturn, 1) := by decide +kernel
theorem d44_0 : decode (mB m44) 0 = .ok (.aload_n 0, 1) := by decide +kernel
theorem d44_1 : decode (mB m44) 1 = .ok (.getfield 62, 3) := by decide +kernel
theorem d44_4 : decode (mB m44) 4 = .ok (.ireturn, 1) := by decide +kernel
theorem d45_0 : decode (mB m45) 0 = .ok (.iconst 2, 1) := by decide +kernel
theorem d45_1 : decode (mB m45) 1 = .ok (.aload_n 0, 1) := by decide +kernel
theorem d45_2 : decode (mB m45) 2 = .ok (.iconst 0, 1) := by decide +kernel
theorem d45_3 : decode (mB m45) 3 = .ok (.invokestatic 15, 3) := by decide +kernel
theorem d45_6 : decode (mB m45) 6 = .ok (.ldc 19, 2) := by decide +kernel
theorem d45_8 : decode (mB m45) 8 = .ok (.iand, 1) := by decide +kernel
theorem d45_9 : decode (mB m45) 9 = .ok (.bipush 7, 2) := by decide +kernel
theorem d45_11 : decode (mB m45) 11 = .ok (.irem, 1) := by decide +kernel
theorem d45_12 : decode (mB m45) 12 = .ok (.iadd, 1) := by decide +kernel
theorem d45_13 : decode (mB m45) 13 = .ok (.istore_n 1, 1) := by decide +kernel
theorem d45_14 : decode (mB m45) 14 = .ok (.iconst 1, 1) := by decide +kernel
theorem d45_15 : decode (mB m45) 15 = .ok (.aload_n 0, 1) := by decide +kernel
theorem d45_16 : decode (mB m45) 16 = .ok (.iconst 1, 1) := by decide +kernel
theorem d45_17 : decode (mB m45) 17 = .ok (.invokestatic 15, 3) := by decide +kernel
theorem d45_20 : decode (mB m45) 20 = .ok (.ldc 19, 2) := by decide +kernel
theorem d45_22 : decode (mB m45) 22 = .ok (.iand, 1) := by decide +kernel
theorem d45_23 : decode (mB m45) 23 = .ok (.bipush 24, 2) := by decide +kernel
theorem d45_25 : decode (mB m45) 25 = .ok (.irem, 1) := by decide +kernel
theorem d45_26 : decode (mB m45) 26 = .ok (.iadd, 1) := by decide +kernel
theorem d45_27 : decode (mB m45) 27 = .ok (.istore_n 2, 1) := by decide +kernel
theorem d45_28 : decode (mB m45) 28 = .ok (.new 20, 3) := by decide +kernel
theorem d45_31 : decode (mB m45) 31 = .ok (.dup, 1) := by decide +kernel
theorem d45_32 : decode (mB m45) 32 = .ok (.iload_n 1, 1) := by decide +kernel
theorem d45_33 : decode (mB m45) 33 = .ok (.iload_n 2, 1) := by decide +kernel
theorem d45_34 : decode (mB m45) 34 = .ok (.invokespecial 22, 3) := by decide +kernel
theorem d45_37 : decode (mB m45) 37 = .ok (.astore_n 3, 1) := by decide +kernel
theorem d45_38 : decode (mB m45) 38 = .ok (.aload_n 0, 1) := by decide +kernel
theorem d45_39 : decode (mB m45) 39 = .ok (.arraylength, 1) := by decide +kernel
theorem d45_40 : decode (mB m45) 40 = .ok (.iconst 2, 1) := by decide +kernel
theorem d45_41 : decode (mB m45) 41 = .ok (.isub, 1) := by decide +kernel
theorem d45_42 : decode (mB m45) 42 = .ok (.istore 4, 2) := by decide +kernel
theorem d45_44 : decode (mB m45) 44 = .ok (.iload 4, 2) := by decide +kernel
theorem d45_46 : decode (mB m45) 46 = .ok (.ifCond .ge 6, 3) := by decide +kernel
theorem d45_49 : decode (mB m45) 49 = .ok (.iconst 0, 1) := by decide +kernel
theorem d45_50 : decode (mB m45) 50 = .ok (.istore 4, 2) := by decide +kernel
theorem d45_52 : decode (mB m45) 52 = .ok (.iconst 0, 1) := by decide +kernel
theorem d45_53 : decode (mB m45) 53 = .ok (.istore 5, 2) := by decide +kernel
theorem d45_55 : decode (mB m45) 55 = .ok (.iload 5, 2) := by decide +kernel
theorem d45_57 : decode (mB m45) 57 = .ok (.iload 4, 2) := by decide +kernel
theorem d45_59 : decode (mB m45) 59 = .ok (.if_icmp .gt 655, 3) := by decide +kernel
theorem d45_62 : decode (mB m45) 62 = .ok (.lconst 0, 1) := by decide +kernel
theorem d45_63 : decode (mB m45) 63 = .ok (.lstore 6, 2) := by decide +kernel
theorem d45_65 : decode (mB m45) 65 = .ok (.iconst 0, 1) := by decide +kernel
theorem d45_66 : decode (mB m45) 66 = .ok (.istore 8, 2) := by decide +kernel
theorem d45_68 : decode (mB m45) 68 = .ok (.iload 8, 2) := by decide +kernel
theorem d45_70 : decode (mB m45) 70 = .ok (.iload_n 1, 1) := by decide +kernel
theorem d45_71 : decode (mB m45) 71 = .ok (.if_icmp .ge 50, 3) := by decide +kernel
theorem d45_74 : decode (mB m45) 74 = .ok (.iconst 0, 1) := by decide +kernel
theorem d45_75 : decode (mB m45) 75 = .ok (.istore 9, 2) := by decide +kernel
theorem d45_77 : decode (mB m45) 77 = .ok (.iload 9, 2) := by decide +kernel
theorem d45_79 : decode (mB m45) 79 = .ok (.iload_n 1, 1) := by decide +kernel
theorem d45_80 : decode (mB m45) 80 = .ok (.if_icmp .ge 35, 3) := by decide +kernel
theorem d45_83 : decode (mB m45) 83 = .ok (.aload_n 3, 1) := by decide +kernel
theorem d45_84 : decode (mB m45) 84 = .ok (.iload 8, 2) := by decide +kernel
theorem d45_86 : decode (mB m45) 86 = .ok (.iload 9, 2) := by decide +kernel
theorem d45_88 : decode (mB m45) 88 = .ok (.invokevirtual 25, 3) := by decide +kernel
theorem d45_91 : decode (mB m45) 91 = .ok (.ifCond .eq 18, 3) := by decide +kernel
theorem d45_94 : decode (mB m45) 94 = .ok (.lload 6, 2) := by decide +kernel
theorem d45_96 : decode (mB m45) 96 = .ok (.lconst 1, 1) := by decide +kernel
theorem d45_97 : decode (mB m45) 97 = .ok (.iload 8, 2) := by decide +kernel
theorem d45_99 : decode (mB m45) 99 = .ok (.bipush 8, 2) := by decide +kernel
theorem d45_101 : decode (mB m45) 101 = .ok (.imul, 1) := by decide +kernel
theorem d45_102 : decode (mB m45) 102 = .ok (.iload 9, 2) := by decide +kernel
theorem d45_104 : decode (mB m45) 104 = .ok (.iadd, 1) := by decide +kernel
theorem d45_105 : decode (mB m45) 105 = .ok (.lshl, 1) := by decide +kernel
theorem d45_106 : decode (mB m45) 106 = .ok (.lor, 1) := by decide +kernel
theorem d45_107 : decode (mB m45) 107 = .ok (.lstore 6, 2) := by decide +kernel
theorem d45_109 : decode (mB m45) 109 = .ok (.iinc 9 1, 3) := by decide +kernel
theorem d45_112 : decode (mB m45) 112 = .ok (.goto (-35), 3) := by decide +kernel
theorem d45_115 : decode (mB m45) 115 = .ok (.iinc 8 1, 3) := by decide +kernel
theorem d45_118 : decode (mB m45) 118 = .ok (.goto (-50), 3) := by decide +kernel
theorem d45_121 : decode (mB m45) 121 = .ok (.lload 6, 2) := by decide +kernel
theorem d45_123 : decode (mB m45) 123 = .ok (.iload_n 1, 1) := by decide +kernel
theorem d45_124 : decode (mB m45) 124 = .ok (.invokestatic 29, 3) := by decide +kernel
theorem d45_127 : decode (mB m45) 127 = .ok (.lstore 8, 2) := by decide +kernel
theorem d45_129 : decode (mB m45) 129 = .ok (.iconst 0, 1) := by decide +kernel
theorem d45_130 : decode (mB m45) 130 = .ok (.istore 10, 2) := by decide +kernel
theorem d45_132 : decode (mB m45) 132 = .ok (.iconst (-1), 1) := by decide +kernel
theorem d45_133 : decode (mB m45) 133 = .ok (.istore 11, 2) := by decide +kernel
theorem d45_135 : decode (mB m45) 135 = .ok (.iload 5, 2) := by decide +kernel
theorem d45_137 : decode (mB m45) 137 = .ok (.ifCond .le 212, 3) := by decide +kernel
theorem d45_140 : decode (mB m45) 140 = .ok (.aload_n 0, 1) := by decide +kernel
theorem d45_141 : decode (mB m45) 141 = .ok (.iload 5, 2) := by decide +kernel
theorem d45_143 : decode (mB m45) 143 = .ok (.iconst 1, 1) := by decide +kernel
theorem d45_144 : decode (mB m45) 144 = .ok (.iadd, 1) := by decide +kernel
theorem d45_145 : decode (mB m45) 145 = .ok (.invokestatic 15, 3) := by decide +kernel
theorem d45_148 : decode (mB m45) 148 = .ok (.ldc 19, 2) := by decide +kernel
theorem d45_150 : decode (mB m45) 150 = .ok (.iand, 1) := by decide +kernel
theorem d45_151 : decode (mB m45) 151 = .ok (.istore 12, 2) := by decide +kernel
theorem d45_153 : decode (mB m45) 153 = .ok (.iload 12, 2) := by decide +kernel
theorem d45_155 : decode (mB m45) 155 = .ok (.bipush 7, 2) := by decide +kernel
theorem d45_157 : decode (mB m45) 157 = .ok (.iand, 1) := by decide +kernel
theorem d45_158 : decode (mB m45) 158 = .ok (.istore 13, 2) := by decide +kernel
theorem d45_160 : decode (mB m45) 160 = .ok (.iload 12, 2) := by decide +kernel
theorem d45_162 : decode (mB m45) 162 = .ok (.iconst 3, 1) := by decide +kernel
theorem d45_163 : decode (mB m45) 163 = .ok (.iushr, 1) := by decide +kernel
theorem d45_164 : decode (mB m45) 164 = .ok (.sipush 255, 3) := by decide +kernel
theorem d45_167 : decode (mB m45) 167 = .ok (.iand, 1) := by decide +kernel
theorem d45_168 : decode (mB m45) 168 = .ok (.iload_n 1, 1) := by decide +kernel
theorem d45_169 : decode (mB m45) 169 = .ok (.irem, 1) := by decide +kernel
theorem d45_170 : decode (mB m45) 170 = .ok (.istore 14, 2) := by decide +kernel
theorem d45_172 : decode (mB m45) 172 = .ok (.iload 12, 2) := by decide +kernel
theorem d45_174 : decode (mB m45) 174 = .ok (.bipush 11, 2) := by decide +kernel
theorem d45_176 : decode (mB m45) 176 = .ok (.iushr, 1) := by decide +kernel
theorem d45_177 : decode (mB m45) 177 = .ok (.sipush 255, 3) := by decide +kernel
theorem d45_180 : decode (mB m45) 180 = .ok (.iand, 1) := by decide +kernel
theorem d45_181 : decode (mB m45) 181 = .ok (.iload_n 1, 1) := by decide +kernel
theorem d45_182 : decode (mB m45) 182 = .ok (.irem, 1) := by decide +kernel
theorem d45_183 : decode (mB m45) 183 = .ok (.istore 15, 2) := by decide +kernel
theorem d45_185 : decode (mB m45) 185 = .ok (.iload 12, 2) := by decide +kernel
theorem d45_187 : decode (mB m45) 187 = .ok (.bipush 19, 2) := by decide +kernel
theorem d45_189 : decode (mB m45) 189 = .ok (.iushr, 1) := by decide +kernel
theorem d45_190 : decode (mB m45) 190 = .ok (.sipush 255, 3) := by decide +kernel
theorem d45_193 : decode (mB m45) 193 = .ok (.iand, 1) := by decide +kernel
theorem d45_194 : decode (mB m45) 194 = .ok (.istore 16, 2) := by decide +kernel
theorem d45_196 : decode (mB m45) 196 = .ok (.iload 13, 2) := by decide +kernel
theorem d45_198 : decode (mB m45) 198 = .ok (.iconst 3, 1) := by decide +kernel
theorem d45_199 : decode (mB m45) 199 = .ok (.if_icmp .eq 9, 3) := by decide +kernel
theorem d45_202 : decode (mB m45) 202 = .ok (.iload 13, 2) := by decide +kernel
theorem d45_204 : decode (mB m45) 204 = .ok (.iconst 5, 1) := by decide +kernel
theorem d45_205 : decode (mB m45) 205 = .ok (.if_icmp .ne 40, 3) := by decide +kernel
theorem d45_208 : decode (mB m45) 208 = .ok (.lload 6, 2) := by decide +kernel
theorem d45_210 : decode (mB m45) 210 = .ok (.invokestatic 33, 3) := by decide +kernel
theorem d45_213 : decode (mB m45) 213 = .ok (.ifCond .le 32, 3) := by decide +kernel
theorem d45_216 : decode (mB m45) 216 = .ok (.lload 6, 2) := by decide +kernel
theorem d45_218 : decode (mB m45) 218 = .ok (.iload 16, 2) := by decide +kernel
theorem d45_220 : decode (mB m45) 220 = .ok (.lload 6, 2) := by decide +kernel
theorem d45_222 : decode (mB m45) 222 = .ok (.invokestatic 33, 3) := by decide +kernel
theorem d45_225 : decode (mB m45) 225 = .ok (.irem, 1) := by decide +kernel
theorem d45_226 : decode (mB m45) 226 = .ok (.invokestatic 37, 3) := by decide +kernel
theorem d45_229 : decode (mB m45) 229 = .ok (.istore 17, 2) := by decide +kernel
theorem d45_231 : decode (mB m45) 231 = .ok (.iload 17, 2) := by decide +kernel
theorem d45_233 : decode (mB m45) 233 = .ok (.bipush 8, 2) := by decide +kernel
theorem d45_235 : decode (mB m45) 235 = .ok (.idiv, 1) := by decide +kernel
theorem d45_236 : decode (mB m45) 236 = .ok (.istore 14, 2) := by decide +kernel
theorem d45_238 : decode (mB m45) 238 = .ok (.iload 17, 2) := by decide +kernel
theorem d45_240 : decode (mB m45) 240 = .ok (.bipush 8, 2) := by decide +kernel
theorem d45_242 : decode (mB m45) 242 = .ok (.irem, 1) := by decide +kernel
theorem d45_243 : decode (mB m45) 243 = .ok (.istore 15, 2) := by decide +kernel
theorem d45_245 : decode (mB m45) 245 = .ok (.iload 13, 2) := by decide +kernel
theorem d45_247 : decode (mB m45) 247 = .ok (.iconst 2, 1) := by decide +kernel
theorem d45_248 : decode (mB m45) 248 = .ok (.if_icmp .gt 19, 3) := by decide +kernel
theorem d45_251 : decode (mB m45) 251 = .ok (.aload_n 3, 1) := by decide +kernel
theorem d45_252 : decode (mB m45) 252 = .ok (.iload 14, 2) := by decide +kernel
theorem d45_254 : decode (mB m45) 254 = .ok (.iload 15, 2) := by decide +kernel
theorem d45_256 : decode (mB m45) 256 = .ok (.invokevirtual 41, 3) := by decide +kernel
theorem d45_259 : decode (mB m45) 259 = .ok (.istore 11, 2) := by decide +kernel
theorem d45_261 : decode (mB m45) 261 = .ok (.iconst 1, 1) := by decide +kernel
theorem d45_262 : decode (mB m45) 262 = .ok (.istore 10, 2) := by decide +kernel
theorem d45_264 : decode (mB m45) 264 = .ok (.goto 85, 3) := by decide +kernel
theorem d45_267 : decode (mB m45) 267 = .ok (.iload 13, 2) := by decide +kernel
theorem d45_269 : decode (mB m45) 269 = .ok (.iconst 3, 1) := by decide +kernel
theorem d45_270 : decode (mB m45) 270 = .ok (.if_icmp .ne 19, 3) := by decide +kernel
theorem d45_273 : decode (mB m45) 273 = .ok (.aload_n 3, 1) := by decide +kernel
theorem d45_274 : decode (mB m45) 274 = .ok (.iload 14, 2) := by decide +kernel
theorem d45_276 : decode (mB m45) 276 = .ok (.iload 15, 2) := by decide +kernel
theorem d45_278 : decode (mB m45) 278 = .ok (.invokevirtual 45, 3) := by decide +kernel
theorem d45_281 : decode (mB m45) 281 = .ok (.istore 11, 2) := by decide +kernel
theorem d45_283 : decode (mB m45) 283 = .ok (.iconst 2, 1) := by decide +kernel
theorem d45_284 : decode (mB m45) 284 = .ok (.istore 10, 2) := by decide +kernel
theorem d45_286 : decode (mB m45) 286 = .ok (.goto 63, 3) := by decide +kernel
theorem d45_289 : decode (mB m45) 289 = .ok (.iload 13, 2) := by decide +kernel
theorem d45_291 : decode (mB m45) 291 = .ok (.iconst 4, 1) := by decide +kernel
theorem d45_292 : decode (mB m45) 292 = .ok (.if_icmp .ne 15, 3) := by decide +kernel
theorem d45_295 : decode (mB m45) 295 = .ok (.aload_n 3, 1) := by decide +kernel
theorem d45_296 : decode (mB m45) 296 = .ok (.iload 14, 2) := by decide +kernel
theorem d45_298 : decode (mB m45) 298 = .ok (.iload 15, 2) := by decide +kernel
theorem d45_300 : decode (mB m45) 300 = .ok (.invokevirtual 48, 3) := by decide +kernel
theorem d45_303 : decode (mB m45) 303 = .ok (.pop, 1) := by decide +kernel
theorem d45_304 : decode (mB m45) 304 = .ok (.goto 45, 3) := by decide +kernel
theorem d45_307 : decode (mB m45) 307 = .ok (.iload 13, 2) := by decide +kernel
theorem d45_309 : decode (mB m45) 309 = .ok (.iconst 5, 1) := by decide +kernel
theorem d45_310 : decode (mB m45) 310 = .ok (.if_icmp .ne 15, 3) := by decide +kernel
theorem d45_313 : decode (mB m45) 313 = .ok (.aload_n 3, 1) := by decide +kernel
theorem d45_314 : decode (mB m45) 314 = .ok (.iload 14, 2) := by decide +kernel
theorem d45_316 : decode (mB m45) 316 = .ok (.iload 15, 2) := by decide +kernel
theorem d45_318 : decode (mB m45) 318 = .ok (.invokevirtual 51, 3) := by decide +kernel
theorem d45_321 : decode (mB m45) 321 = .ok (.pop, 1) := by decide +kernel
theorem d45_322 : decode (mB m45) 322 = .ok (.goto 27, 3) := by decide +kernel
theorem d45_325 : decode (mB m45) 325 = .ok (.iload 13, 2) := by decide +kernel
theorem d45_327 : decode (mB m45) 327 = .ok (.bipush 6, 2) := by decide +kernel
theorem d45_329 : decode (mB m45) 329 = .ok (.if_icmp .ne 15, 3) := by decide +kernel
theorem d45_332 : decode (mB m45) 332 = .ok (.aload_n 3, 1) := by decide +kernel
theorem d45_333 : decode (mB m45) 333 = .ok (.invokevirtual 54, 3) := by decide +kernel
theorem d45_336 : decode (mB m45) 336 = .ok (.istore 11, 2) := by decide +kernel
theorem d45_338 : decode (mB m45) 338 = .ok (.iconst 3, 1) := by decide +kernel
theorem d45_339 : decode (mB m45) 339 = .ok (.istore 10, 2) := by decide +kernel
theorem d45_341 : decode (mB m45) 341 = .ok (.goto 8, 3) := by decide +kernel
theorem d45_344 : decode (mB m45) 344 = .ok (.aload_n 3, 1) := by decide +kernel
theorem d45_345 : decode (mB m45) 345 = .ok (.invokevirtual 58, 3) := by decide +kernel
theorem d45_348 : decode (mB m45) 348 = .ok (.pop, 1) := by decide +kernel
theorem d45_349 : decode (mB m45) 349 = .ok (.lconst 0, 1) := by decide +kernel
theorem d45_350 : decode (mB m45) 350 = .ok (.lstore 12, 2) := by decide +kernel
theorem d45_352 : decode (mB m45) 352 = .ok (.iconst 0, 1) := by decide +kernel
theorem d45_353 : decode (mB m45) 353 = .ok (.istore 14, 2) := by decide +kernel
theorem d45_355 : decode (mB m45) 355 = .ok (.iload 14, 2) := by decide +kernel
theorem d45_357 : decode (mB m45) 357 = .ok (.iload_n 1, 1) := by decide +kernel
theorem d45_358 : decode (mB m45) 358 = .ok (.if_icmp .ge 50, 3) := by decide +kernel
theorem d45_361 : decode (mB m45) 361 = .ok (.iconst 0, 1) := by decide +kernel
theorem d45_362 : decode (mB m45) 362 = .ok (.istore 15, 2) := by decide +kernel
theorem d45_364 : decode (mB m45) 364 = .ok (.iload 15, 2) := by decide +kernel
theorem d45_366 : decode (mB m45) 366 = .ok (.iload_n 1, 1) := by decide +kernel
theorem d45_367 : decode (mB m45) 367 = .ok (.if_icmp .ge 35, 3) := by decide +kernel
theorem d45_370 : decode (mB m45) 370 = .ok (.aload_n 3, 1) := by decide +kernel
theorem d45_371 : decode (mB m45) 371 = .ok (.iload 14, 2) := by decide +kernel
theorem d45_373 : decode (mB m45) 373 = .ok (.iload 15, 2) := by decide +kernel
theorem d45_375 : decode (mB m45) 375 = .ok (.invokevirtual 25, 3) := by decide +kernel
theorem d45_378 : decode (mB m45) 378 = .ok (.ifCond .eq 18, 3) := by decide +kernel
theorem d45_381 : decode (mB m45) 381 = .ok (.lload 12, 2) := by decide +kernel
theorem d45_383 : decode (mB m45) 383 = .ok (.lconst 1, 1) := by decide +kernel
theorem d45_384 : decode (mB m45) 384 = .ok (.iload 14, 2) := by decide +kernel
theorem d45_386 : decode (mB m45) 386 = .ok (.bipush 8, 2) := by decide +kernel
theorem d45_388 : decode (mB m45) 388 = .ok (.imul, 1) := by decide +kernel
theorem d45_389 : decode (mB m45) 389 = .ok (.iload 15, 2) := by decide +kernel
theorem d45_391 : decode (mB m45) 391 = .ok (.iadd, 1) := by decide +kernel
theorem d45_392 : decode (mB m45) 392 = .ok (.lshl, 1) := by decide +kernel
theorem d45_393 : decode (mB m45) 393 = .ok (.lor, 1) := by decide +kernel
theorem d45_394 : decode (mB m45) 394 = .ok (.lstore 12, 2) := by decide +kernel
theorem d45_396 : decode (mB m45) 396 = .ok (.iinc 15 1, 3) := by decide +kernel
theorem d45_399 : decode (mB m45) 399 = .ok (.goto (-35), 3) := by decide +kernel
theorem d45_402 : decode (mB m45) 402 = .ok (.iinc 14 1, 3) := by decide +kernel
theorem d45_405 : decode (mB m45) 405 = .ok (.goto (-50), 3) := by decide +kernel
theorem d45_408 : decode (mB m45) 408 = .ok (.lload 12, 2) := by decide +kernel
theorem d45_410 : decode (mB m45) 410 = .ok (.iload_n 1, 1) := by decide +kernel
theorem d45_411 : decode (mB m45) 411 = .ok (.invokestatic 29, 3) := by decide +kernel
theorem d45_414 : decode (mB m45) 414 = .ok (.lstore 14, 2) := by decide +kernel
theorem d45_416 : decode (mB m45) 416 = .ok (.iconst 0, 1) := by decide +kernel
theorem d45_417 : decode (mB m45) 417 = .ok (.istore 16, 2) := by decide +kernel
theorem d45_419 : decode (mB m45) 419 = .ok (.iload 16, 2) := by decide +kernel
theorem d45_421 : decode (mB m45) 421 = .ok (.iload_n 1, 1) := by decide +kernel
theorem d45_422 : decode (mB m45) 422 = .ok (.if_icmp .ge 46, 3) := by decide +kernel
theorem d45_425 : decode (mB m45) 425 = .ok (.iconst 0, 1) := by decide +kernel
theorem d45_426 : decode (mB m45) 426 = .ok (.istore 17, 2) := by decide +kernel
theorem d45_428 : decode (mB m45) 428 = .ok (.iload 17, 2) := by decide +kernel
theorem d45_430 : decode (mB m45) 430 = .ok (.iload_n 1, 1) := by decide +kernel
theorem d45_431 : decode (mB m45) 431 = .ok (.if_icmp .ge 31, 3) := by decide +kernel
theorem d45_434 : decode (mB m45) 434 = .ok (.aload_n 3, 1) := by decide +kernel
theorem d45_435 : decode (mB m45) 435 = .ok (.iload 16, 2) := by decide +kernel
theorem d45_437 : decode (mB m45) 437 = .ok (.iload 17, 2) := by decide +kernel
theorem d45_439 : decode (mB m45) 439 = .ok (.invokevirtual 61, 3) := by decide +kernel
theorem d45_442 : decode (mB m45) 442 = .ok (.lload 14, 2) := by decide +kernel
theorem d45_444 : decode (mB m45) 444 = .ok (.iload 16, 2) := by decide +kernel
theorem d45_446 : decode (mB m45) 446 = .ok (.iload 17, 2) := by decide +kernel
theorem d45_448 : decode (mB m45) 448 = .ok (.invokestatic 7, 3) := by decide +kernel
theorem d45_451 : decode (mB m45) 451 = .ok (.if_icmp .eq 5, 3) := by decide +kernel
theorem d45_454 : decode (mB m45) 454 = .ok (.iconst 0, 1) := by decide +kernel
theorem d45_455 : decode (mB m45) 455 = .ok (.ireturn, 1) := by decide +kernel
theorem d45_456 : decode (mB m45) 456 = .ok (.iinc 17 1, 3) := by decide +kernel
theorem d45_459 : decode (mB m45) 459 = .ok (.goto (-31), 3) := by decide +kernel
theorem d45_462 : decode (mB m45) 462 = .ok (.iinc 16 1, 3) := by decide +kernel
theorem d45_465 : decode (mB m45) 465 = .ok (.goto (-46), 3) := by decide +kernel
theorem d45_468 : decode (mB m45) 468 = .ok (.iconst 0, 1) := by decide +kernel
theorem d45_469 : decode (mB m45) 469 = .ok (.istore 16, 2) := by decide +kernel
theorem d45_471 : decode (mB m45) 471 = .ok (.iload 16, 2) := by decide +kernel
theorem d45_473 : decode (mB m45) 473 = .ok (.iload_n 1, 1) := by decide +kernel
theorem d45_474 : decode (mB m45) 474 = .ok (.if_icmp .ge 99, 3) := by decide +kernel
theorem d45_477 : decode (mB m45) 477 = .ok (.iconst 0, 1) := by decide +kernel
theorem d45_478 : decode (mB m45) 478 = .ok (.istore 17, 2) := by decide +kernel
theorem d45_480 : decode (mB m45) 480 = .ok (.iload 17, 2) := by decide +kernel
theorem d45_482 : decode (mB m45) 482 = .ok (.iload_n 1, 1) := by decide +kernel
theorem d45_483 : decode (mB m45) 483 = .ok (.if_icmp .ge 84, 3) := by decide +kernel
theorem d45_486 : decode (mB m45) 486 = .ok (.lload 12, 2) := by decide +kernel
theorem d45_488 : decode (mB m45) 488 = .ok (.iload 16, 2) := by decide +kernel
theorem d45_490 : decode (mB m45) 490 = .ok (.iload 17, 2) := by decide +kernel
theorem d45_492 : decode (mB m45) 492 = .ok (.invokestatic 7, 3) := by decide +kernel
theorem d45_495 : decode (mB m45) 495 = .ok (.ifCond .eq 7, 3) := by decide +kernel
theorem d45_498 : decode (mB m45) 498 = .ok (.iconst 1, 1) := by decide +kernel
theorem d45_499 : decode (mB m45) 499 = .ok (.goto 4, 3) := by decide +kernel
theorem d45_502 : decode (mB m45) 502 = .ok (.iconst 0, 1) := by decide +kernel
theorem d45_503 : decode (mB m45) 503 = .ok (.istore 18, 2) := by decide +kernel
theorem d45_505 : decode (mB m45) 505 = .ok (.iconst 0, 1) := by decide +kernel
theorem d45_506 : decode (mB m45) 506 = .ok (.istore 19, 2) := by decide +kernel
theorem d45_508 : decode (mB m45) 508 = .ok (.iload 19, 2) := by decide +kernel
theorem d45_510 : decode (mB m45) 510 = .ok (.iload_n 1, 1) := by decide +kernel
theorem d45_511 : decode (mB m45) 511 = .ok (.if_icmp .ge 35, 3) := by decide +kernel
theorem d45_514 : decode (mB m45) 514 = .ok (.lload 12, 2) := by decide +kernel
theorem d45_516 : decode (mB m45) 516 = .ok (.iload 16, 2) := by decide +kernel
theorem d45_518 : decode (mB m45) 518 = .ok (.iload 19, 2) := by decide +kernel
theorem d45_520 : decode (mB m45) 520 = .ok (.invokestatic 7, 3) := by decide +kernel
theorem d45_523 : decode (mB m45) 523 = .ok (.ifCond .eq 17, 3) := by decide +kernel
theorem d45_526 : decode (mB m45) 526 = .ok (.aload_n 3, 1) := by decide +kernel
theorem d45_527 : decode (mB m45) 527 = .ok (.iload 19, 2) := by decide +kernel
theorem d45_529 : decode (mB m45) 529 = .ok (.iload 17, 2) := by decide +kernel
theorem d45_531 : decode (mB m45) 531 = .ok (.invokevirtual 61, 3) := by decide +kernel
theorem d45_534 : decode (mB m45) 534 = .ok (.ifCond .eq 6, 3) := by decide +kernel
theorem d45_537 : decode (mB m45) 537 = .ok (.iinc 18 1, 3) := by decide +kernel
theorem d45_540 : decode (mB m45) 540 = .ok (.iinc 19 1, 3) := by decide +kernel
theorem d45_543 : decode (mB m45) 543 = .ok (.goto (-35), 3) := by decide +kernel
theorem d45_546 : decode (mB m45) 546 = .ok (.aload_n 3, 1) := by decide +kernel
theorem d45_547 : decode (mB m45) 547 = .ok (.iload 16, 2) := by decide +kernel
theorem d45_549 : decode (mB m45) 549 = .ok (.iload 17, 2) := by decide +kernel
theorem d45_551 : decode (mB m45) 551 = .ok (.invokevirtual 64, 3) := by decide +kernel
theorem d45_554 : decode (mB m45) 554 = .ok (.iload 18, 2) := by decide +kernel
theorem d45_556 : decode (mB m45) 556 = .ok (.if_icmp .eq 5, 3) := by decide +kernel
theorem d45_559 : decode (mB m45) 559 = .ok (.iconst 0, 1) := by decide +kernel
theorem d45_560 : decode (mB m45) 560 = .ok (.ireturn, 1) := by decide +kernel
theorem d45_561 : decode (mB m45) 561 = .ok (.iinc 17 1, 3) := by decide +kernel
theorem d45_564 : decode (mB m45) 564 = .ok (.goto (-84), 3) := by decide +kernel
theorem d45_567 : decode (mB m45) 567 = .ok (.iinc 16 1, 3) := by decide +kernel
theorem d45_570 : decode (mB m45) 570 = .ok (.goto (-99), 3) := by decide +kernel
theorem d45_573 : decode (mB m45) 573 = .ok (.iconst 0, 1) := by decide +kernel
theorem d45_574 : decode (mB m45) 574 = .ok (.istore 16, 2) := by decide +kernel
theorem d45_576 : decode (mB m45) 576 = .ok (.iconst 0, 1) := by decide +kernel
theorem d45_577 : decode (mB m45) 577 = .ok (.istore 17, 2) := by decide +kernel
theorem d45_579 : decode (mB m45) 579 = .ok (.iconst 0, 1) := by decide +kernel
theorem d45_580 : decode (mB m45) 580 = .ok (.istore 18, 2) := by decide +kernel
theorem d45_582 : decode (mB m45) 582 = .ok (.iload 18, 2) := by decide +kernel
theorem d45_584 : decode (mB m45) 584 = .ok (.iload_n 1, 1) := by decide +kernel
theorem d45_585 : decode (mB m45) 585 = .ok (.if_icmp .ge 31, 3) := by decide +kernel
theorem d45_588 : decode (mB m45) 588 = .ok (.iload 16, 2) := by decide +kernel
theorem d45_590 : decode (mB m45) 590 = .ok (.aload_n 3, 1) := by decide +kernel
theorem d45_591 : decode (mB m45) 591 = .ok (.iload 18, 2) := by decide +kernel
theorem d45_593 : decode (mB m45) 593 = .ok (.invokevirtual 67, 3) := by decide +kernel
theorem d45_596 : decode (mB m45) 596 = .ok (.iadd, 1) := by decide +kernel
theorem d45_597 : decode (mB m45) 597 = .ok (.istore 16, 2) := by decide +kernel
theorem d45_599 : decode (mB m45) 599 = .ok (.iload 17, 2) := by decide +kernel
theorem d45_601 : decode (mB m45) 601 = .ok (.aload_n 3, 1) := by decide +kernel
theorem d45_602 : decode (mB m45) 602 = .ok (.iload 18, 2) := by decide +kernel
theorem d45_604 : decode (mB m45) 604 = .ok (.invokevirtual 71, 3) := by decide +kernel
theorem d45_607 : decode (mB m45) 607 = .ok (.iadd, 1) := by decide +kernel
theorem d45_608 : decode (mB m45) 608 = .ok (.istore 17, 2) := by decide +kernel
theorem d45_610 : decode (mB m45) 610 = .ok (.iinc 18 1, 3) := by decide +kernel
theorem d45_613 : decode (mB m45) 613 = .ok (.goto (-31), 3) := by decide +kernel
theorem d45_616 : decode (mB m45) 616 = .ok (.aload_n 3, 1) := by decide +kernel
theorem d45_617 : decode (mB m45) 617 = .ok (.invokevirtual 74, 3) := by decide +kernel
theorem d45_620 : decode (mB m45) 620 = .ok (.istore 18, 2) := by decide +kernel
theorem d45_622 : decode (mB m45) 622 = .ok (.iload 18, 2) := by decide +kernel
theorem d45_624 : decode (mB m45) 624 = .ok (.iload 16, 2) := by decide +kernel
theorem d45_626 : decode (mB m45) 626 = .ok (.if_icmp .ne 10, 3) := by decide +kernel
theorem d45_629 : decode (mB m45) 629 = .ok (.iload 18, 2) := by decide +kernel
theorem d45_631 : decode (mB m45) 631 = .ok (.iload 17, 2) := by decide +kernel
theorem d45_633 : decode (mB m45) 633 = .ok (.if_icmp .eq 5, 3) := by decide +kernel
theorem d45_636 : decode (mB m45) 636 = .ok (.iconst 0, 1) := by decide +kernel
theorem d45_637 : decode (mB m45) 637 = .ok (.ireturn, 1) := by decide +kernel
theorem d45_638 : decode (mB m45) 638 = .ok (.iload 10, 2) := by decide +kernel
theorem d45_640 : decode (mB m45) 640 = .ok (.ifCond .eq 68, 3) := by decide +kernel
theorem d45_643 : decode (mB m45) 643 = .ok (.iload 11, 2) := by decide +kernel
theorem d45_645 : decode (mB m45) 645 = .ok (.ifCond .lt 63, 3) := by decide +kernel
theorem d45_648 : decode (mB m45) 648 = .ok (.lload 14, 2) := by decide +kernel
theorem d45_650 : decode (mB m45) 650 = .ok (.lload 8, 2) := by decide +kernel
theorem d45_652 : decode (mB m45) 652 = .ok (.ldc2_w 77, 3) := by decide +kernel
theorem d45_655 : decode (mB m45) 655 = .ok (.lxor, 1) := by decide +kernel
theorem d45_656 : decode (mB m45) 656 = .ok (.land, 1) := by decide +kernel
theorem d45_657 : decode (mB m45) 657 = .ok (.invokestatic 33, 3) := by decide +kernel
theorem d45_660 : decode (mB m45) 660 = .ok (.istore 19, 2) := by decide +kernel
theorem d45_662 : decode (mB m45) 662 = .ok (.lload 8, 2) := by decide +kernel
theorem d45_664 : decode (mB m45) 664 = .ok (.lload 14, 2) := by decide +kernel
theorem d45_666 : decode (mB m45) 666 = .ok (.ldc2_w 77, 3) := by decide +kernel
theorem d45_669 : decode (mB m45) 669 = .ok (.lxor, 1) := by decide +kernel
theorem d45_670 : decode (mB m45) 670 = .ok (.land, 1) := by decide +kernel
theorem d45_671 : decode (mB m45) 671 = .ok (.invokestatic 33, 3) := by decide +kernel
theorem d45_674 : decode (mB m45) 674 = .ok (.istore 20, 2) := by decide +kernel
theorem d45_676 : decode (mB m45) 676 = .ok (.iload 11, 2) := by decide +kernel
theorem d45_678 : decode (mB m45) 678 = .ok (.iload 19, 2) := by decide +kernel
theorem d45_680 : decode (mB m45) 680 = .ok (.iload 20, 2) := by decide +kernel
theorem d45_682 : decode (mB m45) 682 = .ok (.iadd, 1) := by decide +kernel
theorem d45_683 : decode (mB m45) 683 = .ok (.if_icmp .eq 5, 3) := by decide +kernel
theorem d45_686 : decode (mB m45) 686 = .ok (.iconst 0, 1) := by decide +kernel
theorem d45_687 : decode (mB m45) 687 = .ok (.ireturn, 1) := by decide +kernel
theorem d45_688 : decode (mB m45) 688 = .ok (.aload_n 3, 1) := by decide +kernel
theorem d45_689 : decode (mB m45) 689 = .ok (.invokevirtual 79, 3) := by decide +kernel
theorem d45_692 : decode (mB m45) 692 = .ok (.iload 19, 2) := by decide +kernel
theorem d45_694 : decode (mB m45) 694 = .ok (.if_icmp .ne 12, 3) := by decide +kernel
theorem d45_697 : decode (mB m45) 697 = .ok (.aload_n 3, 1) := by decide +kernel
theorem d45_698 : decode (mB m45) 698 = .ok (.invokevirtual 82, 3) := by decide +kernel
theorem d45_701 : decode (mB m45) 701 = .ok (.iload 20, 2) := by decide +kernel
theorem d45_703 : decode (mB m45) 703 = .ok (.if_icmp .eq 5, 3) := by decide +kernel
theorem d45_706 : decode (mB m45) 706 = .ok (.iconst 0, 1) := by decide +kernel
theorem d45_707 : decode (mB m45) 707 = .ok (.ireturn, 1) := by decide +kernel
theorem d45_708 : decode (mB m45) 708 = .ok (.iinc 5 1, 3) := by decide +kernel
theorem d45_711 : decode (mB m45) 711 = .ok (.goto (-656), 3) := by decide +kernel
theorem d45_714 : decode (mB m45) 714 = .ok (.iconst 1, 1) := by decide +kernel
theorem d45_715 : decode (mB m45) 715 = .ok (.ireturn, 1) := by decide +kernel
theorem cb_m5 : (-5 : Int32) = (Int8.ofInt (-5)).toInt32 := by decide
theorem cb_m4 : (-4 : Int32) = (Int8.ofInt (-4)).toInt32 := by decide
theorem cb_m3 : (-3 : Int32) = (Int8.ofInt (-3)).toInt32 := by decide
theorem cb_m2 : (-2 : Int32) = (Int8.ofInt (-2)).toInt32 := by decide
theorem cb_6 : (6 : Int32) = (Int8.ofInt (6)).toInt32 := by decide
theorem cb_7 : (7 : Int32) = (Int8.ofInt (7)).toInt32 := by decide
theorem cb_8 : (8 : Int32) = (Int8.ofInt (8)).toInt32 := by decide
theorem cb_11 : (11 : Int32) = (Int8.ofInt (11)).toInt32 := by decide
theorem cb_16 : (16 : Int32) = (Int8.ofInt (16)).toInt32 := by decide
theorem cb_19 : (19 : Int32) = (Int8.ofInt (19)).toInt32 := by decide
theorem cb_24 : (24 : Int32) = (Int8.ofInt (24)).toInt32 := by decide
theorem cb_32 : (32 : Int32) = (Int8.ofInt (32)).toInt32 := by decide
theorem cb_64 : (64 : Int32) = (Int8.ofInt (64)).toInt32 := by decide
theorem ci_m1 : (-1 : Int32) = Int32.ofInt (-1) := by decide
theorem ci_0 : (0 : Int32) = Int32.ofInt (0) := by decide
theorem ci_1 : (1 : Int32) = Int32.ofInt (1) := by decide
theorem ci_2 : (2 : Int32) = Int32.ofInt (2) := by decide
theorem ci_3 : (3 : Int32) = Int32.ofInt (3) := by decide
theorem ci_4 : (4 : Int32) = Int32.ofInt (4) := by decide
theorem ci_5 : (5 : Int32) = Int32.ofInt (5) := by decide
theorem cl_0 : (0 : Int64) = Int64.ofNat ((0 : Fin 2)) := by decide
theorem cl_1 : (1 : Int64) = Int64.ofNat ((1 : Fin 2)) := by decide
theorem cs_255 : (255 : Int32) = (Int16.ofInt (255)).toInt32 := by decide
theorem cs_256 : (256 : Int32) = (Int16.ofInt (256)).toInt32 := by decide
theorem j_1_9 : 0 ≤ ((1 : Nat) : Int) + (9) ∧ (((1 : Nat) : Int) + (9)).toNat = 10 := by decide
theorem j_1_15 : 0 ≤ ((1 : Nat) : Int) + (15) ∧ (((1 : Nat) : Int) + (15)).toNat = 16 := by decide
theorem j_3_9 : 0 ≤ ((3 : Nat) : Int) + (9) ∧ (((3 : Nat) : Int) + (9)).toNat = 12 := by decide
theorem j_5_5 : 0 ≤ ((5 : Nat) : Int) + (5) ∧ (((5 : Nat) : Int) + (5)).toNat = 10 := by decide
theorem j_5_7 : 0 ≤ ((5 : Nat) : Int) + (7) ∧ (((5 : Nat) : Int) + (7)).toNat = 12 := by decide
theorem j_5_11 : 0 ≤ ((5 : Nat) : Int) + (11) ∧ (((5 : Nat) : Int) + (11)).toNat = 16 := by decide
theorem j_5_16 : 0 ≤ ((5 : Nat) : Int) + (16) ∧ (((5 : Nat) : Int) + (16)).toNat = 21 := by decide
theorem j_5_21 : 0 ≤ ((5 : Nat) : Int) + (21) ∧ (((5 : Nat) : Int) + (21)).toNat = 26 := by decide
theorem j_5_23 : 0 ≤ ((5 : Nat) : Int) + (23) ∧ (((5 : Nat) : Int) + (23)).toNat = 28 := by decide
theorem j_5_28 : 0 ≤ ((5 : Nat) : Int) + (28) ∧ (((5 : Nat) : Int) + (28)).toNat = 33 := by decide
theorem j_7_4 : 0 ≤ ((7 : Nat) : Int) + (4) ∧ (((7 : Nat) : Int) + (4)).toNat = 11 := by decide
theorem j_7_22 : 0 ≤ ((7 : Nat) : Int) + (22) ∧ (((7 : Nat) : Int) + (22)).toNat = 29 := by decide
theorem j_7_25 : 0 ≤ ((7 : Nat) : Int) + (25) ∧ (((7 : Nat) : Int) + (25)).toNat = 32 := by decide
theorem j_7_30 : 0 ≤ ((7 : Nat) : Int) + (30) ∧ (((7 : Nat) : Int) + (30)).toNat = 37 := by decide
theorem j_7_31 : 0 ≤ ((7 : Nat) : Int) + (31) ∧ (((7 : Nat) : Int) + (31)).toNat = 38 := by decide
theorem j_7_38 : 0 ≤ ((7 : Nat) : Int) + (38) ∧ (((7 : Nat) : Int) + (38)).toNat = 45 := by decide
theorem j_9_4 : 0 ≤ ((9 : Nat) : Int) + (4) ∧ (((9 : Nat) : Int) + (4)).toNat = 13 := by decide
theorem j_9_7 : 0 ≤ ((9 : Nat) : Int) + (7) ∧ (((9 : Nat) : Int) + (7)).toNat = 16 := by decide
theorem j_9_22 : 0 ≤ ((9 : Nat) : Int) + (22) ∧ (((9 : Nat) : Int) + (22)).toNat = 31 := by decide
theorem j_9_31 : 0 ≤ ((9 : Nat) : Int) + (31) ∧ (((9 : Nat) : Int) + (31)).toNat = 40 := by decide
theorem j_9_36 : 0 ≤ ((9 : Nat) : Int) + (36) ∧ (((9 : Nat) : Int) + (36)).toNat = 45 := by decide
theorem j_9_78 : 0 ≤ ((9 : Nat) : Int) + (78) ∧ (((9 : Nat) : Int) + (78)).toNat = 87 := by decide
theorem j_10_7 : 0 ≤ ((10 : Nat) : Int) + (7) ∧ (((10 : Nat) : Int) + (7)).toNat = 17 := by decide
theorem j_11_20 : 0 ≤ ((11 : Nat) : Int) + (20) ∧ (((11 : Nat) : Int) + (20)).toNat = 31 := by decide
theorem j_11_51 : 0 ≤ ((11 : Nat) : Int) + (51) ∧ (((11 : Nat) : Int) + (51)).toNat = 62 := by decide
theorem j_12_7 : 0 ≤ ((12 : Nat) : Int) + (7) ∧ (((12 : Nat) : Int) + (7)).toNat = 19 := by decide
theorem j_13_4 : 0 ≤ ((13 : Nat) : Int) + (4) ∧ (((13 : Nat) : Int) + (4)).toNat = 17 := by decide
theorem j_13_5 : 0 ≤ ((13 : Nat) : Int) + (5) ∧ (((13 : Nat) : Int) + (5)).toNat = 18 := by decide
theorem j_14_4 : 0 ≤ ((14 : Nat) : Int) + (4) ∧ (((14 : Nat) : Int) + (4)).toNat = 18 := by decide
theorem j_16_4 : 0 ≤ ((16 : Nat) : Int) + (4) ∧ (((16 : Nat) : Int) + (4)).toNat = 20 := by decide
theorem j_17_6 : 0 ≤ ((17 : Nat) : Int) + (6) ∧ (((17 : Nat) : Int) + (6)).toNat = 23 := by decide
theorem j_17_14 : 0 ≤ ((17 : Nat) : Int) + (14) ∧ (((17 : Nat) : Int) + (14)).toNat = 31 := by decide
theorem j_18_m16 : 0 ≤ ((18 : Nat) : Int) + (-16) ∧ (((18 : Nat) : Int) + (-16)).toNat = 2 := by decide
theorem j_18_28 : 0 ≤ ((18 : Nat) : Int) + (28) ∧ (((18 : Nat) : Int) + (28)).toNat = 46 := by decide
theorem j_19_25 : 0 ≤ ((19 : Nat) : Int) + (25) ∧ (((19 : Nat) : Int) + (25)).toNat = 44 := by decide
theorem j_20_14 : 0 ≤ ((20 : Nat) : Int) + (14) ∧ (((20 : Nat) : Int) + (14)).toNat = 34 := by decide
theorem j_20_19 : 0 ≤ ((20 : Nat) : Int) + (19) ∧ (((20 : Nat) : Int) + (19)).toNat = 39 := by decide
theorem j_21_57 : 0 ≤ ((21 : Nat) : Int) + (57) ∧ (((21 : Nat) : Int) + (57)).toNat = 78 := by decide
theorem j_22_34 : 0 ≤ ((22 : Nat) : Int) + (34) ∧ (((22 : Nat) : Int) + (34)).toNat = 56 := by decide
theorem j_23_m21 : 0 ≤ ((23 : Nat) : Int) + (-21) ∧ (((23 : Nat) : Int) + (-21)).toNat = 2 := by decide
theorem j_24_6 : 0 ≤ ((24 : Nat) : Int) + (6) ∧ (((24 : Nat) : Int) + (6)).toNat = 30 := by decide
theorem j_25_m23 : 0 ≤ ((25 : Nat) : Int) + (-23) ∧ (((25 : Nat) : Int) + (-23)).toNat = 2 := by decide
theorem j_25_6 : 0 ≤ ((25 : Nat) : Int) + (6) ∧ (((25 : Nat) : Int) + (6)).toNat = 31 := by decide
theorem j_26_m22 : 0 ≤ ((26 : Nat) : Int) + (-22) ∧ (((26 : Nat) : Int) + (-22)).toNat = 4 := by decide
theorem j_27_13 : 0 ≤ ((27 : Nat) : Int) + (13) ∧ (((27 : Nat) : Int) + (13)).toNat = 40 := by decide
theorem j_28_m24 : 0 ≤ ((28 : Nat) : Int) + (-24) ∧ (((28 : Nat) : Int) + (-24)).toNat = 4 := by decide
theorem j_28_m22 : 0 ≤ ((28 : Nat) : Int) + (-22) ∧ (((28 : Nat) : Int) + (-22)).toNat = 6 := by decide
theorem j_29_m27 : 0 ≤ ((29 : Nat) : Int) + (-27) ∧ (((29 : Nat) : Int) + (-27)).toNat = 2 := by decide
theorem j_30_m28 : 0 ≤ ((30 : Nat) : Int) + (-28) ∧ (((30 : Nat) : Int) + (-28)).toNat = 2 := by decide
theorem j_30_11 : 0 ≤ ((30 : Nat) : Int) + (11) ∧ (((30 : Nat) : Int) + (11)).toNat = 41 := by decide
theorem j_30_42 : 0 ≤ ((30 : Nat) : Int) + (42) ∧ (((30 : Nat) : Int) + (42)).toNat = 72 := by decide
theorem j_32_6 : 0 ≤ ((32 : Nat) : Int) + (6) ∧ (((32 : Nat) : Int) + (6)).toNat = 38 := by decide
theorem j_34_m32 : 0 ≤ ((34 : Nat) : Int) + (-32) ∧ (((34 : Nat) : Int) + (-32)).toNat = 2 := by decide
theorem j_34_6 : 0 ≤ ((34 : Nat) : Int) + (6) ∧ (((34 : Nat) : Int) + (6)).toNat = 40 := by decide
theorem j_35_m33 : 0 ≤ ((35 : Nat) : Int) + (-33) ∧ (((35 : Nat) : Int) + (-33)).toNat = 2 := by decide
theorem j_37_m33 : 0 ≤ ((37 : Nat) : Int) + (-33) ∧ (((37 : Nat) : Int) + (-33)).toNat = 4 := by decide
theorem j_37_m32 : 0 ≤ ((37 : Nat) : Int) + (-32) ∧ (((37 : Nat) : Int) + (-32)).toNat = 5 := by decide
theorem j_38_4 : 0 ≤ ((38 : Nat) : Int) + (4) ∧ (((38 : Nat) : Int) + (4)).toNat = 42 := by decide
theorem j_38_6 : 0 ≤ ((38 : Nat) : Int) + (6) ∧ (((38 : Nat) : Int) + (6)).toNat = 44 := by decide
theorem j_41_m27 : 0 ≤ ((41 : Nat) : Int) + (-27) ∧ (((41 : Nat) : Int) + (-27)).toNat = 14 := by decide
theorem j_41_25 : 0 ≤ ((41 : Nat) : Int) + (25) ∧ (((41 : Nat) : Int) + (25)).toNat = 66 := by decide
theorem j_42_m40 : 0 ≤ ((42 : Nat) : Int) + (-40) ∧ (((42 : Nat) : Int) + (-40)).toNat = 2 := by decide
theorem j_42_m38 : 0 ≤ ((42 : Nat) : Int) + (-38) ∧ (((42 : Nat) : Int) + (-38)).toNat = 4 := by decide
theorem j_43_m31 : 0 ≤ ((43 : Nat) : Int) + (-31) ∧ (((43 : Nat) : Int) + (-31)).toNat = 12 := by decide
theorem j_46_6 : 0 ≤ ((46 : Nat) : Int) + (6) ∧ (((46 : Nat) : Int) + (6)).toNat = 52 := by decide
theorem j_48_25 : 0 ≤ ((48 : Nat) : Int) + (25) ∧ (((48 : Nat) : Int) + (25)).toNat = 73 := by decide
theorem j_49_35 : 0 ≤ ((49 : Nat) : Int) + (35) ∧ (((49 : Nat) : Int) + (35)).toNat = 84 := by decide
theorem j_55_4 : 0 ≤ ((55 : Nat) : Int) + (4) ∧ (((55 : Nat) : Int) + (4)).toNat = 59 := by decide
theorem j_57_28 : 0 ≤ ((57 : Nat) : Int) + (28) ∧ (((57 : Nat) : Int) + (28)).toNat = 85 := by decide
theorem j_58_20 : 0 ≤ ((58 : Nat) : Int) + (20) ∧ (((58 : Nat) : Int) + (20)).toNat = 78 := by decide
theorem j_59_m53 : 0 ≤ ((59 : Nat) : Int) + (-53) ∧ (((59 : Nat) : Int) + (-53)).toNat = 6 := by decide
theorem j_59_655 : 0 ≤ ((59 : Nat) : Int) + (655) ∧ (((59 : Nat) : Int) + (655)).toNat = 714 := by decide
theorem j_62_44 : 0 ≤ ((62 : Nat) : Int) + (44) ∧ (((62 : Nat) : Int) + (44)).toNat = 106 := by decide
theorem j_69_m42 : 0 ≤ ((69 : Nat) : Int) + (-42) ∧ (((69 : Nat) : Int) + (-42)).toNat = 27 := by decide
theorem j_70_m28 : 0 ≤ ((70 : Nat) : Int) + (-28) ∧ (((70 : Nat) : Int) + (-28)).toNat = 42 := by decide
theorem j_71_50 : 0 ≤ ((71 : Nat) : Int) + (50) ∧ (((71 : Nat) : Int) + (50)).toNat = 121 := by decide
theorem j_72_6 : 0 ≤ ((72 : Nat) : Int) + (6) ∧ (((72 : Nat) : Int) + (6)).toNat = 78 := by decide
theorem j_73_33 : 0 ≤ ((73 : Nat) : Int) + (33) ∧ (((73 : Nat) : Int) + (33)).toNat = 106 := by decide
theorem j_75_m57 : 0 ≤ ((75 : Nat) : Int) + (-57) ∧ (((75 : Nat) : Int) + (-57)).toNat = 18 := by decide
theorem j_80_35 : 0 ≤ ((80 : Nat) : Int) + (35) ∧ (((80 : Nat) : Int) + (35)).toNat = 115 := by decide
theorem j_81_m38 : 0 ≤ ((81 : Nat) : Int) + (-38) ∧ (((81 : Nat) : Int) + (-38)).toNat = 43 := by decide
theorem j_82_24 : 0 ≤ ((82 : Nat) : Int) + (24) ∧ (((82 : Nat) : Int) + (24)).toNat = 106 := by decide
theorem j_84_m79 : 0 ≤ ((84 : Nat) : Int) + (-79) ∧ (((84 : Nat) : Int) + (-79)).toNat = 5 := by decide
theorem j_90_5 : 0 ≤ ((90 : Nat) : Int) + (5) ∧ (((90 : Nat) : Int) + (5)).toNat = 95 := by decide
theorem j_91_18 : 0 ≤ ((91 : Nat) : Int) + (18) ∧ (((91 : Nat) : Int) + (18)).toNat = 109 := by decide
theorem j_92_14 : 0 ≤ ((92 : Nat) : Int) + (14) ∧ (((92 : Nat) : Int) + (14)).toNat = 106 := by decide
theorem j_97_9 : 0 ≤ ((97 : Nat) : Int) + (9) ∧ (((97 : Nat) : Int) + (9)).toNat = 106 := by decide
theorem j_98_6 : 0 ≤ ((98 : Nat) : Int) + (6) ∧ (((98 : Nat) : Int) + (6)).toNat = 104 := by decide
theorem j_110_6 : 0 ≤ ((110 : Nat) : Int) + (6) ∧ (((110 : Nat) : Int) + (6)).toNat = 116 := by decide
theorem j_112_m35 : 0 ≤ ((112 : Nat) : Int) + (-35) ∧ (((112 : Nat) : Int) + (-35)).toNat = 77 := by decide
theorem j_118_m50 : 0 ≤ ((118 : Nat) : Int) + (-50) ∧ (((118 : Nat) : Int) + (-50)).toNat = 68 := by decide
theorem j_121_8 : 0 ≤ ((121 : Nat) : Int) + (8) ∧ (((121 : Nat) : Int) + (8)).toNat = 129 := by decide
theorem j_137_212 : 0 ≤ ((137 : Nat) : Int) + (212) ∧ (((137 : Nat) : Int) + (212)).toNat = 349 := by decide
theorem j_199_9 : 0 ≤ ((199 : Nat) : Int) + (9) ∧ (((199 : Nat) : Int) + (9)).toNat = 208 := by decide
theorem j_205_40 : 0 ≤ ((205 : Nat) : Int) + (40) ∧ (((205 : Nat) : Int) + (40)).toNat = 245 := by decide
theorem j_213_32 : 0 ≤ ((213 : Nat) : Int) + (32) ∧ (((213 : Nat) : Int) + (32)).toNat = 245 := by decide
theorem j_248_19 : 0 ≤ ((248 : Nat) : Int) + (19) ∧ (((248 : Nat) : Int) + (19)).toNat = 267 := by decide
theorem j_264_85 : 0 ≤ ((264 : Nat) : Int) + (85) ∧ (((264 : Nat) : Int) + (85)).toNat = 349 := by decide
theorem j_270_19 : 0 ≤ ((270 : Nat) : Int) + (19) ∧ (((270 : Nat) : Int) + (19)).toNat = 289 := by decide
theorem j_286_63 : 0 ≤ ((286 : Nat) : Int) + (63) ∧ (((286 : Nat) : Int) + (63)).toNat = 349 := by decide
theorem j_292_15 : 0 ≤ ((292 : Nat) : Int) + (15) ∧ (((292 : Nat) : Int) + (15)).toNat = 307 := by decide
theorem j_304_45 : 0 ≤ ((304 : Nat) : Int) + (45) ∧ (((304 : Nat) : Int) + (45)).toNat = 349 := by decide
theorem j_310_15 : 0 ≤ ((310 : Nat) : Int) + (15) ∧ (((310 : Nat) : Int) + (15)).toNat = 325 := by decide
theorem j_322_27 : 0 ≤ ((322 : Nat) : Int) + (27) ∧ (((322 : Nat) : Int) + (27)).toNat = 349 := by decide
theorem j_329_15 : 0 ≤ ((329 : Nat) : Int) + (15) ∧ (((329 : Nat) : Int) + (15)).toNat = 344 := by decide
theorem j_341_8 : 0 ≤ ((341 : Nat) : Int) + (8) ∧ (((341 : Nat) : Int) + (8)).toNat = 349 := by decide
theorem j_358_50 : 0 ≤ ((358 : Nat) : Int) + (50) ∧ (((358 : Nat) : Int) + (50)).toNat = 408 := by decide
theorem j_367_35 : 0 ≤ ((367 : Nat) : Int) + (35) ∧ (((367 : Nat) : Int) + (35)).toNat = 402 := by decide
theorem j_378_18 : 0 ≤ ((378 : Nat) : Int) + (18) ∧ (((378 : Nat) : Int) + (18)).toNat = 396 := by decide
theorem j_399_m35 : 0 ≤ ((399 : Nat) : Int) + (-35) ∧ (((399 : Nat) : Int) + (-35)).toNat = 364 := by decide
theorem j_405_m50 : 0 ≤ ((405 : Nat) : Int) + (-50) ∧ (((405 : Nat) : Int) + (-50)).toNat = 355 := by decide
theorem j_422_46 : 0 ≤ ((422 : Nat) : Int) + (46) ∧ (((422 : Nat) : Int) + (46)).toNat = 468 := by decide
theorem j_431_31 : 0 ≤ ((431 : Nat) : Int) + (31) ∧ (((431 : Nat) : Int) + (31)).toNat = 462 := by decide
theorem j_451_5 : 0 ≤ ((451 : Nat) : Int) + (5) ∧ (((451 : Nat) : Int) + (5)).toNat = 456 := by decide
theorem j_459_m31 : 0 ≤ ((459 : Nat) : Int) + (-31) ∧ (((459 : Nat) : Int) + (-31)).toNat = 428 := by decide
theorem j_465_m46 : 0 ≤ ((465 : Nat) : Int) + (-46) ∧ (((465 : Nat) : Int) + (-46)).toNat = 419 := by decide
theorem j_474_99 : 0 ≤ ((474 : Nat) : Int) + (99) ∧ (((474 : Nat) : Int) + (99)).toNat = 573 := by decide
theorem j_483_84 : 0 ≤ ((483 : Nat) : Int) + (84) ∧ (((483 : Nat) : Int) + (84)).toNat = 567 := by decide
theorem j_495_7 : 0 ≤ ((495 : Nat) : Int) + (7) ∧ (((495 : Nat) : Int) + (7)).toNat = 502 := by decide
theorem j_499_4 : 0 ≤ ((499 : Nat) : Int) + (4) ∧ (((499 : Nat) : Int) + (4)).toNat = 503 := by decide
theorem j_511_35 : 0 ≤ ((511 : Nat) : Int) + (35) ∧ (((511 : Nat) : Int) + (35)).toNat = 546 := by decide
theorem j_523_17 : 0 ≤ ((523 : Nat) : Int) + (17) ∧ (((523 : Nat) : Int) + (17)).toNat = 540 := by decide
theorem j_534_6 : 0 ≤ ((534 : Nat) : Int) + (6) ∧ (((534 : Nat) : Int) + (6)).toNat = 540 := by decide
theorem j_543_m35 : 0 ≤ ((543 : Nat) : Int) + (-35) ∧ (((543 : Nat) : Int) + (-35)).toNat = 508 := by decide
theorem j_556_5 : 0 ≤ ((556 : Nat) : Int) + (5) ∧ (((556 : Nat) : Int) + (5)).toNat = 561 := by decide
theorem j_564_m84 : 0 ≤ ((564 : Nat) : Int) + (-84) ∧ (((564 : Nat) : Int) + (-84)).toNat = 480 := by decide
theorem j_570_m99 : 0 ≤ ((570 : Nat) : Int) + (-99) ∧ (((570 : Nat) : Int) + (-99)).toNat = 471 := by decide
theorem j_585_31 : 0 ≤ ((585 : Nat) : Int) + (31) ∧ (((585 : Nat) : Int) + (31)).toNat = 616 := by decide
theorem j_613_m31 : 0 ≤ ((613 : Nat) : Int) + (-31) ∧ (((613 : Nat) : Int) + (-31)).toNat = 582 := by decide
theorem j_626_10 : 0 ≤ ((626 : Nat) : Int) + (10) ∧ (((626 : Nat) : Int) + (10)).toNat = 636 := by decide
theorem j_633_5 : 0 ≤ ((633 : Nat) : Int) + (5) ∧ (((633 : Nat) : Int) + (5)).toNat = 638 := by decide
theorem j_640_68 : 0 ≤ ((640 : Nat) : Int) + (68) ∧ (((640 : Nat) : Int) + (68)).toNat = 708 := by decide
theorem j_645_63 : 0 ≤ ((645 : Nat) : Int) + (63) ∧ (((645 : Nat) : Int) + (63)).toNat = 708 := by decide
theorem j_683_5 : 0 ≤ ((683 : Nat) : Int) + (5) ∧ (((683 : Nat) : Int) + (5)).toNat = 688 := by decide
theorem j_694_12 : 0 ≤ ((694 : Nat) : Int) + (12) ∧ (((694 : Nat) : Int) + (12)).toNat = 706 := by decide
theorem j_703_5 : 0 ≤ ((703 : Nat) : Int) + (5) ∧ (((703 : Nat) : Int) + (5)).toNat = 708 := by decide
theorem j_711_m656 : 0 ≤ ((711 : Nat) : Int) + (-656) ∧ (((711 : Nat) : Int) + (-656)).toNat = 55 := by decide
theorem lk_0_65 : LinkP PP "DredViewKeeper" 65 m2 := ⟨List.mem_of_getElem? (i := 56) rfl, List.mem_of_getElem? (i := 57) rfl, List.mem_of_getElem? (i := 58) rfl, List.mem_of_getElem? (i := 59) rfl, rfl, rfl⟩
theorem lk_0_69 : LinkP PP "DredViewKeeper" 69 m3 := ⟨List.mem_of_getElem? (i := 60) rfl, List.mem_of_getElem? (i := 61) rfl, List.mem_of_getElem? (i := 62) rfl, List.mem_of_getElem? (i := 63) rfl, rfl, rfl⟩
theorem lk_0_73 : LinkP PP "DredViewKeeper" 73 m9 := ⟨List.mem_of_getElem? (i := 112) rfl, List.mem_of_getElem? (i := 113) rfl, List.mem_of_getElem? (i := 114) rfl, List.mem_of_getElem? (i := 115) rfl, rfl, rfl⟩
theorem lk_0_76 : LinkP PP "DredViewKeeper" 76 m17 := ⟨List.mem_of_getElem? (i := 116) rfl, List.mem_of_getElem? (i := 117) rfl, List.mem_of_getElem? (i := 118) rfl, List.mem_of_getElem? (i := 119) rfl, rfl, rfl⟩
theorem lk_0_80 : LinkP PP "DredViewKeeper" 80 m19 := ⟨List.mem_of_getElem? (i := 148) rfl, List.mem_of_getElem? (i := 149) rfl, List.mem_of_getElem? (i := 150) rfl, List.mem_of_getElem? (i := 151) rfl, rfl, rfl⟩
theorem lk_0_84 : LinkP PP "DredViewKeeper" 84 m28 := ⟨List.mem_of_getElem? (i := 175) rfl, List.mem_of_getElem? (i := 176) rfl, List.mem_of_getElem? (i := 177) rfl, List.mem_of_getElem? (i := 178) rfl, rfl, rfl⟩
theorem lk_0_87 : LinkP PP "DredViewKeeper" 87 m29 := ⟨List.mem_of_getElem? (i := 207) rfl, List.mem_of_getElem? (i := 208) rfl, List.mem_of_getElem? (i := 209) rfl, List.mem_of_getElem? (i := 210) rfl, rfl, rfl⟩
theorem lk_0_90 : LinkP PP "DredViewKeeper" 90 m31 := ⟨List.mem_of_getElem? (i := 226) rfl, List.mem_of_getElem? (i := 227) rfl, List.mem_of_getElem? (i := 228) rfl, List.mem_of_getElem? (i := 229) rfl, rfl, rfl⟩
theorem lk_0_94 : LinkP PP "DredViewKeeper" 94 m34 := ⟨List.mem_of_getElem? (i := 235) rfl, List.mem_of_getElem? (i := 236) rfl, List.mem_of_getElem? (i := 237) rfl, List.mem_of_getElem? (i := 238) rfl, rfl, rfl⟩
theorem lk_0_98 : LinkP PP "DredViewKeeper" 98 m37 := ⟨List.mem_of_getElem? (i := 75) rfl, List.mem_of_getElem? (i := 76) rfl, List.mem_of_getElem? (i := 77) rfl, List.mem_of_getElem? (i := 78) rfl, rfl, rfl⟩
theorem lk_0_101 : LinkP PP "DredViewKeeper" 101 m18 := ⟨List.mem_of_getElem? (i := 89) rfl, List.mem_of_getElem? (i := 90) rfl, List.mem_of_getElem? (i := 91) rfl, List.mem_of_getElem? (i := 92) rfl, rfl, rfl⟩
theorem lk_0_105 : LinkP PP "DredViewKeeper" 105 m10 := ⟨List.mem_of_getElem? (i := 120) rfl, List.mem_of_getElem? (i := 121) rfl, List.mem_of_getElem? (i := 122) rfl, List.mem_of_getElem? (i := 123) rfl, rfl, rfl⟩
theorem lk_0_108 : LinkP PP "DredViewKeeper" 108 m11 := ⟨List.mem_of_getElem? (i := 124) rfl, List.mem_of_getElem? (i := 125) rfl, List.mem_of_getElem? (i := 126) rfl, List.mem_of_getElem? (i := 127) rfl, rfl, rfl⟩
theorem lk_0_111 : LinkP PP "DredViewKeeper" 111 m16 := ⟨List.mem_of_getElem? (i := 128) rfl, List.mem_of_getElem? (i := 129) rfl, List.mem_of_getElem? (i := 130) rfl, List.mem_of_getElem? (i := 131) rfl, rfl, rfl⟩
theorem lk_0_114 : LinkP PP "DredViewKeeper" 114 m12 := ⟨List.mem_of_getElem? (i := 132) rfl, List.mem_of_getElem? (i := 133) rfl, List.mem_of_getElem? (i := 134) rfl, List.mem_of_getElem? (i := 135) rfl, rfl, rfl⟩
theorem lk_0_118 : LinkP PP "DredViewKeeper" 118 m14 := ⟨List.mem_of_getElem? (i := 136) rfl, List.mem_of_getElem? (i := 137) rfl, List.mem_of_getElem? (i := 138) rfl, List.mem_of_getElem? (i := 139) rfl, rfl, rfl⟩
theorem lk_0_121 : LinkP PP "DredViewKeeper" 121 m15 := ⟨List.mem_of_getElem? (i := 144) rfl, List.mem_of_getElem? (i := 145) rfl, List.mem_of_getElem? (i := 146) rfl, List.mem_of_getElem? (i := 147) rfl, rfl, rfl⟩
theorem lk_0_124 : LinkP PP "DredViewKeeper" 124 m13 := ⟨List.mem_of_getElem? (i := 140) rfl, List.mem_of_getElem? (i := 141) rfl, List.mem_of_getElem? (i := 142) rfl, List.mem_of_getElem? (i := 143) rfl, rfl, rfl⟩
theorem lk_0_127 : LinkP PP "DredViewKeeper" 127 m24 := ⟨List.mem_of_getElem? (i := 179) rfl, List.mem_of_getElem? (i := 180) rfl, List.mem_of_getElem? (i := 181) rfl, List.mem_of_getElem? (i := 182) rfl, rfl, rfl⟩
theorem lk_0_130 : LinkP PP "DredViewKeeper" 130 m25 := ⟨List.mem_of_getElem? (i := 195) rfl, List.mem_of_getElem? (i := 196) rfl, List.mem_of_getElem? (i := 197) rfl, List.mem_of_getElem? (i := 198) rfl, rfl, rfl⟩
theorem lk_0_133 : LinkP PP "DredViewKeeper" 133 m27 := ⟨List.mem_of_getElem? (i := 199) rfl, List.mem_of_getElem? (i := 200) rfl, List.mem_of_getElem? (i := 201) rfl, List.mem_of_getElem? (i := 202) rfl, rfl, rfl⟩
theorem lk_0_136 : LinkP PP "DredViewKeeper" 136 m21 := ⟨List.mem_of_getElem? (i := 183) rfl, List.mem_of_getElem? (i := 184) rfl, List.mem_of_getElem? (i := 185) rfl, List.mem_of_getElem? (i := 186) rfl, rfl, rfl⟩
theorem lk_0_139 : LinkP PP "DredViewKeeper" 139 m22 := ⟨List.mem_of_getElem? (i := 187) rfl, List.mem_of_getElem? (i := 188) rfl, List.mem_of_getElem? (i := 189) rfl, List.mem_of_getElem? (i := 190) rfl, rfl, rfl⟩
theorem lk_0_142 : LinkP PP "DredViewKeeper" 142 m23 := ⟨List.mem_of_getElem? (i := 191) rfl, List.mem_of_getElem? (i := 192) rfl, List.mem_of_getElem? (i := 193) rfl, List.mem_of_getElem? (i := 194) rfl, rfl, rfl⟩
theorem lk_0_145 : LinkP PP "DredViewKeeper" 145 m26 := ⟨List.mem_of_getElem? (i := 203) rfl, List.mem_of_getElem? (i := 204) rfl, List.mem_of_getElem? (i := 205) rfl, List.mem_of_getElem? (i := 206) rfl, rfl, rfl⟩
theorem lk_1_7 : LinkS PP "DredViewKeeperOwnLaw" 7 m5 := ⟨List.mem_of_getElem? (i := 67) rfl, List.mem_of_getElem? (i := 68) rfl, List.mem_of_getElem? (i := 2) rfl, List.mem_of_getElem? (i := 69) rfl, by decide⟩
theorem lk_1_15 : LinkS PP "DredViewKeeperOwnLaw" 15 m0 := ⟨List.mem_of_getElem? (i := 0) rfl, List.mem_of_getElem? (i := 1) rfl, List.mem_of_getElem? (i := 2) rfl, List.mem_of_getElem? (i := 3) rfl, by decide⟩
theorem lk_1_22 : LinkI PP "DredViewKeeperOwnLaw" 22 m1 := ⟨List.mem_of_getElem? (i := 8) rfl, List.mem_of_getElem? (i := 9) rfl, List.mem_of_getElem? (i := 10) rfl, rfl, rfl, rfl, rfl⟩
theorem lk_1_25 : LinkV PP "DredViewKeeperOwnLaw" 25 m4 := ⟨List.mem_of_getElem? (i := 51) rfl, List.mem_of_getElem? (i := 52) rfl, List.mem_of_getElem? (i := 54) rfl, List.mem_of_getElem? (i := 53) rfl, List.mem_of_getElem? (i := 55) rfl, rfl, rfl⟩
theorem lk_1_29 : LinkS PP "DredViewKeeperOwnLaw" 29 m6 := ⟨List.mem_of_getElem? (i := 64) rfl, List.mem_of_getElem? (i := 65) rfl, List.mem_of_getElem? (i := 2) rfl, List.mem_of_getElem? (i := 66) rfl, by decide⟩
theorem lk_1_33 : LinkS PP "DredViewKeeperOwnLaw" 33 m7 := ⟨List.mem_of_getElem? (i := 154) rfl, List.mem_of_getElem? (i := 155) rfl, List.mem_of_getElem? (i := 2) rfl, List.mem_of_getElem? (i := 156) rfl, by decide⟩
theorem lk_1_37 : LinkS PP "DredViewKeeperOwnLaw" 37 m8 := ⟨List.mem_of_getElem? (i := 167) rfl, List.mem_of_getElem? (i := 168) rfl, List.mem_of_getElem? (i := 2) rfl, List.mem_of_getElem? (i := 169) rfl, by decide⟩
theorem lk_1_41 : LinkV PP "DredViewKeeperOwnLaw" 41 m20 := ⟨List.mem_of_getElem? (i := 107) rfl, List.mem_of_getElem? (i := 108) rfl, List.mem_of_getElem? (i := 110) rfl, List.mem_of_getElem? (i := 109) rfl, List.mem_of_getElem? (i := 111) rfl, rfl, rfl⟩
theorem lk_1_45 : LinkV PP "DredViewKeeperOwnLaw" 45 m30 := ⟨List.mem_of_getElem? (i := 170) rfl, List.mem_of_getElem? (i := 171) rfl, List.mem_of_getElem? (i := 173) rfl, List.mem_of_getElem? (i := 172) rfl, List.mem_of_getElem? (i := 174) rfl, rfl, rfl⟩
theorem lk_1_48 : LinkV PP "DredViewKeeperOwnLaw" 48 m32 := ⟨List.mem_of_getElem? (i := 230) rfl, List.mem_of_getElem? (i := 231) rfl, List.mem_of_getElem? (i := 233) rfl, List.mem_of_getElem? (i := 232) rfl, List.mem_of_getElem? (i := 234) rfl, rfl, rfl⟩
theorem lk_1_51 : LinkV PP "DredViewKeeperOwnLaw" 51 m33 := ⟨List.mem_of_getElem? (i := 221) rfl, List.mem_of_getElem? (i := 222) rfl, List.mem_of_getElem? (i := 224) rfl, List.mem_of_getElem? (i := 223) rfl, List.mem_of_getElem? (i := 225) rfl, rfl, rfl⟩
theorem lk_1_54 : LinkV PP "DredViewKeeperOwnLaw" 54 m35 := ⟨List.mem_of_getElem? (i := 216) rfl, List.mem_of_getElem? (i := 217) rfl, List.mem_of_getElem? (i := 219) rfl, List.mem_of_getElem? (i := 218) rfl, List.mem_of_getElem? (i := 220) rfl, rfl, rfl⟩
theorem lk_1_58 : LinkV PP "DredViewKeeperOwnLaw" 58 m36 := ⟨List.mem_of_getElem? (i := 211) rfl, List.mem_of_getElem? (i := 212) rfl, List.mem_of_getElem? (i := 214) rfl, List.mem_of_getElem? (i := 213) rfl, List.mem_of_getElem? (i := 215) rfl, rfl, rfl⟩
theorem lk_1_61 : LinkV PP "DredViewKeeperOwnLaw" 61 m38 := ⟨List.mem_of_getElem? (i := 70) rfl, List.mem_of_getElem? (i := 71) rfl, List.mem_of_getElem? (i := 73) rfl, List.mem_of_getElem? (i := 72) rfl, List.mem_of_getElem? (i := 74) rfl, rfl, rfl⟩
theorem lk_1_64 : LinkV PP "DredViewKeeperOwnLaw" 64 m39 := ⟨List.mem_of_getElem? (i := 79) rfl, List.mem_of_getElem? (i := 80) rfl, List.mem_of_getElem? (i := 82) rfl, List.mem_of_getElem? (i := 81) rfl, List.mem_of_getElem? (i := 83) rfl, rfl, rfl⟩
theorem lk_1_67 : LinkV PP "DredViewKeeperOwnLaw" 67 m40 := ⟨List.mem_of_getElem? (i := 84) rfl, List.mem_of_getElem? (i := 85) rfl, List.mem_of_getElem? (i := 87) rfl, List.mem_of_getElem? (i := 86) rfl, List.mem_of_getElem? (i := 88) rfl, rfl, rfl⟩
theorem lk_1_71 : LinkV PP "DredViewKeeperOwnLaw" 71 m41 := ⟨List.mem_of_getElem? (i := 97) rfl, List.mem_of_getElem? (i := 98) rfl, List.mem_of_getElem? (i := 100) rfl, List.mem_of_getElem? (i := 99) rfl, List.mem_of_getElem? (i := 101) rfl, rfl, rfl⟩
theorem lk_1_74 : LinkV PP "DredViewKeeperOwnLaw" 74 m42 := ⟨List.mem_of_getElem? (i := 102) rfl, List.mem_of_getElem? (i := 103) rfl, List.mem_of_getElem? (i := 105) rfl, List.mem_of_getElem? (i := 104) rfl, List.mem_of_getElem? (i := 106) rfl, rfl, rfl⟩
theorem lk_1_79 : LinkV PP "DredViewKeeperOwnLaw" 79 m43 := ⟨List.mem_of_getElem? (i := 157) rfl, List.mem_of_getElem? (i := 158) rfl, List.mem_of_getElem? (i := 160) rfl, List.mem_of_getElem? (i := 159) rfl, List.mem_of_getElem? (i := 161) rfl, rfl, rfl⟩
theorem lk_1_82 : LinkV PP "DredViewKeeperOwnLaw" 82 m44 := ⟨List.mem_of_getElem? (i := 162) rfl, List.mem_of_getElem? (i := 163) rfl, List.mem_of_getElem? (i := 165) rfl, List.mem_of_getElem? (i := 164) rfl, List.mem_of_getElem? (i := 166) rfl, rfl, rfl⟩
theorem facts1 {Z : State} {a0 : Array Value} (hw : ∀ d ∈ tables_1, d.before a0 Z = true) : Facts Z a0 ci1 := by
  refine ⟨hw _ (List.mem_of_getElem? (i := 6) rfl), hw _ (List.mem_of_getElem? (i := 7) rfl), ?_, ?_, by decide, ?_, by decide⟩
  · intro f x hx
    match f, hx with
    | 0, hx => cases hx; exact ⟨Or.inr (hw _ (List.mem_of_getElem? (i := 15) rfl)), by decide⟩
    | 1, hx => cases hx; exact ⟨Or.inr (hw _ (List.mem_of_getElem? (i := 17) rfl)), by decide⟩
    | 2, hx => cases hx; exact ⟨Or.inl (hw _ (List.mem_of_getElem? (i := 38) rfl)), by decide⟩
    | 3, hx => cases hx; exact ⟨Or.inl (hw _ (List.mem_of_getElem? (i := 40) rfl)), by decide⟩
    | 4, hx => cases hx; exact ⟨Or.inl (hw _ (List.mem_of_getElem? (i := 42) rfl)), by decide⟩
    | 5, hx => cases hx; exact ⟨Or.inl (hw _ (List.mem_of_getElem? (i := 44) rfl)), by decide⟩
    | 6, hx => cases hx; exact ⟨Or.inl (hw _ (List.mem_of_getElem? (i := 46) rfl)), by decide⟩
    | 7, hx => cases hx; exact ⟨Or.inl (hw _ (List.mem_of_getElem? (i := 48) rfl)), by decide⟩
    | 8, hx => cases hx; exact ⟨Or.inl (hw _ (List.mem_of_getElem? (i := 50) rfl)), by decide⟩
    | n + 9, hx => simp [cS, ci1] at hx
  · intro q x hx
    match q, hx with
    | 0, hx => cases hx; exact ⟨Or.inr (hw _ (List.mem_of_getElem? (i := 20) rfl)), by decide⟩
    | 1, hx => cases hx; exact ⟨Or.inr (hw _ (List.mem_of_getElem? (i := 22) rfl)), by decide⟩
    | 2, hx => cases hx; exact ⟨Or.inr (hw _ (List.mem_of_getElem? (i := 24) rfl)), by decide⟩
    | 3, hx => cases hx; exact ⟨Or.inr (hw _ (List.mem_of_getElem? (i := 26) rfl)), by decide⟩
    | 4, hx => cases hx; exact ⟨Or.inr (hw _ (List.mem_of_getElem? (i := 28) rfl)), by decide⟩
    | 5, hx => cases hx; exact ⟨Or.inr (hw _ (List.mem_of_getElem? (i := 30) rfl)), by decide⟩
    | 6, hx => cases hx; exact ⟨Or.inr (hw _ (List.mem_of_getElem? (i := 32) rfl)), by decide⟩
    | 7, hx => cases hx; exact ⟨Or.inr (hw _ (List.mem_of_getElem? (i := 34) rfl)), by decide⟩
    | 8, hx => cases hx; exact ⟨Or.inr (hw _ (List.mem_of_getElem? (i := 36) rfl)), by decide⟩
    | n + 9, hx => simp [cA, ci1] at hx
  · intro f x hx
    match f, hx with
    | 0, hx => cases hx; rfl
    | 1, hx => cases hx; rfl
    | 2, hx => cases hx; rfl
    | 3, hx => cases hx; rfl
    | 4, hx => cases hx; rfl
    | 5, hx => cases hx; rfl
    | 6, hx => cases hx; rfl
    | 7, hx => cases hx; rfl
    | 8, hx => cases hx; rfl
    | n + 9, hx => simp [cS, ci1] at hx
def k_init_129  (v3 : Int32) (v4 : Int32) (s : S) : Option S :=
  some (sI (sI (sI (sI (sI (sI (sI s 2 v3) 3 v4) 4 ((v3 * v3) + (2 : Int32))) 5 (0 : Int32)) 6 (0 : Int32)) 7 (0 : Int32)) 8 (0 : Int32))
def k_init_116  (v3 : Int32) (v4 : Int32) (s : S) : Option S :=
  k_init_129 v3 (if (256 : Int32) < v4 then (256 : Int32) else v4) s
def k_init_104  (v2 : Int32) (v3 : Int32) (s : S) : Option S :=
  k_init_116 v3 (if v2 < (1 : Int32) then (1 : Int32) else v2) s
def k_init_95  (v2 : Int32) (v3 : Int32) (s : S) : Option S :=
  k_init_104 v2 (if (32 : Int32) < v3 then (32 : Int32) else v3) s
def k_init  (v1 : Int32) (v2 : Int32)  : Option S :=
  k_init_95 v2 (if v1 < (2 : Int32) then (2 : Int32) else v1) (sA (sA (sA (sA (sA (sA (sA (sA (sA (sI (sI s0 0 (1 : Int32)) 1 (2 : Int32)) 0 (rep 32 0)) 1 (rep 32 0)) 2 (rep 32 0)) 3 (rep 32 0)) 4 (rep 32 0)) 5 (rep 32 0)) 6 (rep 16 0)) 7 (rep 16 0)) 8 (rep 16 0))
def k_isValid  (v1 : Int32) (s : S) : Int32 :=
  if v1 < 0 then
    (0 : Int32)
  else
    if v1 < (gI s 2) then
      (1 : Int32)
    else
      (0 : Int32)
def k_edgePresent  (v1 : Int32) (v2 : Int32) (s : S) : Option Int32 :=
  (ix (gA s 0) v1).bind fun a5 =>
  if ((XT.ushr a5 v2) &&& (1 : Int32)) = 0 then
    some (0 : Int32)
  else
    some (1 : Int32)
def k_hasEdge  (v1 : Int32) (v2 : Int32) (s : S) : Option Int32 :=
  if (k_isValid v1 s) = 0 then
    some (0 : Int32)
  else
    if (k_isValid v2 s) = 0 then
      some (0 : Int32)
    else
      (k_edgePresent v1 v2 s).bind fun r21 =>
      some (nar .boolean r21)
def k_takeSnapshot_2  : Nat → Int32 → S → Option S
  | 0, _, _ => none
  | n + 1, v1, s =>
    if v1 < (32 : Int32) then
      (ix (gA s 1) v1).bind fun a18 =>
      (Jvm.AM.st (gA s 2) v1 a18).bind fun a19 =>
      k_takeSnapshot_2 n (v1 + (1 : Int32)) (sA s 2 a19)
    else
      some s
def k_takeSnapshot   (s : S) : Option S :=
  k_takeSnapshot_2 BIG (0 : Int32) s
def k_bit  (v1 : Int32)  : Int32 :=
  (1 : Int32) <<< (v1 &&& 31)
def k_clearDelta_2  : Nat → Int32 → S → Option S
  | 0, _, _ => none
  | n + 1, v1, s =>
    if v1 < (32 : Int32) then
      (Jvm.AM.st (gA s 3) v1 (0 : Int32)).bind fun a14 =>
      (Jvm.AM.st (gA s 4) v1 (0 : Int32)).bind fun a21 =>
      k_clearDelta_2 n (v1 + (1 : Int32)) (sA (sA s 3 a14) 4 a21)
    else
      some s
def k_clearDelta   (s : S) : Option S :=
  k_clearDelta_2 BIG (0 : Int32) s
def k_mergeDeltaIntoReach_4  : Nat → Int32 → Int32 → S → Option (Int32 × S)
  | 0, _, _, _ => none
  | n + 1, v1, v2, s =>
    if v2 < (gI s 2) then
      (ix (gA s 3) v2).bind fun a17 =>
      if a17 = 0 then
        k_mergeDeltaIntoReach_4 n v1 (v2 + (1 : Int32)) s
      else
        (ix (gA s 1) v2).bind fun a33 =>
        (Jvm.AM.st (gA s 1) v2 (a33 ||| a17)).bind fun a36 =>
        k_mergeDeltaIntoReach_4 n (1 : Int32) (v2 + (1 : Int32)) (sA s 1 a36)
    else
      some (nar .boolean v1, s)
def k_mergeDeltaIntoReach   (s : S) : Option (Int32 × S) :=
  k_mergeDeltaIntoReach_4 BIG (0 : Int32) (0 : Int32) s
def k_gatherDelta_12  : Nat → Int32 → Int32 → Int32 → S → Option Int32
  | 0, _, _, _, _ => none
  | n + 1, v2, v3, v4, s =>
    if v4 < (gI s 2) then
      if ((XT.ushr v2 v4) &&& (1 : Int32)) = 0 then
        k_gatherDelta_12 n v2 v3 (v4 + (1 : Int32)) s
      else
        (ix (gA s 3) v4).bind fun a37 =>
        k_gatherDelta_12 n v2 (v3 ||| a37) (v4 + (1 : Int32)) s
    else
      some v3
def k_gatherDelta  (v1 : Int32) (s : S) : Option Int32 :=
  (ix (gA s 0) v1).bind fun a5 =>
  k_gatherDelta_12 BIG a5 (0 : Int32) (0 : Int32) s
def k_computeNextAdditions_2  : Nat → Int32 → S → Option S
  | 0, _, _ => none
  | n + 1, v1, s =>
    if v1 < (gI s 2) then
      (k_gatherDelta v1 s).bind fun r12 =>
      (ix (gA s 1) v1).bind fun a27 =>
      (Jvm.AM.st (gA s 4) v1 (r12 &&& (a27 ^^^ (-1 : Int32)))).bind fun a31 =>
      k_computeNextAdditions_2 n (v1 + (1 : Int32)) (sA s 4 a31)
    else
      some s
def k_computeNextAdditions   (s : S) : Option S :=
  k_computeNextAdditions_2 BIG (0 : Int32) s
def k_shiftDelta_2  : Nat → Int32 → S → Option S
  | 0, _, _ => none
  | n + 1, v1, s =>
    if v1 < (32 : Int32) then
      (ix (gA s 4) v1).bind fun a18 =>
      (Jvm.AM.st (gA s 3) v1 a18).bind fun a19 =>
      (Jvm.AM.st (gA s 4) v1 (0 : Int32)).bind fun a26 =>
      k_shiftDelta_2 n (v1 + (1 : Int32)) (sA (sA s 3 a19) 4 a26)
    else
      some s
def k_shiftDelta   (s : S) : Option S :=
  k_shiftDelta_2 BIG (0 : Int32) s
def k_propagateAdditions_2  : Nat → Int32 → S → Option S
  | 0, _, _ => none
  | n + 1, v1, s =>
    if v1 < (gI s 4) then
      (k_mergeDeltaIntoReach s).bind fun r11 =>
      if r11.1 = 0 then
        some r11.2
      else
        (k_computeNextAdditions r11.2).bind fun r19 =>
        (k_shiftDelta r19).bind fun r23 =>
        k_propagateAdditions_2 n (v1 + (1 : Int32)) r23
    else
      some s
def k_propagateAdditions   (s : S) : Option S :=
  k_propagateAdditions_2 BIG (0 : Int32) s
def k_addEdgeAndPropagate  (v1 : Int32) (v2 : Int32) (s : S) : Option S :=
  (ix (gA s 0) v1).bind fun a16 =>
  (Jvm.AM.st (gA s 0) v1 (a16 ||| (k_bit v2))).bind fun a19 =>
  (k_clearDelta (sI (sA s 0 a19) 5 ((gI s 5) + (1 : Int32)))).bind fun r31 =>
  (ix (gA r31 1) v2).bind fun a40 =>
  (ix (gA r31 1) v1).bind fun a56 =>
  (Jvm.AM.st (gA r31 3) v1 (((k_bit v2) ||| a40) &&& (a56 ^^^ (-1 : Int32)))).bind fun a60 =>
  (k_propagateAdditions (sA r31 3 a60)).bind fun r62 =>
  some r62
def k_popCount_30  (v2 : Int32)  : Int32 :=
  XT.ushr (v2 * (16843009 : Int32)) (24 : Int32)
def k_popCount  (v1 : Int32)  : Int32 :=
  k_popCount_30 (((((v1 - ((XT.ushr v1 (1 : Int32)) &&& (1431655765 : Int32))) &&& (858993459 : Int32)) + ((XT.ushr (v1 - ((XT.ushr v1 (1 : Int32)) &&& (1431655765 : Int32))) (2 : Int32)) &&& (858993459 : Int32))) + (XT.ushr (((v1 - ((XT.ushr v1 (1 : Int32)) &&& (1431655765 : Int32))) &&& (858993459 : Int32)) + ((XT.ushr (v1 - ((XT.ushr v1 (1 : Int32)) &&& (1431655765 : Int32))) (2 : Int32)) &&& (858993459 : Int32))) (4 : Int32))) &&& (252645135 : Int32))
def k_countAdded_4  : Nat → Int32 → Int32 → S → Option Int32
  | 0, _, _, _ => none
  | n + 1, v1, v2, s =>
    if v2 < (gI s 2) then
      (ix (gA s 1) v2).bind fun a19 =>
      (ix (gA s 2) v2).bind fun a25 =>
      k_countAdded_4 n (v1 + (k_popCount (a19 &&& (a25 ^^^ (-1 : Int32))))) (v2 + (1 : Int32)) s
    else
      some v1
def k_countAdded   (s : S) : Option Int32 :=
  k_countAdded_4 BIG (0 : Int32) (0 : Int32) s
def k_insertEdge  (v1 : Int32) (v2 : Int32) (s : S) : Option (Int32 × S) :=
  if (k_isValid v1 s) = 0 then
    some ((-1 : Int32), s)
  else
    if (k_isValid v2 s) = 0 then
      some ((-1 : Int32), s)
    else
      (k_edgePresent v1 v2 s).bind fun r21 =>
      if r21 = 0 then
        if (gI s 5) = (gI s 3) then
          some ((-4 : Int32), s)
        else
          (k_takeSnapshot s).bind fun r45 =>
          (k_addEdgeAndPropagate v1 v2 r45).bind fun r51 =>
          (k_countAdded r51).bind fun r56 =>
          some (r56, sI (sI r51 7 r56) 8 (0 : Int32))
      else
        some ((-2 : Int32), s)
def k_clearDoomed_2  : Nat → Int32 → S → Option S
  | 0, _, _ => none
  | n + 1, v1, s =>
    if v1 < (32 : Int32) then
      (Jvm.AM.st (gA s 5) v1 (0 : Int32)).bind fun a14 =>
      k_clearDoomed_2 n (v1 + (1 : Int32)) (sA s 5 a14)
    else
      some s
def k_clearDoomed   (s : S) : Option S :=
  k_clearDoomed_2 BIG (0 : Int32) s
def k_absorbDoomed_4  : Nat → Int32 → Int32 → S → Option (Int32 × S)
  | 0, _, _, _ => none
  | n + 1, v1, v2, s =>
    if v2 < (gI s 2) then
      (ix (gA s 3) v2).bind fun a17 =>
      if a17 = 0 then
        k_absorbDoomed_4 n v1 (v2 + (1 : Int32)) s
      else
        (ix (gA s 5) v2).bind fun a33 =>
        (Jvm.AM.st (gA s 5) v2 (a33 ||| a17)).bind fun a36 =>
        k_absorbDoomed_4 n (1 : Int32) (v2 + (1 : Int32)) (sA s 5 a36)
    else
      some (nar .boolean v1, s)
def k_absorbDoomed   (s : S) : Option (Int32 × S) :=
  k_absorbDoomed_4 BIG (0 : Int32) (0 : Int32) s
def k_computeNextDoomed_2  : Nat → Int32 → S → Option S
  | 0, _, _ => none
  | n + 1, v1, s =>
    if v1 < (gI s 2) then
      (k_gatherDelta v1 s).bind fun r12 =>
      (ix (gA s 1) v1).bind fun a27 =>
      (ix (gA s 5) v1).bind fun a34 =>
      (Jvm.AM.st (gA s 4) v1 ((r12 &&& a27) &&& (a34 ^^^ (-1 : Int32)))).bind fun a38 =>
      k_computeNextDoomed_2 n (v1 + (1 : Int32)) (sA s 4 a38)
    else
      some s
def k_computeNextDoomed   (s : S) : Option S :=
  k_computeNextDoomed_2 BIG (0 : Int32) s
def k_overDelete_42  : Nat → Int32 → S → Option S
  | 0, _, _ => none
  | n + 1, v5, s =>
    if v5 < (gI s 4) then
      (k_absorbDoomed s).bind fun r52 =>
      if r52.1 = 0 then
        some r52.2
      else
        (k_computeNextDoomed r52.2).bind fun r60 =>
        (k_shiftDelta r60).bind fun r64 =>
        k_overDelete_42 n (v5 + (1 : Int32)) r64
    else
      some s
def k_overDelete  (v1 : Int32) (v2 : Int32) (s : S) : Option S :=
  (k_clearDoomed s).bind fun r1 =>
  (k_clearDelta r1).bind fun r5 =>
  (ix (gA r5 1) v2).bind fun a20 =>
  (ix (gA r5 1) v1).bind fun a36 =>
  (Jvm.AM.st (gA r5 3) v1 (((k_bit v2) ||| a20) &&& a36)).bind fun a38 =>
  k_overDelete_42 BIG (0 : Int32) (sA r5 3 a38)
def k_dropDoomed_2  : Nat → Int32 → S → Option S
  | 0, _, _ => none
  | n + 1, v1, s =>
    if v1 < (gI s 2) then
      (ix (gA s 1) v1).bind fun a20 =>
      (ix (gA s 5) v1).bind fun a26 =>
      (Jvm.AM.st (gA s 1) v1 (a20 &&& (a26 ^^^ (-1 : Int32)))).bind fun a30 =>
      k_dropDoomed_2 n (v1 + (1 : Int32)) (sA s 1 a30)
    else
      some s
def k_dropDoomed   (s : S) : Option S :=
  k_dropDoomed_2 BIG (0 : Int32) s
def k_gatherReach_12  : Nat → Int32 → Int32 → Int32 → S → Option Int32
  | 0, _, _, _, _ => none
  | n + 1, v2, v3, v4, s =>
    if v4 < (gI s 2) then
      if ((XT.ushr v2 v4) &&& (1 : Int32)) = 0 then
        k_gatherReach_12 n v2 v3 (v4 + (1 : Int32)) s
      else
        (ix (gA s 1) v4).bind fun a37 =>
        k_gatherReach_12 n v2 (v3 ||| a37) (v4 + (1 : Int32)) s
    else
      some v3
def k_gatherReach  (v1 : Int32) (s : S) : Option Int32 :=
  (ix (gA s 0) v1).bind fun a5 =>
  k_gatherReach_12 BIG a5 (0 : Int32) (0 : Int32) s
def k_rederive_62   (s : S) : Option S :=
  (k_propagateAdditions s).bind fun r63 =>
  some r63
def k_rederive_6  : Nat → Int32 → S → Option S
  | 0, _, _ => none
  | n + 1, v1, s =>
    if v1 < (gI s 2) then
      (ix (gA s 5) v1).bind fun a19 =>
      if a19 = 0 then
        k_rederive_6 n (v1 + (1 : Int32)) s
      else
        (ix (gA s 0) v1).bind fun a30 =>
        (k_gatherReach v1 s).bind fun r33 =>
        (ix (gA s 1) v1).bind fun a51 =>
        (Jvm.AM.st (gA s 3) v1 ((a19 &&& (a30 ||| r33)) &&& (a51 ^^^ (-1 : Int32)))).bind fun a55 =>
        k_rederive_6 n (v1 + (1 : Int32)) (sA s 3 a55)
    else
      k_rederive_62 s
def k_rederive   (s : S) : Option S :=
  (k_clearDelta s).bind fun r1 =>
  k_rederive_6 BIG (0 : Int32) r1
def k_removeEdgeAndRederive  (v1 : Int32) (v2 : Int32) (s : S) : Option S :=
  (ix (gA s 0) v1).bind fun a16 =>
  (Jvm.AM.st (gA s 0) v1 (a16 &&& ((k_bit v2) ^^^ (-1 : Int32)))).bind fun a21 =>
  (k_overDelete v1 v2 (sI (sA s 0 a21) 5 ((gI s 5) - (1 : Int32)))).bind fun r35 =>
  (k_dropDoomed r35).bind fun r39 =>
  (k_rederive r39).bind fun r43 =>
  some r43
def k_countRemoved_4  : Nat → Int32 → Int32 → S → Option Int32
  | 0, _, _, _ => none
  | n + 1, v1, v2, s =>
    if v2 < (gI s 2) then
      (ix (gA s 2) v2).bind fun a19 =>
      (ix (gA s 1) v2).bind fun a25 =>
      k_countRemoved_4 n (v1 + (k_popCount (a19 &&& (a25 ^^^ (-1 : Int32))))) (v2 + (1 : Int32)) s
    else
      some v1
def k_countRemoved   (s : S) : Option Int32 :=
  k_countRemoved_4 BIG (0 : Int32) (0 : Int32) s
def k_deleteEdge  (v1 : Int32) (v2 : Int32) (s : S) : Option (Int32 × S) :=
  if (k_isValid v1 s) = 0 then
    some ((-1 : Int32), s)
  else
    if (k_isValid v2 s) = 0 then
      some ((-1 : Int32), s)
    else
      (k_edgePresent v1 v2 s).bind fun r21 =>
      if r21 = 0 then
        some ((-3 : Int32), s)
      else
        (k_takeSnapshot s).bind fun r31 =>
        (k_removeEdgeAndRederive v1 v2 r31).bind fun r37 =>
        (k_countRemoved r37).bind fun r42 =>
        some (r42, sI (sI r37 8 r42) 7 (0 : Int32))
def k_stage  (v1 : Int32) (v2 : Int32) (v3 : Int32) (s : S) : Option (Int32 × S) :=
  if (k_isValid v2 s) = 0 then
    some ((-1 : Int32), s)
  else
    if (k_isValid v3 s) = 0 then
      some ((-1 : Int32), s)
    else
      if (gI s 6) < (16 : Int32) then
        (Jvm.AM.st (gA s 6) (gI s 6) v1).bind fun a39 =>
        (Jvm.AM.st (gA s 7) (gI s 6) v2).bind fun a49 =>
        (Jvm.AM.st (gA s 8) (gI s 6) v3).bind fun a59 =>
        some (((gI s 6) + (1 : Int32)), sI (sA (sA (sA s 6 a39) 7 a49) 8 a59) 6 ((gI s 6) + (1 : Int32)))
      else
        some ((-5 : Int32), s)
def k_stageInsert  (v1 : Int32) (v2 : Int32) (s : S) : Option (Int32 × S) :=
  (k_stage (1 : Int32) v1 v2 s).bind fun r4 =>
  some (r4.1, r4.2)
def k_stageDelete  (v1 : Int32) (v2 : Int32) (s : S) : Option (Int32 × S) :=
  (k_stage (2 : Int32) v1 v2 s).bind fun r4 =>
  some (r4.1, r4.2)
def k_applyStaged  (v1 : Int32) (s : S) : Option S :=
  if v1 < 0 then
    some s
  else
    if v1 < (16 : Int32) then
      (ix (gA s 7) v1).bind fun a16 =>
      (ix (gA s 8) v1).bind fun a23 =>
      if (k_isValid a16 s) = 0 then
        some s
      else
        if (k_isValid a23 s) = 0 then
          some s
        else
          (k_edgePresent a16 a23 s).bind fun r45 =>
          (ix (gA s 6) v1).bind fun a55 =>
          if a55 = (1 : Int32) then
            if r45 = 0 then
              if (gI s 5) < (gI s 3) then
                (k_addEdgeAndPropagate a16 a23 s).bind fun r79 =>
                some r79
              else
                some s
            else
              some s
          else
            (ix (gA s 6) v1).bind fun a90 =>
            if a90 = (2 : Int32) then
              if r45 = 0 then
                some s
              else
                (k_removeEdgeAndRederive a16 a23 s).bind fun r103 =>
                some r103
            else
              some s
    else
      some s
def k_commit_31   (s : S) : Option (Int32 × S) :=
  (k_countAdded (sI s 6 (0 : Int32))).bind fun r38 =>
  (k_countRemoved (sI (sI s 6 (0 : Int32)) 7 r38)).bind fun r46 =>
  some (r38 + r46, sI (sI (sI s 6 (0 : Int32)) 7 r38) 8 r46)
def k_commit_6  : Nat → Int32 → S → Option (Int32 × S)
  | 0, _, _ => none
  | n + 1, v1, s =>
    if v1 < (gI s 6) then
      if v1 < (16 : Int32) then
        (k_applyStaged v1 s).bind fun r22 =>
        k_commit_6 n (v1 + (1 : Int32)) r22
      else
        k_commit_31 s
    else
      k_commit_31 s
def k_commit   (s : S) : Option (Int32 × S) :=
  (k_takeSnapshot s).bind fun r1 =>
  k_commit_6 BIG (0 : Int32) r1
def k_clearPending   (s : S) : Int32 × S :=
  (gI s 6, sI s 6 (0 : Int32))
def k_testBit  (v1 : Int32) (v2 : Int32)  : Int32 :=
  if ((XT.ushr v1 v2) &&& (1 : Int32)) = 0 then
    (0 : Int32)
  else
    (1 : Int32)
def k_reaches  (v1 : Int32) (v2 : Int32) (s : S) : Option Int32 :=
  if (k_isValid v1 s) = 0 then
    some (0 : Int32)
  else
    if (k_isValid v2 s) = 0 then
      some (0 : Int32)
    else
      (ix (gA s 1) v1).bind fun a24 =>
      some (nar .boolean (k_testBit a24 v2))
def k_derivationCount_43  : Nat → Int32 → Int32 → Int32 → Int32 → S → Option Int32
  | 0, _, _, _, _, _ => none
  | n + 1, v2, v3, v4, v5, s =>
    if v5 < (gI s 2) then
      if ((XT.ushr v3 v5) &&& (1 : Int32)) = 0 then
        k_derivationCount_43 n v2 v3 v4 (v5 + (1 : Int32)) s
      else
        (ix (gA s 1) v5).bind fun a67 =>
        k_derivationCount_43 n v2 v3 (if ((XT.ushr a67 v2) &&& (1 : Int32)) = 0 then v4 else v4 + (1 : Int32)) (v5 + (1 : Int32)) s
    else
      some v4
def k_derivationCount_40  (v2 : Int32) (v3 : Int32) (v4 : Int32) (s : S) : Option Int32 :=
  k_derivationCount_43 BIG v2 v3 v4 (0 : Int32) s
def k_derivationCount  (v1 : Int32) (v2 : Int32) (s : S) : Option Int32 :=
  if (k_isValid v1 s) = 0 then
    some (-1 : Int32)
  else
    if (k_isValid v2 s) = 0 then
      some (-1 : Int32)
    else
      (ix (gA s 0) v1).bind fun a23 =>
      k_derivationCount_40 v2 a23 (if (k_testBit a23 v2) = 0 then (0 : Int32) else (1 : Int32)) s
def k_reachCountFrom  (v1 : Int32) (s : S) : Option Int32 :=
  if (k_isValid v1 s) = 0 then
    some (-1 : Int32)
  else
    (ix (gA s 1) v1).bind fun a16 =>
    some (k_popCount a16)
def k_reachCountTo_14  : Nat → Int32 → Int32 → Int32 → S → Option Int32
  | 0, _, _, _, _ => none
  | n + 1, v1, v2, v3, s =>
    if v3 < (gI s 2) then
      (ix (gA s 1) v3).bind fun a27 =>
      k_reachCountTo_14 n v1 (if ((XT.ushr a27 v1) &&& (1 : Int32)) = 0 then v2 else v2 + (1 : Int32)) (v3 + (1 : Int32)) s
    else
      some v2
def k_reachCountTo  (v1 : Int32) (s : S) : Option Int32 :=
  if (k_isValid v1 s) = 0 then
    some (-1 : Int32)
  else
    k_reachCountTo_14 BIG v1 (0 : Int32) (0 : Int32) s
def k_viewSize_4  : Nat → Int32 → Int32 → S → Option Int32
  | 0, _, _, _ => none
  | n + 1, v1, v2, s =>
    if v2 < (gI s 2) then
      (ix (gA s 1) v2).bind fun a19 =>
      k_viewSize_4 n (v1 + (k_popCount a19)) (v2 + (1 : Int32)) s
    else
      some v1
def k_viewSize   (s : S) : Option Int32 :=
  k_viewSize_4 BIG (0 : Int32) (0 : Int32) s
def k_lastAdded   (s : S) : Int32 :=
  gI s 7
def k_lastRemoved   (s : S) : Int32 :=
  gI s 8
def h_cell  (v1 : Int32) (q : List Int32) : Option Int32 :=
  if v1 < q.length.toInt32 then
    (ix q v1).bind fun a8 =>
    some a8
  else
    some (0 : Int32)
def h_bit  (v0 : Int64) (v2 : Int32) (v3 : Int32)  : Int32 :=
  if ((XT.ushrL v0 ((v2 * (8 : Int32)) + v3)) &&& (1 : Int64)) = (0 : Int64) then
    (0 : Int32)
  else
    (1 : Int32)
def h_closure_78 (k5 : Int64 → Int32 → Int64 → Int32 → Option Int64) (v0 : Int64) (v2 : Int32) (v5 : Int32) (v6 : Int64)  : Option Int64 :=
  k5 v0 v2 v6 (v5 + (1 : Int32))
def h_closure_27 (k5 : Int64 → Int32 → Int64 → Int32 → Option Int64) (k18 : Int64 → Int32 → Int64 → Int32 → Int64 → Int32 → Option Int64) : Nat → Int64 → Int32 → Int64 → Int32 → Int64 → Int32 → Int32 → Option Int64
  | 0, _, _, _, _, _, _, _ => none
  | n + 1, v0, v2, v3, v5, v6, v8, v9 =>
    if v9 < v2 then
      h_closure_27 k5 k18 n v0 v2 v3 v5 (if (h_bit v0 v8 v9) = 0 then v6 else v6 ||| (((XT.ushrL v3 (v9 * (8 : Int32))) &&& (255 : Int64)) <<< ((v8 * (8 : Int32)).toInt64 &&& 63))) v8 (v9 + (1 : Int32))
    else
      k18 v0 v2 v3 v5 v6 (v8 + (1 : Int32))
def h_closure_18 (k5 : Int64 → Int32 → Int64 → Int32 → Option Int64) : Nat → Int64 → Int32 → Int64 → Int32 → Int64 → Int32 → Option Int64
  | 0, _, _, _, _, _, _ => none
  | n + 1, v0, v2, v3, v5, v6, v8 =>
    if v8 < v2 then
      h_closure_27 k5 (fun v0 v2 v3 v5 v6 v8 => h_closure_18 k5 n v0 v2 v3 v5 v6 v8) BIG v0 v2 v3 v5 v6 v8 (0 : Int32)
    else
      h_closure_78 k5 v0 v2 v5 v6
def h_closure_5  : Nat → Int64 → Int32 → Int64 → Int32 → Option Int64
  | 0, _, _, _, _ => none
  | n + 1, v0, v2, v3, v5 =>
    if v5 < (8 : Int32) then
      h_closure_18 (fun v0 v2 v3 v5 => h_closure_5 n v0 v2 v3 v5) BIG v0 v2 v3 v5 v0 (0 : Int32)
    else
      some v3
def h_closure  (v0 : Int64) (v2 : Int32)  : Option Int64 :=
  h_closure_5 BIG v0 v2 v0 (0 : Int32)
def h_pop_4  : Nat → Int64 → Int32 → Int32 → Option Int32
  | 0, _, _, _ => none
  | n + 1, v0, v2, v3 =>
    if v3 < (64 : Int32) then
      h_pop_4 n v0 (if ((XT.ushrL v0 v3) &&& (1 : Int64)) = (0 : Int64) then v2 else v2 + (1 : Int32)) (v3 + (1 : Int32))
    else
      some v2
def h_pop  (v0 : Int64)  : Option Int32 :=
  h_pop_4 BIG v0 (0 : Int32) (0 : Int32)
def h_nth_5  : Nat → Int64 → Int32 → Int32 → Int32 → Option Int32
  | 0, _, _, _, _ => none
  | n + 1, v0, v2, v3, v4 =>
    if v4 < (64 : Int32) then
      if ((XT.ushrL v0 v4) &&& (1 : Int64)) = (0 : Int64) then
        h_nth_5 n v0 v2 v3 (v4 + (1 : Int32))
      else
        if v3 = v2 then
          some v4
        else
          h_nth_5 n v0 v2 (v3 + (1 : Int32)) (v4 + (1 : Int32))
    else
      some (-1 : Int32)
def h_nth  (v0 : Int64) (v2 : Int32)  : Option Int32 :=
  h_nth_5 BIG v0 v2 (0 : Int32) (0 : Int32)
def law_616 (k55 : Int32 → Int32 → Int32 → List Int32 → S → Option (Int32 × S)) (v1 : Int32) (v4 : Int32) (v5 : Int32) (v8 : Int64) (v10 : Int32) (v11 : Int32) (v14 : Int64) (v16 : Int32) (v17 : Int32) (q : List Int32) (t0 : S) : Option (Int32 × S) :=
  (k_viewSize t0).bind fun r617 =>
  if r617 = v16 then
    if r617 = v17 then
      if v10 = 0 then
        k55 v1 v4 (v5 + (1 : Int32)) q t0
      else
        if v11 < 0 then
          k55 v1 v4 (v5 + (1 : Int32)) q t0
        else
          (h_pop (v14 &&& (v8 ^^^ (-1 : Int64)))).bind fun r657 =>
          (h_pop (v8 &&& (v14 ^^^ (-1 : Int64)))).bind fun r671 =>
          if v11 = (r657 + r671) then
            if (k_lastAdded t0) = r657 then
              if (k_lastRemoved t0) = r671 then
                k55 v1 v4 (v5 + (1 : Int32)) q t0
              else
                some ((0 : Int32), t0)
            else
              some ((0 : Int32), t0)
          else
            some ((0 : Int32), t0)
    else
      some ((0 : Int32), t0)
  else
    some ((0 : Int32), t0)
def law_582 (k55 : Int32 → Int32 → Int32 → List Int32 → S → Option (Int32 × S)) : Nat → Int32 → Int32 → Int32 → Int64 → Int32 → Int32 → Int64 → Int32 → Int32 → Int32 → List Int32 → S → Option (Int32 × S)
  | 0, _, _, _, _, _, _, _, _, _, _, _, _ => none
  | n + 1, v1, v4, v5, v8, v10, v11, v14, v16, v17, v18, q, t0 =>
    if v18 < v1 then
      (k_reachCountFrom v18 t0).bind fun r593 =>
      (k_reachCountTo v18 t0).bind fun r604 =>
      law_582 k55 n v1 v4 v5 v8 v10 v11 v14 (v16 + r593) (v17 + r604) (v18 + (1 : Int32)) q t0
    else
      law_616 k55 v1 v4 v5 v8 v10 v11 v14 v16 v17 q t0
def law_573 (k55 : Int32 → Int32 → Int32 → List Int32 → S → Option (Int32 × S)) (v1 : Int32) (v4 : Int32) (v5 : Int32) (v8 : Int64) (v10 : Int32) (v11 : Int32) (v14 : Int64) (q : List Int32) (t0 : S) : Option (Int32 × S) :=
  law_582 k55 BIG v1 v4 v5 v8 v10 v11 v14 (0 : Int32) (0 : Int32) (0 : Int32) q t0
def law_546 (k55 : Int32 → Int32 → Int32 → List Int32 → S → Option (Int32 × S)) (k471 : Int32 → Int32 → Int32 → Int64 → Int32 → Int32 → Int64 → Int64 → Int32 → List Int32 → S → Option (Int32 × S)) (k480 : Int32 → Int32 → Int32 → Int64 → Int32 → Int32 → Int64 → Int64 → Int32 → Int32 → List Int32 → S → Option (Int32 × S)) (v1 : Int32) (v4 : Int32) (v5 : Int32) (v8 : Int64) (v10 : Int32) (v11 : Int32) (v12 : Int64) (v14 : Int64) (v16 : Int32) (v17 : Int32) (v18 : Int32) (q : List Int32) (t0 : S) : Option (Int32 × S) :=
  (k_derivationCount v16 v17 t0).bind fun r551 =>
  if r551 = v18 then
    k480 v1 v4 v5 v8 v10 v11 v12 v14 v16 (v17 + (1 : Int32)) q t0
  else
    some ((0 : Int32), t0)
def law_508 (k55 : Int32 → Int32 → Int32 → List Int32 → S → Option (Int32 × S)) (k471 : Int32 → Int32 → Int32 → Int64 → Int32 → Int32 → Int64 → Int64 → Int32 → List Int32 → S → Option (Int32 × S)) (k480 : Int32 → Int32 → Int32 → Int64 → Int32 → Int32 → Int64 → Int64 → Int32 → Int32 → List Int32 → S → Option (Int32 × S)) : Nat → Int32 → Int32 → Int32 → Int64 → Int32 → Int32 → Int64 → Int64 → Int32 → Int32 → Int32 → Int32 → List Int32 → S → Option (Int32 × S)
  | 0, _, _, _, _, _, _, _, _, _, _, _, _, _, _ => none
  | n + 1, v1, v4, v5, v8, v10, v11, v12, v14, v16, v17, v18, v19, q, t0 =>
    if v19 < v1 then
      if (h_bit v12 v16 v19) = 0 then
        law_508 k55 k471 k480 n v1 v4 v5 v8 v10 v11 v12 v14 v16 v17 v18 (v19 + (1 : Int32)) q t0
      else
        (k_reaches v19 v17 t0).bind fun r531 =>
        law_508 k55 k471 k480 n v1 v4 v5 v8 v10 v11 v12 v14 v16 v17 (if r531 = 0 then v18 else v18 + (1 : Int32)) (v19 + (1 : Int32)) q t0
    else
      law_546 k55 k471 k480 v1 v4 v5 v8 v10 v11 v12 v14 v16 v17 v18 q t0
def law_503 (k55 : Int32 → Int32 → Int32 → List Int32 → S → Option (Int32 × S)) (k471 : Int32 → Int32 → Int32 → Int64 → Int32 → Int32 → Int64 → Int64 → Int32 → List Int32 → S → Option (Int32 × S)) (k480 : Int32 → Int32 → Int32 → Int64 → Int32 → Int32 → Int64 → Int64 → Int32 → Int32 → List Int32 → S → Option (Int32 × S)) (v1 : Int32) (v4 : Int32) (v5 : Int32) (v8 : Int64) (v10 : Int32) (v11 : Int32) (v12 : Int64) (v14 : Int64) (v16 : Int32) (v17 : Int32) (p0 : Int32) (q : List Int32) (t0 : S) : Option (Int32 × S) :=
  law_508 k55 k471 k480 BIG v1 v4 v5 v8 v10 v11 v12 v14 v16 v17 p0 (0 : Int32) q t0
def law_480 (k55 : Int32 → Int32 → Int32 → List Int32 → S → Option (Int32 × S)) (k471 : Int32 → Int32 → Int32 → Int64 → Int32 → Int32 → Int64 → Int64 → Int32 → List Int32 → S → Option (Int32 × S)) : Nat → Int32 → Int32 → Int32 → Int64 → Int32 → Int32 → Int64 → Int64 → Int32 → Int32 → List Int32 → S → Option (Int32 × S)
  | 0, _, _, _, _, _, _, _, _, _, _, _, _ => none
  | n + 1, v1, v4, v5, v8, v10, v11, v12, v14, v16, v17, q, t0 =>
    if v17 < v1 then
      law_503 k55 k471 (fun v1 v4 v5 v8 v10 v11 v12 v14 v16 v17 q t0 => law_480 k55 k471 n v1 v4 v5 v8 v10 v11 v12 v14 v16 v17 q t0) v1 v4 v5 v8 v10 v11 v12 v14 v16 v17 (if (h_bit v12 v16 v17) = 0 then (0 : Int32) else (1 : Int32)) q t0
    else
      k471 v1 v4 v5 v8 v10 v11 v12 v14 (v16 + (1 : Int32)) q t0
def law_471 (k55 : Int32 → Int32 → Int32 → List Int32 → S → Option (Int32 × S)) : Nat → Int32 → Int32 → Int32 → Int64 → Int32 → Int32 → Int64 → Int64 → Int32 → List Int32 → S → Option (Int32 × S)
  | 0, _, _, _, _, _, _, _, _, _, _, _ => none
  | n + 1, v1, v4, v5, v8, v10, v11, v12, v14, v16, q, t0 =>
    if v16 < v1 then
      law_480 k55 (fun v1 v4 v5 v8 v10 v11 v12 v14 v16 q t0 => law_471 k55 n v1 v4 v5 v8 v10 v11 v12 v14 v16 q t0) BIG v1 v4 v5 v8 v10 v11 v12 v14 v16 (0 : Int32) q t0
    else
      law_573 k55 v1 v4 v5 v8 v10 v11 v14 q t0
def law_468 (k55 : Int32 → Int32 → Int32 → List Int32 → S → Option (Int32 × S)) (v1 : Int32) (v4 : Int32) (v5 : Int32) (v8 : Int64) (v10 : Int32) (v11 : Int32) (v12 : Int64) (v14 : Int64) (q : List Int32) (t0 : S) : Option (Int32 × S) :=
  law_471 k55 BIG v1 v4 v5 v8 v10 v11 v12 v14 (0 : Int32) q t0
def law_428 (k55 : Int32 → Int32 → Int32 → List Int32 → S → Option (Int32 × S)) (k419 : Int32 → Int32 → Int32 → Int64 → Int32 → Int32 → Int64 → Int64 → Int32 → List Int32 → S → Option (Int32 × S)) : Nat → Int32 → Int32 → Int32 → Int64 → Int32 → Int32 → Int64 → Int64 → Int32 → Int32 → List Int32 → S → Option (Int32 × S)
  | 0, _, _, _, _, _, _, _, _, _, _, _, _ => none
  | n + 1, v1, v4, v5, v8, v10, v11, v12, v14, v16, v17, q, t0 =>
    if v17 < v1 then
      (k_reaches v16 v17 t0).bind fun r439 =>
      if r439 = (h_bit v14 v16 v17) then
        law_428 k55 k419 n v1 v4 v5 v8 v10 v11 v12 v14 v16 (v17 + (1 : Int32)) q t0
      else
        some ((0 : Int32), t0)
    else
      k419 v1 v4 v5 v8 v10 v11 v12 v14 (v16 + (1 : Int32)) q t0
def law_419 (k55 : Int32 → Int32 → Int32 → List Int32 → S → Option (Int32 × S)) : Nat → Int32 → Int32 → Int32 → Int64 → Int32 → Int32 → Int64 → Int64 → Int32 → List Int32 → S → Option (Int32 × S)
  | 0, _, _, _, _, _, _, _, _, _, _, _ => none
  | n + 1, v1, v4, v5, v8, v10, v11, v12, v14, v16, q, t0 =>
    if v16 < v1 then
      law_428 k55 (fun v1 v4 v5 v8 v10 v11 v12 v14 v16 q t0 => law_419 k55 n v1 v4 v5 v8 v10 v11 v12 v14 v16 q t0) BIG v1 v4 v5 v8 v10 v11 v12 v14 v16 (0 : Int32) q t0
    else
      law_468 k55 v1 v4 v5 v8 v10 v11 v12 v14 q t0
def law_408 (k55 : Int32 → Int32 → Int32 → List Int32 → S → Option (Int32 × S)) (v1 : Int32) (v4 : Int32) (v5 : Int32) (v8 : Int64) (v10 : Int32) (v11 : Int32) (v12 : Int64) (q : List Int32) (t0 : S) : Option (Int32 × S) :=
  (h_closure v12 v1).bind fun r411 =>
  law_419 k55 BIG v1 v4 v5 v8 v10 v11 v12 r411 (0 : Int32) q t0
def law_364 (k55 : Int32 → Int32 → Int32 → List Int32 → S → Option (Int32 × S)) (k355 : Int32 → Int32 → Int32 → Int64 → Int32 → Int32 → Int64 → Int32 → List Int32 → S → Option (Int32 × S)) : Nat → Int32 → Int32 → Int32 → Int64 → Int32 → Int32 → Int64 → Int32 → Int32 → List Int32 → S → Option (Int32 × S)
  | 0, _, _, _, _, _, _, _, _, _, _, _ => none
  | n + 1, v1, v4, v5, v8, v10, v11, v12, v14, v15, q, t0 =>
    if v15 < v1 then
      (k_hasEdge v14 v15 t0).bind fun r375 =>
      law_364 k55 k355 n v1 v4 v5 v8 v10 v11 (if r375 = 0 then v12 else v12 ||| ((1 : Int64) <<< (((v14 * (8 : Int32)) + v15).toInt64 &&& 63))) v14 (v15 + (1 : Int32)) q t0
    else
      k355 v1 v4 v5 v8 v10 v11 v12 (v14 + (1 : Int32)) q t0
def law_355 (k55 : Int32 → Int32 → Int32 → List Int32 → S → Option (Int32 × S)) : Nat → Int32 → Int32 → Int32 → Int64 → Int32 → Int32 → Int64 → Int32 → List Int32 → S → Option (Int32 × S)
  | 0, _, _, _, _, _, _, _, _, _, _ => none
  | n + 1, v1, v4, v5, v8, v10, v11, v12, v14, q, t0 =>
    if v14 < v1 then
      law_364 k55 (fun v1 v4 v5 v8 v10 v11 v12 v14 q t0 => law_355 k55 n v1 v4 v5 v8 v10 v11 v12 v14 q t0) BIG v1 v4 v5 v8 v10 v11 v12 v14 (0 : Int32) q t0
    else
      law_408 k55 v1 v4 v5 v8 v10 v11 v12 q t0
def law_349 (k55 : Int32 → Int32 → Int32 → List Int32 → S → Option (Int32 × S)) (v1 : Int32) (v4 : Int32) (v5 : Int32) (v8 : Int64) (v10 : Int32) (v11 : Int32) (q : List Int32) (t0 : S) : Option (Int32 × S) :=
  law_355 k55 BIG v1 v4 v5 v8 v10 v11 (0 : Int64) (0 : Int32) q t0
def law_245 (k55 : Int32 → Int32 → Int32 → List Int32 → S → Option (Int32 × S)) (v1 : Int32) (v4 : Int32) (v5 : Int32) (v8 : Int64) (v10 : Int32) (v11 : Int32) (v13 : Int32) (v14 : Int32) (v15 : Int32) (q : List Int32) (t0 : S) : Option (Int32 × S) :=
  if (2 : Int32) < v13 then
    if v13 = (3 : Int32) then
      (k_deleteEdge v14 v15 t0).bind fun r278 =>
      law_349 k55 v1 v4 v5 v8 (2 : Int32) r278.1 q r278.2
    else
      if v13 = (4 : Int32) then
        (k_stageInsert v14 v15 t0).bind fun r300 =>
        law_349 k55 v1 v4 v5 v8 v10 v11 q r300.2
      else
        if v13 = (5 : Int32) then
          (k_stageDelete v14 v15 t0).bind fun r318 =>
          law_349 k55 v1 v4 v5 v8 v10 v11 q r318.2
        else
          if v13 = (6 : Int32) then
            (k_commit t0).bind fun r333 =>
            law_349 k55 v1 v4 v5 v8 (3 : Int32) r333.1 q r333.2
          else
            law_349 k55 v1 v4 v5 v8 v10 v11 q ((k_clearPending t0).2)
  else
    (k_insertEdge v14 v15 t0).bind fun r256 =>
    law_349 k55 v1 v4 v5 v8 (1 : Int32) r256.1 q r256.2
def law_208 (k55 : Int32 → Int32 → Int32 → List Int32 → S → Option (Int32 × S)) (v1 : Int32) (v4 : Int32) (v5 : Int32) (v6 : Int64) (v8 : Int64) (v10 : Int32) (v11 : Int32) (v13 : Int32) (v14 : Int32) (v15 : Int32) (v16 : Int32) (q : List Int32) (t0 : S) : Option (Int32 × S) :=
  (h_pop v6).bind fun r210 =>
  if 0 < r210 then
    (h_pop v6).bind fun r222 =>
    if r222 = 0 then none else
    (h_nth v6 (v16 % r222)).bind fun r226 =>
    law_245 k55 v1 v4 v5 v8 v10 v11 v13 (r226 / (8 : Int32)) (r226 % (8 : Int32)) q t0
  else
    law_245 k55 v1 v4 v5 v8 v10 v11 v13 v14 v15 q t0
def law_121 (k55 : Int32 → Int32 → Int32 → List Int32 → S → Option (Int32 × S)) (v1 : Int32) (v4 : Int32) (v5 : Int32) (v6 : Int64) (q : List Int32) (t0 : S) : Option (Int32 × S) :=
  (h_closure v6 v1).bind fun r124 =>
  if 0 < v5 then
    (h_cell (v5 + (1 : Int32)) q).bind fun r145 =>
    if v1 = 0 then none else
    if v1 = 0 then none else
    if ((r145 &&& (2147483647 : Int32)) &&& (7 : Int32)) = (3 : Int32) then
      law_208 k55 v1 v4 v5 v6 r124 (0 : Int32) (-1 : Int32) ((r145 &&& (2147483647 : Int32)) &&& (7 : Int32)) (((XT.ushr (r145 &&& (2147483647 : Int32)) (3 : Int32)) &&& (255 : Int32)) % v1) (((XT.ushr (r145 &&& (2147483647 : Int32)) (11 : Int32)) &&& (255 : Int32)) % v1) ((XT.ushr (r145 &&& (2147483647 : Int32)) (19 : Int32)) &&& (255 : Int32)) q t0
    else
      if ((r145 &&& (2147483647 : Int32)) &&& (7 : Int32)) = (5 : Int32) then
        law_208 k55 v1 v4 v5 v6 r124 (0 : Int32) (-1 : Int32) ((r145 &&& (2147483647 : Int32)) &&& (7 : Int32)) (((XT.ushr (r145 &&& (2147483647 : Int32)) (3 : Int32)) &&& (255 : Int32)) % v1) (((XT.ushr (r145 &&& (2147483647 : Int32)) (11 : Int32)) &&& (255 : Int32)) % v1) ((XT.ushr (r145 &&& (2147483647 : Int32)) (19 : Int32)) &&& (255 : Int32)) q t0
      else
        law_245 k55 v1 v4 v5 r124 (0 : Int32) (-1 : Int32) ((r145 &&& (2147483647 : Int32)) &&& (7 : Int32)) (((XT.ushr (r145 &&& (2147483647 : Int32)) (3 : Int32)) &&& (255 : Int32)) % v1) (((XT.ushr (r145 &&& (2147483647 : Int32)) (11 : Int32)) &&& (255 : Int32)) % v1) q t0
  else
    law_349 k55 v1 v4 v5 r124 (0 : Int32) (-1 : Int32) q t0
def law_77 (k55 : Int32 → Int32 → Int32 → List Int32 → S → Option (Int32 × S)) (k68 : Int32 → Int32 → Int32 → Int64 → Int32 → List Int32 → S → Option (Int32 × S)) : Nat → Int32 → Int32 → Int32 → Int64 → Int32 → Int32 → List Int32 → S → Option (Int32 × S)
  | 0, _, _, _, _, _, _, _, _ => none
  | n + 1, v1, v4, v5, v6, v8, v9, q, t0 =>
    if v9 < v1 then
      (k_hasEdge v8 v9 t0).bind fun r88 =>
      law_77 k55 k68 n v1 v4 v5 (if r88 = 0 then v6 else v6 ||| ((1 : Int64) <<< (((v8 * (8 : Int32)) + v9).toInt64 &&& 63))) v8 (v9 + (1 : Int32)) q t0
    else
      k68 v1 v4 v5 v6 (v8 + (1 : Int32)) q t0
def law_68 (k55 : Int32 → Int32 → Int32 → List Int32 → S → Option (Int32 × S)) : Nat → Int32 → Int32 → Int32 → Int64 → Int32 → List Int32 → S → Option (Int32 × S)
  | 0, _, _, _, _, _, _, _ => none
  | n + 1, v1, v4, v5, v6, v8, q, t0 =>
    if v8 < v1 then
      law_77 k55 (fun v1 v4 v5 v6 v8 q t0 => law_68 k55 n v1 v4 v5 v6 v8 q t0) BIG v1 v4 v5 v6 v8 (0 : Int32) q t0
    else
      law_121 k55 v1 v4 v5 v6 q t0
def law_55  : Nat → Int32 → Int32 → Int32 → List Int32 → S → Option (Int32 × S)
  | 0, _, _, _, _, _ => none
  | n + 1, v1, v4, v5, q, t0 =>
    if v4 < v5 then
      some ((1 : Int32), t0)
    else
      law_68 (fun v1 v4 v5 q t0 => law_55 n v1 v4 v5 q t0) BIG v1 v4 v5 (0 : Int64) (0 : Int32) q t0
def law_52  (v1 : Int32) (v4 : Int32) (q : List Int32) (t0 : S) : Option (Int32 × S) :=
  law_55 BIG v1 v4 (0 : Int32) q t0
def law   (q : List Int32) : Option (Int32 × S) :=
  (h_cell (0 : Int32) q).bind fun r3 =>
  (h_cell (1 : Int32) q).bind fun r17 =>
  (k_init ((2 : Int32) + ((r3 &&& (2147483647 : Int32)) % (7 : Int32))) ((1 : Int32) + ((r17 &&& (2147483647 : Int32)) % (24 : Int32)))).bind fun r34 =>
  law_52 ((2 : Int32) + ((r3 &&& (2147483647 : Int32)) % (7 : Int32))) (if (q.length.toInt32 - (2 : Int32)) < 0 then (0 : Int32) else q.length.toInt32 - (2 : Int32)) q r34
set_option maxRecDepth 65536 in
set_option maxHeartbeats 4000000 in
theorem k_init_129_ok  : ∀ (v3 : Int32) (v4 : Int32) (s : S) (x1 : Slot) (x2 : Slot) (hx1 : k1 x1) (hx2 : k1 x2) (o : S), k_init_129 v3 v4 s = some o → Go PP m1 129 [.val (.ref 1), x1, x2, .val (.int v3), .val (.int v4)] [] (none, [(9, s)]) (none, (none, [(9, o)])) := by
  intro v3 v4 s x1 x2 hx1 hx2 o hf
  unfold k_init_129 at hf
  refine go_aloadN (pc := 129) d1_129 rfl (go_iloadN (pc := 130) d1_130 rfl (go_putI (pc := 131) fs_44 hm_1 (wr_2 _) hn_1 d1_131 (go_aloadN (pc := 134) d1_134 rfl (go_iload (pc := 135) d1_135 rfl (go_putI (pc := 137) fs_47 hm_1 (wr_3 _) hn_1 d1_137 (go_aloadN (pc := 140) d1_140 rfl (go_iloadN (pc := 141) d1_141 rfl ?_)))))))
  refine go_iloadN (pc := 142) d1_142 rfl (go_imul (pc := 143) d1_143 (go_iconst (pc := 144) d1_144 ci_2 (go_iadd (pc := 145) d1_145 (go_putI (pc := 146) fs_50 hm_1 (wr_4 _) hn_1 d1_146 (go_aloadN (pc := 149) d1_149 rfl (go_iconst (pc := 150) d1_150 ci_0 (go_putI (pc := 151) fs_53 hm_1 (wr_5 _) hn_1 d1_151 ?_)))))))
  refine go_aloadN (pc := 154) d1_154 rfl (go_iconst (pc := 155) d1_155 ci_0 (go_putI (pc := 156) fs_56 hm_1 (wr_6 _) hn_1 d1_156 (go_aloadN (pc := 159) d1_159 rfl (go_iconst (pc := 160) d1_160 ci_0 (go_putI (pc := 161) fs_59 hm_1 (wr_7 _) hn_1 d1_161 (go_aloadN (pc := 164) d1_164 rfl (go_iconst (pc := 165) d1_165 ci_0 ?_)))))))
  refine go_putI (pc := 166) fs_62 hm_1 (wr_8 _) hn_1 d1_166 ?_
  cases hf
  exact go_ret (pc := 169) rfl d1_169
set_option maxRecDepth 65536 in
set_option maxHeartbeats 4000000 in
theorem k_init_116_ok  : ∀ (v3 : Int32) (v4 : Int32) (s : S) (x1 : Slot) (x2 : Slot) (hx1 : k1 x1) (hx2 : k1 x2) (o : S), k_init_116 v3 v4 s = some o → Go PP m1 116 [.val (.ref 1), x1, x2, .val (.int v3), .val (.int v4)] [] (none, [(9, s)]) (none, (none, [(9, o)])) := by
  intro v3 v4 s x1 x2 hx1 hx2 o hf
  unfold k_init_116 at hf
  refine go_iload (pc := 116) d1_116 rfl (go_sipush (pc := 118) d1_118 cs_256 ?_)
  by_cases h1 : (256 : Int32) < v4
  · refine go_icN (pc := 121) d1_121 (XT.ii_le_f h1) ?_
    refine go_sipush (pc := 124) d1_124 cs_256 (go_istore (pc := 127) (L' := [.val (.ref 1), x1, x2, .val (.int v3), .val (.int (256 : Int32))]) d1_127 rfl ?_)
    exact k_init_129_ok v3 (256 : Int32) s x1 x2 hx1 hx2 _ (by simpa only [if_pos h1] using hf)
  · refine go_icY (pc := 121) (pc' := 129) d1_121 (XT.ii_le_t h1) j_121_8 ?_
    exact k_init_129_ok v3 v4 s x1 x2 hx1 hx2 _ (by simpa only [if_neg h1] using hf)
set_option maxRecDepth 65536 in
set_option maxHeartbeats 4000000 in
theorem k_init_104_ok  : ∀ (v2 : Int32) (v3 : Int32) (s : S) (x1 : Slot) (hx1 : k1 x1) (o : S), k_init_104 v2 v3 s = some o → Go PP m1 104 [.val (.ref 1), x1, .val (.int v2), .val (.int v3), .unset] [] (none, [(9, s)]) (none, (none, [(9, o)])) := by
  intro v2 v3 s x1 hx1 o hf
  unfold k_init_104 at hf
  refine go_iloadN (pc := 104) d1_104 rfl (go_istore (pc := 105) (L' := [.val (.ref 1), x1, .val (.int v2), .val (.int v3), .val (.int v2)]) d1_105 rfl (go_iload (pc := 107) d1_107 rfl (go_iconst (pc := 109) d1_109 ci_1 ?_)))
  by_cases h1 : v2 < (1 : Int32)
  · refine go_icN (pc := 110) d1_110 (XT.ii_ge_f h1) ?_
    refine go_iconst (pc := 113) d1_113 ci_1 (go_istore (pc := 114) (L' := [.val (.ref 1), x1, .val (.int v2), .val (.int v3), .val (.int (1 : Int32))]) d1_114 rfl ?_)
    exact k_init_116_ok v3 (1 : Int32) s x1 (.val (.int v2)) hx1 (Or.inr ⟨_, rfl, rfl⟩) _ (by simpa only [if_pos h1] using hf)
  · refine go_icY (pc := 110) (pc' := 116) d1_110 (XT.ii_ge_t h1) j_110_6 ?_
    exact k_init_116_ok v3 v2 s x1 (.val (.int v2)) hx1 (Or.inr ⟨_, rfl, rfl⟩) _ (by simpa only [if_neg h1] using hf)
set_option maxRecDepth 65536 in
set_option maxHeartbeats 4000000 in
theorem k_init_95_ok  : ∀ (v2 : Int32) (v3 : Int32) (s : S) (x1 : Slot) (hx1 : k1 x1) (o : S), k_init_95 v2 v3 s = some o → Go PP m1 95 [.val (.ref 1), x1, .val (.int v2), .val (.int v3), .unset] [] (none, [(9, s)]) (none, (none, [(9, o)])) := by
  intro v2 v3 s x1 hx1 o hf
  unfold k_init_95 at hf
  refine go_iloadN (pc := 95) d1_95 rfl (go_bipush (pc := 96) d1_96 cb_32 ?_)
  by_cases h1 : (32 : Int32) < v3
  · refine go_icN (pc := 98) d1_98 (XT.ii_le_f h1) ?_
    refine go_bipush (pc := 101) d1_101 cb_32 (go_istoreN (pc := 103) (L' := [.val (.ref 1), x1, .val (.int v2), .val (.int (32 : Int32)), .unset]) d1_103 rfl ?_)
    exact k_init_104_ok v2 (32 : Int32) s x1 hx1 _ (by simpa only [if_pos h1] using hf)
  · refine go_icY (pc := 98) (pc' := 104) d1_98 (XT.ii_le_t h1) j_98_6 ?_
    exact k_init_104_ok v2 v3 s x1 hx1 _ (by simpa only [if_neg h1] using hf)
set_option maxRecDepth 65536 in
set_option maxHeartbeats 4000000 in
theorem k_init_ok  : ∀ (v1 : Int32) (v2 : Int32)   (o : S), k_init v1 v2 = some o → Go PP m1 0 [.val (.ref 1), .val (.int v1), .val (.int v2), .unset, .unset] [] (none, [(0, s0)]) (none, (none, [(9, o)])) := by
  intro v1 v2 o hf
  unfold k_init at hf
  refine go_aloadN (pc := 0) d1_0 rfl ?_
  refine go_objinit (pc := 1) (rest := []) (a := 0) (List.mem_of_getElem? (i := 11) rfl) (List.mem_of_getElem? (i := 12) rfl) (List.mem_of_getElem? (i := 13) rfl) rfl rfl d1_1 ?_
  refine go_aloadN (pc := 4) d1_4 rfl (go_iconst (pc := 5) d1_5 ci_1 (go_putI (pc := 6) fs_7 hm_1 wr_0 hn_1 d1_6 (go_aloadN (pc := 9) d1_9 rfl (go_iconst (pc := 10) d1_10 ci_2 (go_putI (pc := 11) fs_13 hm_1 wr_1 hn_1 d1_11 (go_aloadN (pc := 14) d1_14 rfl (go_bipush (pc := 15) d1_15 cb_32 ?_)))))))
  refine go_newI (pc := 17) (ty := .int) rfl (by decide) ar_0 (List.mem_of_getElem? (i := 18) rfl) (List.mem_of_getElem? (i := 19) rfl) hm_1 (Or.inr ⟨List.mem_of_getElem? (i := 20) rfl, rfl⟩) rfl hn_1 (by decide) rfl rfl rfl rfl d1_17 d1_19 ?_
  refine go_aloadN (pc := 22) d1_22 rfl (go_bipush (pc := 23) d1_23 cb_32 ?_)
  refine go_newI (pc := 25) (ty := .int) rfl (by decide) ar_1 (List.mem_of_getElem? (i := 18) rfl) (List.mem_of_getElem? (i := 21) rfl) hm_1 (Or.inr ⟨List.mem_of_getElem? (i := 22) rfl, rfl⟩) rfl hn_1 (by decide) rfl rfl rfl rfl d1_25 d1_27 ?_
  refine go_aloadN (pc := 30) d1_30 rfl (go_bipush (pc := 31) d1_31 cb_32 ?_)
  refine go_newI (pc := 33) (ty := .int) rfl (by decide) ar_2 (List.mem_of_getElem? (i := 18) rfl) (List.mem_of_getElem? (i := 23) rfl) hm_1 (Or.inr ⟨List.mem_of_getElem? (i := 24) rfl, rfl⟩) rfl hn_1 (by decide) rfl rfl rfl rfl d1_33 d1_35 ?_
  refine go_aloadN (pc := 38) d1_38 rfl (go_bipush (pc := 39) d1_39 cb_32 ?_)
  refine go_newI (pc := 41) (ty := .int) rfl (by decide) ar_3 (List.mem_of_getElem? (i := 18) rfl) (List.mem_of_getElem? (i := 25) rfl) hm_1 (Or.inr ⟨List.mem_of_getElem? (i := 26) rfl, rfl⟩) rfl hn_1 (by decide) rfl rfl rfl rfl d1_41 d1_43 ?_
  refine go_aloadN (pc := 46) d1_46 rfl (go_bipush (pc := 47) d1_47 cb_32 ?_)
  refine go_newI (pc := 49) (ty := .int) rfl (by decide) ar_4 (List.mem_of_getElem? (i := 18) rfl) (List.mem_of_getElem? (i := 27) rfl) hm_1 (Or.inr ⟨List.mem_of_getElem? (i := 28) rfl, rfl⟩) rfl hn_1 (by decide) rfl rfl rfl rfl d1_49 d1_51 ?_
  refine go_aloadN (pc := 54) d1_54 rfl (go_bipush (pc := 55) d1_55 cb_32 ?_)
  refine go_newI (pc := 57) (ty := .int) rfl (by decide) ar_5 (List.mem_of_getElem? (i := 18) rfl) (List.mem_of_getElem? (i := 29) rfl) hm_1 (Or.inr ⟨List.mem_of_getElem? (i := 30) rfl, rfl⟩) rfl hn_1 (by decide) rfl rfl rfl rfl d1_57 d1_59 ?_
  refine go_aloadN (pc := 62) d1_62 rfl (go_bipush (pc := 63) d1_63 cb_16 ?_)
  refine go_newI (pc := 65) (ty := .int) rfl (by decide) ar_6 (List.mem_of_getElem? (i := 18) rfl) (List.mem_of_getElem? (i := 31) rfl) hm_1 (Or.inr ⟨List.mem_of_getElem? (i := 32) rfl, rfl⟩) rfl hn_1 (by decide) rfl rfl rfl rfl d1_65 d1_67 ?_
  refine go_aloadN (pc := 70) d1_70 rfl (go_bipush (pc := 71) d1_71 cb_16 ?_)
  refine go_newI (pc := 73) (ty := .int) rfl (by decide) ar_7 (List.mem_of_getElem? (i := 18) rfl) (List.mem_of_getElem? (i := 33) rfl) hm_1 (Or.inr ⟨List.mem_of_getElem? (i := 34) rfl, rfl⟩) rfl hn_1 (by decide) rfl rfl rfl rfl d1_73 d1_75 ?_
  refine go_aloadN (pc := 78) d1_78 rfl (go_bipush (pc := 79) d1_79 cb_16 ?_)
  refine go_newI (pc := 81) (ty := .int) rfl (by decide) ar_8 (List.mem_of_getElem? (i := 18) rfl) (List.mem_of_getElem? (i := 35) rfl) hm_1 (Or.inr ⟨List.mem_of_getElem? (i := 36) rfl, rfl⟩) rfl hn_1 (by decide) rfl rfl rfl rfl d1_81 d1_83 ?_
  refine go_iloadN (pc := 86) d1_86 rfl (go_istoreN (pc := 87) (L' := [.val (.ref 1), .val (.int v1), .val (.int v2), .val (.int v1), .unset]) d1_87 rfl (go_iloadN (pc := 88) d1_88 rfl (go_iconst (pc := 89) d1_89 ci_2 ?_)))
  by_cases h10 : v1 < (2 : Int32)
  · refine go_icN (pc := 90) d1_90 (XT.ii_ge_f h10) ?_
    refine go_iconst (pc := 93) d1_93 ci_2 (go_istoreN (pc := 94) (L' := [.val (.ref 1), .val (.int v1), .val (.int v2), .val (.int (2 : Int32)), .unset]) d1_94 rfl ?_)
    exact k_init_95_ok v2 (2 : Int32) (sA (sA (sA (sA (sA (sA (sA (sA (sA (sI (sI s0 0 (1 : Int32)) 1 (2 : Int32)) 0 (rep 32 0)) 1 (rep 32 0)) 2 (rep 32 0)) 3 (rep 32 0)) 4 (rep 32 0)) 5 (rep 32 0)) 6 (rep 16 0)) 7 (rep 16 0)) 8 (rep 16 0)) (.val (.int v1)) (Or.inr ⟨_, rfl, rfl⟩) _ (by simpa only [if_pos h10] using hf)
  · refine go_icY (pc := 90) (pc' := 95) d1_90 (XT.ii_ge_t h10) j_90_5 ?_
    exact k_init_95_ok v2 v1 (sA (sA (sA (sA (sA (sA (sA (sA (sA (sI (sI s0 0 (1 : Int32)) 1 (2 : Int32)) 0 (rep 32 0)) 1 (rep 32 0)) 2 (rep 32 0)) 3 (rep 32 0)) 4 (rep 32 0)) 5 (rep 32 0)) 6 (rep 16 0)) 7 (rep 16 0)) 8 (rep 16 0)) (.val (.int v1)) (Or.inr ⟨_, rfl, rfl⟩) _ (by simpa only [if_neg h10] using hf)
theorem c_k_init (v1 : Int32) (v2 : Int32) (o : S) (hf : k_init v1 v2 = some o) : Call PP m1 [.ref 1, .int v1, .int v2] (none, [(0, s0)]) (none, (none, [(9, o)])) := call_of_go pl_0 rfl (fun _ => rfl) (k_init_ok v1 v2   _ hf)
set_option maxRecDepth 65536 in
set_option maxHeartbeats 4000000 in
theorem k_isValid_ok  : ∀ (v1 : Int32) (s : S)  (o : Int32), k_isValid v1 s = o → Go PP m2 0 [.val (.ref 1), .val (.int v1)] [] (none, [(9, s)]) (some (.int o), (none, [(9, s)])) := by
  intro v1 s o hf
  unfold k_isValid at hf
  refine go_iloadN (pc := 0) d2_0 rfl ?_
  by_cases h1 : v1 < 0
  · replace hf := (if_pos h1).symm.trans hf
    refine go_ifY (pc := 1) (pc' := 16) d2_1 (XT.i0_lt_t h1) j_1_15 ?_
    refine go_iconst (pc := 16) d2_16 ci_0 ?_
    cases hf
    exact go_zret (pc := 17) rfl d2_17 (show (0 : Int32) = nar .boolean (0 : Int32) by decide)
  · replace hf := (if_neg h1).symm.trans hf
    refine go_ifN (pc := 1) d2_1 (XT.i0_lt_f h1) ?_
    refine go_iloadN (pc := 4) d2_4 rfl (go_aloadN (pc := 5) d2_5 rfl (go_getI (pc := 6) fs_44 hm_2 d2_6 ?_))
    by_cases h2 : v1 < (gI s 2)
    · replace hf := (if_pos h2).symm.trans hf
      refine go_icN (pc := 9) d2_9 (XT.ii_ge_f h2) ?_
      refine go_iconst (pc := 12) d2_12 ci_1 (go_goto (pc := 13) (pc' := 17) d2_13 j_13_4 ?_)
      cases hf
      exact go_zret (pc := 17) rfl d2_17 (show (1 : Int32) = nar .boolean (1 : Int32) by decide)
    · replace hf := (if_neg h2).symm.trans hf
      refine go_icY (pc := 9) (pc' := 16) d2_9 (XT.ii_ge_t h2) j_9_7 ?_
      refine go_iconst (pc := 16) d2_16 ci_0 ?_
      cases hf
      exact go_zret (pc := 17) rfl d2_17 (show (0 : Int32) = nar .boolean (0 : Int32) by decide)
theorem c_k_isValid (v1 : Int32) (s : S) : Call PP m2 [.ref 1, .int v1] (none, [(9, s)]) (some (.int (k_isValid v1 s)), (none, [(9, s)])) := call_of_go pl_0 rfl (fun h => nomatch h) (k_isValid_ok v1 s   _ rfl)
set_option maxRecDepth 65536 in
set_option maxHeartbeats 4000000 in
theorem k_edgePresent_ok  : ∀ (v1 : Int32) (v2 : Int32) (s : S)  (o : Int32), k_edgePresent v1 v2 s = some o → Go PP m3 0 [.val (.ref 1), .val (.int v1), .val (.int v2)] [] (none, [(9, s)]) (some (.int o), (none, [(9, s)])) := by
  intro v1 v2 s o hf
  unfold k_edgePresent at hf
  refine go_aloadN (pc := 0) d3_0 rfl (go_getA (pc := 1) fa_16 hm_3 d3_1 rfl (go_iloadN (pc := 4) d3_4 rfl ?_))
  obtain ⟨a5, e1, hf⟩ := Option.bind_eq_some_iff.mp hf
  refine go_iaload (pc := 5) (q := 0) ar_0 rfl e1 d3_5 ?_
  refine go_iloadN (pc := 6) d3_6 rfl (go_iushr (pc := 7) d3_7 (go_iconst (pc := 8) d3_8 ci_1 (go_iand (pc := 9) d3_9 ?_)))
  by_cases h2 : ((XT.ushr a5 v2) &&& (1 : Int32)) = 0
  · replace hf := (if_pos h2).symm.trans hf
    refine go_ifY (pc := 10) (pc' := 17) d3_10 (XT.i0_eq_t h2) j_10_7 ?_
    refine go_iconst (pc := 17) d3_17 ci_0 ?_
    cases hf
    exact go_zret (pc := 18) rfl d3_18 (show (0 : Int32) = nar .boolean (0 : Int32) by decide)
  · replace hf := (if_neg h2).symm.trans hf
    refine go_ifN (pc := 10) d3_10 (XT.i0_eq_f h2) ?_
    refine go_iconst (pc := 13) d3_13 ci_1 (go_goto (pc := 14) (pc' := 18) d3_14 j_14_4 ?_)
    cases hf
    exact go_zret (pc := 18) rfl d3_18 (show (1 : Int32) = nar .boolean (1 : Int32) by decide)
theorem c_k_edgePresent (v1 : Int32) (v2 : Int32) (s : S) (o : Int32) (hf : k_edgePresent v1 v2 s = some o) : Call PP m3 [.ref 1, .int v1, .int v2] (none, [(9, s)]) (some (.int o), (none, [(9, s)])) := call_of_go pl_0 rfl (fun h => nomatch h) (k_edgePresent_ok v1 v2 s   _ hf)
set_option maxRecDepth 65536 in
set_option maxHeartbeats 4000000 in
theorem k_hasEdge_ok  : ∀ (v1 : Int32) (v2 : Int32) (s : S)  (o : Int32), k_hasEdge v1 v2 s = some o → Go PP m4 0 [.val (.ref 1), .val (.int v1), .val (.int v2)] [] (none, [(9, s)]) (some (.int o), (none, [(9, s)])) := by
  intro v1 v2 s o hf
  unfold k_hasEdge at hf
  refine go_aloadN (pc := 0) d4_0 rfl (go_iloadN (pc := 1) d4_1 rfl ?_)
  refine go_priv (pc := 2) (i := 0) (as := [.int v1]) (rest := []) (w' := (none, [(9, s)])) lk_0_65 pd_2 rfl oid_0 rfl rfl rfl rfl rfl rfl ⟨rfl, rfl, rfl, rfl, rfl⟩ d4_2 (c_k_isValid v1 s) ?_
  by_cases h1 : (k_isValid v1 s) = 0
  · replace hf := (if_pos h1).symm.trans hf
    refine go_ifY (pc := 5) (pc' := 16) d4_5 (XT.i0_eq_t h1) j_5_11 ?_
    refine go_iconst (pc := 16) d4_16 ci_0 ?_
    cases hf
    exact go_zret (pc := 17) rfl d4_17 (show (0 : Int32) = nar .boolean (0 : Int32) by decide)
  · replace hf := (if_neg h1).symm.trans hf
    refine go_ifN (pc := 5) d4_5 (XT.i0_eq_f h1) ?_
    refine go_aloadN (pc := 8) d4_8 rfl (go_iloadN (pc := 9) d4_9 rfl ?_)
    refine go_priv (pc := 10) (i := 0) (as := [.int v2]) (rest := []) (w' := (none, [(9, s)])) lk_0_65 pd_2 rfl oid_0 rfl rfl rfl rfl rfl rfl ⟨rfl, rfl, rfl, rfl, rfl⟩ d4_10 (c_k_isValid v2 s) ?_
    by_cases h2 : (k_isValid v2 s) = 0
    · replace hf := (if_pos h2).symm.trans hf
      refine go_ifN (pc := 13) d4_13 (XT.i0_ne_f h2) ?_
      refine go_iconst (pc := 16) d4_16 ci_0 ?_
      cases hf
      exact go_zret (pc := 17) rfl d4_17 (show (0 : Int32) = nar .boolean (0 : Int32) by decide)
    · replace hf := (if_neg h2).symm.trans hf
      refine go_ifY (pc := 13) (pc' := 18) d4_13 (XT.i0_ne_t h2) j_13_5 ?_
      refine go_aloadN (pc := 18) d4_18 rfl (go_iloadN (pc := 19) d4_19 rfl (go_iloadN (pc := 20) d4_20 rfl ?_))
      obtain ⟨r21, e3, hf⟩ := Option.bind_eq_some_iff.mp hf
      refine go_priv (pc := 21) (i := 0) (as := [.int v1, .int v2]) (rest := []) (w' := (none, [(9, s)])) lk_0_69 pd_3 rfl oid_0 rfl rfl rfl rfl rfl rfl ⟨rfl, rfl, rfl, rfl, rfl⟩ d4_21 (c_k_edgePresent v1 v2 s _ e3) ?_
      cases hf
      exact go_zret (pc := 24) rfl d4_24 rfl
theorem c_k_hasEdge (v1 : Int32) (v2 : Int32) (s : S) (o : Int32) (hf : k_hasEdge v1 v2 s = some o) : Call PP m4 [.ref 1, .int v1, .int v2] (none, [(9, s)]) (some (.int o), (none, [(9, s)])) := call_of_go pl_0 rfl (fun h => nomatch h) (k_hasEdge_ok v1 v2 s   _ hf)
set_option maxRecDepth 65536 in
set_option maxHeartbeats 4000000 in
theorem k_takeSnapshot_2_ok  : ∀ (n : Nat) (v1 : Int32) (s : S)  (o : S), k_takeSnapshot_2 n v1 s = some o → Go PP m9 2 [.val (.ref 1), .val (.int v1)] [] (none, [(9, s)]) (none, (none, [(9, o)])) := by
  intro n
  induction n with
  | zero => intro v1 s o hf; exact nomatch hf
  | succ n ih =>
    intro v1 s o hf
    unfold k_takeSnapshot_2 at hf
    refine go_iloadN (pc := 2) d9_2 rfl (go_bipush (pc := 3) d9_3 cb_32 ?_)
    by_cases h1 : v1 < (32 : Int32)
    · replace hf := (if_pos h1).symm.trans hf
      refine go_icN (pc := 5) d9_5 (XT.ii_ge_f h1) ?_
      refine go_aloadN (pc := 8) d9_8 rfl (go_getA (pc := 9) fa_23 hm_9 d9_9 rfl (go_iloadN (pc := 12) d9_12 rfl (go_aloadN (pc := 13) d9_13 rfl (go_getA (pc := 14) fa_20 hm_9 d9_14 rfl (go_iloadN (pc := 17) d9_17 rfl ?_)))))
      obtain ⟨a18, e2, hf⟩ := Option.bind_eq_some_iff.mp hf
      refine go_iaload (pc := 18) (q := 1) ar_1 rfl e2 d9_18 ?_
      obtain ⟨a19, e3, hf⟩ := Option.bind_eq_some_iff.mp hf
      refine go_iastore (pc := 19) (q := 2) ar_2 rfl hn_9 e3 d9_19 ?_
      refine go_iinc (pc := 20) (L' := [.val (.ref 1), .val (.int (v1 + (1 : Int32)))]) d9_20 rfl ci_1 rfl (go_goto (pc := 23) (pc' := 2) d9_23 j_23_m21 ?_)
      exact ih (v1 + (1 : Int32)) (sA s 2 a19) _ hf
    · replace hf := (if_neg h1).symm.trans hf
      refine go_icY (pc := 5) (pc' := 26) d9_5 (XT.ii_ge_t h1) j_5_21 ?_
      cases hf
      exact go_ret (pc := 26) rfl d9_26
set_option maxRecDepth 65536 in
set_option maxHeartbeats 4000000 in
theorem k_takeSnapshot_ok  : ∀  (s : S)  (o : S), k_takeSnapshot s = some o → Go PP m9 0 [.val (.ref 1), .unset] [] (none, [(9, s)]) (none, (none, [(9, o)])) := by
  intro s o hf
  unfold k_takeSnapshot at hf
  refine go_iconst (pc := 0) d9_0 ci_0 (go_istoreN (pc := 1) (L' := [.val (.ref 1), .val (.int (0 : Int32))]) d9_1 rfl ?_)
  exact k_takeSnapshot_2_ok BIG (0 : Int32) s _ hf
theorem c_k_takeSnapshot (s : S) (o : S) (hf : k_takeSnapshot s = some o) : Call PP m9 [.ref 1] (none, [(9, s)]) (none, (none, [(9, o)])) := call_of_go pl_0 rfl (fun _ => rfl) (k_takeSnapshot_ok s   _ hf)
set_option maxRecDepth 65536 in
set_option maxHeartbeats 4000000 in
theorem k_bit_ok  {s : S} : ∀ (v1 : Int32)   (o : Int32), k_bit v1 = o → Go PP m10 0 [.val (.ref 1), .val (.int v1)] [] (none, [(9, s)]) (some (.int o), (none, [(9, s)])) := by
  intro v1 o hf
  unfold k_bit at hf
  refine go_iconst (pc := 0) d10_0 ci_1 (go_iloadN (pc := 1) d10_1 rfl (go_ishl (pc := 2) d10_2 ?_))
  cases hf
  exact go_iret (pc := 3) rfl d10_3
theorem c_k_bit (v1 : Int32) (s : S) : Call PP m10 [.ref 1, .int v1] (none, [(9, s)]) (some (.int (k_bit v1)), (none, [(9, s)])) := call_of_go pl_0 rfl (fun h => nomatch h) (k_bit_ok v1   _ rfl)
set_option maxRecDepth 65536 in
set_option maxHeartbeats 4000000 in
theorem k_clearDelta_2_ok  : ∀ (n : Nat) (v1 : Int32) (s : S)  (o : S), k_clearDelta_2 n v1 s = some o → Go PP m11 2 [.val (.ref 1), .val (.int v1)] [] (none, [(9, s)]) (none, (none, [(9, o)])) := by
  intro n
  induction n with
  | zero => intro v1 s o hf; exact nomatch hf
  | succ n ih =>
    intro v1 s o hf
    unfold k_clearDelta_2 at hf
    refine go_iloadN (pc := 2) d11_2 rfl (go_bipush (pc := 3) d11_3 cb_32 ?_)
    by_cases h1 : v1 < (32 : Int32)
    · replace hf := (if_pos h1).symm.trans hf
      refine go_icN (pc := 5) d11_5 (XT.ii_ge_f h1) ?_
      refine go_aloadN (pc := 8) d11_8 rfl (go_getA (pc := 9) fa_26 hm_11 d11_9 rfl (go_iloadN (pc := 12) d11_12 rfl (go_iconst (pc := 13) d11_13 ci_0 ?_)))
      obtain ⟨a14, e2, hf⟩ := Option.bind_eq_some_iff.mp hf
      refine go_iastore (pc := 14) (q := 3) ar_3 rfl hn_11 e2 d11_14 ?_
      refine go_aloadN (pc := 15) d11_15 rfl (go_getA (pc := 16) fa_29 hm_11 d11_16 rfl (go_iloadN (pc := 19) d11_19 rfl (go_iconst (pc := 20) d11_20 ci_0 ?_)))
      obtain ⟨a21, e3, hf⟩ := Option.bind_eq_some_iff.mp hf
      refine go_iastore (pc := 21) (q := 4) ar_4 rfl hn_11 e3 d11_21 ?_
      refine go_iinc (pc := 22) (L' := [.val (.ref 1), .val (.int (v1 + (1 : Int32)))]) d11_22 rfl ci_1 rfl (go_goto (pc := 25) (pc' := 2) d11_25 j_25_m23 ?_)
      exact ih (v1 + (1 : Int32)) (sA (sA s 3 a14) 4 a21) _ hf
    · replace hf := (if_neg h1).symm.trans hf
      refine go_icY (pc := 5) (pc' := 28) d11_5 (XT.ii_ge_t h1) j_5_23 ?_
      cases hf
      exact go_ret (pc := 28) rfl d11_28
set_option maxRecDepth 65536 in
set_option maxHeartbeats 4000000 in
theorem k_clearDelta_ok  : ∀  (s : S)  (o : S), k_clearDelta s = some o → Go PP m11 0 [.val (.ref 1), .unset] [] (none, [(9, s)]) (none, (none, [(9, o)])) := by
  intro s o hf
  unfold k_clearDelta at hf
  refine go_iconst (pc := 0) d11_0 ci_0 (go_istoreN (pc := 1) (L' := [.val (.ref 1), .val (.int (0 : Int32))]) d11_1 rfl ?_)
  exact k_clearDelta_2_ok BIG (0 : Int32) s _ hf
theorem c_k_clearDelta (s : S) (o : S) (hf : k_clearDelta s = some o) : Call PP m11 [.ref 1] (none, [(9, s)]) (none, (none, [(9, o)])) := call_of_go pl_0 rfl (fun _ => rfl) (k_clearDelta_ok s   _ hf)
set_option maxRecDepth 65536 in
set_option maxHeartbeats 4000000 in
theorem k_mergeDeltaIntoReach_4_ok  : ∀ (n : Nat) (v1 : Int32) (v2 : Int32) (s : S) (x3 : Slot) (hx3 : k1 x3) (o : Int32 × S), k_mergeDeltaIntoReach_4 n v1 v2 s = some o → Go PP m12 4 [.val (.ref 1), .val (.int v1), .val (.int v2), x3] [] (none, [(9, s)]) (some (.int o.1), (none, [(9, o.2)])) := by
  intro n
  induction n with
  | zero => intro v1 v2 s x3 hx3 o hf; exact nomatch hf
  | succ n ih =>
    intro v1 v2 s x3 hx3 o hf
    unfold k_mergeDeltaIntoReach_4 at hf
    refine go_iloadN (pc := 4) d12_4 rfl (go_aloadN (pc := 5) d12_5 rfl (go_getI (pc := 6) fs_44 hm_12 d12_6 ?_))
    by_cases h1 : v2 < (gI s 2)
    · replace hf := (if_pos h1).symm.trans hf
      refine go_icN (pc := 9) d12_9 (XT.ii_ge_f h1) ?_
      refine go_aloadN (pc := 12) d12_12 rfl (go_getA (pc := 13) fa_26 hm_12 d12_13 rfl (go_iloadN (pc := 16) d12_16 rfl ?_))
      obtain ⟨a17, e2, hf⟩ := Option.bind_eq_some_iff.mp hf
      refine go_iaload (pc := 17) (q := 3) ar_3 rfl e2 d12_17 ?_
      refine go_istoreN (pc := 18) (L' := [.val (.ref 1), .val (.int v1), .val (.int v2), .val (.int a17)]) d12_18 (stx rfl hx3 rfl) (go_iloadN (pc := 19) d12_19 rfl ?_)
      by_cases h3 : a17 = 0
      · replace hf := (if_pos h3).symm.trans hf
        refine go_ifY (pc := 20) (pc' := 39) d12_20 (XT.i0_eq_t h3) j_20_19 ?_
        refine go_iinc (pc := 39) (L' := [.val (.ref 1), .val (.int v1), .val (.int (v2 + (1 : Int32))), .val (.int a17)]) d12_39 rfl ci_1 rfl (go_goto (pc := 42) (pc' := 4) d12_42 j_42_m38 ?_)
        exact ih v1 (v2 + (1 : Int32)) s (.val (.int a17)) (Or.inr ⟨_, rfl, rfl⟩) _ hf
      · replace hf := (if_neg h3).symm.trans hf
        refine go_ifN (pc := 20) d12_20 (XT.i0_eq_f h3) ?_
        refine go_aloadN (pc := 23) d12_23 rfl (go_getA (pc := 24) fa_20 hm_12 d12_24 rfl (go_iloadN (pc := 27) d12_27 rfl (go_aloadN (pc := 28) d12_28 rfl (go_getA (pc := 29) fa_20 hm_12 d12_29 rfl (go_iloadN (pc := 32) d12_32 rfl ?_)))))
        obtain ⟨a33, e4, hf⟩ := Option.bind_eq_some_iff.mp hf
        refine go_iaload (pc := 33) (q := 1) ar_1 rfl e4 d12_33 ?_
        refine go_iloadN (pc := 34) d12_34 rfl (go_ior (pc := 35) d12_35 ?_)
        obtain ⟨a36, e5, hf⟩ := Option.bind_eq_some_iff.mp hf
        refine go_iastore (pc := 36) (q := 1) ar_1 rfl hn_12 e5 d12_36 ?_
        refine go_iconst (pc := 37) d12_37 ci_1 (go_istoreN (pc := 38) (L' := [.val (.ref 1), .val (.int (1 : Int32)), .val (.int v2), .val (.int a17)]) d12_38 rfl (go_iinc (pc := 39) (L' := [.val (.ref 1), .val (.int (1 : Int32)), .val (.int (v2 + (1 : Int32))), .val (.int a17)]) d12_39 rfl ci_1 rfl (go_goto (pc := 42) (pc' := 4) d12_42 j_42_m38 ?_)))
        exact ih (1 : Int32) (v2 + (1 : Int32)) (sA s 1 a36) (.val (.int a17)) (Or.inr ⟨_, rfl, rfl⟩) _ hf
    · replace hf := (if_neg h1).symm.trans hf
      refine go_icY (pc := 9) (pc' := 45) d12_9 (XT.ii_ge_t h1) j_9_36 ?_
      refine go_iloadN (pc := 45) d12_45 rfl ?_
      cases hf
      exact go_zret (pc := 46) rfl d12_46 rfl
set_option maxRecDepth 65536 in
set_option maxHeartbeats 4000000 in
theorem k_mergeDeltaIntoReach_ok  : ∀  (s : S)  (o : Int32 × S), k_mergeDeltaIntoReach s = some o → Go PP m12 0 [.val (.ref 1), .unset, .unset, .unset] [] (none, [(9, s)]) (some (.int o.1), (none, [(9, o.2)])) := by
  intro s o hf
  unfold k_mergeDeltaIntoReach at hf
  refine go_iconst (pc := 0) d12_0 ci_0 (go_istoreN (pc := 1) (L' := [.val (.ref 1), .val (.int (0 : Int32)), .unset, .unset]) d12_1 rfl (go_iconst (pc := 2) d12_2 ci_0 (go_istoreN (pc := 3) (L' := [.val (.ref 1), .val (.int (0 : Int32)), .val (.int (0 : Int32)), .unset]) d12_3 rfl ?_)))
  exact k_mergeDeltaIntoReach_4_ok BIG (0 : Int32) (0 : Int32) s .unset (Or.inl rfl) _ hf
theorem c_k_mergeDeltaIntoReach (s : S) (o : Int32 × S) (hf : k_mergeDeltaIntoReach s = some o) : Call PP m12 [.ref 1] (none, [(9, s)]) (some (.int o.1), (none, [(9, o.2)])) := call_of_go pl_0 rfl (fun h => nomatch h) (k_mergeDeltaIntoReach_ok s   _ hf)
set_option maxRecDepth 65536 in
set_option maxHeartbeats 4000000 in
theorem k_gatherDelta_12_ok  : ∀ (n : Nat) (v2 : Int32) (v3 : Int32) (v4 : Int32) (s : S) (x1 : Slot) (hx1 : k1 x1) (o : Int32), k_gatherDelta_12 n v2 v3 v4 s = some o → Go PP m13 12 [.val (.ref 1), x1, .val (.int v2), .val (.int v3), .val (.int v4)] [] (none, [(9, s)]) (some (.int o), (none, [(9, s)])) := by
  intro n
  induction n with
  | zero => intro v2 v3 v4 s x1 hx1 o hf; exact nomatch hf
  | succ n ih =>
    intro v2 v3 v4 s x1 hx1 o hf
    unfold k_gatherDelta_12 at hf
    refine go_iload (pc := 12) d13_12 rfl (go_aloadN (pc := 14) d13_14 rfl (go_getI (pc := 15) fs_44 hm_13 d13_15 ?_))
    by_cases h1 : v4 < (gI s 2)
    · replace hf := (if_pos h1).symm.trans hf
      refine go_icN (pc := 18) d13_18 (XT.ii_ge_f h1) ?_
      refine go_iloadN (pc := 21) d13_21 rfl (go_iload (pc := 22) d13_22 rfl (go_iushr (pc := 24) d13_24 (go_iconst (pc := 25) d13_25 ci_1 (go_iand (pc := 26) d13_26 ?_))))
      by_cases h2 : ((XT.ushr v2 v4) &&& (1 : Int32)) = 0
      · replace hf := (if_pos h2).symm.trans hf
        refine go_ifY (pc := 27) (pc' := 40) d13_27 (XT.i0_eq_t h2) j_27_13 ?_
        refine go_iinc (pc := 40) (L' := [.val (.ref 1), x1, .val (.int v2), .val (.int v3), .val (.int (v4 + (1 : Int32)))]) d13_40 rfl ci_1 rfl (go_goto (pc := 43) (pc' := 12) d13_43 j_43_m31 ?_)
        exact ih v2 v3 (v4 + (1 : Int32)) s x1 hx1 _ hf
      · replace hf := (if_neg h2).symm.trans hf
        refine go_ifN (pc := 27) d13_27 (XT.i0_eq_f h2) ?_
        refine go_iloadN (pc := 30) d13_30 rfl (go_aloadN (pc := 31) d13_31 rfl (go_getA (pc := 32) fa_26 hm_13 d13_32 rfl (go_iload (pc := 35) d13_35 rfl ?_)))
        obtain ⟨a37, e3, hf⟩ := Option.bind_eq_some_iff.mp hf
        refine go_iaload (pc := 37) (q := 3) ar_3 rfl e3 d13_37 ?_
        refine go_ior (pc := 38) d13_38 (go_istoreN (pc := 39) (L' := [.val (.ref 1), x1, .val (.int v2), .val (.int (v3 ||| a37)), .val (.int v4)]) d13_39 rfl (go_iinc (pc := 40) (L' := [.val (.ref 1), x1, .val (.int v2), .val (.int (v3 ||| a37)), .val (.int (v4 + (1 : Int32)))]) d13_40 rfl ci_1 rfl (go_goto (pc := 43) (pc' := 12) d13_43 j_43_m31 ?_)))
        exact ih v2 (v3 ||| a37) (v4 + (1 : Int32)) s x1 hx1 _ hf
    · replace hf := (if_neg h1).symm.trans hf
      refine go_icY (pc := 18) (pc' := 46) d13_18 (XT.ii_ge_t h1) j_18_28 ?_
      refine go_iloadN (pc := 46) d13_46 rfl ?_
      cases hf
      exact go_iret (pc := 47) rfl d13_47
set_option maxRecDepth 65536 in
set_option maxHeartbeats 4000000 in
theorem k_gatherDelta_ok  : ∀ (v1 : Int32) (s : S)  (o : Int32), k_gatherDelta v1 s = some o → Go PP m13 0 [.val (.ref 1), .val (.int v1), .unset, .unset, .unset] [] (none, [(9, s)]) (some (.int o), (none, [(9, s)])) := by
  intro v1 s o hf
  unfold k_gatherDelta at hf
  refine go_aloadN (pc := 0) d13_0 rfl (go_getA (pc := 1) fa_16 hm_13 d13_1 rfl (go_iloadN (pc := 4) d13_4 rfl ?_))
  obtain ⟨a5, e1, hf⟩ := Option.bind_eq_some_iff.mp hf
  refine go_iaload (pc := 5) (q := 0) ar_0 rfl e1 d13_5 ?_
  refine go_istoreN (pc := 6) (L' := [.val (.ref 1), .val (.int v1), .val (.int a5), .unset, .unset]) d13_6 rfl (go_iconst (pc := 7) d13_7 ci_0 (go_istoreN (pc := 8) (L' := [.val (.ref 1), .val (.int v1), .val (.int a5), .val (.int (0 : Int32)), .unset]) d13_8 rfl (go_iconst (pc := 9) d13_9 ci_0 (go_istore (pc := 10) (L' := [.val (.ref 1), .val (.int v1), .val (.int a5), .val (.int (0 : Int32)), .val (.int (0 : Int32))]) d13_10 rfl ?_))))
  exact k_gatherDelta_12_ok BIG a5 (0 : Int32) (0 : Int32) s (.val (.int v1)) (Or.inr ⟨_, rfl, rfl⟩) _ hf
theorem c_k_gatherDelta (v1 : Int32) (s : S) (o : Int32) (hf : k_gatherDelta v1 s = some o) : Call PP m13 [.ref 1, .int v1] (none, [(9, s)]) (some (.int o), (none, [(9, s)])) := call_of_go pl_0 rfl (fun h => nomatch h) (k_gatherDelta_ok v1 s   _ hf)
set_option maxRecDepth 65536 in
set_option maxHeartbeats 4000000 in
theorem k_computeNextAdditions_2_ok  : ∀ (n : Nat) (v1 : Int32) (s : S) (x2 : Slot) (hx2 : k1 x2) (o : S), k_computeNextAdditions_2 n v1 s = some o → Go PP m14 2 [.val (.ref 1), .val (.int v1), x2] [] (none, [(9, s)]) (none, (none, [(9, o)])) := by
  intro n
  induction n with
  | zero => intro v1 s x2 hx2 o hf; exact nomatch hf
  | succ n ih =>
    intro v1 s x2 hx2 o hf
    unfold k_computeNextAdditions_2 at hf
    refine go_iloadN (pc := 2) d14_2 rfl (go_aloadN (pc := 3) d14_3 rfl (go_getI (pc := 4) fs_44 hm_14 d14_4 ?_))
    by_cases h1 : v1 < (gI s 2)
    · replace hf := (if_pos h1).symm.trans hf
      refine go_icN (pc := 7) d14_7 (XT.ii_ge_f h1) ?_
      refine go_aloadN (pc := 10) d14_10 rfl (go_iloadN (pc := 11) d14_11 rfl ?_)
      obtain ⟨r12, e2, hf⟩ := Option.bind_eq_some_iff.mp hf
      refine go_priv (pc := 12) (i := 0) (as := [.int v1]) (rest := []) (w' := (none, [(9, s)])) lk_0_124 pd_13 rfl oid_0 rfl rfl rfl rfl rfl rfl ⟨rfl, rfl, rfl, rfl, rfl⟩ d14_12 (c_k_gatherDelta v1 s _ e2) ?_
      refine go_istoreN (pc := 15) (L' := [.val (.ref 1), .val (.int v1), .val (.int r12)]) d14_15 (stx rfl hx2 rfl) (go_aloadN (pc := 16) d14_16 rfl (go_getA (pc := 17) fa_29 hm_14 d14_17 rfl (go_iloadN (pc := 20) d14_20 rfl (go_iloadN (pc := 21) d14_21 rfl (go_aloadN (pc := 22) d14_22 rfl (go_getA (pc := 23) fa_20 hm_14 d14_23 rfl (go_iloadN (pc := 26) d14_26 rfl ?_)))))))
      obtain ⟨a27, e3, hf⟩ := Option.bind_eq_some_iff.mp hf
      refine go_iaload (pc := 27) (q := 1) ar_1 rfl e3 d14_27 ?_
      refine go_iconst (pc := 28) d14_28 ci_m1 (go_ixor (pc := 29) d14_29 (go_iand (pc := 30) d14_30 ?_))
      obtain ⟨a31, e4, hf⟩ := Option.bind_eq_some_iff.mp hf
      refine go_iastore (pc := 31) (q := 4) ar_4 rfl hn_14 e4 d14_31 ?_
      refine go_iinc (pc := 32) (L' := [.val (.ref 1), .val (.int (v1 + (1 : Int32))), .val (.int r12)]) d14_32 rfl ci_1 rfl (go_goto (pc := 35) (pc' := 2) d14_35 j_35_m33 ?_)
      exact ih (v1 + (1 : Int32)) (sA s 4 a31) (.val (.int r12)) (Or.inr ⟨_, rfl, rfl⟩) _ hf
    · replace hf := (if_neg h1).symm.trans hf
      refine go_icY (pc := 7) (pc' := 38) d14_7 (XT.ii_ge_t h1) j_7_31 ?_
      cases hf
      exact go_ret (pc := 38) rfl d14_38
set_option maxRecDepth 65536 in
set_option maxHeartbeats 4000000 in
theorem k_computeNextAdditions_ok  : ∀  (s : S)  (o : S), k_computeNextAdditions s = some o → Go PP m14 0 [.val (.ref 1), .unset, .unset] [] (none, [(9, s)]) (none, (none, [(9, o)])) := by
  intro s o hf
  unfold k_computeNextAdditions at hf
  refine go_iconst (pc := 0) d14_0 ci_0 (go_istoreN (pc := 1) (L' := [.val (.ref 1), .val (.int (0 : Int32)), .unset]) d14_1 rfl ?_)
  exact k_computeNextAdditions_2_ok BIG (0 : Int32) s .unset (Or.inl rfl) _ hf
theorem c_k_computeNextAdditions (s : S) (o : S) (hf : k_computeNextAdditions s = some o) : Call PP m14 [.ref 1] (none, [(9, s)]) (none, (none, [(9, o)])) := call_of_go pl_0 rfl (fun _ => rfl) (k_computeNextAdditions_ok s   _ hf)
set_option maxRecDepth 65536 in
set_option maxHeartbeats 4000000 in
theorem k_shiftDelta_2_ok  : ∀ (n : Nat) (v1 : Int32) (s : S)  (o : S), k_shiftDelta_2 n v1 s = some o → Go PP m15 2 [.val (.ref 1), .val (.int v1)] [] (none, [(9, s)]) (none, (none, [(9, o)])) := by
  intro n
  induction n with
  | zero => intro v1 s o hf; exact nomatch hf
  | succ n ih =>
    intro v1 s o hf
    unfold k_shiftDelta_2 at hf
    refine go_iloadN (pc := 2) d15_2 rfl (go_bipush (pc := 3) d15_3 cb_32 ?_)
    by_cases h1 : v1 < (32 : Int32)
    · replace hf := (if_pos h1).symm.trans hf
      refine go_icN (pc := 5) d15_5 (XT.ii_ge_f h1) ?_
      refine go_aloadN (pc := 8) d15_8 rfl (go_getA (pc := 9) fa_26 hm_15 d15_9 rfl (go_iloadN (pc := 12) d15_12 rfl (go_aloadN (pc := 13) d15_13 rfl (go_getA (pc := 14) fa_29 hm_15 d15_14 rfl (go_iloadN (pc := 17) d15_17 rfl ?_)))))
      obtain ⟨a18, e2, hf⟩ := Option.bind_eq_some_iff.mp hf
      refine go_iaload (pc := 18) (q := 4) ar_4 rfl e2 d15_18 ?_
      obtain ⟨a19, e3, hf⟩ := Option.bind_eq_some_iff.mp hf
      refine go_iastore (pc := 19) (q := 3) ar_3 rfl hn_15 e3 d15_19 ?_
      refine go_aloadN (pc := 20) d15_20 rfl (go_getA (pc := 21) fa_29 hm_15 d15_21 rfl (go_iloadN (pc := 24) d15_24 rfl (go_iconst (pc := 25) d15_25 ci_0 ?_)))
      obtain ⟨a26, e4, hf⟩ := Option.bind_eq_some_iff.mp hf
      refine go_iastore (pc := 26) (q := 4) ar_4 rfl hn_15 e4 d15_26 ?_
      refine go_iinc (pc := 27) (L' := [.val (.ref 1), .val (.int (v1 + (1 : Int32)))]) d15_27 rfl ci_1 rfl (go_goto (pc := 30) (pc' := 2) d15_30 j_30_m28 ?_)
      exact ih (v1 + (1 : Int32)) (sA (sA s 3 a19) 4 a26) _ hf
    · replace hf := (if_neg h1).symm.trans hf
      refine go_icY (pc := 5) (pc' := 33) d15_5 (XT.ii_ge_t h1) j_5_28 ?_
      cases hf
      exact go_ret (pc := 33) rfl d15_33
set_option maxRecDepth 65536 in
set_option maxHeartbeats 4000000 in
theorem k_shiftDelta_ok  : ∀  (s : S)  (o : S), k_shiftDelta s = some o → Go PP m15 0 [.val (.ref 1), .unset] [] (none, [(9, s)]) (none, (none, [(9, o)])) := by
  intro s o hf
  unfold k_shiftDelta at hf
  refine go_iconst (pc := 0) d15_0 ci_0 (go_istoreN (pc := 1) (L' := [.val (.ref 1), .val (.int (0 : Int32))]) d15_1 rfl ?_)
  exact k_shiftDelta_2_ok BIG (0 : Int32) s _ hf
theorem c_k_shiftDelta (s : S) (o : S) (hf : k_shiftDelta s = some o) : Call PP m15 [.ref 1] (none, [(9, s)]) (none, (none, [(9, o)])) := call_of_go pl_0 rfl (fun _ => rfl) (k_shiftDelta_ok s   _ hf)
set_option maxRecDepth 65536 in
set_option maxHeartbeats 4000000 in
theorem k_propagateAdditions_2_ok  : ∀ (n : Nat) (v1 : Int32) (s : S)  (o : S), k_propagateAdditions_2 n v1 s = some o → Go PP m16 2 [.val (.ref 1), .val (.int v1)] [] (none, [(9, s)]) (none, (none, [(9, o)])) := by
  intro n
  induction n with
  | zero => intro v1 s o hf; exact nomatch hf
  | succ n ih =>
    intro v1 s o hf
    unfold k_propagateAdditions_2 at hf
    refine go_iloadN (pc := 2) d16_2 rfl (go_aloadN (pc := 3) d16_3 rfl (go_getI (pc := 4) fs_50 hm_16 d16_4 ?_))
    by_cases h1 : v1 < (gI s 4)
    · replace hf := (if_pos h1).symm.trans hf
      refine go_icN (pc := 7) d16_7 (XT.ii_ge_f h1) ?_
      refine go_aloadN (pc := 10) d16_10 rfl ?_
      obtain ⟨r11, e2, hf⟩ := Option.bind_eq_some_iff.mp hf
      refine go_priv (pc := 11) (i := 0) (as := []) (rest := []) (w' := (none, [(9, r11.2)])) lk_0_114 pd_12 rfl oid_0 rfl rfl rfl rfl rfl rfl ⟨rfl, rfl, rfl, rfl, rfl⟩ d16_11 (c_k_mergeDeltaIntoReach s _ e2) ?_
      by_cases h3 : r11.1 = 0
      · replace hf := (if_pos h3).symm.trans hf
        refine go_ifN (pc := 14) d16_14 (XT.i0_ne_f h3) ?_
        cases hf
        exact go_ret (pc := 17) rfl d16_17
      · replace hf := (if_neg h3).symm.trans hf
        refine go_ifY (pc := 14) (pc' := 18) d16_14 (XT.i0_ne_t h3) j_14_4 ?_
        refine go_aloadN (pc := 18) d16_18 rfl ?_
        obtain ⟨r19, e4, hf⟩ := Option.bind_eq_some_iff.mp hf
        refine go_priv (pc := 19) (i := 0) (as := []) (rest := []) (w' := (none, [(9, r19)])) lk_0_118 pd_14 rfl oid_0 rfl rfl rfl rfl rfl rfl ⟨rfl, rfl, rfl, rfl, rfl⟩ d16_19 (c_k_computeNextAdditions r11.2 _ e4) ?_
        refine go_aloadN (pc := 22) d16_22 rfl ?_
        obtain ⟨r23, e5, hf⟩ := Option.bind_eq_some_iff.mp hf
        refine go_priv (pc := 23) (i := 0) (as := []) (rest := []) (w' := (none, [(9, r23)])) lk_0_121 pd_15 rfl oid_0 rfl rfl rfl rfl rfl rfl ⟨rfl, rfl, rfl, rfl, rfl⟩ d16_23 (c_k_shiftDelta r19 _ e5) ?_
        refine go_iinc (pc := 26) (L' := [.val (.ref 1), .val (.int (v1 + (1 : Int32)))]) d16_26 rfl ci_1 rfl (go_goto (pc := 29) (pc' := 2) d16_29 j_29_m27 ?_)
        exact ih (v1 + (1 : Int32)) r23 _ hf
    · replace hf := (if_neg h1).symm.trans hf
      refine go_icY (pc := 7) (pc' := 32) d16_7 (XT.ii_ge_t h1) j_7_25 ?_
      cases hf
      exact go_ret (pc := 32) rfl d16_32
set_option maxRecDepth 65536 in
set_option maxHeartbeats 4000000 in
theorem k_propagateAdditions_ok  : ∀  (s : S)  (o : S), k_propagateAdditions s = some o → Go PP m16 0 [.val (.ref 1), .unset] [] (none, [(9, s)]) (none, (none, [(9, o)])) := by
  intro s o hf
  unfold k_propagateAdditions at hf
  refine go_iconst (pc := 0) d16_0 ci_0 (go_istoreN (pc := 1) (L' := [.val (.ref 1), .val (.int (0 : Int32))]) d16_1 rfl ?_)
  exact k_propagateAdditions_2_ok BIG (0 : Int32) s _ hf
theorem c_k_propagateAdditions (s : S) (o : S) (hf : k_propagateAdditions s = some o) : Call PP m16 [.ref 1] (none, [(9, s)]) (none, (none, [(9, o)])) := call_of_go pl_0 rfl (fun _ => rfl) (k_propagateAdditions_ok s   _ hf)
set_option maxRecDepth 65536 in
set_option maxHeartbeats 4000000 in
theorem k_addEdgeAndPropagate_ok  : ∀ (v1 : Int32) (v2 : Int32) (s : S)  (o : S), k_addEdgeAndPropagate v1 v2 s = some o → Go PP m17 0 [.val (.ref 1), .val (.int v1), .val (.int v2), .unset, .unset] [] (none, [(9, s)]) (none, (none, [(9, o)])) := by
  intro v1 v2 s o hf
  unfold k_addEdgeAndPropagate at hf
  refine go_aloadN (pc := 0) d17_0 rfl (go_iloadN (pc := 1) d17_1 rfl ?_)
  refine go_priv (pc := 2) (i := 0) (as := [.int v2]) (rest := []) (w' := (none, [(9, s)])) lk_0_105 pd_10 rfl oid_0 rfl rfl rfl rfl rfl rfl ⟨rfl, rfl, rfl, rfl, rfl⟩ d17_2 (c_k_bit v2 s) ?_
  refine go_istoreN (pc := 5) (L' := [.val (.ref 1), .val (.int v1), .val (.int v2), .val (.int (k_bit v2)), .unset]) d17_5 rfl (go_aloadN (pc := 6) d17_6 rfl (go_getA (pc := 7) fa_16 hm_17 d17_7 rfl (go_iloadN (pc := 10) d17_10 rfl (go_aloadN (pc := 11) d17_11 rfl (go_getA (pc := 12) fa_16 hm_17 d17_12 rfl (go_iloadN (pc := 15) d17_15 rfl ?_))))))
  obtain ⟨a16, e1, hf⟩ := Option.bind_eq_some_iff.mp hf
  refine go_iaload (pc := 16) (q := 0) ar_0 rfl e1 d17_16 ?_
  refine go_iloadN (pc := 17) d17_17 rfl (go_ior (pc := 18) d17_18 ?_)
  obtain ⟨a19, e2, hf⟩ := Option.bind_eq_some_iff.mp hf
  refine go_iastore (pc := 19) (q := 0) ar_0 rfl hn_17 e2 d17_19 ?_
  refine go_aloadN (pc := 20) d17_20 rfl (go_dupR (pc := 21) d17_21 (go_getI (pc := 22) fs_53 hm_17 d17_22 (go_iconst (pc := 25) d17_25 ci_1 (go_iadd (pc := 26) d17_26 (go_putI (pc := 27) fs_53 hm_17 (wr_5 _) hn_17 d17_27 (go_aloadN (pc := 30) d17_30 rfl ?_))))))
  obtain ⟨r31, e3, hf⟩ := Option.bind_eq_some_iff.mp hf
  refine go_priv (pc := 31) (i := 0) (as := []) (rest := []) (w' := (none, [(9, r31)])) lk_0_108 pd_11 rfl oid_0 rfl rfl rfl rfl rfl rfl ⟨rfl, rfl, rfl, rfl, rfl⟩ d17_31 (c_k_clearDelta (sI (sA s 0 a19) 5 ((gI s 5) + (1 : Int32))) _ e3) ?_
  refine go_iloadN (pc := 34) d17_34 rfl (go_aloadN (pc := 35) d17_35 rfl (go_getA (pc := 36) fa_20 hm_17 d17_36 rfl (go_iloadN (pc := 39) d17_39 rfl ?_)))
  obtain ⟨a40, e4, hf⟩ := Option.bind_eq_some_iff.mp hf
  refine go_iaload (pc := 40) (q := 1) ar_1 rfl e4 d17_40 ?_
  refine go_ior (pc := 41) d17_41 (go_istore (pc := 42) (L' := [.val (.ref 1), .val (.int v1), .val (.int v2), .val (.int (k_bit v2)), .val (.int ((k_bit v2) ||| a40))]) d17_42 rfl (go_aloadN (pc := 44) d17_44 rfl (go_getA (pc := 45) fa_26 hm_17 d17_45 rfl (go_iloadN (pc := 48) d17_48 rfl (go_iload (pc := 49) d17_49 rfl (go_aloadN (pc := 51) d17_51 rfl (go_getA (pc := 52) fa_20 hm_17 d17_52 rfl ?_)))))))
  refine go_iloadN (pc := 55) d17_55 rfl ?_
  obtain ⟨a56, e5, hf⟩ := Option.bind_eq_some_iff.mp hf
  refine go_iaload (pc := 56) (q := 1) ar_1 rfl e5 d17_56 ?_
  refine go_iconst (pc := 57) d17_57 ci_m1 (go_ixor (pc := 58) d17_58 (go_iand (pc := 59) d17_59 ?_))
  obtain ⟨a60, e6, hf⟩ := Option.bind_eq_some_iff.mp hf
  refine go_iastore (pc := 60) (q := 3) ar_3 rfl hn_17 e6 d17_60 ?_
  refine go_aloadN (pc := 61) d17_61 rfl ?_
  obtain ⟨r62, e7, hf⟩ := Option.bind_eq_some_iff.mp hf
  refine go_priv (pc := 62) (i := 0) (as := []) (rest := []) (w' := (none, [(9, r62)])) lk_0_111 pd_16 rfl oid_0 rfl rfl rfl rfl rfl rfl ⟨rfl, rfl, rfl, rfl, rfl⟩ d17_62 (c_k_propagateAdditions (sA r31 3 a60) _ e7) ?_
  cases hf
  exact go_ret (pc := 65) rfl d17_65
theorem c_k_addEdgeAndPropagate (v1 : Int32) (v2 : Int32) (s : S) (o : S) (hf : k_addEdgeAndPropagate v1 v2 s = some o) : Call PP m17 [.ref 1, .int v1, .int v2] (none, [(9, s)]) (none, (none, [(9, o)])) := call_of_go pl_0 rfl (fun _ => rfl) (k_addEdgeAndPropagate_ok v1 v2 s   _ hf)
set_option maxRecDepth 65536 in
set_option maxHeartbeats 4000000 in
theorem k_popCount_30_ok  {s : S} : ∀ (v2 : Int32)  (x1 : Slot) (hx1 : k1 x1) (o : Int32), k_popCount_30 v2 = o → Go PP m18 30 [.val (.ref 1), x1, .val (.int v2)] [] (none, [(9, s)]) (some (.int o), (none, [(9, s)])) := by
  intro v2 x1 hx1 o hf
  unfold k_popCount_30 at hf
  refine go_iloadN (pc := 30) d18_30 rfl (go_ldc (pc := 31) (v := (16843009 : Int32)) d18_31 (List.mem_of_getElem? (i := 96) rfl) (go_imul (pc := 33) d18_33 (go_bipush (pc := 34) d18_34 cb_24 (go_iushr (pc := 36) d18_36 ?_))))
  cases hf
  exact go_iret (pc := 37) rfl d18_37
set_option maxRecDepth 65536 in
set_option maxHeartbeats 4000000 in
theorem k_popCount_ok  {s : S} : ∀ (v1 : Int32)   (o : Int32), k_popCount v1 = o → Go PP m18 0 [.val (.ref 1), .val (.int v1), .unset] [] (none, [(9, s)]) (some (.int o), (none, [(9, s)])) := by
  intro v1 o hf
  unfold k_popCount at hf
  refine go_iloadN (pc := 0) d18_0 rfl (go_iloadN (pc := 1) d18_1 rfl (go_iconst (pc := 2) d18_2 ci_1 (go_iushr (pc := 3) d18_3 (go_ldc (pc := 4) (v := (1431655765 : Int32)) d18_4 (List.mem_of_getElem? (i := 93) rfl) (go_iand (pc := 6) d18_6 (go_isub (pc := 7) d18_7 (go_istoreN (pc := 8) (L' := [.val (.ref 1), .val (.int v1), .val (.int (v1 - ((XT.ushr v1 (1 : Int32)) &&& (1431655765 : Int32))))]) d18_8 rfl ?_)))))))
  refine go_iloadN (pc := 9) d18_9 rfl (go_ldc (pc := 10) (v := (858993459 : Int32)) d18_10 (List.mem_of_getElem? (i := 94) rfl) (go_iand (pc := 12) d18_12 (go_iloadN (pc := 13) d18_13 rfl (go_iconst (pc := 14) d18_14 ci_2 (go_iushr (pc := 15) d18_15 (go_ldc (pc := 16) (v := (858993459 : Int32)) d18_16 (List.mem_of_getElem? (i := 94) rfl) (go_iand (pc := 18) d18_18 ?_)))))))
  refine go_iadd (pc := 19) d18_19 (go_istoreN (pc := 20) (L' := [.val (.ref 1), .val (.int v1), .val (.int (((v1 - ((XT.ushr v1 (1 : Int32)) &&& (1431655765 : Int32))) &&& (858993459 : Int32)) + ((XT.ushr (v1 - ((XT.ushr v1 (1 : Int32)) &&& (1431655765 : Int32))) (2 : Int32)) &&& (858993459 : Int32))))]) d18_20 rfl (go_iloadN (pc := 21) d18_21 rfl (go_iloadN (pc := 22) d18_22 rfl (go_iconst (pc := 23) d18_23 ci_4 (go_iushr (pc := 24) d18_24 (go_iadd (pc := 25) d18_25 (go_ldc (pc := 26) (v := (252645135 : Int32)) d18_26 (List.mem_of_getElem? (i := 95) rfl) ?_)))))))
  refine go_iand (pc := 28) d18_28 (go_istoreN (pc := 29) (L' := [.val (.ref 1), .val (.int v1), .val (.int (((((v1 - ((XT.ushr v1 (1 : Int32)) &&& (1431655765 : Int32))) &&& (858993459 : Int32)) + ((XT.ushr (v1 - ((XT.ushr v1 (1 : Int32)) &&& (1431655765 : Int32))) (2 : Int32)) &&& (858993459 : Int32))) + (XT.ushr (((v1 - ((XT.ushr v1 (1 : Int32)) &&& (1431655765 : Int32))) &&& (858993459 : Int32)) + ((XT.ushr (v1 - ((XT.ushr v1 (1 : Int32)) &&& (1431655765 : Int32))) (2 : Int32)) &&& (858993459 : Int32))) (4 : Int32))) &&& (252645135 : Int32)))]) d18_29 rfl ?_)
  exact k_popCount_30_ok (((((v1 - ((XT.ushr v1 (1 : Int32)) &&& (1431655765 : Int32))) &&& (858993459 : Int32)) + ((XT.ushr (v1 - ((XT.ushr v1 (1 : Int32)) &&& (1431655765 : Int32))) (2 : Int32)) &&& (858993459 : Int32))) + (XT.ushr (((v1 - ((XT.ushr v1 (1 : Int32)) &&& (1431655765 : Int32))) &&& (858993459 : Int32)) + ((XT.ushr (v1 - ((XT.ushr v1 (1 : Int32)) &&& (1431655765 : Int32))) (2 : Int32)) &&& (858993459 : Int32))) (4 : Int32))) &&& (252645135 : Int32)) (.val (.int v1)) (Or.inr ⟨_, rfl, rfl⟩) _ hf
theorem c_k_popCount (v1 : Int32) (s : S) : Call PP m18 [.ref 1, .int v1] (none, [(9, s)]) (some (.int (k_popCount v1)), (none, [(9, s)])) := call_of_go pl_0 rfl (fun h => nomatch h) (k_popCount_ok v1   _ rfl)
set_option maxRecDepth 65536 in
set_option maxHeartbeats 4000000 in
theorem k_countAdded_4_ok  : ∀ (n : Nat) (v1 : Int32) (v2 : Int32) (s : S)  (o : Int32), k_countAdded_4 n v1 v2 s = some o → Go PP m19 4 [.val (.ref 1), .val (.int v1), .val (.int v2)] [] (none, [(9, s)]) (some (.int o), (none, [(9, s)])) := by
  intro n
  induction n with
  | zero => intro v1 v2 s o hf; exact nomatch hf
  | succ n ih =>
    intro v1 v2 s o hf
    unfold k_countAdded_4 at hf
    refine go_iloadN (pc := 4) d19_4 rfl (go_aloadN (pc := 5) d19_5 rfl (go_getI (pc := 6) fs_44 hm_19 d19_6 ?_))
    by_cases h1 : v2 < (gI s 2)
    · replace hf := (if_pos h1).symm.trans hf
      refine go_icN (pc := 9) d19_9 (XT.ii_ge_f h1) ?_
      refine go_iloadN (pc := 12) d19_12 rfl (go_aloadN (pc := 13) d19_13 rfl (go_aloadN (pc := 14) d19_14 rfl (go_getA (pc := 15) fa_20 hm_19 d19_15 rfl (go_iloadN (pc := 18) d19_18 rfl ?_))))
      obtain ⟨a19, e2, hf⟩ := Option.bind_eq_some_iff.mp hf
      refine go_iaload (pc := 19) (q := 1) ar_1 rfl e2 d19_19 ?_
      refine go_aloadN (pc := 20) d19_20 rfl (go_getA (pc := 21) fa_23 hm_19 d19_21 rfl (go_iloadN (pc := 24) d19_24 rfl ?_))
      obtain ⟨a25, e3, hf⟩ := Option.bind_eq_some_iff.mp hf
      refine go_iaload (pc := 25) (q := 2) ar_2 rfl e3 d19_25 ?_
      refine go_iconst (pc := 26) d19_26 ci_m1 (go_ixor (pc := 27) d19_27 (go_iand (pc := 28) d19_28 ?_))
      refine go_priv (pc := 29) (i := 0) (as := [.int (a19 &&& (a25 ^^^ (-1 : Int32)))]) (rest := [.int v1]) (w' := (none, [(9, s)])) lk_0_101 pd_18 rfl oid_0 rfl rfl rfl rfl rfl rfl ⟨rfl, rfl, rfl, rfl, rfl⟩ d19_29 (c_k_popCount (a19 &&& (a25 ^^^ (-1 : Int32))) s) ?_
      refine go_iadd (pc := 32) d19_32 (go_istoreN (pc := 33) (L' := [.val (.ref 1), .val (.int (v1 + (k_popCount (a19 &&& (a25 ^^^ (-1 : Int32)))))), .val (.int v2)]) d19_33 rfl (go_iinc (pc := 34) (L' := [.val (.ref 1), .val (.int (v1 + (k_popCount (a19 &&& (a25 ^^^ (-1 : Int32)))))), .val (.int (v2 + (1 : Int32)))]) d19_34 rfl ci_1 rfl (go_goto (pc := 37) (pc' := 4) d19_37 j_37_m33 ?_)))
      exact ih (v1 + (k_popCount (a19 &&& (a25 ^^^ (-1 : Int32))))) (v2 + (1 : Int32)) s _ hf
    · replace hf := (if_neg h1).symm.trans hf
      refine go_icY (pc := 9) (pc' := 40) d19_9 (XT.ii_ge_t h1) j_9_31 ?_
      refine go_iloadN (pc := 40) d19_40 rfl ?_
      cases hf
      exact go_iret (pc := 41) rfl d19_41
set_option maxRecDepth 65536 in
set_option maxHeartbeats 4000000 in
theorem k_countAdded_ok  : ∀  (s : S)  (o : Int32), k_countAdded s = some o → Go PP m19 0 [.val (.ref 1), .unset, .unset] [] (none, [(9, s)]) (some (.int o), (none, [(9, s)])) := by
  intro s o hf
  unfold k_countAdded at hf
  refine go_iconst (pc := 0) d19_0 ci_0 (go_istoreN (pc := 1) (L' := [.val (.ref 1), .val (.int (0 : Int32)), .unset]) d19_1 rfl (go_iconst (pc := 2) d19_2 ci_0 (go_istoreN (pc := 3) (L' := [.val (.ref 1), .val (.int (0 : Int32)), .val (.int (0 : Int32))]) d19_3 rfl ?_)))
  exact k_countAdded_4_ok BIG (0 : Int32) (0 : Int32) s _ hf
theorem c_k_countAdded (s : S) (o : Int32) (hf : k_countAdded s = some o) : Call PP m19 [.ref 1] (none, [(9, s)]) (some (.int o), (none, [(9, s)])) := call_of_go pl_0 rfl (fun h => nomatch h) (k_countAdded_ok s   _ hf)
set_option maxRecDepth 65536 in
set_option maxHeartbeats 4000000 in
theorem k_insertEdge_ok  : ∀ (v1 : Int32) (v2 : Int32) (s : S)  (o : Int32 × S), k_insertEdge v1 v2 s = some o → Go PP m20 0 [.val (.ref 1), .val (.int v1), .val (.int v2)] [] (none, [(9, s)]) (some (.int o.1), (none, [(9, o.2)])) := by
  intro v1 v2 s o hf
  unfold k_insertEdge at hf
  refine go_aloadN (pc := 0) d20_0 rfl (go_iloadN (pc := 1) d20_1 rfl ?_)
  refine go_priv (pc := 2) (i := 0) (as := [.int v1]) (rest := []) (w' := (none, [(9, s)])) lk_0_65 pd_2 rfl oid_0 rfl rfl rfl rfl rfl rfl ⟨rfl, rfl, rfl, rfl, rfl⟩ d20_2 (c_k_isValid v1 s) ?_
  by_cases h1 : (k_isValid v1 s) = 0
  · replace hf := (if_pos h1).symm.trans hf
    refine go_ifY (pc := 5) (pc' := 16) d20_5 (XT.i0_eq_t h1) j_5_11 ?_
    refine go_iconst (pc := 16) d20_16 ci_m1 ?_
    cases hf
    exact go_iret (pc := 17) rfl d20_17
  · replace hf := (if_neg h1).symm.trans hf
    refine go_ifN (pc := 5) d20_5 (XT.i0_eq_f h1) ?_
    refine go_aloadN (pc := 8) d20_8 rfl (go_iloadN (pc := 9) d20_9 rfl ?_)
    refine go_priv (pc := 10) (i := 0) (as := [.int v2]) (rest := []) (w' := (none, [(9, s)])) lk_0_65 pd_2 rfl oid_0 rfl rfl rfl rfl rfl rfl ⟨rfl, rfl, rfl, rfl, rfl⟩ d20_10 (c_k_isValid v2 s) ?_
    by_cases h2 : (k_isValid v2 s) = 0
    · replace hf := (if_pos h2).symm.trans hf
      refine go_ifN (pc := 13) d20_13 (XT.i0_ne_f h2) ?_
      refine go_iconst (pc := 16) d20_16 ci_m1 ?_
      cases hf
      exact go_iret (pc := 17) rfl d20_17
    · replace hf := (if_neg h2).symm.trans hf
      refine go_ifY (pc := 13) (pc' := 18) d20_13 (XT.i0_ne_t h2) j_13_5 ?_
      refine go_aloadN (pc := 18) d20_18 rfl (go_iloadN (pc := 19) d20_19 rfl (go_iloadN (pc := 20) d20_20 rfl ?_))
      obtain ⟨r21, e3, hf⟩ := Option.bind_eq_some_iff.mp hf
      refine go_priv (pc := 21) (i := 0) (as := [.int v1, .int v2]) (rest := []) (w' := (none, [(9, s)])) lk_0_69 pd_3 rfl oid_0 rfl rfl rfl rfl rfl rfl ⟨rfl, rfl, rfl, rfl, rfl⟩ d20_21 (c_k_edgePresent v1 v2 s _ e3) ?_
      by_cases h4 : r21 = 0
      · replace hf := (if_pos h4).symm.trans hf
        refine go_ifY (pc := 24) (pc' := 30) d20_24 (XT.i0_eq_t h4) j_24_6 ?_
        refine go_aloadN (pc := 30) d20_30 rfl (go_getI (pc := 31) fs_53 hm_20 d20_31 (go_aloadN (pc := 34) d20_34 rfl (go_getI (pc := 35) fs_47 hm_20 d20_35 ?_)))
        by_cases h5 : (gI s 5) = (gI s 3)
        · replace hf := (if_pos h5).symm.trans hf
          refine go_icN (pc := 38) d20_38 (XT.ii_ne_f h5) ?_
          refine go_bipush (pc := 41) d20_41 cb_m4 ?_
          cases hf
          exact go_iret (pc := 43) rfl d20_43
        · replace hf := (if_neg h5).symm.trans hf
          refine go_icY (pc := 38) (pc' := 44) d20_38 (XT.ii_ne_t h5) j_38_6 ?_
          refine go_aloadN (pc := 44) d20_44 rfl ?_
          obtain ⟨r45, e6, hf⟩ := Option.bind_eq_some_iff.mp hf
          refine go_priv (pc := 45) (i := 0) (as := []) (rest := []) (w' := (none, [(9, r45)])) lk_0_73 pd_9 rfl oid_0 rfl rfl rfl rfl rfl rfl ⟨rfl, rfl, rfl, rfl, rfl⟩ d20_45 (c_k_takeSnapshot s _ e6) ?_
          refine go_aloadN (pc := 48) d20_48 rfl (go_iloadN (pc := 49) d20_49 rfl (go_iloadN (pc := 50) d20_50 rfl ?_))
          obtain ⟨r51, e7, hf⟩ := Option.bind_eq_some_iff.mp hf
          refine go_priv (pc := 51) (i := 0) (as := [.int v1, .int v2]) (rest := []) (w' := (none, [(9, r51)])) lk_0_76 pd_17 rfl oid_0 rfl rfl rfl rfl rfl rfl ⟨rfl, rfl, rfl, rfl, rfl⟩ d20_51 (c_k_addEdgeAndPropagate v1 v2 r45 _ e7) ?_
          refine go_aloadN (pc := 54) d20_54 rfl (go_aloadN (pc := 55) d20_55 rfl ?_)
          obtain ⟨r56, e8, hf⟩ := Option.bind_eq_some_iff.mp hf
          refine go_priv (pc := 56) (i := 0) (as := []) (rest := [.ref 1]) (w' := (none, [(9, r51)])) lk_0_80 pd_19 rfl oid_0 rfl rfl rfl rfl rfl rfl ⟨rfl, rfl, rfl, rfl, rfl⟩ d20_56 (c_k_countAdded r51 _ e8) ?_
          refine go_putI (pc := 59) fs_59 hm_20 (wr_7 _) hn_20 d20_59 (go_aloadN (pc := 62) d20_62 rfl (go_iconst (pc := 63) d20_63 ci_0 (go_putI (pc := 64) fs_62 hm_20 (wr_8 _) hn_20 d20_64 (go_aloadN (pc := 67) d20_67 rfl (go_getI (pc := 68) fs_59 hm_20 d20_68 ?_)))))
          cases hf
          exact go_iret (pc := 71) rfl d20_71
      · replace hf := (if_neg h4).symm.trans hf
        refine go_ifN (pc := 24) d20_24 (XT.i0_eq_f h4) ?_
        refine go_bipush (pc := 27) d20_27 cb_m2 ?_
        cases hf
        exact go_iret (pc := 29) rfl d20_29
theorem c_k_insertEdge (v1 : Int32) (v2 : Int32) (s : S) (o : Int32 × S) (hf : k_insertEdge v1 v2 s = some o) : Call PP m20 [.ref 1, .int v1, .int v2] (none, [(9, s)]) (some (.int o.1), (none, [(9, o.2)])) := call_of_go pl_0 rfl (fun h => nomatch h) (k_insertEdge_ok v1 v2 s   _ hf)
set_option maxRecDepth 65536 in
set_option maxHeartbeats 4000000 in
theorem k_clearDoomed_2_ok  : ∀ (n : Nat) (v1 : Int32) (s : S)  (o : S), k_clearDoomed_2 n v1 s = some o → Go PP m21 2 [.val (.ref 1), .val (.int v1)] [] (none, [(9, s)]) (none, (none, [(9, o)])) := by
  intro n
  induction n with
  | zero => intro v1 s o hf; exact nomatch hf
  | succ n ih =>
    intro v1 s o hf
    unfold k_clearDoomed_2 at hf
    refine go_iloadN (pc := 2) d21_2 rfl (go_bipush (pc := 3) d21_3 cb_32 ?_)
    by_cases h1 : v1 < (32 : Int32)
    · replace hf := (if_pos h1).symm.trans hf
      refine go_icN (pc := 5) d21_5 (XT.ii_ge_f h1) ?_
      refine go_aloadN (pc := 8) d21_8 rfl (go_getA (pc := 9) fa_32 hm_21 d21_9 rfl (go_iloadN (pc := 12) d21_12 rfl (go_iconst (pc := 13) d21_13 ci_0 ?_)))
      obtain ⟨a14, e2, hf⟩ := Option.bind_eq_some_iff.mp hf
      refine go_iastore (pc := 14) (q := 5) ar_5 rfl hn_21 e2 d21_14 ?_
      refine go_iinc (pc := 15) (L' := [.val (.ref 1), .val (.int (v1 + (1 : Int32)))]) d21_15 rfl ci_1 rfl (go_goto (pc := 18) (pc' := 2) d21_18 j_18_m16 ?_)
      exact ih (v1 + (1 : Int32)) (sA s 5 a14) _ hf
    · replace hf := (if_neg h1).symm.trans hf
      refine go_icY (pc := 5) (pc' := 21) d21_5 (XT.ii_ge_t h1) j_5_16 ?_
      cases hf
      exact go_ret (pc := 21) rfl d21_21
set_option maxRecDepth 65536 in
set_option maxHeartbeats 4000000 in
theorem k_clearDoomed_ok  : ∀  (s : S)  (o : S), k_clearDoomed s = some o → Go PP m21 0 [.val (.ref 1), .unset] [] (none, [(9, s)]) (none, (none, [(9, o)])) := by
  intro s o hf
  unfold k_clearDoomed at hf
  refine go_iconst (pc := 0) d21_0 ci_0 (go_istoreN (pc := 1) (L' := [.val (.ref 1), .val (.int (0 : Int32))]) d21_1 rfl ?_)
  exact k_clearDoomed_2_ok BIG (0 : Int32) s _ hf
theorem c_k_clearDoomed (s : S) (o : S) (hf : k_clearDoomed s = some o) : Call PP m21 [.ref 1] (none, [(9, s)]) (none, (none, [(9, o)])) := call_of_go pl_0 rfl (fun _ => rfl) (k_clearDoomed_ok s   _ hf)
set_option maxRecDepth 65536 in
set_option maxHeartbeats 4000000 in
theorem k_absorbDoomed_4_ok  : ∀ (n : Nat) (v1 : Int32) (v2 : Int32) (s : S) (x3 : Slot) (hx3 : k1 x3) (o : Int32 × S), k_absorbDoomed_4 n v1 v2 s = some o → Go PP m22 4 [.val (.ref 1), .val (.int v1), .val (.int v2), x3] [] (none, [(9, s)]) (some (.int o.1), (none, [(9, o.2)])) := by
  intro n
  induction n with
  | zero => intro v1 v2 s x3 hx3 o hf; exact nomatch hf
  | succ n ih =>
    intro v1 v2 s x3 hx3 o hf
    unfold k_absorbDoomed_4 at hf
    refine go_iloadN (pc := 4) d22_4 rfl (go_aloadN (pc := 5) d22_5 rfl (go_getI (pc := 6) fs_44 hm_22 d22_6 ?_))
    by_cases h1 : v2 < (gI s 2)
    · replace hf := (if_pos h1).symm.trans hf
      refine go_icN (pc := 9) d22_9 (XT.ii_ge_f h1) ?_
      refine go_aloadN (pc := 12) d22_12 rfl (go_getA (pc := 13) fa_26 hm_22 d22_13 rfl (go_iloadN (pc := 16) d22_16 rfl ?_))
      obtain ⟨a17, e2, hf⟩ := Option.bind_eq_some_iff.mp hf
      refine go_iaload (pc := 17) (q := 3) ar_3 rfl e2 d22_17 ?_
      refine go_istoreN (pc := 18) (L' := [.val (.ref 1), .val (.int v1), .val (.int v2), .val (.int a17)]) d22_18 (stx rfl hx3 rfl) (go_iloadN (pc := 19) d22_19 rfl ?_)
      by_cases h3 : a17 = 0
      · replace hf := (if_pos h3).symm.trans hf
        refine go_ifY (pc := 20) (pc' := 39) d22_20 (XT.i0_eq_t h3) j_20_19 ?_
        refine go_iinc (pc := 39) (L' := [.val (.ref 1), .val (.int v1), .val (.int (v2 + (1 : Int32))), .val (.int a17)]) d22_39 rfl ci_1 rfl (go_goto (pc := 42) (pc' := 4) d22_42 j_42_m38 ?_)
        exact ih v1 (v2 + (1 : Int32)) s (.val (.int a17)) (Or.inr ⟨_, rfl, rfl⟩) _ hf
      · replace hf := (if_neg h3).symm.trans hf
        refine go_ifN (pc := 20) d22_20 (XT.i0_eq_f h3) ?_
        refine go_aloadN (pc := 23) d22_23 rfl (go_getA (pc := 24) fa_32 hm_22 d22_24 rfl (go_iloadN (pc := 27) d22_27 rfl (go_aloadN (pc := 28) d22_28 rfl (go_getA (pc := 29) fa_32 hm_22 d22_29 rfl (go_iloadN (pc := 32) d22_32 rfl ?_)))))
        obtain ⟨a33, e4, hf⟩ := Option.bind_eq_some_iff.mp hf
        refine go_iaload (pc := 33) (q := 5) ar_5 rfl e4 d22_33 ?_
        refine go_iloadN (pc := 34) d22_34 rfl (go_ior (pc := 35) d22_35 ?_)
        obtain ⟨a36, e5, hf⟩ := Option.bind_eq_some_iff.mp hf
        refine go_iastore (pc := 36) (q := 5) ar_5 rfl hn_22 e5 d22_36 ?_
        refine go_iconst (pc := 37) d22_37 ci_1 (go_istoreN (pc := 38) (L' := [.val (.ref 1), .val (.int (1 : Int32)), .val (.int v2), .val (.int a17)]) d22_38 rfl (go_iinc (pc := 39) (L' := [.val (.ref 1), .val (.int (1 : Int32)), .val (.int (v2 + (1 : Int32))), .val (.int a17)]) d22_39 rfl ci_1 rfl (go_goto (pc := 42) (pc' := 4) d22_42 j_42_m38 ?_)))
        exact ih (1 : Int32) (v2 + (1 : Int32)) (sA s 5 a36) (.val (.int a17)) (Or.inr ⟨_, rfl, rfl⟩) _ hf
    · replace hf := (if_neg h1).symm.trans hf
      refine go_icY (pc := 9) (pc' := 45) d22_9 (XT.ii_ge_t h1) j_9_36 ?_
      refine go_iloadN (pc := 45) d22_45 rfl ?_
      cases hf
      exact go_zret (pc := 46) rfl d22_46 rfl
set_option maxRecDepth 65536 in
set_option maxHeartbeats 4000000 in
theorem k_absorbDoomed_ok  : ∀  (s : S)  (o : Int32 × S), k_absorbDoomed s = some o → Go PP m22 0 [.val (.ref 1), .unset, .unset, .unset] [] (none, [(9, s)]) (some (.int o.1), (none, [(9, o.2)])) := by
  intro s o hf
  unfold k_absorbDoomed at hf
  refine go_iconst (pc := 0) d22_0 ci_0 (go_istoreN (pc := 1) (L' := [.val (.ref 1), .val (.int (0 : Int32)), .unset, .unset]) d22_1 rfl (go_iconst (pc := 2) d22_2 ci_0 (go_istoreN (pc := 3) (L' := [.val (.ref 1), .val (.int (0 : Int32)), .val (.int (0 : Int32)), .unset]) d22_3 rfl ?_)))
  exact k_absorbDoomed_4_ok BIG (0 : Int32) (0 : Int32) s .unset (Or.inl rfl) _ hf
theorem c_k_absorbDoomed (s : S) (o : Int32 × S) (hf : k_absorbDoomed s = some o) : Call PP m22 [.ref 1] (none, [(9, s)]) (some (.int o.1), (none, [(9, o.2)])) := call_of_go pl_0 rfl (fun h => nomatch h) (k_absorbDoomed_ok s   _ hf)
set_option maxRecDepth 65536 in
set_option maxHeartbeats 4000000 in
theorem k_computeNextDoomed_2_ok  : ∀ (n : Nat) (v1 : Int32) (s : S) (x2 : Slot) (hx2 : k1 x2) (o : S), k_computeNextDoomed_2 n v1 s = some o → Go PP m23 2 [.val (.ref 1), .val (.int v1), x2] [] (none, [(9, s)]) (none, (none, [(9, o)])) := by
  intro n
  induction n with
  | zero => intro v1 s x2 hx2 o hf; exact nomatch hf
  | succ n ih =>
    intro v1 s x2 hx2 o hf
    unfold k_computeNextDoomed_2 at hf
    refine go_iloadN (pc := 2) d23_2 rfl (go_aloadN (pc := 3) d23_3 rfl (go_getI (pc := 4) fs_44 hm_23 d23_4 ?_))
    by_cases h1 : v1 < (gI s 2)
    · replace hf := (if_pos h1).symm.trans hf
      refine go_icN (pc := 7) d23_7 (XT.ii_ge_f h1) ?_
      refine go_aloadN (pc := 10) d23_10 rfl (go_iloadN (pc := 11) d23_11 rfl ?_)
      obtain ⟨r12, e2, hf⟩ := Option.bind_eq_some_iff.mp hf
      refine go_priv (pc := 12) (i := 0) (as := [.int v1]) (rest := []) (w' := (none, [(9, s)])) lk_0_124 pd_13 rfl oid_0 rfl rfl rfl rfl rfl rfl ⟨rfl, rfl, rfl, rfl, rfl⟩ d23_12 (c_k_gatherDelta v1 s _ e2) ?_
      refine go_istoreN (pc := 15) (L' := [.val (.ref 1), .val (.int v1), .val (.int r12)]) d23_15 (stx rfl hx2 rfl) (go_aloadN (pc := 16) d23_16 rfl (go_getA (pc := 17) fa_29 hm_23 d23_17 rfl (go_iloadN (pc := 20) d23_20 rfl (go_iloadN (pc := 21) d23_21 rfl (go_aloadN (pc := 22) d23_22 rfl (go_getA (pc := 23) fa_20 hm_23 d23_23 rfl (go_iloadN (pc := 26) d23_26 rfl ?_)))))))
      obtain ⟨a27, e3, hf⟩ := Option.bind_eq_some_iff.mp hf
      refine go_iaload (pc := 27) (q := 1) ar_1 rfl e3 d23_27 ?_
      refine go_iand (pc := 28) d23_28 (go_aloadN (pc := 29) d23_29 rfl (go_getA (pc := 30) fa_32 hm_23 d23_30 rfl (go_iloadN (pc := 33) d23_33 rfl ?_)))
      obtain ⟨a34, e4, hf⟩ := Option.bind_eq_some_iff.mp hf
      refine go_iaload (pc := 34) (q := 5) ar_5 rfl e4 d23_34 ?_
      refine go_iconst (pc := 35) d23_35 ci_m1 (go_ixor (pc := 36) d23_36 (go_iand (pc := 37) d23_37 ?_))
      obtain ⟨a38, e5, hf⟩ := Option.bind_eq_some_iff.mp hf
      refine go_iastore (pc := 38) (q := 4) ar_4 rfl hn_23 e5 d23_38 ?_
      refine go_iinc (pc := 39) (L' := [.val (.ref 1), .val (.int (v1 + (1 : Int32))), .val (.int r12)]) d23_39 rfl ci_1 rfl (go_goto (pc := 42) (pc' := 2) d23_42 j_42_m40 ?_)
      exact ih (v1 + (1 : Int32)) (sA s 4 a38) (.val (.int r12)) (Or.inr ⟨_, rfl, rfl⟩) _ hf
    · replace hf := (if_neg h1).symm.trans hf
      refine go_icY (pc := 7) (pc' := 45) d23_7 (XT.ii_ge_t h1) j_7_38 ?_
      cases hf
      exact go_ret (pc := 45) rfl d23_45
set_option maxRecDepth 65536 in
set_option maxHeartbeats 4000000 in
theorem k_computeNextDoomed_ok  : ∀  (s : S)  (o : S), k_computeNextDoomed s = some o → Go PP m23 0 [.val (.ref 1), .unset, .unset] [] (none, [(9, s)]) (none, (none, [(9, o)])) := by
  intro s o hf
  unfold k_computeNextDoomed at hf
  refine go_iconst (pc := 0) d23_0 ci_0 (go_istoreN (pc := 1) (L' := [.val (.ref 1), .val (.int (0 : Int32)), .unset]) d23_1 rfl ?_)
  exact k_computeNextDoomed_2_ok BIG (0 : Int32) s .unset (Or.inl rfl) _ hf
theorem c_k_computeNextDoomed (s : S) (o : S) (hf : k_computeNextDoomed s = some o) : Call PP m23 [.ref 1] (none, [(9, s)]) (none, (none, [(9, o)])) := call_of_go pl_0 rfl (fun _ => rfl) (k_computeNextDoomed_ok s   _ hf)
set_option maxRecDepth 65536 in
set_option maxHeartbeats 4000000 in
theorem k_overDelete_42_ok  : ∀ (n : Nat) (v5 : Int32) (s : S) (x1 : Slot) (x2 : Slot) (x3 : Slot) (x4 : Slot) (hx1 : k1 x1) (hx2 : k1 x2) (hx3 : k1 x3) (hx4 : k1 x4) (o : S), k_overDelete_42 n v5 s = some o → Go PP m24 42 [.val (.ref 1), x1, x2, x3, x4, .val (.int v5)] [] (none, [(9, s)]) (none, (none, [(9, o)])) := by
  intro n
  induction n with
  | zero => intro v5 s x1 x2 x3 x4 hx1 hx2 hx3 hx4 o hf; exact nomatch hf
  | succ n ih =>
    intro v5 s x1 x2 x3 x4 hx1 hx2 hx3 hx4 o hf
    unfold k_overDelete_42 at hf
    refine go_iload (pc := 42) d24_42 rfl (go_aloadN (pc := 44) d24_44 rfl (go_getI (pc := 45) fs_50 hm_24 d24_45 ?_))
    by_cases h1 : v5 < (gI s 4)
    · replace hf := (if_pos h1).symm.trans hf
      refine go_icN (pc := 48) d24_48 (XT.ii_ge_f h1) ?_
      refine go_aloadN (pc := 51) d24_51 rfl ?_
      obtain ⟨r52, e2, hf⟩ := Option.bind_eq_some_iff.mp hf
      refine go_priv (pc := 52) (i := 0) (as := []) (rest := []) (w' := (none, [(9, r52.2)])) lk_0_139 pd_22 rfl oid_0 rfl rfl rfl rfl rfl rfl ⟨rfl, rfl, rfl, rfl, rfl⟩ d24_52 (c_k_absorbDoomed s _ e2) ?_
      by_cases h3 : r52.1 = 0
      · replace hf := (if_pos h3).symm.trans hf
        refine go_ifN (pc := 55) d24_55 (XT.i0_ne_f h3) ?_
        cases hf
        exact go_ret (pc := 58) rfl d24_58
      · replace hf := (if_neg h3).symm.trans hf
        refine go_ifY (pc := 55) (pc' := 59) d24_55 (XT.i0_ne_t h3) j_55_4 ?_
        refine go_aloadN (pc := 59) d24_59 rfl ?_
        obtain ⟨r60, e4, hf⟩ := Option.bind_eq_some_iff.mp hf
        refine go_priv (pc := 60) (i := 0) (as := []) (rest := []) (w' := (none, [(9, r60)])) lk_0_142 pd_23 rfl oid_0 rfl rfl rfl rfl rfl rfl ⟨rfl, rfl, rfl, rfl, rfl⟩ d24_60 (c_k_computeNextDoomed r52.2 _ e4) ?_
        refine go_aloadN (pc := 63) d24_63 rfl ?_
        obtain ⟨r64, e5, hf⟩ := Option.bind_eq_some_iff.mp hf
        refine go_priv (pc := 64) (i := 0) (as := []) (rest := []) (w' := (none, [(9, r64)])) lk_0_121 pd_15 rfl oid_0 rfl rfl rfl rfl rfl rfl ⟨rfl, rfl, rfl, rfl, rfl⟩ d24_64 (c_k_shiftDelta r60 _ e5) ?_
        refine go_iinc (pc := 67) (L' := [.val (.ref 1), x1, x2, x3, x4, .val (.int (v5 + (1 : Int32)))]) d24_67 rfl ci_1 rfl (go_goto (pc := 70) (pc' := 42) d24_70 j_70_m28 ?_)
        exact ih (v5 + (1 : Int32)) r64 x1 x2 x3 x4 hx1 hx2 hx3 hx4 _ hf
    · replace hf := (if_neg h1).symm.trans hf
      refine go_icY (pc := 48) (pc' := 73) d24_48 (XT.ii_ge_t h1) j_48_25 ?_
      cases hf
      exact go_ret (pc := 73) rfl d24_73
set_option maxRecDepth 65536 in
set_option maxHeartbeats 4000000 in
theorem k_overDelete_ok  : ∀ (v1 : Int32) (v2 : Int32) (s : S)  (o : S), k_overDelete v1 v2 s = some o → Go PP m24 0 [.val (.ref 1), .val (.int v1), .val (.int v2), .unset, .unset, .unset] [] (none, [(9, s)]) (none, (none, [(9, o)])) := by
  intro v1 v2 s o hf
  unfold k_overDelete at hf
  refine go_aloadN (pc := 0) d24_0 rfl ?_
  obtain ⟨r1, e1, hf⟩ := Option.bind_eq_some_iff.mp hf
  refine go_priv (pc := 1) (i := 0) (as := []) (rest := []) (w' := (none, [(9, r1)])) lk_0_136 pd_21 rfl oid_0 rfl rfl rfl rfl rfl rfl ⟨rfl, rfl, rfl, rfl, rfl⟩ d24_1 (c_k_clearDoomed s _ e1) ?_
  refine go_aloadN (pc := 4) d24_4 rfl ?_
  obtain ⟨r5, e2, hf⟩ := Option.bind_eq_some_iff.mp hf
  refine go_priv (pc := 5) (i := 0) (as := []) (rest := []) (w' := (none, [(9, r5)])) lk_0_108 pd_11 rfl oid_0 rfl rfl rfl rfl rfl rfl ⟨rfl, rfl, rfl, rfl, rfl⟩ d24_5 (c_k_clearDelta r1 _ e2) ?_
  refine go_aloadN (pc := 8) d24_8 rfl (go_iloadN (pc := 9) d24_9 rfl ?_)
  refine go_priv (pc := 10) (i := 0) (as := [.int v2]) (rest := []) (w' := (none, [(9, r5)])) lk_0_105 pd_10 rfl oid_0 rfl rfl rfl rfl rfl rfl ⟨rfl, rfl, rfl, rfl, rfl⟩ d24_10 (c_k_bit v2 r5) ?_
  refine go_istoreN (pc := 13) (L' := [.val (.ref 1), .val (.int v1), .val (.int v2), .val (.int (k_bit v2)), .unset, .unset]) d24_13 rfl (go_iloadN (pc := 14) d24_14 rfl (go_aloadN (pc := 15) d24_15 rfl (go_getA (pc := 16) fa_20 hm_24 d24_16 rfl (go_iloadN (pc := 19) d24_19 rfl ?_))))
  obtain ⟨a20, e3, hf⟩ := Option.bind_eq_some_iff.mp hf
  refine go_iaload (pc := 20) (q := 1) ar_1 rfl e3 d24_20 ?_
  refine go_ior (pc := 21) d24_21 (go_istore (pc := 22) (L' := [.val (.ref 1), .val (.int v1), .val (.int v2), .val (.int (k_bit v2)), .val (.int ((k_bit v2) ||| a20)), .unset]) d24_22 rfl (go_aloadN (pc := 24) d24_24 rfl (go_getA (pc := 25) fa_26 hm_24 d24_25 rfl (go_iloadN (pc := 28) d24_28 rfl (go_iload (pc := 29) d24_29 rfl (go_aloadN (pc := 31) d24_31 rfl (go_getA (pc := 32) fa_20 hm_24 d24_32 rfl ?_)))))))
  refine go_iloadN (pc := 35) d24_35 rfl ?_
  obtain ⟨a36, e4, hf⟩ := Option.bind_eq_some_iff.mp hf
  refine go_iaload (pc := 36) (q := 1) ar_1 rfl e4 d24_36 ?_
  refine go_iand (pc := 37) d24_37 ?_
  obtain ⟨a38, e5, hf⟩ := Option.bind_eq_some_iff.mp hf
  refine go_iastore (pc := 38) (q := 3) ar_3 rfl hn_24 e5 d24_38 ?_
  refine go_iconst (pc := 39) d24_39 ci_0 (go_istore (pc := 40) (L' := [.val (.ref 1), .val (.int v1), .val (.int v2), .val (.int (k_bit v2)), .val (.int ((k_bit v2) ||| a20)), .val (.int (0 : Int32))]) d24_40 rfl ?_)
  exact k_overDelete_42_ok BIG (0 : Int32) (sA r5 3 a38) (.val (.int v1)) (.val (.int v2)) (.val (.int (k_bit v2))) (.val (.int ((k_bit v2) ||| a20))) (Or.inr ⟨_, rfl, rfl⟩) (Or.inr ⟨_, rfl, rfl⟩) (Or.inr ⟨_, rfl, rfl⟩) (Or.inr ⟨_, rfl, rfl⟩) _ hf
theorem c_k_overDelete (v1 : Int32) (v2 : Int32) (s : S) (o : S) (hf : k_overDelete v1 v2 s = some o) : Call PP m24 [.ref 1, .int v1, .int v2] (none, [(9, s)]) (none, (none, [(9, o)])) := call_of_go pl_0 rfl (fun _ => rfl) (k_overDelete_ok v1 v2 s   _ hf)
set_option maxRecDepth 65536 in
set_option maxHeartbeats 4000000 in
theorem k_dropDoomed_2_ok  : ∀ (n : Nat) (v1 : Int32) (s : S)  (o : S), k_dropDoomed_2 n v1 s = some o → Go PP m25 2 [.val (.ref 1), .val (.int v1)] [] (none, [(9, s)]) (none, (none, [(9, o)])) := by
  intro n
  induction n with
  | zero => intro v1 s o hf; exact nomatch hf
  | succ n ih =>
    intro v1 s o hf
    unfold k_dropDoomed_2 at hf
    refine go_iloadN (pc := 2) d25_2 rfl (go_aloadN (pc := 3) d25_3 rfl (go_getI (pc := 4) fs_44 hm_25 d25_4 ?_))
    by_cases h1 : v1 < (gI s 2)
    · replace hf := (if_pos h1).symm.trans hf
      refine go_icN (pc := 7) d25_7 (XT.ii_ge_f h1) ?_
      refine go_aloadN (pc := 10) d25_10 rfl (go_getA (pc := 11) fa_20 hm_25 d25_11 rfl (go_iloadN (pc := 14) d25_14 rfl (go_aloadN (pc := 15) d25_15 rfl (go_getA (pc := 16) fa_20 hm_25 d25_16 rfl (go_iloadN (pc := 19) d25_19 rfl ?_)))))
      obtain ⟨a20, e2, hf⟩ := Option.bind_eq_some_iff.mp hf
      refine go_iaload (pc := 20) (q := 1) ar_1 rfl e2 d25_20 ?_
      refine go_aloadN (pc := 21) d25_21 rfl (go_getA (pc := 22) fa_32 hm_25 d25_22 rfl (go_iloadN (pc := 25) d25_25 rfl ?_))
      obtain ⟨a26, e3, hf⟩ := Option.bind_eq_some_iff.mp hf
      refine go_iaload (pc := 26) (q := 5) ar_5 rfl e3 d25_26 ?_
      refine go_iconst (pc := 27) d25_27 ci_m1 (go_ixor (pc := 28) d25_28 (go_iand (pc := 29) d25_29 ?_))
      obtain ⟨a30, e4, hf⟩ := Option.bind_eq_some_iff.mp hf
      refine go_iastore (pc := 30) (q := 1) ar_1 rfl hn_25 e4 d25_30 ?_
      refine go_iinc (pc := 31) (L' := [.val (.ref 1), .val (.int (v1 + (1 : Int32)))]) d25_31 rfl ci_1 rfl (go_goto (pc := 34) (pc' := 2) d25_34 j_34_m32 ?_)
      exact ih (v1 + (1 : Int32)) (sA s 1 a30) _ hf
    · replace hf := (if_neg h1).symm.trans hf
      refine go_icY (pc := 7) (pc' := 37) d25_7 (XT.ii_ge_t h1) j_7_30 ?_
      cases hf
      exact go_ret (pc := 37) rfl d25_37
set_option maxRecDepth 65536 in
set_option maxHeartbeats 4000000 in
theorem k_dropDoomed_ok  : ∀  (s : S)  (o : S), k_dropDoomed s = some o → Go PP m25 0 [.val (.ref 1), .unset] [] (none, [(9, s)]) (none, (none, [(9, o)])) := by
  intro s o hf
  unfold k_dropDoomed at hf
  refine go_iconst (pc := 0) d25_0 ci_0 (go_istoreN (pc := 1) (L' := [.val (.ref 1), .val (.int (0 : Int32))]) d25_1 rfl ?_)
  exact k_dropDoomed_2_ok BIG (0 : Int32) s _ hf
theorem c_k_dropDoomed (s : S) (o : S) (hf : k_dropDoomed s = some o) : Call PP m25 [.ref 1] (none, [(9, s)]) (none, (none, [(9, o)])) := call_of_go pl_0 rfl (fun _ => rfl) (k_dropDoomed_ok s   _ hf)
set_option maxRecDepth 65536 in
set_option maxHeartbeats 4000000 in
theorem k_gatherReach_12_ok  : ∀ (n : Nat) (v2 : Int32) (v3 : Int32) (v4 : Int32) (s : S) (x1 : Slot) (hx1 : k1 x1) (o : Int32), k_gatherReach_12 n v2 v3 v4 s = some o → Go PP m26 12 [.val (.ref 1), x1, .val (.int v2), .val (.int v3), .val (.int v4)] [] (none, [(9, s)]) (some (.int o), (none, [(9, s)])) := by
  intro n
  induction n with
  | zero => intro v2 v3 v4 s x1 hx1 o hf; exact nomatch hf
  | succ n ih =>
    intro v2 v3 v4 s x1 hx1 o hf
    unfold k_gatherReach_12 at hf
    refine go_iload (pc := 12) d26_12 rfl (go_aloadN (pc := 14) d26_14 rfl (go_getI (pc := 15) fs_44 hm_26 d26_15 ?_))
    by_cases h1 : v4 < (gI s 2)
    · replace hf := (if_pos h1).symm.trans hf
      refine go_icN (pc := 18) d26_18 (XT.ii_ge_f h1) ?_
      refine go_iloadN (pc := 21) d26_21 rfl (go_iload (pc := 22) d26_22 rfl (go_iushr (pc := 24) d26_24 (go_iconst (pc := 25) d26_25 ci_1 (go_iand (pc := 26) d26_26 ?_))))
      by_cases h2 : ((XT.ushr v2 v4) &&& (1 : Int32)) = 0
      · replace hf := (if_pos h2).symm.trans hf
        refine go_ifY (pc := 27) (pc' := 40) d26_27 (XT.i0_eq_t h2) j_27_13 ?_
        refine go_iinc (pc := 40) (L' := [.val (.ref 1), x1, .val (.int v2), .val (.int v3), .val (.int (v4 + (1 : Int32)))]) d26_40 rfl ci_1 rfl (go_goto (pc := 43) (pc' := 12) d26_43 j_43_m31 ?_)
        exact ih v2 v3 (v4 + (1 : Int32)) s x1 hx1 _ hf
      · replace hf := (if_neg h2).symm.trans hf
        refine go_ifN (pc := 27) d26_27 (XT.i0_eq_f h2) ?_
        refine go_iloadN (pc := 30) d26_30 rfl (go_aloadN (pc := 31) d26_31 rfl (go_getA (pc := 32) fa_20 hm_26 d26_32 rfl (go_iload (pc := 35) d26_35 rfl ?_)))
        obtain ⟨a37, e3, hf⟩ := Option.bind_eq_some_iff.mp hf
        refine go_iaload (pc := 37) (q := 1) ar_1 rfl e3 d26_37 ?_
        refine go_ior (pc := 38) d26_38 (go_istoreN (pc := 39) (L' := [.val (.ref 1), x1, .val (.int v2), .val (.int (v3 ||| a37)), .val (.int v4)]) d26_39 rfl (go_iinc (pc := 40) (L' := [.val (.ref 1), x1, .val (.int v2), .val (.int (v3 ||| a37)), .val (.int (v4 + (1 : Int32)))]) d26_40 rfl ci_1 rfl (go_goto (pc := 43) (pc' := 12) d26_43 j_43_m31 ?_)))
        exact ih v2 (v3 ||| a37) (v4 + (1 : Int32)) s x1 hx1 _ hf
    · replace hf := (if_neg h1).symm.trans hf
      refine go_icY (pc := 18) (pc' := 46) d26_18 (XT.ii_ge_t h1) j_18_28 ?_
      refine go_iloadN (pc := 46) d26_46 rfl ?_
      cases hf
      exact go_iret (pc := 47) rfl d26_47
set_option maxRecDepth 65536 in
set_option maxHeartbeats 4000000 in
theorem k_gatherReach_ok  : ∀ (v1 : Int32) (s : S)  (o : Int32), k_gatherReach v1 s = some o → Go PP m26 0 [.val (.ref 1), .val (.int v1), .unset, .unset, .unset] [] (none, [(9, s)]) (some (.int o), (none, [(9, s)])) := by
  intro v1 s o hf
  unfold k_gatherReach at hf
  refine go_aloadN (pc := 0) d26_0 rfl (go_getA (pc := 1) fa_16 hm_26 d26_1 rfl (go_iloadN (pc := 4) d26_4 rfl ?_))
  obtain ⟨a5, e1, hf⟩ := Option.bind_eq_some_iff.mp hf
  refine go_iaload (pc := 5) (q := 0) ar_0 rfl e1 d26_5 ?_
  refine go_istoreN (pc := 6) (L' := [.val (.ref 1), .val (.int v1), .val (.int a5), .unset, .unset]) d26_6 rfl (go_iconst (pc := 7) d26_7 ci_0 (go_istoreN (pc := 8) (L' := [.val (.ref 1), .val (.int v1), .val (.int a5), .val (.int (0 : Int32)), .unset]) d26_8 rfl (go_iconst (pc := 9) d26_9 ci_0 (go_istore (pc := 10) (L' := [.val (.ref 1), .val (.int v1), .val (.int a5), .val (.int (0 : Int32)), .val (.int (0 : Int32))]) d26_10 rfl ?_))))
  exact k_gatherReach_12_ok BIG a5 (0 : Int32) (0 : Int32) s (.val (.int v1)) (Or.inr ⟨_, rfl, rfl⟩) _ hf
theorem c_k_gatherReach (v1 : Int32) (s : S) (o : Int32) (hf : k_gatherReach v1 s = some o) : Call PP m26 [.ref 1, .int v1] (none, [(9, s)]) (some (.int o), (none, [(9, s)])) := call_of_go pl_0 rfl (fun h => nomatch h) (k_gatherReach_ok v1 s   _ hf)
set_option maxRecDepth 65536 in
set_option maxHeartbeats 4000000 in
theorem k_rederive_62_ok  : ∀  (s : S) (x1 : Slot) (x2 : Slot) (x3 : Slot) (hx1 : k1 x1) (hx2 : k1 x2) (hx3 : k1 x3) (o : S), k_rederive_62 s = some o → Go PP m27 62 [.val (.ref 1), x1, x2, x3] [] (none, [(9, s)]) (none, (none, [(9, o)])) := by
  intro s x1 x2 x3 hx1 hx2 hx3 o hf
  unfold k_rederive_62 at hf
  refine go_aloadN (pc := 62) d27_62 rfl ?_
  obtain ⟨r63, e1, hf⟩ := Option.bind_eq_some_iff.mp hf
  refine go_priv (pc := 63) (i := 0) (as := []) (rest := []) (w' := (none, [(9, r63)])) lk_0_111 pd_16 rfl oid_0 rfl rfl rfl rfl rfl rfl ⟨rfl, rfl, rfl, rfl, rfl⟩ d27_63 (c_k_propagateAdditions s _ e1) ?_
  cases hf
  exact go_ret (pc := 66) rfl d27_66
set_option maxRecDepth 65536 in
set_option maxHeartbeats 4000000 in
theorem k_rederive_6_ok  : ∀ (n : Nat) (v1 : Int32) (s : S) (x2 : Slot) (x3 : Slot) (hx2 : k1 x2) (hx3 : k1 x3) (o : S), k_rederive_6 n v1 s = some o → Go PP m27 6 [.val (.ref 1), .val (.int v1), x2, x3] [] (none, [(9, s)]) (none, (none, [(9, o)])) := by
  intro n
  induction n with
  | zero => intro v1 s x2 x3 hx2 hx3 o hf; exact nomatch hf
  | succ n ih =>
    intro v1 s x2 x3 hx2 hx3 o hf
    unfold k_rederive_6 at hf
    refine go_iloadN (pc := 6) d27_6 rfl (go_aloadN (pc := 7) d27_7 rfl (go_getI (pc := 8) fs_44 hm_27 d27_8 ?_))
    by_cases h1 : v1 < (gI s 2)
    · replace hf := (if_pos h1).symm.trans hf
      refine go_icN (pc := 11) d27_11 (XT.ii_ge_f h1) ?_
      refine go_aloadN (pc := 14) d27_14 rfl (go_getA (pc := 15) fa_32 hm_27 d27_15 rfl (go_iloadN (pc := 18) d27_18 rfl ?_))
      obtain ⟨a19, e2, hf⟩ := Option.bind_eq_some_iff.mp hf
      refine go_iaload (pc := 19) (q := 5) ar_5 rfl e2 d27_19 ?_
      refine go_istoreN (pc := 20) (L' := [.val (.ref 1), .val (.int v1), .val (.int a19), x3]) d27_20 (stx rfl hx2 rfl) (go_iloadN (pc := 21) d27_21 rfl ?_)
      by_cases h3 : a19 = 0
      · replace hf := (if_pos h3).symm.trans hf
        refine go_ifY (pc := 22) (pc' := 56) d27_22 (XT.i0_eq_t h3) j_22_34 ?_
        refine go_iinc (pc := 56) (L' := [.val (.ref 1), .val (.int (v1 + (1 : Int32))), .val (.int a19), x3]) d27_56 rfl ci_1 rfl (go_goto (pc := 59) (pc' := 6) d27_59 j_59_m53 ?_)
        exact ih (v1 + (1 : Int32)) s (.val (.int a19)) x3 (Or.inr ⟨_, rfl, rfl⟩) hx3 _ hf
      · replace hf := (if_neg h3).symm.trans hf
        refine go_ifN (pc := 22) d27_22 (XT.i0_eq_f h3) ?_
        refine go_aloadN (pc := 25) d27_25 rfl (go_getA (pc := 26) fa_16 hm_27 d27_26 rfl (go_iloadN (pc := 29) d27_29 rfl ?_))
        obtain ⟨a30, e4, hf⟩ := Option.bind_eq_some_iff.mp hf
        refine go_iaload (pc := 30) (q := 0) ar_0 rfl e4 d27_30 ?_
        refine go_aloadN (pc := 31) d27_31 rfl (go_iloadN (pc := 32) d27_32 rfl ?_)
        obtain ⟨r33, e5, hf⟩ := Option.bind_eq_some_iff.mp hf
        refine go_priv (pc := 33) (i := 0) (as := [.int v1]) (rest := [.int a30]) (w' := (none, [(9, s)])) lk_0_145 pd_26 rfl oid_0 rfl rfl rfl rfl rfl rfl ⟨rfl, rfl, rfl, rfl, rfl⟩ d27_33 (c_k_gatherReach v1 s _ e5) ?_
        refine go_ior (pc := 36) d27_36 (go_istoreN (pc := 37) (L' := [.val (.ref 1), .val (.int v1), .val (.int a19), .val (.int (a30 ||| r33))]) d27_37 (stx rfl hx3 rfl) (go_aloadN (pc := 38) d27_38 rfl (go_getA (pc := 39) fa_26 hm_27 d27_39 rfl (go_iloadN (pc := 42) d27_42 rfl (go_iloadN (pc := 43) d27_43 rfl (go_iloadN (pc := 44) d27_44 rfl (go_iand (pc := 45) d27_45 ?_)))))))
        refine go_aloadN (pc := 46) d27_46 rfl (go_getA (pc := 47) fa_20 hm_27 d27_47 rfl (go_iloadN (pc := 50) d27_50 rfl ?_))
        obtain ⟨a51, e6, hf⟩ := Option.bind_eq_some_iff.mp hf
        refine go_iaload (pc := 51) (q := 1) ar_1 rfl e6 d27_51 ?_
        refine go_iconst (pc := 52) d27_52 ci_m1 (go_ixor (pc := 53) d27_53 (go_iand (pc := 54) d27_54 ?_))
        obtain ⟨a55, e7, hf⟩ := Option.bind_eq_some_iff.mp hf
        refine go_iastore (pc := 55) (q := 3) ar_3 rfl hn_27 e7 d27_55 ?_
        refine go_iinc (pc := 56) (L' := [.val (.ref 1), .val (.int (v1 + (1 : Int32))), .val (.int a19), .val (.int (a30 ||| r33))]) d27_56 rfl ci_1 rfl (go_goto (pc := 59) (pc' := 6) d27_59 j_59_m53 ?_)
        exact ih (v1 + (1 : Int32)) (sA s 3 a55) (.val (.int a19)) (.val (.int (a30 ||| r33))) (Or.inr ⟨_, rfl, rfl⟩) (Or.inr ⟨_, rfl, rfl⟩) _ hf
    · replace hf := (if_neg h1).symm.trans hf
      refine go_icY (pc := 11) (pc' := 62) d27_11 (XT.ii_ge_t h1) j_11_51 ?_
      exact k_rederive_62_ok s (.val (.int v1)) x2 x3 (Or.inr ⟨_, rfl, rfl⟩) hx2 hx3 _ hf
set_option maxRecDepth 65536 in
set_option maxHeartbeats 4000000 in
theorem k_rederive_ok  : ∀  (s : S)  (o : S), k_rederive s = some o → Go PP m27 0 [.val (.ref 1), .unset, .unset, .unset] [] (none, [(9, s)]) (none, (none, [(9, o)])) := by
  intro s o hf
  unfold k_rederive at hf
  refine go_aloadN (pc := 0) d27_0 rfl ?_
  obtain ⟨r1, e1, hf⟩ := Option.bind_eq_some_iff.mp hf
  refine go_priv (pc := 1) (i := 0) (as := []) (rest := []) (w' := (none, [(9, r1)])) lk_0_108 pd_11 rfl oid_0 rfl rfl rfl rfl rfl rfl ⟨rfl, rfl, rfl, rfl, rfl⟩ d27_1 (c_k_clearDelta s _ e1) ?_
  refine go_iconst (pc := 4) d27_4 ci_0 (go_istoreN (pc := 5) (L' := [.val (.ref 1), .val (.int (0 : Int32)), .unset, .unset]) d27_5 rfl ?_)
  exact k_rederive_6_ok BIG (0 : Int32) r1 .unset .unset (Or.inl rfl) (Or.inl rfl) _ hf
theorem c_k_rederive (s : S) (o : S) (hf : k_rederive s = some o) : Call PP m27 [.ref 1] (none, [(9, s)]) (none, (none, [(9, o)])) := call_of_go pl_0 rfl (fun _ => rfl) (k_rederive_ok s   _ hf)
set_option maxRecDepth 65536 in
set_option maxHeartbeats 4000000 in
theorem k_removeEdgeAndRederive_ok  : ∀ (v1 : Int32) (v2 : Int32) (s : S)  (o : S), k_removeEdgeAndRederive v1 v2 s = some o → Go PP m28 0 [.val (.ref 1), .val (.int v1), .val (.int v2), .unset] [] (none, [(9, s)]) (none, (none, [(9, o)])) := by
  intro v1 v2 s o hf
  unfold k_removeEdgeAndRederive at hf
  refine go_aloadN (pc := 0) d28_0 rfl (go_iloadN (pc := 1) d28_1 rfl ?_)
  refine go_priv (pc := 2) (i := 0) (as := [.int v2]) (rest := []) (w' := (none, [(9, s)])) lk_0_105 pd_10 rfl oid_0 rfl rfl rfl rfl rfl rfl ⟨rfl, rfl, rfl, rfl, rfl⟩ d28_2 (c_k_bit v2 s) ?_
  refine go_istoreN (pc := 5) (L' := [.val (.ref 1), .val (.int v1), .val (.int v2), .val (.int (k_bit v2))]) d28_5 rfl (go_aloadN (pc := 6) d28_6 rfl (go_getA (pc := 7) fa_16 hm_28 d28_7 rfl (go_iloadN (pc := 10) d28_10 rfl (go_aloadN (pc := 11) d28_11 rfl (go_getA (pc := 12) fa_16 hm_28 d28_12 rfl (go_iloadN (pc := 15) d28_15 rfl ?_))))))
  obtain ⟨a16, e1, hf⟩ := Option.bind_eq_some_iff.mp hf
  refine go_iaload (pc := 16) (q := 0) ar_0 rfl e1 d28_16 ?_
  refine go_iloadN (pc := 17) d28_17 rfl (go_iconst (pc := 18) d28_18 ci_m1 (go_ixor (pc := 19) d28_19 (go_iand (pc := 20) d28_20 ?_)))
  obtain ⟨a21, e2, hf⟩ := Option.bind_eq_some_iff.mp hf
  refine go_iastore (pc := 21) (q := 0) ar_0 rfl hn_28 e2 d28_21 ?_
  refine go_aloadN (pc := 22) d28_22 rfl (go_dupR (pc := 23) d28_23 (go_getI (pc := 24) fs_53 hm_28 d28_24 (go_iconst (pc := 27) d28_27 ci_1 (go_isub (pc := 28) d28_28 (go_putI (pc := 29) fs_53 hm_28 (wr_5 _) hn_28 d28_29 (go_aloadN (pc := 32) d28_32 rfl (go_iloadN (pc := 33) d28_33 rfl ?_)))))))
  refine go_iloadN (pc := 34) d28_34 rfl ?_
  obtain ⟨r35, e3, hf⟩ := Option.bind_eq_some_iff.mp hf
  refine go_priv (pc := 35) (i := 0) (as := [.int v1, .int v2]) (rest := []) (w' := (none, [(9, r35)])) lk_0_127 pd_24 rfl oid_0 rfl rfl rfl rfl rfl rfl ⟨rfl, rfl, rfl, rfl, rfl⟩ d28_35 (c_k_overDelete v1 v2 (sI (sA s 0 a21) 5 ((gI s 5) - (1 : Int32))) _ e3) ?_
  refine go_aloadN (pc := 38) d28_38 rfl ?_
  obtain ⟨r39, e4, hf⟩ := Option.bind_eq_some_iff.mp hf
  refine go_priv (pc := 39) (i := 0) (as := []) (rest := []) (w' := (none, [(9, r39)])) lk_0_130 pd_25 rfl oid_0 rfl rfl rfl rfl rfl rfl ⟨rfl, rfl, rfl, rfl, rfl⟩ d28_39 (c_k_dropDoomed r35 _ e4) ?_
  refine go_aloadN (pc := 42) d28_42 rfl ?_
  obtain ⟨r43, e5, hf⟩ := Option.bind_eq_some_iff.mp hf
  refine go_priv (pc := 43) (i := 0) (as := []) (rest := []) (w' := (none, [(9, r43)])) lk_0_133 pd_27 rfl oid_0 rfl rfl rfl rfl rfl rfl ⟨rfl, rfl, rfl, rfl, rfl⟩ d28_43 (c_k_rederive r39 _ e5) ?_
  cases hf
  exact go_ret (pc := 46) rfl d28_46
theorem c_k_removeEdgeAndRederive (v1 : Int32) (v2 : Int32) (s : S) (o : S) (hf : k_removeEdgeAndRederive v1 v2 s = some o) : Call PP m28 [.ref 1, .int v1, .int v2] (none, [(9, s)]) (none, (none, [(9, o)])) := call_of_go pl_0 rfl (fun _ => rfl) (k_removeEdgeAndRederive_ok v1 v2 s   _ hf)
set_option maxRecDepth 65536 in
set_option maxHeartbeats 4000000 in
theorem k_countRemoved_4_ok  : ∀ (n : Nat) (v1 : Int32) (v2 : Int32) (s : S)  (o : Int32), k_countRemoved_4 n v1 v2 s = some o → Go PP m29 4 [.val (.ref 1), .val (.int v1), .val (.int v2)] [] (none, [(9, s)]) (some (.int o), (none, [(9, s)])) := by
  intro n
  induction n with
  | zero => intro v1 v2 s o hf; exact nomatch hf
  | succ n ih =>
    intro v1 v2 s o hf
    unfold k_countRemoved_4 at hf
    refine go_iloadN (pc := 4) d29_4 rfl (go_aloadN (pc := 5) d29_5 rfl (go_getI (pc := 6) fs_44 hm_29 d29_6 ?_))
    by_cases h1 : v2 < (gI s 2)
    · replace hf := (if_pos h1).symm.trans hf
      refine go_icN (pc := 9) d29_9 (XT.ii_ge_f h1) ?_
      refine go_iloadN (pc := 12) d29_12 rfl (go_aloadN (pc := 13) d29_13 rfl (go_aloadN (pc := 14) d29_14 rfl (go_getA (pc := 15) fa_23 hm_29 d29_15 rfl (go_iloadN (pc := 18) d29_18 rfl ?_))))
      obtain ⟨a19, e2, hf⟩ := Option.bind_eq_some_iff.mp hf
      refine go_iaload (pc := 19) (q := 2) ar_2 rfl e2 d29_19 ?_
      refine go_aloadN (pc := 20) d29_20 rfl (go_getA (pc := 21) fa_20 hm_29 d29_21 rfl (go_iloadN (pc := 24) d29_24 rfl ?_))
      obtain ⟨a25, e3, hf⟩ := Option.bind_eq_some_iff.mp hf
      refine go_iaload (pc := 25) (q := 1) ar_1 rfl e3 d29_25 ?_
      refine go_iconst (pc := 26) d29_26 ci_m1 (go_ixor (pc := 27) d29_27 (go_iand (pc := 28) d29_28 ?_))
      refine go_priv (pc := 29) (i := 0) (as := [.int (a19 &&& (a25 ^^^ (-1 : Int32)))]) (rest := [.int v1]) (w' := (none, [(9, s)])) lk_0_101 pd_18 rfl oid_0 rfl rfl rfl rfl rfl rfl ⟨rfl, rfl, rfl, rfl, rfl⟩ d29_29 (c_k_popCount (a19 &&& (a25 ^^^ (-1 : Int32))) s) ?_
      refine go_iadd (pc := 32) d29_32 (go_istoreN (pc := 33) (L' := [.val (.ref 1), .val (.int (v1 + (k_popCount (a19 &&& (a25 ^^^ (-1 : Int32)))))), .val (.int v2)]) d29_33 rfl (go_iinc (pc := 34) (L' := [.val (.ref 1), .val (.int (v1 + (k_popCount (a19 &&& (a25 ^^^ (-1 : Int32)))))), .val (.int (v2 + (1 : Int32)))]) d29_34 rfl ci_1 rfl (go_goto (pc := 37) (pc' := 4) d29_37 j_37_m33 ?_)))
      exact ih (v1 + (k_popCount (a19 &&& (a25 ^^^ (-1 : Int32))))) (v2 + (1 : Int32)) s _ hf
    · replace hf := (if_neg h1).symm.trans hf
      refine go_icY (pc := 9) (pc' := 40) d29_9 (XT.ii_ge_t h1) j_9_31 ?_
      refine go_iloadN (pc := 40) d29_40 rfl ?_
      cases hf
      exact go_iret (pc := 41) rfl d29_41
set_option maxRecDepth 65536 in
set_option maxHeartbeats 4000000 in
theorem k_countRemoved_ok  : ∀  (s : S)  (o : Int32), k_countRemoved s = some o → Go PP m29 0 [.val (.ref 1), .unset, .unset] [] (none, [(9, s)]) (some (.int o), (none, [(9, s)])) := by
  intro s o hf
  unfold k_countRemoved at hf
  refine go_iconst (pc := 0) d29_0 ci_0 (go_istoreN (pc := 1) (L' := [.val (.ref 1), .val (.int (0 : Int32)), .unset]) d29_1 rfl (go_iconst (pc := 2) d29_2 ci_0 (go_istoreN (pc := 3) (L' := [.val (.ref 1), .val (.int (0 : Int32)), .val (.int (0 : Int32))]) d29_3 rfl ?_)))
  exact k_countRemoved_4_ok BIG (0 : Int32) (0 : Int32) s _ hf
theorem c_k_countRemoved (s : S) (o : Int32) (hf : k_countRemoved s = some o) : Call PP m29 [.ref 1] (none, [(9, s)]) (some (.int o), (none, [(9, s)])) := call_of_go pl_0 rfl (fun h => nomatch h) (k_countRemoved_ok s   _ hf)
set_option maxRecDepth 65536 in
set_option maxHeartbeats 4000000 in
theorem k_deleteEdge_ok  : ∀ (v1 : Int32) (v2 : Int32) (s : S)  (o : Int32 × S), k_deleteEdge v1 v2 s = some o → Go PP m30 0 [.val (.ref 1), .val (.int v1), .val (.int v2)] [] (none, [(9, s)]) (some (.int o.1), (none, [(9, o.2)])) := by
  intro v1 v2 s o hf
  unfold k_deleteEdge at hf
  refine go_aloadN (pc := 0) d30_0 rfl (go_iloadN (pc := 1) d30_1 rfl ?_)
  refine go_priv (pc := 2) (i := 0) (as := [.int v1]) (rest := []) (w' := (none, [(9, s)])) lk_0_65 pd_2 rfl oid_0 rfl rfl rfl rfl rfl rfl ⟨rfl, rfl, rfl, rfl, rfl⟩ d30_2 (c_k_isValid v1 s) ?_
  by_cases h1 : (k_isValid v1 s) = 0
  · replace hf := (if_pos h1).symm.trans hf
    refine go_ifY (pc := 5) (pc' := 16) d30_5 (XT.i0_eq_t h1) j_5_11 ?_
    refine go_iconst (pc := 16) d30_16 ci_m1 ?_
    cases hf
    exact go_iret (pc := 17) rfl d30_17
  · replace hf := (if_neg h1).symm.trans hf
    refine go_ifN (pc := 5) d30_5 (XT.i0_eq_f h1) ?_
    refine go_aloadN (pc := 8) d30_8 rfl (go_iloadN (pc := 9) d30_9 rfl ?_)
    refine go_priv (pc := 10) (i := 0) (as := [.int v2]) (rest := []) (w' := (none, [(9, s)])) lk_0_65 pd_2 rfl oid_0 rfl rfl rfl rfl rfl rfl ⟨rfl, rfl, rfl, rfl, rfl⟩ d30_10 (c_k_isValid v2 s) ?_
    by_cases h2 : (k_isValid v2 s) = 0
    · replace hf := (if_pos h2).symm.trans hf
      refine go_ifN (pc := 13) d30_13 (XT.i0_ne_f h2) ?_
      refine go_iconst (pc := 16) d30_16 ci_m1 ?_
      cases hf
      exact go_iret (pc := 17) rfl d30_17
    · replace hf := (if_neg h2).symm.trans hf
      refine go_ifY (pc := 13) (pc' := 18) d30_13 (XT.i0_ne_t h2) j_13_5 ?_
      refine go_aloadN (pc := 18) d30_18 rfl (go_iloadN (pc := 19) d30_19 rfl (go_iloadN (pc := 20) d30_20 rfl ?_))
      obtain ⟨r21, e3, hf⟩ := Option.bind_eq_some_iff.mp hf
      refine go_priv (pc := 21) (i := 0) (as := [.int v1, .int v2]) (rest := []) (w' := (none, [(9, s)])) lk_0_69 pd_3 rfl oid_0 rfl rfl rfl rfl rfl rfl ⟨rfl, rfl, rfl, rfl, rfl⟩ d30_21 (c_k_edgePresent v1 v2 s _ e3) ?_
      by_cases h4 : r21 = 0
      · replace hf := (if_pos h4).symm.trans hf
        refine go_ifN (pc := 24) d30_24 (XT.i0_ne_f h4) ?_
        refine go_bipush (pc := 27) d30_27 cb_m3 ?_
        cases hf
        exact go_iret (pc := 29) rfl d30_29
      · replace hf := (if_neg h4).symm.trans hf
        refine go_ifY (pc := 24) (pc' := 30) d30_24 (XT.i0_ne_t h4) j_24_6 ?_
        refine go_aloadN (pc := 30) d30_30 rfl ?_
        obtain ⟨r31, e5, hf⟩ := Option.bind_eq_some_iff.mp hf
        refine go_priv (pc := 31) (i := 0) (as := []) (rest := []) (w' := (none, [(9, r31)])) lk_0_73 pd_9 rfl oid_0 rfl rfl rfl rfl rfl rfl ⟨rfl, rfl, rfl, rfl, rfl⟩ d30_31 (c_k_takeSnapshot s _ e5) ?_
        refine go_aloadN (pc := 34) d30_34 rfl (go_iloadN (pc := 35) d30_35 rfl (go_iloadN (pc := 36) d30_36 rfl ?_))
        obtain ⟨r37, e6, hf⟩ := Option.bind_eq_some_iff.mp hf
        refine go_priv (pc := 37) (i := 0) (as := [.int v1, .int v2]) (rest := []) (w' := (none, [(9, r37)])) lk_0_84 pd_28 rfl oid_0 rfl rfl rfl rfl rfl rfl ⟨rfl, rfl, rfl, rfl, rfl⟩ d30_37 (c_k_removeEdgeAndRederive v1 v2 r31 _ e6) ?_
        refine go_aloadN (pc := 40) d30_40 rfl (go_aloadN (pc := 41) d30_41 rfl ?_)
        obtain ⟨r42, e7, hf⟩ := Option.bind_eq_some_iff.mp hf
        refine go_priv (pc := 42) (i := 0) (as := []) (rest := [.ref 1]) (w' := (none, [(9, r37)])) lk_0_87 pd_29 rfl oid_0 rfl rfl rfl rfl rfl rfl ⟨rfl, rfl, rfl, rfl, rfl⟩ d30_42 (c_k_countRemoved r37 _ e7) ?_
        refine go_putI (pc := 45) fs_62 hm_30 (wr_8 _) hn_30 d30_45 (go_aloadN (pc := 48) d30_48 rfl (go_iconst (pc := 49) d30_49 ci_0 (go_putI (pc := 50) fs_59 hm_30 (wr_7 _) hn_30 d30_50 (go_aloadN (pc := 53) d30_53 rfl (go_getI (pc := 54) fs_62 hm_30 d30_54 ?_)))))
        cases hf
        exact go_iret (pc := 57) rfl d30_57
theorem c_k_deleteEdge (v1 : Int32) (v2 : Int32) (s : S) (o : Int32 × S) (hf : k_deleteEdge v1 v2 s = some o) : Call PP m30 [.ref 1, .int v1, .int v2] (none, [(9, s)]) (some (.int o.1), (none, [(9, o.2)])) := call_of_go pl_0 rfl (fun h => nomatch h) (k_deleteEdge_ok v1 v2 s   _ hf)
set_option maxRecDepth 65536 in
set_option maxHeartbeats 4000000 in
theorem k_stage_ok  : ∀ (v1 : Int32) (v2 : Int32) (v3 : Int32) (s : S)  (o : Int32 × S), k_stage v1 v2 v3 s = some o → Go PP m31 0 [.val (.ref 1), .val (.int v1), .val (.int v2), .val (.int v3)] [] (none, [(9, s)]) (some (.int o.1), (none, [(9, o.2)])) := by
  intro v1 v2 v3 s o hf
  unfold k_stage at hf
  refine go_aloadN (pc := 0) d31_0 rfl (go_iloadN (pc := 1) d31_1 rfl ?_)
  refine go_priv (pc := 2) (i := 0) (as := [.int v2]) (rest := []) (w' := (none, [(9, s)])) lk_0_65 pd_2 rfl oid_0 rfl rfl rfl rfl rfl rfl ⟨rfl, rfl, rfl, rfl, rfl⟩ d31_2 (c_k_isValid v2 s) ?_
  by_cases h1 : (k_isValid v2 s) = 0
  · replace hf := (if_pos h1).symm.trans hf
    refine go_ifY (pc := 5) (pc' := 16) d31_5 (XT.i0_eq_t h1) j_5_11 ?_
    refine go_iconst (pc := 16) d31_16 ci_m1 ?_
    cases hf
    exact go_iret (pc := 17) rfl d31_17
  · replace hf := (if_neg h1).symm.trans hf
    refine go_ifN (pc := 5) d31_5 (XT.i0_eq_f h1) ?_
    refine go_aloadN (pc := 8) d31_8 rfl (go_iloadN (pc := 9) d31_9 rfl ?_)
    refine go_priv (pc := 10) (i := 0) (as := [.int v3]) (rest := []) (w' := (none, [(9, s)])) lk_0_65 pd_2 rfl oid_0 rfl rfl rfl rfl rfl rfl ⟨rfl, rfl, rfl, rfl, rfl⟩ d31_10 (c_k_isValid v3 s) ?_
    by_cases h2 : (k_isValid v3 s) = 0
    · replace hf := (if_pos h2).symm.trans hf
      refine go_ifN (pc := 13) d31_13 (XT.i0_ne_f h2) ?_
      refine go_iconst (pc := 16) d31_16 ci_m1 ?_
      cases hf
      exact go_iret (pc := 17) rfl d31_17
    · replace hf := (if_neg h2).symm.trans hf
      refine go_ifY (pc := 13) (pc' := 18) d31_13 (XT.i0_ne_t h2) j_13_5 ?_
      refine go_aloadN (pc := 18) d31_18 rfl (go_getI (pc := 19) fs_56 hm_31 d31_19 (go_bipush (pc := 22) d31_22 cb_16 ?_))
      by_cases h3 : (gI s 6) < (16 : Int32)
      · replace hf := (if_pos h3).symm.trans hf
        refine go_icY (pc := 24) (pc' := 30) d31_24 (XT.ii_lt_t h3) j_24_6 ?_
        refine go_aloadN (pc := 30) d31_30 rfl (go_getA (pc := 31) fa_35 hm_31 d31_31 rfl (go_aloadN (pc := 34) d31_34 rfl (go_getI (pc := 35) fs_56 hm_31 d31_35 (go_iloadN (pc := 38) d31_38 rfl ?_))))
        obtain ⟨a39, e4, hf⟩ := Option.bind_eq_some_iff.mp hf
        refine go_iastore (pc := 39) (q := 6) ar_6 rfl hn_31 e4 d31_39 ?_
        refine go_aloadN (pc := 40) d31_40 rfl (go_getA (pc := 41) fa_38 hm_31 d31_41 rfl (go_aloadN (pc := 44) d31_44 rfl (go_getI (pc := 45) fs_56 hm_31 d31_45 (go_iloadN (pc := 48) d31_48 rfl ?_))))
        obtain ⟨a49, e5, hf⟩ := Option.bind_eq_some_iff.mp hf
        refine go_iastore (pc := 49) (q := 7) ar_7 rfl hn_31 e5 d31_49 ?_
        refine go_aloadN (pc := 50) d31_50 rfl (go_getA (pc := 51) fa_41 hm_31 d31_51 rfl (go_aloadN (pc := 54) d31_54 rfl (go_getI (pc := 55) fs_56 hm_31 d31_55 (go_iloadN (pc := 58) d31_58 rfl ?_))))
        obtain ⟨a59, e6, hf⟩ := Option.bind_eq_some_iff.mp hf
        refine go_iastore (pc := 59) (q := 8) ar_8 rfl hn_31 e6 d31_59 ?_
        refine go_aloadN (pc := 60) d31_60 rfl (go_dupR (pc := 61) d31_61 (go_getI (pc := 62) fs_56 hm_31 d31_62 (go_iconst (pc := 65) d31_65 ci_1 (go_iadd (pc := 66) d31_66 (go_putI (pc := 67) fs_56 hm_31 (wr_6 _) hn_31 d31_67 (go_aloadN (pc := 70) d31_70 rfl (go_getI (pc := 71) fs_56 hm_31 d31_71 ?_)))))))
        cases hf
        exact go_iret (pc := 74) rfl d31_74
      · replace hf := (if_neg h3).symm.trans hf
        refine go_icN (pc := 24) d31_24 (XT.ii_lt_f h3) ?_
        refine go_bipush (pc := 27) d31_27 cb_m5 ?_
        cases hf
        exact go_iret (pc := 29) rfl d31_29
theorem c_k_stage (v1 : Int32) (v2 : Int32) (v3 : Int32) (s : S) (o : Int32 × S) (hf : k_stage v1 v2 v3 s = some o) : Call PP m31 [.ref 1, .int v1, .int v2, .int v3] (none, [(9, s)]) (some (.int o.1), (none, [(9, o.2)])) := call_of_go pl_0 rfl (fun h => nomatch h) (k_stage_ok v1 v2 v3 s   _ hf)
set_option maxRecDepth 65536 in
set_option maxHeartbeats 4000000 in
theorem k_stageInsert_ok  : ∀ (v1 : Int32) (v2 : Int32) (s : S)  (o : Int32 × S), k_stageInsert v1 v2 s = some o → Go PP m32 0 [.val (.ref 1), .val (.int v1), .val (.int v2)] [] (none, [(9, s)]) (some (.int o.1), (none, [(9, o.2)])) := by
  intro v1 v2 s o hf
  unfold k_stageInsert at hf
  refine go_aloadN (pc := 0) d32_0 rfl (go_iconst (pc := 1) d32_1 ci_1 (go_iloadN (pc := 2) d32_2 rfl (go_iloadN (pc := 3) d32_3 rfl ?_)))
  obtain ⟨r4, e1, hf⟩ := Option.bind_eq_some_iff.mp hf
  refine go_priv (pc := 4) (i := 0) (as := [.int (1 : Int32), .int v1, .int v2]) (rest := []) (w' := (none, [(9, r4.2)])) lk_0_90 pd_31 rfl oid_0 rfl rfl rfl rfl rfl rfl ⟨rfl, rfl, rfl, rfl, rfl⟩ d32_4 (c_k_stage (1 : Int32) v1 v2 s _ e1) ?_
  cases hf
  exact go_iret (pc := 7) rfl d32_7
theorem c_k_stageInsert (v1 : Int32) (v2 : Int32) (s : S) (o : Int32 × S) (hf : k_stageInsert v1 v2 s = some o) : Call PP m32 [.ref 1, .int v1, .int v2] (none, [(9, s)]) (some (.int o.1), (none, [(9, o.2)])) := call_of_go pl_0 rfl (fun h => nomatch h) (k_stageInsert_ok v1 v2 s   _ hf)
set_option maxRecDepth 65536 in
set_option maxHeartbeats 4000000 in
theorem k_stageDelete_ok  : ∀ (v1 : Int32) (v2 : Int32) (s : S)  (o : Int32 × S), k_stageDelete v1 v2 s = some o → Go PP m33 0 [.val (.ref 1), .val (.int v1), .val (.int v2)] [] (none, [(9, s)]) (some (.int o.1), (none, [(9, o.2)])) := by
  intro v1 v2 s o hf
  unfold k_stageDelete at hf
  refine go_aloadN (pc := 0) d33_0 rfl (go_iconst (pc := 1) d33_1 ci_2 (go_iloadN (pc := 2) d33_2 rfl (go_iloadN (pc := 3) d33_3 rfl ?_)))
  obtain ⟨r4, e1, hf⟩ := Option.bind_eq_some_iff.mp hf
  refine go_priv (pc := 4) (i := 0) (as := [.int (2 : Int32), .int v1, .int v2]) (rest := []) (w' := (none, [(9, r4.2)])) lk_0_90 pd_31 rfl oid_0 rfl rfl rfl rfl rfl rfl ⟨rfl, rfl, rfl, rfl, rfl⟩ d33_4 (c_k_stage (2 : Int32) v1 v2 s _ e1) ?_
  cases hf
  exact go_iret (pc := 7) rfl d33_7
theorem c_k_stageDelete (v1 : Int32) (v2 : Int32) (s : S) (o : Int32 × S) (hf : k_stageDelete v1 v2 s = some o) : Call PP m33 [.ref 1, .int v1, .int v2] (none, [(9, s)]) (some (.int o.1), (none, [(9, o.2)])) := call_of_go pl_0 rfl (fun h => nomatch h) (k_stageDelete_ok v1 v2 s   _ hf)
set_option maxRecDepth 65536 in
set_option maxHeartbeats 4000000 in
theorem k_applyStaged_ok  : ∀ (v1 : Int32) (s : S)  (o : S), k_applyStaged v1 s = some o → Go PP m34 0 [.val (.ref 1), .val (.int v1), .unset, .unset, .unset] [] (none, [(9, s)]) (none, (none, [(9, o)])) := by
  intro v1 s o hf
  unfold k_applyStaged at hf
  refine go_iloadN (pc := 0) d34_0 rfl ?_
  by_cases h1 : v1 < 0
  · replace hf := (if_pos h1).symm.trans hf
    refine go_ifY (pc := 1) (pc' := 10) d34_1 (XT.i0_lt_t h1) j_1_9 ?_
    cases hf
    exact go_ret (pc := 10) rfl d34_10
  · replace hf := (if_neg h1).symm.trans hf
    refine go_ifN (pc := 1) d34_1 (XT.i0_lt_f h1) ?_
    refine go_iloadN (pc := 4) d34_4 rfl (go_bipush (pc := 5) d34_5 cb_16 ?_)
    by_cases h2 : v1 < (16 : Int32)
    · replace hf := (if_pos h2).symm.trans hf
      refine go_icY (pc := 7) (pc' := 11) d34_7 (XT.ii_lt_t h2) j_7_4 ?_
      refine go_aloadN (pc := 11) d34_11 rfl (go_getA (pc := 12) fa_38 hm_34 d34_12 rfl (go_iloadN (pc := 15) d34_15 rfl ?_))
      obtain ⟨a16, e3, hf⟩ := Option.bind_eq_some_iff.mp hf
      refine go_iaload (pc := 16) (q := 7) ar_7 rfl e3 d34_16 ?_
      refine go_istoreN (pc := 17) (L' := [.val (.ref 1), .val (.int v1), .val (.int a16), .unset, .unset]) d34_17 rfl (go_aloadN (pc := 18) d34_18 rfl (go_getA (pc := 19) fa_41 hm_34 d34_19 rfl (go_iloadN (pc := 22) d34_22 rfl ?_)))
      obtain ⟨a23, e4, hf⟩ := Option.bind_eq_some_iff.mp hf
      refine go_iaload (pc := 23) (q := 8) ar_8 rfl e4 d34_23 ?_
      refine go_istoreN (pc := 24) (L' := [.val (.ref 1), .val (.int v1), .val (.int a16), .val (.int a23), .unset]) d34_24 rfl (go_aloadN (pc := 25) d34_25 rfl (go_iloadN (pc := 26) d34_26 rfl ?_))
      refine go_priv (pc := 27) (i := 0) (as := [.int a16]) (rest := []) (w' := (none, [(9, s)])) lk_0_65 pd_2 rfl oid_0 rfl rfl rfl rfl rfl rfl ⟨rfl, rfl, rfl, rfl, rfl⟩ d34_27 (c_k_isValid a16 s) ?_
      by_cases h5 : (k_isValid a16 s) = 0
      · replace hf := (if_pos h5).symm.trans hf
        refine go_ifY (pc := 30) (pc' := 41) d34_30 (XT.i0_eq_t h5) j_30_11 ?_
        cases hf
        exact go_ret (pc := 41) rfl d34_41
      · replace hf := (if_neg h5).symm.trans hf
        refine go_ifN (pc := 30) d34_30 (XT.i0_eq_f h5) ?_
        refine go_aloadN (pc := 33) d34_33 rfl (go_iloadN (pc := 34) d34_34 rfl ?_)
        refine go_priv (pc := 35) (i := 0) (as := [.int a23]) (rest := []) (w' := (none, [(9, s)])) lk_0_65 pd_2 rfl oid_0 rfl rfl rfl rfl rfl rfl ⟨rfl, rfl, rfl, rfl, rfl⟩ d34_35 (c_k_isValid a23 s) ?_
        by_cases h6 : (k_isValid a23 s) = 0
        · replace hf := (if_pos h6).symm.trans hf
          refine go_ifN (pc := 38) d34_38 (XT.i0_ne_f h6) ?_
          cases hf
          exact go_ret (pc := 41) rfl d34_41
        · replace hf := (if_neg h6).symm.trans hf
          refine go_ifY (pc := 38) (pc' := 42) d34_38 (XT.i0_ne_t h6) j_38_4 ?_
          refine go_aloadN (pc := 42) d34_42 rfl (go_iloadN (pc := 43) d34_43 rfl (go_iloadN (pc := 44) d34_44 rfl ?_))
          obtain ⟨r45, e7, hf⟩ := Option.bind_eq_some_iff.mp hf
          refine go_priv (pc := 45) (i := 0) (as := [.int a16, .int a23]) (rest := []) (w' := (none, [(9, s)])) lk_0_69 pd_3 rfl oid_0 rfl rfl rfl rfl rfl rfl ⟨rfl, rfl, rfl, rfl, rfl⟩ d34_45 (c_k_edgePresent a16 a23 s _ e7) ?_
          refine go_istore (pc := 48) (L' := [.val (.ref 1), .val (.int v1), .val (.int a16), .val (.int a23), .val (.int r45)]) d34_48 rfl (go_aloadN (pc := 50) d34_50 rfl (go_getA (pc := 51) fa_35 hm_34 d34_51 rfl (go_iloadN (pc := 54) d34_54 rfl ?_)))
          obtain ⟨a55, e8, hf⟩ := Option.bind_eq_some_iff.mp hf
          refine go_iaload (pc := 55) (q := 6) ar_6 rfl e8 d34_55 ?_
          refine go_iconst (pc := 56) d34_56 ci_1 ?_
          by_cases h9 : a55 = (1 : Int32)
          · replace hf := (if_pos h9).symm.trans hf
            refine go_icN (pc := 57) d34_57 (XT.ii_ne_f h9) ?_
            refine go_iload (pc := 60) d34_60 rfl ?_
            by_cases h14 : r45 = 0
            · replace hf := (if_pos h14).symm.trans hf
              refine go_ifN (pc := 62) d34_62 (XT.i0_ne_f h14) ?_
              refine go_aloadN (pc := 65) d34_65 rfl (go_getI (pc := 66) fs_53 hm_34 d34_66 (go_aloadN (pc := 69) d34_69 rfl (go_getI (pc := 70) fs_47 hm_34 d34_70 ?_)))
              by_cases h15 : (gI s 5) < (gI s 3)
              · replace hf := (if_pos h15).symm.trans hf
                refine go_icN (pc := 73) d34_73 (XT.ii_ge_f h15) ?_
                refine go_aloadN (pc := 76) d34_76 rfl (go_iloadN (pc := 77) d34_77 rfl (go_iloadN (pc := 78) d34_78 rfl ?_))
                obtain ⟨r79, e16, hf⟩ := Option.bind_eq_some_iff.mp hf
                refine go_priv (pc := 79) (i := 0) (as := [.int a16, .int a23]) (rest := []) (w' := (none, [(9, r79)])) lk_0_76 pd_17 rfl oid_0 rfl rfl rfl rfl rfl rfl ⟨rfl, rfl, rfl, rfl, rfl⟩ d34_79 (c_k_addEdgeAndPropagate a16 a23 s _ e16) ?_
                refine go_goto (pc := 82) (pc' := 106) d34_82 j_82_24 ?_
                cases hf
                exact go_ret (pc := 106) rfl d34_106
              · replace hf := (if_neg h15).symm.trans hf
                refine go_icY (pc := 73) (pc' := 106) d34_73 (XT.ii_ge_t h15) j_73_33 ?_
                cases hf
                exact go_ret (pc := 106) rfl d34_106
            · replace hf := (if_neg h14).symm.trans hf
              refine go_ifY (pc := 62) (pc' := 106) d34_62 (XT.i0_ne_t h14) j_62_44 ?_
              cases hf
              exact go_ret (pc := 106) rfl d34_106
          · replace hf := (if_neg h9).symm.trans hf
            refine go_icY (pc := 57) (pc' := 85) d34_57 (XT.ii_ne_t h9) j_57_28 ?_
            refine go_aloadN (pc := 85) d34_85 rfl (go_getA (pc := 86) fa_35 hm_34 d34_86 rfl (go_iloadN (pc := 89) d34_89 rfl ?_))
            obtain ⟨a90, e10, hf⟩ := Option.bind_eq_some_iff.mp hf
            refine go_iaload (pc := 90) (q := 6) ar_6 rfl e10 d34_90 ?_
            refine go_iconst (pc := 91) d34_91 ci_2 ?_
            by_cases h11 : a90 = (2 : Int32)
            · replace hf := (if_pos h11).symm.trans hf
              refine go_icN (pc := 92) d34_92 (XT.ii_ne_f h11) ?_
              refine go_iload (pc := 95) d34_95 rfl ?_
              by_cases h12 : r45 = 0
              · replace hf := (if_pos h12).symm.trans hf
                refine go_ifY (pc := 97) (pc' := 106) d34_97 (XT.i0_eq_t h12) j_97_9 ?_
                cases hf
                exact go_ret (pc := 106) rfl d34_106
              · replace hf := (if_neg h12).symm.trans hf
                refine go_ifN (pc := 97) d34_97 (XT.i0_eq_f h12) ?_
                refine go_aloadN (pc := 100) d34_100 rfl (go_iloadN (pc := 101) d34_101 rfl (go_iloadN (pc := 102) d34_102 rfl ?_))
                obtain ⟨r103, e13, hf⟩ := Option.bind_eq_some_iff.mp hf
                refine go_priv (pc := 103) (i := 0) (as := [.int a16, .int a23]) (rest := []) (w' := (none, [(9, r103)])) lk_0_84 pd_28 rfl oid_0 rfl rfl rfl rfl rfl rfl ⟨rfl, rfl, rfl, rfl, rfl⟩ d34_103 (c_k_removeEdgeAndRederive a16 a23 s _ e13) ?_
                cases hf
                exact go_ret (pc := 106) rfl d34_106
            · replace hf := (if_neg h11).symm.trans hf
              refine go_icY (pc := 92) (pc' := 106) d34_92 (XT.ii_ne_t h11) j_92_14 ?_
              cases hf
              exact go_ret (pc := 106) rfl d34_106
    · replace hf := (if_neg h2).symm.trans hf
      refine go_icN (pc := 7) d34_7 (XT.ii_lt_f h2) ?_
      cases hf
      exact go_ret (pc := 10) rfl d34_10
theorem c_k_applyStaged (v1 : Int32) (s : S) (o : S) (hf : k_applyStaged v1 s = some o) : Call PP m34 [.ref 1, .int v1] (none, [(9, s)]) (none, (none, [(9, o)])) := call_of_go pl_0 rfl (fun _ => rfl) (k_applyStaged_ok v1 s   _ hf)
set_option maxRecDepth 65536 in
set_option maxHeartbeats 4000000 in
theorem k_commit_31_ok  : ∀  (s : S) (x1 : Slot) (hx1 : k1 x1) (o : Int32 × S), k_commit_31 s = some o → Go PP m35 31 [.val (.ref 1), x1] [] (none, [(9, s)]) (some (.int o.1), (none, [(9, o.2)])) := by
  intro s x1 hx1 o hf
  unfold k_commit_31 at hf
  refine go_aloadN (pc := 31) d35_31 rfl (go_iconst (pc := 32) d35_32 ci_0 (go_putI (pc := 33) fs_56 hm_35 (wr_6 _) hn_35 d35_33 (go_aloadN (pc := 36) d35_36 rfl (go_aloadN (pc := 37) d35_37 rfl ?_))))
  obtain ⟨r38, e1, hf⟩ := Option.bind_eq_some_iff.mp hf
  refine go_priv (pc := 38) (i := 0) (as := []) (rest := [.ref 1]) (w' := (none, [(9, sI s 6 (0 : Int32))])) lk_0_80 pd_19 rfl oid_0 rfl rfl rfl rfl rfl rfl ⟨rfl, rfl, rfl, rfl, rfl⟩ d35_38 (c_k_countAdded (sI s 6 (0 : Int32)) _ e1) ?_
  refine go_putI (pc := 41) fs_59 hm_35 (wr_7 _) hn_35 d35_41 (go_aloadN (pc := 44) d35_44 rfl (go_aloadN (pc := 45) d35_45 rfl ?_))
  obtain ⟨r46, e2, hf⟩ := Option.bind_eq_some_iff.mp hf
  refine go_priv (pc := 46) (i := 0) (as := []) (rest := [.ref 1]) (w' := (none, [(9, sI (sI s 6 (0 : Int32)) 7 r38)])) lk_0_87 pd_29 rfl oid_0 rfl rfl rfl rfl rfl rfl ⟨rfl, rfl, rfl, rfl, rfl⟩ d35_46 (c_k_countRemoved (sI (sI s 6 (0 : Int32)) 7 r38) _ e2) ?_
  refine go_putI (pc := 49) fs_62 hm_35 (wr_8 _) hn_35 d35_49 (go_aloadN (pc := 52) d35_52 rfl (go_getI (pc := 53) fs_59 hm_35 d35_53 (go_aloadN (pc := 56) d35_56 rfl (go_getI (pc := 57) fs_62 hm_35 d35_57 (go_iadd (pc := 60) d35_60 ?_)))))
  cases hf
  exact go_iret (pc := 61) rfl d35_61
set_option maxRecDepth 65536 in
set_option maxHeartbeats 4000000 in
theorem k_commit_6_ok  : ∀ (n : Nat) (v1 : Int32) (s : S)  (o : Int32 × S), k_commit_6 n v1 s = some o → Go PP m35 6 [.val (.ref 1), .val (.int v1)] [] (none, [(9, s)]) (some (.int o.1), (none, [(9, o.2)])) := by
  intro n
  induction n with
  | zero => intro v1 s o hf; exact nomatch hf
  | succ n ih =>
    intro v1 s o hf
    unfold k_commit_6 at hf
    refine go_iloadN (pc := 6) d35_6 rfl (go_aloadN (pc := 7) d35_7 rfl (go_getI (pc := 8) fs_56 hm_35 d35_8 ?_))
    by_cases h1 : v1 < (gI s 6)
    · replace hf := (if_pos h1).symm.trans hf
      refine go_icN (pc := 11) d35_11 (XT.ii_ge_f h1) ?_
      refine go_iloadN (pc := 14) d35_14 rfl (go_bipush (pc := 15) d35_15 cb_16 ?_)
      by_cases h2 : v1 < (16 : Int32)
      · replace hf := (if_pos h2).symm.trans hf
        refine go_icN (pc := 17) d35_17 (XT.ii_ge_f h2) ?_
        refine go_aloadN (pc := 20) d35_20 rfl (go_iloadN (pc := 21) d35_21 rfl ?_)
        obtain ⟨r22, e3, hf⟩ := Option.bind_eq_some_iff.mp hf
        refine go_priv (pc := 22) (i := 0) (as := [.int v1]) (rest := []) (w' := (none, [(9, r22)])) lk_0_94 pd_34 rfl oid_0 rfl rfl rfl rfl rfl rfl ⟨rfl, rfl, rfl, rfl, rfl⟩ d35_22 (c_k_applyStaged v1 s _ e3) ?_
        refine go_iinc (pc := 25) (L' := [.val (.ref 1), .val (.int (v1 + (1 : Int32)))]) d35_25 rfl ci_1 rfl (go_goto (pc := 28) (pc' := 6) d35_28 j_28_m22 ?_)
        exact ih (v1 + (1 : Int32)) r22 _ hf
      · replace hf := (if_neg h2).symm.trans hf
        refine go_icY (pc := 17) (pc' := 31) d35_17 (XT.ii_ge_t h2) j_17_14 ?_
        exact k_commit_31_ok s (.val (.int v1)) (Or.inr ⟨_, rfl, rfl⟩) _ hf
    · replace hf := (if_neg h1).symm.trans hf
      refine go_icY (pc := 11) (pc' := 31) d35_11 (XT.ii_ge_t h1) j_11_20 ?_
      exact k_commit_31_ok s (.val (.int v1)) (Or.inr ⟨_, rfl, rfl⟩) _ hf
set_option maxRecDepth 65536 in
set_option maxHeartbeats 4000000 in
theorem k_commit_ok  : ∀  (s : S)  (o : Int32 × S), k_commit s = some o → Go PP m35 0 [.val (.ref 1), .unset] [] (none, [(9, s)]) (some (.int o.1), (none, [(9, o.2)])) := by
  intro s o hf
  unfold k_commit at hf
  refine go_aloadN (pc := 0) d35_0 rfl ?_
  obtain ⟨r1, e1, hf⟩ := Option.bind_eq_some_iff.mp hf
  refine go_priv (pc := 1) (i := 0) (as := []) (rest := []) (w' := (none, [(9, r1)])) lk_0_73 pd_9 rfl oid_0 rfl rfl rfl rfl rfl rfl ⟨rfl, rfl, rfl, rfl, rfl⟩ d35_1 (c_k_takeSnapshot s _ e1) ?_
  refine go_iconst (pc := 4) d35_4 ci_0 (go_istoreN (pc := 5) (L' := [.val (.ref 1), .val (.int (0 : Int32))]) d35_5 rfl ?_)
  exact k_commit_6_ok BIG (0 : Int32) r1 _ hf
theorem c_k_commit (s : S) (o : Int32 × S) (hf : k_commit s = some o) : Call PP m35 [.ref 1] (none, [(9, s)]) (some (.int o.1), (none, [(9, o.2)])) := call_of_go pl_0 rfl (fun h => nomatch h) (k_commit_ok s   _ hf)
set_option maxRecDepth 65536 in
set_option maxHeartbeats 4000000 in
theorem k_clearPending_ok  : ∀  (s : S)  (o : Int32 × S), k_clearPending s = o → Go PP m36 0 [.val (.ref 1), .unset] [] (none, [(9, s)]) (some (.int o.1), (none, [(9, o.2)])) := by
  intro s o hf
  unfold k_clearPending at hf
  refine go_aloadN (pc := 0) d36_0 rfl (go_getI (pc := 1) fs_56 hm_36 d36_1 (go_istoreN (pc := 4) (L' := [.val (.ref 1), .val (.int (gI s 6))]) d36_4 rfl (go_aloadN (pc := 5) d36_5 rfl (go_iconst (pc := 6) d36_6 ci_0 (go_putI (pc := 7) fs_56 hm_36 (wr_6 _) hn_36 d36_7 (go_iloadN (pc := 10) d36_10 rfl ?_))))))
  cases hf
  exact go_iret (pc := 11) rfl d36_11
theorem c_k_clearPending (s : S) : Call PP m36 [.ref 1] (none, [(9, s)]) (some (.int (k_clearPending s).1), (none, [(9, (k_clearPending s).2)])) := call_of_go pl_0 rfl (fun h => nomatch h) (k_clearPending_ok s   _ rfl)
set_option maxRecDepth 65536 in
set_option maxHeartbeats 4000000 in
theorem k_testBit_ok  {s : S} : ∀ (v1 : Int32) (v2 : Int32)   (o : Int32), k_testBit v1 v2 = o → Go PP m37 0 [.val (.ref 1), .val (.int v1), .val (.int v2)] [] (none, [(9, s)]) (some (.int o), (none, [(9, s)])) := by
  intro v1 v2 o hf
  unfold k_testBit at hf
  refine go_iloadN (pc := 0) d37_0 rfl (go_iloadN (pc := 1) d37_1 rfl (go_iushr (pc := 2) d37_2 (go_iconst (pc := 3) d37_3 ci_1 (go_iand (pc := 4) d37_4 ?_))))
  by_cases h1 : ((XT.ushr v1 v2) &&& (1 : Int32)) = 0
  · replace hf := (if_pos h1).symm.trans hf
    refine go_ifY (pc := 5) (pc' := 12) d37_5 (XT.i0_eq_t h1) j_5_7 ?_
    refine go_iconst (pc := 12) d37_12 ci_0 ?_
    cases hf
    exact go_zret (pc := 13) rfl d37_13 (show (0 : Int32) = nar .boolean (0 : Int32) by decide)
  · replace hf := (if_neg h1).symm.trans hf
    refine go_ifN (pc := 5) d37_5 (XT.i0_eq_f h1) ?_
    refine go_iconst (pc := 8) d37_8 ci_1 (go_goto (pc := 9) (pc' := 13) d37_9 j_9_4 ?_)
    cases hf
    exact go_zret (pc := 13) rfl d37_13 (show (1 : Int32) = nar .boolean (1 : Int32) by decide)
theorem c_k_testBit (v1 : Int32) (v2 : Int32) (s : S) : Call PP m37 [.ref 1, .int v1, .int v2] (none, [(9, s)]) (some (.int (k_testBit v1 v2)), (none, [(9, s)])) := call_of_go pl_0 rfl (fun h => nomatch h) (k_testBit_ok v1 v2   _ rfl)
set_option maxRecDepth 65536 in
set_option maxHeartbeats 4000000 in
theorem k_reaches_ok  : ∀ (v1 : Int32) (v2 : Int32) (s : S)  (o : Int32), k_reaches v1 v2 s = some o → Go PP m38 0 [.val (.ref 1), .val (.int v1), .val (.int v2)] [] (none, [(9, s)]) (some (.int o), (none, [(9, s)])) := by
  intro v1 v2 s o hf
  unfold k_reaches at hf
  refine go_aloadN (pc := 0) d38_0 rfl (go_iloadN (pc := 1) d38_1 rfl ?_)
  refine go_priv (pc := 2) (i := 0) (as := [.int v1]) (rest := []) (w' := (none, [(9, s)])) lk_0_65 pd_2 rfl oid_0 rfl rfl rfl rfl rfl rfl ⟨rfl, rfl, rfl, rfl, rfl⟩ d38_2 (c_k_isValid v1 s) ?_
  by_cases h1 : (k_isValid v1 s) = 0
  · replace hf := (if_pos h1).symm.trans hf
    refine go_ifY (pc := 5) (pc' := 16) d38_5 (XT.i0_eq_t h1) j_5_11 ?_
    refine go_iconst (pc := 16) d38_16 ci_0 ?_
    cases hf
    exact go_zret (pc := 17) rfl d38_17 (show (0 : Int32) = nar .boolean (0 : Int32) by decide)
  · replace hf := (if_neg h1).symm.trans hf
    refine go_ifN (pc := 5) d38_5 (XT.i0_eq_f h1) ?_
    refine go_aloadN (pc := 8) d38_8 rfl (go_iloadN (pc := 9) d38_9 rfl ?_)
    refine go_priv (pc := 10) (i := 0) (as := [.int v2]) (rest := []) (w' := (none, [(9, s)])) lk_0_65 pd_2 rfl oid_0 rfl rfl rfl rfl rfl rfl ⟨rfl, rfl, rfl, rfl, rfl⟩ d38_10 (c_k_isValid v2 s) ?_
    by_cases h2 : (k_isValid v2 s) = 0
    · replace hf := (if_pos h2).symm.trans hf
      refine go_ifN (pc := 13) d38_13 (XT.i0_ne_f h2) ?_
      refine go_iconst (pc := 16) d38_16 ci_0 ?_
      cases hf
      exact go_zret (pc := 17) rfl d38_17 (show (0 : Int32) = nar .boolean (0 : Int32) by decide)
    · replace hf := (if_neg h2).symm.trans hf
      refine go_ifY (pc := 13) (pc' := 18) d38_13 (XT.i0_ne_t h2) j_13_5 ?_
      refine go_aloadN (pc := 18) d38_18 rfl (go_aloadN (pc := 19) d38_19 rfl (go_getA (pc := 20) fa_20 hm_38 d38_20 rfl (go_iloadN (pc := 23) d38_23 rfl ?_)))
      obtain ⟨a24, e3, hf⟩ := Option.bind_eq_some_iff.mp hf
      refine go_iaload (pc := 24) (q := 1) ar_1 rfl e3 d38_24 ?_
      refine go_iloadN (pc := 25) d38_25 rfl ?_
      refine go_priv (pc := 26) (i := 0) (as := [.int a24, .int v2]) (rest := []) (w' := (none, [(9, s)])) lk_0_98 pd_37 rfl oid_0 rfl rfl rfl rfl rfl rfl ⟨rfl, rfl, rfl, rfl, rfl⟩ d38_26 (c_k_testBit a24 v2 s) ?_
      cases hf
      exact go_zret (pc := 29) rfl d38_29 rfl
theorem c_k_reaches (v1 : Int32) (v2 : Int32) (s : S) (o : Int32) (hf : k_reaches v1 v2 s = some o) : Call PP m38 [.ref 1, .int v1, .int v2] (none, [(9, s)]) (some (.int o), (none, [(9, s)])) := call_of_go pl_0 rfl (fun h => nomatch h) (k_reaches_ok v1 v2 s   _ hf)
set_option maxRecDepth 65536 in
set_option maxHeartbeats 4000000 in
theorem k_derivationCount_43_ok  : ∀ (n : Nat) (v2 : Int32) (v3 : Int32) (v4 : Int32) (v5 : Int32) (s : S) (x1 : Slot) (hx1 : k1 x1) (o : Int32), k_derivationCount_43 n v2 v3 v4 v5 s = some o → Go PP m39 43 [.val (.ref 1), x1, .val (.int v2), .val (.int v3), .val (.int v4), .val (.int v5)] [] (none, [(9, s)]) (some (.int o), (none, [(9, s)])) := by
  intro n
  induction n with
  | zero => intro v2 v3 v4 v5 s x1 hx1 o hf; exact nomatch hf
  | succ n ih =>
    intro v2 v3 v4 v5 s x1 hx1 o hf
    unfold k_derivationCount_43 at hf
    refine go_iload (pc := 43) d39_43 rfl (go_aloadN (pc := 45) d39_45 rfl (go_getI (pc := 46) fs_44 hm_39 d39_46 ?_))
    by_cases h1 : v5 < (gI s 2)
    · replace hf := (if_pos h1).symm.trans hf
      refine go_icN (pc := 49) d39_49 (XT.ii_ge_f h1) ?_
      refine go_iloadN (pc := 52) d39_52 rfl (go_iload (pc := 53) d39_53 rfl (go_iushr (pc := 55) d39_55 (go_iconst (pc := 56) d39_56 ci_1 (go_iand (pc := 57) d39_57 ?_))))
      by_cases h2 : ((XT.ushr v3 v5) &&& (1 : Int32)) = 0
      · replace hf := (if_pos h2).symm.trans hf
        refine go_ifY (pc := 58) (pc' := 78) d39_58 (XT.i0_eq_t h2) j_58_20 ?_
        refine go_iinc (pc := 78) (L' := [.val (.ref 1), x1, .val (.int v2), .val (.int v3), .val (.int v4), .val (.int (v5 + (1 : Int32)))]) d39_78 rfl ci_1 rfl (go_goto (pc := 81) (pc' := 43) d39_81 j_81_m38 ?_)
        exact ih v2 v3 v4 (v5 + (1 : Int32)) s x1 hx1 _ hf
      · replace hf := (if_neg h2).symm.trans hf
        refine go_ifN (pc := 58) d39_58 (XT.i0_eq_f h2) ?_
        refine go_aloadN (pc := 61) d39_61 rfl (go_getA (pc := 62) fa_20 hm_39 d39_62 rfl (go_iload (pc := 65) d39_65 rfl ?_))
        obtain ⟨a67, e3, hf⟩ := Option.bind_eq_some_iff.mp hf
        refine go_iaload (pc := 67) (q := 1) ar_1 rfl e3 d39_67 ?_
        refine go_iloadN (pc := 68) d39_68 rfl (go_iushr (pc := 69) d39_69 (go_iconst (pc := 70) d39_70 ci_1 (go_iand (pc := 71) d39_71 ?_)))
        by_cases h4 : ((XT.ushr a67 v2) &&& (1 : Int32)) = 0
        · refine go_ifY (pc := 72) (pc' := 78) d39_72 (XT.i0_eq_t h4) j_72_6 ?_
          refine go_iinc (pc := 78) (L' := [.val (.ref 1), x1, .val (.int v2), .val (.int v3), .val (.int v4), .val (.int (v5 + (1 : Int32)))]) d39_78 rfl ci_1 rfl (go_goto (pc := 81) (pc' := 43) d39_81 j_81_m38 ?_)
          exact ih v2 v3 v4 (v5 + (1 : Int32)) s x1 hx1 _ (by simpa only [if_pos h4] using hf)
        · refine go_ifN (pc := 72) d39_72 (XT.i0_eq_f h4) ?_
          refine go_iinc (pc := 75) (L' := [.val (.ref 1), x1, .val (.int v2), .val (.int v3), .val (.int (v4 + (1 : Int32))), .val (.int v5)]) d39_75 rfl ci_1 rfl (go_iinc (pc := 78) (L' := [.val (.ref 1), x1, .val (.int v2), .val (.int v3), .val (.int (v4 + (1 : Int32))), .val (.int (v5 + (1 : Int32)))]) d39_78 rfl ci_1 rfl (go_goto (pc := 81) (pc' := 43) d39_81 j_81_m38 ?_))
          exact ih v2 v3 (v4 + (1 : Int32)) (v5 + (1 : Int32)) s x1 hx1 _ (by simpa only [if_neg h4] using hf)
    · replace hf := (if_neg h1).symm.trans hf
      refine go_icY (pc := 49) (pc' := 84) d39_49 (XT.ii_ge_t h1) j_49_35 ?_
      refine go_iload (pc := 84) d39_84 rfl ?_
      cases hf
      exact go_iret (pc := 86) rfl d39_86
set_option maxRecDepth 65536 in
set_option maxHeartbeats 4000000 in
theorem k_derivationCount_40_ok  : ∀ (v2 : Int32) (v3 : Int32) (v4 : Int32) (s : S) (x1 : Slot) (hx1 : k1 x1) (o : Int32), k_derivationCount_40 v2 v3 v4 s = some o → Go PP m39 40 [.val (.ref 1), x1, .val (.int v2), .val (.int v3), .val (.int v4), .unset] [] (none, [(9, s)]) (some (.int o), (none, [(9, s)])) := by
  intro v2 v3 v4 s x1 hx1 o hf
  unfold k_derivationCount_40 at hf
  refine go_iconst (pc := 40) d39_40 ci_0 (go_istore (pc := 41) (L' := [.val (.ref 1), x1, .val (.int v2), .val (.int v3), .val (.int v4), .val (.int (0 : Int32))]) d39_41 rfl ?_)
  exact k_derivationCount_43_ok BIG v2 v3 v4 (0 : Int32) s x1 hx1 _ hf
set_option maxRecDepth 65536 in
set_option maxHeartbeats 4000000 in
theorem k_derivationCount_ok  : ∀ (v1 : Int32) (v2 : Int32) (s : S)  (o : Int32), k_derivationCount v1 v2 s = some o → Go PP m39 0 [.val (.ref 1), .val (.int v1), .val (.int v2), .unset, .unset, .unset] [] (none, [(9, s)]) (some (.int o), (none, [(9, s)])) := by
  intro v1 v2 s o hf
  unfold k_derivationCount at hf
  refine go_aloadN (pc := 0) d39_0 rfl (go_iloadN (pc := 1) d39_1 rfl ?_)
  refine go_priv (pc := 2) (i := 0) (as := [.int v1]) (rest := []) (w' := (none, [(9, s)])) lk_0_65 pd_2 rfl oid_0 rfl rfl rfl rfl rfl rfl ⟨rfl, rfl, rfl, rfl, rfl⟩ d39_2 (c_k_isValid v1 s) ?_
  by_cases h1 : (k_isValid v1 s) = 0
  · replace hf := (if_pos h1).symm.trans hf
    refine go_ifY (pc := 5) (pc' := 16) d39_5 (XT.i0_eq_t h1) j_5_11 ?_
    refine go_iconst (pc := 16) d39_16 ci_m1 ?_
    cases hf
    exact go_iret (pc := 17) rfl d39_17
  · replace hf := (if_neg h1).symm.trans hf
    refine go_ifN (pc := 5) d39_5 (XT.i0_eq_f h1) ?_
    refine go_aloadN (pc := 8) d39_8 rfl (go_iloadN (pc := 9) d39_9 rfl ?_)
    refine go_priv (pc := 10) (i := 0) (as := [.int v2]) (rest := []) (w' := (none, [(9, s)])) lk_0_65 pd_2 rfl oid_0 rfl rfl rfl rfl rfl rfl ⟨rfl, rfl, rfl, rfl, rfl⟩ d39_10 (c_k_isValid v2 s) ?_
    by_cases h2 : (k_isValid v2 s) = 0
    · replace hf := (if_pos h2).symm.trans hf
      refine go_ifN (pc := 13) d39_13 (XT.i0_ne_f h2) ?_
      refine go_iconst (pc := 16) d39_16 ci_m1 ?_
      cases hf
      exact go_iret (pc := 17) rfl d39_17
    · replace hf := (if_neg h2).symm.trans hf
      refine go_ifY (pc := 13) (pc' := 18) d39_13 (XT.i0_ne_t h2) j_13_5 ?_
      refine go_aloadN (pc := 18) d39_18 rfl (go_getA (pc := 19) fa_16 hm_39 d39_19 rfl (go_iloadN (pc := 22) d39_22 rfl ?_))
      obtain ⟨a23, e3, hf⟩ := Option.bind_eq_some_iff.mp hf
      refine go_iaload (pc := 23) (q := 0) ar_0 rfl e3 d39_23 ?_
      refine go_istoreN (pc := 24) (L' := [.val (.ref 1), .val (.int v1), .val (.int v2), .val (.int a23), .unset, .unset]) d39_24 rfl (go_iconst (pc := 25) d39_25 ci_0 (go_istore (pc := 26) (L' := [.val (.ref 1), .val (.int v1), .val (.int v2), .val (.int a23), .val (.int (0 : Int32)), .unset]) d39_26 rfl (go_aloadN (pc := 28) d39_28 rfl (go_iloadN (pc := 29) d39_29 rfl (go_iloadN (pc := 30) d39_30 rfl ?_)))))
      refine go_priv (pc := 31) (i := 0) (as := [.int a23, .int v2]) (rest := []) (w' := (none, [(9, s)])) lk_0_98 pd_37 rfl oid_0 rfl rfl rfl rfl rfl rfl ⟨rfl, rfl, rfl, rfl, rfl⟩ d39_31 (c_k_testBit a23 v2 s) ?_
      by_cases h4 : (k_testBit a23 v2) = 0
      · refine go_ifY (pc := 34) (pc' := 40) d39_34 (XT.i0_eq_t h4) j_34_6 ?_
        exact k_derivationCount_40_ok v2 a23 (0 : Int32) s (.val (.int v1)) (Or.inr ⟨_, rfl, rfl⟩) _ (by simpa only [if_pos h4] using hf)
      · refine go_ifN (pc := 34) d39_34 (XT.i0_eq_f h4) ?_
        refine go_iconst (pc := 37) d39_37 ci_1 (go_istore (pc := 38) (L' := [.val (.ref 1), .val (.int v1), .val (.int v2), .val (.int a23), .val (.int (1 : Int32)), .unset]) d39_38 rfl ?_)
        exact k_derivationCount_40_ok v2 a23 (1 : Int32) s (.val (.int v1)) (Or.inr ⟨_, rfl, rfl⟩) _ (by simpa only [if_neg h4] using hf)
theorem c_k_derivationCount (v1 : Int32) (v2 : Int32) (s : S) (o : Int32) (hf : k_derivationCount v1 v2 s = some o) : Call PP m39 [.ref 1, .int v1, .int v2] (none, [(9, s)]) (some (.int o), (none, [(9, s)])) := call_of_go pl_0 rfl (fun h => nomatch h) (k_derivationCount_ok v1 v2 s   _ hf)
set_option maxRecDepth 65536 in
set_option maxHeartbeats 4000000 in
theorem k_reachCountFrom_ok  : ∀ (v1 : Int32) (s : S)  (o : Int32), k_reachCountFrom v1 s = some o → Go PP m40 0 [.val (.ref 1), .val (.int v1)] [] (none, [(9, s)]) (some (.int o), (none, [(9, s)])) := by
  intro v1 s o hf
  unfold k_reachCountFrom at hf
  refine go_aloadN (pc := 0) d40_0 rfl (go_iloadN (pc := 1) d40_1 rfl ?_)
  refine go_priv (pc := 2) (i := 0) (as := [.int v1]) (rest := []) (w' := (none, [(9, s)])) lk_0_65 pd_2 rfl oid_0 rfl rfl rfl rfl rfl rfl ⟨rfl, rfl, rfl, rfl, rfl⟩ d40_2 (c_k_isValid v1 s) ?_
  by_cases h1 : (k_isValid v1 s) = 0
  · replace hf := (if_pos h1).symm.trans hf
    refine go_ifN (pc := 5) d40_5 (XT.i0_ne_f h1) ?_
    refine go_iconst (pc := 8) d40_8 ci_m1 ?_
    cases hf
    exact go_iret (pc := 9) rfl d40_9
  · replace hf := (if_neg h1).symm.trans hf
    refine go_ifY (pc := 5) (pc' := 10) d40_5 (XT.i0_ne_t h1) j_5_5 ?_
    refine go_aloadN (pc := 10) d40_10 rfl (go_aloadN (pc := 11) d40_11 rfl (go_getA (pc := 12) fa_20 hm_40 d40_12 rfl (go_iloadN (pc := 15) d40_15 rfl ?_)))
    obtain ⟨a16, e2, hf⟩ := Option.bind_eq_some_iff.mp hf
    refine go_iaload (pc := 16) (q := 1) ar_1 rfl e2 d40_16 ?_
    refine go_priv (pc := 17) (i := 0) (as := [.int a16]) (rest := []) (w' := (none, [(9, s)])) lk_0_101 pd_18 rfl oid_0 rfl rfl rfl rfl rfl rfl ⟨rfl, rfl, rfl, rfl, rfl⟩ d40_17 (c_k_popCount a16 s) ?_
    cases hf
    exact go_iret (pc := 20) rfl d40_20
theorem c_k_reachCountFrom (v1 : Int32) (s : S) (o : Int32) (hf : k_reachCountFrom v1 s = some o) : Call PP m40 [.ref 1, .int v1] (none, [(9, s)]) (some (.int o), (none, [(9, s)])) := call_of_go pl_0 rfl (fun h => nomatch h) (k_reachCountFrom_ok v1 s   _ hf)
set_option maxRecDepth 65536 in
set_option maxHeartbeats 4000000 in
theorem k_reachCountTo_14_ok  : ∀ (n : Nat) (v1 : Int32) (v2 : Int32) (v3 : Int32) (s : S)  (o : Int32), k_reachCountTo_14 n v1 v2 v3 s = some o → Go PP m41 14 [.val (.ref 1), .val (.int v1), .val (.int v2), .val (.int v3)] [] (none, [(9, s)]) (some (.int o), (none, [(9, s)])) := by
  intro n
  induction n with
  | zero => intro v1 v2 v3 s o hf; exact nomatch hf
  | succ n ih =>
    intro v1 v2 v3 s o hf
    unfold k_reachCountTo_14 at hf
    refine go_iloadN (pc := 14) d41_14 rfl (go_aloadN (pc := 15) d41_15 rfl (go_getI (pc := 16) fs_44 hm_41 d41_16 ?_))
    by_cases h1 : v3 < (gI s 2)
    · replace hf := (if_pos h1).symm.trans hf
      refine go_icN (pc := 19) d41_19 (XT.ii_ge_f h1) ?_
      refine go_aloadN (pc := 22) d41_22 rfl (go_getA (pc := 23) fa_20 hm_41 d41_23 rfl (go_iloadN (pc := 26) d41_26 rfl ?_))
      obtain ⟨a27, e2, hf⟩ := Option.bind_eq_some_iff.mp hf
      refine go_iaload (pc := 27) (q := 1) ar_1 rfl e2 d41_27 ?_
      refine go_iloadN (pc := 28) d41_28 rfl (go_iushr (pc := 29) d41_29 (go_iconst (pc := 30) d41_30 ci_1 (go_iand (pc := 31) d41_31 ?_)))
      by_cases h3 : ((XT.ushr a27 v1) &&& (1 : Int32)) = 0
      · refine go_ifY (pc := 32) (pc' := 38) d41_32 (XT.i0_eq_t h3) j_32_6 ?_
        refine go_iinc (pc := 38) (L' := [.val (.ref 1), .val (.int v1), .val (.int v2), .val (.int (v3 + (1 : Int32)))]) d41_38 rfl ci_1 rfl (go_goto (pc := 41) (pc' := 14) d41_41 j_41_m27 ?_)
        exact ih v1 v2 (v3 + (1 : Int32)) s _ (by simpa only [if_pos h3] using hf)
      · refine go_ifN (pc := 32) d41_32 (XT.i0_eq_f h3) ?_
        refine go_iinc (pc := 35) (L' := [.val (.ref 1), .val (.int v1), .val (.int (v2 + (1 : Int32))), .val (.int v3)]) d41_35 rfl ci_1 rfl (go_iinc (pc := 38) (L' := [.val (.ref 1), .val (.int v1), .val (.int (v2 + (1 : Int32))), .val (.int (v3 + (1 : Int32)))]) d41_38 rfl ci_1 rfl (go_goto (pc := 41) (pc' := 14) d41_41 j_41_m27 ?_))
        exact ih v1 (v2 + (1 : Int32)) (v3 + (1 : Int32)) s _ (by simpa only [if_neg h3] using hf)
    · replace hf := (if_neg h1).symm.trans hf
      refine go_icY (pc := 19) (pc' := 44) d41_19 (XT.ii_ge_t h1) j_19_25 ?_
      refine go_iloadN (pc := 44) d41_44 rfl ?_
      cases hf
      exact go_iret (pc := 45) rfl d41_45
set_option maxRecDepth 65536 in
set_option maxHeartbeats 4000000 in
theorem k_reachCountTo_ok  : ∀ (v1 : Int32) (s : S)  (o : Int32), k_reachCountTo v1 s = some o → Go PP m41 0 [.val (.ref 1), .val (.int v1), .unset, .unset] [] (none, [(9, s)]) (some (.int o), (none, [(9, s)])) := by
  intro v1 s o hf
  unfold k_reachCountTo at hf
  refine go_aloadN (pc := 0) d41_0 rfl (go_iloadN (pc := 1) d41_1 rfl ?_)
  refine go_priv (pc := 2) (i := 0) (as := [.int v1]) (rest := []) (w' := (none, [(9, s)])) lk_0_65 pd_2 rfl oid_0 rfl rfl rfl rfl rfl rfl ⟨rfl, rfl, rfl, rfl, rfl⟩ d41_2 (c_k_isValid v1 s) ?_
  by_cases h1 : (k_isValid v1 s) = 0
  · replace hf := (if_pos h1).symm.trans hf
    refine go_ifN (pc := 5) d41_5 (XT.i0_ne_f h1) ?_
    refine go_iconst (pc := 8) d41_8 ci_m1 ?_
    cases hf
    exact go_iret (pc := 9) rfl d41_9
  · replace hf := (if_neg h1).symm.trans hf
    refine go_ifY (pc := 5) (pc' := 10) d41_5 (XT.i0_ne_t h1) j_5_5 ?_
    refine go_iconst (pc := 10) d41_10 ci_0 (go_istoreN (pc := 11) (L' := [.val (.ref 1), .val (.int v1), .val (.int (0 : Int32)), .unset]) d41_11 rfl (go_iconst (pc := 12) d41_12 ci_0 (go_istoreN (pc := 13) (L' := [.val (.ref 1), .val (.int v1), .val (.int (0 : Int32)), .val (.int (0 : Int32))]) d41_13 rfl ?_)))
    exact k_reachCountTo_14_ok BIG v1 (0 : Int32) (0 : Int32) s _ hf
theorem c_k_reachCountTo (v1 : Int32) (s : S) (o : Int32) (hf : k_reachCountTo v1 s = some o) : Call PP m41 [.ref 1, .int v1] (none, [(9, s)]) (some (.int o), (none, [(9, s)])) := call_of_go pl_0 rfl (fun h => nomatch h) (k_reachCountTo_ok v1 s   _ hf)
set_option maxRecDepth 65536 in
set_option maxHeartbeats 4000000 in
theorem k_viewSize_4_ok  : ∀ (n : Nat) (v1 : Int32) (v2 : Int32) (s : S)  (o : Int32), k_viewSize_4 n v1 v2 s = some o → Go PP m42 4 [.val (.ref 1), .val (.int v1), .val (.int v2)] [] (none, [(9, s)]) (some (.int o), (none, [(9, s)])) := by
  intro n
  induction n with
  | zero => intro v1 v2 s o hf; exact nomatch hf
  | succ n ih =>
    intro v1 v2 s o hf
    unfold k_viewSize_4 at hf
    refine go_iloadN (pc := 4) d42_4 rfl (go_aloadN (pc := 5) d42_5 rfl (go_getI (pc := 6) fs_44 hm_42 d42_6 ?_))
    by_cases h1 : v2 < (gI s 2)
    · replace hf := (if_pos h1).symm.trans hf
      refine go_icN (pc := 9) d42_9 (XT.ii_ge_f h1) ?_
      refine go_iloadN (pc := 12) d42_12 rfl (go_aloadN (pc := 13) d42_13 rfl (go_aloadN (pc := 14) d42_14 rfl (go_getA (pc := 15) fa_20 hm_42 d42_15 rfl (go_iloadN (pc := 18) d42_18 rfl ?_))))
      obtain ⟨a19, e2, hf⟩ := Option.bind_eq_some_iff.mp hf
      refine go_iaload (pc := 19) (q := 1) ar_1 rfl e2 d42_19 ?_
      refine go_priv (pc := 20) (i := 0) (as := [.int a19]) (rest := [.int v1]) (w' := (none, [(9, s)])) lk_0_101 pd_18 rfl oid_0 rfl rfl rfl rfl rfl rfl ⟨rfl, rfl, rfl, rfl, rfl⟩ d42_20 (c_k_popCount a19 s) ?_
      refine go_iadd (pc := 23) d42_23 (go_istoreN (pc := 24) (L' := [.val (.ref 1), .val (.int (v1 + (k_popCount a19))), .val (.int v2)]) d42_24 rfl (go_iinc (pc := 25) (L' := [.val (.ref 1), .val (.int (v1 + (k_popCount a19))), .val (.int (v2 + (1 : Int32)))]) d42_25 rfl ci_1 rfl (go_goto (pc := 28) (pc' := 4) d42_28 j_28_m24 ?_)))
      exact ih (v1 + (k_popCount a19)) (v2 + (1 : Int32)) s _ hf
    · replace hf := (if_neg h1).symm.trans hf
      refine go_icY (pc := 9) (pc' := 31) d42_9 (XT.ii_ge_t h1) j_9_22 ?_
      refine go_iloadN (pc := 31) d42_31 rfl ?_
      cases hf
      exact go_iret (pc := 32) rfl d42_32
set_option maxRecDepth 65536 in
set_option maxHeartbeats 4000000 in
theorem k_viewSize_ok  : ∀  (s : S)  (o : Int32), k_viewSize s = some o → Go PP m42 0 [.val (.ref 1), .unset, .unset] [] (none, [(9, s)]) (some (.int o), (none, [(9, s)])) := by
  intro s o hf
  unfold k_viewSize at hf
  refine go_iconst (pc := 0) d42_0 ci_0 (go_istoreN (pc := 1) (L' := [.val (.ref 1), .val (.int (0 : Int32)), .unset]) d42_1 rfl (go_iconst (pc := 2) d42_2 ci_0 (go_istoreN (pc := 3) (L' := [.val (.ref 1), .val (.int (0 : Int32)), .val (.int (0 : Int32))]) d42_3 rfl ?_)))
  exact k_viewSize_4_ok BIG (0 : Int32) (0 : Int32) s _ hf
theorem c_k_viewSize (s : S) (o : Int32) (hf : k_viewSize s = some o) : Call PP m42 [.ref 1] (none, [(9, s)]) (some (.int o), (none, [(9, s)])) := call_of_go pl_0 rfl (fun h => nomatch h) (k_viewSize_ok s   _ hf)
set_option maxRecDepth 65536 in
set_option maxHeartbeats 4000000 in
theorem k_lastAdded_ok  : ∀  (s : S)  (o : Int32), k_lastAdded s = o → Go PP m43 0 [.val (.ref 1)] [] (none, [(9, s)]) (some (.int o), (none, [(9, s)])) := by
  intro s o hf
  unfold k_lastAdded at hf
  refine go_aloadN (pc := 0) d43_0 rfl (go_getI (pc := 1) fs_59 hm_43 d43_1 ?_)
  cases hf
  exact go_iret (pc := 4) rfl d43_4
theorem c_k_lastAdded (s : S) : Call PP m43 [.ref 1] (none, [(9, s)]) (some (.int (k_lastAdded s)), (none, [(9, s)])) := call_of_go pl_0 rfl (fun h => nomatch h) (k_lastAdded_ok s   _ rfl)
set_option maxRecDepth 65536 in
set_option maxHeartbeats 4000000 in
theorem k_lastRemoved_ok  : ∀  (s : S)  (o : Int32), k_lastRemoved s = o → Go PP m44 0 [.val (.ref 1)] [] (none, [(9, s)]) (some (.int o), (none, [(9, s)])) := by
  intro s o hf
  unfold k_lastRemoved at hf
  refine go_aloadN (pc := 0) d44_0 rfl (go_getI (pc := 1) fs_62 hm_44 d44_1 ?_)
  cases hf
  exact go_iret (pc := 4) rfl d44_4
theorem c_k_lastRemoved (s : S) : Call PP m44 [.ref 1] (none, [(9, s)]) (some (.int (k_lastRemoved s)), (none, [(9, s)])) := call_of_go pl_0 rfl (fun h => nomatch h) (k_lastRemoved_ok s   _ rfl)
set_option maxRecDepth 65536 in
set_option maxHeartbeats 4000000 in
theorem h_cell_ok_n0  : ∀ (v1 : Int32) (q : List Int32)  (o : Int32), h_cell v1 q = some o → Go PP m0 0 [.val (.ref 0), .val (.int v1)] [] (some q, []) (some (.int o), (some q, [])) := by
  intro v1 q o hf
  unfold h_cell at hf
  refine go_iloadN (pc := 0) d0_0 rfl (go_aloadN (pc := 1) d0_1 rfl (go_slen (pc := 2) d0_2 ?_))
  by_cases h1 : v1 < q.length.toInt32
  · replace hf := (if_pos h1).symm.trans hf
    refine go_icN (pc := 3) d0_3 (XT.ii_ge_f h1) ?_
    refine go_aloadN (pc := 6) d0_6 rfl (go_iloadN (pc := 7) d0_7 rfl ?_)
    obtain ⟨a8, e2, hf⟩ := Option.bind_eq_some_iff.mp hf
    refine go_sload (pc := 8) e2 d0_8 ?_
    refine go_goto (pc := 9) (pc' := 13) d0_9 j_9_4 ?_
    cases hf
    exact go_iret (pc := 13) rfl d0_13
  · replace hf := (if_neg h1).symm.trans hf
    refine go_icY (pc := 3) (pc' := 12) d0_3 (XT.ii_ge_t h1) j_3_9 ?_
    refine go_iconst (pc := 12) d0_12 ci_0 ?_
    cases hf
    exact go_iret (pc := 13) rfl d0_13
theorem c_h_cell_n0 (v1 : Int32) (q : List Int32) (o : Int32) (hf : h_cell v1 q = some o) : Call PP m0 [.ref 0, .int v1] (some q, []) (some (.int o), (some q, [])) := call_of_go pl_1 rfl (fun h => nomatch h) (h_cell_ok_n0 v1 q   _ hf)
set_option maxRecDepth 65536 in
set_option maxHeartbeats 4000000 in
theorem h_bit_ok_n1  {y0 : S} {q : List Int32} : ∀ (v0 : Int64) (v2 : Int32) (v3 : Int32)   (o : Int32), h_bit v0 v2 v3 = o → Go PP m5 0 [.val (.long v0), .second, .val (.int v2), .val (.int v3)] [] (some q, [(9, y0)]) (some (.int o), (some q, [(9, y0)])) := by
  intro v0 v2 v3 o hf
  unfold h_bit at hf
  refine go_lloadN (pc := 0) d5_0 rfl (go_iloadN (pc := 1) d5_1 rfl (go_bipush (pc := 2) d5_2 cb_8 (go_imul (pc := 4) d5_4 (go_iloadN (pc := 5) d5_5 rfl (go_iadd (pc := 6) d5_6 (go_lushr (pc := 7) d5_7 (go_lconst (pc := 8) d5_8 cl_1 ?_)))))))
  refine go_land (pc := 9) d5_9 (go_lconst (pc := 10) d5_10 cl_0 (go_lcmp (pc := 11) d5_11 ?_))
  by_cases h1 : ((XT.ushrL v0 ((v2 * (8 : Int32)) + v3)) &&& (1 : Int64)) = (0 : Int64)
  · replace hf := (if_pos h1).symm.trans hf
    refine go_ifY (pc := 12) (pc' := 19) d5_12 (XT.ll_eq_t h1) j_12_7 ?_
    refine go_iconst (pc := 19) d5_19 ci_0 ?_
    cases hf
    exact go_zret (pc := 20) rfl d5_20 (show (0 : Int32) = nar .boolean (0 : Int32) by decide)
  · replace hf := (if_neg h1).symm.trans hf
    refine go_ifN (pc := 12) d5_12 (XT.ll_eq_f h1) ?_
    refine go_iconst (pc := 15) d5_15 ci_1 (go_goto (pc := 16) (pc' := 20) d5_16 j_16_4 ?_)
    cases hf
    exact go_zret (pc := 20) rfl d5_20 (show (1 : Int32) = nar .boolean (1 : Int32) by decide)
theorem c_h_bit_n1 (v0 : Int64) (v2 : Int32) (v3 : Int32) (q : List Int32) (y0 : S) : Call PP m5 [.long v0, .int v2, .int v3] (some q, [(9, y0)]) (some (.int (h_bit v0 v2 v3)), (some q, [(9, y0)])) := call_of_go pl_1 rfl (fun h => nomatch h) (h_bit_ok_n1 v0 v2 v3   _ rfl)
def T_h_closure_5_n1 (y0 : S) (q : List Int32) (k5 : Int64 → Int32 → Int64 → Int32 → Option Int64) : Prop := ∀ (v0 : Int64) (v2 : Int32) (v3 : Int64) (v5 : Int32)  (x6 : Slot) (x7 : Slot) (x8 : Slot) (x9 : Slot) (hx6 : k2 x6 x7) (hx8 : k1 x8) (hx9 : k1 x9) (o : Int64), k5 v0 v2 v3 v5 = some o → Go PP m6 5 [.val (.long v0), .second, .val (.int v2), .val (.long v3), .second, .val (.int v5), x6, x7, x8, x9] [] (some q, [(9, y0)]) (some (.long o), (some q, [(9, y0)]))
set_option maxRecDepth 65536 in
set_option maxHeartbeats 4000000 in
theorem h_closure_78_ok_n1 {k5 : Int64 → Int32 → Int64 → Int32 → Option Int64} {y0 : S} {q : List Int32} (hk5 : T_h_closure_5_n1 y0 q k5) : ∀ (v0 : Int64) (v2 : Int32) (v5 : Int32) (v6 : Int64)  (x3 : Slot) (x4 : Slot) (x8 : Slot) (x9 : Slot) (hx3 : k2 x3 x4) (hx8 : k1 x8) (hx9 : k1 x9) (o : Int64), h_closure_78 k5 v0 v2 v5 v6 = some o → Go PP m6 78 [.val (.long v0), .second, .val (.int v2), x3, x4, .val (.int v5), .val (.long v6), .second, x8, x9] [] (some q, [(9, y0)]) (some (.long o), (some q, [(9, y0)])) := by
  intro v0 v2 v5 v6 x3 x4 x8 x9 hx3 hx8 hx9 o hf
  unfold h_closure_78 at hf
  refine go_lload (pc := 78) d6_78 rfl (go_lstoreN (pc := 80) (L' := [.val (.long v0), .second, .val (.int v2), .val (.long v6), .second, .val (.int v5), .val (.long v6), .second, x8, x9]) d6_80 (stx2 rfl rfl hx3) (go_iinc (pc := 81) (L' := [.val (.long v0), .second, .val (.int v2), .val (.long v6), .second, .val (.int (v5 + (1 : Int32))), .val (.long v6), .second, x8, x9]) d6_81 rfl ci_1 rfl (go_goto (pc := 84) (pc' := 5) d6_84 j_84_m79 ?_)))
  exact hk5 v0 v2 v6 (v5 + (1 : Int32)) (.val (.long v6)) .second x8 x9 (Or.inr ⟨_, rfl, rfl⟩) hx8 hx9 _ hf
def T_h_closure_18_n1 (y0 : S) (q : List Int32) (k18 : Int64 → Int32 → Int64 → Int32 → Int64 → Int32 → Option Int64) : Prop := ∀ (v0 : Int64) (v2 : Int32) (v3 : Int64) (v5 : Int32) (v6 : Int64) (v8 : Int32)  (x9 : Slot) (hx9 : k1 x9) (o : Int64), k18 v0 v2 v3 v5 v6 v8 = some o → Go PP m6 18 [.val (.long v0), .second, .val (.int v2), .val (.long v3), .second, .val (.int v5), .val (.long v6), .second, .val (.int v8), x9] [] (some q, [(9, y0)]) (some (.long o), (some q, [(9, y0)]))
set_option maxRecDepth 65536 in
set_option maxHeartbeats 4000000 in
theorem h_closure_27_ok_n1 {k5 : Int64 → Int32 → Int64 → Int32 → Option Int64} {k18 : Int64 → Int32 → Int64 → Int32 → Int64 → Int32 → Option Int64} {y0 : S} {q : List Int32} (hk5 : T_h_closure_5_n1 y0 q k5) (hk18 : T_h_closure_18_n1 y0 q k18) : ∀ (n : Nat) (v0 : Int64) (v2 : Int32) (v3 : Int64) (v5 : Int32) (v6 : Int64) (v8 : Int32) (v9 : Int32)   (o : Int64), h_closure_27 k5 k18 n v0 v2 v3 v5 v6 v8 v9 = some o → Go PP m6 27 [.val (.long v0), .second, .val (.int v2), .val (.long v3), .second, .val (.int v5), .val (.long v6), .second, .val (.int v8), .val (.int v9)] [] (some q, [(9, y0)]) (some (.long o), (some q, [(9, y0)])) := by
  intro n
  induction n with
  | zero => intro v0 v2 v3 v5 v6 v8 v9 o hf; exact nomatch hf
  | succ n ih =>
    intro v0 v2 v3 v5 v6 v8 v9 o hf
    unfold h_closure_27 at hf
    refine go_iload (pc := 27) d6_27 rfl (go_iloadN (pc := 29) d6_29 rfl ?_)
    by_cases h1 : v9 < v2
    · replace hf := (if_pos h1).symm.trans hf
      refine go_icN (pc := 30) d6_30 (XT.ii_ge_f h1) ?_
      refine go_lloadN (pc := 33) d6_33 rfl (go_iload (pc := 34) d6_34 rfl (go_iload (pc := 36) d6_36 rfl ?_))
      refine go_stat (pc := 38) (as := [.long v0, .int v8, .int v9]) (rest := []) (w' := (some q, [(9, y0)])) lk_1_7 pd_5 rfl rfl ⟨Nat.le_of_ble_eq_true rfl, Nat.le_of_ble_eq_true rfl⟩ ⟨rfl, rfl, rfl⟩ ⟨rfl, rfl, rfl, rfl, rfl⟩ d6_38 (c_h_bit_n1 v0 v8 v9 q y0) ?_
      by_cases h2 : (h_bit v0 v8 v9) = 0
      · refine go_ifY (pc := 41) (pc' := 66) d6_41 (XT.i0_eq_t h2) j_41_25 ?_
        refine go_iinc (pc := 66) (L' := [.val (.long v0), .second, .val (.int v2), .val (.long v3), .second, .val (.int v5), .val (.long v6), .second, .val (.int v8), .val (.int (v9 + (1 : Int32)))]) d6_66 rfl ci_1 rfl (go_goto (pc := 69) (pc' := 27) d6_69 j_69_m42 ?_)
        exact ih v0 v2 v3 v5 v6 v8 (v9 + (1 : Int32)) _ (by simpa only [if_pos h2] using hf)
      · refine go_ifN (pc := 41) d6_41 (XT.i0_eq_f h2) ?_
        refine go_lload (pc := 44) d6_44 rfl (go_lloadN (pc := 46) d6_46 rfl (go_iload (pc := 47) d6_47 rfl (go_bipush (pc := 49) d6_49 cb_8 (go_imul (pc := 51) d6_51 (go_lushr (pc := 52) d6_52 (go_ldc2 (pc := 53) (u := (255 : Int64)) d6_53 (List.mem_of_getElem? (i := 152) rfl) (go_land (pc := 56) d6_56 ?_)))))))
        refine go_iload (pc := 57) d6_57 rfl (go_bipush (pc := 59) d6_59 cb_8 (go_imul (pc := 61) d6_61 (go_lshl (pc := 62) d6_62 (go_lor (pc := 63) d6_63 (go_lstore (pc := 64) (L' := [.val (.long v0), .second, .val (.int v2), .val (.long v3), .second, .val (.int v5), .val (.long (v6 ||| (((XT.ushrL v3 (v9 * (8 : Int32))) &&& (255 : Int64)) <<< ((v8 * (8 : Int32)).toInt64 &&& 63)))), .second, .val (.int v8), .val (.int v9)]) d6_64 rfl (go_iinc (pc := 66) (L' := [.val (.long v0), .second, .val (.int v2), .val (.long v3), .second, .val (.int v5), .val (.long (v6 ||| (((XT.ushrL v3 (v9 * (8 : Int32))) &&& (255 : Int64)) <<< ((v8 * (8 : Int32)).toInt64 &&& 63)))), .second, .val (.int v8), .val (.int (v9 + (1 : Int32)))]) d6_66 rfl ci_1 rfl (go_goto (pc := 69) (pc' := 27) d6_69 j_69_m42 ?_)))))))
        exact ih v0 v2 v3 v5 (v6 ||| (((XT.ushrL v3 (v9 * (8 : Int32))) &&& (255 : Int64)) <<< ((v8 * (8 : Int32)).toInt64 &&& 63))) v8 (v9 + (1 : Int32)) _ (by simpa only [if_neg h2] using hf)
    · replace hf := (if_neg h1).symm.trans hf
      refine go_icY (pc := 30) (pc' := 72) d6_30 (XT.ii_ge_t h1) j_30_42 ?_
      refine go_iinc (pc := 72) (L' := [.val (.long v0), .second, .val (.int v2), .val (.long v3), .second, .val (.int v5), .val (.long v6), .second, .val (.int (v8 + (1 : Int32))), .val (.int v9)]) d6_72 rfl ci_1 rfl (go_goto (pc := 75) (pc' := 18) d6_75 j_75_m57 ?_)
      exact hk18 v0 v2 v3 v5 v6 (v8 + (1 : Int32)) (.val (.int v9)) (Or.inr ⟨_, rfl, rfl⟩) _ hf
set_option maxRecDepth 65536 in
set_option maxHeartbeats 4000000 in
theorem h_closure_18_ok_n1 {k5 : Int64 → Int32 → Int64 → Int32 → Option Int64} {y0 : S} {q : List Int32} (hk5 : T_h_closure_5_n1 y0 q k5) : ∀ (n : Nat) (v0 : Int64) (v2 : Int32) (v3 : Int64) (v5 : Int32) (v6 : Int64) (v8 : Int32)  (x9 : Slot) (hx9 : k1 x9) (o : Int64), h_closure_18 k5 n v0 v2 v3 v5 v6 v8 = some o → Go PP m6 18 [.val (.long v0), .second, .val (.int v2), .val (.long v3), .second, .val (.int v5), .val (.long v6), .second, .val (.int v8), x9] [] (some q, [(9, y0)]) (some (.long o), (some q, [(9, y0)])) := by
  intro n
  induction n with
  | zero => intro v0 v2 v3 v5 v6 v8 x9 hx9 o hf; exact nomatch hf
  | succ n ih =>
    intro v0 v2 v3 v5 v6 v8 x9 hx9 o hf
    unfold h_closure_18 at hf
    refine go_iload (pc := 18) d6_18 rfl (go_iloadN (pc := 20) d6_20 rfl ?_)
    by_cases h1 : v8 < v2
    · replace hf := (if_pos h1).symm.trans hf
      refine go_icN (pc := 21) d6_21 (XT.ii_ge_f h1) ?_
      refine go_iconst (pc := 24) d6_24 ci_0 (go_istore (pc := 25) (L' := [.val (.long v0), .second, .val (.int v2), .val (.long v3), .second, .val (.int v5), .val (.long v6), .second, .val (.int v8), .val (.int (0 : Int32))]) d6_25 (stx rfl hx9 rfl) ?_)
      exact h_closure_27_ok_n1 hk5 ih BIG v0 v2 v3 v5 v6 v8 (0 : Int32) _ hf
    · replace hf := (if_neg h1).symm.trans hf
      refine go_icY (pc := 21) (pc' := 78) d6_21 (XT.ii_ge_t h1) j_21_57 ?_
      exact h_closure_78_ok_n1 hk5 v0 v2 v5 v6 (.val (.long v3)) .second (.val (.int v8)) x9 (Or.inr ⟨_, rfl, rfl⟩) (Or.inr ⟨_, rfl, rfl⟩) hx9 _ hf
set_option maxRecDepth 65536 in
set_option maxHeartbeats 4000000 in
theorem h_closure_5_ok_n1  {y0 : S} {q : List Int32} : ∀ (n : Nat) (v0 : Int64) (v2 : Int32) (v3 : Int64) (v5 : Int32)  (x6 : Slot) (x7 : Slot) (x8 : Slot) (x9 : Slot) (hx6 : k2 x6 x7) (hx8 : k1 x8) (hx9 : k1 x9) (o : Int64), h_closure_5 n v0 v2 v3 v5 = some o → Go PP m6 5 [.val (.long v0), .second, .val (.int v2), .val (.long v3), .second, .val (.int v5), x6, x7, x8, x9] [] (some q, [(9, y0)]) (some (.long o), (some q, [(9, y0)])) := by
  intro n
  induction n with
  | zero => intro v0 v2 v3 v5 x6 x7 x8 x9 hx6 hx8 hx9 o hf; exact nomatch hf
  | succ n ih =>
    intro v0 v2 v3 v5 x6 x7 x8 x9 hx6 hx8 hx9 o hf
    unfold h_closure_5 at hf
    refine go_iload (pc := 5) d6_5 rfl (go_bipush (pc := 7) d6_7 cb_8 ?_)
    by_cases h1 : v5 < (8 : Int32)
    · replace hf := (if_pos h1).symm.trans hf
      refine go_icN (pc := 9) d6_9 (XT.ii_ge_f h1) ?_
      refine go_lloadN (pc := 12) d6_12 rfl (go_lstore (pc := 13) (L' := [.val (.long v0), .second, .val (.int v2), .val (.long v3), .second, .val (.int v5), .val (.long v0), .second, x8, x9]) d6_13 (stx2 rfl rfl hx6) (go_iconst (pc := 15) d6_15 ci_0 (go_istore (pc := 16) (L' := [.val (.long v0), .second, .val (.int v2), .val (.long v3), .second, .val (.int v5), .val (.long v0), .second, .val (.int (0 : Int32)), x9]) d6_16 (stx rfl hx8 rfl) ?_)))
      exact h_closure_18_ok_n1 ih BIG v0 v2 v3 v5 v0 (0 : Int32) x9 hx9 _ hf
    · replace hf := (if_neg h1).symm.trans hf
      refine go_icY (pc := 9) (pc' := 87) d6_9 (XT.ii_ge_t h1) j_9_78 ?_
      refine go_lloadN (pc := 87) d6_87 rfl ?_
      cases hf
      exact go_lret (pc := 88) rfl d6_88
set_option maxRecDepth 65536 in
set_option maxHeartbeats 4000000 in
theorem h_closure_ok_n1  {y0 : S} {q : List Int32} : ∀ (v0 : Int64) (v2 : Int32)   (o : Int64), h_closure v0 v2 = some o → Go PP m6 0 [.val (.long v0), .second, .val (.int v2), .unset, .unset, .unset, .unset, .unset, .unset, .unset] [] (some q, [(9, y0)]) (some (.long o), (some q, [(9, y0)])) := by
  intro v0 v2 o hf
  unfold h_closure at hf
  refine go_lloadN (pc := 0) d6_0 rfl (go_lstoreN (pc := 1) (L' := [.val (.long v0), .second, .val (.int v2), .val (.long v0), .second, .unset, .unset, .unset, .unset, .unset]) d6_1 rfl (go_iconst (pc := 2) d6_2 ci_0 (go_istore (pc := 3) (L' := [.val (.long v0), .second, .val (.int v2), .val (.long v0), .second, .val (.int (0 : Int32)), .unset, .unset, .unset, .unset]) d6_3 rfl ?_)))
  exact h_closure_5_ok_n1 BIG v0 v2 v0 (0 : Int32) .unset .unset .unset .unset (Or.inl ⟨rfl, rfl⟩) (Or.inl rfl) (Or.inl rfl) _ hf
theorem c_h_closure_n1 (v0 : Int64) (v2 : Int32) (q : List Int32) (y0 : S) (o : Int64) (hf : h_closure v0 v2 = some o) : Call PP m6 [.long v0, .int v2] (some q, [(9, y0)]) (some (.long o), (some q, [(9, y0)])) := call_of_go pl_1 rfl (fun h => nomatch h) (h_closure_ok_n1 v0 v2   _ hf)
set_option maxRecDepth 65536 in
set_option maxHeartbeats 4000000 in
theorem h_cell_ok_n1  {y0 : S} : ∀ (v1 : Int32) (q : List Int32)  (o : Int32), h_cell v1 q = some o → Go PP m0 0 [.val (.ref 0), .val (.int v1)] [] (some q, [(9, y0)]) (some (.int o), (some q, [(9, y0)])) := by
  intro v1 q o hf
  unfold h_cell at hf
  refine go_iloadN (pc := 0) d0_0 rfl (go_aloadN (pc := 1) d0_1 rfl (go_slen (pc := 2) d0_2 ?_))
  by_cases h1 : v1 < q.length.toInt32
  · replace hf := (if_pos h1).symm.trans hf
    refine go_icN (pc := 3) d0_3 (XT.ii_ge_f h1) ?_
    refine go_aloadN (pc := 6) d0_6 rfl (go_iloadN (pc := 7) d0_7 rfl ?_)
    obtain ⟨a8, e2, hf⟩ := Option.bind_eq_some_iff.mp hf
    refine go_sload (pc := 8) e2 d0_8 ?_
    refine go_goto (pc := 9) (pc' := 13) d0_9 j_9_4 ?_
    cases hf
    exact go_iret (pc := 13) rfl d0_13
  · replace hf := (if_neg h1).symm.trans hf
    refine go_icY (pc := 3) (pc' := 12) d0_3 (XT.ii_ge_t h1) j_3_9 ?_
    refine go_iconst (pc := 12) d0_12 ci_0 ?_
    cases hf
    exact go_iret (pc := 13) rfl d0_13
theorem c_h_cell_n1 (v1 : Int32) (q : List Int32) (y0 : S) (o : Int32) (hf : h_cell v1 q = some o) : Call PP m0 [.ref 0, .int v1] (some q, [(9, y0)]) (some (.int o), (some q, [(9, y0)])) := call_of_go pl_1 rfl (fun h => nomatch h) (h_cell_ok_n1 v1 q   _ hf)
set_option maxRecDepth 65536 in
set_option maxHeartbeats 4000000 in
theorem h_pop_4_ok_n1  {y0 : S} {q : List Int32} : ∀ (n : Nat) (v0 : Int64) (v2 : Int32) (v3 : Int32)   (o : Int32), h_pop_4 n v0 v2 v3 = some o → Go PP m7 4 [.val (.long v0), .second, .val (.int v2), .val (.int v3)] [] (some q, [(9, y0)]) (some (.int o), (some q, [(9, y0)])) := by
  intro n
  induction n with
  | zero => intro v0 v2 v3 o hf; exact nomatch hf
  | succ n ih =>
    intro v0 v2 v3 o hf
    unfold h_pop_4 at hf
    refine go_iloadN (pc := 4) d7_4 rfl (go_bipush (pc := 5) d7_5 cb_64 ?_)
    by_cases h1 : v3 < (64 : Int32)
    · replace hf := (if_pos h1).symm.trans hf
      refine go_icN (pc := 7) d7_7 (XT.ii_ge_f h1) ?_
      refine go_lloadN (pc := 10) d7_10 rfl (go_iloadN (pc := 11) d7_11 rfl (go_lushr (pc := 12) d7_12 (go_lconst (pc := 13) d7_13 cl_1 (go_land (pc := 14) d7_14 (go_lconst (pc := 15) d7_15 cl_0 (go_lcmp (pc := 16) d7_16 ?_))))))
      by_cases h2 : ((XT.ushrL v0 v3) &&& (1 : Int64)) = (0 : Int64)
      · refine go_ifY (pc := 17) (pc' := 23) d7_17 (XT.ll_eq_t h2) j_17_6 ?_
        refine go_iinc (pc := 23) (L' := [.val (.long v0), .second, .val (.int v2), .val (.int (v3 + (1 : Int32)))]) d7_23 rfl ci_1 rfl (go_goto (pc := 26) (pc' := 4) d7_26 j_26_m22 ?_)
        exact ih v0 v2 (v3 + (1 : Int32)) _ (by simpa only [if_pos h2] using hf)
      · refine go_ifN (pc := 17) d7_17 (XT.ll_eq_f h2) ?_
        refine go_iinc (pc := 20) (L' := [.val (.long v0), .second, .val (.int (v2 + (1 : Int32))), .val (.int v3)]) d7_20 rfl ci_1 rfl (go_iinc (pc := 23) (L' := [.val (.long v0), .second, .val (.int (v2 + (1 : Int32))), .val (.int (v3 + (1 : Int32)))]) d7_23 rfl ci_1 rfl (go_goto (pc := 26) (pc' := 4) d7_26 j_26_m22 ?_))
        exact ih v0 (v2 + (1 : Int32)) (v3 + (1 : Int32)) _ (by simpa only [if_neg h2] using hf)
    · replace hf := (if_neg h1).symm.trans hf
      refine go_icY (pc := 7) (pc' := 29) d7_7 (XT.ii_ge_t h1) j_7_22 ?_
      refine go_iloadN (pc := 29) d7_29 rfl ?_
      cases hf
      exact go_iret (pc := 30) rfl d7_30
set_option maxRecDepth 65536 in
set_option maxHeartbeats 4000000 in
theorem h_pop_ok_n1  {y0 : S} {q : List Int32} : ∀ (v0 : Int64)   (o : Int32), h_pop v0 = some o → Go PP m7 0 [.val (.long v0), .second, .unset, .unset] [] (some q, [(9, y0)]) (some (.int o), (some q, [(9, y0)])) := by
  intro v0 o hf
  unfold h_pop at hf
  refine go_iconst (pc := 0) d7_0 ci_0 (go_istoreN (pc := 1) (L' := [.val (.long v0), .second, .val (.int (0 : Int32)), .unset]) d7_1 rfl (go_iconst (pc := 2) d7_2 ci_0 (go_istoreN (pc := 3) (L' := [.val (.long v0), .second, .val (.int (0 : Int32)), .val (.int (0 : Int32))]) d7_3 rfl ?_)))
  exact h_pop_4_ok_n1 BIG v0 (0 : Int32) (0 : Int32) _ hf
theorem c_h_pop_n1 (v0 : Int64) (q : List Int32) (y0 : S) (o : Int32) (hf : h_pop v0 = some o) : Call PP m7 [.long v0] (some q, [(9, y0)]) (some (.int o), (some q, [(9, y0)])) := call_of_go pl_1 rfl (fun h => nomatch h) (h_pop_ok_n1 v0   _ hf)
set_option maxRecDepth 65536 in
set_option maxHeartbeats 4000000 in
theorem h_nth_5_ok_n1  {y0 : S} {q : List Int32} : ∀ (n : Nat) (v0 : Int64) (v2 : Int32) (v3 : Int32) (v4 : Int32)   (o : Int32), h_nth_5 n v0 v2 v3 v4 = some o → Go PP m8 5 [.val (.long v0), .second, .val (.int v2), .val (.int v3), .val (.int v4)] [] (some q, [(9, y0)]) (some (.int o), (some q, [(9, y0)])) := by
  intro n
  induction n with
  | zero => intro v0 v2 v3 v4 o hf; exact nomatch hf
  | succ n ih =>
    intro v0 v2 v3 v4 o hf
    unfold h_nth_5 at hf
    refine go_iload (pc := 5) d8_5 rfl (go_bipush (pc := 7) d8_7 cb_64 ?_)
    by_cases h1 : v4 < (64 : Int32)
    · replace hf := (if_pos h1).symm.trans hf
      refine go_icN (pc := 9) d8_9 (XT.ii_ge_f h1) ?_
      refine go_lloadN (pc := 12) d8_12 rfl (go_iload (pc := 13) d8_13 rfl (go_lushr (pc := 15) d8_15 (go_lconst (pc := 16) d8_16 cl_1 (go_land (pc := 17) d8_17 (go_lconst (pc := 18) d8_18 cl_0 (go_lcmp (pc := 19) d8_19 ?_))))))
      by_cases h2 : ((XT.ushrL v0 v4) &&& (1 : Int64)) = (0 : Int64)
      · replace hf := (if_pos h2).symm.trans hf
        refine go_ifY (pc := 20) (pc' := 34) d8_20 (XT.ll_eq_t h2) j_20_14 ?_
        refine go_iinc (pc := 34) (L' := [.val (.long v0), .second, .val (.int v2), .val (.int v3), .val (.int (v4 + (1 : Int32)))]) d8_34 rfl ci_1 rfl (go_goto (pc := 37) (pc' := 5) d8_37 j_37_m32 ?_)
        exact ih v0 v2 v3 (v4 + (1 : Int32)) _ hf
      · replace hf := (if_neg h2).symm.trans hf
        refine go_ifN (pc := 20) d8_20 (XT.ll_eq_f h2) ?_
        refine go_iloadN (pc := 23) d8_23 rfl (go_iloadN (pc := 24) d8_24 rfl ?_)
        by_cases h3 : v3 = v2
        · replace hf := (if_pos h3).symm.trans hf
          refine go_icN (pc := 25) d8_25 (XT.ii_ne_f h3) ?_
          refine go_iload (pc := 28) d8_28 rfl ?_
          cases hf
          exact go_iret (pc := 30) rfl d8_30
        · replace hf := (if_neg h3).symm.trans hf
          refine go_icY (pc := 25) (pc' := 31) d8_25 (XT.ii_ne_t h3) j_25_6 ?_
          refine go_iinc (pc := 31) (L' := [.val (.long v0), .second, .val (.int v2), .val (.int (v3 + (1 : Int32))), .val (.int v4)]) d8_31 rfl ci_1 rfl (go_iinc (pc := 34) (L' := [.val (.long v0), .second, .val (.int v2), .val (.int (v3 + (1 : Int32))), .val (.int (v4 + (1 : Int32)))]) d8_34 rfl ci_1 rfl (go_goto (pc := 37) (pc' := 5) d8_37 j_37_m32 ?_))
          exact ih v0 v2 (v3 + (1 : Int32)) (v4 + (1 : Int32)) _ hf
    · replace hf := (if_neg h1).symm.trans hf
      refine go_icY (pc := 9) (pc' := 40) d8_9 (XT.ii_ge_t h1) j_9_31 ?_
      refine go_iconst (pc := 40) d8_40 ci_m1 ?_
      cases hf
      exact go_iret (pc := 41) rfl d8_41
set_option maxRecDepth 65536 in
set_option maxHeartbeats 4000000 in
theorem h_nth_ok_n1  {y0 : S} {q : List Int32} : ∀ (v0 : Int64) (v2 : Int32)   (o : Int32), h_nth v0 v2 = some o → Go PP m8 0 [.val (.long v0), .second, .val (.int v2), .unset, .unset] [] (some q, [(9, y0)]) (some (.int o), (some q, [(9, y0)])) := by
  intro v0 v2 o hf
  unfold h_nth at hf
  refine go_iconst (pc := 0) d8_0 ci_0 (go_istoreN (pc := 1) (L' := [.val (.long v0), .second, .val (.int v2), .val (.int (0 : Int32)), .unset]) d8_1 rfl (go_iconst (pc := 2) d8_2 ci_0 (go_istore (pc := 3) (L' := [.val (.long v0), .second, .val (.int v2), .val (.int (0 : Int32)), .val (.int (0 : Int32))]) d8_3 rfl ?_)))
  exact h_nth_5_ok_n1 BIG v0 v2 (0 : Int32) (0 : Int32) _ hf
theorem c_h_nth_n1 (v0 : Int64) (v2 : Int32) (q : List Int32) (y0 : S) (o : Int32) (hf : h_nth v0 v2 = some o) : Call PP m8 [.long v0, .int v2] (some q, [(9, y0)]) (some (.int o), (some q, [(9, y0)])) := call_of_go pl_1 rfl (fun h => nomatch h) (h_nth_ok_n1 v0 v2   _ hf)
def T_law_55 (k55 : Int32 → Int32 → Int32 → List Int32 → S → Option (Int32 × S)) : Prop := ∀ (v1 : Int32) (v4 : Int32) (v5 : Int32) (q : List Int32) (t0 : S) (x2 : Slot) (x6 : Slot) (x7 : Slot) (x8 : Slot) (x9 : Slot) (x10 : Slot) (x11 : Slot) (x12 : Slot) (x13 : Slot) (x14 : Slot) (x15 : Slot) (x16 : Slot) (x17 : Slot) (x18 : Slot) (D19 : List Slot) (hx2 : k1 x2) (hx6 : k2 x6 x7) (hx8 : k2 x8 x9) (hx10 : k1 x10) (hx11 : k1 x11) (hx12 : k2 x12 x13) (hx14 : k2 x14 x15) (hx16 : k1 x16) (hx17 : k1 x17) (hx18 : k1 x18) (hD19 : WT D19) (lD19 : D19.length = 2) (o : Int32 × S), k55 v1 v4 v5 q t0 = some o → Go PP m45 55 ([.val (.ref 0), .val (.int v1), x2, .val (.ref 1), .val (.int v4), .val (.int v5), x6, x7, x8, x9, x10, x11, x12, x13, x14, x15, x16, x17, x18] ++ D19) [] (some q, [(9, t0)]) (some (.int o.1), (some q, [(9, o.2)]))
set_option maxRecDepth 65536 in
set_option maxHeartbeats 4000000 in
theorem law_616_ok {k55 : Int32 → Int32 → Int32 → List Int32 → S → Option (Int32 × S)} (hk55 : T_law_55 k55) : ∀ (v1 : Int32) (v4 : Int32) (v5 : Int32) (v8 : Int64) (v10 : Int32) (v11 : Int32) (v14 : Int64) (v16 : Int32) (v17 : Int32) (q : List Int32) (t0 : S) (x2 : Slot) (x6 : Slot) (x7 : Slot) (x12 : Slot) (x13 : Slot) (x18 : Slot) (D19 : List Slot) (hx2 : k1 x2) (hx6 : k2 x6 x7) (hx12 : k2 x12 x13) (hx18 : k1 x18) (hD19 : WT D19) (lD19 : D19.length = 2) (o : Int32 × S), law_616 k55 v1 v4 v5 v8 v10 v11 v14 v16 v17 q t0 = some o → Go PP m45 616 ([.val (.ref 0), .val (.int v1), x2, .val (.ref 1), .val (.int v4), .val (.int v5), x6, x7, .val (.long v8), .second, .val (.int v10), .val (.int v11), x12, x13, .val (.long v14), .second, .val (.int v16), .val (.int v17), x18] ++ D19) [] (some q, [(9, t0)]) (some (.int o.1), (some q, [(9, o.2)])) := by
  intro v1 v4 v5 v8 v10 v11 v14 v16 v17 q t0 x2 x6 x7 x12 x13 x18 D19 hx2 hx6 hx12 hx18 hD19 lD19 o hf
  unfold law_616 at hf
  refine go_aloadN (pc := 616) d45_616 rfl ?_
  obtain ⟨r617, e1, hf⟩ := Option.bind_eq_some_iff.mp hf
  refine go_virt (pc := 617) (i := 0) (as := []) (rest := []) (w' := (some q, [(9, t0)])) lk_1_74 pd_42 rfl oid_0 rfl rfl rfl rfl rfl rfl ⟨rfl, rfl, rfl, rfl, rfl⟩ d45_617 (c_k_viewSize t0 _ e1) ?_
  refine go_istore (pc := 620) (L' := ([.val (.ref 0), .val (.int v1), x2, .val (.ref 1), .val (.int v4), .val (.int v5), x6, x7, .val (.long v8), .second, .val (.int v10), .val (.int v11), x12, x13, .val (.long v14), .second, .val (.int v16), .val (.int v17), .val (.int r617)] ++ D19)) d45_620 (stx rfl hx18 rfl) (go_iload (pc := 622) d45_622 rfl (go_iload (pc := 624) d45_624 rfl ?_))
  by_cases h2 : r617 = v16
  · replace hf := (if_pos h2).symm.trans hf
    refine go_icN (pc := 626) d45_626 (XT.ii_ne_f h2) ?_
    refine go_iload (pc := 629) d45_629 rfl (go_iload (pc := 631) d45_631 rfl ?_)
    by_cases h3 : r617 = v17
    · replace hf := (if_pos h3).symm.trans hf
      refine go_icY (pc := 633) (pc' := 638) d45_633 (XT.ii_eq_t h3) j_633_5 ?_
      refine go_iload (pc := 638) d45_638 rfl ?_
      by_cases h4 : v10 = 0
      · replace hf := (if_pos h4).symm.trans hf
        refine go_ifY (pc := 640) (pc' := 708) d45_640 (XT.i0_eq_t h4) j_640_68 ?_
        refine go_iinc (pc := 708) (L' := ([.val (.ref 0), .val (.int v1), x2, .val (.ref 1), .val (.int v4), .val (.int (v5 + (1 : Int32))), x6, x7, .val (.long v8), .second, .val (.int v10), .val (.int v11), x12, x13, .val (.long v14), .second, .val (.int v16), .val (.int v17), .val (.int r617)] ++ D19)) d45_708 rfl ci_1 (stx rfl (Or.inr ⟨_, rfl, rfl⟩) rfl) (go_goto (pc := 711) (pc' := 55) d45_711 j_711_m656 ?_)
        exact hk55 v1 v4 (v5 + (1 : Int32)) q t0 x2 x6 x7 (.val (.long v8)) .second (.val (.int v10)) (.val (.int v11)) x12 x13 (.val (.long v14)) .second (.val (.int v16)) (.val (.int v17)) (.val (.int r617)) D19 hx2 hx6 (Or.inr ⟨_, rfl, rfl⟩) (Or.inr ⟨_, rfl, rfl⟩) (Or.inr ⟨_, rfl, rfl⟩) hx12 (Or.inr ⟨_, rfl, rfl⟩) (Or.inr ⟨_, rfl, rfl⟩) (Or.inr ⟨_, rfl, rfl⟩) (Or.inr ⟨_, rfl, rfl⟩) hD19 lD19 _ hf
      · replace hf := (if_neg h4).symm.trans hf
        refine go_ifN (pc := 640) d45_640 (XT.i0_eq_f h4) ?_
        refine go_iload (pc := 643) d45_643 rfl ?_
        by_cases h5 : v11 < 0
        · replace hf := (if_pos h5).symm.trans hf
          refine go_ifY (pc := 645) (pc' := 708) d45_645 (XT.i0_lt_t h5) j_645_63 ?_
          refine go_iinc (pc := 708) (L' := ([.val (.ref 0), .val (.int v1), x2, .val (.ref 1), .val (.int v4), .val (.int (v5 + (1 : Int32))), x6, x7, .val (.long v8), .second, .val (.int v10), .val (.int v11), x12, x13, .val (.long v14), .second, .val (.int v16), .val (.int v17), .val (.int r617)] ++ D19)) d45_708 rfl ci_1 (stx rfl (Or.inr ⟨_, rfl, rfl⟩) rfl) (go_goto (pc := 711) (pc' := 55) d45_711 j_711_m656 ?_)
          exact hk55 v1 v4 (v5 + (1 : Int32)) q t0 x2 x6 x7 (.val (.long v8)) .second (.val (.int v10)) (.val (.int v11)) x12 x13 (.val (.long v14)) .second (.val (.int v16)) (.val (.int v17)) (.val (.int r617)) D19 hx2 hx6 (Or.inr ⟨_, rfl, rfl⟩) (Or.inr ⟨_, rfl, rfl⟩) (Or.inr ⟨_, rfl, rfl⟩) hx12 (Or.inr ⟨_, rfl, rfl⟩) (Or.inr ⟨_, rfl, rfl⟩) (Or.inr ⟨_, rfl, rfl⟩) (Or.inr ⟨_, rfl, rfl⟩) hD19 lD19 _ hf
        · replace hf := (if_neg h5).symm.trans hf
          refine go_ifN (pc := 645) d45_645 (XT.i0_lt_f h5) ?_
          refine go_lload (pc := 648) d45_648 rfl (go_lload (pc := 650) d45_650 rfl (go_ldc2 (pc := 652) (u := (-1 : Int64)) d45_652 (List.mem_of_getElem? (i := 153) rfl) (go_lxor (pc := 655) d45_655 (go_land (pc := 656) d45_656 ?_))))
          obtain ⟨r657, e6, hf⟩ := Option.bind_eq_some_iff.mp hf
          refine go_stat (pc := 657) (as := [.long (v14 &&& (v8 ^^^ (-1 : Int64)))]) (rest := []) (w' := (some q, [(9, t0)])) lk_1_33 pd_7 rfl rfl ⟨Nat.le_of_ble_eq_true rfl, Nat.le_of_ble_eq_true rfl⟩ ⟨rfl, rfl, rfl⟩ ⟨rfl, rfl, rfl, rfl, rfl⟩ d45_657 (c_h_pop_n1 (v14 &&& (v8 ^^^ (-1 : Int64))) q t0 _ e6) ?_
          refine go_istoreT (pc := 660) (L0 := [.val (.ref 0), .val (.int v1), x2, .val (.ref 1), .val (.int v4), .val (.int v5), x6, x7, .val (.long v8), .second, .val (.int v10), .val (.int v11), x12, x13, .val (.long v14), .second, .val (.int v16), .val (.int v17), .val (.int r617)]) (L1 := [.val (.ref 0), .val (.int v1), x2, .val (.ref 1), .val (.int v4), .val (.int v5), x6, x7, .val (.long v8), .second, .val (.int v10), .val (.int v11), x12, x13, .val (.long v14), .second, .val (.int v16), .val (.int v17), .val (.int r617), .val (.int r657)]) d45_660 rfl rfl hD19 lD19 fun E660 hE660 lE660 => (go_lload (pc := 662) d45_662 rfl (go_lload (pc := 664) d45_664 rfl (go_ldc2 (pc := 666) (u := (-1 : Int64)) d45_666 (List.mem_of_getElem? (i := 153) rfl) (go_lxor (pc := 669) d45_669 (go_land (pc := 670) d45_670 ?_)))))
          obtain ⟨r671, e7, hf⟩ := Option.bind_eq_some_iff.mp hf
          refine go_stat (pc := 671) (as := [.long (v8 &&& (v14 ^^^ (-1 : Int64)))]) (rest := []) (w' := (some q, [(9, t0)])) lk_1_33 pd_7 rfl rfl ⟨Nat.le_of_ble_eq_true rfl, Nat.le_of_ble_eq_true rfl⟩ ⟨rfl, rfl, rfl⟩ ⟨rfl, rfl, rfl, rfl, rfl⟩ d45_671 (c_h_pop_n1 (v8 &&& (v14 ^^^ (-1 : Int64))) q t0 _ e7) ?_
          refine go_istoreT (pc := 674) (L0 := [.val (.ref 0), .val (.int v1), x2, .val (.ref 1), .val (.int v4), .val (.int v5), x6, x7, .val (.long v8), .second, .val (.int v10), .val (.int v11), x12, x13, .val (.long v14), .second, .val (.int v16), .val (.int v17), .val (.int r617), .val (.int r657)]) (L1 := [.val (.ref 0), .val (.int v1), x2, .val (.ref 1), .val (.int v4), .val (.int v5), x6, x7, .val (.long v8), .second, .val (.int v10), .val (.int v11), x12, x13, .val (.long v14), .second, .val (.int v16), .val (.int v17), .val (.int r617), .val (.int r657), .val (.int r671)]) d45_674 rfl rfl hE660 lE660 <| nilT (go_iload (pc := 676) d45_676 rfl (go_iload (pc := 678) d45_678 rfl (go_iload (pc := 680) d45_680 rfl (go_iadd (pc := 682) d45_682 ?_))))
          by_cases h8 : v11 = (r657 + r671)
          · replace hf := (if_pos h8).symm.trans hf
            refine go_icY (pc := 683) (pc' := 688) d45_683 (XT.ii_eq_t h8) j_683_5 ?_
            refine go_aloadN (pc := 688) d45_688 rfl ?_
            refine go_virt (pc := 689) (i := 0) (as := []) (rest := []) (w' := (some q, [(9, t0)])) lk_1_79 pd_43 rfl oid_0 rfl rfl rfl rfl rfl rfl ⟨rfl, rfl, rfl, rfl, rfl⟩ d45_689 (c_k_lastAdded t0) ?_
            refine go_iload (pc := 692) d45_692 rfl ?_
            by_cases h9 : (k_lastAdded t0) = r657
            · replace hf := (if_pos h9).symm.trans hf
              refine go_icN (pc := 694) d45_694 (XT.ii_ne_f h9) ?_
              refine go_aloadN (pc := 697) d45_697 rfl ?_
              refine go_virt (pc := 698) (i := 0) (as := []) (rest := []) (w' := (some q, [(9, t0)])) lk_1_82 pd_44 rfl oid_0 rfl rfl rfl rfl rfl rfl ⟨rfl, rfl, rfl, rfl, rfl⟩ d45_698 (c_k_lastRemoved t0) ?_
              refine go_iload (pc := 701) d45_701 rfl ?_
              by_cases h10 : (k_lastRemoved t0) = r671
              · replace hf := (if_pos h10).symm.trans hf
                refine go_icY (pc := 703) (pc' := 708) d45_703 (XT.ii_eq_t h10) j_703_5 ?_
                refine go_iinc (pc := 708) (L' := [.val (.ref 0), .val (.int v1), x2, .val (.ref 1), .val (.int v4), .val (.int (v5 + (1 : Int32))), x6, x7, .val (.long v8), .second, .val (.int v10), .val (.int v11), x12, x13, .val (.long v14), .second, .val (.int v16), .val (.int v17), .val (.int r617), .val (.int r657), .val (.int r671)]) d45_708 rfl ci_1 rfl (go_goto (pc := 711) (pc' := 55) d45_711 j_711_m656 ?_)
                exact hk55 v1 v4 (v5 + (1 : Int32)) q t0 x2 x6 x7 (.val (.long v8)) .second (.val (.int v10)) (.val (.int v11)) x12 x13 (.val (.long v14)) .second (.val (.int v16)) (.val (.int v17)) (.val (.int r617)) [.val (.int r657), .val (.int r671)] hx2 hx6 (Or.inr ⟨_, rfl, rfl⟩) (Or.inr ⟨_, rfl, rfl⟩) (Or.inr ⟨_, rfl, rfl⟩) hx12 (Or.inr ⟨_, rfl, rfl⟩) (Or.inr ⟨_, rfl, rfl⟩) (Or.inr ⟨_, rfl, rfl⟩) (Or.inr ⟨_, rfl, rfl⟩) (wt1 (Or.inr ⟨_, rfl, rfl⟩) (wt1 (Or.inr ⟨_, rfl, rfl⟩) wt0)) rfl _ hf
              · replace hf := (if_neg h10).symm.trans hf
                refine go_icN (pc := 703) d45_703 (XT.ii_eq_f h10) ?_
                refine go_iconst (pc := 706) d45_706 ci_0 ?_
                cases hf
                exact go_zret (pc := 707) rfl d45_707 (show (0 : Int32) = nar .boolean (0 : Int32) by decide)
            · replace hf := (if_neg h9).symm.trans hf
              refine go_icY (pc := 694) (pc' := 706) d45_694 (XT.ii_ne_t h9) j_694_12 ?_
              refine go_iconst (pc := 706) d45_706 ci_0 ?_
              cases hf
              exact go_zret (pc := 707) rfl d45_707 (show (0 : Int32) = nar .boolean (0 : Int32) by decide)
          · replace hf := (if_neg h8).symm.trans hf
            refine go_icN (pc := 683) d45_683 (XT.ii_eq_f h8) ?_
            refine go_iconst (pc := 686) d45_686 ci_0 ?_
            cases hf
            exact go_zret (pc := 687) rfl d45_687 (show (0 : Int32) = nar .boolean (0 : Int32) by decide)
    · replace hf := (if_neg h3).symm.trans hf
      refine go_icN (pc := 633) d45_633 (XT.ii_eq_f h3) ?_
      refine go_iconst (pc := 636) d45_636 ci_0 ?_
      cases hf
      exact go_zret (pc := 637) rfl d45_637 (show (0 : Int32) = nar .boolean (0 : Int32) by decide)
  · replace hf := (if_neg h2).symm.trans hf
    refine go_icY (pc := 626) (pc' := 636) d45_626 (XT.ii_ne_t h2) j_626_10 ?_
    refine go_iconst (pc := 636) d45_636 ci_0 ?_
    cases hf
    exact go_zret (pc := 637) rfl d45_637 (show (0 : Int32) = nar .boolean (0 : Int32) by decide)
set_option maxRecDepth 65536 in
set_option maxHeartbeats 4000000 in
theorem law_582_ok {k55 : Int32 → Int32 → Int32 → List Int32 → S → Option (Int32 × S)} (hk55 : T_law_55 k55) : ∀ (n : Nat) (v1 : Int32) (v4 : Int32) (v5 : Int32) (v8 : Int64) (v10 : Int32) (v11 : Int32) (v14 : Int64) (v16 : Int32) (v17 : Int32) (v18 : Int32) (q : List Int32) (t0 : S) (x2 : Slot) (x6 : Slot) (x7 : Slot) (x12 : Slot) (x13 : Slot) (D19 : List Slot) (hx2 : k1 x2) (hx6 : k2 x6 x7) (hx12 : k2 x12 x13) (hD19 : WT D19) (lD19 : D19.length = 2) (o : Int32 × S), law_582 k55 n v1 v4 v5 v8 v10 v11 v14 v16 v17 v18 q t0 = some o → Go PP m45 582 ([.val (.ref 0), .val (.int v1), x2, .val (.ref 1), .val (.int v4), .val (.int v5), x6, x7, .val (.long v8), .second, .val (.int v10), .val (.int v11), x12, x13, .val (.long v14), .second, .val (.int v16), .val (.int v17), .val (.int v18)] ++ D19) [] (some q, [(9, t0)]) (some (.int o.1), (some q, [(9, o.2)])) := by
  intro n
  induction n with
  | zero => intro v1 v4 v5 v8 v10 v11 v14 v16 v17 v18 q t0 x2 x6 x7 x12 x13 D19 hx2 hx6 hx12 hD19 lD19 o hf; exact nomatch hf
  | succ n ih =>
    intro v1 v4 v5 v8 v10 v11 v14 v16 v17 v18 q t0 x2 x6 x7 x12 x13 D19 hx2 hx6 hx12 hD19 lD19 o hf
    unfold law_582 at hf
    refine go_iload (pc := 582) d45_582 rfl (go_iloadN (pc := 584) d45_584 rfl ?_)
    by_cases h1 : v18 < v1
    · replace hf := (if_pos h1).symm.trans hf
      refine go_icN (pc := 585) d45_585 (XT.ii_ge_f h1) ?_
      refine go_iload (pc := 588) d45_588 rfl (go_aloadN (pc := 590) d45_590 rfl (go_iload (pc := 591) d45_591 rfl ?_))
      obtain ⟨r593, e2, hf⟩ := Option.bind_eq_some_iff.mp hf
      refine go_virt (pc := 593) (i := 0) (as := [.int v18]) (rest := [.int v16]) (w' := (some q, [(9, t0)])) lk_1_67 pd_40 rfl oid_0 rfl rfl rfl rfl rfl rfl ⟨rfl, rfl, rfl, rfl, rfl⟩ d45_593 (c_k_reachCountFrom v18 t0 _ e2) ?_
      refine go_iadd (pc := 596) d45_596 (go_istore (pc := 597) (L' := ([.val (.ref 0), .val (.int v1), x2, .val (.ref 1), .val (.int v4), .val (.int v5), x6, x7, .val (.long v8), .second, .val (.int v10), .val (.int v11), x12, x13, .val (.long v14), .second, .val (.int (v16 + r593)), .val (.int v17), .val (.int v18)] ++ D19)) d45_597 (stx rfl (Or.inr ⟨_, rfl, rfl⟩) rfl) (go_iload (pc := 599) d45_599 rfl (go_aloadN (pc := 601) d45_601 rfl (go_iload (pc := 602) d45_602 rfl ?_))))
      obtain ⟨r604, e3, hf⟩ := Option.bind_eq_some_iff.mp hf
      refine go_virt (pc := 604) (i := 0) (as := [.int v18]) (rest := [.int v17]) (w' := (some q, [(9, t0)])) lk_1_71 pd_41 rfl oid_0 rfl rfl rfl rfl rfl rfl ⟨rfl, rfl, rfl, rfl, rfl⟩ d45_604 (c_k_reachCountTo v18 t0 _ e3) ?_
      refine go_iadd (pc := 607) d45_607 (go_istore (pc := 608) (L' := ([.val (.ref 0), .val (.int v1), x2, .val (.ref 1), .val (.int v4), .val (.int v5), x6, x7, .val (.long v8), .second, .val (.int v10), .val (.int v11), x12, x13, .val (.long v14), .second, .val (.int (v16 + r593)), .val (.int (v17 + r604)), .val (.int v18)] ++ D19)) d45_608 (stx rfl (Or.inr ⟨_, rfl, rfl⟩) rfl) (go_iinc (pc := 610) (L' := ([.val (.ref 0), .val (.int v1), x2, .val (.ref 1), .val (.int v4), .val (.int v5), x6, x7, .val (.long v8), .second, .val (.int v10), .val (.int v11), x12, x13, .val (.long v14), .second, .val (.int (v16 + r593)), .val (.int (v17 + r604)), .val (.int (v18 + (1 : Int32)))] ++ D19)) d45_610 rfl ci_1 (stx rfl (Or.inr ⟨_, rfl, rfl⟩) rfl) (go_goto (pc := 613) (pc' := 582) d45_613 j_613_m31 ?_)))
      exact ih v1 v4 v5 v8 v10 v11 v14 (v16 + r593) (v17 + r604) (v18 + (1 : Int32)) q t0 x2 x6 x7 x12 x13 D19 hx2 hx6 hx12 hD19 lD19 _ hf
    · replace hf := (if_neg h1).symm.trans hf
      refine go_icY (pc := 585) (pc' := 616) d45_585 (XT.ii_ge_t h1) j_585_31 ?_
      exact law_616_ok hk55 v1 v4 v5 v8 v10 v11 v14 v16 v17 q t0 x2 x6 x7 x12 x13 (.val (.int v18)) D19 hx2 hx6 hx12 (Or.inr ⟨_, rfl, rfl⟩) hD19 lD19 _ hf
set_option maxRecDepth 65536 in
set_option maxHeartbeats 4000000 in
theorem law_573_ok {k55 : Int32 → Int32 → Int32 → List Int32 → S → Option (Int32 × S)} (hk55 : T_law_55 k55) : ∀ (v1 : Int32) (v4 : Int32) (v5 : Int32) (v8 : Int64) (v10 : Int32) (v11 : Int32) (v14 : Int64) (q : List Int32) (t0 : S) (x2 : Slot) (x6 : Slot) (x7 : Slot) (x12 : Slot) (x13 : Slot) (x16 : Slot) (D17 : List Slot) (hx2 : k1 x2) (hx6 : k2 x6 x7) (hx12 : k2 x12 x13) (hx16 : k1 x16) (hD17 : WT D17) (lD17 : D17.length = 4) (o : Int32 × S), law_573 k55 v1 v4 v5 v8 v10 v11 v14 q t0 = some o → Go PP m45 573 ([.val (.ref 0), .val (.int v1), x2, .val (.ref 1), .val (.int v4), .val (.int v5), x6, x7, .val (.long v8), .second, .val (.int v10), .val (.int v11), x12, x13, .val (.long v14), .second, x16] ++ D17) [] (some q, [(9, t0)]) (some (.int o.1), (some q, [(9, o.2)])) := by
  intro v1 v4 v5 v8 v10 v11 v14 q t0 x2 x6 x7 x12 x13 x16 D17 hx2 hx6 hx12 hx16 hD17 lD17 o hf
  unfold law_573 at hf
  refine go_iconst (pc := 573) d45_573 ci_0 (go_istore (pc := 574) (L' := ([.val (.ref 0), .val (.int v1), x2, .val (.ref 1), .val (.int v4), .val (.int v5), x6, x7, .val (.long v8), .second, .val (.int v10), .val (.int v11), x12, x13, .val (.long v14), .second, .val (.int (0 : Int32))] ++ D17)) d45_574 (stx rfl hx16 rfl) (go_iconst (pc := 576) d45_576 ci_0 (go_istoreT (pc := 577) (L0 := [.val (.ref 0), .val (.int v1), x2, .val (.ref 1), .val (.int v4), .val (.int v5), x6, x7, .val (.long v8), .second, .val (.int v10), .val (.int v11), x12, x13, .val (.long v14), .second, .val (.int (0 : Int32))]) (L1 := [.val (.ref 0), .val (.int v1), x2, .val (.ref 1), .val (.int v4), .val (.int v5), x6, x7, .val (.long v8), .second, .val (.int v10), .val (.int v11), x12, x13, .val (.long v14), .second, .val (.int (0 : Int32)), .val (.int (0 : Int32))]) d45_577 rfl rfl hD17 lD17 fun E577 hE577 lE577 => (go_iconst (pc := 579) d45_579 ci_0 (go_istoreT (pc := 580) (L0 := [.val (.ref 0), .val (.int v1), x2, .val (.ref 1), .val (.int v4), .val (.int v5), x6, x7, .val (.long v8), .second, .val (.int v10), .val (.int v11), x12, x13, .val (.long v14), .second, .val (.int (0 : Int32)), .val (.int (0 : Int32))]) (L1 := [.val (.ref 0), .val (.int v1), x2, .val (.ref 1), .val (.int v4), .val (.int v5), x6, x7, .val (.long v8), .second, .val (.int v10), .val (.int v11), x12, x13, .val (.long v14), .second, .val (.int (0 : Int32)), .val (.int (0 : Int32)), .val (.int (0 : Int32))]) d45_580 rfl rfl hE577 lE577 fun E580 hE580 lE580 => ?_)))))
  exact law_582_ok hk55 BIG v1 v4 v5 v8 v10 v11 v14 (0 : Int32) (0 : Int32) (0 : Int32) q t0 x2 x6 x7 x12 x13 E580 hx2 hx6 hx12 hE580 lE580 _ hf
def T_law_471 (k471 : Int32 → Int32 → Int32 → Int64 → Int32 → Int32 → Int64 → Int64 → Int32 → List Int32 → S → Option (Int32 × S)) : Prop := ∀ (v1 : Int32) (v4 : Int32) (v5 : Int32) (v8 : Int64) (v10 : Int32) (v11 : Int32) (v12 : Int64) (v14 : Int64) (v16 : Int32) (q : List Int32) (t0 : S) (x2 : Slot) (x6 : Slot) (x7 : Slot) (D17 : List Slot) (hx2 : k1 x2) (hx6 : k2 x6 x7) (hD17 : WT D17) (lD17 : D17.length = 4) (o : Int32 × S), k471 v1 v4 v5 v8 v10 v11 v12 v14 v16 q t0 = some o → Go PP m45 471 ([.val (.ref 0), .val (.int v1), x2, .val (.ref 1), .val (.int v4), .val (.int v5), x6, x7, .val (.long v8), .second, .val (.int v10), .val (.int v11), .val (.long v12), .second, .val (.long v14), .second, .val (.int v16)] ++ D17) [] (some q, [(9, t0)]) (some (.int o.1), (some q, [(9, o.2)]))
def T_law_480 (k480 : Int32 → Int32 → Int32 → Int64 → Int32 → Int32 → Int64 → Int64 → Int32 → Int32 → List Int32 → S → Option (Int32 × S)) : Prop := ∀ (v1 : Int32) (v4 : Int32) (v5 : Int32) (v8 : Int64) (v10 : Int32) (v11 : Int32) (v12 : Int64) (v14 : Int64) (v16 : Int32) (v17 : Int32) (q : List Int32) (t0 : S) (x2 : Slot) (x6 : Slot) (x7 : Slot) (D18 : List Slot) (hx2 : k1 x2) (hx6 : k2 x6 x7) (hD18 : WT D18) (lD18 : D18.length = 3) (o : Int32 × S), k480 v1 v4 v5 v8 v10 v11 v12 v14 v16 v17 q t0 = some o → Go PP m45 480 ([.val (.ref 0), .val (.int v1), x2, .val (.ref 1), .val (.int v4), .val (.int v5), x6, x7, .val (.long v8), .second, .val (.int v10), .val (.int v11), .val (.long v12), .second, .val (.long v14), .second, .val (.int v16), .val (.int v17)] ++ D18) [] (some q, [(9, t0)]) (some (.int o.1), (some q, [(9, o.2)]))
set_option maxRecDepth 65536 in
set_option maxHeartbeats 4000000 in
theorem law_546_ok {k55 : Int32 → Int32 → Int32 → List Int32 → S → Option (Int32 × S)} {k471 : Int32 → Int32 → Int32 → Int64 → Int32 → Int32 → Int64 → Int64 → Int32 → List Int32 → S → Option (Int32 × S)} {k480 : Int32 → Int32 → Int32 → Int64 → Int32 → Int32 → Int64 → Int64 → Int32 → Int32 → List Int32 → S → Option (Int32 × S)} (hk55 : T_law_55 k55) (hk471 : T_law_471 k471) (hk480 : T_law_480 k480) : ∀ (v1 : Int32) (v4 : Int32) (v5 : Int32) (v8 : Int64) (v10 : Int32) (v11 : Int32) (v12 : Int64) (v14 : Int64) (v16 : Int32) (v17 : Int32) (v18 : Int32) (q : List Int32) (t0 : S) (x2 : Slot) (x6 : Slot) (x7 : Slot) (x19 : Slot) (D20 : List Slot) (hx2 : k1 x2) (hx6 : k2 x6 x7) (hx19 : k1 x19) (hD20 : WT D20) (lD20 : D20.length = 1) (o : Int32 × S), law_546 k55 k471 k480 v1 v4 v5 v8 v10 v11 v12 v14 v16 v17 v18 q t0 = some o → Go PP m45 546 ([.val (.ref 0), .val (.int v1), x2, .val (.ref 1), .val (.int v4), .val (.int v5), x6, x7, .val (.long v8), .second, .val (.int v10), .val (.int v11), .val (.long v12), .second, .val (.long v14), .second, .val (.int v16), .val (.int v17), .val (.int v18), x19] ++ D20) [] (some q, [(9, t0)]) (some (.int o.1), (some q, [(9, o.2)])) := by
  intro v1 v4 v5 v8 v10 v11 v12 v14 v16 v17 v18 q t0 x2 x6 x7 x19 D20 hx2 hx6 hx19 hD20 lD20 o hf
  unfold law_546 at hf
  refine go_aloadN (pc := 546) d45_546 rfl (go_iload (pc := 547) d45_547 rfl (go_iload (pc := 549) d45_549 rfl ?_))
  obtain ⟨r551, e1, hf⟩ := Option.bind_eq_some_iff.mp hf
  refine go_virt (pc := 551) (i := 0) (as := [.int v16, .int v17]) (rest := []) (w' := (some q, [(9, t0)])) lk_1_64 pd_39 rfl oid_0 rfl rfl rfl rfl rfl rfl ⟨rfl, rfl, rfl, rfl, rfl⟩ d45_551 (c_k_derivationCount v16 v17 t0 _ e1) ?_
  refine go_iload (pc := 554) d45_554 rfl ?_
  by_cases h2 : r551 = v18
  · replace hf := (if_pos h2).symm.trans hf
    refine go_icY (pc := 556) (pc' := 561) d45_556 (XT.ii_eq_t h2) j_556_5 ?_
    refine go_iinc (pc := 561) (L' := ([.val (.ref 0), .val (.int v1), x2, .val (.ref 1), .val (.int v4), .val (.int v5), x6, x7, .val (.long v8), .second, .val (.int v10), .val (.int v11), .val (.long v12), .second, .val (.long v14), .second, .val (.int v16), .val (.int (v17 + (1 : Int32))), .val (.int v18), x19] ++ D20)) d45_561 rfl ci_1 (stx rfl (Or.inr ⟨_, rfl, rfl⟩) rfl) (go_goto (pc := 564) (pc' := 480) d45_564 j_564_m84 ?_)
    exact hk480 v1 v4 v5 v8 v10 v11 v12 v14 v16 (v17 + (1 : Int32)) q t0 x2 x6 x7 ([.val (.int v18), x19] ++ D20) hx2 hx6 (wt1 (Or.inr ⟨_, rfl, rfl⟩) (wt1 hx19 hD20)) (by simp [lD20]) _ hf
  · replace hf := (if_neg h2).symm.trans hf
    refine go_icN (pc := 556) d45_556 (XT.ii_eq_f h2) ?_
    refine go_iconst (pc := 559) d45_559 ci_0 ?_
    cases hf
    exact go_zret (pc := 560) rfl d45_560 (show (0 : Int32) = nar .boolean (0 : Int32) by decide)
set_option maxRecDepth 65536 in
set_option maxHeartbeats 4000000 in
theorem law_508_ok {k55 : Int32 → Int32 → Int32 → List Int32 → S → Option (Int32 × S)} {k471 : Int32 → Int32 → Int32 → Int64 → Int32 → Int32 → Int64 → Int64 → Int32 → List Int32 → S → Option (Int32 × S)} {k480 : Int32 → Int32 → Int32 → Int64 → Int32 → Int32 → Int64 → Int64 → Int32 → Int32 → List Int32 → S → Option (Int32 × S)} (hk55 : T_law_55 k55) (hk471 : T_law_471 k471) (hk480 : T_law_480 k480) : ∀ (n : Nat) (v1 : Int32) (v4 : Int32) (v5 : Int32) (v8 : Int64) (v10 : Int32) (v11 : Int32) (v12 : Int64) (v14 : Int64) (v16 : Int32) (v17 : Int32) (v18 : Int32) (v19 : Int32) (q : List Int32) (t0 : S) (x2 : Slot) (x6 : Slot) (x7 : Slot) (D20 : List Slot) (hx2 : k1 x2) (hx6 : k2 x6 x7) (hD20 : WT D20) (lD20 : D20.length = 1) (o : Int32 × S), law_508 k55 k471 k480 n v1 v4 v5 v8 v10 v11 v12 v14 v16 v17 v18 v19 q t0 = some o → Go PP m45 508 ([.val (.ref 0), .val (.int v1), x2, .val (.ref 1), .val (.int v4), .val (.int v5), x6, x7, .val (.long v8), .second, .val (.int v10), .val (.int v11), .val (.long v12), .second, .val (.long v14), .second, .val (.int v16), .val (.int v17), .val (.int v18), .val (.int v19)] ++ D20) [] (some q, [(9, t0)]) (some (.int o.1), (some q, [(9, o.2)])) := by
  intro n
  induction n with
  | zero => intro v1 v4 v5 v8 v10 v11 v12 v14 v16 v17 v18 v19 q t0 x2 x6 x7 D20 hx2 hx6 hD20 lD20 o hf; exact nomatch hf
  | succ n ih =>
    intro v1 v4 v5 v8 v10 v11 v12 v14 v16 v17 v18 v19 q t0 x2 x6 x7 D20 hx2 hx6 hD20 lD20 o hf
    unfold law_508 at hf
    refine go_iload (pc := 508) d45_508 rfl (go_iloadN (pc := 510) d45_510 rfl ?_)
    by_cases h1 : v19 < v1
    · replace hf := (if_pos h1).symm.trans hf
      refine go_icN (pc := 511) d45_511 (XT.ii_ge_f h1) ?_
      refine go_lload (pc := 514) d45_514 rfl (go_iload (pc := 516) d45_516 rfl (go_iload (pc := 518) d45_518 rfl ?_))
      refine go_stat (pc := 520) (as := [.long v12, .int v16, .int v19]) (rest := []) (w' := (some q, [(9, t0)])) lk_1_7 pd_5 rfl rfl ⟨Nat.le_of_ble_eq_true rfl, Nat.le_of_ble_eq_true rfl⟩ ⟨rfl, rfl, rfl⟩ ⟨rfl, rfl, rfl, rfl, rfl⟩ d45_520 (c_h_bit_n1 v12 v16 v19 q t0) ?_
      by_cases h2 : (h_bit v12 v16 v19) = 0
      · replace hf := (if_pos h2).symm.trans hf
        refine go_ifY (pc := 523) (pc' := 540) d45_523 (XT.i0_eq_t h2) j_523_17 ?_
        refine go_iinc (pc := 540) (L' := ([.val (.ref 0), .val (.int v1), x2, .val (.ref 1), .val (.int v4), .val (.int v5), x6, x7, .val (.long v8), .second, .val (.int v10), .val (.int v11), .val (.long v12), .second, .val (.long v14), .second, .val (.int v16), .val (.int v17), .val (.int v18), .val (.int (v19 + (1 : Int32)))] ++ D20)) d45_540 rfl ci_1 (stx rfl (Or.inr ⟨_, rfl, rfl⟩) rfl) (go_goto (pc := 543) (pc' := 508) d45_543 j_543_m35 ?_)
        exact ih v1 v4 v5 v8 v10 v11 v12 v14 v16 v17 v18 (v19 + (1 : Int32)) q t0 x2 x6 x7 D20 hx2 hx6 hD20 lD20 _ hf
      · replace hf := (if_neg h2).symm.trans hf
        refine go_ifN (pc := 523) d45_523 (XT.i0_eq_f h2) ?_
        refine go_aloadN (pc := 526) d45_526 rfl (go_iload (pc := 527) d45_527 rfl (go_iload (pc := 529) d45_529 rfl ?_))
        obtain ⟨r531, e3, hf⟩ := Option.bind_eq_some_iff.mp hf
        refine go_virt (pc := 531) (i := 0) (as := [.int v19, .int v17]) (rest := []) (w' := (some q, [(9, t0)])) lk_1_61 pd_38 rfl oid_0 rfl rfl rfl rfl rfl rfl ⟨rfl, rfl, rfl, rfl, rfl⟩ d45_531 (c_k_reaches v19 v17 t0 _ e3) ?_
        by_cases h4 : r531 = 0
        · refine go_ifY (pc := 534) (pc' := 540) d45_534 (XT.i0_eq_t h4) j_534_6 ?_
          refine go_iinc (pc := 540) (L' := ([.val (.ref 0), .val (.int v1), x2, .val (.ref 1), .val (.int v4), .val (.int v5), x6, x7, .val (.long v8), .second, .val (.int v10), .val (.int v11), .val (.long v12), .second, .val (.long v14), .second, .val (.int v16), .val (.int v17), .val (.int v18), .val (.int (v19 + (1 : Int32)))] ++ D20)) d45_540 rfl ci_1 (stx rfl (Or.inr ⟨_, rfl, rfl⟩) rfl) (go_goto (pc := 543) (pc' := 508) d45_543 j_543_m35 ?_)
          exact ih v1 v4 v5 v8 v10 v11 v12 v14 v16 v17 v18 (v19 + (1 : Int32)) q t0 x2 x6 x7 D20 hx2 hx6 hD20 lD20 _ (by simpa only [if_pos h4] using hf)
        · refine go_ifN (pc := 534) d45_534 (XT.i0_eq_f h4) ?_
          refine go_iinc (pc := 537) (L' := ([.val (.ref 0), .val (.int v1), x2, .val (.ref 1), .val (.int v4), .val (.int v5), x6, x7, .val (.long v8), .second, .val (.int v10), .val (.int v11), .val (.long v12), .second, .val (.long v14), .second, .val (.int v16), .val (.int v17), .val (.int (v18 + (1 : Int32))), .val (.int v19)] ++ D20)) d45_537 rfl ci_1 (stx rfl (Or.inr ⟨_, rfl, rfl⟩) rfl) (go_iinc (pc := 540) (L' := ([.val (.ref 0), .val (.int v1), x2, .val (.ref 1), .val (.int v4), .val (.int v5), x6, x7, .val (.long v8), .second, .val (.int v10), .val (.int v11), .val (.long v12), .second, .val (.long v14), .second, .val (.int v16), .val (.int v17), .val (.int (v18 + (1 : Int32))), .val (.int (v19 + (1 : Int32)))] ++ D20)) d45_540 rfl ci_1 (stx rfl (Or.inr ⟨_, rfl, rfl⟩) rfl) (go_goto (pc := 543) (pc' := 508) d45_543 j_543_m35 ?_))
          exact ih v1 v4 v5 v8 v10 v11 v12 v14 v16 v17 (v18 + (1 : Int32)) (v19 + (1 : Int32)) q t0 x2 x6 x7 D20 hx2 hx6 hD20 lD20 _ (by simpa only [if_neg h4] using hf)
    · replace hf := (if_neg h1).symm.trans hf
      refine go_icY (pc := 511) (pc' := 546) d45_511 (XT.ii_ge_t h1) j_511_35 ?_
      exact law_546_ok hk55 hk471 hk480 v1 v4 v5 v8 v10 v11 v12 v14 v16 v17 v18 q t0 x2 x6 x7 (.val (.int v19)) D20 hx2 hx6 (Or.inr ⟨_, rfl, rfl⟩) hD20 lD20 _ hf
set_option maxRecDepth 65536 in
set_option maxHeartbeats 4000000 in
theorem law_503_ok {k55 : Int32 → Int32 → Int32 → List Int32 → S → Option (Int32 × S)} {k471 : Int32 → Int32 → Int32 → Int64 → Int32 → Int32 → Int64 → Int64 → Int32 → List Int32 → S → Option (Int32 × S)} {k480 : Int32 → Int32 → Int32 → Int64 → Int32 → Int32 → Int64 → Int64 → Int32 → Int32 → List Int32 → S → Option (Int32 × S)} (hk55 : T_law_55 k55) (hk471 : T_law_471 k471) (hk480 : T_law_480 k480) : ∀ (v1 : Int32) (v4 : Int32) (v5 : Int32) (v8 : Int64) (v10 : Int32) (v11 : Int32) (v12 : Int64) (v14 : Int64) (v16 : Int32) (v17 : Int32) (p0 : Int32) (q : List Int32) (t0 : S) (x2 : Slot) (x6 : Slot) (x7 : Slot) (D18 : List Slot) (hx2 : k1 x2) (hx6 : k2 x6 x7) (hD18 : WT D18) (lD18 : D18.length = 3) (o : Int32 × S), law_503 k55 k471 k480 v1 v4 v5 v8 v10 v11 v12 v14 v16 v17 p0 q t0 = some o → Go PP m45 503 ([.val (.ref 0), .val (.int v1), x2, .val (.ref 1), .val (.int v4), .val (.int v5), x6, x7, .val (.long v8), .second, .val (.int v10), .val (.int v11), .val (.long v12), .second, .val (.long v14), .second, .val (.int v16), .val (.int v17)] ++ D18) [.int p0] (some q, [(9, t0)]) (some (.int o.1), (some q, [(9, o.2)])) := by
  intro v1 v4 v5 v8 v10 v11 v12 v14 v16 v17 p0 q t0 x2 x6 x7 D18 hx2 hx6 hD18 lD18 o hf
  unfold law_503 at hf
  refine go_istoreT (pc := 503) (L0 := [.val (.ref 0), .val (.int v1), x2, .val (.ref 1), .val (.int v4), .val (.int v5), x6, x7, .val (.long v8), .second, .val (.int v10), .val (.int v11), .val (.long v12), .second, .val (.long v14), .second, .val (.int v16), .val (.int v17)]) (L1 := [.val (.ref 0), .val (.int v1), x2, .val (.ref 1), .val (.int v4), .val (.int v5), x6, x7, .val (.long v8), .second, .val (.int v10), .val (.int v11), .val (.long v12), .second, .val (.long v14), .second, .val (.int v16), .val (.int v17), .val (.int p0)]) d45_503 rfl rfl hD18 lD18 fun E503 hE503 lE503 => (go_iconst (pc := 505) d45_505 ci_0 (go_istoreT (pc := 506) (L0 := [.val (.ref 0), .val (.int v1), x2, .val (.ref 1), .val (.int v4), .val (.int v5), x6, x7, .val (.long v8), .second, .val (.int v10), .val (.int v11), .val (.long v12), .second, .val (.long v14), .second, .val (.int v16), .val (.int v17), .val (.int p0)]) (L1 := [.val (.ref 0), .val (.int v1), x2, .val (.ref 1), .val (.int v4), .val (.int v5), x6, x7, .val (.long v8), .second, .val (.int v10), .val (.int v11), .val (.long v12), .second, .val (.long v14), .second, .val (.int v16), .val (.int v17), .val (.int p0), .val (.int (0 : Int32))]) d45_506 rfl rfl hE503 lE503 fun E506 hE506 lE506 => ?_))
  exact law_508_ok hk55 hk471 hk480 BIG v1 v4 v5 v8 v10 v11 v12 v14 v16 v17 p0 (0 : Int32) q t0 x2 x6 x7 E506 hx2 hx6 hE506 lE506 _ hf
set_option maxRecDepth 65536 in
set_option maxHeartbeats 4000000 in
theorem law_480_ok {k55 : Int32 → Int32 → Int32 → List Int32 → S → Option (Int32 × S)} {k471 : Int32 → Int32 → Int32 → Int64 → Int32 → Int32 → Int64 → Int64 → Int32 → List Int32 → S → Option (Int32 × S)} (hk55 : T_law_55 k55) (hk471 : T_law_471 k471) : ∀ (n : Nat) (v1 : Int32) (v4 : Int32) (v5 : Int32) (v8 : Int64) (v10 : Int32) (v11 : Int32) (v12 : Int64) (v14 : Int64) (v16 : Int32) (v17 : Int32) (q : List Int32) (t0 : S) (x2 : Slot) (x6 : Slot) (x7 : Slot) (D18 : List Slot) (hx2 : k1 x2) (hx6 : k2 x6 x7) (hD18 : WT D18) (lD18 : D18.length = 3) (o : Int32 × S), law_480 k55 k471 n v1 v4 v5 v8 v10 v11 v12 v14 v16 v17 q t0 = some o → Go PP m45 480 ([.val (.ref 0), .val (.int v1), x2, .val (.ref 1), .val (.int v4), .val (.int v5), x6, x7, .val (.long v8), .second, .val (.int v10), .val (.int v11), .val (.long v12), .second, .val (.long v14), .second, .val (.int v16), .val (.int v17)] ++ D18) [] (some q, [(9, t0)]) (some (.int o.1), (some q, [(9, o.2)])) := by
  intro n
  induction n with
  | zero => intro v1 v4 v5 v8 v10 v11 v12 v14 v16 v17 q t0 x2 x6 x7 D18 hx2 hx6 hD18 lD18 o hf; exact nomatch hf
  | succ n ih =>
    intro v1 v4 v5 v8 v10 v11 v12 v14 v16 v17 q t0 x2 x6 x7 D18 hx2 hx6 hD18 lD18 o hf
    unfold law_480 at hf
    refine go_iload (pc := 480) d45_480 rfl (go_iloadN (pc := 482) d45_482 rfl ?_)
    by_cases h1 : v17 < v1
    · replace hf := (if_pos h1).symm.trans hf
      refine go_icN (pc := 483) d45_483 (XT.ii_ge_f h1) ?_
      refine go_lload (pc := 486) d45_486 rfl (go_iload (pc := 488) d45_488 rfl (go_iload (pc := 490) d45_490 rfl ?_))
      refine go_stat (pc := 492) (as := [.long v12, .int v16, .int v17]) (rest := []) (w' := (some q, [(9, t0)])) lk_1_7 pd_5 rfl rfl ⟨Nat.le_of_ble_eq_true rfl, Nat.le_of_ble_eq_true rfl⟩ ⟨rfl, rfl, rfl⟩ ⟨rfl, rfl, rfl, rfl, rfl⟩ d45_492 (c_h_bit_n1 v12 v16 v17 q t0) ?_
      by_cases h2 : (h_bit v12 v16 v17) = 0
      · refine go_ifY (pc := 495) (pc' := 502) d45_495 (XT.i0_eq_t h2) j_495_7 ?_
        refine go_iconst (pc := 502) d45_502 ci_0 ?_
        exact law_503_ok hk55 hk471 ih v1 v4 v5 v8 v10 v11 v12 v14 v16 v17 (0 : Int32) q t0 x2 x6 x7 D18 hx2 hx6 hD18 lD18 _ (by simpa only [if_pos h2] using hf)
      · refine go_ifN (pc := 495) d45_495 (XT.i0_eq_f h2) ?_
        refine go_iconst (pc := 498) d45_498 ci_1 (go_goto (pc := 499) (pc' := 503) d45_499 j_499_4 ?_)
        exact law_503_ok hk55 hk471 ih v1 v4 v5 v8 v10 v11 v12 v14 v16 v17 (1 : Int32) q t0 x2 x6 x7 D18 hx2 hx6 hD18 lD18 _ (by simpa only [if_neg h2] using hf)
    · replace hf := (if_neg h1).symm.trans hf
      refine go_icY (pc := 483) (pc' := 567) d45_483 (XT.ii_ge_t h1) j_483_84 ?_
      refine go_iinc (pc := 567) (L' := ([.val (.ref 0), .val (.int v1), x2, .val (.ref 1), .val (.int v4), .val (.int v5), x6, x7, .val (.long v8), .second, .val (.int v10), .val (.int v11), .val (.long v12), .second, .val (.long v14), .second, .val (.int (v16 + (1 : Int32))), .val (.int v17)] ++ D18)) d45_567 rfl ci_1 (stx rfl (Or.inr ⟨_, rfl, rfl⟩) rfl) (go_goto (pc := 570) (pc' := 471) d45_570 j_570_m99 ?_)
      exact hk471 v1 v4 v5 v8 v10 v11 v12 v14 (v16 + (1 : Int32)) q t0 x2 x6 x7 ([.val (.int v17)] ++ D18) hx2 hx6 (wt1 (Or.inr ⟨_, rfl, rfl⟩) hD18) (by simp [lD18]) _ hf
set_option maxRecDepth 65536 in
set_option maxHeartbeats 4000000 in
theorem law_471_ok {k55 : Int32 → Int32 → Int32 → List Int32 → S → Option (Int32 × S)} (hk55 : T_law_55 k55) : ∀ (n : Nat) (v1 : Int32) (v4 : Int32) (v5 : Int32) (v8 : Int64) (v10 : Int32) (v11 : Int32) (v12 : Int64) (v14 : Int64) (v16 : Int32) (q : List Int32) (t0 : S) (x2 : Slot) (x6 : Slot) (x7 : Slot) (D17 : List Slot) (hx2 : k1 x2) (hx6 : k2 x6 x7) (hD17 : WT D17) (lD17 : D17.length = 4) (o : Int32 × S), law_471 k55 n v1 v4 v5 v8 v10 v11 v12 v14 v16 q t0 = some o → Go PP m45 471 ([.val (.ref 0), .val (.int v1), x2, .val (.ref 1), .val (.int v4), .val (.int v5), x6, x7, .val (.long v8), .second, .val (.int v10), .val (.int v11), .val (.long v12), .second, .val (.long v14), .second, .val (.int v16)] ++ D17) [] (some q, [(9, t0)]) (some (.int o.1), (some q, [(9, o.2)])) := by
  intro n
  induction n with
  | zero => intro v1 v4 v5 v8 v10 v11 v12 v14 v16 q t0 x2 x6 x7 D17 hx2 hx6 hD17 lD17 o hf; exact nomatch hf
  | succ n ih =>
    intro v1 v4 v5 v8 v10 v11 v12 v14 v16 q t0 x2 x6 x7 D17 hx2 hx6 hD17 lD17 o hf
    unfold law_471 at hf
    refine go_iload (pc := 471) d45_471 rfl (go_iloadN (pc := 473) d45_473 rfl ?_)
    by_cases h1 : v16 < v1
    · replace hf := (if_pos h1).symm.trans hf
      refine go_icN (pc := 474) d45_474 (XT.ii_ge_f h1) ?_
      refine go_iconst (pc := 477) d45_477 ci_0 (go_istoreT (pc := 478) (L0 := [.val (.ref 0), .val (.int v1), x2, .val (.ref 1), .val (.int v4), .val (.int v5), x6, x7, .val (.long v8), .second, .val (.int v10), .val (.int v11), .val (.long v12), .second, .val (.long v14), .second, .val (.int v16)]) (L1 := [.val (.ref 0), .val (.int v1), x2, .val (.ref 1), .val (.int v4), .val (.int v5), x6, x7, .val (.long v8), .second, .val (.int v10), .val (.int v11), .val (.long v12), .second, .val (.long v14), .second, .val (.int v16), .val (.int (0 : Int32))]) d45_478 rfl rfl hD17 lD17 fun E478 hE478 lE478 => ?_)
      exact law_480_ok hk55 ih BIG v1 v4 v5 v8 v10 v11 v12 v14 v16 (0 : Int32) q t0 x2 x6 x7 E478 hx2 hx6 hE478 lE478 _ hf
    · replace hf := (if_neg h1).symm.trans hf
      refine go_icY (pc := 474) (pc' := 573) d45_474 (XT.ii_ge_t h1) j_474_99 ?_
      exact law_573_ok hk55 v1 v4 v5 v8 v10 v11 v14 q t0 x2 x6 x7 (.val (.long v12)) .second (.val (.int v16)) D17 hx2 hx6 (Or.inr ⟨_, rfl, rfl⟩) (Or.inr ⟨_, rfl, rfl⟩) hD17 lD17 _ hf
set_option maxRecDepth 65536 in
set_option maxHeartbeats 4000000 in
theorem law_468_ok {k55 : Int32 → Int32 → Int32 → List Int32 → S → Option (Int32 × S)} (hk55 : T_law_55 k55) : ∀ (v1 : Int32) (v4 : Int32) (v5 : Int32) (v8 : Int64) (v10 : Int32) (v11 : Int32) (v12 : Int64) (v14 : Int64) (q : List Int32) (t0 : S) (x2 : Slot) (x6 : Slot) (x7 : Slot) (x16 : Slot) (D17 : List Slot) (hx2 : k1 x2) (hx6 : k2 x6 x7) (hx16 : k1 x16) (hD17 : WT D17) (lD17 : D17.length = 4) (o : Int32 × S), law_468 k55 v1 v4 v5 v8 v10 v11 v12 v14 q t0 = some o → Go PP m45 468 ([.val (.ref 0), .val (.int v1), x2, .val (.ref 1), .val (.int v4), .val (.int v5), x6, x7, .val (.long v8), .second, .val (.int v10), .val (.int v11), .val (.long v12), .second, .val (.long v14), .second, x16] ++ D17) [] (some q, [(9, t0)]) (some (.int o.1), (some q, [(9, o.2)])) := by
  intro v1 v4 v5 v8 v10 v11 v12 v14 q t0 x2 x6 x7 x16 D17 hx2 hx6 hx16 hD17 lD17 o hf
  unfold law_468 at hf
  refine go_iconst (pc := 468) d45_468 ci_0 (go_istore (pc := 469) (L' := ([.val (.ref 0), .val (.int v1), x2, .val (.ref 1), .val (.int v4), .val (.int v5), x6, x7, .val (.long v8), .second, .val (.int v10), .val (.int v11), .val (.long v12), .second, .val (.long v14), .second, .val (.int (0 : Int32))] ++ D17)) d45_469 (stx rfl hx16 rfl) ?_)
  exact law_471_ok hk55 BIG v1 v4 v5 v8 v10 v11 v12 v14 (0 : Int32) q t0 x2 x6 x7 D17 hx2 hx6 hD17 lD17 _ hf
def T_law_419 (k419 : Int32 → Int32 → Int32 → Int64 → Int32 → Int32 → Int64 → Int64 → Int32 → List Int32 → S → Option (Int32 × S)) : Prop := ∀ (v1 : Int32) (v4 : Int32) (v5 : Int32) (v8 : Int64) (v10 : Int32) (v11 : Int32) (v12 : Int64) (v14 : Int64) (v16 : Int32) (q : List Int32) (t0 : S) (x2 : Slot) (x6 : Slot) (x7 : Slot) (D17 : List Slot) (hx2 : k1 x2) (hx6 : k2 x6 x7) (hD17 : WT D17) (lD17 : D17.length = 4) (o : Int32 × S), k419 v1 v4 v5 v8 v10 v11 v12 v14 v16 q t0 = some o → Go PP m45 419 ([.val (.ref 0), .val (.int v1), x2, .val (.ref 1), .val (.int v4), .val (.int v5), x6, x7, .val (.long v8), .second, .val (.int v10), .val (.int v11), .val (.long v12), .second, .val (.long v14), .second, .val (.int v16)] ++ D17) [] (some q, [(9, t0)]) (some (.int o.1), (some q, [(9, o.2)]))
set_option maxRecDepth 65536 in
set_option maxHeartbeats 4000000 in
theorem law_428_ok {k55 : Int32 → Int32 → Int32 → List Int32 → S → Option (Int32 × S)} {k419 : Int32 → Int32 → Int32 → Int64 → Int32 → Int32 → Int64 → Int64 → Int32 → List Int32 → S → Option (Int32 × S)} (hk55 : T_law_55 k55) (hk419 : T_law_419 k419) : ∀ (n : Nat) (v1 : Int32) (v4 : Int32) (v5 : Int32) (v8 : Int64) (v10 : Int32) (v11 : Int32) (v12 : Int64) (v14 : Int64) (v16 : Int32) (v17 : Int32) (q : List Int32) (t0 : S) (x2 : Slot) (x6 : Slot) (x7 : Slot) (D18 : List Slot) (hx2 : k1 x2) (hx6 : k2 x6 x7) (hD18 : WT D18) (lD18 : D18.length = 3) (o : Int32 × S), law_428 k55 k419 n v1 v4 v5 v8 v10 v11 v12 v14 v16 v17 q t0 = some o → Go PP m45 428 ([.val (.ref 0), .val (.int v1), x2, .val (.ref 1), .val (.int v4), .val (.int v5), x6, x7, .val (.long v8), .second, .val (.int v10), .val (.int v11), .val (.long v12), .second, .val (.long v14), .second, .val (.int v16), .val (.int v17)] ++ D18) [] (some q, [(9, t0)]) (some (.int o.1), (some q, [(9, o.2)])) := by
  intro n
  induction n with
  | zero => intro v1 v4 v5 v8 v10 v11 v12 v14 v16 v17 q t0 x2 x6 x7 D18 hx2 hx6 hD18 lD18 o hf; exact nomatch hf
  | succ n ih =>
    intro v1 v4 v5 v8 v10 v11 v12 v14 v16 v17 q t0 x2 x6 x7 D18 hx2 hx6 hD18 lD18 o hf
    unfold law_428 at hf
    refine go_iload (pc := 428) d45_428 rfl (go_iloadN (pc := 430) d45_430 rfl ?_)
    by_cases h1 : v17 < v1
    · replace hf := (if_pos h1).symm.trans hf
      refine go_icN (pc := 431) d45_431 (XT.ii_ge_f h1) ?_
      refine go_aloadN (pc := 434) d45_434 rfl (go_iload (pc := 435) d45_435 rfl (go_iload (pc := 437) d45_437 rfl ?_))
      obtain ⟨r439, e2, hf⟩ := Option.bind_eq_some_iff.mp hf
      refine go_virt (pc := 439) (i := 0) (as := [.int v16, .int v17]) (rest := []) (w' := (some q, [(9, t0)])) lk_1_61 pd_38 rfl oid_0 rfl rfl rfl rfl rfl rfl ⟨rfl, rfl, rfl, rfl, rfl⟩ d45_439 (c_k_reaches v16 v17 t0 _ e2) ?_
      refine go_lload (pc := 442) d45_442 rfl (go_iload (pc := 444) d45_444 rfl (go_iload (pc := 446) d45_446 rfl ?_))
      refine go_stat (pc := 448) (as := [.long v14, .int v16, .int v17]) (rest := [.int r439]) (w' := (some q, [(9, t0)])) lk_1_7 pd_5 rfl rfl ⟨Nat.le_of_ble_eq_true rfl, Nat.le_of_ble_eq_true rfl⟩ ⟨rfl, rfl, rfl⟩ ⟨rfl, rfl, rfl, rfl, rfl⟩ d45_448 (c_h_bit_n1 v14 v16 v17 q t0) ?_
      by_cases h3 : r439 = (h_bit v14 v16 v17)
      · replace hf := (if_pos h3).symm.trans hf
        refine go_icY (pc := 451) (pc' := 456) d45_451 (XT.ii_eq_t h3) j_451_5 ?_
        refine go_iinc (pc := 456) (L' := ([.val (.ref 0), .val (.int v1), x2, .val (.ref 1), .val (.int v4), .val (.int v5), x6, x7, .val (.long v8), .second, .val (.int v10), .val (.int v11), .val (.long v12), .second, .val (.long v14), .second, .val (.int v16), .val (.int (v17 + (1 : Int32)))] ++ D18)) d45_456 rfl ci_1 (stx rfl (Or.inr ⟨_, rfl, rfl⟩) rfl) (go_goto (pc := 459) (pc' := 428) d45_459 j_459_m31 ?_)
        exact ih v1 v4 v5 v8 v10 v11 v12 v14 v16 (v17 + (1 : Int32)) q t0 x2 x6 x7 D18 hx2 hx6 hD18 lD18 _ hf
      · replace hf := (if_neg h3).symm.trans hf
        refine go_icN (pc := 451) d45_451 (XT.ii_eq_f h3) ?_
        refine go_iconst (pc := 454) d45_454 ci_0 ?_
        cases hf
        exact go_zret (pc := 455) rfl d45_455 (show (0 : Int32) = nar .boolean (0 : Int32) by decide)
    · replace hf := (if_neg h1).symm.trans hf
      refine go_icY (pc := 431) (pc' := 462) d45_431 (XT.ii_ge_t h1) j_431_31 ?_
      refine go_iinc (pc := 462) (L' := ([.val (.ref 0), .val (.int v1), x2, .val (.ref 1), .val (.int v4), .val (.int v5), x6, x7, .val (.long v8), .second, .val (.int v10), .val (.int v11), .val (.long v12), .second, .val (.long v14), .second, .val (.int (v16 + (1 : Int32))), .val (.int v17)] ++ D18)) d45_462 rfl ci_1 (stx rfl (Or.inr ⟨_, rfl, rfl⟩) rfl) (go_goto (pc := 465) (pc' := 419) d45_465 j_465_m46 ?_)
      exact hk419 v1 v4 v5 v8 v10 v11 v12 v14 (v16 + (1 : Int32)) q t0 x2 x6 x7 ([.val (.int v17)] ++ D18) hx2 hx6 (wt1 (Or.inr ⟨_, rfl, rfl⟩) hD18) (by simp [lD18]) _ hf
set_option maxRecDepth 65536 in
set_option maxHeartbeats 4000000 in
theorem law_419_ok {k55 : Int32 → Int32 → Int32 → List Int32 → S → Option (Int32 × S)} (hk55 : T_law_55 k55) : ∀ (n : Nat) (v1 : Int32) (v4 : Int32) (v5 : Int32) (v8 : Int64) (v10 : Int32) (v11 : Int32) (v12 : Int64) (v14 : Int64) (v16 : Int32) (q : List Int32) (t0 : S) (x2 : Slot) (x6 : Slot) (x7 : Slot) (D17 : List Slot) (hx2 : k1 x2) (hx6 : k2 x6 x7) (hD17 : WT D17) (lD17 : D17.length = 4) (o : Int32 × S), law_419 k55 n v1 v4 v5 v8 v10 v11 v12 v14 v16 q t0 = some o → Go PP m45 419 ([.val (.ref 0), .val (.int v1), x2, .val (.ref 1), .val (.int v4), .val (.int v5), x6, x7, .val (.long v8), .second, .val (.int v10), .val (.int v11), .val (.long v12), .second, .val (.long v14), .second, .val (.int v16)] ++ D17) [] (some q, [(9, t0)]) (some (.int o.1), (some q, [(9, o.2)])) := by
  intro n
  induction n with
  | zero => intro v1 v4 v5 v8 v10 v11 v12 v14 v16 q t0 x2 x6 x7 D17 hx2 hx6 hD17 lD17 o hf; exact nomatch hf
  | succ n ih =>
    intro v1 v4 v5 v8 v10 v11 v12 v14 v16 q t0 x2 x6 x7 D17 hx2 hx6 hD17 lD17 o hf
    unfold law_419 at hf
    refine go_iload (pc := 419) d45_419 rfl (go_iloadN (pc := 421) d45_421 rfl ?_)
    by_cases h1 : v16 < v1
    · replace hf := (if_pos h1).symm.trans hf
      refine go_icN (pc := 422) d45_422 (XT.ii_ge_f h1) ?_
      refine go_iconst (pc := 425) d45_425 ci_0 (go_istoreT (pc := 426) (L0 := [.val (.ref 0), .val (.int v1), x2, .val (.ref 1), .val (.int v4), .val (.int v5), x6, x7, .val (.long v8), .second, .val (.int v10), .val (.int v11), .val (.long v12), .second, .val (.long v14), .second, .val (.int v16)]) (L1 := [.val (.ref 0), .val (.int v1), x2, .val (.ref 1), .val (.int v4), .val (.int v5), x6, x7, .val (.long v8), .second, .val (.int v10), .val (.int v11), .val (.long v12), .second, .val (.long v14), .second, .val (.int v16), .val (.int (0 : Int32))]) d45_426 rfl rfl hD17 lD17 fun E426 hE426 lE426 => ?_)
      exact law_428_ok hk55 ih BIG v1 v4 v5 v8 v10 v11 v12 v14 v16 (0 : Int32) q t0 x2 x6 x7 E426 hx2 hx6 hE426 lE426 _ hf
    · replace hf := (if_neg h1).symm.trans hf
      refine go_icY (pc := 422) (pc' := 468) d45_422 (XT.ii_ge_t h1) j_422_46 ?_
      exact law_468_ok hk55 v1 v4 v5 v8 v10 v11 v12 v14 q t0 x2 x6 x7 (.val (.int v16)) D17 hx2 hx6 (Or.inr ⟨_, rfl, rfl⟩) hD17 lD17 _ hf
set_option maxRecDepth 65536 in
set_option maxHeartbeats 4000000 in
theorem law_408_ok {k55 : Int32 → Int32 → Int32 → List Int32 → S → Option (Int32 × S)} (hk55 : T_law_55 k55) : ∀ (v1 : Int32) (v4 : Int32) (v5 : Int32) (v8 : Int64) (v10 : Int32) (v11 : Int32) (v12 : Int64) (q : List Int32) (t0 : S) (x2 : Slot) (x6 : Slot) (x7 : Slot) (x14 : Slot) (D15 : List Slot) (hx2 : k1 x2) (hx6 : k2 x6 x7) (hx14 : k1 x14) (hD15 : WT D15) (lD15 : D15.length = 6) (o : Int32 × S), law_408 k55 v1 v4 v5 v8 v10 v11 v12 q t0 = some o → Go PP m45 408 ([.val (.ref 0), .val (.int v1), x2, .val (.ref 1), .val (.int v4), .val (.int v5), x6, x7, .val (.long v8), .second, .val (.int v10), .val (.int v11), .val (.long v12), .second, x14] ++ D15) [] (some q, [(9, t0)]) (some (.int o.1), (some q, [(9, o.2)])) := by
  intro v1 v4 v5 v8 v10 v11 v12 q t0 x2 x6 x7 x14 D15 hx2 hx6 hx14 hD15 lD15 o hf
  unfold law_408 at hf
  refine go_lload (pc := 408) d45_408 rfl (go_iloadN (pc := 410) d45_410 rfl ?_)
  obtain ⟨r411, e1, hf⟩ := Option.bind_eq_some_iff.mp hf
  refine go_stat (pc := 411) (as := [.long v12, .int v1]) (rest := []) (w' := (some q, [(9, t0)])) lk_1_29 pd_6 rfl rfl ⟨Nat.le_of_ble_eq_true rfl, Nat.le_of_ble_eq_true rfl⟩ ⟨rfl, rfl, rfl⟩ ⟨rfl, rfl, rfl, rfl, rfl⟩ d45_411 (c_h_closure_n1 v12 v1 q t0 _ e1) ?_
  refine go_lstoreT (pc := 414) (n := 5) (L0 := [.val (.ref 0), .val (.int v1), x2, .val (.ref 1), .val (.int v4), .val (.int v5), x6, x7, .val (.long v8), .second, .val (.int v10), .val (.int v11), .val (.long v12), .second]) (L1 := [.val (.ref 0), .val (.int v1), x2, .val (.ref 1), .val (.int v4), .val (.int v5), x6, x7, .val (.long v8), .second, .val (.int v10), .val (.int v11), .val (.long v12), .second, .val (.long r411), .second]) (D := ([x14] ++ D15)) d45_414 rfl rfl (wt1 hx14 hD15) (by simp [lD15]) fun E414 hE414 lE414 => (go_iconst (pc := 416) d45_416 ci_0 (go_istoreT (pc := 417) (L0 := [.val (.ref 0), .val (.int v1), x2, .val (.ref 1), .val (.int v4), .val (.int v5), x6, x7, .val (.long v8), .second, .val (.int v10), .val (.int v11), .val (.long v12), .second, .val (.long r411), .second]) (L1 := [.val (.ref 0), .val (.int v1), x2, .val (.ref 1), .val (.int v4), .val (.int v5), x6, x7, .val (.long v8), .second, .val (.int v10), .val (.int v11), .val (.long v12), .second, .val (.long r411), .second, .val (.int (0 : Int32))]) d45_417 rfl rfl hE414 lE414 fun E417 hE417 lE417 => ?_))
  exact law_419_ok hk55 BIG v1 v4 v5 v8 v10 v11 v12 r411 (0 : Int32) q t0 x2 x6 x7 E417 hx2 hx6 hE417 lE417 _ hf
def T_law_355 (k355 : Int32 → Int32 → Int32 → Int64 → Int32 → Int32 → Int64 → Int32 → List Int32 → S → Option (Int32 × S)) : Prop := ∀ (v1 : Int32) (v4 : Int32) (v5 : Int32) (v8 : Int64) (v10 : Int32) (v11 : Int32) (v12 : Int64) (v14 : Int32) (q : List Int32) (t0 : S) (x2 : Slot) (x6 : Slot) (x7 : Slot) (D15 : List Slot) (hx2 : k1 x2) (hx6 : k2 x6 x7) (hD15 : WT D15) (lD15 : D15.length = 6) (o : Int32 × S), k355 v1 v4 v5 v8 v10 v11 v12 v14 q t0 = some o → Go PP m45 355 ([.val (.ref 0), .val (.int v1), x2, .val (.ref 1), .val (.int v4), .val (.int v5), x6, x7, .val (.long v8), .second, .val (.int v10), .val (.int v11), .val (.long v12), .second, .val (.int v14)] ++ D15) [] (some q, [(9, t0)]) (some (.int o.1), (some q, [(9, o.2)]))
set_option maxRecDepth 65536 in
set_option maxHeartbeats 4000000 in
theorem law_364_ok {k55 : Int32 → Int32 → Int32 → List Int32 → S → Option (Int32 × S)} {k355 : Int32 → Int32 → Int32 → Int64 → Int32 → Int32 → Int64 → Int32 → List Int32 → S → Option (Int32 × S)} (hk55 : T_law_55 k55) (hk355 : T_law_355 k355) : ∀ (n : Nat) (v1 : Int32) (v4 : Int32) (v5 : Int32) (v8 : Int64) (v10 : Int32) (v11 : Int32) (v12 : Int64) (v14 : Int32) (v15 : Int32) (q : List Int32) (t0 : S) (x2 : Slot) (x6 : Slot) (x7 : Slot) (D16 : List Slot) (hx2 : k1 x2) (hx6 : k2 x6 x7) (hD16 : WT D16) (lD16 : D16.length = 5) (o : Int32 × S), law_364 k55 k355 n v1 v4 v5 v8 v10 v11 v12 v14 v15 q t0 = some o → Go PP m45 364 ([.val (.ref 0), .val (.int v1), x2, .val (.ref 1), .val (.int v4), .val (.int v5), x6, x7, .val (.long v8), .second, .val (.int v10), .val (.int v11), .val (.long v12), .second, .val (.int v14), .val (.int v15)] ++ D16) [] (some q, [(9, t0)]) (some (.int o.1), (some q, [(9, o.2)])) := by
  intro n
  induction n with
  | zero => intro v1 v4 v5 v8 v10 v11 v12 v14 v15 q t0 x2 x6 x7 D16 hx2 hx6 hD16 lD16 o hf; exact nomatch hf
  | succ n ih =>
    intro v1 v4 v5 v8 v10 v11 v12 v14 v15 q t0 x2 x6 x7 D16 hx2 hx6 hD16 lD16 o hf
    unfold law_364 at hf
    refine go_iload (pc := 364) d45_364 rfl (go_iloadN (pc := 366) d45_366 rfl ?_)
    by_cases h1 : v15 < v1
    · replace hf := (if_pos h1).symm.trans hf
      refine go_icN (pc := 367) d45_367 (XT.ii_ge_f h1) ?_
      refine go_aloadN (pc := 370) d45_370 rfl (go_iload (pc := 371) d45_371 rfl (go_iload (pc := 373) d45_373 rfl ?_))
      obtain ⟨r375, e2, hf⟩ := Option.bind_eq_some_iff.mp hf
      refine go_virt (pc := 375) (i := 0) (as := [.int v14, .int v15]) (rest := []) (w' := (some q, [(9, t0)])) lk_1_25 pd_4 rfl oid_0 rfl rfl rfl rfl rfl rfl ⟨rfl, rfl, rfl, rfl, rfl⟩ d45_375 (c_k_hasEdge v14 v15 t0 _ e2) ?_
      by_cases h3 : r375 = 0
      · refine go_ifY (pc := 378) (pc' := 396) d45_378 (XT.i0_eq_t h3) j_378_18 ?_
        refine go_iinc (pc := 396) (L' := ([.val (.ref 0), .val (.int v1), x2, .val (.ref 1), .val (.int v4), .val (.int v5), x6, x7, .val (.long v8), .second, .val (.int v10), .val (.int v11), .val (.long v12), .second, .val (.int v14), .val (.int (v15 + (1 : Int32)))] ++ D16)) d45_396 rfl ci_1 (stx rfl (Or.inr ⟨_, rfl, rfl⟩) rfl) (go_goto (pc := 399) (pc' := 364) d45_399 j_399_m35 ?_)
        exact ih v1 v4 v5 v8 v10 v11 v12 v14 (v15 + (1 : Int32)) q t0 x2 x6 x7 D16 hx2 hx6 hD16 lD16 _ (by simpa only [if_pos h3] using hf)
      · refine go_ifN (pc := 378) d45_378 (XT.i0_eq_f h3) ?_
        refine go_lload (pc := 381) d45_381 rfl (go_lconst (pc := 383) d45_383 cl_1 (go_iload (pc := 384) d45_384 rfl (go_bipush (pc := 386) d45_386 cb_8 (go_imul (pc := 388) d45_388 (go_iload (pc := 389) d45_389 rfl (go_iadd (pc := 391) d45_391 (go_lshl (pc := 392) d45_392 ?_)))))))
        refine go_lor (pc := 393) d45_393 (go_lstore (pc := 394) (L' := ([.val (.ref 0), .val (.int v1), x2, .val (.ref 1), .val (.int v4), .val (.int v5), x6, x7, .val (.long v8), .second, .val (.int v10), .val (.int v11), .val (.long (v12 ||| ((1 : Int64) <<< (((v14 * (8 : Int32)) + v15).toInt64 &&& 63)))), .second, .val (.int v14), .val (.int v15)] ++ D16)) d45_394 (stx2 rfl rfl (Or.inr ⟨_, rfl, rfl⟩)) (go_iinc (pc := 396) (L' := ([.val (.ref 0), .val (.int v1), x2, .val (.ref 1), .val (.int v4), .val (.int v5), x6, x7, .val (.long v8), .second, .val (.int v10), .val (.int v11), .val (.long (v12 ||| ((1 : Int64) <<< (((v14 * (8 : Int32)) + v15).toInt64 &&& 63)))), .second, .val (.int v14), .val (.int (v15 + (1 : Int32)))] ++ D16)) d45_396 rfl ci_1 (stx rfl (Or.inr ⟨_, rfl, rfl⟩) rfl) (go_goto (pc := 399) (pc' := 364) d45_399 j_399_m35 ?_)))
        exact ih v1 v4 v5 v8 v10 v11 (v12 ||| ((1 : Int64) <<< (((v14 * (8 : Int32)) + v15).toInt64 &&& 63))) v14 (v15 + (1 : Int32)) q t0 x2 x6 x7 D16 hx2 hx6 hD16 lD16 _ (by simpa only [if_neg h3] using hf)
    · replace hf := (if_neg h1).symm.trans hf
      refine go_icY (pc := 367) (pc' := 402) d45_367 (XT.ii_ge_t h1) j_367_35 ?_
      refine go_iinc (pc := 402) (L' := ([.val (.ref 0), .val (.int v1), x2, .val (.ref 1), .val (.int v4), .val (.int v5), x6, x7, .val (.long v8), .second, .val (.int v10), .val (.int v11), .val (.long v12), .second, .val (.int (v14 + (1 : Int32))), .val (.int v15)] ++ D16)) d45_402 rfl ci_1 (stx rfl (Or.inr ⟨_, rfl, rfl⟩) rfl) (go_goto (pc := 405) (pc' := 355) d45_405 j_405_m50 ?_)
      exact hk355 v1 v4 v5 v8 v10 v11 v12 (v14 + (1 : Int32)) q t0 x2 x6 x7 ([.val (.int v15)] ++ D16) hx2 hx6 (wt1 (Or.inr ⟨_, rfl, rfl⟩) hD16) (by simp [lD16]) _ hf
set_option maxRecDepth 65536 in
set_option maxHeartbeats 4000000 in
theorem law_355_ok {k55 : Int32 → Int32 → Int32 → List Int32 → S → Option (Int32 × S)} (hk55 : T_law_55 k55) : ∀ (n : Nat) (v1 : Int32) (v4 : Int32) (v5 : Int32) (v8 : Int64) (v10 : Int32) (v11 : Int32) (v12 : Int64) (v14 : Int32) (q : List Int32) (t0 : S) (x2 : Slot) (x6 : Slot) (x7 : Slot) (D15 : List Slot) (hx2 : k1 x2) (hx6 : k2 x6 x7) (hD15 : WT D15) (lD15 : D15.length = 6) (o : Int32 × S), law_355 k55 n v1 v4 v5 v8 v10 v11 v12 v14 q t0 = some o → Go PP m45 355 ([.val (.ref 0), .val (.int v1), x2, .val (.ref 1), .val (.int v4), .val (.int v5), x6, x7, .val (.long v8), .second, .val (.int v10), .val (.int v11), .val (.long v12), .second, .val (.int v14)] ++ D15) [] (some q, [(9, t0)]) (some (.int o.1), (some q, [(9, o.2)])) := by
  intro n
  induction n with
  | zero => intro v1 v4 v5 v8 v10 v11 v12 v14 q t0 x2 x6 x7 D15 hx2 hx6 hD15 lD15 o hf; exact nomatch hf
  | succ n ih =>
    intro v1 v4 v5 v8 v10 v11 v12 v14 q t0 x2 x6 x7 D15 hx2 hx6 hD15 lD15 o hf
    unfold law_355 at hf
    refine go_iload (pc := 355) d45_355 rfl (go_iloadN (pc := 357) d45_357 rfl ?_)
    by_cases h1 : v14 < v1
    · replace hf := (if_pos h1).symm.trans hf
      refine go_icN (pc := 358) d45_358 (XT.ii_ge_f h1) ?_
      refine go_iconst (pc := 361) d45_361 ci_0 (go_istoreT (pc := 362) (L0 := [.val (.ref 0), .val (.int v1), x2, .val (.ref 1), .val (.int v4), .val (.int v5), x6, x7, .val (.long v8), .second, .val (.int v10), .val (.int v11), .val (.long v12), .second, .val (.int v14)]) (L1 := [.val (.ref 0), .val (.int v1), x2, .val (.ref 1), .val (.int v4), .val (.int v5), x6, x7, .val (.long v8), .second, .val (.int v10), .val (.int v11), .val (.long v12), .second, .val (.int v14), .val (.int (0 : Int32))]) d45_362 rfl rfl hD15 lD15 fun E362 hE362 lE362 => ?_)
      exact law_364_ok hk55 ih BIG v1 v4 v5 v8 v10 v11 v12 v14 (0 : Int32) q t0 x2 x6 x7 E362 hx2 hx6 hE362 lE362 _ hf
    · replace hf := (if_neg h1).symm.trans hf
      refine go_icY (pc := 358) (pc' := 408) d45_358 (XT.ii_ge_t h1) j_358_50 ?_
      exact law_408_ok hk55 v1 v4 v5 v8 v10 v11 v12 q t0 x2 x6 x7 (.val (.int v14)) D15 hx2 hx6 (Or.inr ⟨_, rfl, rfl⟩) hD15 lD15 _ hf
set_option maxRecDepth 65536 in
set_option maxHeartbeats 4000000 in
theorem law_349_ok {k55 : Int32 → Int32 → Int32 → List Int32 → S → Option (Int32 × S)} (hk55 : T_law_55 k55) : ∀ (v1 : Int32) (v4 : Int32) (v5 : Int32) (v8 : Int64) (v10 : Int32) (v11 : Int32) (q : List Int32) (t0 : S) (x2 : Slot) (x6 : Slot) (x7 : Slot) (D12 : List Slot) (hx2 : k1 x2) (hx6 : k2 x6 x7) (hD12 : WT D12) (lD12 : D12.length = 9) (o : Int32 × S), law_349 k55 v1 v4 v5 v8 v10 v11 q t0 = some o → Go PP m45 349 ([.val (.ref 0), .val (.int v1), x2, .val (.ref 1), .val (.int v4), .val (.int v5), x6, x7, .val (.long v8), .second, .val (.int v10), .val (.int v11)] ++ D12) [] (some q, [(9, t0)]) (some (.int o.1), (some q, [(9, o.2)])) := by
  intro v1 v4 v5 v8 v10 v11 q t0 x2 x6 x7 D12 hx2 hx6 hD12 lD12 o hf
  unfold law_349 at hf
  refine go_lconst (pc := 349) d45_349 cl_0 (go_lstoreT (pc := 350) (L0 := [.val (.ref 0), .val (.int v1), x2, .val (.ref 1), .val (.int v4), .val (.int v5), x6, x7, .val (.long v8), .second, .val (.int v10), .val (.int v11)]) (L1 := [.val (.ref 0), .val (.int v1), x2, .val (.ref 1), .val (.int v4), .val (.int v5), x6, x7, .val (.long v8), .second, .val (.int v10), .val (.int v11), .val (.long (0 : Int64)), .second]) d45_350 rfl rfl hD12 lD12 fun E350 hE350 lE350 => (go_iconst (pc := 352) d45_352 ci_0 (go_istoreT (pc := 353) (L0 := [.val (.ref 0), .val (.int v1), x2, .val (.ref 1), .val (.int v4), .val (.int v5), x6, x7, .val (.long v8), .second, .val (.int v10), .val (.int v11), .val (.long (0 : Int64)), .second]) (L1 := [.val (.ref 0), .val (.int v1), x2, .val (.ref 1), .val (.int v4), .val (.int v5), x6, x7, .val (.long v8), .second, .val (.int v10), .val (.int v11), .val (.long (0 : Int64)), .second, .val (.int (0 : Int32))]) d45_353 rfl rfl hE350 lE350 fun E353 hE353 lE353 => ?_)))
  exact law_355_ok hk55 BIG v1 v4 v5 v8 v10 v11 (0 : Int64) (0 : Int32) q t0 x2 x6 x7 E353 hx2 hx6 hE353 lE353 _ hf
set_option maxRecDepth 65536 in
set_option maxHeartbeats 4000000 in
theorem law_245_ok {k55 : Int32 → Int32 → Int32 → List Int32 → S → Option (Int32 × S)} (hk55 : T_law_55 k55) : ∀ (v1 : Int32) (v4 : Int32) (v5 : Int32) (v8 : Int64) (v10 : Int32) (v11 : Int32) (v13 : Int32) (v14 : Int32) (v15 : Int32) (q : List Int32) (t0 : S) (x2 : Slot) (x6 : Slot) (x7 : Slot) (x12 : Slot) (x16 : Slot) (D17 : List Slot) (hx2 : k1 x2) (hx6 : k2 x6 x7) (hx12 : k1 x12) (hx16 : k1 x16) (hD17 : WT D17) (lD17 : D17.length = 4) (o : Int32 × S), law_245 k55 v1 v4 v5 v8 v10 v11 v13 v14 v15 q t0 = some o → Go PP m45 245 ([.val (.ref 0), .val (.int v1), x2, .val (.ref 1), .val (.int v4), .val (.int v5), x6, x7, .val (.long v8), .second, .val (.int v10), .val (.int v11), x12, .val (.int v13), .val (.int v14), .val (.int v15), x16] ++ D17) [] (some q, [(9, t0)]) (some (.int o.1), (some q, [(9, o.2)])) := by
  intro v1 v4 v5 v8 v10 v11 v13 v14 v15 q t0 x2 x6 x7 x12 x16 D17 hx2 hx6 hx12 hx16 hD17 lD17 o hf
  unfold law_245 at hf
  refine go_iload (pc := 245) d45_245 rfl (go_iconst (pc := 247) d45_247 ci_2 ?_)
  by_cases h1 : (2 : Int32) < v13
  · replace hf := (if_pos h1).symm.trans hf
    refine go_icY (pc := 248) (pc' := 267) d45_248 (XT.ii_gt_t h1) j_248_19 ?_
    refine go_iload (pc := 267) d45_267 rfl (go_iconst (pc := 269) d45_269 ci_3 ?_)
    by_cases h2 : v13 = (3 : Int32)
    · replace hf := (if_pos h2).symm.trans hf
      refine go_icN (pc := 270) d45_270 (XT.ii_ne_f h2) ?_
      refine go_aloadN (pc := 273) d45_273 rfl (go_iload (pc := 274) d45_274 rfl (go_iload (pc := 276) d45_276 rfl ?_))
      obtain ⟨r278, e9, hf⟩ := Option.bind_eq_some_iff.mp hf
      refine go_virt (pc := 278) (i := 0) (as := [.int v14, .int v15]) (rest := []) (w' := (some q, [(9, r278.2)])) lk_1_45 pd_30 rfl oid_0 rfl rfl rfl rfl rfl rfl ⟨rfl, rfl, rfl, rfl, rfl⟩ d45_278 (c_k_deleteEdge v14 v15 t0 _ e9) ?_
      refine go_istore (pc := 281) (L' := ([.val (.ref 0), .val (.int v1), x2, .val (.ref 1), .val (.int v4), .val (.int v5), x6, x7, .val (.long v8), .second, .val (.int v10), .val (.int r278.1), x12, .val (.int v13), .val (.int v14), .val (.int v15), x16] ++ D17)) d45_281 (stx rfl (Or.inr ⟨_, rfl, rfl⟩) rfl) (go_iconst (pc := 283) d45_283 ci_2 (go_istore (pc := 284) (L' := ([.val (.ref 0), .val (.int v1), x2, .val (.ref 1), .val (.int v4), .val (.int v5), x6, x7, .val (.long v8), .second, .val (.int (2 : Int32)), .val (.int r278.1), x12, .val (.int v13), .val (.int v14), .val (.int v15), x16] ++ D17)) d45_284 (stx rfl (Or.inr ⟨_, rfl, rfl⟩) rfl) (go_goto (pc := 286) (pc' := 349) d45_286 j_286_63 ?_)))
      exact law_349_ok hk55 v1 v4 v5 v8 (2 : Int32) r278.1 q r278.2 x2 x6 x7 ([x12, .val (.int v13), .val (.int v14), .val (.int v15), x16] ++ D17) hx2 hx6 (wt1 hx12 (wt1 (Or.inr ⟨_, rfl, rfl⟩) (wt1 (Or.inr ⟨_, rfl, rfl⟩) (wt1 (Or.inr ⟨_, rfl, rfl⟩) (wt1 hx16 hD17))))) (by simp [lD17]) _ hf
    · replace hf := (if_neg h2).symm.trans hf
      refine go_icY (pc := 270) (pc' := 289) d45_270 (XT.ii_ne_t h2) j_270_19 ?_
      refine go_iload (pc := 289) d45_289 rfl (go_iconst (pc := 291) d45_291 ci_4 ?_)
      by_cases h3 : v13 = (4 : Int32)
      · replace hf := (if_pos h3).symm.trans hf
        refine go_icN (pc := 292) d45_292 (XT.ii_ne_f h3) ?_
        refine go_aloadN (pc := 295) d45_295 rfl (go_iload (pc := 296) d45_296 rfl (go_iload (pc := 298) d45_298 rfl ?_))
        obtain ⟨r300, e8, hf⟩ := Option.bind_eq_some_iff.mp hf
        refine go_virt (pc := 300) (i := 0) (as := [.int v14, .int v15]) (rest := []) (w' := (some q, [(9, r300.2)])) lk_1_48 pd_32 rfl oid_0 rfl rfl rfl rfl rfl rfl ⟨rfl, rfl, rfl, rfl, rfl⟩ d45_300 (c_k_stageInsert v14 v15 t0 _ e8) ?_
        refine go_pop (pc := 303) d45_303 (go_goto (pc := 304) (pc' := 349) d45_304 j_304_45 ?_)
        exact law_349_ok hk55 v1 v4 v5 v8 v10 v11 q r300.2 x2 x6 x7 ([x12, .val (.int v13), .val (.int v14), .val (.int v15), x16] ++ D17) hx2 hx6 (wt1 hx12 (wt1 (Or.inr ⟨_, rfl, rfl⟩) (wt1 (Or.inr ⟨_, rfl, rfl⟩) (wt1 (Or.inr ⟨_, rfl, rfl⟩) (wt1 hx16 hD17))))) (by simp [lD17]) _ hf
      · replace hf := (if_neg h3).symm.trans hf
        refine go_icY (pc := 292) (pc' := 307) d45_292 (XT.ii_ne_t h3) j_292_15 ?_
        refine go_iload (pc := 307) d45_307 rfl (go_iconst (pc := 309) d45_309 ci_5 ?_)
        by_cases h4 : v13 = (5 : Int32)
        · replace hf := (if_pos h4).symm.trans hf
          refine go_icN (pc := 310) d45_310 (XT.ii_ne_f h4) ?_
          refine go_aloadN (pc := 313) d45_313 rfl (go_iload (pc := 314) d45_314 rfl (go_iload (pc := 316) d45_316 rfl ?_))
          obtain ⟨r318, e7, hf⟩ := Option.bind_eq_some_iff.mp hf
          refine go_virt (pc := 318) (i := 0) (as := [.int v14, .int v15]) (rest := []) (w' := (some q, [(9, r318.2)])) lk_1_51 pd_33 rfl oid_0 rfl rfl rfl rfl rfl rfl ⟨rfl, rfl, rfl, rfl, rfl⟩ d45_318 (c_k_stageDelete v14 v15 t0 _ e7) ?_
          refine go_pop (pc := 321) d45_321 (go_goto (pc := 322) (pc' := 349) d45_322 j_322_27 ?_)
          exact law_349_ok hk55 v1 v4 v5 v8 v10 v11 q r318.2 x2 x6 x7 ([x12, .val (.int v13), .val (.int v14), .val (.int v15), x16] ++ D17) hx2 hx6 (wt1 hx12 (wt1 (Or.inr ⟨_, rfl, rfl⟩) (wt1 (Or.inr ⟨_, rfl, rfl⟩) (wt1 (Or.inr ⟨_, rfl, rfl⟩) (wt1 hx16 hD17))))) (by simp [lD17]) _ hf
        · replace hf := (if_neg h4).symm.trans hf
          refine go_icY (pc := 310) (pc' := 325) d45_310 (XT.ii_ne_t h4) j_310_15 ?_
          refine go_iload (pc := 325) d45_325 rfl (go_bipush (pc := 327) d45_327 cb_6 ?_)
          by_cases h5 : v13 = (6 : Int32)
          · replace hf := (if_pos h5).symm.trans hf
            refine go_icN (pc := 329) d45_329 (XT.ii_ne_f h5) ?_
            refine go_aloadN (pc := 332) d45_332 rfl ?_
            obtain ⟨r333, e6, hf⟩ := Option.bind_eq_some_iff.mp hf
            refine go_virt (pc := 333) (i := 0) (as := []) (rest := []) (w' := (some q, [(9, r333.2)])) lk_1_54 pd_35 rfl oid_0 rfl rfl rfl rfl rfl rfl ⟨rfl, rfl, rfl, rfl, rfl⟩ d45_333 (c_k_commit t0 _ e6) ?_
            refine go_istore (pc := 336) (L' := ([.val (.ref 0), .val (.int v1), x2, .val (.ref 1), .val (.int v4), .val (.int v5), x6, x7, .val (.long v8), .second, .val (.int v10), .val (.int r333.1), x12, .val (.int v13), .val (.int v14), .val (.int v15), x16] ++ D17)) d45_336 (stx rfl (Or.inr ⟨_, rfl, rfl⟩) rfl) (go_iconst (pc := 338) d45_338 ci_3 (go_istore (pc := 339) (L' := ([.val (.ref 0), .val (.int v1), x2, .val (.ref 1), .val (.int v4), .val (.int v5), x6, x7, .val (.long v8), .second, .val (.int (3 : Int32)), .val (.int r333.1), x12, .val (.int v13), .val (.int v14), .val (.int v15), x16] ++ D17)) d45_339 (stx rfl (Or.inr ⟨_, rfl, rfl⟩) rfl) (go_goto (pc := 341) (pc' := 349) d45_341 j_341_8 ?_)))
            exact law_349_ok hk55 v1 v4 v5 v8 (3 : Int32) r333.1 q r333.2 x2 x6 x7 ([x12, .val (.int v13), .val (.int v14), .val (.int v15), x16] ++ D17) hx2 hx6 (wt1 hx12 (wt1 (Or.inr ⟨_, rfl, rfl⟩) (wt1 (Or.inr ⟨_, rfl, rfl⟩) (wt1 (Or.inr ⟨_, rfl, rfl⟩) (wt1 hx16 hD17))))) (by simp [lD17]) _ hf
          · replace hf := (if_neg h5).symm.trans hf
            refine go_icY (pc := 329) (pc' := 344) d45_329 (XT.ii_ne_t h5) j_329_15 ?_
            refine go_aloadN (pc := 344) d45_344 rfl ?_
            refine go_virt (pc := 345) (i := 0) (as := []) (rest := []) (w' := (some q, [(9, (k_clearPending t0).2)])) lk_1_58 pd_36 rfl oid_0 rfl rfl rfl rfl rfl rfl ⟨rfl, rfl, rfl, rfl, rfl⟩ d45_345 (c_k_clearPending t0) ?_
            refine go_pop (pc := 348) d45_348 ?_
            exact law_349_ok hk55 v1 v4 v5 v8 v10 v11 q ((k_clearPending t0).2) x2 x6 x7 ([x12, .val (.int v13), .val (.int v14), .val (.int v15), x16] ++ D17) hx2 hx6 (wt1 hx12 (wt1 (Or.inr ⟨_, rfl, rfl⟩) (wt1 (Or.inr ⟨_, rfl, rfl⟩) (wt1 (Or.inr ⟨_, rfl, rfl⟩) (wt1 hx16 hD17))))) (by simp [lD17]) _ hf
  · replace hf := (if_neg h1).symm.trans hf
    refine go_icN (pc := 248) d45_248 (XT.ii_gt_f h1) ?_
    refine go_aloadN (pc := 251) d45_251 rfl (go_iload (pc := 252) d45_252 rfl (go_iload (pc := 254) d45_254 rfl ?_))
    obtain ⟨r256, e10, hf⟩ := Option.bind_eq_some_iff.mp hf
    refine go_virt (pc := 256) (i := 0) (as := [.int v14, .int v15]) (rest := []) (w' := (some q, [(9, r256.2)])) lk_1_41 pd_20 rfl oid_0 rfl rfl rfl rfl rfl rfl ⟨rfl, rfl, rfl, rfl, rfl⟩ d45_256 (c_k_insertEdge v14 v15 t0 _ e10) ?_
    refine go_istore (pc := 259) (L' := ([.val (.ref 0), .val (.int v1), x2, .val (.ref 1), .val (.int v4), .val (.int v5), x6, x7, .val (.long v8), .second, .val (.int v10), .val (.int r256.1), x12, .val (.int v13), .val (.int v14), .val (.int v15), x16] ++ D17)) d45_259 (stx rfl (Or.inr ⟨_, rfl, rfl⟩) rfl) (go_iconst (pc := 261) d45_261 ci_1 (go_istore (pc := 262) (L' := ([.val (.ref 0), .val (.int v1), x2, .val (.ref 1), .val (.int v4), .val (.int v5), x6, x7, .val (.long v8), .second, .val (.int (1 : Int32)), .val (.int r256.1), x12, .val (.int v13), .val (.int v14), .val (.int v15), x16] ++ D17)) d45_262 (stx rfl (Or.inr ⟨_, rfl, rfl⟩) rfl) (go_goto (pc := 264) (pc' := 349) d45_264 j_264_85 ?_)))
    exact law_349_ok hk55 v1 v4 v5 v8 (1 : Int32) r256.1 q r256.2 x2 x6 x7 ([x12, .val (.int v13), .val (.int v14), .val (.int v15), x16] ++ D17) hx2 hx6 (wt1 hx12 (wt1 (Or.inr ⟨_, rfl, rfl⟩) (wt1 (Or.inr ⟨_, rfl, rfl⟩) (wt1 (Or.inr ⟨_, rfl, rfl⟩) (wt1 hx16 hD17))))) (by simp [lD17]) _ hf
set_option maxRecDepth 65536 in
set_option maxHeartbeats 4000000 in
theorem law_208_ok {k55 : Int32 → Int32 → Int32 → List Int32 → S → Option (Int32 × S)} (hk55 : T_law_55 k55) : ∀ (v1 : Int32) (v4 : Int32) (v5 : Int32) (v6 : Int64) (v8 : Int64) (v10 : Int32) (v11 : Int32) (v13 : Int32) (v14 : Int32) (v15 : Int32) (v16 : Int32) (q : List Int32) (t0 : S) (x2 : Slot) (x12 : Slot) (D17 : List Slot) (hx2 : k1 x2) (hx12 : k1 x12) (hD17 : WT D17) (lD17 : D17.length = 4) (o : Int32 × S), law_208 k55 v1 v4 v5 v6 v8 v10 v11 v13 v14 v15 v16 q t0 = some o → Go PP m45 208 ([.val (.ref 0), .val (.int v1), x2, .val (.ref 1), .val (.int v4), .val (.int v5), .val (.long v6), .second, .val (.long v8), .second, .val (.int v10), .val (.int v11), x12, .val (.int v13), .val (.int v14), .val (.int v15), .val (.int v16)] ++ D17) [] (some q, [(9, t0)]) (some (.int o.1), (some q, [(9, o.2)])) := by
  intro v1 v4 v5 v6 v8 v10 v11 v13 v14 v15 v16 q t0 x2 x12 D17 hx2 hx12 hD17 lD17 o hf
  unfold law_208 at hf
  refine go_lload (pc := 208) d45_208 rfl ?_
  obtain ⟨r210, e1, hf⟩ := Option.bind_eq_some_iff.mp hf
  refine go_stat (pc := 210) (as := [.long v6]) (rest := []) (w' := (some q, [(9, t0)])) lk_1_33 pd_7 rfl rfl ⟨Nat.le_of_ble_eq_true rfl, Nat.le_of_ble_eq_true rfl⟩ ⟨rfl, rfl, rfl⟩ ⟨rfl, rfl, rfl, rfl, rfl⟩ d45_210 (c_h_pop_n1 v6 q t0 _ e1) ?_
  by_cases h2 : 0 < r210
  · replace hf := (if_pos h2).symm.trans hf
    refine go_ifN (pc := 213) d45_213 (XT.i0_le_f h2) ?_
    refine go_lload (pc := 216) d45_216 rfl (go_iload (pc := 218) d45_218 rfl (go_lload (pc := 220) d45_220 rfl ?_))
    obtain ⟨r222, e3, hf⟩ := Option.bind_eq_some_iff.mp hf
    refine go_stat (pc := 222) (as := [.long v6]) (rest := [.int v16, .long v6]) (w' := (some q, [(9, t0)])) lk_1_33 pd_7 rfl rfl ⟨Nat.le_of_ble_eq_true rfl, Nat.le_of_ble_eq_true rfl⟩ ⟨rfl, rfl, rfl⟩ ⟨rfl, rfl, rfl, rfl, rfl⟩ d45_222 (c_h_pop_n1 v6 q t0 _ e3) ?_
    by_cases e4 : r222 = 0
    · exact nomatch ((if_pos e4).symm.trans hf)
    replace hf := (if_neg e4).symm.trans hf
    refine go_irem (pc := 225) d45_225 e4 ?_
    obtain ⟨r226, e5, hf⟩ := Option.bind_eq_some_iff.mp hf
    refine go_stat (pc := 226) (as := [.long v6, .int (v16 % r222)]) (rest := []) (w' := (some q, [(9, t0)])) lk_1_37 pd_8 rfl rfl ⟨Nat.le_of_ble_eq_true rfl, Nat.le_of_ble_eq_true rfl⟩ ⟨rfl, rfl, rfl⟩ ⟨rfl, rfl, rfl, rfl, rfl⟩ d45_226 (c_h_nth_n1 v6 (v16 % r222) q t0 _ e5) ?_
    refine go_istoreT (pc := 229) (L0 := [.val (.ref 0), .val (.int v1), x2, .val (.ref 1), .val (.int v4), .val (.int v5), .val (.long v6), .second, .val (.long v8), .second, .val (.int v10), .val (.int v11), x12, .val (.int v13), .val (.int v14), .val (.int v15), .val (.int v16)]) (L1 := [.val (.ref 0), .val (.int v1), x2, .val (.ref 1), .val (.int v4), .val (.int v5), .val (.long v6), .second, .val (.long v8), .second, .val (.int v10), .val (.int v11), x12, .val (.int v13), .val (.int v14), .val (.int v15), .val (.int v16), .val (.int r226)]) d45_229 rfl rfl hD17 lD17 fun E229 hE229 lE229 => (go_iload (pc := 231) d45_231 rfl (go_bipush (pc := 233) d45_233 cb_8 (go_idiv (pc := 235) d45_235 (by decide) (go_istore (pc := 236) (L' := ([.val (.ref 0), .val (.int v1), x2, .val (.ref 1), .val (.int v4), .val (.int v5), .val (.long v6), .second, .val (.long v8), .second, .val (.int v10), .val (.int v11), x12, .val (.int v13), .val (.int (r226 / (8 : Int32))), .val (.int v15), .val (.int v16), .val (.int r226)] ++ E229)) d45_236 (stx rfl (Or.inr ⟨_, rfl, rfl⟩) rfl) (go_iload (pc := 238) d45_238 rfl (go_bipush (pc := 240) d45_240 cb_8 (go_irem (pc := 242) d45_242 (by decide) ?_)))))))
    refine go_istore (pc := 243) (L' := ([.val (.ref 0), .val (.int v1), x2, .val (.ref 1), .val (.int v4), .val (.int v5), .val (.long v6), .second, .val (.long v8), .second, .val (.int v10), .val (.int v11), x12, .val (.int v13), .val (.int (r226 / (8 : Int32))), .val (.int (r226 % (8 : Int32))), .val (.int v16), .val (.int r226)] ++ E229)) d45_243 (stx rfl (Or.inr ⟨_, rfl, rfl⟩) rfl) ?_
    exact law_245_ok hk55 v1 v4 v5 v8 v10 v11 v13 (r226 / (8 : Int32)) (r226 % (8 : Int32)) q t0 x2 (.val (.long v6)) .second x12 (.val (.int v16)) ([.val (.int r226)] ++ E229) hx2 (Or.inr ⟨_, rfl, rfl⟩) hx12 (Or.inr ⟨_, rfl, rfl⟩) (wt1 (Or.inr ⟨_, rfl, rfl⟩) hE229) (by simp [lE229]) _ hf
  · replace hf := (if_neg h2).symm.trans hf
    refine go_ifY (pc := 213) (pc' := 245) d45_213 (XT.i0_le_t h2) j_213_32 ?_
    exact law_245_ok hk55 v1 v4 v5 v8 v10 v11 v13 v14 v15 q t0 x2 (.val (.long v6)) .second x12 (.val (.int v16)) D17 hx2 (Or.inr ⟨_, rfl, rfl⟩) hx12 (Or.inr ⟨_, rfl, rfl⟩) hD17 lD17 _ hf
set_option maxRecDepth 65536 in
set_option maxHeartbeats 4000000 in
theorem law_121_ok {k55 : Int32 → Int32 → Int32 → List Int32 → S → Option (Int32 × S)} (hk55 : T_law_55 k55) : ∀ (v1 : Int32) (v4 : Int32) (v5 : Int32) (v6 : Int64) (q : List Int32) (t0 : S) (x2 : Slot) (x8 : Slot) (D9 : List Slot) (hx2 : k1 x2) (hx8 : k1 x8) (hD9 : WT D9) (lD9 : D9.length = 12) (o : Int32 × S), law_121 k55 v1 v4 v5 v6 q t0 = some o → Go PP m45 121 ([.val (.ref 0), .val (.int v1), x2, .val (.ref 1), .val (.int v4), .val (.int v5), .val (.long v6), .second, x8] ++ D9) [] (some q, [(9, t0)]) (some (.int o.1), (some q, [(9, o.2)])) := by
  intro v1 v4 v5 v6 q t0 x2 x8 D9 hx2 hx8 hD9 lD9 o hf
  unfold law_121 at hf
  refine go_lload (pc := 121) d45_121 rfl (go_iloadN (pc := 123) d45_123 rfl ?_)
  obtain ⟨r124, e1, hf⟩ := Option.bind_eq_some_iff.mp hf
  refine go_stat (pc := 124) (as := [.long v6, .int v1]) (rest := []) (w' := (some q, [(9, t0)])) lk_1_29 pd_6 rfl rfl ⟨Nat.le_of_ble_eq_true rfl, Nat.le_of_ble_eq_true rfl⟩ ⟨rfl, rfl, rfl⟩ ⟨rfl, rfl, rfl, rfl, rfl⟩ d45_124 (c_h_closure_n1 v6 v1 q t0 _ e1) ?_
  refine go_lstoreT (pc := 127) (n := 11) (L0 := [.val (.ref 0), .val (.int v1), x2, .val (.ref 1), .val (.int v4), .val (.int v5), .val (.long v6), .second]) (L1 := [.val (.ref 0), .val (.int v1), x2, .val (.ref 1), .val (.int v4), .val (.int v5), .val (.long v6), .second, .val (.long r124), .second]) (D := ([x8] ++ D9)) d45_127 rfl rfl (wt1 hx8 hD9) (by simp [lD9]) fun E127 hE127 lE127 => (go_iconst (pc := 129) d45_129 ci_0 (go_istoreT (pc := 130) (L0 := [.val (.ref 0), .val (.int v1), x2, .val (.ref 1), .val (.int v4), .val (.int v5), .val (.long v6), .second, .val (.long r124), .second]) (L1 := [.val (.ref 0), .val (.int v1), x2, .val (.ref 1), .val (.int v4), .val (.int v5), .val (.long v6), .second, .val (.long r124), .second, .val (.int (0 : Int32))]) d45_130 rfl rfl hE127 lE127 fun E130 hE130 lE130 => (go_iconst (pc := 132) d45_132 ci_m1 (go_istoreT (pc := 133) (L0 := [.val (.ref 0), .val (.int v1), x2, .val (.ref 1), .val (.int v4), .val (.int v5), .val (.long v6), .second, .val (.long r124), .second, .val (.int (0 : Int32))]) (L1 := [.val (.ref 0), .val (.int v1), x2, .val (.ref 1), .val (.int v4), .val (.int v5), .val (.long v6), .second, .val (.long r124), .second, .val (.int (0 : Int32)), .val (.int (-1 : Int32))]) d45_133 rfl rfl hE130 lE130 fun E133 hE133 lE133 => (go_iload (pc := 135) d45_135 rfl ?_)))))
  by_cases h2 : 0 < v5
  · replace hf := (if_pos h2).symm.trans hf
    refine go_ifN (pc := 137) d45_137 (XT.i0_le_f h2) ?_
    refine go_aloadN (pc := 140) d45_140 rfl (go_iload (pc := 141) d45_141 rfl (go_iconst (pc := 143) d45_143 ci_1 (go_iadd (pc := 144) d45_144 ?_)))
    obtain ⟨r145, e3, hf⟩ := Option.bind_eq_some_iff.mp hf
    refine go_stat (pc := 145) (as := [.ref 0, .int (v5 + (1 : Int32))]) (rest := []) (w' := (some q, [(9, t0)])) lk_1_15 pd_0 rfl rfl ⟨Nat.le_of_ble_eq_true rfl, Nat.le_of_ble_eq_true rfl⟩ ⟨rfl, rfl, rfl⟩ ⟨rfl, rfl, rfl, rfl, rfl⟩ d45_145 (c_h_cell_n1 (v5 + (1 : Int32)) q t0 _ e3) ?_
    refine go_ldc (pc := 148) (v := (2147483647 : Int32)) d45_148 (List.mem_of_getElem? (i := 4) rfl) (go_iand (pc := 150) d45_150 (go_istoreT (pc := 151) (L0 := [.val (.ref 0), .val (.int v1), x2, .val (.ref 1), .val (.int v4), .val (.int v5), .val (.long v6), .second, .val (.long r124), .second, .val (.int (0 : Int32)), .val (.int (-1 : Int32))]) (L1 := [.val (.ref 0), .val (.int v1), x2, .val (.ref 1), .val (.int v4), .val (.int v5), .val (.long v6), .second, .val (.long r124), .second, .val (.int (0 : Int32)), .val (.int (-1 : Int32)), .val (.int (r145 &&& (2147483647 : Int32)))]) d45_151 rfl rfl hE133 lE133 fun E151 hE151 lE151 => (go_iload (pc := 153) d45_153 rfl (go_bipush (pc := 155) d45_155 cb_7 (go_iand (pc := 157) d45_157 (go_istoreT (pc := 158) (L0 := [.val (.ref 0), .val (.int v1), x2, .val (.ref 1), .val (.int v4), .val (.int v5), .val (.long v6), .second, .val (.long r124), .second, .val (.int (0 : Int32)), .val (.int (-1 : Int32)), .val (.int (r145 &&& (2147483647 : Int32)))]) (L1 := [.val (.ref 0), .val (.int v1), x2, .val (.ref 1), .val (.int v4), .val (.int v5), .val (.long v6), .second, .val (.long r124), .second, .val (.int (0 : Int32)), .val (.int (-1 : Int32)), .val (.int (r145 &&& (2147483647 : Int32))), .val (.int ((r145 &&& (2147483647 : Int32)) &&& (7 : Int32)))]) d45_158 rfl rfl hE151 lE151 fun E158 hE158 lE158 => (go_iload (pc := 160) d45_160 rfl ?_)))))))
    refine go_iconst (pc := 162) d45_162 ci_3 (go_iushr (pc := 163) d45_163 (go_sipush (pc := 164) d45_164 cs_255 (go_iand (pc := 167) d45_167 (go_iloadN (pc := 168) d45_168 rfl ?_))))
    by_cases e4 : v1 = 0
    · exact nomatch ((if_pos e4).symm.trans hf)
    replace hf := (if_neg e4).symm.trans hf
    refine go_irem (pc := 169) d45_169 e4 ?_
    refine go_istoreT (pc := 170) (L0 := [.val (.ref 0), .val (.int v1), x2, .val (.ref 1), .val (.int v4), .val (.int v5), .val (.long v6), .second, .val (.long r124), .second, .val (.int (0 : Int32)), .val (.int (-1 : Int32)), .val (.int (r145 &&& (2147483647 : Int32))), .val (.int ((r145 &&& (2147483647 : Int32)) &&& (7 : Int32)))]) (L1 := [.val (.ref 0), .val (.int v1), x2, .val (.ref 1), .val (.int v4), .val (.int v5), .val (.long v6), .second, .val (.long r124), .second, .val (.int (0 : Int32)), .val (.int (-1 : Int32)), .val (.int (r145 &&& (2147483647 : Int32))), .val (.int ((r145 &&& (2147483647 : Int32)) &&& (7 : Int32))), .val (.int (((XT.ushr (r145 &&& (2147483647 : Int32)) (3 : Int32)) &&& (255 : Int32)) % v1))]) d45_170 rfl rfl hE158 lE158 fun E170 hE170 lE170 => (go_iload (pc := 172) d45_172 rfl (go_bipush (pc := 174) d45_174 cb_11 (go_iushr (pc := 176) d45_176 (go_sipush (pc := 177) d45_177 cs_255 (go_iand (pc := 180) d45_180 (go_iloadN (pc := 181) d45_181 rfl ?_))))))
    by_cases e5 : v1 = 0
    · exact nomatch ((if_pos e5).symm.trans hf)
    replace hf := (if_neg e5).symm.trans hf
    refine go_irem (pc := 182) d45_182 e5 ?_
    refine go_istoreT (pc := 183) (L0 := [.val (.ref 0), .val (.int v1), x2, .val (.ref 1), .val (.int v4), .val (.int v5), .val (.long v6), .second, .val (.long r124), .second, .val (.int (0 : Int32)), .val (.int (-1 : Int32)), .val (.int (r145 &&& (2147483647 : Int32))), .val (.int ((r145 &&& (2147483647 : Int32)) &&& (7 : Int32))), .val (.int (((XT.ushr (r145 &&& (2147483647 : Int32)) (3 : Int32)) &&& (255 : Int32)) % v1))]) (L1 := [.val (.ref 0), .val (.int v1), x2, .val (.ref 1), .val (.int v4), .val (.int v5), .val (.long v6), .second, .val (.long r124), .second, .val (.int (0 : Int32)), .val (.int (-1 : Int32)), .val (.int (r145 &&& (2147483647 : Int32))), .val (.int ((r145 &&& (2147483647 : Int32)) &&& (7 : Int32))), .val (.int (((XT.ushr (r145 &&& (2147483647 : Int32)) (3 : Int32)) &&& (255 : Int32)) % v1)), .val (.int (((XT.ushr (r145 &&& (2147483647 : Int32)) (11 : Int32)) &&& (255 : Int32)) % v1))]) d45_183 rfl rfl hE170 lE170 fun E183 hE183 lE183 => (go_iload (pc := 185) d45_185 rfl (go_bipush (pc := 187) d45_187 cb_19 (go_iushr (pc := 189) d45_189 (go_sipush (pc := 190) d45_190 cs_255 (go_iand (pc := 193) d45_193 (go_istoreT (pc := 194) (L0 := [.val (.ref 0), .val (.int v1), x2, .val (.ref 1), .val (.int v4), .val (.int v5), .val (.long v6), .second, .val (.long r124), .second, .val (.int (0 : Int32)), .val (.int (-1 : Int32)), .val (.int (r145 &&& (2147483647 : Int32))), .val (.int ((r145 &&& (2147483647 : Int32)) &&& (7 : Int32))), .val (.int (((XT.ushr (r145 &&& (2147483647 : Int32)) (3 : Int32)) &&& (255 : Int32)) % v1)), .val (.int (((XT.ushr (r145 &&& (2147483647 : Int32)) (11 : Int32)) &&& (255 : Int32)) % v1))]) (L1 := [.val (.ref 0), .val (.int v1), x2, .val (.ref 1), .val (.int v4), .val (.int v5), .val (.long v6), .second, .val (.long r124), .second, .val (.int (0 : Int32)), .val (.int (-1 : Int32)), .val (.int (r145 &&& (2147483647 : Int32))), .val (.int ((r145 &&& (2147483647 : Int32)) &&& (7 : Int32))), .val (.int (((XT.ushr (r145 &&& (2147483647 : Int32)) (3 : Int32)) &&& (255 : Int32)) % v1)), .val (.int (((XT.ushr (r145 &&& (2147483647 : Int32)) (11 : Int32)) &&& (255 : Int32)) % v1)), .val (.int ((XT.ushr (r145 &&& (2147483647 : Int32)) (19 : Int32)) &&& (255 : Int32)))]) d45_194 rfl rfl hE183 lE183 fun E194 hE194 lE194 => (go_iload (pc := 196) d45_196 rfl ?_)))))))
    refine go_iconst (pc := 198) d45_198 ci_3 ?_
    by_cases h6 : ((r145 &&& (2147483647 : Int32)) &&& (7 : Int32)) = (3 : Int32)
    · replace hf := (if_pos h6).symm.trans hf
      refine go_icY (pc := 199) (pc' := 208) d45_199 (XT.ii_eq_t h6) j_199_9 ?_
      exact law_208_ok hk55 v1 v4 v5 v6 r124 (0 : Int32) (-1 : Int32) ((r145 &&& (2147483647 : Int32)) &&& (7 : Int32)) (((XT.ushr (r145 &&& (2147483647 : Int32)) (3 : Int32)) &&& (255 : Int32)) % v1) (((XT.ushr (r145 &&& (2147483647 : Int32)) (11 : Int32)) &&& (255 : Int32)) % v1) ((XT.ushr (r145 &&& (2147483647 : Int32)) (19 : Int32)) &&& (255 : Int32)) q t0 x2 (.val (.int (r145 &&& (2147483647 : Int32)))) E194 hx2 (Or.inr ⟨_, rfl, rfl⟩) hE194 lE194 _ hf
    · replace hf := (if_neg h6).symm.trans hf
      refine go_icN (pc := 199) d45_199 (XT.ii_eq_f h6) ?_
      refine go_iload (pc := 202) d45_202 rfl (go_iconst (pc := 204) d45_204 ci_5 ?_)
      by_cases h7 : ((r145 &&& (2147483647 : Int32)) &&& (7 : Int32)) = (5 : Int32)
      · replace hf := (if_pos h7).symm.trans hf
        refine go_icN (pc := 205) d45_205 (XT.ii_ne_f h7) ?_
        exact law_208_ok hk55 v1 v4 v5 v6 r124 (0 : Int32) (-1 : Int32) ((r145 &&& (2147483647 : Int32)) &&& (7 : Int32)) (((XT.ushr (r145 &&& (2147483647 : Int32)) (3 : Int32)) &&& (255 : Int32)) % v1) (((XT.ushr (r145 &&& (2147483647 : Int32)) (11 : Int32)) &&& (255 : Int32)) % v1) ((XT.ushr (r145 &&& (2147483647 : Int32)) (19 : Int32)) &&& (255 : Int32)) q t0 x2 (.val (.int (r145 &&& (2147483647 : Int32)))) E194 hx2 (Or.inr ⟨_, rfl, rfl⟩) hE194 lE194 _ hf
      · replace hf := (if_neg h7).symm.trans hf
        refine go_icY (pc := 205) (pc' := 245) d45_205 (XT.ii_ne_t h7) j_205_40 ?_
        exact law_245_ok hk55 v1 v4 v5 r124 (0 : Int32) (-1 : Int32) ((r145 &&& (2147483647 : Int32)) &&& (7 : Int32)) (((XT.ushr (r145 &&& (2147483647 : Int32)) (3 : Int32)) &&& (255 : Int32)) % v1) (((XT.ushr (r145 &&& (2147483647 : Int32)) (11 : Int32)) &&& (255 : Int32)) % v1) q t0 x2 (.val (.long v6)) .second (.val (.int (r145 &&& (2147483647 : Int32)))) (.val (.int ((XT.ushr (r145 &&& (2147483647 : Int32)) (19 : Int32)) &&& (255 : Int32)))) E194 hx2 (Or.inr ⟨_, rfl, rfl⟩) (Or.inr ⟨_, rfl, rfl⟩) (Or.inr ⟨_, rfl, rfl⟩) hE194 lE194 _ hf
  · replace hf := (if_neg h2).symm.trans hf
    refine go_ifY (pc := 137) (pc' := 349) d45_137 (XT.i0_le_t h2) j_137_212 ?_
    exact law_349_ok hk55 v1 v4 v5 r124 (0 : Int32) (-1 : Int32) q t0 x2 (.val (.long v6)) .second E133 hx2 (Or.inr ⟨_, rfl, rfl⟩) hE133 lE133 _ hf
def T_law_68 (k68 : Int32 → Int32 → Int32 → Int64 → Int32 → List Int32 → S → Option (Int32 × S)) : Prop := ∀ (v1 : Int32) (v4 : Int32) (v5 : Int32) (v6 : Int64) (v8 : Int32) (q : List Int32) (t0 : S) (x2 : Slot) (D9 : List Slot) (hx2 : k1 x2) (hD9 : WT D9) (lD9 : D9.length = 12) (o : Int32 × S), k68 v1 v4 v5 v6 v8 q t0 = some o → Go PP m45 68 ([.val (.ref 0), .val (.int v1), x2, .val (.ref 1), .val (.int v4), .val (.int v5), .val (.long v6), .second, .val (.int v8)] ++ D9) [] (some q, [(9, t0)]) (some (.int o.1), (some q, [(9, o.2)]))
set_option maxRecDepth 65536 in
set_option maxHeartbeats 4000000 in
theorem law_77_ok {k55 : Int32 → Int32 → Int32 → List Int32 → S → Option (Int32 × S)} {k68 : Int32 → Int32 → Int32 → Int64 → Int32 → List Int32 → S → Option (Int32 × S)} (hk55 : T_law_55 k55) (hk68 : T_law_68 k68) : ∀ (n : Nat) (v1 : Int32) (v4 : Int32) (v5 : Int32) (v6 : Int64) (v8 : Int32) (v9 : Int32) (q : List Int32) (t0 : S) (x2 : Slot) (D10 : List Slot) (hx2 : k1 x2) (hD10 : WT D10) (lD10 : D10.length = 11) (o : Int32 × S), law_77 k55 k68 n v1 v4 v5 v6 v8 v9 q t0 = some o → Go PP m45 77 ([.val (.ref 0), .val (.int v1), x2, .val (.ref 1), .val (.int v4), .val (.int v5), .val (.long v6), .second, .val (.int v8), .val (.int v9)] ++ D10) [] (some q, [(9, t0)]) (some (.int o.1), (some q, [(9, o.2)])) := by
  intro n
  induction n with
  | zero => intro v1 v4 v5 v6 v8 v9 q t0 x2 D10 hx2 hD10 lD10 o hf; exact nomatch hf
  | succ n ih =>
    intro v1 v4 v5 v6 v8 v9 q t0 x2 D10 hx2 hD10 lD10 o hf
    unfold law_77 at hf
    refine go_iload (pc := 77) d45_77 rfl (go_iloadN (pc := 79) d45_79 rfl ?_)
    by_cases h1 : v9 < v1
    · replace hf := (if_pos h1).symm.trans hf
      refine go_icN (pc := 80) d45_80 (XT.ii_ge_f h1) ?_
      refine go_aloadN (pc := 83) d45_83 rfl (go_iload (pc := 84) d45_84 rfl (go_iload (pc := 86) d45_86 rfl ?_))
      obtain ⟨r88, e2, hf⟩ := Option.bind_eq_some_iff.mp hf
      refine go_virt (pc := 88) (i := 0) (as := [.int v8, .int v9]) (rest := []) (w' := (some q, [(9, t0)])) lk_1_25 pd_4 rfl oid_0 rfl rfl rfl rfl rfl rfl ⟨rfl, rfl, rfl, rfl, rfl⟩ d45_88 (c_k_hasEdge v8 v9 t0 _ e2) ?_
      by_cases h3 : r88 = 0
      · refine go_ifY (pc := 91) (pc' := 109) d45_91 (XT.i0_eq_t h3) j_91_18 ?_
        refine go_iinc (pc := 109) (L' := ([.val (.ref 0), .val (.int v1), x2, .val (.ref 1), .val (.int v4), .val (.int v5), .val (.long v6), .second, .val (.int v8), .val (.int (v9 + (1 : Int32)))] ++ D10)) d45_109 rfl ci_1 (stx rfl (Or.inr ⟨_, rfl, rfl⟩) rfl) (go_goto (pc := 112) (pc' := 77) d45_112 j_112_m35 ?_)
        exact ih v1 v4 v5 v6 v8 (v9 + (1 : Int32)) q t0 x2 D10 hx2 hD10 lD10 _ (by simpa only [if_pos h3] using hf)
      · refine go_ifN (pc := 91) d45_91 (XT.i0_eq_f h3) ?_
        refine go_lload (pc := 94) d45_94 rfl (go_lconst (pc := 96) d45_96 cl_1 (go_iload (pc := 97) d45_97 rfl (go_bipush (pc := 99) d45_99 cb_8 (go_imul (pc := 101) d45_101 (go_iload (pc := 102) d45_102 rfl (go_iadd (pc := 104) d45_104 (go_lshl (pc := 105) d45_105 ?_)))))))
        refine go_lor (pc := 106) d45_106 (go_lstore (pc := 107) (L' := ([.val (.ref 0), .val (.int v1), x2, .val (.ref 1), .val (.int v4), .val (.int v5), .val (.long (v6 ||| ((1 : Int64) <<< (((v8 * (8 : Int32)) + v9).toInt64 &&& 63)))), .second, .val (.int v8), .val (.int v9)] ++ D10)) d45_107 (stx2 rfl rfl (Or.inr ⟨_, rfl, rfl⟩)) (go_iinc (pc := 109) (L' := ([.val (.ref 0), .val (.int v1), x2, .val (.ref 1), .val (.int v4), .val (.int v5), .val (.long (v6 ||| ((1 : Int64) <<< (((v8 * (8 : Int32)) + v9).toInt64 &&& 63)))), .second, .val (.int v8), .val (.int (v9 + (1 : Int32)))] ++ D10)) d45_109 rfl ci_1 (stx rfl (Or.inr ⟨_, rfl, rfl⟩) rfl) (go_goto (pc := 112) (pc' := 77) d45_112 j_112_m35 ?_)))
        exact ih v1 v4 v5 (v6 ||| ((1 : Int64) <<< (((v8 * (8 : Int32)) + v9).toInt64 &&& 63))) v8 (v9 + (1 : Int32)) q t0 x2 D10 hx2 hD10 lD10 _ (by simpa only [if_neg h3] using hf)
    · replace hf := (if_neg h1).symm.trans hf
      refine go_icY (pc := 80) (pc' := 115) d45_80 (XT.ii_ge_t h1) j_80_35 ?_
      refine go_iinc (pc := 115) (L' := ([.val (.ref 0), .val (.int v1), x2, .val (.ref 1), .val (.int v4), .val (.int v5), .val (.long v6), .second, .val (.int (v8 + (1 : Int32))), .val (.int v9)] ++ D10)) d45_115 rfl ci_1 (stx rfl (Or.inr ⟨_, rfl, rfl⟩) rfl) (go_goto (pc := 118) (pc' := 68) d45_118 j_118_m50 ?_)
      exact hk68 v1 v4 v5 v6 (v8 + (1 : Int32)) q t0 x2 ([.val (.int v9)] ++ D10) hx2 (wt1 (Or.inr ⟨_, rfl, rfl⟩) hD10) (by simp [lD10]) _ hf
set_option maxRecDepth 65536 in
set_option maxHeartbeats 4000000 in
theorem law_68_ok {k55 : Int32 → Int32 → Int32 → List Int32 → S → Option (Int32 × S)} (hk55 : T_law_55 k55) : ∀ (n : Nat) (v1 : Int32) (v4 : Int32) (v5 : Int32) (v6 : Int64) (v8 : Int32) (q : List Int32) (t0 : S) (x2 : Slot) (D9 : List Slot) (hx2 : k1 x2) (hD9 : WT D9) (lD9 : D9.length = 12) (o : Int32 × S), law_68 k55 n v1 v4 v5 v6 v8 q t0 = some o → Go PP m45 68 ([.val (.ref 0), .val (.int v1), x2, .val (.ref 1), .val (.int v4), .val (.int v5), .val (.long v6), .second, .val (.int v8)] ++ D9) [] (some q, [(9, t0)]) (some (.int o.1), (some q, [(9, o.2)])) := by
  intro n
  induction n with
  | zero => intro v1 v4 v5 v6 v8 q t0 x2 D9 hx2 hD9 lD9 o hf; exact nomatch hf
  | succ n ih =>
    intro v1 v4 v5 v6 v8 q t0 x2 D9 hx2 hD9 lD9 o hf
    unfold law_68 at hf
    refine go_iload (pc := 68) d45_68 rfl (go_iloadN (pc := 70) d45_70 rfl ?_)
    by_cases h1 : v8 < v1
    · replace hf := (if_pos h1).symm.trans hf
      refine go_icN (pc := 71) d45_71 (XT.ii_ge_f h1) ?_
      refine go_iconst (pc := 74) d45_74 ci_0 (go_istoreT (pc := 75) (L0 := [.val (.ref 0), .val (.int v1), x2, .val (.ref 1), .val (.int v4), .val (.int v5), .val (.long v6), .second, .val (.int v8)]) (L1 := [.val (.ref 0), .val (.int v1), x2, .val (.ref 1), .val (.int v4), .val (.int v5), .val (.long v6), .second, .val (.int v8), .val (.int (0 : Int32))]) d45_75 rfl rfl hD9 lD9 fun E75 hE75 lE75 => ?_)
      exact law_77_ok hk55 ih BIG v1 v4 v5 v6 v8 (0 : Int32) q t0 x2 E75 hx2 hE75 lE75 _ hf
    · replace hf := (if_neg h1).symm.trans hf
      refine go_icY (pc := 71) (pc' := 121) d45_71 (XT.ii_ge_t h1) j_71_50 ?_
      exact law_121_ok hk55 v1 v4 v5 v6 q t0 x2 (.val (.int v8)) D9 hx2 (Or.inr ⟨_, rfl, rfl⟩) hD9 lD9 _ hf
set_option maxRecDepth 65536 in
set_option maxHeartbeats 4000000 in
theorem law_55_ok  : ∀ (n : Nat) (v1 : Int32) (v4 : Int32) (v5 : Int32) (q : List Int32) (t0 : S) (x2 : Slot) (x6 : Slot) (x7 : Slot) (x8 : Slot) (x9 : Slot) (x10 : Slot) (x11 : Slot) (x12 : Slot) (x13 : Slot) (x14 : Slot) (x15 : Slot) (x16 : Slot) (x17 : Slot) (x18 : Slot) (D19 : List Slot) (hx2 : k1 x2) (hx6 : k2 x6 x7) (hx8 : k2 x8 x9) (hx10 : k1 x10) (hx11 : k1 x11) (hx12 : k2 x12 x13) (hx14 : k2 x14 x15) (hx16 : k1 x16) (hx17 : k1 x17) (hx18 : k1 x18) (hD19 : WT D19) (lD19 : D19.length = 2) (o : Int32 × S), law_55 n v1 v4 v5 q t0 = some o → Go PP m45 55 ([.val (.ref 0), .val (.int v1), x2, .val (.ref 1), .val (.int v4), .val (.int v5), x6, x7, x8, x9, x10, x11, x12, x13, x14, x15, x16, x17, x18] ++ D19) [] (some q, [(9, t0)]) (some (.int o.1), (some q, [(9, o.2)])) := by
  intro n
  induction n with
  | zero => intro v1 v4 v5 q t0 x2 x6 x7 x8 x9 x10 x11 x12 x13 x14 x15 x16 x17 x18 D19 hx2 hx6 hx8 hx10 hx11 hx12 hx14 hx16 hx17 hx18 hD19 lD19 o hf; exact nomatch hf
  | succ n ih =>
    intro v1 v4 v5 q t0 x2 x6 x7 x8 x9 x10 x11 x12 x13 x14 x15 x16 x17 x18 D19 hx2 hx6 hx8 hx10 hx11 hx12 hx14 hx16 hx17 hx18 hD19 lD19 o hf
    unfold law_55 at hf
    refine go_iload (pc := 55) d45_55 rfl (go_iload (pc := 57) d45_57 rfl ?_)
    by_cases h1 : v4 < v5
    · replace hf := (if_pos h1).symm.trans hf
      refine go_icY (pc := 59) (pc' := 714) d45_59 (XT.ii_gt_t h1) j_59_655 ?_
      refine go_iconst (pc := 714) d45_714 ci_1 ?_
      cases hf
      exact go_zret (pc := 715) rfl d45_715 (show (1 : Int32) = nar .boolean (1 : Int32) by decide)
    · replace hf := (if_neg h1).symm.trans hf
      refine go_icN (pc := 59) d45_59 (XT.ii_gt_f h1) ?_
      refine go_lconst (pc := 62) d45_62 cl_0 (go_lstore (pc := 63) (L' := ([.val (.ref 0), .val (.int v1), x2, .val (.ref 1), .val (.int v4), .val (.int v5), .val (.long (0 : Int64)), .second, x8, x9, x10, x11, x12, x13, x14, x15, x16, x17, x18] ++ D19)) d45_63 (stx2 rfl rfl hx6) (go_iconst (pc := 65) d45_65 ci_0 (go_istoreT (pc := 66) (n := 12) (L0 := [.val (.ref 0), .val (.int v1), x2, .val (.ref 1), .val (.int v4), .val (.int v5), .val (.long (0 : Int64)), .second]) (L1 := [.val (.ref 0), .val (.int v1), x2, .val (.ref 1), .val (.int v4), .val (.int v5), .val (.long (0 : Int64)), .second, .val (.int (0 : Int32))]) (D := ([x8, x9, x10, x11, x12, x13, x14, x15, x16, x17, x18] ++ D19)) d45_66 rfl rfl (wt12 hx8 (wt1 hx10 (wt1 hx11 (wt12 hx12 (wt12 hx14 (wt1 hx16 (wt1 hx17 (wt1 hx18 hD19)))))))) (by simp [lD19]) fun E66 hE66 lE66 => ?_)))
      exact law_68_ok ih BIG v1 v4 v5 (0 : Int64) (0 : Int32) q t0 x2 E66 hx2 hE66 lE66 _ hf
set_option maxRecDepth 65536 in
set_option maxHeartbeats 4000000 in
theorem law_52_ok  : ∀ (v1 : Int32) (v4 : Int32) (q : List Int32) (t0 : S) (x2 : Slot) (hx2 : k1 x2) (o : Int32 × S), law_52 v1 v4 q t0 = some o → Go PP m45 52 [.val (.ref 0), .val (.int v1), x2, .val (.ref 1), .val (.int v4), .unset, .unset, .unset, .unset, .unset, .unset, .unset, .unset, .unset, .unset, .unset, .unset, .unset, .unset, .unset, .unset] [] (some q, [(9, t0)]) (some (.int o.1), (some q, [(9, o.2)])) := by
  intro v1 v4 q t0 x2 hx2 o hf
  unfold law_52 at hf
  refine go_iconst (pc := 52) d45_52 ci_0 (go_istore (pc := 53) (L' := [.val (.ref 0), .val (.int v1), x2, .val (.ref 1), .val (.int v4), .val (.int (0 : Int32)), .unset, .unset, .unset, .unset, .unset, .unset, .unset, .unset, .unset, .unset, .unset, .unset, .unset, .unset, .unset]) d45_53 rfl ?_)
  exact law_55_ok BIG v1 v4 (0 : Int32) q t0 x2 .unset .unset .unset .unset .unset .unset .unset .unset .unset .unset .unset .unset .unset [.unset, .unset] hx2 (Or.inl ⟨rfl, rfl⟩) (Or.inl ⟨rfl, rfl⟩) (Or.inl rfl) (Or.inl rfl) (Or.inl ⟨rfl, rfl⟩) (Or.inl ⟨rfl, rfl⟩) (Or.inl rfl) (Or.inl rfl) (Or.inl rfl) (wt1 (Or.inl rfl) (wt1 (Or.inl rfl) wt0)) rfl _ hf
set_option maxRecDepth 65536 in
set_option maxHeartbeats 4000000 in
theorem law_ok  : ∀  (q : List Int32)  (o : Int32 × S), law q = some o → Go PP m45 0 [.val (.ref 0), .unset, .unset, .unset, .unset, .unset, .unset, .unset, .unset, .unset, .unset, .unset, .unset, .unset, .unset, .unset, .unset, .unset, .unset, .unset, .unset] [] (some q, []) (some (.int o.1), (some q, [(9, o.2)])) := by
  intro q o hf
  unfold law at hf
  refine go_iconst (pc := 0) d45_0 ci_2 (go_aloadN (pc := 1) d45_1 rfl (go_iconst (pc := 2) d45_2 ci_0 ?_))
  obtain ⟨r3, e1, hf⟩ := Option.bind_eq_some_iff.mp hf
  refine go_stat (pc := 3) (as := [.ref 0, .int (0 : Int32)]) (rest := [.int (2 : Int32)]) (w' := (some q, [])) lk_1_15 pd_0 rfl rfl ⟨Nat.le_of_ble_eq_true rfl, Nat.le_of_ble_eq_true rfl⟩ ⟨rfl, rfl, rfl⟩ ⟨rfl, rfl, rfl, rfl, rfl⟩ d45_3 (c_h_cell_n0 (0 : Int32) q _ e1) ?_
  refine go_ldc (pc := 6) (v := (2147483647 : Int32)) d45_6 (List.mem_of_getElem? (i := 4) rfl) (go_iand (pc := 8) d45_8 (go_bipush (pc := 9) d45_9 cb_7 (go_irem (pc := 11) d45_11 (by decide) (go_iadd (pc := 12) d45_12 (go_istoreN (pc := 13) (L' := [.val (.ref 0), .val (.int ((2 : Int32) + ((r3 &&& (2147483647 : Int32)) % (7 : Int32)))), .unset, .unset, .unset, .unset, .unset, .unset, .unset, .unset, .unset, .unset, .unset, .unset, .unset, .unset, .unset, .unset, .unset, .unset, .unset]) d45_13 rfl (go_iconst (pc := 14) d45_14 ci_1 (go_aloadN (pc := 15) d45_15 rfl ?_)))))))
  refine go_iconst (pc := 16) d45_16 ci_1 ?_
  obtain ⟨r17, e2, hf⟩ := Option.bind_eq_some_iff.mp hf
  refine go_stat (pc := 17) (as := [.ref 0, .int (1 : Int32)]) (rest := [.int (1 : Int32)]) (w' := (some q, [])) lk_1_15 pd_0 rfl rfl ⟨Nat.le_of_ble_eq_true rfl, Nat.le_of_ble_eq_true rfl⟩ ⟨rfl, rfl, rfl⟩ ⟨rfl, rfl, rfl, rfl, rfl⟩ d45_17 (c_h_cell_n0 (1 : Int32) q _ e2) ?_
  refine go_ldc (pc := 20) (v := (2147483647 : Int32)) d45_20 (List.mem_of_getElem? (i := 4) rfl) (go_iand (pc := 22) d45_22 (go_bipush (pc := 23) d45_23 cb_24 (go_irem (pc := 25) d45_25 (by decide) (go_iadd (pc := 26) d45_26 (go_istoreN (pc := 27) (L' := [.val (.ref 0), .val (.int ((2 : Int32) + ((r3 &&& (2147483647 : Int32)) % (7 : Int32)))), .val (.int ((1 : Int32) + ((r17 &&& (2147483647 : Int32)) % (24 : Int32)))), .unset, .unset, .unset, .unset, .unset, .unset, .unset, .unset, .unset, .unset, .unset, .unset, .unset, .unset, .unset, .unset, .unset, .unset]) d45_27 rfl ?_)))))
  refine go_new (pc := 28) (n := 0) (w' := (some q, [(0, s0)])) (List.mem_of_getElem? (i := 5) rfl) rfl rfl rfl rfl rfl rfl rfl d45_28 oid_0 ?_
  refine go_dupR (pc := 31) d45_31 (go_iloadN (pc := 32) d45_32 rfl (go_iloadN (pc := 33) d45_33 rfl ?_))
  obtain ⟨r34, e4, hf⟩ := Option.bind_eq_some_iff.mp hf
  refine go_init (pc := 34) (i := 0) (as := [.int ((2 : Int32) + ((r3 &&& (2147483647 : Int32)) % (7 : Int32))), .int ((1 : Int32) + ((r17 &&& (2147483647 : Int32)) % (24 : Int32)))]) (rest := [.ref 1]) (w' := (some q, [(9, r34)])) lk_1_22 pd_1 rfl oid_0 rfl rfl rfl rfl rfl rfl rfl rfl rfl ⟨rfl, rfl, rfl⟩ ⟨rfl, rfl⟩ d45_34 (c_k_init ((2 : Int32) + ((r3 &&& (2147483647 : Int32)) % (7 : Int32))) ((1 : Int32) + ((r17 &&& (2147483647 : Int32)) % (24 : Int32))) _ e4) ?_
  refine go_astoreN (pc := 37) (L' := [.val (.ref 0), .val (.int ((2 : Int32) + ((r3 &&& (2147483647 : Int32)) % (7 : Int32)))), .val (.int ((1 : Int32) + ((r17 &&& (2147483647 : Int32)) % (24 : Int32)))), .val (.ref 1), .unset, .unset, .unset, .unset, .unset, .unset, .unset, .unset, .unset, .unset, .unset, .unset, .unset, .unset, .unset, .unset, .unset]) d45_37 rfl (go_aloadN (pc := 38) d45_38 rfl (go_slen (pc := 39) d45_39 (go_iconst (pc := 40) d45_40 ci_2 (go_isub (pc := 41) d45_41 (go_istore (pc := 42) (L' := [.val (.ref 0), .val (.int ((2 : Int32) + ((r3 &&& (2147483647 : Int32)) % (7 : Int32)))), .val (.int ((1 : Int32) + ((r17 &&& (2147483647 : Int32)) % (24 : Int32)))), .val (.ref 1), .val (.int (q.length.toInt32 - (2 : Int32))), .unset, .unset, .unset, .unset, .unset, .unset, .unset, .unset, .unset, .unset, .unset, .unset, .unset, .unset, .unset, .unset]) d45_42 rfl (go_iload (pc := 44) d45_44 rfl ?_))))))
  by_cases h5 : (q.length.toInt32 - (2 : Int32)) < 0
  · refine go_ifN (pc := 46) d45_46 (XT.i0_ge_f h5) ?_
    refine go_iconst (pc := 49) d45_49 ci_0 (go_istore (pc := 50) (L' := [.val (.ref 0), .val (.int ((2 : Int32) + ((r3 &&& (2147483647 : Int32)) % (7 : Int32)))), .val (.int ((1 : Int32) + ((r17 &&& (2147483647 : Int32)) % (24 : Int32)))), .val (.ref 1), .val (.int (0 : Int32)), .unset, .unset, .unset, .unset, .unset, .unset, .unset, .unset, .unset, .unset, .unset, .unset, .unset, .unset, .unset, .unset]) d45_50 rfl ?_)
    exact law_52_ok ((2 : Int32) + ((r3 &&& (2147483647 : Int32)) % (7 : Int32))) (0 : Int32) q r34 (.val (.int ((1 : Int32) + ((r17 &&& (2147483647 : Int32)) % (24 : Int32))))) (Or.inr ⟨_, rfl, rfl⟩) _ (by simpa only [if_pos h5] using hf)
  · refine go_ifY (pc := 46) (pc' := 52) d45_46 (XT.i0_ge_t h5) j_46_6 ?_
    exact law_52_ok ((2 : Int32) + ((r3 &&& (2147483647 : Int32)) % (7 : Int32))) (q.length.toInt32 - (2 : Int32)) q r34 (.val (.int ((1 : Int32) + ((r17 &&& (2147483647 : Int32)) % (24 : Int32))))) (Or.inr ⟨_, rfl, rfl⟩) _ (by simpa only [if_neg h5] using hf)
/-! ### DredViewKeeper: what its methods do, in plain terms -/
def G (l : List Int32) (x : Nat) : Int32 := l.getD x 0
def tb (l : List Int32) (x y : Nat) : Bool := bt (G l x) y
theorem ix_G {l : List Int32} {x : Nat} (h : x < l.length) (h2 : l.length ≤ 64) : ix l (Int32.ofNat x) = some (G l x) := by
  rw [ix_ofNat _ (by omega)]; simp [G, h]
theorem G_set {l : List Int32} {x : Nat} (h : x < l.length) (v : Int32) (y : Nat) : G (l.set x v) y = if y = x then v else G l y := by
  unfold G
  simp only [List.getD_eq_getElem?_getD]
  by_cases q : y = x
  · subst q; simp [h]
  · rw [List.getElem?_set_ne (Ne.symm q), if_neg q]
theorem G_rep (n x : Nat) : G (rep n 0) x = 0 := by
  unfold G
  rw [List.getD_eq_getElem?_getD, rep_get]
  by_cases q : x < n <;> simp [q]
theorem G_ext {l m : List Int32} (hl : l.length = m.length) (h : ∀ x, x < l.length → G l x = G m x) : l = m := by
  apply List.ext_getElem hl
  intro i h1 h2
  have := h i h1
  simpa [G, h1, h2] using this
def Wf (N : Nat) (s : S) : Prop := gI s 2 = Int32.ofNat N ∧ N ≤ 32 ∧ (gA s 0).length = 32 ∧ (gA s 1).length = 32 ∧ (gA s 2).length = 32 ∧ (gA s 3).length = 32 ∧ (gA s 4).length = 32 ∧ (gA s 5).length = 32
theorem Wf.sA {N : Nat} {s : S} {f : Nat} {l : List Int32} (h : Wf N s) (hl : f ≤ 5 → l.length = 32) : Wf N (Jvm.AM.sA s f l) := by
  obtain ⟨a, b, c0, c1, c2, c3, c4, c5⟩ := h
  refine ⟨by rw [gI_sA]; exact a, b, ?_, ?_, ?_, ?_, ?_, ?_⟩ <;> (rw [gA_sA]; split <;> first | assumption | (rename_i e; exact hl (by omega)))
theorem Wf.sI {N : Nat} {s : S} {f : Nat} {v : Int32} (h : Wf N s) (hf : f ≠ 2) : Wf N (Jvm.AM.sI s f v) := by
  obtain ⟨a, b, c⟩ := h
  refine ⟨by rw [gI_sI, if_neg (Ne.symm hf)]; exact a, b, ?_⟩
  simpa only [gA_sI] using c
theorem lt_n {N k : Nat} {s : S} (h : Wf N s) (hk : k < 64) : Int32.ofNat k < gI s 2 ↔ k < N := by
  rw [h.1]; exact ofNat_lt (by omega) (by have := h.2.1; omega)
theorem valid {N : Nat} {s : S} (h : Wf N s) (v : Int32) : k_isValid v s = if v < 0 then 0 else if v < Int32.ofNat N then 1 else 0 := by
  unfold k_isValid; rw [h.1]
theorem snap_ok {N : Nat} {s : S} (h : Wf N s) : ∃ s', k_takeSnapshot s = some s' ∧ Fx [] [] [2] [] s s' ∧ gA s' 2 = gA s 1 ∧ Wf N s' := by
  obtain ⟨s', e, W, F, g⟩ := run_for k_takeSnapshot_2 some 32 (fun k u => Wf N u ∧ Fx [] [] [2] [] s u ∧ ∀ x, x < k → G (gA u 2) x = G (gA s 1) x) (by
    intro n k u hk ⟨W, F, g⟩
    obtain ⟨a, b, c0, c1, c2, c3, c4, c5⟩ := id W
    refine ⟨Jvm.AM.sA u 2 ((gA u 2).set k (G (gA u 1) k)), ?_, W.sA (by simp [c2]), F.sA (by simp), ?_⟩
    · rw [k_takeSnapshot_2, if_pos ((lt_lit (by omega)).mpr hk), ix_G (by omega) (by omega), Option.bind_some, st_ofNat _ _ (by omega) (by omega), Option.bind_some, ofNat_succ]
    · intro x hx
      rw [gA_sA, if_pos rfl, G_set (by omega)]
      by_cases q : x = k
      · subst q; rw [if_pos rfl, F.2.2.1 1 (by simp)]
      · rw [if_neg q]; exact g x (by omega)) (fun n s _ => by rw [k_takeSnapshot_2, if_neg (by decide)]) BIG s (by decide) ⟨h, Fx.refl .., fun x hx => absurd hx (Nat.not_lt_zero _)⟩
  refine ⟨s', e, F, G_ext ?_ fun x hx => ?_, W⟩
  · rw [W.2.2.2.2.1, h.2.2.2.1]
  · rw [W.2.2.2.2.1] at hx; exact g x hx
theorem clearDelta_ok {N : Nat} {s : S} (h : Wf N s) : ∃ s', k_clearDelta s = some s' ∧ Fx [] [] [3, 4] [] s s' ∧ gA s' 3 = rep 32 0 ∧ gA s' 4 = rep 32 0 ∧ Wf N s' := by
  obtain ⟨s', e, W, F, g, g'⟩ := run_for k_clearDelta_2 some 32 (fun k u => Wf N u ∧ Fx [] [] [3, 4] [] s u ∧ Upto (gA u 3) k 0 ∧ Upto (gA u 4) k 0) (by
    intro n k u hk ⟨W, F, g, g'⟩
    obtain ⟨a, b, c0, c1, c2, c3, c4, c5⟩ := id W
    refine ⟨Jvm.AM.sA (Jvm.AM.sA u 3 ((gA u 3).set k 0)) 4 ((gA u 4).set k 0), ?_, (W.sA (by simp [c3])).sA (by simp [c4]), (F.sA (by simp)).sA (by simp), ?_, ?_⟩
    · rw [k_clearDelta_2, if_pos ((lt_lit (by omega)).mpr hk), st_ofNat _ _ (by omega) (by omega), Option.bind_some, st_ofNat _ _ (by omega) (by omega), Option.bind_some, ofNat_succ]
    · simp [gA_sA]; exact g.set (by omega)
    · simp [gA_sA]; exact g'.set (by omega)) (fun n s _ => by rw [k_clearDelta_2, if_neg (by decide)]) BIG s (by decide) ⟨h, Fx.refl .., Upto.zero _ _, Upto.zero _ _⟩
  exact ⟨s', e, F, g.all W.2.2.2.2.2.1, g'.all W.2.2.2.2.2.2.1, W⟩
theorem clearDoomed_ok {N : Nat} {s : S} (h : Wf N s) : ∃ s', k_clearDoomed s = some s' ∧ Fx [] [] [5] [] s s' ∧ gA s' 5 = rep 32 0 ∧ Wf N s' := by
  obtain ⟨s', e, W, F, g⟩ := run_for k_clearDoomed_2 some 32 (fun k u => Wf N u ∧ Fx [] [] [5] [] s u ∧ Upto (gA u 5) k 0) (by
    intro n k u hk ⟨W, F, g⟩
    obtain ⟨a, b, c0, c1, c2, c3, c4, c5⟩ := id W
    refine ⟨Jvm.AM.sA u 5 ((gA u 5).set k 0), ?_, W.sA (by simp [c5]), F.sA (by simp), ?_⟩
    · rw [k_clearDoomed_2, if_pos ((lt_lit (by omega)).mpr hk), st_ofNat _ _ (by omega) (by omega), Option.bind_some, ofNat_succ]
    · simp [gA_sA]; exact g.set (by omega)) (fun n s _ => by rw [k_clearDoomed_2, if_neg (by decide)]) BIG s (by decide) ⟨h, Fx.refl .., Upto.zero _ _⟩
  exact ⟨s', e, F, g.all W.2.2.2.2.2.2.2, W⟩
theorem shift_ok {N : Nat} {s : S} (h : Wf N s) : ∃ s', k_shiftDelta s = some s' ∧ Fx [] [] [3, 4] [] s s' ∧ gA s' 3 = gA s 4 ∧ Wf N s' ∧ gA s' 4 = rep 32 0 := by
  obtain ⟨s', e, W, F, g, g', g2⟩ := run_for k_shiftDelta_2 some 32 (fun k u => Wf N u ∧ Fx [] [] [3, 4] [] s u ∧ (∀ x, x < k → G (gA u 3) x = G (gA s 4) x) ∧ (∀ x, k ≤ x → G (gA u 4) x = G (gA s 4) x) ∧ Upto (gA u 4) k 0) (by
    intro n k u hk ⟨W, F, g, g', g2⟩
    obtain ⟨a, b, c0, c1, c2, c3, c4, c5⟩ := id W
    refine ⟨Jvm.AM.sA (Jvm.AM.sA u 3 ((gA u 3).set k (G (gA u 4) k))) 4 ((gA u 4).set k 0), ?_, (W.sA (by simp [c3])).sA (by simp [c4]), (F.sA (by simp)).sA (by simp), ?_, ?_, ?_⟩
    · rw [k_shiftDelta_2, if_pos ((lt_lit (by omega)).mpr hk), ix_G (by omega) (by omega), Option.bind_some, st_ofNat _ _ (by omega) (by omega), Option.bind_some, st_ofNat _ _ (by omega) (by omega), Option.bind_some, ofNat_succ]
    · intro x hx
      simp [gA_sA]
      rw [G_set (by omega)]
      by_cases q : x = k
      · subst q; rw [if_pos rfl]; exact g' x (Nat.le_refl _)
      · rw [if_neg q]; exact g x (by omega)
    · intro x hx
      simp [gA_sA]
      rw [G_set (by omega), if_neg (by omega)]; exact g' x (by omega)
    · simp [gA_sA]; exact g2.set (by omega)) (fun n s _ => by rw [k_shiftDelta_2, if_neg (by decide)]) BIG s (by decide) ⟨h, Fx.refl .., fun x hx => absurd hx (Nat.not_lt_zero _), fun _ _ => rfl, Upto.zero _ _⟩
  refine ⟨s', e, F, G_ext ?_ fun x hx => ?_, W, g2.all W.2.2.2.2.2.2.1⟩
  · rw [W.2.2.2.2.2.1, h.2.2.2.2.2.2.1]
  · rw [W.2.2.2.2.2.1] at hx; exact g x hx
/-- 'for k in 0 .. N', with one more variable -/
theorem run_for2 {B C : Type} (L : Nat → C → Int32 → S → B) (F : C → S → B) (N : Nat) (I : Nat → C → S → Prop) (h : ∀ n k c s, k < N → I k c s → ∃ c' s', L (n + 1) c (Int32.ofNat k) s = L n c' (Int32.ofNat (k + 1)) s' ∧ I (k + 1) c' s') (h0 : ∀ n c s, I N c s → L (n + 1) c (Int32.ofNat N) s = F c s) (n : Nat) (c : C) (s : S) (hn : N < n) (i : I 0 c s) :
    ∃ c' s', L n c (Int32.ofNat 0) s = F c' s' ∧ I N c' s' := by
  obtain ⟨a, e, k, hk, ea, ia⟩ := run_loop (fun n (a : C × Int32 × S) => L n a.1 a.2.1 a.2.2) (fun a => F a.1 a.2.2) (fun m a => ∃ k, k + m = N ∧ a.2.1 = Int32.ofNat k ∧ I k a.1 a.2.2)
    (fun n m a ⟨k, h1, h2, h3⟩ => by
      obtain ⟨c', s', e, i'⟩ := h n k a.1 a.2.2 (by omega) h3
      exact ⟨(c', Int32.ofNat (k + 1), s'), by show L (n + 1) a.1 a.2.1 a.2.2 = _; rw [h2]; exact e, k + 1, by omega, rfl, i'⟩)
    (fun n a ⟨k, h1, h2, h3⟩ => by
      have : k = N := by omega
      subst this
      show L (n + 1) a.1 a.2.1 a.2.2 = _; rw [h2]; exact h0 n a.1 a.2.2 h3) N n (c, Int32.ofNat 0, s) hn ⟨0, by omega, rfl, i⟩
  have : k = N := by omega
  subst this
  exact ⟨a.1, a.2.2, e, ia⟩
theorem merge_ok {N : Nat} {s : S} (h : Wf N s) : ∃ r s', k_mergeDeltaIntoReach s = some (r, s') ∧ Fx [] [] [1] [] s s' ∧ Wf N s' ∧ (∀ x, G (gA s' 1) x = if x < N then G (gA s 1) x ||| G (gA s 3) x else G (gA s 1) x) ∧ (r = 0 ↔ ∀ x, x < N → G (gA s 3) x = 0) := by
  obtain ⟨c, s', e, W, F, g, b, r⟩ := run_for2 k_mergeDeltaIntoReach_4 (fun c u => some (nar .boolean c, u)) N (fun k c u => Wf N u ∧ Fx [] [] [1] [] s u ∧ (∀ x, G (gA u 1) x = if x < k then G (gA s 1) x ||| G (gA s 3) x else G (gA s 1) x) ∧ (c = 0 ∨ c = 1) ∧ (c = 0 ↔ ∀ x, x < k → G (gA s 3) x = 0)) (by
    intro n k c u hk ⟨W, F, g, b, r⟩
    obtain ⟨a, bb, c0, c1, c2, c3, c4, c5⟩ := id W
    have e3 : gA u 3 = gA s 3 := F.2.2.1 3 (by simp)
    by_cases q : G (gA s 3) k = 0
    · refine ⟨c, u, ?_, W, F, ?_, b, ?_⟩
      · rw [k_mergeDeltaIntoReach_4, if_pos ((lt_n W (by omega)).mpr hk), ix_G (by omega) (by omega), Option.bind_some, e3, if_pos q, ofNat_succ]
      · intro x
        rw [g x]
        by_cases q1 : x < k
        · rw [if_pos q1, if_pos (by omega)]
        · rw [if_neg q1]
          by_cases q2 : x = k
          · subst q2; rw [if_pos (by omega), q]; simp
          · rw [if_neg (by omega)]
      · rw [r]
        constructor
        · intro hh x hx
          by_cases q2 : x = k
          · subst q2; exact q
          · exact hh x (by omega)
        · intro hh x hx; exact hh x (by omega)
    · refine ⟨1, Jvm.AM.sA u 1 ((gA u 1).set k (G (gA u 1) k ||| G (gA u 3) k)), ?_, W.sA (by simp [c1]), F.sA (by simp), ?_, Or.inr rfl, ?_⟩
      · rw [k_mergeDeltaIntoReach_4, if_pos ((lt_n W (by omega)).mpr hk), ix_G (by omega) (by omega), Option.bind_some, if_neg (by rw [e3]; exact q), ix_G (by omega) (by omega), Option.bind_some, st_ofNat _ _ (by omega) (by omega), Option.bind_some, ofNat_succ]
      · intro x
        rw [gA_sA, if_pos rfl, G_set (by omega)]
        by_cases q2 : x = k
        · subst q2; rw [if_pos rfl, if_pos (by omega), g x, if_neg (by omega), e3]
        · rw [if_neg q2, g x]
          by_cases q1 : x < k
          · rw [if_pos q1, if_pos (by omega)]
          · rw [if_neg q1, if_neg (by omega)]
      · constructor
        · intro hh; exact absurd hh (by decide)
        · intro hh; exact absurd (hh k (by omega)) q) (by
    intro n c u ⟨W, F, g, b, r⟩
    rw [k_mergeDeltaIntoReach_4, if_neg (fun hh => absurd ((lt_n W (by have := h.2.1; omega)).mp hh) (by omega))]) BIG 0 s (by have := h.2.1; unfold BIG; omega) ⟨h, Fx.refl .., fun x => by rw [if_neg (by omega)], Or.inl rfl, by simp⟩
  refine ⟨_, s', e, F, W, g, ?_⟩
  rcases b with rfl | rfl
  · rw [← r]; exact ⟨fun _ => rfl, fun _ => by decide⟩
  · rw [← r]; exact ⟨fun hh => absurd hh (by decide), fun hh => absurd hh (by decide)⟩
theorem gatherDelta_ok {N : Nat} {s : S} (h : Wf N s) {x : Nat} (hx : x < 32) : ∃ w, k_gatherDelta (Int32.ofNat x) s = some w ∧ ∀ z, bt w z = true ↔ ∃ y, y < N ∧ tb (gA s 0) x y = true ∧ tb (gA s 3) y z = true := by
  obtain ⟨a, b, c0, c1, c2, c3, c4, c5⟩ := id h
  obtain ⟨w, u, e, rfl, g⟩ := run_for2 (fun n c k u => k_gatherDelta_12 n (G (gA s 0) x) c k u) (fun c u => some c) N (fun k c u => u = s ∧ ∀ z, bt c z = true ↔ ∃ y, y < k ∧ tb (gA s 0) x y = true ∧ tb (gA s 3) y z = true) (by
    intro n k c u hk ⟨hu, g⟩
    subst hu
    by_cases q : bt (G (gA u 0) x) k = false
    · refine ⟨c, u, ?_, rfl, ?_⟩
      · show k_gatherDelta_12 (n + 1) _ _ _ _ = k_gatherDelta_12 n _ _ _ _
        rw [k_gatherDelta_12, if_pos ((lt_n h (by omega)).mpr hk), if_pos ((test_bit _ (by omega)).mpr q), ofNat_succ]
      · intro z
        rw [g z]
        constructor
        · rintro ⟨y, h1, h2, h3⟩; exact ⟨y, by omega, h2, h3⟩
        · rintro ⟨y, h1, h2, h3⟩
          refine ⟨y, ?_, h2, h3⟩
          have : y ≠ k := fun e => by subst e; rw [show tb (gA u 0) x y = bt (G (gA u 0) x) y from rfl, q] at h2; cases h2
          omega
    · refine ⟨c ||| G (gA u 3) k, u, ?_, rfl, ?_⟩
      · show k_gatherDelta_12 (n + 1) _ _ _ _ = k_gatherDelta_12 n _ _ _ _
        rw [k_gatherDelta_12, if_pos ((lt_n h (by omega)).mpr hk), if_neg (fun hh => q ((test_bit _ (by omega)).mp hh)), ix_G (by omega) (by omega), Option.bind_some, ofNat_succ]
      · intro z
        rw [bt_or, Bool.or_eq_true, g z]
        constructor
        · rintro (⟨y, h1, h2, h3⟩ | h3)
          · exact ⟨y, by omega, h2, h3⟩
          · exact ⟨k, by omega, by simpa [tb] using q, h3⟩
        · rintro ⟨y, h1, h2, h3⟩
          by_cases e : y = k
          · subst e; exact Or.inr h3
          · exact Or.inl ⟨y, by omega, h2, h3⟩) (by
    intro n c u ⟨hu, g⟩
    subst hu
    show k_gatherDelta_12 (n + 1) _ _ _ _ = _
    rw [k_gatherDelta_12, if_neg (fun hh => absurd ((lt_n h (by omega)).mp hh) (by omega))]) BIG 0 s (by unfold BIG; omega) ⟨rfl, fun z => by rw [bt_zero]; simp⟩
  refine ⟨w, ?_, g⟩
  unfold k_gatherDelta
  rw [ix_G (by omega) (by omega), Option.bind_some]
  exact e
theorem gatherReach_ok {N : Nat} {s : S} (h : Wf N s) {x : Nat} (hx : x < 32) : ∃ w, k_gatherReach (Int32.ofNat x) s = some w ∧ ∀ z, bt w z = true ↔ ∃ y, y < N ∧ tb (gA s 0) x y = true ∧ tb (gA s 1) y z = true := by
  obtain ⟨a, b, c0, c1, c2, c3, c4, c5⟩ := id h
  obtain ⟨w, u, e, rfl, g⟩ := run_for2 (fun n c k u => k_gatherReach_12 n (G (gA s 0) x) c k u) (fun c u => some c) N (fun k c u => u = s ∧ ∀ z, bt c z = true ↔ ∃ y, y < k ∧ tb (gA s 0) x y = true ∧ tb (gA s 1) y z = true) (by
    intro n k c u hk ⟨hu, g⟩
    subst hu
    by_cases q : bt (G (gA u 0) x) k = false
    · refine ⟨c, u, ?_, rfl, ?_⟩
      · show k_gatherReach_12 (n + 1) _ _ _ _ = k_gatherReach_12 n _ _ _ _
        rw [k_gatherReach_12, if_pos ((lt_n h (by omega)).mpr hk), if_pos ((test_bit _ (by omega)).mpr q), ofNat_succ]
      · intro z
        rw [g z]
        constructor
        · rintro ⟨y, h1, h2, h3⟩; exact ⟨y, by omega, h2, h3⟩
        · rintro ⟨y, h1, h2, h3⟩
          refine ⟨y, ?_, h2, h3⟩
          have : y ≠ k := fun e => by subst e; rw [show tb (gA u 0) x y = bt (G (gA u 0) x) y from rfl, q] at h2; cases h2
          omega
    · refine ⟨c ||| G (gA u 1) k, u, ?_, rfl, ?_⟩
      · show k_gatherReach_12 (n + 1) _ _ _ _ = k_gatherReach_12 n _ _ _ _
        rw [k_gatherReach_12, if_pos ((lt_n h (by omega)).mpr hk), if_neg (fun hh => q ((test_bit _ (by omega)).mp hh)), ix_G (by omega) (by omega), Option.bind_some, ofNat_succ]
      · intro z
        rw [bt_or, Bool.or_eq_true, g z]
        constructor
        · rintro (⟨y, h1, h2, h3⟩ | h3)
          · exact ⟨y, by omega, h2, h3⟩
          · exact ⟨k, by omega, by simpa [tb] using q, h3⟩
        · rintro ⟨y, h1, h2, h3⟩
          by_cases e : y = k
          · subst e; exact Or.inr h3
          · exact Or.inl ⟨y, by omega, h2, h3⟩) (by
    intro n c u ⟨hu, g⟩
    subst hu
    show k_gatherReach_12 (n + 1) _ _ _ _ = _
    rw [k_gatherReach_12, if_neg (fun hh => absurd ((lt_n h (by omega)).mp hh) (by omega))]) BIG 0 s (by unfold BIG; omega) ⟨rfl, fun z => by rw [bt_zero]; simp⟩
  refine ⟨w, ?_, g⟩
  unfold k_gatherReach
  rw [ix_G (by omega) (by omega), Option.bind_some]
  exact e
theorem next_ok {N : Nat} {s : S} (h : Wf N s) : ∃ s', k_computeNextAdditions s = some s' ∧ Fx [] [] [4] [] s s' ∧ Wf N s' ∧ (∀ x z, x < N → (tb (gA s' 4) x z = true ↔ (∃ y, y < N ∧ tb (gA s 0) x y = true ∧ tb (gA s 3) y z = true) ∧ tb (gA s 1) x z = false)) ∧ ∀ x, N ≤ x → G (gA s' 4) x = G (gA s 4) x := by
  obtain ⟨s', e, W, F, g, g'⟩ := run_for k_computeNextAdditions_2 some N (fun k u => Wf N u ∧ Fx [] [] [4] [] s u ∧ (∀ x z, x < k → (tb (gA u 4) x z = true ↔ (∃ y, y < N ∧ tb (gA s 0) x y = true ∧ tb (gA s 3) y z = true) ∧ tb (gA s 1) x z = false)) ∧ ∀ x, k ≤ x → G (gA u 4) x = G (gA s 4) x) (by
    intro n k u hk ⟨W, F, g, g'⟩
    obtain ⟨a, b, c0, c1, c2, c3, c4, c5⟩ := id W
    obtain ⟨w, ew, hw⟩ := gatherDelta_ok W (x := k) (by omega)
    refine ⟨Jvm.AM.sA u 4 ((gA u 4).set k (w &&& (G (gA u 1) k ^^^ (-1)))), ?_, W.sA (by simp [c4]), F.sA (by simp), ?_, ?_⟩
    · rw [k_computeNextAdditions_2, if_pos ((lt_n W (by omega)).mpr hk), ew, Option.bind_some, ix_G (by omega) (by omega), Option.bind_some, st_ofNat _ _ (by omega) (by omega), Option.bind_some, ofNat_succ]
    · intro x z hx
      unfold tb
      rw [gA_sA, if_pos rfl, G_set (by omega)]
      by_cases q : x = k
      · subst q
        rw [if_pos rfl, bt_andn, Bool.and_eq_true, hw z, F.2.2.1 0 (by simp), F.2.2.1 3 (by simp), F.2.2.1 1 (by simp)]
        simp [tb]
      · rw [if_neg q]; exact g x z (by omega)
    · intro x hx
      rw [gA_sA, if_pos rfl, G_set (by omega), if_neg (by omega)]; exact g' x (by omega)) (by
    intro n u ⟨W, _⟩
    rw [k_computeNextAdditions_2, if_neg (fun hh => absurd ((lt_n W (by have := h.2.1; omega)).mp hh) (by omega))]) BIG s (by have := h.2.1; unfold BIG; omega) ⟨h, Fx.refl .., fun x z hx => absurd hx (Nat.not_lt_zero _), fun _ _ => rfl⟩
  exact ⟨s', e, F, W, g, g'⟩
theorem nextDoomed_ok {N : Nat} {s : S} (h : Wf N s) : ∃ s', k_computeNextDoomed s = some s' ∧ Fx [] [] [4] [] s s' ∧ Wf N s' ∧ (∀ x z, x < N → (tb (gA s' 4) x z = true ↔ (∃ y, y < N ∧ tb (gA s 0) x y = true ∧ tb (gA s 3) y z = true) ∧ tb (gA s 1) x z = true ∧ tb (gA s 5) x z = false)) ∧ ∀ x, N ≤ x → G (gA s' 4) x = G (gA s 4) x := by
  obtain ⟨s', e, W, F, g, g'⟩ := run_for k_computeNextDoomed_2 some N (fun k u => Wf N u ∧ Fx [] [] [4] [] s u ∧ (∀ x z, x < k → (tb (gA u 4) x z = true ↔ (∃ y, y < N ∧ tb (gA s 0) x y = true ∧ tb (gA s 3) y z = true) ∧ tb (gA s 1) x z = true ∧ tb (gA s 5) x z = false)) ∧ ∀ x, k ≤ x → G (gA u 4) x = G (gA s 4) x) (by
    intro n k u hk ⟨W, F, g, g'⟩
    obtain ⟨a, b, c0, c1, c2, c3, c4, c5⟩ := id W
    obtain ⟨w, ew, hw⟩ := gatherDelta_ok W (x := k) (by omega)
    refine ⟨Jvm.AM.sA u 4 ((gA u 4).set k ((w &&& G (gA u 1) k) &&& (G (gA u 5) k ^^^ (-1)))), ?_, W.sA (by simp [c4]), F.sA (by simp), ?_, ?_⟩
    · rw [k_computeNextDoomed_2, if_pos ((lt_n W (by omega)).mpr hk), ew, Option.bind_some, ix_G (by omega) (by omega), Option.bind_some, ix_G (by omega) (by omega), Option.bind_some, st_ofNat _ _ (by omega) (by omega), Option.bind_some, ofNat_succ]
    · intro x z hx
      unfold tb
      rw [gA_sA, if_pos rfl, G_set (by omega)]
      by_cases q : x = k
      · subst q
        rw [if_pos rfl, bt_andn, bt_and, Bool.and_eq_true, Bool.and_eq_true, hw z, F.2.2.1 0 (by simp), F.2.2.1 3 (by simp), F.2.2.1 1 (by simp), F.2.2.1 5 (by simp)]
        simp [tb, and_assoc]
      · rw [if_neg q]; exact g x z (by omega)
    · intro x hx
      rw [gA_sA, if_pos rfl, G_set (by omega), if_neg (by omega)]; exact g' x (by omega)) (by
    intro n u ⟨W, _⟩
    rw [k_computeNextDoomed_2, if_neg (fun hh => absurd ((lt_n W (by have := h.2.1; omega)).mp hh) (by omega))]) BIG s (by have := h.2.1; unfold BIG; omega) ⟨h, Fx.refl .., fun x z hx => absurd hx (Nat.not_lt_zero _), fun _ _ => rfl⟩
  exact ⟨s', e, F, W, g, g'⟩
theorem absorb_ok {N : Nat} {s : S} (h : Wf N s) : ∃ r s', k_absorbDoomed s = some (r, s') ∧ Fx [] [] [5] [] s s' ∧ Wf N s' ∧ (∀ x, G (gA s' 5) x = if x < N then G (gA s 5) x ||| G (gA s 3) x else G (gA s 5) x) ∧ (r = 0 ↔ ∀ x, x < N → G (gA s 3) x = 0) := by
  obtain ⟨c, s', e, W, F, g, b, r⟩ := run_for2 k_absorbDoomed_4 (fun c u => some (nar .boolean c, u)) N (fun k c u => Wf N u ∧ Fx [] [] [5] [] s u ∧ (∀ x, G (gA u 5) x = if x < k then G (gA s 5) x ||| G (gA s 3) x else G (gA s 5) x) ∧ (c = 0 ∨ c = 1) ∧ (c = 0 ↔ ∀ x, x < k → G (gA s 3) x = 0)) (by
    intro n k c u hk ⟨W, F, g, b, r⟩
    obtain ⟨a, bb, c0, c1, c2, c3, c4, c5⟩ := id W
    have e3 : gA u 3 = gA s 3 := F.2.2.1 3 (by simp)
    by_cases q : G (gA s 3) k = 0
    · refine ⟨c, u, ?_, W, F, ?_, b, ?_⟩
      · rw [k_absorbDoomed_4, if_pos ((lt_n W (by omega)).mpr hk), ix_G (by omega) (by omega), Option.bind_some, e3, if_pos q, ofNat_succ]
      · intro x
        rw [g x]
        by_cases q1 : x < k
        · rw [if_pos q1, if_pos (by omega)]
        · rw [if_neg q1]
          by_cases q2 : x = k
          · subst q2; rw [if_pos (by omega), q]; simp
          · rw [if_neg (by omega)]
      · rw [r]
        constructor
        · intro hh x hx
          by_cases q2 : x = k
          · subst q2; exact q
          · exact hh x (by omega)
        · intro hh x hx; exact hh x (by omega)
    · refine ⟨1, Jvm.AM.sA u 5 ((gA u 5).set k (G (gA u 5) k ||| G (gA u 3) k)), ?_, W.sA (by simp [c5]), F.sA (by simp), ?_, Or.inr rfl, ?_⟩
      · rw [k_absorbDoomed_4, if_pos ((lt_n W (by omega)).mpr hk), ix_G (by omega) (by omega), Option.bind_some, if_neg (by rw [e3]; exact q), ix_G (by omega) (by omega), Option.bind_some, st_ofNat _ _ (by omega) (by omega), Option.bind_some, ofNat_succ]
      · intro x
        rw [gA_sA, if_pos rfl, G_set (by omega)]
        by_cases q2 : x = k
        · subst q2; rw [if_pos rfl, if_pos (by omega), g x, if_neg (by omega), e3]
        · rw [if_neg q2, g x]
          by_cases q1 : x < k
          · rw [if_pos q1, if_pos (by omega)]
          · rw [if_neg q1, if_neg (by omega)]
      · constructor
        · intro hh; exact absurd hh (by decide)
        · intro hh; exact absurd (hh k (by omega)) q) (by
    intro n c u ⟨W, F, g, b, r⟩
    rw [k_absorbDoomed_4, if_neg (fun hh => absurd ((lt_n W (by have := h.2.1; omega)).mp hh) (by omega))]) BIG 0 s (by have := h.2.1; unfold BIG; omega) ⟨h, Fx.refl .., fun x => by rw [if_neg (by omega)], Or.inl rfl, by simp⟩
  refine ⟨_, s', e, F, W, g, ?_⟩
  rcases b with rfl | rfl
  · rw [← r]; exact ⟨fun _ => rfl, fun _ => by decide⟩
  · rw [← r]; exact ⟨fun hh => absurd hh (by decide), fun hh => absurd hh (by decide)⟩
theorem drop_ok {N : Nat} {s : S} (h : Wf N s) : ∃ s', k_dropDoomed s = some s' ∧ Fx [] [] [1] [] s s' ∧ Wf N s' ∧ ∀ x, G (gA s' 1) x = if x < N then G (gA s 1) x &&& (G (gA s 5) x ^^^ (-1)) else G (gA s 1) x := by
  obtain ⟨s', e, W, F, g⟩ := run_for k_dropDoomed_2 some N (fun k u => Wf N u ∧ Fx [] [] [1] [] s u ∧ ∀ x, G (gA u 1) x = if x < k then G (gA s 1) x &&& (G (gA s 5) x ^^^ (-1)) else G (gA s 1) x) (by
    intro n k u hk ⟨W, F, g⟩
    obtain ⟨a, b, c0, c1, c2, c3, c4, c5⟩ := id W
    refine ⟨Jvm.AM.sA u 1 ((gA u 1).set k (G (gA u 1) k &&& (G (gA u 5) k ^^^ (-1)))), ?_, W.sA (by simp [c1]), F.sA (by simp), ?_⟩
    · rw [k_dropDoomed_2, if_pos ((lt_n W (by omega)).mpr hk), ix_G (by omega) (by omega), Option.bind_some, ix_G (by omega) (by omega), Option.bind_some, st_ofNat _ _ (by omega) (by omega), Option.bind_some, ofNat_succ]
    · intro x
      rw [gA_sA, if_pos rfl, G_set (by omega)]
      by_cases q : x = k
      · subst q
        rw [if_pos rfl, if_pos (by omega), g x, if_neg (by omega), F.2.2.1 5 (by simp)]
      · rw [if_neg q, g x]
        by_cases q1 : x < k
        · rw [if_pos q1, if_pos (by omega)]
        · rw [if_neg q1, if_neg (by omega)]) (by
    intro n u ⟨W, _⟩
    rw [k_dropDoomed_2, if_neg (fun hh => absurd ((lt_n W (by have := h.2.1; omega)).mp hh) (by omega))]) BIG s (by have := h.2.1; unfold BIG; omega) ⟨h, Fx.refl .., fun x => by rw [if_neg (by omega)]⟩
  exact ⟨s', e, F, W, g⟩
/-- all bits lie below N -/
def Sub (N : Nat) (l : List Int32) : Prop := ∀ x y, tb l x y = true → x < N ∧ y < N
/-- the pairs below N, and how many of them a row list lacks -/
def prs (N : Nat) : List (Nat × Nat) := (List.range N).flatMap fun x => (List.range N).map fun y => (x, y)
theorem mem_prs {N x y : Nat} : (x, y) ∈ prs N ↔ x < N ∧ y < N := by simp [prs]
def lack (N : Nat) (l : List Int32) : Nat := (prs N).countP fun p => !tb l p.1 p.2
theorem countP_lt {A : Type} {p q : A → Bool} : ∀ {l : List A}, (∀ a, a ∈ l → p a = true → q a = true) → (∃ a, a ∈ l ∧ q a = true ∧ p a = false) → l.countP p < l.countP q
  | [], _, h => by obtain ⟨a, h, _⟩ := h; cases h
  | b :: l, m, h => by
    have mono : l.countP p ≤ l.countP q := List.countP_mono_left fun a ha => m a (List.mem_cons_of_mem _ ha)
    simp only [List.countP_cons]
    by_cases e : q b = true ∧ p b = false
    · rw [e.1, e.2]; simp; omega
    · have h' : ∃ a, a ∈ l ∧ q a = true ∧ p a = false := by
        obtain ⟨a, h1, h2⟩ := h
        rcases List.mem_cons.mp h1 with rfl | h1
        · exact absurd h2 e
        · exact ⟨a, h1, h2⟩
      have ih := countP_lt (fun a ha => m a (List.mem_cons_of_mem _ ha)) h'
      have mb := m b (List.mem_cons_self ..)
      by_cases pb : p b = true
      · rw [pb, mb pb]; omega
      · have pb' : p b = false := by simpa using pb
        rw [pb']; simp; split <;> omega
theorem lack_le (N : Nat) (l : List Int32) : lack N l ≤ N * N := by
  have h := List.countP_le_length (p := fun p : Nat × Nat => !tb l p.1 p.2) (l := prs N)
  have e : (prs N).length = N * N := by simp [prs, List.length_flatMap, List.map_const']
  unfold lack; omega
theorem G_ne {N : Nat} {l : List Int32} {x : Nat} (h : Sub N l) (q : ¬ G l x = 0) : ∃ z, z < N ∧ tb l x z = true := by
  apply Classical.byContradiction
  intro hh
  apply q
  refine bt_eq0.mpr fun y hy => ?_
  by_cases e : bt (G l x) y = true
  · exact absurd ⟨y, (h x y e).2, e⟩ hh
  · simpa using e
/-- what the rounds of insertion keep -/
def PA (N : Nat) (T : Nat → Nat → Prop) (s : S) : Prop := Wf N s ∧ gI s 4 = Int32.ofNat (N * N + 2) ∧ Sub N (gA s 0) ∧ Sub N (gA s 1) ∧ Sub N (gA s 3) ∧ (∀ x, N ≤ x → G (gA s 4) x = 0) ∧
  (∀ x y z, tb (gA s 0) x y = true → tb (gA s 1) y z = true → tb (gA s 1) x z = true ∨ tb (gA s 3) x z = true) ∧ (∀ x y, tb (gA s 0) x y = true → tb (gA s 1) x y = true ∨ tb (gA s 3) x y = true) ∧
  (∀ x z, tb (gA s 3) x z = true → tb (gA s 1) x z = false) ∧ (∀ x z, tb (gA s 1) x z = true ∨ tb (gA s 3) x z = true → T x z) ∧ (∀ x y z, tb (gA s 0) x y = true → T y z → T x z)
theorem prop_ok {N : Nat} {T : Nat → Nat → Prop} : ∀ (m n r : Nat) (s : S), PA N T s → lack N (gA s 1) ≤ m → r + m ≤ N * N → m + 1 < n →
    ∃ s', k_propagateAdditions_2 n (Int32.ofNat r) s = some s' ∧ Fx [] [] [1, 3, 4] [] s s' ∧ Wf N s' ∧ Sub N (gA s' 1) ∧ (∀ x y, tb (gA s 0) x y = true → tb (gA s' 1) x y = true) ∧ (∀ x y z, tb (gA s 0) x y = true → tb (gA s' 1) y z = true → tb (gA s' 1) x z = true) ∧ (∀ x z, tb (gA s 1) x z = true → tb (gA s' 1) x z = true) ∧ (∀ x z, tb (gA s' 1) x z = true → T x z) := by
  intro m
  induction m with
  | zero =>
    intro n r s hP hl hr hn
    obtain ⟨W, h4, sE, sR, sD, d4, hA, hB, hC, hT, hT2⟩ := hP
    obtain ⟨n, rfl⟩ : ∃ k, n = k + 1 := ⟨n - 1, by omega⟩
    obtain ⟨q, u, e, F, Wu, g, hq⟩ := merge_ok W
    have hN := W.2.1
    have hNN : N * N ≤ 1024 := by have := Nat.mul_le_mul hN hN; omega
    have e1 : Int32.ofNat r < gI s 4 := by rw [h4]; exact (ofNat_lt (by omega) (by omega)).mpr (by omega)
    have noD : ∀ x, x < N → G (gA s 3) x = 0 := fun x hx => by
      apply Classical.byContradiction
      intro hh
      obtain ⟨z, hz, h1⟩ := G_ne sD hh
      have h2 := hC x z h1
      have h3 : lack N (gA s 1) > 0 := List.countP_pos_iff.mpr ⟨(x, z), mem_prs.mpr ⟨hx, hz⟩, by simp [h2]⟩
      omega
    have noD' : ∀ x z, tb (gA s 3) x z = false := fun x z => by
      by_cases q : tb (gA s 3) x z = true
      · have := sD x z q
        unfold tb at q
        rw [noD x this.1, bt_zero] at q; cases q
      · simpa using q
    have gR : ∀ x, G (gA u 1) x = G (gA s 1) x := fun x => by
      rw [g x]
      by_cases q : x < N
      · rw [if_pos q, noD x q]; simp
      · rw [if_neg q]
    have tR : ∀ x z, tb (gA u 1) x z = tb (gA s 1) x z := fun x z => by unfold tb; rw [gR x]
    refine ⟨u, ?_, F.mono (by simp) (by simp) (by simp) (by simp), Wu, ?_, ?_, ?_, ?_, ?_⟩
    · rw [k_propagateAdditions_2, if_pos e1, e, Option.bind_some, if_pos (hq.mpr noD)]
    · intro x y hh; rw [tR] at hh; exact sR x y hh
    · intro x y hh; rw [tR]; exact (hB x y hh).resolve_right (by rw [noD']; simp)
    · intro x y z h1 h2; rw [tR] at h2 ⊢; exact (hA x y z h1 h2).resolve_right (by rw [noD']; simp)
    · intro x z hh; rw [tR]; exact hh
    · intro x z hh; rw [tR] at hh; exact hT x z (Or.inl hh)
  | succ m ih =>
    intro n r s hP hl hr hn
    obtain ⟨W, h4, sE, sR, sD, d4, hA, hB, hC, hT, hT2⟩ := hP
    obtain ⟨n, rfl⟩ : ∃ k, n = k + 1 := ⟨n - 1, by omega⟩
    obtain ⟨q, u, e, F, Wu, g, hq⟩ := merge_ok W
    have hN := W.2.1
    have hNN : N * N ≤ 1024 := by have := Nat.mul_le_mul hN hN; omega
    have e1 : Int32.ofNat r < gI s 4 := by rw [h4]; exact (ofNat_lt (by omega) (by omega)).mpr (by omega)
    have tR : ∀ x z, tb (gA u 1) x z = true ↔ tb (gA s 1) x z = true ∨ tb (gA s 3) x z = true := fun x z => by
      unfold tb
      rw [g x]
      by_cases q : x < N
      · rw [if_pos q, bt_or, Bool.or_eq_true]
      · rw [if_neg q]
        constructor
        · exact Or.inl
        · rintro (hh | hh)
          · exact hh
          · exact absurd (sD x z hh).1 q
    have sRu : Sub N (gA u 1) := fun x z hh => ((tR x z).mp hh).elim (sR x z) (sD x z)
    have u0 : gA u 0 = gA s 0 := F.2.2.1 0 (by simp)
    have u3 : gA u 3 = gA s 3 := F.2.2.1 3 (by simp)
    have u4 : gA u 4 = gA s 4 := F.2.2.1 4 (by simp)
    by_cases hd : ∀ x, x < N → G (gA s 3) x = 0
    · have noD' : ∀ x z, tb (gA s 3) x z = false := fun x z => by
        by_cases q : tb (gA s 3) x z = true
        · have := sD x z q
          unfold tb at q
          rw [hd x this.1, bt_zero] at q; cases q
        · simpa using q
      refine ⟨u, ?_, F.mono (by simp) (by simp) (by simp) (by simp), Wu, sRu, ?_, ?_, ?_, ?_⟩
      · rw [k_propagateAdditions_2, if_pos e1, e, Option.bind_some, if_pos (hq.mpr hd)]
      · intro x y hh; exact (tR x y).mpr (hB x y hh)
      · intro x y z h1 h2
        refine (tR x z).mpr (hA x y z h1 (((tR y z).mp h2).resolve_right (by rw [noD']; simp)))
      · intro x z hh; exact (tR x z).mpr (Or.inl hh)
      · intro x z hh; exact hT x z ((tR x z).mp hh)
    · obtain ⟨v, ev, Fv, Wv, gv, gv'⟩ := next_ok Wu
      obtain ⟨w, ew, Fw, gw, Ww, zw⟩ := shift_ok Wv
      have w0 : gA w 0 = gA s 0 := by rw [Fw.2.2.1 0 (by simp), Fv.2.2.1 0 (by simp), u0]
      have w1 : gA w 1 = gA u 1 := by rw [Fw.2.2.1 1 (by simp), Fv.2.2.1 1 (by simp)]
      have wI : ∀ f, gI w f = gI s f := fun f => by rw [Fw.1 f (by simp), Fv.1 f (by simp), F.1 f (by simp)]
      have t3 : ∀ x z, x < N → (tb (gA w 3) x z = true ↔ (∃ y, y < N ∧ tb (gA s 0) x y = true ∧ tb (gA s 3) y z = true) ∧ tb (gA u 1) x z = false) := fun x z hx => by rw [gw, gv x z hx, u0, u3]
      have z3 : ∀ x z, N ≤ x → tb (gA w 3) x z = false := fun x z hx => by unfold tb; rw [gw, gv' x hx, u4, d4 x hx, bt_zero]
      have sDw : Sub N (gA w 3) := fun x z hh => by
        by_cases hx : x < N
        · obtain ⟨⟨y, h1, h2, h3⟩, _⟩ := (t3 x z hx).mp hh
          exact ⟨hx, (sD y z h3).2⟩
        · rw [z3 x z (by omega)] at hh; cases hh
      have z4 : ∀ x, N ≤ x → G (gA w 4) x = 0 := fun x _ => by rw [zw, G_rep]
      have hlt : lack N (gA w 1) < lack N (gA s 1) := by
        rw [w1]
        apply countP_lt
        · intro p _ hp
          have : tb (gA u 1) p.1 p.2 = false := by simpa using hp
          have h2 : ¬ tb (gA s 1) p.1 p.2 = true := fun hh => by rw [(tR _ _).mpr (Or.inl hh)] at this; cases this
          simpa using h2
        · obtain ⟨x, hx⟩ : ∃ x, ¬ (x < N → G (gA s 3) x = 0) := Classical.not_forall.mp hd
          have hx' := Classical.not_imp.mp hx
          obtain ⟨z, hz, h1⟩ := G_ne sD hx'.2
          exact ⟨(x, z), mem_prs.mpr ⟨hx'.1, hz⟩, by simp [hC x z h1], by simp [(tR x z).mpr (Or.inr h1)]⟩
      have hPw : PA N T w := by
        refine ⟨Ww, by rw [wI]; exact h4, by rw [w0]; exact sE, by rw [w1]; exact sRu, sDw, z4, ?_, ?_, ?_, ?_, ?_⟩
        · intro x y z h1 h2
          rw [w0] at h1; rw [w1] at h2 ⊢
          by_cases hh : tb (gA u 1) x z = true
          · exact Or.inl hh
          · refine Or.inr ((t3 x z (sE x y h1).1).mpr ⟨⟨y, (sE x y h1).2, h1, ?_⟩, by simpa using hh⟩)
            rcases (tR y z).mp h2 with h3 | h3
            · exact absurd ((tR x z).mpr (hA x y z h1 h3)) hh
            · exact h3
        · intro x y h1
          rw [w0] at h1; rw [w1]
          exact Or.inl ((tR x y).mpr (hB x y h1))
        · intro x z hh
          rw [w1]
          exact ((t3 x z (sDw x z hh).1).mp hh).2
        · intro x z hh
          rw [w1] at hh
          rcases hh with hh | hh
          · exact hT x z ((tR x z).mp hh)
          · obtain ⟨⟨y, h1, h2, h3⟩, _⟩ := (t3 x z (sDw x z hh).1).mp hh
            exact hT2 x y z h2 (hT y z (Or.inr h3))
        · intro x y z h1 h2; rw [w0] at h1; exact hT2 x y z h1 h2
      obtain ⟨s', es, Fs, Ws, sRs, c1, c2, c3, c4⟩ := ih n (r + 1) w hPw (by omega) (by omega) (by omega)
      have Fall : Fx [] [] [1, 3, 4] [] s w := (F.mono (by simp) (by simp) (by simp) (by simp)).trans ((Fv.mono (by simp) (by simp) (by simp) (by simp)).trans (Fw.mono (by simp) (by simp) (by simp) (by simp)))
      refine ⟨s', ?_, Fall.trans Fs, Ws, sRs, ?_, ?_, ?_, c4⟩
      · rw [k_propagateAdditions_2, if_pos e1, e, Option.bind_some, if_neg (fun hh => hd (hq.mp hh)), ev, Option.bind_some, ew, Option.bind_some, ofNat_succ]; exact es
      · rw [w0] at c1; exact c1
      · rw [w0] at c2; exact c2
      · intro x z hh; exact c3 x z (by rw [w1]; exact (tR x z).mpr (Or.inl hh))
/-- reachability along the edges, in one step or more -/
def TC (E : Nat → Nat → Prop) (x z : Nat) : Prop := ∀ P : Nat → Nat → Prop, (∀ x y, E x y → P x y) → (∀ x y z, E x y → P y z → P x z) → P x z
theorem TC.base {E : Nat → Nat → Prop} {x y : Nat} (h : E x y) : TC E x y := fun P a _ => a x y h
theorem TC.step {E : Nat → Nat → Prop} {x y z : Nat} (h : E x y) (t : TC E y z) : TC E x z := fun P a b => b x y z h (t P a b)
theorem TC.mono {E E' : Nat → Nat → Prop} (h : ∀ x y, E x y → E' x y) {x z : Nat} (t : TC E x z) : TC E' x z := t _ (fun x y e => TC.base (h x y e)) fun x y z e p => TC.step (h x y e) p
theorem TC.congr {E E' : Nat → Nat → Prop} (h : ∀ x y, E x y ↔ E' x y) {x z : Nat} : TC E x z ↔ TC E' x z := ⟨TC.mono fun x y => (h x y).mp, TC.mono fun x y => (h x y).mpr⟩
/-- the edges, as a relation -/
def Ed (s : S) (x y : Nat) : Prop := tb (gA s 0) x y = true
/-- the class's invariant: the view is the edges' reachability -/
def Cl (N : Nat) (s : S) : Prop := Wf N s ∧ gI s 4 = Int32.ofNat (N * N + 2) ∧ Sub N (gA s 0) ∧ ∀ x z, tb (gA s 1) x z = true ↔ TC (Ed s) x z
theorem TC.sub {N : Nat} {s : S} (h : Sub N (gA s 0)) {x z : Nat} (t : TC (Ed s) x z) : x < N ∧ z < N := t (fun x z => x < N ∧ z < N) (fun x y e => h x y e) fun x y z e p => ⟨(h x y e).1, p.2⟩
theorem Cl.sub {N : Nat} {s : S} (h : Cl N s) : Sub N (gA s 1) := fun x z q => TC.sub h.2.2.1 ((h.2.2.2 x z).mp q)
theorem prop_full {N : Nat} {T : Nat → Nat → Prop} {s : S} (hP : PA N T s) : ∃ s', k_propagateAdditions s = some s' ∧ Fx [] [] [1, 3, 4] [] s s' ∧ Wf N s' ∧ Sub N (gA s' 1) ∧ (∀ x y, tb (gA s 0) x y = true → tb (gA s' 1) x y = true) ∧ (∀ x y z, tb (gA s 0) x y = true → tb (gA s' 1) y z = true → tb (gA s' 1) x z = true) ∧ (∀ x z, tb (gA s 1) x z = true → tb (gA s' 1) x z = true) ∧ (∀ x z, tb (gA s' 1) x z = true → T x z) := by
  have hN := hP.1.2.1
  have hNN : N * N ≤ 1024 := by have := Nat.mul_le_mul hN hN; omega
  exact prop_ok (N * N) BIG 0 s hP (lack_le N _) (by omega) (by unfold BIG; omega)
theorem tb_rep (n x y : Nat) : tb (rep n 0) x y = false := by unfold tb; rw [G_rep, bt_zero]
theorem tb_set {l : List Int32} {a : Nat} (h : a < l.length) (w : Int32) (x y : Nat) : tb (l.set a w) x y = if x = a then bt w y else tb l x y := by
  unfold tb; rw [G_set h]; split <;> rfl
theorem add_ok {N : Nat} {s : S} (h : Cl N s) {a b : Nat} (ha : a < N) (hb : b < N) : ∃ s', k_addEdgeAndPropagate (Int32.ofNat a) (Int32.ofNat b) s = some s' ∧ Fx [5] [] [0, 1, 3, 4] [] s s' ∧ Cl N s' ∧ gI s' 5 = gI s 5 + 1 ∧ (∀ x y, Ed s' x y ↔ Ed s x y ∨ (x = a ∧ y = b)) ∧ (∀ x z, tb (gA s 1) x z = true → tb (gA s' 1) x z = true) := by
  obtain ⟨W, h4, sE, hR⟩ := id h
  have sR := h.sub
  obtain ⟨a1, hN, c0, c1, c2, c3, c4, c5⟩ := id W
  have bbit : ∀ y, bt (k_bit (Int32.ofNat b)) y = decide (y = b) := fun y => shl_bit (by omega) y
  -- the new edge
  obtain ⟨t, ht⟩ : ∃ t, t = Jvm.AM.sI (Jvm.AM.sA s 0 ((gA s 0).set a (G (gA s 0) a ||| k_bit (Int32.ofNat b)))) 5 (gI s 5 + 1) := ⟨_, rfl⟩
  have Wt : Wf N t := by rw [ht]; exact (W.sA (by simp [c0])).sI (by decide)
  have Ft : Fx [5] [] [0, 1, 3, 4] [] s t := by rw [ht]; exact ((Fx.refl ..).sA (by simp)).sI (by simp)
  have t0 : ∀ x y, tb (gA t 0) x y = true ↔ tb (gA s 0) x y = true ∨ (x = a ∧ y = b) := fun x y => by
    rw [ht, gA_sI, gA_sA, if_pos rfl, tb_set (by omega)]
    by_cases q : x = a
    · subst q
      rw [if_pos rfl, bt_or, bbit, Bool.or_eq_true]
      simp [tb]
    · rw [if_neg q]; simp [q]
  have tA : ∀ f, f ≠ 0 → gA t f = gA s f := fun f hf => by rw [ht, gA_sI, gA_sA, if_neg hf]
  have tI : ∀ f, gI t f = if f = 5 then gI s 5 + 1 else gI s f := fun f => by rw [ht, gI_sI, gI_sA]
  obtain ⟨u, eu, Fu, u3, u4, Wu⟩ := clearDelta_ok Wt
  have u0 : gA u 0 = gA t 0 := Fu.2.2.1 0 (by simp)
  have u1 : gA u 1 = gA s 1 := by rw [Fu.2.2.1 1 (by simp), tA 1 (by decide)]
  obtain ⟨v, hv⟩ : ∃ v, v = Jvm.AM.sA u 3 ((gA u 3).set a ((k_bit (Int32.ofNat b) ||| G (gA u 1) b) &&& (G (gA u 1) a ^^^ (-1)))) := ⟨_, rfl⟩
  have lu3 := Wu.2.2.2.2.2.1
  have Wv : Wf N v := by rw [hv]; exact Wu.sA (by simp [lu3])
  have vA : ∀ f, f ≠ 3 → gA v f = gA u f := fun f hf => by rw [hv, gA_sA, if_neg hf]
  have vI : ∀ f, gI v f = gI u f := fun f => by rw [hv, gI_sA]
  have v3 : ∀ x z, tb (gA v 3) x z = true ↔ x = a ∧ (z = b ∨ tb (gA s 1) b z = true) ∧ tb (gA s 1) a z = false := fun x z => by
    rw [hv, gA_sA, if_pos rfl, tb_set (by omega)]
    by_cases q : x = a
    · subst q
      rw [if_pos rfl, bt_andn, bt_or, bbit, u1]
      simp [tb]
    · rw [if_neg q, u3, tb_rep]; simp [q]
  have v0 : ∀ x y, tb (gA v 0) x y = true ↔ tb (gA s 0) x y = true ∨ (x = a ∧ y = b) := fun x y => by rw [vA 0 (by decide), u0]; exact t0 x y
  have v1 : gA v 1 = gA s 1 := by rw [vA 1 (by decide), u1]
  have hPA : PA N (TC (Ed v)) v := by
    have mono : ∀ x z, tb (gA s 1) x z = true → TC (Ed v) x z := fun x z hh => TC.mono (fun x y e => (v0 x y).mpr (Or.inl e)) ((hR x z).mp hh)
    refine ⟨Wv, ?_, ?_, by rw [v1]; exact sR, ?_, ?_, ?_, ?_, ?_, ?_, fun x y z e p => TC.step e p⟩
    · rw [vI, Fu.1 4 (by simp), tI]; exact h4
    · intro x y hh
      rcases (v0 x y).mp hh with hh | ⟨rfl, rfl⟩
      · exact sE x y hh
      · exact ⟨ha, hb⟩
    · intro x z hh
      obtain ⟨rfl, hz, _⟩ := (v3 x z).mp hh
      rcases hz with rfl | hz
      · exact ⟨ha, hb⟩
      · exact ⟨ha, (sR b z hz).2⟩
    · intro x _; rw [vA 4 (by decide), u4, G_rep]
    · intro x y z h1 h2
      rw [v1] at h2 ⊢
      rcases (v0 x y).mp h1 with hh | ⟨rfl, rfl⟩
      · exact Or.inl ((hR x z).mpr (TC.step hh ((hR y z).mp h2)))
      · by_cases q : tb (gA s 1) x z = true
        · exact Or.inl q
        · exact Or.inr ((v3 x z).mpr ⟨rfl, Or.inr h2, by simpa using q⟩)
    · intro x y h1
      rw [v1]
      rcases (v0 x y).mp h1 with hh | ⟨rfl, rfl⟩
      · exact Or.inl ((hR x y).mpr (TC.base hh))
      · by_cases q : tb (gA s 1) x y = true
        · exact Or.inl q
        · exact Or.inr ((v3 x y).mpr ⟨rfl, Or.inl rfl, by simpa using q⟩)
    · intro x z hh
      obtain ⟨rfl, _, hz⟩ := (v3 x z).mp hh
      rw [v1]; exact hz
    · intro x z hh
      rw [v1] at hh
      rcases hh with hh | hh
      · exact mono x z hh
      · obtain ⟨rfl, hz, _⟩ := (v3 x z).mp hh
        have e : Ed v x b := (v0 x b).mpr (Or.inr ⟨rfl, rfl⟩)
        rcases hz with rfl | hz
        · exact TC.base e
        · exact TC.step e (mono b z hz)
  obtain ⟨s', es, Fs, Ws, sRs, d1, d2, d3, d4⟩ := prop_full hPA
  have s0' : gA s' 0 = gA v 0 := Fs.2.2.1 0 (by simp)
  have Fv : Fx [5] [] [0, 1, 3, 4] [] s v := by rw [hv]; exact (Ft.trans (Fu.mono (by simp) (by simp) (by simp) (by simp))).sA (by simp)
  refine ⟨s', ?_, Fv.trans (Fs.mono (by simp) (by simp) (by simp) (by simp)), ⟨Ws, ?_, ?_, ?_⟩, ?_, ?_, ?_⟩
  · unfold k_addEdgeAndPropagate
    rw [ix_G (by omega) (by omega), Option.bind_some, st_ofNat _ _ (by omega) (by omega), Option.bind_some, ← ht, eu, Option.bind_some]
    have l1 : (gA u 1).length = 32 := Wu.2.2.2.1
    rw [ix_G (by omega) (by omega), Option.bind_some, ix_G (by omega) (by omega), Option.bind_some, st_ofNat _ _ (by omega) (by omega), Option.bind_some, ← hv, es, Option.bind_some]
  · rw [Fs.1 4 (by simp), vI, Fu.1 4 (by simp), tI]; exact h4
  · rw [s0']; exact hPA.2.2.1
  · intro x z
    have eEd : ∀ x y, Ed s' x y ↔ Ed v x y := fun x y => by unfold Ed; rw [s0']
    rw [TC.congr eEd]
    exact ⟨d4 x z, fun tc => tc (fun x z => tb (gA s' 1) x z = true) d1 d2⟩
  · rw [Fs.1 5 (by simp), vI, Fu.1 5 (by simp), tI, if_pos rfl]
  · intro x y; unfold Ed; rw [s0']; exact v0 x y
  · intro x z hh; exact d3 x z (by rw [v1]; exact hh)
/-- what the rounds of over-deletion keep -/
def PD (N : Nat) (s : S) : Prop := Wf N s ∧ gI s 4 = Int32.ofNat (N * N + 2) ∧ Sub N (gA s 0) ∧ Sub N (gA s 1) ∧ Sub N (gA s 3) ∧ Sub N (gA s 5) ∧ (∀ x, N ≤ x → G (gA s 4) x = 0) ∧
  (∀ x y z, tb (gA s 0) x y = true → tb (gA s 5) y z = true → tb (gA s 1) x z = true → tb (gA s 5) x z = true ∨ tb (gA s 3) x z = true) ∧ (∀ x z, tb (gA s 3) x z = true → tb (gA s 5) x z = false)
theorem over_ok {N : Nat} : ∀ (m n r : Nat) (s : S), PD N s → lack N (gA s 5) ≤ m → r + m ≤ N * N → m + 1 < n →
    ∃ s', k_overDelete_42 n (Int32.ofNat r) s = some s' ∧ Fx [] [] [3, 4, 5] [] s s' ∧ Wf N s' ∧ Sub N (gA s' 5) ∧ (∀ x z, tb (gA s 5) x z = true ∨ tb (gA s 3) x z = true → tb (gA s' 5) x z = true) ∧ (∀ x y z, tb (gA s 0) x y = true → tb (gA s' 5) y z = true → tb (gA s 1) x z = true → tb (gA s' 5) x z = true) := by
  intro m
  induction m with
  | zero =>
    intro n r s hP hl hr hn
    obtain ⟨W, h4, sE, sR, sD, sX, d4, hA, hC⟩ := hP
    obtain ⟨n, rfl⟩ : ∃ k, n = k + 1 := ⟨n - 1, by omega⟩
    obtain ⟨q, u, e, F, Wu, g, hq⟩ := absorb_ok W
    have hN := W.2.1
    have hNN : N * N ≤ 1024 := by have := Nat.mul_le_mul hN hN; omega
    have e1 : Int32.ofNat r < gI s 4 := by rw [h4]; exact (ofNat_lt (by omega) (by omega)).mpr (by omega)
    have noD : ∀ x, x < N → G (gA s 3) x = 0 := fun x hx => by
      apply Classical.byContradiction
      intro hh
      obtain ⟨z, hz, h1⟩ := G_ne sD hh
      have h2 := hC x z h1
      have h3 : lack N (gA s 5) > 0 := List.countP_pos_iff.mpr ⟨(x, z), mem_prs.mpr ⟨hx, hz⟩, by simp [h2]⟩
      omega
    have noD' : ∀ x z, tb (gA s 3) x z = false := fun x z => by
      by_cases q : tb (gA s 3) x z = true
      · have := sD x z q
        unfold tb at q
        rw [noD x this.1, bt_zero] at q; cases q
      · simpa using q
    have tX : ∀ x z, tb (gA u 5) x z = tb (gA s 5) x z := fun x z => by
      unfold tb; rw [g x]
      by_cases q : x < N
      · rw [if_pos q, noD x q]; simp
      · rw [if_neg q]
    refine ⟨u, ?_, F.mono (by simp) (by simp) (by simp) (by simp), Wu, ?_, ?_, ?_⟩
    · rw [k_overDelete_42, if_pos e1, e, Option.bind_some, if_pos (hq.mpr noD)]
    · intro x y hh; rw [tX] at hh; exact sX x y hh
    · intro x z hh; rw [tX]; exact hh.resolve_right (by rw [noD']; simp)
    · intro x y z h1 h2 h3; rw [tX] at h2 ⊢; exact (hA x y z h1 h2 h3).resolve_right (by rw [noD']; simp)
  | succ m ih =>
    intro n r s hP hl hr hn
    obtain ⟨W, h4, sE, sR, sD, sX, d4, hA, hC⟩ := hP
    obtain ⟨n, rfl⟩ : ∃ k, n = k + 1 := ⟨n - 1, by omega⟩
    obtain ⟨q, u, e, F, Wu, g, hq⟩ := absorb_ok W
    have hN := W.2.1
    have hNN : N * N ≤ 1024 := by have := Nat.mul_le_mul hN hN; omega
    have e1 : Int32.ofNat r < gI s 4 := by rw [h4]; exact (ofNat_lt (by omega) (by omega)).mpr (by omega)
    have tX : ∀ x z, tb (gA u 5) x z = true ↔ tb (gA s 5) x z = true ∨ tb (gA s 3) x z = true := fun x z => by
      unfold tb
      rw [g x]
      by_cases q : x < N
      · rw [if_pos q, bt_or, Bool.or_eq_true]
      · rw [if_neg q]
        constructor
        · exact Or.inl
        · rintro (hh | hh)
          · exact hh
          · exact absurd (sD x z hh).1 q
    have sXu : Sub N (gA u 5) := fun x z hh => ((tX x z).mp hh).elim (sX x z) (sD x z)
    have u0 : gA u 0 = gA s 0 := F.2.2.1 0 (by simp)
    have u1 : gA u 1 = gA s 1 := F.2.2.1 1 (by simp)
    have u3 : gA u 3 = gA s 3 := F.2.2.1 3 (by simp)
    have u4 : gA u 4 = gA s 4 := F.2.2.1 4 (by simp)
    by_cases hd : ∀ x, x < N → G (gA s 3) x = 0
    · have noD' : ∀ x z, tb (gA s 3) x z = false := fun x z => by
        by_cases q : tb (gA s 3) x z = true
        · have := sD x z q
          unfold tb at q
          rw [hd x this.1, bt_zero] at q; cases q
        · simpa using q
      refine ⟨u, ?_, F.mono (by simp) (by simp) (by simp) (by simp), Wu, sXu, ?_, ?_⟩
      · rw [k_overDelete_42, if_pos e1, e, Option.bind_some, if_pos (hq.mpr hd)]
      · intro x z hh; exact (tX x z).mpr hh
      · intro x y z h1 h2 h3
        exact (tX x z).mpr (hA x y z h1 (((tX y z).mp h2).resolve_right (by rw [noD']; simp)) h3)
    · obtain ⟨v, ev, Fv, Wv, gv, gv'⟩ := nextDoomed_ok Wu
      obtain ⟨w, ew, Fw, gw, Ww, zw⟩ := shift_ok Wv
      have w0 : gA w 0 = gA s 0 := by rw [Fw.2.2.1 0 (by simp), Fv.2.2.1 0 (by simp), u0]
      have w1 : gA w 1 = gA s 1 := by rw [Fw.2.2.1 1 (by simp), Fv.2.2.1 1 (by simp), u1]
      have w5 : gA w 5 = gA u 5 := by rw [Fw.2.2.1 5 (by simp), Fv.2.2.1 5 (by simp)]
      have wI : ∀ f, gI w f = gI s f := fun f => by rw [Fw.1 f (by simp), Fv.1 f (by simp), F.1 f (by simp)]
      have t3 : ∀ x z, x < N → (tb (gA w 3) x z = true ↔ (∃ y, y < N ∧ tb (gA s 0) x y = true ∧ tb (gA s 3) y z = true) ∧ tb (gA s 1) x z = true ∧ tb (gA u 5) x z = false) := fun x z hx => by rw [gw, gv x z hx, u0, u3, u1]
      have z3 : ∀ x z, N ≤ x → tb (gA w 3) x z = false := fun x z hx => by unfold tb; rw [gw, gv' x hx, u4, d4 x hx, bt_zero]
      have sDw : Sub N (gA w 3) := fun x z hh => by
        by_cases hx : x < N
        · obtain ⟨⟨y, h1, h2, h3⟩, _⟩ := (t3 x z hx).mp hh
          exact ⟨hx, (sD y z h3).2⟩
        · rw [z3 x z (by omega)] at hh; cases hh
      have hlt : lack N (gA w 5) < lack N (gA s 5) := by
        rw [w5]
        apply countP_lt
        · intro p _ hp
          have : tb (gA u 5) p.1 p.2 = false := by simpa using hp
          have h2 : ¬ tb (gA s 5) p.1 p.2 = true := fun hh => by rw [(tX _ _).mpr (Or.inl hh)] at this; cases this
          simpa using h2
        · obtain ⟨x, hx⟩ : ∃ x, ¬ (x < N → G (gA s 3) x = 0) := Classical.not_forall.mp hd
          have hx' := Classical.not_imp.mp hx
          obtain ⟨z, hz, h1⟩ := G_ne sD hx'.2
          exact ⟨(x, z), mem_prs.mpr ⟨hx'.1, hz⟩, by simp [hC x z h1], by simp [(tX x z).mpr (Or.inr h1)]⟩
      have hPw : PD N w := by
        refine ⟨Ww, by rw [wI]; exact h4, by rw [w0]; exact sE, by rw [w1]; exact sR, sDw, by rw [w5]; exact sXu, fun x _ => by rw [zw, G_rep], ?_, ?_⟩
        · intro x y z h1 h2 h3
          rw [w0] at h1; rw [w5] at h2 ⊢; rw [w1] at h3
          by_cases hh : tb (gA u 5) x z = true
          · exact Or.inl hh
          · refine Or.inr ((t3 x z (sE x y h1).1).mpr ⟨⟨y, (sE x y h1).2, h1, ?_⟩, h3, by simpa using hh⟩)
            rcases (tX y z).mp h2 with h5 | h5
            · exact absurd ((tX x z).mpr (hA x y z h1 h5 h3)) hh
            · exact h5
        · intro x z hh
          rw [w5]
          exact ((t3 x z (sDw x z hh).1).mp hh).2.2
      obtain ⟨s', es, Fs, Ws, sXs, c1, c2⟩ := ih n (r + 1) w hPw (by omega) (by omega) (by omega)
      have Fall : Fx [] [] [3, 4, 5] [] s w := (F.mono (by simp) (by simp) (by simp) (by simp)).trans ((Fv.mono (by simp) (by simp) (by simp) (by simp)).trans (Fw.mono (by simp) (by simp) (by simp) (by simp)))
      refine ⟨s', ?_, Fall.trans Fs, Ws, sXs, ?_, ?_⟩
      · rw [k_overDelete_42, if_pos e1, e, Option.bind_some, if_neg (fun hh => hd (hq.mp hh)), ev, Option.bind_some, ew, Option.bind_some, ofNat_succ]; exact es
      · intro x z hh; exact c1 x z (Or.inl (by rw [w5]; exact (tX x z).mpr hh))
      · rw [w0, w1] at c2; exact c2
theorem rederive_loop {N : Nat} {s : S} (h : Wf N s) (d3 : gA s 3 = rep 32 0) : ∃ u, k_rederive_6 BIG 0 s = k_rederive_62 u ∧ Fx [] [] [3] [] s u ∧ Wf N u ∧ (∀ x z, tb (gA u 3) x z = true ↔ x < N ∧ tb (gA s 5) x z = true ∧ (tb (gA s 0) x z = true ∨ ∃ y, y < N ∧ tb (gA s 0) x y = true ∧ tb (gA s 1) y z = true) ∧ tb (gA s 1) x z = false) := by
  obtain ⟨u, e, W, F, g⟩ := run_for k_rederive_6 k_rederive_62 N (fun k u => Wf N u ∧ Fx [] [] [3] [] s u ∧ ∀ x z, tb (gA u 3) x z = true ↔ x < k ∧ tb (gA s 5) x z = true ∧ (tb (gA s 0) x z = true ∨ ∃ y, y < N ∧ tb (gA s 0) x y = true ∧ tb (gA s 1) y z = true) ∧ tb (gA s 1) x z = false) (by
    intro n k u hk ⟨W, F, g⟩
    obtain ⟨a, b, c0, c1, c2, c3, c4, c5⟩ := id W
    have e5 : gA u 5 = gA s 5 := F.2.2.1 5 (by simp)
    have e0 : gA u 0 = gA s 0 := F.2.2.1 0 (by simp)
    have e1 : gA u 1 = gA s 1 := F.2.2.1 1 (by simp)
    by_cases q : G (gA u 5) k = 0
    · refine ⟨u, ?_, W, F, ?_⟩
      · rw [k_rederive_6, if_pos ((lt_n W (by omega)).mpr hk), ix_G (by omega) (by omega), Option.bind_some, if_pos q, ofNat_succ]
      · intro x z
        rw [g x z]
        constructor
        · rintro ⟨h1, h2⟩; exact ⟨by omega, h2⟩
        · rintro ⟨h1, h2, h3⟩
          refine ⟨?_, h2, h3⟩
          have : x ≠ k := fun e => by subst e; unfold tb at h2; rw [← e5, q, bt_zero] at h2; cases h2
          omega
    · obtain ⟨w, ew, hw⟩ := gatherReach_ok W (x := k) (by omega)
      refine ⟨Jvm.AM.sA u 3 ((gA u 3).set k ((G (gA u 5) k &&& (G (gA u 0) k ||| w)) &&& (G (gA u 1) k ^^^ (-1)))), ?_, W.sA (by simp [c3]), F.sA (by simp), ?_⟩
      · rw [k_rederive_6, if_pos ((lt_n W (by omega)).mpr hk), ix_G (by omega) (by omega), Option.bind_some, if_neg q, ix_G (by omega) (by omega), Option.bind_some, ew, Option.bind_some, ix_G (by omega) (by omega), Option.bind_some, st_ofNat _ _ (by omega) (by omega), Option.bind_some, ofNat_succ]
      · intro x z
        rw [gA_sA, if_pos rfl, tb_set (by omega)]
        by_cases q2 : x = k
        · subst q2
          rw [if_pos rfl, bt_andn, bt_and, bt_or, Bool.and_eq_true, Bool.and_eq_true, Bool.or_eq_true, hw z, e5, e0, e1]
          simp [tb, and_assoc]
        · rw [if_neg q2, g x z]
          constructor
          · rintro ⟨h1, h2⟩; exact ⟨by omega, h2⟩
          · rintro ⟨h1, h2⟩; exact ⟨by omega, h2⟩) (by
    intro n u ⟨W, _⟩
    rw [k_rederive_6, if_neg (fun hh => absurd ((lt_n W (by have := h.2.1; omega)).mp hh) (by omega))]) BIG s (by have := h.2.1; unfold BIG; omega) ⟨h, Fx.refl .., fun x z => by rw [d3, tb_rep]; simp⟩
  exact ⟨u, e, F, W, g⟩
theorem remove_ok {N : Nat} {s : S} (h : Cl N s) {a b : Nat} (ha : a < N) (hb : b < N) : ∃ s', k_removeEdgeAndRederive (Int32.ofNat a) (Int32.ofNat b) s = some s' ∧ Fx [5] [] [0, 1, 3, 4, 5] [] s s' ∧ Cl N s' ∧ gI s' 5 = gI s 5 - 1 ∧ (∀ x y, Ed s' x y ↔ Ed s x y ∧ ¬ (x = a ∧ y = b)) := by
  obtain ⟨W, h4, sE, hR⟩ := id h
  have sR := h.sub
  obtain ⟨a1, hN, c0, c1, c2, c3, c4, c5⟩ := id W
  have hNN : N * N ≤ 1024 := by have := Nat.mul_le_mul hN hN; omega
  have bbit : ∀ y, bt (k_bit (Int32.ofNat b)) y = decide (y = b) := fun y => shl_bit (by omega) y
  obtain ⟨t, ht⟩ : ∃ t, t = Jvm.AM.sI (Jvm.AM.sA s 0 ((gA s 0).set a (G (gA s 0) a &&& (k_bit (Int32.ofNat b) ^^^ (-1))))) 5 (gI s 5 - 1) := ⟨_, rfl⟩
  have Wt : Wf N t := by rw [ht]; exact (W.sA (by simp [c0])).sI (by decide)
  have Ft : Fx [5] [] [0, 1, 3, 4, 5] [] s t := by rw [ht]; exact ((Fx.refl ..).sA (by simp)).sI (by simp)
  have t0 : ∀ x y, tb (gA t 0) x y = true ↔ tb (gA s 0) x y = true ∧ ¬ (x = a ∧ y = b) := fun x y => by
    rw [ht, gA_sI, gA_sA, if_pos rfl, tb_set (by omega)]
    by_cases q : x = a
    · subst q
      rw [if_pos rfl, bt_andn, bbit, Bool.and_eq_true]
      simp [tb]
    · rw [if_neg q]; simp [q]
  have tA : ∀ f, f ≠ 0 → gA t f = gA s f := fun f hf => by rw [ht, gA_sI, gA_sA, if_neg hf]
  have tI : ∀ f, gI t f = if f = 5 then gI s 5 - 1 else gI s f := fun f => by rw [ht, gI_sI, gI_sA]
  -- overDelete
  obtain ⟨p, ep, Fp, p5, Wp⟩ := clearDoomed_ok Wt
  obtain ⟨u, eu, Fu, u3, u4, Wu⟩ := clearDelta_ok Wp
  have u0 : gA u 0 = gA t 0 := by rw [Fu.2.2.1 0 (by simp), Fp.2.2.1 0 (by simp)]
  have u1 : gA u 1 = gA s 1 := by rw [Fu.2.2.1 1 (by simp), Fp.2.2.1 1 (by simp), tA 1 (by decide)]
  have u5 : gA u 5 = rep 32 0 := by rw [Fu.2.2.1 5 (by simp), p5]
  have lu3 := Wu.2.2.2.2.2.1
  have lu1 := Wu.2.2.2.1
  obtain ⟨v, hv⟩ : ∃ v, v = Jvm.AM.sA u 3 ((gA u 3).set a ((k_bit (Int32.ofNat b) ||| G (gA u 1) b) &&& G (gA u 1) a)) := ⟨_, rfl⟩
  have Wv : Wf N v := by rw [hv]; exact Wu.sA (by simp [lu3])
  have vA : ∀ f, f ≠ 3 → gA v f = gA u f := fun f hf => by rw [hv, gA_sA, if_neg hf]
  have vI : ∀ f, gI v f = gI u f := fun f => by rw [hv, gI_sA]
  have v3 : ∀ x z, tb (gA v 3) x z = true ↔ x = a ∧ (z = b ∨ tb (gA s 1) b z = true) ∧ tb (gA s 1) a z = true := fun x z => by
    rw [hv, gA_sA, if_pos rfl, tb_set (by omega)]
    by_cases q : x = a
    · subst q
      rw [if_pos rfl, bt_and, bt_or, bbit, u1]
      simp [tb]
    · rw [if_neg q, u3, tb_rep]; simp [q]
  have v0 : ∀ x y, tb (gA v 0) x y = true ↔ tb (gA s 0) x y = true ∧ ¬ (x = a ∧ y = b) := fun x y => by rw [vA 0 (by decide), u0]; exact t0 x y
  have v1 : gA v 1 = gA s 1 := by rw [vA 1 (by decide), u1]
  have v5 : gA v 5 = rep 32 0 := by rw [vA 5 (by decide), u5]
  have hI4 : gI v 4 = Int32.ofNat (N * N + 2) := by rw [vI, Fu.1 4 (by simp), Fp.1 4 (by simp), tI]; exact h4
  have sEv : Sub N (gA v 0) := fun x y hh => sE x y ((v0 x y).mp hh).1
  have hPD : PD N v := by
    refine ⟨Wv, hI4, sEv, by rw [v1]; exact sR, ?_, ?_, ?_, ?_, ?_⟩
    · intro x z hh
      obtain ⟨rfl, _, hz⟩ := (v3 x z).mp hh
      exact sR x z hz
    · intro x z hh; rw [v5, tb_rep] at hh; cases hh
    · intro x _; rw [vA 4 (by decide), u4, G_rep]
    · intro x y z _ hh; rw [v5, tb_rep] at hh; cases hh
    · intro x z _; rw [v5, tb_rep]
  obtain ⟨o, eo, Fo, Wo, sXo, o1, o2⟩ := over_ok (N * N) BIG 0 v hPD (lack_le N _) (by omega) (by unfold BIG; omega)
  have oo0 : gA o 0 = gA v 0 := Fo.2.2.1 0 (by simp)
  have oo1 : gA o 1 = gA s 1 := by rw [Fo.2.2.1 1 (by simp), v1]
  -- every pair of the old view is derivable still, or doomed
  have split : ∀ x z, tb (gA s 1) x z = true → TC (Ed v) x z ∨ tb (gA o 5) x z = true := fun x z hh => by
    have key : ∀ x z, TC (Ed s) x z → TC (Ed s) x z ∧ (TC (Ed v) x z ∨ tb (gA o 5) x z = true) := fun x z tc => tc (fun x z => TC (Ed s) x z ∧ (TC (Ed v) x z ∨ tb (gA o 5) x z = true)) (fun x y e => ⟨TC.base e, by
      by_cases q : x = a ∧ y = b
      · obtain ⟨rfl, rfl⟩ := q
        exact Or.inr (o1 x y (Or.inr ((v3 x y).mpr ⟨rfl, Or.inl rfl, (hR x y).mpr (TC.base e)⟩)))
      · exact Or.inl (TC.base ((v0 x y).mpr ⟨e, q⟩))⟩) (fun x y z e ⟨p1, p2⟩ => ⟨TC.step e p1, by
      by_cases q : x = a ∧ y = b
      · obtain ⟨rfl, rfl⟩ := q
        exact Or.inr (o1 x z (Or.inr ((v3 x z).mpr ⟨rfl, Or.inr ((hR y z).mpr p1), (hR x z).mpr (TC.step e p1)⟩)))
      · have e' : tb (gA v 0) x y = true := (v0 x y).mpr ⟨e, q⟩
        rcases p2 with p2 | p2
        · exact Or.inl (TC.step e' p2)
        · exact Or.inr (o2 x y z e' p2 (by rw [v1]; exact (hR x z).mpr (TC.step e p1)))⟩)
    exact (key x z ((hR x z).mp hh)).2
  -- dropDoomed
  obtain ⟨k, ek, Fk, Wk, gk⟩ := drop_ok Wo
  have k1' : ∀ x z, tb (gA k 1) x z = true ↔ tb (gA s 1) x z = true ∧ tb (gA o 5) x z = false := fun x z => by
    unfold tb
    rw [gk x, oo1]
    by_cases q : x < N
    · rw [if_pos q, bt_andn, Bool.and_eq_true]; simp
    · rw [if_neg q]
      constructor
      · intro hh; exact absurd (sR x z hh).1 q
      · exact fun hh => hh.1
  have k0 : gA k 0 = gA v 0 := by rw [Fk.2.2.1 0 (by simp), oo0]
  have k5 : gA k 5 = gA o 5 := Fk.2.2.1 5 (by simp)
  -- rederive
  obtain ⟨c, ec, Fc, cc3, cc4, Wc⟩ := clearDelta_ok Wk
  have c0' : gA c 0 = gA v 0 := by rw [Fc.2.2.1 0 (by simp), k0]
  have c1' : gA c 1 = gA k 1 := Fc.2.2.1 1 (by simp)
  have c5' : gA c 5 = gA o 5 := by rw [Fc.2.2.1 5 (by simp), k5]
  obtain ⟨d, ed, Fd, Wd, gd⟩ := rederive_loop Wc cc3
  have d0 : gA d 0 = gA v 0 := by rw [Fd.2.2.1 0 (by simp), c0']
  have d1 : gA d 1 = gA k 1 := by rw [Fd.2.2.1 1 (by simp), c1']
  have d4 : gA d 4 = rep 32 0 := by rw [Fd.2.2.1 4 (by simp), cc4]
  have d3 : ∀ x z, tb (gA d 3) x z = true ↔ x < N ∧ tb (gA o 5) x z = true ∧ (tb (gA v 0) x z = true ∨ ∃ y, y < N ∧ tb (gA v 0) x y = true ∧ tb (gA k 1) y z = true) ∧ tb (gA k 1) x z = false := fun x z => by rw [gd x z, c0', c1', c5']
  have sub_s : ∀ x y, tb (gA v 0) x y = true → tb (gA s 0) x y = true := fun x y hh => ((v0 x y).mp hh).1
  have sound : ∀ x z, tb (gA k 1) x z = true → TC (Ed v) x z := fun x z hh => by
    obtain ⟨h1, h2⟩ := (k1' x z).mp hh
    exact (split x z h1).resolve_right (by rw [h2]; simp)
  have Edd : ∀ x y, Ed d x y ↔ Ed v x y := fun x y => by unfold Ed; rw [d0]
  have hPA : PA N (TC (Ed d)) d := by
    refine ⟨Wd, ?_, by rw [d0]; exact sEv, ?_, ?_, fun x _ => by rw [d4, G_rep], ?_, ?_, ?_, ?_, fun x y z e p => TC.step e p⟩
    · rw [Fd.1 4 (by simp), Fc.1 4 (by simp), Fk.1 4 (by simp), Fo.1 4 (by simp)]; exact hI4
    · intro x z hh; rw [d1] at hh; exact sR x z ((k1' x z).mp hh).1
    · intro x z hh
      obtain ⟨h1, h2, _⟩ := (d3 x z).mp hh
      exact sXo x z h2
    · intro x y z h1 h2
      rw [d0] at h1; rw [d1] at h2 ⊢
      have hs : tb (gA s 1) x z = true := (hR x z).mpr (TC.step (sub_s x y h1) ((hR y z).mp ((k1' y z).mp h2).1))
      by_cases q : tb (gA o 5) x z = true
      · by_cases q2 : tb (gA k 1) x z = true
        · exact Or.inl q2
        · exact Or.inr ((d3 x z).mpr ⟨(sEv x y h1).1, q, Or.inr ⟨y, (sEv x y h1).2, h1, h2⟩, by simpa using q2⟩)
      · exact Or.inl ((k1' x z).mpr ⟨hs, by simpa using q⟩)
    · intro x y h1
      rw [d0] at h1; rw [d1]
      have hs : tb (gA s 1) x y = true := (hR x y).mpr (TC.base (sub_s x y h1))
      by_cases q : tb (gA o 5) x y = true
      · by_cases q2 : tb (gA k 1) x y = true
        · exact Or.inl q2
        · exact Or.inr ((d3 x y).mpr ⟨(sEv x y h1).1, q, Or.inl h1, by simpa using q2⟩)
      · exact Or.inl ((k1' x y).mpr ⟨hs, by simpa using q⟩)
    · intro x z hh
      rw [d1]; exact ((d3 x z).mp hh).2.2.2
    · intro x z hh
      rw [TC.congr Edd]
      rw [d1] at hh
      rcases hh with hh | hh
      · exact sound x z hh
      · obtain ⟨_, _, h3, _⟩ := (d3 x z).mp hh
        rcases h3 with h3 | ⟨y, _, h4, h5⟩
        · exact TC.base h3
        · exact TC.step h4 (sound y z h5)
  obtain ⟨s', es, Fs, Ws, sRs, g1, g2, g3, g4⟩ := prop_full hPA
  have s0' : gA s' 0 = gA v 0 := by rw [Fs.2.2.1 0 (by simp), d0]
  have Fv : Fx [5] [] [0, 1, 3, 4, 5] [] s v := by rw [hv]; exact (Ft.trans ((Fp.mono (by simp) (by simp) (by simp) (by simp)).trans (Fu.mono (by simp) (by simp) (by simp) (by simp)))).sA (by simp)
  have Fr : Fx [] [] [0, 1, 3, 4, 5] [] v s' := (Fo.mono (by simp) (by simp) (by simp) (by simp)).trans ((Fk.mono (by simp) (by simp) (by simp) (by simp)).trans ((Fc.mono (by simp) (by simp) (by simp) (by simp)).trans ((Fd.mono (by simp) (by simp) (by simp) (by simp)).trans (Fs.mono (by simp) (by simp) (by simp) (by simp)))))
  refine ⟨s', ?_, Fv.trans (Fr.mono (by simp) (by simp) (by simp) (by simp)), ⟨Ws, ?_, ?_, ?_⟩, ?_, ?_⟩
  · unfold k_removeEdgeAndRederive
    rw [ix_G (by omega) (by omega), Option.bind_some, st_ofNat _ _ (by omega) (by omega), Option.bind_some, ← ht]
    have eover : k_overDelete (Int32.ofNat a) (Int32.ofNat b) t = some o := by
      unfold k_overDelete
      rw [ep, Option.bind_some, eu, Option.bind_some, ix_G (by omega) (by omega), Option.bind_some, ix_G (by omega) (by omega), Option.bind_some, st_ofNat _ _ (by omega) (by omega), Option.bind_some, ← hv]
      exact eo
    have ered : k_rederive k = some s' := by
      unfold k_rederive
      rw [ec, Option.bind_some, ed]
      unfold k_rederive_62
      rw [es, Option.bind_some]
    rw [eover, Option.bind_some, ek, Option.bind_some, ered, Option.bind_some]
  · rw [Fr.1 4 (by simp)]; exact hI4
  · rw [s0']; exact sEv
  · intro x z
    have e2 : ∀ x y, Ed s' x y ↔ Ed d x y := fun x y => by unfold Ed; rw [s0', d0]
    rw [TC.congr e2]
    exact ⟨g4 x z, fun tc => tc (fun x z => tb (gA s' 1) x z = true) g1 g2⟩
  · rw [Fr.1 5 (by simp), vI, Fu.1 5 (by simp), Fp.1 5 (by simp), tI, if_pos rfl]
  · intro x y; unfold Ed; rw [s0']; exact v0 x y
/-! ### DredViewKeeper: counts, the public methods -/
theorem pop_tab : ∀ m : Fin 256, k_popCount (Int32.ofNat m.val) = Int32.ofNat ((List.range 8).countP (bt (Int32.ofNat m.val))) := by decide +kernel
def rc (N : Nat) (w : Int32) : Nat := (List.range N).countP (bt w)
theorem pop_ok {N : Nat} (hN : N ≤ 8) {w : Int32} (h : ∀ y, bt w y = true → y < N) : k_popCount w = Int32.ofNat (rc N w) := by
  have h8 : ∀ y, 8 ≤ y → bt w y = false := fun y hy => by
    by_cases q : bt w y = true
    · have := h y q; omega
    · simpa using q
  have hlt : w.toBitVec.toNat < 256 := by
    apply Nat.lt_pow_two_of_testBit (n := 8)
    intro i hi
    exact h8 i hi
  have e : w = Int32.ofNat w.toBitVec.toNat := by
    apply Int32.toBitVec_inj.mp
    show w.toBitVec = BitVec.ofNat 32 w.toBitVec.toNat
    simp
  have hp := pop_tab ⟨w.toBitVec.toNat, hlt⟩
  simp only at hp
  rw [← e] at hp
  rw [hp]
  congr 1
  -- the bits from N on are not set
  unfold rc
  have : List.range 8 = List.range N ++ (List.range (8 - N)).map (N + ·) := by
    rw [← List.range_add]; congr 1; omega
  rw [this, List.countP_append]
  have z : ((List.range (8 - N)).map (N + ·)).countP (bt w) = 0 := by
    rw [List.countP_eq_zero]
    intro y hy
    obtain ⟨i, _, rfl⟩ := List.mem_map.mp hy
    intro q
    have := h _ q; omega
  rw [z]; rfl
def sumTo (f : Nat → Nat) : Nat → Nat
  | 0 => 0
  | k + 1 => sumTo f k + f k
theorem sumTo_range (f : Nat → Nat) : ∀ k, ((List.range k).map f).sum = sumTo f k
  | 0 => rfl
  | k + 1 => by rw [List.range_succ, List.map_append, List.sum_append, sumTo_range f k]; simp [sumTo]
theorem sumTo_congr {f g : Nat → Nat} : ∀ {k : Nat}, (∀ x, x < k → f x = g x) → sumTo f k = sumTo g k
  | 0, _ => rfl
  | k + 1, h => by simp only [sumTo]; rw [sumTo_congr fun x hx => h x (by omega), h k (by omega)]
/-- how many pairs a test picks, by rows -/
def cnt (N : Nat) (f : Nat → Nat → Bool) : Nat := (prs N).countP fun p => f p.1 p.2
theorem cnt_rows (N : Nat) (f : Nat → Nat → Bool) : cnt N f = sumTo (fun x => (List.range N).countP (f x)) N := by
  unfold cnt prs
  rw [List.countP_flatMap, ← sumTo_range]
  congr 1
  apply List.map_congr_left
  intro x _
  simp [List.countP_map, Function.comp_def]
theorem cnt_le (N : Nat) (f : Nat → Nat → Bool) : cnt N f ≤ N * N := by
  have h := List.countP_le_length (p := fun p : Nat × Nat => f p.1 p.2) (l := prs N)
  have e : (prs N).length = N * N := by simp [prs, List.length_flatMap, List.map_const']
  unfold cnt; omega
theorem viewSize_ok {N : Nat} {s : S} (h : Wf N s) (hN : N ≤ 8) (sR : Sub N (gA s 1)) : k_viewSize s = some (Int32.ofNat (cnt N (tb (gA s 1)))) := by
  obtain ⟨a, b, c0, c1, c2, c3, c4, c5⟩ := id h
  obtain ⟨w, u, e, rfl, g⟩ := run_for2 k_viewSize_4 (fun c u => some c) N (fun k c u => u = s ∧ c = Int32.ofNat (sumTo (fun x => rc N (G (gA s 1) x)) k)) (by
    intro n k c u hk ⟨hu, hc⟩
    subst hu hc
    refine ⟨_, u, ?_, rfl, rfl⟩
    rw [k_viewSize_4, if_pos ((lt_n h (by omega)).mpr hk), ix_G (by omega) (by omega), Option.bind_some, pop_ok hN (fun y hy => (sR k y hy).2), ofNat_add', ofNat_succ]; rfl) (by
    intro n c u ⟨hu, _⟩
    subst hu
    rw [k_viewSize_4, if_neg (fun hh => absurd ((lt_n h (by omega)).mp hh) (by omega))]) BIG 0 s (by unfold BIG; omega) ⟨rfl, rfl⟩
  rw [show k_viewSize u = k_viewSize_4 BIG 0 (Int32.ofNat 0) u from rfl, e, g, cnt_rows]; rfl
theorem countAdded_ok {N : Nat} {s : S} (h : Wf N s) (hN : N ≤ 8) (sR : Sub N (gA s 1)) : k_countAdded s = some (Int32.ofNat (cnt N (fun x y => tb (gA s 1) x y && !tb (gA s 2) x y))) := by
  obtain ⟨a, b, c0, c1, c2, c3, c4, c5⟩ := id h
  obtain ⟨w, u, e, rfl, g⟩ := run_for2 k_countAdded_4 (fun c u => some c) N (fun k c u => u = s ∧ c = Int32.ofNat (sumTo (fun x => rc N (G (gA s 1) x &&& (G (gA s 2) x ^^^ (-1)))) k)) (by
    intro n k c u hk ⟨hu, hc⟩
    subst hu hc
    refine ⟨_, u, ?_, rfl, rfl⟩
    rw [k_countAdded_4, if_pos ((lt_n h (by omega)).mpr hk), ix_G (by omega) (by omega), Option.bind_some, ix_G (by omega) (by omega), Option.bind_some, pop_ok hN (fun y hy => by
      rw [bt_andn, Bool.and_eq_true] at hy; exact (sR k y hy.1).2), ofNat_add', ofNat_succ]; rfl) (by
    intro n c u ⟨hu, _⟩
    subst hu
    rw [k_countAdded_4, if_neg (fun hh => absurd ((lt_n h (by omega)).mp hh) (by omega))]) BIG 0 s (by unfold BIG; omega) ⟨rfl, rfl⟩
  rw [show k_countAdded u = k_countAdded_4 BIG 0 (Int32.ofNat 0) u from rfl, e, g, cnt_rows]
  congr 2
  apply sumTo_congr
  intro x _
  unfold rc
  apply List.countP_congr
  intro y _
  rw [bt_andn]; rfl
theorem countRemoved_ok {N : Nat} {s : S} (h : Wf N s) (hN : N ≤ 8) (sS : Sub N (gA s 2)) : k_countRemoved s = some (Int32.ofNat (cnt N (fun x y => tb (gA s 2) x y && !tb (gA s 1) x y))) := by
  obtain ⟨a, b, c0, c1, c2, c3, c4, c5⟩ := id h
  obtain ⟨w, u, e, rfl, g⟩ := run_for2 k_countRemoved_4 (fun c u => some c) N (fun k c u => u = s ∧ c = Int32.ofNat (sumTo (fun x => rc N (G (gA s 2) x &&& (G (gA s 1) x ^^^ (-1)))) k)) (by
    intro n k c u hk ⟨hu, hc⟩
    subst hu hc
    refine ⟨_, u, ?_, rfl, rfl⟩
    rw [k_countRemoved_4, if_pos ((lt_n h (by omega)).mpr hk), ix_G (by omega) (by omega), Option.bind_some, ix_G (by omega) (by omega), Option.bind_some, pop_ok hN (fun y hy => by
      rw [bt_andn, Bool.and_eq_true] at hy; exact (sS k y hy.1).2), ofNat_add', ofNat_succ]; rfl) (by
    intro n c u ⟨hu, _⟩
    subst hu
    rw [k_countRemoved_4, if_neg (fun hh => absurd ((lt_n h (by omega)).mp hh) (by omega))]) BIG 0 s (by unfold BIG; omega) ⟨rfl, rfl⟩
  rw [show k_countRemoved u = k_countRemoved_4 BIG 0 (Int32.ofNat 0) u from rfl, e, g, cnt_rows]
  congr 2
  apply sumTo_congr
  intro x _
  unfold rc
  apply List.countP_congr
  intro y _
  rw [bt_andn]; rfl
theorem sumTo_upd {f g : Nat → Nat} {a d : Nat} (h : ∀ x, x ≠ a → f x = g x) (ha : f a = g a + d) : ∀ {k : Nat}, a < k → sumTo f k = sumTo g k + d
  | 0, hk => absurd hk (Nat.not_lt_zero _)
  | k + 1, hk => by
    simp only [sumTo]
    by_cases e : a = k
    · subst e
      rw [ha, sumTo_congr (g := g) fun x hx => h x (by omega)]; omega
    · rw [sumTo_upd h ha (k := k) (by omega), h k (Ne.symm e)]; omega
theorem countP_range (f : Nat → Bool) (N : Nat) : (List.range N).countP f = sumTo (fun y => if f y then 1 else 0) N := by
  induction N with
  | zero => rfl
  | succ N ih => rw [List.range_succ, List.countP_append, ih]; simp [sumTo, List.countP_cons]
theorem cnt_add {N : Nat} {f g : Nat → Nat → Bool} {a b : Nat} (ha : a < N) (hb : b < N) (h : ∀ x y, ¬ (x = a ∧ y = b) → f x y = g x y) (h1 : f a b = true) (h2 : g a b = false) : cnt N f = cnt N g + 1 := by
  rw [cnt_rows, cnt_rows]
  refine sumTo_upd (a := a) (fun x hx => ?_) ?_ ha
  · apply List.countP_congr
    intro y _
    rw [h x y (fun q => hx q.1)]
  · rw [countP_range, countP_range]
    refine sumTo_upd (a := b) (fun y hy => ?_) ?_ hb
    · rw [h a y (fun q => hy q.2)]
    · rw [h1, h2]; rfl
/-- the whole invariant -/
def Inv (N Mx : Nat) (s : S) : Prop := Cl N s ∧ N ≤ 8 ∧ gI s 3 = Int32.ofNat Mx ∧ Mx ≤ 256 ∧ gI s 5 = Int32.ofNat (cnt N (tb (gA s 0))) ∧ cnt N (tb (gA s 0)) ≤ Mx ∧ (∃ p, gI s 6 = Int32.ofNat p ∧ p ≤ 16) ∧ (gA s 6).length = 16 ∧ (gA s 7).length = 16 ∧ (gA s 8).length = 16
theorem valid_yes {N : Nat} {s : S} (h : Wf N s) {a : Nat} (ha : a < N) : k_isValid (Int32.ofNat a) s = 1 := by
  have := h.2.1
  rw [valid h, if_neg (ofNat_nonneg (by omega)), if_pos ((ofNat_lt (by omega) (by omega)).mpr ha)]
theorem valid_cases {N : Nat} {s : S} (h : Wf N s) (v : Int32) : k_isValid v s = 0 ∨ ∃ a, a < N ∧ v = Int32.ofNat a := by
  have := h.2.1
  by_cases q : v < 0
  · left; rw [valid h, if_pos q]
  · by_cases r : v < Int32.ofNat N
    · right
      exact ⟨v.toNatClampNeg, clamp_lt q r (by omega), (eq_ofNat q).1⟩
    · left; rw [valid h, if_neg q, if_neg r]
theorem present_ok {N : Nat} {s : S} (h : Wf N s) {a b : Nat} (ha : a < N) (hb : b < N) : k_edgePresent (Int32.ofNat a) (Int32.ofNat b) s = some (if tb (gA s 0) a b = true then 1 else 0) := by
  obtain ⟨a1, hN, c0, c1, c2, c3, c4, c5⟩ := id h
  unfold k_edgePresent
  rw [ix_G (by omega) (by omega), Option.bind_some]
  by_cases q : tb (gA s 0) a b = true
  · rw [if_neg (fun hh => by rw [(test_bit _ (by omega)).mp hh |> fun z => (show tb (gA s 0) a b = false from z)] at q; cases q), if_pos q]
  · rw [if_pos ((test_bit _ (by omega)).mpr (by simpa [tb] using q)), if_neg q]
theorem ofNat_inj {a b : Nat} (ha : a < 2147483648) (hb : b < 2147483648) : Int32.ofNat a = Int32.ofNat b ↔ a = b := by
  constructor
  · intro h
    have := congrArg Int32.toInt h
    rw [ofNat_toInt ha, ofNat_toInt hb] at this; omega
  · rintro rfl; rfl
/-- what does not touch the view keeps the invariant -/
theorem Inv.keep {N Mx : Nat} {s t : S} (h : Inv N Mx s) (F : ∀ f, f = 2 ∨ f = 3 ∨ f = 4 ∨ f = 5 ∨ f = 6 → gI t f = gI s f) (A : ∀ f, f ≠ 2 → gA t f = gA s f) (l2 : (gA t 2).length = 32) : Inv N Mx t := by
  obtain ⟨⟨⟨a1, a2, c0, c1, c2, c3, c4, c5⟩, h4, sE, hR⟩, hN, h3, hM, h5, hc, ⟨p, hp, hp2⟩, l6, l7, l8⟩ := h
  have E : ∀ x z, TC (Ed t) x z ↔ TC (Ed s) x z := fun x z => TC.congr fun x y => by unfold Ed; rw [A 0 (by decide)]
  refine ⟨⟨⟨by rw [F 2 (by simp)]; exact a1, a2, by rw [A 0 (by decide)]; exact c0, by rw [A 1 (by decide)]; exact c1, l2, by rw [A 3 (by decide)]; exact c3, by rw [A 4 (by decide)]; exact c4, by rw [A 5 (by decide)]; exact c5⟩, by rw [F 4 (by simp)]; exact h4, by rw [A 0 (by decide)]; exact sE, fun x z => by rw [A 1 (by decide), E]; exact hR x z⟩, hN, by rw [F 3 (by simp)]; exact h3, hM, by rw [F 5 (by simp), A 0 (by decide)]; exact h5, by rw [A 0 (by decide)]; exact hc, ⟨p, by rw [F 6 (by simp)]; exact hp, hp2⟩, by rw [A 6 (by decide)]; exact l6, by rw [A 7 (by decide)]; exact l7, by rw [A 8 (by decide)]; exact l8⟩
/-- a new edge, with room for it -/
theorem inv_add {N Mx : Nat} {s : S} (h : Inv N Mx s) {a b : Nat} (ha : a < N) (hb : b < N) (hne : tb (gA s 0) a b = false) (hroom : cnt N (tb (gA s 0)) < Mx) : ∃ s', k_addEdgeAndPropagate (Int32.ofNat a) (Int32.ofNat b) s = some s' ∧ Fx [5] [] [0, 1, 3, 4] [] s s' ∧ Inv N Mx s' ∧ (∀ x y, Ed s' x y ↔ Ed s x y ∨ (x = a ∧ y = b)) ∧ (∀ x z, tb (gA s 1) x z = true → tb (gA s' 1) x z = true) := by
  obtain ⟨C, hN, h3, hM, h5, hc, ⟨p, hp, hp2⟩, l6, l7, l8⟩ := h
  obtain ⟨s', e, F, C', g5, gE, gR⟩ := add_ok C ha hb
  have ec : cnt N (tb (gA s' 0)) = cnt N (tb (gA s 0)) + 1 := by
    refine cnt_add ha hb (fun x y q => ?_) ((gE a b).mpr (Or.inr ⟨rfl, rfl⟩)) hne
    have := gE x y
    unfold Ed at this
    by_cases q1 : tb (gA s 0) x y = true
    · rw [q1, this.mpr (Or.inl q1)]
    · have q2 : ¬ tb (gA s' 0) x y = true := fun hh => (this.mp hh).elim q1 q
      rw [show tb (gA s 0) x y = false by simpa using q1]; simpa using q2
  refine ⟨s', e, F, ⟨C', hN, by rw [F.1 3 (by simp)]; exact h3, hM, ?_, by omega, ⟨p, by rw [F.1 6 (by simp)]; exact hp, hp2⟩, by rw [F.2.2.1 6 (by simp)]; exact l6, by rw [F.2.2.1 7 (by simp)]; exact l7, by rw [F.2.2.1 8 (by simp)]; exact l8⟩, gE, gR⟩
  rw [g5, h5, ec, ofNat_succ]
theorem inv_remove {N Mx : Nat} {s : S} (h : Inv N Mx s) {a b : Nat} (ha : a < N) (hb : b < N) (hne : tb (gA s 0) a b = true) : ∃ s', k_removeEdgeAndRederive (Int32.ofNat a) (Int32.ofNat b) s = some s' ∧ Fx [5] [] [0, 1, 3, 4, 5] [] s s' ∧ Inv N Mx s' ∧ (∀ x y, Ed s' x y ↔ Ed s x y ∧ ¬ (x = a ∧ y = b)) := by
  obtain ⟨C, hN, h3, hM, h5, hc, ⟨p, hp, hp2⟩, l6, l7, l8⟩ := h
  obtain ⟨s', e, F, C', g5, gE⟩ := remove_ok C ha hb
  have ec : cnt N (tb (gA s 0)) = cnt N (tb (gA s' 0)) + 1 := by
    refine cnt_add ha hb (fun x y q => ?_) hne ?_
    · have := gE x y
      unfold Ed at this
      by_cases q1 : tb (gA s 0) x y = true
      · rw [q1, this.mpr ⟨q1, q⟩]
      · have q2 : ¬ tb (gA s' 0) x y = true := fun hh => q1 (this.mp hh).1
        rw [show tb (gA s 0) x y = false by simpa using q1]; symm; simpa using q2
    · have := gE a b
      unfold Ed at this
      have q2 : ¬ tb (gA s' 0) a b = true := fun hh => (this.mp hh).2 ⟨rfl, rfl⟩
      simpa using q2
  refine ⟨s', e, F, ⟨C', hN, by rw [F.1 3 (by simp)]; exact h3, hM, ?_, by omega, ⟨p, by rw [F.1 6 (by simp)]; exact hp, hp2⟩, by rw [F.2.2.1 6 (by simp)]; exact l6, by rw [F.2.2.1 7 (by simp)]; exact l7, by rw [F.2.2.1 8 (by simp)]; exact l8⟩, gE⟩
  rw [g5, h5, ec, ← ofNat_succ]
  simp
/-- insertEdge -/
theorem insert_ok {N Mx : Nat} {s : S} (h : Inv N Mx s) (v w : Int32) : (k_insertEdge v w s = some (-1, s) ∧ (k_isValid v s = 0 ∨ k_isValid w s = 0)) ∨ ∃ a b, a < N ∧ b < N ∧ v = Int32.ofNat a ∧ w = Int32.ofNat b ∧
    ((tb (gA s 0) a b = true ∧ k_insertEdge v w s = some (-2, s)) ∨ (tb (gA s 0) a b = false ∧ cnt N (tb (gA s 0)) = Mx ∧ k_insertEdge v w s = some (-4, s)) ∨
     (tb (gA s 0) a b = false ∧ cnt N (tb (gA s 0)) < Mx ∧ ∃ s', k_insertEdge v w s = some (Int32.ofNat (cnt N (fun x y => tb (gA s' 1) x y && !tb (gA s 1) x y)), s') ∧ Inv N Mx s' ∧ (∀ x y, Ed s' x y ↔ Ed s x y ∨ (x = a ∧ y = b)) ∧
        gI s' 7 = Int32.ofNat (cnt N (fun x y => tb (gA s' 1) x y && !tb (gA s 1) x y)) ∧ gI s' 8 = 0 ∧ gI s' 6 = gI s 6 ∧ gA s' 6 = gA s 6 ∧ gA s' 7 = gA s 7 ∧ gA s' 8 = gA s 8)) := by
  have W := h.1.1
  obtain ⟨C, hN, h3, hM, h5, hc, ⟨p, hp, hp2⟩, l6, l7, l8⟩ := id h
  rcases valid_cases W v with hv | ⟨a, ha, rfl⟩
  · left; refine ⟨?_, Or.inl hv⟩; unfold k_insertEdge; rw [if_pos hv]
  rcases valid_cases W w with hw | ⟨b, hb, rfl⟩
  · left; refine ⟨?_, Or.inr hw⟩; unfold k_insertEdge; rw [valid_yes W ha, if_neg (by decide), if_pos hw]
  right
  refine ⟨a, b, ha, hb, rfl, rfl, ?_⟩
  have hNN : N * N ≤ 64 := by have := Nat.mul_le_mul hN hN; omega
  have hcl := cnt_le N (tb (gA s 0))
  by_cases q : tb (gA s 0) a b = true
  · left; refine ⟨q, ?_⟩
    unfold k_insertEdge
    rw [valid_yes W ha, valid_yes W hb, if_neg (by decide), if_neg (by decide), present_ok W ha hb, if_pos q, Option.bind_some, if_neg (by decide)]
  · right
    have q' : tb (gA s 0) a b = false := by simpa using q
    by_cases r : cnt N (tb (gA s 0)) = Mx
    · left; refine ⟨q', r, ?_⟩
      unfold k_insertEdge
      rw [valid_yes W ha, valid_yes W hb, if_neg (by decide), if_neg (by decide), present_ok W ha hb, if_neg q, Option.bind_some, if_pos rfl, if_pos (by rw [h5, h3, r])]
    · right
      refine ⟨q', by omega, ?_⟩
      obtain ⟨t, et, Ft, t2, Wt⟩ := snap_ok W
      have It : Inv N Mx t := h.keep (fun f hf => Ft.1 f (by simp)) (fun f hf => Ft.2.2.1 f (by simpa using hf)) Wt.2.2.2.2.1
      have t0 : gA t 0 = gA s 0 := Ft.2.2.1 0 (by simp)
      have t1 : gA t 1 = gA s 1 := Ft.2.2.1 1 (by simp)
      obtain ⟨u, eu, Fu, Iu, gE, gR⟩ := inv_add It ha hb (by rw [t0]; exact q') (by rw [t0]; omega)
      have u2 : gA u 2 = gA s 1 := by rw [Fu.2.2.1 2 (by simp), t2]
      have ec := countAdded_ok Iu.1.1 hN Iu.1.sub
      rw [u2] at ec
      obtain ⟨s', hs'⟩ : ∃ s', s' = Jvm.AM.sI (Jvm.AM.sI u 7 (Int32.ofNat (cnt N (fun x y => tb (gA u 1) x y && !tb (gA s 1) x y)))) 8 0 := ⟨_, rfl⟩
      have sA' : ∀ f, gA s' f = gA u f := fun f => by rw [hs', gA_sI, gA_sI]
      have sI' : ∀ f, f ≠ 7 → f ≠ 8 → gI s' f = gI u f := fun f h7 h8 => by rw [hs', gI_sI, if_neg h8, gI_sI, if_neg h7]
      refine ⟨s', ?_, Iu.keep (fun f hf => sI' f (by omega) (by omega)) (fun f _ => sA' f) (by rw [sA']; exact Iu.1.1.2.2.2.2.1), ?_, ?_, ?_, ?_, ?_, ?_, ?_⟩
      · unfold k_insertEdge
        rw [valid_yes W ha, valid_yes W hb, if_neg (by decide), if_neg (by decide), present_ok W ha hb, if_neg q, Option.bind_some, if_pos rfl, if_neg (by rw [h5, h3, ofNat_inj (by omega) (by omega)]; exact r), et, Option.bind_some, eu, Option.bind_some, ec, Option.bind_some, sA', hs']
      · intro x y
        unfold Ed at gE ⊢
        rw [sA', gE x y, t0]
      · rw [sA', hs', gI_sI, if_neg (by decide), gI_sI, if_pos rfl]
      · rw [hs', gI_sI, if_pos rfl]
      · rw [sI' 6 (by decide) (by decide), Fu.1 6 (by simp), Ft.1 6 (by simp)]
      · rw [sA', Fu.2.2.1 6 (by simp), Ft.2.2.1 6 (by simp)]
      · rw [sA', Fu.2.2.1 7 (by simp), Ft.2.2.1 7 (by simp)]
      · rw [sA', Fu.2.2.1 8 (by simp), Ft.2.2.1 8 (by simp)]
/-- deleteEdge -/
theorem delete_ok {N Mx : Nat} {s : S} (h : Inv N Mx s) (v w : Int32) : (k_deleteEdge v w s = some (-1, s) ∧ (k_isValid v s = 0 ∨ k_isValid w s = 0)) ∨ ∃ a b, a < N ∧ b < N ∧ v = Int32.ofNat a ∧ w = Int32.ofNat b ∧
    ((tb (gA s 0) a b = false ∧ k_deleteEdge v w s = some (-3, s)) ∨
     (tb (gA s 0) a b = true ∧ ∃ s', k_deleteEdge v w s = some (Int32.ofNat (cnt N (fun x y => tb (gA s 1) x y && !tb (gA s' 1) x y)), s') ∧ Inv N Mx s' ∧ (∀ x y, Ed s' x y ↔ Ed s x y ∧ ¬ (x = a ∧ y = b)) ∧
        gI s' 8 = Int32.ofNat (cnt N (fun x y => tb (gA s 1) x y && !tb (gA s' 1) x y)) ∧ gI s' 7 = 0 ∧ gI s' 6 = gI s 6 ∧ gA s' 6 = gA s 6 ∧ gA s' 7 = gA s 7 ∧ gA s' 8 = gA s 8)) := by
  have W := h.1.1
  obtain ⟨C, hN, h3, hM, h5, hc, ⟨p, hp, hp2⟩, l6, l7, l8⟩ := id h
  rcases valid_cases W v with hv | ⟨a, ha, rfl⟩
  · left; refine ⟨?_, Or.inl hv⟩; unfold k_deleteEdge; rw [if_pos hv]
  rcases valid_cases W w with hw | ⟨b, hb, rfl⟩
  · left; refine ⟨?_, Or.inr hw⟩; unfold k_deleteEdge; rw [valid_yes W ha, if_neg (by decide), if_pos hw]
  right
  refine ⟨a, b, ha, hb, rfl, rfl, ?_⟩
  by_cases q : tb (gA s 0) a b = true
  · right
    refine ⟨q, ?_⟩
    obtain ⟨t, et, Ft, t2, Wt⟩ := snap_ok W
    have It : Inv N Mx t := h.keep (fun f hf => Ft.1 f (by simp)) (fun f hf => Ft.2.2.1 f (by simpa using hf)) Wt.2.2.2.2.1
    have t0 : gA t 0 = gA s 0 := Ft.2.2.1 0 (by simp)
    have t1 : gA t 1 = gA s 1 := Ft.2.2.1 1 (by simp)
    obtain ⟨u, eu, Fu, Iu, gE⟩ := inv_remove It ha hb (by rw [t0]; exact q)
    have u2 : gA u 2 = gA s 1 := by rw [Fu.2.2.1 2 (by simp), t2]
    have ec := countRemoved_ok Iu.1.1 hN (by rw [u2]; exact C.sub)
    rw [u2] at ec
    obtain ⟨s', hs'⟩ : ∃ s', s' = Jvm.AM.sI (Jvm.AM.sI u 8 (Int32.ofNat (cnt N (fun x y => tb (gA s 1) x y && !tb (gA u 1) x y)))) 7 0 := ⟨_, rfl⟩
    have sA' : ∀ f, gA s' f = gA u f := fun f => by rw [hs', gA_sI, gA_sI]
    have sI' : ∀ f, f ≠ 7 → f ≠ 8 → gI s' f = gI u f := fun f h7 h8 => by rw [hs', gI_sI, if_neg h7, gI_sI, if_neg h8]
    refine ⟨s', ?_, Iu.keep (fun f hf => sI' f (by omega) (by omega)) (fun f _ => sA' f) (by rw [sA']; exact Iu.1.1.2.2.2.2.1), ?_, ?_, ?_, ?_, ?_, ?_, ?_⟩
    · unfold k_deleteEdge
      rw [valid_yes W ha, valid_yes W hb, if_neg (by decide), if_neg (by decide), present_ok W ha hb, if_pos q, Option.bind_some, if_neg (by decide), et, Option.bind_some, eu, Option.bind_some, ec, Option.bind_some, sA', hs']
    · intro x y
      unfold Ed at gE ⊢
      rw [sA', gE x y, t0]
    · rw [sA', hs', gI_sI, if_neg (by decide), gI_sI, if_pos rfl]
    · rw [hs', gI_sI, if_pos rfl]
    · rw [sI' 6 (by decide) (by decide), Fu.1 6 (by simp), Ft.1 6 (by simp)]
    · rw [sA', Fu.2.2.1 6 (by simp), Ft.2.2.1 6 (by simp)]
    · rw [sA', Fu.2.2.1 7 (by simp), Ft.2.2.1 7 (by simp)]
    · rw [sA', Fu.2.2.1 8 (by simp), Ft.2.2.1 8 (by simp)]
  · left
    refine ⟨by simpa using q, ?_⟩
    unfold k_deleteEdge
    rw [valid_yes W ha, valid_yes W hb, if_neg (by decide), if_neg (by decide), present_ok W ha hb, if_neg q, Option.bind_some, if_pos rfl]
/-- staging -/
theorem stage_ok {N Mx : Nat} {s : S} (h : Inv N Mx s) (kind v w : Int32) : (k_stage kind v w s = some (-1, s) ∧ (k_isValid v s = 0 ∨ k_isValid w s = 0)) ∨ ∃ a b p, a < N ∧ b < N ∧ v = Int32.ofNat a ∧ w = Int32.ofNat b ∧ gI s 6 = Int32.ofNat p ∧
    ((p = 16 ∧ k_stage kind v w s = some (-5, s)) ∨ (p < 16 ∧ ∃ s', k_stage kind v w s = some (Int32.ofNat (p + 1), s') ∧ Inv N Mx s' ∧ s' = Jvm.AM.sI (Jvm.AM.sA (Jvm.AM.sA (Jvm.AM.sA s 6 ((gA s 6).set p kind)) 7 ((gA s 7).set p v)) 8 ((gA s 8).set p w)) 6 (Int32.ofNat (p + 1)))) := by
  have W := h.1.1
  obtain ⟨C, hN, h3, hM, h5, hc, ⟨p, hp, hp2⟩, l6, l7, l8⟩ := id h
  rcases valid_cases W v with hv | ⟨a, ha, rfl⟩
  · left; refine ⟨?_, Or.inl hv⟩; unfold k_stage; rw [if_pos hv]
  rcases valid_cases W w with hw | ⟨b, hb, rfl⟩
  · left; refine ⟨?_, Or.inr hw⟩; unfold k_stage; rw [valid_yes W ha, if_neg (by decide), if_pos hw]
  right
  refine ⟨a, b, p, ha, hb, rfl, rfl, hp, ?_⟩
  by_cases q : p < 16
  · right
    refine ⟨q, _, ?_, ?_, rfl⟩
    · unfold k_stage
      rw [valid_yes W ha, valid_yes W hb, if_neg (by decide), if_neg (by decide), hp, if_pos ((lt_lit (by omega)).mpr q), st_ofNat _ _ (by omega) (by omega), Option.bind_some, st_ofNat _ _ (by omega) (by omega), Option.bind_some, st_ofNat _ _ (by omega) (by omega), Option.bind_some, ofNat_succ]
    · obtain ⟨⟨⟨a1, a2, c0, c1, c2, c3, c4, c5⟩, h4, sE, hR⟩, _⟩ := id h
      refine ⟨⟨⟨?_, a2, ?_, ?_, ?_, ?_, ?_, ?_⟩, ?_, ?_, ?_⟩, hN, ?_, hM, ?_, ?_, ⟨p + 1, ?_, by omega⟩, ?_, ?_, ?_⟩
      all_goals simp [gI_sI, gI_sA, gA_sI, gA_sA, *]
      intro x z
      exact TC.congr fun x y => by unfold Ed; simp [gA_sI, gA_sA]
  · left
    have : p = 16 := by omega
    refine ⟨this, ?_⟩
    unfold k_stage
    rw [valid_yes W ha, valid_yes W hb, if_neg (by decide), if_neg (by decide), hp, if_neg (fun hh => q ((lt_lit (by omega)).mp hh))]
/-- one staged entry, applied to the edges -/
def apE (N Mx : Nat) (f : Nat → Nat → Bool) (k v w : Int32) : Nat → Nat → Bool := fun x y =>
  if k = 1 then f x y || (decide (cnt N f < Mx) && decide (v = Int32.ofNat x) && decide (w = Int32.ofNat y) && decide (x < N) && decide (y < N))
  else if k = 2 then f x y && !(decide (v = Int32.ofNat x) && decide (w = Int32.ofNat y)) else f x y
theorem apply_ok {N Mx : Nat} {s : S} (h : Inv N Mx s) {i : Nat} (hi : i < 16) : ∃ s', k_applyStaged (Int32.ofNat i) s = some s' ∧ Inv N Mx s' ∧ Fx [5] [] [0, 1, 3, 4, 5] [] s s' ∧ ∀ x y, tb (gA s' 0) x y = apE N Mx (tb (gA s 0)) (G (gA s 6) i) (G (gA s 7) i) (G (gA s 8) i) x y := by
  have W := h.1.1
  obtain ⟨C, hN, h3, hM, h5, hc, ⟨p, hp, hp2⟩, l6, l7, l8⟩ := id h
  have hNN : N * N ≤ 64 := by have := Nat.mul_le_mul hN hN; omega
  have hcl := cnt_le N (tb (gA s 0))
  have sE := C.2.2.1
  have e0 : ¬ Int32.ofNat i < 0 := ofNat_nonneg (by omega)
  have e1 : Int32.ofNat i < 16 := (lt_lit (by omega)).mpr hi
  have start : k_applyStaged (Int32.ofNat i) s = (if k_isValid (G (gA s 7) i) s = 0 then some s else if k_isValid (G (gA s 8) i) s = 0 then some s else (k_edgePresent (G (gA s 7) i) (G (gA s 8) i) s).bind fun r45 => if G (gA s 6) i = 1 then (if r45 = 0 then (if gI s 5 < gI s 3 then (k_addEdgeAndPropagate (G (gA s 7) i) (G (gA s 8) i) s).bind fun r => some r else some s) else some s) else (if G (gA s 6) i = 2 then (if r45 = 0 then some s else (k_removeEdgeAndRederive (G (gA s 7) i) (G (gA s 8) i) s).bind fun r => some r) else some s)) := by
    unfold k_applyStaged
    rw [if_neg e0, if_pos e1, ix_G (by omega) (by omega), Option.bind_some, ix_G (by omega) (by omega), Option.bind_some, ix_G (by omega) (by omega)]
    simp only [Option.bind_some]
  -- an entry that names no node: it can't hold an edge
  have noop : (∀ x y, tb (gA s 0) x y = apE N Mx (tb (gA s 0)) (G (gA s 6) i) (G (gA s 7) i) (G (gA s 8) i) x y) → k_applyStaged (Int32.ofNat i) s = some s → ∃ s', k_applyStaged (Int32.ofNat i) s = some s' ∧ Inv N Mx s' ∧ Fx [5] [] [0, 1, 3, 4, 5] [] s s' ∧ ∀ x y, tb (gA s' 0) x y = apE N Mx (tb (gA s 0)) (G (gA s 6) i) (G (gA s 7) i) (G (gA s 8) i) x y := fun hh e => ⟨s, e, h, Fx.refl .., hh⟩
  have inval : ∀ {v : Int32}, k_isValid v s = 0 → ∀ x, x < N → v ≠ Int32.ofNat x := fun {v} hv x hx e => by rw [e, valid_yes W hx] at hv; cases hv
  rcases valid_cases W (G (gA s 7) i) with hv | ⟨a, ha, ea⟩
  · refine noop (fun x y => ?_) (by rw [start, if_pos hv])
    unfold apE
    by_cases q1 : x < N
    · have := inval hv x q1
      simp [this]
    · have : tb (gA s 0) x y = false := by
        by_cases q : tb (gA s 0) x y = true
        · exact absurd (sE x y q).1 q1
        · simpa using q
      simp [this, q1]
  rcases valid_cases W (G (gA s 8) i) with hw | ⟨b, hb, eb⟩
  · refine noop (fun x y => ?_) (by rw [start, ea, valid_yes W ha, if_neg (by decide), if_pos hw])
    unfold apE
    by_cases q1 : y < N
    · have := inval hw y q1
      simp [this]
    · have : tb (gA s 0) x y = false := by
        by_cases q : tb (gA s 0) x y = true
        · exact absurd (sE x y q).2 q1
        · simpa using q
      simp [this, q1]
  have eqa : ∀ x, x < N → (Int32.ofNat a = Int32.ofNat x ↔ x = a) := fun x hx => by rw [ofNat_inj (by omega) (by omega)]; exact eq_comm
  have eqb : ∀ y, y < N → (Int32.ofNat b = Int32.ofNat y ↔ y = b) := fun y hy => by rw [ofNat_inj (by omega) (by omega)]; exact eq_comm
  rw [ea, eb, valid_yes W ha, valid_yes W hb, if_neg (by decide), if_neg (by decide), present_ok W ha hb, Option.bind_some] at start
  have ltc : gI s 5 < gI s 3 ↔ cnt N (tb (gA s 0)) < Mx := by rw [h5, h3]; exact ofNat_lt (by omega) (by omega)
  have off : ∀ {x y}, ¬ (x < N ∧ y < N) → tb (gA s 0) x y = false := fun {x y} hh => by
    by_cases q : tb (gA s 0) x y = true
    · exact absurd (sE x y q) hh
    · simpa using q
  by_cases k1 : G (gA s 6) i = 1
  · rw [if_pos k1] at start
    by_cases q : tb (gA s 0) a b = true
    · refine noop (fun x y => ?_) (by rw [start, if_pos q, if_neg (by decide)])
      unfold apE
      rw [if_pos k1, ea, eb]
      by_cases hxy : x < N ∧ y < N
      · by_cases q2 : x = a ∧ y = b
        · obtain ⟨rfl, rfl⟩ := q2; simp [q]
        · simp only [eqa x hxy.1, eqb y hxy.2]
          by_cases q3 : x = a
          · have q4 : ¬ y = b := fun e => q2 ⟨q3, e⟩
            simp [q4]
          · simp [q3]
      · rw [off hxy]
        by_cases hx : x < N
        · have hy : ¬ y < N := fun e => hxy ⟨hx, e⟩
          simp [hy]
        · simp [hx]
    · by_cases r : cnt N (tb (gA s 0)) < Mx
      · obtain ⟨s', e, F, I, gE, gR⟩ := inv_add h ha hb (by simpa using q) r
        refine ⟨s', ?_, I, F.mono (by simp) (by simp) (by simp) (by simp), ?_⟩
        · rw [start, if_neg q, if_pos rfl, if_pos (ltc.mpr r), e, Option.bind_some]
        · intro x y
          unfold apE
          rw [if_pos k1, ea, eb, Bool.eq_iff_iff]
          have := gE x y
          unfold Ed at this
          rw [this]
          by_cases hxy : x < N ∧ y < N
          · simp [eqa x hxy.1, eqb y hxy.2, hxy.1, hxy.2, r]
          · rw [off hxy]
            by_cases hx : x < N
            · have hy : ¬ y < N := fun e => hxy ⟨hx, e⟩
              have : ¬ y = b := fun e => hy (by omega)
              simp [hy, this]
            · have : ¬ x = a := fun e => hx (by omega)
              simp [hx, this]
      · refine noop (fun x y => ?_) (by rw [start, if_neg q, if_pos rfl, if_neg (fun hh => r (ltc.mp hh))])
        unfold apE
        rw [if_pos k1]
        simp [r]
  · rw [if_neg k1] at start
    by_cases k2 : G (gA s 6) i = 2
    · rw [if_pos k2] at start
      by_cases q : tb (gA s 0) a b = true
      · obtain ⟨s', e, F, I, gE⟩ := inv_remove h ha hb q
        refine ⟨s', ?_, I, F, ?_⟩
        · rw [start, if_pos q, if_neg (by decide), e, Option.bind_some]
        · intro x y
          unfold apE
          rw [if_neg k1, if_pos k2, ea, eb, Bool.eq_iff_iff]
          have := gE x y
          unfold Ed at this
          rw [this]
          by_cases hxy : x < N ∧ y < N
          · simp only [eqa x hxy.1, eqb y hxy.2]
            by_cases q3 : x = a <;> by_cases q4 : y = b <;> simp [q3, q4]
          · rw [off hxy]; simp
      · refine noop (fun x y => ?_) (by rw [start, if_neg q, if_pos rfl])
        unfold apE
        rw [if_neg k1, if_pos k2, ea, eb]
        by_cases hxy : x < N ∧ y < N
        · by_cases q2 : x = a ∧ y = b
          · obtain ⟨rfl, rfl⟩ := q2
            simp [show tb (gA s 0) x y = false by simpa using q]
          · simp only [eqa x hxy.1, eqb y hxy.2]
            by_cases q3 : x = a
            · have q4 : ¬ y = b := fun e => q2 ⟨q3, e⟩
              simp [q4]
            · simp [q3]
        · rw [off hxy]; simp
    · refine noop (fun x y => ?_) (by rw [start, if_neg k2])
      unfold apE
      rw [if_neg k1, if_neg k2]
/-- the staged entries below k, applied in order -/
def apAll (N Mx : Nat) (f : Nat → Nat → Bool) (K V U : List Int32) : Nat → Nat → Nat → Bool
  | 0 => f
  | k + 1 => apE N Mx (apAll N Mx f K V U k) (G K k) (G V k) (G U k)
theorem apE_congr {N Mx : Nat} {f g : Nat → Nat → Bool} (h : ∀ x y, f x y = g x y) (k v w : Int32) : apE N Mx f k v w = apE N Mx g k v w := by
  have : f = g := funext fun x => funext fun y => h x y
  rw [this]
theorem commit_ok {N Mx : Nat} {s : S} (h : Inv N Mx s) {p : Nat} (hp : gI s 6 = Int32.ofNat p) (hp2 : p ≤ 16) : ∃ s', k_commit s = some (Int32.ofNat (cnt N (fun x y => tb (gA s' 1) x y && !tb (gA s 1) x y)) + Int32.ofNat (cnt N (fun x y => tb (gA s 1) x y && !tb (gA s' 1) x y)), s') ∧ Inv N Mx s' ∧ gI s' 6 = 0 ∧ gI s' 7 = Int32.ofNat (cnt N (fun x y => tb (gA s' 1) x y && !tb (gA s 1) x y)) ∧ gI s' 8 = Int32.ofNat (cnt N (fun x y => tb (gA s 1) x y && !tb (gA s' 1) x y)) ∧
    ∀ x y, tb (gA s' 0) x y = apAll N Mx (tb (gA s 0)) (gA s 6) (gA s 7) (gA s 8) p x y := by
  have W := h.1.1
  have hN := h.2.1
  obtain ⟨t, et, Ft, t2, Wt⟩ := snap_ok W
  have It : Inv N Mx t := h.keep (fun f hf => Ft.1 f (by simp)) (fun f hf => Ft.2.2.1 f (by simpa using hf)) Wt.2.2.2.2.1
  obtain ⟨u, eu, Iu, Fu, gu⟩ := run_for k_commit_6 k_commit_31 p (fun k u => Inv N Mx u ∧ Fx [5] [] [0, 1, 3, 4, 5] [] t u ∧ ∀ x y, tb (gA u 0) x y = apAll N Mx (tb (gA s 0)) (gA s 6) (gA s 7) (gA s 8) k x y) (by
    intro n k u hk ⟨I, F, g⟩
    obtain ⟨v, ev, Iv, Fv, gv⟩ := apply_ok I (i := k) (by omega)
    have e6 : gA u 6 = gA s 6 := by rw [F.2.2.1 6 (by simp), Ft.2.2.1 6 (by simp)]
    have e7 : gA u 7 = gA s 7 := by rw [F.2.2.1 7 (by simp), Ft.2.2.1 7 (by simp)]
    have e8 : gA u 8 = gA s 8 := by rw [F.2.2.1 8 (by simp), Ft.2.2.1 8 (by simp)]
    have i6 : gI u 6 = Int32.ofNat p := by rw [F.1 6 (by simp), Ft.1 6 (by simp), hp]
    refine ⟨v, ?_, Iv, F.trans Fv, ?_⟩
    · rw [k_commit_6, i6, if_pos ((ofNat_lt (by omega) (by omega)).mpr hk), if_pos ((lt_lit (by omega)).mpr (show k < 16 by omega)), ev, Option.bind_some, ofNat_succ]
    · intro x y
      rw [gv x y, e6, e7, e8, apE_congr g]; rfl) (by
    intro n u ⟨I, F, g⟩
    have i6 : gI u 6 = Int32.ofNat p := by rw [F.1 6 (by simp), Ft.1 6 (by simp), hp]
    rw [k_commit_6, i6, if_neg (fun hh => absurd ((ofNat_lt (by omega) (by omega)).mp hh) (by omega))]) BIG t (by unfold BIG; omega) ⟨It, Fx.refl .., fun x y => by rw [Ft.2.2.1 0 (by simp)]; rfl⟩
  have u2 : gA u 2 = gA s 1 := by rw [Fu.2.2.1 2 (by simp), t2]
  have sA0 : ∀ f, gA (Jvm.AM.sI u 6 0) f = gA u f := fun f => gA_sI _ _ _ _
  obtain ⟨w1, hw1⟩ : ∃ w, w = Jvm.AM.sI u 6 0 := ⟨_, rfl⟩
  have w1A : ∀ f, gA w1 f = gA u f := fun f => by rw [hw1]; exact sA0 f
  have w1W : Wf N w1 := by rw [hw1]; exact Iu.1.1.sI (by decide)
  have ec := countAdded_ok w1W hN (by rw [w1A]; exact Iu.1.sub)
  rw [w1A, w1A, u2] at ec
  obtain ⟨w2, hw2⟩ : ∃ w, w = Jvm.AM.sI w1 7 (Int32.ofNat (cnt N (fun x y => tb (gA u 1) x y && !tb (gA s 1) x y))) := ⟨_, rfl⟩
  have w2A : ∀ f, gA w2 f = gA u f := fun f => by rw [hw2, gA_sI]; exact w1A f
  have w2W : Wf N w2 := by rw [hw2]; exact w1W.sI (by decide)
  have ed := countRemoved_ok w2W hN (by rw [w2A, u2]; exact h.1.sub)
  rw [w2A, w2A, u2] at ed
  obtain ⟨s', hs'⟩ : ∃ w, w = Jvm.AM.sI w2 8 (Int32.ofNat (cnt N (fun x y => tb (gA s 1) x y && !tb (gA u 1) x y))) := ⟨_, rfl⟩
  have s'A : ∀ f, gA s' f = gA u f := fun f => by rw [hs', gA_sI]; exact w2A f
  have s'I : ∀ f, gI s' f = if f = 8 then Int32.ofNat (cnt N (fun x y => tb (gA s 1) x y && !tb (gA u 1) x y)) else if f = 7 then Int32.ofNat (cnt N (fun x y => tb (gA u 1) x y && !tb (gA s 1) x y)) else if f = 6 then 0 else gI u f := fun f => by rw [hs', gI_sI, hw2, gI_sI, hw1, gI_sI]
  refine ⟨s', ?_, ?_, ?_, ?_, ?_, ?_⟩
  · unfold k_commit
    rw [et, Option.bind_some]
    refine eu.trans ?_
    unfold k_commit_31
    rw [← hw1, ec, Option.bind_some, ← hw2, ed, Option.bind_some, ← hs', s'A]
  · obtain ⟨⟨⟨a1, a2, c0, c1, c2, c3, c4, c5⟩, h4, sE, hR⟩, hN, h3, hM, h5, hc, ⟨p, hp, hp2⟩, l6, l7, l8⟩ := id Iu
    have E : ∀ x z, TC (Ed s') x z ↔ TC (Ed u) x z := fun x z => TC.congr fun x y => by unfold Ed; rw [s'A]
    exact ⟨⟨⟨by rw [s'I]; exact a1, a2, by rw [s'A]; exact c0, by rw [s'A]; exact c1, by rw [s'A]; exact c2, by rw [s'A]; exact c3, by rw [s'A]; exact c4, by rw [s'A]; exact c5⟩, by rw [s'I]; exact h4, by rw [s'A]; exact sE, fun x z => by rw [s'A, E]; exact hR x z⟩, hN, by rw [s'I]; exact h3, hM, by rw [s'I, s'A]; exact h5, by rw [s'A]; exact hc, ⟨0, by rw [s'I]; rfl, by omega⟩, by rw [s'A]; exact l6, by rw [s'A]; exact l7, by rw [s'A]; exact l8⟩
  · rw [s'I]; rfl
  · rw [s'I, s'A]; rfl
  · rw [s'I, s'A]; rfl
  · intro x y; rw [s'A]; exact gu x y
/-! ### the getters -/
theorem from_ok {N Mx : Nat} {s : S} (h : Inv N Mx s) {a : Nat} (ha : a < N) : k_reachCountFrom (Int32.ofNat a) s = some (Int32.ofNat (rc N (G (gA s 1) a))) := by
  have W := h.1.1
  obtain ⟨a1, hN', c0, c1, c2, c3, c4, c5⟩ := id W
  unfold k_reachCountFrom
  rw [valid_yes W ha, if_neg (by decide), ix_G (by omega) (by omega), Option.bind_some, pop_ok h.2.1 (fun y hy => (h.1.sub a y hy).2)]
/-- how many rows hold column b -/
def colc (l : List Int32) (b : Nat) (k : Nat) : Nat := (List.range k).countP fun x => tb l x b
theorem to_w {N : Nat} {s : S} (W : Wf N s) {b : Nat} (hb : b < N) : k_reachCountTo (Int32.ofNat b) s = some (Int32.ofNat (colc (gA s 1) b N)) := by
  obtain ⟨a1, hN', c0, c1, c2, c3, c4, c5⟩ := id W
  obtain ⟨w, u, e, rfl, g⟩ := run_for2 (fun n c k u => k_reachCountTo_14 n (Int32.ofNat b) c k u) (fun c u => some c) N (fun k c u => u = s ∧ c = Int32.ofNat (colc (gA s 1) b k)) (by
    intro n k c u hk ⟨hu, hc⟩
    subst hu hc
    refine ⟨(if XT.ushr (G (gA u 1) k) (Int32.ofNat b) &&& 1 = 0 then Int32.ofNat (colc (gA u 1) b k) else Int32.ofNat (colc (gA u 1) b k) + 1), u, ?_, rfl, ?_⟩
    · show k_reachCountTo_14 (n + 1) _ _ _ _ = k_reachCountTo_14 n _ _ _ _
      rw [k_reachCountTo_14, if_pos ((lt_n W (by omega)).mpr hk), ix_G (by omega) (by omega), Option.bind_some, ofNat_succ, ofNat_succ]
    · unfold colc
      rw [List.range_succ, List.countP_append]
      by_cases q : tb (gA u 1) k b = true
      · rw [if_neg (fun hh => by rw [show tb (gA u 1) k b = false from (test_bit _ (by omega)).mp hh] at q; cases q), ofNat_succ]
        simp [List.countP_cons, q]
      · rw [if_pos ((test_bit _ (by omega)).mpr (by simpa [tb] using q))]
        simp [List.countP_cons, q]) (by
    intro n c u ⟨hu, _⟩
    subst hu
    show k_reachCountTo_14 (n + 1) _ _ _ _ = _
    rw [k_reachCountTo_14, if_neg (fun hh => absurd ((lt_n W (by omega)).mp hh) (by omega))]) BIG 0 s (by unfold BIG; omega) ⟨rfl, rfl⟩
  unfold k_reachCountTo
  rw [valid_yes W hb, if_neg (by decide)]
  rw [← g]; exact e
theorem to_ok {N Mx : Nat} {s : S} (h : Inv N Mx s) {b : Nat} (hb : b < N) : k_reachCountTo (Int32.ofNat b) s = some (Int32.ofNat (colc (gA s 1) b N)) := to_w h.1.1 hb
theorem reaches_w {N : Nat} {s : S} (W : Wf N s) {a b : Nat} (ha : a < N) (hb : b < N) : k_reaches (Int32.ofNat a) (Int32.ofNat b) s = some (if tb (gA s 1) a b = true then 1 else 0) := by
  obtain ⟨a1, hN', c0, c1, c2, c3, c4, c5⟩ := id W
  unfold k_reaches k_testBit
  rw [valid_yes W ha, valid_yes W hb, if_neg (by decide), if_neg (by decide), ix_G (by omega) (by omega), Option.bind_some]
  by_cases q : tb (gA s 1) a b = true
  · rw [if_neg (fun hh => by rw [show tb (gA s 1) a b = false from (test_bit _ (by omega)).mp hh] at q; cases q), if_pos q]; rfl
  · rw [if_pos ((test_bit _ (by omega)).mpr (by simpa [tb] using q)), if_neg q]; rfl
theorem reaches_ok {N Mx : Nat} {s : S} (h : Inv N Mx s) {a b : Nat} (ha : a < N) (hb : b < N) : k_reaches (Int32.ofNat a) (Int32.ofNat b) s = some (if tb (gA s 1) a b = true then 1 else 0) := reaches_w h.1.1 ha hb
theorem has_w {N : Nat} {s : S} (W : Wf N s) {a b : Nat} (ha : a < N) (hb : b < N) : k_hasEdge (Int32.ofNat a) (Int32.ofNat b) s = some (if tb (gA s 0) a b = true then 1 else 0) := by
  unfold k_hasEdge
  rw [valid_yes W ha, valid_yes W hb, if_neg (by decide), if_neg (by decide), present_ok W ha hb, Option.bind_some]
  by_cases q : tb (gA s 0) a b = true
  · rw [if_pos q]; rfl
  · rw [if_neg q]; rfl
theorem has_ok {N Mx : Nat} {s : S} (h : Inv N Mx s) {a b : Nat} (ha : a < N) (hb : b < N) : k_hasEdge (Int32.ofNat a) (Int32.ofNat b) s = some (if tb (gA s 0) a b = true then 1 else 0) := has_w h.1.1 ha hb
/-- the number of derivations -/
def derc (s : S) (a b : Nat) (k : Nat) : Nat := (if tb (gA s 0) a b = true then 1 else 0) + (List.range k).countP fun y => tb (gA s 0) a y && tb (gA s 1) y b
theorem deriv_w {N : Nat} {s : S} (W : Wf N s) {a b : Nat} (ha : a < N) (hb : b < N) : k_derivationCount (Int32.ofNat a) (Int32.ofNat b) s = some (Int32.ofNat (derc s a b N)) := by
  obtain ⟨a1, hN', c0, c1, c2, c3, c4, c5⟩ := id W
  obtain ⟨w, u, e, rfl, g⟩ := run_for2 (fun n c k u => k_derivationCount_43 n (Int32.ofNat b) (G (gA s 0) a) c k u) (fun c u => some c) N (fun k c u => u = s ∧ c = Int32.ofNat (derc s a b k)) (by
    intro n k c u hk ⟨hu, hc⟩
    subst hu hc
    have hr : derc u a b (k + 1) = derc u a b k + if (tb (gA u 0) a k && tb (gA u 1) k b) = true then 1 else 0 := by
      unfold derc
      rw [List.range_succ, List.countP_append, List.countP_cons, List.countP_nil]; omega
    by_cases q : tb (gA u 0) a k = true
    · refine ⟨(if XT.ushr (G (gA u 1) k) (Int32.ofNat b) &&& 1 = 0 then Int32.ofNat (derc u a b k) else Int32.ofNat (derc u a b k) + 1), u, ?_, rfl, ?_⟩
      · show k_derivationCount_43 (n + 1) _ _ _ _ _ = k_derivationCount_43 n _ _ _ _ _
        rw [k_derivationCount_43, if_pos ((lt_n W (by omega)).mpr hk), if_neg (fun hh => by rw [show tb (gA u 0) a k = false from (test_bit _ (by omega)).mp hh] at q; cases q), ix_G (by omega) (by omega), Option.bind_some, ofNat_succ, ofNat_succ]
      · rw [hr]
        by_cases r : tb (gA u 1) k b = true
        · rw [if_neg (fun hh => by rw [show tb (gA u 1) k b = false from (test_bit _ (by omega)).mp hh] at r; cases r), ofNat_succ]
          simp [q, r]
        · rw [if_pos ((test_bit _ (by omega)).mpr (by simpa [tb] using r))]
          simp [r]
    · refine ⟨Int32.ofNat (derc u a b k), u, ?_, rfl, ?_⟩
      · show k_derivationCount_43 (n + 1) _ _ _ _ _ = k_derivationCount_43 n _ _ _ _ _
        rw [k_derivationCount_43, if_pos ((lt_n W (by omega)).mpr hk), if_pos ((test_bit _ (by omega)).mpr (by simpa [tb] using q)), ofNat_succ]
      · rw [hr]; simp [q]) (by
    intro n c u ⟨hu, _⟩
    subst hu
    show k_derivationCount_43 (n + 1) _ _ _ _ _ = _
    rw [k_derivationCount_43, if_neg (fun hh => absurd ((lt_n W (by omega)).mp hh) (by omega))]) BIG (Int32.ofNat (derc s a b 0)) s (by unfold BIG; omega) ⟨rfl, rfl⟩
  unfold k_derivationCount k_derivationCount_40 k_testBit
  rw [valid_yes W ha, valid_yes W hb, if_neg (by decide), if_neg (by decide), ix_G (by omega) (by omega), Option.bind_some]
  have e0 : (if (if XT.ushr (G (gA u 0) a) (Int32.ofNat b) &&& 1 = 0 then (0 : Int32) else 1) = 0 then (0 : Int32) else 1) = Int32.ofNat (derc u a b 0) := by
    unfold derc
    by_cases q : tb (gA u 0) a b = true
    · have : ¬ XT.ushr (G (gA u 0) a) (Int32.ofNat b) &&& 1 = 0 := fun hh => by rw [show tb (gA u 0) a b = false from (test_bit _ (by omega)).mp hh] at q; cases q
      simp [this, q]
    · have : XT.ushr (G (gA u 0) a) (Int32.ofNat b) &&& 1 = 0 := (test_bit _ (by omega)).mpr (by simpa [tb] using q)
      simp [this, q]
  rw [e0, ← g]
  exact e
theorem deriv_ok {N Mx : Nat} {s : S} (h : Inv N Mx s) {a b : Nat} (ha : a < N) (hb : b < N) : k_derivationCount (Int32.ofNat a) (Int32.ofNat b) s = some (Int32.ofNat (derc s a b N)) := deriv_w h.1.1 ha hb
/-- the sums by rows and by columns are the same -/
theorem sum_swap (f : Nat → Nat → Nat) (n : Nat) : ∀ m, sumTo (fun x => sumTo (f x) n) m = sumTo (fun y => sumTo (fun x => f x y) m) n
  | 0 => by
    simp only [sumTo]
    have : ∀ k, sumTo (fun _ => 0) k = 0 := fun k => by induction k with | zero => rfl | succ k ih => simp [sumTo, ih]
    rw [this]
  | m + 1 => by
    simp only [sumTo]
    rw [sum_swap f n m]
    have : ∀ (g h : Nat → Nat) k, sumTo g k + sumTo h k = sumTo (fun y => g y + h y) k := fun g h k => by induction k with | zero => rfl | succ k ih => simp only [sumTo]; omega
    rw [this]
theorem cols_rows (N : Nat) (l : List Int32) : sumTo (fun b => colc l b N) N = cnt N (tb l) := by
  rw [cnt_rows]
  have e1 : sumTo (fun b => colc l b N) N = sumTo (fun b => sumTo (fun x => if tb l x b then 1 else 0) N) N := sumTo_congr fun b _ => countP_range _ _
  have e2 : sumTo (fun x => (List.range N).countP (tb l x)) N = sumTo (fun x => sumTo (fun b => if tb l x b then 1 else 0) N) N := sumTo_congr fun b _ => countP_range _ _
  rw [e1, e2, sum_swap]
/-- a new keeper -/
theorem init_ok {N Mx : Nat} (h2 : 2 ≤ N) (h8 : N ≤ 8) (m1 : 1 ≤ Mx) (m2 : Mx ≤ 256) : ∃ s, k_init (Int32.ofNat N) (Int32.ofNat Mx) = some s ∧ Inv N Mx s ∧ gA s 0 = rep 32 0 ∧ gA s 1 = rep 32 0 ∧ gI s 6 = 0 ∧ gI s 7 = 0 ∧ gI s 8 = 0 := by
  have e1 : ¬ Int32.ofNat N < 2 := fun hh => absurd (show N < 2 from (lt_lit (by omega)).mp hh) (by omega)
  have e2 : ¬ (32 : Int32) < Int32.ofNat N := fun hh => by rw [show (32 : Int32) = Int32.ofNat 32 from rfl, ofNat_lt (by omega) (by omega)] at hh; omega
  have e3 : ¬ Int32.ofNat Mx < 1 := fun hh => absurd (show Mx < 1 from (lt_lit (by omega)).mp hh) (by omega)
  have e4 : ¬ (256 : Int32) < Int32.ofNat Mx := fun hh => by rw [show (256 : Int32) = Int32.ofNat 256 from rfl, ofNat_lt (by omega) (by omega)] at hh; omega
  have z : ∀ x y, tb (rep 32 0) x y = false := fun x y => by
    unfold tb G
    rw [List.getD_eq_getElem?_getD, rep_get]
    by_cases q : x < 32
    · simp [q, bt]
    · simp [q, bt]
  have cz : cnt N (tb (rep 32 0)) = 0 := by
    unfold cnt
    exact List.countP_eq_zero.mpr fun p _ => by rw [z]; decide
  refine ⟨_, by unfold k_init k_init_95 k_init_104 k_init_116 k_init_129; rw [if_neg e1, if_neg e2, if_neg e3, if_neg e4], ?_, ?_, ?_, ?_, ?_, ?_⟩
  · refine ⟨⟨⟨?_, by omega, ?_, ?_, ?_, ?_, ?_, ?_⟩, ?_, ?_, ?_⟩, h8, ?_, m2, ?_, ?_, ⟨0, ?_, by omega⟩, ?_, ?_, ?_⟩
    all_goals simp [gI_sI, gI_sA, gA_sI, gA_sA, rep_length, z, cz]
    · intro x y hh; rw [z] at hh; cases hh
    · intro x w t
      have : False := t (fun _ _ => False) (fun a b e => by unfold Ed at e; simp [gA_sI, gA_sA, z] at e) (fun _ _ _ _ p => p)
      exact this
  all_goals simp [gI_sI, gI_sA, gA_sI, gA_sA]
/-- growing sets stop -/
theorem grow_stop {N : Nat} {X : Nat → Nat → Bool} (up : ∀ r a, a < N → X r a = true → X (r + 1) a = true) (st : ∀ r, (∀ a, a < N → X (r + 1) a = X r a) → ∀ a, a < N → X (r + 2) a = X (r + 1) a) : ∀ a, a < N → X (N + 1) a = X N a := by
  apply Classical.byContradiction
  intro no
  have un : ∀ d r, r + d = N → ¬ ∀ a, a < N → X (r + 1) a = X r a := by
    intro d
    induction d with
    | zero => intro r hr h; rw [Nat.add_zero] at hr; subst hr; exact no h
    | succ d ih => intro r hr h; exact ih (r + 1) (by omega) (st r h)
  have gr : ∀ r, r ≤ N + 1 → r ≤ (List.range N).countP (X r) := by
    intro r
    induction r with
    | zero => intro _; omega
    | succ r ih =>
      intro hr
      have h1 := ih (by omega)
      have h2 := un (N - r) r (by omega)
      have : (List.range N).countP (X r) < (List.range N).countP (X (r + 1)) := by
        apply countP_lt
        · intro a ha; exact up r a (List.mem_range.mp ha)
        · apply Classical.byContradiction
          intro hn
          apply h2
          intro a ha
          cases e : X (r + 1) a with
          | false =>
            cases e' : X r a with
            | false => rfl
            | true => rw [up r a ha e'] at e; cases e
          | true =>
            cases e' : X r a with
            | false => exact absurd ⟨a, List.mem_range.mpr ha, e, e'⟩ hn
            | true => rfl
      omega
  have h1 := gr (N + 1) (by omega)
  have h2 := List.countP_le_length (p := X (N + 1)) (l := List.range N)
  rw [List.length_range] at h2
  omega
def bl (w : Int64) (y : Nat) : Bool := w.toBitVec.getLsbD y
theorem l_smod : ∀ j : Fin 64, (Int64.ofNat j.val).toBitVec.smod 64#64 = BitVec.ofNat 64 j.val := by decide
theorem l_and63 : ∀ j : Fin 64, (Int64.ofNat j.val &&& 63) = Int64.ofNat j.val := by decide
theorem bl_shl (w : Int64) {k : Nat} (hk : k < 64) (y : Nat) : bl (w <<< (Int64.ofNat k &&& 63)) y = (decide (k ≤ y) && decide (y < 64) && bl w (y - k)) := by
  rw [l_and63 ⟨k, hk⟩]
  have hs : (w <<< Int64.ofNat k).toBitVec = w.toBitVec <<< k := by
    rw [Int64.toBitVec_shiftLeft, show (Int64.ofNat k).toBitVec.smod 64 = BitVec.ofNat 64 k from l_smod ⟨k, hk⟩, BitVec.shiftLeft_eq']
    congr 1
    simp; omega
  unfold bl
  rw [hs, BitVec.getLsbD_shiftLeft]
  by_cases a : k ≤ y
  · by_cases b : y < 64
    · simp [a, b]
    · simp [a, b]
  · simp [a]
theorem bl_or (a b : Int64) (y : Nat) : bl (a ||| b) y = (bl a y || bl b y) := by simp [bl]
theorem bl_and (a b : Int64) (y : Nat) : bl (a &&& b) y = (bl a y && bl b y) := by simp [bl]
theorem bl_zero (y : Nat) : bl 0 y = false := by simp [bl]
theorem bl_ge (w : Int64) {y : Nat} (h : 64 ≤ y) : bl w y = false := by unfold bl; exact BitVec.getLsbD_of_ge _ _ h
theorem bl_m1 {y : Nat} (h : y < 64) : bl (-1) y = true := by
  unfold bl
  rw [show (-1 : Int64).toBitVec = BitVec.allOnes 64 from rfl, BitVec.getLsbD_allOnes]
  simp [h]
theorem bl_andn (a b : Int64) (y : Nat) : bl (a &&& (b ^^^ (-1))) y = (bl a y && !bl b y) := by
  rw [bl_and]
  by_cases h : y < 64
  · have := bl_m1 h
    unfold bl at *
    rw [Int64.toBitVec_xor, BitVec.getLsbD_xor, this]; simp
  · rw [bl_ge a (by omega)]; simp
theorem u63 : ∀ k : Fin 64, ((Int32.ofNat k.val).toInt64.toUInt64 &&& Int64.toUInt64 63).toBitVec = BitVec.ofNat 64 k.val := by decide +kernel
theorem bl_ushr (w : Int64) {k : Nat} (hk : k < 64) (y : Nat) : bl (XT.ushrL w (Int32.ofNat k)) y = bl w (y + k) := by
  have h1 : (XT.ushrL w (Int32.ofNat k)).toBitVec = w.toBitVec >>> k := by
    unfold XT.ushrL
    show (w.toUInt64 >>> ((Int32.ofNat k).toInt64.toUInt64 &&& Int64.toUInt64 63)).toBitVec = _
    rw [UInt64.toBitVec_shiftRight, u63 ⟨k, hk⟩, BitVec.ushiftRight_eq']
    show w.toBitVec >>> (BitVec.ofNat 64 k % 64).toNat = _
    congr 1
    rw [BitVec.toNat_umod, BitVec.toNat_ofNat]
    show k % 2 ^ 64 % 64 = k
    omega
  unfold bl
  rw [h1]
  simp [Nat.add_comm]
theorem bl_one : ∀ y : Fin 64, bl 1 y.val = decide (y.val = 0) := by decide +kernel
theorem bl_ext {a b : Int64} (h : ∀ y, y < 64 → bl a y = bl b y) : a = b := by
  apply Int64.toBitVec_inj.mp
  apply BitVec.eq_of_getLsbD_eq
  intro i hi
  exact h i hi
theorem l_test (w : Int64) {k : Nat} (hk : k < 64) : ((XT.ushrL w (Int32.ofNat k)) &&& (1 : Int64) = 0) ↔ bl w k = false := by
  constructor
  · intro h
    have : bl ((XT.ushrL w (Int32.ofNat k)) &&& 1) 0 = false := by rw [h, bl_zero]
    rw [bl_and, bl_ushr w hk, show bl 1 0 = true from bl_one ⟨0, by omega⟩, Bool.and_true, Nat.zero_add] at this
    exact this
  · intro h
    apply bl_ext
    intro y hy
    rw [bl_and, bl_ushr w hk, show bl 1 y = decide (y = 0) from bl_one ⟨y, hy⟩, bl_zero]
    by_cases q : y = 0
    · subst q; rw [Nat.zero_add, h]; rfl
    · simp [q]
theorem bl_bit {k : Nat} (hk : k < 64) (y : Nat) : bl ((1 : Int64) <<< (Int64.ofNat k &&& 63)) y = decide (y = k) := by
  rw [bl_shl _ hk]
  by_cases a : k ≤ y
  · by_cases b : y < 64
    · rw [show bl 1 (y - k) = decide (y - k = 0) from bl_one ⟨y - k, by omega⟩, decide_eq_true a, decide_eq_true b, Bool.and_self, Bool.true_and]
      exact decide_eq_decide.mpr (by omega)
    · rw [decide_eq_false b, decide_eq_false (show ¬ y = k by omega)]; simp
  · rw [decide_eq_false a, decide_eq_false (show ¬ y = k by omega)]; simp
theorem idx8 : ∀ a b : Fin 8, (Int32.ofNat a.val * 8 + Int32.ofNat b.val = Int32.ofNat (8 * a.val + b.val)) ∧ (Int32.ofNat (8 * a.val + b.val)).toInt64 = Int64.ofNat (8 * a.val + b.val) := by decide
theorem mul8 : ∀ a : Fin 8, (Int32.ofNat a.val * 8 = Int32.ofNat (8 * a.val)) ∧ (Int32.ofNat (8 * a.val)).toInt64 = Int64.ofNat (8 * a.val) := by decide
/-- a word that holds a relation on N nodes -/
def R8 (N : Nat) (w : Int64) (f : Nat → Nat → Bool) : Prop := ∀ y, bl w y = (decide (y < 64) && decide (y / 8 < N) && decide (y % 8 < N) && f (y / 8) (y % 8))
theorem R8.at {N : Nat} {w : Int64} {f : Nat → Nat → Bool} (h : R8 N w f) (hN : N ≤ 8) {a b : Nat} (ha : a < N) (hb : b < N) : bl w (8 * a + b) = f a b := by
  rw [h, show (8 * a + b) / 8 = a by omega, show (8 * a + b) % 8 = b by omega, decide_eq_true (by omega), decide_eq_true ha, decide_eq_true hb]
  simp
theorem R8.congr {N : Nat} {w : Int64} {f g : Nat → Nat → Bool} (h : R8 N w f) (e : ∀ a b, a < N → b < N → f a b = g a b) : R8 N w g := fun y => by
  rw [h]
  by_cases q : y / 8 < N ∧ y % 8 < N
  · rw [e _ _ q.1 q.2]
  · by_cases q1 : y / 8 < N
    · have : ¬ y % 8 < N := fun z => q ⟨q1, z⟩
      simp [this]
    · simp [q1]
theorem hbit_ok {N : Nat} {w : Int64} {f : Nat → Nat → Bool} (h : R8 N w f) (hN : N ≤ 8) {a b : Nat} (ha : a < N) (hb : b < N) : h_bit w (Int32.ofNat a) (Int32.ofNat b) = if f a b = true then 1 else 0 := by
  unfold h_bit
  have := (idx8 ⟨a, by omega⟩ ⟨b, by omega⟩).1
  dsimp only at this
  rw [this]
  have t := l_test w (k := 8 * a + b) (by omega)
  rw [h.at hN ha hb] at t
  cases q : f a b with
  | false => rw [if_pos (t.mpr q)]; rfl
  | true => rw [if_neg (fun z => by rw [t.mp z] at q; cases q)]; rfl
theorem bl255 : ∀ y : Fin 64, bl 255 y.val = decide (y.val < 8) := by decide +kernel
theorem bl255' {y : Nat} (h : y < 64) : bl 255 y = decide (y < 8) := bl255 ⟨y, h⟩
theorem row_bit (r : Int64) {k a : Nat} (hk : k < 8) (ha : a < 8) (y : Nat) : bl (((XT.ushrL r (Int32.ofNat k * 8)) &&& (255 : Int64)) <<< ((Int32.ofNat a * 8).toInt64 &&& 63)) y = (decide (y < 64) && decide (y / 8 = a) && bl r (8 * k + y % 8)) := by
  obtain ⟨m1, _⟩ := mul8 ⟨k, hk⟩
  obtain ⟨m2, m3⟩ := mul8 ⟨a, ha⟩
  dsimp only at m1 m2 m3
  rw [m1, m2, m3, bl_shl _ (by omega)]
  by_cases q : 8 * a ≤ y ∧ y < 8 * a + 8
  · rw [decide_eq_true q.1, decide_eq_true (show y < 64 by omega), decide_eq_true (show y / 8 = a by omega), bl_and, bl255' (y := y - 8 * a) (by omega), decide_eq_true (show y - 8 * a < 8 by omega), bl_ushr r (by omega), show y - 8 * a + 8 * k = 8 * k + y % 8 by omega]
    simp
  · by_cases q1 : 8 * a ≤ y
    · have : ¬ y / 8 = a := by omega
      rw [decide_eq_false this, bl_and]
      by_cases q2 : y < 64
      · rw [bl255' (y := y - 8 * a) (by omega), decide_eq_false (show ¬ y - 8 * a < 8 by omega)]
        simp
      · simp [q2]
    · have : ¬ y / 8 = a := by omega
      simp [q1, this]
def rw8 (N : Nat) (f : Nat → Nat → Bool) (r : Int64) (a k : Nat) (y : Nat) : Bool := decide (y < 64) && decide (y / 8 = a) && (List.range k).any fun i => f a i && bl r (8 * i + y % 8)
theorem clos_in {N : Nat} (hN : N ≤ 8) {e : Int64} {f : Nat → Nat → Bool} (he : R8 N e f) (r : Int64) (K5 : Int64 → Int32 → Int64 → Int32 → Option Int64) (K18 : Int64 → Int32 → Int64 → Int32 → Int64 → Int32 → Option Int64) (v5 : Int32) (c0 : Int64) {a : Nat} (ha : a < N) : ∀ m k M c, k + m = N → m < M → (∀ y, bl c y = (bl c0 y || rw8 N f r a k y)) → ∃ w, h_closure_27 K5 K18 M e (Int32.ofNat N) r v5 c (Int32.ofNat a) (Int32.ofNat k) = K18 e (Int32.ofNat N) r v5 w (Int32.ofNat (a + 1)) ∧ ∀ y, bl w y = (bl c0 y || rw8 N f r a N y)
  | _, _, 0, _, _, h, _ => by omega
  | 0, k, M + 1, c, hk, _, g => by
    have : k = N := by omega
    subst this
    rw [h_closure_27, if_neg (fun z => by have := (ofNat_lt (by omega) (by omega)).mp z; omega), ofNat_succ]
    exact ⟨c, rfl, g⟩
  | m + 1, k, M + 1, c, hk, hM, g => by
    rw [h_closure_27, if_pos ((ofNat_lt (by omega) (by omega)).mpr (by omega)), hbit_ok he hN ha (by omega), ofNat_succ]
    refine clos_in hN he r K5 K18 v5 c0 ha m (k + 1) M _ (by omega) (by omega) (fun y => ?_)
    have ex : rw8 N f r a (k + 1) y = (rw8 N f r a k y || (f a k && (decide (y < 64) && decide (y / 8 = a) && bl r (8 * k + y % 8)))) := by
      unfold rw8
      rw [List.range_succ, List.any_append, List.any_cons, List.any_nil, Bool.or_false]
      generalize (List.range k).any _ = A
      cases decide (y < 64) <;> cases decide (y / 8 = a) <;> simp
    rw [ex, ← Bool.or_assoc, ← g y]
    cases q : f a k with
    | false => rw [if_pos (show (if false = true then (1 : Int32) else 0) = 0 from rfl)]; simp
    | true => rw [if_neg (show ¬ (if true = true then (1 : Int32) else 0) = 0 by decide), bl_or, row_bit r (by omega) (by omega)]; simp
theorem clos_rows {N : Nat} (hN : N ≤ 8) {e : Int64} {f : Nat → Nat → Bool} (he : R8 N e f) (r : Int64) (K5 : Int64 → Int32 → Int64 → Int32 → Option Int64) (v5 : Int32) : ∀ m a M c, a + m = N → m < M → (∀ y, bl c y = (bl e y || (List.range a).any fun i => rw8 N f r i N y)) → ∃ w, h_closure_18 K5 M e (Int32.ofNat N) r v5 c (Int32.ofNat a) = K5 e (Int32.ofNat N) w (v5 + 1) ∧ ∀ y, bl w y = (bl e y || (List.range N).any fun i => rw8 N f r i N y)
  | _, _, 0, _, _, h, _ => by omega
  | 0, a, M + 1, c, ha, _, g => by
    have : a = N := by omega
    subst this
    rw [h_closure_18, if_neg (fun z => by have := (ofNat_lt (by omega) (by omega)).mp z; omega)]
    exact ⟨c, rfl, g⟩
  | m + 1, a, M + 1, c, ha, hM, g => by
    rw [h_closure_18, if_pos ((ofNat_lt (by omega) (by omega)).mpr (by omega))]
    obtain ⟨w, ew, gw⟩ := clos_in hN he r K5 (fun v0 v2 v3 v5 v6 v8 => h_closure_18 K5 M v0 v2 v3 v5 v6 v8) v5 c (show a < N by omega) N 0 BIG c (by omega) (by unfold BIG; omega) (fun y => by unfold rw8; simp)
    rw [show h_closure_27 K5 (fun v0 v2 v3 v5 v6 v8 => h_closure_18 K5 M v0 v2 v3 v5 v6 v8) BIG e (Int32.ofNat N) r v5 c (Int32.ofNat a) 0 = _ from ew]
    refine clos_rows hN he r K5 v5 m (a + 1) M w (by omega) (by omega) (fun y => ?_)
    rw [gw, g, List.range_succ, List.any_append, List.any_cons, List.any_nil, Bool.or_false, Bool.or_assoc]
/-- the closing rounds from the edges -/
def px (N : Nat) (f : Nat → Nat → Bool) : Nat → Nat → Nat → Bool
  | 0 => f
  | r + 1 => fun i j => f i j || (List.range N).any fun k => f i k && px N f r k j
theorem rows_R8 {N : Nat} (hN : N ≤ 8) {e r : Int64} {f g : Nat → Nat → Bool} (he : R8 N e f) (hr : R8 N r g) {w : Int64} (hw : ∀ y, bl w y = (bl e y || (List.range N).any fun i => rw8 N f r i N y)) : R8 N w (fun i j => f i j || (List.range N).any fun k => f i k && g k j) := fun y => by
  rw [hw, he y]
  have one : ((List.range N).any fun i => rw8 N f r i N y) = (decide (y < 64) && decide (y / 8 < N) && decide (y % 8 < N) && (List.range N).any fun k => f (y / 8) k && g k (y % 8)) := by
    rw [Bool.eq_iff_iff, List.any_eq_true]
    constructor
    · rintro ⟨i, hi, h⟩
      have hi' := List.mem_range.mp hi
      unfold rw8 at h
      rw [Bool.and_eq_true, Bool.and_eq_true, decide_eq_true_eq, decide_eq_true_eq, List.any_eq_true] at h
      obtain ⟨⟨y64, yi⟩, k, hk, h⟩ := h
      have hk' := List.mem_range.mp hk
      rw [Bool.and_eq_true, hr, show (8 * k + y % 8) / 8 = k by omega, show (8 * k + y % 8) % 8 = y % 8 by omega] at h
      obtain ⟨h1, h2⟩ := h
      rw [Bool.and_eq_true, Bool.and_eq_true, Bool.and_eq_true, decide_eq_true_eq] at h2
      rw [decide_eq_true y64, decide_eq_true (show y / 8 < N by omega), decide_eq_true (show y % 8 < N by simpa using h2.1.2)]
      rw [Bool.true_and, Bool.true_and, Bool.true_and, List.any_eq_true]
      exact ⟨k, hk, by rw [yi, h1, h2.2]; rfl⟩
    · intro h
      rw [Bool.and_eq_true, Bool.and_eq_true, Bool.and_eq_true, decide_eq_true_eq, decide_eq_true_eq, decide_eq_true_eq, List.any_eq_true] at h
      obtain ⟨⟨⟨y64, yi⟩, yj⟩, k, hk, h⟩ := h
      have hk' := List.mem_range.mp hk
      refine ⟨y / 8, List.mem_range.mpr yi, ?_⟩
      unfold rw8
      rw [Bool.and_eq_true, Bool.and_eq_true, decide_eq_true_eq, decide_eq_true_eq, List.any_eq_true]
      refine ⟨⟨y64, rfl⟩, k, hk, ?_⟩
      rw [Bool.and_eq_true] at h ⊢
      exact ⟨h.1, by rw [hr.at hN hk' yj]; exact h.2⟩
  rw [one]
  dsimp only
  generalize ((List.range N).any fun k => f (y / 8) k && g k (y % 8)) = A
  generalize f (y / 8) (y % 8) = B
  cases decide (y < 64) <;> cases decide (y / 8 < N) <;> cases decide (y % 8 < N) <;> simp
theorem clos_ok {N : Nat} (hN : N ≤ 8) {e : Int64} {f : Nat → Nat → Bool} (he : R8 N e f) : ∃ w, h_closure e (Int32.ofNat N) = some w ∧ R8 N w (px N f 8) := by
  have lp : ∀ m k M r, k + m = 8 → m < M → R8 N r (px N f k) → ∃ w, h_closure_5 M e (Int32.ofNat N) r (Int32.ofNat k) = some w ∧ R8 N w (px N f 8) := by
    intro m
    induction m with
    | zero =>
      intro k M r hk hM hr
      have : k = 8 := by omega
      subst this
      obtain ⟨M, rfl⟩ : ∃ L, M = L + 1 := ⟨M - 1, by omega⟩
      rw [h_closure_5, if_neg (show ¬ Int32.ofNat 8 < 8 by decide)]
      exact ⟨r, rfl, hr⟩
    | succ m ih =>
      intro k M r hk hM hr
      obtain ⟨M, rfl⟩ : ∃ L, M = L + 1 := ⟨M - 1, by omega⟩
      rw [h_closure_5, if_pos ((lt_lit (m := 8) (by omega)).mpr (by omega))]
      obtain ⟨w, ew, gw⟩ := clos_rows hN he r (fun v0 v2 v3 v5 => h_closure_5 M v0 v2 v3 v5) (Int32.ofNat k) N 0 BIG e (by omega) (by unfold BIG; omega) (fun y => by simp)
      rw [show h_closure_18 (fun v0 v2 v3 v5 => h_closure_5 M v0 v2 v3 v5) BIG e (Int32.ofNat N) r (Int32.ofNat k) e 0 = _ from ew, ofNat_succ]
      exact ih (k + 1) M w (by omega) (by omega) (rows_R8 hN he hr gw)
  exact lp 8 0 BIG e (by omega) (by unfold BIG; omega) he
theorem px_up {N : Nat} {f : Nat → Nat → Bool} : ∀ r i j, px N f r i j = true → px N f (r + 1) i j = true
  | 0, i, j, h => by
    have h' : f i j = true := h
    simp only [px, h', Bool.true_or]
  | r + 1, i, j, h => by
    simp only [px, Bool.or_eq_true, List.any_eq_true] at h
    show (f i j || (List.range N).any fun k => f i k && px N f (r + 1) k j) = true
    rw [Bool.or_eq_true, List.any_eq_true]
    rcases h with h | ⟨k, hk, h⟩
    · exact Or.inl h
    · rw [Bool.and_eq_true] at h
      exact Or.inr ⟨k, hk, by rw [Bool.and_eq_true]; exact ⟨h.1, px_up r k j h.2⟩⟩
theorem px_step {N : Nat} {f : Nat → Nat → Bool} {j r : Nat} (h : ∀ a, a < N → px N f (r + 1) a j = px N f r a j) (a : Nat) (ha : a < N) : px N f (r + 2) a j = px N f (r + 1) a j := by
  show (f a j || (List.range N).any fun k => f a k && px N f (r + 1) k j) = (f a j || (List.range N).any fun k => f a k && px N f r k j)
  congr 1
  rw [Bool.eq_iff_iff, List.any_eq_true, List.any_eq_true]
  constructor
  · rintro ⟨k, hk, q⟩; exact ⟨k, hk, by rw [← h k (List.mem_range.mp hk)]; exact q⟩
  · rintro ⟨k, hk, q⟩; exact ⟨k, hk, by rw [h k (List.mem_range.mp hk)]; exact q⟩
theorem px_stop (N : Nat) (f : Nat → Nat → Bool) (j : Nat) : ∀ d a, a < N → px N f (N + d + 1) a j = px N f (N + d) a j
  | 0, a, ha => grow_stop (X := fun r i => px N f r i j) (fun r a _ h => px_up r a j h) (fun r h a ha => px_step h a ha) a ha
  | d + 1, a, ha => px_step (fun b hb => px_stop N f j d b hb) a ha
theorem px_tc {N : Nat} (hN : N ≤ 8) {E : Nat → Nat → Bool} (sE : ∀ x y, E x y = true → x < N ∧ y < N) (i j : Nat) : px N E 8 i j = true ↔ TC (fun x y => E x y = true) i j := by
  constructor
  · have : ∀ r i j, px N E r i j = true → TC (fun x y => E x y = true) i j := by
      intro r
      induction r with
      | zero => intro i j h; exact TC.base h
      | succ r ih =>
        intro i j h
        simp only [px, Bool.or_eq_true, List.any_eq_true] at h
        rcases h with h | ⟨k, _, h⟩
        · exact TC.base h
        · rw [Bool.and_eq_true] at h
          exact TC.step (show E i k = true from h.1) (ih k j h.2)
    exact this 8 i j
  · intro t
    refine t (fun x z => px N E 8 x z = true) (fun x y e => by show (E x y || _) = true; rw [e, Bool.true_or]) (fun x y z e p => ?_)
    have st := px_stop N E z (8 - N) x (sE x y e).1
    rw [show N + (8 - N) = 8 by omega] at st
    rw [← st]
    show (E x z || (List.range N).any fun k => E x k && px N E 8 k z) = true
    rw [Bool.or_eq_true, List.any_eq_true]
    exact Or.inr ⟨y, List.mem_range.mpr (sE x y e).2, by rw [Bool.and_eq_true]; exact ⟨e, p⟩⟩
theorem clos_view {N Mx : Nat} {s : S} {e : Int64} (I : Inv N Mx s) (he : R8 N e (tb (gA s 0))) : ∃ w, h_closure e (Int32.ofNat N) = some w ∧ R8 N w (tb (gA s 1)) := by
  obtain ⟨w, ew, hw⟩ := clos_ok I.2.1 he
  refine ⟨w, ew, hw.congr (fun a b _ _ => ?_)⟩
  rw [Bool.eq_iff_iff, px_tc I.2.1 (fun x y h => I.1.2.2.1 x y h), I.1.2.2.2]
  exact Iff.rfl
theorem pop_loop (w : Int64) : ∀ m k M, k + m = 64 → m < M → h_pop_4 M w (Int32.ofNat ((List.range k).countP (bl w))) (Int32.ofNat k) = some (Int32.ofNat ((List.range 64).countP (bl w)))
  | _, _, 0, _, h => by omega
  | 0, k, M + 1, hk, _ => by
    have : k = 64 := by omega
    subst this
    rw [h_pop_4, if_neg (show ¬ Int32.ofNat 64 < 64 by decide)]
  | m + 1, k, M + 1, hk, hM => by
    have ih := pop_loop w m (k + 1) M (by omega) (by omega)
    rw [List.range_succ, List.countP_append, List.countP_cons, List.countP_nil, Nat.zero_add] at ih
    have t := l_test w (k := k) (by omega)
    rw [h_pop_4, if_pos ((lt_lit (m := 64) (by omega)).mpr (by omega)), ofNat_succ k]
    cases q : bl w k with
    | false =>
      rw [q] at ih
      rw [if_pos (t.mpr q)]
      exact ih
    | true =>
      rw [q] at ih
      rw [if_neg (fun z => by rw [t.mp z] at q; cases q), ofNat_succ]
      exact ih
theorem pop_any (w : Int64) : h_pop w = some (Int32.ofNat ((List.range 64).countP (bl w))) := by
  unfold h_pop
  rw [show h_pop_4 BIG w 0 0 = h_pop_4 BIG w (Int32.ofNat ((List.range 0).countP (bl w))) (Int32.ofNat 0) from rfl]
  exact pop_loop w 64 0 BIG (by omega) (by unfold BIG; omega)
theorem countP_ext (p : Nat → Bool) (N : Nat) : ∀ d, (List.range (N + d)).countP (fun y => decide (y < N) && p y) = (List.range N).countP p
  | 0 => by
    apply List.countP_congr
    intro y hy
    have := List.mem_range.mp hy
    rw [decide_eq_true (show y < N by omega), Bool.true_and]
  | d + 1 => by
    rw [← Nat.add_assoc, List.range_succ, List.countP_append, countP_ext p N d, List.countP_cons, List.countP_nil, decide_eq_false (show ¬ N + d < N by omega)]
    rfl
theorem cnt_ext {N : Nat} (hN : N ≤ 8) (f : Nat → Nat → Bool) : cnt 8 (fun x y => decide (x < N) && decide (y < N) && f x y) = cnt N f := by
  have rows : ∀ x, (List.range 8).countP (fun y => decide (x < N) && decide (y < N) && f x y) = if x < N then (List.range N).countP (f x) else 0 := fun x => by
    by_cases q : x < N
    · rw [if_pos q, ← countP_ext (f x) N (8 - N), show N + (8 - N) = 8 by omega]
      apply List.countP_congr
      intro y _
      rw [decide_eq_true q, Bool.true_and]
    · rw [if_neg q, List.countP_eq_zero.mpr]
      intro y _
      rw [decide_eq_false q]; simp
  rw [cnt_rows, cnt_rows, sumTo_congr (fun x _ => rows x)]
  have ext : ∀ d, sumTo (fun x => if x < N then (List.range N).countP (f x) else 0) (N + d) = sumTo (fun x => (List.range N).countP (f x)) N := by
    intro d
    induction d with
    | zero => exact sumTo_congr (fun x hx => if_pos hx)
    | succ d ih =>
      rw [← Nat.add_assoc]
      show sumTo _ (N + d) + (if N + d < N then _ else 0) = _
      rw [ih, if_neg (by omega), Nat.add_zero]
  have := ext (8 - N)
  rw [show N + (8 - N) = 8 by omega] at this
  exact this
theorem pop_R8 {N : Nat} (hN : N ≤ 8) {w : Int64} {f : Nat → Nat → Bool} (h : R8 N w f) : h_pop w = some (Int32.ofNat (cnt N f)) := by
  rw [pop_any, ← cnt_ext hN f]
  congr 2
  unfold cnt
  rw [show prs 8 = (List.range 64).map (fun i => (i / 8, i % 8)) by decide, List.countP_map]
  apply List.countP_congr
  intro y hy
  rw [h, decide_eq_true (List.mem_range.mp hy), Bool.true_and]
  rfl
theorem andn_pop {N : Nat} (hN : N ≤ 8) {x y : Int64} {f g : Nat → Nat → Bool} (hx : R8 N x f) (hy : R8 N y g) : h_pop (x &&& (y ^^^ (-1))) = some (Int32.ofNat (cnt N (fun a b => f a b && !g a b))) := by
  apply pop_R8 hN
  intro k
  rw [bl_andn, hx, hy]
  cases decide (k < 64) <;> cases decide (k / 8 < N) <;> cases decide (k % 8 < N) <;> simp
theorem nth_any (w : Int64) (v2 : Int32) : ∀ m k M v3, k + m = 64 → m < M → ∃ r, h_nth_5 M w v2 v3 (Int32.ofNat k) = some r
  | _, _, 0, _, _, h => by omega
  | 0, k, M + 1, v3, hk, _ => by
    have : k = 64 := by omega
    subst this
    rw [h_nth_5, if_neg (show ¬ Int32.ofNat 64 < 64 by decide)]
    exact ⟨_, rfl⟩
  | m + 1, k, M + 1, v3, hk, hM => by
    rw [h_nth_5, if_pos ((lt_lit (m := 64) (by omega)).mpr (by omega)), ofNat_succ]
    split
    · exact nth_any w v2 m (k + 1) M v3 (by omega) (by omega)
    · split
      · exact ⟨_, rfl⟩
      · exact nth_any w v2 m (k + 1) M _ (by omega) (by omega)
/-- a word of the edges up to row a, column b -/
def RE (N : Nat) (w : Int64) (f : Nat → Nat → Bool) (a b : Nat) : Prop := ∀ y, bl w y = (decide (y < 64) && (decide (y / 8 < a) || decide (y / 8 = a ∧ y % 8 < b)) && decide (y % 8 < N) && f (y / 8) (y % 8))
theorem RE.row {N : Nat} {w : Int64} {f : Nat → Nat → Bool} {a : Nat} (h : RE N w f a N) : RE N w f (a + 1) 0 := fun y => by
  rw [h]
  by_cases q : y % 8 < N
  · rw [decide_eq_true q]
    congr 3
    rw [Bool.eq_iff_iff, Bool.or_eq_true, Bool.or_eq_true, decide_eq_true_eq, decide_eq_true_eq, decide_eq_true_eq, decide_eq_true_eq]
    omega
  · simp [q]
theorem RE.add {N : Nat} (hN : N ≤ 8) {w : Int64} {f : Nat → Nat → Bool} {a b : Nat} (h : RE N w f a b) (ha : a < N) (hb : b < N) {r : Int32} (hr : r = if f a b = true then 1 else 0) : RE N (if r = 0 then w else w ||| ((1 : Int64) <<< ((Int32.ofNat a * 8 + Int32.ofNat b).toInt64 &&& 63))) f a (b + 1) := fun y => by
  obtain ⟨i1, i2⟩ := idx8 ⟨a, by omega⟩ ⟨b, by omega⟩
  dsimp only at i1 i2
  rw [i1, i2]
  have old := h y
  by_cases q : y = 8 * a + b
  · have y1 : y / 8 = a := by omega
    have y2 : y % 8 = b := by omega
    rw [y1, y2, decide_eq_true (show y < 64 by omega), decide_eq_false (show ¬ a < a by omega), decide_eq_false (show ¬ (a = a ∧ b < b) by omega)] at old
    rw [y1, y2, decide_eq_true (show y < 64 by omega), decide_eq_true (show a = a ∧ b < b + 1 by omega), decide_eq_true hb]
    cases e : f a b with
    | false =>
      rw [e] at hr
      rw [if_pos (by rw [hr]; rfl), old]
      simp
    | true =>
      rw [e] at hr
      rw [if_neg (by rw [hr]; decide), bl_or, bl_bit (by omega), decide_eq_true q]
      simp
  · have same : (decide (y < 64) && (decide (y / 8 < a) || decide (y / 8 = a ∧ y % 8 < b + 1)) && decide (y % 8 < N) && f (y / 8) (y % 8)) = (decide (y < 64) && (decide (y / 8 < a) || decide (y / 8 = a ∧ y % 8 < b)) && decide (y % 8 < N) && f (y / 8) (y % 8)) := by
      congr 4
      exact decide_eq_decide.mpr (by omega)
    rw [same, ← old]
    by_cases z : r = 0
    · rw [if_pos z]
    · rw [if_neg z, bl_or, bl_bit (by omega), decide_eq_false q, Bool.or_false]
theorem RE.full {N : Nat} {w : Int64} {f : Nat → Nat → Bool} (h : RE N w f N 0) : R8 N w f := fun y => by
  rw [h]
  congr 3
  rw [Bool.eq_iff_iff, Bool.or_eq_true]
  simp only [decide_eq_true_eq]
  omega
theorem RE.zero {N : Nat} {f : Nat → Nat → Bool} : RE N 0 f 0 0 := fun y => by rw [bl_zero]; simp
section
variable {N Mx : Nat} {K : Int32 → Int32 → Int32 → List Int32 → S → Option (Int32 × S)} {q : List Int32} {v4 v5 : Int32}
theorem e0_in {s : S} (I : Inv N Mx s) (K68 : Int32 → Int32 → Int32 → Int64 → Int32 → List Int32 → S → Option (Int32 × S)) {a : Nat} (ha : a < N) : ∀ m b M w, b + m = N → m < M → RE N w (tb (gA s 0)) a b → ∃ w', law_77 K K68 M (Int32.ofNat N) v4 v5 w (Int32.ofNat a) (Int32.ofNat b) q s = K68 (Int32.ofNat N) v4 v5 w' (Int32.ofNat (a + 1)) q s ∧ RE N w' (tb (gA s 0)) (a + 1) 0
  | _, _, 0, _, _, h, _ => by omega
  | 0, b, M + 1, w, hb, _, h => by
    have := I.2.1
    have : b = N := by omega
    subst this
    rw [law_77, if_neg (fun z => by have := (ofNat_lt (by omega) (by omega)).mp z; omega), ofNat_succ]
    exact ⟨w, rfl, h.row⟩
  | m + 1, b, M + 1, w, hb, hM, h => by
    have n8 := I.2.1
    rw [law_77, if_pos ((ofNat_lt (by omega) (by omega)).mpr (by omega)), has_ok I ha (by omega), Option.bind_some, ofNat_succ]
    exact e0_in I K68 ha m (b + 1) M _ (by omega) (by omega) (h.add n8 ha (by omega) rfl)
theorem e0_ok {s : S} (I : Inv N Mx s) : ∀ m a M w, a + m = N → m < M → RE N w (tb (gA s 0)) a 0 → ∃ w', law_68 K M (Int32.ofNat N) v4 v5 w (Int32.ofNat a) q s = law_121 K (Int32.ofNat N) v4 v5 w' q s ∧ R8 N w' (tb (gA s 0))
  | _, _, 0, _, _, h, _ => by omega
  | 0, a, M + 1, w, ha, _, h => by
    have := I.2.1
    have : a = N := by omega
    subst this
    rw [law_68, if_neg (fun z => by have := (ofNat_lt (by omega) (by omega)).mp z; omega)]
    exact ⟨w, rfl, h.full⟩
  | m + 1, a, M + 1, w, ha, hM, h => by
    have n8 := I.2.1
    obtain ⟨w', ew, hw⟩ := e0_in (K := K) (q := q) (v4 := v4) (v5 := v5) I (fun v1 v4 v5 v6 v8 q t0 => law_68 K M v1 v4 v5 v6 v8 q t0) (show a < N by omega) N 0 BIG w (by omega) (by unfold BIG; omega) h
    rw [law_68, if_pos ((ofNat_lt (by omega) (by omega)).mpr (by omega)), show law_77 K (fun v1 v4 v5 v6 v8 q t0 => law_68 K M v1 v4 v5 v6 v8 q t0) BIG (Int32.ofNat N) v4 v5 w (Int32.ofNat a) 0 q s = _ from ew]
    exact e0_ok I m (a + 1) M w' (by omega) (by omega) hw
variable {v8 : Int64} {v10 v11 : Int32}
theorem e1_in {s : S} (I : Inv N Mx s) (K355 : Int32 → Int32 → Int32 → Int64 → Int32 → Int32 → Int64 → Int32 → List Int32 → S → Option (Int32 × S)) {a : Nat} (ha : a < N) : ∀ m b M w, b + m = N → m < M → RE N w (tb (gA s 0)) a b → ∃ w', law_364 K K355 M (Int32.ofNat N) v4 v5 v8 v10 v11 w (Int32.ofNat a) (Int32.ofNat b) q s = K355 (Int32.ofNat N) v4 v5 v8 v10 v11 w' (Int32.ofNat (a + 1)) q s ∧ RE N w' (tb (gA s 0)) (a + 1) 0
  | _, _, 0, _, _, h, _ => by omega
  | 0, b, M + 1, w, hb, _, h => by
    have := I.2.1
    have : b = N := by omega
    subst this
    rw [law_364, if_neg (fun z => by have := (ofNat_lt (by omega) (by omega)).mp z; omega), ofNat_succ]
    exact ⟨w, rfl, h.row⟩
  | m + 1, b, M + 1, w, hb, hM, h => by
    have n8 := I.2.1
    rw [law_364, if_pos ((ofNat_lt (by omega) (by omega)).mpr (by omega)), has_ok I ha (by omega), Option.bind_some, ofNat_succ]
    exact e1_in I K355 ha m (b + 1) M _ (by omega) (by omega) (h.add n8 ha (by omega) rfl)
theorem e1_ok {s : S} (I : Inv N Mx s) : ∀ m a M w, a + m = N → m < M → RE N w (tb (gA s 0)) a 0 → ∃ w', law_355 K M (Int32.ofNat N) v4 v5 v8 v10 v11 w (Int32.ofNat a) q s = law_408 K (Int32.ofNat N) v4 v5 v8 v10 v11 w' q s ∧ R8 N w' (tb (gA s 0))
  | _, _, 0, _, _, h, _ => by omega
  | 0, a, M + 1, w, ha, _, h => by
    have := I.2.1
    have : a = N := by omega
    subst this
    rw [law_355, if_neg (fun z => by have := (ofNat_lt (by omega) (by omega)).mp z; omega)]
    exact ⟨w, rfl, h.full⟩
  | m + 1, a, M + 1, w, ha, hM, h => by
    have n8 := I.2.1
    obtain ⟨w', ew, hw⟩ := e1_in (K := K) (q := q) (v4 := v4) (v5 := v5) (v8 := v8) (v10 := v10) (v11 := v11) I (fun v1 v4 v5 v8 v10 v11 v12 v14 q t0 => law_355 K M v1 v4 v5 v8 v10 v11 v12 v14 q t0) (show a < N by omega) N 0 BIG w (by omega) (by unfold BIG; omega) h
    rw [law_355, if_pos ((ofNat_lt (by omega) (by omega)).mpr (by omega)), show law_364 K (fun v1 v4 v5 v8 v10 v11 v12 v14 q t0 => law_355 K M v1 v4 v5 v8 v10 v11 v12 v14 q t0) BIG (Int32.ofNat N) v4 v5 v8 v10 v11 w (Int32.ofNat a) 0 q s = _ from ew]
    exact e1_ok I m (a + 1) M w' (by omega) (by omega) hw
variable {v12 v14 : Int64}
theorem rch_in {s : S} (I : Inv N Mx s) (hw : R8 N v14 (tb (gA s 1))) (K419 : Int32 → Int32 → Int32 → Int64 → Int32 → Int32 → Int64 → Int64 → Int32 → List Int32 → S → Option (Int32 × S)) {a : Nat} (ha : a < N) : ∀ m b M, b + m = N → m < M → law_428 K K419 M (Int32.ofNat N) v4 v5 v8 v10 v11 v12 v14 (Int32.ofNat a) (Int32.ofNat b) q s = K419 (Int32.ofNat N) v4 v5 v8 v10 v11 v12 v14 (Int32.ofNat (a + 1)) q s
  | _, _, 0, _, h => by omega
  | 0, b, M + 1, hb, _ => by
    have := I.2.1
    have : b = N := by omega
    subst this
    rw [law_428, if_neg (fun z => by have := (ofNat_lt (by omega) (by omega)).mp z; omega), ofNat_succ]
  | m + 1, b, M + 1, hb, hM => by
    have n8 := I.2.1
    rw [law_428, if_pos ((ofNat_lt (by omega) (by omega)).mpr (by omega)), reaches_ok I ha (by omega), Option.bind_some, hbit_ok hw n8 ha (by omega), if_pos rfl, ofNat_succ]
    exact rch_in I hw K419 ha m (b + 1) M (by omega) (by omega)
theorem rch_ok {s : S} (I : Inv N Mx s) (hw : R8 N v14 (tb (gA s 1))) : ∀ m a M, a + m = N → m < M → law_419 K M (Int32.ofNat N) v4 v5 v8 v10 v11 v12 v14 (Int32.ofNat a) q s = law_468 K (Int32.ofNat N) v4 v5 v8 v10 v11 v12 v14 q s
  | _, _, 0, _, h => by omega
  | 0, a, M + 1, ha, _ => by
    have := I.2.1
    have : a = N := by omega
    subst this
    rw [law_419, if_neg (fun z => by have := (ofNat_lt (by omega) (by omega)).mp z; omega)]
  | m + 1, a, M + 1, ha, hM => by
    have n8 := I.2.1
    have e := rch_in (K := K) (q := q) (v4 := v4) (v5 := v5) (v8 := v8) (v10 := v10) (v11 := v11) (v12 := v12) I hw (fun v1 v4 v5 v8 v10 v11 v12 v14 v16 q t0 => law_419 K M v1 v4 v5 v8 v10 v11 v12 v14 v16 q t0) (show a < N by omega) N 0 BIG (by omega) (by unfold BIG; omega)
    rw [law_419, if_pos ((ofNat_lt (by omega) (by omega)).mpr (by omega)), show law_428 K (fun v1 v4 v5 v8 v10 v11 v12 v14 v16 q t0 => law_419 K M v1 v4 v5 v8 v10 v11 v12 v14 v16 q t0) BIG (Int32.ofNat N) v4 v5 v8 v10 v11 v12 v14 (Int32.ofNat a) 0 q s = _ from e]
    exact rch_ok I hw m (a + 1) M (by omega) (by omega)
theorem der_sum {s : S} (I : Inv N Mx s) (he : R8 N v12 (tb (gA s 0))) (K471 : Int32 → Int32 → Int32 → Int64 → Int32 → Int32 → Int64 → Int64 → Int32 → List Int32 → S → Option (Int32 × S)) (K480 : Int32 → Int32 → Int32 → Int64 → Int32 → Int32 → Int64 → Int64 → Int32 → Int32 → List Int32 → S → Option (Int32 × S)) {a b : Nat} (ha : a < N) (hb : b < N) : ∀ m k M, k + m = N → m < M → law_508 K K471 K480 M (Int32.ofNat N) v4 v5 v8 v10 v11 v12 v14 (Int32.ofNat a) (Int32.ofNat b) (Int32.ofNat (derc s a b k)) (Int32.ofNat k) q s = law_546 K K471 K480 (Int32.ofNat N) v4 v5 v8 v10 v11 v12 v14 (Int32.ofNat a) (Int32.ofNat b) (Int32.ofNat (derc s a b N)) q s
  | _, _, 0, _, h => by omega
  | 0, k, M + 1, hk, _ => by
    have := I.2.1
    have : k = N := by omega
    subst this
    rw [law_508, if_neg (fun z => by have := (ofNat_lt (by omega) (by omega)).mp z; omega)]
  | m + 1, k, M + 1, hk, hM => by
    have n8 := I.2.1
    have ih := der_sum I he K471 K480 ha hb m (k + 1) M (by omega) (by omega)
    have hr : derc s a b (k + 1) = derc s a b k + if (tb (gA s 0) a k && tb (gA s 1) k b) = true then 1 else 0 := by
      unfold derc
      rw [List.range_succ, List.countP_append, List.countP_cons, List.countP_nil]; omega
    rw [hr] at ih
    rw [law_508, if_pos ((ofNat_lt (by omega) (by omega)).mpr (by omega)), hbit_ok he n8 ha (by omega), reaches_ok I (show k < N by omega) hb, Option.bind_some, ofNat_succ]
    cases e1 : tb (gA s 0) a k with
    | false =>
      rw [e1] at ih
      rw [if_pos (show (if false = true then (1 : Int32) else 0) = 0 from rfl)]
      exact ih
    | true =>
      rw [e1] at ih
      rw [if_neg (show ¬ (if true = true then (1 : Int32) else 0) = 0 by decide)]
      cases e2 : tb (gA s 1) k b with
      | false =>
        rw [e2] at ih
        rw [if_pos (show (if false = true then (1 : Int32) else 0) = 0 from rfl)]
        exact ih
      | true =>
        rw [e2] at ih
        rw [if_neg (show ¬ (if true = true then (1 : Int32) else 0) = 0 by decide), ofNat_succ]
        exact ih
theorem der_in {s : S} (I : Inv N Mx s) (he : R8 N v12 (tb (gA s 0))) (K471 : Int32 → Int32 → Int32 → Int64 → Int32 → Int32 → Int64 → Int64 → Int32 → List Int32 → S → Option (Int32 × S)) {a : Nat} (ha : a < N) : ∀ m b M, b + m = N → m < M → law_480 K K471 M (Int32.ofNat N) v4 v5 v8 v10 v11 v12 v14 (Int32.ofNat a) (Int32.ofNat b) q s = K471 (Int32.ofNat N) v4 v5 v8 v10 v11 v12 v14 (Int32.ofNat (a + 1)) q s
  | _, _, 0, _, h => by omega
  | 0, b, M + 1, hb, _ => by
    have := I.2.1
    have : b = N := by omega
    subst this
    rw [law_480, if_neg (fun z => by have := (ofNat_lt (by omega) (by omega)).mp z; omega), ofNat_succ]
  | m + 1, b, M + 1, hb, hM => by
    have n8 := I.2.1
    have hb' : b < N := by omega
    have e := der_sum (K := K) (q := q) (v4 := v4) (v5 := v5) (v8 := v8) (v10 := v10) (v11 := v11) (v14 := v14) I he K471 (fun v1 v4 v5 v8 v10 v11 v12 v14 v16 v17 q t0 => law_480 K K471 M v1 v4 v5 v8 v10 v11 v12 v14 v16 v17 q t0) ha hb' N 0 BIG (by omega) (by unfold BIG; omega)
    rw [law_480, if_pos ((ofNat_lt (by omega) (by omega)).mpr hb')]
    unfold law_503
    rw [hbit_ok he n8 ha hb', show (if (if tb (gA s 0) a b = true then (1 : Int32) else 0) = 0 then (0 : Int32) else 1) = Int32.ofNat (derc s a b 0) by unfold derc; cases tb (gA s 0) a b <;> rfl, show law_508 K K471 (fun v1 v4 v5 v8 v10 v11 v12 v14 v16 v17 q t0 => law_480 K K471 M v1 v4 v5 v8 v10 v11 v12 v14 v16 v17 q t0) BIG (Int32.ofNat N) v4 v5 v8 v10 v11 v12 v14 (Int32.ofNat a) (Int32.ofNat b) (Int32.ofNat (derc s a b 0)) 0 q s = _ from e]
    unfold law_546
    rw [deriv_ok I ha hb', Option.bind_some, if_pos rfl, ofNat_succ]
    exact der_in I he K471 ha m (b + 1) M (by omega) (by omega)
theorem der_ok {s : S} (I : Inv N Mx s) (he : R8 N v12 (tb (gA s 0))) : ∀ m a M, a + m = N → m < M → law_471 K M (Int32.ofNat N) v4 v5 v8 v10 v11 v12 v14 (Int32.ofNat a) q s = law_573 K (Int32.ofNat N) v4 v5 v8 v10 v11 v14 q s
  | _, _, 0, _, h => by omega
  | 0, a, M + 1, ha, _ => by
    have := I.2.1
    have : a = N := by omega
    subst this
    rw [law_471, if_neg (fun z => by have := (ofNat_lt (by omega) (by omega)).mp z; omega)]
  | m + 1, a, M + 1, ha, hM => by
    have n8 := I.2.1
    have e := der_in (K := K) (q := q) (v4 := v4) (v5 := v5) (v8 := v8) (v10 := v10) (v11 := v11) (v14 := v14) I he (fun v1 v4 v5 v8 v10 v11 v12 v14 v16 q t0 => law_471 K M v1 v4 v5 v8 v10 v11 v12 v14 v16 q t0) (show a < N by omega) N 0 BIG (by omega) (by unfold BIG; omega)
    rw [law_471, if_pos ((ofNat_lt (by omega) (by omega)).mpr (by omega)), show law_480 K (fun v1 v4 v5 v8 v10 v11 v12 v14 v16 q t0 => law_471 K M v1 v4 v5 v8 v10 v11 v12 v14 v16 q t0) BIG (Int32.ofNat N) v4 v5 v8 v10 v11 v12 v14 (Int32.ofNat a) 0 q s = _ from e]
    exact der_ok I he m (a + 1) M (by omega) (by omega)
theorem sums_ok {s : S} (I : Inv N Mx s) : ∀ m a M, a + m = N → m < M → law_582 K M (Int32.ofNat N) v4 v5 v8 v10 v11 v14 (Int32.ofNat (sumTo (fun x => rc N (G (gA s 1) x)) a)) (Int32.ofNat (sumTo (fun x => colc (gA s 1) x N) a)) (Int32.ofNat a) q s = law_616 K (Int32.ofNat N) v4 v5 v8 v10 v11 v14 (Int32.ofNat (cnt N (tb (gA s 1)))) (Int32.ofNat (cnt N (tb (gA s 1)))) q s
  | _, _, 0, _, h => by omega
  | 0, a, M + 1, ha, _ => by
    have := I.2.1
    have : a = N := by omega
    subst this
    rw [law_582, if_neg (fun z => by have := (ofNat_lt (by omega) (by omega)).mp z; omega), cols_rows]
    rw [show sumTo (fun x => rc a (G (gA s 1) x)) a = cnt a (tb (gA s 1)) from (cnt_rows a (tb (gA s 1))).symm]
  | m + 1, a, M + 1, ha, hM => by
    have n8 := I.2.1
    have ih := sums_ok I m (a + 1) M (by omega) (by omega)
    rw [law_582, if_pos ((ofNat_lt (by omega) (by omega)).mpr (by omega)), from_ok I (show a < N by omega), Option.bind_some, to_ok I (show a < N by omega), Option.bind_some, ofNat_succ, ofNat_add', ofNat_add']
    exact ih
/-- what an operation left behind -/
def Op (N Mx : Nat) (s s' : S) (v10 v11 : Int32) : Prop := Inv N Mx s' ∧ (v10 = 0 ∨ v11 < 0 ∨ (v11 = Int32.ofNat (cnt N (fun x y => tb (gA s' 1) x y && !tb (gA s 1) x y)) + Int32.ofNat (cnt N (fun x y => tb (gA s 1) x y && !tb (gA s' 1) x y)) ∧ gI s' 7 = Int32.ofNat (cnt N (fun x y => tb (gA s' 1) x y && !tb (gA s 1) x y)) ∧ gI s' 8 = Int32.ofNat (cnt N (fun x y => tb (gA s 1) x y && !tb (gA s' 1) x y))))
theorem tail_ok {s s' : S} (h : Op N Mx s s' v10 v11) (ho : R8 N v8 (tb (gA s 1))) : law_349 K (Int32.ofNat N) v4 v5 v8 v10 v11 q s' = K (Int32.ofNat N) v4 (v5 + 1) q s' := by
  obtain ⟨I, res⟩ := h
  have n8 := I.2.1
  unfold law_349
  obtain ⟨e1, ee, he⟩ := e1_ok (K := K) (q := q) (v4 := v4) (v5 := v5) (v8 := v8) (v10 := v10) (v11 := v11) I N 0 BIG 0 (by omega) (by unfold BIG; omega) RE.zero
  rw [show law_355 K BIG (Int32.ofNat N) v4 v5 v8 v10 v11 0 0 q s' = _ from ee]
  obtain ⟨w, ew, hw⟩ := clos_view I he
  unfold law_408
  rw [ew, Option.bind_some]
  rw [show law_419 K BIG (Int32.ofNat N) v4 v5 v8 v10 v11 e1 w 0 q s' = _ from rch_ok I hw N 0 BIG (by omega) (by unfold BIG; omega)]
  unfold law_468
  rw [show law_471 K BIG (Int32.ofNat N) v4 v5 v8 v10 v11 e1 w 0 q s' = _ from der_ok I he N 0 BIG (by omega) (by unfold BIG; omega)]
  unfold law_573
  rw [show law_582 K BIG (Int32.ofNat N) v4 v5 v8 v10 v11 w 0 0 0 q s' = _ from sums_ok I N 0 BIG (by omega) (by unfold BIG; omega)]
  unfold law_616 k_lastAdded k_lastRemoved
  rw [viewSize_ok I.1.1 n8 I.1.sub, Option.bind_some, if_pos rfl, if_pos rfl]
  by_cases z : v10 = 0
  · rw [if_pos z]
  · rw [if_neg z]
    by_cases l : v11 < 0
    · rw [if_pos l]
    · rw [if_neg l]
      rcases res with r | r | ⟨r1, r2, r3⟩
      · exact absurd r z
      · exact absurd r l
      · rw [andn_pop n8 hw ho, Option.bind_some, andn_pop n8 ho hw, Option.bind_some, if_pos r1, if_pos r2, if_pos r3]
end
section
variable {N Mx : Nat} {K : Int32 → Int32 → Int32 → List Int32 → S → Option (Int32 × S)} {q : List Int32} {v4 v5 : Int32} {v8 : Int64}
theorem cnt_none {f g : Nat → Nat → Bool} (h : ∀ x y, f x y = true → g x y = true) : cnt N (fun x y => f x y && !g x y) = 0 := by
  unfold cnt
  rw [List.countP_eq_zero]
  intro p _
  show ¬ (f p.1 p.2 && !g p.1 p.2) = true
  have := h p.1 p.2
  revert this
  cases f p.1 p.2 <;> cases g p.1 p.2 <;> simp
theorem grow_view {s s' : S} (I : Inv N Mx s) (I' : Inv N Mx s') (h : ∀ x y, Ed s x y → Ed s' x y) (x y : Nat) (e : tb (gA s 1) x y = true) : tb (gA s' 1) x y = true := (I'.1.2.2.2 x y).mpr (TC.mono h ((I.1.2.2.2 x y).mp e))
theorem ins_op {s : S} (I : Inv N Mx s) (v w : Int32) : ∃ r s', k_insertEdge v w s = some (r, s') ∧ Op N Mx s s' 1 r := by
  rcases insert_ok I v w with ⟨e, _⟩ | ⟨a, b, _, _, _, _, ⟨_, e⟩ | ⟨_, _, e⟩ | ⟨_, _, s', e, I', ed, k7, k8, _⟩⟩
  · exact ⟨_, _, e, I, Or.inr (Or.inl (by decide))⟩
  · exact ⟨_, _, e, I, Or.inr (Or.inl (by decide))⟩
  · exact ⟨_, _, e, I, Or.inr (Or.inl (by decide))⟩
  · have z := cnt_none (N := N) (f := tb (gA s 1)) (g := tb (gA s' 1)) (grow_view I I' (fun x y h => (ed x y).mpr (Or.inl h)))
    refine ⟨_, _, e, I', Or.inr (Or.inr ⟨?_, k7, ?_⟩)⟩
    · rw [z, ofNat_add']; rfl
    · rw [z, k8]; rfl
theorem del_op {s : S} (I : Inv N Mx s) (v w : Int32) : ∃ r s', k_deleteEdge v w s = some (r, s') ∧ Op N Mx s s' 2 r := by
  rcases delete_ok I v w with ⟨e, _⟩ | ⟨a, b, _, _, _, _, ⟨_, e⟩ | ⟨_, s', e, I', ed, k8, k7, _⟩⟩
  · exact ⟨_, _, e, I, Or.inr (Or.inl (by decide))⟩
  · exact ⟨_, _, e, I, Or.inr (Or.inl (by decide))⟩
  · have z := cnt_none (N := N) (f := tb (gA s' 1)) (g := tb (gA s 1)) (grow_view I' I (fun x y h => ((ed x y).mp h).1))
    refine ⟨_, _, e, I', Or.inr (Or.inr ⟨?_, ?_, k8⟩)⟩
    · rw [z, ofNat_add', Nat.zero_add]
    · rw [z, k7]; rfl
theorem stg_op {s : S} (I : Inv N Mx s) (k v w : Int32) : ∃ r s', k_stage k v w s = some (r, s') ∧ Inv N Mx s' := by
  rcases stage_ok I k v w with ⟨e, _⟩ | ⟨_, _, _, _, _, _, _, _, ⟨_, e⟩ | ⟨_, s', e, I', _⟩⟩
  · exact ⟨_, _, e, I⟩
  · exact ⟨_, _, e, I⟩
  · exact ⟨_, _, e, I'⟩
theorem clr_op {s : S} (I : Inv N Mx s) : Inv N Mx (k_clearPending s).2 := by
  unfold k_clearPending
  obtain ⟨C, hN, h3, hM, h5, hc, _, l6, l7, l8⟩ := id I
  obtain ⟨W, c4, sE, vw⟩ := id C
  refine ⟨⟨W.sI (by decide), by rw [gI_sI, if_neg (by decide)]; exact c4, by rw [gA_sI]; exact sE, fun x z => ?_⟩, hN, by rw [gI_sI, if_neg (by decide)]; exact h3, hM, by rw [gI_sI, if_neg (by decide), gA_sI]; exact h5, by rw [gA_sI]; exact hc, ⟨0, by rw [gI_sI, if_pos rfl]; rfl, by omega⟩, by rw [gA_sI]; exact l6, by rw [gA_sI]; exact l7, by rw [gA_sI]; exact l8⟩
  rw [gA_sI, vw]
  unfold Ed
  rw [gA_sI]
theorem op_any {s : S} (I : Inv N Mx s) (ho : R8 N v8 (tb (gA s 1))) (v13 v14 v15 : Int32) : ∃ s', law_245 K (Int32.ofNat N) v4 v5 v8 0 (-1) v13 v14 v15 q s = K (Int32.ofNat N) v4 (v5 + 1) q s' ∧ Inv N Mx s' := by
  unfold law_245 k_stageInsert k_stageDelete
  obtain ⟨r1, s1, e1, o1⟩ := ins_op I v14 v15
  obtain ⟨r2, s2, e2, o2⟩ := del_op I v14 v15
  obtain ⟨r3, s3, e3, o3⟩ := stg_op I 1 v14 v15
  obtain ⟨r4, s4, e4, o4⟩ := stg_op I 2 v14 v15
  obtain ⟨p, hp, p16⟩ := I.2.2.2.2.2.2.1
  obtain ⟨s5, e5, o5, _, k7, k8, _⟩ := commit_ok I hp p16
  rw [e1, e2, e3, e4, e5]
  simp only [Option.bind_some]
  by_cases c0 : (2 : Int32) < v13
  · rw [if_pos c0]
    by_cases c1 : v13 = 3
    · rw [if_pos c1]; exact ⟨s2, tail_ok o2 ho, o2.1⟩
    rw [if_neg c1]
    by_cases c2 : v13 = 4
    · rw [if_pos c2]; exact ⟨s3, tail_ok (s := s) ⟨o3, Or.inl rfl⟩ ho, o3⟩
    rw [if_neg c2]
    by_cases c3 : v13 = 5
    · rw [if_pos c3]; exact ⟨s4, tail_ok (s := s) ⟨o4, Or.inl rfl⟩ ho, o4⟩
    rw [if_neg c3]
    by_cases c4 : v13 = 6
    · rw [if_pos c4]; exact ⟨s5, tail_ok (s := s) ⟨o5, Or.inr (Or.inr ⟨rfl, k7, k8⟩)⟩ ho, o5⟩
    rw [if_neg c4]
    exact ⟨_, tail_ok (s := s) ⟨clr_op I, Or.inl rfl⟩ ho, clr_op I⟩
  · rw [if_neg c0]; exact ⟨s1, tail_ok o1 ho, o1.1⟩
theorem op_pick {s : S} (I : Inv N Mx s) (ho : R8 N v8 (tb (gA s 1))) (v6 : Int64) (v13 v14 v15 v16 : Int32) : ∃ s', law_208 K (Int32.ofNat N) v4 v5 v6 v8 0 (-1) v13 v14 v15 v16 q s = K (Int32.ofNat N) v4 (v5 + 1) q s' ∧ Inv N Mx s' := by
  unfold law_208 h_nth
  rw [pop_any, Option.bind_some, Option.bind_some]
  generalize (List.range 64).countP (bl v6) = c
  by_cases z : (0 : Int32) < Int32.ofNat c
  · rw [if_pos z, if_neg (fun e => by rw [e] at z; exact absurd z (by decide))]
    obtain ⟨r, er⟩ := nth_any v6 (v16 % Int32.ofNat c) 64 0 BIG 0 (by omega) (by unfold BIG; omega)
    rw [show h_nth_5 BIG v6 (v16 % Int32.ofNat c) 0 0 = some r from er, Option.bind_some]
    exact op_any I ho _ _ _
  · rw [if_neg z]
    exact op_any I ho _ _ _
theorem cell_any (hq : q.length ≤ 260) {k : Nat} (hk : k ≤ 1000) : ∃ r, h_cell (Int32.ofNat k) q = some r := by
  unfold h_cell
  by_cases z : Int32.ofNat k < q.length.toInt32
  · have : k < q.length := (ofNat_lt (by omega) (by omega)).mp z
    obtain ⟨x, e⟩ := ix_some q (k := k) (by omega) this
    rw [if_pos z, e, Option.bind_some]
    exact ⟨_, rfl⟩
  · rw [if_neg z]; exact ⟨_, rfl⟩
theorem step_ok {s : S} (I : Inv N Mx s) (n2 : 2 ≤ N) (hq : q.length ≤ 260) {t : Nat} (ht : t ≤ 300) : ∃ s', law_68 K BIG (Int32.ofNat N) v4 (Int32.ofNat t) 0 0 q s = K (Int32.ofNat N) v4 (Int32.ofNat (t + 1)) q s' ∧ Inv N Mx s' := by
  have n8 := I.2.1
  obtain ⟨e0, ee, he⟩ := e0_ok (K := K) (q := q) (v4 := v4) (v5 := Int32.ofNat t) I N 0 BIG 0 (by omega) (by unfold BIG; omega) RE.zero
  rw [show law_68 K BIG (Int32.ofNat N) v4 (Int32.ofNat t) 0 0 q s = _ from ee]
  obtain ⟨w, ew, hw⟩ := clos_view I he
  have nz : ¬ Int32.ofNat N = 0 := fun z => by have := (ofNat_inj (a := N) (b := 0) (by omega) (by omega)).mp z; omega
  unfold law_121
  rw [ew, Option.bind_some, ← ofNat_succ]
  obtain ⟨r, er⟩ := cell_any hq (k := t + 1) (by omega)
  rw [ofNat_succ, er, Option.bind_some, if_neg nz, if_neg nz, ← ofNat_succ]
  by_cases z : (0 : Int32) < Int32.ofNat t
  · rw [if_pos z]
    by_cases c3 : (r &&& (2147483647 : Int32)) &&& (7 : Int32) = 3
    · rw [if_pos c3]; exact op_pick I hw _ _ _ _ _
    rw [if_neg c3]
    by_cases c5 : (r &&& (2147483647 : Int32)) &&& (7 : Int32) = 5
    · rw [if_pos c5]; exact op_pick I hw _ _ _ _ _
    rw [if_neg c5]
    exact op_any I hw _ _ _
  · rw [if_neg z]
    exact ⟨s, tail_ok (s := s) ⟨I, Or.inl rfl⟩ hw, I⟩
theorem loop_ok (n2 : 2 ≤ N) (hq : q.length ≤ 260) {L : Nat} (hL : L ≤ 260) : ∀ m t M s, t + m = L + 1 → m < M → Inv N Mx s → ∃ u, law_55 M (Int32.ofNat N) (Int32.ofNat L) (Int32.ofNat t) q s = some (1, u)
  | _, _, 0, _, _, h, _ => by omega
  | 0, t, M + 1, s, ht, _, I => by
    rw [law_55, if_pos ((ofNat_lt (by omega) (by omega)).mpr (by omega))]
    exact ⟨_, rfl⟩
  | m + 1, t, M + 1, s, ht, hM, I => by
    rw [law_55, if_neg (fun z => by have := (ofNat_lt (by omega) (by omega)).mp z; omega)]
    obtain ⟨s', e, I'⟩ := step_ok (K := fun v1 v4 v5 q t0 => law_55 M v1 v4 v5 q t0) (v4 := Int32.ofNat L) I n2 hq (t := t) (by omega)
    rw [e]
    exact loop_ok n2 hq hL m (t + 1) M s' (by omega) (by omega) I'
end
theorem and_max (x : Int32) : ∃ a, a < 2147483648 ∧ x &&& 2147483647 = Int32.ofNat a := by
  have h1 : x.toBitVec.toNat &&& 2147483647 ≤ 2147483647 := Nat.and_le_right
  refine ⟨x.toBitVec.toNat &&& 2147483647, by omega, ?_⟩
  apply Int32.toBitVec_inj.mp
  apply BitVec.eq_of_toNat_eq
  rw [Int32.toBitVec_and, BitVec.toNat_and]
  show x.toBitVec.toNat &&& (BitVec.ofNat 32 2147483647).toNat = (BitVec.ofNat 32 (x.toBitVec.toNat &&& 2147483647)).toNat
  rw [BitVec.toNat_ofNat, BitVec.toNat_ofNat, Nat.mod_eq_of_lt (by omega), Nat.mod_eq_of_lt (by omega)]
theorem mod_nat {n k : Nat} (hn : n < 2147483648) (hk : k < 2147483648) : Int32.ofNat n % Int32.ofNat k = Int32.ofNat (n % k) := by
  apply Int32.toInt_inj.mp
  have hm : n % k < 2147483648 := Nat.lt_of_le_of_lt (Nat.mod_le _ _) hn
  rw [Int32.toInt_mod, ofNat_toInt hn, ofNat_toInt hk, ofNat_toInt hm]
  exact (Int.ofNat_tmod n k).symm
theorem law_true (q : List Int32) (hq : q.length ≤ 260) : ∃ t, law q = some (1, t) := by
  unfold law law_52
  obtain ⟨r0, e0⟩ := cell_any (q := q) hq (k := 0) (by omega)
  obtain ⟨r1, e1⟩ := cell_any (q := q) hq (k := 1) (by omega)
  obtain ⟨a, ha, ea⟩ := and_max r0
  obtain ⟨b, hb, eb⟩ := and_max r1
  have m7 : (2 : Int32) + (r0 &&& 2147483647) % 7 = Int32.ofNat (2 + a % 7) := by
    rw [ea, show (7 : Int32) = Int32.ofNat 7 from rfl, mod_nat ha (by omega), show (2 : Int32) = Int32.ofNat 2 from rfl, ofNat_add']
  have m24 : (1 : Int32) + (r1 &&& 2147483647) % 24 = Int32.ofNat (1 + b % 24) := by
    rw [eb, show (24 : Int32) = Int32.ofNat 24 from rfl, mod_nat hb (by omega), show (1 : Int32) = Int32.ofNat 1 from rfl, ofNat_add']
  rw [show h_cell 0 q = some r0 from e0, Option.bind_some, show h_cell 1 q = some r1 from e1, Option.bind_some, m7, m24]
  obtain ⟨s, es, I, _⟩ := init_ok (N := 2 + a % 7) (Mx := 1 + b % 24) (by omega) (by omega) (by omega) (by omega)
  rw [es, Option.bind_some]
  have L : (if (q.length.toInt32 - (2 : Int32)) < 0 then (0 : Int32) else q.length.toInt32 - (2 : Int32)) = Int32.ofNat (q.length - 2) := by
    by_cases c : q.length < 2
    · have : q.length = 0 ∨ q.length = 1 := by omega
      rcases this with w | w
      · rw [w]; decide
      · rw [w]; decide
    · obtain ⟨m, hm⟩ : ∃ m, q.length = m + 2 := ⟨q.length - 2, by omega⟩
      have e : q.length.toInt32 - (2 : Int32) = Int32.ofNat m := by
        rw [hm]
        show Int32.ofNat (m + 2) - 2 = _
        rw [show Int32.ofNat (m + 2) = Int32.ofNat m + 2 from (ofNat_lit m 2).symm, Int32.add_sub_cancel]
      rw [e, if_neg (ofNat_nonneg (by omega)), hm]
      rfl
  rw [L]
  exact loop_ok (by omega) hq (by omega) (q.length - 2 + 1) 0 BIG s (by omega) (by unfold BIG; omega) I
set_option maxRecDepth 65536 in
set_option maxHeartbeats 40000000 in
theorem comes_1 {Post : Tables → Env → Array Value → State → Outcome → State → Prop} (hpost : ∀ tb e args s v u, (limb_1_1.after args s (.returned v) u = true ∧ limb_1_2.after args s (.returned v) u = true ∧ True) → FrameEnd s (.returned v) u (Jvm.fieldLocs frame_1_writes args s ++ Jvm.arrayLocs frame_1_arrays args s ++ Jvm.staticLocs frame_1_statics s) 32 640 → Post tb e args s (.returned v) u) :
    ArmFor flags0 classFile x code maxLocals ret World_1 tables_1 room_1 Calls_1 rest_1 Pre_1 Post := by
  intro l hfl _ _ p e ha hc hk s m args below hf hA hF happ hP
  obtain ⟨hcalls, hrest, hpre⟩ := hP
  obtain ⟨-, -, -, hnamed, -, -, -, hat⟩ := (Spec.applies_iff hf).mp happ
  obtain ⟨hg, hn⟩ := and_e (Cond.before_iff.mp (show (Jvm.Cond.and given_1 narrow_1).before args s = true from hpre))
  obtain ⟨g0, b0⟩ := and_e hg
  have a0 := b0
  obtain ⟨w0, rfl⟩ : ∃ w0 : Value, args = #[w0] := by
    have hs : args.size = 1 := by simpa [Cond.value, given_1] using g0
    obtain ⟨L⟩ := args
    match L, hs with
    | [w0], _ => exact ⟨w0, rfl⟩
  have hw := fun d (hd : d ∈ tables_1) => atoms_spec (ws := Jvm.Cond.code x code maxLocals ret :: tables_1) hat d (List.mem_cons_of_mem _ hd)
  have hfit : Fit s := fun {y c} hc i hi => by
    obtain ⟨ha, rfl⟩ := Array.getElem?_eq_some_iff.mp hc
    have q := List.all_eq_true.mp ((Array.all_eq_true_iff_forall_mem.mp hF) _ (Array.getElem_mem ha)) i (List.mem_range.mpr hi)
    simpa [Array.getElem?_eq_getElem hi] using q
  obtain ⟨q1, q2⟩ := and_e hn
  obtain ⟨al, q, ei, A, hal, hlen⟩ := script_of hfit q1 q2
  obtain rfl : w0 = (.ref al) := Option.some.inj ei
  have hlen' : q.length ≤ 260 := by
    have e260 : (260 : Int32).toInt = 260 := rfl
    omega
  obtain ⟨t, ht⟩ := law_true q hlen'
  have C : Call PP m45 [.ref 0] (some q, []) (some (.int ((1 : Int32), t).1), (some q, [(9, ((1 : Int32), t).2)])) := call_of_go pl_1 rfl (fun h => by cases h) (law_ok q _ ht)
  obtain ⟨n, o, h1, h2, h3, _, L, rfl, ⟨rfl, N, _⟩, hq⟩ := C l s _ tables_1 al s.heap.size s.heap.size s.heap hw (facts1 hw) (Nat.le_refl _) (repW_some A hal) (Nat.zero_le _) (fun _ => ⟨rfl, rfl, rfl⟩) p e ha hc hk s m _ below hf ((Spec.applies_iff_loose hf).mp happ).1 ⟨rfl, State.Warmed39.refl s, rfl⟩ trivial
  refine ⟨n, _, h1, h2, h3, hpost _ _ _ _ _ _ ⟨Cond.after_iff.mpr rfl, Cond.after_iff.mpr (eq_i res_at (Term.int_eval (1)) rfl), trivial⟩ ⟨hq.1, hq.2.1, (hq.2.2.sift fun y hy => Or.inr (N y hy)).mono (by decide) (by decide)⟩⟩
theorem main_1_1 : Claimed_1_1 := comes_1 fun _ _ _ _ _ _ h hF => ⟨h.1, hF⟩
theorem main_1_2 : Claimed_1_2 := comes_1 fun _ _ _ _ _ _ h hF => ⟨h.2.1, hF⟩
end Jvm.Pilot.@@N@@
namespace Jvm.Pilot.@@N@@
open Jvm Jvm.ClassFile Sem Op Lib Jvm.Free Jvm.Stand Jvm.Pilot.@@N@@.Jvm.D
/-! MADE BY PROGRAM (witnessworld.py) out of the Statement's table words and the real class files: 9 classes; the members and pool entries that the words name. The judged class is class 1, her method 6. -/
namespace start1
open Jvm.ClassFile
def u (s : String) : CpInfo := .utf8 (stringToUtf16 s)
/-- a pool by its gaps: so many unusable entries, then the entry; so many at the end -/
def gap : Nat → List CpInfo → List CpInfo
  | 0, r => r
  | n + 1, r => .unusable :: gap n r
def poolList (es : List (Nat × CpInfo)) (last : Nat) : List CpInfo := es.foldr (fun e r => gap e.1 (e.2 :: r)) (gap last [])
def pool (es : List (Nat × CpInfo)) (last : Nat) : Array CpInfo := ⟨poolList es last⟩
def fileOf (pool : Array CpInfo) (this : Nat) (attrs : Array Attribute := #[]) (ms : Array MethodInfo := #[]) (fl : Nat := 33) (sup : Nat := 0) (ifs : Array Nat := #[]) (fds : Array FieldInfo := #[]) : ClassFile where
  minorVersion := 0
  majorVersion := 65
  constantPool := pool
  accessFlags := fl
  thisClass := this
  superClass := sup
  interfaces := ifs
  fields := fds
  methods := ms
  attributes := attrs
def plain (name : String) (sup : Option ClassId) : Class where
  name := name
  kind := .ordinary
  loader := none
  accessFlags := 33
  super := sup
  interfaces := #[]
  cf := none
  fields := #[]
  methods := #[]
  instanceTypes := #[]
  staticTypes := #[]
  resolved := #[]
  callSites := []
  init := .initialized
  statics := none
  mirror := none

def pool0 : Array CpInfo := pool [(5, u "<init>"), (0, u "()V"), (1, .class_ 10), (1, u "java/lang/Object")] 113

def k0c0 : Code := { maxStack := 0, maxLocals := 1, code := object_method_1_code, exceptionTable := #[], attributes := #[] }
def k0m0 : Method := { name := "<init>", desc := "()V", sig := { parameters := [], returnType := none }, accessFlags := 1, code := some k0c0 }
/-- java/lang/Object -/
def k0 : Class := { plain "java/lang/Object" none with
  accessFlags := 33
  interfaces := #[]
  cf := some (fileOf pool0 8 #[] #[{ accessFlags := 1, nameIndex := 5, descriptorIndex := 6, attributes := #[] }] 33 0 #[] #[])
  fields := #[]
  methods := #[k0m0]
  instanceTypes := #[]
  staticTypes := #[]
  resolved := Array.replicate 124 none
  statics := none }

def pool1 : Array CpInfo := pool [(2, .class_ 4), (1, u "java/lang/Object"), (0, u "<init>"), (0, u "()V"), (0, .methodref 8 9), (0, .class_ 10), (0, .nameAndType 11 12), (0, u "DredViewKeeperOwnLaw"), (0, u "bit"), (0, u "(JII)Z"), (0, .long 255), (1, .methodref 8 16), (0, .nameAndType 17 18), (0, u "cell"), (0, u "([II)I"), (0, .integer 2147483647), (0, .class_ 21), (0, u "DredViewKeeper"), (0, .methodref 20 23), (0, .nameAndType 5 24), (0, u "(II)V"), (0, .methodref 20 26), (0, .nameAndType 27 28), (0, u "hasEdge"), (0, u "(II)Z"), (0, .methodref 8 30), (0, .nameAndType 31 32), (0, u "closure"), (0, u "(JI)J"), (0, .methodref 8 34), (0, .nameAndType 35 36), (0, u "pop"), (0, u "(J)I"), (0, .methodref 8 38), (0, .nameAndType 39 40), (0, u "nth"), (0, u "(JI)I"), (0, .methodref 20 42), (0, .nameAndType 43 44), (0, u "insertEdge"), (0, u "(II)I"), (0, .methodref 20 46), (0, .nameAndType 47 44), (0, u "deleteEdge"), (0, .methodref 20 49), (0, .nameAndType 50 44), (0, u "stageInsert"), (0, .methodref 20 52), (0, .nameAndType 53 44), (0, u "stageDelete"), (0, .methodref 20 55), (0, .nameAndType 56 57), (0, u "commit"), (0, u "()I"), (0, .methodref 20 59), (0, .nameAndType 60 57), (0, u "clearPending"), (0, .methodref 20 62), (0, .nameAndType 63 28), (0, u "reaches"), (0, .methodref 20 65), (0, .nameAndType 66 44), (0, u "derivationCount"), (0, .methodref 20 68), (0, .nameAndType 69 70), (0, u "reachCountFrom"), (0, u "(I)I"), (0, .methodref 20 72), (0, .nameAndType 73 70), (0, u "reachCountTo"), (0, .methodref 20 75), (0, .nameAndType 76 57), (0, u "viewSize"), (0, .long 18446744073709551615), (1, .methodref 20 80), (0, .nameAndType 81 57), (0, u "lastAdded"), (0, .methodref 20 83), (0, .nameAndType 84 57), (0, u "lastRemoved"), (3, u "law"), (0, u "([I)Z")] 4

def k1m0 : Method := { name := "<init>", desc := "()V", sig := { parameters := [], returnType := none }, accessFlags := 1, code := none }
def k1c1 : Code := { maxStack := 2, maxLocals := 2, code := method_2_code, exceptionTable := #[], attributes := #[] }
def k1m1 : Method := { name := "cell", desc := "([II)I", sig := { parameters := [(.array .int), .int], returnType := some .int }, accessFlags := 10, code := some k1c1 }
def k1c2 : Code := { maxStack := 4, maxLocals := 4, code := method_3_code, exceptionTable := #[], attributes := #[] }
def k1m2 : Method := { name := "bit", desc := "(JII)Z", sig := { parameters := [.long, .int, .int], returnType := some .boolean }, accessFlags := 10, code := some k1c2 }
def k1c3 : Code := { maxStack := 6, maxLocals := 10, code := method_4_code, exceptionTable := #[], attributes := #[] }
def k1m3 : Method := { name := "closure", desc := "(JI)J", sig := { parameters := [.long, .int], returnType := some .long }, accessFlags := 10, code := some k1c3 }
def k1c4 : Code := { maxStack := 4, maxLocals := 4, code := method_5_code, exceptionTable := #[], attributes := #[] }
def k1m4 : Method := { name := "pop", desc := "(J)I", sig := { parameters := [.long], returnType := some .int }, accessFlags := 10, code := some k1c4 }
def k1c5 : Code := { maxStack := 4, maxLocals := 5, code := method_6_code, exceptionTable := #[], attributes := #[] }
def k1m5 : Method := { name := "nth", desc := "(JI)I", sig := { parameters := [.long, .int], returnType := some .int }, accessFlags := 10, code := some k1c5 }
def k1c6 : Code := { maxStack := 6, maxLocals := 21, code := code, exceptionTable := #[], attributes := #[] }
def k1m6 : Method := { name := "law", desc := "([I)Z", sig := { parameters := [(.array .int)], returnType := some .boolean }, accessFlags := 9, code := some k1c6 }
/-- DredViewKeeperOwnLaw -/
def k1 : Class := { plain "DredViewKeeperOwnLaw" (some 0) with
  accessFlags := 49
  interfaces := #[]
  cf := some (fileOf pool1 8 #[] #[{ accessFlags := 1, nameIndex := 5, descriptorIndex := 6, attributes := #[] }, { accessFlags := 10, nameIndex := 17, descriptorIndex := 18, attributes := #[] }, { accessFlags := 10, nameIndex := 11, descriptorIndex := 12, attributes := #[] }, { accessFlags := 10, nameIndex := 31, descriptorIndex := 32, attributes := #[] }, { accessFlags := 10, nameIndex := 35, descriptorIndex := 36, attributes := #[] }, { accessFlags := 10, nameIndex := 39, descriptorIndex := 40, attributes := #[] }, { accessFlags := 9, nameIndex := 88, descriptorIndex := 89, attributes := #[] }] 49 2 #[] #[])
  fields := #[]
  methods := #[k1m0, k1m1, k1m2, k1m3, k1m4, k1m5, k1m6]
  instanceTypes := #[]
  staticTypes := #[]
  resolved := Array.replicate 94 none
  statics := none }

def pool2 : Array CpInfo := pool [(1, .methodref 2 3), (0, .class_ 4), (0, .nameAndType 5 6), (0, u "java/lang/Object"), (0, u "<init>"), (0, u "()V"), (0, .fieldref 8 9), (0, .class_ 10), (0, .nameAndType 11 12), (0, u "DredViewKeeper"), (0, u "kindInsert"), (0, u "I"), (0, .fieldref 8 14), (0, .nameAndType 15 12), (0, u "kindDelete"), (0, .fieldref 8 17), (0, .nameAndType 18 19), (0, u "edgeRow"), (0, u "[I"), (0, .fieldref 8 21), (0, .nameAndType 22 19), (0, u "reachRow"), (0, .fieldref 8 24), (0, .nameAndType 25 19), (0, u "snapRow"), (0, .fieldref 8 27), (0, .nameAndType 28 19), (0, u "deltaCur"), (0, .fieldref 8 30), (0, .nameAndType 31 19), (0, u "deltaNext"), (0, .fieldref 8 33), (0, .nameAndType 34 19), (0, u "doomedRow"), (0, .fieldref 8 36), (0, .nameAndType 37 19), (0, u "pendKind"), (0, .fieldref 8 39), (0, .nameAndType 40 19), (0, u "pendFrom"), (0, .fieldref 8 42), (0, .nameAndType 43 19), (0, u "pendTo"), (0, .fieldref 8 45), (0, .nameAndType 46 12), (0, u "n"), (0, .fieldref 8 48), (0, .nameAndType 49 12), (0, u "m"), (0, .fieldref 8 51), (0, .nameAndType 52 12), (0, u "roundLimit"), (0, .fieldref 8 54), (0, .nameAndType 55 12), (0, u "edgeCount"), (0, .fieldref 8 57), (0, .nameAndType 58 12), (0, u "pendLen"), (0, .fieldref 8 60), (0, .nameAndType 61 12), (0, u "lastAdd"), (0, .fieldref 8 63), (0, .nameAndType 64 12), (0, u "lastRem"), (0, .methodref 8 66), (0, .nameAndType 67 68), (0, u "isValid"), (0, u "(I)Z"), (0, .methodref 8 70), (0, .nameAndType 71 72), (0, u "edgePresent"), (0, u "(II)Z"), (0, .methodref 8 74), (0, .nameAndType 75 6), (0, u "takeSnapshot"), (0, .methodref 8 77), (0, .nameAndType 78 79), (0, u "addEdgeAndPropagate"), (0, u "(II)V"), (0, .methodref 8 81), (0, .nameAndType 82 83), (0, u "countAdded"), (0, u "()I"), (0, .methodref 8 85), (0, .nameAndType 86 79), (0, u "removeEdgeAndRederive"), (0, .methodref 8 88), (0, .nameAndType 89 83), (0, u "countRemoved"), (0, .methodref 8 91), (0, .nameAndType 92 93), (0, u "stage"), (0, u "(III)I"), (0, .methodref 8 95), (0, .nameAndType 96 97), (0, u "applyStaged"), (0, u "(I)V"), (0, .methodref 8 99), (0, .nameAndType 100 72), (0, u "testBit"), (0, .methodref 8 102), (0, .nameAndType 103 104), (0, u "popCount"), (0, u "(I)I"), (0, .methodref 8 106), (0, .nameAndType 107 104), (0, u "bit"), (0, .methodref 8 109), (0, .nameAndType 110 6), (0, u "clearDelta"), (0, .methodref 8 112), (0, .nameAndType 113 6), (0, u "propagateAdditions"), (0, .methodref 8 115), (0, .nameAndType 116 117), (0, u "mergeDeltaIntoReach"), (0, u "()Z"), (0, .methodref 8 119), (0, .nameAndType 120 6), (0, u "computeNextAdditions"), (0, .methodref 8 122), (0, .nameAndType 123 6), (0, u "shiftDelta"), (0, .methodref 8 125), (0, .nameAndType 126 104), (0, u "gatherDelta"), (0, .methodref 8 128), (0, .nameAndType 129 79), (0, u "overDelete"), (0, .methodref 8 131), (0, .nameAndType 132 6), (0, u "dropDoomed"), (0, .methodref 8 134), (0, .nameAndType 135 6), (0, u "rederive"), (0, .methodref 8 137), (0, .nameAndType 138 6), (0, u "clearDoomed"), (0, .methodref 8 140), (0, .nameAndType 141 117), (0, u "absorbDoomed"), (0, .methodref 8 143), (0, .nameAndType 144 6), (0, u "computeNextDoomed"), (0, .methodref 8 146), (0, .nameAndType 147 104), (0, u "gatherReach"), (0, .integer 1431655765), (0, .integer 858993459), (0, .integer 252645135), (0, .integer 16843009), (0, u "BAD_NODE"), (2, u "DUPLICATE"), (1, u "MISSING"), (1, u "FULL"), (1, u "PENDING_FULL"), (1, u "MIN_NODES"), (1, u "MAX_NODES"), (1, u "MIN_EDGES"), (1, u "MAX_EDGES"), (1, u "MAX_PENDING"), (4, u "insertEdge"), (0, u "(II)I"), (0, u "deleteEdge"), (0, u "stageInsert"), (0, u "stageDelete"), (0, u "commit"), (0, u "clearPending"), (1, u "reaches"), (0, u "derivationCount"), (0, u "hasEdge"), (0, u "viewSize"), (0, u "reachCountFrom"), (0, u "reachCountTo"), (0, u "lastAdded"), (0, u "lastRemoved")] 2

def k2c0 : Code := { maxStack := 3, maxLocals := 5, code := prog_1_method_1_code, exceptionTable := #[], attributes := #[] }
def k2m0 : Method := { name := "<init>", desc := "(II)V", sig := { parameters := [.int, .int], returnType := none }, accessFlags := 1, code := some k2c0 }
def k2c1 : Code := { maxStack := 3, maxLocals := 3, code := prog_1_method_2_code, exceptionTable := #[], attributes := #[] }
def k2m1 : Method := { name := "insertEdge", desc := "(II)I", sig := { parameters := [.int, .int], returnType := some .int }, accessFlags := 1, code := some k2c1 }
def k2c2 : Code := { maxStack := 3, maxLocals := 3, code := prog_1_method_3_code, exceptionTable := #[], attributes := #[] }
def k2m2 : Method := { name := "deleteEdge", desc := "(II)I", sig := { parameters := [.int, .int], returnType := some .int }, accessFlags := 1, code := some k2c2 }
def k2c3 : Code := { maxStack := 4, maxLocals := 3, code := prog_1_method_4_code, exceptionTable := #[], attributes := #[] }
def k2m3 : Method := { name := "stageInsert", desc := "(II)I", sig := { parameters := [.int, .int], returnType := some .int }, accessFlags := 1, code := some k2c3 }
def k2c4 : Code := { maxStack := 4, maxLocals := 3, code := prog_1_method_5_code, exceptionTable := #[], attributes := #[] }
def k2m4 : Method := { name := "stageDelete", desc := "(II)I", sig := { parameters := [.int, .int], returnType := some .int }, accessFlags := 1, code := some k2c4 }
def k2c5 : Code := { maxStack := 2, maxLocals := 2, code := prog_1_method_6_code, exceptionTable := #[], attributes := #[] }
def k2m5 : Method := { name := "commit", desc := "()I", sig := { parameters := [], returnType := some .int }, accessFlags := 1, code := some k2c5 }
def k2c6 : Code := { maxStack := 2, maxLocals := 2, code := prog_1_method_7_code, exceptionTable := #[], attributes := #[] }
def k2m6 : Method := { name := "clearPending", desc := "()I", sig := { parameters := [], returnType := some .int }, accessFlags := 1, code := some k2c6 }
def k2c7 : Code := { maxStack := 3, maxLocals := 3, code := prog_1_method_9_code, exceptionTable := #[], attributes := #[] }
def k2m7 : Method := { name := "reaches", desc := "(II)Z", sig := { parameters := [.int, .int], returnType := some .boolean }, accessFlags := 1, code := some k2c7 }
def k2c8 : Code := { maxStack := 3, maxLocals := 6, code := prog_1_method_10_code, exceptionTable := #[], attributes := #[] }
def k2m8 : Method := { name := "derivationCount", desc := "(II)I", sig := { parameters := [.int, .int], returnType := some .int }, accessFlags := 1, code := some k2c8 }
def k2c9 : Code := { maxStack := 3, maxLocals := 3, code := prog_1_method_11_code, exceptionTable := #[], attributes := #[] }
def k2m9 : Method := { name := "hasEdge", desc := "(II)Z", sig := { parameters := [.int, .int], returnType := some .boolean }, accessFlags := 1, code := some k2c9 }
def k2c10 : Code := { maxStack := 4, maxLocals := 3, code := prog_1_method_13_code, exceptionTable := #[], attributes := #[] }
def k2m10 : Method := { name := "viewSize", desc := "()I", sig := { parameters := [], returnType := some .int }, accessFlags := 1, code := some k2c10 }
def k2c11 : Code := { maxStack := 3, maxLocals := 2, code := prog_1_method_14_code, exceptionTable := #[], attributes := #[] }
def k2m11 : Method := { name := "reachCountFrom", desc := "(I)I", sig := { parameters := [.int], returnType := some .int }, accessFlags := 1, code := some k2c11 }
def k2c12 : Code := { maxStack := 2, maxLocals := 4, code := prog_1_method_15_code, exceptionTable := #[], attributes := #[] }
def k2m12 : Method := { name := "reachCountTo", desc := "(I)I", sig := { parameters := [.int], returnType := some .int }, accessFlags := 1, code := some k2c12 }
def k2c13 : Code := { maxStack := 1, maxLocals := 1, code := prog_1_method_16_code, exceptionTable := #[], attributes := #[] }
def k2m13 : Method := { name := "lastAdded", desc := "()I", sig := { parameters := [], returnType := some .int }, accessFlags := 1, code := some k2c13 }
def k2c14 : Code := { maxStack := 1, maxLocals := 1, code := prog_1_method_17_code, exceptionTable := #[], attributes := #[] }
def k2m14 : Method := { name := "lastRemoved", desc := "()I", sig := { parameters := [], returnType := some .int }, accessFlags := 1, code := some k2c14 }
def k2c15 : Code := { maxStack := 3, maxLocals := 4, code := prog_1_method_18_code, exceptionTable := #[], attributes := #[] }
def k2m15 : Method := { name := "stage", desc := "(III)I", sig := { parameters := [.int, .int, .int], returnType := some .int }, accessFlags := 2, code := some k2c15 }
def k2c16 : Code := { maxStack := 3, maxLocals := 5, code := prog_1_method_19_code, exceptionTable := #[], attributes := #[] }
def k2m16 : Method := { name := "applyStaged", desc := "(I)V", sig := { parameters := [.int], returnType := none }, accessFlags := 2, code := some k2c16 }
def k2c17 : Code := { maxStack := 5, maxLocals := 5, code := prog_1_method_20_code, exceptionTable := #[], attributes := #[] }
def k2m17 : Method := { name := "addEdgeAndPropagate", desc := "(II)V", sig := { parameters := [.int, .int], returnType := none }, accessFlags := 2, code := some k2c17 }
def k2c18 : Code := { maxStack := 2, maxLocals := 2, code := prog_1_method_21_code, exceptionTable := #[], attributes := #[] }
def k2m18 : Method := { name := "propagateAdditions", desc := "()V", sig := { parameters := [], returnType := none }, accessFlags := 2, code := some k2c18 }
def k2c19 : Code := { maxStack := 4, maxLocals := 4, code := prog_1_method_22_code, exceptionTable := #[], attributes := #[] }
def k2m19 : Method := { name := "mergeDeltaIntoReach", desc := "()Z", sig := { parameters := [], returnType := some .boolean }, accessFlags := 2, code := some k2c19 }
def k2c20 : Code := { maxStack := 5, maxLocals := 3, code := prog_1_method_23_code, exceptionTable := #[], attributes := #[] }
def k2m20 : Method := { name := "computeNextAdditions", desc := "()V", sig := { parameters := [], returnType := none }, accessFlags := 2, code := some k2c20 }
def k2c21 : Code := { maxStack := 5, maxLocals := 4, code := prog_1_method_24_code, exceptionTable := #[], attributes := #[] }
def k2m21 : Method := { name := "removeEdgeAndRederive", desc := "(II)V", sig := { parameters := [.int, .int], returnType := none }, accessFlags := 2, code := some k2c21 }
def k2c22 : Code := { maxStack := 5, maxLocals := 6, code := prog_1_method_25_code, exceptionTable := #[], attributes := #[] }
def k2m22 : Method := { name := "overDelete", desc := "(II)V", sig := { parameters := [.int, .int], returnType := none }, accessFlags := 2, code := some k2c22 }
def k2c23 : Code := { maxStack := 4, maxLocals := 4, code := prog_1_method_26_code, exceptionTable := #[], attributes := #[] }
def k2m23 : Method := { name := "absorbDoomed", desc := "()Z", sig := { parameters := [], returnType := some .boolean }, accessFlags := 2, code := some k2c23 }
def k2c24 : Code := { maxStack := 5, maxLocals := 3, code := prog_1_method_27_code, exceptionTable := #[], attributes := #[] }
def k2m24 : Method := { name := "computeNextDoomed", desc := "()V", sig := { parameters := [], returnType := none }, accessFlags := 2, code := some k2c24 }
def k2c25 : Code := { maxStack := 5, maxLocals := 2, code := prog_1_method_28_code, exceptionTable := #[], attributes := #[] }
def k2m25 : Method := { name := "dropDoomed", desc := "()V", sig := { parameters := [], returnType := none }, accessFlags := 2, code := some k2c25 }
def k2c26 : Code := { maxStack := 5, maxLocals := 4, code := prog_1_method_29_code, exceptionTable := #[], attributes := #[] }
def k2m26 : Method := { name := "rederive", desc := "()V", sig := { parameters := [], returnType := none }, accessFlags := 2, code := some k2c26 }
def k2c27 : Code := { maxStack := 3, maxLocals := 5, code := prog_1_method_30_code, exceptionTable := #[], attributes := #[] }
def k2m27 : Method := { name := "gatherDelta", desc := "(I)I", sig := { parameters := [.int], returnType := some .int }, accessFlags := 2, code := some k2c27 }
def k2c28 : Code := { maxStack := 3, maxLocals := 5, code := prog_1_method_31_code, exceptionTable := #[], attributes := #[] }
def k2m28 : Method := { name := "gatherReach", desc := "(I)I", sig := { parameters := [.int], returnType := some .int }, accessFlags := 2, code := some k2c28 }
def k2c29 : Code := { maxStack := 4, maxLocals := 2, code := prog_1_method_32_code, exceptionTable := #[], attributes := #[] }
def k2m29 : Method := { name := "shiftDelta", desc := "()V", sig := { parameters := [], returnType := none }, accessFlags := 2, code := some k2c29 }
def k2c30 : Code := { maxStack := 3, maxLocals := 2, code := prog_1_method_33_code, exceptionTable := #[], attributes := #[] }
def k2m30 : Method := { name := "clearDelta", desc := "()V", sig := { parameters := [], returnType := none }, accessFlags := 2, code := some k2c30 }
def k2c31 : Code := { maxStack := 3, maxLocals := 2, code := prog_1_method_34_code, exceptionTable := #[], attributes := #[] }
def k2m31 : Method := { name := "clearDoomed", desc := "()V", sig := { parameters := [], returnType := none }, accessFlags := 2, code := some k2c31 }
def k2c32 : Code := { maxStack := 4, maxLocals := 2, code := prog_1_method_35_code, exceptionTable := #[], attributes := #[] }
def k2m32 : Method := { name := "takeSnapshot", desc := "()V", sig := { parameters := [], returnType := none }, accessFlags := 2, code := some k2c32 }
def k2c33 : Code := { maxStack := 5, maxLocals := 3, code := prog_1_method_36_code, exceptionTable := #[], attributes := #[] }
def k2m33 : Method := { name := "countAdded", desc := "()I", sig := { parameters := [], returnType := some .int }, accessFlags := 2, code := some k2c33 }
def k2c34 : Code := { maxStack := 5, maxLocals := 3, code := prog_1_method_37_code, exceptionTable := #[], attributes := #[] }
def k2m34 : Method := { name := "countRemoved", desc := "()I", sig := { parameters := [], returnType := some .int }, accessFlags := 2, code := some k2c34 }
def k2c35 : Code := { maxStack := 2, maxLocals := 2, code := prog_1_method_38_code, exceptionTable := #[], attributes := #[] }
def k2m35 : Method := { name := "isValid", desc := "(I)Z", sig := { parameters := [.int], returnType := some .boolean }, accessFlags := 2, code := some k2c35 }
def k2c36 : Code := { maxStack := 2, maxLocals := 2, code := prog_1_method_39_code, exceptionTable := #[], attributes := #[] }
def k2m36 : Method := { name := "bit", desc := "(I)I", sig := { parameters := [.int], returnType := some .int }, accessFlags := 2, code := some k2c36 }
def k2c37 : Code := { maxStack := 2, maxLocals := 3, code := prog_1_method_40_code, exceptionTable := #[], attributes := #[] }
def k2m37 : Method := { name := "testBit", desc := "(II)Z", sig := { parameters := [.int, .int], returnType := some .boolean }, accessFlags := 2, code := some k2c37 }
def k2c38 : Code := { maxStack := 2, maxLocals := 3, code := prog_1_method_41_code, exceptionTable := #[], attributes := #[] }
def k2m38 : Method := { name := "edgePresent", desc := "(II)Z", sig := { parameters := [.int, .int], returnType := some .boolean }, accessFlags := 2, code := some k2c38 }
def k2c39 : Code := { maxStack := 3, maxLocals := 3, code := prog_1_method_42_code, exceptionTable := #[], attributes := #[] }
def k2m39 : Method := { name := "popCount", desc := "(I)I", sig := { parameters := [.int], returnType := some .int }, accessFlags := 2, code := some k2c39 }
/-- DredViewKeeper -/
def k2 : Class := { plain "DredViewKeeper" (some 0) with
  accessFlags := 49
  interfaces := #[]
  cf := some (fileOf pool2 8 #[] #[{ accessFlags := 1, nameIndex := 5, descriptorIndex := 79, attributes := #[] }, { accessFlags := 1, nameIndex := 176, descriptorIndex := 177, attributes := #[] }, { accessFlags := 1, nameIndex := 178, descriptorIndex := 177, attributes := #[] }, { accessFlags := 1, nameIndex := 179, descriptorIndex := 177, attributes := #[] }, { accessFlags := 1, nameIndex := 180, descriptorIndex := 177, attributes := #[] }, { accessFlags := 1, nameIndex := 181, descriptorIndex := 83, attributes := #[] }, { accessFlags := 1, nameIndex := 182, descriptorIndex := 83, attributes := #[] }, { accessFlags := 1, nameIndex := 184, descriptorIndex := 72, attributes := #[] }, { accessFlags := 1, nameIndex := 185, descriptorIndex := 177, attributes := #[] }, { accessFlags := 1, nameIndex := 186, descriptorIndex := 72, attributes := #[] }, { accessFlags := 1, nameIndex := 187, descriptorIndex := 83, attributes := #[] }, { accessFlags := 1, nameIndex := 188, descriptorIndex := 104, attributes := #[] }, { accessFlags := 1, nameIndex := 189, descriptorIndex := 104, attributes := #[] }, { accessFlags := 1, nameIndex := 190, descriptorIndex := 83, attributes := #[] }, { accessFlags := 1, nameIndex := 191, descriptorIndex := 83, attributes := #[] }, { accessFlags := 2, nameIndex := 92, descriptorIndex := 93, attributes := #[] }, { accessFlags := 2, nameIndex := 96, descriptorIndex := 97, attributes := #[] }, { accessFlags := 2, nameIndex := 78, descriptorIndex := 79, attributes := #[] }, { accessFlags := 2, nameIndex := 113, descriptorIndex := 6, attributes := #[] }, { accessFlags := 2, nameIndex := 116, descriptorIndex := 117, attributes := #[] }, { accessFlags := 2, nameIndex := 120, descriptorIndex := 6, attributes := #[] }, { accessFlags := 2, nameIndex := 86, descriptorIndex := 79, attributes := #[] }, { accessFlags := 2, nameIndex := 129, descriptorIndex := 79, attributes := #[] }, { accessFlags := 2, nameIndex := 141, descriptorIndex := 117, attributes := #[] }, { accessFlags := 2, nameIndex := 144, descriptorIndex := 6, attributes := #[] }, { accessFlags := 2, nameIndex := 132, descriptorIndex := 6, attributes := #[] }, { accessFlags := 2, nameIndex := 135, descriptorIndex := 6, attributes := #[] }, { accessFlags := 2, nameIndex := 126, descriptorIndex := 104, attributes := #[] }, { accessFlags := 2, nameIndex := 147, descriptorIndex := 104, attributes := #[] }, { accessFlags := 2, nameIndex := 123, descriptorIndex := 6, attributes := #[] }, { accessFlags := 2, nameIndex := 110, descriptorIndex := 6, attributes := #[] }, { accessFlags := 2, nameIndex := 138, descriptorIndex := 6, attributes := #[] }, { accessFlags := 2, nameIndex := 75, descriptorIndex := 6, attributes := #[] }, { accessFlags := 2, nameIndex := 82, descriptorIndex := 83, attributes := #[] }, { accessFlags := 2, nameIndex := 89, descriptorIndex := 83, attributes := #[] }, { accessFlags := 2, nameIndex := 67, descriptorIndex := 68, attributes := #[] }, { accessFlags := 2, nameIndex := 107, descriptorIndex := 104, attributes := #[] }, { accessFlags := 2, nameIndex := 100, descriptorIndex := 72, attributes := #[] }, { accessFlags := 2, nameIndex := 71, descriptorIndex := 72, attributes := #[] }, { accessFlags := 2, nameIndex := 103, descriptorIndex := 104, attributes := #[] }] 49 2 #[] #[{ accessFlags := 25, nameIndex := 152, descriptorIndex := 12, attributes := #[] }, { accessFlags := 25, nameIndex := 155, descriptorIndex := 12, attributes := #[] }, { accessFlags := 25, nameIndex := 157, descriptorIndex := 12, attributes := #[] }, { accessFlags := 25, nameIndex := 159, descriptorIndex := 12, attributes := #[] }, { accessFlags := 25, nameIndex := 161, descriptorIndex := 12, attributes := #[] }, { accessFlags := 25, nameIndex := 163, descriptorIndex := 12, attributes := #[] }, { accessFlags := 25, nameIndex := 165, descriptorIndex := 12, attributes := #[] }, { accessFlags := 25, nameIndex := 167, descriptorIndex := 12, attributes := #[] }, { accessFlags := 25, nameIndex := 169, descriptorIndex := 12, attributes := #[] }, { accessFlags := 25, nameIndex := 171, descriptorIndex := 12, attributes := #[] }, { accessFlags := 18, nameIndex := 11, descriptorIndex := 12, attributes := #[] }, { accessFlags := 18, nameIndex := 15, descriptorIndex := 12, attributes := #[] }, { accessFlags := 2, nameIndex := 46, descriptorIndex := 12, attributes := #[] }, { accessFlags := 2, nameIndex := 49, descriptorIndex := 12, attributes := #[] }, { accessFlags := 2, nameIndex := 55, descriptorIndex := 12, attributes := #[] }, { accessFlags := 2, nameIndex := 52, descriptorIndex := 12, attributes := #[] }, { accessFlags := 18, nameIndex := 18, descriptorIndex := 19, attributes := #[] }, { accessFlags := 18, nameIndex := 22, descriptorIndex := 19, attributes := #[] }, { accessFlags := 18, nameIndex := 25, descriptorIndex := 19, attributes := #[] }, { accessFlags := 18, nameIndex := 28, descriptorIndex := 19, attributes := #[] }, { accessFlags := 18, nameIndex := 31, descriptorIndex := 19, attributes := #[] }, { accessFlags := 18, nameIndex := 34, descriptorIndex := 19, attributes := #[] }, { accessFlags := 18, nameIndex := 37, descriptorIndex := 19, attributes := #[] }, { accessFlags := 18, nameIndex := 40, descriptorIndex := 19, attributes := #[] }, { accessFlags := 18, nameIndex := 43, descriptorIndex := 19, attributes := #[] }, { accessFlags := 2, nameIndex := 58, descriptorIndex := 12, attributes := #[] }, { accessFlags := 2, nameIndex := 61, descriptorIndex := 12, attributes := #[] }, { accessFlags := 2, nameIndex := 64, descriptorIndex := 12, attributes := #[] }])
  fields := #[{ name := "BAD_NODE", type := .int, accessFlags := 25, slot := 0, constantValue := 0 }, { name := "DUPLICATE", type := .int, accessFlags := 25, slot := 1, constantValue := 0 }, { name := "MISSING", type := .int, accessFlags := 25, slot := 2, constantValue := 0 }, { name := "FULL", type := .int, accessFlags := 25, slot := 3, constantValue := 0 }, { name := "PENDING_FULL", type := .int, accessFlags := 25, slot := 4, constantValue := 0 }, { name := "MIN_NODES", type := .int, accessFlags := 25, slot := 5, constantValue := 0 }, { name := "MAX_NODES", type := .int, accessFlags := 25, slot := 6, constantValue := 0 }, { name := "MIN_EDGES", type := .int, accessFlags := 25, slot := 7, constantValue := 0 }, { name := "MAX_EDGES", type := .int, accessFlags := 25, slot := 8, constantValue := 0 }, { name := "MAX_PENDING", type := .int, accessFlags := 25, slot := 9, constantValue := 0 }, { name := "kindInsert", type := .int, accessFlags := 18, slot := 0, constantValue := 0 }, { name := "kindDelete", type := .int, accessFlags := 18, slot := 1, constantValue := 0 }, { name := "n", type := .int, accessFlags := 2, slot := 2, constantValue := 0 }, { name := "m", type := .int, accessFlags := 2, slot := 3, constantValue := 0 }, { name := "edgeCount", type := .int, accessFlags := 2, slot := 4, constantValue := 0 }, { name := "roundLimit", type := .int, accessFlags := 2, slot := 5, constantValue := 0 }, { name := "edgeRow", type := (.array .int), accessFlags := 18, slot := 6, constantValue := 0 }, { name := "reachRow", type := (.array .int), accessFlags := 18, slot := 7, constantValue := 0 }, { name := "snapRow", type := (.array .int), accessFlags := 18, slot := 8, constantValue := 0 }, { name := "deltaCur", type := (.array .int), accessFlags := 18, slot := 9, constantValue := 0 }, { name := "deltaNext", type := (.array .int), accessFlags := 18, slot := 10, constantValue := 0 }, { name := "doomedRow", type := (.array .int), accessFlags := 18, slot := 11, constantValue := 0 }, { name := "pendKind", type := (.array .int), accessFlags := 18, slot := 12, constantValue := 0 }, { name := "pendFrom", type := (.array .int), accessFlags := 18, slot := 13, constantValue := 0 }, { name := "pendTo", type := (.array .int), accessFlags := 18, slot := 14, constantValue := 0 }, { name := "pendLen", type := .int, accessFlags := 2, slot := 15, constantValue := 0 }, { name := "lastAdd", type := .int, accessFlags := 2, slot := 16, constantValue := 0 }, { name := "lastRem", type := .int, accessFlags := 2, slot := 17, constantValue := 0 }]
  methods := #[k2m0, k2m1, k2m2, k2m3, k2m4, k2m5, k2m6, k2m7, k2m8, k2m9, k2m10, k2m11, k2m12, k2m13, k2m14, k2m15, k2m16, k2m17, k2m18, k2m19, k2m20, k2m21, k2m22, k2m23, k2m24, k2m25, k2m26, k2m27, k2m28, k2m29, k2m30, k2m31, k2m32, k2m33, k2m34, k2m35, k2m36, k2m37, k2m38, k2m39]
  instanceTypes := #[.int, .int, .int, .int, .int, .int, (.array .int), (.array .int), (.array .int), (.array .int), (.array .int), (.array .int), (.array .int), (.array .int), (.array .int), .int, .int, .int]
  staticTypes := #[.int, .int, .int, .int, .int, .int, .int, .int, .int, .int]
  resolved := Array.replicate 194 none
  statics := none }

def pool3 : Array CpInfo := pool [(1, u "java/lang/Cloneable"), (0, .class_ 1), (0, u "java/lang/Object"), (0, .class_ 3)] 3

/-- java/lang/Cloneable -/
def k3 : Class := { plain "java/lang/Cloneable" (some 0) with
  accessFlags := 1537
  interfaces := #[]
  cf := some (fileOf pool3 2 #[] #[] 1537 4 #[] #[])
  fields := #[]
  methods := #[]
  instanceTypes := #[]
  staticTypes := #[]
  resolved := Array.replicate 8 none
  statics := none }

def pool4 : Array CpInfo := pool [(1, u "java/io/Serializable"), (0, .class_ 1), (0, u "java/lang/Object"), (0, .class_ 3)] 3

/-- java/io/Serializable -/
def k4 : Class := { plain "java/io/Serializable" (some 0) with
  accessFlags := 1537
  interfaces := #[]
  cf := some (fileOf pool4 2 #[] #[] 1537 4 #[] #[])
  fields := #[]
  methods := #[]
  instanceTypes := #[]
  staticTypes := #[]
  resolved := Array.replicate 8 none
  statics := none }

/-- the primitive byte -/
def k5 : Class := { plain "byte" none with kind := .primitive 'B', accessFlags := 0x411 }
/-- [B -/
def k6 : Class := { plain "[B" (some 0) with kind := .array 5 .byte, interfaces := #[3, 4], accessFlags := 1041 }

/-- the primitive int -/
def k7 : Class := { plain "int" none with kind := .primitive 'I', accessFlags := 0x411 }
/-- [I -/
def k8 : Class := { plain "[I" (some 0) with kind := .array 7 .int, interfaces := #[3, 4], accessFlags := 1041 }

def heap : Heap := #[{ cls := 8, slots := #[.int 0, .int 1, .int 2], vm := .none }]
def classes : Array Class := #[k0, k1, k2, k3, k4, k5, k6, k7, k8]
def interned : List (Array UInt16 × Addr) := []
def slotsUsed : Nat := 3
def theMethod : MethodId := ⟨1, 6⟩
def args0 : Array Value := #[.ref 0]
def aboutOver (below : List Frame) : State where
  vm := { classes := classes, interned := interned.toArray }
  heap := heap
  slotsUsed := slotsUsed
  threads := #[{ frames := .invoking theMethod args0 :: below }]
def below0 : List Frame := [.native { method := ⟨0, 0⟩, args := #[] }]
def about1 : State := aboutOver below0
def p0 : Program := .bare "" "" ""
def e0 : Env := launch0.env 0 0 0
theorem w_frames : about1.frames = Frame.invoking theMethod args0 :: below0 := rfl
set_option maxRecDepth 65536 in
theorem w_args : argsFit about1.vm theMethod args0 = true := by decide +kernel
set_option maxRecDepth 65536 in
theorem w_heap : heapFits about1 = true := by decide +kernel
set_option maxRecDepth 65536 in
theorem w_runnable : about1.curStatus? = some .runnable := by decide +kernel
set_option maxRecDepth 65536 in
theorem w_alone : about1.alone = true := by decide +kernel
set_option maxRecDepth 65536 in
theorem w_named : about1.methodNamed? x = some theMethod := by decide +kernel
set_option maxRecDepth 65536 in
theorem w_hears : about1.hears theMethod below0 = true := by decide +kernel
set_option maxRecDepth 65536 in
theorem w_ripe : about1.ripe theMethod args0 below0 = true := by decide +kernel
theorem w_running : about1.status = .running := rfl
set_option maxRecDepth 65536 in
theorem w_room : about1.hasRoom e0.platform room_1 = true :=
  launch0.hasRoom_least _ room_1 (by decide +kernel) (by decide +kernel) (by decide +kernel) (by decide +kernel) (by decide +kernel) (by decide +kernel)
theorem allAtoms_all (ts : List Jvm.Cond) (a : Array Jvm.Value) (st : Jvm.State) : (allAtoms ts).before a st = ts.all (fun c => c.before a st) := by
  induction ts with
  | nil => rfl
  | cons c t ih =>
    show (Jvm.Cond.and c (allAtoms t)).before a st = _
    rw [Jvm.Cond.before_and, ih, List.all_cons]
def words1 : List Jvm.Cond := Jvm.Cond.code x code maxLocals ret :: tables_1
/-- a 'code' word, met by the world's own term for the bytes: nothing is compared byte by byte -/
theorem code_word {y : MethodName} {bytes : ByteArray} {mx : Nat} {rt : Option FieldType} {a : Array Value} {s : State} {m : MethodId} {meth : Method} {c : Code} (h1 : s.methodNamed? y = some m) (h2 : s.vm.method? m = some meth) (h3 : meth.code = some c) (h4 : c.code = bytes)
    (h5 : (c.maxLocals == mx && c.exceptionTable.isEmpty && decide (c.maxStack ≤ mostOperands) && decide (meth.sig.returnType = rt) && !meth.locks && decide (parseMethodDescriptor y.desc = some meth.sig)) = true) : (Jvm.Cond.code y bytes mx rt).before a s = true := by
  simp only [Bool.and_eq_true, beq_iff_eq, Bool.not_eq_true', decide_eq_true_eq] at h5
  obtain ⟨⟨⟨⟨⟨g1, g2⟩, g3⟩, g4⟩, g5⟩, g6⟩ := h5
  simp [Cond.before, Cond.holds, Cond.value, h1, h2, h3, h4, g1, g2, g3, g4, g5, g6]
def isCode : Jvm.Cond → Bool
  | .code _ _ _ _ => true
  | _ => false
theorem all_split {L : List Jvm.Cond} {P : Jvm.Cond → Bool} (h1 : L.all (fun c => isCode c || P c) = true) (h2 : ∀ c ∈ L.filter isCode, P c = true) : L.all P = true := by
  refine List.all_eq_true.mpr fun c hc => ?_
  have h := List.all_eq_true.mp h1 c hc
  rcases Bool.eq_false_or_eq_true (isCode c) with hi | hi
  · exact h2 c (List.mem_filter.mpr ⟨hc, hi⟩)
  · simpa [hi] using h
set_option maxRecDepth 65536 in
theorem w_c0 : (Jvm.Cond.code x code maxLocals ret).before args0 about1 = true := code_word (m := ⟨1, 6⟩) (meth := k1m6) (c := k1c6) (by decide +kernel) rfl rfl rfl (by decide +kernel)
set_option maxRecDepth 65536 in
theorem w_c1 : (Jvm.Cond.code ({ cls := "DredViewKeeperOwnLaw", name := "cell", desc := "([II)I" } : Jvm.MethodName) method_2_code (2 : Nat) (Option.some Jvm.ClassFile.FieldType.int)).before args0 about1 = true := code_word (m := ⟨1, 1⟩) (meth := k1m1) (c := k1c1) (by decide +kernel) rfl rfl rfl (by decide +kernel)
set_option maxRecDepth 65536 in
theorem w_c2 : (Jvm.Cond.code ({ cls := "DredViewKeeper", name := "<init>", desc := "(II)V" } : Jvm.MethodName) prog_1_method_1_code (5 : Nat) (Option.none : Option Jvm.ClassFile.FieldType)).before args0 about1 = true := code_word (m := ⟨2, 0⟩) (meth := k2m0) (c := k2c0) (by decide +kernel) rfl rfl rfl (by decide +kernel)
set_option maxRecDepth 65536 in
theorem w_c3 : (Jvm.Cond.code ({ cls := "java/lang/Object", name := "<init>", desc := "()V" } : Jvm.MethodName) object_method_1_code (1 : Nat) (Option.none : Option Jvm.ClassFile.FieldType)).before args0 about1 = true := code_word (m := ⟨0, 0⟩) (meth := k0m0) (c := k0c0) (by decide +kernel) rfl rfl rfl (by decide +kernel)
set_option maxRecDepth 65536 in
theorem w_c4 : (Jvm.Cond.code ({ cls := "DredViewKeeper", name := "hasEdge", desc := "(II)Z" } : Jvm.MethodName) prog_1_method_11_code (3 : Nat) (Option.some Jvm.ClassFile.FieldType.boolean)).before args0 about1 = true := code_word (m := ⟨2, 9⟩) (meth := k2m9) (c := k2c9) (by decide +kernel) rfl rfl rfl (by decide +kernel)
set_option maxRecDepth 65536 in
theorem w_c5 : (Jvm.Cond.code ({ cls := "DredViewKeeper", name := "isValid", desc := "(I)Z" } : Jvm.MethodName) prog_1_method_38_code (2 : Nat) (Option.some Jvm.ClassFile.FieldType.boolean)).before args0 about1 = true := code_word (m := ⟨2, 35⟩) (meth := k2m35) (c := k2c35) (by decide +kernel) rfl rfl rfl (by decide +kernel)
set_option maxRecDepth 65536 in
theorem w_c6 : (Jvm.Cond.code ({ cls := "DredViewKeeper", name := "edgePresent", desc := "(II)Z" } : Jvm.MethodName) prog_1_method_41_code (3 : Nat) (Option.some Jvm.ClassFile.FieldType.boolean)).before args0 about1 = true := code_word (m := ⟨2, 38⟩) (meth := k2m38) (c := k2c38) (by decide +kernel) rfl rfl rfl (by decide +kernel)
set_option maxRecDepth 65536 in
theorem w_c7 : (Jvm.Cond.code ({ cls := "DredViewKeeperOwnLaw", name := "closure", desc := "(JI)J" } : Jvm.MethodName) method_4_code (10 : Nat) (Option.some Jvm.ClassFile.FieldType.long)).before args0 about1 = true := code_word (m := ⟨1, 3⟩) (meth := k1m3) (c := k1c3) (by decide +kernel) rfl rfl rfl (by decide +kernel)
set_option maxRecDepth 65536 in
theorem w_c8 : (Jvm.Cond.code ({ cls := "DredViewKeeperOwnLaw", name := "bit", desc := "(JII)Z" } : Jvm.MethodName) method_3_code (4 : Nat) (Option.some Jvm.ClassFile.FieldType.boolean)).before args0 about1 = true := code_word (m := ⟨1, 2⟩) (meth := k1m2) (c := k1c2) (by decide +kernel) rfl rfl rfl (by decide +kernel)
set_option maxRecDepth 65536 in
theorem w_c9 : (Jvm.Cond.code ({ cls := "DredViewKeeper", name := "reaches", desc := "(II)Z" } : Jvm.MethodName) prog_1_method_9_code (3 : Nat) (Option.some Jvm.ClassFile.FieldType.boolean)).before args0 about1 = true := code_word (m := ⟨2, 7⟩) (meth := k2m7) (c := k2c7) (by decide +kernel) rfl rfl rfl (by decide +kernel)
set_option maxRecDepth 65536 in
theorem w_c10 : (Jvm.Cond.code ({ cls := "DredViewKeeper", name := "testBit", desc := "(II)Z" } : Jvm.MethodName) prog_1_method_40_code (3 : Nat) (Option.some Jvm.ClassFile.FieldType.boolean)).before args0 about1 = true := code_word (m := ⟨2, 37⟩) (meth := k2m37) (c := k2c37) (by decide +kernel) rfl rfl rfl (by decide +kernel)
set_option maxRecDepth 65536 in
theorem w_c11 : (Jvm.Cond.code ({ cls := "DredViewKeeper", name := "derivationCount", desc := "(II)I" } : Jvm.MethodName) prog_1_method_10_code (6 : Nat) (Option.some Jvm.ClassFile.FieldType.int)).before args0 about1 = true := code_word (m := ⟨2, 8⟩) (meth := k2m8) (c := k2c8) (by decide +kernel) rfl rfl rfl (by decide +kernel)
set_option maxRecDepth 65536 in
theorem w_c12 : (Jvm.Cond.code ({ cls := "DredViewKeeper", name := "reachCountFrom", desc := "(I)I" } : Jvm.MethodName) prog_1_method_14_code (2 : Nat) (Option.some Jvm.ClassFile.FieldType.int)).before args0 about1 = true := code_word (m := ⟨2, 11⟩) (meth := k2m11) (c := k2c11) (by decide +kernel) rfl rfl rfl (by decide +kernel)
set_option maxRecDepth 65536 in
theorem w_c13 : (Jvm.Cond.code ({ cls := "DredViewKeeper", name := "popCount", desc := "(I)I" } : Jvm.MethodName) prog_1_method_42_code (3 : Nat) (Option.some Jvm.ClassFile.FieldType.int)).before args0 about1 = true := code_word (m := ⟨2, 39⟩) (meth := k2m39) (c := k2c39) (by decide +kernel) rfl rfl rfl (by decide +kernel)
set_option maxRecDepth 65536 in
theorem w_c14 : (Jvm.Cond.code ({ cls := "DredViewKeeper", name := "reachCountTo", desc := "(I)I" } : Jvm.MethodName) prog_1_method_15_code (4 : Nat) (Option.some Jvm.ClassFile.FieldType.int)).before args0 about1 = true := code_word (m := ⟨2, 12⟩) (meth := k2m12) (c := k2c12) (by decide +kernel) rfl rfl rfl (by decide +kernel)
set_option maxRecDepth 65536 in
theorem w_c15 : (Jvm.Cond.code ({ cls := "DredViewKeeper", name := "viewSize", desc := "()I" } : Jvm.MethodName) prog_1_method_13_code (3 : Nat) (Option.some Jvm.ClassFile.FieldType.int)).before args0 about1 = true := code_word (m := ⟨2, 10⟩) (meth := k2m10) (c := k2c10) (by decide +kernel) rfl rfl rfl (by decide +kernel)
set_option maxRecDepth 65536 in
theorem w_c16 : (Jvm.Cond.code ({ cls := "DredViewKeeper", name := "insertEdge", desc := "(II)I" } : Jvm.MethodName) prog_1_method_2_code (3 : Nat) (Option.some Jvm.ClassFile.FieldType.int)).before args0 about1 = true := code_word (m := ⟨2, 1⟩) (meth := k2m1) (c := k2c1) (by decide +kernel) rfl rfl rfl (by decide +kernel)
set_option maxRecDepth 65536 in
theorem w_c17 : (Jvm.Cond.code ({ cls := "DredViewKeeper", name := "takeSnapshot", desc := "()V" } : Jvm.MethodName) prog_1_method_35_code (2 : Nat) (Option.none : Option Jvm.ClassFile.FieldType)).before args0 about1 = true := code_word (m := ⟨2, 32⟩) (meth := k2m32) (c := k2c32) (by decide +kernel) rfl rfl rfl (by decide +kernel)
set_option maxRecDepth 65536 in
theorem w_c18 : (Jvm.Cond.code ({ cls := "DredViewKeeper", name := "addEdgeAndPropagate", desc := "(II)V" } : Jvm.MethodName) prog_1_method_20_code (5 : Nat) (Option.none : Option Jvm.ClassFile.FieldType)).before args0 about1 = true := code_word (m := ⟨2, 17⟩) (meth := k2m17) (c := k2c17) (by decide +kernel) rfl rfl rfl (by decide +kernel)
set_option maxRecDepth 65536 in
theorem w_c19 : (Jvm.Cond.code ({ cls := "DredViewKeeper", name := "bit", desc := "(I)I" } : Jvm.MethodName) prog_1_method_39_code (2 : Nat) (Option.some Jvm.ClassFile.FieldType.int)).before args0 about1 = true := code_word (m := ⟨2, 36⟩) (meth := k2m36) (c := k2c36) (by decide +kernel) rfl rfl rfl (by decide +kernel)
set_option maxRecDepth 65536 in
theorem w_c20 : (Jvm.Cond.code ({ cls := "DredViewKeeper", name := "clearDelta", desc := "()V" } : Jvm.MethodName) prog_1_method_33_code (2 : Nat) (Option.none : Option Jvm.ClassFile.FieldType)).before args0 about1 = true := code_word (m := ⟨2, 30⟩) (meth := k2m30) (c := k2c30) (by decide +kernel) rfl rfl rfl (by decide +kernel)
set_option maxRecDepth 65536 in
theorem w_c21 : (Jvm.Cond.code ({ cls := "DredViewKeeper", name := "propagateAdditions", desc := "()V" } : Jvm.MethodName) prog_1_method_21_code (2 : Nat) (Option.none : Option Jvm.ClassFile.FieldType)).before args0 about1 = true := code_word (m := ⟨2, 18⟩) (meth := k2m18) (c := k2c18) (by decide +kernel) rfl rfl rfl (by decide +kernel)
set_option maxRecDepth 65536 in
theorem w_c22 : (Jvm.Cond.code ({ cls := "DredViewKeeper", name := "mergeDeltaIntoReach", desc := "()Z" } : Jvm.MethodName) prog_1_method_22_code (4 : Nat) (Option.some Jvm.ClassFile.FieldType.boolean)).before args0 about1 = true := code_word (m := ⟨2, 19⟩) (meth := k2m19) (c := k2c19) (by decide +kernel) rfl rfl rfl (by decide +kernel)
set_option maxRecDepth 65536 in
theorem w_c23 : (Jvm.Cond.code ({ cls := "DredViewKeeper", name := "computeNextAdditions", desc := "()V" } : Jvm.MethodName) prog_1_method_23_code (3 : Nat) (Option.none : Option Jvm.ClassFile.FieldType)).before args0 about1 = true := code_word (m := ⟨2, 20⟩) (meth := k2m20) (c := k2c20) (by decide +kernel) rfl rfl rfl (by decide +kernel)
set_option maxRecDepth 65536 in
theorem w_c24 : (Jvm.Cond.code ({ cls := "DredViewKeeper", name := "gatherDelta", desc := "(I)I" } : Jvm.MethodName) prog_1_method_30_code (5 : Nat) (Option.some Jvm.ClassFile.FieldType.int)).before args0 about1 = true := code_word (m := ⟨2, 27⟩) (meth := k2m27) (c := k2c27) (by decide +kernel) rfl rfl rfl (by decide +kernel)
set_option maxRecDepth 65536 in
theorem w_c25 : (Jvm.Cond.code ({ cls := "DredViewKeeper", name := "shiftDelta", desc := "()V" } : Jvm.MethodName) prog_1_method_32_code (2 : Nat) (Option.none : Option Jvm.ClassFile.FieldType)).before args0 about1 = true := code_word (m := ⟨2, 29⟩) (meth := k2m29) (c := k2c29) (by decide +kernel) rfl rfl rfl (by decide +kernel)
set_option maxRecDepth 65536 in
theorem w_c26 : (Jvm.Cond.code ({ cls := "DredViewKeeper", name := "countAdded", desc := "()I" } : Jvm.MethodName) prog_1_method_36_code (3 : Nat) (Option.some Jvm.ClassFile.FieldType.int)).before args0 about1 = true := code_word (m := ⟨2, 33⟩) (meth := k2m33) (c := k2c33) (by decide +kernel) rfl rfl rfl (by decide +kernel)
set_option maxRecDepth 65536 in
theorem w_c27 : (Jvm.Cond.code ({ cls := "DredViewKeeperOwnLaw", name := "pop", desc := "(J)I" } : Jvm.MethodName) method_5_code (4 : Nat) (Option.some Jvm.ClassFile.FieldType.int)).before args0 about1 = true := code_word (m := ⟨1, 4⟩) (meth := k1m4) (c := k1c4) (by decide +kernel) rfl rfl rfl (by decide +kernel)
set_option maxRecDepth 65536 in
theorem w_c28 : (Jvm.Cond.code ({ cls := "DredViewKeeper", name := "lastAdded", desc := "()I" } : Jvm.MethodName) prog_1_method_16_code (1 : Nat) (Option.some Jvm.ClassFile.FieldType.int)).before args0 about1 = true := code_word (m := ⟨2, 13⟩) (meth := k2m13) (c := k2c13) (by decide +kernel) rfl rfl rfl (by decide +kernel)
set_option maxRecDepth 65536 in
theorem w_c29 : (Jvm.Cond.code ({ cls := "DredViewKeeper", name := "lastRemoved", desc := "()I" } : Jvm.MethodName) prog_1_method_17_code (1 : Nat) (Option.some Jvm.ClassFile.FieldType.int)).before args0 about1 = true := code_word (m := ⟨2, 14⟩) (meth := k2m14) (c := k2c14) (by decide +kernel) rfl rfl rfl (by decide +kernel)
set_option maxRecDepth 65536 in
theorem w_c30 : (Jvm.Cond.code ({ cls := "DredViewKeeperOwnLaw", name := "nth", desc := "(JI)I" } : Jvm.MethodName) method_6_code (5 : Nat) (Option.some Jvm.ClassFile.FieldType.int)).before args0 about1 = true := code_word (m := ⟨1, 5⟩) (meth := k1m5) (c := k1c5) (by decide +kernel) rfl rfl rfl (by decide +kernel)
set_option maxRecDepth 65536 in
theorem w_c31 : (Jvm.Cond.code ({ cls := "DredViewKeeper", name := "deleteEdge", desc := "(II)I" } : Jvm.MethodName) prog_1_method_3_code (3 : Nat) (Option.some Jvm.ClassFile.FieldType.int)).before args0 about1 = true := code_word (m := ⟨2, 2⟩) (meth := k2m2) (c := k2c2) (by decide +kernel) rfl rfl rfl (by decide +kernel)
set_option maxRecDepth 65536 in
theorem w_c32 : (Jvm.Cond.code ({ cls := "DredViewKeeper", name := "removeEdgeAndRederive", desc := "(II)V" } : Jvm.MethodName) prog_1_method_24_code (4 : Nat) (Option.none : Option Jvm.ClassFile.FieldType)).before args0 about1 = true := code_word (m := ⟨2, 21⟩) (meth := k2m21) (c := k2c21) (by decide +kernel) rfl rfl rfl (by decide +kernel)
set_option maxRecDepth 65536 in
theorem w_c33 : (Jvm.Cond.code ({ cls := "DredViewKeeper", name := "overDelete", desc := "(II)V" } : Jvm.MethodName) prog_1_method_25_code (6 : Nat) (Option.none : Option Jvm.ClassFile.FieldType)).before args0 about1 = true := code_word (m := ⟨2, 22⟩) (meth := k2m22) (c := k2c22) (by decide +kernel) rfl rfl rfl (by decide +kernel)
set_option maxRecDepth 65536 in
theorem w_c34 : (Jvm.Cond.code ({ cls := "DredViewKeeper", name := "clearDoomed", desc := "()V" } : Jvm.MethodName) prog_1_method_34_code (2 : Nat) (Option.none : Option Jvm.ClassFile.FieldType)).before args0 about1 = true := code_word (m := ⟨2, 31⟩) (meth := k2m31) (c := k2c31) (by decide +kernel) rfl rfl rfl (by decide +kernel)
set_option maxRecDepth 65536 in
theorem w_c35 : (Jvm.Cond.code ({ cls := "DredViewKeeper", name := "absorbDoomed", desc := "()Z" } : Jvm.MethodName) prog_1_method_26_code (4 : Nat) (Option.some Jvm.ClassFile.FieldType.boolean)).before args0 about1 = true := code_word (m := ⟨2, 23⟩) (meth := k2m23) (c := k2c23) (by decide +kernel) rfl rfl rfl (by decide +kernel)
set_option maxRecDepth 65536 in
theorem w_c36 : (Jvm.Cond.code ({ cls := "DredViewKeeper", name := "computeNextDoomed", desc := "()V" } : Jvm.MethodName) prog_1_method_27_code (3 : Nat) (Option.none : Option Jvm.ClassFile.FieldType)).before args0 about1 = true := code_word (m := ⟨2, 24⟩) (meth := k2m24) (c := k2c24) (by decide +kernel) rfl rfl rfl (by decide +kernel)
set_option maxRecDepth 65536 in
theorem w_c37 : (Jvm.Cond.code ({ cls := "DredViewKeeper", name := "dropDoomed", desc := "()V" } : Jvm.MethodName) prog_1_method_28_code (2 : Nat) (Option.none : Option Jvm.ClassFile.FieldType)).before args0 about1 = true := code_word (m := ⟨2, 25⟩) (meth := k2m25) (c := k2c25) (by decide +kernel) rfl rfl rfl (by decide +kernel)
set_option maxRecDepth 65536 in
theorem w_c38 : (Jvm.Cond.code ({ cls := "DredViewKeeper", name := "rederive", desc := "()V" } : Jvm.MethodName) prog_1_method_29_code (4 : Nat) (Option.none : Option Jvm.ClassFile.FieldType)).before args0 about1 = true := code_word (m := ⟨2, 26⟩) (meth := k2m26) (c := k2c26) (by decide +kernel) rfl rfl rfl (by decide +kernel)
set_option maxRecDepth 65536 in
theorem w_c39 : (Jvm.Cond.code ({ cls := "DredViewKeeper", name := "gatherReach", desc := "(I)I" } : Jvm.MethodName) prog_1_method_31_code (5 : Nat) (Option.some Jvm.ClassFile.FieldType.int)).before args0 about1 = true := code_word (m := ⟨2, 28⟩) (meth := k2m28) (c := k2c28) (by decide +kernel) rfl rfl rfl (by decide +kernel)
set_option maxRecDepth 65536 in
theorem w_c40 : (Jvm.Cond.code ({ cls := "DredViewKeeper", name := "countRemoved", desc := "()I" } : Jvm.MethodName) prog_1_method_37_code (3 : Nat) (Option.some Jvm.ClassFile.FieldType.int)).before args0 about1 = true := code_word (m := ⟨2, 34⟩) (meth := k2m34) (c := k2c34) (by decide +kernel) rfl rfl rfl (by decide +kernel)
set_option maxRecDepth 65536 in
theorem w_c41 : (Jvm.Cond.code ({ cls := "DredViewKeeper", name := "clearPending", desc := "()I" } : Jvm.MethodName) prog_1_method_7_code (2 : Nat) (Option.some Jvm.ClassFile.FieldType.int)).before args0 about1 = true := code_word (m := ⟨2, 6⟩) (meth := k2m6) (c := k2c6) (by decide +kernel) rfl rfl rfl (by decide +kernel)
set_option maxRecDepth 65536 in
theorem w_c42 : (Jvm.Cond.code ({ cls := "DredViewKeeper", name := "commit", desc := "()I" } : Jvm.MethodName) prog_1_method_6_code (2 : Nat) (Option.some Jvm.ClassFile.FieldType.int)).before args0 about1 = true := code_word (m := ⟨2, 5⟩) (meth := k2m5) (c := k2c5) (by decide +kernel) rfl rfl rfl (by decide +kernel)
set_option maxRecDepth 65536 in
theorem w_c43 : (Jvm.Cond.code ({ cls := "DredViewKeeper", name := "stageDelete", desc := "(II)I" } : Jvm.MethodName) prog_1_method_5_code (3 : Nat) (Option.some Jvm.ClassFile.FieldType.int)).before args0 about1 = true := code_word (m := ⟨2, 4⟩) (meth := k2m4) (c := k2c4) (by decide +kernel) rfl rfl rfl (by decide +kernel)
set_option maxRecDepth 65536 in
theorem w_c44 : (Jvm.Cond.code ({ cls := "DredViewKeeper", name := "stage", desc := "(III)I" } : Jvm.MethodName) prog_1_method_18_code (4 : Nat) (Option.some Jvm.ClassFile.FieldType.int)).before args0 about1 = true := code_word (m := ⟨2, 15⟩) (meth := k2m15) (c := k2c15) (by decide +kernel) rfl rfl rfl (by decide +kernel)
set_option maxRecDepth 65536 in
theorem w_c45 : (Jvm.Cond.code ({ cls := "DredViewKeeper", name := "stageInsert", desc := "(II)I" } : Jvm.MethodName) prog_1_method_4_code (3 : Nat) (Option.some Jvm.ClassFile.FieldType.int)).before args0 about1 = true := code_word (m := ⟨2, 3⟩) (meth := k2m3) (c := k2c3) (by decide +kernel) rfl rfl rfl (by decide +kernel)
set_option maxRecDepth 65536 in
theorem w_c46 : (Jvm.Cond.code ({ cls := "DredViewKeeper", name := "applyStaged", desc := "(I)V" } : Jvm.MethodName) prog_1_method_19_code (5 : Nat) (Option.none : Option Jvm.ClassFile.FieldType)).before args0 about1 = true := code_word (m := ⟨2, 16⟩) (meth := k2m16) (c := k2c16) (by decide +kernel) rfl rfl rfl (by decide +kernel)
def codes1 : List Jvm.Cond := [Jvm.Cond.code x code maxLocals ret, Jvm.Cond.code ({ cls := "DredViewKeeperOwnLaw", name := "cell", desc := "([II)I" } : Jvm.MethodName) method_2_code (2 : Nat) (Option.some Jvm.ClassFile.FieldType.int), Jvm.Cond.code ({ cls := "DredViewKeeper", name := "<init>", desc := "(II)V" } : Jvm.MethodName) prog_1_method_1_code (5 : Nat) (Option.none : Option Jvm.ClassFile.FieldType), Jvm.Cond.code ({ cls := "java/lang/Object", name := "<init>", desc := "()V" } : Jvm.MethodName) object_method_1_code (1 : Nat) (Option.none : Option Jvm.ClassFile.FieldType), Jvm.Cond.code ({ cls := "DredViewKeeper", name := "hasEdge", desc := "(II)Z" } : Jvm.MethodName) prog_1_method_11_code (3 : Nat) (Option.some Jvm.ClassFile.FieldType.boolean), Jvm.Cond.code ({ cls := "DredViewKeeper", name := "isValid", desc := "(I)Z" } : Jvm.MethodName) prog_1_method_38_code (2 : Nat) (Option.some Jvm.ClassFile.FieldType.boolean), Jvm.Cond.code ({ cls := "DredViewKeeper", name := "edgePresent", desc := "(II)Z" } : Jvm.MethodName) prog_1_method_41_code (3 : Nat) (Option.some Jvm.ClassFile.FieldType.boolean), Jvm.Cond.code ({ cls := "DredViewKeeperOwnLaw", name := "closure", desc := "(JI)J" } : Jvm.MethodName) method_4_code (10 : Nat) (Option.some Jvm.ClassFile.FieldType.long), Jvm.Cond.code ({ cls := "DredViewKeeperOwnLaw", name := "bit", desc := "(JII)Z" } : Jvm.MethodName) method_3_code (4 : Nat) (Option.some Jvm.ClassFile.FieldType.boolean), Jvm.Cond.code ({ cls := "DredViewKeeper", name := "reaches", desc := "(II)Z" } : Jvm.MethodName) prog_1_method_9_code (3 : Nat) (Option.some Jvm.ClassFile.FieldType.boolean), Jvm.Cond.code ({ cls := "DredViewKeeper", name := "testBit", desc := "(II)Z" } : Jvm.MethodName) prog_1_method_40_code (3 : Nat) (Option.some Jvm.ClassFile.FieldType.boolean), Jvm.Cond.code ({ cls := "DredViewKeeper", name := "derivationCount", desc := "(II)I" } : Jvm.MethodName) prog_1_method_10_code (6 : Nat) (Option.some Jvm.ClassFile.FieldType.int), Jvm.Cond.code ({ cls := "DredViewKeeper", name := "reachCountFrom", desc := "(I)I" } : Jvm.MethodName) prog_1_method_14_code (2 : Nat) (Option.some Jvm.ClassFile.FieldType.int), Jvm.Cond.code ({ cls := "DredViewKeeper", name := "popCount", desc := "(I)I" } : Jvm.MethodName) prog_1_method_42_code (3 : Nat) (Option.some Jvm.ClassFile.FieldType.int), Jvm.Cond.code ({ cls := "DredViewKeeper", name := "reachCountTo", desc := "(I)I" } : Jvm.MethodName) prog_1_method_15_code (4 : Nat) (Option.some Jvm.ClassFile.FieldType.int), Jvm.Cond.code ({ cls := "DredViewKeeper", name := "viewSize", desc := "()I" } : Jvm.MethodName) prog_1_method_13_code (3 : Nat) (Option.some Jvm.ClassFile.FieldType.int), Jvm.Cond.code ({ cls := "DredViewKeeper", name := "insertEdge", desc := "(II)I" } : Jvm.MethodName) prog_1_method_2_code (3 : Nat) (Option.some Jvm.ClassFile.FieldType.int), Jvm.Cond.code ({ cls := "DredViewKeeper", name := "takeSnapshot", desc := "()V" } : Jvm.MethodName) prog_1_method_35_code (2 : Nat) (Option.none : Option Jvm.ClassFile.FieldType), Jvm.Cond.code ({ cls := "DredViewKeeper", name := "addEdgeAndPropagate", desc := "(II)V" } : Jvm.MethodName) prog_1_method_20_code (5 : Nat) (Option.none : Option Jvm.ClassFile.FieldType), Jvm.Cond.code ({ cls := "DredViewKeeper", name := "bit", desc := "(I)I" } : Jvm.MethodName) prog_1_method_39_code (2 : Nat) (Option.some Jvm.ClassFile.FieldType.int), Jvm.Cond.code ({ cls := "DredViewKeeper", name := "clearDelta", desc := "()V" } : Jvm.MethodName) prog_1_method_33_code (2 : Nat) (Option.none : Option Jvm.ClassFile.FieldType), Jvm.Cond.code ({ cls := "DredViewKeeper", name := "propagateAdditions", desc := "()V" } : Jvm.MethodName) prog_1_method_21_code (2 : Nat) (Option.none : Option Jvm.ClassFile.FieldType), Jvm.Cond.code ({ cls := "DredViewKeeper", name := "mergeDeltaIntoReach", desc := "()Z" } : Jvm.MethodName) prog_1_method_22_code (4 : Nat) (Option.some Jvm.ClassFile.FieldType.boolean), Jvm.Cond.code ({ cls := "DredViewKeeper", name := "computeNextAdditions", desc := "()V" } : Jvm.MethodName) prog_1_method_23_code (3 : Nat) (Option.none : Option Jvm.ClassFile.FieldType), Jvm.Cond.code ({ cls := "DredViewKeeper", name := "gatherDelta", desc := "(I)I" } : Jvm.MethodName) prog_1_method_30_code (5 : Nat) (Option.some Jvm.ClassFile.FieldType.int), Jvm.Cond.code ({ cls := "DredViewKeeper", name := "shiftDelta", desc := "()V" } : Jvm.MethodName) prog_1_method_32_code (2 : Nat) (Option.none : Option Jvm.ClassFile.FieldType), Jvm.Cond.code ({ cls := "DredViewKeeper", name := "countAdded", desc := "()I" } : Jvm.MethodName) prog_1_method_36_code (3 : Nat) (Option.some Jvm.ClassFile.FieldType.int), Jvm.Cond.code ({ cls := "DredViewKeeperOwnLaw", name := "pop", desc := "(J)I" } : Jvm.MethodName) method_5_code (4 : Nat) (Option.some Jvm.ClassFile.FieldType.int), Jvm.Cond.code ({ cls := "DredViewKeeper", name := "lastAdded", desc := "()I" } : Jvm.MethodName) prog_1_method_16_code (1 : Nat) (Option.some Jvm.ClassFile.FieldType.int), Jvm.Cond.code ({ cls := "DredViewKeeper", name := "lastRemoved", desc := "()I" } : Jvm.MethodName) prog_1_method_17_code (1 : Nat) (Option.some Jvm.ClassFile.FieldType.int), Jvm.Cond.code ({ cls := "DredViewKeeperOwnLaw", name := "nth", desc := "(JI)I" } : Jvm.MethodName) method_6_code (5 : Nat) (Option.some Jvm.ClassFile.FieldType.int), Jvm.Cond.code ({ cls := "DredViewKeeper", name := "deleteEdge", desc := "(II)I" } : Jvm.MethodName) prog_1_method_3_code (3 : Nat) (Option.some Jvm.ClassFile.FieldType.int), Jvm.Cond.code ({ cls := "DredViewKeeper", name := "removeEdgeAndRederive", desc := "(II)V" } : Jvm.MethodName) prog_1_method_24_code (4 : Nat) (Option.none : Option Jvm.ClassFile.FieldType), Jvm.Cond.code ({ cls := "DredViewKeeper", name := "overDelete", desc := "(II)V" } : Jvm.MethodName) prog_1_method_25_code (6 : Nat) (Option.none : Option Jvm.ClassFile.FieldType), Jvm.Cond.code ({ cls := "DredViewKeeper", name := "clearDoomed", desc := "()V" } : Jvm.MethodName) prog_1_method_34_code (2 : Nat) (Option.none : Option Jvm.ClassFile.FieldType), Jvm.Cond.code ({ cls := "DredViewKeeper", name := "absorbDoomed", desc := "()Z" } : Jvm.MethodName) prog_1_method_26_code (4 : Nat) (Option.some Jvm.ClassFile.FieldType.boolean), Jvm.Cond.code ({ cls := "DredViewKeeper", name := "computeNextDoomed", desc := "()V" } : Jvm.MethodName) prog_1_method_27_code (3 : Nat) (Option.none : Option Jvm.ClassFile.FieldType), Jvm.Cond.code ({ cls := "DredViewKeeper", name := "dropDoomed", desc := "()V" } : Jvm.MethodName) prog_1_method_28_code (2 : Nat) (Option.none : Option Jvm.ClassFile.FieldType), Jvm.Cond.code ({ cls := "DredViewKeeper", name := "rederive", desc := "()V" } : Jvm.MethodName) prog_1_method_29_code (4 : Nat) (Option.none : Option Jvm.ClassFile.FieldType), Jvm.Cond.code ({ cls := "DredViewKeeper", name := "gatherReach", desc := "(I)I" } : Jvm.MethodName) prog_1_method_31_code (5 : Nat) (Option.some Jvm.ClassFile.FieldType.int), Jvm.Cond.code ({ cls := "DredViewKeeper", name := "countRemoved", desc := "()I" } : Jvm.MethodName) prog_1_method_37_code (3 : Nat) (Option.some Jvm.ClassFile.FieldType.int), Jvm.Cond.code ({ cls := "DredViewKeeper", name := "clearPending", desc := "()I" } : Jvm.MethodName) prog_1_method_7_code (2 : Nat) (Option.some Jvm.ClassFile.FieldType.int), Jvm.Cond.code ({ cls := "DredViewKeeper", name := "commit", desc := "()I" } : Jvm.MethodName) prog_1_method_6_code (2 : Nat) (Option.some Jvm.ClassFile.FieldType.int), Jvm.Cond.code ({ cls := "DredViewKeeper", name := "stageDelete", desc := "(II)I" } : Jvm.MethodName) prog_1_method_5_code (3 : Nat) (Option.some Jvm.ClassFile.FieldType.int), Jvm.Cond.code ({ cls := "DredViewKeeper", name := "stage", desc := "(III)I" } : Jvm.MethodName) prog_1_method_18_code (4 : Nat) (Option.some Jvm.ClassFile.FieldType.int), Jvm.Cond.code ({ cls := "DredViewKeeper", name := "stageInsert", desc := "(II)I" } : Jvm.MethodName) prog_1_method_4_code (3 : Nat) (Option.some Jvm.ClassFile.FieldType.int), Jvm.Cond.code ({ cls := "DredViewKeeper", name := "applyStaged", desc := "(I)V" } : Jvm.MethodName) prog_1_method_19_code (5 : Nat) (Option.none : Option Jvm.ClassFile.FieldType)]
set_option maxRecDepth 65536 in
theorem codes_eq : words1.filter isCode = codes1 := rfl
theorem w_codes : ∀ c ∈ words1.filter isCode, c.before args0 about1 = true := by
  rw [codes_eq]
  intro c hc
  simp only [codes1, List.mem_cons, List.not_mem_nil, or_false] at hc
  rcases hc with rfl | rfl | rfl | rfl | rfl | rfl | rfl | rfl | rfl | rfl | rfl | rfl | rfl | rfl | rfl | rfl | rfl | rfl | rfl | rfl | rfl | rfl | rfl | rfl | rfl | rfl | rfl | rfl | rfl | rfl | rfl | rfl | rfl | rfl | rfl | rfl | rfl | rfl | rfl | rfl | rfl | rfl | rfl | rfl | rfl | rfl | rfl
  · exact w_c0
  · exact w_c1
  · exact w_c2
  · exact w_c3
  · exact w_c4
  · exact w_c5
  · exact w_c6
  · exact w_c7
  · exact w_c8
  · exact w_c9
  · exact w_c10
  · exact w_c11
  · exact w_c12
  · exact w_c13
  · exact w_c14
  · exact w_c15
  · exact w_c16
  · exact w_c17
  · exact w_c18
  · exact w_c19
  · exact w_c20
  · exact w_c21
  · exact w_c22
  · exact w_c23
  · exact w_c24
  · exact w_c25
  · exact w_c26
  · exact w_c27
  · exact w_c28
  · exact w_c29
  · exact w_c30
  · exact w_c31
  · exact w_c32
  · exact w_c33
  · exact w_c34
  · exact w_c35
  · exact w_c36
  · exact w_c37
  · exact w_c38
  · exact w_c39
  · exact w_c40
  · exact w_c41
  · exact w_c42
  · exact w_c43
  · exact w_c44
  · exact w_c45
  · exact w_c46
set_option maxRecDepth 65536 in
theorem w_t1 : (words1.take 24).all (fun c => isCode c || c.before args0 about1) = true := by decide +kernel
set_option maxRecDepth 65536 in
theorem w_t2 : ((words1.drop 24).take 24).all (fun c => isCode c || c.before args0 about1) = true := by decide +kernel
set_option maxRecDepth 65536 in
theorem w_t3 : (((words1.drop 24).drop 24).take 24).all (fun c => isCode c || c.before args0 about1) = true := by decide +kernel
set_option maxRecDepth 65536 in
theorem w_t4 : ((((words1.drop 24).drop 24).drop 24).take 24).all (fun c => isCode c || c.before args0 about1) = true := by decide +kernel
set_option maxRecDepth 65536 in
theorem w_t5 : (((((words1.drop 24).drop 24).drop 24).drop 24).take 24).all (fun c => isCode c || c.before args0 about1) = true := by decide +kernel
set_option maxRecDepth 65536 in
theorem w_t6 : ((((((words1.drop 24).drop 24).drop 24).drop 24).drop 24).take 24).all (fun c => isCode c || c.before args0 about1) = true := by decide +kernel
set_option maxRecDepth 65536 in
theorem w_t7 : (((((((words1.drop 24).drop 24).drop 24).drop 24).drop 24).drop 24).take 24).all (fun c => isCode c || c.before args0 about1) = true := by decide +kernel
set_option maxRecDepth 65536 in
theorem w_t8 : ((((((((words1.drop 24).drop 24).drop 24).drop 24).drop 24).drop 24).drop 24).take 24).all (fun c => isCode c || c.before args0 about1) = true := by decide +kernel
set_option maxRecDepth 65536 in
theorem w_t9 : (((((((((words1.drop 24).drop 24).drop 24).drop 24).drop 24).drop 24).drop 24).drop 24).take 24).all (fun c => isCode c || c.before args0 about1) = true := by decide +kernel
set_option maxRecDepth 65536 in
theorem w_t10 : (((((((((words1.drop 24).drop 24).drop 24).drop 24).drop 24).drop 24).drop 24).drop 24).drop 24).all (fun c => isCode c || c.before args0 about1) = true := by decide +kernel
theorem w_tables : (allAtoms (Jvm.Cond.code x code maxLocals ret :: tables_1)).before args0 about1 = true := by
  rw [allAtoms_all]
  show words1.all (fun c => c.before args0 about1) = true
  refine all_split ?_ w_codes
  rw [← List.take_append_drop 24 words1, List.all_append, w_t1, ← List.take_append_drop 24 (words1.drop 24), List.all_append, w_t2, ← List.take_append_drop 24 ((words1.drop 24).drop 24), List.all_append, w_t3, ← List.take_append_drop 24 (((words1.drop 24).drop 24).drop 24), List.all_append, w_t4, ← List.take_append_drop 24 ((((words1.drop 24).drop 24).drop 24).drop 24), List.all_append, w_t5, ← List.take_append_drop 24 (((((words1.drop 24).drop 24).drop 24).drop 24).drop 24), List.all_append, w_t6, ← List.take_append_drop 24 ((((((words1.drop 24).drop 24).drop 24).drop 24).drop 24).drop 24), List.all_append, w_t7, ← List.take_append_drop 24 (((((((words1.drop 24).drop 24).drop 24).drop 24).drop 24).drop 24).drop 24), List.all_append, w_t8, ← List.take_append_drop 24 ((((((((words1.drop 24).drop 24).drop 24).drop 24).drop 24).drop 24).drop 24).drop 24), List.all_append, w_t9, w_t10]
  rfl
set_option maxRecDepth 65536 in
theorem w_rest : rest_1_c.before args0 about1 = true := by decide +kernel
set_option maxRecDepth 65536 in
theorem w_case : (Jvm.Cond.and given_1 narrow_1).before args0 about1 = true := by decide +kernel
theorem w_applies : (headSpec (Jvm.Cond.code x code maxLocals ret :: tables_1) room_1).applies x e0.platform about1 = true :=
  (Spec.applies_iff w_frames).mpr ⟨w_running, w_runnable, w_alone, w_named, w_hears, w_ripe, w_room, w_tables⟩
theorem atStart : AtStart classFile x code maxLocals ret World_1 tables_1 room_1 Calls_1 rest_1 Pre_1 launch0 p0 e0 about1 theMethod args0 below0 :=
  ⟨lists_1, trivial, launch0.admits_env _ _ _, launch0.least_env, fairChoices_fair.cas, fairChoices_fair.clock, w_frames, w_args, w_heap, w_applies, trivial, w_rest, w_case⟩
end start1
theorem witness_1 : WitnessClaimed_1 := ⟨start1.p0, start1.e0, start1.about1, start1.theMethod, start1.args0, start1.below0, start1.atStart⟩
end Jvm.Pilot.@@N@@
