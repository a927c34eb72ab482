import JvmDerived
import JvmDerived.Pilot.@@N@@Statement
import JvmDerived.Pilot.@@N@@Code
set_option linter.unusedVariables false
set_option linter.unusedSimpArgs false
namespace Jvm.AM
open Sem ClassFile Op Lib Jvm.Stand Jvm.Free Jvm.LawKit Jvm.RoadKit
/-! ## 1. The abstract objects: one object of the class, its scalars and its arrays by number -/
abbrev S : Type := (Nat → Int32) × (Nat → Int64) × (Nat → List Int32) × (Nat → List Int64)
def aupd {A : Type} (g : Nat → A) (f : Nat) (v : A) : Nat → A := fun x => if x = f then v else g x
def gI (s : S) (f : Nat) : Int32 := s.1 f
def gL (s : S) (f : Nat) : Int64 := s.2.1 f
def gA (s : S) (f : Nat) : List Int32 := s.2.2.1 f
def gB (s : S) (f : Nat) : List Int64 := s.2.2.2 f
def sI (s : S) (f : Nat) (v : Int32) : S := (aupd s.1 f v, s.2)
def sL (s : S) (f : Nat) (v : Int64) : S := (s.1, aupd s.2.1 f v, s.2.2)
def sA (s : S) (f : Nat) (v : List Int32) : S := (s.1, s.2.1, aupd s.2.2.1 f v, s.2.2.2)
def sB (s : S) (f : Nat) (v : List Int64) : S := (s.1, s.2.1, s.2.2.1, aupd s.2.2.2 f v)
def s0 : S := (fun _ => 0, fun _ => 0, fun _ => [], fun _ => [])
theorem gI_s0 (f : Nat) : gI s0 f = 0 := by simp only [gI, s0]
theorem gL_s0 (f : Nat) : gL s0 f = 0 := by simp only [gL, s0]
theorem gA_s0 (f : Nat) : gA s0 f = [] := by simp only [gA, s0]
theorem gB_s0 (f : Nat) : gB s0 f = [] := by simp only [gB, s0]
theorem gI_sI (s : S) (f g : Nat) (v : Int32) : gI (sI s f v) g = if g = f then v else gI s g := by simp only [gI, gL, gA, gB, sI, sL, sA, sB, aupd]
theorem gI_sL (s : S) (f g : Nat) (v : Int64) : gI (sL s f v) g = gI s g := by simp only [gI, gL, gA, gB, sI, sL, sA, sB, aupd]
theorem gI_sA (s : S) (f g : Nat) (v : List Int32) : gI (sA s f v) g = gI s g := by simp only [gI, gL, gA, gB, sI, sL, sA, sB, aupd]
theorem gI_sB (s : S) (f g : Nat) (v : List Int64) : gI (sB s f v) g = gI s g := by simp only [gI, gL, gA, gB, sI, sL, sA, sB, aupd]
theorem gL_sI (s : S) (f g : Nat) (v : Int32) : gL (sI s f v) g = gL s g := by simp only [gI, gL, gA, gB, sI, sL, sA, sB, aupd]
theorem gL_sL (s : S) (f g : Nat) (v : Int64) : gL (sL s f v) g = if g = f then v else gL s g := by simp only [gI, gL, gA, gB, sI, sL, sA, sB, aupd]
theorem gL_sA (s : S) (f g : Nat) (v : List Int32) : gL (sA s f v) g = gL s g := by simp only [gI, gL, gA, gB, sI, sL, sA, sB, aupd]
theorem gL_sB (s : S) (f g : Nat) (v : List Int64) : gL (sB s f v) g = gL s g := by simp only [gI, gL, gA, gB, sI, sL, sA, sB, aupd]
theorem gA_sI (s : S) (f g : Nat) (v : Int32) : gA (sI s f v) g = gA s g := by simp only [gI, gL, gA, gB, sI, sL, sA, sB, aupd]
theorem gA_sL (s : S) (f g : Nat) (v : Int64) : gA (sL s f v) g = gA s g := by simp only [gI, gL, gA, gB, sI, sL, sA, sB, aupd]
theorem gA_sA (s : S) (f g : Nat) (v : List Int32) : gA (sA s f v) g = if g = f then v else gA s g := by simp only [gI, gL, gA, gB, sI, sL, sA, sB, aupd]
theorem gA_sB (s : S) (f g : Nat) (v : List Int64) : gA (sB s f v) g = gA s g := by simp only [gI, gL, gA, gB, sI, sL, sA, sB, aupd]
theorem gB_sI (s : S) (f g : Nat) (v : Int32) : gB (sI s f v) g = gB s g := by simp only [gI, gL, gA, gB, sI, sL, sA, sB, aupd]
theorem gB_sL (s : S) (f g : Nat) (v : Int64) : gB (sL s f v) g = gB s g := by simp only [gI, gL, gA, gB, sI, sL, sA, sB, aupd]
theorem gB_sA (s : S) (f g : Nat) (v : List Int32) : gB (sA s f v) g = gB s g := by simp only [gI, gL, gA, gB, sI, sL, sA, sB, aupd]
theorem gB_sB (s : S) (f g : Nat) (v : List Int64) : gB (sB s f v) g = if g = f then v else gB s g := by simp only [gI, gL, gA, gB, sI, sL, sA, sB, aupd]
def rep {A : Type} (n : Nat) (x : A) : List A := List.replicate n x
theorem rep_length {A : Type} (n : Nat) (x : A) : (rep n x).length = n := by simp only [rep, List.length_replicate]
theorem rep_get {A : Type} (n : Nat) (x : A) (k : Nat) : (rep n x)[k]? = if k < n then some x else none := by simp only [rep, List.getElem?_replicate]
theorem rep_set {A : Type} (n : Nat) (x : A) (k : Nat) : (rep n x).set k x = rep n x := by simp only [rep, List.set_replicate_self]
/-- reading and writing a component -/
def ix {A : Type} (l : List A) (j : Int32) : Option A := if j < 0 then none else l[j.toNatClampNeg]?
def st {A : Type} (l : List A) (j : Int32) (x : A) : Option (List A) := if j < 0 then none else if j.toNatClampNeg < l.length then some (l.set j.toNatClampNeg x) else none
/-- the world of a run: the script array, if there is one; the objects made so far, each with the number of arrays that it has been given -/
abbrev W : Type := Option (List Int32) × List (Nat × S)
/-- the class: name, slots, scalar fields (name, descriptor, type), array fields in the order of their making (name, descriptor, component type, most slots) -/
abbrev CI : Type := String × Nat × List (String × String × FieldType) × List (String × String × FieldType × Nat)
def cN (c : CI) : String := c.1
def cF (c : CI) : Nat := c.2.1
def cS (c : CI) : List (String × String × FieldType) := c.2.2.1
def cA (c : CI) : List (String × String × FieldType × Nat) := c.2.2.2
def cK (c : CI) : Nat := (cA c).length
/-- the program: the sheet's words, the class -/
abbrev PI : Type := List Jvm.Cond × CI
/-- a method: name, bytes, variables, return type, room, most objects, whether it makes cells, cells and slots at its start -/
abbrev Meth : Type := MethodName × ByteArray × Nat × Option FieldType × Room × Nat × Bool × Nat × Nat
def mY (M : Meth) : MethodName := M.1
def mB (M : Meth) : ByteArray := M.2.1
def mL (M : Meth) : Nat := M.2.2.1
def mT (M : Meth) : Option FieldType := M.2.2.2.1
def mR (M : Meth) : Room := M.2.2.2.2.1
def mN (M : Meth) : Nat := M.2.2.2.2.2.1
def mTop (M : Meth) : Bool := M.2.2.2.2.2.2.1
def mUC (M : Meth) : Nat := M.2.2.2.2.2.2.2.1
def mUS (M : Meth) : Nat := M.2.2.2.2.2.2.2.2
/-! ## 2. Abstract references: 0 the script; j + 1 the cell at b + j -/
def con (α b : Nat) : Value → Value
  | .ref 0 => .ref α
  | .ref (j + 1) => .ref (b + j)
  | v => v
def cs (α b : Nat) : Slot → Slot
  | .val v => .val (con α b v)
  | .unset => .unset
  | .second => .second
def cL (α b : Nat) (L : List Slot) : Array Slot := (L.map (cs α b)).toArray
def cV (α b : Nat) (l : List Value) : List Value := l.map (con α b)
theorem con_cat (α b : Nat) (v : Value) : (con α b v).category = v.category := by
  cases v <;> try rfl
  rename_i a; cases a <;> rfl
theorem con_ref (α b : Nat) (v : Value) : (con α b v).isRef = v.isRef := by
  cases v <;> try rfl
  rename_i a; cases a <;> rfl
theorem cL_get {α b : Nat} {L : List Slot} {k : Nat} {x : Slot} (h : L[k]? = some x) : (cL α b L)[k]? = some (cs α b x) := by
  simp [cL, List.getElem?_toArray, List.getElem?_map, h]
theorem cL_size (α b : Nat) (L : List Slot) : (cL α b L).size = L.length := by simp [cL]
theorem cV_sum (α b : Nat) (l : List Value) : ((cV α b l).map fun v => v.category).sum = (l.map fun v => v.category).sum := by
  simp [cV, List.map_map, Function.comp_def, con_cat]
theorem setAt_map {α b : Nat} {l l' : Array Slot} {i : Nat} {x : Slot} (h : setAt l i x = some l') : setAt (l.map (cs α b)) i (cs α b x) = some (l'.map (cs α b)) := by
  unfold setAt at h ⊢
  split at h
  · rename_i q
    cases h
    rw [if_pos (by simpa using q)]
    simp [Array.map_setIfInBounds]
  · cases h
theorem storeSelf_map {α b : Nat} {l l' : Array Slot} {i : Nat} {v : Value} (h : storeSelf l i v = some l') : storeSelf (l.map (cs α b)) i (con α b v) = some (l'.map (cs α b)) := by
  simp only [storeSelf, Option.bind_eq_bind, Option.bind_eq_some_iff] at h ⊢
  obtain ⟨l1, h1, h2⟩ := h
  refine ⟨l1.map (cs α b), setAt_map (x := .val v) h1, ?_⟩
  rw [con_cat]
  split at h2
  · rename_i q
    rw [if_pos q]
    obtain ⟨x, h3, h4⟩ := Option.bind_eq_some_iff.mp h2
    refine Option.bind_eq_some_iff.mpr ⟨cs α b x, by simp [h3], ?_⟩
    cases x with
    | unset => exact setAt_map (x := .second) h4
    | second => exact setAt_map (x := .second) h4
    | val old =>
      simp only [cs, con_cat] at h4 ⊢
      split at h4
      · rename_i q2
        rw [if_pos q2]
        obtain ⟨y, h5, h6⟩ := Option.bind_eq_some_iff.mp h4
        exact Option.bind_eq_some_iff.mpr ⟨_, setAt_map (x := .unset) h5, setAt_map (x := .second) h6⟩
      · rename_i q2
        rw [if_neg q2]
        exact setAt_map (x := .second) h4
  · rename_i q
    rw [if_neg q]
    cases h2; rfl
theorem store_map {α b : Nat} {l l' : Array Slot} {i : Nat} {v : Value} (h : storeLocals l i v = some l') : storeLocals (l.map (cs α b)) i (con α b v) = some (l'.map (cs α b)) := by
  simp only [storeLocals, Option.bind_eq_bind, Option.bind_eq_some_iff] at h ⊢
  obtain ⟨x, h1, h2⟩ := h
  refine ⟨cs α b x, by simp [h1], ?_⟩
  cases x with
  | unset => exact storeSelf_map h2
  | second =>
    obtain ⟨y, h3, h4⟩ := Option.bind_eq_some_iff.mp h2
    exact Option.bind_eq_some_iff.mpr ⟨_, setAt_map (x := .unset) h3, storeSelf_map h4⟩
  | val old =>
    simp only [cs, con_cat] at h2 ⊢
    split at h2
    · rename_i q
      rw [if_pos q]
      obtain ⟨y, h3, h4⟩ := Option.bind_eq_some_iff.mp h2
      exact Option.bind_eq_some_iff.mpr ⟨_, setAt_map (x := .unset) h3, storeSelf_map h4⟩
    · rename_i q
      rw [if_neg q]
      exact storeSelf_map h2
theorem storeC {α b : Nat} {L L' : List Slot} {i : Nat} {v : Value} (h : storeLocals L.toArray i v = some L'.toArray) : storeLocals (cL α b L) i (con α b v) = some (cL α b L') := by
  have := store_map (α := α) (b := b) h
  simpa [cL] using this
theorem setAt_size {l l' : Array Slot} {i : Nat} {x : Slot} (h : setAt l i x = some l') : l'.size = l.size := by
  unfold setAt at h; split at h <;> cases h; simp
theorem storeSelf_size {l l' : Array Slot} {i : Nat} {v : Value} (h : storeSelf l i v = some l') : l'.size = l.size := by
  simp only [storeSelf, Option.bind_eq_bind, Option.bind_eq_some_iff] at h
  obtain ⟨l1, h1, h2⟩ := h
  have e1 := setAt_size h1
  split at h2
  · obtain ⟨x, h3, h4⟩ := Option.bind_eq_some_iff.mp h2
    cases x with
    | unset => exact (setAt_size h4).trans e1
    | second => exact (setAt_size h4).trans e1
    | val old =>
      dsimp only at h4
      split at h4
      · obtain ⟨y, h5, h6⟩ := Option.bind_eq_some_iff.mp h4
        exact (setAt_size h6).trans ((setAt_size h5).trans e1)
      · exact (setAt_size h4).trans e1
  · cases h2; exact e1
theorem store_size {l l' : Array Slot} {i : Nat} {v : Value} (h : storeLocals l i v = some l') : l'.size = l.size := by
  simp only [storeLocals, Option.bind_eq_bind, Option.bind_eq_some_iff] at h
  obtain ⟨x, h1, h2⟩ := h
  cases x with
  | unset => exact storeSelf_size h2
  | second =>
    obtain ⟨y, h3, h4⟩ := Option.bind_eq_some_iff.mp h2
    exact (storeSelf_size h4).trans (setAt_size h3)
  | val old =>
    dsimp only at h2
    split at h2
    · obtain ⟨y, h3, h4⟩ := Option.bind_eq_some_iff.mp h2
      exact (storeSelf_size h4).trans (setAt_size h3)
    · exact storeSelf_size h2
/-- a variable that may be written over by a value of one word -/
def k1 (o : Slot) : Prop := o = .unset ∨ ∃ w, o = .val w ∧ w.category = 1
def k2 (o o2 : Slot) : Prop := (o = .unset ∧ o2 = .unset) ∨ ∃ u, o = .val (.long u) ∧ o2 = .second
theorem setAt_l {L : List Slot} {k : Nat} {x : Slot} (h : k < L.length) : setAt L.toArray k x = some (L.set k x).toArray := by simp [setAt, h]
theorem get_l {L : List Slot} {k : Nat} {o : Slot} (h : L[k]? = some o) : L.toArray[k]? = some o := by rw [List.getElem?_toArray]; exact h
theorem store_u {L : List Slot} {k : Nat} {v : Value} (h : L[k]? = some .unset) : storeLocals L.toArray k v = storeSelf L.toArray k v := by
  simp only [storeLocals, Option.bind_eq_bind, get_l h, Option.bind_some]
theorem store_1 {L : List Slot} {k : Nat} {v w : Value} (h : L[k]? = some (.val w)) (hw : w.category = 1) : storeLocals L.toArray k v = storeSelf L.toArray k v := by
  simp only [storeLocals, Option.bind_eq_bind, get_l h, Option.bind_some]
  rw [if_neg (by rw [hw]; decide)]
theorem store_k {L : List Slot} {k : Nat} {v : Value} {o : Slot} (h : L[k]? = some o) (ho : k1 o) : storeLocals L.toArray k v = storeSelf L.toArray k v := by
  rcases ho with rfl | ⟨w, rfl, hw⟩
  · exact store_u h
  · exact store_1 h hw
theorem store_2 {L : List Slot} {k : Nat} {v w : Value} (h : L[k]? = some (.val w)) (hw : w.category = 2) (l2 : k + 1 < L.length) : storeLocals L.toArray k v = storeSelf (L.set (k + 1) .unset).toArray k v := by
  simp only [storeLocals, Option.bind_eq_bind, get_l h, Option.bind_some]
  rw [if_pos hw, setAt_l l2, Option.bind_some]
theorem self_1 {L : List Slot} {k : Nat} {v : Value} (hv : v.category = 1) (l : k < L.length) : storeSelf L.toArray k v = some (L.set k (.val v)).toArray := by
  simp only [storeSelf, Option.bind_eq_bind, setAt_l l, Option.bind_some]
  rw [if_neg (by rw [hv]; decide)]
theorem self_2 {L : List Slot} {k : Nat} {v : Value} {o : Slot} (hv : v.category = 2) (h : L[k + 1]? = some o) (ho : k1 o ∨ o = .second) (l : k < L.length) : storeSelf L.toArray k v = some ((L.set k (.val v)).set (k + 1) .second).toArray := by
  have l2 := (List.getElem?_eq_some_iff.mp h).1
  have e2 : (L.set k (.val v))[k + 1]? = some o := by rw [List.getElem?_set_ne (by omega)]; exact h
  simp only [storeSelf, Option.bind_eq_bind, setAt_l l, Option.bind_some]
  rw [if_pos hv, get_l e2, Option.bind_some]
  rcases ho with (rfl | ⟨w, rfl, hw⟩) | rfl
  · exact setAt_l (by rw [List.length_set]; exact l2)
  · dsimp only
    rw [if_neg (by rw [hw]; decide)]
    exact setAt_l (by rw [List.length_set]; exact l2)
  · exact setAt_l (by rw [List.length_set]; exact l2)
theorem self_3 {L : List Slot} {k : Nat} {v w : Value} (hv : v.category = 2) (h : L[k + 1]? = some (.val w)) (hw : w.category = 2) (l3 : k + 2 < L.length) (l : k < L.length) : storeSelf L.toArray k v = some (((L.set k (.val v)).set (k + 2) .unset).set (k + 1) .second).toArray := by
  have l2 := (List.getElem?_eq_some_iff.mp h).1
  have e2 : (L.set k (.val v))[k + 1]? = some (.val w) := by rw [List.getElem?_set_ne (by omega)]; exact h
  simp only [storeSelf, Option.bind_eq_bind, setAt_l l, Option.bind_some]
  rw [if_pos hv, get_l e2, Option.bind_some]
  dsimp only
  rw [if_pos hw, setAt_l (by rw [List.length_set]; exact l3), Option.bind_some, setAt_l (by rw [List.length_set, List.length_set]; exact l2)]
theorem stx {L : List Slot} {k : Nat} {o : Slot} {v : Value} (h : L[k]? = some o) (ho : k1 o) (hv : v.category = 1) : storeLocals L.toArray k v = some (L.set k (.val v)).toArray := by
  rw [store_k h ho, self_1 hv (List.getElem?_eq_some_iff.mp h).1]
theorem stx3 {L : List Slot} {k : Nat} {o o2 : Slot} {u : Int64} (h : L[k]? = some o) (h2 : L[k + 1]? = some o2) (ho : k1 o) (ho2 : k1 o2) : storeLocals L.toArray k (.long u) = some ((L.set k (.val (.long u))).set (k + 1) .second).toArray := by
  rw [store_k h ho, self_2 rfl h2 (Or.inl ho2) (List.getElem?_eq_some_iff.mp h).1]
theorem stx2 {L : List Slot} {k : Nat} {o o2 : Slot} {u : Int64} (h : L[k]? = some o) (h2 : L[k + 1]? = some o2) (ho : k2 o o2) : storeLocals L.toArray k (.long u) = some ((L.set k (.val (.long u))).set (k + 1) .second).toArray := by
  have l1 := (List.getElem?_eq_some_iff.mp h).1
  have l2 := (List.getElem?_eq_some_iff.mp h2).1
  rcases ho with ⟨rfl, rfl⟩ | ⟨u', rfl, rfl⟩
  · exact stx3 h h2 (Or.inl rfl) (Or.inl rfl)
  · rw [store_2 h rfl l2, self_2 (o := .unset) rfl (by rw [List.getElem?_set_self l2]) (Or.inl (Or.inl rfl)) (by rw [List.length_set]; exact l1)]
    rw [List.set_comm _ _ (show k + 1 ≠ k by omega), List.set_set]
theorem stx4 {L : List Slot} {k : Nat} {o2 : Slot} {w : Int64} {v : Value} (h : L[k]? = some (.val (.long w))) (h2 : L[k + 1]? = some o2) (hv : v.category = 1) : storeLocals L.toArray k v = some ((L.set (k + 1) .unset).set k (.val v)).toArray := by
  rw [store_2 h rfl (List.getElem?_eq_some_iff.mp h2).1, self_1 hv (by rw [List.length_set]; exact (List.getElem?_eq_some_iff.mp h).1)]
theorem stx5 {L : List Slot} {k : Nat} {o o3 : Slot} {w u : Int64} (h : L[k]? = some o) (ho : k1 o) (h2 : L[k + 1]? = some (.val (.long w))) (h3 : L[k + 2]? = some o3) : storeLocals L.toArray k (.long u) = some (((L.set k (.val (.long u))).set (k + 2) .unset).set (k + 1) .second).toArray := by
  rw [store_k h ho, self_3 rfl h2 rfl (List.getElem?_eq_some_iff.mp h3).1 (List.getElem?_eq_some_iff.mp h).1]
/-- a tail of dead variables -/
def wtf : Slot ⊕ Int64 → List Slot
  | .inl x => [x]
  | .inr u => [.val (.long u), .second]
def WT (D : List Slot) : Prop := ∃ l : List (Slot ⊕ Int64), D = l.flatMap wtf ∧ ∀ x, Sum.inl x ∈ l → k1 x
theorem wt0 : WT [] := ⟨[], rfl, fun _ h => nomatch h⟩
theorem wt1 {x : Slot} {D : List Slot} (h : k1 x) (W : WT D) : WT (x :: D) := by
  obtain ⟨l, rfl, g⟩ := W
  refine ⟨.inl x :: l, by simp [wtf], fun y hy => ?_⟩
  rcases List.mem_cons.mp hy with e | e
  · cases e; exact h
  · exact g y e
theorem wt2 {u : Int64} {D : List Slot} (W : WT D) : WT (.val (.long u) :: .second :: D) := by
  obtain ⟨l, rfl, g⟩ := W
  refine ⟨.inr u :: l, by simp [wtf], fun y hy => ?_⟩
  rcases List.mem_cons.mp hy with e | e
  · cases e
  · exact g y e
theorem wt12 {x y : Slot} {D : List Slot} (h : k2 x y) (W : WT D) : WT (x :: y :: D) := by
  rcases h with ⟨rfl, rfl⟩ | ⟨u, rfl, rfl⟩
  · exact wt1 (Or.inl rfl) (wt1 (Or.inl rfl) W)
  · exact wt2 W
theorem wt_cases {D : List Slot} (W : WT D) : D = [] ∨ (∃ x E, D = x :: E ∧ k1 x ∧ WT E) ∨ ∃ u E, D = .val (.long u) :: .second :: E ∧ WT E := by
  obtain ⟨l, rfl, g⟩ := W
  match l, g with
  | [], _ => exact Or.inl rfl
  | .inl x :: r, g => exact Or.inr (Or.inl ⟨x, r.flatMap wtf, by simp [wtf], g x (List.mem_cons_self ..), r, rfl, fun y hy => g y (List.mem_cons_of_mem _ hy)⟩)
  | .inr u :: r, g => exact Or.inr (Or.inr ⟨u, r.flatMap wtf, by simp [wtf], r, rfl, fun y hy => g y (List.mem_cons_of_mem _ hy)⟩)
theorem stT {L0 D : List Slot} {v : Value} {n : Nat} (W : WT D) (hl : D.length = n + 1) (hv : v.category = 1) : ∃ D', WT D' ∧ D'.length = n ∧ storeLocals (L0 ++ D).toArray L0.length v = some (L0 ++ ([.val v] : List Slot) ++ D').toArray := by
  rcases wt_cases W with rfl | ⟨x, E, rfl, hx, WE⟩ | ⟨u, E, rfl, WE⟩
  · simp at hl
  · refine ⟨E, WE, by simpa using hl, ?_⟩
    rw [stx (o := x) (by simp) hx hv]; simp
  · refine ⟨.unset :: E, wt1 (Or.inl rfl) WE, by simpa using hl, ?_⟩
    rw [stx4 (w := u) (o2 := .second) (by simp) (by rw [List.getElem?_append_right (by omega)]; simp) hv]
    simp [List.set_append]
theorem stT2 {L0 D : List Slot} {u : Int64} {n : Nat} (W : WT D) (hl : D.length = n + 2) : ∃ D', WT D' ∧ D'.length = n ∧ storeLocals (L0 ++ D).toArray L0.length (.long u) = some (L0 ++ ([.val (.long u), .second] : List Slot) ++ D').toArray := by
  rcases wt_cases W with rfl | ⟨x, E, rfl, hx, WE⟩ | ⟨w, E, rfl, WE⟩
  · simp at hl
  · rcases wt_cases WE with rfl | ⟨y, F, rfl, hy, WF⟩ | ⟨w, F, rfl, WF⟩
    · simp at hl
    · refine ⟨F, WF, by simpa using hl, ?_⟩
      rw [stx3 (o := x) (o2 := y) (by simp) (by rw [List.getElem?_append_right (by omega)]; simp) hx hy]
      simp [List.set_append]
    · refine ⟨.unset :: F, wt1 (Or.inl rfl) WF, by simpa using hl, ?_⟩
      rw [stx5 (o := x) (w := w) (o3 := .second) (by simp) hx (by rw [List.getElem?_append_right (by omega)]; simp) (by rw [List.getElem?_append_right (by omega)]; simp)]
      simp [List.set_append]
  · refine ⟨E, WE, by simpa using hl, ?_⟩
    rw [stx2 (o := .val (.long w)) (o2 := .second) (by simp) (by rw [List.getElem?_append_right (by omega)]; simp) (Or.inr ⟨w, rfl, rfl⟩)]
    simp [List.set_append]
/-- the variables at a method's entry -/
def argL : List Value → List Slot
  | [] => []
  | v :: r => if v.category = 2 then .val v :: .second :: argL r else .val v :: argL r
def entryL (as : List Value) (n : Nat) : List Slot := argL as ++ List.replicate (n - (argL as).length) .unset
theorem argL_fold : ∀ (as : List Value) (acc : List Slot), as.foldl (fun acc v => if v.category = 2 then (acc.push (.val v)).push .second else acc.push (.val v)) acc.toArray = (acc ++ argL as).toArray
  | [], acc => by simp [argL]
  | v :: r, acc => by
    simp only [List.foldl_cons, argL]
    split
    · rename_i q
      rw [show ((acc.toArray.push (Slot.val v)).push Slot.second) = (acc ++ [Slot.val v, Slot.second]).toArray by simp, argL_fold r]
      simp
    · rename_i q
      rw [show (acc.toArray.push (Slot.val v)) = (acc ++ [Slot.val v]).toArray by simp, argL_fold r]
      simp
theorem argL_map (α b : Nat) : ∀ as : List Value, argL (cV α b as) = (argL as).map (cs α b)
  | [] => rfl
  | v :: r => by
    have ih := argL_map α b r
    simp only [cV, List.map_cons, argL, con_cat] at ih ⊢
    split <;> simp [ih, cs]
theorem entry_locals (α b : Nat) (as : List Value) (n : Nat) : argsToLocals (cV α b as).toArray n = cL α b (entryL as n) := by
  have h := argL_fold (cV α b as) []
  simp only [List.nil_append] at h
  have h' : (cV α b as).toArray.foldl (fun acc v => if v.category = 2 then (acc.push (Slot.val v)).push Slot.second else acc.push (Slot.val v)) #[] = (argL (cV α b as)).toArray := by
    rw [← h]; simp
  simp only [argsToLocals]
  rw [h', argL_map]
  simp [cL, entryL, List.map_append, cs]
/-! ## 3. What the heap shows -/
def scV (ty : FieldType) (s : S) (f : Nat) : Value := match ty with
  | .long => .long (gL s f)
  | _ => .int (gI s f)
def arV (ty : FieldType) (s : S) (q : Nat) : List Value := match ty with
  | .long => (gB s q).map .long
  | _ => (gA s q).map .int
def Ar (Z : State) (h : Heap) (a : Nat) (ty : FieldType) (vs : List Value) : Prop := ∃ c : Cell, Arr Z h a c ty ∧ c.slots = vs.toArray
def Rep1 (Z : State) (ci : CI) (h : Heap) (b : Nat) (o : Nat × S) : Prop :=
  Exa Z h b (cN ci) ∧ (∀ f x, (cS ci)[f]? = some x → Fld Z h b (cN ci) x.1 x.2.1 (scV x.2.2 o.2 f)) ∧
  (∀ q x, (cA ci)[q]? = some x → Fld Z h b (cN ci) x.1 x.2.1 (if q < o.1 then .ref (b + 1 + q) else .null)) ∧
  (∀ q x, (cA ci)[q]? = some x → q < o.1 → Ar Z h (b + 1 + q) x.2.2.1 (arV x.2.2.1 o.2 q))
def RepW (Z : State) (ci : CI) (α b : Nat) (w : W) (h : Heap) : Prop :=
  (∀ l, w.1 = some l → Ar Z h α .int (l.map .int) ∧ α < b) ∧ ∀ i o, w.2[i]? = some o → Rep1 Z ci h (b + (cK ci + 1) * i) o
def Frm (lo hi : Nat) (h0 h : Heap) : Prop := ∀ (x : Nat) (c : Cell), h0[x]? = some c → (x < lo ∨ hi ≤ x) → h[x]? = some c
def usedC (w : W) : Nat := (w.2.map fun o => 1 + o.1).sum
def usedS (ci : CI) (w : W) : Nat := (w.2.map fun o => cF ci + (((cA ci).take o.1).map fun x => x.2.2.2).sum).sum
/-- what the sheet says of the class -/
def Facts (Z : State) (a0 : Array Value) (ci : CI) : Prop :=
  (Jvm.Cond.instantiable (cN ci) (cF ci)).before a0 Z = true ∧ (Jvm.Cond.initialized (cN ci)).before a0 Z = true ∧
  (∀ (f : Nat) (x : String × String × FieldType), (cS ci)[f]? = some x → Laid Z a0 (cN ci) (cN ci) x.1 x.2.1 ∧ parseFieldDescriptor x.2.1 = some x.2.2) ∧
  (∀ (q : Nat) (x : String × String × FieldType × Nat), (cA ci)[q]? = some x → Laid Z a0 (cN ci) (cN ci) x.1 x.2.1 ∧ parseFieldDescriptor x.2.1 = some (.array x.2.2.1)) ∧
  ((cS ci).map (fun x => x.1) ++ (cA ci).map (fun x => x.1)).Nodup ∧ (∀ f x, (cS ci)[f]? = some x → defaultValue x.2.2 = scV x.2.2 s0 f) ∧ (cN ci ≠ "java/lang/invoke/MethodHandle" ∧ cN ci ≠ "java/lang/invoke/VarHandle")
theorem nq {a b : Nat} (h : a ≠ b) : @Ne Addr a b := h
theorem Ar.frm {Z : State} {h h' : Heap} {a : Nat} {ty : FieldType} {vs : List Value} (A : Ar Z h a ty vs) (k : ∀ c, h[a]? = some c → h'[a]? = some c) : Ar Z h' a ty vs := by
  obtain ⟨c, ⟨q1, q2⟩, q3⟩ := A; exact ⟨c, ⟨k c q1, q2⟩, q3⟩
theorem fld_frm {Z : State} {h h' : Heap} {a : Nat} {C n d : String} {v : Value} (F : Fld Z h a C n d v) (k : ∀ c, h[a]? = some c → h'[a]? = some c) : Fld Z h' a C n d v := by
  obtain ⟨cell, cf, kc, i, f, h1, r⟩ := F; exact ⟨cell, cf, kc, i, f, k _ h1, r⟩
theorem exa_frm {Z : State} {h h' : Heap} {a : Nat} {C : String} (F : Exa Z h a C) (k : ∀ c, h[a]? = some c → h'[a]? = some c) : Exa Z h' a C := by
  obtain ⟨cell, kc, h1, r⟩ := F; exact ⟨cell, kc, k _ h1, r⟩
theorem get_lt {A : Type} {l : List A} {i : Nat} {x : A} (h : l[i]? = some x) : i < l.length := (List.getElem?_eq_some_iff.mp h).1
theorem Rep1.frm {Z : State} {ci : CI} {h h' : Heap} {b : Nat} {o : Nat × S} (F : Rep1 Z ci h b o) (k : ∀ x c, b ≤ x → x < b + (cK ci + 1) → h[x]? = some c → h'[x]? = some c) : Rep1 Z ci h' b o := by
  obtain ⟨f1, f2, f3, f4⟩ := F
  refine ⟨exa_frm f1 fun c => k b c (Nat.le_refl _) (by omega), fun f x hx => fld_frm (f2 f x hx) fun c => k b c (Nat.le_refl _) (by omega), fun q x hx => fld_frm (f3 q x hx) fun c => k b c (Nat.le_refl _) (by omega), fun q x hx hq => (f4 q x hx hq).frm fun c => k _ c (by omega) ?_⟩
  have := get_lt hx
  simp only [cK]; omega
theorem RepW.ext {Z : State} {ci : CI} {α b : Nat} {w : W} {h h' : Heap} (F : RepW Z ci α b w h) (E : Ext h h') : RepW Z ci α b w h' :=
  ⟨fun l hl => ⟨((F.1 l hl).1).frm fun c q => E.2 _ _ q, (F.1 l hl).2⟩, fun i o ho => (F.2 i o ho).frm fun x c _ _ q => E.2 _ _ q⟩
theorem Frm.refl (lo hi : Nat) (h : Heap) : Frm lo hi h h := fun _ _ q _ => q
theorem Frm.trans {lo hi : Nat} {h0 h1 h2 : Heap} (A : Frm lo hi h0 h1) (B : Frm lo hi h1 h2) : Frm lo hi h0 h2 := fun x c q r => B x c (A x c q r) r
theorem Frm.wide {lo hi lo' hi' : Nat} {h0 h1 : Heap} (A : Frm lo hi h0 h1) (q1 : lo' ≤ lo) (q2 : hi ≤ hi') : Frm lo' hi' h0 h1 := fun x c q r => A x c q (by omega)
theorem Frm.ext {lo hi : Nat} {h0 h1 h2 : Heap} (A : Frm lo hi h0 h1) (E : Ext h1 h2) : Frm lo hi h0 h2 := fun x c q r => E.2 _ _ (A x c q r)
theorem Frm.wr {lo hi : Nat} {h0 h1 h2 : Heap} {a : Nat} {sl : Nat} {v : Value} (A : Frm lo hi h0 h1) (Wt : Wr h1 h2 a sl v) (q1 : lo ≤ a) (q2 : a < hi) : Frm lo hi h0 h2 := fun x c q r => by
  have q3 := A x c q r
  obtain ⟨c', e1, -, -, -, e5, -⟩ := wr_at Wt q3
  have : x ≠ a := by omega
  rw [← e5 this]; exact e1
/-! ## 4. The walk -/
def Ok (P : PI) (M : Meth) (Z : State) (a0 : Array Value) (p : Program) (R : Room) (s : State) (m : MethodId) (meth : Method) (c : Code) (b n0 : Nat) (h0 : Heap) (uC uS : Nat) : Prop :=
  (∀ d ∈ P.1, d.before a0 Z = true) ∧ Facts Z a0 P.2 ∧ p.tables.exec = Jvm.exec ∧ Z.Warmed39 s.vm ∧ s.vm.findClass (mY M).cls = some m.cls ∧ c.code = mB M ∧ c.maxLocals = mL M ∧ meth.sig.returnType = mT M ∧ meth.name = (mY M).name ∧ R = mR M ∧ n0 ≤ b ∧
  (mTop M = true → h0.size = b + uC ∧ uC = mUC M ∧ uS = mUS M) ∧ s.heap.size = h0.size
def Inv (P : PI) (M : Meth) (l : Launch) (Z : State) (p : Program) (e : Env) (R : Room) (s : State) (m : MethodId) (args : Array Value) (below : List Frame) (meth : Method) (c : Code) (α b n0 : Nat) (h0 : Heap) (uC uS : Nat) (w : W) (T : State) (locs : List Loc) (cells slots : Nat) : Prop :=
  Stand p l e R s m args below meth c T locs cells slots ∧ RepW Z P.2 α b w T.heap ∧ Frm b (b + (cK P.2 + 1) * mN M) h0 T.heap ∧ Fr n0 locs ∧ T.heap.size = h0.size + cells ∧ cells + uC = usedC w ∧ slots + uS = usedS P.2 w ∧ cells ≤ R.cells ∧ slots ≤ R.slots ∧ w.2.length ≤ mN M
def Lv (e : Env) (T : State) (m : MethodId) (r : Option Value) (fs : List Frame) : Prop := ∀ (f : JFrame) (acts : List Action), f.method = m → f.locked = none → f.entered = [] → (doReturn e (T.setTop f) acts r).1 = T.setFrames fs
/-- from here the invocation comes to its end, with this value and this world -/
def Go (P : PI) (M : Meth) (pc : Nat) (L : List Slot) (st : List Value) (w : W) (out : Option Value × W) : Prop :=
  L.length = mL M → ∀ (l : Launch) (Z : State) (a0 : Array Value) (p : Program) (e : Env) (R : Room) (s : State) (m : MethodId) (args : Array Value) (below : List Frame) (meth : Method) (c : Code) (α b n0 : Nat) (h0 : Heap) (uC uS : Nat),
    Ok P M Z a0 p R s m meth c b n0 h0 uC uS → ∀ (T : State) (locs : List Loc) (cells slots : Nat), Inv P M l Z p e R s m args below meth c α b n0 h0 uC uS w T locs cells slots →
    ∃ (T' : State) (locs' : List Loc) (cells' slots' : Nat), Inv P M l Z p e R s m args below meth c α b n0 h0 uC uS out.2 T' locs' cells' slots' ∧
      ∀ fs, Lv e T' m (out.1.map (con α b)) fs → Steps p.tables e below (T.setTop (mkF m pc (cL α b L) (cV α b st))) (T'.setFrames fs)
section Rules
variable {P : PI} {M : Meth} {pc pc' : Nat} {L L' : List Slot} {st st' : List Value} {w w' : W} {out : Option Value × W} {x y z v : Int32} {u r : Int64}
theorem go_mv (hL : L.length = mL M → L'.length = mL M)
    (H : ∀ {p : Program} {e : Env} {below : List Frame} {T target : State} {m : MethodId} {c : Code}, At T m c below → p.tables.exec = Jvm.exec → c.code = mB M → ∀ α b : Nat, Steps p.tables e below (T.setTop (mkF m pc' (cL α b L') (cV α b st'))) target → Steps p.tables e below (T.setTop (mkF m pc (cL α b L) (cV α b st))) target)
    (k : Go P M pc' L' st' w out) : Go P M pc L st w out := by
  intro hl l Z a0 p e R s m args below meth c α b n0 h0 uC uS ok T locs cells slots I
  obtain ⟨T', l', c', n', I', fin⟩ := k (hL hl) l Z a0 p e R s m args below meth c α b n0 h0 uC uS ok T locs cells slots I
  exact ⟨T', l', c', n', I', fun fs hv => H I.1.here ok.2.2.1 ok.2.2.2.2.2.1 α b (fin fs hv)⟩
theorem go_ch (H : ∀ (l : Launch) (Z : State) (a0 : Array Value) (p : Program) (e : Env) (R : Room) (s : State) (m : MethodId) (args : Array Value) (below : List Frame) (meth : Method) (c : Code) (α b n0 : Nat) (h0 : Heap) (uC uS : Nat),
      Ok P M Z a0 p R s m meth c b n0 h0 uC uS → L.length = mL M → ∀ (T : State) (locs : List Loc) (cells slots : Nat), Inv P M l Z p e R s m args below meth c α b n0 h0 uC uS w T locs cells slots →
      ∃ (T' : State) (locs' : List Loc) (cells' slots' : Nat), Inv P M l Z p e R s m args below meth c α b n0 h0 uC uS w' T' locs' cells' slots' ∧
        ∀ target, Steps p.tables e below (T'.setTop (mkF m pc' (cL α b L) (cV α b st'))) target → Steps p.tables e below (T.setTop (mkF m pc (cL α b L) (cV α b st))) target)
    (k : Go P M pc' L st' w' out) : Go P M pc L st w out := by
  intro hl l Z a0 p e R s m args below meth c α b n0 h0 uC uS ok T locs cells slots I
  obtain ⟨T1, l1, c1, n1, I1, h1⟩ := H l Z a0 p e R s m args below meth c α b n0 h0 uC uS ok hl T locs cells slots I
  obtain ⟨T', l', c', n', I', fin⟩ := k hl l Z a0 p e R s m args below meth c α b n0 h0 uC uS ok T1 l1 c1 n1 I1
  exact ⟨T', l', c', n', I', fun fs hv => h1 _ (fin fs hv)⟩
/-! ### loads, stores, constants -/
theorem go_iloadN {k : Fin 4} (d : decode (mB M) pc = .ok (.iload_n k, 1)) (hl : L[k.val]? = some (.val (.int v))) (g : Go P M (pc + 1) L (.int v :: st) w out) : Go P M pc L (st) w out :=
  go_mv id (fun h hx hc α b r => XS.iloadN (g := mkF _ pc (cL α b L) (cV α b (st))) h hx rfl (hb hc d) (cL_get hl) r) g
theorem go_iload {k : Nat} (d : decode (mB M) pc = .ok (.iload k, 2)) (hl : L[k]? = some (.val (.int v))) (g : Go P M (pc + 2) L (.int v :: st) w out) : Go P M pc L (st) w out :=
  go_mv id (fun h hx hc α b r => XS.iload (g := mkF _ pc (cL α b L) (cV α b (st))) h hx rfl (hb hc d) (cL_get hl) r) g
theorem go_lloadN {k : Fin 4} (d : decode (mB M) pc = .ok (.lload_n k, 1)) (hl : L[k.val]? = some (.val (.long u))) (g : Go P M (pc + 1) L (.long u :: st) w out) : Go P M pc L (st) w out :=
  go_mv id (fun h hx hc α b r => XT.lloadN (g := mkF _ pc (cL α b L) (cV α b (st))) h hx rfl (hb hc d) (cL_get hl) r) g
theorem go_lload {k : Nat} (d : decode (mB M) pc = .ok (.lload k, 2)) (hl : L[k]? = some (.val (.long u))) (g : Go P M (pc + 2) L (.long u :: st) w out) : Go P M pc L (st) w out :=
  go_mv id (fun h hx hc α b r => XT.lload (g := mkF _ pc (cL α b L) (cV α b (st))) h hx rfl (hb hc d) (cL_get hl) r) g
theorem go_aloadN {k : Fin 4} {a : Nat} (d : decode (mB M) pc = .ok (.aload_n k, 1)) (hl : L[k.val]? = some (.val (.ref a))) (g : Go P M (pc + 1) L (.ref a :: st) w out) : Go P M pc L (st) w out :=
  go_mv id (fun h hx hc α b r => XS.aloadN (g := mkF _ pc (cL α b L) (cV α b (st))) h hx rfl (hb hc d) (cL_get hl) (con_ref α b (.ref a)) r) g
theorem go_aload {k : Nat} {a : Nat} (d : decode (mB M) pc = .ok (.aload k, 2)) (hl : L[k]? = some (.val (.ref a))) (g : Go P M (pc + 2) L (.ref a :: st) w out) : Go P M pc L (st) w out :=
  go_mv id (fun h hx hc α b r => XS.aload (g := mkF _ pc (cL α b L) (cV α b (st))) h hx rfl (hb hc d) (cL_get hl) (con_ref α b (.ref a)) r) g
theorem go_istoreN {k : Fin 4} (d : decode (mB M) pc = .ok (.istore_n k, 1)) (hl : storeLocals L.toArray k.val (.int x) = some L'.toArray) (g : Go P M (pc + 1) L' (st) w out) : Go P M pc L (.int x :: st) w out :=
  go_mv (fun q => by have := store_size hl; simp at this; omega) (fun h hx hc α b r => XS.istoreN (g := mkF _ pc (cL α b L) (cV α b (.int x :: st))) h hx rfl (hb hc d) rfl (storeC hl) r) g
theorem go_istore {k : Nat} (d : decode (mB M) pc = .ok (.istore k, 2)) (hl : storeLocals L.toArray k (.int x) = some L'.toArray) (g : Go P M (pc + 2) L' (st) w out) : Go P M pc L (.int x :: st) w out :=
  go_mv (fun q => by have := store_size hl; simp at this; omega) (fun h hx hc α b r => XS.istore (g := mkF _ pc (cL α b L) (cV α b (.int x :: st))) h hx rfl (hb hc d) rfl (storeC hl) r) g
theorem go_lstoreN {k : Fin 4} (d : decode (mB M) pc = .ok (.lstore_n k, 1)) (hl : storeLocals L.toArray k.val (.long u) = some L'.toArray) (g : Go P M (pc + 1) L' (st) w out) : Go P M pc L (.long u :: st) w out :=
  go_mv (fun q => by have := store_size hl; simp at this; omega) (fun h hx hc α b r => XT.lstoreN (g := mkF _ pc (cL α b L) (cV α b (.long u :: st))) h hx rfl (hb hc d) rfl (storeC hl) r) g
theorem go_lstore {k : Nat} (d : decode (mB M) pc = .ok (.lstore k, 2)) (hl : storeLocals L.toArray k (.long u) = some L'.toArray) (g : Go P M (pc + 2) L' (st) w out) : Go P M pc L (.long u :: st) w out :=
  go_mv (fun q => by have := store_size hl; simp at this; omega) (fun h hx hc α b r => XT.lstore (g := mkF _ pc (cL α b L) (cV α b (.long u :: st))) h hx rfl (hb hc d) rfl (storeC hl) r) g
theorem go_astoreN {k : Fin 4} {a : Nat} (d : decode (mB M) pc = .ok (.astore_n k, 1)) (hl : storeLocals L.toArray k.val (.ref a) = some L'.toArray) (g : Go P M (pc + 1) L' (st) w out) : Go P M pc L (.ref a :: st) w out :=
  go_mv (fun q => by have := store_size hl; simp at this; omega) (fun h hx hc α b r => XS.astoreN (g := mkF _ pc (cL α b L) (cV α b (.ref a :: st))) h hx rfl (hb hc d) rfl (con_ref α b (.ref a)) (storeC hl) r) g
theorem go_astore {k : Nat} {a : Nat} (d : decode (mB M) pc = .ok (.astore k, 2)) (hl : storeLocals L.toArray k (.ref a) = some L'.toArray) (g : Go P M (pc + 2) L' (st) w out) : Go P M pc L (.ref a :: st) w out :=
  go_mv (fun q => by have := store_size hl; simp at this; omega) (fun h hx hc α b r => XS.astore (g := mkF _ pc (cL α b L) (cV α b (.ref a :: st))) h hx rfl (hb hc d) rfl (con_ref α b (.ref a)) (storeC hl) r) g
theorem go_istoreNT {k : Fin 4} {L0 L1 D : List Slot} {n : Nat} (d : decode (mB M) pc = .ok (.istore_n k, 1)) (hk : k.val = L0.length) (h1 : L1 = L0 ++ [.val (.int x)]) (W : WT D) (hl : D.length = n + 1) (g : ∀ D', WT D' → D'.length = n → Go P M (pc + 1) (L1 ++ D') st w out) : Go P M pc (L0 ++ D) (.int x :: st) w out := by
  obtain ⟨D', W', l', e⟩ := stT (L0 := L0) (v := .int x) W hl rfl
  subst h1
  exact go_istoreN d (by rw [hk]; exact e) (g D' W' l')
theorem nilT {Q : List Slot → Prop} (g : Q []) : ∀ D', WT D' → D'.length = 0 → Q D' := fun D' _ l => by
  cases D' with
  | nil => exact g
  | cons => cases l
theorem go_istoreT {k : Nat} {L0 L1 D : List Slot} {n : Nat} (d : decode (mB M) pc = .ok (.istore k, 2)) (hk : k = L0.length) (h1 : L1 = L0 ++ [.val (.int x)]) (W : WT D) (hl : D.length = n + 1) (g : ∀ D', WT D' → D'.length = n → Go P M (pc + 2) (L1 ++ D') st w out) : Go P M pc (L0 ++ D) (.int x :: st) w out := by
  obtain ⟨D', W', l', e⟩ := stT (L0 := L0) (v := .int x) W hl rfl
  subst h1
  exact go_istore d (by rw [hk]; exact e) (g D' W' l')
theorem go_astoreNT {k : Fin 4} {L0 L1 D : List Slot} {n : Nat} {a : Nat} (d : decode (mB M) pc = .ok (.astore_n k, 1)) (hk : k.val = L0.length) (h1 : L1 = L0 ++ [.val (.ref a)]) (W : WT D) (hl : D.length = n + 1) (g : ∀ D', WT D' → D'.length = n → Go P M (pc + 1) (L1 ++ D') st w out) : Go P M pc (L0 ++ D) (.ref a :: st) w out := by
  obtain ⟨D', W', l', e⟩ := stT (L0 := L0) (v := .ref a) W hl rfl
  subst h1
  exact go_astoreN d (by rw [hk]; exact e) (g D' W' l')
theorem go_astoreT {k : Nat} {L0 L1 D : List Slot} {n : Nat} {a : Nat} (d : decode (mB M) pc = .ok (.astore k, 2)) (hk : k = L0.length) (h1 : L1 = L0 ++ [.val (.ref a)]) (W : WT D) (hl : D.length = n + 1) (g : ∀ D', WT D' → D'.length = n → Go P M (pc + 2) (L1 ++ D') st w out) : Go P M pc (L0 ++ D) (.ref a :: st) w out := by
  obtain ⟨D', W', l', e⟩ := stT (L0 := L0) (v := .ref a) W hl rfl
  subst h1
  exact go_astore d (by rw [hk]; exact e) (g D' W' l')
theorem go_lstoreNT {k : Fin 4} {L0 L1 D : List Slot} {n : Nat} (d : decode (mB M) pc = .ok (.lstore_n k, 1)) (hk : k.val = L0.length) (h1 : L1 = L0 ++ [.val (.long u), .second]) (W : WT D) (hl : D.length = n + 2) (g : ∀ D', WT D' → D'.length = n → Go P M (pc + 1) (L1 ++ D') st w out) : Go P M pc (L0 ++ D) (.long u :: st) w out := by
  obtain ⟨D', W', l', e⟩ := stT2 (L0 := L0) (u := u) W hl
  subst h1
  exact go_lstoreN d (by rw [hk]; exact e) (g D' W' l')
theorem go_lstoreT {k : Nat} {L0 L1 D : List Slot} {n : Nat} (d : decode (mB M) pc = .ok (.lstore k, 2)) (hk : k = L0.length) (h1 : L1 = L0 ++ [.val (.long u), .second]) (W : WT D) (hl : D.length = n + 2) (g : ∀ D', WT D' → D'.length = n → Go P M (pc + 2) (L1 ++ D') st w out) : Go P M pc (L0 ++ D) (.long u :: st) w out := by
  obtain ⟨D', W', l', e⟩ := stT2 (L0 := L0) (u := u) W hl
  subst h1
  exact go_lstore d (by rw [hk]; exact e) (g D' W' l')
theorem go_iconst {i : Int} (d : decode (mB M) pc = .ok (.iconst i, 1)) (hv : v = Int32.ofInt i) (g : Go P M (pc + 1) L (.int v :: st) w out) : Go P M pc L (st) w out :=
  go_mv id (fun h hx hc α b r => XS.iconst (g := mkF _ pc (cL α b L) (cV α b (st))) h hx rfl (hb hc d) (hv ▸ r)) g
theorem go_bipush {i : Int} (d : decode (mB M) pc = .ok (.bipush i, 2)) (hv : v = (Int8.ofInt i).toInt32) (g : Go P M (pc + 2) L (.int v :: st) w out) : Go P M pc L (st) w out :=
  go_mv id (fun h hx hc α b r => XS.bipush (g := mkF _ pc (cL α b L) (cV α b (st))) h hx rfl (hb hc d) (hv ▸ r)) g
theorem go_sipush {i : Int} (d : decode (mB M) pc = .ok (.sipush i, 3)) (hv : v = (Int16.ofInt i).toInt32) (g : Go P M (pc + 3) L (.int v :: st) w out) : Go P M pc L (st) w out :=
  go_mv id (fun h hx hc α b r => XS.sipush (g := mkF _ pc (cL α b L) (cV α b (st))) h hx rfl (hb hc d) (hv ▸ r)) g
theorem go_lconst {i : Fin 2} (d : decode (mB M) pc = .ok (.lconst i, 1)) (hv : u = Int64.ofNat i) (g : Go P M (pc + 1) L (.long u :: st) w out) : Go P M pc L (st) w out :=
  go_mv id (fun h hx hc α b r => XT.lconst (g := mkF _ pc (cL α b L) (cV α b (st))) h hx rfl (hb hc d) (hv ▸ r)) g
theorem go_dup  (d : decode (mB M) pc = .ok (.dup, 1))  (g : Go P M (pc + 1) L (.int x :: .int x :: st) w out) : Go P M pc L (.int x :: st) w out :=
  go_mv id (fun h hx hc α b r => XS.dup (g := mkF _ pc (cL α b L) (cV α b (.int x :: st))) h hx rfl (hb hc d) rfl rfl r) g
theorem go_dupR {a : Nat} (d : decode (mB M) pc = .ok (.dup, 1))  (g : Go P M (pc + 1) L (.ref a :: .ref a :: st) w out) : Go P M pc L (.ref a :: st) w out :=
  go_mv id (fun h hx hc α b r => XS.dup (g := mkF _ pc (cL α b L) (cV α b (.ref a :: st))) h hx rfl (hb hc d) rfl (con_cat α b (.ref a)) r) g
theorem go_dup2 {a : Nat} (d : decode (mB M) pc = .ok (.dup2, 1))  (g : Go P M (pc + 1) L (.int x :: .ref a :: .int x :: .ref a :: st) w out) : Go P M pc L (.int x :: .ref a :: st) w out :=
  go_mv id (fun h hx hc α b r => XT.dup2 (g := mkF _ pc (cL α b L) (cV α b (.int x :: .ref a :: st))) h hx rfl (hb hc d) rfl rfl (con_cat α b (.ref a)) r) g
theorem go_dup2I  (d : decode (mB M) pc = .ok (.dup2, 1))  (g : Go P M (pc + 1) L (.int x :: .int y :: .int x :: .int y :: st) w out) : Go P M pc L (.int x :: .int y :: st) w out :=
  go_mv id (fun h hx hc α b r => XT.dup2 (g := mkF _ pc (cL α b L) (cV α b (.int x :: .int y :: st))) h hx rfl (hb hc d) rfl rfl rfl r) g
theorem go_dup2L  (d : decode (mB M) pc = .ok (.dup2, 1))  (g : Go P M (pc + 1) L (.long u :: .long u :: st) w out) : Go P M pc L (.long u :: st) w out :=
  go_mv id (fun h hx hc α b r => XT.dup2L (g := mkF _ pc (cL α b L) (cV α b (.long u :: st))) h hx rfl (hb hc d) rfl r) g
theorem go_pop  (d : decode (mB M) pc = .ok (.pop, 1))  (g : Go P M (pc + 1) L (st) w out) : Go P M pc L (.int x :: st) w out :=
  go_mv id (fun h hx hc α b r => XT.pop (g := mkF _ pc (cL α b L) (cV α b (.int x :: st))) h hx rfl (hb hc d) rfl rfl r) g
theorem go_iadd  (d : decode (mB M) pc = .ok (.iadd, 1))  (g : Go P M (pc + 1) L (.int (x + y) :: st) w out) : Go P M pc L (.int y :: .int x :: st) w out :=
  go_mv id (fun h hx hc α b r => XS.iadd (g := mkF _ pc (cL α b L) (cV α b (.int y :: .int x :: st))) h hx rfl (hb hc d) rfl r) g
theorem go_isub  (d : decode (mB M) pc = .ok (.isub, 1))  (g : Go P M (pc + 1) L (.int (x - y) :: st) w out) : Go P M pc L (.int y :: .int x :: st) w out :=
  go_mv id (fun h hx hc α b r => XS.isub (g := mkF _ pc (cL α b L) (cV α b (.int y :: .int x :: st))) h hx rfl (hb hc d) rfl r) g
theorem go_imul  (d : decode (mB M) pc = .ok (.imul, 1))  (g : Go P M (pc + 1) L (.int (x * y) :: st) w out) : Go P M pc L (.int y :: .int x :: st) w out :=
  go_mv id (fun h hx hc α b r => XS.imul (g := mkF _ pc (cL α b L) (cV α b (.int y :: .int x :: st))) h hx rfl (hb hc d) rfl r) g
theorem go_iand  (d : decode (mB M) pc = .ok (.iand, 1))  (g : Go P M (pc + 1) L (.int (x &&& y) :: st) w out) : Go P M pc L (.int y :: .int x :: st) w out :=
  go_mv id (fun h hx hc α b r => XS.iand (g := mkF _ pc (cL α b L) (cV α b (.int y :: .int x :: st))) h hx rfl (hb hc d) rfl r) g
theorem go_ior  (d : decode (mB M) pc = .ok (.ior, 1))  (g : Go P M (pc + 1) L (.int (x ||| y) :: st) w out) : Go P M pc L (.int y :: .int x :: st) w out :=
  go_mv id (fun h hx hc α b r => XT.ior (g := mkF _ pc (cL α b L) (cV α b (.int y :: .int x :: st))) h hx rfl (hb hc d) rfl r) g
theorem go_ixor  (d : decode (mB M) pc = .ok (.ixor, 1))  (g : Go P M (pc + 1) L (.int (x ^^^ y) :: st) w out) : Go P M pc L (.int y :: .int x :: st) w out :=
  go_mv id (fun h hx hc α b r => XT.ixor (g := mkF _ pc (cL α b L) (cV α b (.int y :: .int x :: st))) h hx rfl (hb hc d) rfl r) g
theorem go_ishl  (d : decode (mB M) pc = .ok (.ishl, 1))  (g : Go P M (pc + 1) L (.int (x <<< (y &&& 31)) :: st) w out) : Go P M pc L (.int y :: .int x :: st) w out :=
  go_mv id (fun h hx hc α b r => XT.ishl (g := mkF _ pc (cL α b L) (cV α b (.int y :: .int x :: st))) h hx rfl (hb hc d) rfl r) g
theorem go_ishr  (d : decode (mB M) pc = .ok (.ishr, 1))  (g : Go P M (pc + 1) L (.int (x >>> (y &&& 31)) :: st) w out) : Go P M pc L (.int y :: .int x :: st) w out :=
  go_mv id (fun h hx hc α b r => XT.ishr (g := mkF _ pc (cL α b L) (cV α b (.int y :: .int x :: st))) h hx rfl (hb hc d) rfl r) g
theorem go_iushr  (d : decode (mB M) pc = .ok (.iushr, 1))  (g : Go P M (pc + 1) L (.int (XT.ushr x y) :: st) w out) : Go P M pc L (.int y :: .int x :: st) w out :=
  go_mv id (fun h hx hc α b r => XT.iushr (g := mkF _ pc (cL α b L) (cV α b (.int y :: .int x :: st))) h hx rfl (hb hc d) rfl r) g
theorem go_idiv  (d : decode (mB M) pc = .ok (.idiv, 1)) (hy : y ≠ 0) (g : Go P M (pc + 1) L (.int (x / y) :: st) w out) : Go P M pc L (.int y :: .int x :: st) w out :=
  go_mv id (fun h hx hc α b r => XS.idiv (g := mkF _ pc (cL α b L) (cV α b (.int y :: .int x :: st))) h hx rfl (hb hc d) rfl hy r) g
theorem go_irem  (d : decode (mB M) pc = .ok (.irem, 1)) (hy : y ≠ 0) (g : Go P M (pc + 1) L (.int (x % y) :: st) w out) : Go P M pc L (.int y :: .int x :: st) w out :=
  go_mv id (fun h hx hc α b r => XS.irem (g := mkF _ pc (cL α b L) (cV α b (.int y :: .int x :: st))) h hx rfl (hb hc d) rfl hy (by rw [irem_eq_mod x y]; exact r)) g
theorem go_ineg  (d : decode (mB M) pc = .ok (.ineg, 1))  (g : Go P M (pc + 1) L (.int (-x) :: st) w out) : Go P M pc L (.int x :: st) w out :=
  go_mv id (fun h hx hc α b r => XS.ineg (g := mkF _ pc (cL α b L) (cV α b (.int x :: st))) h hx rfl (hb hc d) rfl r) g
theorem go_ladd  (d : decode (mB M) pc = .ok (.ladd, 1))  (g : Go P M (pc + 1) L (.long (u + r) :: st) w out) : Go P M pc L (.long r :: .long u :: st) w out :=
  go_mv id (fun h hx hc α b k => XT.ladd (g := mkF _ pc (cL α b L) (cV α b (.long r :: .long u :: st))) h hx rfl (hb hc d) rfl k) g
theorem go_lsub  (d : decode (mB M) pc = .ok (.lsub, 1))  (g : Go P M (pc + 1) L (.long (u - r) :: st) w out) : Go P M pc L (.long r :: .long u :: st) w out :=
  go_mv id (fun h hx hc α b k => XT.lsub (g := mkF _ pc (cL α b L) (cV α b (.long r :: .long u :: st))) h hx rfl (hb hc d) rfl k) g
theorem go_lmul  (d : decode (mB M) pc = .ok (.lmul, 1))  (g : Go P M (pc + 1) L (.long (u * r) :: st) w out) : Go P M pc L (.long r :: .long u :: st) w out :=
  go_mv id (fun h hx hc α b k => XT.lmul (g := mkF _ pc (cL α b L) (cV α b (.long r :: .long u :: st))) h hx rfl (hb hc d) rfl k) g
theorem go_land  (d : decode (mB M) pc = .ok (.land, 1))  (g : Go P M (pc + 1) L (.long (u &&& r) :: st) w out) : Go P M pc L (.long r :: .long u :: st) w out :=
  go_mv id (fun h hx hc α b k => XT.land (g := mkF _ pc (cL α b L) (cV α b (.long r :: .long u :: st))) h hx rfl (hb hc d) rfl k) g
theorem go_lor  (d : decode (mB M) pc = .ok (.lor, 1))  (g : Go P M (pc + 1) L (.long (u ||| r) :: st) w out) : Go P M pc L (.long r :: .long u :: st) w out :=
  go_mv id (fun h hx hc α b k => XT.lor (g := mkF _ pc (cL α b L) (cV α b (.long r :: .long u :: st))) h hx rfl (hb hc d) rfl k) g
theorem go_lxor  (d : decode (mB M) pc = .ok (.lxor, 1))  (g : Go P M (pc + 1) L (.long (u ^^^ r) :: st) w out) : Go P M pc L (.long r :: .long u :: st) w out :=
  go_mv id (fun h hx hc α b k => XT.lxor (g := mkF _ pc (cL α b L) (cV α b (.long r :: .long u :: st))) h hx rfl (hb hc d) rfl k) g
theorem go_lshl  (d : decode (mB M) pc = .ok (.lshl, 1))  (g : Go P M (pc + 1) L (.long (u <<< (y.toInt64 &&& 63)) :: st) w out) : Go P M pc L (.int y :: .long u :: st) w out :=
  go_mv id (fun h hx hc α b r => XT.lshl (g := mkF _ pc (cL α b L) (cV α b (.int y :: .long u :: st))) h hx rfl (hb hc d) rfl r) g
theorem go_lshr  (d : decode (mB M) pc = .ok (.lshr, 1))  (g : Go P M (pc + 1) L (.long (u >>> (y.toInt64 &&& 63)) :: st) w out) : Go P M pc L (.int y :: .long u :: st) w out :=
  go_mv id (fun h hx hc α b r => XT.lshr (g := mkF _ pc (cL α b L) (cV α b (.int y :: .long u :: st))) h hx rfl (hb hc d) rfl r) g
theorem go_lushr  (d : decode (mB M) pc = .ok (.lushr, 1))  (g : Go P M (pc + 1) L (.long (XT.ushrL u y) :: st) w out) : Go P M pc L (.int y :: .long u :: st) w out :=
  go_mv id (fun h hx hc α b r => XT.lushr (g := mkF _ pc (cL α b L) (cV α b (.int y :: .long u :: st))) h hx rfl (hb hc d) rfl r) g
theorem go_lcmp  (d : decode (mB M) pc = .ok (.lcmp, 1))  (g : Go P M (pc + 1) L (.int (XT.cmpL u r) :: st) w out) : Go P M pc L (.long r :: .long u :: st) w out :=
  go_mv id (fun h hx hc α b k => XT.lcmp (g := mkF _ pc (cL α b L) (cV α b (.long r :: .long u :: st))) h hx rfl (hb hc d) rfl k) g
theorem go_i2l  (d : decode (mB M) pc = .ok (.i2l, 1))  (g : Go P M (pc + 1) L (.long x.toInt64 :: st) w out) : Go P M pc L (.int x :: st) w out :=
  go_mv id (fun h hx hc α b r => XT.i2l (g := mkF _ pc (cL α b L) (cV α b (.int x :: st))) h hx rfl (hb hc d) rfl r) g
theorem go_l2i  (d : decode (mB M) pc = .ok (.l2i, 1))  (g : Go P M (pc + 1) L (.int u.toInt32 :: st) w out) : Go P M pc L (.long u :: st) w out :=
  go_mv id (fun h hx hc α b r => XT.l2i (g := mkF _ pc (cL α b L) (cV α b (.long u :: st))) h hx rfl (hb hc d) rfl r) g
theorem go_i2b  (d : decode (mB M) pc = .ok (.i2b, 1))  (g : Go P M (pc + 1) L (.int x.toInt8.toInt32 :: st) w out) : Go P M pc L (.int x :: st) w out :=
  go_mv id (fun h hx hc α b r => XT.i2b (g := mkF _ pc (cL α b L) (cV α b (.int x :: st))) h hx rfl (hb hc d) rfl r) g
theorem go_iinc {k : Nat} {i : Int} (d : decode (mB M) pc = .ok (.iinc k i, 3)) (h1 : L[k]? = some (.val (.int x))) (hv : v = Int32.ofInt i) (hl : storeLocals L.toArray k (.int (x + v)) = some L'.toArray) (g : Go P M (pc + 3) L' (st) w out) : Go P M pc L (st) w out :=
  by subst hv; exact go_mv (fun q => by have := store_size hl; simp at this; omega) (fun h hx hc α b r => XS.iinc (g := mkF _ pc (cL α b L) (cV α b (st))) h hx rfl (hb hc d) (cL_get h1) (storeC hl) r) g
theorem go_goto {o : Int} (d : decode (mB M) pc = .ok (.goto o, 3)) (hp : 0 ≤ (pc : Int) + o ∧ ((pc : Int) + o).toNat = pc') (g : Go P M pc' L (st) w out) : Go P M pc L (st) w out :=
  go_mv id (fun h hx hc α b r => XS.goto (g := mkF _ pc (cL α b L) (cV α b (st))) h hx rfl rfl (hb hc d) hp.1 hp.2 r) g
theorem go_ifY {cd : ClassFile.Cond} {o : Int} (d : decode (mB M) pc = .ok (.ifCond cd o, 3)) (hq : ifCond.holds cd x = true) (hp : 0 ≤ (pc : Int) + o ∧ ((pc : Int) + o).toNat = pc') (g : Go P M pc' L (st) w out) : Go P M pc L (.int x :: st) w out :=
  go_mv id (fun h hx hc α b r => XS.ifYes (g := mkF _ pc (cL α b L) (cV α b (.int x :: st))) h hx rfl rfl (hb hc d) rfl hq hp.1 hp.2 r) g
theorem go_ifN {cd : ClassFile.Cond} {o : Int} (d : decode (mB M) pc = .ok (.ifCond cd o, 3)) (hq : ifCond.holds cd x = false) (g : Go P M (pc + 3) L (st) w out) : Go P M pc L (.int x :: st) w out :=
  go_mv id (fun h hx hc α b r => XS.ifNo (g := mkF _ pc (cL α b L) (cV α b (.int x :: st))) h hx rfl (hb hc d) rfl hq r) g
theorem go_icY {cd : ClassFile.Cond} {o : Int} (d : decode (mB M) pc = .ok (.if_icmp cd o, 3)) (hq : if_icmp.holds cd x y = true) (hp : 0 ≤ (pc : Int) + o ∧ ((pc : Int) + o).toNat = pc') (g : Go P M pc' L (st) w out) : Go P M pc L (.int y :: .int x :: st) w out :=
  go_mv id (fun h hx hc α b r => XS.icmpYes (g := mkF _ pc (cL α b L) (cV α b (.int y :: .int x :: st))) h hx rfl rfl (hb hc d) rfl hq hp.1 hp.2 r) g
theorem go_icN {cd : ClassFile.Cond} {o : Int} (d : decode (mB M) pc = .ok (.if_icmp cd o, 3)) (hq : if_icmp.holds cd x y = false) (g : Go P M (pc + 3) L (st) w out) : Go P M pc L (.int y :: .int x :: st) w out :=
  go_mv id (fun h hx hc α b r => XS.icmpNo (g := mkF _ pc (cL α b L) (cV α b (.int y :: .int x :: st))) h hx rfl (hb hc d) rfl hq r) g
theorem go_nonnull {o : Int} (d : decode (mB M) pc = .ok (.ifnonnull o, 3)) (hp : 0 ≤ (pc : Int) + o ∧ ((pc : Int) + o).toNat = pc') (g : Go P M pc' L st w out) : Go P M pc L (.ref 0 :: st) w out :=
  go_mv id (fun h hx hc α b r => XT.ifnonnullYes (g := mkF _ pc (cL α b L) (cV α b (.ref 0 :: st))) (b := α) h hx rfl rfl (hb hc d) rfl hp.1 hp.2 r) g
theorem go_tswIn {dflt low high : Int} {offs : Array Int} {len : Nat} {o : Int} (d : decode (mB M) pc = .ok (.tableswitch dflt low high offs, len)) (hin : ¬ (x.toInt < low ∨ x.toInt > high)) (hoff : offs[(x.toInt - low).toNat]? = some o) (hp : 0 ≤ (pc : Int) + o ∧ ((pc : Int) + o).toNat = pc') (g : Go P M pc' L st w out) : Go P M pc L (.int x :: st) w out :=
  go_mv id (fun h hx hc α b r => XS.tswIn (g := mkF _ pc (cL α b L) (cV α b (.int x :: st))) h hx rfl rfl (hb hc d) rfl hin hoff hp.1 hp.2 r) g
theorem go_top {x y : Int32} (h : x = y) (g : Go P M pc L (.int y :: st) w out) : Go P M pc L (.int x :: st) w out := by rw [h]; exact g
theorem go_tswOut {dflt low high : Int} {offs : Array Int} {len : Nat} (d : decode (mB M) pc = .ok (.tableswitch dflt low high offs, len)) (hout : x.toInt < low ∨ x.toInt > high) (hp : 0 ≤ (pc : Int) + dflt ∧ ((pc : Int) + dflt).toNat = pc') (g : Go P M pc' L st w out) : Go P M pc L (.int x :: st) w out :=
  go_mv id (fun h hx hc α b r => XS.tswOut (g := mkF _ pc (cL α b L) (cV α b (.int x :: st))) h hx rfl rfl (hb hc d) rfl hout hp.1 hp.2 r) g
/-! ### constants of the pool -/
theorem go_ldc {k : Nat} (d : decode (mB M) pc = .ok (.ldc k, 2)) (hk : Jvm.Cond.constant (mY M).cls k v ∈ P.1) (g : Go P M (pc + 2) L (.int v :: st) w out) : Go P M pc L st w out :=
  go_ch (fun l Z a0 p e R s m args below meth c α b n0 h0 uC uS ok hl T locs cells slots I => ⟨T, locs, cells, slots, I, fun target r => Stand.ldcI (g := mkF m pc (cL α b L) (cV α b st)) I.1 ok.2.2.1 ok.2.2.2.2.1 (mvT ok.2.2.2.1 (ok.1 _ hk)) rfl (hb ok.2.2.2.2.2.1 d) r⟩) g
theorem go_ldcW {k : Nat} (d : decode (mB M) pc = .ok (.ldc_w k, 3)) (hk : Jvm.Cond.constant (mY M).cls k v ∈ P.1) (g : Go P M (pc + 3) L (.int v :: st) w out) : Go P M pc L st w out :=
  go_ch (fun l Z a0 p e R s m args below meth c α b n0 h0 uC uS ok hl T locs cells slots I => ⟨T, locs, cells, slots, I, fun target r => Stand.ldcWI (g := mkF m pc (cL α b L) (cV α b st)) I.1 ok.2.2.1 ok.2.2.2.2.1 (mvT ok.2.2.2.1 (ok.1 _ hk)) rfl (hb ok.2.2.2.2.2.1 d) r⟩) g
theorem go_ldc2 {k : Nat} (d : decode (mB M) pc = .ok (.ldc2_w k, 3)) (hk : Jvm.Cond.constantLong (mY M).cls k u ∈ P.1) (g : Go P M (pc + 3) L (.long u :: st) w out) : Go P M pc L st w out :=
  go_ch (fun l Z a0 p e R s m args below meth c α b n0 h0 uC uS ok hl T locs cells slots I => ⟨T, locs, cells, slots, I, fun target r => Stand.ldc2J (g := mkF m pc (cL α b L) (cV α b st)) I.1 ok.2.2.1 ok.2.2.2.2.1 (mvT ok.2.2.2.1 (ok.1 _ hk)) rfl (hb ok.2.2.2.2.2.1 d) r⟩) g
/-! ### returns -/
theorem go_iret (hT : mT M = some .int) (d : decode (mB M) pc = .ok (.ireturn, 1)) : Go P M pc L (.int x :: st) w (some (.int x), w) := by
  intro hl l Z a0 p e R s m args below meth c α b n0 h0 uC uS ok T locs cells slots I
  exact ⟨T, locs, cells, slots, I, fun fs hv => retOut I.1 ok.2.2.1 (t := .int) (ok.2.2.2.2.2.2.2.1.trans hT) rfl (Or.inl ⟨rfl, Or.inl rfl, x, rfl⟩) (hb ok.2.2.2.2.2.1 d) hv⟩
theorem go_zret (hT : mT M = some .boolean) (d : decode (mB M) pc = .ok (.ireturn, 1)) (hz : v = nar .boolean x) : Go P M pc L (.int x :: st) w (some (.int v), w) := by
  intro hl l Z a0 p e R s m args below meth c α b n0 h0 uC uS ok T locs cells slots I
  subst hz
  exact ⟨T, locs, cells, slots, I, fun fs hv => retN I.1 ok.2.2.1 (t := .boolean) (ok.2.2.2.2.2.2.2.1.trans hT) (Or.inl rfl) (hb ok.2.2.2.2.2.1 d) hv⟩
theorem go_lret (hT : mT M = some .long) (d : decode (mB M) pc = .ok (.lreturn, 1)) : Go P M pc L (.long u :: st) w (some (.long u), w) := by
  intro hl l Z a0 p e R s m args below meth c α b n0 h0 uC uS ok T locs cells slots I
  exact ⟨T, locs, cells, slots, I, fun fs hv => retOut I.1 ok.2.2.1 (t := .long) (ok.2.2.2.2.2.2.2.1.trans hT) rfl (Or.inr (Or.inl ⟨rfl, rfl, u, rfl⟩)) (hb ok.2.2.2.2.2.1 d) hv⟩
theorem go_ret (hT : mT M = none) (d : decode (mB M) pc = .ok (.return_, 1)) : Go P M pc L [] w (none, w) := by
  intro hl l Z a0 p e R s m args below meth c α b n0 h0 uC uS ok T locs cells slots I
  exact ⟨T, locs, cells, slots, I, fun fs hv => I.1.returnOut ok.2.2.1 (ok.2.2.2.2.2.2.2.1.trans hT) (hb ok.2.2.2.2.2.1 d) hv⟩
/-! ### fields -/
variable {o o' : Nat × S} {s : S} {k n : Nat}
theorem rep_one {Z : State} {ci : CI} {α b : Nat} {h : Heap} (F : RepW Z ci α b (none, [o]) h) : Rep1 Z ci h b o := by
  have := F.2 0 o rfl
  simpa using this
theorem rep_mk {Z : State} {ci : CI} {α b : Nat} {h : Heap} (F : Rep1 Z ci h b o) : RepW Z ci α b (none, [o]) h :=
  ⟨fun l hl => (nomatch hl), fun i o1 ho => by
    cases i with
    | zero => cases ho; simpa using F
    | succ i => simp at ho⟩
/-- the entry idx names the scalar field number f; of type ty -/
def FldS (P : PI) (idx f : Nat) (ty : FieldType) : Prop := ∃ nm ds, (cS P.2)[f]? = some (nm, ds, ty) ∧ Jvm.Cond.fieldLink (cN P.2) idx (cN P.2) nm ds ∈ P.1
def FldA (P : PI) (idx q : Nat) (ty : FieldType) : Prop := ∃ nm ds cap, (cA P.2)[q]? = some (nm, ds, ty, cap) ∧ Jvm.Cond.fieldLink (cN P.2) idx (cN P.2) nm ds ∈ P.1
theorem go_getV {idx f : Nat} {ty : FieldType} (F : FldS P idx f ty) (hM : (mY M).cls = cN P.2) (d : decode (mB M) pc = .ok (.getfield idx, 3)) {vv : Value} (hv : vv = scV ty s f) (hr : ∀ α b, con α b vv = vv) (g : Go P M (pc + 3) L (vv :: st) (none, [(k, s)]) out) : Go P M pc L (.ref 1 :: st) (none, [(k, s)]) out :=
  go_ch (fun l Z a0 p e R s1 m args below meth c α b n0 h0 uC uS ok hl T locs cells slots I => by
    obtain ⟨nm, ds, f1, f2⟩ := F
    obtain ⟨hw, fa, hx, hZ, hown, hc, hml, hret, hnm, hR, hn0, htop, hsz⟩ := ok
    obtain ⟨X, Rp, Fm, Nl, hs, u1, u2, c1, c2, hN⟩ := I
    have Fd := (rep_one Rp).2.1 f _ f1
    rw [hM] at hown
    obtain ⟨T', X', e', stp⟩ := getF X hx hZ hown (host := "") (Or.inl (hw _ f2)) Via.refl rfl Fd (g := mkF m pc (cL α b L) (cV α b (.ref 1 :: st))) rfl rfl (hb hc d)
    refine ⟨T', locs, cells, slots, ⟨X', by rw [e']; exact Rp, by rw [e']; exact Fm, Nl, by rw [e']; exact hs, u1, u2, c1, c2, hN⟩, fun target r => stp target ?_⟩
    rw [show cV α b (vv :: st) = con α b vv :: cV α b st from rfl, hr, hv] at r
    exact r) g
theorem go_getI {idx f : Nat} (F : FldS P idx f .int) (hM : (mY M).cls = cN P.2) (d : decode (mB M) pc = .ok (.getfield idx, 3)) (g : Go P M (pc + 3) L (.int (gI s f) :: st) (none, [(k, s)]) out) : Go P M pc L (.ref 1 :: st) (none, [(k, s)]) out :=
  go_getV F hM d rfl (fun _ _ => rfl) g
theorem go_getZ {idx f : Nat} (F : FldS P idx f .boolean) (hM : (mY M).cls = cN P.2) (d : decode (mB M) pc = .ok (.getfield idx, 3)) (g : Go P M (pc + 3) L (.int (gI s f) :: st) (none, [(k, s)]) out) : Go P M pc L (.ref 1 :: st) (none, [(k, s)]) out :=
  go_getV F hM d rfl (fun _ _ => rfl) g
theorem go_getJ {idx f : Nat} (F : FldS P idx f .long) (hM : (mY M).cls = cN P.2) (d : decode (mB M) pc = .ok (.getfield idx, 3)) (g : Go P M (pc + 3) L (.long (gL s f) :: st) (none, [(k, s)]) out) : Go P M pc L (.ref 1 :: st) (none, [(k, s)]) out :=
  go_getV F hM d rfl (fun _ _ => rfl) g
theorem go_getA {idx q : Nat} {ty : FieldType} (F : FldA P idx q ty) (hM : (mY M).cls = cN P.2) (d : decode (mB M) pc = .ok (.getfield idx, 3)) (hq : Nat.blt q k = true) (g : Go P M (pc + 3) L (.ref (q + 2) :: st) (none, [(k, s)]) out) : Go P M pc L (.ref 1 :: st) (none, [(k, s)]) out :=
  go_ch (fun l Z a0 p e R s1 m args below meth c α b n0 h0 uC uS ok hl T locs cells slots I => by
    obtain ⟨nm, ds, cap, f1, f2⟩ := F
    obtain ⟨hw, fa, hx, hZ, hown, hc, hml, hret, hnm, hR, hn0, htop, hsz⟩ := ok
    obtain ⟨X, Rp, Fm, Nl, hs, u1, u2, c1, c2, hN⟩ := I
    have Fd := (rep_one Rp).2.2.1 q _ f1
    rw [if_pos (show q < (k, s).1 by simpa [Nat.blt_eq] using hq)] at Fd
    rw [hM] at hown
    obtain ⟨T', X', e', stp⟩ := getF X hx hZ hown (host := "") (Or.inl (hw _ f2)) Via.refl rfl Fd (g := mkF m pc (cL α b L) (cV α b (.ref 1 :: st))) rfl rfl (hb hc d)
    refine ⟨T', locs, cells, slots, ⟨X', by rw [e']; exact Rp, by rw [e']; exact Fm, Nl, by rw [e']; exact hs, u1, u2, c1, c2, hN⟩, fun target r => stp target ?_⟩
    rw [show cV α b (.ref (q + 2) :: st) = .ref (b + (q + 1)) :: cV α b st from rfl] at r
    rw [show b + 1 + q = b + (q + 1) by omega]
    exact r) g
/-- another scalar of the object takes its value -/
theorem rep_put {Z : State} {a0 : Array Value} {ci : CI} {h h' : Heap} {b : Nat} {s s' : S} {k f : Nat} {nm ds : String} {ty : FieldType} {vv : Value} (fa : Facts Z a0 ci) (F : Rep1 Z ci h b (k, s)) (hf : (cS ci)[f]? = some (nm, ds, ty))
    (Wt : Wr h h' b (Jvm.RoadKit.slotOf Z (cN ci) nm ds) vv) (hv : vv = scV ty s' f) (ho : ∀ f' x, (cS ci)[f']? = some x → f' ≠ f → scV x.2.2 s' f' = scV x.2.2 s f') (ha : gA s' = gA s) (hbb : gB s' = gB s) : Rep1 Z ci h' b (k, s') := by
  obtain ⟨f1, f2, f3, f4⟩ := F
  obtain ⟨-, -, g1, g2, g3, -⟩ := fa
  have lt := get_lt hf
  refine ⟨f1.wr Wt, fun f' x hx => ?_, fun q x hx => ?_, fun q x hx hq => ?_⟩
  · by_cases e : f' = f
    · subst e
      cases hf.symm.trans hx
      show Fld Z h' b (cN ci) nm ds (scV ty s' f')
      rw [← hv]; exact (f2 f' _ hf).same Wt
    · have lt' := get_lt hx
      show Fld Z h' b (cN ci) x.1 x.2.1 (scV x.2.2 s' f')
      rw [ho f' x hx e]
      refine (f2 f' x hx).other Wt (Or.inr ?_)
      refine slot_ne (g1 f' x hx).1 (g1 f _ hf).1 ?_ (g1 f' x hx).2 (g1 f _ hf).2
      intro en
      have n1 : ((cS ci).map (fun x => x.1) ++ (cA ci).map (fun x => x.1))[f']? = some x.1 := by rw [List.getElem?_append_left (by simpa using lt')]; simp [hx]
      have n2 : ((cS ci).map (fun x => x.1) ++ (cA ci).map (fun x => x.1))[f]? = some nm := by rw [List.getElem?_append_left (by simpa using lt)]; simp [hf]
      rw [en] at n1
      obtain ⟨i1, j1⟩ := List.getElem?_eq_some_iff.mp n1
      obtain ⟨i2, j2⟩ := List.getElem?_eq_some_iff.mp n2
      exact e ((List.getElem_inj g3).mp (j1.trans j2.symm))
  · refine (f3 q x hx).other Wt (Or.inr ?_)
    have lt' := get_lt hx
    refine slot_ne (g2 q x hx).1 (g1 f _ hf).1 ?_ (g2 q x hx).2 (g1 f _ hf).2
    intro en
    have n1 : ((cS ci).map (fun x => x.1) ++ (cA ci).map (fun x => x.1))[(cS ci).length + q]? = some x.1 := by rw [List.getElem?_append_right (by simp)]; simp [hx]
    have n2 : ((cS ci).map (fun x => x.1) ++ (cA ci).map (fun x => x.1))[f]? = some nm := by rw [List.getElem?_append_left (by simpa using lt)]; simp [hf]
    rw [en] at n1
    obtain ⟨i1, j1⟩ := List.getElem?_eq_some_iff.mp n1
    obtain ⟨i2, j2⟩ := List.getElem?_eq_some_iff.mp n2
    have := (List.getElem_inj g3).mp (j1.trans j2.symm)
    omega
  · obtain ⟨c, A, e⟩ := f4 q x hx hq
    refine ⟨c, A.other Wt (nq (by omega)), e.trans ?_⟩
    show (arV x.2.2.1 s q).toArray = (arV x.2.2.1 s' q).toArray
    unfold arV
    split <;> simp [ha, hbb]
theorem go_putV {idx f : Nat} {ty : FieldType} {vv : Value} {s' : S} (F : FldS P idx f ty) (hM : (mY M).cls = cN P.2)
    (hlays : ∀ nm ds, (cS P.2)[f]? = some (nm, ds, ty) → Jvm.Cond.lays (cN P.2) (cN P.2) nm ds ∈ P.1 ∨ (Jvm.Cond.laysFinal (cN P.2) (cN P.2) nm ds ∈ P.1 ∧ (mY M).name = "<init>"))
    (hpos : 0 < mN M) (hr : ∀ α b, con α b vv = vv) (hn : narrow ty vv = vv) (hfi : fits ty vv = true) (hv : vv = scV ty s' f) (ho : ∀ f' x, (cS P.2)[f']? = some x → f' ≠ f → scV x.2.2 s' f' = scV x.2.2 s f') (ha : gA s' = gA s) (hbb : gB s' = gB s)
    (d : decode (mB M) pc = .ok (.putfield idx, 3)) (g : Go P M (pc + 3) L st (none, [(k, s')]) out) : Go P M pc L (vv :: .ref 1 :: st) (none, [(k, s)]) out :=
  go_ch (fun l Z a0 p e R s1 m args below meth c α b n0 h0 uC uS ok hl T locs cells slots I => by
    obtain ⟨nm, ds, f1, f2⟩ := F
    obtain ⟨hw, fa, hx, hZ, hown, hc, hml, hret, hnm, hR, hn0, htop, hsz⟩ := ok
    obtain ⟨X, Rp, Fm, Nl, hs, u1, u2, c1, c2, hN⟩ := I
    have Rp1 := rep_one Rp
    have Fd := Rp1.2.1 f _ f1
    rw [hM] at hown
    obtain ⟨T', h', X', e', Wt, stp⟩ := putF X hx hZ hown (host := "") (Or.inl (hw _ f2)) Via.refl rfl Fd Rp1.1 ((hlays nm ds f1).imp (fun q => hw _ q) (fun q => ⟨hw _ q.1, rfl, hnm.trans q.2⟩)) fa.1 (fa.2.2.1 f _ f1).2 hn hfi (g := mkF m pc (cL α b L) (vv :: .ref b :: cV α b st)) rfl rfl (hb hc d)
    refine ⟨T', _, cells, slots, ⟨X', rep_mk (by rw [e']; exact rep_put fa Rp1 f1 Wt hv ho ha hbb), by rw [e']; exact Fm.wr Wt (Nat.le_refl _) (by have := Nat.mul_le_mul_left (cK P.2 + 1) hpos; omega), Fr.snoc X' Nl hn0, by rw [e', Wt.size]; exact hs, u1, u2, c1, c2, hN⟩, fun target r => ?_⟩
    rw [show cV α b (vv :: .ref 1 :: st) = con α b vv :: .ref b :: cV α b st from rfl, hr]
    exact stp target r) g
theorem scV_sI (s : S) (f : Nat) (x : Int32) (ty : FieldType) (f' : Nat) (h : f' ≠ f) : scV ty (sI s f x) f' = scV ty s f' := by
  unfold scV; split <;> simp [gI_sI, gL_sI, h]
theorem scV_sL (s : S) (f : Nat) (x : Int64) (ty : FieldType) (f' : Nat) (h : f' ≠ f) : scV ty (sL s f x) f' = scV ty s f' := by
  unfold scV; split <;> simp [gI_sL, gL_sL, h]
/-- the word that lets the field be written -/
def Wrt (P : PI) (M : Meth) (f : Nat) : Prop := ∃ nm ds ty, (cS P.2)[f]? = some (nm, ds, ty) ∧ (Jvm.Cond.lays (cN P.2) (cN P.2) nm ds ∈ P.1 ∨ (Jvm.Cond.laysFinal (cN P.2) (cN P.2) nm ds ∈ P.1 ∧ (mY M).name = "<init>"))
theorem Wrt.use {f : Nat} {ty : FieldType} (h : Wrt P M f) : ∀ nm ds, (cS P.2)[f]? = some (nm, ds, ty) → Jvm.Cond.lays (cN P.2) (cN P.2) nm ds ∈ P.1 ∨ (Jvm.Cond.laysFinal (cN P.2) (cN P.2) nm ds ∈ P.1 ∧ (mY M).name = "<init>") := by
  obtain ⟨nm, ds, ty', h1, h2⟩ := h
  intro nm' ds' h3
  cases h1.symm.trans h3
  exact h2
theorem go_putI {idx f : Nat} (F : FldS P idx f .int) (hM : (mY M).cls = cN P.2) (hl : Wrt P M f) (hp : 0 < mN M) (d : decode (mB M) pc = .ok (.putfield idx, 3)) (g : Go P M (pc + 3) L st (none, [(k, sI s f x)]) out) : Go P M pc L (.int x :: .ref 1 :: st) (none, [(k, s)]) out :=
  go_putV F hM hl.use hp (fun _ _ => rfl) rfl rfl (by simp [scV, gI_sI]) (fun f' y _ h => scV_sI s f x _ f' h) rfl rfl d g
theorem go_putZ {idx f : Nat} (F : FldS P idx f .boolean) (hM : (mY M).cls = cN P.2) (hl : Wrt P M f) (hp : 0 < mN M) (hz : x = 0 ∨ x = 1) (d : decode (mB M) pc = .ok (.putfield idx, 3)) (g : Go P M (pc + 3) L st (none, [(k, sI s f x)]) out) : Go P M pc L (.int x :: .ref 1 :: st) (none, [(k, s)]) out :=
  go_putV F hM hl.use hp (fun _ _ => rfl) (by rcases hz with rfl | rfl <;> rfl) (by rcases hz with rfl | rfl <;> rfl) (by simp [scV, gI_sI]) (fun f' y _ h => scV_sI s f x _ f' h) rfl rfl d g
theorem go_putJ {idx f : Nat} (F : FldS P idx f .long) (hM : (mY M).cls = cN P.2) (hl : Wrt P M f) (hp : 0 < mN M) (d : decode (mB M) pc = .ok (.putfield idx, 3)) (g : Go P M (pc + 3) L st (none, [(k, sL s f u)]) out) : Go P M pc L (.long u :: .ref 1 :: st) (none, [(k, s)]) out :=
  go_putV F hM hl.use hp (fun _ _ => rfl) rfl rfl (by simp [scV, gL_sL]) (fun f' y _ h => scV_sL s f u _ f' h) rfl rfl d g
/-! ### arrays -/
theorem ix_some {A : Type} {l : List A} {j : Int32} {x : A} (h : ix l j = some x) : ¬ j < 0 ∧ l[j.toNatClampNeg]? = some x := by
  unfold ix at h; split at h
  · cases h
  · rename_i q; exact ⟨q, h⟩
theorem st_some {A : Type} {l l' : List A} {j : Int32} {x : A} (h : Jvm.AM.st l j x = some l') : ¬ j < 0 ∧ j.toNatClampNeg < l.length ∧ l' = l.set j.toNatClampNeg x := by
  unfold Jvm.AM.st at h; split at h
  · cases h
  · rename_i q; split at h
    · rename_i q2; cases h; exact ⟨q, q2, rfl⟩
    · cases h
theorem ar_in {c : Cell} {vs : List Value} {j : Int32} {vv : Value} (e : c.slots = vs.toArray) (h1 : ¬ j < 0) (h2 : vs[j.toNatClampNeg]? = some vv) : ¬ (j < 0 ∨ c.slots.size ≤ j.toNatClampNeg) ∧ c.slots[j.toNatClampNeg]? = some vv := by
  have := get_lt h2
  refine ⟨fun q => ?_, by rw [e]; simpa using h2⟩
  rcases q with q | q
  · exact h1 q
  · rw [e] at q; simp at q; omega
theorem go_iaload {q : Nat} {j : Int32} {nm ds : String} {cap : Nat} (ha : (cA P.2)[q]? = some (nm, ds, .int, cap)) (hq : Nat.blt q k = true) (hx : ix (gA s q) j = some v) (d : decode (mB M) pc = .ok (.iaload, 1)) (g : Go P M (pc + 1) L (.int v :: st) (none, [(k, s)]) out) : Go P M pc L (.int j :: .ref (q + 2) :: st) (none, [(k, s)]) out :=
  go_ch (fun l Z a0 p e R s1 m args below meth c α b n0 h0 uC uS ok hl T locs cells slots I => by
    obtain ⟨cl, A, ec⟩ := (rep_one I.2.1).2.2.2 q _ ha (by simpa [Nat.blt_eq] using hq)
    obtain ⟨h1, h2⟩ := ix_some hx
    obtain ⟨h3, h4⟩ := ar_in ec h1 (vv := .int v) (by simp [arV, h2])
    refine ⟨T, locs, cells, slots, I, fun target r => ?_⟩
    refine I.1.iaload ok.2.2.1 (j := j) (v := .int v) A.1 (State.isArrayOf_alike ok.2.2.2.1.alike A.2.1) A.2.2 h3 h4 (g := mkF m pc (cL α b L) (.int j :: .ref (b + 1 + q) :: cV α b st)) rfl rfl (hb ok.2.2.2.2.2.1 d) _ r |> fun t => ?_
    rw [show cV α b (.int j :: .ref (q + 2) :: st) = .int j :: .ref (b + (q + 1)) :: cV α b st from rfl, show b + (q + 1) = b + 1 + q by omega]
    exact t) g
theorem go_laload {q : Nat} {j : Int32} {nm ds : String} {cap : Nat} (ha : (cA P.2)[q]? = some (nm, ds, .long, cap)) (hq : Nat.blt q k = true) (hx : ix (gB s q) j = some u) (d : decode (mB M) pc = .ok (.laload, 1)) (g : Go P M (pc + 1) L (.long u :: st) (none, [(k, s)]) out) : Go P M pc L (.int j :: .ref (q + 2) :: st) (none, [(k, s)]) out :=
  go_ch (fun l Z a0 p e R s1 m args below meth c α b n0 h0 uC uS ok hl T locs cells slots I => by
    obtain ⟨cl, A, ec⟩ := (rep_one I.2.1).2.2.2 q _ ha (by simpa [Nat.blt_eq] using hq)
    obtain ⟨h1, h2⟩ := ix_some hx
    obtain ⟨h3, h4⟩ := ar_in ec h1 (vv := .long u) (by simp [arV, h2])
    refine ⟨T, locs, cells, slots, I, fun target r => ?_⟩
    refine I.1.laload ok.2.2.1 (j := j) (v := .long u) A.1 (State.isArrayOf_alike ok.2.2.2.1.alike A.2.1) A.2.2 h3 h4 (g := mkF m pc (cL α b L) (.int j :: .ref (b + 1 + q) :: cV α b st)) rfl rfl (hb ok.2.2.2.2.2.1 d) _ r |> fun t => ?_
    rw [show cV α b (.int j :: .ref (q + 2) :: st) = .int j :: .ref (b + (q + 1)) :: cV α b st from rfl, show b + (q + 1) = b + 1 + q by omega]
    exact t) g
theorem go_baload {q : Nat} {j : Int32} {nm ds : String} {ty : FieldType} {cap : Nat} (ha : (cA P.2)[q]? = some (nm, ds, ty, cap)) (hty : ty = .boolean ∨ ty = .byte) (hq : Nat.blt q k = true) (hx : ix (gA s q) j = some v) (d : decode (mB M) pc = .ok (.baload, 1)) (g : Go P M (pc + 1) L (.int v :: st) (none, [(k, s)]) out) : Go P M pc L (.int j :: .ref (q + 2) :: st) (none, [(k, s)]) out :=
  go_ch (fun l Z a0 p e R s1 m args below meth c α b n0 h0 uC uS ok hl T locs cells slots I => by
    obtain ⟨cl, A, ec⟩ := (rep_one I.2.1).2.2.2 q _ ha (by simpa [Nat.blt_eq] using hq)
    obtain ⟨h1, h2⟩ := ix_some hx
    refine ⟨T, locs, cells, slots, I, fun target r => ?_⟩
    rw [show cV α b (.int j :: .ref (q + 2) :: st) = .int j :: .ref (b + (q + 1)) :: cV α b st from rfl, show b + (q + 1) = b + 1 + q by omega]
    rcases hty with rfl | rfl
    · obtain ⟨h3, h4⟩ := ar_in ec h1 (vv := .int v) (by simp [arV, h2])
      exact I.1.baloadBooleans ok.2.2.1 (j := j) (v := .int v) A.1 (State.isArrayOf_alike ok.2.2.2.1.alike A.2.1) A.2.2 h3 h4 (g := mkF m pc (cL α b L) (.int j :: .ref (b + 1 + q) :: cV α b st)) rfl rfl (hb ok.2.2.2.2.2.1 d) _ r
    · obtain ⟨h3, h4⟩ := ar_in ec h1 (vv := .int v) (by simp [arV, h2])
      exact I.1.baloadBytes ok.2.2.1 (j := j) (v := .int v) A.1 (State.isArrayOf_alike ok.2.2.2.1.alike A.2.1) A.2.2 h3 h4 (g := mkF m pc (cL α b L) (.int j :: .ref (b + 1 + q) :: cV α b st)) rfl rfl (hb ok.2.2.2.2.2.1 d) _ r) g
theorem go_alen {q : Nat} {nm ds : String} {ty : FieldType} {cap : Nat} (ha : (cA P.2)[q]? = some (nm, ds, ty, cap)) (hty : ty ≠ .long) (hq : Nat.blt q k = true) (d : decode (mB M) pc = .ok (.arraylength, 1)) (g : Go P M (pc + 1) L (.int (gA s q).length.toInt32 :: st) (none, [(k, s)]) out) : Go P M pc L (.ref (q + 2) :: st) (none, [(k, s)]) out :=
  go_ch (fun l Z a0 p e R s1 m args below meth c α b n0 h0 uC uS ok hl T locs cells slots I => by
    obtain ⟨cl, A, ec⟩ := (rep_one I.2.1).2.2.2 q _ ha (by simpa [Nat.blt_eq] using hq)
    refine ⟨T, locs, cells, slots, I, fun target r => ?_⟩
    have e1 : cl.slots.size = (gA s q).length := by rw [ec]; cases ty <;> simp [arV] at hty ⊢
    rw [show cV α b (.ref (q + 2) :: st) = .ref (b + (q + 1)) :: cV α b st from rfl, show b + (q + 1) = b + 1 + q by omega]
    refine I.1.arraylength ok.2.2.1 (cell := cl) A.1 (State.isArrayOf_alike ok.2.2.2.1.alike A.2.1) (g := mkF m pc (cL α b L) (.ref (b + 1 + q) :: cV α b st)) rfl rfl (hb ok.2.2.2.2.2.1 d) _ ?_
    rw [e1]; exact r) g
theorem go_sload {l0 : List Int32} {os : List (Nat × S)} {j : Int32} (hx : ix l0 j = some v) (d : decode (mB M) pc = .ok (.iaload, 1)) (g : Go P M (pc + 1) L (.int v :: st) (some l0, os) out) : Go P M pc L (.int j :: .ref 0 :: st) (some l0, os) out :=
  go_ch (fun l Z a0 p e R s1 m args below meth c α b n0 h0 uC uS ok hl T locs cells slots I => by
    obtain ⟨cl, A, ec⟩ := (I.2.1.1 l0 rfl).1
    obtain ⟨h1, h2⟩ := ix_some hx
    obtain ⟨h3, h4⟩ := ar_in ec h1 (vv := .int v) (by simp [h2])
    exact ⟨T, locs, cells, slots, I, fun target r => I.1.iaload ok.2.2.1 (j := j) (v := .int v) A.1 (State.isArrayOf_alike ok.2.2.2.1.alike A.2.1) A.2.2 h3 h4 (g := mkF m pc (cL α b L) (cV α b (.int j :: .ref 0 :: st))) rfl rfl (hb ok.2.2.2.2.2.1 d) _ r⟩) g
theorem go_slen {l0 : List Int32} {os : List (Nat × S)} (d : decode (mB M) pc = .ok (.arraylength, 1)) (g : Go P M (pc + 1) L (.int l0.length.toInt32 :: st) (some l0, os) out) : Go P M pc L (.ref 0 :: st) (some l0, os) out :=
  go_ch (fun l Z a0 p e R s1 m args below meth c α b n0 h0 uC uS ok hl T locs cells slots I => by
    obtain ⟨cl, A, ec⟩ := (I.2.1.1 l0 rfl).1
    refine ⟨T, locs, cells, slots, I, fun target r => ?_⟩
    have e1 : cl.slots.size = l0.length := by rw [ec]; simp
    refine I.1.arraylength ok.2.2.1 (cell := cl) A.1 (State.isArrayOf_alike ok.2.2.2.1.alike A.2.1) (g := mkF m pc (cL α b L) (cV α b (.ref 0 :: st))) rfl rfl (hb ok.2.2.2.2.2.1 d) _ ?_
    rw [e1]; exact r) g
/-- a component of an array of the object takes its value -/
theorem rep_store {Z : State} {ci : CI} {h h' : Heap} {b : Nat} {s s' : S} {k q i : Nat} {nm ds : String} {ty : FieldType} {cap : Nat} {vv : Value} (F : Rep1 Z ci h b (k, s)) (hf : (cA ci)[q]? = some (nm, ds, ty, cap)) (hq : q < k)
    (Wt : Wr h h' (b + 1 + q) i vv) (hi : i < (arV ty s q).length) (hv : arV ty s' q = (arV ty s q).set i vv) (ho : ∀ q' x, (cA ci)[q']? = some x → q' ≠ q → arV x.2.2.1 s' q' = arV x.2.2.1 s q') (ha : gI s' = gI s) (hbb : gL s' = gL s) : Rep1 Z ci h' b (k, s') := by
  obtain ⟨f1, f2, f3, f4⟩ := F
  refine ⟨f1.wr Wt, fun f x hx => ?_, fun q' x hx => (f3 q' x hx).other Wt (Or.inl (nq (by omega))), fun q' x hx hq' => ?_⟩
  · have e : scV x.2.2 s' f = scV x.2.2 s f := by unfold scV; split <;> simp [ha, hbb]
    show Fld Z h' b (cN ci) x.1 x.2.1 (scV x.2.2 s' f)
    rw [e]
    exact (f2 f x hx).other Wt (Or.inl (nq (by omega)))
  · by_cases e : q' = q
    · subst e
      cases hf.symm.trans hx
      obtain ⟨c, A, ec⟩ := f4 q' _ hf hq
      refine ⟨_, A.same Wt, ?_⟩
      show (c.setSlot i vv).slots = (arV ty s' q').toArray
      rw [hv]
      simp only [Cell.setSlot, ec]
      simp
    · obtain ⟨c, A, ec⟩ := f4 q' x hx hq'
      refine ⟨c, A.other Wt (nq (by omega)), ec.trans ?_⟩
      rw [ho q' x hx e]
theorem arV_sA (s : S) (q : Nat) (l : List Int32) (ty : FieldType) (q' : Nat) (h : q' ≠ q) : arV ty (sA s q l) q' = arV ty s q' := by
  unfold arV; split <;> simp [gA_sA, gB_sA, h]
theorem arV_sB (s : S) (q : Nat) (l : List Int64) (ty : FieldType) (q' : Nat) (h : q' ≠ q) : arV ty (sB s q l) q' = arV ty s q' := by
  unfold arV; split <;> simp [gA_sB, gB_sB, h]
theorem in_of {c : Cell} {vs : List Value} {j : Int32} (e : c.slots = vs.toArray) (h1 : ¬ j < 0) (h2 : j.toNatClampNeg < vs.length) : ¬ (j < 0 ∨ c.slots.size ≤ j.toNatClampNeg) := fun q => by
  rcases q with q | q
  · exact h1 q
  · rw [e] at q; simp at q; omega
theorem go_iastore {q : Nat} {j : Int32} {nm ds : String} {cap : Nat} {l' : List Int32} (ha : (cA P.2)[q]? = some (nm, ds, .int, cap)) (hq : Nat.blt q k = true) (hp : 0 < mN M) (hx : Jvm.AM.st (gA s q) j x = some l') (d : decode (mB M) pc = .ok (.iastore, 1)) (g : Go P M (pc + 1) L st (none, [(k, sA s q l')]) out) : Go P M pc L (.int x :: .int j :: .ref (q + 2) :: st) (none, [(k, s)]) out :=
  go_ch (fun l Z a0 p e R s1 m args below meth c α b n0 h0 uC uS ok hl T locs cells slots I => by
    have hq' : q < k := by simpa [Nat.blt_eq] using hq
    have hqK := get_lt ha
    obtain ⟨X, Rp, Fm, Nl, hs, u1, u2, c1, c2, hN⟩ := I
    obtain ⟨cl, A, ec⟩ := (rep_one Rp).2.2.2 q _ ha hq'
    obtain ⟨h1, h2, rfl⟩ := st_some hx
    have hin := in_of ec h1 (by simpa [arV] using h2)
    obtain ⟨T', h', X', e', Wt, stp⟩ := stI X ok.2.2.1 ok.2.2.2.1 rfl A (x := x) hin (g := mkF m pc (cL α b L) (.int x :: .int j :: .ref (b + 1 + q) :: cV α b st)) rfl rfl (hb ok.2.2.2.2.2.1 d)
    refine ⟨T', _, cells, slots, ⟨X', rep_mk (by rw [e']; exact rep_store (rep_one Rp) ha hq' Wt (by simpa [arV] using h2) (by simp [arV, gA_sA, List.map_set]) (fun q' y _ h => arV_sA s q _ _ q' h) rfl rfl), by rw [e']; exact Fm.wr Wt (by omega) (by have := Nat.mul_le_mul_left (cK P.2 + 1) hp; simp only [cK] at *; omega), Fr.snoc X' Nl (by have := ok.2.2.2.2.2.2.2.2.2.2.1; omega), by rw [e', Wt.size]; exact hs, u1, u2, c1, c2, hN⟩, fun target r => ?_⟩
    rw [show cV α b (.int x :: .int j :: .ref (q + 2) :: st) = .int x :: .int j :: .ref (b + (q + 1)) :: cV α b st from rfl, show b + (q + 1) = b + 1 + q by omega]
    exact stp target r) g
theorem go_lastore {q : Nat} {j : Int32} {nm ds : String} {cap : Nat} {l' : List Int64} (ha : (cA P.2)[q]? = some (nm, ds, .long, cap)) (hq : Nat.blt q k = true) (hp : 0 < mN M) (hx : Jvm.AM.st (gB s q) j u = some l') (d : decode (mB M) pc = .ok (.lastore, 1)) (g : Go P M (pc + 1) L st (none, [(k, sB s q l')]) out) : Go P M pc L (.long u :: .int j :: .ref (q + 2) :: st) (none, [(k, s)]) out :=
  go_ch (fun l Z a0 p e R s1 m args below meth c α b n0 h0 uC uS ok hl T locs cells slots I => by
    have hq' : q < k := by simpa [Nat.blt_eq] using hq
    have hqK := get_lt ha
    obtain ⟨X, Rp, Fm, Nl, hs, u1, u2, c1, c2, hN⟩ := I
    obtain ⟨cl, A, ec⟩ := (rep_one Rp).2.2.2 q _ ha hq'
    obtain ⟨h1, h2, rfl⟩ := st_some hx
    have hin := in_of ec h1 (by simpa [arV] using h2)
    obtain ⟨T', h', X', e', Wt, stp⟩ := stJ X ok.2.2.1 ok.2.2.2.1 rfl A (x := u) hin (g := mkF m pc (cL α b L) (.long u :: .int j :: .ref (b + 1 + q) :: cV α b st)) rfl rfl (hb ok.2.2.2.2.2.1 d)
    refine ⟨T', _, cells, slots, ⟨X', rep_mk (by rw [e']; exact rep_store (rep_one Rp) ha hq' Wt (by simpa [arV] using h2) (by simp [arV, gB_sB, List.map_set]) (fun q' y _ h => arV_sB s q _ _ q' h) rfl rfl), by rw [e']; exact Fm.wr Wt (by omega) (by have := Nat.mul_le_mul_left (cK P.2 + 1) hp; simp only [cK] at *; omega), Fr.snoc X' Nl (by have := ok.2.2.2.2.2.2.2.2.2.2.1; omega), by rw [e', Wt.size]; exact hs, u1, u2, c1, c2, hN⟩, fun target r => ?_⟩
    rw [show cV α b (.long u :: .int j :: .ref (q + 2) :: st) = .long u :: .int j :: .ref (b + (q + 1)) :: cV α b st from rfl, show b + (q + 1) = b + 1 + q by omega]
    exact stp target r) g
theorem go_bastore {q : Nat} {j : Int32} {nm ds : String} {ty : FieldType} {cap : Nat} {l' : List Int32} (ha : (cA P.2)[q]? = some (nm, ds, ty, cap)) (hty : ty = .boolean ∨ ty = .byte) (hq : Nat.blt q k = true) (hp : 0 < mN M) (hv : v = nar ty x) (hx : Jvm.AM.st (gA s q) j v = some l') (d : decode (mB M) pc = .ok (.bastore, 1)) (g : Go P M (pc + 1) L st (none, [(k, sA s q l')]) out) : Go P M pc L (.int x :: .int j :: .ref (q + 2) :: st) (none, [(k, s)]) out :=
  go_ch (fun l Z a0 p e R s1 m args below meth c α b n0 h0 uC uS ok hl T locs cells slots I => by
    have hq' : q < k := by simpa [Nat.blt_eq] using hq
    have hqK := get_lt ha
    obtain ⟨X, Rp, Fm, Nl, hs, u1, u2, c1, c2, hN⟩ := I
    obtain ⟨cl, A, ec⟩ := (rep_one Rp).2.2.2 q _ ha hq'
    obtain ⟨h1, h2, rfl⟩ := st_some hx
    subst hv
    have hlen : j.toNatClampNeg < (arV ty s q).length := by rcases hty with rfl | rfl <;> simpa [arV] using h2
    have hset : arV ty (sA s q ((gA s q).set j.toNatClampNeg (nar ty x))) q = (arV ty s q).set j.toNatClampNeg (.int (nar ty x)) := by rcases hty with rfl | rfl <;> simp [arV, gA_sA, List.map_set]
    have hin := in_of ec h1 hlen
    obtain ⟨T', h', X', e', Wt, stp⟩ : ∃ T' h', Stand p l e R s1 m args below meth c T' (locs ++ [⟨b + 1 + q, j.toNatClampNeg⟩]) cells slots ∧ T'.heap = h' ∧ Wr T.heap h' (b + 1 + q) j.toNatClampNeg (.int (nar ty x)) ∧ ∀ target, Steps p.tables e below (T'.setTop (mkF m (pc + 1) (cL α b L) (cV α b st))) target → Steps p.tables e below (T.setTop (mkF m pc (cL α b L) (.int x :: .int j :: .ref (b + 1 + q) :: cV α b st))) target := by
      rcases hty with rfl | rfl
      · exact stZ X ok.2.2.1 ok.2.2.2.1 rfl A (x := x) hin (g := mkF m pc (cL α b L) (.int x :: .int j :: .ref (b + 1 + q) :: cV α b st)) rfl rfl (hb ok.2.2.2.2.2.1 d)
      · exact stB X ok.2.2.1 ok.2.2.2.1 rfl A (x := x) hin (g := mkF m pc (cL α b L) (.int x :: .int j :: .ref (b + 1 + q) :: cV α b st)) rfl rfl (hb ok.2.2.2.2.2.1 d)
    refine ⟨T', _, cells, slots, ⟨X', rep_mk (by rw [e']; exact rep_store (rep_one Rp) ha hq' Wt hlen hset (fun q' y _ h => arV_sA s q _ _ q' h) rfl rfl), by rw [e']; exact Fm.wr Wt (by omega) (by have := Nat.mul_le_mul_left (cK P.2 + 1) hp; simp only [cK] at *; omega), Fr.snoc X' Nl (by have := ok.2.2.2.2.2.2.2.2.2.2.1; omega), by rw [e', Wt.size]; exact hs, u1, u2, c1, c2, hN⟩, fun target r => ?_⟩
    rw [show cV α b (.int x :: .int j :: .ref (q + 2) :: st) = .int x :: .int j :: .ref (b + (q + 1)) :: cV α b st from rfl, show b + (q + 1) = b + 1 + q by omega]
    exact stp target r) g
/-! ## 5. A method as a whole; calls -/
def Call (P : PI) (M : Meth) (as : List Value) (w : W) (out : Option Value × W) : Prop :=
  ∀ (l : Launch) (Z : State) (a0 : Array Value) (ws : List Jvm.Cond) (α b n0 : Nat) (h0 : Heap), (∀ d ∈ P.1, d.before a0 Z = true) → Facts Z a0 P.2 → n0 ≤ b → RepW Z P.2 α b w h0 → w.2.length ≤ mN M → (mTop M = true → h0.size = b + usedC w ∧ usedC w = mUC M ∧ usedS P.2 w = mUS M) →
    MetFree l (mY M) (head1 (Jvm.Cond.code (mY M) (mB M) (mL M) (mT M) :: ws) (mR M)) (fun a U => a = (cV α b as).toArray ∧ Z.Warmed39 U.vm ∧ U.heap = h0) (fun _ _ _ _ _ => True)
      (fun _ U o U' => ∃ v L, o = .returned v ∧ (v = out.1.map (con α b) ∧ Fr n0 L ∧ RepW Z P.2 α b out.2 U'.heap ∧ Frm b (b + (cK P.2 + 1) * mN M) h0 U'.heap ∧ ∃ k, U'.heap.size = h0.size + k ∧ k + usedC w = usedC out.2) ∧ FrameEnd U o U' L (mR M).cells (mR M).slots)
theorem call_of_go {as : List Value} (hpl : plainName (mY M).cls = true) (hlen : (entryL as (mL M)).length = mL M) (hret : mT M = none → out.1 = none) (g : Go P M 0 (entryL as (mL M)) [] w out) : Call P M as w out := by
  intro l Z a0 ws α b n0 h0 hw fa hn0 Rp hN htop
  refine MetFree.of_bodySF (plainFor_of_name hpl) hisR ?_
  intro p e s m args below meth c s₁ Bd hml0 hP hK
  obtain ⟨rfl, hZ, hh⟩ := hP
  have X0 : Stand p l e (mR M) s m (cV α b as).toArray below meth c s₁ [] 0 0 := Stand.of_body Bd
  have e0 : s₁.heap = h0 := by rw [← hh, Bd.state]; rfl
  obtain ⟨T', L', c', n', I', fin⟩ := g hlen l Z a0 p e (mR M) s m (cV α b as).toArray below meth c α b n0 h0 (usedC w) (usedS P.2 w) ⟨hw, fa, Bd.exec, hZ, findClass_of_methodNamed Bd.named, Bd.bytes, hml0, Bd.returns, (name_of_methodNamed Bd.named Bd.method).1, rfl, hn0, htop, by rw [hh]⟩ s₁ [] 0 0 ⟨X0, by rw [e0]; exact Rp, by rw [e0]; exact Frm.refl _ _ _, Fr.nil _, by rw [e0]; rfl, by simp, by simp, Nat.zero_le _, Nat.zero_le _, hN⟩
  obtain ⟨X', Rp', Fm', Nl', hs', u1', u2', c1', c2', hN'⟩ := I'
  obtain ⟨fs, hr, hrun, hended, hW, hsame⟩ := X'.leave (v := out.1.map (con α b)) (fun h => by rw [Bd.returns] at h; rw [hret h]; rfl)
  refine ⟨_, _, ?_, hrun, hended, _, _, rfl, ⟨rfl, Nl', Rp', Fm', c', hs', u1'⟩, ⟨_, rfl⟩, hW, hsame.mono c1' c2'⟩
  have q := fin fs hr
  rw [← entry_locals] at q
  exact q
def nr : Value → Bool
  | .ref _ => false
  | _ => true
theorem con_nr {α b : Nat} {v : Value} (h : nr v = true) : con α b v = v := by
  cases v <;> first | rfl | cases h
theorem cV_nr {α b : Nat} {l : List Value} (h : l.all nr = true) : cV α b l = l := by
  have : ∀ x ∈ l, con α b x = x := fun x hx => con_nr (List.all_eq_true.mp h x hx)
  unfold cV
  exact (List.map_congr_left this).trans (List.map_id _)
theorem rep_obj {Z : State} {ci : CI} {α b : Nat} {h : Heap} {i : Nat} (F : RepW Z ci α b w h) (ho : w.2[i]? = some o) : RepW Z ci 0 (b + (cK ci + 1) * i) (none, [o]) h := rep_mk (F.2 i o ho)
theorem rep_back {Z : State} {ci : CI} {α α' b : Nat} {h h' : Heap} {i : Nat} (F : RepW Z ci α b w h) (ho : w.2[i]? = some o) (G : RepW Z ci α' (b + (cK ci + 1) * i) (none, [o']) h') (Fm : Frm (b + (cK ci + 1) * i) (b + (cK ci + 1) * i + (cK ci + 1) * 1) h h') : RepW Z ci α b (w.1, w.2.set i o') h' := by
  refine ⟨fun l hl => ⟨((F.1 l hl).1).frm fun c q => Fm _ _ q (Or.inl ?_), (F.1 l hl).2⟩, fun j oj hj => ?_⟩
  · have := (F.1 l hl).2; exact Nat.lt_of_lt_of_le this (Nat.le_add_right _ _)
  · by_cases e : j = i
    · subst e
      rw [show (w.1, w.2.set j o').2 = w.2.set j o' from rfl, List.getElem?_set_self (get_lt ho)] at hj
      cases hj
      exact rep_one G
    · rw [show (w.1, w.2.set i o').2 = w.2.set i o' from rfl, List.getElem?_set_ne (Ne.symm e)] at hj
      refine (F.2 j oj hj).frm fun x c q1 q2 q3 => Fm _ _ q3 ?_
      rcases Nat.lt_or_gt_of_ne e with q | q
      · have := Nat.mul_le_mul_left (cK ci + 1) q
        rw [Nat.mul_succ] at this; omega
      · have := Nat.mul_le_mul_left (cK ci + 1) q
        rw [Nat.mul_succ] at this; omega
theorem sum_set {A : Type} (f : A → Nat) {a a' : A} : ∀ {l : List A} {i : Nat}, l[i]? = some a → ((l.set i a').map f).sum + f a = (l.map f).sum + f a'
  | [], i, h => by simp at h
  | b :: r, 0, h => by simp at h; subst h; simp; omega
  | b :: r, i + 1, h => by
    simp only [List.getElem?_cons_succ] at h
    have := sum_set f (a' := a') h
    simp only [List.set_cons_succ, List.map_cons, List.sum_cons]; omega
def CQ (ci : CI) (Z : State) (α b n0 : Nat) (h0 : Heap) (N : Nat) (w : W) (out : Option Value × W) (v : Option Value) (hp : Heap) (L : List Loc) : Prop := v = out.1.map (con α b) ∧ Fr n0 L ∧ RepW Z ci α b out.2 hp ∧ Frm b (b + (cK ci + 1) * N) h0 hp ∧ ∃ k, hp.size = h0.size + k ∧ k + usedC w = usedC out.2
/-- what a callee that makes nothing must fit into -/
def Small (M M' : Meth) (rest : List Value) : Prop := (mR M').cells = 0 ∧ (mR M').slots = 0 ∧ mTop M' = false ∧ Nat.ble ((mR M').frames + 1) (mR M).frames = true ∧ Nat.ble ((rest.map fun v => v.category).sum + (mL M' + 11) + (mR M').locals) (mR M).locals = true
theorem ret_st {α b b' : Nat} {r : Option Value} {rest : List Value} (hr : r.all nr = true) : (r.map (con 0 b')).toList ++ cV α b rest = cV α b (r.toList ++ rest) := by
  cases r with
  | none => rfl
  | some v => simp only [Option.map_some, Option.toList_some, cV, List.cons_append, List.nil_append, List.map_cons]; rw [con_nr (show nr v = true from hr), con_nr (show nr v = true from hr)]
theorem inv_obj {l : Launch} {Z : State} {p : Program} {e : Env} {R : Room} {s : State} {m : MethodId} {args : Array Value} {below : List Frame} {meth : Method} {c : Code} {α b n0 : Nat} {h0 : Heap} {uC uS : Nat} {T T2 : State} {locs L2 : List Loc} {cells slots rc rs i : Nat}
    (I : Inv P M l Z p e R s m args below meth c α b n0 h0 uC uS w T locs cells slots) (ho : w.2[i]? = some o) (X2 : Stand p l e R s m args below meth c T2 (locs ++ L2) (cells + rc) (slots + rs))
    (N2 : Fr n0 L2) (R2 : RepW Z P.2 0 (b + (cK P.2 + 1) * i) (none, [o']) T2.heap) (F2 : Frm (b + (cK P.2 + 1) * i) (b + (cK P.2 + 1) * i + (cK P.2 + 1) * 1) T.heap T2.heap) (k2 : ∃ k, T2.heap.size = T.heap.size + k ∧ k + usedC (none, [o]) = usedC (none, [o']))
    (hC : o'.1 = o.1 + rc) (hS : usedS P.2 (none, [o']) = usedS P.2 (none, [o]) + rs) (q1 : cells + rc ≤ R.cells) (q2 : slots + rs ≤ R.slots) : Inv P M l Z p e R s m args below meth c α b n0 h0 uC uS (w.1, w.2.set i o') T2 (locs ++ L2) (cells + rc) (slots + rs) := by
  obtain ⟨X, Rp, Fm, Nl, hs, u1, u2, c1, c2, hN⟩ := I
  obtain ⟨k, k1, k3⟩ := k2
  have hi := get_lt ho
  have a1 := sum_set (fun o : Nat × S => 1 + o.1) (a' := o') ho
  have a2 := sum_set (fun o : Nat × S => cF P.2 + (((cA P.2).take o.1).map fun x => x.2.2.2).sum) (a' := o') ho
  have hle : (cK P.2 + 1) * (i + 1) ≤ (cK P.2 + 1) * mN M := Nat.mul_le_mul_left _ (by omega)
  rw [Nat.mul_succ] at hle
  refine ⟨X2, rep_back Rp ho R2 F2, Fm.trans (F2.wide (Nat.le_add_right _ _) (by omega)), Nl.app N2, ?_, ?_, ?_, q1, q2, by simpa using hN⟩
  · simp only [usedC, List.map_cons, List.map_nil, List.sum_cons, List.sum_nil] at k3; omega
  · simp only [usedC] at u1 ⊢; omega
  · simp only [usedS, List.map_cons, List.map_nil, List.sum_cons, List.sum_nil] at u2 hS ⊢; omega
def LinkV (P : PI) (own : String) (idx : Nat) (M' : Meth) : Prop := Jvm.Cond.methodLink own idx (mY M') ∈ P.1 ∧ Jvm.Cond.declares (mY M') ∈ P.1 ∧ Jvm.Cond.selects (cN P.2) (mY M') (mY M') ∈ P.1 ∧ Jvm.Cond.instanceMethod (mY M') ∈ P.1 ∧ Jvm.Cond.code (mY M') (mB M') (mL M') (mT M') ∈ P.1 ∧ (mY M').cls = cN P.2 ∧ mN M' = 1
def LinkP (P : PI) (own : String) (idx : Nat) (M' : Meth) : Prop := Jvm.Cond.methodLink own idx (mY M') ∈ P.1 ∧ Jvm.Cond.instanceMethod (mY M') ∈ P.1 ∧ Jvm.Cond.privateMethod (mY M') ∈ P.1 ∧ Jvm.Cond.code (mY M') (mB M') (mL M') (mT M') ∈ P.1 ∧ (mY M').cls = cN P.2 ∧ mN M' = 1
def LinkS (P : PI) (own : String) (idx : Nat) (M' : Meth) : Prop := Jvm.Cond.methodLink own idx (mY M') ∈ P.1 ∧ Jvm.Cond.static (mY M') ∈ P.1 ∧ Jvm.Cond.initialized (mY M').cls ∈ P.1 ∧ Jvm.Cond.code (mY M') (mB M') (mL M') (mT M') ∈ P.1 ∧ ((mY M').cls ≠ "java/lang/invoke/MethodHandle" ∧ (mY M').cls ≠ "java/lang/invoke/VarHandle")
def LinkI (P : PI) (own : String) (idx : Nat) (M' : Meth) : Prop := Jvm.Cond.methodLink own idx (mY M') ∈ P.1 ∧ Jvm.Cond.instanceMethod (mY M') ∈ P.1 ∧ Jvm.Cond.code (mY M') (mB M') (mL M') (mT M') ∈ P.1 ∧ (mY M').cls = cN P.2 ∧ mN M' = 1 ∧ mT M' = none ∧ (mY M').name = "<init>"
variable {M' : Meth} {i idx id : Nat} {as rest : List Value} {rv : Option Value} {ps : List FieldType} {rt : Option FieldType}
theorem cV_call {α b : Nat} {jd : Nat} (hnr : as.all nr = true) (hst : st = as.reverse ++ .ref (jd + 1) :: rest) : cV α b st = as.reverse ++ .ref (b + jd) :: cV α b rest := by
  subst hst
  have h1 : cV α b as.reverse = as.reverse := cV_nr (by rw [List.all_reverse]; exact hnr)
  unfold cV at h1 ⊢
  rw [List.map_append, h1]; rfl
theorem go_virt (lk : LinkV P (mY M).cls idx M') (pd : parseMethodDescriptor (mY M').desc = some ⟨ps, rt⟩) (hn : as.length = ps.length) (hid : id = (cK P.2 + 1) * i + 1) (hst : st = as.reverse ++ .ref id :: rest) (hnr : as.all nr = true) (hrr : rv.all nr = true) (ho : w.2[i]? = some o) (hw' : w' = (w.1, w.2.set i o')) (hC : o'.1 = o.1) (sm : Small M M' rest)
    (d : decode (mB M) pc = .ok (.invokevirtual idx, 3)) (cl : Call P M' (.ref 1 :: as) (none, [o]) (rv, (none, [o']))) (g : Go P M (pc + 3) L (rv.toList ++ rest) w' out) : Go P M pc L st w out :=
  go_ch (fun l Z a0 p e R s1 m args below meth c α b n0 h0 uC uS ok hl T locs cells slots I => by
    subst hw' hid
    obtain ⟨hw, fa, hx, hZ, hown, hc, hml, hret, hnm, hR, hn0, htop, hsz⟩ := ok
    obtain ⟨k1, k2, k3, k4, k5, k6, k7⟩ := lk
    obtain ⟨z1, z2, z3, z4, z5⟩ := sm
    have C := cl l Z a0 [] 0 (b + (cK P.2 + 1) * i) n0 T.heap hw fa (Nat.le_trans hn0 (Nat.le_add_right _ _)) (rep_obj I.2.1 ho) (by rw [k7]; exact Nat.le_refl _) (fun q => by rw [z3] at q; cases q)
    have Bk := backOf (Q := CQ P.2 Z 0 (b + (cK P.2 + 1) * i) n0 T.heap (mN M') (none, [o]) (rv, (none, [o']))) (R := R) (p := p) (e := e) (below := below) (s := s1) (args := args) (len := 3) (W := (rest.map fun v => v.category).sum) C hZ (hw _ k5) (by rw [k6]; exact fa.2.1) (by rw [hR]; exact Nat.le_of_ble_eq_true z4) (by rw [hR]; exact Nat.le_of_ble_eq_true z5)
    have E := (I.2.1.2 i o ho).1
    obtain ⟨cB, kB, q1, q2, q3⟩ := isOf (T := T) hZ rfl E
    obtain ⟨v, vm1, ⟨T2, Lx, kx, nx⟩, -, X2, ⟨L2, hQ, l2, y2, n2⟩, stp⟩ := I.1.virtualBack hx (y := mY M') (z := mY M') hown (mvT hZ (hw _ k1)) (mvT hZ (hw _ k2)) (notFace_of_selects (args := #[]) (mvT hZ (hw _ k3))) (mvT hZ (hw _ k3)) (mvT hZ (hw _ k4)) (by rw [k6]; exact fa.2.2.2.2.2.2) Bk q1 q3 (g := mkF m pc (cL α b L) (cV α b st)) rfl (by show (cL α b L).size = c.maxLocals; rw [cL_size, hl, hml]) (Steps.refl _) (argsL := as) (rest := cV α b rest) (lenOf pd hn) (cV_call hnr hst)
      (by show 2 * 0 + _ ≤ _; rw [cV_sum]; exact Nat.le_of_eq (Nat.zero_add _)) (hb hc d) (fun _ _ => ⟨by rw [show (cV 0 (b + (cK P.2 + 1) * i) (.ref 1 :: as)) = .ref (b + (cK P.2 + 1) * i) :: cV 0 (b + (cK P.2 + 1) * i) as from rfl, cV_nr hnr], rfl, by rw [z1]; exact I.2.2.2.2.2.2.2.1, by rw [z2]; exact I.2.2.2.2.2.2.2.2.1⟩)
    dsimp only [Pt.U, Pt.locs, Pt.cells, Pt.slots] at X2 l2 y2 n2 stp hQ
    subst l2 y2 n2
    obtain ⟨rfl, N2, R2, F2, k8⟩ := hQ
    rw [k7] at F2
    refine ⟨T2, _, _, _, inv_obj I ho X2 N2 R2 F2 k8 (by rw [z1]; exact hC) (by rw [z2]; simp [usedS, hC]) (by rw [z1]; exact I.2.2.2.2.2.2.2.1) (by rw [z2]; exact I.2.2.2.2.2.2.2.2.1), fun target r => stp.trans ?_⟩
    rw [← ret_st (b' := b + (cK P.2 + 1) * i) hrr] at r
    exact r) g
theorem go_priv (lk : LinkP P (mY M).cls idx M') (pd : parseMethodDescriptor (mY M').desc = some ⟨ps, rt⟩) (hn : as.length = ps.length) (hid : id = (cK P.2 + 1) * i + 1) (hst : st = as.reverse ++ .ref id :: rest) (hnr : as.all nr = true) (hrr : rv.all nr = true) (ho : w.2[i]? = some o) (hw' : w' = (w.1, w.2.set i o')) (hC : o'.1 = o.1) (sm : Small M M' rest)
    (d : decode (mB M) pc = .ok (.invokevirtual idx, 3)) (cl : Call P M' (.ref 1 :: as) (none, [o]) (rv, (none, [o']))) (g : Go P M (pc + 3) L (rv.toList ++ rest) w' out) : Go P M pc L st w out :=
  go_ch (fun l Z a0 p e R s1 m args below meth c α b n0 h0 uC uS ok hl T locs cells slots I => by
    subst hw' hid
    obtain ⟨hw, fa, hx, hZ, hown, hc, hml, hret, hnm, hR, hn0, htop, hsz⟩ := ok
    obtain ⟨k1, k4, k3, k5, k6, k7⟩ := lk
    obtain ⟨z1, z2, z3, z4, z5⟩ := sm
    have C := cl l Z a0 [] 0 (b + (cK P.2 + 1) * i) n0 T.heap hw fa (Nat.le_trans hn0 (Nat.le_add_right _ _)) (rep_obj I.2.1 ho) (by rw [k7]; exact Nat.le_refl _) (fun q => by rw [z3] at q; cases q)
    have Bk := backOf (Q := CQ P.2 Z 0 (b + (cK P.2 + 1) * i) n0 T.heap (mN M') (none, [o]) (rv, (none, [o']))) (R := R) (p := p) (e := e) (below := below) (s := s1) (args := args) (len := 3) (W := (rest.map fun v => v.category).sum) C hZ (hw _ k5) (by rw [k6]; exact fa.2.1) (by rw [hR]; exact Nat.le_of_ble_eq_true z4) (by rw [hR]; exact Nat.le_of_ble_eq_true z5)
    obtain ⟨cell, q1, q2⟩ := (I.2.1.2 i o ho).1.cell
    have hy : (mY M').cls ≠ "java/lang/invoke/MethodHandle" ∧ (mY M').cls ≠ "java/lang/invoke/VarHandle" := by rw [k6]; exact fa.2.2.2.2.2.2
    have hpriv : s1.PrivateAt (mY M') := Cond.privateMethod_at (mvP hZ (hw _ k3) (args := #[]))
    have hin : (Jvm.Cond.instanceMethod (mY M')).before args s1 = true := mvT hZ (hw _ k4)
    obtain ⟨c2, kk, i1, i2, i3, i4, -⟩ := Cond.instantiable_spec fa.1
    obtain ⟨k', j1, j2⟩ := hZ.alike.2.2 _ _ i2
    have hsel : (Jvm.Cond.selects (mY M').cls (mY M') (mY M')).before args s1 = true := selects_self_of_private (c := c2) (k := k') (by rw [k6, hZ.alike.findClass]; exact i1) j1 (by
      have : kk.isInterface = false := by simp only [Bool.or_eq_false_iff] at i4; exact i4.1
      rw [j2]; exact this) hpriv hin hy
    obtain ⟨v, vm1, ⟨T2, Lx, kx, nx⟩, -, X2, ⟨L2, hQ, l2, y2, n2⟩, stp⟩ := I.1.privateBack hx (y := mY M') hown (mvT hZ (hw _ k1)) hin hsel hpriv (mvT hZ (hw _ k5)) hy Bk (g := mkF m pc (cL α b L) (cV α b st)) rfl (by show (cL α b L).size = c.maxLocals; rw [cL_size, hl, hml]) (Steps.refl _) (a := b + (cK P.2 + 1) * i) q1 q2 (argsL := as) (rest := cV α b rest) (lenOf pd hn) (cV_call hnr hst)
      (by show 2 * 0 + _ ≤ _; rw [cV_sum]; exact Nat.le_of_eq (Nat.zero_add _)) (hb hc d) (fun _ _ => ⟨by rw [show (cV 0 (b + (cK P.2 + 1) * i) (.ref 1 :: as)) = .ref (b + (cK P.2 + 1) * i) :: cV 0 (b + (cK P.2 + 1) * i) as from rfl, cV_nr hnr], rfl, by rw [z1]; exact I.2.2.2.2.2.2.2.1, by rw [z2]; exact I.2.2.2.2.2.2.2.2.1⟩)
    dsimp only [Pt.U, Pt.locs, Pt.cells, Pt.slots] at X2 l2 y2 n2 stp hQ
    subst l2 y2 n2
    obtain ⟨rfl, N2, R2, F2, k8⟩ := hQ
    rw [k7] at F2
    refine ⟨T2, _, _, _, inv_obj I ho X2 N2 R2 F2 k8 (by rw [z1]; exact hC) (by rw [z2]; simp [usedS, hC]) (by rw [z1]; exact I.2.2.2.2.2.2.2.1) (by rw [z2]; exact I.2.2.2.2.2.2.2.2.1), fun target r => stp.trans ?_⟩
    rw [← ret_st (b' := b + (cK P.2 + 1) * i) hrr] at r
    exact r) g
theorem go_stat (lk : LinkS P (mY M).cls idx M') (pd : parseMethodDescriptor (mY M').desc = some ⟨ps, rt⟩) (hn : as.length = ps.length) (hst : st = as.reverse ++ rest) (hN' : mN M' ≤ mN M ∧ w.2.length ≤ mN M') (hu : usedC w' = usedC w ∧ usedS P.2 w' = usedS P.2 w ∧ w'.2.length = w.2.length) (sm : Small M M' rest)
    (d : decode (mB M) pc = .ok (.invokestatic idx, 3)) (cl : Call P M' as w (rv, w')) (g : Go P M (pc + 3) L (rv.toList ++ rest) w' out) : Go P M pc L st w out :=
  go_ch (fun l Z a0 p e R s1 m args below meth c α b n0 h0 uC uS ok hl T locs cells slots I => by
    obtain ⟨hw, fa, hx, hZ, hown, hc, hml, hret, hnm, hR, hn0, htop, hsz⟩ := ok
    obtain ⟨k1, k2, k3, k5, k6⟩ := lk
    obtain ⟨z1, z2, z3, z4, z5⟩ := sm
    have C := cl l Z a0 [] α b n0 T.heap hw fa hn0 I.2.1 hN'.2 (fun q => by rw [z3] at q; cases q)
    have Bk := backOf (Q := CQ P.2 Z α b n0 T.heap (mN M') w (rv, w')) (R := R) (p := p) (e := e) (below := below) (s := s1) (args := args) (len := 3) (W := (rest.map fun v => v.category).sum) C hZ (hw _ k5) (hw _ k3) (by rw [hR]; exact Nat.le_of_ble_eq_true z4) (by rw [hR]; exact Nat.le_of_ble_eq_true z5)
    obtain ⟨v, vm1, ⟨T2, Lx, kx, nx⟩, -, X2, ⟨L2, hQ, l2, y2, n2⟩, stp⟩ := Jvm.LawKit.callS I.1 hx (y := mY M') hown (mvT hZ (hw _ k1)) (mvT hZ (hw _ k2)) (mvT hZ (hw _ k3)) (mvT hZ (hw _ k5)) k6 Bk (g := mkF m pc (cL α b L) (cV α b st)) rfl (by show (cL α b L).size = c.maxLocals; rw [cL_size, hl, hml]) (argsL := cV α b as) (rest := cV α b rest) (lenOf pd (by simpa [cV] using hn)) (by subst hst; simp [cV])
      (by show 2 * 0 + _ ≤ _; rw [cV_sum]; exact Nat.le_of_eq (Nat.zero_add _)) (hb hc d) (fun _ _ => ⟨rfl, rfl, by rw [z1]; exact I.2.2.2.2.2.2.2.1, by rw [z2]; exact I.2.2.2.2.2.2.2.2.1⟩)
    dsimp only [Pt.U, Pt.locs, Pt.cells, Pt.slots] at X2 l2 y2 n2 stp hQ
    subst l2 y2 n2
    obtain ⟨rfl, N2, R2, F2, k, k8, k9⟩ := hQ
    obtain ⟨X, Rp, Fm, Nl, hs, u1, u2, c1, c2, hN⟩ := I
    rw [z1, z2] at X2
    refine ⟨T2, _, _, _, ⟨X2, R2, Fm.trans (F2.wide (Nat.le_refl _) (by have := Nat.mul_le_mul_left (cK P.2 + 1) hN'.1; omega)), Nl.app N2, ?_, ?_, ?_, c1, c2, by rw [hu.2.2]; exact hN⟩, fun target r => stp target ?_⟩
    · rw [k8]; have := hu.1; simp only at k9; omega
    · rw [hu.1]; exact u1
    · rw [hu.2.1]; exact u2
    · have e1 : cV α b (rv.toList ++ rest) = (rv.map (con α b)).toList ++ cV α b rest := by cases rv <;> rfl
      rw [e1] at r; exact r) g
/-- a constructor, by its contract -/
theorem go_init {k2 : Nat} {s2 : S} (lk : LinkI P (mY M).cls idx M') (pd : parseMethodDescriptor (mY M').desc = some ⟨ps, rt⟩) (hn : as.length = ps.length) (hid : id = (cK P.2 + 1) * i + 1) (hst : st = as.reverse ++ .ref id :: rest) (hnr : as.all nr = true) (ho : w.2[i]? = some (k, s)) (hw' : w' = (w.1, w.2.set i (k2, s2)))
    (hC : k2 = k + (mR M').cells) (hS : usedS P.2 (none, [(k2, s2)]) = usedS P.2 (none, [(k, s)]) + (mR M').slots) (htM : mTop M = true) (hR1 : Nat.ble (usedC w + (mR M').cells) ((mR M).cells + mUC M) = true) (hR2 : Nat.ble (usedS P.2 w + (mR M').slots) ((mR M).slots + mUS M) = true)
    (hq : usedC w = (cK P.2 + 1) * i + usedC (none, [(k, s)]) ∧ usedC (none, [(k, s)]) = mUC M' ∧ usedS P.2 (none, [(k, s)]) = mUS M') (sm : Nat.ble ((mR M').frames + 1) (mR M).frames = true ∧ Nat.ble ((rest.map fun v => v.category).sum + (mL M' + 11) + (mR M').locals) (mR M).locals = true)
    (d : decode (mB M) pc = .ok (.invokespecial idx, 3)) (cl : Call P M' (.ref 1 :: as) (none, [(k, s)]) (none, (none, [(k2, s2)]))) (g : Go P M (pc + 3) L rest w' out) : Go P M pc L st w out :=
  go_ch (fun l Z a0 p e R s1 m args below meth c α b n0 h0 uC uS ok hl T locs cells slots I => by
    subst hw' hid
    obtain ⟨hw, fa, hx, hZ, hown, hc, hml, hret, hnm, hR, hn0, htop, hsz⟩ := ok
    obtain ⟨k1, k4, k5, k6, k7, k9, k10⟩ := lk
    obtain ⟨z4, z5⟩ := sm
    obtain ⟨t1, t2, t3⟩ := htop htM
    have Ic := I.2.2.2.2.2.1
    have Is := I.2.2.2.2.2.2.1
    have b1 : cells + (mR M').cells ≤ R.cells := by have := Nat.le_of_ble_eq_true hR1; rw [hR]; omega
    have b2 : slots + (mR M').slots ≤ R.slots := by have := Nat.le_of_ble_eq_true hR2; rw [hR]; omega
    have C := cl l Z a0 [] 0 (b + (cK P.2 + 1) * i) n0 T.heap hw fa (Nat.le_trans hn0 (Nat.le_add_right _ _)) (rep_obj I.2.1 ho) (by rw [k7]; exact Nat.le_refl _) (fun _ => ⟨by rw [I.2.2.2.2.1]; have := hq.1; omega, hq.2.1, hq.2.2⟩)
    have Bk := backOf (Q := CQ P.2 Z 0 (b + (cK P.2 + 1) * i) n0 T.heap (mN M') (none, [(k, s)]) (none, (none, [(k2, s2)]))) (R := R) (p := p) (e := e) (below := below) (s := s1) (args := args) (len := 3) (W := (rest.map fun v => v.category).sum) C hZ (hw _ k5) (by rw [k6]; exact fa.2.1) (by rw [hR]; exact Nat.le_of_ble_eq_true z4) (by rw [hR]; exact Nat.le_of_ble_eq_true z5)
    have hy : (mY M').cls ≠ "java/lang/invoke/MethodHandle" ∧ (mY M').cls ≠ "java/lang/invoke/VarHandle" := by rw [k6]; exact fa.2.2.2.2.2.2
    have hcd := hw _ k5
    rw [k9] at hcd
    obtain ⟨v, vm1, ⟨T2, Lx, kx, nx⟩, -, X2, ⟨L2, hQ, l2, y2, n2⟩, stp⟩ := I.1.specialBack hx (y := mY M') k10 hown (mvT hZ (hw _ k1)) (mvT hZ (hw _ k4)) (mvT hZ hcd) hy Bk (g := mkF m pc (cL α b L) (cV α b st)) rfl (by show (cL α b L).size = c.maxLocals; rw [cL_size, hl, hml]) (Steps.refl _) (a := b + (cK P.2 + 1) * i) (argsL := as) (rest := cV α b rest) (lenOf pd hn) (cV_call hnr hst)
      (by show 2 * 0 + _ ≤ _; rw [cV_sum]; exact Nat.le_of_eq (Nat.zero_add _)) (hb hc d) (fun _ _ => ⟨by rw [show (cV 0 (b + (cK P.2 + 1) * i) (.ref 1 :: as)) = .ref (b + (cK P.2 + 1) * i) :: cV 0 (b + (cK P.2 + 1) * i) as from rfl, cV_nr hnr], rfl, b1, b2⟩)
    dsimp only [Pt.U, Pt.locs, Pt.cells, Pt.slots] at X2 l2 y2 n2 stp hQ
    subst l2 y2 n2
    obtain ⟨rfl, N2, R2, F2, k8⟩ := hQ
    rw [k7] at F2
    exact ⟨T2, _, _, _, inv_obj I ho X2 N2 R2 F2 k8 hC hS b1 b2, fun target r => stp.trans r⟩) g
/-- Object's constructor -/
theorem go_objinit {a : Nat} (k1 : Jvm.Cond.methodLink (mY M).cls idx Lib.objectInit ∈ P.1) (k2 : Jvm.Cond.instanceMethod Lib.objectInit ∈ P.1) (k3 : Jvm.Cond.code Lib.objectInit ⟨#[0xb1]⟩ 1 none ∈ P.1) (z4 : Nat.ble 1 (mR M).frames = true) (z5 : Nat.ble ((rest.map fun v => v.category).sum + 12) (mR M).locals = true)
    (d : decode (mB M) pc = .ok (.invokespecial idx, 3)) (g : Go P M (pc + 3) L rest w out) : Go P M pc L (.ref (a + 1) :: rest) w out :=
  go_ch (fun l Z a0 p e R s1 m args below meth c α b n0 h0 uC uS ok hl T locs cells slots I => by
    obtain ⟨hw, fa, hx, hZ, hown, hc, hml, hret, hnm, hR, hn0, htop, hsz⟩ := ok
    obtain ⟨X, Rp, Fm, Nl, hs, u1, u2, c1, c2, hN⟩ := I
    obtain ⟨T', X', e', stp⟩ := initO X hx hZ hown (hw _ k1) (hw _ k2) (hw _ k3) rfl (g := mkF m pc (cL α b L) (cV α b (.ref (a + 1) :: rest))) rfl (by show (cL α b L).size = c.maxLocals; rw [cL_size, hl, hml]) (a := b + a) (rest := cV α b rest) rfl (hb hc d) (by rw [hR]; exact Nat.le_of_ble_eq_true z4) (W := (rest.map fun v => v.category).sum) (by show 2 * 0 + _ ≤ _; rw [cV_sum]; exact Nat.le_of_eq (Nat.zero_add _)) (by rw [hR]; exact Nat.le_of_ble_eq_true z5)
    exact ⟨T', locs, cells, slots, ⟨X', by rw [e']; exact Rp, by rw [e']; exact Fm, Nl, by rw [e']; exact hs, u1, u2, c1, c2, hN⟩, fun target r => stp target r⟩) g
/-- a new object of the class -/
theorem go_new {n : Nat} (k1 : Jvm.Cond.classLink (mY M).cls idx (cN P.2) ∈ P.1) (htM : mTop M = true) (hn : w.2.length = n) (hq : usedC w = (cK P.2 + 1) * n) (hw' : w' = (w.1, w.2 ++ [(0, s0)])) (hN' : Nat.blt n (mN M) = true) (hR1 : Nat.ble (usedC w + 1) ((mR M).cells + mUC M) = true) (hR2 : Nat.ble (usedS P.2 w + cF P.2) ((mR M).slots + mUS M) = true)
    (d : decode (mB M) pc = .ok (.new idx, 3)) (hid : id = (cK P.2 + 1) * n + 1) (g : Go P M (pc + 3) L (.ref id :: st) w' out) : Go P M pc L st w out :=
  go_ch (fun l Z a0 p e R s1 m args below meth c α b n0 h0 uC uS ok hl T locs cells slots I => by
    subst hw' hid
    obtain ⟨hw, fa, hx, hZ, hown, hc, hml, hret, hnm, hR, hn0, htop, hsz⟩ := ok
    obtain ⟨X, Rp, Fm, Nl, hs, u1, u2, c1, c2, hN⟩ := I
    obtain ⟨t1, t2, t3⟩ := htop htM
    have b1 : cells + 1 ≤ R.cells := by have := Nat.le_of_ble_eq_true hR1; rw [hR]; omega
    have b2 : slots + cF P.2 ≤ R.slots := by have := Nat.le_of_ble_eq_true hR2; rw [hR]; omega
    obtain ⟨T2, h2, X2, e2, E2, A2, D2, -, st2⟩ := newO X hx hZ hown (hw _ k1) fa.1 fa.2.1 rfl (g := mkF m pc (cL α b L) (cV α b st)) rfl (hb hc d) b1 b2
    have ha : T.heap.size = b + (cK P.2 + 1) * n := by rw [hs, t1]; omega
    rw [ha] at A2 D2 st2
    have sz2 : T2.heap.size = T.heap.size + 1 := by
      have q1 := X2.heapSize
      have q2 : b + (cK P.2 + 1) * n < h2.size := A2.lt
      rw [e2] at q1 ⊢
      omega
    refine ⟨T2, locs, _, _, ⟨X2, ?_, by rw [e2]; exact Fm.ext E2, Nl, by rw [sz2, hs]; omega, ?_, ?_, b1, b2, ?_⟩, fun target r => st2 target ?_⟩
    · rw [e2]
      refine ⟨fun l1 h1 => (Rp.ext E2).1 l1 h1, fun j oj hj => ?_⟩
      by_cases q : j < w.2.length
      · rw [show (w.1, w.2 ++ [(0, s0)]).2 = w.2 ++ [(0, s0)] from rfl, List.getElem?_append_left q] at hj
        exact (Rp.ext E2).2 j oj hj
      · have hj' := get_lt hj
        simp at hj'
        have ej : j = n := by omega
        subst ej
        rw [show (w.1, w.2 ++ [(0, s0)]).2 = w.2 ++ [(0, s0)] from rfl, List.getElem?_append_right (by omega)] at hj
        rw [hn] at hj; simp at hj; subst hj
        refine ⟨A2, fun f x hx => ?_, fun q x hx => ?_, fun q x _ hq => absurd hq (Nat.not_lt_zero _)⟩
        · have := D2 (fa.2.2.1 f x hx).1 (fa.2.2.1 f x hx).2
          rw [fa.2.2.2.2.2.1 f x hx] at this
          exact this
        · have := D2 (fa.2.2.2.1 q x hx).1 (fa.2.2.2.1 q x hx).2
          rw [if_neg (Nat.not_lt_zero _)]
          exact this
    · simp [usedC] at u1 ⊢; omega
    · simp [usedS] at u2 ⊢; omega
    · simp; have : n < mN M := by simpa [Nat.blt_eq] using hN'
      omega
    · exact r) g
/-- a new array, laid into its field at once -/
theorem rep_new {Z : State} {a0 : Array Value} {ci : CI} {h h1 h2 : Heap} {b : Nat} {s s' : S} {k : Nat} {nm ds : String} {ty : FieldType} {cap : Nat} {cl : Cell} (fa : Facts Z a0 ci) (F : Rep1 Z ci h b (k, s)) (hf : (cA ci)[k]? = some (nm, ds, ty, cap)) (E : Ext h h1) (A : Arr Z h1 (b + 1 + k) cl ty) (ec : cl.slots = (arV ty s' k).toArray)
    (Wt : Wr h1 h2 b (Jvm.RoadKit.slotOf Z (cN ci) nm ds) (.ref (b + 1 + k))) (ho : ∀ q' x, (cA ci)[q']? = some x → q' ≠ k → arV x.2.2.1 s' q' = arV x.2.2.1 s q') (ha : gI s' = gI s) (hbb : gL s' = gL s) : Rep1 Z ci h2 b (k + 1, s') := by
  obtain ⟨f1, f2, f3, f4⟩ := F
  obtain ⟨-, -, g1, g2, g3, -⟩ := fa
  have lt := get_lt hf
  refine ⟨(f1.ext E).wr Wt, fun f x hx => ?_, fun q x hx => ?_, fun q x hx hq => ?_⟩
  · have e : scV x.2.2 s' f = scV x.2.2 s f := by unfold scV; split <;> simp [ha, hbb]
    have lt' := get_lt hx
    show Fld Z h2 b (cN ci) x.1 x.2.1 (scV x.2.2 s' f)
    rw [e]
    refine ((f2 f x hx).ext E).other Wt (Or.inr ?_)
    refine slot_ne (g1 f x hx).1 (g2 k _ hf).1 ?_ (g1 f x hx).2 (g2 k _ hf).2
    intro en
    have n1 : ((cS ci).map (fun x => x.1) ++ (cA ci).map (fun x => x.1))[f]? = some x.1 := by rw [List.getElem?_append_left (by simpa using lt')]; simp [hx]
    have n2 : ((cS ci).map (fun x => x.1) ++ (cA ci).map (fun x => x.1))[(cS ci).length + k]? = some nm := by rw [List.getElem?_append_right (by simp)]; simp [hf]
    rw [en] at n1
    obtain ⟨i1, j1⟩ := List.getElem?_eq_some_iff.mp n1
    obtain ⟨i2, j2⟩ := List.getElem?_eq_some_iff.mp n2
    have := (List.getElem_inj g3).mp (j1.trans j2.symm)
    omega
  · by_cases e : q = k
    · subst e
      cases hf.symm.trans hx
      rw [if_pos (show q < (q + 1, s').1 from Nat.lt_succ_self q)]
      exact ((f3 q _ hf).ext E).same Wt
    · have lt' := get_lt hx
      have e2 : (if q < (k + 1, s').1 then Value.ref (b + 1 + q) else Value.null) = (if q < (k, s).1 then Value.ref (b + 1 + q) else Value.null) := by
        show (if q < k + 1 then _ else _) = (if q < k then _ else _)
        by_cases q1 : q < k
        · rw [if_pos q1, if_pos (by omega)]
        · rw [if_neg q1, if_neg (by omega)]
      rw [e2]
      refine ((f3 q x hx).ext E).other Wt (Or.inr ?_)
      refine slot_ne (g2 q x hx).1 (g2 k _ hf).1 ?_ (g2 q x hx).2 (g2 k _ hf).2
      intro en
      have n1 : ((cS ci).map (fun x => x.1) ++ (cA ci).map (fun x => x.1))[(cS ci).length + q]? = some x.1 := by rw [List.getElem?_append_right (by simp)]; simp [hx]
      have n2 : ((cS ci).map (fun x => x.1) ++ (cA ci).map (fun x => x.1))[(cS ci).length + k]? = some nm := by rw [List.getElem?_append_right (by simp)]; simp [hf]
      rw [en] at n1
      obtain ⟨i1, j1⟩ := List.getElem?_eq_some_iff.mp n1
      obtain ⟨i2, j2⟩ := List.getElem?_eq_some_iff.mp n2
      have := (List.getElem_inj g3).mp (j1.trans j2.symm)
      omega
  · by_cases e : q = k
    · subst e
      cases hf.symm.trans hx
      exact ⟨cl, A.other Wt (nq (by omega)), ec⟩
    · obtain ⟨c, B, eb⟩ := f4 q x hx (by have : q < k + 1 := hq; show q < k; omega)
      refine ⟨c, (B.ext E).other Wt (nq (by omega)), eb.trans ?_⟩
      rw [ho q x hx e]
theorem go_newV {aty : ArrayType} {ty : FieldType} {nm ds : String} {cap : Nat} {n : Int32} {s' : S} (hty : newarray.typeOf aty = ty) (ha : (cA P.2)[k]? = some (nm, ds, ty, cap)) (k0 : Jvm.Cond.arrayClass ty ∈ P.1) (k1 : Jvm.Cond.fieldLink (cN P.2) idx (cN P.2) nm ds ∈ P.1) (hM : (mY M).cls = cN P.2)
    (hlays : Jvm.Cond.lays (cN P.2) (cN P.2) nm ds ∈ P.1 ∨ (Jvm.Cond.laysFinal (cN P.2) (cN P.2) nm ds ∈ P.1 ∧ (mY M).name = "<init>")) (htM : mTop M = true) (hp : 0 < mN M) (hn : ¬ n < 0) (hcap : Nat.ble n.toNatClampNeg cap = true) (hbig : Nat.ble (cap * 8) 536870912 = true)
    (hR1 : Nat.ble (1 + k + 1) ((mR M).cells + mUC M) = true) (hR2 : Nat.ble (usedS P.2 (none, [(k, s)]) + cap) ((mR M).slots + mUS M) = true)
    (hv : arV ty s' k = List.replicate n.toNatClampNeg (defaultValue ty)) (hoth : ∀ q' x, (cA P.2)[q']? = some x → q' ≠ k → arV x.2.2.1 s' q' = arV x.2.2.1 s q') (hgI : gI s' = gI s) (hgL : gL s' = gL s)
    (d : decode (mB M) pc = .ok (.newarray aty, 2)) (d2 : decode (mB M) (pc + 2) = .ok (.putfield idx, 3)) (g : Go P M (pc + 5) L st (none, [(k + 1, s')]) out) : Go P M pc L (.int n :: .ref 1 :: st) (none, [(k, s)]) out :=
  go_ch (fun l Z a0 p e R s1 m args below meth c α b n0 h0 uC uS ok hl T locs cells slots I => by
    obtain ⟨hw, fa, hx, hZ, hown, hc, hml, hret, hnm, hR, hn0, htop, hsz⟩ := ok
    obtain ⟨X, Rp, Fm, Nl, hs, u1, u2, c1, c2, hN⟩ := I
    obtain ⟨t1, t2, t3⟩ := htop htM
    have u1' : cells + uC = 1 + k := by simpa [usedC] using u1
    have b1 : cells + 1 ≤ R.cells := by have := Nat.le_of_ble_eq_true hR1; rw [hR]; omega
    have b2 : slots + cap ≤ R.slots := by have := Nat.le_of_ble_eq_true hR2; rw [hR]; omega
    subst hty
    obtain ⟨T2, h2, cA2, X2, e2, E2, A2, st2⟩ := newP X hx hZ (hw _ k0) rfl (g := mkF m pc (cL α b L) (.int n :: .ref b :: cV α b st)) rfl (hb hc d) rfl hn (Nat.le_of_ble_eq_true hcap) (Nat.le_of_ble_eq_true hbig) b1 b2
    have hadr : T.heap.size = b + 1 + k := by rw [hs, t1]; omega
    rw [hadr] at A2 st2
    have sz2 : T2.heap.size = T.heap.size + 1 := by
      have q1 := X2.heapSize
      have q2 : b + 1 + k < h2.size := A2.lt
      rw [e2] at q1 ⊢
      omega
    have Rp1 := rep_one Rp
    have Fd := Rp1.2.2.1 k _ ha
    rw [if_neg (show ¬ k < (k, s).1 from Nat.lt_irrefl k)] at Fd
    rw [hM] at hown
    obtain ⟨T3, h3, X3, e3, Wt, st3⟩ := putF X2 hx hZ hown (host := "") (Or.inl (hw _ k1)) Via.refl e2 (Fd.ext E2) (Rp1.1.ext E2) (hlays.imp (fun q => hw _ q) (fun q => ⟨hw _ q.1, rfl, hnm.trans q.2⟩)) fa.1 (fa.2.2.2.1 k _ ha).2 (v := .ref (b + 1 + k)) rfl rfl (g := mkF m (pc + 2) (cL α b L) (.ref (b + 1 + k) :: .ref b :: cV α b st)) rfl rfl (hb hc d2)
    refine ⟨T3, _, _, _, ⟨X3, rep_mk (by rw [e3]; exact rep_new fa Rp1 ha E2 A2 (by rw [hv]; simp [newA]) Wt hoth hgI hgL), by rw [e3]; exact (Fm.ext E2).wr Wt (Nat.le_refl _) (by have := Nat.mul_le_mul_left (cK P.2 + 1) hp; omega), Fr.snoc X3 Nl hn0, by rw [e3, Wt.size, ← e2, sz2, hs]; omega, by simp [usedC]; omega, ?_, b1, b2, hN⟩, fun target r => st2 target (st3 target r)⟩
    have hk := get_lt ha
    simp only [usedS, List.map_cons, List.map_nil, List.sum_cons, List.sum_nil] at u2 ⊢
    rw [List.take_add_one, List.map_append, List.sum_append, ha]
    simp [List.map_take] at u2 ⊢; omega) g
theorem go_newI {aty : ArrayType} {ty : FieldType} {nm ds : String} {cap : Nat} {n : Int32} (hty : newarray.typeOf aty = ty) (hi : ty = .int ∨ ty = .boolean ∨ ty = .byte) (ha : (cA P.2)[k]? = some (nm, ds, ty, cap)) (k0 : Jvm.Cond.arrayClass ty ∈ P.1) (k1 : Jvm.Cond.fieldLink (cN P.2) idx (cN P.2) nm ds ∈ P.1) (hM : (mY M).cls = cN P.2)
    (hlays : Jvm.Cond.lays (cN P.2) (cN P.2) nm ds ∈ P.1 ∨ (Jvm.Cond.laysFinal (cN P.2) (cN P.2) nm ds ∈ P.1 ∧ (mY M).name = "<init>")) (htM : mTop M = true) (hp : 0 < mN M) (hn : ¬ n < 0) (hcap : Nat.ble n.toNatClampNeg cap = true) (hbig : Nat.ble (cap * 8) 536870912 = true)
    (hR1 : Nat.ble (1 + k + 1) ((mR M).cells + mUC M) = true) (hR2 : Nat.ble (usedS P.2 (none, [(k, s)]) + cap) ((mR M).slots + mUS M) = true)
    (d : decode (mB M) pc = .ok (.newarray aty, 2)) (d2 : decode (mB M) (pc + 2) = .ok (.putfield idx, 3)) (g : Go P M (pc + 5) L st (none, [(k + 1, sA s k (rep n.toNatClampNeg 0))]) out) : Go P M pc L (.int n :: .ref 1 :: st) (none, [(k, s)]) out :=
  go_newV hty ha k0 k1 hM hlays htM hp hn hcap hbig hR1 hR2 (by rcases hi with rfl | rfl | rfl <;> simp [arV, gA_sA, defaultValue, rep]) (fun q' x _ h => arV_sA s k _ _ q' h) rfl rfl d d2 g
theorem go_newJ {nm ds : String} {cap : Nat} {n : Int32} (ha : (cA P.2)[k]? = some (nm, ds, .long, cap)) (k0 : Jvm.Cond.arrayClass .long ∈ P.1) (k1 : Jvm.Cond.fieldLink (cN P.2) idx (cN P.2) nm ds ∈ P.1) (hM : (mY M).cls = cN P.2)
    (hlays : Jvm.Cond.lays (cN P.2) (cN P.2) nm ds ∈ P.1 ∨ (Jvm.Cond.laysFinal (cN P.2) (cN P.2) nm ds ∈ P.1 ∧ (mY M).name = "<init>")) (htM : mTop M = true) (hp : 0 < mN M) (hn : ¬ n < 0) (hcap : Nat.ble n.toNatClampNeg cap = true) (hbig : Nat.ble (cap * 8) 536870912 = true)
    (hR1 : Nat.ble (1 + k + 1) ((mR M).cells + mUC M) = true) (hR2 : Nat.ble (usedS P.2 (none, [(k, s)]) + cap) ((mR M).slots + mUS M) = true)
    (d : decode (mB M) pc = .ok (.newarray .long, 2)) (d2 : decode (mB M) (pc + 2) = .ok (.putfield idx, 3)) (g : Go P M (pc + 5) L st (none, [(k + 1, sB s k (rep n.toNatClampNeg 0))]) out) : Go P M pc L (.int n :: .ref 1 :: st) (none, [(k, s)]) out :=
  go_newV (aty := .long) (ty := .long) rfl ha k0 k1 hM hlays htM hp hn hcap hbig hR1 hR2 (by simp [arV, gB_sB, defaultValue, rep]) (fun q' x _ h => arV_sB s k _ _ q' h) rfl rfl d d2 g
end Rules
/-! ## the start -/
theorem tsw_out {x : Int32} {lo hi : Int} (h1 : -2147483648 ≤ lo) (h2 : hi < 2147483648) (ks : List Int32) (hk : ks = ((List.range (hi - lo + 1).toNat).map fun (j : Nat) => Int32.ofInt (lo + (j : Int)))) (hx : ∀ k ∈ ks, x ≠ k) : x.toInt < lo ∨ x.toInt > hi := by
  by_cases q1 : x.toInt < lo
  · exact Or.inl q1
  by_cases q2 : x.toInt > hi
  · exact Or.inr q2
  refine absurd rfl (hx x ?_)
  rw [hk, List.mem_map]
  refine ⟨(x.toInt - lo).toNat, List.mem_range.mpr (by omega), ?_⟩
  rw [show lo + (((x.toInt - lo).toNat : Nat) : Int) = x.toInt by omega]
  exact Int32.ofInt_toInt x
theorem list_of_array {V : Type} (a : Array V) (f : Nat → V) (h : ∀ j, j < a.size → a[j]? = some (f j)) : a = ((List.range a.size).map f).toArray := by
  apply Array.ext'
  apply List.ext_getElem?
  intro j
  by_cases q : j < a.size
  · simpa [q] using h j q
  · simp [q]
theorem small_len {n : Nat} {k : Int32} (h : n < 2 ^ 31) (q : n.toInt32 ≤ k) : (n : Int) ≤ k.toInt := by
  have e : (Int32.ofNat n).toInt = n := Int32.toInt_ofNat_of_lt h
  have := Int32.le_iff_toInt_le.mp q
  rwa [show n.toInt32.toInt = n from e] at this
theorem script_of {s : State} {args : Array Value} {t : Term} {k : Int32} (hf : Fit s) (h1 : (Cond.arrayOf t .int).value args s none s [] = some true) (h2 : (Cond.le (.length t) (.int k)).value args s none s [] = some true) :
    ∃ (a : Nat) (l : List Int32), t.eval args s none [] s = some (.ref a) ∧ Ar s s.heap a .int (l.map .int) ∧ a < s.heap.size ∧ (l.length : Int) ≤ k.toInt := by
  obtain ⟨a, ev⟩ := arr_v h1
  obtain ⟨c, A⟩ := Arr.start ev h1
  obtain ⟨x, y, ex, ey, -, -⟩ := cmp_v (Or.inr (Or.inr h2))
  obtain ⟨b, cell, e1, e2, e3, ev2⟩ := Jvm.Lib.length_spec ex
  have ea : b = a := by rw [ev] at e1; cases e1; rfl
  have ec : cell = c := by
    have := Arr.fin (Vm.Alike.refl _) A
    rw [ea, this] at e2; cases e2; rfl
  subst ea ec ev2
  obtain ⟨n, en, S⟩ := Scr.start hf A e3
  have hle : cell.slots.size.toInt32 ≤ k := by
    have ek : (Term.int k).eval args s none [] s = some (.int k) := rfl
    simp only [Cond.value, ex, ek] at h2
    simpa using h2
  refine ⟨b, (List.range cell.slots.size).map fun j => atv cell (Int32.ofNat j), ev, ⟨cell, A, ?_⟩, A.lt, ?_⟩
  · rw [List.map_map]
    refine list_of_array cell.slots _ fun j hj => ?_
    have e4 : (Int32.ofNat j).toNatClampNeg = j := by
      have : (Int32.ofNat j).toInt = j := Int32.toInt_ofNat_of_lt (by omega)
      simp [Int32.toNatClampNeg, this]
    have e5 : ¬ (Int32.ofNat j < 0) := by
      rw [Int32.lt_iff_toInt_lt, Int32.toInt_ofNat_of_lt (by omega)]; simp
    have := S.2.2.2 (Int32.ofNat j) (by rw [e4]; rintro (q | q); exact e5 q; omega)
    rw [e4] at this
    exact this
  · simpa using small_len e3 hle
theorem repW_none (Z : State) (ci : CI) (α b : Nat) (h : Heap) : RepW Z ci α b (none, []) h := ⟨fun l hl => (by cases hl), fun i o ho => (by simp at ho)⟩
theorem repW_some {Z : State} {ci : CI} {α b : Nat} {h : Heap} {l : List Int32} (A : Ar Z h α .int (l.map .int)) (q : α < b) : RepW Z ci α b (some l, []) h := ⟨fun l' hl => by cases hl; exact ⟨A, q⟩, fun i o ho => by simp at ho⟩
end Jvm.AM
/-! ## plain lemmas on ints, arrays and updates -/
namespace Jvm.PL
open Jvm.AM
theorem ofNat_toInt {k : Nat} (h : k < 2147483648) : (Int32.ofNat k).toInt = k := Int32.toInt_ofNat_of_lt h
theorem ofNat_lt {k m : Nat} (hk : k < 2147483648) (hm : m < 2147483648) : Int32.ofNat k < Int32.ofNat m ↔ k < m := by
  rw [Int32.lt_iff_toInt_lt, ofNat_toInt hk, ofNat_toInt hm]; omega
theorem lt_lit {k m : Nat} (hk : k < 2147483648) (hm : m < 2147483648 := by decide) : Int32.ofNat k < (OfNat.ofNat m : Int32) ↔ k < m := ofNat_lt hk hm
theorem ofNat_succ (k : Nat) : Int32.ofNat k + 1 = Int32.ofNat (k + 1) := by
  rw [Int32.ofNat_add]; rfl
theorem ofNat_nonneg {k : Nat} (hk : k < 2147483648) : ¬ Int32.ofNat k < 0 := by rw [Int32.lt_iff_toInt_lt, ofNat_toInt hk]; simp
theorem ofNat_clamp {k : Nat} (hk : k < 2147483648) : (Int32.ofNat k).toNatClampNeg = k := by simp [Int32.toNatClampNeg, ofNat_toInt hk]
theorem ix_ofNat {A : Type} (l : List A) {k : Nat} (hk : k < 2147483648) : ix l (Int32.ofNat k) = l[k]? := by
  unfold ix; rw [if_neg (ofNat_nonneg hk), ofNat_clamp hk]
theorem st_ofNat {A : Type} (l : List A) (x : A) {k : Nat} (hk : k < 2147483648) (hl : k < l.length) : Jvm.AM.st l (Int32.ofNat k) x = some (l.set k x) := by
  unfold Jvm.AM.st; rw [if_neg (ofNat_nonneg hk), ofNat_clamp hk, if_pos hl]
theorem toInt_clamp {v : Int32} (h : ¬ v < 0) : (v.toNatClampNeg : Int) = v.toInt := by
  rw [Int32.lt_iff_toInt_lt] at h
  simp only [Int32.toNatClampNeg]
  have : (0 : Int32).toInt = 0 := rfl
  omega
theorem eq_ofNat {v : Int32} (h : ¬ v < 0) : v = Int32.ofNat v.toNatClampNeg ∧ v.toNatClampNeg < 2147483648 := by
  have h1 := toInt_clamp h
  have h2 := v.toInt_lt
  have h3 : v.toNatClampNeg < 2147483648 := by omega
  refine ⟨Int32.toInt_inj.mp ?_, h3⟩
  rw [ofNat_toInt h3]; exact h1.symm
theorem ix_rep {A : Type} {v : Int32} {n : Nat} {x : A} (h0 : ¬ v < 0) (h1 : v < Int32.ofNat n) (hn : n < 2147483648) : ix (rep n x) v = some x := by
  obtain ⟨e, hl⟩ := eq_ofNat h0
  rw [e] at h1 ⊢
  have h2 := (ofNat_lt hl hn).mp h1
  rw [ix_ofNat _ hl, rep_get, if_pos h2]
theorem ix_nat {A : Type} (l : List A) {v : Int32} (h0 : ¬ v < 0) : ix l v = l[v.toNatClampNeg]? := by unfold ix; rw [if_neg h0]
theorem st_nat {A : Type} (l : List A) {v : Int32} {x : A} (h0 : ¬ v < 0) (hl : v.toNatClampNeg < l.length) : Jvm.AM.st l v x = some (l.set v.toNatClampNeg x) := by
  unfold Jvm.AM.st; rw [if_neg h0, if_pos hl]
theorem clamp_lt {v : Int32} {n : Nat} (h0 : ¬ v < 0) (h1 : v < Int32.ofNat n) (hn : n < 2147483648) : v.toNatClampNeg < n := by
  obtain ⟨e, hl⟩ := eq_ofNat h0
  rw [e] at h1
  exact (ofNat_lt hl hn).mp h1
theorem clamp_inj {v w : Int32} (h0 : ¬ v < 0) (h1 : ¬ w < 0) : v.toNatClampNeg = w.toNatClampNeg ↔ v = w := by
  constructor
  · intro h
    have a := toInt_clamp h0
    have b := toInt_clamp h1
    exact Int32.toInt_inj.mp (by omega)
  · intro h; rw [h]
end Jvm.PL
namespace Jvm.PL
open Jvm.AM
/-- all but the named fields and arrays is as it was -/
def Fx (I L A B : List Nat) (s s' : S) : Prop := (∀ f, f ∉ I → gI s' f = gI s f) ∧ (∀ f, f ∉ L → gL s' f = gL s f) ∧ (∀ f, f ∉ A → gA s' f = gA s f) ∧ (∀ f, f ∉ B → gB s' f = gB s f)
theorem Fx.refl (I L A B : List Nat) (s : S) : Fx I L A B s s := ⟨fun _ _ => rfl, fun _ _ => rfl, fun _ _ => rfl, fun _ _ => rfl⟩
theorem Fx.trans {I L A B : List Nat} {s t u : S} (h : Fx I L A B s t) (k : Fx I L A B t u) : Fx I L A B s u :=
  ⟨fun f q => (k.1 f q).trans (h.1 f q), fun f q => (k.2.1 f q).trans (h.2.1 f q), fun f q => (k.2.2.1 f q).trans (h.2.2.1 f q), fun f q => (k.2.2.2 f q).trans (h.2.2.2 f q)⟩
theorem Fx.mono {I L A B I' L' A' B' : List Nat} {s t : S} (h : Fx I L A B s t) (a : ∀ f ∈ I, f ∈ I') (b : ∀ f ∈ L, f ∈ L') (c : ∀ f ∈ A, f ∈ A') (d : ∀ f ∈ B, f ∈ B') : Fx I' L' A' B' s t :=
  ⟨fun f q => h.1 f fun x => q (a f x), fun f q => h.2.1 f fun x => q (b f x), fun f q => h.2.2.1 f fun x => q (c f x), fun f q => h.2.2.2 f fun x => q (d f x)⟩
theorem Fx.sA {I L A B : List Nat} {s t : S} {f : Nat} {l : List Int32} (h : Fx I L A B s t) (hf : f ∈ A) : Fx I L A B s (Jvm.AM.sA t f l) :=
  ⟨fun g q => (gI_sA _ _ _ _).trans (h.1 g q), fun g q => (gL_sA _ _ _ _).trans (h.2.1 g q), fun g q => by rw [gA_sA, if_neg (fun e : g = f => q (e ▸ hf))]; exact h.2.2.1 g q, fun g q => (gB_sA _ _ _ _).trans (h.2.2.2 g q)⟩
theorem Fx.sI {I L A B : List Nat} {s t : S} {f : Nat} {l : Int32} (h : Fx I L A B s t) (hf : f ∈ I) : Fx I L A B s (Jvm.AM.sI t f l) :=
  ⟨fun g q => by rw [gI_sI, if_neg (fun e : g = f => q (e ▸ hf))]; exact h.1 g q, fun g q => (gL_sI _ _ _ _).trans (h.2.1 g q), fun g q => (gA_sI _ _ _ _).trans (h.2.2.1 g q), fun g q => (gB_sI _ _ _ _).trans (h.2.2.2 g q)⟩
theorem Fx.sL {I L A B : List Nat} {s t : S} {f : Nat} {l : Int64} (h : Fx I L A B s t) (hf : f ∈ L) : Fx I L A B s (Jvm.AM.sL t f l) :=
  ⟨fun g q => (gI_sL _ _ _ _).trans (h.1 g q), fun g q => by rw [gL_sL, if_neg (fun e : g = f => q (e ▸ hf))]; exact h.2.1 g q, fun g q => (gA_sL _ _ _ _).trans (h.2.2.1 g q), fun g q => (gB_sL _ _ _ _).trans (h.2.2.2 g q)⟩
theorem Fx.sB {I L A B : List Nat} {s t : S} {f : Nat} {l : List Int64} (h : Fx I L A B s t) (hf : f ∈ B) : Fx I L A B s (Jvm.AM.sB t f l) :=
  ⟨fun g q => (gI_sB _ _ _ _).trans (h.1 g q), fun g q => (gL_sB _ _ _ _).trans (h.2.1 g q), fun g q => (gA_sB _ _ _ _).trans (h.2.2.1 g q), fun g q => by rw [gB_sB, if_neg (fun e : g = f => q (e ▸ hf))]; exact h.2.2.2 g q⟩
theorem ofNat_add' (a b : Nat) : Int32.ofNat a + Int32.ofNat b = Int32.ofNat (a + b) := (Int32.ofNat_add a b).symm
/-- the first k entries are x -/
def Upto {A : Type} (l : List A) (k : Nat) (x : A) : Prop := ∀ i, i < k → l[i]? = some x
theorem Upto.zero {A : Type} (l : List A) (x : A) : Upto l 0 x := fun _ h => absurd h (Nat.not_lt_zero _)
theorem Upto.set {A : Type} {l : List A} {k : Nat} {x : A} (h : Upto l k x) (hk : k < l.length) : Upto (l.set k x) (k + 1) x := fun i hi => by
  by_cases e : i = k
  · subst e; simp [hk]
  · rw [List.getElem?_set_ne (Ne.symm e)]; exact h i (by omega)
theorem Upto.all {A : Type} {l : List A} {k : Nat} {x : A} (h : Upto l k x) (hk : l.length = k) : l = rep k x := by
  apply List.ext_getElem?
  intro i
  rw [rep_get]
  by_cases q : i < k
  · rw [if_pos q]; exact h i q
  · rw [if_neg q, List.getElem?_eq_none (by omega)]
end Jvm.PL
namespace Jvm.PL
open Jvm.AM
/-- a loop by its invariant; m: the turns that are left -/
theorem run_loop {A B : Type} (L : Nat → A → B) (F : A → B) (I : Nat → A → Prop) (h : ∀ n m a, I (m + 1) a → ∃ a', L (n + 1) a = L n a' ∧ I m a') (h0 : ∀ n a, I 0 a → L (n + 1) a = F a) : ∀ m n a, m < n → I m a → ∃ a', L n a = F a' ∧ I 0 a'
  | 0, n + 1, a, _, i => ⟨a, h0 n a i, i⟩
  | m + 1, n + 1, a, q, i => by
    obtain ⟨a', e, i'⟩ := h n m a i
    obtain ⟨a'', e', i''⟩ := run_loop L F I h h0 m n a' (by omega) i'
    exact ⟨a'', e.trans e', i''⟩
/-- 'for k in 0 .. N' -/
theorem run_for {B : Type} (L : Nat → Int32 → S → B) (F : S → B) (N : Nat) (I : Nat → S → Prop) (h : ∀ n k s, k < N → I k s → ∃ s', L (n + 1) (Int32.ofNat k) s = L n (Int32.ofNat (k + 1)) s' ∧ I (k + 1) s') (h0 : ∀ n s, I N s → L (n + 1) (Int32.ofNat N) s = F s) (n : Nat) (s : S) (hn : N < n) (i : I 0 s) :
    ∃ s', L n (Int32.ofNat 0) s = F s' ∧ I N s' := by
  obtain ⟨a, e, k, hk, ea, ia⟩ := run_loop (fun n (a : Int32 × S) => L n a.1 a.2) (fun a => F a.2) (fun m a => ∃ k, k + m = N ∧ a.1 = Int32.ofNat k ∧ I k a.2)
    (fun n m a ⟨k, h1, h2, h3⟩ => by
      obtain ⟨s', e, i'⟩ := h n k a.2 (by omega) h3
      exact ⟨(Int32.ofNat (k + 1), s'), by show L (n + 1) a.1 a.2 = _; rw [h2]; exact e, k + 1, by omega, rfl, i'⟩)
    (fun n a ⟨k, h1, h2, h3⟩ => by
      have : k = N := by omega
      subst this
      show L (n + 1) a.1 a.2 = _; rw [h2]; exact h0 n a.2 h3) N n (Int32.ofNat 0, s) hn ⟨0, by omega, rfl, i⟩
  have : k = N := by omega
  subst this
  exact ⟨a.2, e, ia⟩
end Jvm.PL
namespace Jvm.PL
open Jvm.AM
/-- the end test of a loop over a script -/
theorem len_lt {n k c : Nat} (hn : n ≤ 100000) (hk : k ≤ 100000) (hc : c ≤ 100000) : (n.toInt32 - Int32.ofNat c) < Int32.ofNat k ↔ n < k + c := by
  rw [Int32.lt_iff_toInt_lt, Int32.toInt_sub, show n.toInt32 = Int32.ofNat n from rfl, ofNat_toInt (by omega), ofNat_toInt (by omega), ofNat_toInt (by omega)]
  have : ((n : Int) - c).bmod (2 ^ 32) = n - c := by
    rw [Int.bmod_eq_of_le] <;> omega
  rw [this]; omega
/-- a loop over a script, c entries a turn: it ends in what every way out says -/
theorem run_script {A B : Type} (L : Nat → Int32 → A → B) (c len : Nat) (hc : 0 < c) (P : B → Prop) (I : Nat → A → Prop) (h : ∀ n k a, k + c ≤ len → I k a → P (L (n + 1) (Int32.ofNat k) a) ∨ ∃ a', L (n + 1) (Int32.ofNat k) a = L n (Int32.ofNat (k + c)) a' ∧ I (k + c) a') (h0 : ∀ n k a, k ≤ len → len < k + c → I k a → P (L (n + 1) (Int32.ofNat k) a)) : ∀ n k a, len < n + k → k ≤ len → I k a → P (L n (Int32.ofNat k) a)
  | 0, k, a, hn, hk, i => by omega
  | n + 1, k, a, hn, hk, i => by
    by_cases q : k + c ≤ len
    · rcases h n k a q i with p | ⟨a', e, i'⟩
      · exact p
      · rw [e]; exact run_script L c len hc P I h h0 n (k + c) a' (by omega) q i'
    · exact h0 n k a hk (by omega) i
theorem ix_some {A : Type} (l : List A) {k : Nat} (hk : k < 2147483648) (hl : k < l.length) : ∃ x, ix l (Int32.ofNat k) = some x := ⟨l[k], by rw [ix_ofNat _ hk, List.getElem?_eq_getElem hl]⟩
theorem ofNat_lit (a b : Nat) : Int32.ofNat a + (OfNat.ofNat b : Int32) = Int32.ofNat (a + b) := ofNat_add' a b
end Jvm.PL
namespace Jvm.PL
open Jvm.AM
theorem upd_same {A : Type} (g : Nat → A) (f : Nat) (a b : A) : aupd (aupd g f a) f b = aupd g f b := by
  funext x; unfold aupd; by_cases q : x = f <;> simp [q]
theorem upd_comm {A : Type} (g : Nat → A) {f h : Nat} (n : f ≠ h) (a b : A) : aupd (aupd g f a) h b = aupd (aupd g h b) f a := by
  funext x; unfold aupd
  by_cases q : x = f
  · have : ¬ f = h := n
    simp [q, this]
  · by_cases r : x = h
    · rw [if_pos r, if_neg q, if_pos r]
    · rw [if_neg r, if_neg q, if_neg q, if_neg r]
theorem sA_same (s : S) (f : Nat) (a b : List Int32) : Jvm.AM.sA (Jvm.AM.sA s f a) f b = Jvm.AM.sA s f b := by
  unfold Jvm.AM.sA; simp only [upd_same]
theorem sA_comm (s : S) {f h : Nat} (n : f ≠ h) (a b : List Int32) : Jvm.AM.sA (Jvm.AM.sA s f a) h b = Jvm.AM.sA (Jvm.AM.sA s h b) f a := by
  unfold Jvm.AM.sA; simp only; rw [upd_comm _ n]
end Jvm.PL
/-! ## rows of bits -/
namespace Jvm.PL
open Jvm.AM Jvm.Free
def bt (w : Int32) (y : Nat) : Bool := w.toBitVec.getLsbD y
theorem bt_zero (y : Nat) : bt 0 y = false := by simp [bt]
theorem bt_or (a b : Int32) (y : Nat) : bt (a ||| b) y = (bt a y || bt b y) := by simp [bt]
theorem bt_and (a b : Int32) (y : Nat) : bt (a &&& b) y = (bt a y && bt b y) := by simp [bt]
theorem bt_ge (w : Int32) {y : Nat} (h : 32 ≤ y) : bt w y = false := by unfold bt; exact BitVec.getLsbD_of_ge _ _ h
theorem bt_m1 {y : Nat} (h : y < 32) : bt (-1) y = true := by
  unfold bt
  rw [show (-1 : Int32).toBitVec = BitVec.allOnes 32 from rfl, BitVec.getLsbD_allOnes]
  simp [h]
theorem bt_not (a : Int32) {y : Nat} (h : y < 32) : bt (a ^^^ (-1)) y = !bt a y := by
  have := bt_m1 h
  unfold bt at *
  rw [Int32.toBitVec_xor, BitVec.getLsbD_xor, this]; simp
theorem bt_andn (a b : Int32) (y : Nat) : bt (a &&& (b ^^^ (-1))) y = (bt a y && !bt b y) := by
  rw [bt_and]
  by_cases h : y < 32
  · rw [bt_not b h]
  · rw [bt_ge a (by omega)]; simp
theorem bt_ext {a b : Int32} (h : ∀ y, y < 32 → bt a y = bt b y) : a = b := by
  apply Int32.toBitVec_inj.mp
  apply BitVec.eq_of_getLsbD_eq
  intro i hi
  exact h i hi
theorem bt_eq0 {w : Int32} : w = 0 ↔ ∀ y, y < 32 → bt w y = false := by
  constructor
  · rintro rfl y _; exact bt_zero y
  · intro h; exact bt_ext fun y hy => by rw [h y hy, bt_zero]
theorem ushr_bit (w : Int32) {y : Nat} (hy : y < 32) : (XT.ushr w (Int32.ofNat y)).toBitVec = w.toBitVec >>> y := by
  unfold XT.ushr
  have h1 : ((Int32.ofNat y &&& 31).toUInt32.toBitVec).toNat = y := by
    show ((Int32.ofNat y &&& 31).toBitVec).toNat = y
    rw [Int32.toBitVec_and, BitVec.toNat_and]
    have e1 : (Int32.ofNat y).toBitVec.toNat = y := by
      show (BitVec.ofNat 32 y).toNat = y
      rw [BitVec.toNat_ofNat]; omega
    have e2 : (31 : Int32).toBitVec.toNat = 31 := rfl
    rw [e1, e2, show 31 = 2 ^ 5 - 1 from rfl, Nat.and_two_pow_sub_one_eq_mod]; omega
  show (w.toUInt32 >>> (Int32.ofNat y &&& 31).toUInt32).toBitVec = _
  rw [UInt32.toBitVec_shiftRight]
  show w.toBitVec >>> ((Int32.ofNat y &&& 31).toUInt32.toBitVec % 32) = _
  rw [BitVec.ushiftRight_eq']
  congr 1
  rw [BitVec.toNat_umod, h1]
  show y % 32 = y
  omega
theorem and1 (w : Int32) : (w &&& 1 = 0) ↔ bt w 0 = false := by
  constructor
  · intro h
    have : bt (w &&& 1) 0 = false := by rw [h, bt_zero]
    rw [bt_and] at this
    simpa [show bt 1 0 = true from rfl] using this
  · intro h
    refine bt_ext fun y hy => ?_
    rw [bt_and, bt_zero]
    cases y with
    | zero => rw [h]; rfl
    | succ y =>
      have : bt 1 (y + 1) = false := by
        unfold bt
        show (1#32).getLsbD (y + 1) = false
        simp [BitVec.getLsbD_one]
      rw [this]; simp
theorem test_bit (w : Int32) {y : Nat} (hy : y < 32) : (XT.ushr w (Int32.ofNat y) &&& 1 = 0) ↔ bt w y = false := by
  rw [and1]
  unfold bt
  rw [ushr_bit w hy]; simp
theorem shl_bit {b : Nat} (hb : b < 32) (y : Nat) : bt ((1 : Int32) <<< (Int32.ofNat b &&& 31)) y = decide (y = b) := by
  have h1 : (Int32.ofNat b &&& 31) = Int32.ofNat b := by
    apply Int32.toBitVec_inj.mp
    rw [Int32.toBitVec_and]
    apply BitVec.eq_of_toNat_eq
    rw [BitVec.toNat_and]
    have e1 : (Int32.ofNat b).toBitVec.toNat = b := by
      show (BitVec.ofNat 32 b).toNat = b
      rw [BitVec.toNat_ofNat]; omega
    have e2 : (31 : Int32).toBitVec.toNat = 31 := rfl
    rw [e1, e2, show 31 = 2 ^ 5 - 1 from rfl, Nat.and_two_pow_sub_one_eq_mod]; omega
  rw [h1]
  unfold bt
  have e : ((1 : Int32) <<< Int32.ofNat b).toBitVec = (1#32) <<< b := by
    rw [Int32.toBitVec_shiftLeft]
    show (1#32) <<< ((Int32.ofNat b).toBitVec.smod 32) = _
    have : (Int32.ofNat b).toBitVec.smod 32 = BitVec.ofNat 32 b := by
      have hz : ∀ b : Fin 32, (Int32.ofNat b.val).toBitVec.smod 32 = BitVec.ofNat 32 b.val := by decide
      exact hz ⟨b, hb⟩
    rw [this, BitVec.shiftLeft_eq']
    congr 1
    rw [BitVec.toNat_ofNat]; omega
  rw [e]
  simp only [BitVec.getLsbD_shiftLeft, BitVec.getLsbD_one]
  by_cases h : y = b
  · subst h; simp [hb]
  · simp [h]; omega
end Jvm.PL
namespace Jvm.Pilot.@@N@@
open Jvm Jvm.ClassFile Sem Op Lib Jvm.Free Jvm.Stand Jvm.LawKit Jvm.RoadKit Jvm.AM Jvm.PL Jvm.Pilot.@@N@@.Jvm.D
def ci1 : CI := ("NullCheckOpt", 37, [("roleNone", "I", .int), ("roleReg", "I", .int), ("roleOff", "I", .int), ("roleImm", "I", .int), ("stepLimit", "I", .int), ("passLimit", "I", .int), ("allFacts", "I", .int), ("cells", "I", .int), ("progLen", "I", .int), ("compiled", "Z", .boolean), ("lastOutcome", "I", .int), ("lastResult", "I", .int), ("outCount", "I", .int), ("scanDepth", "I", .int), ("scanLoops", "I", .int)], [("progOp", "[I", .int, 32), ("progA", "[I", .int, 32), ("progB", "[I", .int, 32), ("progC", "[I", .int, 32), ("blockEnd", "[I", .int, 32), ("blockElse", "[I", .int, 32), ("blockOpener", "[I", .int, 32), ("scanStack", "[I", .int, 4), ("scanHasElse", "[Z", .boolean, 4), ("initialHeap", "[I", .int, 64), ("heapAfter", "[I", .int, 64), ("outputs", "[I", .int, 32), ("regs", "[I", .int, 8), ("loopLeft", "[I", .int, 32), ("skipCheck", "[Z", .boolean, 32), ("hoistMask", "[I", .int, 32), ("factIn", "[I", .int, 33), ("nextIn", "[I", .int, 33), ("succA", "[I", .int, 33), ("succB", "[I", .int, 33), ("gainA", "[I", .int, 33), ("gainB", "[I", .int, 33)])
def PP : PI := (tables_1, ci1)
def BIG : Nat := 1000000
def m0 : Meth := (⟨"NullCheckOpt", "<init>", "(I)V"⟩, prog_1_method_1_code, 3, none, { frames := 1, cells := 22, slots := 694, locals := 12 }, 1, true, 1, 37)
def m1 : Meth := (⟨"NullCheckOpt", "setCell", "(II)Z"⟩, prog_1_method_17_code, 3, (some .boolean), { frames := 0, cells := 0, slots := 0, locals := 0 }, 1, false, 0, 0)
def m2 : Meth := (⟨"NullCheckOpt", "roleOfA", "(I)I"⟩, prog_1_method_4_code, 2, (some .int), { frames := 0, cells := 0, slots := 0, locals := 0 }, 1, false, 0, 0)
def m3 : Meth := (⟨"NullCheckOpt", "roleOfB", "(I)I"⟩, prog_1_method_5_code, 2, (some .int), { frames := 0, cells := 0, slots := 0, locals := 0 }, 1, false, 0, 0)
def m4 : Meth := (⟨"NullCheckOpt", "roleOfC", "(I)I"⟩, prog_1_method_6_code, 2, (some .int), { frames := 0, cells := 0, slots := 0, locals := 0 }, 1, false, 0, 0)
def m5 : Meth := (⟨"NullCheckOpt", "fits", "(II)Z"⟩, prog_1_method_7_code, 3, (some .boolean), { frames := 0, cells := 0, slots := 0, locals := 0 }, 1, false, 0, 0)
def m6 : Meth := (⟨"NullCheckOpt", "kept", "(II)I"⟩, prog_1_method_8_code, 3, (some .int), { frames := 0, cells := 0, slots := 0, locals := 0 }, 1, false, 0, 0)
def m7 : Meth := (⟨"NullCheckOpt", "add", "(IIII)I"⟩, prog_1_method_3_code, 9, (some .int), { frames := 1, cells := 0, slots := 0, locals := 16 }, 1, false, 0, 0)
def m8 : Meth := (⟨"NullCheckOpt", "scanOne", "(I)I"⟩, prog_1_method_10_code, 3, (some .int), { frames := 0, cells := 0, slots := 0, locals := 0 }, 1, false, 0, 0)
def m9 : Meth := (⟨"NullCheckOpt", "compile", "()I"⟩, prog_1_method_9_code, 3, (some .int), { frames := 1, cells := 0, slots := 0, locals := 14 }, 1, false, 0, 0)
def m10 : Meth := (⟨"NullCheckOptL3", "init", "(IIII)I"⟩, method_2_code, 4, (some .int), { frames := 0, cells := 0, slots := 0, locals := 0 }, 1, false, 0, 0)
def m11 : Meth := (⟨"NullCheckOpt", "resetRun", "()V"⟩, prog_1_method_20_code, 2, none, { frames := 0, cells := 0, slots := 0, locals := 0 }, 1, false, 0, 0)
def m12 : Meth := (⟨"NullCheckOpt", "clearMarks", "()V"⟩, prog_1_method_21_code, 2, none, { frames := 0, cells := 0, slots := 0, locals := 0 }, 1, false, 0, 0)
def m13 : Meth := (⟨"NullCheckOpt", "bitOf", "(I)I"⟩, prog_1_method_37_code, 2, (some .int), { frames := 0, cells := 0, slots := 0, locals := 0 }, 1, false, 0, 0)
def m14 : Meth := (⟨"NullCheckOpt", "edgesOf", "(I)V"⟩, prog_1_method_41_code, 4, none, { frames := 1, cells := 0, slots := 0, locals := 13 }, 1, false, 0, 0)
def m15 : Meth := (⟨"NullCheckOpt", "buildEdges", "()V"⟩, prog_1_method_40_code, 2, none, { frames := 2, cells := 0, slots := 0, locals := 28 }, 1, false, 0, 0)
def m16 : Meth := (⟨"NullCheckOpt", "hasFact", "(II)Z"⟩, prog_1_method_38_code, 3, (some .boolean), { frames := 1, cells := 0, slots := 0, locals := 14 }, 1, false, 0, 0)
def m17 : Meth := (⟨"NullCheckOpt", "withFact", "(IIZ)I"⟩, prog_1_method_39_code, 5, (some .int), { frames := 1, cells := 0, slots := 0, locals := 14 }, 1, false, 0, 0)
def m18 : Meth := (⟨"NullCheckOpt", "transferLoad", "(IIII)I"⟩, prog_1_method_49_code, 6, (some .int), { frames := 2, cells := 0, slots := 0, locals := 30 }, 1, false, 0, 0)
def m19 : Meth := (⟨"NullCheckOpt", "transferStore", "(III)I"⟩, prog_1_method_50_code, 4, (some .int), { frames := 1, cells := 0, slots := 0, locals := 14 }, 1, false, 0, 0)
def m20 : Meth := (⟨"NullCheckOpt", "transfer", "(II)I"⟩, prog_1_method_48_code, 8, (some .int), { frames := 3, cells := 0, slots := 0, locals := 47 }, 1, false, 0, 0)
def m21 : Meth := (⟨"NullCheckOpt", "meetInto", "(II)V"⟩, prog_1_method_47_code, 3, none, { frames := 0, cells := 0, slots := 0, locals := 0 }, 1, false, 0, 0)
def m22 : Meth := (⟨"NullCheckOpt", "propagate", "(I)V"⟩, prog_1_method_46_code, 3, none, { frames := 4, cells := 0, slots := 0, locals := 66 }, 1, false, 0, 0)
def m23 : Meth := (⟨"NullCheckOpt", "relaxOnce", "()Z"⟩, prog_1_method_45_code, 3, (some .boolean), { frames := 5, cells := 0, slots := 0, locals := 80 }, 1, false, 0, 0)
def m24 : Meth := (⟨"NullCheckOpt", "solveFacts", "()Z"⟩, prog_1_method_44_code, 2, (some .boolean), { frames := 6, cells := 0, slots := 0, locals := 94 }, 1, false, 0, 0)
def m25 : Meth := (⟨"NullCheckOpt", "removeRedundant", "()V"⟩, prog_1_method_51_code, 2, none, { frames := 2, cells := 0, slots := 0, locals := 28 }, 1, false, 0, 0)
def m26 : Meth := (⟨"NullCheckOpt", "hoistInvariant", "()V"⟩, prog_1_method_52_code, 2, none, { frames := 0, cells := 0, slots := 0, locals := 0 }, 1, false, 0, 0)
def m27 : Meth := (⟨"NullCheckOpt", "dereferencesNext", "(I)Z"⟩, prog_1_method_57_code, 4, (some .boolean), { frames := 0, cells := 0, slots := 0, locals := 0 }, 1, false, 0, 0)
def m28 : Meth := (⟨"NullCheckOpt", "foldImplicit", "()V"⟩, prog_1_method_56_code, 2, none, { frames := 1, cells := 0, slots := 0, locals := 15 }, 1, false, 0, 0)
def m29 : Meth := (⟨"NullCheckOpt", "optimise", "()V"⟩, prog_1_method_36_code, 2, none, { frames := 7, cells := 0, slots := 0, locals := 107 }, 1, false, 0, 0)
def m30 : Meth := (⟨"NullCheckOpt", "finish", "(II)V"⟩, prog_1_method_23_code, 3, none, { frames := 0, cells := 0, slots := 0, locals := 0 }, 1, false, 0, 0)
def m31 : Meth := (⟨"NullCheckOpt", "accessTrap", "(I)I"⟩, prog_1_method_25_code, 2, (some .int), { frames := 0, cells := 0, slots := 0, locals := 0 }, 1, false, 0, 0)
def m32 : Meth := (⟨"NullCheckOpt", "execLoad", "(I)I"⟩, prog_1_method_26_code, 5, (some .int), { frames := 1, cells := 0, slots := 0, locals := 14 }, 1, false, 0, 0)
def m33 : Meth := (⟨"NullCheckOpt", "execStore", "(I)I"⟩, prog_1_method_27_code, 5, (some .int), { frames := 1, cells := 0, slots := 0, locals := 14 }, 1, false, 0, 0)
def m34 : Meth := (⟨"NullCheckOpt", "execCheck", "(I)I"⟩, prog_1_method_28_code, 2, (some .int), { frames := 1, cells := 0, slots := 0, locals := 14 }, 1, false, 0, 0)
def m35 : Meth := (⟨"NullCheckOpt", "emit", "(I)V"⟩, prog_1_method_29_code, 2, none, { frames := 0, cells := 0, slots := 0, locals := 0 }, 1, false, 0, 0)
def m36 : Meth := (⟨"NullCheckOpt", "executeAt", "(I)I"⟩, prog_1_method_24_code, 3, (some .int), { frames := 2, cells := 0, slots := 0, locals := 30 }, 1, false, 0, 0)
def m37 : Meth := (⟨"NullCheckOpt", "execute", "()V"⟩, prog_1_method_22_code, 3, none, { frames := 3, cells := 0, slots := 0, locals := 44 }, 1, false, 0, 0)
def m38 : Meth := (⟨"NullCheckOpt", "run", "(Z)I"⟩, prog_1_method_19_code, 2, (some .int), { frames := 8, cells := 0, slots := 0, locals := 120 }, 1, false, 0, 0)
def m39 : Meth := (⟨"NullCheckOpt", "getOutcome", "()I"⟩, prog_1_method_58_code, 1, (some .int), { frames := 0, cells := 0, slots := 0, locals := 0 }, 1, false, 0, 0)
def m40 : Meth := (⟨"NullCheckOpt", "getResult", "()I"⟩, prog_1_method_59_code, 1, (some .int), { frames := 0, cells := 0, slots := 0, locals := 0 }, 1, false, 0, 0)
def m41 : Meth := (⟨"NullCheckOpt", "getOutputCount", "()I"⟩, prog_1_method_60_code, 1, (some .int), { frames := 0, cells := 0, slots := 0, locals := 0 }, 1, false, 0, 0)
def m42 : Meth := (⟨"NullCheckOpt", "getOutput", "(I)I"⟩, prog_1_method_61_code, 2, (some .int), { frames := 0, cells := 0, slots := 0, locals := 0 }, 1, false, 0, 0)
def m43 : Meth := (⟨"NullCheckOpt", "getHeapAfter", "(I)I"⟩, prog_1_method_62_code, 2, (some .int), { frames := 0, cells := 0, slots := 0, locals := 0 }, 1, false, 0, 0)
def m44 : Meth := (⟨"NullCheckOpt", "getRegAfter", "(I)I"⟩, prog_1_method_63_code, 2, (some .int), { frames := 0, cells := 0, slots := 0, locals := 0 }, 1, false, 0, 0)
def m45 : Meth := (x, code, maxLocals, ret, room_1, 1, true, 0, 0)
theorem ar_0 : (cA PP.2)[0]? = some ("progOp", "[I", .int, 32) := rfl
theorem ar_1 : (cA PP.2)[1]? = some ("progA", "[I", .int, 32) := rfl
theorem ar_2 : (cA PP.2)[2]? = some ("progB", "[I", .int, 32) := rfl
theorem ar_3 : (cA PP.2)[3]? = some ("progC", "[I", .int, 32) := rfl
theorem ar_4 : (cA PP.2)[4]? = some ("blockEnd", "[I", .int, 32) := rfl
theorem ar_5 : (cA PP.2)[5]? = some ("blockElse", "[I", .int, 32) := rfl
theorem ar_6 : (cA PP.2)[6]? = some ("blockOpener", "[I", .int, 32) := rfl
theorem ar_7 : (cA PP.2)[7]? = some ("scanStack", "[I", .int, 4) := rfl
theorem ar_8 : (cA PP.2)[8]? = some ("scanHasElse", "[Z", .boolean, 4) := rfl
theorem ar_9 : (cA PP.2)[9]? = some ("initialHeap", "[I", .int, 64) := rfl
theorem ar_10 : (cA PP.2)[10]? = some ("heapAfter", "[I", .int, 64) := rfl
theorem ar_11 : (cA PP.2)[11]? = some ("outputs", "[I", .int, 32) := rfl
theorem ar_12 : (cA PP.2)[12]? = some ("regs", "[I", .int, 8) := rfl
theorem ar_13 : (cA PP.2)[13]? = some ("loopLeft", "[I", .int, 32) := rfl
theorem ar_14 : (cA PP.2)[14]? = some ("skipCheck", "[Z", .boolean, 32) := rfl
theorem ar_15 : (cA PP.2)[15]? = some ("hoistMask", "[I", .int, 32) := rfl
theorem ar_16 : (cA PP.2)[16]? = some ("factIn", "[I", .int, 33) := rfl
theorem ar_17 : (cA PP.2)[17]? = some ("nextIn", "[I", .int, 33) := rfl
theorem ar_18 : (cA PP.2)[18]? = some ("succA", "[I", .int, 33) := rfl
theorem ar_19 : (cA PP.2)[19]? = some ("succB", "[I", .int, 33) := rfl
theorem ar_20 : (cA PP.2)[20]? = some ("gainA", "[I", .int, 33) := rfl
theorem ar_21 : (cA PP.2)[21]? = some ("gainB", "[I", .int, 33) := rfl
theorem fs_7 : FldS PP 7 0 .int := ⟨_, _, rfl, List.mem_of_getElem? (i := 9) rfl⟩
theorem fs_13 : FldS PP 13 1 .int := ⟨_, _, rfl, List.mem_of_getElem? (i := 11) rfl⟩
theorem fs_16 : FldS PP 16 2 .int := ⟨_, _, rfl, List.mem_of_getElem? (i := 13) rfl⟩
theorem fs_19 : FldS PP 19 3 .int := ⟨_, _, rfl, List.mem_of_getElem? (i := 15) rfl⟩
theorem fs_22 : FldS PP 22 4 .int := ⟨_, _, rfl, List.mem_of_getElem? (i := 17) rfl⟩
theorem fs_25 : FldS PP 25 5 .int := ⟨_, _, rfl, List.mem_of_getElem? (i := 19) rfl⟩
theorem fs_28 : FldS PP 28 6 .int := ⟨_, _, rfl, List.mem_of_getElem? (i := 21) rfl⟩
theorem fa_31 : FldA PP 31 0 .int := ⟨_, _, _, rfl, List.mem_of_getElem? (i := 24) rfl⟩
theorem fa_35 : FldA PP 35 1 .int := ⟨_, _, _, rfl, List.mem_of_getElem? (i := 26) rfl⟩
theorem fa_38 : FldA PP 38 2 .int := ⟨_, _, _, rfl, List.mem_of_getElem? (i := 28) rfl⟩
theorem fa_41 : FldA PP 41 3 .int := ⟨_, _, _, rfl, List.mem_of_getElem? (i := 30) rfl⟩
theorem fa_44 : FldA PP 44 4 .int := ⟨_, _, _, rfl, List.mem_of_getElem? (i := 32) rfl⟩
theorem fa_47 : FldA PP 47 5 .int := ⟨_, _, _, rfl, List.mem_of_getElem? (i := 34) rfl⟩
theorem fa_50 : FldA PP 50 6 .int := ⟨_, _, _, rfl, List.mem_of_getElem? (i := 36) rfl⟩
theorem fa_53 : FldA PP 53 7 .int := ⟨_, _, _, rfl, List.mem_of_getElem? (i := 38) rfl⟩
theorem fa_56 : FldA PP 56 8 .boolean := ⟨_, _, _, rfl, List.mem_of_getElem? (i := 41) rfl⟩
theorem fa_60 : FldA PP 60 9 .int := ⟨_, _, _, rfl, List.mem_of_getElem? (i := 43) rfl⟩
theorem fa_63 : FldA PP 63 10 .int := ⟨_, _, _, rfl, List.mem_of_getElem? (i := 45) rfl⟩
theorem fa_66 : FldA PP 66 11 .int := ⟨_, _, _, rfl, List.mem_of_getElem? (i := 47) rfl⟩
theorem fa_69 : FldA PP 69 12 .int := ⟨_, _, _, rfl, List.mem_of_getElem? (i := 49) rfl⟩
theorem fa_72 : FldA PP 72 13 .int := ⟨_, _, _, rfl, List.mem_of_getElem? (i := 51) rfl⟩
theorem fa_75 : FldA PP 75 14 .boolean := ⟨_, _, _, rfl, List.mem_of_getElem? (i := 53) rfl⟩
theorem fa_78 : FldA PP 78 15 .int := ⟨_, _, _, rfl, List.mem_of_getElem? (i := 55) rfl⟩
theorem fa_81 : FldA PP 81 16 .int := ⟨_, _, _, rfl, List.mem_of_getElem? (i := 57) rfl⟩
theorem fa_84 : FldA PP 84 17 .int := ⟨_, _, _, rfl, List.mem_of_getElem? (i := 59) rfl⟩
theorem fa_87 : FldA PP 87 18 .int := ⟨_, _, _, rfl, List.mem_of_getElem? (i := 61) rfl⟩
theorem fa_90 : FldA PP 90 19 .int := ⟨_, _, _, rfl, List.mem_of_getElem? (i := 63) rfl⟩
theorem fa_93 : FldA PP 93 20 .int := ⟨_, _, _, rfl, List.mem_of_getElem? (i := 65) rfl⟩
theorem fa_96 : FldA PP 96 21 .int := ⟨_, _, _, rfl, List.mem_of_getElem? (i := 67) rfl⟩
theorem fs_99 : FldS PP 99 7 .int := ⟨_, _, rfl, List.mem_of_getElem? (i := 69) rfl⟩
theorem fs_102 : FldS PP 102 8 .int := ⟨_, _, rfl, List.mem_of_getElem? (i := 71) rfl⟩
theorem fs_105 : FldS PP 105 9 .boolean := ⟨_, _, rfl, List.mem_of_getElem? (i := 73) rfl⟩
theorem fs_109 : FldS PP 109 10 .int := ⟨_, _, rfl, List.mem_of_getElem? (i := 75) rfl⟩
theorem fs_112 : FldS PP 112 11 .int := ⟨_, _, rfl, List.mem_of_getElem? (i := 77) rfl⟩
theorem fs_115 : FldS PP 115 12 .int := ⟨_, _, rfl, List.mem_of_getElem? (i := 79) rfl⟩
theorem fs_136 : FldS PP 136 13 .int := ⟨_, _, rfl, List.mem_of_getElem? (i := 116) rfl⟩
theorem fs_139 : FldS PP 139 14 .int := ⟨_, _, rfl, List.mem_of_getElem? (i := 118) rfl⟩
theorem wr_0 : Wrt PP m0 0 := ⟨_, _, _, rfl, Or.inr ⟨List.mem_of_getElem? (i := 10) rfl, rfl⟩⟩
theorem wr_1 : Wrt PP m0 1 := ⟨_, _, _, rfl, Or.inr ⟨List.mem_of_getElem? (i := 12) rfl, rfl⟩⟩
theorem wr_2 : Wrt PP m0 2 := ⟨_, _, _, rfl, Or.inr ⟨List.mem_of_getElem? (i := 14) rfl, rfl⟩⟩
theorem wr_3 : Wrt PP m0 3 := ⟨_, _, _, rfl, Or.inr ⟨List.mem_of_getElem? (i := 16) rfl, rfl⟩⟩
theorem wr_4 : Wrt PP m0 4 := ⟨_, _, _, rfl, Or.inr ⟨List.mem_of_getElem? (i := 18) rfl, rfl⟩⟩
theorem wr_5 : Wrt PP m0 5 := ⟨_, _, _, rfl, Or.inr ⟨List.mem_of_getElem? (i := 20) rfl, rfl⟩⟩
theorem wr_6 : Wrt PP m0 6 := ⟨_, _, _, rfl, Or.inr ⟨List.mem_of_getElem? (i := 22) rfl, rfl⟩⟩
theorem wr_7 (M : Meth) : Wrt PP M 7 := ⟨_, _, _, rfl, Or.inl (List.mem_of_getElem? (i := 70) rfl)⟩
theorem wr_8 (M : Meth) : Wrt PP M 8 := ⟨_, _, _, rfl, Or.inl (List.mem_of_getElem? (i := 72) rfl)⟩
theorem wr_9 (M : Meth) : Wrt PP M 9 := ⟨_, _, _, rfl, Or.inl (List.mem_of_getElem? (i := 74) rfl)⟩
theorem wr_10 (M : Meth) : Wrt PP M 10 := ⟨_, _, _, rfl, Or.inl (List.mem_of_getElem? (i := 76) rfl)⟩
theorem wr_11 (M : Meth) : Wrt PP M 11 := ⟨_, _, _, rfl, Or.inl (List.mem_of_getElem? (i := 78) rfl)⟩
theorem wr_12 (M : Meth) : Wrt PP M 12 := ⟨_, _, _, rfl, Or.inl (List.mem_of_getElem? (i := 80) rfl)⟩
theorem wr_13 (M : Meth) : Wrt PP M 13 := ⟨_, _, _, rfl, Or.inl (List.mem_of_getElem? (i := 117) rfl)⟩
theorem wr_14 (M : Meth) : Wrt PP M 14 := ⟨_, _, _, rfl, Or.inl (List.mem_of_getElem? (i := 119) rfl)⟩
theorem oid_0 : 1 = (cK PP.2 + 1) * 0 + 1 := rfl
theorem pl_0 : plainName "NullCheckOpt" = true := by first | (simp [plainName, overriddenIn]; done) | decide +kernel
theorem pl_1 : plainName "NullCheckOptL3" = true := by first | (simp [plainName, overriddenIn]; done) | decide +kernel
theorem hm_0 : (mY m0).cls = cN PP.2 := rfl
theorem hn_0 : 0 < mN m0 := by decide
theorem pd_0 : parseMethodDescriptor (mY m0).desc = some ⟨[.int], none⟩ := by decide +kernel
theorem hm_1 : (mY m1).cls = cN PP.2 := rfl
theorem hn_1 : 0 < mN m1 := by decide
theorem pd_1 : parseMethodDescriptor (mY m1).desc = some ⟨[.int, .int], (some .boolean)⟩ := by decide +kernel
theorem hm_2 : (mY m2).cls = cN PP.2 := rfl
theorem hn_2 : 0 < mN m2 := by decide
theorem pd_2 : parseMethodDescriptor (mY m2).desc = some ⟨[.int], (some .int)⟩ := by decide +kernel
theorem hm_3 : (mY m3).cls = cN PP.2 := rfl
theorem hn_3 : 0 < mN m3 := by decide
theorem pd_3 : parseMethodDescriptor (mY m3).desc = some ⟨[.int], (some .int)⟩ := by decide +kernel
theorem hm_4 : (mY m4).cls = cN PP.2 := rfl
theorem hn_4 : 0 < mN m4 := by decide
theorem pd_4 : parseMethodDescriptor (mY m4).desc = some ⟨[.int], (some .int)⟩ := by decide +kernel
theorem hm_5 : (mY m5).cls = cN PP.2 := rfl
theorem hn_5 : 0 < mN m5 := by decide
theorem pd_5 : parseMethodDescriptor (mY m5).desc = some ⟨[.int, .int], (some .boolean)⟩ := by decide +kernel
theorem hm_6 : (mY m6).cls = cN PP.2 := rfl
theorem hn_6 : 0 < mN m6 := by decide
theorem pd_6 : parseMethodDescriptor (mY m6).desc = some ⟨[.int, .int], (some .int)⟩ := by decide +kernel
theorem hm_7 : (mY m7).cls = cN PP.2 := rfl
theorem hn_7 : 0 < mN m7 := by decide
theorem pd_7 : parseMethodDescriptor (mY m7).desc = some ⟨[.int, .int, .int, .int], (some .int)⟩ := by decide +kernel
theorem hm_8 : (mY m8).cls = cN PP.2 := rfl
theorem hn_8 : 0 < mN m8 := by decide
theorem pd_8 : parseMethodDescriptor (mY m8).desc = some ⟨[.int], (some .int)⟩ := by decide +kernel
theorem hm_9 : (mY m9).cls = cN PP.2 := rfl
theorem hn_9 : 0 < mN m9 := by decide
theorem pd_9 : parseMethodDescriptor (mY m9).desc = some ⟨[], (some .int)⟩ := by decide +kernel
theorem hn_10 : 0 < mN m10 := by decide
theorem pd_10 : parseMethodDescriptor (mY m10).desc = some ⟨[.int, .int, .int, .int], (some .int)⟩ := by decide +kernel
theorem hm_11 : (mY m11).cls = cN PP.2 := rfl
theorem hn_11 : 0 < mN m11 := by decide
theorem pd_11 : parseMethodDescriptor (mY m11).desc = some ⟨[], none⟩ := by decide +kernel
theorem hm_12 : (mY m12).cls = cN PP.2 := rfl
theorem hn_12 : 0 < mN m12 := by decide
theorem pd_12 : parseMethodDescriptor (mY m12).desc = some ⟨[], none⟩ := by decide +kernel
theorem hm_13 : (mY m13).cls = cN PP.2 := rfl
theorem hn_13 : 0 < mN m13 := by decide
theorem pd_13 : parseMethodDescriptor (mY m13).desc = some ⟨[.int], (some .int)⟩ := by decide +kernel
theorem hm_14 : (mY m14).cls = cN PP.2 := rfl
theorem hn_14 : 0 < mN m14 := by decide
theorem pd_14 : parseMethodDescriptor (mY m14).desc = some ⟨[.int], none⟩ := by decide +kernel
theorem hm_15 : (mY m15).cls = cN PP.2 := rfl
theorem hn_15 : 0 < mN m15 := by decide
theorem pd_15 : parseMethodDescriptor (mY m15).desc = some ⟨[], none⟩ := by decide +kernel
theorem hm_16 : (mY m16).cls = cN PP.2 := rfl
theorem hn_16 : 0 < mN m16 := by decide
theorem pd_16 : parseMethodDescriptor (mY m16).desc = some ⟨[.int, .int], (some .boolean)⟩ := by decide +kernel
theorem hm_17 : (mY m17).cls = cN PP.2 := rfl
theorem hn_17 : 0 < mN m17 := by decide
theorem pd_17 : parseMethodDescriptor (mY m17).desc = some ⟨[.int, .int, .boolean], (some .int)⟩ := by decide +kernel
theorem hm_18 : (mY m18).cls = cN PP.2 := rfl
theorem hn_18 : 0 < mN m18 := by decide
theorem pd_18 : parseMethodDescriptor (mY m18).desc = some ⟨[.int, .int, .int, .int], (some .int)⟩ := by decide +kernel
theorem hm_19 : (mY m19).cls = cN PP.2 := rfl
theorem hn_19 : 0 < mN m19 := by decide
theorem pd_19 : parseMethodDescriptor (mY m19).desc = some ⟨[.int, .int, .int], (some .int)⟩ := by decide +kernel
theorem hm_20 : (mY m20).cls = cN PP.2 := rfl
theorem hn_20 : 0 < mN m20 := by decide
theorem pd_20 : parseMethodDescriptor (mY m20).desc = some ⟨[.int, .int], (some .int)⟩ := by decide +kernel
theorem hm_21 : (mY m21).cls = cN PP.2 := rfl
theorem hn_21 : 0 < mN m21 := by decide
theorem pd_21 : parseMethodDescriptor (mY m21).desc = some ⟨[.int, .int], none⟩ := by decide +kernel
theorem hm_22 : (mY m22).cls = cN PP.2 := rfl
theorem hn_22 : 0 < mN m22 := by decide
theorem pd_22 : parseMethodDescriptor (mY m22).desc = some ⟨[.int], none⟩ := by decide +kernel
theorem hm_23 : (mY m23).cls = cN PP.2 := rfl
theorem hn_23 : 0 < mN m23 := by decide
theorem pd_23 : parseMethodDescriptor (mY m23).desc = some ⟨[], (some .boolean)⟩ := by decide +kernel
theorem hm_24 : (mY m24).cls = cN PP.2 := rfl
theorem hn_24 : 0 < mN m24 := by decide
theorem pd_24 : parseMethodDescriptor (mY m24).desc = some ⟨[], (some .boolean)⟩ := by decide +kernel
theorem hm_25 : (mY m25).cls = cN PP.2 := rfl
theorem hn_25 : 0 < mN m25 := by decide
theorem pd_25 : parseMethodDescriptor (mY m25).desc = some ⟨[], none⟩ := by decide +kernel
theorem hm_26 : (mY m26).cls = cN PP.2 := rfl
theorem hn_26 : 0 < mN m26 := by decide
theorem pd_26 : parseMethodDescriptor (mY m26).desc = some ⟨[], none⟩ := by decide +kernel
theorem hm_27 : (mY m27).cls = cN PP.2 := rfl
theorem hn_27 : 0 < mN m27 := by decide
theorem pd_27 : parseMethodDescriptor (mY m27).desc = some ⟨[.int], (some .boolean)⟩ := by decide +kernel
theorem hm_28 : (mY m28).cls = cN PP.2 := rfl
theorem hn_28 : 0 < mN m28 := by decide
theorem pd_28 : parseMethodDescriptor (mY m28).desc = some ⟨[], none⟩ := by decide +kernel
theorem hm_29 : (mY m29).cls = cN PP.2 := rfl
theorem hn_29 : 0 < mN m29 := by decide
theorem pd_29 : parseMethodDescriptor (mY m29).desc = some ⟨[], none⟩ := by decide +kernel
theorem hm_30 : (mY m30).cls = cN PP.2 := rfl
theorem hn_30 : 0 < mN m30 := by decide
theorem pd_30 : parseMethodDescriptor (mY m30).desc = some ⟨[.int, .int], none⟩ := by decide +kernel
theorem hm_31 : (mY m31).cls = cN PP.2 := rfl
theorem hn_31 : 0 < mN m31 := by decide
theorem pd_31 : parseMethodDescriptor (mY m31).desc = some ⟨[.int], (some .int)⟩ := by decide +kernel
theorem hm_32 : (mY m32).cls = cN PP.2 := rfl
theorem hn_32 : 0 < mN m32 := by decide
theorem pd_32 : parseMethodDescriptor (mY m32).desc = some ⟨[.int], (some .int)⟩ := by decide +kernel
theorem hm_33 : (mY m33).cls = cN PP.2 := rfl
theorem hn_33 : 0 < mN m33 := by decide
theorem pd_33 : parseMethodDescriptor (mY m33).desc = some ⟨[.int], (some .int)⟩ := by decide +kernel
theorem hm_34 : (mY m34).cls = cN PP.2 := rfl
theorem hn_34 : 0 < mN m34 := by decide
theorem pd_34 : parseMethodDescriptor (mY m34).desc = some ⟨[.int], (some .int)⟩ := by decide +kernel
theorem hm_35 : (mY m35).cls = cN PP.2 := rfl
theorem hn_35 : 0 < mN m35 := by decide
theorem pd_35 : parseMethodDescriptor (mY m35).desc = some ⟨[.int], none⟩ := by decide +kernel
theorem hm_36 : (mY m36).cls = cN PP.2 := rfl
theorem hn_36 : 0 < mN m36 := by decide
theorem pd_36 : parseMethodDescriptor (mY m36).desc = some ⟨[.int], (some .int)⟩ := by decide +kernel
theorem hm_37 : (mY m37).cls = cN PP.2 := rfl
theorem hn_37 : 0 < mN m37 := by decide
theorem pd_37 : parseMethodDescriptor (mY m37).desc = some ⟨[], none⟩ := by decide +kernel
theorem hm_38 : (mY m38).cls = cN PP.2 := rfl
theorem hn_38 : 0 < mN m38 := by decide
theorem pd_38 : parseMethodDescriptor (mY m38).desc = some ⟨[.boolean], (some .int)⟩ := by decide +kernel
theorem hm_39 : (mY m39).cls = cN PP.2 := rfl
theorem hn_39 : 0 < mN m39 := by decide
theorem pd_39 : parseMethodDescriptor (mY m39).desc = some ⟨[], (some .int)⟩ := by decide +kernel
theorem hm_40 : (mY m40).cls = cN PP.2 := rfl
theorem hn_40 : 0 < mN m40 := by decide
theorem pd_40 : parseMethodDescriptor (mY m40).desc = some ⟨[], (some .int)⟩ := by decide +kernel
theorem hm_41 : (mY m41).cls = cN PP.2 := rfl
theorem hn_41 : 0 < mN m41 := by decide
theorem pd_41 : parseMethodDescriptor (mY m41).desc = some ⟨[], (some .int)⟩ := by decide +kernel
theorem hm_42 : (mY m42).cls = cN PP.2 := rfl
theorem hn_42 : 0 < mN m42 := by decide
theorem pd_42 : parseMethodDescriptor (mY m42).desc = some ⟨[.int], (some .int)⟩ := by decide +kernel
theorem hm_43 : (mY m43).cls = cN PP.2 := rfl
theorem hn_43 : 0 < mN m43 := by decide
theorem pd_43 : parseMethodDescriptor (mY m43).desc = some ⟨[.int], (some .int)⟩ := by decide +kernel
theorem hm_44 : (mY m44).cls = cN PP.2 := rfl
theorem hn_44 : 0 < mN m44 := by decide
theorem pd_44 : parseMethodDescriptor (mY m44).desc = some ⟨[.int], (some .int)⟩ := by decide +kernel
theorem hn_45 : 0 < mN m45 := by decide
theorem d0_0 : decode (mB m0) 0 = .ok (.aload_n 0, 1) := by decide +kernel
theorem d0_1 : decode (mB m0) 1 = .ok (.invokespecial 1, 3) := by decide +kernel
theorem d0_4 : decode (mB m0) 4 = .ok (.aload_n 0, 1) := by decide +kernel
theorem d0_5 : decode (mB m0) 5 = .ok (.iconst 0, 1) := by decide +kernel
theorem d0_6 : decode (mB m0) 6 = .ok (.putfield 7, 3) := by decide +kernel
theorem d0_9 : decode (mB m0) 9 = .ok (.aload_n 0, 1) := by decide +kernel
theorem d0_10 : decode (mB m0) 10 = .ok (.iconst 1, 1) := by decide +kernel
theorem d0_11 : decode (mB m0) 11 = .ok (.putfield 13, 3) := by decide +kernel
theorem d0_14 : decode (mB m0) 14 = .ok (.aload_n 0, 1) := by decide +kernel
theorem d0_15 : decode (mB m0) 15 = .ok (.iconst 2, 1) := by decide +kernel
theorem d0_16 : decode (mB m0) 16 = .ok (.putfield 16, 3) := by decide +kernel
theorem d0_19 : decode (mB m0) 19 = .ok (.aload_n 0, 1) := by decide +kernel
theorem d0_20 : decode (mB m0) 20 = .ok (.iconst 3, 1) := by decide +kernel
theorem d0_21 : decode (mB m0) 21 = .ok (.putfield 19, 3) := by decide +kernel
theorem d0_24 : decode (mB m0) 24 = .ok (.aload_n 0, 1) := by decide +kernel
theorem d0_25 : decode (mB m0) 25 = .ok (.sipush 4096, 3) := by decide +kernel
theorem d0_28 : decode (mB m0) 28 = .ok (.putfield 22, 3) := by decide +kernel
theorem d0_31 : decode (mB m0) 31 = .ok (.aload_n 0, 1) := by decide +kernel
theorem d0_32 : decode (mB m0) 32 = .ok (.sipush 300, 3) := by decide +kernel
theorem d0_35 : decode (mB m0) 35 = .ok (.putfield 25, 3) := by decide +kernel
theorem d0_38 : decode (mB m0) 38 = .ok (.aload_n 0, 1) := by decide +kernel
theorem d0_39 : decode (mB m0) 39 = .ok (.sipush 255, 3) := by decide +kernel
theorem d0_42 : decode (mB m0) 42 = .ok (.putfield 28, 3) := by decide +kernel
theorem d0_45 : decode (mB m0) 45 = .ok (.aload_n 0, 1) := by decide +kernel
theorem d0_46 : decode (mB m0) 46 = .ok (.bipush 32, 2) := by decide +kernel
theorem d0_48 : decode (mB m0) 48 = .ok (.newarray .int, 2) := by decide +kernel
theorem d0_50 : decode (mB m0) 50 = .ok (.putfield 31, 3) := by decide +kernel
theorem d0_53 : decode (mB m0) 53 = .ok (.aload_n 0, 1) := by decide +kernel
theorem d0_54 : decode (mB m0) 54 = .ok (.bipush 32, 2) := by decide +kernel
theorem d0_56 : decode (mB m0) 56 = .ok (.newarray .int, 2) := by decide +kernel
theorem d0_58 : decode (mB m0) 58 = .ok (.putfield 35, 3) := by decide +kernel
theorem d0_61 : decode (mB m0) 61 = .ok (.aload_n 0, 1) := by decide +kernel
theorem d0_62 : decode (mB m0) 62 = .ok (.bipush 32, 2) := by decide +kernel
theorem d0_64 : decode (mB m0) 64 = .ok (.newarray .int, 2) := by decide +kernel
theorem d0_66 : decode (mB m0) 66 = .ok (.putfield 38, 3) := by decide +kernel
theorem d0_69 : decode (mB m0) 69 = .ok (.aload_n 0, 1) := by decide +kernel
theorem d0_70 : decode (mB m0) 70 = .ok (.bipush 32, 2) := by decide +kernel
theorem d0_72 : decode (mB m0) 72 = .ok (.newarray .int, 2) := by decide +kernel
theorem d0_74 : decode (mB m0) 74 = .ok (.putfield 41, 3) := by decide +kernel
theorem d0_77 : decode (mB m0) 77 = .ok (.aload_n 0, 1) := by decide +kernel
theorem d0_78 : decode (mB m0) 78 = .ok (.bipush 32, 2) := by decide +kernel
theorem d0_80 : decode (mB m0) 80 = .ok (.newarray .int, 2) := by decide +kernel
theorem d0_82 : decode (mB m0) 82 = .ok (.putfield 44, 3) := by decide +kernel
theorem d0_85 : decode (mB m0) 85 = .ok (.aload_n 0, 1) := by decide +kernel
theorem d0_86 : decode (mB m0) 86 = .ok (.bipush 32, 2) := by decide +kernel
theorem d0_88 : decode (mB m0) 88 = .ok (.newarray .int, 2) := by decide +kernel
theorem d0_90 : decode (mB m0) 90 = .ok (.putfield 47, 3) := by decide +kernel
theorem d0_93 : decode (mB m0) 93 = .ok (.aload_n 0, 1) := by decide +kernel
theorem d0_94 : decode (mB m0) 94 = .ok (.bipush 32, 2) := by decide +kernel
theorem d0_96 : decode (mB m0) 96 = .ok (.newarray .int, 2) := by decide +kernel
theorem d0_98 : decode (mB m0) 98 = .ok (.putfield 50, 3) := by decide +kernel
theorem d0_101 : decode (mB m0) 101 = .ok (.aload_n 0, 1) := by decide +kernel
theorem d0_102 : decode (mB m0) 102 = .ok (.iconst 4, 1) := by decide +kernel
theorem d0_103 : decode (mB m0) 103 = .ok (.newarray .int, 2) := by decide +kernel
theorem d0_105 : decode (mB m0) 105 = .ok (.putfield 53, 3) := by decide +kernel
theorem d0_108 : decode (mB m0) 108 = .ok (.aload_n 0, 1) := by decide +kernel
theorem d0_109 : decode (mB m0) 109 = .ok (.iconst 4, 1) := by decide +kernel
theorem d0_110 : decode (mB m0) 110 = .ok (.newarray .boolean, 2) := by decide +kernel
theorem d0_112 : decode (mB m0) 112 = .ok (.putfield 56, 3) := by decide +kernel
theorem d0_115 : decode (mB m0) 115 = .ok (.aload_n 0, 1) := by decide +kernel
theorem d0_116 : decode (mB m0) 116 = .ok (.bipush 64, 2) := by decide +kernel
theorem d0_118 : decode (mB m0) 118 = .ok (.newarray .int, 2) := by decide +kernel
theorem d0_120 : decode (mB m0) 120 = .ok (.putfield 60, 3) := by decide +kernel
theorem d0_123 : decode (mB m0) 123 = .ok (.aload_n 0, 1) := by decide +kernel
theorem d0_124 : decode (mB m0) 124 = .ok (.bipush 64, 2) := by decide +kernel
theorem d0_126 : decode (mB m0) 126 = .ok (.newarray .int, 2) := by decide +kernel
theorem d0_128 : decode (mB m0) 128 = .ok (.putfield 63, 3) := by decide +kernel
theorem d0_131 : decode (mB m0) 131 = .ok (.aload_n 0, 1) := by decide +kernel
theorem d0_132 : decode (mB m0) 132 = .ok (.bipush 32, 2) := by decide +kernel
theorem d0_134 : decode (mB m0) 134 = .ok (.newarray .int, 2) := by decide +kernel
theorem d0_136 : decode (mB m0) 136 = .ok (.putfield 66, 3) := by decide +kernel
theorem d0_139 : decode (mB m0) 139 = .ok (.aload_n 0, 1) := by decide +kernel
theorem d0_140 : decode (mB m0) 140 = .ok (.bipush 8, 2) := by decide +kernel
theorem d0_142 : decode (mB m0) 142 = .ok (.newarray .int, 2) := by decide +kernel
theorem d0_144 : decode (mB m0) 144 = .ok (.putfield 69, 3) := by decide +kernel
theorem d0_147 : decode (mB m0) 147 = .ok (.aload_n 0, 1) := by decide +kernel
theorem d0_148 : decode (mB m0) 148 = .ok (.bipush 32, 2) := by decide +kernel
theorem d0_150 : decode (mB m0) 150 = .ok (.newarray .int, 2) := by decide +kernel
theorem d0_152 : decode (mB m0) 152 = .ok (.putfield 72, 3) := by decide +kernel
theorem d0_155 : decode (mB m0) 155 = .ok (.aload_n 0, 1) := by decide +kernel
theorem d0_156 : decode (mB m0) 156 = .ok (.bipush 32, 2) := by decide +kernel
theorem d0_158 : decode (mB m0) 158 = .ok (.newarray .boolean, 2) := by decide +kernel
theorem d0_160 : decode (mB m0) 160 = .ok (.putfield 75, 3) := by decide +kernel
theorem d0_163 : decode (mB m0) 163 = .ok (.aload_n 0, 1) := by decide +kernel
theorem d0_164 : decode (mB m0) 164 = .ok (.bipush 32, 2) := by decide +kernel
theorem d0_166 : decode (mB m0) 166 = .ok (.newarray .int, 2) := by decide +kernel
theorem d0_168 : decode (mB m0) 168 = .ok (.putfield 78, 3) := by decide +kernel
theorem d0_171 : decode (mB m0) 171 = .ok (.aload_n 0, 1) := by decide +kernel
theorem d0_172 : decode (mB m0) 172 = .ok (.bipush 33, 2) := by decide +kernel
theorem d0_174 : decode (mB m0) 174 = .ok (.newarray .int, 2) := by decide +kernel
theorem d0_176 : decode (mB m0) 176 = .ok (.putfield 81, 3) := by decide +kernel
theorem d0_179 : decode (mB m0) 179 = .ok (.aload_n 0, 1) := by decide +kernel
theorem d0_180 : decode (mB m0) 180 = .ok (.bipush 33, 2) := by decide +kernel
theorem d0_182 : decode (mB m0) 182 = .ok (.newarray .int, 2) := by decide +kernel
theorem d0_184 : decode (mB m0) 184 = .ok (.putfield 84, 3) := by decide +kernel
theorem d0_187 : decode (mB m0) 187 = .ok (.aload_n 0, 1) := by decide +kernel
theorem d0_188 : decode (mB m0) 188 = .ok (.bipush 33, 2) := by decide +kernel
theorem d0_190 : decode (mB m0) 190 = .ok (.newarray .int, 2) := by decide +kernel
theorem d0_192 : decode (mB m0) 192 = .ok (.putfield 87, 3) := by decide +kernel
theorem d0_195 : decode (mB m0) 195 = .ok (.aload_n 0, 1) := by decide +kernel
theorem d0_196 : decode (mB m0) 196 = .ok (.bipush 33, 2) := by decide +kernel
theorem d0_198 : decode (mB m0) 198 = .ok (.newarray .int, 2) := by decide +kernel
theorem d0_200 : decode (mB m0) 200 = .ok (.putfield 90, 3) := by decide +kernel
theorem d0_203 : decode (mB m0) 203 = .ok (.aload_n 0, 1) := by decide +kernel
theorem d0_204 : decode (mB m0) 204 = .ok (.bipush 33, 2) := by decide +kernel
theorem d0_206 : decode (mB m0) 206 = .ok (.newarray .int, 2) := by decide +kernel
theorem d0_208 : decode (mB m0) 208 = .ok (.putfield 93, 3) := by decide +kernel
theorem d0_211 : decode (mB m0) 211 = .ok (.aload_n 0, 1) := by decide +kernel
theorem d0_212 : decode (mB m0) 212 = .ok (.bipush 33, 2) := by decide +kernel
theorem d0_214 : decode (mB m0) 214 = .ok (.newarray .int, 2) := by decide +kernel
theorem d0_216 : decode (mB m0) 216 = .ok (.putfield 96, 3) := by decide +kernel
theorem d0_219 : decode (mB m0) 219 = .ok (.iload_n 1, 1) := by decide +kernel
theorem d0_220 : decode (mB m0) 220 = .ok (.istore_n 2, 1) := by decide +kernel
theorem d0_221 : decode (mB m0) 221 = .ok (.iload_n 2, 1) := by decide +kernel
theorem d0_222 : decode (mB m0) 222 = .ok (.bipush 16, 2) := by decide +kernel
theorem d0_224 : decode (mB m0) 224 = .ok (.if_icmp .ge 6, 3) := by decide +kernel
theorem d0_227 : decode (mB m0) 227 = .ok (.bipush 16, 2) := by decide +kernel
theorem d0_229 : decode (mB m0) 229 = .ok (.istore_n 2, 1) := by decide +kernel
theorem d0_230 : decode (mB m0) 230 = .ok (.iload_n 2, 1) := by decide +kernel
theorem d0_231 : decode (mB m0) 231 = .ok (.bipush 64, 2) := by decide +kernel
theorem d0_233 : decode (mB m0) 233 = .ok (.if_icmp .le 6, 3) := by decide +kernel
theorem d0_236 : decode (mB m0) 236 = .ok (.bipush 64, 2) := by decide +kernel
theorem d0_238 : decode (mB m0) 238 = .ok (.istore_n 2, 1) := by decide +kernel
theorem d0_239 : decode (mB m0) 239 = .ok (.aload_n 0, 1) := by decide +kernel
theorem d0_240 : decode (mB m0) 240 = .ok (.iload_n 2, 1) := by decide +kernel
theorem d0_241 : decode (mB m0) 241 = .ok (.putfield 99, 3) := by decide +kernel
theorem d0_244 : decode (mB m0) 244 = .ok (.aload_n 0, 1) := by decide +kernel
theorem d0_245 : decode (mB m0) 245 = .ok (.iconst 0, 1) := by decide +kernel
theorem d0_246 : decode (mB m0) 246 = .ok (.putfield 102, 3) := by decide +kernel
theorem d0_249 : decode (mB m0) 249 = .ok (.aload_n 0, 1) := by decide +kernel
theorem d0_250 : decode (mB m0) 250 = .ok (.iconst 0, 1) := by decide +kernel
theorem d0_251 : decode (mB m0) 251 = .ok (.putfield 105, 3) := by decide +kernel
theorem d0_254 : decode (mB m0) 254 = .ok (.aload_n 0, 1) := by decide +kernel
theorem d0_255 : decode (mB m0) 255 = .ok (.iconst 0, 1) := by decide +kernel
theorem d0_256 : decode (mB m0) 256 = .ok (.putfield 109, 3) := by decide +kernel
theorem d0_259 : decode (mB m0) 259 = .ok (.aload_n 0, 1) := by decide +kernel
theorem d0_260 : decode (mB m0) 260 = .ok (.iconst 0, 1) := by decide +kernel
theorem d0_261 : decode (mB m0) 261 = .ok (.putfield 112, 3) := by decide +kernel
theorem d0_264 : decode (mB m0) 264 = .ok (.aload_n 0, 1) := by decide +kernel
theorem d0_265 : decode (mB m0) 265 = .ok (.iconst 0, 1) := by decide +kernel
theorem d0_266 : decode (mB m0) 266 = .ok (.putfield 115, 3) := by decide +kernel
theorem d0_269 : decode (mB m0) 269 = .ok (.return_, 1) := by decide +kernel
theorem d1_0 : decode (mB m1) 0 = .ok (.iload_n 1, 1) := by decide +kernel
theorem d1_1 : decode (mB m1) 1 = .ok (.bipush 8, 2) := by decide +kernel
theorem d1_3 : decode (mB m1) 3 = .ok (.if_icmp .lt 17, 3) := by decide +kernel
theorem d1_6 : decode (mB m1) 6 = .ok (.iload_n 1, 1) := by decide +kernel
theorem d1_7 : decode (mB m1) 7 = .ok (.aload_n 0, 1) := by decide +kernel
theorem d1_8 : decode (mB m1) 8 = .ok (.getfield 99, 3) := by decide +kernel
theorem d1_11 : decode (mB m1) 11 = .ok (.if_icmp .ge 9, 3) := by decide +kernel
theorem d1_14 : decode (mB m1) 14 = .ok (.iload_n 1, 1) := by decide +kernel
theorem d1_15 : decode (mB m1) 15 = .ok (.bipush 64, 2) := by decide +kernel
theorem d1_17 : decode (mB m1) 17 = .ok (.if_icmp .lt 5, 3) := by decide +kernel
theorem d1_20 : decode (mB m1) 20 = .ok (.iconst 0, 1) := by decide +kernel
theorem d1_21 : decode (mB m1) 21 = .ok (.ireturn, 1) := by decide +kernel
theorem d1_22 : decode (mB m1) 22 = .ok (.aload_n 0, 1) := by decide +kernel
theorem d1_23 : decode (mB m1) 23 = .ok (.getfield 60, 3) := by decide +kernel
theorem d1_26 : decode (mB m1) 26 = .ok (.iload_n 1, 1) := by decide +kernel
theorem d1_27 : decode (mB m1) 27 = .ok (.iload_n 2, 1) := by decide +kernel
theorem d1_28 : decode (mB m1) 28 = .ok (.iastore, 1) := by decide +kernel
theorem d1_29 : decode (mB m1) 29 = .ok (.iconst 1, 1) := by decide +kernel
theorem d1_30 : decode (mB m1) 30 = .ok (.ireturn, 1) := by decide +kernel
theorem d2_0 : decode (mB m2) 0 = .ok (.iload_n 1, 1) := by decide +kernel
theorem d2_1 : decode (mB m2) 1 = .ok (.bipush 9, 2) := by decide +kernel
theorem d2_3 : decode (mB m2) 3 = .ok (.if_icmp .eq 9, 3) := by decide +kernel
theorem d2_6 : decode (mB m2) 6 = .ok (.iload_n 1, 1) := by decide +kernel
theorem d2_7 : decode (mB m2) 7 = .ok (.bipush 10, 2) := by decide +kernel
theorem d2_9 : decode (mB m2) 9 = .ok (.if_icmp .ne 5, 3) := by decide +kernel
theorem d2_12 : decode (mB m2) 12 = .ok (.iconst 0, 1) := by decide +kernel
theorem d2_13 : decode (mB m2) 13 = .ok (.ireturn, 1) := by decide +kernel
theorem d2_14 : decode (mB m2) 14 = .ok (.iconst 1, 1) := by decide +kernel
theorem d2_15 : decode (mB m2) 15 = .ok (.ireturn, 1) := by decide +kernel
theorem d3_0 : decode (mB m3) 0 = .ok (.iload_n 1, 1) := by decide +kernel
theorem d3_1 : decode (mB m3) 1 = .ok (.iconst 1, 1) := by decide +kernel
theorem d3_2 : decode (mB m3) 2 = .ok (.if_icmp .ne 5, 3) := by decide +kernel
theorem d3_5 : decode (mB m3) 5 = .ok (.iconst 3, 1) := by decide +kernel
theorem d3_6 : decode (mB m3) 6 = .ok (.ireturn, 1) := by decide +kernel
theorem d3_7 : decode (mB m3) 7 = .ok (.iload_n 1, 1) := by decide +kernel
theorem d3_8 : decode (mB m3) 8 = .ok (.iconst 2, 1) := by decide +kernel
theorem d3_9 : decode (mB m3) 9 = .ok (.if_icmp .eq 13, 3) := by decide +kernel
theorem d3_12 : decode (mB m3) 12 = .ok (.iload_n 1, 1) := by decide +kernel
theorem d3_13 : decode (mB m3) 13 = .ok (.iconst 3, 1) := by decide +kernel
theorem d3_14 : decode (mB m3) 14 = .ok (.if_icmp .eq 8, 3) := by decide +kernel
theorem d3_17 : decode (mB m3) 17 = .ok (.iload_n 1, 1) := by decide +kernel
theorem d3_18 : decode (mB m3) 18 = .ok (.iconst 4, 1) := by decide +kernel
theorem d3_19 : decode (mB m3) 19 = .ok (.if_icmp .ne 5, 3) := by decide +kernel
theorem d3_22 : decode (mB m3) 22 = .ok (.iconst 1, 1) := by decide +kernel
theorem d3_23 : decode (mB m3) 23 = .ok (.ireturn, 1) := by decide +kernel
theorem d3_24 : decode (mB m3) 24 = .ok (.iload_n 1, 1) := by decide +kernel
theorem d3_25 : decode (mB m3) 25 = .ok (.iconst 5, 1) := by decide +kernel
theorem d3_26 : decode (mB m3) 26 = .ok (.if_icmp .ne 5, 3) := by decide +kernel
theorem d3_29 : decode (mB m3) 29 = .ok (.iconst 2, 1) := by decide +kernel
theorem d3_30 : decode (mB m3) 30 = .ok (.ireturn, 1) := by decide +kernel
theorem d3_31 : decode (mB m3) 31 = .ok (.iconst 0, 1) := by decide +kernel
theorem d3_32 : decode (mB m3) 32 = .ok (.ireturn, 1) := by decide +kernel
theorem d4_0 : decode (mB m4) 0 = .ok (.iload_n 1, 1) := by decide +kernel
theorem d4_1 : decode (mB m4) 1 = .ok (.iconst 3, 1) := by decide +kernel
theorem d4_2 : decode (mB m4) 2 = .ok (.if_icmp .ne 5, 3) := by decide +kernel
theorem d4_5 : decode (mB m4) 5 = .ok (.iconst 3, 1) := by decide +kernel
theorem d4_6 : decode (mB m4) 6 = .ok (.ireturn, 1) := by decide +kernel
theorem d4_7 : decode (mB m4) 7 = .ok (.iload_n 1, 1) := by decide +kernel
theorem d4_8 : decode (mB m4) 8 = .ok (.iconst 4, 1) := by decide +kernel
theorem d4_9 : decode (mB m4) 9 = .ok (.if_icmp .ne 5, 3) := by decide +kernel
theorem d4_12 : decode (mB m4) 12 = .ok (.iconst 2, 1) := by decide +kernel
theorem d4_13 : decode (mB m4) 13 = .ok (.ireturn, 1) := by decide +kernel
theorem d4_14 : decode (mB m4) 14 = .ok (.iload_n 1, 1) := by decide +kernel
theorem d4_15 : decode (mB m4) 15 = .ok (.iconst 5, 1) := by decide +kernel
theorem d4_16 : decode (mB m4) 16 = .ok (.if_icmp .ne 5, 3) := by decide +kernel
theorem d4_19 : decode (mB m4) 19 = .ok (.iconst 1, 1) := by decide +kernel
theorem d4_20 : decode (mB m4) 20 = .ok (.ireturn, 1) := by decide +kernel
theorem d4_21 : decode (mB m4) 21 = .ok (.iconst 0, 1) := by decide +kernel
theorem d4_22 : decode (mB m4) 22 = .ok (.ireturn, 1) := by decide +kernel
theorem d5_0 : decode (mB m5) 0 = .ok (.iload_n 1, 1) := by decide +kernel
theorem d5_1 : decode (mB m5) 1 = .ok (.iconst 1, 1) := by decide +kernel
theorem d5_2 : decode (mB m5) 2 = .ok (.if_icmp .ne 19, 3) := by decide +kernel
theorem d5_5 : decode (mB m5) 5 = .ok (.iload_n 2, 1) := by decide +kernel
theorem d5_6 : decode (mB m5) 6 = .ok (.ifCond .lt 13, 3) := by decide +kernel
theorem d5_9 : decode (mB m5) 9 = .ok (.iload_n 2, 1) := by decide +kernel
theorem d5_10 : decode (mB m5) 10 = .ok (.bipush 7, 2) := by decide +kernel
theorem d5_12 : decode (mB m5) 12 = .ok (.if_icmp .gt 7, 3) := by decide +kernel
theorem d5_15 : decode (mB m5) 15 = .ok (.iconst 1, 1) := by decide +kernel
theorem d5_16 : decode (mB m5) 16 = .ok (.goto 4, 3) := by decide +kernel
theorem d5_19 : decode (mB m5) 19 = .ok (.iconst 0, 1) := by decide +kernel
theorem d5_20 : decode (mB m5) 20 = .ok (.ireturn, 1) := by decide +kernel
theorem d5_21 : decode (mB m5) 21 = .ok (.iload_n 1, 1) := by decide +kernel
theorem d5_22 : decode (mB m5) 22 = .ok (.iconst 2, 1) := by decide +kernel
theorem d5_23 : decode (mB m5) 23 = .ok (.if_icmp .ne 19, 3) := by decide +kernel
theorem d5_26 : decode (mB m5) 26 = .ok (.iload_n 2, 1) := by decide +kernel
theorem d5_27 : decode (mB m5) 27 = .ok (.ifCond .lt 13, 3) := by decide +kernel
theorem d5_30 : decode (mB m5) 30 = .ok (.iload_n 2, 1) := by decide +kernel
theorem d5_31 : decode (mB m5) 31 = .ok (.bipush 15, 2) := by decide +kernel
theorem d5_33 : decode (mB m5) 33 = .ok (.if_icmp .gt 7, 3) := by decide +kernel
theorem d5_36 : decode (mB m5) 36 = .ok (.iconst 1, 1) := by decide +kernel
theorem d5_37 : decode (mB m5) 37 = .ok (.goto 4, 3) := by decide +kernel
theorem d5_40 : decode (mB m5) 40 = .ok (.iconst 0, 1) := by decide +kernel
theorem d5_41 : decode (mB m5) 41 = .ok (.ireturn, 1) := by decide +kernel
theorem d5_42 : decode (mB m5) 42 = .ok (.iconst 1, 1) := by decide +kernel
theorem d5_43 : decode (mB m5) 43 = .ok (.ireturn, 1) := by decide +kernel
theorem d6_0 : decode (mB m6) 0 = .ok (.iload_n 1, 1) := by decide +kernel
theorem d6_1 : decode (mB m6) 1 = .ok (.ifCond .ne 5, 3) := by decide +kernel
theorem d6_4 : decode (mB m6) 4 = .ok (.iconst 0, 1) := by decide +kernel
theorem d6_5 : decode (mB m6) 5 = .ok (.ireturn, 1) := by decide +kernel
theorem d6_6 : decode (mB m6) 6 = .ok (.iload_n 2, 1) := by decide +kernel
theorem d6_7 : decode (mB m6) 7 = .ok (.ireturn, 1) := by decide +kernel
theorem d7_0 : decode (mB m7) 0 = .ok (.aload_n 0, 1) := by decide +kernel
theorem d7_1 : decode (mB m7) 1 = .ok (.getfield 102, 3) := by decide +kernel
theorem d7_4 : decode (mB m7) 4 = .ok (.bipush 32, 2) := by decide +kernel
theorem d7_6 : decode (mB m7) 6 = .ok (.if_icmp .lt 5, 3) := by decide +kernel
theorem d7_9 : decode (mB m7) 9 = .ok (.iconst (-1), 1) := by decide +kernel
theorem d7_10 : decode (mB m7) 10 = .ok (.ireturn, 1) := by decide +kernel
theorem d7_11 : decode (mB m7) 11 = .ok (.iload_n 1, 1) := by decide +kernel
theorem d7_12 : decode (mB m7) 12 = .ok (.iconst 1, 1) := by decide +kernel
theorem d7_13 : decode (mB m7) 13 = .ok (.if_icmp .lt 9, 3) := by decide +kernel
theorem d7_16 : decode (mB m7) 16 = .ok (.iload_n 1, 1) := by decide +kernel
theorem d7_17 : decode (mB m7) 17 = .ok (.bipush 12, 2) := by decide +kernel
theorem d7_19 : decode (mB m7) 19 = .ok (.if_icmp .le 6, 3) := by decide +kernel
theorem d7_22 : decode (mB m7) 22 = .ok (.bipush (-2), 2) := by decide +kernel
theorem d7_24 : decode (mB m7) 24 = .ok (.ireturn, 1) := by decide +kernel
theorem d7_25 : decode (mB m7) 25 = .ok (.aload_n 0, 1) := by decide +kernel
theorem d7_26 : decode (mB m7) 26 = .ok (.iload_n 1, 1) := by decide +kernel
theorem d7_27 : decode (mB m7) 27 = .ok (.invokevirtual 118, 3) := by decide +kernel
theorem d7_30 : decode (mB m7) 30 = .ok (.istore 5, 2) := by decide +kernel
theorem d7_32 : decode (mB m7) 32 = .ok (.aload_n 0, 1) := by decide +kernel
theorem d7_33 : decode (mB m7) 33 = .ok (.iload_n 1, 1) := by decide +kernel
theorem d7_34 : decode (mB m7) 34 = .ok (.invokevirtual 122, 3) := by decide +kernel
theorem d7_37 : decode (mB m7) 37 = .ok (.istore 6, 2) := by decide +kernel
theorem d7_39 : decode (mB m7) 39 = .ok (.aload_n 0, 1) := by decide +kernel
theorem d7_40 : decode (mB m7) 40 = .ok (.iload_n 1, 1) := by decide +kernel
theorem d7_41 : decode (mB m7) 41 = .ok (.invokevirtual 125, 3) := by decide +kernel
theorem d7_44 : decode (mB m7) 44 = .ok (.istore 7, 2) := by decide +kernel
theorem d7_46 : decode (mB m7) 46 = .ok (.aload_n 0, 1) := by decide +kernel
theorem d7_47 : decode (mB m7) 47 = .ok (.iload 5, 2) := by decide +kernel
theorem d7_49 : decode (mB m7) 49 = .ok (.iload_n 2, 1) := by decide +kernel
theorem d7_50 : decode (mB m7) 50 = .ok (.invokevirtual 128, 3) := by decide +kernel
theorem d7_53 : decode (mB m7) 53 = .ok (.ifCond .eq 24, 3) := by decide +kernel
theorem d7_56 : decode (mB m7) 56 = .ok (.aload_n 0, 1) := by decide +kernel
theorem d7_57 : decode (mB m7) 57 = .ok (.iload 6, 2) := by decide +kernel
theorem d7_59 : decode (mB m7) 59 = .ok (.iload_n 3, 1) := by decide +kernel
theorem d7_60 : decode (mB m7) 60 = .ok (.invokevirtual 128, 3) := by decide +kernel
theorem d7_63 : decode (mB m7) 63 = .ok (.ifCond .eq 14, 3) := by decide +kernel
theorem d7_66 : decode (mB m7) 66 = .ok (.aload_n 0, 1) := by decide +kernel
theorem d7_67 : decode (mB m7) 67 = .ok (.iload 7, 2) := by decide +kernel
theorem d7_69 : decode (mB m7) 69 = .ok (.iload 4, 2) := by decide +kernel
theorem d7_71 : decode (mB m7) 71 = .ok (.invokevirtual 128, 3) := by decide +kernel
theorem d7_74 : decode (mB m7) 74 = .ok (.ifCond .ne 6, 3) := by decide +kernel
theorem d7_77 : decode (mB m7) 77 = .ok (.bipush (-3), 2) := by decide +kernel
theorem d7_79 : decode (mB m7) 79 = .ok (.ireturn, 1) := by decide +kernel
theorem d7_80 : decode (mB m7) 80 = .ok (.aload_n 0, 1) := by decide +kernel
theorem d7_81 : decode (mB m7) 81 = .ok (.getfield 102, 3) := by decide +kernel
theorem d7_84 : decode (mB m7) 84 = .ok (.istore 8, 2) := by decide +kernel
theorem d7_86 : decode (mB m7) 86 = .ok (.aload_n 0, 1) := by decide +kernel
theorem d7_87 : decode (mB m7) 87 = .ok (.getfield 31, 3) := by decide +kernel
theorem d7_90 : decode (mB m7) 90 = .ok (.iload 8, 2) := by decide +kernel
theorem d7_92 : decode (mB m7) 92 = .ok (.iload_n 1, 1) := by decide +kernel
theorem d7_93 : decode (mB m7) 93 = .ok (.iastore, 1) := by decide +kernel
theorem d7_94 : decode (mB m7) 94 = .ok (.aload_n 0, 1) := by decide +kernel
theorem d7_95 : decode (mB m7) 95 = .ok (.getfield 35, 3) := by decide +kernel
theorem d7_98 : decode (mB m7) 98 = .ok (.iload 8, 2) := by decide +kernel
theorem d7_100 : decode (mB m7) 100 = .ok (.aload_n 0, 1) := by decide +kernel
theorem d7_101 : decode (mB m7) 101 = .ok (.iload 5, 2) := by decide +kernel
theorem d7_103 : decode (mB m7) 103 = .ok (.iload_n 2, 1) := by decide +kernel
theorem d7_104 : decode (mB m7) 104 = .ok (.invokevirtual 132, 3) := by decide +kernel
theorem d7_107 : decode (mB m7) 107 = .ok (.iastore, 1) := by decide +kernel
theorem d7_108 : decode (mB m7) 108 = .ok (.aload_n 0, 1) := by decide +kernel
theorem d7_109 : decode (mB m7) 109 = .ok (.getfield 38, 3) := by decide +kernel
theorem d7_112 : decode (mB m7) 112 = .ok (.iload 8, 2) := by decide +kernel
theorem d7_114 : decode (mB m7) 114 = .ok (.aload_n 0, 1) := by decide +kernel
theorem d7_115 : decode (mB m7) 115 = .ok (.iload 6, 2) := by decide +kernel
theorem d7_117 : decode (mB m7) 117 = .ok (.iload_n 3, 1) := by decide +kernel
theorem d7_118 : decode (mB m7) 118 = .ok (.invokevirtual 132, 3) := by decide +kernel
theorem d7_121 : decode (mB m7) 121 = .ok (.iastore, 1) := by decide +kernel
theorem d7_122 : decode (mB m7) 122 = .ok (.aload_n 0, 1) := by decide +kernel
theorem d7_123 : decode (mB m7) 123 = .ok (.getfield 41, 3) := by decide +kernel
theorem d7_126 : decode (mB m7) 126 = .ok (.iload 8, 2) := by decide +kernel
theorem d7_128 : decode (mB m7) 128 = .ok (.aload_n 0, 1) := by decide +kernel
theorem d7_129 : decode (mB m7) 129 = .ok (.iload 7, 2) := by decide +kernel
theorem d7_131 : decode (mB m7) 131 = .ok (.iload 4, 2) := by decide +kernel
theorem d7_133 : decode (mB m7) 133 = .ok (.invokevirtual 132, 3) := by decide +kernel
theorem d7_136 : decode (mB m7) 136 = .ok (.iastore, 1) := by decide +kernel
theorem d7_137 : decode (mB m7) 137 = .ok (.aload_n 0, 1) := by decide +kernel
theorem d7_138 : decode (mB m7) 138 = .ok (.iload 8, 2) := by decide +kernel
theorem d7_140 : decode (mB m7) 140 = .ok (.iconst 1, 1) := by decide +kernel
theorem d7_141 : decode (mB m7) 141 = .ok (.iadd, 1) := by decide +kernel
theorem d7_142 : decode (mB m7) 142 = .ok (.putfield 102, 3) := by decide +kernel
theorem d7_145 : decode (mB m7) 145 = .ok (.aload_n 0, 1) := by decide +kernel
theorem d7_146 : decode (mB m7) 146 = .ok (.iconst 0, 1) := by decide +kernel
theorem d7_147 : decode (mB m7) 147 = .ok (.putfield 105, 3) := by decide +kernel
theorem d7_150 : decode (mB m7) 150 = .ok (.iload 8, 2) := by decide +kernel
theorem d7_152 : decode (mB m7) 152 = .ok (.ireturn, 1) := by decide +kernel
theorem d8_0 : decode (mB m8) 0 = .ok (.aload_n 0, 1) := by decide +kernel
theorem d8_1 : decode (mB m8) 1 = .ok (.getfield 31, 3) := by decide +kernel
theorem d8_4 : decode (mB m8) 4 = .ok (.iload_n 1, 1) := by decide +kernel
theorem d8_5 : decode (mB m8) 5 = .ok (.iaload, 1) := by decide +kernel
theorem d8_6 : decode (mB m8) 6 = .ok (.istore_n 2, 1) := by decide +kernel
theorem d8_7 : decode (mB m8) 7 = .ok (.aload_n 0, 1) := by decide +kernel
theorem d8_8 : decode (mB m8) 8 = .ok (.getfield 50, 3) := by decide +kernel
theorem d8_11 : decode (mB m8) 11 = .ok (.iload_n 1, 1) := by decide +kernel
theorem d8_12 : decode (mB m8) 12 = .ok (.iconst (-1), 1) := by decide +kernel
theorem d8_13 : decode (mB m8) 13 = .ok (.iastore, 1) := by decide +kernel
theorem d8_14 : decode (mB m8) 14 = .ok (.iload_n 2, 1) := by decide +kernel
theorem d8_15 : decode (mB m8) 15 = .ok (.bipush 8, 2) := by decide +kernel
theorem d8_17 : decode (mB m8) 17 = .ok (.if_icmp .eq 9, 3) := by decide +kernel
theorem d8_20 : decode (mB m8) 20 = .ok (.iload_n 2, 1) := by decide +kernel
theorem d8_21 : decode (mB m8) 21 = .ok (.bipush 11, 2) := by decide +kernel
theorem d8_23 : decode (mB m8) 23 = .ok (.if_icmp .ne 10, 3) := by decide +kernel
theorem d8_26 : decode (mB m8) 26 = .ok (.aload_n 0, 1) := by decide +kernel
theorem d8_27 : decode (mB m8) 27 = .ok (.iload_n 1, 1) := by decide +kernel
theorem d8_28 : decode (mB m8) 28 = .ok (.iload_n 2, 1) := by decide +kernel
theorem d8_33 : decode (mB m8) 33 = .ok (.iload_n 2, 1) := by decide +kernel
theorem d8_34 : decode (mB m8) 34 = .ok (.bipush 9, 2) := by decide +kernel
theorem d8_36 : decode (mB m8) 36 = .ok (.if_icmp .ne 9, 3) := by decide +kernel
theorem d8_39 : decode (mB m8) 39 = .ok (.aload_n 0, 1) := by decide +kernel
theorem d8_40 : decode (mB m8) 40 = .ok (.iload_n 1, 1) := by decide +kernel
theorem d8_45 : decode (mB m8) 45 = .ok (.iload_n 2, 1) := by decide +kernel
theorem d8_46 : decode (mB m8) 46 = .ok (.bipush 10, 2) := by decide +kernel
theorem d8_48 : decode (mB m8) 48 = .ok (.if_icmp .ne 9, 3) := by decide +kernel
theorem d8_51 : decode (mB m8) 51 = .ok (.aload_n 0, 1) := by decide +kernel
theorem d8_52 : decode (mB m8) 52 = .ok (.iload_n 1, 1) := by decide +kernel
theorem d8_57 : decode (mB m8) 57 = .ok (.aload_n 0, 1) := by decide +kernel
theorem d8_58 : decode (mB m8) 58 = .ok (.getfield 44, 3) := by decide +kernel
theorem d8_61 : decode (mB m8) 61 = .ok (.iload_n 1, 1) := by decide +kernel
theorem d8_62 : decode (mB m8) 62 = .ok (.iconst (-1), 1) := by decide +kernel
theorem d8_63 : decode (mB m8) 63 = .ok (.iastore, 1) := by decide +kernel
theorem d8_64 : decode (mB m8) 64 = .ok (.aload_n 0, 1) := by decide +kernel
theorem d8_65 : decode (mB m8) 65 = .ok (.getfield 47, 3) := by decide +kernel
theorem d8_68 : decode (mB m8) 68 = .ok (.iload_n 1, 1) := by decide +kernel
theorem d8_69 : decode (mB m8) 69 = .ok (.iconst (-1), 1) := by decide +kernel
theorem d8_70 : decode (mB m8) 70 = .ok (.iastore, 1) := by decide +kernel
theorem d8_71 : decode (mB m8) 71 = .ok (.iconst 0, 1) := by decide +kernel
theorem d8_72 : decode (mB m8) 72 = .ok (.ireturn, 1) := by decide +kernel
theorem d9_0 : decode (mB m9) 0 = .ok (.aload_n 0, 1) := by decide +kernel
theorem d9_1 : decode (mB m9) 1 = .ok (.iconst 0, 1) := by decide +kernel
theorem d9_2 : decode (mB m9) 2 = .ok (.putfield 136, 3) := by decide +kernel
theorem d9_5 : decode (mB m9) 5 = .ok (.aload_n 0, 1) := by decide +kernel
theorem d9_6 : decode (mB m9) 6 = .ok (.iconst 0, 1) := by decide +kernel
theorem d9_7 : decode (mB m9) 7 = .ok (.putfield 139, 3) := by decide +kernel
theorem d9_10 : decode (mB m9) 10 = .ok (.iconst 0, 1) := by decide +kernel
theorem d9_11 : decode (mB m9) 11 = .ok (.istore_n 1, 1) := by decide +kernel
theorem d9_12 : decode (mB m9) 12 = .ok (.iload_n 1, 1) := by decide +kernel
theorem d9_13 : decode (mB m9) 13 = .ok (.aload_n 0, 1) := by decide +kernel
theorem d9_14 : decode (mB m9) 14 = .ok (.getfield 102, 3) := by decide +kernel
theorem d9_17 : decode (mB m9) 17 = .ok (.if_icmp .ge 27, 3) := by decide +kernel
theorem d9_20 : decode (mB m9) 20 = .ok (.iload_n 1, 1) := by decide +kernel
theorem d9_21 : decode (mB m9) 21 = .ok (.bipush 32, 2) := by decide +kernel
theorem d9_23 : decode (mB m9) 23 = .ok (.if_icmp .ge 21, 3) := by decide +kernel
theorem d9_26 : decode (mB m9) 26 = .ok (.aload_n 0, 1) := by decide +kernel
theorem d9_27 : decode (mB m9) 27 = .ok (.iload_n 1, 1) := by decide +kernel
theorem d9_28 : decode (mB m9) 28 = .ok (.invokevirtual 142, 3) := by decide +kernel
theorem d9_31 : decode (mB m9) 31 = .ok (.istore_n 2, 1) := by decide +kernel
theorem d9_32 : decode (mB m9) 32 = .ok (.iload_n 2, 1) := by decide +kernel
theorem d9_33 : decode (mB m9) 33 = .ok (.ifCond .eq 5, 3) := by decide +kernel
theorem d9_36 : decode (mB m9) 36 = .ok (.iload_n 2, 1) := by decide +kernel
theorem d9_37 : decode (mB m9) 37 = .ok (.ireturn, 1) := by decide +kernel
theorem d9_38 : decode (mB m9) 38 = .ok (.iinc 1 1, 3) := by decide +kernel
theorem d9_41 : decode (mB m9) 41 = .ok (.goto (-29), 3) := by decide +kernel
theorem d9_44 : decode (mB m9) 44 = .ok (.aload_n 0, 1) := by decide +kernel
theorem d9_45 : decode (mB m9) 45 = .ok (.getfield 136, 3) := by decide +kernel
theorem d9_48 : decode (mB m9) 48 = .ok (.ifCond .le 6, 3) := by decide +kernel
theorem d9_51 : decode (mB m9) 51 = .ok (.bipush (-6), 2) := by decide +kernel
theorem d9_53 : decode (mB m9) 53 = .ok (.ireturn, 1) := by decide +kernel
theorem d9_54 : decode (mB m9) 54 = .ok (.aload_n 0, 1) := by decide +kernel
theorem d9_55 : decode (mB m9) 55 = .ok (.iconst 1, 1) := by decide +kernel
theorem d9_56 : decode (mB m9) 56 = .ok (.putfield 105, 3) := by decide +kernel
theorem d9_59 : decode (mB m9) 59 = .ok (.iconst 0, 1) := by decide +kernel
theorem d9_60 : decode (mB m9) 60 = .ok (.ireturn, 1) := by decide +kernel
theorem d10_0 : decode (mB m10) 0 = .ok (.iload_n 0, 1) := by decide +kernel
theorem d10_1 : decode (mB m10) 1 = .ok (.bipush 8, 2) := by decide +kernel
theorem d10_3 : decode (mB m10) 3 = .ok (.if_icmp .ne 5, 3) := by decide +kernel
theorem d10_6 : decode (mB m10) 6 = .ok (.iload_n 1, 1) := by decide +kernel
theorem d10_7 : decode (mB m10) 7 = .ok (.ireturn, 1) := by decide +kernel
theorem d10_8 : decode (mB m10) 8 = .ok (.iload_n 0, 1) := by decide +kernel
theorem d10_9 : decode (mB m10) 9 = .ok (.bipush 9, 2) := by decide +kernel
theorem d10_11 : decode (mB m10) 11 = .ok (.if_icmp .ne 5, 3) := by decide +kernel
theorem d10_14 : decode (mB m10) 14 = .ok (.iload_n 2, 1) := by decide +kernel
theorem d10_15 : decode (mB m10) 15 = .ok (.ireturn, 1) := by decide +kernel
theorem d10_16 : decode (mB m10) 16 = .ok (.iload_n 0, 1) := by decide +kernel
theorem d10_17 : decode (mB m10) 17 = .ok (.bipush 10, 2) := by decide +kernel
theorem d10_19 : decode (mB m10) 19 = .ok (.if_icmp .ne 5, 3) := by decide +kernel
theorem d10_22 : decode (mB m10) 22 = .ok (.iload_n 3, 1) := by decide +kernel
theorem d10_23 : decode (mB m10) 23 = .ok (.ireturn, 1) := by decide +kernel
theorem d10_24 : decode (mB m10) 24 = .ok (.iconst 0, 1) := by decide +kernel
theorem d10_25 : decode (mB m10) 25 = .ok (.ireturn, 1) := by decide +kernel
theorem d11_0 : decode (mB m11) 0 = .ok (.iconst 0, 1) := by decide +kernel
theorem d11_1 : decode (mB m11) 1 = .ok (.istore_n 1, 1) := by decide +kernel
theorem d11_2 : decode (mB m11) 2 = .ok (.iload_n 1, 1) := by decide +kernel
theorem d11_3 : decode (mB m11) 3 = .ok (.bipush 64, 2) := by decide +kernel
theorem d11_5 : decode (mB m11) 5 = .ok (.if_icmp .ge 21, 3) := by decide +kernel
theorem d11_8 : decode (mB m11) 8 = .ok (.aload_n 0, 1) := by decide +kernel
theorem d11_9 : decode (mB m11) 9 = .ok (.getfield 63, 3) := by decide +kernel
theorem d11_12 : decode (mB m11) 12 = .ok (.iload_n 1, 1) := by decide +kernel
theorem d11_13 : decode (mB m11) 13 = .ok (.aload_n 0, 1) := by decide +kernel
theorem d11_14 : decode (mB m11) 14 = .ok (.getfield 60, 3) := by decide +kernel
theorem d11_17 : decode (mB m11) 17 = .ok (.iload_n 1, 1) := by decide +kernel
theorem d11_18 : decode (mB m11) 18 = .ok (.iaload, 1) := by decide +kernel
theorem d11_19 : decode (mB m11) 19 = .ok (.iastore, 1) := by decide +kernel
theorem d11_20 : decode (mB m11) 20 = .ok (.iinc 1 1, 3) := by decide +kernel
theorem d11_23 : decode (mB m11) 23 = .ok (.goto (-21), 3) := by decide +kernel
theorem d11_26 : decode (mB m11) 26 = .ok (.iconst 0, 1) := by decide +kernel
theorem d11_27 : decode (mB m11) 27 = .ok (.istore_n 1, 1) := by decide +kernel
theorem d11_28 : decode (mB m11) 28 = .ok (.iload_n 1, 1) := by decide +kernel
theorem d11_29 : decode (mB m11) 29 = .ok (.bipush 8, 2) := by decide +kernel
theorem d11_31 : decode (mB m11) 31 = .ok (.if_icmp .ge 16, 3) := by decide +kernel
theorem d11_34 : decode (mB m11) 34 = .ok (.aload_n 0, 1) := by decide +kernel
theorem d11_35 : decode (mB m11) 35 = .ok (.getfield 69, 3) := by decide +kernel
theorem d11_38 : decode (mB m11) 38 = .ok (.iload_n 1, 1) := by decide +kernel
theorem d11_39 : decode (mB m11) 39 = .ok (.iconst 0, 1) := by decide +kernel
theorem d11_40 : decode (mB m11) 40 = .ok (.iastore, 1) := by decide +kernel
theorem d11_41 : decode (mB m11) 41 = .ok (.iinc 1 1, 3) := by decide +kernel
theorem d11_44 : decode (mB m11) 44 = .ok (.goto (-16), 3) := by decide +kernel
theorem d11_47 : decode (mB m11) 47 = .ok (.iconst 0, 1) := by decide +kernel
theorem d11_48 : decode (mB m11) 48 = .ok (.istore_n 1, 1) := by decide +kernel
theorem d11_49 : decode (mB m11) 49 = .ok (.iload_n 1, 1) := by decide +kernel
theorem d11_50 : decode (mB m11) 50 = .ok (.bipush 32, 2) := by decide +kernel
theorem d11_52 : decode (mB m11) 52 = .ok (.if_icmp .ge 23, 3) := by decide +kernel
theorem d11_55 : decode (mB m11) 55 = .ok (.aload_n 0, 1) := by decide +kernel
theorem d11_56 : decode (mB m11) 56 = .ok (.getfield 66, 3) := by decide +kernel
theorem d11_59 : decode (mB m11) 59 = .ok (.iload_n 1, 1) := by decide +kernel
theorem d11_60 : decode (mB m11) 60 = .ok (.iconst 0, 1) := by decide +kernel
theorem d11_61 : decode (mB m11) 61 = .ok (.iastore, 1) := by decide +kernel
theorem d11_62 : decode (mB m11) 62 = .ok (.aload_n 0, 1) := by decide +kernel
theorem d11_63 : decode (mB m11) 63 = .ok (.getfield 72, 3) := by decide +kernel
theorem d11_66 : decode (mB m11) 66 = .ok (.iload_n 1, 1) := by decide +kernel
theorem d11_67 : decode (mB m11) 67 = .ok (.iconst 0, 1) := by decide +kernel
theorem d11_68 : decode (mB m11) 68 = .ok (.iastore, 1) := by decide +kernel
theorem d11_69 : decode (mB m11) 69 = .ok (.iinc 1 1, 3) := by decide +kernel
theorem d11_72 : decode (mB m11) 72 = .ok (.goto (-23), 3) := by decide +kernel
theorem d11_75 : decode (mB m11) 75 = .ok (.aload_n 0, 1) := by decide +kernel
theorem d11_76 : decode (mB m11) 76 = .ok (.iconst 0, 1) := by decide +kernel
theorem d11_77 : decode (mB m11) 77 = .ok (.putfield 115, 3) := by decide +kernel
theorem d11_80 : decode (mB m11) 80 = .ok (.aload_n 0, 1) := by decide +kernel
theorem d11_81 : decode (mB m11) 81 = .ok (.iconst 0, 1) := by decide +kernel
theorem d11_82 : decode (mB m11) 82 = .ok (.putfield 109, 3) := by decide +kernel
theorem d11_85 : decode (mB m11) 85 = .ok (.aload_n 0, 1) := by decide +kernel
theorem d11_86 : decode (mB m11) 86 = .ok (.iconst 0, 1) := by decide +kernel
theorem d11_87 : decode (mB m11) 87 = .ok (.putfield 112, 3) := by decide +kernel
theorem d11_90 : decode (mB m11) 90 = .ok (.return_, 1) := by decide +kernel
theorem d12_0 : decode (mB m12) 0 = .ok (.iconst 0, 1) := by decide +kernel
theorem d12_1 : decode (mB m12) 1 = .ok (.istore_n 1, 1) := by decide +kernel
theorem d12_2 : decode (mB m12) 2 = .ok (.iload_n 1, 1) := by decide +kernel
theorem d12_3 : decode (mB m12) 3 = .ok (.bipush 32, 2) := by decide +kernel
theorem d12_5 : decode (mB m12) 5 = .ok (.if_icmp .ge 23, 3) := by decide +kernel
theorem d12_8 : decode (mB m12) 8 = .ok (.aload_n 0, 1) := by decide +kernel
theorem d12_9 : decode (mB m12) 9 = .ok (.getfield 75, 3) := by decide +kernel
theorem d12_12 : decode (mB m12) 12 = .ok (.iload_n 1, 1) := by decide +kernel
theorem d12_13 : decode (mB m12) 13 = .ok (.iconst 0, 1) := by decide +kernel
theorem d12_14 : decode (mB m12) 14 = .ok (.bastore, 1) := by decide +kernel
theorem d12_15 : decode (mB m12) 15 = .ok (.aload_n 0, 1) := by decide +kernel
theorem d12_16 : decode (mB m12) 16 = .ok (.getfield 78, 3) := by decide +kernel
theorem d12_19 : decode (mB m12) 19 = .ok (.iload_n 1, 1) := by decide +kernel
theorem d12_20 : decode (mB m12) 20 = .ok (.iconst 0, 1) := by decide +kernel
theorem d12_21 : decode (mB m12) 21 = .ok (.iastore, 1) := by decide +kernel
theorem d12_22 : decode (mB m12) 22 = .ok (.iinc 1 1, 3) := by decide +kernel
theorem d12_25 : decode (mB m12) 25 = .ok (.goto (-23), 3) := by decide +kernel
theorem d12_28 : decode (mB m12) 28 = .ok (.return_, 1) := by decide +kernel
theorem d13_0 : decode (mB m13) 0 = .ok (.iconst 1, 1) := by decide +kernel
theorem d13_1 : decode (mB m13) 1 = .ok (.iload_n 1, 1) := by decide +kernel
theorem d13_2 : decode (mB m13) 2 = .ok (.bipush 7, 2) := by decide +kernel
theorem d13_4 : decode (mB m13) 4 = .ok (.iand, 1) := by decide +kernel
theorem d13_5 : decode (mB m13) 5 = .ok (.ishl, 1) := by decide +kernel
theorem d13_6 : decode (mB m13) 6 = .ok (.ireturn, 1) := by decide +kernel
theorem d14_0 : decode (mB m14) 0 = .ok (.aload_n 0, 1) := by decide +kernel
theorem d14_1 : decode (mB m14) 1 = .ok (.getfield 31, 3) := by decide +kernel
theorem d14_4 : decode (mB m14) 4 = .ok (.iload_n 1, 1) := by decide +kernel
theorem d14_5 : decode (mB m14) 5 = .ok (.iaload, 1) := by decide +kernel
theorem d14_6 : decode (mB m14) 6 = .ok (.istore_n 2, 1) := by decide +kernel
theorem d14_7 : decode (mB m14) 7 = .ok (.aload_n 0, 1) := by decide +kernel
theorem d14_8 : decode (mB m14) 8 = .ok (.aload_n 0, 1) := by decide +kernel
theorem d14_9 : decode (mB m14) 9 = .ok (.getfield 35, 3) := by decide +kernel
theorem d14_12 : decode (mB m14) 12 = .ok (.iload_n 1, 1) := by decide +kernel
theorem d14_13 : decode (mB m14) 13 = .ok (.iaload, 1) := by decide +kernel
theorem d14_14 : decode (mB m14) 14 = .ok (.invokevirtual 224, 3) := by decide +kernel
theorem d14_17 : decode (mB m14) 17 = .ok (.istore_n 3, 1) := by decide +kernel
theorem d14_18 : decode (mB m14) 18 = .ok (.iload_n 2, 1) := by decide +kernel
theorem d14_19 : decode (mB m14) 19 = .ok (.bipush 12, 2) := by decide +kernel
theorem d14_21 : decode (mB m14) 21 = .ok (.if_icmp .ne 4, 3) := by decide +kernel
theorem d14_24 : decode (mB m14) 24 = .ok (.return_, 1) := by decide +kernel
theorem d14_25 : decode (mB m14) 25 = .ok (.iload_n 2, 1) := by decide +kernel
theorem d14_26 : decode (mB m14) 26 = .ok (.bipush 8, 2) := by decide +kernel
theorem d14_28 : decode (mB m14) 28 = .ok (.if_icmp .ne 10, 3) := by decide +kernel
theorem d14_31 : decode (mB m14) 31 = .ok (.aload_n 0, 1) := by decide +kernel
theorem d14_32 : decode (mB m14) 32 = .ok (.iload_n 1, 1) := by decide +kernel
theorem d14_33 : decode (mB m14) 33 = .ok (.iload_n 3, 1) := by decide +kernel
theorem d14_38 : decode (mB m14) 38 = .ok (.iload_n 2, 1) := by decide +kernel
theorem d14_39 : decode (mB m14) 39 = .ok (.bipush 9, 2) := by decide +kernel
theorem d14_41 : decode (mB m14) 41 = .ok (.if_icmp .ne 16, 3) := by decide +kernel
theorem d14_44 : decode (mB m14) 44 = .ok (.aload_n 0, 1) := by decide +kernel
theorem d14_45 : decode (mB m14) 45 = .ok (.getfield 87, 3) := by decide +kernel
theorem d14_48 : decode (mB m14) 48 = .ok (.iload_n 1, 1) := by decide +kernel
theorem d14_49 : decode (mB m14) 49 = .ok (.aload_n 0, 1) := by decide +kernel
theorem d14_50 : decode (mB m14) 50 = .ok (.getfield 44, 3) := by decide +kernel
theorem d14_53 : decode (mB m14) 53 = .ok (.iload_n 1, 1) := by decide +kernel
theorem d14_54 : decode (mB m14) 54 = .ok (.iaload, 1) := by decide +kernel
theorem d14_55 : decode (mB m14) 55 = .ok (.iastore, 1) := by decide +kernel
theorem d14_56 : decode (mB m14) 56 = .ok (.return_, 1) := by decide +kernel
theorem d14_57 : decode (mB m14) 57 = .ok (.iload_n 2, 1) := by decide +kernel
theorem d14_58 : decode (mB m14) 58 = .ok (.bipush 11, 2) := by decide +kernel
theorem d14_60 : decode (mB m14) 60 = .ok (.if_icmp .ne 34, 3) := by decide +kernel
theorem d14_63 : decode (mB m14) 63 = .ok (.aload_n 0, 1) := by decide +kernel
theorem d14_64 : decode (mB m14) 64 = .ok (.getfield 87, 3) := by decide +kernel
theorem d14_67 : decode (mB m14) 67 = .ok (.iload_n 1, 1) := by decide +kernel
theorem d14_68 : decode (mB m14) 68 = .ok (.iload_n 1, 1) := by decide +kernel
theorem d14_69 : decode (mB m14) 69 = .ok (.iconst 1, 1) := by decide +kernel
theorem d14_70 : decode (mB m14) 70 = .ok (.iadd, 1) := by decide +kernel
theorem d14_71 : decode (mB m14) 71 = .ok (.iastore, 1) := by decide +kernel
theorem d14_72 : decode (mB m14) 72 = .ok (.aload_n 0, 1) := by decide +kernel
theorem d14_73 : decode (mB m14) 73 = .ok (.getfield 93, 3) := by decide +kernel
theorem d14_76 : decode (mB m14) 76 = .ok (.iload_n 1, 1) := by decide +kernel
theorem d14_77 : decode (mB m14) 77 = .ok (.iload_n 3, 1) := by decide +kernel
theorem d14_78 : decode (mB m14) 78 = .ok (.iastore, 1) := by decide +kernel
theorem d14_79 : decode (mB m14) 79 = .ok (.aload_n 0, 1) := by decide +kernel
theorem d14_80 : decode (mB m14) 80 = .ok (.getfield 90, 3) := by decide +kernel
theorem d14_83 : decode (mB m14) 83 = .ok (.iload_n 1, 1) := by decide +kernel
theorem d14_84 : decode (mB m14) 84 = .ok (.aload_n 0, 1) := by decide +kernel
theorem d14_85 : decode (mB m14) 85 = .ok (.getfield 44, 3) := by decide +kernel
theorem d14_88 : decode (mB m14) 88 = .ok (.iload_n 1, 1) := by decide +kernel
theorem d14_89 : decode (mB m14) 89 = .ok (.iaload, 1) := by decide +kernel
theorem d14_90 : decode (mB m14) 90 = .ok (.iconst 1, 1) := by decide +kernel
theorem d14_91 : decode (mB m14) 91 = .ok (.iadd, 1) := by decide +kernel
theorem d14_92 : decode (mB m14) 92 = .ok (.iastore, 1) := by decide +kernel
theorem d14_93 : decode (mB m14) 93 = .ok (.return_, 1) := by decide +kernel
theorem d14_94 : decode (mB m14) 94 = .ok (.iload_n 2, 1) := by decide +kernel
theorem d14_95 : decode (mB m14) 95 = .ok (.bipush 10, 2) := by decide +kernel
theorem d14_97 : decode (mB m14) 97 = .ok (.if_icmp .ne 9, 3) := by decide +kernel
theorem d14_100 : decode (mB m14) 100 = .ok (.aload_n 0, 1) := by decide +kernel
theorem d14_101 : decode (mB m14) 101 = .ok (.iload_n 1, 1) := by decide +kernel
theorem d14_106 : decode (mB m14) 106 = .ok (.aload_n 0, 1) := by decide +kernel
theorem d14_107 : decode (mB m14) 107 = .ok (.getfield 87, 3) := by decide +kernel
theorem d14_110 : decode (mB m14) 110 = .ok (.iload_n 1, 1) := by decide +kernel
theorem d14_111 : decode (mB m14) 111 = .ok (.iload_n 1, 1) := by decide +kernel
theorem d14_112 : decode (mB m14) 112 = .ok (.iconst 1, 1) := by decide +kernel
theorem d14_113 : decode (mB m14) 113 = .ok (.iadd, 1) := by decide +kernel
theorem d14_114 : decode (mB m14) 114 = .ok (.iastore, 1) := by decide +kernel
theorem d14_115 : decode (mB m14) 115 = .ok (.return_, 1) := by decide +kernel
theorem d15_0 : decode (mB m15) 0 = .ok (.iconst 0, 1) := by decide +kernel
theorem d15_1 : decode (mB m15) 1 = .ok (.istore_n 1, 1) := by decide +kernel
theorem d15_2 : decode (mB m15) 2 = .ok (.iload_n 1, 1) := by decide +kernel
theorem d15_3 : decode (mB m15) 3 = .ok (.bipush 33, 2) := by decide +kernel
theorem d15_5 : decode (mB m15) 5 = .ok (.if_icmp .ge 37, 3) := by decide +kernel
theorem d15_8 : decode (mB m15) 8 = .ok (.aload_n 0, 1) := by decide +kernel
theorem d15_9 : decode (mB m15) 9 = .ok (.getfield 87, 3) := by decide +kernel
theorem d15_12 : decode (mB m15) 12 = .ok (.iload_n 1, 1) := by decide +kernel
theorem d15_13 : decode (mB m15) 13 = .ok (.iconst (-1), 1) := by decide +kernel
theorem d15_14 : decode (mB m15) 14 = .ok (.iastore, 1) := by decide +kernel
theorem d15_15 : decode (mB m15) 15 = .ok (.aload_n 0, 1) := by decide +kernel
theorem d15_16 : decode (mB m15) 16 = .ok (.getfield 90, 3) := by decide +kernel
theorem d15_19 : decode (mB m15) 19 = .ok (.iload_n 1, 1) := by decide +kernel
theorem d15_20 : decode (mB m15) 20 = .ok (.iconst (-1), 1) := by decide +kernel
theorem d15_21 : decode (mB m15) 21 = .ok (.iastore, 1) := by decide +kernel
theorem d15_22 : decode (mB m15) 22 = .ok (.aload_n 0, 1) := by decide +kernel
theorem d15_23 : decode (mB m15) 23 = .ok (.getfield 93, 3) := by decide +kernel
theorem d15_26 : decode (mB m15) 26 = .ok (.iload_n 1, 1) := by decide +kernel
theorem d15_27 : decode (mB m15) 27 = .ok (.iconst 0, 1) := by decide +kernel
theorem d15_28 : decode (mB m15) 28 = .ok (.iastore, 1) := by decide +kernel
theorem d15_29 : decode (mB m15) 29 = .ok (.aload_n 0, 1) := by decide +kernel
theorem d15_30 : decode (mB m15) 30 = .ok (.getfield 96, 3) := by decide +kernel
theorem d15_33 : decode (mB m15) 33 = .ok (.iload_n 1, 1) := by decide +kernel
theorem d15_34 : decode (mB m15) 34 = .ok (.iconst 0, 1) := by decide +kernel
theorem d15_35 : decode (mB m15) 35 = .ok (.iastore, 1) := by decide +kernel
theorem d15_36 : decode (mB m15) 36 = .ok (.iinc 1 1, 3) := by decide +kernel
theorem d15_39 : decode (mB m15) 39 = .ok (.goto (-37), 3) := by decide +kernel
theorem d15_42 : decode (mB m15) 42 = .ok (.iconst 0, 1) := by decide +kernel
theorem d15_43 : decode (mB m15) 43 = .ok (.istore_n 1, 1) := by decide +kernel
theorem d15_44 : decode (mB m15) 44 = .ok (.iload_n 1, 1) := by decide +kernel
theorem d15_45 : decode (mB m15) 45 = .ok (.aload_n 0, 1) := by decide +kernel
theorem d15_46 : decode (mB m15) 46 = .ok (.getfield 102, 3) := by decide +kernel
theorem d15_49 : decode (mB m15) 49 = .ok (.if_icmp .ge 20, 3) := by decide +kernel
theorem d15_52 : decode (mB m15) 52 = .ok (.iload_n 1, 1) := by decide +kernel
theorem d15_53 : decode (mB m15) 53 = .ok (.bipush 32, 2) := by decide +kernel
theorem d15_55 : decode (mB m15) 55 = .ok (.if_icmp .ge 14, 3) := by decide +kernel
theorem d15_58 : decode (mB m15) 58 = .ok (.aload_n 0, 1) := by decide +kernel
theorem d15_59 : decode (mB m15) 59 = .ok (.iload_n 1, 1) := by decide +kernel
theorem d15_60 : decode (mB m15) 60 = .ok (.invokevirtual 227, 3) := by decide +kernel
theorem d15_63 : decode (mB m15) 63 = .ok (.iinc 1 1, 3) := by decide +kernel
theorem d15_66 : decode (mB m15) 66 = .ok (.goto (-22), 3) := by decide +kernel
theorem d15_69 : decode (mB m15) 69 = .ok (.return_, 1) := by decide +kernel
theorem d16_0 : decode (mB m16) 0 = .ok (.iload_n 1, 1) := by decide +kernel
theorem d16_1 : decode (mB m16) 1 = .ok (.aload_n 0, 1) := by decide +kernel
theorem d16_2 : decode (mB m16) 2 = .ok (.iload_n 2, 1) := by decide +kernel
theorem d16_3 : decode (mB m16) 3 = .ok (.invokevirtual 224, 3) := by decide +kernel
theorem d16_6 : decode (mB m16) 6 = .ok (.iand, 1) := by decide +kernel
theorem d16_7 : decode (mB m16) 7 = .ok (.ifCond .eq 7, 3) := by decide +kernel
theorem d16_10 : decode (mB m16) 10 = .ok (.iconst 1, 1) := by decide +kernel
theorem d16_11 : decode (mB m16) 11 = .ok (.goto 4, 3) := by decide +kernel
theorem d16_14 : decode (mB m16) 14 = .ok (.iconst 0, 1) := by decide +kernel
theorem d16_15 : decode (mB m16) 15 = .ok (.ireturn, 1) := by decide +kernel
theorem d17_0 : decode (mB m17) 0 = .ok (.iload_n 1, 1) := by decide +kernel
theorem d17_1 : decode (mB m17) 1 = .ok (.aload_n 0, 1) := by decide +kernel
theorem d17_2 : decode (mB m17) 2 = .ok (.iload_n 2, 1) := by decide +kernel
theorem d17_3 : decode (mB m17) 3 = .ok (.invokevirtual 224, 3) := by decide +kernel
theorem d17_6 : decode (mB m17) 6 = .ok (.iconst (-1), 1) := by decide +kernel
theorem d17_7 : decode (mB m17) 7 = .ok (.ixor, 1) := by decide +kernel
theorem d17_8 : decode (mB m17) 8 = .ok (.iand, 1) := by decide +kernel
theorem d17_9 : decode (mB m17) 9 = .ok (.istore 4, 2) := by decide +kernel
theorem d17_11 : decode (mB m17) 11 = .ok (.iload_n 3, 1) := by decide +kernel
theorem d17_12 : decode (mB m17) 12 = .ok (.ifCond .eq 12, 3) := by decide +kernel
theorem d17_15 : decode (mB m17) 15 = .ok (.iload 4, 2) := by decide +kernel
theorem d17_17 : decode (mB m17) 17 = .ok (.aload_n 0, 1) := by decide +kernel
theorem d17_18 : decode (mB m17) 18 = .ok (.iload_n 2, 1) := by decide +kernel
theorem d17_19 : decode (mB m17) 19 = .ok (.invokevirtual 224, 3) := by decide +kernel
theorem d17_22 : decode (mB m17) 22 = .ok (.ior, 1) := by decide +kernel
theorem d17_23 : decode (mB m17) 23 = .ok (.ireturn, 1) := by decide +kernel
theorem d17_24 : decode (mB m17) 24 = .ok (.iload 4, 2) := by decide +kernel
theorem d17_26 : decode (mB m17) 26 = .ok (.ireturn, 1) := by decide +kernel
theorem d18_0 : decode (mB m18) 0 = .ok (.iload_n 1, 1) := by decide +kernel
theorem d18_1 : decode (mB m18) 1 = .ok (.istore 5, 2) := by decide +kernel
theorem d18_3 : decode (mB m18) 3 = .ok (.iload 4, 2) := by decide +kernel
theorem d18_5 : decode (mB m18) 5 = .ok (.ifCond .lt 19, 3) := by decide +kernel
theorem d18_8 : decode (mB m18) 8 = .ok (.iload 4, 2) := by decide +kernel
theorem d18_10 : decode (mB m18) 10 = .ok (.bipush 7, 2) := by decide +kernel
theorem d18_12 : decode (mB m18) 12 = .ok (.if_icmp .gt 12, 3) := by decide +kernel
theorem d18_15 : decode (mB m18) 15 = .ok (.iload_n 1, 1) := by decide +kernel
theorem d18_16 : decode (mB m18) 16 = .ok (.aload_n 0, 1) := by decide +kernel
theorem d18_17 : decode (mB m18) 17 = .ok (.iload_n 3, 1) := by decide +kernel
theorem d18_18 : decode (mB m18) 18 = .ok (.invokevirtual 224, 3) := by decide +kernel
theorem d18_21 : decode (mB m18) 21 = .ok (.ior, 1) := by decide +kernel
theorem d18_22 : decode (mB m18) 22 = .ok (.istore 5, 2) := by decide +kernel
theorem d18_24 : decode (mB m18) 24 = .ok (.aload_n 0, 1) := by decide +kernel
theorem d18_25 : decode (mB m18) 25 = .ok (.iload 5, 2) := by decide +kernel
theorem d18_27 : decode (mB m18) 27 = .ok (.iload_n 2, 1) := by decide +kernel
theorem d18_28 : decode (mB m18) 28 = .ok (.iconst 0, 1) := by decide +kernel
theorem d18_29 : decode (mB m18) 29 = .ok (.invokevirtual 251, 3) := by decide +kernel
theorem d18_32 : decode (mB m18) 32 = .ok (.ireturn, 1) := by decide +kernel
theorem d19_0 : decode (mB m19) 0 = .ok (.iload_n 3, 1) := by decide +kernel
theorem d19_1 : decode (mB m19) 1 = .ok (.ifCond .lt 17, 3) := by decide +kernel
theorem d19_4 : decode (mB m19) 4 = .ok (.iload_n 3, 1) := by decide +kernel
theorem d19_5 : decode (mB m19) 5 = .ok (.bipush 7, 2) := by decide +kernel
theorem d19_7 : decode (mB m19) 7 = .ok (.if_icmp .gt 11, 3) := by decide +kernel
theorem d19_10 : decode (mB m19) 10 = .ok (.iload_n 1, 1) := by decide +kernel
theorem d19_11 : decode (mB m19) 11 = .ok (.aload_n 0, 1) := by decide +kernel
theorem d19_12 : decode (mB m19) 12 = .ok (.iload_n 2, 1) := by decide +kernel
theorem d19_13 : decode (mB m19) 13 = .ok (.invokevirtual 224, 3) := by decide +kernel
theorem d19_16 : decode (mB m19) 16 = .ok (.ior, 1) := by decide +kernel
theorem d19_17 : decode (mB m19) 17 = .ok (.ireturn, 1) := by decide +kernel
theorem d19_18 : decode (mB m19) 18 = .ok (.iload_n 1, 1) := by decide +kernel
theorem d19_19 : decode (mB m19) 19 = .ok (.ireturn, 1) := by decide +kernel
theorem d20_0 : decode (mB m20) 0 = .ok (.aload_n 0, 1) := by decide +kernel
theorem d20_1 : decode (mB m20) 1 = .ok (.getfield 31, 3) := by decide +kernel
theorem d20_4 : decode (mB m20) 4 = .ok (.iload_n 1, 1) := by decide +kernel
theorem d20_5 : decode (mB m20) 5 = .ok (.iaload, 1) := by decide +kernel
theorem d20_6 : decode (mB m20) 6 = .ok (.istore_n 3, 1) := by decide +kernel
theorem d20_7 : decode (mB m20) 7 = .ok (.aload_n 0, 1) := by decide +kernel
theorem d20_8 : decode (mB m20) 8 = .ok (.getfield 35, 3) := by decide +kernel
theorem d20_11 : decode (mB m20) 11 = .ok (.iload_n 1, 1) := by decide +kernel
theorem d20_12 : decode (mB m20) 12 = .ok (.iaload, 1) := by decide +kernel
theorem d20_13 : decode (mB m20) 13 = .ok (.bipush 7, 2) := by decide +kernel
theorem d20_15 : decode (mB m20) 15 = .ok (.iand, 1) := by decide +kernel
theorem d20_16 : decode (mB m20) 16 = .ok (.istore 4, 2) := by decide +kernel
theorem d20_18 : decode (mB m20) 18 = .ok (.aload_n 0, 1) := by decide +kernel
theorem d20_19 : decode (mB m20) 19 = .ok (.getfield 38, 3) := by decide +kernel
theorem d20_22 : decode (mB m20) 22 = .ok (.iload_n 1, 1) := by decide +kernel
theorem d20_23 : decode (mB m20) 23 = .ok (.iaload, 1) := by decide +kernel
theorem d20_24 : decode (mB m20) 24 = .ok (.istore 5, 2) := by decide +kernel
theorem d20_26 : decode (mB m20) 26 = .ok (.aload_n 0, 1) := by decide +kernel
theorem d20_27 : decode (mB m20) 27 = .ok (.getfield 41, 3) := by decide +kernel
theorem d20_30 : decode (mB m20) 30 = .ok (.iload_n 1, 1) := by decide +kernel
theorem d20_31 : decode (mB m20) 31 = .ok (.iaload, 1) := by decide +kernel
theorem d20_32 : decode (mB m20) 32 = .ok (.istore 6, 2) := by decide +kernel
theorem d20_34 : decode (mB m20) 34 = .ok (.aload_n 0, 1) := by decide +kernel
theorem d20_35 : decode (mB m20) 35 = .ok (.iload_n 2, 1) := by decide +kernel
theorem d20_36 : decode (mB m20) 36 = .ok (.iload 5, 2) := by decide +kernel
theorem d20_38 : decode (mB m20) 38 = .ok (.bipush 7, 2) := by decide +kernel
theorem d20_40 : decode (mB m20) 40 = .ok (.iand, 1) := by decide +kernel
theorem d20_41 : decode (mB m20) 41 = .ok (.invokevirtual 248, 3) := by decide +kernel
theorem d20_44 : decode (mB m20) 44 = .ok (.istore 7, 2) := by decide +kernel
theorem d20_46 : decode (mB m20) 46 = .ok (.iload_n 3, 1) := by decide +kernel
theorem d20_47 : decode (mB m20) 47 = .ok (.tableswitch 122 1 6 #[37, 55, 65, 88, 103, 113], 37) := by decide +kernel
theorem d20_84 : decode (mB m20) 84 = .ok (.aload_n 0, 1) := by decide +kernel
theorem d20_85 : decode (mB m20) 85 = .ok (.iload_n 2, 1) := by decide +kernel
theorem d20_86 : decode (mB m20) 86 = .ok (.iload 4, 2) := by decide +kernel
theorem d20_88 : decode (mB m20) 88 = .ok (.iload 5, 2) := by decide +kernel
theorem d20_90 : decode (mB m20) 90 = .ok (.ifCond .eq 7, 3) := by decide +kernel
theorem d20_93 : decode (mB m20) 93 = .ok (.iconst 1, 1) := by decide +kernel
theorem d20_94 : decode (mB m20) 94 = .ok (.goto 4, 3) := by decide +kernel
theorem d20_97 : decode (mB m20) 97 = .ok (.iconst 0, 1) := by decide +kernel
theorem d20_98 : decode (mB m20) 98 = .ok (.invokevirtual 251, 3) := by decide +kernel
theorem d20_101 : decode (mB m20) 101 = .ok (.ireturn, 1) := by decide +kernel
theorem d20_102 : decode (mB m20) 102 = .ok (.aload_n 0, 1) := by decide +kernel
theorem d20_103 : decode (mB m20) 103 = .ok (.iload_n 2, 1) := by decide +kernel
theorem d20_104 : decode (mB m20) 104 = .ok (.iload 4, 2) := by decide +kernel
theorem d20_106 : decode (mB m20) 106 = .ok (.iload 7, 2) := by decide +kernel
theorem d20_108 : decode (mB m20) 108 = .ok (.invokevirtual 251, 3) := by decide +kernel
theorem d20_111 : decode (mB m20) 111 = .ok (.ireturn, 1) := by decide +kernel
theorem d20_112 : decode (mB m20) 112 = .ok (.aload_n 0, 1) := by decide +kernel
theorem d20_113 : decode (mB m20) 113 = .ok (.iload_n 2, 1) := by decide +kernel
theorem d20_114 : decode (mB m20) 114 = .ok (.iload 4, 2) := by decide +kernel
theorem d20_116 : decode (mB m20) 116 = .ok (.iload 6, 2) := by decide +kernel
theorem d20_118 : decode (mB m20) 118 = .ok (.ifCond .ne 12, 3) := by decide +kernel
theorem d20_121 : decode (mB m20) 121 = .ok (.iload 7, 2) := by decide +kernel
theorem d20_123 : decode (mB m20) 123 = .ok (.ifCond .eq 7, 3) := by decide +kernel
theorem d20_126 : decode (mB m20) 126 = .ok (.iconst 1, 1) := by decide +kernel
theorem d20_127 : decode (mB m20) 127 = .ok (.goto 4, 3) := by decide +kernel
theorem d20_130 : decode (mB m20) 130 = .ok (.iconst 0, 1) := by decide +kernel
theorem d20_131 : decode (mB m20) 131 = .ok (.invokevirtual 251, 3) := by decide +kernel
theorem d20_134 : decode (mB m20) 134 = .ok (.ireturn, 1) := by decide +kernel
theorem d20_135 : decode (mB m20) 135 = .ok (.aload_n 0, 1) := by decide +kernel
theorem d20_136 : decode (mB m20) 136 = .ok (.iload_n 2, 1) := by decide +kernel
theorem d20_137 : decode (mB m20) 137 = .ok (.iload 4, 2) := by decide +kernel
theorem d20_139 : decode (mB m20) 139 = .ok (.iload 5, 2) := by decide +kernel
theorem d20_141 : decode (mB m20) 141 = .ok (.bipush 7, 2) := by decide +kernel
theorem d20_143 : decode (mB m20) 143 = .ok (.iand, 1) := by decide +kernel
theorem d20_144 : decode (mB m20) 144 = .ok (.iload 6, 2) := by decide +kernel
theorem d20_146 : decode (mB m20) 146 = .ok (.invokevirtual 255, 3) := by decide +kernel
theorem d20_149 : decode (mB m20) 149 = .ok (.ireturn, 1) := by decide +kernel
theorem d20_150 : decode (mB m20) 150 = .ok (.aload_n 0, 1) := by decide +kernel
theorem d20_151 : decode (mB m20) 151 = .ok (.iload_n 2, 1) := by decide +kernel
theorem d20_152 : decode (mB m20) 152 = .ok (.iload 4, 2) := by decide +kernel
theorem d20_154 : decode (mB m20) 154 = .ok (.iload 5, 2) := by decide +kernel
theorem d20_156 : decode (mB m20) 156 = .ok (.invokevirtual 259, 3) := by decide +kernel
theorem d20_159 : decode (mB m20) 159 = .ok (.ireturn, 1) := by decide +kernel
theorem d20_160 : decode (mB m20) 160 = .ok (.iload_n 2, 1) := by decide +kernel
theorem d20_161 : decode (mB m20) 161 = .ok (.aload_n 0, 1) := by decide +kernel
theorem d20_162 : decode (mB m20) 162 = .ok (.iload 4, 2) := by decide +kernel
theorem d20_164 : decode (mB m20) 164 = .ok (.invokevirtual 224, 3) := by decide +kernel
theorem d20_167 : decode (mB m20) 167 = .ok (.ior, 1) := by decide +kernel
theorem d20_168 : decode (mB m20) 168 = .ok (.ireturn, 1) := by decide +kernel
theorem d20_169 : decode (mB m20) 169 = .ok (.iload_n 2, 1) := by decide +kernel
theorem d20_170 : decode (mB m20) 170 = .ok (.ireturn, 1) := by decide +kernel
theorem d21_0 : decode (mB m21) 0 = .ok (.iload_n 1, 1) := by decide +kernel
theorem d21_1 : decode (mB m21) 1 = .ok (.ifCond .lt 9, 3) := by decide +kernel
theorem d21_4 : decode (mB m21) 4 = .ok (.iload_n 1, 1) := by decide +kernel
theorem d21_5 : decode (mB m21) 5 = .ok (.bipush 32, 2) := by decide +kernel
theorem d21_7 : decode (mB m21) 7 = .ok (.if_icmp .le 4, 3) := by decide +kernel
theorem d21_10 : decode (mB m21) 10 = .ok (.return_, 1) := by decide +kernel
theorem d21_11 : decode (mB m21) 11 = .ok (.aload_n 0, 1) := by decide +kernel
theorem d21_12 : decode (mB m21) 12 = .ok (.getfield 84, 3) := by decide +kernel
theorem d21_15 : decode (mB m21) 15 = .ok (.iload_n 1, 1) := by decide +kernel
theorem d21_16 : decode (mB m21) 16 = .ok (.aload_n 0, 1) := by decide +kernel
theorem d21_17 : decode (mB m21) 17 = .ok (.getfield 84, 3) := by decide +kernel
theorem d21_20 : decode (mB m21) 20 = .ok (.iload_n 1, 1) := by decide +kernel
theorem d21_21 : decode (mB m21) 21 = .ok (.iaload, 1) := by decide +kernel
theorem d21_22 : decode (mB m21) 22 = .ok (.iload_n 2, 1) := by decide +kernel
theorem d21_23 : decode (mB m21) 23 = .ok (.iand, 1) := by decide +kernel
theorem d21_24 : decode (mB m21) 24 = .ok (.iastore, 1) := by decide +kernel
theorem d21_25 : decode (mB m21) 25 = .ok (.return_, 1) := by decide +kernel
theorem d22_0 : decode (mB m22) 0 = .ok (.aload_n 0, 1) := by decide +kernel
theorem d22_1 : decode (mB m22) 1 = .ok (.iload_n 1, 1) := by decide +kernel
theorem d22_2 : decode (mB m22) 2 = .ok (.aload_n 0, 1) := by decide +kernel
theorem d22_3 : decode (mB m22) 3 = .ok (.getfield 81, 3) := by decide +kernel
theorem d22_6 : decode (mB m22) 6 = .ok (.iload_n 1, 1) := by decide +kernel
theorem d22_7 : decode (mB m22) 7 = .ok (.iaload, 1) := by decide +kernel
theorem d22_8 : decode (mB m22) 8 = .ok (.invokevirtual 242, 3) := by decide +kernel
theorem d22_11 : decode (mB m22) 11 = .ok (.istore_n 2, 1) := by decide +kernel
theorem d22_12 : decode (mB m22) 12 = .ok (.aload_n 0, 1) := by decide +kernel
theorem d22_13 : decode (mB m22) 13 = .ok (.aload_n 0, 1) := by decide +kernel
theorem d22_14 : decode (mB m22) 14 = .ok (.getfield 87, 3) := by decide +kernel
theorem d22_17 : decode (mB m22) 17 = .ok (.iload_n 1, 1) := by decide +kernel
theorem d22_18 : decode (mB m22) 18 = .ok (.iaload, 1) := by decide +kernel
theorem d22_19 : decode (mB m22) 19 = .ok (.iload_n 2, 1) := by decide +kernel
theorem d22_20 : decode (mB m22) 20 = .ok (.aload_n 0, 1) := by decide +kernel
theorem d22_21 : decode (mB m22) 21 = .ok (.getfield 93, 3) := by decide +kernel
theorem d22_24 : decode (mB m22) 24 = .ok (.iload_n 1, 1) := by decide +kernel
theorem d22_25 : decode (mB m22) 25 = .ok (.iaload, 1) := by decide +kernel
theorem d22_26 : decode (mB m22) 26 = .ok (.ior, 1) := by decide +kernel
theorem d22_27 : decode (mB m22) 27 = .ok (.invokevirtual 245, 3) := by decide +kernel
theorem d22_30 : decode (mB m22) 30 = .ok (.aload_n 0, 1) := by decide +kernel
theorem d22_31 : decode (mB m22) 31 = .ok (.aload_n 0, 1) := by decide +kernel
theorem d22_32 : decode (mB m22) 32 = .ok (.getfield 90, 3) := by decide +kernel
theorem d22_35 : decode (mB m22) 35 = .ok (.iload_n 1, 1) := by decide +kernel
theorem d22_36 : decode (mB m22) 36 = .ok (.iaload, 1) := by decide +kernel
theorem d22_37 : decode (mB m22) 37 = .ok (.iload_n 2, 1) := by decide +kernel
theorem d22_38 : decode (mB m22) 38 = .ok (.aload_n 0, 1) := by decide +kernel
theorem d22_39 : decode (mB m22) 39 = .ok (.getfield 96, 3) := by decide +kernel
theorem d22_42 : decode (mB m22) 42 = .ok (.iload_n 1, 1) := by decide +kernel
theorem d22_43 : decode (mB m22) 43 = .ok (.iaload, 1) := by decide +kernel
theorem d22_44 : decode (mB m22) 44 = .ok (.ior, 1) := by decide +kernel
theorem d22_45 : decode (mB m22) 45 = .ok (.invokevirtual 245, 3) := by decide +kernel
theorem d22_48 : decode (mB m22) 48 = .ok (.return_, 1) := by decide +kernel
theorem d23_0 : decode (mB m23) 0 = .ok (.iconst 0, 1) := by decide +kernel
theorem d23_1 : decode (mB m23) 1 = .ok (.istore_n 1, 1) := by decide +kernel
theorem d23_2 : decode (mB m23) 2 = .ok (.iload_n 1, 1) := by decide +kernel
theorem d23_3 : decode (mB m23) 3 = .ok (.bipush 33, 2) := by decide +kernel
theorem d23_5 : decode (mB m23) 5 = .ok (.if_icmp .ge 18, 3) := by decide +kernel
theorem d23_8 : decode (mB m23) 8 = .ok (.aload_n 0, 1) := by decide +kernel
theorem d23_9 : decode (mB m23) 9 = .ok (.getfield 84, 3) := by decide +kernel
theorem d23_12 : decode (mB m23) 12 = .ok (.iload_n 1, 1) := by decide +kernel
theorem d23_13 : decode (mB m23) 13 = .ok (.sipush 255, 3) := by decide +kernel
theorem d23_16 : decode (mB m23) 16 = .ok (.iastore, 1) := by decide +kernel
theorem d23_17 : decode (mB m23) 17 = .ok (.iinc 1 1, 3) := by decide +kernel
theorem d23_20 : decode (mB m23) 20 = .ok (.goto (-18), 3) := by decide +kernel
theorem d23_23 : decode (mB m23) 23 = .ok (.aload_n 0, 1) := by decide +kernel
theorem d23_24 : decode (mB m23) 24 = .ok (.getfield 84, 3) := by decide +kernel
theorem d23_27 : decode (mB m23) 27 = .ok (.iconst 0, 1) := by decide +kernel
theorem d23_28 : decode (mB m23) 28 = .ok (.iconst 0, 1) := by decide +kernel
theorem d23_29 : decode (mB m23) 29 = .ok (.iastore, 1) := by decide +kernel
theorem d23_30 : decode (mB m23) 30 = .ok (.iconst 0, 1) := by decide +kernel
theorem d23_31 : decode (mB m23) 31 = .ok (.istore_n 1, 1) := by decide +kernel
theorem d23_32 : decode (mB m23) 32 = .ok (.iload_n 1, 1) := by decide +kernel
theorem d23_33 : decode (mB m23) 33 = .ok (.aload_n 0, 1) := by decide +kernel
theorem d23_34 : decode (mB m23) 34 = .ok (.getfield 102, 3) := by decide +kernel
theorem d23_37 : decode (mB m23) 37 = .ok (.if_icmp .ge 20, 3) := by decide +kernel
theorem d23_40 : decode (mB m23) 40 = .ok (.iload_n 1, 1) := by decide +kernel
theorem d23_41 : decode (mB m23) 41 = .ok (.bipush 32, 2) := by decide +kernel
theorem d23_43 : decode (mB m23) 43 = .ok (.if_icmp .ge 14, 3) := by decide +kernel
theorem d23_46 : decode (mB m23) 46 = .ok (.aload_n 0, 1) := by decide +kernel
theorem d23_47 : decode (mB m23) 47 = .ok (.iload_n 1, 1) := by decide +kernel
theorem d23_48 : decode (mB m23) 48 = .ok (.invokevirtual 239, 3) := by decide +kernel
theorem d23_51 : decode (mB m23) 51 = .ok (.iinc 1 1, 3) := by decide +kernel
theorem d23_54 : decode (mB m23) 54 = .ok (.goto (-22), 3) := by decide +kernel
theorem d23_57 : decode (mB m23) 57 = .ok (.iconst 0, 1) := by decide +kernel
theorem d23_58 : decode (mB m23) 58 = .ok (.istore_n 1, 1) := by decide +kernel
theorem d23_59 : decode (mB m23) 59 = .ok (.iconst 0, 1) := by decide +kernel
theorem d23_60 : decode (mB m23) 60 = .ok (.istore_n 2, 1) := by decide +kernel
theorem d23_61 : decode (mB m23) 61 = .ok (.iload_n 2, 1) := by decide +kernel
theorem d23_62 : decode (mB m23) 62 = .ok (.bipush 33, 2) := by decide +kernel
theorem d23_64 : decode (mB m23) 64 = .ok (.if_icmp .ge 38, 3) := by decide +kernel
theorem d23_67 : decode (mB m23) 67 = .ok (.aload_n 0, 1) := by decide +kernel
theorem d23_68 : decode (mB m23) 68 = .ok (.getfield 84, 3) := by decide +kernel
theorem d23_71 : decode (mB m23) 71 = .ok (.iload_n 2, 1) := by decide +kernel
theorem d23_72 : decode (mB m23) 72 = .ok (.iaload, 1) := by decide +kernel
theorem d23_73 : decode (mB m23) 73 = .ok (.aload_n 0, 1) := by decide +kernel
theorem d23_74 : decode (mB m23) 74 = .ok (.getfield 81, 3) := by decide +kernel
theorem d23_77 : decode (mB m23) 77 = .ok (.iload_n 2, 1) := by decide +kernel
theorem d23_78 : decode (mB m23) 78 = .ok (.iaload, 1) := by decide +kernel
theorem d23_79 : decode (mB m23) 79 = .ok (.if_icmp .eq 17, 3) := by decide +kernel
theorem d23_82 : decode (mB m23) 82 = .ok (.iconst 1, 1) := by decide +kernel
theorem d23_83 : decode (mB m23) 83 = .ok (.istore_n 1, 1) := by decide +kernel
theorem d23_84 : decode (mB m23) 84 = .ok (.aload_n 0, 1) := by decide +kernel
theorem d23_85 : decode (mB m23) 85 = .ok (.getfield 81, 3) := by decide +kernel
theorem d23_88 : decode (mB m23) 88 = .ok (.iload_n 2, 1) := by decide +kernel
theorem d23_89 : decode (mB m23) 89 = .ok (.aload_n 0, 1) := by decide +kernel
theorem d23_90 : decode (mB m23) 90 = .ok (.getfield 84, 3) := by decide +kernel
theorem d23_93 : decode (mB m23) 93 = .ok (.iload_n 2, 1) := by decide +kernel
theorem d23_94 : decode (mB m23) 94 = .ok (.iaload, 1) := by decide +kernel
theorem d23_95 : decode (mB m23) 95 = .ok (.iastore, 1) := by decide +kernel
theorem d23_96 : decode (mB m23) 96 = .ok (.iinc 2 1, 3) := by decide +kernel
theorem d23_99 : decode (mB m23) 99 = .ok (.goto (-38), 3) := by decide +kernel
theorem d23_102 : decode (mB m23) 102 = .ok (.iload_n 1, 1) := by decide +kernel
theorem d23_103 : decode (mB m23) 103 = .ok (.ireturn, 1) := by decide +kernel
theorem d24_0 : decode (mB m24) 0 = .ok (.iconst 0, 1) := by decide +kernel
theorem d24_1 : decode (mB m24) 1 = .ok (.istore_n 1, 1) := by decide +kernel
theorem d24_2 : decode (mB m24) 2 = .ok (.iload_n 1, 1) := by decide +kernel
theorem d24_3 : decode (mB m24) 3 = .ok (.bipush 33, 2) := by decide +kernel
theorem d24_5 : decode (mB m24) 5 = .ok (.if_icmp .ge 18, 3) := by decide +kernel
theorem d24_8 : decode (mB m24) 8 = .ok (.aload_n 0, 1) := by decide +kernel
theorem d24_9 : decode (mB m24) 9 = .ok (.getfield 81, 3) := by decide +kernel
theorem d24_12 : decode (mB m24) 12 = .ok (.iload_n 1, 1) := by decide +kernel
theorem d24_13 : decode (mB m24) 13 = .ok (.sipush 255, 3) := by decide +kernel
theorem d24_16 : decode (mB m24) 16 = .ok (.iastore, 1) := by decide +kernel
theorem d24_17 : decode (mB m24) 17 = .ok (.iinc 1 1, 3) := by decide +kernel
theorem d24_20 : decode (mB m24) 20 = .ok (.goto (-18), 3) := by decide +kernel
theorem d24_23 : decode (mB m24) 23 = .ok (.aload_n 0, 1) := by decide +kernel
theorem d24_24 : decode (mB m24) 24 = .ok (.getfield 81, 3) := by decide +kernel
theorem d24_27 : decode (mB m24) 27 = .ok (.iconst 0, 1) := by decide +kernel
theorem d24_28 : decode (mB m24) 28 = .ok (.iconst 0, 1) := by decide +kernel
theorem d24_29 : decode (mB m24) 29 = .ok (.iastore, 1) := by decide +kernel
theorem d24_30 : decode (mB m24) 30 = .ok (.iconst 0, 1) := by decide +kernel
theorem d24_31 : decode (mB m24) 31 = .ok (.istore_n 1, 1) := by decide +kernel
theorem d24_32 : decode (mB m24) 32 = .ok (.iload_n 1, 1) := by decide +kernel
theorem d24_33 : decode (mB m24) 33 = .ok (.sipush 300, 3) := by decide +kernel
theorem d24_36 : decode (mB m24) 36 = .ok (.if_icmp .ge 18, 3) := by decide +kernel
theorem d24_39 : decode (mB m24) 39 = .ok (.aload_n 0, 1) := by decide +kernel
theorem d24_40 : decode (mB m24) 40 = .ok (.invokevirtual 236, 3) := by decide +kernel
theorem d24_43 : decode (mB m24) 43 = .ok (.ifCond .ne 5, 3) := by decide +kernel
theorem d24_46 : decode (mB m24) 46 = .ok (.iconst 1, 1) := by decide +kernel
theorem d24_47 : decode (mB m24) 47 = .ok (.ireturn, 1) := by decide +kernel
theorem d24_48 : decode (mB m24) 48 = .ok (.iinc 1 1, 3) := by decide +kernel
theorem d24_51 : decode (mB m24) 51 = .ok (.goto (-19), 3) := by decide +kernel
theorem d24_54 : decode (mB m24) 54 = .ok (.iconst 0, 1) := by decide +kernel
theorem d24_55 : decode (mB m24) 55 = .ok (.ireturn, 1) := by decide +kernel
theorem d25_0 : decode (mB m25) 0 = .ok (.iconst 0, 1) := by decide +kernel
theorem d25_1 : decode (mB m25) 1 = .ok (.istore_n 1, 1) := by decide +kernel
theorem d25_2 : decode (mB m25) 2 = .ok (.iload_n 1, 1) := by decide +kernel
theorem d25_3 : decode (mB m25) 3 = .ok (.aload_n 0, 1) := by decide +kernel
theorem d25_4 : decode (mB m25) 4 = .ok (.getfield 102, 3) := by decide +kernel
theorem d25_7 : decode (mB m25) 7 = .ok (.if_icmp .ge 52, 3) := by decide +kernel
theorem d25_10 : decode (mB m25) 10 = .ok (.iload_n 1, 1) := by decide +kernel
theorem d25_11 : decode (mB m25) 11 = .ok (.bipush 32, 2) := by decide +kernel
theorem d25_13 : decode (mB m25) 13 = .ok (.if_icmp .ge 46, 3) := by decide +kernel
theorem d25_16 : decode (mB m25) 16 = .ok (.aload_n 0, 1) := by decide +kernel
theorem d25_17 : decode (mB m25) 17 = .ok (.getfield 31, 3) := by decide +kernel
theorem d25_20 : decode (mB m25) 20 = .ok (.iload_n 1, 1) := by decide +kernel
theorem d25_21 : decode (mB m25) 21 = .ok (.iaload, 1) := by decide +kernel
theorem d25_22 : decode (mB m25) 22 = .ok (.bipush 6, 2) := by decide +kernel
theorem d25_24 : decode (mB m25) 24 = .ok (.if_icmp .ne 29, 3) := by decide +kernel
theorem d25_27 : decode (mB m25) 27 = .ok (.aload_n 0, 1) := by decide +kernel
theorem d25_28 : decode (mB m25) 28 = .ok (.aload_n 0, 1) := by decide +kernel
theorem d25_29 : decode (mB m25) 29 = .ok (.getfield 81, 3) := by decide +kernel
theorem d25_32 : decode (mB m25) 32 = .ok (.iload_n 1, 1) := by decide +kernel
theorem d25_33 : decode (mB m25) 33 = .ok (.iaload, 1) := by decide +kernel
theorem d25_34 : decode (mB m25) 34 = .ok (.aload_n 0, 1) := by decide +kernel
theorem d25_35 : decode (mB m25) 35 = .ok (.getfield 35, 3) := by decide +kernel
theorem d25_38 : decode (mB m25) 38 = .ok (.iload_n 1, 1) := by decide +kernel
theorem d25_39 : decode (mB m25) 39 = .ok (.iaload, 1) := by decide +kernel
theorem d25_40 : decode (mB m25) 40 = .ok (.invokevirtual 248, 3) := by decide +kernel
theorem d25_43 : decode (mB m25) 43 = .ok (.ifCond .eq 10, 3) := by decide +kernel
theorem d25_46 : decode (mB m25) 46 = .ok (.aload_n 0, 1) := by decide +kernel
theorem d25_47 : decode (mB m25) 47 = .ok (.getfield 75, 3) := by decide +kernel
theorem d25_50 : decode (mB m25) 50 = .ok (.iload_n 1, 1) := by decide +kernel
theorem d25_51 : decode (mB m25) 51 = .ok (.iconst 1, 1) := by decide +kernel
theorem d25_52 : decode (mB m25) 52 = .ok (.bastore, 1) := by decide +kernel
theorem d25_53 : decode (mB m25) 53 = .ok (.iinc 1 1, 3) := by decide +kernel
theorem d25_56 : decode (mB m25) 56 = .ok (.goto (-54), 3) := by decide +kernel
theorem d25_59 : decode (mB m25) 59 = .ok (.return_, 1) := by decide +kernel
theorem d26_0 : decode (mB m26) 0 = .ok (.iconst 0, 1) := by decide +kernel
theorem d26_1 : decode (mB m26) 1 = .ok (.istore_n 1, 1) := by decide +kernel
theorem d26_2 : decode (mB m26) 2 = .ok (.iload_n 1, 1) := by decide +kernel
theorem d26_3 : decode (mB m26) 3 = .ok (.aload_n 0, 1) := by decide +kernel
theorem d26_4 : decode (mB m26) 4 = .ok (.getfield 102, 3) := by decide +kernel
theorem d26_7 : decode (mB m26) 7 = .ok (.if_icmp .ge 31, 3) := by decide +kernel
theorem d26_10 : decode (mB m26) 10 = .ok (.iload_n 1, 1) := by decide +kernel
theorem d26_11 : decode (mB m26) 11 = .ok (.bipush 32, 2) := by decide +kernel
theorem d26_13 : decode (mB m26) 13 = .ok (.if_icmp .ge 25, 3) := by decide +kernel
theorem d26_16 : decode (mB m26) 16 = .ok (.aload_n 0, 1) := by decide +kernel
theorem d26_17 : decode (mB m26) 17 = .ok (.getfield 31, 3) := by decide +kernel
theorem d26_20 : decode (mB m26) 20 = .ok (.iload_n 1, 1) := by decide +kernel
theorem d26_21 : decode (mB m26) 21 = .ok (.iaload, 1) := by decide +kernel
theorem d26_22 : decode (mB m26) 22 = .ok (.bipush 11, 2) := by decide +kernel
theorem d26_24 : decode (mB m26) 24 = .ok (.if_icmp .ne 8, 3) := by decide +kernel
theorem d26_27 : decode (mB m26) 27 = .ok (.aload_n 0, 1) := by decide +kernel
theorem d26_28 : decode (mB m26) 28 = .ok (.iload_n 1, 1) := by decide +kernel
theorem d26_32 : decode (mB m26) 32 = .ok (.iinc 1 1, 3) := by decide +kernel
theorem d26_35 : decode (mB m26) 35 = .ok (.goto (-33), 3) := by decide +kernel
theorem d26_38 : decode (mB m26) 38 = .ok (.return_, 1) := by decide +kernel
theorem d27_0 : decode (mB m27) 0 = .ok (.iload_n 1, 1) := by decide +kernel
theorem d27_1 : decode (mB m27) 1 = .ok (.iconst 1, 1) := by decide +kernel
theorem d27_2 : decode (mB m27) 2 = .ok (.iadd, 1) := by decide +kernel
theorem d27_3 : decode (mB m27) 3 = .ok (.istore_n 2, 1) := by decide +kernel
theorem d27_4 : decode (mB m27) 4 = .ok (.iload_n 2, 1) := by decide +kernel
theorem d27_5 : decode (mB m27) 5 = .ok (.ifCond .lt 9, 3) := by decide +kernel
theorem d27_8 : decode (mB m27) 8 = .ok (.iload_n 2, 1) := by decide +kernel
theorem d27_9 : decode (mB m27) 9 = .ok (.bipush 32, 2) := by decide +kernel
theorem d27_11 : decode (mB m27) 11 = .ok (.if_icmp .lt 5, 3) := by decide +kernel
theorem d27_14 : decode (mB m27) 14 = .ok (.iconst 0, 1) := by decide +kernel
theorem d27_15 : decode (mB m27) 15 = .ok (.ireturn, 1) := by decide +kernel
theorem d27_16 : decode (mB m27) 16 = .ok (.aload_n 0, 1) := by decide +kernel
theorem d27_17 : decode (mB m27) 17 = .ok (.getfield 35, 3) := by decide +kernel
theorem d27_20 : decode (mB m27) 20 = .ok (.iload_n 1, 1) := by decide +kernel
theorem d27_21 : decode (mB m27) 21 = .ok (.iaload, 1) := by decide +kernel
theorem d27_22 : decode (mB m27) 22 = .ok (.istore_n 3, 1) := by decide +kernel
theorem d27_23 : decode (mB m27) 23 = .ok (.aload_n 0, 1) := by decide +kernel
theorem d27_24 : decode (mB m27) 24 = .ok (.getfield 31, 3) := by decide +kernel
theorem d27_27 : decode (mB m27) 27 = .ok (.iload_n 2, 1) := by decide +kernel
theorem d27_28 : decode (mB m27) 28 = .ok (.iaload, 1) := by decide +kernel
theorem d27_29 : decode (mB m27) 29 = .ok (.iconst 4, 1) := by decide +kernel
theorem d27_30 : decode (mB m27) 30 = .ok (.if_icmp .ne 39, 3) := by decide +kernel
theorem d27_33 : decode (mB m27) 33 = .ok (.aload_n 0, 1) := by decide +kernel
theorem d27_34 : decode (mB m27) 34 = .ok (.getfield 38, 3) := by decide +kernel
theorem d27_37 : decode (mB m27) 37 = .ok (.iload_n 2, 1) := by decide +kernel
theorem d27_38 : decode (mB m27) 38 = .ok (.iaload, 1) := by decide +kernel
theorem d27_39 : decode (mB m27) 39 = .ok (.iload_n 3, 1) := by decide +kernel
theorem d27_40 : decode (mB m27) 40 = .ok (.if_icmp .ne 27, 3) := by decide +kernel
theorem d27_43 : decode (mB m27) 43 = .ok (.aload_n 0, 1) := by decide +kernel
theorem d27_44 : decode (mB m27) 44 = .ok (.getfield 41, 3) := by decide +kernel
theorem d27_47 : decode (mB m27) 47 = .ok (.iload_n 2, 1) := by decide +kernel
theorem d27_48 : decode (mB m27) 48 = .ok (.iaload, 1) := by decide +kernel
theorem d27_49 : decode (mB m27) 49 = .ok (.ifCond .lt 18, 3) := by decide +kernel
theorem d27_52 : decode (mB m27) 52 = .ok (.aload_n 0, 1) := by decide +kernel
theorem d27_53 : decode (mB m27) 53 = .ok (.getfield 41, 3) := by decide +kernel
theorem d27_56 : decode (mB m27) 56 = .ok (.iload_n 2, 1) := by decide +kernel
theorem d27_57 : decode (mB m27) 57 = .ok (.iaload, 1) := by decide +kernel
theorem d27_58 : decode (mB m27) 58 = .ok (.bipush 7, 2) := by decide +kernel
theorem d27_60 : decode (mB m27) 60 = .ok (.if_icmp .gt 7, 3) := by decide +kernel
theorem d27_63 : decode (mB m27) 63 = .ok (.iconst 1, 1) := by decide +kernel
theorem d27_64 : decode (mB m27) 64 = .ok (.goto 4, 3) := by decide +kernel
theorem d27_67 : decode (mB m27) 67 = .ok (.iconst 0, 1) := by decide +kernel
theorem d27_68 : decode (mB m27) 68 = .ok (.ireturn, 1) := by decide +kernel
theorem d27_69 : decode (mB m27) 69 = .ok (.aload_n 0, 1) := by decide +kernel
theorem d27_70 : decode (mB m27) 70 = .ok (.getfield 31, 3) := by decide +kernel
theorem d27_73 : decode (mB m27) 73 = .ok (.iload_n 2, 1) := by decide +kernel
theorem d27_74 : decode (mB m27) 74 = .ok (.iaload, 1) := by decide +kernel
theorem d27_75 : decode (mB m27) 75 = .ok (.iconst 5, 1) := by decide +kernel
theorem d27_76 : decode (mB m27) 76 = .ok (.if_icmp .ne 39, 3) := by decide +kernel
theorem d27_79 : decode (mB m27) 79 = .ok (.aload_n 0, 1) := by decide +kernel
theorem d27_80 : decode (mB m27) 80 = .ok (.getfield 35, 3) := by decide +kernel
theorem d27_83 : decode (mB m27) 83 = .ok (.iload_n 2, 1) := by decide +kernel
theorem d27_84 : decode (mB m27) 84 = .ok (.iaload, 1) := by decide +kernel
theorem d27_85 : decode (mB m27) 85 = .ok (.iload_n 3, 1) := by decide +kernel
theorem d27_86 : decode (mB m27) 86 = .ok (.if_icmp .ne 27, 3) := by decide +kernel
theorem d27_89 : decode (mB m27) 89 = .ok (.aload_n 0, 1) := by decide +kernel
theorem d27_90 : decode (mB m27) 90 = .ok (.getfield 38, 3) := by decide +kernel
theorem d27_93 : decode (mB m27) 93 = .ok (.iload_n 2, 1) := by decide +kernel
theorem d27_94 : decode (mB m27) 94 = .ok (.iaload, 1) := by decide +kernel
theorem d27_95 : decode (mB m27) 95 = .ok (.ifCond .lt 18, 3) := by decide +kernel
theorem d27_98 : decode (mB m27) 98 = .ok (.aload_n 0, 1) := by decide +kernel
theorem d27_99 : decode (mB m27) 99 = .ok (.getfield 38, 3) := by decide +kernel
theorem d27_102 : decode (mB m27) 102 = .ok (.iload_n 2, 1) := by decide +kernel
theorem d27_103 : decode (mB m27) 103 = .ok (.iaload, 1) := by decide +kernel
theorem d27_104 : decode (mB m27) 104 = .ok (.bipush 7, 2) := by decide +kernel
theorem d27_106 : decode (mB m27) 106 = .ok (.if_icmp .gt 7, 3) := by decide +kernel
theorem d27_109 : decode (mB m27) 109 = .ok (.iconst 1, 1) := by decide +kernel
theorem d27_110 : decode (mB m27) 110 = .ok (.goto 4, 3) := by decide +kernel
theorem d27_113 : decode (mB m27) 113 = .ok (.iconst 0, 1) := by decide +kernel
theorem d27_114 : decode (mB m27) 114 = .ok (.ireturn, 1) := by decide +kernel
theorem d27_115 : decode (mB m27) 115 = .ok (.iconst 0, 1) := by decide +kernel
theorem d27_116 : decode (mB m27) 116 = .ok (.ireturn, 1) := by decide +kernel
theorem d28_0 : decode (mB m28) 0 = .ok (.iconst 0, 1) := by decide +kernel
theorem d28_1 : decode (mB m28) 1 = .ok (.istore_n 1, 1) := by decide +kernel
theorem d28_2 : decode (mB m28) 2 = .ok (.iload_n 1, 1) := by decide +kernel
theorem d28_3 : decode (mB m28) 3 = .ok (.iconst 1, 1) := by decide +kernel
theorem d28_4 : decode (mB m28) 4 = .ok (.iadd, 1) := by decide +kernel
theorem d28_5 : decode (mB m28) 5 = .ok (.aload_n 0, 1) := by decide +kernel
theorem d28_6 : decode (mB m28) 6 = .ok (.getfield 102, 3) := by decide +kernel
theorem d28_9 : decode (mB m28) 9 = .ok (.if_icmp .ge 52, 3) := by decide +kernel
theorem d28_12 : decode (mB m28) 12 = .ok (.iload_n 1, 1) := by decide +kernel
theorem d28_13 : decode (mB m28) 13 = .ok (.iconst 1, 1) := by decide +kernel
theorem d28_14 : decode (mB m28) 14 = .ok (.iadd, 1) := by decide +kernel
theorem d28_15 : decode (mB m28) 15 = .ok (.bipush 32, 2) := by decide +kernel
theorem d28_17 : decode (mB m28) 17 = .ok (.if_icmp .ge 44, 3) := by decide +kernel
theorem d28_20 : decode (mB m28) 20 = .ok (.aload_n 0, 1) := by decide +kernel
theorem d28_21 : decode (mB m28) 21 = .ok (.getfield 31, 3) := by decide +kernel
theorem d28_24 : decode (mB m28) 24 = .ok (.iload_n 1, 1) := by decide +kernel
theorem d28_25 : decode (mB m28) 25 = .ok (.iaload, 1) := by decide +kernel
theorem d28_26 : decode (mB m28) 26 = .ok (.bipush 6, 2) := by decide +kernel
theorem d28_28 : decode (mB m28) 28 = .ok (.if_icmp .ne 27, 3) := by decide +kernel
theorem d28_31 : decode (mB m28) 31 = .ok (.aload_n 0, 1) := by decide +kernel
theorem d28_32 : decode (mB m28) 32 = .ok (.getfield 75, 3) := by decide +kernel
theorem d28_35 : decode (mB m28) 35 = .ok (.iload_n 1, 1) := by decide +kernel
theorem d28_36 : decode (mB m28) 36 = .ok (.baload, 1) := by decide +kernel
theorem d28_37 : decode (mB m28) 37 = .ok (.ifCond .ne 18, 3) := by decide +kernel
theorem d28_40 : decode (mB m28) 40 = .ok (.aload_n 0, 1) := by decide +kernel
theorem d28_41 : decode (mB m28) 41 = .ok (.iload_n 1, 1) := by decide +kernel
theorem d28_42 : decode (mB m28) 42 = .ok (.invokevirtual 273, 3) := by decide +kernel
theorem d28_45 : decode (mB m28) 45 = .ok (.ifCond .eq 10, 3) := by decide +kernel
theorem d28_48 : decode (mB m28) 48 = .ok (.aload_n 0, 1) := by decide +kernel
theorem d28_49 : decode (mB m28) 49 = .ok (.getfield 75, 3) := by decide +kernel
theorem d28_52 : decode (mB m28) 52 = .ok (.iload_n 1, 1) := by decide +kernel
theorem d28_53 : decode (mB m28) 53 = .ok (.iconst 1, 1) := by decide +kernel
theorem d28_54 : decode (mB m28) 54 = .ok (.bastore, 1) := by decide +kernel
theorem d28_55 : decode (mB m28) 55 = .ok (.iinc 1 1, 3) := by decide +kernel
theorem d28_58 : decode (mB m28) 58 = .ok (.goto (-56), 3) := by decide +kernel
theorem d28_61 : decode (mB m28) 61 = .ok (.return_, 1) := by decide +kernel
theorem d29_0 : decode (mB m29) 0 = .ok (.aload_n 0, 1) := by decide +kernel
theorem d29_1 : decode (mB m29) 1 = .ok (.invokevirtual 160, 3) := by decide +kernel
theorem d29_4 : decode (mB m29) 4 = .ok (.aload_n 0, 1) := by decide +kernel
theorem d29_5 : decode (mB m29) 5 = .ok (.invokevirtual 208, 3) := by decide +kernel
theorem d29_8 : decode (mB m29) 8 = .ok (.aload_n 0, 1) := by decide +kernel
theorem d29_9 : decode (mB m29) 9 = .ok (.invokevirtual 211, 3) := by decide +kernel
theorem d29_12 : decode (mB m29) 12 = .ok (.istore_n 1, 1) := by decide +kernel
theorem d29_13 : decode (mB m29) 13 = .ok (.iload_n 1, 1) := by decide +kernel
theorem d29_14 : decode (mB m29) 14 = .ok (.ifCond .eq 7, 3) := by decide +kernel
theorem d29_17 : decode (mB m29) 17 = .ok (.aload_n 0, 1) := by decide +kernel
theorem d29_18 : decode (mB m29) 18 = .ok (.invokevirtual 215, 3) := by decide +kernel
theorem d29_21 : decode (mB m29) 21 = .ok (.aload_n 0, 1) := by decide +kernel
theorem d29_22 : decode (mB m29) 22 = .ok (.invokevirtual 218, 3) := by decide +kernel
theorem d29_25 : decode (mB m29) 25 = .ok (.aload_n 0, 1) := by decide +kernel
theorem d29_26 : decode (mB m29) 26 = .ok (.invokevirtual 221, 3) := by decide +kernel
theorem d29_29 : decode (mB m29) 29 = .ok (.return_, 1) := by decide +kernel
theorem d30_0 : decode (mB m30) 0 = .ok (.aload_n 0, 1) := by decide +kernel
theorem d30_1 : decode (mB m30) 1 = .ok (.iload_n 1, 1) := by decide +kernel
theorem d30_2 : decode (mB m30) 2 = .ok (.putfield 109, 3) := by decide +kernel
theorem d30_5 : decode (mB m30) 5 = .ok (.iload_n 1, 1) := by decide +kernel
theorem d30_6 : decode (mB m30) 6 = .ok (.iconst 1, 1) := by decide +kernel
theorem d30_7 : decode (mB m30) 7 = .ok (.if_icmp .ne 11, 3) := by decide +kernel
theorem d30_10 : decode (mB m30) 10 = .ok (.aload_n 0, 1) := by decide +kernel
theorem d30_11 : decode (mB m30) 11 = .ok (.iload_n 2, 1) := by decide +kernel
theorem d30_12 : decode (mB m30) 12 = .ok (.putfield 112, 3) := by decide +kernel
theorem d30_15 : decode (mB m30) 15 = .ok (.goto 8, 3) := by decide +kernel
theorem d30_18 : decode (mB m30) 18 = .ok (.aload_n 0, 1) := by decide +kernel
theorem d30_19 : decode (mB m30) 19 = .ok (.iconst 0, 1) := by decide +kernel
theorem d30_20 : decode (mB m30) 20 = .ok (.putfield 112, 3) := by decide +kernel
theorem d30_23 : decode (mB m30) 23 = .ok (.return_, 1) := by decide +kernel
theorem d31_0 : decode (mB m31) 0 = .ok (.iload_n 1, 1) := by decide +kernel
theorem d31_1 : decode (mB m31) 1 = .ok (.ifCond .lt 11, 3) := by decide +kernel
theorem d31_4 : decode (mB m31) 4 = .ok (.iload_n 1, 1) := by decide +kernel
theorem d31_5 : decode (mB m31) 5 = .ok (.bipush 7, 2) := by decide +kernel
theorem d31_7 : decode (mB m31) 7 = .ok (.if_icmp .gt 5, 3) := by decide +kernel
theorem d31_10 : decode (mB m31) 10 = .ok (.iconst 2, 1) := by decide +kernel
theorem d31_11 : decode (mB m31) 11 = .ok (.ireturn, 1) := by decide +kernel
theorem d31_12 : decode (mB m31) 12 = .ok (.iload_n 1, 1) := by decide +kernel
theorem d31_13 : decode (mB m31) 13 = .ok (.ifCond .lt 17, 3) := by decide +kernel
theorem d31_16 : decode (mB m31) 16 = .ok (.iload_n 1, 1) := by decide +kernel
theorem d31_17 : decode (mB m31) 17 = .ok (.aload_n 0, 1) := by decide +kernel
theorem d31_18 : decode (mB m31) 18 = .ok (.getfield 99, 3) := by decide +kernel
theorem d31_21 : decode (mB m31) 21 = .ok (.if_icmp .ge 9, 3) := by decide +kernel
theorem d31_24 : decode (mB m31) 24 = .ok (.iload_n 1, 1) := by decide +kernel
theorem d31_25 : decode (mB m31) 25 = .ok (.bipush 64, 2) := by decide +kernel
theorem d31_27 : decode (mB m31) 27 = .ok (.if_icmp .lt 5, 3) := by decide +kernel
theorem d31_30 : decode (mB m31) 30 = .ok (.iconst 3, 1) := by decide +kernel
theorem d31_31 : decode (mB m31) 31 = .ok (.ireturn, 1) := by decide +kernel
theorem d31_32 : decode (mB m31) 32 = .ok (.iconst 0, 1) := by decide +kernel
theorem d31_33 : decode (mB m31) 33 = .ok (.ireturn, 1) := by decide +kernel
theorem d32_0 : decode (mB m32) 0 = .ok (.aload_n 0, 1) := by decide +kernel
theorem d32_1 : decode (mB m32) 1 = .ok (.getfield 69, 3) := by decide +kernel
theorem d32_4 : decode (mB m32) 4 = .ok (.aload_n 0, 1) := by decide +kernel
theorem d32_5 : decode (mB m32) 5 = .ok (.getfield 38, 3) := by decide +kernel
theorem d32_8 : decode (mB m32) 8 = .ok (.iload_n 1, 1) := by decide +kernel
theorem d32_9 : decode (mB m32) 9 = .ok (.iaload, 1) := by decide +kernel
theorem d32_10 : decode (mB m32) 10 = .ok (.bipush 7, 2) := by decide +kernel
theorem d32_12 : decode (mB m32) 12 = .ok (.iand, 1) := by decide +kernel
theorem d32_13 : decode (mB m32) 13 = .ok (.iaload, 1) := by decide +kernel
theorem d32_14 : decode (mB m32) 14 = .ok (.istore_n 2, 1) := by decide +kernel
theorem d32_15 : decode (mB m32) 15 = .ok (.iload_n 2, 1) := by decide +kernel
theorem d32_16 : decode (mB m32) 16 = .ok (.aload_n 0, 1) := by decide +kernel
theorem d32_17 : decode (mB m32) 17 = .ok (.getfield 41, 3) := by decide +kernel
theorem d32_20 : decode (mB m32) 20 = .ok (.iload_n 1, 1) := by decide +kernel
theorem d32_21 : decode (mB m32) 21 = .ok (.iaload, 1) := by decide +kernel
theorem d32_22 : decode (mB m32) 22 = .ok (.iadd, 1) := by decide +kernel
theorem d32_23 : decode (mB m32) 23 = .ok (.istore_n 3, 1) := by decide +kernel
theorem d32_24 : decode (mB m32) 24 = .ok (.aload_n 0, 1) := by decide +kernel
theorem d32_25 : decode (mB m32) 25 = .ok (.iload_n 3, 1) := by decide +kernel
theorem d32_26 : decode (mB m32) 26 = .ok (.invokevirtual 198, 3) := by decide +kernel
theorem d32_29 : decode (mB m32) 29 = .ok (.istore 4, 2) := by decide +kernel
theorem d32_31 : decode (mB m32) 31 = .ok (.iload 4, 2) := by decide +kernel
theorem d32_33 : decode (mB m32) 33 = .ok (.ifCond .eq 12, 3) := by decide +kernel
theorem d32_36 : decode (mB m32) 36 = .ok (.aload_n 0, 1) := by decide +kernel
theorem d32_37 : decode (mB m32) 37 = .ok (.iload 4, 2) := by decide +kernel
theorem d32_39 : decode (mB m32) 39 = .ok (.iconst 0, 1) := by decide +kernel
theorem d32_40 : decode (mB m32) 40 = .ok (.invokevirtual 166, 3) := by decide +kernel
theorem d32_43 : decode (mB m32) 43 = .ok (.iload_n 1, 1) := by decide +kernel
theorem d32_44 : decode (mB m32) 44 = .ok (.ireturn, 1) := by decide +kernel
theorem d32_45 : decode (mB m32) 45 = .ok (.aload_n 0, 1) := by decide +kernel
theorem d32_46 : decode (mB m32) 46 = .ok (.getfield 69, 3) := by decide +kernel
theorem d32_49 : decode (mB m32) 49 = .ok (.aload_n 0, 1) := by decide +kernel
theorem d32_50 : decode (mB m32) 50 = .ok (.getfield 35, 3) := by decide +kernel
theorem d32_53 : decode (mB m32) 53 = .ok (.iload_n 1, 1) := by decide +kernel
theorem d32_54 : decode (mB m32) 54 = .ok (.iaload, 1) := by decide +kernel
theorem d32_55 : decode (mB m32) 55 = .ok (.bipush 7, 2) := by decide +kernel
theorem d32_57 : decode (mB m32) 57 = .ok (.iand, 1) := by decide +kernel
theorem d32_58 : decode (mB m32) 58 = .ok (.aload_n 0, 1) := by decide +kernel
theorem d32_59 : decode (mB m32) 59 = .ok (.getfield 63, 3) := by decide +kernel
theorem d32_62 : decode (mB m32) 62 = .ok (.iload_n 3, 1) := by decide +kernel
theorem d32_63 : decode (mB m32) 63 = .ok (.bipush 63, 2) := by decide +kernel
theorem d32_65 : decode (mB m32) 65 = .ok (.iand, 1) := by decide +kernel
theorem d32_66 : decode (mB m32) 66 = .ok (.iaload, 1) := by decide +kernel
theorem d32_67 : decode (mB m32) 67 = .ok (.iastore, 1) := by decide +kernel
theorem d32_68 : decode (mB m32) 68 = .ok (.iload_n 1, 1) := by decide +kernel
theorem d32_69 : decode (mB m32) 69 = .ok (.iconst 1, 1) := by decide +kernel
theorem d32_70 : decode (mB m32) 70 = .ok (.iadd, 1) := by decide +kernel
theorem d32_71 : decode (mB m32) 71 = .ok (.ireturn, 1) := by decide +kernel
theorem d33_0 : decode (mB m33) 0 = .ok (.aload_n 0, 1) := by decide +kernel
theorem d33_1 : decode (mB m33) 1 = .ok (.getfield 69, 3) := by decide +kernel
theorem d33_4 : decode (mB m33) 4 = .ok (.aload_n 0, 1) := by decide +kernel
theorem d33_5 : decode (mB m33) 5 = .ok (.getfield 35, 3) := by decide +kernel
theorem d33_8 : decode (mB m33) 8 = .ok (.iload_n 1, 1) := by decide +kernel
theorem d33_9 : decode (mB m33) 9 = .ok (.iaload, 1) := by decide +kernel
theorem d33_10 : decode (mB m33) 10 = .ok (.bipush 7, 2) := by decide +kernel
theorem d33_12 : decode (mB m33) 12 = .ok (.iand, 1) := by decide +kernel
theorem d33_13 : decode (mB m33) 13 = .ok (.iaload, 1) := by decide +kernel
theorem d33_14 : decode (mB m33) 14 = .ok (.istore_n 2, 1) := by decide +kernel
theorem d33_15 : decode (mB m33) 15 = .ok (.iload_n 2, 1) := by decide +kernel
theorem d33_16 : decode (mB m33) 16 = .ok (.aload_n 0, 1) := by decide +kernel
theorem d33_17 : decode (mB m33) 17 = .ok (.getfield 38, 3) := by decide +kernel
theorem d33_20 : decode (mB m33) 20 = .ok (.iload_n 1, 1) := by decide +kernel
theorem d33_21 : decode (mB m33) 21 = .ok (.iaload, 1) := by decide +kernel
theorem d33_22 : decode (mB m33) 22 = .ok (.iadd, 1) := by decide +kernel
theorem d33_23 : decode (mB m33) 23 = .ok (.istore_n 3, 1) := by decide +kernel
theorem d33_24 : decode (mB m33) 24 = .ok (.aload_n 0, 1) := by decide +kernel
theorem d33_25 : decode (mB m33) 25 = .ok (.iload_n 3, 1) := by decide +kernel
theorem d33_26 : decode (mB m33) 26 = .ok (.invokevirtual 198, 3) := by decide +kernel
theorem d33_29 : decode (mB m33) 29 = .ok (.istore 4, 2) := by decide +kernel
theorem d33_31 : decode (mB m33) 31 = .ok (.iload 4, 2) := by decide +kernel
theorem d33_33 : decode (mB m33) 33 = .ok (.ifCond .eq 12, 3) := by decide +kernel
theorem d33_36 : decode (mB m33) 36 = .ok (.aload_n 0, 1) := by decide +kernel
theorem d33_37 : decode (mB m33) 37 = .ok (.iload 4, 2) := by decide +kernel
theorem d33_39 : decode (mB m33) 39 = .ok (.iconst 0, 1) := by decide +kernel
theorem d33_40 : decode (mB m33) 40 = .ok (.invokevirtual 166, 3) := by decide +kernel
theorem d33_43 : decode (mB m33) 43 = .ok (.iload_n 1, 1) := by decide +kernel
theorem d33_44 : decode (mB m33) 44 = .ok (.ireturn, 1) := by decide +kernel
theorem d33_45 : decode (mB m33) 45 = .ok (.aload_n 0, 1) := by decide +kernel
theorem d33_46 : decode (mB m33) 46 = .ok (.getfield 63, 3) := by decide +kernel
theorem d33_49 : decode (mB m33) 49 = .ok (.iload_n 3, 1) := by decide +kernel
theorem d33_50 : decode (mB m33) 50 = .ok (.bipush 63, 2) := by decide +kernel
theorem d33_52 : decode (mB m33) 52 = .ok (.iand, 1) := by decide +kernel
theorem d33_53 : decode (mB m33) 53 = .ok (.aload_n 0, 1) := by decide +kernel
theorem d33_54 : decode (mB m33) 54 = .ok (.getfield 69, 3) := by decide +kernel
theorem d33_57 : decode (mB m33) 57 = .ok (.aload_n 0, 1) := by decide +kernel
theorem d33_58 : decode (mB m33) 58 = .ok (.getfield 41, 3) := by decide +kernel
theorem d33_61 : decode (mB m33) 61 = .ok (.iload_n 1, 1) := by decide +kernel
theorem d33_62 : decode (mB m33) 62 = .ok (.iaload, 1) := by decide +kernel
theorem d33_63 : decode (mB m33) 63 = .ok (.bipush 7, 2) := by decide +kernel
theorem d33_65 : decode (mB m33) 65 = .ok (.iand, 1) := by decide +kernel
theorem d33_66 : decode (mB m33) 66 = .ok (.iaload, 1) := by decide +kernel
theorem d33_67 : decode (mB m33) 67 = .ok (.iastore, 1) := by decide +kernel
theorem d33_68 : decode (mB m33) 68 = .ok (.iload_n 1, 1) := by decide +kernel
theorem d33_69 : decode (mB m33) 69 = .ok (.iconst 1, 1) := by decide +kernel
theorem d33_70 : decode (mB m33) 70 = .ok (.iadd, 1) := by decide +kernel
theorem d33_71 : decode (mB m33) 71 = .ok (.ireturn, 1) := by decide +kernel
theorem d34_0 : decode (mB m34) 0 = .ok (.aload_n 0, 1) := by decide +kernel
theorem d34_1 : decode (mB m34) 1 = .ok (.getfield 75, 3) := by decide +kernel
theorem d34_4 : decode (mB m34) 4 = .ok (.iload_n 1, 1) := by decide +kernel
theorem d34_5 : decode (mB m34) 5 = .ok (.baload, 1) := by decide +kernel
theorem d34_6 : decode (mB m34) 6 = .ok (.ifCond .eq 7, 3) := by decide +kernel
theorem d34_9 : decode (mB m34) 9 = .ok (.iload_n 1, 1) := by decide +kernel
theorem d34_10 : decode (mB m34) 10 = .ok (.iconst 1, 1) := by decide +kernel
theorem d34_11 : decode (mB m34) 11 = .ok (.iadd, 1) := by decide +kernel
theorem d34_12 : decode (mB m34) 12 = .ok (.ireturn, 1) := by decide +kernel
theorem d34_13 : decode (mB m34) 13 = .ok (.aload_n 0, 1) := by decide +kernel
theorem d34_14 : decode (mB m34) 14 = .ok (.getfield 69, 3) := by decide +kernel
theorem d34_17 : decode (mB m34) 17 = .ok (.aload_n 0, 1) := by decide +kernel
theorem d34_18 : decode (mB m34) 18 = .ok (.getfield 35, 3) := by decide +kernel
theorem d34_21 : decode (mB m34) 21 = .ok (.iload_n 1, 1) := by decide +kernel
theorem d34_22 : decode (mB m34) 22 = .ok (.iaload, 1) := by decide +kernel
theorem d34_23 : decode (mB m34) 23 = .ok (.bipush 7, 2) := by decide +kernel
theorem d34_25 : decode (mB m34) 25 = .ok (.iand, 1) := by decide +kernel
theorem d34_26 : decode (mB m34) 26 = .ok (.iaload, 1) := by decide +kernel
theorem d34_27 : decode (mB m34) 27 = .ok (.ifCond .ne 11, 3) := by decide +kernel
theorem d34_30 : decode (mB m34) 30 = .ok (.aload_n 0, 1) := by decide +kernel
theorem d34_31 : decode (mB m34) 31 = .ok (.iconst 2, 1) := by decide +kernel
theorem d34_32 : decode (mB m34) 32 = .ok (.iconst 0, 1) := by decide +kernel
theorem d34_33 : decode (mB m34) 33 = .ok (.invokevirtual 166, 3) := by decide +kernel
theorem d34_36 : decode (mB m34) 36 = .ok (.iload_n 1, 1) := by decide +kernel
theorem d34_37 : decode (mB m34) 37 = .ok (.ireturn, 1) := by decide +kernel
theorem d34_38 : decode (mB m34) 38 = .ok (.iload_n 1, 1) := by decide +kernel
theorem d34_39 : decode (mB m34) 39 = .ok (.iconst 1, 1) := by decide +kernel
theorem d34_40 : decode (mB m34) 40 = .ok (.iadd, 1) := by decide +kernel
theorem d34_41 : decode (mB m34) 41 = .ok (.ireturn, 1) := by decide +kernel
theorem d35_0 : decode (mB m35) 0 = .ok (.aload_n 0, 1) := by decide +kernel
theorem d35_1 : decode (mB m35) 1 = .ok (.getfield 115, 3) := by decide +kernel
theorem d35_4 : decode (mB m35) 4 = .ok (.ifCond .lt 22, 3) := by decide +kernel
theorem d35_7 : decode (mB m35) 7 = .ok (.aload_n 0, 1) := by decide +kernel
theorem d35_8 : decode (mB m35) 8 = .ok (.getfield 115, 3) := by decide +kernel
theorem d35_11 : decode (mB m35) 11 = .ok (.bipush 32, 2) := by decide +kernel
theorem d35_13 : decode (mB m35) 13 = .ok (.if_icmp .ge 13, 3) := by decide +kernel
theorem d35_16 : decode (mB m35) 16 = .ok (.aload_n 0, 1) := by decide +kernel
theorem d35_17 : decode (mB m35) 17 = .ok (.getfield 66, 3) := by decide +kernel
theorem d35_20 : decode (mB m35) 20 = .ok (.aload_n 0, 1) := by decide +kernel
theorem d35_21 : decode (mB m35) 21 = .ok (.getfield 115, 3) := by decide +kernel
theorem d35_24 : decode (mB m35) 24 = .ok (.iload_n 1, 1) := by decide +kernel
theorem d35_25 : decode (mB m35) 25 = .ok (.iastore, 1) := by decide +kernel
theorem d35_26 : decode (mB m35) 26 = .ok (.aload_n 0, 1) := by decide +kernel
theorem d35_27 : decode (mB m35) 27 = .ok (.dup, 1) := by decide +kernel
theorem d35_28 : decode (mB m35) 28 = .ok (.getfield 115, 3) := by decide +kernel
theorem d35_31 : decode (mB m35) 31 = .ok (.iconst 1, 1) := by decide +kernel
theorem d35_32 : decode (mB m35) 32 = .ok (.iadd, 1) := by decide +kernel
theorem d35_33 : decode (mB m35) 33 = .ok (.putfield 115, 3) := by decide +kernel
theorem d35_36 : decode (mB m35) 36 = .ok (.return_, 1) := by decide +kernel
theorem d36_0 : decode (mB m36) 0 = .ok (.aload_n 0, 1) := by decide +kernel
theorem d36_1 : decode (mB m36) 1 = .ok (.getfield 31, 3) := by decide +kernel
theorem d36_4 : decode (mB m36) 4 = .ok (.iload_n 1, 1) := by decide +kernel
theorem d36_5 : decode (mB m36) 5 = .ok (.iaload, 1) := by decide +kernel
theorem d36_6 : decode (mB m36) 6 = .ok (.istore_n 2, 1) := by decide +kernel
theorem d36_7 : decode (mB m36) 7 = .ok (.iload_n 2, 1) := by decide +kernel
theorem d36_8 : decode (mB m36) 8 = .ok (.tableswitch 244 1 12 #[64, 88, 120, 159, 165, 171, 177, 199, 205, 211, 217, 223], 64) := by decide +kernel
theorem d36_72 : decode (mB m36) 72 = .ok (.aload_n 0, 1) := by decide +kernel
theorem d36_73 : decode (mB m36) 73 = .ok (.getfield 69, 3) := by decide +kernel
theorem d36_76 : decode (mB m36) 76 = .ok (.aload_n 0, 1) := by decide +kernel
theorem d36_77 : decode (mB m36) 77 = .ok (.getfield 35, 3) := by decide +kernel
theorem d36_80 : decode (mB m36) 80 = .ok (.iload_n 1, 1) := by decide +kernel
theorem d36_81 : decode (mB m36) 81 = .ok (.iaload, 1) := by decide +kernel
theorem d36_82 : decode (mB m36) 82 = .ok (.bipush 7, 2) := by decide +kernel
theorem d36_84 : decode (mB m36) 84 = .ok (.iand, 1) := by decide +kernel
theorem d36_85 : decode (mB m36) 85 = .ok (.aload_n 0, 1) := by decide +kernel
theorem d36_86 : decode (mB m36) 86 = .ok (.getfield 38, 3) := by decide +kernel
theorem d36_89 : decode (mB m36) 89 = .ok (.iload_n 1, 1) := by decide +kernel
theorem d36_90 : decode (mB m36) 90 = .ok (.iaload, 1) := by decide +kernel
theorem d36_91 : decode (mB m36) 91 = .ok (.iastore, 1) := by decide +kernel
theorem d36_92 : decode (mB m36) 92 = .ok (.iload_n 1, 1) := by decide +kernel
theorem d36_93 : decode (mB m36) 93 = .ok (.iconst 1, 1) := by decide +kernel
theorem d36_94 : decode (mB m36) 94 = .ok (.iadd, 1) := by decide +kernel
theorem d36_95 : decode (mB m36) 95 = .ok (.ireturn, 1) := by decide +kernel
theorem d36_96 : decode (mB m36) 96 = .ok (.aload_n 0, 1) := by decide +kernel
theorem d36_97 : decode (mB m36) 97 = .ok (.getfield 69, 3) := by decide +kernel
theorem d36_100 : decode (mB m36) 100 = .ok (.aload_n 0, 1) := by decide +kernel
theorem d36_101 : decode (mB m36) 101 = .ok (.getfield 35, 3) := by decide +kernel
theorem d36_104 : decode (mB m36) 104 = .ok (.iload_n 1, 1) := by decide +kernel
theorem d36_105 : decode (mB m36) 105 = .ok (.iaload, 1) := by decide +kernel
theorem d36_106 : decode (mB m36) 106 = .ok (.bipush 7, 2) := by decide +kernel
theorem d36_108 : decode (mB m36) 108 = .ok (.iand, 1) := by decide +kernel
theorem d36_109 : decode (mB m36) 109 = .ok (.aload_n 0, 1) := by decide +kernel
theorem d36_110 : decode (mB m36) 110 = .ok (.getfield 69, 3) := by decide +kernel
theorem d36_113 : decode (mB m36) 113 = .ok (.aload_n 0, 1) := by decide +kernel
theorem d36_114 : decode (mB m36) 114 = .ok (.getfield 38, 3) := by decide +kernel
theorem d36_117 : decode (mB m36) 117 = .ok (.iload_n 1, 1) := by decide +kernel
theorem d36_118 : decode (mB m36) 118 = .ok (.iaload, 1) := by decide +kernel
theorem d36_119 : decode (mB m36) 119 = .ok (.bipush 7, 2) := by decide +kernel
theorem d36_121 : decode (mB m36) 121 = .ok (.iand, 1) := by decide +kernel
theorem d36_122 : decode (mB m36) 122 = .ok (.iaload, 1) := by decide +kernel
theorem d36_123 : decode (mB m36) 123 = .ok (.iastore, 1) := by decide +kernel
theorem d36_124 : decode (mB m36) 124 = .ok (.iload_n 1, 1) := by decide +kernel
theorem d36_125 : decode (mB m36) 125 = .ok (.iconst 1, 1) := by decide +kernel
theorem d36_126 : decode (mB m36) 126 = .ok (.iadd, 1) := by decide +kernel
theorem d36_127 : decode (mB m36) 127 = .ok (.ireturn, 1) := by decide +kernel
theorem d36_128 : decode (mB m36) 128 = .ok (.aload_n 0, 1) := by decide +kernel
theorem d36_129 : decode (mB m36) 129 = .ok (.getfield 69, 3) := by decide +kernel
theorem d36_132 : decode (mB m36) 132 = .ok (.aload_n 0, 1) := by decide +kernel
theorem d36_133 : decode (mB m36) 133 = .ok (.getfield 35, 3) := by decide +kernel
theorem d36_136 : decode (mB m36) 136 = .ok (.iload_n 1, 1) := by decide +kernel
theorem d36_137 : decode (mB m36) 137 = .ok (.iaload, 1) := by decide +kernel
theorem d36_138 : decode (mB m36) 138 = .ok (.bipush 7, 2) := by decide +kernel
theorem d36_140 : decode (mB m36) 140 = .ok (.iand, 1) := by decide +kernel
theorem d36_141 : decode (mB m36) 141 = .ok (.aload_n 0, 1) := by decide +kernel
theorem d36_142 : decode (mB m36) 142 = .ok (.getfield 69, 3) := by decide +kernel
theorem d36_145 : decode (mB m36) 145 = .ok (.aload_n 0, 1) := by decide +kernel
theorem d36_146 : decode (mB m36) 146 = .ok (.getfield 38, 3) := by decide +kernel
theorem d36_149 : decode (mB m36) 149 = .ok (.iload_n 1, 1) := by decide +kernel
theorem d36_150 : decode (mB m36) 150 = .ok (.iaload, 1) := by decide +kernel
theorem d36_151 : decode (mB m36) 151 = .ok (.bipush 7, 2) := by decide +kernel
theorem d36_153 : decode (mB m36) 153 = .ok (.iand, 1) := by decide +kernel
theorem d36_154 : decode (mB m36) 154 = .ok (.iaload, 1) := by decide +kernel
theorem d36_155 : decode (mB m36) 155 = .ok (.aload_n 0, 1) := by decide +kernel
theorem d36_156 : decode (mB m36) 156 = .ok (.getfield 41, 3) := by decide +kernel
theorem d36_159 : decode (mB m36) 159 = .ok (.iload_n 1, 1) := by decide +kernel
theorem d36_160 : decode (mB m36) 160 = .ok (.iaload, 1) := by decide +kernel
theorem d36_161 : decode (mB m36) 161 = .ok (.iadd, 1) := by decide +kernel
theorem d36_162 : decode (mB m36) 162 = .ok (.iastore, 1) := by decide +kernel
theorem d36_163 : decode (mB m36) 163 = .ok (.iload_n 1, 1) := by decide +kernel
theorem d36_164 : decode (mB m36) 164 = .ok (.iconst 1, 1) := by decide +kernel
theorem d36_165 : decode (mB m36) 165 = .ok (.iadd, 1) := by decide +kernel
theorem d36_166 : decode (mB m36) 166 = .ok (.ireturn, 1) := by decide +kernel
theorem d36_167 : decode (mB m36) 167 = .ok (.aload_n 0, 1) := by decide +kernel
theorem d36_168 : decode (mB m36) 168 = .ok (.iload_n 1, 1) := by decide +kernel
theorem d36_169 : decode (mB m36) 169 = .ok (.invokevirtual 173, 3) := by decide +kernel
theorem d36_172 : decode (mB m36) 172 = .ok (.ireturn, 1) := by decide +kernel
theorem d36_173 : decode (mB m36) 173 = .ok (.aload_n 0, 1) := by decide +kernel
theorem d36_174 : decode (mB m36) 174 = .ok (.iload_n 1, 1) := by decide +kernel
theorem d36_175 : decode (mB m36) 175 = .ok (.invokevirtual 176, 3) := by decide +kernel
theorem d36_178 : decode (mB m36) 178 = .ok (.ireturn, 1) := by decide +kernel
theorem d36_179 : decode (mB m36) 179 = .ok (.aload_n 0, 1) := by decide +kernel
theorem d36_180 : decode (mB m36) 180 = .ok (.iload_n 1, 1) := by decide +kernel
theorem d36_181 : decode (mB m36) 181 = .ok (.invokevirtual 179, 3) := by decide +kernel
theorem d36_184 : decode (mB m36) 184 = .ok (.ireturn, 1) := by decide +kernel
theorem d36_185 : decode (mB m36) 185 = .ok (.aload_n 0, 1) := by decide +kernel
theorem d36_186 : decode (mB m36) 186 = .ok (.aload_n 0, 1) := by decide +kernel
theorem d36_187 : decode (mB m36) 187 = .ok (.getfield 69, 3) := by decide +kernel
theorem d36_190 : decode (mB m36) 190 = .ok (.aload_n 0, 1) := by decide +kernel
theorem d36_191 : decode (mB m36) 191 = .ok (.getfield 35, 3) := by decide +kernel
theorem d36_194 : decode (mB m36) 194 = .ok (.iload_n 1, 1) := by decide +kernel
theorem d36_195 : decode (mB m36) 195 = .ok (.iaload, 1) := by decide +kernel
theorem d36_196 : decode (mB m36) 196 = .ok (.bipush 7, 2) := by decide +kernel
theorem d36_198 : decode (mB m36) 198 = .ok (.iand, 1) := by decide +kernel
theorem d36_199 : decode (mB m36) 199 = .ok (.iaload, 1) := by decide +kernel
theorem d36_200 : decode (mB m36) 200 = .ok (.invokevirtual 182, 3) := by decide +kernel
theorem d36_203 : decode (mB m36) 203 = .ok (.iload_n 1, 1) := by decide +kernel
theorem d36_204 : decode (mB m36) 204 = .ok (.iconst 1, 1) := by decide +kernel
theorem d36_205 : decode (mB m36) 205 = .ok (.iadd, 1) := by decide +kernel
theorem d36_206 : decode (mB m36) 206 = .ok (.ireturn, 1) := by decide +kernel
theorem d36_207 : decode (mB m36) 207 = .ok (.aload_n 0, 1) := by decide +kernel
theorem d36_208 : decode (mB m36) 208 = .ok (.iload_n 1, 1) := by decide +kernel
theorem d36_213 : decode (mB m36) 213 = .ok (.aload_n 0, 1) := by decide +kernel
theorem d36_214 : decode (mB m36) 214 = .ok (.iload_n 1, 1) := by decide +kernel
theorem d36_219 : decode (mB m36) 219 = .ok (.aload_n 0, 1) := by decide +kernel
theorem d36_220 : decode (mB m36) 220 = .ok (.iload_n 1, 1) := by decide +kernel
theorem d36_225 : decode (mB m36) 225 = .ok (.aload_n 0, 1) := by decide +kernel
theorem d36_226 : decode (mB m36) 226 = .ok (.iload_n 1, 1) := by decide +kernel
theorem d36_231 : decode (mB m36) 231 = .ok (.aload_n 0, 1) := by decide +kernel
theorem d36_232 : decode (mB m36) 232 = .ok (.iconst 1, 1) := by decide +kernel
theorem d36_233 : decode (mB m36) 233 = .ok (.aload_n 0, 1) := by decide +kernel
theorem d36_234 : decode (mB m36) 234 = .ok (.getfield 69, 3) := by decide +kernel
theorem d36_237 : decode (mB m36) 237 = .ok (.aload_n 0, 1) := by decide +kernel
theorem d36_238 : decode (mB m36) 238 = .ok (.getfield 35, 3) := by decide +kernel
theorem d36_241 : decode (mB m36) 241 = .ok (.iload_n 1, 1) := by decide +kernel
theorem d36_242 : decode (mB m36) 242 = .ok (.iaload, 1) := by decide +kernel
theorem d36_243 : decode (mB m36) 243 = .ok (.bipush 7, 2) := by decide +kernel
theorem d36_245 : decode (mB m36) 245 = .ok (.iand, 1) := by decide +kernel
theorem d36_246 : decode (mB m36) 246 = .ok (.iaload, 1) := by decide +kernel
theorem d36_247 : decode (mB m36) 247 = .ok (.invokevirtual 166, 3) := by decide +kernel
theorem d36_250 : decode (mB m36) 250 = .ok (.iload_n 1, 1) := by decide +kernel
theorem d36_251 : decode (mB m36) 251 = .ok (.ireturn, 1) := by decide +kernel
theorem d36_252 : decode (mB m36) 252 = .ok (.iload_n 1, 1) := by decide +kernel
theorem d36_253 : decode (mB m36) 253 = .ok (.iconst 1, 1) := by decide +kernel
theorem d36_254 : decode (mB m36) 254 = .ok (.iadd, 1) := by decide +kernel
theorem d36_255 : decode (mB m36) 255 = .ok (.ireturn, 1) := by decide +kernel
theorem d37_0 : decode (mB m37) 0 = .ok (.iconst 0, 1) := by decide +kernel
theorem d37_1 : decode (mB m37) 1 = .ok (.istore_n 1, 1) := by decide +kernel
theorem d37_2 : decode (mB m37) 2 = .ok (.iconst 0, 1) := by decide +kernel
theorem d37_3 : decode (mB m37) 3 = .ok (.istore_n 2, 1) := by decide +kernel
theorem d37_4 : decode (mB m37) 4 = .ok (.iload_n 2, 1) := by decide +kernel
theorem d37_5 : decode (mB m37) 5 = .ok (.sipush 4096, 3) := by decide +kernel
theorem d37_8 : decode (mB m37) 8 = .ok (.if_icmp .ge 50, 3) := by decide +kernel
theorem d37_11 : decode (mB m37) 11 = .ok (.aload_n 0, 1) := by decide +kernel
theorem d37_12 : decode (mB m37) 12 = .ok (.getfield 109, 3) := by decide +kernel
theorem d37_15 : decode (mB m37) 15 = .ok (.ifCond .eq 4, 3) := by decide +kernel
theorem d37_18 : decode (mB m37) 18 = .ok (.return_, 1) := by decide +kernel
theorem d37_19 : decode (mB m37) 19 = .ok (.iload_n 1, 1) := by decide +kernel
theorem d37_20 : decode (mB m37) 20 = .ok (.ifCond .lt 17, 3) := by decide +kernel
theorem d37_23 : decode (mB m37) 23 = .ok (.iload_n 1, 1) := by decide +kernel
theorem d37_24 : decode (mB m37) 24 = .ok (.aload_n 0, 1) := by decide +kernel
theorem d37_25 : decode (mB m37) 25 = .ok (.getfield 102, 3) := by decide +kernel
theorem d37_28 : decode (mB m37) 28 = .ok (.if_icmp .ge 9, 3) := by decide +kernel
theorem d37_31 : decode (mB m37) 31 = .ok (.iload_n 1, 1) := by decide +kernel
theorem d37_32 : decode (mB m37) 32 = .ok (.bipush 32, 2) := by decide +kernel
theorem d37_34 : decode (mB m37) 34 = .ok (.if_icmp .lt 12, 3) := by decide +kernel
theorem d37_37 : decode (mB m37) 37 = .ok (.aload_n 0, 1) := by decide +kernel
theorem d37_38 : decode (mB m37) 38 = .ok (.iconst 1, 1) := by decide +kernel
theorem d37_39 : decode (mB m37) 39 = .ok (.iconst 0, 1) := by decide +kernel
theorem d37_40 : decode (mB m37) 40 = .ok (.invokevirtual 166, 3) := by decide +kernel
theorem d37_43 : decode (mB m37) 43 = .ok (.goto 9, 3) := by decide +kernel
theorem d37_46 : decode (mB m37) 46 = .ok (.aload_n 0, 1) := by decide +kernel
theorem d37_47 : decode (mB m37) 47 = .ok (.iload_n 1, 1) := by decide +kernel
theorem d37_48 : decode (mB m37) 48 = .ok (.invokevirtual 170, 3) := by decide +kernel
theorem d37_51 : decode (mB m37) 51 = .ok (.istore_n 1, 1) := by decide +kernel
theorem d37_52 : decode (mB m37) 52 = .ok (.iinc 2 1, 3) := by decide +kernel
theorem d37_55 : decode (mB m37) 55 = .ok (.goto (-51), 3) := by decide +kernel
theorem d37_58 : decode (mB m37) 58 = .ok (.aload_n 0, 1) := by decide +kernel
theorem d37_59 : decode (mB m37) 59 = .ok (.getfield 109, 3) := by decide +kernel
theorem d37_62 : decode (mB m37) 62 = .ok (.ifCond .ne 9, 3) := by decide +kernel
theorem d37_65 : decode (mB m37) 65 = .ok (.aload_n 0, 1) := by decide +kernel
theorem d37_66 : decode (mB m37) 66 = .ok (.iconst 1, 1) := by decide +kernel
theorem d37_67 : decode (mB m37) 67 = .ok (.iconst 0, 1) := by decide +kernel
theorem d37_68 : decode (mB m37) 68 = .ok (.invokevirtual 166, 3) := by decide +kernel
theorem d37_71 : decode (mB m37) 71 = .ok (.return_, 1) := by decide +kernel
theorem d38_0 : decode (mB m38) 0 = .ok (.aload_n 0, 1) := by decide +kernel
theorem d38_1 : decode (mB m38) 1 = .ok (.getfield 105, 3) := by decide +kernel
theorem d38_4 : decode (mB m38) 4 = .ok (.ifCond .ne 6, 3) := by decide +kernel
theorem d38_7 : decode (mB m38) 7 = .ok (.bipush (-8), 2) := by decide +kernel
theorem d38_9 : decode (mB m38) 9 = .ok (.ireturn, 1) := by decide +kernel
theorem d38_10 : decode (mB m38) 10 = .ok (.aload_n 0, 1) := by decide +kernel
theorem d38_11 : decode (mB m38) 11 = .ok (.invokevirtual 154, 3) := by decide +kernel
theorem d38_14 : decode (mB m38) 14 = .ok (.iload_n 1, 1) := by decide +kernel
theorem d38_15 : decode (mB m38) 15 = .ok (.ifCond .eq 10, 3) := by decide +kernel
theorem d38_18 : decode (mB m38) 18 = .ok (.aload_n 0, 1) := by decide +kernel
theorem d38_19 : decode (mB m38) 19 = .ok (.invokevirtual 157, 3) := by decide +kernel
theorem d38_22 : decode (mB m38) 22 = .ok (.goto 7, 3) := by decide +kernel
theorem d38_25 : decode (mB m38) 25 = .ok (.aload_n 0, 1) := by decide +kernel
theorem d38_26 : decode (mB m38) 26 = .ok (.invokevirtual 160, 3) := by decide +kernel
theorem d38_29 : decode (mB m38) 29 = .ok (.aload_n 0, 1) := by decide +kernel
theorem d38_30 : decode (mB m38) 30 = .ok (.invokevirtual 163, 3) := by decide +kernel
theorem d38_33 : decode (mB m38) 33 = .ok (.aload_n 0, 1) := by decide +kernel
theorem d38_34 : decode (mB m38) 34 = .ok (.getfield 109, 3) := by decide +kernel
theorem d38_37 : decode (mB m38) 37 = .ok (.ireturn, 1) := by decide +kernel
theorem d39_0 : decode (mB m39) 0 = .ok (.aload_n 0, 1) := by decide +kernel
theorem d39_1 : decode (mB m39) 1 = .ok (.getfield 109, 3) := by decide +kernel
theorem d39_4 : decode (mB m39) 4 = .ok (.ireturn, 1) := by decide +kernel
theorem d40_0 : decode (mB m40) 0 = .ok (.aload_n 0, 1) := by decide +kernel
theorem d40_1 : decode (mB m40) 1 = .ok (.getfield 109, 3) := by decide +kernel
theorem d40_4 : decode (mB m40) 4 = .ok (.iconst 1, 1) := by decide +kernel
theorem d40_5 : decode (mB m40) 5 = .ok (.if_icmp .eq 5, 3) := by decide +kernel
theorem d40_8 : decode (mB m40) 8 = .ok (.iconst 0, 1) := by decide +kernel
theorem d40_9 : decode (mB m40) 9 = .ok (.ireturn, 1) := by decide +kernel
theorem d40_10 : decode (mB m40) 10 = .ok (.aload_n 0, 1) := by decide +kernel
theorem d40_11 : decode (mB m40) 11 = .ok (.getfield 112, 3) := by decide +kernel
theorem d40_14 : decode (mB m40) 14 = .ok (.ireturn, 1) := by decide +kernel
theorem d41_0 : decode (mB m41) 0 = .ok (.aload_n 0, 1) := by decide +kernel
theorem d41_1 : decode (mB m41) 1 = .ok (.getfield 115, 3) := by decide +kernel
theorem d41_4 : decode (mB m41) 4 = .ok (.ireturn, 1) := by decide +kernel
theorem d42_0 : decode (mB m42) 0 = .ok (.iload_n 1, 1) := by decide +kernel
theorem d42_1 : decode (mB m42) 1 = .ok (.ifCond .lt 17, 3) := by decide +kernel
theorem d42_4 : decode (mB m42) 4 = .ok (.iload_n 1, 1) := by decide +kernel
theorem d42_5 : decode (mB m42) 5 = .ok (.bipush 32, 2) := by decide +kernel
theorem d42_7 : decode (mB m42) 7 = .ok (.if_icmp .ge 11, 3) := by decide +kernel
theorem d42_10 : decode (mB m42) 10 = .ok (.iload_n 1, 1) := by decide +kernel
theorem d42_11 : decode (mB m42) 11 = .ok (.aload_n 0, 1) := by decide +kernel
theorem d42_12 : decode (mB m42) 12 = .ok (.getfield 115, 3) := by decide +kernel
theorem d42_15 : decode (mB m42) 15 = .ok (.if_icmp .lt 5, 3) := by decide +kernel
theorem d42_18 : decode (mB m42) 18 = .ok (.iconst 0, 1) := by decide +kernel
theorem d42_19 : decode (mB m42) 19 = .ok (.ireturn, 1) := by decide +kernel
theorem d42_20 : decode (mB m42) 20 = .ok (.aload_n 0, 1) := by decide +kernel
theorem d42_21 : decode (mB m42) 21 = .ok (.getfield 66, 3) := by decide +kernel
theorem d42_24 : decode (mB m42) 24 = .ok (.iload_n 1, 1) := by decide +kernel
theorem d42_25 : decode (mB m42) 25 = .ok (.iaload, 1) := by decide +kernel
theorem d42_26 : decode (mB m42) 26 = .ok (.ireturn, 1) := by decide +kernel
theorem d43_0 : decode (mB m43) 0 = .ok (.iload_n 1, 1) := by decide +kernel
theorem d43_1 : decode (mB m43) 1 = .ok (.ifCond .lt 17, 3) := by decide +kernel
theorem d43_4 : decode (mB m43) 4 = .ok (.iload_n 1, 1) := by decide +kernel
theorem d43_5 : decode (mB m43) 5 = .ok (.aload_n 0, 1) := by decide +kernel
theorem d43_6 : decode (mB m43) 6 = .ok (.getfield 99, 3) := by decide +kernel
theorem d43_9 : decode (mB m43) 9 = .ok (.if_icmp .ge 9, 3) := by decide +kernel
theorem d43_12 : decode (mB m43) 12 = .ok (.iload_n 1, 1) := by decide +kernel
theorem d43_13 : decode (mB m43) 13 = .ok (.bipush 64, 2) := by decide +kernel
theorem d43_15 : decode (mB m43) 15 = .ok (.if_icmp .lt 5, 3) := by decide +kernel
theorem d43_18 : decode (mB m43) 18 = .ok (.iconst 0, 1) := by decide +kernel
theorem d43_19 : decode (mB m43) 19 = .ok (.ireturn, 1) := by decide +kernel
theorem d43_20 : decode (mB m43) 20 = .ok (.aload_n 0, 1) := by decide +kernel
theorem d43_21 : decode (mB m43) 21 = .ok (.getfield 63, 3) := by decide +kernel
theorem d43_24 : decode (mB m43) 24 = .ok (.iload_n 1, 1) := by decide +kernel
theorem d43_25 : decode (mB m43) 25 = .ok (.iaload, 1) := by decide +kernel
theorem d43_26 : decode (mB m43) 26 = .ok (.ireturn, 1) := by decide +kernel
theorem d44_0 : decode (mB m44) 0 = .ok (.aload_n 0, 1) := by decide +kernel
theorem d44_1 : decode (mB m44) 1 = .ok (.getfield 109, 3) := by decide +kernel
theorem d44_4 : decode (mB m44) 4 = .ok (.iconst 1, 1) := by decide +kernel
theorem d44_5 : decode (mB m44) 5 = .ok (.if_icmp .eq 5, 3) := by decide +kernel
theorem d44_8 : decode (mB m44) 8 = .ok (.iconst 0, 1) := by decide +kernel
theorem d44_9 : decode (mB m44) 9 = .ok (.ireturn, 1) := by decide +kernel
theorem d44_10 : decode (mB m44) 10 = .ok (.iload_n 1, 1) := by decide +kernel
theorem d44_11 : decode (mB m44) 11 = .ok (.ifCond .lt 9, 3) := by decide +kernel
theorem d44_14 : decode (mB m44) 14 = .ok (.iload_n 1, 1) := by decide +kernel
theorem d44_15 : decode (mB m44) 15 = .ok (.bipush 7, 2) := by decide +kernel
theorem d44_17 : decode (mB m44) 17 = .ok (.if_icmp .le 5, 3) := by decide +kernel
theorem d44_20 : decode (mB m44) 20 = .ok (.iconst 0, 1) := by decide +kernel
theorem d44_21 : decode (mB m44) 21 = .ok (.ireturn, 1) := by decide +kernel
theorem d44_22 : decode (mB m44) 22 = .ok (.aload_n 0, 1) := by decide +kernel
theorem d44_23 : decode (mB m44) 23 = .ok (.getfield 69, 3) := by decide +kernel
theorem d44_26 : decode (mB m44) 26 = .ok (.iload_n 1, 1) := by decide +kernel
theorem d44_27 : decode (mB m44) 27 = .ok (.iaload, 1) := by decide +kernel
theorem d44_28 : decode (mB m44) 28 = .ok (.ireturn, 1) := by decide +kernel
theorem d45_0 : decode (mB m45) 0 = .ok (.new 7, 3) := by decide +kernel
theorem d45_3 : decode (mB m45) 3 = .ok (.dup, 1) := by decide +kernel
theorem d45_4 : decode (mB m45) 4 = .ok (.bipush 16, 2) := by decide +kernel
theorem d45_6 : decode (mB m45) 6 = .ok (.invokespecial 9, 3) := by decide +kernel
theorem d45_9 : decode (mB m45) 9 = .ok (.astore 4, 2) := by decide +kernel
theorem d45_11 : decode (mB m45) 11 = .ok (.aload 4, 2) := by decide +kernel
theorem d45_13 : decode (mB m45) 13 = .ok (.bipush 8, 2) := by decide +kernel
theorem d45_15 : decode (mB m45) 15 = .ok (.iload_n 0, 1) := by decide +kernel
theorem d45_16 : decode (mB m45) 16 = .ok (.invokevirtual 12, 3) := by decide +kernel
theorem d45_19 : decode (mB m45) 19 = .ok (.pop, 1) := by decide +kernel
theorem d45_20 : decode (mB m45) 20 = .ok (.aload 4, 2) := by decide +kernel
theorem d45_22 : decode (mB m45) 22 = .ok (.bipush 9, 2) := by decide +kernel
theorem d45_24 : decode (mB m45) 24 = .ok (.iload_n 1, 1) := by decide +kernel
theorem d45_25 : decode (mB m45) 25 = .ok (.invokevirtual 12, 3) := by decide +kernel
theorem d45_28 : decode (mB m45) 28 = .ok (.pop, 1) := by decide +kernel
theorem d45_29 : decode (mB m45) 29 = .ok (.aload 4, 2) := by decide +kernel
theorem d45_31 : decode (mB m45) 31 = .ok (.bipush 10, 2) := by decide +kernel
theorem d45_33 : decode (mB m45) 33 = .ok (.iload_n 2, 1) := by decide +kernel
theorem d45_34 : decode (mB m45) 34 = .ok (.invokevirtual 12, 3) := by decide +kernel
theorem d45_37 : decode (mB m45) 37 = .ok (.pop, 1) := by decide +kernel
theorem d45_38 : decode (mB m45) 38 = .ok (.aload 4, 2) := by decide +kernel
theorem d45_40 : decode (mB m45) 40 = .ok (.iconst 1, 1) := by decide +kernel
theorem d45_41 : decode (mB m45) 41 = .ok (.iconst 0, 1) := by decide +kernel
theorem d45_42 : decode (mB m45) 42 = .ok (.bipush 8, 2) := by decide +kernel
theorem d45_44 : decode (mB m45) 44 = .ok (.iconst 0, 1) := by decide +kernel
theorem d45_45 : decode (mB m45) 45 = .ok (.invokevirtual 16, 3) := by decide +kernel
theorem d45_48 : decode (mB m45) 48 = .ok (.pop, 1) := by decide +kernel
theorem d45_49 : decode (mB m45) 49 = .ok (.aload 4, 2) := by decide +kernel
theorem d45_51 : decode (mB m45) 51 = .ok (.iconst 4, 1) := by decide +kernel
theorem d45_52 : decode (mB m45) 52 = .ok (.iconst 1, 1) := by decide +kernel
theorem d45_53 : decode (mB m45) 53 = .ok (.iconst 0, 1) := by decide +kernel
theorem d45_54 : decode (mB m45) 54 = .ok (.iconst 0, 1) := by decide +kernel
theorem d45_55 : decode (mB m45) 55 = .ok (.invokevirtual 16, 3) := by decide +kernel
theorem d45_58 : decode (mB m45) 58 = .ok (.pop, 1) := by decide +kernel
theorem d45_59 : decode (mB m45) 59 = .ok (.aload 4, 2) := by decide +kernel
theorem d45_61 : decode (mB m45) 61 = .ok (.bipush 6, 2) := by decide +kernel
theorem d45_63 : decode (mB m45) 63 = .ok (.iconst 1, 1) := by decide +kernel
theorem d45_64 : decode (mB m45) 64 = .ok (.iconst 0, 1) := by decide +kernel
theorem d45_65 : decode (mB m45) 65 = .ok (.iconst 0, 1) := by decide +kernel
theorem d45_66 : decode (mB m45) 66 = .ok (.invokevirtual 16, 3) := by decide +kernel
theorem d45_69 : decode (mB m45) 69 = .ok (.pop, 1) := by decide +kernel
theorem d45_70 : decode (mB m45) 70 = .ok (.aload 4, 2) := by decide +kernel
theorem d45_72 : decode (mB m45) 72 = .ok (.iconst 4, 1) := by decide +kernel
theorem d45_73 : decode (mB m45) 73 = .ok (.iconst 2, 1) := by decide +kernel
theorem d45_74 : decode (mB m45) 74 = .ok (.iconst 1, 1) := by decide +kernel
theorem d45_75 : decode (mB m45) 75 = .ok (.iconst 1, 1) := by decide +kernel
theorem d45_76 : decode (mB m45) 76 = .ok (.invokevirtual 16, 3) := by decide +kernel
theorem d45_79 : decode (mB m45) 79 = .ok (.pop, 1) := by decide +kernel
theorem d45_80 : decode (mB m45) 80 = .ok (.aload 4, 2) := by decide +kernel
theorem d45_82 : decode (mB m45) 82 = .ok (.bipush 7, 2) := by decide +kernel
theorem d45_84 : decode (mB m45) 84 = .ok (.iconst 2, 1) := by decide +kernel
theorem d45_85 : decode (mB m45) 85 = .ok (.iconst 0, 1) := by decide +kernel
theorem d45_86 : decode (mB m45) 86 = .ok (.iconst 0, 1) := by decide +kernel
theorem d45_87 : decode (mB m45) 87 = .ok (.invokevirtual 16, 3) := by decide +kernel
theorem d45_90 : decode (mB m45) 90 = .ok (.pop, 1) := by decide +kernel
theorem d45_91 : decode (mB m45) 91 = .ok (.aload 4, 2) := by decide +kernel
theorem d45_93 : decode (mB m45) 93 = .ok (.iconst 3, 1) := by decide +kernel
theorem d45_94 : decode (mB m45) 94 = .ok (.iconst 2, 1) := by decide +kernel
theorem d45_95 : decode (mB m45) 95 = .ok (.iconst 2, 1) := by decide +kernel
theorem d45_96 : decode (mB m45) 96 = .ok (.iload_n 3, 1) := by decide +kernel
theorem d45_97 : decode (mB m45) 97 = .ok (.invokevirtual 16, 3) := by decide +kernel
theorem d45_100 : decode (mB m45) 100 = .ok (.pop, 1) := by decide +kernel
theorem d45_101 : decode (mB m45) 101 = .ok (.aload 4, 2) := by decide +kernel
theorem d45_103 : decode (mB m45) 103 = .ok (.iconst 5, 1) := by decide +kernel
theorem d45_104 : decode (mB m45) 104 = .ok (.iconst 1, 1) := by decide +kernel
theorem d45_105 : decode (mB m45) 105 = .ok (.iconst 1, 1) := by decide +kernel
theorem d45_106 : decode (mB m45) 106 = .ok (.iconst 2, 1) := by decide +kernel
theorem d45_107 : decode (mB m45) 107 = .ok (.invokevirtual 16, 3) := by decide +kernel
theorem d45_110 : decode (mB m45) 110 = .ok (.pop, 1) := by decide +kernel
theorem d45_111 : decode (mB m45) 111 = .ok (.aload 4, 2) := by decide +kernel
theorem d45_113 : decode (mB m45) 113 = .ok (.bipush 12, 2) := by decide +kernel
theorem d45_115 : decode (mB m45) 115 = .ok (.iconst 2, 1) := by decide +kernel
theorem d45_116 : decode (mB m45) 116 = .ok (.iconst 0, 1) := by decide +kernel
theorem d45_117 : decode (mB m45) 117 = .ok (.iconst 0, 1) := by decide +kernel
theorem d45_118 : decode (mB m45) 118 = .ok (.invokevirtual 16, 3) := by decide +kernel
theorem d45_121 : decode (mB m45) 121 = .ok (.pop, 1) := by decide +kernel
theorem d45_122 : decode (mB m45) 122 = .ok (.aload 4, 2) := by decide +kernel
theorem d45_124 : decode (mB m45) 124 = .ok (.invokevirtual 20, 3) := by decide +kernel
theorem d45_127 : decode (mB m45) 127 = .ok (.ifCond .eq 5, 3) := by decide +kernel
theorem d45_130 : decode (mB m45) 130 = .ok (.iconst 0, 1) := by decide +kernel
theorem d45_131 : decode (mB m45) 131 = .ok (.ireturn, 1) := by decide +kernel
theorem d45_132 : decode (mB m45) 132 = .ok (.iload_n 0, 1) := by decide +kernel
theorem d45_133 : decode (mB m45) 133 = .ok (.iconst 1, 1) := by decide +kernel
theorem d45_134 : decode (mB m45) 134 = .ok (.iadd, 1) := by decide +kernel
theorem d45_135 : decode (mB m45) 135 = .ok (.istore 5, 2) := by decide +kernel
theorem d45_137 : decode (mB m45) 137 = .ok (.iconst 0, 1) := by decide +kernel
theorem d45_138 : decode (mB m45) 138 = .ok (.istore 7, 2) := by decide +kernel
theorem d45_140 : decode (mB m45) 140 = .ok (.iload_n 0, 1) := by decide +kernel
theorem d45_141 : decode (mB m45) 141 = .ok (.ifCond .eq 15, 3) := by decide +kernel
theorem d45_144 : decode (mB m45) 144 = .ok (.iload 5, 2) := by decide +kernel
theorem d45_146 : decode (mB m45) 146 = .ok (.ifCond .lt 16, 3) := by decide +kernel
theorem d45_149 : decode (mB m45) 149 = .ok (.iload 5, 2) := by decide +kernel
theorem d45_151 : decode (mB m45) 151 = .ok (.bipush 7, 2) := by decide +kernel
theorem d45_153 : decode (mB m45) 153 = .ok (.if_icmp .gt 9, 3) := by decide +kernel
theorem d45_156 : decode (mB m45) 156 = .ok (.iconst 2, 1) := by decide +kernel
theorem d45_157 : decode (mB m45) 157 = .ok (.istore 6, 2) := by decide +kernel
theorem d45_159 : decode (mB m45) 159 = .ok (.goto 34, 3) := by decide +kernel
theorem d45_162 : decode (mB m45) 162 = .ok (.iload 5, 2) := by decide +kernel
theorem d45_164 : decode (mB m45) 164 = .ok (.ifCond .lt 10, 3) := by decide +kernel
theorem d45_167 : decode (mB m45) 167 = .ok (.iload 5, 2) := by decide +kernel
theorem d45_169 : decode (mB m45) 169 = .ok (.bipush 16, 2) := by decide +kernel
theorem d45_171 : decode (mB m45) 171 = .ok (.if_icmp .lt 9, 3) := by decide +kernel
theorem d45_174 : decode (mB m45) 174 = .ok (.iconst 3, 1) := by decide +kernel
theorem d45_175 : decode (mB m45) 175 = .ok (.istore 6, 2) := by decide +kernel
theorem d45_177 : decode (mB m45) 177 = .ok (.goto 16, 3) := by decide +kernel
theorem d45_180 : decode (mB m45) 180 = .ok (.iconst 1, 1) := by decide +kernel
theorem d45_181 : decode (mB m45) 181 = .ok (.istore 6, 2) := by decide +kernel
theorem d45_183 : decode (mB m45) 183 = .ok (.iload 5, 2) := by decide +kernel
theorem d45_185 : decode (mB m45) 185 = .ok (.iload_n 0, 1) := by decide +kernel
theorem d45_186 : decode (mB m45) 186 = .ok (.iload_n 1, 1) := by decide +kernel
theorem d45_187 : decode (mB m45) 187 = .ok (.iload_n 2, 1) := by decide +kernel
theorem d45_188 : decode (mB m45) 188 = .ok (.invokestatic 24, 3) := by decide +kernel
theorem d45_191 : decode (mB m45) 191 = .ok (.istore 7, 2) := by decide +kernel
theorem d45_193 : decode (mB m45) 193 = .ok (.iload 6, 2) := by decide +kernel
theorem d45_195 : decode (mB m45) 195 = .ok (.iconst 1, 1) := by decide +kernel
theorem d45_196 : decode (mB m45) 196 = .ok (.if_icmp .ne 7, 3) := by decide +kernel
theorem d45_199 : decode (mB m45) 199 = .ok (.iconst 1, 1) := by decide +kernel
theorem d45_200 : decode (mB m45) 200 = .ok (.goto 4, 3) := by decide +kernel
theorem d45_203 : decode (mB m45) 203 = .ok (.iconst 0, 1) := by decide +kernel
theorem d45_204 : decode (mB m45) 204 = .ok (.istore 8, 2) := by decide +kernel
theorem d45_206 : decode (mB m45) 206 = .ok (.iload 7, 2) := by decide +kernel
theorem d45_208 : decode (mB m45) 208 = .ok (.iload_n 3, 1) := by decide +kernel
theorem d45_209 : decode (mB m45) 209 = .ok (.iadd, 1) := by decide +kernel
theorem d45_210 : decode (mB m45) 210 = .ok (.istore 9, 2) := by decide +kernel
theorem d45_212 : decode (mB m45) 212 = .ok (.aload 4, 2) := by decide +kernel
theorem d45_214 : decode (mB m45) 214 = .ok (.iconst 1, 1) := by decide +kernel
theorem d45_215 : decode (mB m45) 215 = .ok (.invokevirtual 29, 3) := by decide +kernel
theorem d45_218 : decode (mB m45) 218 = .ok (.iload 6, 2) := by decide +kernel
theorem d45_220 : decode (mB m45) 220 = .ok (.if_icmp .ne 13, 3) := by decide +kernel
theorem d45_223 : decode (mB m45) 223 = .ok (.aload 4, 2) := by decide +kernel
theorem d45_225 : decode (mB m45) 225 = .ok (.invokevirtual 33, 3) := by decide +kernel
theorem d45_228 : decode (mB m45) 228 = .ok (.iload 6, 2) := by decide +kernel
theorem d45_230 : decode (mB m45) 230 = .ok (.if_icmp .eq 5, 3) := by decide +kernel
theorem d45_233 : decode (mB m45) 233 = .ok (.iconst 0, 1) := by decide +kernel
theorem d45_234 : decode (mB m45) 234 = .ok (.ireturn, 1) := by decide +kernel
theorem d45_235 : decode (mB m45) 235 = .ok (.aload 4, 2) := by decide +kernel
theorem d45_237 : decode (mB m45) 237 = .ok (.invokevirtual 36, 3) := by decide +kernel
theorem d45_240 : decode (mB m45) 240 = .ok (.iload 8, 2) := by decide +kernel
theorem d45_242 : decode (mB m45) 242 = .ok (.ifCond .eq 8, 3) := by decide +kernel
theorem d45_245 : decode (mB m45) 245 = .ok (.iload 9, 2) := by decide +kernel
theorem d45_247 : decode (mB m45) 247 = .ok (.goto 4, 3) := by decide +kernel
theorem d45_250 : decode (mB m45) 250 = .ok (.iconst 0, 1) := by decide +kernel
theorem d45_251 : decode (mB m45) 251 = .ok (.if_icmp .eq 5, 3) := by decide +kernel
theorem d45_254 : decode (mB m45) 254 = .ok (.iconst 0, 1) := by decide +kernel
theorem d45_255 : decode (mB m45) 255 = .ok (.ireturn, 1) := by decide +kernel
theorem d45_256 : decode (mB m45) 256 = .ok (.aload 4, 2) := by decide +kernel
theorem d45_258 : decode (mB m45) 258 = .ok (.invokevirtual 39, 3) := by decide +kernel
theorem d45_261 : decode (mB m45) 261 = .ok (.iload 8, 2) := by decide +kernel
theorem d45_263 : decode (mB m45) 263 = .ok (.ifCond .eq 7, 3) := by decide +kernel
theorem d45_266 : decode (mB m45) 266 = .ok (.iconst 1, 1) := by decide +kernel
theorem d45_267 : decode (mB m45) 267 = .ok (.goto 4, 3) := by decide +kernel
theorem d45_270 : decode (mB m45) 270 = .ok (.iconst 0, 1) := by decide +kernel
theorem d45_271 : decode (mB m45) 271 = .ok (.if_icmp .eq 5, 3) := by decide +kernel
theorem d45_274 : decode (mB m45) 274 = .ok (.iconst 0, 1) := by decide +kernel
theorem d45_275 : decode (mB m45) 275 = .ok (.ireturn, 1) := by decide +kernel
theorem d45_276 : decode (mB m45) 276 = .ok (.aload 4, 2) := by decide +kernel
theorem d45_278 : decode (mB m45) 278 = .ok (.iconst 0, 1) := by decide +kernel
theorem d45_279 : decode (mB m45) 279 = .ok (.invokevirtual 42, 3) := by decide +kernel
theorem d45_282 : decode (mB m45) 282 = .ok (.iload 8, 2) := by decide +kernel
theorem d45_284 : decode (mB m45) 284 = .ok (.ifCond .eq 8, 3) := by decide +kernel
theorem d45_287 : decode (mB m45) 287 = .ok (.iload 7, 2) := by decide +kernel
theorem d45_289 : decode (mB m45) 289 = .ok (.goto 4, 3) := by decide +kernel
theorem d45_292 : decode (mB m45) 292 = .ok (.iconst 0, 1) := by decide +kernel
theorem d45_293 : decode (mB m45) 293 = .ok (.if_icmp .ne 12, 3) := by decide +kernel
theorem d45_296 : decode (mB m45) 296 = .ok (.aload 4, 2) := by decide +kernel
theorem d45_298 : decode (mB m45) 298 = .ok (.iconst 1, 1) := by decide +kernel
theorem d45_299 : decode (mB m45) 299 = .ok (.invokevirtual 42, 3) := by decide +kernel
theorem d45_302 : decode (mB m45) 302 = .ok (.ifCond .eq 5, 3) := by decide +kernel
theorem d45_305 : decode (mB m45) 305 = .ok (.iconst 0, 1) := by decide +kernel
theorem d45_306 : decode (mB m45) 306 = .ok (.ireturn, 1) := by decide +kernel
theorem d45_307 : decode (mB m45) 307 = .ok (.iconst 0, 1) := by decide +kernel
theorem d45_308 : decode (mB m45) 308 = .ok (.istore 10, 2) := by decide +kernel
theorem d45_310 : decode (mB m45) 310 = .ok (.iload 10, 2) := by decide +kernel
theorem d45_312 : decode (mB m45) 312 = .ok (.bipush 8, 2) := by decide +kernel
theorem d45_314 : decode (mB m45) 314 = .ok (.if_icmp .ge 57, 3) := by decide +kernel
theorem d45_317 : decode (mB m45) 317 = .ok (.bipush 8, 2) := by decide +kernel
theorem d45_319 : decode (mB m45) 319 = .ok (.iload 10, 2) := by decide +kernel
theorem d45_321 : decode (mB m45) 321 = .ok (.iadd, 1) := by decide +kernel
theorem d45_322 : decode (mB m45) 322 = .ok (.istore 11, 2) := by decide +kernel
theorem d45_324 : decode (mB m45) 324 = .ok (.iload 8, 2) := by decide +kernel
theorem d45_326 : decode (mB m45) 326 = .ok (.ifCond .eq 15, 3) := by decide +kernel
theorem d45_329 : decode (mB m45) 329 = .ok (.iload 11, 2) := by decide +kernel
theorem d45_331 : decode (mB m45) 331 = .ok (.iload 5, 2) := by decide +kernel
theorem d45_333 : decode (mB m45) 333 = .ok (.if_icmp .ne 8, 3) := by decide +kernel
theorem d45_336 : decode (mB m45) 336 = .ok (.iload 9, 2) := by decide +kernel
theorem d45_338 : decode (mB m45) 338 = .ok (.goto 11, 3) := by decide +kernel
theorem d45_341 : decode (mB m45) 341 = .ok (.iload 11, 2) := by decide +kernel
theorem d45_343 : decode (mB m45) 343 = .ok (.iload_n 0, 1) := by decide +kernel
theorem d45_344 : decode (mB m45) 344 = .ok (.iload_n 1, 1) := by decide +kernel
theorem d45_345 : decode (mB m45) 345 = .ok (.iload_n 2, 1) := by decide +kernel
theorem d45_346 : decode (mB m45) 346 = .ok (.invokestatic 24, 3) := by decide +kernel
theorem d45_349 : decode (mB m45) 349 = .ok (.istore 12, 2) := by decide +kernel
theorem d45_351 : decode (mB m45) 351 = .ok (.aload 4, 2) := by decide +kernel
theorem d45_353 : decode (mB m45) 353 = .ok (.iload 11, 2) := by decide +kernel
theorem d45_355 : decode (mB m45) 355 = .ok (.invokevirtual 46, 3) := by decide +kernel
theorem d45_358 : decode (mB m45) 358 = .ok (.iload 12, 2) := by decide +kernel
theorem d45_360 : decode (mB m45) 360 = .ok (.if_icmp .eq 5, 3) := by decide +kernel
theorem d45_363 : decode (mB m45) 363 = .ok (.iconst 0, 1) := by decide +kernel
theorem d45_364 : decode (mB m45) 364 = .ok (.ireturn, 1) := by decide +kernel
theorem d45_365 : decode (mB m45) 365 = .ok (.iinc 10 1, 3) := by decide +kernel
theorem d45_368 : decode (mB m45) 368 = .ok (.goto (-58), 3) := by decide +kernel
theorem d45_371 : decode (mB m45) 371 = .ok (.iconst 0, 1) := by decide +kernel
theorem d45_372 : decode (mB m45) 372 = .ok (.istore 10, 2) := by decide +kernel
theorem d45_374 : decode (mB m45) 374 = .ok (.iload 10, 2) := by decide +kernel
theorem d45_376 : decode (mB m45) 376 = .ok (.bipush 8, 2) := by decide +kernel
theorem d45_378 : decode (mB m45) 378 = .ok (.if_icmp .ge 69, 3) := by decide +kernel
theorem d45_381 : decode (mB m45) 381 = .ok (.iconst 0, 1) := by decide +kernel
theorem d45_382 : decode (mB m45) 382 = .ok (.istore 11, 2) := by decide +kernel
theorem d45_384 : decode (mB m45) 384 = .ok (.iload 8, 2) := by decide +kernel
theorem d45_386 : decode (mB m45) 386 = .ok (.ifCond .eq 12, 3) := by decide +kernel
theorem d45_389 : decode (mB m45) 389 = .ok (.iload 10, 2) := by decide +kernel
theorem d45_391 : decode (mB m45) 391 = .ok (.ifCond .ne 7, 3) := by decide +kernel
theorem d45_394 : decode (mB m45) 394 = .ok (.bipush 8, 2) := by decide +kernel
theorem d45_396 : decode (mB m45) 396 = .ok (.istore 11, 2) := by decide +kernel
theorem d45_398 : decode (mB m45) 398 = .ok (.iload 8, 2) := by decide +kernel
theorem d45_400 : decode (mB m45) 400 = .ok (.ifCond .eq 12, 3) := by decide +kernel
theorem d45_403 : decode (mB m45) 403 = .ok (.iload 10, 2) := by decide +kernel
theorem d45_405 : decode (mB m45) 405 = .ok (.iconst 1, 1) := by decide +kernel
theorem d45_406 : decode (mB m45) 406 = .ok (.if_icmp .ne 6, 3) := by decide +kernel
theorem d45_409 : decode (mB m45) 409 = .ok (.iload_n 0, 1) := by decide +kernel
theorem d45_410 : decode (mB m45) 410 = .ok (.istore 11, 2) := by decide +kernel
theorem d45_412 : decode (mB m45) 412 = .ok (.iload 8, 2) := by decide +kernel
theorem d45_414 : decode (mB m45) 414 = .ok (.ifCond .eq 13, 3) := by decide +kernel
theorem d45_417 : decode (mB m45) 417 = .ok (.iload 10, 2) := by decide +kernel
theorem d45_419 : decode (mB m45) 419 = .ok (.iconst 2, 1) := by decide +kernel
theorem d45_420 : decode (mB m45) 420 = .ok (.if_icmp .ne 7, 3) := by decide +kernel
theorem d45_423 : decode (mB m45) 423 = .ok (.iload 9, 2) := by decide +kernel
theorem d45_425 : decode (mB m45) 425 = .ok (.istore 11, 2) := by decide +kernel
theorem d45_427 : decode (mB m45) 427 = .ok (.aload 4, 2) := by decide +kernel
theorem d45_429 : decode (mB m45) 429 = .ok (.iload 10, 2) := by decide +kernel
theorem d45_431 : decode (mB m45) 431 = .ok (.invokevirtual 49, 3) := by decide +kernel
theorem d45_434 : decode (mB m45) 434 = .ok (.iload 11, 2) := by decide +kernel
theorem d45_436 : decode (mB m45) 436 = .ok (.if_icmp .eq 5, 3) := by decide +kernel
theorem d45_439 : decode (mB m45) 439 = .ok (.iconst 0, 1) := by decide +kernel
theorem d45_440 : decode (mB m45) 440 = .ok (.ireturn, 1) := by decide +kernel
theorem d45_441 : decode (mB m45) 441 = .ok (.iinc 10 1, 3) := by decide +kernel
theorem d45_444 : decode (mB m45) 444 = .ok (.goto (-70), 3) := by decide +kernel
theorem d45_447 : decode (mB m45) 447 = .ok (.iconst 1, 1) := by decide +kernel
theorem d45_448 : decode (mB m45) 448 = .ok (.ireturn, 1) := by decide +kernel
theorem cb_m8 : (-8 : Int32) = (Int8.ofInt (-8)).toInt32 := by decide
theorem cb_m6 : (-6 : Int32) = (Int8.ofInt (-6)).toInt32 := by decide
theorem cb_m3 : (-3 : Int32) = (Int8.ofInt (-3)).toInt32 := by decide
theorem cb_m2 : (-2 : Int32) = (Int8.ofInt (-2)).toInt32 := by decide
theorem cb_6 : (6 : Int32) = (Int8.ofInt (6)).toInt32 := by decide
theorem cb_7 : (7 : Int32) = (Int8.ofInt (7)).toInt32 := by decide
theorem cb_8 : (8 : Int32) = (Int8.ofInt (8)).toInt32 := by decide
theorem cb_9 : (9 : Int32) = (Int8.ofInt (9)).toInt32 := by decide
theorem cb_10 : (10 : Int32) = (Int8.ofInt (10)).toInt32 := by decide
theorem cb_11 : (11 : Int32) = (Int8.ofInt (11)).toInt32 := by decide
theorem cb_12 : (12 : Int32) = (Int8.ofInt (12)).toInt32 := by decide
theorem cb_15 : (15 : Int32) = (Int8.ofInt (15)).toInt32 := by decide
theorem cb_16 : (16 : Int32) = (Int8.ofInt (16)).toInt32 := by decide
theorem cb_32 : (32 : Int32) = (Int8.ofInt (32)).toInt32 := by decide
theorem cb_33 : (33 : Int32) = (Int8.ofInt (33)).toInt32 := by decide
theorem cb_63 : (63 : Int32) = (Int8.ofInt (63)).toInt32 := by decide
theorem cb_64 : (64 : Int32) = (Int8.ofInt (64)).toInt32 := by decide
theorem ci_m1 : (-1 : Int32) = Int32.ofInt (-1) := by decide
theorem ci_0 : (0 : Int32) = Int32.ofInt (0) := by decide
theorem ci_1 : (1 : Int32) = Int32.ofInt (1) := by decide
theorem ci_2 : (2 : Int32) = Int32.ofInt (2) := by decide
theorem ci_3 : (3 : Int32) = Int32.ofInt (3) := by decide
theorem ci_4 : (4 : Int32) = Int32.ofInt (4) := by decide
theorem ci_5 : (5 : Int32) = Int32.ofInt (5) := by decide
theorem cs_255 : (255 : Int32) = (Int16.ofInt (255)).toInt32 := by decide
theorem cs_300 : (300 : Int32) = (Int16.ofInt (300)).toInt32 := by decide
theorem cs_4096 : (4096 : Int32) = (Int16.ofInt (4096)).toInt32 := by decide
theorem j_1_5 : 0 ≤ ((1 : Nat) : Int) + (5) ∧ (((1 : Nat) : Int) + (5)).toNat = 6 := by decide
theorem j_1_9 : 0 ≤ ((1 : Nat) : Int) + (9) ∧ (((1 : Nat) : Int) + (9)).toNat = 10 := by decide
theorem j_1_11 : 0 ≤ ((1 : Nat) : Int) + (11) ∧ (((1 : Nat) : Int) + (11)).toNat = 12 := by decide
theorem j_1_17 : 0 ≤ ((1 : Nat) : Int) + (17) ∧ (((1 : Nat) : Int) + (17)).toNat = 18 := by decide
theorem j_2_5 : 0 ≤ ((2 : Nat) : Int) + (5) ∧ (((2 : Nat) : Int) + (5)).toNat = 7 := by decide
theorem j_2_19 : 0 ≤ ((2 : Nat) : Int) + (19) ∧ (((2 : Nat) : Int) + (19)).toNat = 21 := by decide
theorem j_3_5 : 0 ≤ ((3 : Nat) : Int) + (5) ∧ (((3 : Nat) : Int) + (5)).toNat = 8 := by decide
theorem j_3_9 : 0 ≤ ((3 : Nat) : Int) + (9) ∧ (((3 : Nat) : Int) + (9)).toNat = 12 := by decide
theorem j_3_17 : 0 ≤ ((3 : Nat) : Int) + (17) ∧ (((3 : Nat) : Int) + (17)).toNat = 20 := by decide
theorem j_4_6 : 0 ≤ ((4 : Nat) : Int) + (6) ∧ (((4 : Nat) : Int) + (6)).toNat = 10 := by decide
theorem j_4_22 : 0 ≤ ((4 : Nat) : Int) + (22) ∧ (((4 : Nat) : Int) + (22)).toNat = 26 := by decide
theorem j_5_5 : 0 ≤ ((5 : Nat) : Int) + (5) ∧ (((5 : Nat) : Int) + (5)).toNat = 10 := by decide
theorem j_5_9 : 0 ≤ ((5 : Nat) : Int) + (9) ∧ (((5 : Nat) : Int) + (9)).toNat = 14 := by decide
theorem j_5_18 : 0 ≤ ((5 : Nat) : Int) + (18) ∧ (((5 : Nat) : Int) + (18)).toNat = 23 := by decide
theorem j_5_19 : 0 ≤ ((5 : Nat) : Int) + (19) ∧ (((5 : Nat) : Int) + (19)).toNat = 24 := by decide
theorem j_5_21 : 0 ≤ ((5 : Nat) : Int) + (21) ∧ (((5 : Nat) : Int) + (21)).toNat = 26 := by decide
theorem j_5_23 : 0 ≤ ((5 : Nat) : Int) + (23) ∧ (((5 : Nat) : Int) + (23)).toNat = 28 := by decide
theorem j_5_37 : 0 ≤ ((5 : Nat) : Int) + (37) ∧ (((5 : Nat) : Int) + (37)).toNat = 42 := by decide
theorem j_6_5 : 0 ≤ ((6 : Nat) : Int) + (5) ∧ (((6 : Nat) : Int) + (5)).toNat = 11 := by decide
theorem j_6_7 : 0 ≤ ((6 : Nat) : Int) + (7) ∧ (((6 : Nat) : Int) + (7)).toNat = 13 := by decide
theorem j_6_13 : 0 ≤ ((6 : Nat) : Int) + (13) ∧ (((6 : Nat) : Int) + (13)).toNat = 19 := by decide
theorem j_7_4 : 0 ≤ ((7 : Nat) : Int) + (4) ∧ (((7 : Nat) : Int) + (4)).toNat = 11 := by decide
theorem j_7_5 : 0 ≤ ((7 : Nat) : Int) + (5) ∧ (((7 : Nat) : Int) + (5)).toNat = 12 := by decide
theorem j_7_7 : 0 ≤ ((7 : Nat) : Int) + (7) ∧ (((7 : Nat) : Int) + (7)).toNat = 14 := by decide
theorem j_7_11 : 0 ≤ ((7 : Nat) : Int) + (11) ∧ (((7 : Nat) : Int) + (11)).toNat = 18 := by decide
theorem j_7_31 : 0 ≤ ((7 : Nat) : Int) + (31) ∧ (((7 : Nat) : Int) + (31)).toNat = 38 := by decide
theorem j_7_52 : 0 ≤ ((7 : Nat) : Int) + (52) ∧ (((7 : Nat) : Int) + (52)).toNat = 59 := by decide
theorem j_8_50 : 0 ≤ ((8 : Nat) : Int) + (50) ∧ (((8 : Nat) : Int) + (50)).toNat = 58 := by decide
theorem j_8_64 : 0 ≤ ((8 : Nat) : Int) + (64) ∧ (((8 : Nat) : Int) + (64)).toNat = 72 := by decide
theorem j_8_88 : 0 ≤ ((8 : Nat) : Int) + (88) ∧ (((8 : Nat) : Int) + (88)).toNat = 96 := by decide
theorem j_8_120 : 0 ≤ ((8 : Nat) : Int) + (120) ∧ (((8 : Nat) : Int) + (120)).toNat = 128 := by decide
theorem j_8_159 : 0 ≤ ((8 : Nat) : Int) + (159) ∧ (((8 : Nat) : Int) + (159)).toNat = 167 := by decide
theorem j_8_165 : 0 ≤ ((8 : Nat) : Int) + (165) ∧ (((8 : Nat) : Int) + (165)).toNat = 173 := by decide
theorem j_8_171 : 0 ≤ ((8 : Nat) : Int) + (171) ∧ (((8 : Nat) : Int) + (171)).toNat = 179 := by decide
theorem j_8_177 : 0 ≤ ((8 : Nat) : Int) + (177) ∧ (((8 : Nat) : Int) + (177)).toNat = 185 := by decide
theorem j_8_199 : 0 ≤ ((8 : Nat) : Int) + (199) ∧ (((8 : Nat) : Int) + (199)).toNat = 207 := by decide
theorem j_8_205 : 0 ≤ ((8 : Nat) : Int) + (205) ∧ (((8 : Nat) : Int) + (205)).toNat = 213 := by decide
theorem j_8_211 : 0 ≤ ((8 : Nat) : Int) + (211) ∧ (((8 : Nat) : Int) + (211)).toNat = 219 := by decide
theorem j_8_217 : 0 ≤ ((8 : Nat) : Int) + (217) ∧ (((8 : Nat) : Int) + (217)).toNat = 225 := by decide
theorem j_8_223 : 0 ≤ ((8 : Nat) : Int) + (223) ∧ (((8 : Nat) : Int) + (223)).toNat = 231 := by decide
theorem j_8_244 : 0 ≤ ((8 : Nat) : Int) + (244) ∧ (((8 : Nat) : Int) + (244)).toNat = 252 := by decide
theorem j_9_5 : 0 ≤ ((9 : Nat) : Int) + (5) ∧ (((9 : Nat) : Int) + (5)).toNat = 14 := by decide
theorem j_9_9 : 0 ≤ ((9 : Nat) : Int) + (9) ∧ (((9 : Nat) : Int) + (9)).toNat = 18 := by decide
theorem j_9_13 : 0 ≤ ((9 : Nat) : Int) + (13) ∧ (((9 : Nat) : Int) + (13)).toNat = 22 := by decide
theorem j_9_52 : 0 ≤ ((9 : Nat) : Int) + (52) ∧ (((9 : Nat) : Int) + (52)).toNat = 61 := by decide
theorem j_11_4 : 0 ≤ ((11 : Nat) : Int) + (4) ∧ (((11 : Nat) : Int) + (4)).toNat = 15 := by decide
theorem j_11_5 : 0 ≤ ((11 : Nat) : Int) + (5) ∧ (((11 : Nat) : Int) + (5)).toNat = 16 := by decide
theorem j_11_9 : 0 ≤ ((11 : Nat) : Int) + (9) ∧ (((11 : Nat) : Int) + (9)).toNat = 20 := by decide
theorem j_12_7 : 0 ≤ ((12 : Nat) : Int) + (7) ∧ (((12 : Nat) : Int) + (7)).toNat = 19 := by decide
theorem j_12_12 : 0 ≤ ((12 : Nat) : Int) + (12) ∧ (((12 : Nat) : Int) + (12)).toNat = 24 := by decide
theorem j_13_9 : 0 ≤ ((13 : Nat) : Int) + (9) ∧ (((13 : Nat) : Int) + (9)).toNat = 22 := by decide
theorem j_13_13 : 0 ≤ ((13 : Nat) : Int) + (13) ∧ (((13 : Nat) : Int) + (13)).toNat = 26 := by decide
theorem j_13_17 : 0 ≤ ((13 : Nat) : Int) + (17) ∧ (((13 : Nat) : Int) + (17)).toNat = 30 := by decide
theorem j_13_25 : 0 ≤ ((13 : Nat) : Int) + (25) ∧ (((13 : Nat) : Int) + (25)).toNat = 38 := by decide
theorem j_13_46 : 0 ≤ ((13 : Nat) : Int) + (46) ∧ (((13 : Nat) : Int) + (46)).toNat = 59 := by decide
theorem j_14_7 : 0 ≤ ((14 : Nat) : Int) + (7) ∧ (((14 : Nat) : Int) + (7)).toNat = 21 := by decide
theorem j_14_8 : 0 ≤ ((14 : Nat) : Int) + (8) ∧ (((14 : Nat) : Int) + (8)).toNat = 22 := by decide
theorem j_15_4 : 0 ≤ ((15 : Nat) : Int) + (4) ∧ (((15 : Nat) : Int) + (4)).toNat = 19 := by decide
theorem j_15_5 : 0 ≤ ((15 : Nat) : Int) + (5) ∧ (((15 : Nat) : Int) + (5)).toNat = 20 := by decide
theorem j_15_8 : 0 ≤ ((15 : Nat) : Int) + (8) ∧ (((15 : Nat) : Int) + (8)).toNat = 23 := by decide
theorem j_15_10 : 0 ≤ ((15 : Nat) : Int) + (10) ∧ (((15 : Nat) : Int) + (10)).toNat = 25 := by decide
theorem j_16_4 : 0 ≤ ((16 : Nat) : Int) + (4) ∧ (((16 : Nat) : Int) + (4)).toNat = 20 := by decide
theorem j_16_5 : 0 ≤ ((16 : Nat) : Int) + (5) ∧ (((16 : Nat) : Int) + (5)).toNat = 21 := by decide
theorem j_17_5 : 0 ≤ ((17 : Nat) : Int) + (5) ∧ (((17 : Nat) : Int) + (5)).toNat = 22 := by decide
theorem j_17_9 : 0 ≤ ((17 : Nat) : Int) + (9) ∧ (((17 : Nat) : Int) + (9)).toNat = 26 := by decide
theorem j_17_27 : 0 ≤ ((17 : Nat) : Int) + (27) ∧ (((17 : Nat) : Int) + (27)).toNat = 44 := by decide
theorem j_17_44 : 0 ≤ ((17 : Nat) : Int) + (44) ∧ (((17 : Nat) : Int) + (44)).toNat = 61 := by decide
theorem j_19_5 : 0 ≤ ((19 : Nat) : Int) + (5) ∧ (((19 : Nat) : Int) + (5)).toNat = 24 := by decide
theorem j_19_6 : 0 ≤ ((19 : Nat) : Int) + (6) ∧ (((19 : Nat) : Int) + (6)).toNat = 25 := by decide
theorem j_20_m18 : 0 ≤ ((20 : Nat) : Int) + (-18) ∧ (((20 : Nat) : Int) + (-18)).toNat = 2 := by decide
theorem j_20_17 : 0 ≤ ((20 : Nat) : Int) + (17) ∧ (((20 : Nat) : Int) + (17)).toNat = 37 := by decide
theorem j_21_4 : 0 ≤ ((21 : Nat) : Int) + (4) ∧ (((21 : Nat) : Int) + (4)).toNat = 25 := by decide
theorem j_21_9 : 0 ≤ ((21 : Nat) : Int) + (9) ∧ (((21 : Nat) : Int) + (9)).toNat = 30 := by decide
theorem j_22_7 : 0 ≤ ((22 : Nat) : Int) + (7) ∧ (((22 : Nat) : Int) + (7)).toNat = 29 := by decide
theorem j_23_m21 : 0 ≤ ((23 : Nat) : Int) + (-21) ∧ (((23 : Nat) : Int) + (-21)).toNat = 2 := by decide
theorem j_23_10 : 0 ≤ ((23 : Nat) : Int) + (10) ∧ (((23 : Nat) : Int) + (10)).toNat = 33 := by decide
theorem j_23_19 : 0 ≤ ((23 : Nat) : Int) + (19) ∧ (((23 : Nat) : Int) + (19)).toNat = 42 := by decide
theorem j_23_21 : 0 ≤ ((23 : Nat) : Int) + (21) ∧ (((23 : Nat) : Int) + (21)).toNat = 44 := by decide
theorem j_24_8 : 0 ≤ ((24 : Nat) : Int) + (8) ∧ (((24 : Nat) : Int) + (8)).toNat = 32 := by decide
theorem j_24_29 : 0 ≤ ((24 : Nat) : Int) + (29) ∧ (((24 : Nat) : Int) + (29)).toNat = 53 := by decide
theorem j_25_m23 : 0 ≤ ((25 : Nat) : Int) + (-23) ∧ (((25 : Nat) : Int) + (-23)).toNat = 2 := by decide
theorem j_26_5 : 0 ≤ ((26 : Nat) : Int) + (5) ∧ (((26 : Nat) : Int) + (5)).toNat = 31 := by decide
theorem j_27_5 : 0 ≤ ((27 : Nat) : Int) + (5) ∧ (((27 : Nat) : Int) + (5)).toNat = 32 := by decide
theorem j_27_11 : 0 ≤ ((27 : Nat) : Int) + (11) ∧ (((27 : Nat) : Int) + (11)).toNat = 38 := by decide
theorem j_27_13 : 0 ≤ ((27 : Nat) : Int) + (13) ∧ (((27 : Nat) : Int) + (13)).toNat = 40 := by decide
theorem j_28_9 : 0 ≤ ((28 : Nat) : Int) + (9) ∧ (((28 : Nat) : Int) + (9)).toNat = 37 := by decide
theorem j_28_10 : 0 ≤ ((28 : Nat) : Int) + (10) ∧ (((28 : Nat) : Int) + (10)).toNat = 38 := by decide
theorem j_28_27 : 0 ≤ ((28 : Nat) : Int) + (27) ∧ (((28 : Nat) : Int) + (27)).toNat = 55 := by decide
theorem j_30_39 : 0 ≤ ((30 : Nat) : Int) + (39) ∧ (((30 : Nat) : Int) + (39)).toNat = 69 := by decide
theorem j_31_16 : 0 ≤ ((31 : Nat) : Int) + (16) ∧ (((31 : Nat) : Int) + (16)).toNat = 47 := by decide
theorem j_33_5 : 0 ≤ ((33 : Nat) : Int) + (5) ∧ (((33 : Nat) : Int) + (5)).toNat = 38 := by decide
theorem j_33_7 : 0 ≤ ((33 : Nat) : Int) + (7) ∧ (((33 : Nat) : Int) + (7)).toNat = 40 := by decide
theorem j_33_12 : 0 ≤ ((33 : Nat) : Int) + (12) ∧ (((33 : Nat) : Int) + (12)).toNat = 45 := by decide
theorem j_34_12 : 0 ≤ ((34 : Nat) : Int) + (12) ∧ (((34 : Nat) : Int) + (12)).toNat = 46 := by decide
theorem j_35_m33 : 0 ≤ ((35 : Nat) : Int) + (-33) ∧ (((35 : Nat) : Int) + (-33)).toNat = 2 := by decide
theorem j_36_9 : 0 ≤ ((36 : Nat) : Int) + (9) ∧ (((36 : Nat) : Int) + (9)).toNat = 45 := by decide
theorem j_36_18 : 0 ≤ ((36 : Nat) : Int) + (18) ∧ (((36 : Nat) : Int) + (18)).toNat = 54 := by decide
theorem j_37_4 : 0 ≤ ((37 : Nat) : Int) + (4) ∧ (((37 : Nat) : Int) + (4)).toNat = 41 := by decide
theorem j_37_18 : 0 ≤ ((37 : Nat) : Int) + (18) ∧ (((37 : Nat) : Int) + (18)).toNat = 55 := by decide
theorem j_37_20 : 0 ≤ ((37 : Nat) : Int) + (20) ∧ (((37 : Nat) : Int) + (20)).toNat = 57 := by decide
theorem j_39_m37 : 0 ≤ ((39 : Nat) : Int) + (-37) ∧ (((39 : Nat) : Int) + (-37)).toNat = 2 := by decide
theorem j_40_27 : 0 ≤ ((40 : Nat) : Int) + (27) ∧ (((40 : Nat) : Int) + (27)).toNat = 67 := by decide
theorem j_41_m29 : 0 ≤ ((41 : Nat) : Int) + (-29) ∧ (((41 : Nat) : Int) + (-29)).toNat = 12 := by decide
theorem j_41_16 : 0 ≤ ((41 : Nat) : Int) + (16) ∧ (((41 : Nat) : Int) + (16)).toNat = 57 := by decide
theorem j_43_5 : 0 ≤ ((43 : Nat) : Int) + (5) ∧ (((43 : Nat) : Int) + (5)).toNat = 48 := by decide
theorem j_43_9 : 0 ≤ ((43 : Nat) : Int) + (9) ∧ (((43 : Nat) : Int) + (9)).toNat = 52 := by decide
theorem j_43_10 : 0 ≤ ((43 : Nat) : Int) + (10) ∧ (((43 : Nat) : Int) + (10)).toNat = 53 := by decide
theorem j_43_14 : 0 ≤ ((43 : Nat) : Int) + (14) ∧ (((43 : Nat) : Int) + (14)).toNat = 57 := by decide
theorem j_44_m16 : 0 ≤ ((44 : Nat) : Int) + (-16) ∧ (((44 : Nat) : Int) + (-16)).toNat = 28 := by decide
theorem j_45_10 : 0 ≤ ((45 : Nat) : Int) + (10) ∧ (((45 : Nat) : Int) + (10)).toNat = 55 := by decide
theorem j_47_37 : 0 ≤ ((47 : Nat) : Int) + (37) ∧ (((47 : Nat) : Int) + (37)).toNat = 84 := by decide
theorem j_47_55 : 0 ≤ ((47 : Nat) : Int) + (55) ∧ (((47 : Nat) : Int) + (55)).toNat = 102 := by decide
theorem j_47_65 : 0 ≤ ((47 : Nat) : Int) + (65) ∧ (((47 : Nat) : Int) + (65)).toNat = 112 := by decide
theorem j_47_88 : 0 ≤ ((47 : Nat) : Int) + (88) ∧ (((47 : Nat) : Int) + (88)).toNat = 135 := by decide
theorem j_47_103 : 0 ≤ ((47 : Nat) : Int) + (103) ∧ (((47 : Nat) : Int) + (103)).toNat = 150 := by decide
theorem j_47_113 : 0 ≤ ((47 : Nat) : Int) + (113) ∧ (((47 : Nat) : Int) + (113)).toNat = 160 := by decide
theorem j_47_122 : 0 ≤ ((47 : Nat) : Int) + (122) ∧ (((47 : Nat) : Int) + (122)).toNat = 169 := by decide
theorem j_48_6 : 0 ≤ ((48 : Nat) : Int) + (6) ∧ (((48 : Nat) : Int) + (6)).toNat = 54 := by decide
theorem j_48_9 : 0 ≤ ((48 : Nat) : Int) + (9) ∧ (((48 : Nat) : Int) + (9)).toNat = 57 := by decide
theorem j_49_18 : 0 ≤ ((49 : Nat) : Int) + (18) ∧ (((49 : Nat) : Int) + (18)).toNat = 67 := by decide
theorem j_49_20 : 0 ≤ ((49 : Nat) : Int) + (20) ∧ (((49 : Nat) : Int) + (20)).toNat = 69 := by decide
theorem j_51_m19 : 0 ≤ ((51 : Nat) : Int) + (-19) ∧ (((51 : Nat) : Int) + (-19)).toNat = 32 := by decide
theorem j_52_23 : 0 ≤ ((52 : Nat) : Int) + (23) ∧ (((52 : Nat) : Int) + (23)).toNat = 75 := by decide
theorem j_53_24 : 0 ≤ ((53 : Nat) : Int) + (24) ∧ (((53 : Nat) : Int) + (24)).toNat = 77 := by decide
theorem j_54_m22 : 0 ≤ ((54 : Nat) : Int) + (-22) ∧ (((54 : Nat) : Int) + (-22)).toNat = 32 := by decide
theorem j_55_m51 : 0 ≤ ((55 : Nat) : Int) + (-51) ∧ (((55 : Nat) : Int) + (-51)).toNat = 4 := by decide
theorem j_55_14 : 0 ≤ ((55 : Nat) : Int) + (14) ∧ (((55 : Nat) : Int) + (14)).toNat = 69 := by decide
theorem j_56_m54 : 0 ≤ ((56 : Nat) : Int) + (-54) ∧ (((56 : Nat) : Int) + (-54)).toNat = 2 := by decide
theorem j_58_m56 : 0 ≤ ((58 : Nat) : Int) + (-56) ∧ (((58 : Nat) : Int) + (-56)).toNat = 2 := by decide
theorem j_60_7 : 0 ≤ ((60 : Nat) : Int) + (7) ∧ (((60 : Nat) : Int) + (7)).toNat = 67 := by decide
theorem j_60_34 : 0 ≤ ((60 : Nat) : Int) + (34) ∧ (((60 : Nat) : Int) + (34)).toNat = 94 := by decide
theorem j_62_9 : 0 ≤ ((62 : Nat) : Int) + (9) ∧ (((62 : Nat) : Int) + (9)).toNat = 71 := by decide
theorem j_63_14 : 0 ≤ ((63 : Nat) : Int) + (14) ∧ (((63 : Nat) : Int) + (14)).toNat = 77 := by decide
theorem j_64_4 : 0 ≤ ((64 : Nat) : Int) + (4) ∧ (((64 : Nat) : Int) + (4)).toNat = 68 := by decide
theorem j_64_38 : 0 ≤ ((64 : Nat) : Int) + (38) ∧ (((64 : Nat) : Int) + (38)).toNat = 102 := by decide
theorem j_66_m22 : 0 ≤ ((66 : Nat) : Int) + (-22) ∧ (((66 : Nat) : Int) + (-22)).toNat = 44 := by decide
theorem j_72_m23 : 0 ≤ ((72 : Nat) : Int) + (-23) ∧ (((72 : Nat) : Int) + (-23)).toNat = 49 := by decide
theorem j_74_6 : 0 ≤ ((74 : Nat) : Int) + (6) ∧ (((74 : Nat) : Int) + (6)).toNat = 80 := by decide
theorem j_76_39 : 0 ≤ ((76 : Nat) : Int) + (39) ∧ (((76 : Nat) : Int) + (39)).toNat = 115 := by decide
theorem j_79_17 : 0 ≤ ((79 : Nat) : Int) + (17) ∧ (((79 : Nat) : Int) + (17)).toNat = 96 := by decide
theorem j_86_27 : 0 ≤ ((86 : Nat) : Int) + (27) ∧ (((86 : Nat) : Int) + (27)).toNat = 113 := by decide
theorem j_90_7 : 0 ≤ ((90 : Nat) : Int) + (7) ∧ (((90 : Nat) : Int) + (7)).toNat = 97 := by decide
theorem j_94_4 : 0 ≤ ((94 : Nat) : Int) + (4) ∧ (((94 : Nat) : Int) + (4)).toNat = 98 := by decide
theorem j_95_18 : 0 ≤ ((95 : Nat) : Int) + (18) ∧ (((95 : Nat) : Int) + (18)).toNat = 113 := by decide
theorem j_97_9 : 0 ≤ ((97 : Nat) : Int) + (9) ∧ (((97 : Nat) : Int) + (9)).toNat = 106 := by decide
theorem j_99_m38 : 0 ≤ ((99 : Nat) : Int) + (-38) ∧ (((99 : Nat) : Int) + (-38)).toNat = 61 := by decide
theorem j_106_7 : 0 ≤ ((106 : Nat) : Int) + (7) ∧ (((106 : Nat) : Int) + (7)).toNat = 113 := by decide
theorem j_110_4 : 0 ≤ ((110 : Nat) : Int) + (4) ∧ (((110 : Nat) : Int) + (4)).toNat = 114 := by decide
theorem j_118_12 : 0 ≤ ((118 : Nat) : Int) + (12) ∧ (((118 : Nat) : Int) + (12)).toNat = 130 := by decide
theorem j_123_7 : 0 ≤ ((123 : Nat) : Int) + (7) ∧ (((123 : Nat) : Int) + (7)).toNat = 130 := by decide
theorem j_127_4 : 0 ≤ ((127 : Nat) : Int) + (4) ∧ (((127 : Nat) : Int) + (4)).toNat = 131 := by decide
theorem j_127_5 : 0 ≤ ((127 : Nat) : Int) + (5) ∧ (((127 : Nat) : Int) + (5)).toNat = 132 := by decide
theorem j_141_15 : 0 ≤ ((141 : Nat) : Int) + (15) ∧ (((141 : Nat) : Int) + (15)).toNat = 156 := by decide
theorem j_146_16 : 0 ≤ ((146 : Nat) : Int) + (16) ∧ (((146 : Nat) : Int) + (16)).toNat = 162 := by decide
theorem j_153_9 : 0 ≤ ((153 : Nat) : Int) + (9) ∧ (((153 : Nat) : Int) + (9)).toNat = 162 := by decide
theorem j_159_34 : 0 ≤ ((159 : Nat) : Int) + (34) ∧ (((159 : Nat) : Int) + (34)).toNat = 193 := by decide
theorem j_164_10 : 0 ≤ ((164 : Nat) : Int) + (10) ∧ (((164 : Nat) : Int) + (10)).toNat = 174 := by decide
theorem j_171_9 : 0 ≤ ((171 : Nat) : Int) + (9) ∧ (((171 : Nat) : Int) + (9)).toNat = 180 := by decide
theorem j_177_16 : 0 ≤ ((177 : Nat) : Int) + (16) ∧ (((177 : Nat) : Int) + (16)).toNat = 193 := by decide
theorem j_196_7 : 0 ≤ ((196 : Nat) : Int) + (7) ∧ (((196 : Nat) : Int) + (7)).toNat = 203 := by decide
theorem j_200_4 : 0 ≤ ((200 : Nat) : Int) + (4) ∧ (((200 : Nat) : Int) + (4)).toNat = 204 := by decide
theorem j_220_13 : 0 ≤ ((220 : Nat) : Int) + (13) ∧ (((220 : Nat) : Int) + (13)).toNat = 233 := by decide
theorem j_224_6 : 0 ≤ ((224 : Nat) : Int) + (6) ∧ (((224 : Nat) : Int) + (6)).toNat = 230 := by decide
theorem j_230_5 : 0 ≤ ((230 : Nat) : Int) + (5) ∧ (((230 : Nat) : Int) + (5)).toNat = 235 := by decide
theorem j_233_6 : 0 ≤ ((233 : Nat) : Int) + (6) ∧ (((233 : Nat) : Int) + (6)).toNat = 239 := by decide
theorem j_242_8 : 0 ≤ ((242 : Nat) : Int) + (8) ∧ (((242 : Nat) : Int) + (8)).toNat = 250 := by decide
theorem j_247_4 : 0 ≤ ((247 : Nat) : Int) + (4) ∧ (((247 : Nat) : Int) + (4)).toNat = 251 := by decide
theorem j_251_5 : 0 ≤ ((251 : Nat) : Int) + (5) ∧ (((251 : Nat) : Int) + (5)).toNat = 256 := by decide
theorem j_263_7 : 0 ≤ ((263 : Nat) : Int) + (7) ∧ (((263 : Nat) : Int) + (7)).toNat = 270 := by decide
theorem j_267_4 : 0 ≤ ((267 : Nat) : Int) + (4) ∧ (((267 : Nat) : Int) + (4)).toNat = 271 := by decide
theorem j_271_5 : 0 ≤ ((271 : Nat) : Int) + (5) ∧ (((271 : Nat) : Int) + (5)).toNat = 276 := by decide
theorem j_284_8 : 0 ≤ ((284 : Nat) : Int) + (8) ∧ (((284 : Nat) : Int) + (8)).toNat = 292 := by decide
theorem j_289_4 : 0 ≤ ((289 : Nat) : Int) + (4) ∧ (((289 : Nat) : Int) + (4)).toNat = 293 := by decide
theorem j_293_12 : 0 ≤ ((293 : Nat) : Int) + (12) ∧ (((293 : Nat) : Int) + (12)).toNat = 305 := by decide
theorem j_302_5 : 0 ≤ ((302 : Nat) : Int) + (5) ∧ (((302 : Nat) : Int) + (5)).toNat = 307 := by decide
theorem j_314_57 : 0 ≤ ((314 : Nat) : Int) + (57) ∧ (((314 : Nat) : Int) + (57)).toNat = 371 := by decide
theorem j_326_15 : 0 ≤ ((326 : Nat) : Int) + (15) ∧ (((326 : Nat) : Int) + (15)).toNat = 341 := by decide
theorem j_333_8 : 0 ≤ ((333 : Nat) : Int) + (8) ∧ (((333 : Nat) : Int) + (8)).toNat = 341 := by decide
theorem j_338_11 : 0 ≤ ((338 : Nat) : Int) + (11) ∧ (((338 : Nat) : Int) + (11)).toNat = 349 := by decide
theorem j_360_5 : 0 ≤ ((360 : Nat) : Int) + (5) ∧ (((360 : Nat) : Int) + (5)).toNat = 365 := by decide
theorem j_368_m58 : 0 ≤ ((368 : Nat) : Int) + (-58) ∧ (((368 : Nat) : Int) + (-58)).toNat = 310 := by decide
theorem j_378_69 : 0 ≤ ((378 : Nat) : Int) + (69) ∧ (((378 : Nat) : Int) + (69)).toNat = 447 := by decide
theorem j_386_12 : 0 ≤ ((386 : Nat) : Int) + (12) ∧ (((386 : Nat) : Int) + (12)).toNat = 398 := by decide
theorem j_391_7 : 0 ≤ ((391 : Nat) : Int) + (7) ∧ (((391 : Nat) : Int) + (7)).toNat = 398 := by decide
theorem j_400_12 : 0 ≤ ((400 : Nat) : Int) + (12) ∧ (((400 : Nat) : Int) + (12)).toNat = 412 := by decide
theorem j_406_6 : 0 ≤ ((406 : Nat) : Int) + (6) ∧ (((406 : Nat) : Int) + (6)).toNat = 412 := by decide
theorem j_414_13 : 0 ≤ ((414 : Nat) : Int) + (13) ∧ (((414 : Nat) : Int) + (13)).toNat = 427 := by decide
theorem j_420_7 : 0 ≤ ((420 : Nat) : Int) + (7) ∧ (((420 : Nat) : Int) + (7)).toNat = 427 := by decide
theorem j_436_5 : 0 ≤ ((436 : Nat) : Int) + (5) ∧ (((436 : Nat) : Int) + (5)).toNat = 441 := by decide
theorem j_444_m70 : 0 ≤ ((444 : Nat) : Int) + (-70) ∧ (((444 : Nat) : Int) + (-70)).toNat = 374 := by decide
theorem lk_0_118 : LinkP PP "NullCheckOpt" 118 m2 := ⟨List.mem_of_getElem? (i := 91) rfl, List.mem_of_getElem? (i := 92) rfl, List.mem_of_getElem? (i := 93) rfl, List.mem_of_getElem? (i := 94) rfl, rfl, rfl⟩
theorem lk_0_122 : LinkP PP "NullCheckOpt" 122 m3 := ⟨List.mem_of_getElem? (i := 95) rfl, List.mem_of_getElem? (i := 96) rfl, List.mem_of_getElem? (i := 97) rfl, List.mem_of_getElem? (i := 98) rfl, rfl, rfl⟩
theorem lk_0_125 : LinkP PP "NullCheckOpt" 125 m4 := ⟨List.mem_of_getElem? (i := 99) rfl, List.mem_of_getElem? (i := 100) rfl, List.mem_of_getElem? (i := 101) rfl, List.mem_of_getElem? (i := 102) rfl, rfl, rfl⟩
theorem lk_0_128 : LinkP PP "NullCheckOpt" 128 m5 := ⟨List.mem_of_getElem? (i := 103) rfl, List.mem_of_getElem? (i := 104) rfl, List.mem_of_getElem? (i := 105) rfl, List.mem_of_getElem? (i := 106) rfl, rfl, rfl⟩
theorem lk_0_132 : LinkP PP "NullCheckOpt" 132 m6 := ⟨List.mem_of_getElem? (i := 107) rfl, List.mem_of_getElem? (i := 108) rfl, List.mem_of_getElem? (i := 109) rfl, List.mem_of_getElem? (i := 110) rfl, rfl, rfl⟩
theorem lk_0_142 : LinkP PP "NullCheckOpt" 142 m8 := ⟨List.mem_of_getElem? (i := 120) rfl, List.mem_of_getElem? (i := 121) rfl, List.mem_of_getElem? (i := 122) rfl, List.mem_of_getElem? (i := 123) rfl, rfl, rfl⟩
theorem lk_0_154 : LinkP PP "NullCheckOpt" 154 m11 := ⟨List.mem_of_getElem? (i := 129) rfl, List.mem_of_getElem? (i := 130) rfl, List.mem_of_getElem? (i := 131) rfl, List.mem_of_getElem? (i := 132) rfl, rfl, rfl⟩
theorem lk_0_157 : LinkP PP "NullCheckOpt" 157 m29 := ⟨List.mem_of_getElem? (i := 133) rfl, List.mem_of_getElem? (i := 134) rfl, List.mem_of_getElem? (i := 135) rfl, List.mem_of_getElem? (i := 136) rfl, rfl, rfl⟩
theorem lk_0_160 : LinkP PP "NullCheckOpt" 160 m12 := ⟨List.mem_of_getElem? (i := 137) rfl, List.mem_of_getElem? (i := 138) rfl, List.mem_of_getElem? (i := 139) rfl, List.mem_of_getElem? (i := 140) rfl, rfl, rfl⟩
theorem lk_0_163 : LinkP PP "NullCheckOpt" 163 m37 := ⟨List.mem_of_getElem? (i := 205) rfl, List.mem_of_getElem? (i := 206) rfl, List.mem_of_getElem? (i := 207) rfl, List.mem_of_getElem? (i := 208) rfl, rfl, rfl⟩
theorem lk_0_166 : LinkP PP "NullCheckOpt" 166 m30 := ⟨List.mem_of_getElem? (i := 225) rfl, List.mem_of_getElem? (i := 226) rfl, List.mem_of_getElem? (i := 227) rfl, List.mem_of_getElem? (i := 228) rfl, rfl, rfl⟩
theorem lk_0_170 : LinkP PP "NullCheckOpt" 170 m36 := ⟨List.mem_of_getElem? (i := 209) rfl, List.mem_of_getElem? (i := 210) rfl, List.mem_of_getElem? (i := 211) rfl, List.mem_of_getElem? (i := 212) rfl, rfl, rfl⟩
theorem lk_0_173 : LinkP PP "NullCheckOpt" 173 m32 := ⟨List.mem_of_getElem? (i := 213) rfl, List.mem_of_getElem? (i := 214) rfl, List.mem_of_getElem? (i := 215) rfl, List.mem_of_getElem? (i := 216) rfl, rfl, rfl⟩
theorem lk_0_176 : LinkP PP "NullCheckOpt" 176 m33 := ⟨List.mem_of_getElem? (i := 267) rfl, List.mem_of_getElem? (i := 268) rfl, List.mem_of_getElem? (i := 269) rfl, List.mem_of_getElem? (i := 270) rfl, rfl, rfl⟩
theorem lk_0_179 : LinkP PP "NullCheckOpt" 179 m34 := ⟨List.mem_of_getElem? (i := 221) rfl, List.mem_of_getElem? (i := 222) rfl, List.mem_of_getElem? (i := 223) rfl, List.mem_of_getElem? (i := 224) rfl, rfl, rfl⟩
theorem lk_0_182 : LinkP PP "NullCheckOpt" 182 m35 := ⟨List.mem_of_getElem? (i := 263) rfl, List.mem_of_getElem? (i := 264) rfl, List.mem_of_getElem? (i := 265) rfl, List.mem_of_getElem? (i := 266) rfl, rfl, rfl⟩
theorem lk_0_198 : LinkP PP "NullCheckOpt" 198 m31 := ⟨List.mem_of_getElem? (i := 217) rfl, List.mem_of_getElem? (i := 218) rfl, List.mem_of_getElem? (i := 219) rfl, List.mem_of_getElem? (i := 220) rfl, rfl, rfl⟩
theorem lk_0_208 : LinkP PP "NullCheckOpt" 208 m15 := ⟨List.mem_of_getElem? (i := 141) rfl, List.mem_of_getElem? (i := 142) rfl, List.mem_of_getElem? (i := 143) rfl, List.mem_of_getElem? (i := 144) rfl, rfl, rfl⟩
theorem lk_0_211 : LinkP PP "NullCheckOpt" 211 m24 := ⟨List.mem_of_getElem? (i := 153) rfl, List.mem_of_getElem? (i := 154) rfl, List.mem_of_getElem? (i := 155) rfl, List.mem_of_getElem? (i := 156) rfl, rfl, rfl⟩
theorem lk_0_215 : LinkP PP "NullCheckOpt" 215 m25 := ⟨List.mem_of_getElem? (i := 189) rfl, List.mem_of_getElem? (i := 190) rfl, List.mem_of_getElem? (i := 191) rfl, List.mem_of_getElem? (i := 192) rfl, rfl, rfl⟩
theorem lk_0_218 : LinkP PP "NullCheckOpt" 218 m26 := ⟨List.mem_of_getElem? (i := 193) rfl, List.mem_of_getElem? (i := 194) rfl, List.mem_of_getElem? (i := 195) rfl, List.mem_of_getElem? (i := 196) rfl, rfl, rfl⟩
theorem lk_0_221 : LinkP PP "NullCheckOpt" 221 m28 := ⟨List.mem_of_getElem? (i := 197) rfl, List.mem_of_getElem? (i := 198) rfl, List.mem_of_getElem? (i := 199) rfl, List.mem_of_getElem? (i := 200) rfl, rfl, rfl⟩
theorem lk_0_224 : LinkP PP "NullCheckOpt" 224 m13 := ⟨List.mem_of_getElem? (i := 149) rfl, List.mem_of_getElem? (i := 150) rfl, List.mem_of_getElem? (i := 151) rfl, List.mem_of_getElem? (i := 152) rfl, rfl, rfl⟩
theorem lk_0_227 : LinkP PP "NullCheckOpt" 227 m14 := ⟨List.mem_of_getElem? (i := 145) rfl, List.mem_of_getElem? (i := 146) rfl, List.mem_of_getElem? (i := 147) rfl, List.mem_of_getElem? (i := 148) rfl, rfl, rfl⟩
theorem lk_0_236 : LinkP PP "NullCheckOpt" 236 m23 := ⟨List.mem_of_getElem? (i := 157) rfl, List.mem_of_getElem? (i := 158) rfl, List.mem_of_getElem? (i := 159) rfl, List.mem_of_getElem? (i := 160) rfl, rfl, rfl⟩
theorem lk_0_239 : LinkP PP "NullCheckOpt" 239 m22 := ⟨List.mem_of_getElem? (i := 161) rfl, List.mem_of_getElem? (i := 162) rfl, List.mem_of_getElem? (i := 163) rfl, List.mem_of_getElem? (i := 164) rfl, rfl, rfl⟩
theorem lk_0_242 : LinkP PP "NullCheckOpt" 242 m20 := ⟨List.mem_of_getElem? (i := 165) rfl, List.mem_of_getElem? (i := 166) rfl, List.mem_of_getElem? (i := 167) rfl, List.mem_of_getElem? (i := 168) rfl, rfl, rfl⟩
theorem lk_0_245 : LinkP PP "NullCheckOpt" 245 m21 := ⟨List.mem_of_getElem? (i := 177) rfl, List.mem_of_getElem? (i := 178) rfl, List.mem_of_getElem? (i := 179) rfl, List.mem_of_getElem? (i := 180) rfl, rfl, rfl⟩
theorem lk_0_248 : LinkP PP "NullCheckOpt" 248 m16 := ⟨List.mem_of_getElem? (i := 169) rfl, List.mem_of_getElem? (i := 170) rfl, List.mem_of_getElem? (i := 171) rfl, List.mem_of_getElem? (i := 172) rfl, rfl, rfl⟩
theorem lk_0_251 : LinkP PP "NullCheckOpt" 251 m17 := ⟨List.mem_of_getElem? (i := 173) rfl, List.mem_of_getElem? (i := 174) rfl, List.mem_of_getElem? (i := 175) rfl, List.mem_of_getElem? (i := 176) rfl, rfl, rfl⟩
theorem lk_0_255 : LinkP PP "NullCheckOpt" 255 m18 := ⟨List.mem_of_getElem? (i := 181) rfl, List.mem_of_getElem? (i := 182) rfl, List.mem_of_getElem? (i := 183) rfl, List.mem_of_getElem? (i := 184) rfl, rfl, rfl⟩
theorem lk_0_259 : LinkP PP "NullCheckOpt" 259 m19 := ⟨List.mem_of_getElem? (i := 185) rfl, List.mem_of_getElem? (i := 186) rfl, List.mem_of_getElem? (i := 187) rfl, List.mem_of_getElem? (i := 188) rfl, rfl, rfl⟩
theorem lk_0_273 : LinkP PP "NullCheckOpt" 273 m27 := ⟨List.mem_of_getElem? (i := 201) rfl, List.mem_of_getElem? (i := 202) rfl, List.mem_of_getElem? (i := 203) rfl, List.mem_of_getElem? (i := 204) rfl, rfl, rfl⟩
theorem lk_1_9 : LinkI PP "NullCheckOptL3" 9 m0 := ⟨List.mem_of_getElem? (i := 3) rfl, List.mem_of_getElem? (i := 4) rfl, List.mem_of_getElem? (i := 5) rfl, rfl, rfl, rfl, rfl⟩
theorem lk_1_12 : LinkV PP "NullCheckOptL3" 12 m1 := ⟨List.mem_of_getElem? (i := 81) rfl, List.mem_of_getElem? (i := 82) rfl, List.mem_of_getElem? (i := 84) rfl, List.mem_of_getElem? (i := 83) rfl, List.mem_of_getElem? (i := 85) rfl, rfl, rfl⟩
theorem lk_1_16 : LinkV PP "NullCheckOptL3" 16 m7 := ⟨List.mem_of_getElem? (i := 86) rfl, List.mem_of_getElem? (i := 87) rfl, List.mem_of_getElem? (i := 89) rfl, List.mem_of_getElem? (i := 88) rfl, List.mem_of_getElem? (i := 90) rfl, rfl, rfl⟩
theorem lk_1_20 : LinkV PP "NullCheckOptL3" 20 m9 := ⟨List.mem_of_getElem? (i := 111) rfl, List.mem_of_getElem? (i := 112) rfl, List.mem_of_getElem? (i := 114) rfl, List.mem_of_getElem? (i := 113) rfl, List.mem_of_getElem? (i := 115) rfl, rfl, rfl⟩
theorem lk_1_24 : LinkS PP "NullCheckOptL3" 24 m10 := ⟨List.mem_of_getElem? (i := 249) rfl, List.mem_of_getElem? (i := 250) rfl, List.mem_of_getElem? (i := 251) rfl, List.mem_of_getElem? (i := 252) rfl, by decide⟩
theorem lk_1_29 : LinkV PP "NullCheckOptL3" 29 m38 := ⟨List.mem_of_getElem? (i := 124) rfl, List.mem_of_getElem? (i := 125) rfl, List.mem_of_getElem? (i := 127) rfl, List.mem_of_getElem? (i := 126) rfl, List.mem_of_getElem? (i := 128) rfl, rfl, rfl⟩
theorem lk_1_33 : LinkV PP "NullCheckOptL3" 33 m39 := ⟨List.mem_of_getElem? (i := 229) rfl, List.mem_of_getElem? (i := 230) rfl, List.mem_of_getElem? (i := 232) rfl, List.mem_of_getElem? (i := 231) rfl, List.mem_of_getElem? (i := 233) rfl, rfl, rfl⟩
theorem lk_1_36 : LinkV PP "NullCheckOptL3" 36 m40 := ⟨List.mem_of_getElem? (i := 234) rfl, List.mem_of_getElem? (i := 235) rfl, List.mem_of_getElem? (i := 237) rfl, List.mem_of_getElem? (i := 236) rfl, List.mem_of_getElem? (i := 238) rfl, rfl, rfl⟩
theorem lk_1_39 : LinkV PP "NullCheckOptL3" 39 m41 := ⟨List.mem_of_getElem? (i := 239) rfl, List.mem_of_getElem? (i := 240) rfl, List.mem_of_getElem? (i := 242) rfl, List.mem_of_getElem? (i := 241) rfl, List.mem_of_getElem? (i := 243) rfl, rfl, rfl⟩
theorem lk_1_42 : LinkV PP "NullCheckOptL3" 42 m42 := ⟨List.mem_of_getElem? (i := 244) rfl, List.mem_of_getElem? (i := 245) rfl, List.mem_of_getElem? (i := 247) rfl, List.mem_of_getElem? (i := 246) rfl, List.mem_of_getElem? (i := 248) rfl, rfl, rfl⟩
theorem lk_1_46 : LinkV PP "NullCheckOptL3" 46 m43 := ⟨List.mem_of_getElem? (i := 253) rfl, List.mem_of_getElem? (i := 254) rfl, List.mem_of_getElem? (i := 256) rfl, List.mem_of_getElem? (i := 255) rfl, List.mem_of_getElem? (i := 257) rfl, rfl, rfl⟩
theorem lk_1_49 : LinkV PP "NullCheckOptL3" 49 m44 := ⟨List.mem_of_getElem? (i := 258) rfl, List.mem_of_getElem? (i := 259) rfl, List.mem_of_getElem? (i := 261) rfl, List.mem_of_getElem? (i := 260) rfl, List.mem_of_getElem? (i := 262) rfl, rfl, rfl⟩
theorem facts1 {Z : State} {a0 : Array Value} (hw : ∀ d ∈ tables_1, d.before a0 Z = true) : Facts Z a0 ci1 := by
  refine ⟨hw _ (List.mem_of_getElem? (i := 1) rfl), hw _ (List.mem_of_getElem? (i := 2) rfl), ?_, ?_, by decide, ?_, by decide⟩
  · intro f x hx
    match f, hx with
    | 0, hx => cases hx; exact ⟨Or.inr (hw _ (List.mem_of_getElem? (i := 10) rfl)), by decide⟩
    | 1, hx => cases hx; exact ⟨Or.inr (hw _ (List.mem_of_getElem? (i := 12) rfl)), by decide⟩
    | 2, hx => cases hx; exact ⟨Or.inr (hw _ (List.mem_of_getElem? (i := 14) rfl)), by decide⟩
    | 3, hx => cases hx; exact ⟨Or.inr (hw _ (List.mem_of_getElem? (i := 16) rfl)), by decide⟩
    | 4, hx => cases hx; exact ⟨Or.inr (hw _ (List.mem_of_getElem? (i := 18) rfl)), by decide⟩
    | 5, hx => cases hx; exact ⟨Or.inr (hw _ (List.mem_of_getElem? (i := 20) rfl)), by decide⟩
    | 6, hx => cases hx; exact ⟨Or.inr (hw _ (List.mem_of_getElem? (i := 22) rfl)), by decide⟩
    | 7, hx => cases hx; exact ⟨Or.inl (hw _ (List.mem_of_getElem? (i := 70) rfl)), by decide⟩
    | 8, hx => cases hx; exact ⟨Or.inl (hw _ (List.mem_of_getElem? (i := 72) rfl)), by decide⟩
    | 9, hx => cases hx; exact ⟨Or.inl (hw _ (List.mem_of_getElem? (i := 74) rfl)), by decide⟩
    | 10, hx => cases hx; exact ⟨Or.inl (hw _ (List.mem_of_getElem? (i := 76) rfl)), by decide⟩
    | 11, hx => cases hx; exact ⟨Or.inl (hw _ (List.mem_of_getElem? (i := 78) rfl)), by decide⟩
    | 12, hx => cases hx; exact ⟨Or.inl (hw _ (List.mem_of_getElem? (i := 80) rfl)), by decide⟩
    | 13, hx => cases hx; exact ⟨Or.inl (hw _ (List.mem_of_getElem? (i := 117) rfl)), by decide⟩
    | 14, hx => cases hx; exact ⟨Or.inl (hw _ (List.mem_of_getElem? (i := 119) rfl)), by decide⟩
    | n + 15, hx => simp [cS, ci1] at hx
  · intro q x hx
    match q, hx with
    | 0, hx => cases hx; exact ⟨Or.inr (hw _ (List.mem_of_getElem? (i := 25) rfl)), by decide⟩
    | 1, hx => cases hx; exact ⟨Or.inr (hw _ (List.mem_of_getElem? (i := 27) rfl)), by decide⟩
    | 2, hx => cases hx; exact ⟨Or.inr (hw _ (List.mem_of_getElem? (i := 29) rfl)), by decide⟩
    | 3, hx => cases hx; exact ⟨Or.inr (hw _ (List.mem_of_getElem? (i := 31) rfl)), by decide⟩
    | 4, hx => cases hx; exact ⟨Or.inr (hw _ (List.mem_of_getElem? (i := 33) rfl)), by decide⟩
    | 5, hx => cases hx; exact ⟨Or.inr (hw _ (List.mem_of_getElem? (i := 35) rfl)), by decide⟩
    | 6, hx => cases hx; exact ⟨Or.inr (hw _ (List.mem_of_getElem? (i := 37) rfl)), by decide⟩
    | 7, hx => cases hx; exact ⟨Or.inr (hw _ (List.mem_of_getElem? (i := 39) rfl)), by decide⟩
    | 8, hx => cases hx; exact ⟨Or.inr (hw _ (List.mem_of_getElem? (i := 42) rfl)), by decide⟩
    | 9, hx => cases hx; exact ⟨Or.inr (hw _ (List.mem_of_getElem? (i := 44) rfl)), by decide⟩
    | 10, hx => cases hx; exact ⟨Or.inr (hw _ (List.mem_of_getElem? (i := 46) rfl)), by decide⟩
    | 11, hx => cases hx; exact ⟨Or.inr (hw _ (List.mem_of_getElem? (i := 48) rfl)), by decide⟩
    | 12, hx => cases hx; exact ⟨Or.inr (hw _ (List.mem_of_getElem? (i := 50) rfl)), by decide⟩
    | 13, hx => cases hx; exact ⟨Or.inr (hw _ (List.mem_of_getElem? (i := 52) rfl)), by decide⟩
    | 14, hx => cases hx; exact ⟨Or.inr (hw _ (List.mem_of_getElem? (i := 54) rfl)), by decide⟩
    | 15, hx => cases hx; exact ⟨Or.inr (hw _ (List.mem_of_getElem? (i := 56) rfl)), by decide⟩
    | 16, hx => cases hx; exact ⟨Or.inr (hw _ (List.mem_of_getElem? (i := 58) rfl)), by decide⟩
    | 17, hx => cases hx; exact ⟨Or.inr (hw _ (List.mem_of_getElem? (i := 60) rfl)), by decide⟩
    | 18, hx => cases hx; exact ⟨Or.inr (hw _ (List.mem_of_getElem? (i := 62) rfl)), by decide⟩
    | 19, hx => cases hx; exact ⟨Or.inr (hw _ (List.mem_of_getElem? (i := 64) rfl)), by decide⟩
    | 20, hx => cases hx; exact ⟨Or.inr (hw _ (List.mem_of_getElem? (i := 66) rfl)), by decide⟩
    | 21, hx => cases hx; exact ⟨Or.inr (hw _ (List.mem_of_getElem? (i := 68) rfl)), by decide⟩
    | n + 22, hx => simp [cA, ci1] at hx
  · intro f x hx
    match f, hx with
    | 0, hx => cases hx; rfl
    | 1, hx => cases hx; rfl
    | 2, hx => cases hx; rfl
    | 3, hx => cases hx; rfl
    | 4, hx => cases hx; rfl
    | 5, hx => cases hx; rfl
    | 6, hx => cases hx; rfl
    | 7, hx => cases hx; rfl
    | 8, hx => cases hx; rfl
    | 9, hx => cases hx; rfl
    | 10, hx => cases hx; rfl
    | 11, hx => cases hx; rfl
    | 12, hx => cases hx; rfl
    | 13, hx => cases hx; rfl
    | 14, hx => cases hx; rfl
    | n + 15, hx => simp [cS, ci1] at hx
def k_init_239  (v2 : Int32) (s : S) : Option S :=
  some (sI (sI (sI (sI (sI (sI s 7 v2) 8 (0 : Int32)) 9 (0 : Int32)) 10 (0 : Int32)) 11 (0 : Int32)) 12 (0 : Int32))
def k_init_230  (v2 : Int32) (s : S) : Option S :=
  k_init_239 (if (64 : Int32) < v2 then (64 : Int32) else v2) s
def k_init  (v1 : Int32)  : Option S :=
  k_init_230 (if v1 < (16 : Int32) then (16 : Int32) else v1) (sA (sA (sA (sA (sA (sA (sA (sA (sA (sA (sA (sA (sA (sA (sA (sA (sA (sA (sA (sA (sA (sA (sI (sI (sI (sI (sI (sI (sI s0 0 (0 : Int32)) 1 (1 : Int32)) 2 (2 : Int32)) 3 (3 : Int32)) 4 (4096 : Int32)) 5 (300 : Int32)) 6 (255 : Int32)) 0 (rep 32 0)) 1 (rep 32 0)) 2 (rep 32 0)) 3 (rep 32 0)) 4 (rep 32 0)) 5 (rep 32 0)) 6 (rep 32 0)) 7 (rep 4 0)) 8 (rep 4 0)) 9 (rep 64 0)) 10 (rep 64 0)) 11 (rep 32 0)) 12 (rep 8 0)) 13 (rep 32 0)) 14 (rep 32 0)) 15 (rep 32 0)) 16 (rep 33 0)) 17 (rep 33 0)) 18 (rep 33 0)) 19 (rep 33 0)) 20 (rep 33 0)) 21 (rep 33 0))
def k_setCell  (v1 : Int32) (v2 : Int32) (s : S) : Option (Int32 × S) :=
  if v1 < (8 : Int32) then
    some ((0 : Int32), s)
  else
    if v1 < (gI s 7) then
      if v1 < (64 : Int32) then
        (Jvm.AM.st (gA s 9) v1 v2).bind fun a28 =>
        some ((1 : Int32), sA s 9 a28)
      else
        some ((0 : Int32), s)
    else
      some ((0 : Int32), s)
def k_roleOfA  (v1 : Int32)  : Int32 :=
  if v1 = (9 : Int32) then
    (0 : Int32)
  else
    if v1 = (10 : Int32) then
      (0 : Int32)
    else
      (1 : Int32)
def k_roleOfB  (v1 : Int32)  : Int32 :=
  if v1 = (1 : Int32) then
    (3 : Int32)
  else
    if v1 = (2 : Int32) then
      (1 : Int32)
    else
      if v1 = (3 : Int32) then
        (1 : Int32)
      else
        if v1 = (4 : Int32) then
          (1 : Int32)
        else
          if v1 = (5 : Int32) then
            (2 : Int32)
          else
            (0 : Int32)
def k_roleOfC  (v1 : Int32)  : Int32 :=
  if v1 = (3 : Int32) then
    (3 : Int32)
  else
    if v1 = (4 : Int32) then
      (2 : Int32)
    else
      if v1 = (5 : Int32) then
        (1 : Int32)
      else
        (0 : Int32)
def k_fits  (v1 : Int32) (v2 : Int32)  : Int32 :=
  if v1 = (1 : Int32) then
    if v2 < 0 then
      (0 : Int32)
    else
      if (7 : Int32) < v2 then
        (0 : Int32)
      else
        (1 : Int32)
  else
    if v1 = (2 : Int32) then
      if v2 < 0 then
        (0 : Int32)
      else
        if (15 : Int32) < v2 then
          (0 : Int32)
        else
          (1 : Int32)
    else
      (1 : Int32)
def k_kept  (v1 : Int32) (v2 : Int32)  : Int32 :=
  if v1 = 0 then
    (0 : Int32)
  else
    v2
def k_add  (v1 : Int32) (v2 : Int32) (v3 : Int32) (v4 : Int32) (s : S) : Option (Int32 × S) :=
  if (gI s 8) < (32 : Int32) then
    if v1 < (1 : Int32) then
      some ((-2 : Int32), s)
    else
      if (12 : Int32) < v1 then
        some ((-2 : Int32), s)
      else
        if (k_fits (k_roleOfA v1) v2) = 0 then
          some ((-3 : Int32), s)
        else
          if (k_fits (k_roleOfB v1) v3) = 0 then
            some ((-3 : Int32), s)
          else
            if (k_fits (k_roleOfC v1) v4) = 0 then
              some ((-3 : Int32), s)
            else
              (Jvm.AM.st (gA s 0) (gI s 8) v1).bind fun a93 =>
              (Jvm.AM.st (gA s 1) (gI s 8) (k_kept (k_roleOfA v1) v2)).bind fun a107 =>
              (Jvm.AM.st (gA s 2) (gI s 8) (k_kept (k_roleOfB v1) v3)).bind fun a121 =>
              (Jvm.AM.st (gA s 3) (gI s 8) (k_kept (k_roleOfC v1) v4)).bind fun a136 =>
              some (gI s 8, sI (sI (sA (sA (sA (sA s 0 a93) 1 a107) 2 a121) 3 a136) 8 ((gI s 8) + (1 : Int32))) 9 (0 : Int32))
  else
    some ((-1 : Int32), s)
def k_scanOne  (v1 : Int32) (s : S) : Option (Int32 × S) :=
  (ix (gA s 0) v1).bind fun a5 =>
  (Jvm.AM.st (gA s 6) v1 (-1 : Int32)).bind fun a13 =>
  if a5 = (8 : Int32) then
    none
  else
    if a5 = (11 : Int32) then
      none
    else
      if a5 = (9 : Int32) then
        none
      else
        if a5 = (10 : Int32) then
          none
        else
          (Jvm.AM.st (gA s 4) v1 (-1 : Int32)).bind fun a63 =>
          (Jvm.AM.st (gA s 5) v1 (-1 : Int32)).bind fun a70 =>
          some ((0 : Int32), sA (sA (sA s 6 a13) 4 a63) 5 a70)
def k_compile_44   (s : S) : Option (Int32 × S) :=
  if 0 < (gI s 13) then
    some ((-6 : Int32), s)
  else
    some ((0 : Int32), sI s 9 (1 : Int32))
def k_compile_12  : Nat → Int32 → S → Option (Int32 × S)
  | 0, _, _ => none
  | n + 1, v1, s =>
    if v1 < (gI s 8) then
      if v1 < (32 : Int32) then
        (k_scanOne v1 s).bind fun r28 =>
        if r28.1 = 0 then
          k_compile_12 n (v1 + (1 : Int32)) r28.2
        else
          some (r28.1, r28.2)
      else
        k_compile_44 s
    else
      k_compile_44 s
def k_compile   (s : S) : Option (Int32 × S) :=
  k_compile_12 BIG (0 : Int32) (sI (sI s 13 (0 : Int32)) 14 (0 : Int32))
def k_resetRun_75   (s : S) : Option S :=
  some (sI (sI (sI s 12 (0 : Int32)) 10 (0 : Int32)) 11 (0 : Int32))
def k_resetRun_49  : Nat → Int32 → S → Option S
  | 0, _, _ => none
  | n + 1, v1, s =>
    if v1 < (32 : Int32) then
      (Jvm.AM.st (gA s 11) v1 (0 : Int32)).bind fun a61 =>
      (Jvm.AM.st (gA s 13) v1 (0 : Int32)).bind fun a68 =>
      k_resetRun_49 n (v1 + (1 : Int32)) (sA (sA s 11 a61) 13 a68)
    else
      k_resetRun_75 s
def k_resetRun_47   (s : S) : Option S :=
  k_resetRun_49 BIG (0 : Int32) s
def k_resetRun_28  : Nat → Int32 → S → Option S
  | 0, _, _ => none
  | n + 1, v1, s =>
    if v1 < (8 : Int32) then
      (Jvm.AM.st (gA s 12) v1 (0 : Int32)).bind fun a40 =>
      k_resetRun_28 n (v1 + (1 : Int32)) (sA s 12 a40)
    else
      k_resetRun_47 s
def k_resetRun_26   (s : S) : Option S :=
  k_resetRun_28 BIG (0 : Int32) s
def k_resetRun_2  : Nat → Int32 → S → Option S
  | 0, _, _ => none
  | n + 1, v1, s =>
    if v1 < (64 : Int32) then
      (ix (gA s 9) v1).bind fun a18 =>
      (Jvm.AM.st (gA s 10) v1 a18).bind fun a19 =>
      k_resetRun_2 n (v1 + (1 : Int32)) (sA s 10 a19)
    else
      k_resetRun_26 s
def k_resetRun   (s : S) : Option S :=
  k_resetRun_2 BIG (0 : Int32) s
def k_clearMarks_2  : Nat → Int32 → S → Option S
  | 0, _, _ => none
  | n + 1, v1, s =>
    if v1 < (32 : Int32) then
      (Jvm.AM.st (gA s 14) v1 (0 : Int32)).bind fun a14 =>
      (Jvm.AM.st (gA s 15) v1 (0 : Int32)).bind fun a21 =>
      k_clearMarks_2 n (v1 + (1 : Int32)) (sA (sA s 14 a14) 15 a21)
    else
      some s
def k_clearMarks   (s : S) : Option S :=
  k_clearMarks_2 BIG (0 : Int32) s
def k_bitOf  (v1 : Int32)  : Int32 :=
  (1 : Int32) <<< ((v1 &&& (7 : Int32)) &&& 31)
def k_edgesOf  (v1 : Int32) (s : S) : Option S :=
  (ix (gA s 0) v1).bind fun a5 =>
  (ix (gA s 1) v1).bind fun a13 =>
  if a5 = (12 : Int32) then
    some s
  else
    if a5 = (8 : Int32) then
      none
    else
      if a5 = (9 : Int32) then
        (ix (gA s 4) v1).bind fun a54 =>
        (Jvm.AM.st (gA s 18) v1 a54).bind fun a55 =>
        some (sA s 18 a55)
      else
        if a5 = (11 : Int32) then
          (Jvm.AM.st (gA s 18) v1 (v1 + (1 : Int32))).bind fun a71 =>
          (Jvm.AM.st (gA s 20) v1 (k_bitOf a13)).bind fun a78 =>
          (ix (gA s 4) v1).bind fun a89 =>
          (Jvm.AM.st (gA s 19) v1 (a89 + (1 : Int32))).bind fun a92 =>
          some (sA (sA (sA s 18 a71) 20 a78) 19 a92)
        else
          if a5 = (10 : Int32) then
            none
          else
            (Jvm.AM.st (gA s 18) v1 (v1 + (1 : Int32))).bind fun a114 =>
            some (sA s 18 a114)
def k_buildEdges_44  : Nat → Int32 → S → Option S
  | 0, _, _ => none
  | n + 1, v1, s =>
    if v1 < (gI s 8) then
      if v1 < (32 : Int32) then
        (k_edgesOf v1 s).bind fun r60 =>
        k_buildEdges_44 n (v1 + (1 : Int32)) r60
      else
        some s
    else
      some s
def k_buildEdges_42   (s : S) : Option S :=
  k_buildEdges_44 BIG (0 : Int32) s
def k_buildEdges_2  : Nat → Int32 → S → Option S
  | 0, _, _ => none
  | n + 1, v1, s =>
    if v1 < (33 : Int32) then
      (Jvm.AM.st (gA s 18) v1 (-1 : Int32)).bind fun a14 =>
      (Jvm.AM.st (gA s 19) v1 (-1 : Int32)).bind fun a21 =>
      (Jvm.AM.st (gA s 20) v1 (0 : Int32)).bind fun a28 =>
      (Jvm.AM.st (gA s 21) v1 (0 : Int32)).bind fun a35 =>
      k_buildEdges_2 n (v1 + (1 : Int32)) (sA (sA (sA (sA s 18 a14) 19 a21) 20 a28) 21 a35)
    else
      k_buildEdges_42 s
def k_buildEdges   (s : S) : Option S :=
  k_buildEdges_2 BIG (0 : Int32) s
def k_hasFact  (v1 : Int32) (v2 : Int32)  : Int32 :=
  if (v1 &&& (k_bitOf v2)) = 0 then
    (0 : Int32)
  else
    (1 : Int32)
def k_withFact  (v1 : Int32) (v2 : Int32) (v3 : Int32)  : Int32 :=
  if v3 = 0 then
    v1 &&& ((k_bitOf v2) ^^^ (-1 : Int32))
  else
    (v1 &&& ((k_bitOf v2) ^^^ (-1 : Int32))) ||| (k_bitOf v2)
def k_transferLoad_24  (v2 : Int32) (v5 : Int32)  : Int32 :=
  (k_withFact v5 v2 (0 : Int32))
def k_transferLoad  (v1 : Int32) (v2 : Int32) (v3 : Int32) (v4 : Int32)  : Int32 :=
  k_transferLoad_24 v2 (if v4 < 0 then v1 else if (7 : Int32) < v4 then v1 else v1 ||| (k_bitOf v3))
def k_transferStore  (v1 : Int32) (v2 : Int32) (v3 : Int32)  : Int32 :=
  if v3 < 0 then
    v1
  else
    if (7 : Int32) < v3 then
      v1
    else
      v1 ||| (k_bitOf v2)
def k_transfer_131  (p0 : Int32) (p1 : Int32) (p2 : Int32) (s : S) : Option Int32 :=
  some (k_withFact p2 p1 p0)
def k_transfer_98  (p0 : Int32) (p1 : Int32) (p2 : Int32) (s : S) : Option Int32 :=
  some (k_withFact p2 p1 p0)
def k_transfer  (v1 : Int32) (v2 : Int32) (s : S) : Option Int32 :=
  (ix (gA s 0) v1).bind fun a5 =>
  (ix (gA s 1) v1).bind fun a12 =>
  (ix (gA s 2) v1).bind fun a23 =>
  (ix (gA s 3) v1).bind fun a31 =>
  if a5 = 1 then
    k_transfer_98 (if a23 = 0 then (0 : Int32) else (1 : Int32)) (a12 &&& (7 : Int32)) v2 s
  else
  if a5 = 2 then
    some (k_withFact v2 (a12 &&& (7 : Int32)) (k_hasFact v2 (a23 &&& (7 : Int32))))
  else
  if a5 = 3 then
    k_transfer_131 (if a31 = 0 then if (k_hasFact v2 (a23 &&& (7 : Int32))) = 0 then (0 : Int32) else (1 : Int32) else (0 : Int32)) (a12 &&& (7 : Int32)) v2 s
  else
  if a5 = 4 then
    some (k_transferLoad v2 (a12 &&& (7 : Int32)) (a23 &&& (7 : Int32)) a31)
  else
  if a5 = 5 then
    some (k_transferStore v2 (a12 &&& (7 : Int32)) a23)
  else
  if a5 = 6 then
    some (v2 ||| (k_bitOf (a12 &&& (7 : Int32))))
  else
  some v2
def k_meetInto  (v1 : Int32) (v2 : Int32) (s : S) : Option S :=
  if v1 < 0 then
    some s
  else
    if (32 : Int32) < v1 then
      some s
    else
      (ix (gA s 17) v1).bind fun a21 =>
      (Jvm.AM.st (gA s 17) v1 (a21 &&& v2)).bind fun a24 =>
      some (sA s 17 a24)
def k_propagate  (v1 : Int32) (s : S) : Option S :=
  (ix (gA s 16) v1).bind fun a7 =>
  (k_transfer v1 a7 s).bind fun r8 =>
  (ix (gA s 18) v1).bind fun a18 =>
  (ix (gA s 20) v1).bind fun a25 =>
  (k_meetInto a18 (r8 ||| a25) s).bind fun r27 =>
  (ix (gA r27 19) v1).bind fun a36 =>
  (ix (gA r27 21) v1).bind fun a43 =>
  (k_meetInto a36 (r8 ||| a43) r27).bind fun r45 =>
  some r45
def k_relaxOnce_61  : Nat → Int32 → Int32 → S → Option (Int32 × S)
  | 0, _, _, _ => none
  | n + 1, v1, v2, s =>
    if v2 < (33 : Int32) then
      (ix (gA s 17) v2).bind fun a72 =>
      (ix (gA s 16) v2).bind fun a78 =>
      if a72 = a78 then
        k_relaxOnce_61 n v1 (v2 + (1 : Int32)) s
      else
        (ix (gA s 17) v2).bind fun a94 =>
        (Jvm.AM.st (gA s 16) v2 a94).bind fun a95 =>
        k_relaxOnce_61 n (1 : Int32) (v2 + (1 : Int32)) (sA s 16 a95)
    else
      some (nar .boolean v1, s)
def k_relaxOnce_57   (s : S) : Option (Int32 × S) :=
  k_relaxOnce_61 BIG (0 : Int32) (0 : Int32) s
def k_relaxOnce_32  : Nat → Int32 → S → Option (Int32 × S)
  | 0, _, _ => none
  | n + 1, v1, s =>
    if v1 < (gI s 8) then
      if v1 < (32 : Int32) then
        (k_propagate v1 s).bind fun r48 =>
        k_relaxOnce_32 n (v1 + (1 : Int32)) r48
      else
        k_relaxOnce_57 s
    else
      k_relaxOnce_57 s
def k_relaxOnce_23   (s : S) : Option (Int32 × S) :=
  (Jvm.AM.st (gA s 17) (0 : Int32) (0 : Int32)).bind fun a29 =>
  k_relaxOnce_32 BIG (0 : Int32) (sA s 17 a29)
def k_relaxOnce_2  : Nat → Int32 → S → Option (Int32 × S)
  | 0, _, _ => none
  | n + 1, v1, s =>
    if v1 < (33 : Int32) then
      (Jvm.AM.st (gA s 17) v1 (255 : Int32)).bind fun a16 =>
      k_relaxOnce_2 n (v1 + (1 : Int32)) (sA s 17 a16)
    else
      k_relaxOnce_23 s
def k_relaxOnce   (s : S) : Option (Int32 × S) :=
  k_relaxOnce_2 BIG (0 : Int32) s
def k_solveFacts_32  : Nat → Int32 → S → Option (Int32 × S)
  | 0, _, _ => none
  | n + 1, v1, s =>
    if v1 < (300 : Int32) then
      (k_relaxOnce s).bind fun r40 =>
      if r40.1 = 0 then
        some ((1 : Int32), r40.2)
      else
        k_solveFacts_32 n (v1 + (1 : Int32)) r40.2
    else
      some ((0 : Int32), s)
def k_solveFacts_23   (s : S) : Option (Int32 × S) :=
  (Jvm.AM.st (gA s 16) (0 : Int32) (0 : Int32)).bind fun a29 =>
  k_solveFacts_32 BIG (0 : Int32) (sA s 16 a29)
def k_solveFacts_2  : Nat → Int32 → S → Option (Int32 × S)
  | 0, _, _ => none
  | n + 1, v1, s =>
    if v1 < (33 : Int32) then
      (Jvm.AM.st (gA s 16) v1 (255 : Int32)).bind fun a16 =>
      k_solveFacts_2 n (v1 + (1 : Int32)) (sA s 16 a16)
    else
      k_solveFacts_23 s
def k_solveFacts   (s : S) : Option (Int32 × S) :=
  k_solveFacts_2 BIG (0 : Int32) s
def k_removeRedundant_2  : Nat → Int32 → S → Option S
  | 0, _, _ => none
  | n + 1, v1, s =>
    if v1 < (gI s 8) then
      if v1 < (32 : Int32) then
        (ix (gA s 0) v1).bind fun a21 =>
        if a21 = (6 : Int32) then
          (ix (gA s 16) v1).bind fun a33 =>
          (ix (gA s 1) v1).bind fun a39 =>
          if (k_hasFact a33 a39) = 0 then
            k_removeRedundant_2 n (v1 + (1 : Int32)) s
          else
            (Jvm.AM.st (gA s 14) v1 (1 : Int32)).bind fun a52 =>
            k_removeRedundant_2 n (v1 + (1 : Int32)) (sA s 14 a52)
        else
          k_removeRedundant_2 n (v1 + (1 : Int32)) s
      else
        some s
    else
      some s
def k_removeRedundant   (s : S) : Option S :=
  k_removeRedundant_2 BIG (0 : Int32) s
def k_hoistInvariant_2  : Nat → Int32 → S → Option Unit
  | 0, _, _ => none
  | n + 1, v1, s =>
    if v1 < (gI s 8) then
      if v1 < (32 : Int32) then
        (ix (gA s 0) v1).bind fun a21 =>
        if a21 = (11 : Int32) then
          none
        else
          k_hoistInvariant_2 n (v1 + (1 : Int32)) s
      else
        some ()
    else
      some ()
def k_hoistInvariant   (s : S) : Option Unit :=
  k_hoistInvariant_2 BIG (0 : Int32) s
def k_dereferencesNext  (v1 : Int32) (s : S) : Option Int32 :=
  if (v1 + (1 : Int32)) < 0 then
    some (0 : Int32)
  else
    if (v1 + (1 : Int32)) < (32 : Int32) then
      (ix (gA s 1) v1).bind fun a21 =>
      (ix (gA s 0) (v1 + (1 : Int32))).bind fun a28 =>
      if a28 = (4 : Int32) then
        (ix (gA s 2) (v1 + (1 : Int32))).bind fun a38 =>
        if a38 = a21 then
          (ix (gA s 3) (v1 + (1 : Int32))).bind fun a48 =>
          if a48 < 0 then
            some (0 : Int32)
          else
            (ix (gA s 3) (v1 + (1 : Int32))).bind fun a57 =>
            if (7 : Int32) < a57 then
              some (0 : Int32)
            else
              some (1 : Int32)
        else
          some (0 : Int32)
      else
        (ix (gA s 0) (v1 + (1 : Int32))).bind fun a74 =>
        if a74 = (5 : Int32) then
          (ix (gA s 1) (v1 + (1 : Int32))).bind fun a84 =>
          if a84 = a21 then
            (ix (gA s 2) (v1 + (1 : Int32))).bind fun a94 =>
            if a94 < 0 then
              some (0 : Int32)
            else
              (ix (gA s 2) (v1 + (1 : Int32))).bind fun a103 =>
              if (7 : Int32) < a103 then
                some (0 : Int32)
              else
                some (1 : Int32)
          else
            some (0 : Int32)
        else
          some (0 : Int32)
    else
      some (0 : Int32)
def k_foldImplicit_2  : Nat → Int32 → S → Option S
  | 0, _, _ => none
  | n + 1, v1, s =>
    if (v1 + (1 : Int32)) < (gI s 8) then
      if (v1 + (1 : Int32)) < (32 : Int32) then
        (ix (gA s 0) v1).bind fun a25 =>
        if a25 = (6 : Int32) then
          (ix (gA s 14) v1).bind fun a36 =>
          if a36 = 0 then
            (k_dereferencesNext v1 s).bind fun r42 =>
            if r42 = 0 then
              k_foldImplicit_2 n (v1 + (1 : Int32)) s
            else
              (Jvm.AM.st (gA s 14) v1 (1 : Int32)).bind fun a54 =>
              k_foldImplicit_2 n (v1 + (1 : Int32)) (sA s 14 a54)
          else
            k_foldImplicit_2 n (v1 + (1 : Int32)) s
        else
          k_foldImplicit_2 n (v1 + (1 : Int32)) s
      else
        some s
    else
      some s
def k_foldImplicit   (s : S) : Option S :=
  k_foldImplicit_2 BIG (0 : Int32) s
def k_optimise_21   (s : S) : Option S :=
  (k_hoistInvariant s).bind fun r22 =>
  (k_foldImplicit s).bind fun r26 =>
  some r26
def k_optimise   (s : S) : Option S :=
  (k_clearMarks s).bind fun r1 =>
  (k_buildEdges r1).bind fun r5 =>
  (k_solveFacts r5).bind fun r9 =>
  if r9.1 = 0 then
    k_optimise_21 r9.2
  else
    (k_removeRedundant r9.2).bind fun r18 =>
    k_optimise_21 r18
def k_finish  (v1 : Int32) (v2 : Int32) (s : S) : S :=
  if v1 = (1 : Int32) then
    sI (sI s 10 v1) 11 v2
  else
    sI (sI s 10 v1) 11 (0 : Int32)
def k_accessTrap_12  (v1 : Int32) (s : S) : Int32 :=
  if v1 < 0 then
    (3 : Int32)
  else
    if v1 < (gI s 7) then
      if v1 < (64 : Int32) then
        (0 : Int32)
      else
        (3 : Int32)
    else
      (3 : Int32)
def k_accessTrap  (v1 : Int32) (s : S) : Int32 :=
  if v1 < 0 then
    k_accessTrap_12 v1 s
  else
    if (7 : Int32) < v1 then
      k_accessTrap_12 v1 s
    else
      (2 : Int32)
def k_execLoad  (v1 : Int32) (s : S) : Option (Int32 × S) :=
  (ix (gA s 2) v1).bind fun a9 =>
  (ix (gA s 12) (a9 &&& (7 : Int32))).bind fun a13 =>
  (ix (gA s 3) v1).bind fun a21 =>
  if (k_accessTrap (a13 + a21) s) = 0 then
    (ix (gA s 1) v1).bind fun a54 =>
    (ix (gA s 10) ((a13 + a21) &&& (63 : Int32))).bind fun a66 =>
    (Jvm.AM.st (gA s 12) (a54 &&& (7 : Int32)) a66).bind fun a67 =>
    some (v1 + (1 : Int32), sA s 12 a67)
  else
    some (v1, (k_finish (k_accessTrap (a13 + a21) s) (0 : Int32) s))
def k_execStore  (v1 : Int32) (s : S) : Option (Int32 × S) :=
  (ix (gA s 1) v1).bind fun a9 =>
  (ix (gA s 12) (a9 &&& (7 : Int32))).bind fun a13 =>
  (ix (gA s 2) v1).bind fun a21 =>
  if (k_accessTrap (a13 + a21) s) = 0 then
    (ix (gA s 3) v1).bind fun a62 =>
    (ix (gA s 12) (a62 &&& (7 : Int32))).bind fun a66 =>
    (Jvm.AM.st (gA s 10) ((a13 + a21) &&& (63 : Int32)) a66).bind fun a67 =>
    some (v1 + (1 : Int32), sA s 10 a67)
  else
    some (v1, (k_finish (k_accessTrap (a13 + a21) s) (0 : Int32) s))
def k_execCheck  (v1 : Int32) (s : S) : Option (Int32 × S) :=
  (ix (gA s 14) v1).bind fun a5 =>
  if a5 = 0 then
    (ix (gA s 1) v1).bind fun a22 =>
    (ix (gA s 12) (a22 &&& (7 : Int32))).bind fun a26 =>
    if a26 = 0 then
      some (v1, (k_finish (2 : Int32) (0 : Int32) s))
    else
      some (v1 + (1 : Int32), s)
  else
    some (v1 + (1 : Int32), s)
def k_emit_26   (s : S) : Option S :=
  some (sI s 12 ((gI s 12) + (1 : Int32)))
def k_emit  (v1 : Int32) (s : S) : Option S :=
  if (gI s 12) < 0 then
    k_emit_26 s
  else
    if (gI s 12) < (32 : Int32) then
      (Jvm.AM.st (gA s 11) (gI s 12) v1).bind fun a25 =>
      k_emit_26 (sA s 11 a25)
    else
      k_emit_26 s
def k_executeAt  (v1 : Int32) (s : S) : Option (Int32 × S) :=
  (ix (gA s 0) v1).bind fun a5 =>
  if a5 = 1 then
    (ix (gA s 1) v1).bind fun a81 =>
    (ix (gA s 2) v1).bind fun a90 =>
    (Jvm.AM.st (gA s 12) (a81 &&& (7 : Int32)) a90).bind fun a91 =>
    some (v1 + (1 : Int32), sA s 12 a91)
  else
  if a5 = 2 then
    (ix (gA s 1) v1).bind fun a105 =>
    (ix (gA s 2) v1).bind fun a118 =>
    (ix (gA s 12) (a118 &&& (7 : Int32))).bind fun a122 =>
    (Jvm.AM.st (gA s 12) (a105 &&& (7 : Int32)) a122).bind fun a123 =>
    some (v1 + (1 : Int32), sA s 12 a123)
  else
  if a5 = 3 then
    (ix (gA s 1) v1).bind fun a137 =>
    (ix (gA s 2) v1).bind fun a150 =>
    (ix (gA s 12) (a150 &&& (7 : Int32))).bind fun a154 =>
    (ix (gA s 3) v1).bind fun a160 =>
    (Jvm.AM.st (gA s 12) (a137 &&& (7 : Int32)) (a154 + a160)).bind fun a162 =>
    some (v1 + (1 : Int32), sA s 12 a162)
  else
  if a5 = 4 then
    (k_execLoad v1 s).bind fun r169 =>
    some (r169.1, r169.2)
  else
  if a5 = 5 then
    (k_execStore v1 s).bind fun r175 =>
    some (r175.1, r175.2)
  else
  if a5 = 6 then
    (k_execCheck v1 s).bind fun r181 =>
    some (r181.1, r181.2)
  else
  if a5 = 7 then
    (ix (gA s 1) v1).bind fun a195 =>
    (ix (gA s 12) (a195 &&& (7 : Int32))).bind fun a199 =>
    (k_emit a199 s).bind fun r200 =>
    some (v1 + (1 : Int32), r200)
  else
  if a5 = 8 then
    none
  else
  if a5 = 9 then
    none
  else
  if a5 = 10 then
    none
  else
  if a5 = 11 then
    none
  else
  if a5 = 12 then
    (ix (gA s 1) v1).bind fun a242 =>
    (ix (gA s 12) (a242 &&& (7 : Int32))).bind fun a246 =>
    some (v1, (k_finish (1 : Int32) a246 s))
  else
  some (v1 + (1 : Int32), s)
def k_execute_58   (s : S) : Option S :=
  if (gI s 10) = 0 then
    some (k_finish (1 : Int32) (0 : Int32) s)
  else
    some s
def k_execute_37 (k4 : Int32 → Int32 → S → Option S) (v1 : Int32) (v2 : Int32) (s : S) : Option S :=
  k4 v1 (v2 + (1 : Int32)) (k_finish (1 : Int32) (0 : Int32) s)
def k_execute_4  : Nat → Int32 → Int32 → S → Option S
  | 0, _, _, _ => none
  | n + 1, v1, v2, s =>
    if v2 < (4096 : Int32) then
      if (gI s 10) = 0 then
        if v1 < 0 then
          k_execute_37 (fun v1 v2 s => k_execute_4 n v1 v2 s) v1 v2 s
        else
          if v1 < (gI s 8) then
            if v1 < (32 : Int32) then
              (k_executeAt v1 s).bind fun r48 =>
              k_execute_4 n r48.1 (v2 + (1 : Int32)) r48.2
            else
              k_execute_37 (fun v1 v2 s => k_execute_4 n v1 v2 s) v1 v2 s
          else
            k_execute_37 (fun v1 v2 s => k_execute_4 n v1 v2 s) v1 v2 s
      else
        some s
    else
      k_execute_58 s
def k_execute   (s : S) : Option S :=
  k_execute_4 BIG (0 : Int32) (0 : Int32) s
def k_run_29   (s : S) : Option (Int32 × S) :=
  (k_execute s).bind fun r30 =>
  some (gI r30 10, r30)
def k_run  (v1 : Int32) (s : S) : Option (Int32 × S) :=
  if (gI s 9) = 0 then
    some ((-8 : Int32), s)
  else
    (k_resetRun s).bind fun r11 =>
    if v1 = 0 then
      (k_clearMarks r11).bind fun r26 =>
      k_run_29 r26
    else
      (k_optimise r11).bind fun r19 =>
      k_run_29 r19
def k_getOutcome   (s : S) : Int32 :=
  gI s 10
def k_getResult   (s : S) : Int32 :=
  if (gI s 10) = (1 : Int32) then
    gI s 11
  else
    (0 : Int32)
def k_getOutputCount   (s : S) : Int32 :=
  gI s 12
def k_getOutput  (v1 : Int32) (s : S) : Option Int32 :=
  if v1 < 0 then
    some (0 : Int32)
  else
    if v1 < (32 : Int32) then
      if v1 < (gI s 12) then
        (ix (gA s 11) v1).bind fun a25 =>
        some a25
      else
        some (0 : Int32)
    else
      some (0 : Int32)
def k_getHeapAfter  (v1 : Int32) (s : S) : Option Int32 :=
  if v1 < 0 then
    some (0 : Int32)
  else
    if v1 < (gI s 7) then
      if v1 < (64 : Int32) then
        (ix (gA s 10) v1).bind fun a25 =>
        some a25
      else
        some (0 : Int32)
    else
      some (0 : Int32)
def k_getRegAfter  (v1 : Int32) (s : S) : Option Int32 :=
  if (gI s 10) = (1 : Int32) then
    if v1 < 0 then
      some (0 : Int32)
    else
      if (7 : Int32) < v1 then
        some (0 : Int32)
      else
        (ix (gA s 12) v1).bind fun a27 =>
        some a27
  else
    some (0 : Int32)
def h_init  (v0 : Int32) (v1 : Int32) (v2 : Int32) (v3 : Int32)  : Int32 :=
  if v0 = (8 : Int32) then
    v1
  else
    if v0 = (9 : Int32) then
      v2
    else
      if v0 = (10 : Int32) then
        v3
      else
        (0 : Int32)
def law_427 (k374 : Int32 → Int32 → Int32 → Int32 → S → Option (Int32 × S)) (v0 : Int32) (v8 : Int32) (v9 : Int32) (v10 : Int32) (v11 : Int32) (t0 : S) : Option (Int32 × S) :=
  (k_getRegAfter v10 t0).bind fun r431 =>
  if r431 = v11 then
    k374 v0 v8 v9 (v10 + (1 : Int32)) t0
  else
    some ((0 : Int32), t0)
def law_412 (k374 : Int32 → Int32 → Int32 → Int32 → S → Option (Int32 × S)) (v0 : Int32) (v8 : Int32) (v9 : Int32) (v10 : Int32) (v11 : Int32) (t0 : S) : Option (Int32 × S) :=
  law_427 k374 v0 v8 v9 v10 (if v8 = 0 then v11 else if v10 = (2 : Int32) then v9 else v11) t0
def law_398 (k374 : Int32 → Int32 → Int32 → Int32 → S → Option (Int32 × S)) (v0 : Int32) (v8 : Int32) (v9 : Int32) (v10 : Int32) (v11 : Int32) (t0 : S) : Option (Int32 × S) :=
  law_412 k374 v0 v8 v9 v10 (if v8 = 0 then v11 else if v10 = (1 : Int32) then v0 else v11) t0
def law_374  : Nat → Int32 → Int32 → Int32 → Int32 → S → Option (Int32 × S)
  | 0, _, _, _, _, _ => none
  | n + 1, v0, v8, v9, v10, t0 =>
    if v10 < (8 : Int32) then
      law_398 (fun v0 v8 v9 v10 t0 => law_374 n v0 v8 v9 v10 t0) v0 v8 v9 v10 (if v8 = 0 then (0 : Int32) else if v10 = 0 then (8 : Int32) else (0 : Int32)) t0
    else
      some ((1 : Int32), t0)
def law_371  (v0 : Int32) (v8 : Int32) (v9 : Int32) (t0 : S) : Option (Int32 × S) :=
  law_374 BIG v0 v8 v9 (0 : Int32) t0
def law_349 (k310 : Int32 → Int32 → Int32 → Int32 → Int32 → Int32 → Int32 → S → Option (Int32 × S)) (v0 : Int32) (v1 : Int32) (v2 : Int32) (v5 : Int32) (v8 : Int32) (v9 : Int32) (v10 : Int32) (v11 : Int32) (p0 : Int32) (t0 : S) : Option (Int32 × S) :=
  (k_getHeapAfter v11 t0).bind fun r355 =>
  if r355 = p0 then
    k310 v0 v1 v2 v5 v8 v9 (v10 + (1 : Int32)) t0
  else
    some ((0 : Int32), t0)
def law_310  : Nat → Int32 → Int32 → Int32 → Int32 → Int32 → Int32 → Int32 → S → Option (Int32 × S)
  | 0, _, _, _, _, _, _, _, _ => none
  | n + 1, v0, v1, v2, v5, v8, v9, v10, t0 =>
    if v10 < (8 : Int32) then
      law_349 (fun v0 v1 v2 v5 v8 v9 v10 t0 => law_310 n v0 v1 v2 v5 v8 v9 v10 t0) v0 v1 v2 v5 v8 v9 v10 ((8 : Int32) + v10) (if v8 = 0 then (h_init ((8 : Int32) + v10) v0 v1 v2) else if ((8 : Int32) + v10) = v5 then v9 else (h_init ((8 : Int32) + v10) v0 v1 v2)) t0
    else
      law_371 v0 v8 v9 t0
def law_293  (v0 : Int32) (v1 : Int32) (v2 : Int32) (v5 : Int32) (v8 : Int32) (v9 : Int32) (p0 : Int32) (p1 : Int32) (t0 : S) : Option (Int32 × S) :=
  if p1 = p0 then
    (k_getOutput (1 : Int32) t0).bind fun r299 =>
    if r299 = 0 then
      law_310 BIG v0 v1 v2 v5 v8 v9 (0 : Int32) t0
    else
      some ((0 : Int32), t0)
  else
    some ((0 : Int32), t0)
def law_271  (v0 : Int32) (v1 : Int32) (v2 : Int32) (v5 : Int32) (v7 : Int32) (v8 : Int32) (v9 : Int32) (p0 : Int32) (p1 : Int32) (t0 : S) : Option (Int32 × S) :=
  if p1 = p0 then
    (k_getOutput (0 : Int32) t0).bind fun r279 =>
    law_293 v0 v1 v2 v5 v8 v9 (if v8 = 0 then (0 : Int32) else v7) r279 t0
  else
    some ((0 : Int32), t0)
def law_251  (v0 : Int32) (v1 : Int32) (v2 : Int32) (v5 : Int32) (v7 : Int32) (v8 : Int32) (v9 : Int32) (p0 : Int32) (p1 : Int32) (t0 : S) : Option (Int32 × S) :=
  if p1 = p0 then
    law_271 v0 v1 v2 v5 v7 v8 v9 (if v8 = 0 then (0 : Int32) else (1 : Int32)) (k_getOutputCount t0) t0
  else
    some ((0 : Int32), t0)
def law_204  (v0 : Int32) (v1 : Int32) (v2 : Int32) (v3 : Int32) (v5 : Int32) (v6 : Int32) (v7 : Int32) (p0 : Int32) (t0 : S) : Option (Int32 × S) :=
  (k_run (1 : Int32) t0).bind fun r215 =>
  if r215.1 = v6 then
    if (k_getOutcome r215.2) = v6 then
      law_251 v0 v1 v2 v5 v7 p0 (v7 + v3) (if p0 = 0 then (0 : Int32) else v7 + v3) (k_getResult r215.2) r215.2
    else
      some ((0 : Int32), r215.2)
  else
    some ((0 : Int32), r215.2)
def law_193  (v0 : Int32) (v1 : Int32) (v2 : Int32) (v3 : Int32) (v5 : Int32) (v6 : Int32) (v7 : Int32) (t0 : S) : Option (Int32 × S) :=
  law_204 v0 v1 v2 v3 v5 v6 v7 (if v6 = (1 : Int32) then (1 : Int32) else (0 : Int32)) t0
def law  (v0 : Int32) (v1 : Int32) (v2 : Int32) (v3 : Int32)  : Option (Int32 × S) :=
  (k_init (16 : Int32)).bind fun r6 =>
  (k_setCell (8 : Int32) v0 r6).bind fun r16 =>
  (k_setCell (9 : Int32) v1 r16.2).bind fun r25 =>
  (k_setCell (10 : Int32) v2 r25.2).bind fun r34 =>
  (k_add (1 : Int32) (0 : Int32) (8 : Int32) (0 : Int32) r34.2).bind fun r45 =>
  (k_add (4 : Int32) (1 : Int32) (0 : Int32) (0 : Int32) r45.2).bind fun r55 =>
  (k_add (6 : Int32) (1 : Int32) (0 : Int32) (0 : Int32) r55.2).bind fun r66 =>
  (k_add (4 : Int32) (2 : Int32) (1 : Int32) (1 : Int32) r66.2).bind fun r76 =>
  (k_add (7 : Int32) (2 : Int32) (0 : Int32) (0 : Int32) r76.2).bind fun r87 =>
  (k_add (3 : Int32) (2 : Int32) (2 : Int32) v3 r87.2).bind fun r97 =>
  (k_add (5 : Int32) (1 : Int32) (1 : Int32) (2 : Int32) r97.2).bind fun r107 =>
  (k_add (12 : Int32) (2 : Int32) (0 : Int32) (0 : Int32) r107.2).bind fun r118 =>
  (k_compile r118.2).bind fun r124 =>
  if r124.1 = 0 then
    law_193 v0 v1 v2 v3 (v0 + (1 : Int32)) (if v0 = 0 then (2 : Int32) else if (v0 + (1 : Int32)) < 0 then if (v0 + (1 : Int32)) < 0 then (3 : Int32) else if (v0 + (1 : Int32)) < (16 : Int32) then (1 : Int32) else (3 : Int32) else if (7 : Int32) < (v0 + (1 : Int32)) then if (v0 + (1 : Int32)) < 0 then (3 : Int32) else if (v0 + (1 : Int32)) < (16 : Int32) then (1 : Int32) else (3 : Int32) else (2 : Int32)) (if v0 = 0 then (0 : Int32) else if (v0 + (1 : Int32)) < 0 then if (v0 + (1 : Int32)) < 0 then (0 : Int32) else if (v0 + (1 : Int32)) < (16 : Int32) then (h_init (v0 + (1 : Int32)) v0 v1 v2) else (0 : Int32) else if (7 : Int32) < (v0 + (1 : Int32)) then if (v0 + (1 : Int32)) < 0 then (0 : Int32) else if (v0 + (1 : Int32)) < (16 : Int32) then (h_init (v0 + (1 : Int32)) v0 v1 v2) else (0 : Int32) else (0 : Int32)) r124.2
  else
    some ((0 : Int32), r124.2)
set_option maxRecDepth 65536 in
set_option maxHeartbeats 4000000 in
theorem k_init_239_ok  : ∀ (v2 : Int32) (s : S) (x1 : Slot) (hx1 : k1 x1) (o : S), k_init_239 v2 s = some o → Go PP m0 239 [.val (.ref 1), x1, .val (.int v2)] [] (none, [(22, s)]) (none, (none, [(22, o)])) := by
  intro v2 s x1 hx1 o hf
  unfold k_init_239 at hf
  refine go_aloadN (pc := 239) d0_239 rfl (go_iloadN (pc := 240) d0_240 rfl (go_putI (pc := 241) fs_99 hm_0 (wr_7 _) hn_0 d0_241 (go_aloadN (pc := 244) d0_244 rfl (go_iconst (pc := 245) d0_245 ci_0 (go_putI (pc := 246) fs_102 hm_0 (wr_8 _) hn_0 d0_246 (go_aloadN (pc := 249) d0_249 rfl (go_iconst (pc := 250) d0_250 ci_0 ?_)))))))
  refine go_putZ (pc := 251) fs_105 hm_0 (wr_9 _) hn_0 (by decide) d0_251 (go_aloadN (pc := 254) d0_254 rfl (go_iconst (pc := 255) d0_255 ci_0 (go_putI (pc := 256) fs_109 hm_0 (wr_10 _) hn_0 d0_256 (go_aloadN (pc := 259) d0_259 rfl (go_iconst (pc := 260) d0_260 ci_0 (go_putI (pc := 261) fs_112 hm_0 (wr_11 _) hn_0 d0_261 (go_aloadN (pc := 264) d0_264 rfl ?_)))))))
  refine go_iconst (pc := 265) d0_265 ci_0 (go_putI (pc := 266) fs_115 hm_0 (wr_12 _) hn_0 d0_266 ?_)
  cases hf
  exact go_ret (pc := 269) rfl d0_269
set_option maxRecDepth 65536 in
set_option maxHeartbeats 4000000 in
theorem k_init_230_ok  : ∀ (v2 : Int32) (s : S) (x1 : Slot) (hx1 : k1 x1) (o : S), k_init_230 v2 s = some o → Go PP m0 230 [.val (.ref 1), x1, .val (.int v2)] [] (none, [(22, s)]) (none, (none, [(22, o)])) := by
  intro v2 s x1 hx1 o hf
  unfold k_init_230 at hf
  refine go_iloadN (pc := 230) d0_230 rfl (go_bipush (pc := 231) d0_231 cb_64 ?_)
  by_cases h1 : (64 : Int32) < v2
  · refine go_icN (pc := 233) d0_233 (XT.ii_le_f h1) ?_
    refine go_bipush (pc := 236) d0_236 cb_64 (go_istoreN (pc := 238) (L' := [.val (.ref 1), x1, .val (.int (64 : Int32))]) d0_238 rfl ?_)
    exact k_init_239_ok (64 : Int32) s x1 hx1 _ (by simpa only [if_pos h1] using hf)
  · refine go_icY (pc := 233) (pc' := 239) d0_233 (XT.ii_le_t h1) j_233_6 ?_
    exact k_init_239_ok v2 s x1 hx1 _ (by simpa only [if_neg h1] using hf)
set_option maxRecDepth 65536 in
set_option maxHeartbeats 4000000 in
theorem k_init_ok  : ∀ (v1 : Int32)   (o : S), k_init v1 = some o → Go PP m0 0 [.val (.ref 1), .val (.int v1), .unset] [] (none, [(0, s0)]) (none, (none, [(22, o)])) := by
  intro v1 o hf
  unfold k_init at hf
  refine go_aloadN (pc := 0) d0_0 rfl ?_
  refine go_objinit (pc := 1) (rest := []) (a := 0) (List.mem_of_getElem? (i := 6) rfl) (List.mem_of_getElem? (i := 7) rfl) (List.mem_of_getElem? (i := 8) rfl) rfl rfl d0_1 ?_
  refine go_aloadN (pc := 4) d0_4 rfl (go_iconst (pc := 5) d0_5 ci_0 (go_putI (pc := 6) fs_7 hm_0 wr_0 hn_0 d0_6 (go_aloadN (pc := 9) d0_9 rfl (go_iconst (pc := 10) d0_10 ci_1 (go_putI (pc := 11) fs_13 hm_0 wr_1 hn_0 d0_11 (go_aloadN (pc := 14) d0_14 rfl (go_iconst (pc := 15) d0_15 ci_2 ?_)))))))
  refine go_putI (pc := 16) fs_16 hm_0 wr_2 hn_0 d0_16 (go_aloadN (pc := 19) d0_19 rfl (go_iconst (pc := 20) d0_20 ci_3 (go_putI (pc := 21) fs_19 hm_0 wr_3 hn_0 d0_21 (go_aloadN (pc := 24) d0_24 rfl (go_sipush (pc := 25) d0_25 cs_4096 (go_putI (pc := 28) fs_22 hm_0 wr_4 hn_0 d0_28 (go_aloadN (pc := 31) d0_31 rfl ?_)))))))
  refine go_sipush (pc := 32) d0_32 cs_300 (go_putI (pc := 35) fs_25 hm_0 wr_5 hn_0 d0_35 (go_aloadN (pc := 38) d0_38 rfl (go_sipush (pc := 39) d0_39 cs_255 (go_putI (pc := 42) fs_28 hm_0 wr_6 hn_0 d0_42 (go_aloadN (pc := 45) d0_45 rfl (go_bipush (pc := 46) d0_46 cb_32 ?_))))))
  refine go_newI (pc := 48) (ty := .int) rfl (by decide) ar_0 (List.mem_of_getElem? (i := 23) rfl) (List.mem_of_getElem? (i := 24) rfl) hm_0 (Or.inr ⟨List.mem_of_getElem? (i := 25) rfl, rfl⟩) rfl hn_0 (by decide) rfl rfl rfl rfl d0_48 d0_50 ?_
  refine go_aloadN (pc := 53) d0_53 rfl (go_bipush (pc := 54) d0_54 cb_32 ?_)
  refine go_newI (pc := 56) (ty := .int) rfl (by decide) ar_1 (List.mem_of_getElem? (i := 23) rfl) (List.mem_of_getElem? (i := 26) rfl) hm_0 (Or.inr ⟨List.mem_of_getElem? (i := 27) rfl, rfl⟩) rfl hn_0 (by decide) rfl rfl rfl rfl d0_56 d0_58 ?_
  refine go_aloadN (pc := 61) d0_61 rfl (go_bipush (pc := 62) d0_62 cb_32 ?_)
  refine go_newI (pc := 64) (ty := .int) rfl (by decide) ar_2 (List.mem_of_getElem? (i := 23) rfl) (List.mem_of_getElem? (i := 28) rfl) hm_0 (Or.inr ⟨List.mem_of_getElem? (i := 29) rfl, rfl⟩) rfl hn_0 (by decide) rfl rfl rfl rfl d0_64 d0_66 ?_
  refine go_aloadN (pc := 69) d0_69 rfl (go_bipush (pc := 70) d0_70 cb_32 ?_)
  refine go_newI (pc := 72) (ty := .int) rfl (by decide) ar_3 (List.mem_of_getElem? (i := 23) rfl) (List.mem_of_getElem? (i := 30) rfl) hm_0 (Or.inr ⟨List.mem_of_getElem? (i := 31) rfl, rfl⟩) rfl hn_0 (by decide) rfl rfl rfl rfl d0_72 d0_74 ?_
  refine go_aloadN (pc := 77) d0_77 rfl (go_bipush (pc := 78) d0_78 cb_32 ?_)
  refine go_newI (pc := 80) (ty := .int) rfl (by decide) ar_4 (List.mem_of_getElem? (i := 23) rfl) (List.mem_of_getElem? (i := 32) rfl) hm_0 (Or.inr ⟨List.mem_of_getElem? (i := 33) rfl, rfl⟩) rfl hn_0 (by decide) rfl rfl rfl rfl d0_80 d0_82 ?_
  refine go_aloadN (pc := 85) d0_85 rfl (go_bipush (pc := 86) d0_86 cb_32 ?_)
  refine go_newI (pc := 88) (ty := .int) rfl (by decide) ar_5 (List.mem_of_getElem? (i := 23) rfl) (List.mem_of_getElem? (i := 34) rfl) hm_0 (Or.inr ⟨List.mem_of_getElem? (i := 35) rfl, rfl⟩) rfl hn_0 (by decide) rfl rfl rfl rfl d0_88 d0_90 ?_
  refine go_aloadN (pc := 93) d0_93 rfl (go_bipush (pc := 94) d0_94 cb_32 ?_)
  refine go_newI (pc := 96) (ty := .int) rfl (by decide) ar_6 (List.mem_of_getElem? (i := 23) rfl) (List.mem_of_getElem? (i := 36) rfl) hm_0 (Or.inr ⟨List.mem_of_getElem? (i := 37) rfl, rfl⟩) rfl hn_0 (by decide) rfl rfl rfl rfl d0_96 d0_98 ?_
  refine go_aloadN (pc := 101) d0_101 rfl (go_iconst (pc := 102) d0_102 ci_4 ?_)
  refine go_newI (pc := 103) (ty := .int) rfl (by decide) ar_7 (List.mem_of_getElem? (i := 23) rfl) (List.mem_of_getElem? (i := 38) rfl) hm_0 (Or.inr ⟨List.mem_of_getElem? (i := 39) rfl, rfl⟩) rfl hn_0 (by decide) rfl rfl rfl rfl d0_103 d0_105 ?_
  refine go_aloadN (pc := 108) d0_108 rfl (go_iconst (pc := 109) d0_109 ci_4 ?_)
  refine go_newI (pc := 110) (ty := .boolean) rfl (by decide) ar_8 (List.mem_of_getElem? (i := 40) rfl) (List.mem_of_getElem? (i := 41) rfl) hm_0 (Or.inr ⟨List.mem_of_getElem? (i := 42) rfl, rfl⟩) rfl hn_0 (by decide) rfl rfl rfl rfl d0_110 d0_112 ?_
  refine go_aloadN (pc := 115) d0_115 rfl (go_bipush (pc := 116) d0_116 cb_64 ?_)
  refine go_newI (pc := 118) (ty := .int) rfl (by decide) ar_9 (List.mem_of_getElem? (i := 23) rfl) (List.mem_of_getElem? (i := 43) rfl) hm_0 (Or.inr ⟨List.mem_of_getElem? (i := 44) rfl, rfl⟩) rfl hn_0 (by decide) rfl rfl rfl rfl d0_118 d0_120 ?_
  refine go_aloadN (pc := 123) d0_123 rfl (go_bipush (pc := 124) d0_124 cb_64 ?_)
  refine go_newI (pc := 126) (ty := .int) rfl (by decide) ar_10 (List.mem_of_getElem? (i := 23) rfl) (List.mem_of_getElem? (i := 45) rfl) hm_0 (Or.inr ⟨List.mem_of_getElem? (i := 46) rfl, rfl⟩) rfl hn_0 (by decide) rfl rfl rfl rfl d0_126 d0_128 ?_
  refine go_aloadN (pc := 131) d0_131 rfl (go_bipush (pc := 132) d0_132 cb_32 ?_)
  refine go_newI (pc := 134) (ty := .int) rfl (by decide) ar_11 (List.mem_of_getElem? (i := 23) rfl) (List.mem_of_getElem? (i := 47) rfl) hm_0 (Or.inr ⟨List.mem_of_getElem? (i := 48) rfl, rfl⟩) rfl hn_0 (by decide) rfl rfl rfl rfl d0_134 d0_136 ?_
  refine go_aloadN (pc := 139) d0_139 rfl (go_bipush (pc := 140) d0_140 cb_8 ?_)
  refine go_newI (pc := 142) (ty := .int) rfl (by decide) ar_12 (List.mem_of_getElem? (i := 23) rfl) (List.mem_of_getElem? (i := 49) rfl) hm_0 (Or.inr ⟨List.mem_of_getElem? (i := 50) rfl, rfl⟩) rfl hn_0 (by decide) rfl rfl rfl rfl d0_142 d0_144 ?_
  refine go_aloadN (pc := 147) d0_147 rfl (go_bipush (pc := 148) d0_148 cb_32 ?_)
  refine go_newI (pc := 150) (ty := .int) rfl (by decide) ar_13 (List.mem_of_getElem? (i := 23) rfl) (List.mem_of_getElem? (i := 51) rfl) hm_0 (Or.inr ⟨List.mem_of_getElem? (i := 52) rfl, rfl⟩) rfl hn_0 (by decide) rfl rfl rfl rfl d0_150 d0_152 ?_
  refine go_aloadN (pc := 155) d0_155 rfl (go_bipush (pc := 156) d0_156 cb_32 ?_)
  refine go_newI (pc := 158) (ty := .boolean) rfl (by decide) ar_14 (List.mem_of_getElem? (i := 40) rfl) (List.mem_of_getElem? (i := 53) rfl) hm_0 (Or.inr ⟨List.mem_of_getElem? (i := 54) rfl, rfl⟩) rfl hn_0 (by decide) rfl rfl rfl rfl d0_158 d0_160 ?_
  refine go_aloadN (pc := 163) d0_163 rfl (go_bipush (pc := 164) d0_164 cb_32 ?_)
  refine go_newI (pc := 166) (ty := .int) rfl (by decide) ar_15 (List.mem_of_getElem? (i := 23) rfl) (List.mem_of_getElem? (i := 55) rfl) hm_0 (Or.inr ⟨List.mem_of_getElem? (i := 56) rfl, rfl⟩) rfl hn_0 (by decide) rfl rfl rfl rfl d0_166 d0_168 ?_
  refine go_aloadN (pc := 171) d0_171 rfl (go_bipush (pc := 172) d0_172 cb_33 ?_)
  refine go_newI (pc := 174) (ty := .int) rfl (by decide) ar_16 (List.mem_of_getElem? (i := 23) rfl) (List.mem_of_getElem? (i := 57) rfl) hm_0 (Or.inr ⟨List.mem_of_getElem? (i := 58) rfl, rfl⟩) rfl hn_0 (by decide) rfl rfl rfl rfl d0_174 d0_176 ?_
  refine go_aloadN (pc := 179) d0_179 rfl (go_bipush (pc := 180) d0_180 cb_33 ?_)
  refine go_newI (pc := 182) (ty := .int) rfl (by decide) ar_17 (List.mem_of_getElem? (i := 23) rfl) (List.mem_of_getElem? (i := 59) rfl) hm_0 (Or.inr ⟨List.mem_of_getElem? (i := 60) rfl, rfl⟩) rfl hn_0 (by decide) rfl rfl rfl rfl d0_182 d0_184 ?_
  refine go_aloadN (pc := 187) d0_187 rfl (go_bipush (pc := 188) d0_188 cb_33 ?_)
  refine go_newI (pc := 190) (ty := .int) rfl (by decide) ar_18 (List.mem_of_getElem? (i := 23) rfl) (List.mem_of_getElem? (i := 61) rfl) hm_0 (Or.inr ⟨List.mem_of_getElem? (i := 62) rfl, rfl⟩) rfl hn_0 (by decide) rfl rfl rfl rfl d0_190 d0_192 ?_
  refine go_aloadN (pc := 195) d0_195 rfl (go_bipush (pc := 196) d0_196 cb_33 ?_)
  refine go_newI (pc := 198) (ty := .int) rfl (by decide) ar_19 (List.mem_of_getElem? (i := 23) rfl) (List.mem_of_getElem? (i := 63) rfl) hm_0 (Or.inr ⟨List.mem_of_getElem? (i := 64) rfl, rfl⟩) rfl hn_0 (by decide) rfl rfl rfl rfl d0_198 d0_200 ?_
  refine go_aloadN (pc := 203) d0_203 rfl (go_bipush (pc := 204) d0_204 cb_33 ?_)
  refine go_newI (pc := 206) (ty := .int) rfl (by decide) ar_20 (List.mem_of_getElem? (i := 23) rfl) (List.mem_of_getElem? (i := 65) rfl) hm_0 (Or.inr ⟨List.mem_of_getElem? (i := 66) rfl, rfl⟩) rfl hn_0 (by decide) rfl rfl rfl rfl d0_206 d0_208 ?_
  refine go_aloadN (pc := 211) d0_211 rfl (go_bipush (pc := 212) d0_212 cb_33 ?_)
  refine go_newI (pc := 214) (ty := .int) rfl (by decide) ar_21 (List.mem_of_getElem? (i := 23) rfl) (List.mem_of_getElem? (i := 67) rfl) hm_0 (Or.inr ⟨List.mem_of_getElem? (i := 68) rfl, rfl⟩) rfl hn_0 (by decide) rfl rfl rfl rfl d0_214 d0_216 ?_
  refine go_iloadN (pc := 219) d0_219 rfl (go_istoreN (pc := 220) (L' := [.val (.ref 1), .val (.int v1), .val (.int v1)]) d0_220 rfl (go_iloadN (pc := 221) d0_221 rfl (go_bipush (pc := 222) d0_222 cb_16 ?_)))
  by_cases h23 : v1 < (16 : Int32)
  · refine go_icN (pc := 224) d0_224 (XT.ii_ge_f h23) ?_
    refine go_bipush (pc := 227) d0_227 cb_16 (go_istoreN (pc := 229) (L' := [.val (.ref 1), .val (.int v1), .val (.int (16 : Int32))]) d0_229 rfl ?_)
    exact k_init_230_ok (16 : Int32) (sA (sA (sA (sA (sA (sA (sA (sA (sA (sA (sA (sA (sA (sA (sA (sA (sA (sA (sA (sA (sA (sA (sI (sI (sI (sI (sI (sI (sI s0 0 (0 : Int32)) 1 (1 : Int32)) 2 (2 : Int32)) 3 (3 : Int32)) 4 (4096 : Int32)) 5 (300 : Int32)) 6 (255 : Int32)) 0 (rep 32 0)) 1 (rep 32 0)) 2 (rep 32 0)) 3 (rep 32 0)) 4 (rep 32 0)) 5 (rep 32 0)) 6 (rep 32 0)) 7 (rep 4 0)) 8 (rep 4 0)) 9 (rep 64 0)) 10 (rep 64 0)) 11 (rep 32 0)) 12 (rep 8 0)) 13 (rep 32 0)) 14 (rep 32 0)) 15 (rep 32 0)) 16 (rep 33 0)) 17 (rep 33 0)) 18 (rep 33 0)) 19 (rep 33 0)) 20 (rep 33 0)) 21 (rep 33 0)) (.val (.int v1)) (Or.inr ⟨_, rfl, rfl⟩) _ (by simpa only [if_pos h23] using hf)
  · refine go_icY (pc := 224) (pc' := 230) d0_224 (XT.ii_ge_t h23) j_224_6 ?_
    exact k_init_230_ok v1 (sA (sA (sA (sA (sA (sA (sA (sA (sA (sA (sA (sA (sA (sA (sA (sA (sA (sA (sA (sA (sA (sA (sI (sI (sI (sI (sI (sI (sI s0 0 (0 : Int32)) 1 (1 : Int32)) 2 (2 : Int32)) 3 (3 : Int32)) 4 (4096 : Int32)) 5 (300 : Int32)) 6 (255 : Int32)) 0 (rep 32 0)) 1 (rep 32 0)) 2 (rep 32 0)) 3 (rep 32 0)) 4 (rep 32 0)) 5 (rep 32 0)) 6 (rep 32 0)) 7 (rep 4 0)) 8 (rep 4 0)) 9 (rep 64 0)) 10 (rep 64 0)) 11 (rep 32 0)) 12 (rep 8 0)) 13 (rep 32 0)) 14 (rep 32 0)) 15 (rep 32 0)) 16 (rep 33 0)) 17 (rep 33 0)) 18 (rep 33 0)) 19 (rep 33 0)) 20 (rep 33 0)) 21 (rep 33 0)) (.val (.int v1)) (Or.inr ⟨_, rfl, rfl⟩) _ (by simpa only [if_neg h23] using hf)
theorem c_k_init (v1 : Int32) (o : S) (hf : k_init v1 = some o) : Call PP m0 [.ref 1, .int v1] (none, [(0, s0)]) (none, (none, [(22, o)])) := call_of_go pl_0 rfl (fun _ => rfl) (k_init_ok v1   _ hf)
set_option maxRecDepth 65536 in
set_option maxHeartbeats 4000000 in
theorem k_setCell_ok  : ∀ (v1 : Int32) (v2 : Int32) (s : S)  (o : Int32 × S), k_setCell v1 v2 s = some o → Go PP m1 0 [.val (.ref 1), .val (.int v1), .val (.int v2)] [] (none, [(22, s)]) (some (.int o.1), (none, [(22, o.2)])) := by
  intro v1 v2 s o hf
  unfold k_setCell at hf
  refine go_iloadN (pc := 0) d1_0 rfl (go_bipush (pc := 1) d1_1 cb_8 ?_)
  by_cases h1 : v1 < (8 : Int32)
  · replace hf := (if_pos h1).symm.trans hf
    refine go_icY (pc := 3) (pc' := 20) d1_3 (XT.ii_lt_t h1) j_3_17 ?_
    refine go_iconst (pc := 20) d1_20 ci_0 ?_
    cases hf
    exact go_zret (pc := 21) rfl d1_21 (show (0 : Int32) = nar .boolean (0 : Int32) by decide)
  · replace hf := (if_neg h1).symm.trans hf
    refine go_icN (pc := 3) d1_3 (XT.ii_lt_f h1) ?_
    refine go_iloadN (pc := 6) d1_6 rfl (go_aloadN (pc := 7) d1_7 rfl (go_getI (pc := 8) fs_99 hm_1 d1_8 ?_))
    by_cases h2 : v1 < (gI s 7)
    · replace hf := (if_pos h2).symm.trans hf
      refine go_icN (pc := 11) d1_11 (XT.ii_ge_f h2) ?_
      refine go_iloadN (pc := 14) d1_14 rfl (go_bipush (pc := 15) d1_15 cb_64 ?_)
      by_cases h3 : v1 < (64 : Int32)
      · replace hf := (if_pos h3).symm.trans hf
        refine go_icY (pc := 17) (pc' := 22) d1_17 (XT.ii_lt_t h3) j_17_5 ?_
        refine go_aloadN (pc := 22) d1_22 rfl (go_getA (pc := 23) fa_60 hm_1 d1_23 rfl (go_iloadN (pc := 26) d1_26 rfl (go_iloadN (pc := 27) d1_27 rfl ?_)))
        obtain ⟨a28, e4, hf⟩ := Option.bind_eq_some_iff.mp hf
        refine go_iastore (pc := 28) (q := 9) ar_9 rfl hn_1 e4 d1_28 ?_
        refine go_iconst (pc := 29) d1_29 ci_1 ?_
        cases hf
        exact go_zret (pc := 30) rfl d1_30 (show (1 : Int32) = nar .boolean (1 : Int32) by decide)
      · replace hf := (if_neg h3).symm.trans hf
        refine go_icN (pc := 17) d1_17 (XT.ii_lt_f h3) ?_
        refine go_iconst (pc := 20) d1_20 ci_0 ?_
        cases hf
        exact go_zret (pc := 21) rfl d1_21 (show (0 : Int32) = nar .boolean (0 : Int32) by decide)
    · replace hf := (if_neg h2).symm.trans hf
      refine go_icY (pc := 11) (pc' := 20) d1_11 (XT.ii_ge_t h2) j_11_9 ?_
      refine go_iconst (pc := 20) d1_20 ci_0 ?_
      cases hf
      exact go_zret (pc := 21) rfl d1_21 (show (0 : Int32) = nar .boolean (0 : Int32) by decide)
theorem c_k_setCell (v1 : Int32) (v2 : Int32) (s : S) (o : Int32 × S) (hf : k_setCell v1 v2 s = some o) : Call PP m1 [.ref 1, .int v1, .int v2] (none, [(22, s)]) (some (.int o.1), (none, [(22, o.2)])) := call_of_go pl_0 rfl (fun h => nomatch h) (k_setCell_ok v1 v2 s   _ hf)
set_option maxRecDepth 65536 in
set_option maxHeartbeats 4000000 in
theorem k_roleOfA_ok  {s : S} : ∀ (v1 : Int32)   (o : Int32), k_roleOfA v1 = o → Go PP m2 0 [.val (.ref 1), .val (.int v1)] [] (none, [(22, s)]) (some (.int o), (none, [(22, s)])) := by
  intro v1 o hf
  unfold k_roleOfA at hf
  refine go_iloadN (pc := 0) d2_0 rfl (go_bipush (pc := 1) d2_1 cb_9 ?_)
  by_cases h1 : v1 = (9 : Int32)
  · replace hf := (if_pos h1).symm.trans hf
    refine go_icY (pc := 3) (pc' := 12) d2_3 (XT.ii_eq_t h1) j_3_9 ?_
    refine go_iconst (pc := 12) d2_12 ci_0 ?_
    cases hf
    exact go_iret (pc := 13) rfl d2_13
  · replace hf := (if_neg h1).symm.trans hf
    refine go_icN (pc := 3) d2_3 (XT.ii_eq_f h1) ?_
    refine go_iloadN (pc := 6) d2_6 rfl (go_bipush (pc := 7) d2_7 cb_10 ?_)
    by_cases h2 : v1 = (10 : Int32)
    · replace hf := (if_pos h2).symm.trans hf
      refine go_icN (pc := 9) d2_9 (XT.ii_ne_f h2) ?_
      refine go_iconst (pc := 12) d2_12 ci_0 ?_
      cases hf
      exact go_iret (pc := 13) rfl d2_13
    · replace hf := (if_neg h2).symm.trans hf
      refine go_icY (pc := 9) (pc' := 14) d2_9 (XT.ii_ne_t h2) j_9_5 ?_
      refine go_iconst (pc := 14) d2_14 ci_1 ?_
      cases hf
      exact go_iret (pc := 15) rfl d2_15
theorem c_k_roleOfA (v1 : Int32) (s : S) : Call PP m2 [.ref 1, .int v1] (none, [(22, s)]) (some (.int (k_roleOfA v1)), (none, [(22, s)])) := call_of_go pl_0 rfl (fun h => nomatch h) (k_roleOfA_ok v1   _ rfl)
set_option maxRecDepth 65536 in
set_option maxHeartbeats 4000000 in
theorem k_roleOfB_ok  {s : S} : ∀ (v1 : Int32)   (o : Int32), k_roleOfB v1 = o → Go PP m3 0 [.val (.ref 1), .val (.int v1)] [] (none, [(22, s)]) (some (.int o), (none, [(22, s)])) := by
  intro v1 o hf
  unfold k_roleOfB at hf
  refine go_iloadN (pc := 0) d3_0 rfl (go_iconst (pc := 1) d3_1 ci_1 ?_)
  by_cases h1 : v1 = (1 : Int32)
  · replace hf := (if_pos h1).symm.trans hf
    refine go_icN (pc := 2) d3_2 (XT.ii_ne_f h1) ?_
    refine go_iconst (pc := 5) d3_5 ci_3 ?_
    cases hf
    exact go_iret (pc := 6) rfl d3_6
  · replace hf := (if_neg h1).symm.trans hf
    refine go_icY (pc := 2) (pc' := 7) d3_2 (XT.ii_ne_t h1) j_2_5 ?_
    refine go_iloadN (pc := 7) d3_7 rfl (go_iconst (pc := 8) d3_8 ci_2 ?_)
    by_cases h2 : v1 = (2 : Int32)
    · replace hf := (if_pos h2).symm.trans hf
      refine go_icY (pc := 9) (pc' := 22) d3_9 (XT.ii_eq_t h2) j_9_13 ?_
      refine go_iconst (pc := 22) d3_22 ci_1 ?_
      cases hf
      exact go_iret (pc := 23) rfl d3_23
    · replace hf := (if_neg h2).symm.trans hf
      refine go_icN (pc := 9) d3_9 (XT.ii_eq_f h2) ?_
      refine go_iloadN (pc := 12) d3_12 rfl (go_iconst (pc := 13) d3_13 ci_3 ?_)
      by_cases h3 : v1 = (3 : Int32)
      · replace hf := (if_pos h3).symm.trans hf
        refine go_icY (pc := 14) (pc' := 22) d3_14 (XT.ii_eq_t h3) j_14_8 ?_
        refine go_iconst (pc := 22) d3_22 ci_1 ?_
        cases hf
        exact go_iret (pc := 23) rfl d3_23
      · replace hf := (if_neg h3).symm.trans hf
        refine go_icN (pc := 14) d3_14 (XT.ii_eq_f h3) ?_
        refine go_iloadN (pc := 17) d3_17 rfl (go_iconst (pc := 18) d3_18 ci_4 ?_)
        by_cases h4 : v1 = (4 : Int32)
        · replace hf := (if_pos h4).symm.trans hf
          refine go_icN (pc := 19) d3_19 (XT.ii_ne_f h4) ?_
          refine go_iconst (pc := 22) d3_22 ci_1 ?_
          cases hf
          exact go_iret (pc := 23) rfl d3_23
        · replace hf := (if_neg h4).symm.trans hf
          refine go_icY (pc := 19) (pc' := 24) d3_19 (XT.ii_ne_t h4) j_19_5 ?_
          refine go_iloadN (pc := 24) d3_24 rfl (go_iconst (pc := 25) d3_25 ci_5 ?_)
          by_cases h5 : v1 = (5 : Int32)
          · replace hf := (if_pos h5).symm.trans hf
            refine go_icN (pc := 26) d3_26 (XT.ii_ne_f h5) ?_
            refine go_iconst (pc := 29) d3_29 ci_2 ?_
            cases hf
            exact go_iret (pc := 30) rfl d3_30
          · replace hf := (if_neg h5).symm.trans hf
            refine go_icY (pc := 26) (pc' := 31) d3_26 (XT.ii_ne_t h5) j_26_5 ?_
            refine go_iconst (pc := 31) d3_31 ci_0 ?_
            cases hf
            exact go_iret (pc := 32) rfl d3_32
theorem c_k_roleOfB (v1 : Int32) (s : S) : Call PP m3 [.ref 1, .int v1] (none, [(22, s)]) (some (.int (k_roleOfB v1)), (none, [(22, s)])) := call_of_go pl_0 rfl (fun h => nomatch h) (k_roleOfB_ok v1   _ rfl)
set_option maxRecDepth 65536 in
set_option maxHeartbeats 4000000 in
theorem k_roleOfC_ok  {s : S} : ∀ (v1 : Int32)   (o : Int32), k_roleOfC v1 = o → Go PP m4 0 [.val (.ref 1), .val (.int v1)] [] (none, [(22, s)]) (some (.int o), (none, [(22, s)])) := by
  intro v1 o hf
  unfold k_roleOfC at hf
  refine go_iloadN (pc := 0) d4_0 rfl (go_iconst (pc := 1) d4_1 ci_3 ?_)
  by_cases h1 : v1 = (3 : Int32)
  · replace hf := (if_pos h1).symm.trans hf
    refine go_icN (pc := 2) d4_2 (XT.ii_ne_f h1) ?_
    refine go_iconst (pc := 5) d4_5 ci_3 ?_
    cases hf
    exact go_iret (pc := 6) rfl d4_6
  · replace hf := (if_neg h1).symm.trans hf
    refine go_icY (pc := 2) (pc' := 7) d4_2 (XT.ii_ne_t h1) j_2_5 ?_
    refine go_iloadN (pc := 7) d4_7 rfl (go_iconst (pc := 8) d4_8 ci_4 ?_)
    by_cases h2 : v1 = (4 : Int32)
    · replace hf := (if_pos h2).symm.trans hf
      refine go_icN (pc := 9) d4_9 (XT.ii_ne_f h2) ?_
      refine go_iconst (pc := 12) d4_12 ci_2 ?_
      cases hf
      exact go_iret (pc := 13) rfl d4_13
    · replace hf := (if_neg h2).symm.trans hf
      refine go_icY (pc := 9) (pc' := 14) d4_9 (XT.ii_ne_t h2) j_9_5 ?_
      refine go_iloadN (pc := 14) d4_14 rfl (go_iconst (pc := 15) d4_15 ci_5 ?_)
      by_cases h3 : v1 = (5 : Int32)
      · replace hf := (if_pos h3).symm.trans hf
        refine go_icN (pc := 16) d4_16 (XT.ii_ne_f h3) ?_
        refine go_iconst (pc := 19) d4_19 ci_1 ?_
        cases hf
        exact go_iret (pc := 20) rfl d4_20
      · replace hf := (if_neg h3).symm.trans hf
        refine go_icY (pc := 16) (pc' := 21) d4_16 (XT.ii_ne_t h3) j_16_5 ?_
        refine go_iconst (pc := 21) d4_21 ci_0 ?_
        cases hf
        exact go_iret (pc := 22) rfl d4_22
theorem c_k_roleOfC (v1 : Int32) (s : S) : Call PP m4 [.ref 1, .int v1] (none, [(22, s)]) (some (.int (k_roleOfC v1)), (none, [(22, s)])) := call_of_go pl_0 rfl (fun h => nomatch h) (k_roleOfC_ok v1   _ rfl)
set_option maxRecDepth 65536 in
set_option maxHeartbeats 4000000 in
theorem k_fits_ok  {s : S} : ∀ (v1 : Int32) (v2 : Int32)   (o : Int32), k_fits v1 v2 = o → Go PP m5 0 [.val (.ref 1), .val (.int v1), .val (.int v2)] [] (none, [(22, s)]) (some (.int o), (none, [(22, s)])) := by
  intro v1 v2 o hf
  unfold k_fits at hf
  refine go_iloadN (pc := 0) d5_0 rfl (go_iconst (pc := 1) d5_1 ci_1 ?_)
  by_cases h1 : v1 = (1 : Int32)
  · replace hf := (if_pos h1).symm.trans hf
    refine go_icN (pc := 2) d5_2 (XT.ii_ne_f h1) ?_
    refine go_iloadN (pc := 5) d5_5 rfl ?_
    by_cases h5 : v2 < 0
    · replace hf := (if_pos h5).symm.trans hf
      refine go_ifY (pc := 6) (pc' := 19) d5_6 (XT.i0_lt_t h5) j_6_13 ?_
      refine go_iconst (pc := 19) d5_19 ci_0 ?_
      cases hf
      exact go_zret (pc := 20) rfl d5_20 (show (0 : Int32) = nar .boolean (0 : Int32) by decide)
    · replace hf := (if_neg h5).symm.trans hf
      refine go_ifN (pc := 6) d5_6 (XT.i0_lt_f h5) ?_
      refine go_iloadN (pc := 9) d5_9 rfl (go_bipush (pc := 10) d5_10 cb_7 ?_)
      by_cases h6 : (7 : Int32) < v2
      · replace hf := (if_pos h6).symm.trans hf
        refine go_icY (pc := 12) (pc' := 19) d5_12 (XT.ii_gt_t h6) j_12_7 ?_
        refine go_iconst (pc := 19) d5_19 ci_0 ?_
        cases hf
        exact go_zret (pc := 20) rfl d5_20 (show (0 : Int32) = nar .boolean (0 : Int32) by decide)
      · replace hf := (if_neg h6).symm.trans hf
        refine go_icN (pc := 12) d5_12 (XT.ii_gt_f h6) ?_
        refine go_iconst (pc := 15) d5_15 ci_1 (go_goto (pc := 16) (pc' := 20) d5_16 j_16_4 ?_)
        cases hf
        exact go_zret (pc := 20) rfl d5_20 (show (1 : Int32) = nar .boolean (1 : Int32) by decide)
  · replace hf := (if_neg h1).symm.trans hf
    refine go_icY (pc := 2) (pc' := 21) d5_2 (XT.ii_ne_t h1) j_2_19 ?_
    refine go_iloadN (pc := 21) d5_21 rfl (go_iconst (pc := 22) d5_22 ci_2 ?_)
    by_cases h2 : v1 = (2 : Int32)
    · replace hf := (if_pos h2).symm.trans hf
      refine go_icN (pc := 23) d5_23 (XT.ii_ne_f h2) ?_
      refine go_iloadN (pc := 26) d5_26 rfl ?_
      by_cases h3 : v2 < 0
      · replace hf := (if_pos h3).symm.trans hf
        refine go_ifY (pc := 27) (pc' := 40) d5_27 (XT.i0_lt_t h3) j_27_13 ?_
        refine go_iconst (pc := 40) d5_40 ci_0 ?_
        cases hf
        exact go_zret (pc := 41) rfl d5_41 (show (0 : Int32) = nar .boolean (0 : Int32) by decide)
      · replace hf := (if_neg h3).symm.trans hf
        refine go_ifN (pc := 27) d5_27 (XT.i0_lt_f h3) ?_
        refine go_iloadN (pc := 30) d5_30 rfl (go_bipush (pc := 31) d5_31 cb_15 ?_)
        by_cases h4 : (15 : Int32) < v2
        · replace hf := (if_pos h4).symm.trans hf
          refine go_icY (pc := 33) (pc' := 40) d5_33 (XT.ii_gt_t h4) j_33_7 ?_
          refine go_iconst (pc := 40) d5_40 ci_0 ?_
          cases hf
          exact go_zret (pc := 41) rfl d5_41 (show (0 : Int32) = nar .boolean (0 : Int32) by decide)
        · replace hf := (if_neg h4).symm.trans hf
          refine go_icN (pc := 33) d5_33 (XT.ii_gt_f h4) ?_
          refine go_iconst (pc := 36) d5_36 ci_1 (go_goto (pc := 37) (pc' := 41) d5_37 j_37_4 ?_)
          cases hf
          exact go_zret (pc := 41) rfl d5_41 (show (1 : Int32) = nar .boolean (1 : Int32) by decide)
    · replace hf := (if_neg h2).symm.trans hf
      refine go_icY (pc := 23) (pc' := 42) d5_23 (XT.ii_ne_t h2) j_23_19 ?_
      refine go_iconst (pc := 42) d5_42 ci_1 ?_
      cases hf
      exact go_zret (pc := 43) rfl d5_43 (show (1 : Int32) = nar .boolean (1 : Int32) by decide)
theorem c_k_fits (v1 : Int32) (v2 : Int32) (s : S) : Call PP m5 [.ref 1, .int v1, .int v2] (none, [(22, s)]) (some (.int (k_fits v1 v2)), (none, [(22, s)])) := call_of_go pl_0 rfl (fun h => nomatch h) (k_fits_ok v1 v2   _ rfl)
set_option maxRecDepth 65536 in
set_option maxHeartbeats 4000000 in
theorem k_kept_ok  {s : S} : ∀ (v1 : Int32) (v2 : Int32)   (o : Int32), k_kept v1 v2 = o → Go PP m6 0 [.val (.ref 1), .val (.int v1), .val (.int v2)] [] (none, [(22, s)]) (some (.int o), (none, [(22, s)])) := by
  intro v1 v2 o hf
  unfold k_kept at hf
  refine go_iloadN (pc := 0) d6_0 rfl ?_
  by_cases h1 : v1 = 0
  · replace hf := (if_pos h1).symm.trans hf
    refine go_ifN (pc := 1) d6_1 (XT.i0_ne_f h1) ?_
    refine go_iconst (pc := 4) d6_4 ci_0 ?_
    cases hf
    exact go_iret (pc := 5) rfl d6_5
  · replace hf := (if_neg h1).symm.trans hf
    refine go_ifY (pc := 1) (pc' := 6) d6_1 (XT.i0_ne_t h1) j_1_5 ?_
    refine go_iloadN (pc := 6) d6_6 rfl ?_
    cases hf
    exact go_iret (pc := 7) rfl d6_7
theorem c_k_kept (v1 : Int32) (v2 : Int32) (s : S) : Call PP m6 [.ref 1, .int v1, .int v2] (none, [(22, s)]) (some (.int (k_kept v1 v2)), (none, [(22, s)])) := call_of_go pl_0 rfl (fun h => nomatch h) (k_kept_ok v1 v2   _ rfl)
set_option maxRecDepth 65536 in
set_option maxHeartbeats 4000000 in
theorem k_add_ok  : ∀ (v1 : Int32) (v2 : Int32) (v3 : Int32) (v4 : Int32) (s : S)  (o : Int32 × S), k_add v1 v2 v3 v4 s = some o → Go PP m7 0 [.val (.ref 1), .val (.int v1), .val (.int v2), .val (.int v3), .val (.int v4), .unset, .unset, .unset, .unset] [] (none, [(22, s)]) (some (.int o.1), (none, [(22, o.2)])) := by
  intro v1 v2 v3 v4 s o hf
  unfold k_add at hf
  refine go_aloadN (pc := 0) d7_0 rfl (go_getI (pc := 1) fs_102 hm_7 d7_1 (go_bipush (pc := 4) d7_4 cb_32 ?_))
  by_cases h1 : (gI s 8) < (32 : Int32)
  · replace hf := (if_pos h1).symm.trans hf
    refine go_icY (pc := 6) (pc' := 11) d7_6 (XT.ii_lt_t h1) j_6_5 ?_
    refine go_iloadN (pc := 11) d7_11 rfl (go_iconst (pc := 12) d7_12 ci_1 ?_)
    by_cases h2 : v1 < (1 : Int32)
    · replace hf := (if_pos h2).symm.trans hf
      refine go_icY (pc := 13) (pc' := 22) d7_13 (XT.ii_lt_t h2) j_13_9 ?_
      refine go_bipush (pc := 22) d7_22 cb_m2 ?_
      cases hf
      exact go_iret (pc := 24) rfl d7_24
    · replace hf := (if_neg h2).symm.trans hf
      refine go_icN (pc := 13) d7_13 (XT.ii_lt_f h2) ?_
      refine go_iloadN (pc := 16) d7_16 rfl (go_bipush (pc := 17) d7_17 cb_12 ?_)
      by_cases h3 : (12 : Int32) < v1
      · replace hf := (if_pos h3).symm.trans hf
        refine go_icN (pc := 19) d7_19 (XT.ii_le_f h3) ?_
        refine go_bipush (pc := 22) d7_22 cb_m2 ?_
        cases hf
        exact go_iret (pc := 24) rfl d7_24
      · replace hf := (if_neg h3).symm.trans hf
        refine go_icY (pc := 19) (pc' := 25) d7_19 (XT.ii_le_t h3) j_19_6 ?_
        refine go_aloadN (pc := 25) d7_25 rfl (go_iloadN (pc := 26) d7_26 rfl ?_)
        refine go_priv (pc := 27) (i := 0) (as := [.int v1]) (rest := []) (w' := (none, [(22, s)])) lk_0_118 pd_2 rfl oid_0 rfl rfl rfl rfl rfl rfl ⟨rfl, rfl, rfl, rfl, rfl⟩ d7_27 (c_k_roleOfA v1 s) ?_
        refine go_istore (pc := 30) (L' := [.val (.ref 1), .val (.int v1), .val (.int v2), .val (.int v3), .val (.int v4), .val (.int (k_roleOfA v1)), .unset, .unset, .unset]) d7_30 rfl (go_aloadN (pc := 32) d7_32 rfl (go_iloadN (pc := 33) d7_33 rfl ?_))
        refine go_priv (pc := 34) (i := 0) (as := [.int v1]) (rest := []) (w' := (none, [(22, s)])) lk_0_122 pd_3 rfl oid_0 rfl rfl rfl rfl rfl rfl ⟨rfl, rfl, rfl, rfl, rfl⟩ d7_34 (c_k_roleOfB v1 s) ?_
        refine go_istore (pc := 37) (L' := [.val (.ref 1), .val (.int v1), .val (.int v2), .val (.int v3), .val (.int v4), .val (.int (k_roleOfA v1)), .val (.int (k_roleOfB v1)), .unset, .unset]) d7_37 rfl (go_aloadN (pc := 39) d7_39 rfl (go_iloadN (pc := 40) d7_40 rfl ?_))
        refine go_priv (pc := 41) (i := 0) (as := [.int v1]) (rest := []) (w' := (none, [(22, s)])) lk_0_125 pd_4 rfl oid_0 rfl rfl rfl rfl rfl rfl ⟨rfl, rfl, rfl, rfl, rfl⟩ d7_41 (c_k_roleOfC v1 s) ?_
        refine go_istore (pc := 44) (L' := [.val (.ref 1), .val (.int v1), .val (.int v2), .val (.int v3), .val (.int v4), .val (.int (k_roleOfA v1)), .val (.int (k_roleOfB v1)), .val (.int (k_roleOfC v1)), .unset]) d7_44 rfl (go_aloadN (pc := 46) d7_46 rfl (go_iload (pc := 47) d7_47 rfl (go_iloadN (pc := 49) d7_49 rfl ?_)))
        refine go_priv (pc := 50) (i := 0) (as := [.int (k_roleOfA v1), .int v2]) (rest := []) (w' := (none, [(22, s)])) lk_0_128 pd_5 rfl oid_0 rfl rfl rfl rfl rfl rfl ⟨rfl, rfl, rfl, rfl, rfl⟩ d7_50 (c_k_fits (k_roleOfA v1) v2 s) ?_
        by_cases h4 : (k_fits (k_roleOfA v1) v2) = 0
        · replace hf := (if_pos h4).symm.trans hf
          refine go_ifY (pc := 53) (pc' := 77) d7_53 (XT.i0_eq_t h4) j_53_24 ?_
          refine go_bipush (pc := 77) d7_77 cb_m3 ?_
          cases hf
          exact go_iret (pc := 79) rfl d7_79
        · replace hf := (if_neg h4).symm.trans hf
          refine go_ifN (pc := 53) d7_53 (XT.i0_eq_f h4) ?_
          refine go_aloadN (pc := 56) d7_56 rfl (go_iload (pc := 57) d7_57 rfl (go_iloadN (pc := 59) d7_59 rfl ?_))
          refine go_priv (pc := 60) (i := 0) (as := [.int (k_roleOfB v1), .int v3]) (rest := []) (w' := (none, [(22, s)])) lk_0_128 pd_5 rfl oid_0 rfl rfl rfl rfl rfl rfl ⟨rfl, rfl, rfl, rfl, rfl⟩ d7_60 (c_k_fits (k_roleOfB v1) v3 s) ?_
          by_cases h5 : (k_fits (k_roleOfB v1) v3) = 0
          · replace hf := (if_pos h5).symm.trans hf
            refine go_ifY (pc := 63) (pc' := 77) d7_63 (XT.i0_eq_t h5) j_63_14 ?_
            refine go_bipush (pc := 77) d7_77 cb_m3 ?_
            cases hf
            exact go_iret (pc := 79) rfl d7_79
          · replace hf := (if_neg h5).symm.trans hf
            refine go_ifN (pc := 63) d7_63 (XT.i0_eq_f h5) ?_
            refine go_aloadN (pc := 66) d7_66 rfl (go_iload (pc := 67) d7_67 rfl (go_iload (pc := 69) d7_69 rfl ?_))
            refine go_priv (pc := 71) (i := 0) (as := [.int (k_roleOfC v1), .int v4]) (rest := []) (w' := (none, [(22, s)])) lk_0_128 pd_5 rfl oid_0 rfl rfl rfl rfl rfl rfl ⟨rfl, rfl, rfl, rfl, rfl⟩ d7_71 (c_k_fits (k_roleOfC v1) v4 s) ?_
            by_cases h6 : (k_fits (k_roleOfC v1) v4) = 0
            · replace hf := (if_pos h6).symm.trans hf
              refine go_ifN (pc := 74) d7_74 (XT.i0_ne_f h6) ?_
              refine go_bipush (pc := 77) d7_77 cb_m3 ?_
              cases hf
              exact go_iret (pc := 79) rfl d7_79
            · replace hf := (if_neg h6).symm.trans hf
              refine go_ifY (pc := 74) (pc' := 80) d7_74 (XT.i0_ne_t h6) j_74_6 ?_
              refine go_aloadN (pc := 80) d7_80 rfl (go_getI (pc := 81) fs_102 hm_7 d7_81 (go_istore (pc := 84) (L' := [.val (.ref 1), .val (.int v1), .val (.int v2), .val (.int v3), .val (.int v4), .val (.int (k_roleOfA v1)), .val (.int (k_roleOfB v1)), .val (.int (k_roleOfC v1)), .val (.int (gI s 8))]) d7_84 rfl (go_aloadN (pc := 86) d7_86 rfl (go_getA (pc := 87) fa_31 hm_7 d7_87 rfl (go_iload (pc := 90) d7_90 rfl (go_iloadN (pc := 92) d7_92 rfl ?_))))))
              obtain ⟨a93, e7, hf⟩ := Option.bind_eq_some_iff.mp hf
              refine go_iastore (pc := 93) (q := 0) ar_0 rfl hn_7 e7 d7_93 ?_
              refine go_aloadN (pc := 94) d7_94 rfl (go_getA (pc := 95) fa_35 hm_7 d7_95 rfl (go_iload (pc := 98) d7_98 rfl (go_aloadN (pc := 100) d7_100 rfl (go_iload (pc := 101) d7_101 rfl (go_iloadN (pc := 103) d7_103 rfl ?_)))))
              refine go_priv (pc := 104) (i := 0) (as := [.int (k_roleOfA v1), .int v2]) (rest := [.int (gI s 8), .ref 3]) (w' := (none, [(22, sA s 0 a93)])) lk_0_132 pd_6 rfl oid_0 rfl rfl rfl rfl rfl rfl ⟨rfl, rfl, rfl, rfl, rfl⟩ d7_104 (c_k_kept (k_roleOfA v1) v2 (sA s 0 a93)) ?_
              obtain ⟨a107, e8, hf⟩ := Option.bind_eq_some_iff.mp hf
              refine go_iastore (pc := 107) (q := 1) ar_1 rfl hn_7 e8 d7_107 ?_
              refine go_aloadN (pc := 108) d7_108 rfl (go_getA (pc := 109) fa_38 hm_7 d7_109 rfl (go_iload (pc := 112) d7_112 rfl (go_aloadN (pc := 114) d7_114 rfl (go_iload (pc := 115) d7_115 rfl (go_iloadN (pc := 117) d7_117 rfl ?_)))))
              refine go_priv (pc := 118) (i := 0) (as := [.int (k_roleOfB v1), .int v3]) (rest := [.int (gI s 8), .ref 4]) (w' := (none, [(22, sA (sA s 0 a93) 1 a107)])) lk_0_132 pd_6 rfl oid_0 rfl rfl rfl rfl rfl rfl ⟨rfl, rfl, rfl, rfl, rfl⟩ d7_118 (c_k_kept (k_roleOfB v1) v3 (sA (sA s 0 a93) 1 a107)) ?_
              obtain ⟨a121, e9, hf⟩ := Option.bind_eq_some_iff.mp hf
              refine go_iastore (pc := 121) (q := 2) ar_2 rfl hn_7 e9 d7_121 ?_
              refine go_aloadN (pc := 122) d7_122 rfl (go_getA (pc := 123) fa_41 hm_7 d7_123 rfl (go_iload (pc := 126) d7_126 rfl (go_aloadN (pc := 128) d7_128 rfl (go_iload (pc := 129) d7_129 rfl (go_iload (pc := 131) d7_131 rfl ?_)))))
              refine go_priv (pc := 133) (i := 0) (as := [.int (k_roleOfC v1), .int v4]) (rest := [.int (gI s 8), .ref 5]) (w' := (none, [(22, sA (sA (sA s 0 a93) 1 a107) 2 a121)])) lk_0_132 pd_6 rfl oid_0 rfl rfl rfl rfl rfl rfl ⟨rfl, rfl, rfl, rfl, rfl⟩ d7_133 (c_k_kept (k_roleOfC v1) v4 (sA (sA (sA s 0 a93) 1 a107) 2 a121)) ?_
              obtain ⟨a136, e10, hf⟩ := Option.bind_eq_some_iff.mp hf
              refine go_iastore (pc := 136) (q := 3) ar_3 rfl hn_7 e10 d7_136 ?_
              refine go_aloadN (pc := 137) d7_137 rfl (go_iload (pc := 138) d7_138 rfl (go_iconst (pc := 140) d7_140 ci_1 (go_iadd (pc := 141) d7_141 (go_putI (pc := 142) fs_102 hm_7 (wr_8 _) hn_7 d7_142 (go_aloadN (pc := 145) d7_145 rfl (go_iconst (pc := 146) d7_146 ci_0 (go_putZ (pc := 147) fs_105 hm_7 (wr_9 _) hn_7 (by decide) d7_147 ?_)))))))
              refine go_iload (pc := 150) d7_150 rfl ?_
              cases hf
              exact go_iret (pc := 152) rfl d7_152
  · replace hf := (if_neg h1).symm.trans hf
    refine go_icN (pc := 6) d7_6 (XT.ii_lt_f h1) ?_
    refine go_iconst (pc := 9) d7_9 ci_m1 ?_
    cases hf
    exact go_iret (pc := 10) rfl d7_10
theorem c_k_add (v1 : Int32) (v2 : Int32) (v3 : Int32) (v4 : Int32) (s : S) (o : Int32 × S) (hf : k_add v1 v2 v3 v4 s = some o) : Call PP m7 [.ref 1, .int v1, .int v2, .int v3, .int v4] (none, [(22, s)]) (some (.int o.1), (none, [(22, o.2)])) := call_of_go pl_0 rfl (fun h => nomatch h) (k_add_ok v1 v2 v3 v4 s   _ hf)
set_option maxRecDepth 65536 in
set_option maxHeartbeats 4000000 in
theorem k_scanOne_ok  : ∀ (v1 : Int32) (s : S)  (o : Int32 × S), k_scanOne v1 s = some o → Go PP m8 0 [.val (.ref 1), .val (.int v1), .unset] [] (none, [(22, s)]) (some (.int o.1), (none, [(22, o.2)])) := by
  intro v1 s o hf
  unfold k_scanOne at hf
  refine go_aloadN (pc := 0) d8_0 rfl (go_getA (pc := 1) fa_31 hm_8 d8_1 rfl (go_iloadN (pc := 4) d8_4 rfl ?_))
  obtain ⟨a5, e1, hf⟩ := Option.bind_eq_some_iff.mp hf
  refine go_iaload (pc := 5) (q := 0) ar_0 rfl e1 d8_5 ?_
  refine go_istoreN (pc := 6) (L' := [.val (.ref 1), .val (.int v1), .val (.int a5)]) d8_6 rfl (go_aloadN (pc := 7) d8_7 rfl (go_getA (pc := 8) fa_50 hm_8 d8_8 rfl (go_iloadN (pc := 11) d8_11 rfl (go_iconst (pc := 12) d8_12 ci_m1 ?_))))
  obtain ⟨a13, e2, hf⟩ := Option.bind_eq_some_iff.mp hf
  refine go_iastore (pc := 13) (q := 6) ar_6 rfl hn_8 e2 d8_13 ?_
  refine go_iloadN (pc := 14) d8_14 rfl (go_bipush (pc := 15) d8_15 cb_8 ?_)
  by_cases h3 : a5 = (8 : Int32)
  · replace hf := (if_pos h3).symm.trans hf
    refine go_icY (pc := 17) (pc' := 26) d8_17 (XT.ii_eq_t h3) j_17_9 ?_
    refine go_aloadN (pc := 26) d8_26 rfl (go_iloadN (pc := 27) d8_27 rfl (go_iloadN (pc := 28) d8_28 rfl ?_))
    exact nomatch hf
  · replace hf := (if_neg h3).symm.trans hf
    refine go_icN (pc := 17) d8_17 (XT.ii_eq_f h3) ?_
    refine go_iloadN (pc := 20) d8_20 rfl (go_bipush (pc := 21) d8_21 cb_11 ?_)
    by_cases h4 : a5 = (11 : Int32)
    · replace hf := (if_pos h4).symm.trans hf
      refine go_icN (pc := 23) d8_23 (XT.ii_ne_f h4) ?_
      refine go_aloadN (pc := 26) d8_26 rfl (go_iloadN (pc := 27) d8_27 rfl (go_iloadN (pc := 28) d8_28 rfl ?_))
      exact nomatch hf
    · replace hf := (if_neg h4).symm.trans hf
      refine go_icY (pc := 23) (pc' := 33) d8_23 (XT.ii_ne_t h4) j_23_10 ?_
      refine go_iloadN (pc := 33) d8_33 rfl (go_bipush (pc := 34) d8_34 cb_9 ?_)
      by_cases h5 : a5 = (9 : Int32)
      · replace hf := (if_pos h5).symm.trans hf
        refine go_icN (pc := 36) d8_36 (XT.ii_ne_f h5) ?_
        refine go_aloadN (pc := 39) d8_39 rfl (go_iloadN (pc := 40) d8_40 rfl ?_)
        exact nomatch hf
      · replace hf := (if_neg h5).symm.trans hf
        refine go_icY (pc := 36) (pc' := 45) d8_36 (XT.ii_ne_t h5) j_36_9 ?_
        refine go_iloadN (pc := 45) d8_45 rfl (go_bipush (pc := 46) d8_46 cb_10 ?_)
        by_cases h6 : a5 = (10 : Int32)
        · replace hf := (if_pos h6).symm.trans hf
          refine go_icN (pc := 48) d8_48 (XT.ii_ne_f h6) ?_
          refine go_aloadN (pc := 51) d8_51 rfl (go_iloadN (pc := 52) d8_52 rfl ?_)
          exact nomatch hf
        · replace hf := (if_neg h6).symm.trans hf
          refine go_icY (pc := 48) (pc' := 57) d8_48 (XT.ii_ne_t h6) j_48_9 ?_
          refine go_aloadN (pc := 57) d8_57 rfl (go_getA (pc := 58) fa_44 hm_8 d8_58 rfl (go_iloadN (pc := 61) d8_61 rfl (go_iconst (pc := 62) d8_62 ci_m1 ?_)))
          obtain ⟨a63, e7, hf⟩ := Option.bind_eq_some_iff.mp hf
          refine go_iastore (pc := 63) (q := 4) ar_4 rfl hn_8 e7 d8_63 ?_
          refine go_aloadN (pc := 64) d8_64 rfl (go_getA (pc := 65) fa_47 hm_8 d8_65 rfl (go_iloadN (pc := 68) d8_68 rfl (go_iconst (pc := 69) d8_69 ci_m1 ?_)))
          obtain ⟨a70, e8, hf⟩ := Option.bind_eq_some_iff.mp hf
          refine go_iastore (pc := 70) (q := 5) ar_5 rfl hn_8 e8 d8_70 ?_
          refine go_iconst (pc := 71) d8_71 ci_0 ?_
          cases hf
          exact go_iret (pc := 72) rfl d8_72
theorem c_k_scanOne (v1 : Int32) (s : S) (o : Int32 × S) (hf : k_scanOne v1 s = some o) : Call PP m8 [.ref 1, .int v1] (none, [(22, s)]) (some (.int o.1), (none, [(22, o.2)])) := call_of_go pl_0 rfl (fun h => nomatch h) (k_scanOne_ok v1 s   _ hf)
set_option maxRecDepth 65536 in
set_option maxHeartbeats 4000000 in
theorem k_compile_44_ok  : ∀  (s : S) (x1 : Slot) (x2 : Slot) (hx1 : k1 x1) (hx2 : k1 x2) (o : Int32 × S), k_compile_44 s = some o → Go PP m9 44 [.val (.ref 1), x1, x2] [] (none, [(22, s)]) (some (.int o.1), (none, [(22, o.2)])) := by
  intro s x1 x2 hx1 hx2 o hf
  unfold k_compile_44 at hf
  refine go_aloadN (pc := 44) d9_44 rfl (go_getI (pc := 45) fs_136 hm_9 d9_45 ?_)
  by_cases h1 : 0 < (gI s 13)
  · replace hf := (if_pos h1).symm.trans hf
    refine go_ifN (pc := 48) d9_48 (XT.i0_le_f h1) ?_
    refine go_bipush (pc := 51) d9_51 cb_m6 ?_
    cases hf
    exact go_iret (pc := 53) rfl d9_53
  · replace hf := (if_neg h1).symm.trans hf
    refine go_ifY (pc := 48) (pc' := 54) d9_48 (XT.i0_le_t h1) j_48_6 ?_
    refine go_aloadN (pc := 54) d9_54 rfl (go_iconst (pc := 55) d9_55 ci_1 (go_putZ (pc := 56) fs_105 hm_9 (wr_9 _) hn_9 (by decide) d9_56 (go_iconst (pc := 59) d9_59 ci_0 ?_)))
    cases hf
    exact go_iret (pc := 60) rfl d9_60
set_option maxRecDepth 65536 in
set_option maxHeartbeats 4000000 in
theorem k_compile_12_ok  : ∀ (n : Nat) (v1 : Int32) (s : S) (x2 : Slot) (hx2 : k1 x2) (o : Int32 × S), k_compile_12 n v1 s = some o → Go PP m9 12 [.val (.ref 1), .val (.int v1), x2] [] (none, [(22, s)]) (some (.int o.1), (none, [(22, o.2)])) := by
  intro n
  induction n with
  | zero => intro v1 s x2 hx2 o hf; exact nomatch hf
  | succ n ih =>
    intro v1 s x2 hx2 o hf
    unfold k_compile_12 at hf
    refine go_iloadN (pc := 12) d9_12 rfl (go_aloadN (pc := 13) d9_13 rfl (go_getI (pc := 14) fs_102 hm_9 d9_14 ?_))
    by_cases h1 : v1 < (gI s 8)
    · replace hf := (if_pos h1).symm.trans hf
      refine go_icN (pc := 17) d9_17 (XT.ii_ge_f h1) ?_
      refine go_iloadN (pc := 20) d9_20 rfl (go_bipush (pc := 21) d9_21 cb_32 ?_)
      by_cases h2 : v1 < (32 : Int32)
      · replace hf := (if_pos h2).symm.trans hf
        refine go_icN (pc := 23) d9_23 (XT.ii_ge_f h2) ?_
        refine go_aloadN (pc := 26) d9_26 rfl (go_iloadN (pc := 27) d9_27 rfl ?_)
        obtain ⟨r28, e3, hf⟩ := Option.bind_eq_some_iff.mp hf
        refine go_priv (pc := 28) (i := 0) (as := [.int v1]) (rest := []) (w' := (none, [(22, r28.2)])) lk_0_142 pd_8 rfl oid_0 rfl rfl rfl rfl rfl rfl ⟨rfl, rfl, rfl, rfl, rfl⟩ d9_28 (c_k_scanOne v1 s _ e3) ?_
        refine go_istoreN (pc := 31) (L' := [.val (.ref 1), .val (.int v1), .val (.int r28.1)]) d9_31 (stx rfl hx2 rfl) (go_iloadN (pc := 32) d9_32 rfl ?_)
        by_cases h4 : r28.1 = 0
        · replace hf := (if_pos h4).symm.trans hf
          refine go_ifY (pc := 33) (pc' := 38) d9_33 (XT.i0_eq_t h4) j_33_5 ?_
          refine go_iinc (pc := 38) (L' := [.val (.ref 1), .val (.int (v1 + (1 : Int32))), .val (.int r28.1)]) d9_38 rfl ci_1 rfl (go_goto (pc := 41) (pc' := 12) d9_41 j_41_m29 ?_)
          exact ih (v1 + (1 : Int32)) r28.2 (.val (.int r28.1)) (Or.inr ⟨_, rfl, rfl⟩) _ hf
        · replace hf := (if_neg h4).symm.trans hf
          refine go_ifN (pc := 33) d9_33 (XT.i0_eq_f h4) ?_
          refine go_iloadN (pc := 36) d9_36 rfl ?_
          cases hf
          exact go_iret (pc := 37) rfl d9_37
      · replace hf := (if_neg h2).symm.trans hf
        refine go_icY (pc := 23) (pc' := 44) d9_23 (XT.ii_ge_t h2) j_23_21 ?_
        exact k_compile_44_ok s (.val (.int v1)) x2 (Or.inr ⟨_, rfl, rfl⟩) hx2 _ hf
    · replace hf := (if_neg h1).symm.trans hf
      refine go_icY (pc := 17) (pc' := 44) d9_17 (XT.ii_ge_t h1) j_17_27 ?_
      exact k_compile_44_ok s (.val (.int v1)) x2 (Or.inr ⟨_, rfl, rfl⟩) hx2 _ hf
set_option maxRecDepth 65536 in
set_option maxHeartbeats 4000000 in
theorem k_compile_ok  : ∀  (s : S)  (o : Int32 × S), k_compile s = some o → Go PP m9 0 [.val (.ref 1), .unset, .unset] [] (none, [(22, s)]) (some (.int o.1), (none, [(22, o.2)])) := by
  intro s o hf
  unfold k_compile at hf
  refine go_aloadN (pc := 0) d9_0 rfl (go_iconst (pc := 1) d9_1 ci_0 (go_putI (pc := 2) fs_136 hm_9 (wr_13 _) hn_9 d9_2 (go_aloadN (pc := 5) d9_5 rfl (go_iconst (pc := 6) d9_6 ci_0 (go_putI (pc := 7) fs_139 hm_9 (wr_14 _) hn_9 d9_7 (go_iconst (pc := 10) d9_10 ci_0 (go_istoreN (pc := 11) (L' := [.val (.ref 1), .val (.int (0 : Int32)), .unset]) d9_11 rfl ?_)))))))
  exact k_compile_12_ok BIG (0 : Int32) (sI (sI s 13 (0 : Int32)) 14 (0 : Int32)) .unset (Or.inl rfl) _ hf
theorem c_k_compile (s : S) (o : Int32 × S) (hf : k_compile s = some o) : Call PP m9 [.ref 1] (none, [(22, s)]) (some (.int o.1), (none, [(22, o.2)])) := call_of_go pl_0 rfl (fun h => nomatch h) (k_compile_ok s   _ hf)
set_option maxRecDepth 65536 in
set_option maxHeartbeats 4000000 in
theorem k_resetRun_75_ok  : ∀  (s : S) (x1 : Slot) (hx1 : k1 x1) (o : S), k_resetRun_75 s = some o → Go PP m11 75 [.val (.ref 1), x1] [] (none, [(22, s)]) (none, (none, [(22, o)])) := by
  intro s x1 hx1 o hf
  unfold k_resetRun_75 at hf
  refine go_aloadN (pc := 75) d11_75 rfl (go_iconst (pc := 76) d11_76 ci_0 (go_putI (pc := 77) fs_115 hm_11 (wr_12 _) hn_11 d11_77 (go_aloadN (pc := 80) d11_80 rfl (go_iconst (pc := 81) d11_81 ci_0 (go_putI (pc := 82) fs_109 hm_11 (wr_10 _) hn_11 d11_82 (go_aloadN (pc := 85) d11_85 rfl (go_iconst (pc := 86) d11_86 ci_0 ?_)))))))
  refine go_putI (pc := 87) fs_112 hm_11 (wr_11 _) hn_11 d11_87 ?_
  cases hf
  exact go_ret (pc := 90) rfl d11_90
set_option maxRecDepth 65536 in
set_option maxHeartbeats 4000000 in
theorem k_resetRun_49_ok  : ∀ (n : Nat) (v1 : Int32) (s : S)  (o : S), k_resetRun_49 n v1 s = some o → Go PP m11 49 [.val (.ref 1), .val (.int v1)] [] (none, [(22, s)]) (none, (none, [(22, o)])) := by
  intro n
  induction n with
  | zero => intro v1 s o hf; exact nomatch hf
  | succ n ih =>
    intro v1 s o hf
    unfold k_resetRun_49 at hf
    refine go_iloadN (pc := 49) d11_49 rfl (go_bipush (pc := 50) d11_50 cb_32 ?_)
    by_cases h1 : v1 < (32 : Int32)
    · replace hf := (if_pos h1).symm.trans hf
      refine go_icN (pc := 52) d11_52 (XT.ii_ge_f h1) ?_
      refine go_aloadN (pc := 55) d11_55 rfl (go_getA (pc := 56) fa_66 hm_11 d11_56 rfl (go_iloadN (pc := 59) d11_59 rfl (go_iconst (pc := 60) d11_60 ci_0 ?_)))
      obtain ⟨a61, e2, hf⟩ := Option.bind_eq_some_iff.mp hf
      refine go_iastore (pc := 61) (q := 11) ar_11 rfl hn_11 e2 d11_61 ?_
      refine go_aloadN (pc := 62) d11_62 rfl (go_getA (pc := 63) fa_72 hm_11 d11_63 rfl (go_iloadN (pc := 66) d11_66 rfl (go_iconst (pc := 67) d11_67 ci_0 ?_)))
      obtain ⟨a68, e3, hf⟩ := Option.bind_eq_some_iff.mp hf
      refine go_iastore (pc := 68) (q := 13) ar_13 rfl hn_11 e3 d11_68 ?_
      refine go_iinc (pc := 69) (L' := [.val (.ref 1), .val (.int (v1 + (1 : Int32)))]) d11_69 rfl ci_1 rfl (go_goto (pc := 72) (pc' := 49) d11_72 j_72_m23 ?_)
      exact ih (v1 + (1 : Int32)) (sA (sA s 11 a61) 13 a68) _ hf
    · replace hf := (if_neg h1).symm.trans hf
      refine go_icY (pc := 52) (pc' := 75) d11_52 (XT.ii_ge_t h1) j_52_23 ?_
      exact k_resetRun_75_ok s (.val (.int v1)) (Or.inr ⟨_, rfl, rfl⟩) _ hf
set_option maxRecDepth 65536 in
set_option maxHeartbeats 4000000 in
theorem k_resetRun_47_ok  : ∀  (s : S) (x1 : Slot) (hx1 : k1 x1) (o : S), k_resetRun_47 s = some o → Go PP m11 47 [.val (.ref 1), x1] [] (none, [(22, s)]) (none, (none, [(22, o)])) := by
  intro s x1 hx1 o hf
  unfold k_resetRun_47 at hf
  refine go_iconst (pc := 47) d11_47 ci_0 (go_istoreN (pc := 48) (L' := [.val (.ref 1), .val (.int (0 : Int32))]) d11_48 (stx rfl hx1 rfl) ?_)
  exact k_resetRun_49_ok BIG (0 : Int32) s _ hf
set_option maxRecDepth 65536 in
set_option maxHeartbeats 4000000 in
theorem k_resetRun_28_ok  : ∀ (n : Nat) (v1 : Int32) (s : S)  (o : S), k_resetRun_28 n v1 s = some o → Go PP m11 28 [.val (.ref 1), .val (.int v1)] [] (none, [(22, s)]) (none, (none, [(22, o)])) := by
  intro n
  induction n with
  | zero => intro v1 s o hf; exact nomatch hf
  | succ n ih =>
    intro v1 s o hf
    unfold k_resetRun_28 at hf
    refine go_iloadN (pc := 28) d11_28 rfl (go_bipush (pc := 29) d11_29 cb_8 ?_)
    by_cases h1 : v1 < (8 : Int32)
    · replace hf := (if_pos h1).symm.trans hf
      refine go_icN (pc := 31) d11_31 (XT.ii_ge_f h1) ?_
      refine go_aloadN (pc := 34) d11_34 rfl (go_getA (pc := 35) fa_69 hm_11 d11_35 rfl (go_iloadN (pc := 38) d11_38 rfl (go_iconst (pc := 39) d11_39 ci_0 ?_)))
      obtain ⟨a40, e2, hf⟩ := Option.bind_eq_some_iff.mp hf
      refine go_iastore (pc := 40) (q := 12) ar_12 rfl hn_11 e2 d11_40 ?_
      refine go_iinc (pc := 41) (L' := [.val (.ref 1), .val (.int (v1 + (1 : Int32)))]) d11_41 rfl ci_1 rfl (go_goto (pc := 44) (pc' := 28) d11_44 j_44_m16 ?_)
      exact ih (v1 + (1 : Int32)) (sA s 12 a40) _ hf
    · replace hf := (if_neg h1).symm.trans hf
      refine go_icY (pc := 31) (pc' := 47) d11_31 (XT.ii_ge_t h1) j_31_16 ?_
      exact k_resetRun_47_ok s (.val (.int v1)) (Or.inr ⟨_, rfl, rfl⟩) _ hf
set_option maxRecDepth 65536 in
set_option maxHeartbeats 4000000 in
theorem k_resetRun_26_ok  : ∀  (s : S) (x1 : Slot) (hx1 : k1 x1) (o : S), k_resetRun_26 s = some o → Go PP m11 26 [.val (.ref 1), x1] [] (none, [(22, s)]) (none, (none, [(22, o)])) := by
  intro s x1 hx1 o hf
  unfold k_resetRun_26 at hf
  refine go_iconst (pc := 26) d11_26 ci_0 (go_istoreN (pc := 27) (L' := [.val (.ref 1), .val (.int (0 : Int32))]) d11_27 (stx rfl hx1 rfl) ?_)
  exact k_resetRun_28_ok BIG (0 : Int32) s _ hf
set_option maxRecDepth 65536 in
set_option maxHeartbeats 4000000 in
theorem k_resetRun_2_ok  : ∀ (n : Nat) (v1 : Int32) (s : S)  (o : S), k_resetRun_2 n v1 s = some o → Go PP m11 2 [.val (.ref 1), .val (.int v1)] [] (none, [(22, s)]) (none, (none, [(22, o)])) := by
  intro n
  induction n with
  | zero => intro v1 s o hf; exact nomatch hf
  | succ n ih =>
    intro v1 s o hf
    unfold k_resetRun_2 at hf
    refine go_iloadN (pc := 2) d11_2 rfl (go_bipush (pc := 3) d11_3 cb_64 ?_)
    by_cases h1 : v1 < (64 : Int32)
    · replace hf := (if_pos h1).symm.trans hf
      refine go_icN (pc := 5) d11_5 (XT.ii_ge_f h1) ?_
      refine go_aloadN (pc := 8) d11_8 rfl (go_getA (pc := 9) fa_63 hm_11 d11_9 rfl (go_iloadN (pc := 12) d11_12 rfl (go_aloadN (pc := 13) d11_13 rfl (go_getA (pc := 14) fa_60 hm_11 d11_14 rfl (go_iloadN (pc := 17) d11_17 rfl ?_)))))
      obtain ⟨a18, e2, hf⟩ := Option.bind_eq_some_iff.mp hf
      refine go_iaload (pc := 18) (q := 9) ar_9 rfl e2 d11_18 ?_
      obtain ⟨a19, e3, hf⟩ := Option.bind_eq_some_iff.mp hf
      refine go_iastore (pc := 19) (q := 10) ar_10 rfl hn_11 e3 d11_19 ?_
      refine go_iinc (pc := 20) (L' := [.val (.ref 1), .val (.int (v1 + (1 : Int32)))]) d11_20 rfl ci_1 rfl (go_goto (pc := 23) (pc' := 2) d11_23 j_23_m21 ?_)
      exact ih (v1 + (1 : Int32)) (sA s 10 a19) _ hf
    · replace hf := (if_neg h1).symm.trans hf
      refine go_icY (pc := 5) (pc' := 26) d11_5 (XT.ii_ge_t h1) j_5_21 ?_
      exact k_resetRun_26_ok s (.val (.int v1)) (Or.inr ⟨_, rfl, rfl⟩) _ hf
set_option maxRecDepth 65536 in
set_option maxHeartbeats 4000000 in
theorem k_resetRun_ok  : ∀  (s : S)  (o : S), k_resetRun s = some o → Go PP m11 0 [.val (.ref 1), .unset] [] (none, [(22, s)]) (none, (none, [(22, o)])) := by
  intro s o hf
  unfold k_resetRun at hf
  refine go_iconst (pc := 0) d11_0 ci_0 (go_istoreN (pc := 1) (L' := [.val (.ref 1), .val (.int (0 : Int32))]) d11_1 rfl ?_)
  exact k_resetRun_2_ok BIG (0 : Int32) s _ hf
theorem c_k_resetRun (s : S) (o : S) (hf : k_resetRun s = some o) : Call PP m11 [.ref 1] (none, [(22, s)]) (none, (none, [(22, o)])) := call_of_go pl_0 rfl (fun _ => rfl) (k_resetRun_ok s   _ hf)
set_option maxRecDepth 65536 in
set_option maxHeartbeats 4000000 in
theorem k_clearMarks_2_ok  : ∀ (n : Nat) (v1 : Int32) (s : S)  (o : S), k_clearMarks_2 n v1 s = some o → Go PP m12 2 [.val (.ref 1), .val (.int v1)] [] (none, [(22, s)]) (none, (none, [(22, o)])) := by
  intro n
  induction n with
  | zero => intro v1 s o hf; exact nomatch hf
  | succ n ih =>
    intro v1 s o hf
    unfold k_clearMarks_2 at hf
    refine go_iloadN (pc := 2) d12_2 rfl (go_bipush (pc := 3) d12_3 cb_32 ?_)
    by_cases h1 : v1 < (32 : Int32)
    · replace hf := (if_pos h1).symm.trans hf
      refine go_icN (pc := 5) d12_5 (XT.ii_ge_f h1) ?_
      refine go_aloadN (pc := 8) d12_8 rfl (go_getA (pc := 9) fa_75 hm_12 d12_9 rfl (go_iloadN (pc := 12) d12_12 rfl (go_iconst (pc := 13) d12_13 ci_0 ?_)))
      obtain ⟨a14, e2, hf⟩ := Option.bind_eq_some_iff.mp hf
      refine go_bastore (pc := 14) (q := 14) ar_14 (by decide) rfl hn_12 (by decide) e2 d12_14 ?_
      refine go_aloadN (pc := 15) d12_15 rfl (go_getA (pc := 16) fa_78 hm_12 d12_16 rfl (go_iloadN (pc := 19) d12_19 rfl (go_iconst (pc := 20) d12_20 ci_0 ?_)))
      obtain ⟨a21, e3, hf⟩ := Option.bind_eq_some_iff.mp hf
      refine go_iastore (pc := 21) (q := 15) ar_15 rfl hn_12 e3 d12_21 ?_
      refine go_iinc (pc := 22) (L' := [.val (.ref 1), .val (.int (v1 + (1 : Int32)))]) d12_22 rfl ci_1 rfl (go_goto (pc := 25) (pc' := 2) d12_25 j_25_m23 ?_)
      exact ih (v1 + (1 : Int32)) (sA (sA s 14 a14) 15 a21) _ hf
    · replace hf := (if_neg h1).symm.trans hf
      refine go_icY (pc := 5) (pc' := 28) d12_5 (XT.ii_ge_t h1) j_5_23 ?_
      cases hf
      exact go_ret (pc := 28) rfl d12_28
set_option maxRecDepth 65536 in
set_option maxHeartbeats 4000000 in
theorem k_clearMarks_ok  : ∀  (s : S)  (o : S), k_clearMarks s = some o → Go PP m12 0 [.val (.ref 1), .unset] [] (none, [(22, s)]) (none, (none, [(22, o)])) := by
  intro s o hf
  unfold k_clearMarks at hf
  refine go_iconst (pc := 0) d12_0 ci_0 (go_istoreN (pc := 1) (L' := [.val (.ref 1), .val (.int (0 : Int32))]) d12_1 rfl ?_)
  exact k_clearMarks_2_ok BIG (0 : Int32) s _ hf
theorem c_k_clearMarks (s : S) (o : S) (hf : k_clearMarks s = some o) : Call PP m12 [.ref 1] (none, [(22, s)]) (none, (none, [(22, o)])) := call_of_go pl_0 rfl (fun _ => rfl) (k_clearMarks_ok s   _ hf)
set_option maxRecDepth 65536 in
set_option maxHeartbeats 4000000 in
theorem k_bitOf_ok  {s : S} : ∀ (v1 : Int32)   (o : Int32), k_bitOf v1 = o → Go PP m13 0 [.val (.ref 1), .val (.int v1)] [] (none, [(22, s)]) (some (.int o), (none, [(22, s)])) := by
  intro v1 o hf
  unfold k_bitOf at hf
  refine go_iconst (pc := 0) d13_0 ci_1 (go_iloadN (pc := 1) d13_1 rfl (go_bipush (pc := 2) d13_2 cb_7 (go_iand (pc := 4) d13_4 (go_ishl (pc := 5) d13_5 ?_))))
  cases hf
  exact go_iret (pc := 6) rfl d13_6
theorem c_k_bitOf (v1 : Int32) (s : S) : Call PP m13 [.ref 1, .int v1] (none, [(22, s)]) (some (.int (k_bitOf v1)), (none, [(22, s)])) := call_of_go pl_0 rfl (fun h => nomatch h) (k_bitOf_ok v1   _ rfl)
set_option maxRecDepth 65536 in
set_option maxHeartbeats 4000000 in
theorem k_edgesOf_ok  : ∀ (v1 : Int32) (s : S)  (o : S), k_edgesOf v1 s = some o → Go PP m14 0 [.val (.ref 1), .val (.int v1), .unset, .unset] [] (none, [(22, s)]) (none, (none, [(22, o)])) := by
  intro v1 s o hf
  unfold k_edgesOf at hf
  refine go_aloadN (pc := 0) d14_0 rfl (go_getA (pc := 1) fa_31 hm_14 d14_1 rfl (go_iloadN (pc := 4) d14_4 rfl ?_))
  obtain ⟨a5, e1, hf⟩ := Option.bind_eq_some_iff.mp hf
  refine go_iaload (pc := 5) (q := 0) ar_0 rfl e1 d14_5 ?_
  refine go_istoreN (pc := 6) (L' := [.val (.ref 1), .val (.int v1), .val (.int a5), .unset]) d14_6 rfl (go_aloadN (pc := 7) d14_7 rfl (go_aloadN (pc := 8) d14_8 rfl (go_getA (pc := 9) fa_35 hm_14 d14_9 rfl (go_iloadN (pc := 12) d14_12 rfl ?_))))
  obtain ⟨a13, e2, hf⟩ := Option.bind_eq_some_iff.mp hf
  refine go_iaload (pc := 13) (q := 1) ar_1 rfl e2 d14_13 ?_
  refine go_priv (pc := 14) (i := 0) (as := [.int a13]) (rest := []) (w' := (none, [(22, s)])) lk_0_224 pd_13 rfl oid_0 rfl rfl rfl rfl rfl rfl ⟨rfl, rfl, rfl, rfl, rfl⟩ d14_14 (c_k_bitOf a13 s) ?_
  refine go_istoreN (pc := 17) (L' := [.val (.ref 1), .val (.int v1), .val (.int a5), .val (.int (k_bitOf a13))]) d14_17 rfl (go_iloadN (pc := 18) d14_18 rfl (go_bipush (pc := 19) d14_19 cb_12 ?_))
  by_cases h3 : a5 = (12 : Int32)
  · replace hf := (if_pos h3).symm.trans hf
    refine go_icN (pc := 21) d14_21 (XT.ii_ne_f h3) ?_
    cases hf
    exact go_ret (pc := 24) rfl d14_24
  · replace hf := (if_neg h3).symm.trans hf
    refine go_icY (pc := 21) (pc' := 25) d14_21 (XT.ii_ne_t h3) j_21_4 ?_
    refine go_iloadN (pc := 25) d14_25 rfl (go_bipush (pc := 26) d14_26 cb_8 ?_)
    by_cases h4 : a5 = (8 : Int32)
    · replace hf := (if_pos h4).symm.trans hf
      refine go_icN (pc := 28) d14_28 (XT.ii_ne_f h4) ?_
      refine go_aloadN (pc := 31) d14_31 rfl (go_iloadN (pc := 32) d14_32 rfl (go_iloadN (pc := 33) d14_33 rfl ?_))
      exact nomatch hf
    · replace hf := (if_neg h4).symm.trans hf
      refine go_icY (pc := 28) (pc' := 38) d14_28 (XT.ii_ne_t h4) j_28_10 ?_
      refine go_iloadN (pc := 38) d14_38 rfl (go_bipush (pc := 39) d14_39 cb_9 ?_)
      by_cases h5 : a5 = (9 : Int32)
      · replace hf := (if_pos h5).symm.trans hf
        refine go_icN (pc := 41) d14_41 (XT.ii_ne_f h5) ?_
        refine go_aloadN (pc := 44) d14_44 rfl (go_getA (pc := 45) fa_87 hm_14 d14_45 rfl (go_iloadN (pc := 48) d14_48 rfl (go_aloadN (pc := 49) d14_49 rfl (go_getA (pc := 50) fa_44 hm_14 d14_50 rfl (go_iloadN (pc := 53) d14_53 rfl ?_)))))
        obtain ⟨a54, e13, hf⟩ := Option.bind_eq_some_iff.mp hf
        refine go_iaload (pc := 54) (q := 4) ar_4 rfl e13 d14_54 ?_
        obtain ⟨a55, e14, hf⟩ := Option.bind_eq_some_iff.mp hf
        refine go_iastore (pc := 55) (q := 18) ar_18 rfl hn_14 e14 d14_55 ?_
        cases hf
        exact go_ret (pc := 56) rfl d14_56
      · replace hf := (if_neg h5).symm.trans hf
        refine go_icY (pc := 41) (pc' := 57) d14_41 (XT.ii_ne_t h5) j_41_16 ?_
        refine go_iloadN (pc := 57) d14_57 rfl (go_bipush (pc := 58) d14_58 cb_11 ?_)
        by_cases h6 : a5 = (11 : Int32)
        · replace hf := (if_pos h6).symm.trans hf
          refine go_icN (pc := 60) d14_60 (XT.ii_ne_f h6) ?_
          refine go_aloadN (pc := 63) d14_63 rfl (go_getA (pc := 64) fa_87 hm_14 d14_64 rfl (go_iloadN (pc := 67) d14_67 rfl (go_iloadN (pc := 68) d14_68 rfl (go_iconst (pc := 69) d14_69 ci_1 (go_iadd (pc := 70) d14_70 ?_)))))
          obtain ⟨a71, e9, hf⟩ := Option.bind_eq_some_iff.mp hf
          refine go_iastore (pc := 71) (q := 18) ar_18 rfl hn_14 e9 d14_71 ?_
          refine go_aloadN (pc := 72) d14_72 rfl (go_getA (pc := 73) fa_93 hm_14 d14_73 rfl (go_iloadN (pc := 76) d14_76 rfl (go_iloadN (pc := 77) d14_77 rfl ?_)))
          obtain ⟨a78, e10, hf⟩ := Option.bind_eq_some_iff.mp hf
          refine go_iastore (pc := 78) (q := 20) ar_20 rfl hn_14 e10 d14_78 ?_
          refine go_aloadN (pc := 79) d14_79 rfl (go_getA (pc := 80) fa_90 hm_14 d14_80 rfl (go_iloadN (pc := 83) d14_83 rfl (go_aloadN (pc := 84) d14_84 rfl (go_getA (pc := 85) fa_44 hm_14 d14_85 rfl (go_iloadN (pc := 88) d14_88 rfl ?_)))))
          obtain ⟨a89, e11, hf⟩ := Option.bind_eq_some_iff.mp hf
          refine go_iaload (pc := 89) (q := 4) ar_4 rfl e11 d14_89 ?_
          refine go_iconst (pc := 90) d14_90 ci_1 (go_iadd (pc := 91) d14_91 ?_)
          obtain ⟨a92, e12, hf⟩ := Option.bind_eq_some_iff.mp hf
          refine go_iastore (pc := 92) (q := 19) ar_19 rfl hn_14 e12 d14_92 ?_
          cases hf
          exact go_ret (pc := 93) rfl d14_93
        · replace hf := (if_neg h6).symm.trans hf
          refine go_icY (pc := 60) (pc' := 94) d14_60 (XT.ii_ne_t h6) j_60_34 ?_
          refine go_iloadN (pc := 94) d14_94 rfl (go_bipush (pc := 95) d14_95 cb_10 ?_)
          by_cases h7 : a5 = (10 : Int32)
          · replace hf := (if_pos h7).symm.trans hf
            refine go_icN (pc := 97) d14_97 (XT.ii_ne_f h7) ?_
            refine go_aloadN (pc := 100) d14_100 rfl (go_iloadN (pc := 101) d14_101 rfl ?_)
            exact nomatch hf
          · replace hf := (if_neg h7).symm.trans hf
            refine go_icY (pc := 97) (pc' := 106) d14_97 (XT.ii_ne_t h7) j_97_9 ?_
            refine go_aloadN (pc := 106) d14_106 rfl (go_getA (pc := 107) fa_87 hm_14 d14_107 rfl (go_iloadN (pc := 110) d14_110 rfl (go_iloadN (pc := 111) d14_111 rfl (go_iconst (pc := 112) d14_112 ci_1 (go_iadd (pc := 113) d14_113 ?_)))))
            obtain ⟨a114, e8, hf⟩ := Option.bind_eq_some_iff.mp hf
            refine go_iastore (pc := 114) (q := 18) ar_18 rfl hn_14 e8 d14_114 ?_
            cases hf
            exact go_ret (pc := 115) rfl d14_115
theorem c_k_edgesOf (v1 : Int32) (s : S) (o : S) (hf : k_edgesOf v1 s = some o) : Call PP m14 [.ref 1, .int v1] (none, [(22, s)]) (none, (none, [(22, o)])) := call_of_go pl_0 rfl (fun _ => rfl) (k_edgesOf_ok v1 s   _ hf)
set_option maxRecDepth 65536 in
set_option maxHeartbeats 4000000 in
theorem k_buildEdges_44_ok  : ∀ (n : Nat) (v1 : Int32) (s : S)  (o : S), k_buildEdges_44 n v1 s = some o → Go PP m15 44 [.val (.ref 1), .val (.int v1)] [] (none, [(22, s)]) (none, (none, [(22, o)])) := by
  intro n
  induction n with
  | zero => intro v1 s o hf; exact nomatch hf
  | succ n ih =>
    intro v1 s o hf
    unfold k_buildEdges_44 at hf
    refine go_iloadN (pc := 44) d15_44 rfl (go_aloadN (pc := 45) d15_45 rfl (go_getI (pc := 46) fs_102 hm_15 d15_46 ?_))
    by_cases h1 : v1 < (gI s 8)
    · replace hf := (if_pos h1).symm.trans hf
      refine go_icN (pc := 49) d15_49 (XT.ii_ge_f h1) ?_
      refine go_iloadN (pc := 52) d15_52 rfl (go_bipush (pc := 53) d15_53 cb_32 ?_)
      by_cases h2 : v1 < (32 : Int32)
      · replace hf := (if_pos h2).symm.trans hf
        refine go_icN (pc := 55) d15_55 (XT.ii_ge_f h2) ?_
        refine go_aloadN (pc := 58) d15_58 rfl (go_iloadN (pc := 59) d15_59 rfl ?_)
        obtain ⟨r60, e3, hf⟩ := Option.bind_eq_some_iff.mp hf
        refine go_priv (pc := 60) (i := 0) (as := [.int v1]) (rest := []) (w' := (none, [(22, r60)])) lk_0_227 pd_14 rfl oid_0 rfl rfl rfl rfl rfl rfl ⟨rfl, rfl, rfl, rfl, rfl⟩ d15_60 (c_k_edgesOf v1 s _ e3) ?_
        refine go_iinc (pc := 63) (L' := [.val (.ref 1), .val (.int (v1 + (1 : Int32)))]) d15_63 rfl ci_1 rfl (go_goto (pc := 66) (pc' := 44) d15_66 j_66_m22 ?_)
        exact ih (v1 + (1 : Int32)) r60 _ hf
      · replace hf := (if_neg h2).symm.trans hf
        refine go_icY (pc := 55) (pc' := 69) d15_55 (XT.ii_ge_t h2) j_55_14 ?_
        cases hf
        exact go_ret (pc := 69) rfl d15_69
    · replace hf := (if_neg h1).symm.trans hf
      refine go_icY (pc := 49) (pc' := 69) d15_49 (XT.ii_ge_t h1) j_49_20 ?_
      cases hf
      exact go_ret (pc := 69) rfl d15_69
set_option maxRecDepth 65536 in
set_option maxHeartbeats 4000000 in
theorem k_buildEdges_42_ok  : ∀  (s : S) (x1 : Slot) (hx1 : k1 x1) (o : S), k_buildEdges_42 s = some o → Go PP m15 42 [.val (.ref 1), x1] [] (none, [(22, s)]) (none, (none, [(22, o)])) := by
  intro s x1 hx1 o hf
  unfold k_buildEdges_42 at hf
  refine go_iconst (pc := 42) d15_42 ci_0 (go_istoreN (pc := 43) (L' := [.val (.ref 1), .val (.int (0 : Int32))]) d15_43 (stx rfl hx1 rfl) ?_)
  exact k_buildEdges_44_ok BIG (0 : Int32) s _ hf
set_option maxRecDepth 65536 in
set_option maxHeartbeats 4000000 in
theorem k_buildEdges_2_ok  : ∀ (n : Nat) (v1 : Int32) (s : S)  (o : S), k_buildEdges_2 n v1 s = some o → Go PP m15 2 [.val (.ref 1), .val (.int v1)] [] (none, [(22, s)]) (none, (none, [(22, o)])) := by
  intro n
  induction n with
  | zero => intro v1 s o hf; exact nomatch hf
  | succ n ih =>
    intro v1 s o hf
    unfold k_buildEdges_2 at hf
    refine go_iloadN (pc := 2) d15_2 rfl (go_bipush (pc := 3) d15_3 cb_33 ?_)
    by_cases h1 : v1 < (33 : Int32)
    · replace hf := (if_pos h1).symm.trans hf
      refine go_icN (pc := 5) d15_5 (XT.ii_ge_f h1) ?_
      refine go_aloadN (pc := 8) d15_8 rfl (go_getA (pc := 9) fa_87 hm_15 d15_9 rfl (go_iloadN (pc := 12) d15_12 rfl (go_iconst (pc := 13) d15_13 ci_m1 ?_)))
      obtain ⟨a14, e2, hf⟩ := Option.bind_eq_some_iff.mp hf
      refine go_iastore (pc := 14) (q := 18) ar_18 rfl hn_15 e2 d15_14 ?_
      refine go_aloadN (pc := 15) d15_15 rfl (go_getA (pc := 16) fa_90 hm_15 d15_16 rfl (go_iloadN (pc := 19) d15_19 rfl (go_iconst (pc := 20) d15_20 ci_m1 ?_)))
      obtain ⟨a21, e3, hf⟩ := Option.bind_eq_some_iff.mp hf
      refine go_iastore (pc := 21) (q := 19) ar_19 rfl hn_15 e3 d15_21 ?_
      refine go_aloadN (pc := 22) d15_22 rfl (go_getA (pc := 23) fa_93 hm_15 d15_23 rfl (go_iloadN (pc := 26) d15_26 rfl (go_iconst (pc := 27) d15_27 ci_0 ?_)))
      obtain ⟨a28, e4, hf⟩ := Option.bind_eq_some_iff.mp hf
      refine go_iastore (pc := 28) (q := 20) ar_20 rfl hn_15 e4 d15_28 ?_
      refine go_aloadN (pc := 29) d15_29 rfl (go_getA (pc := 30) fa_96 hm_15 d15_30 rfl (go_iloadN (pc := 33) d15_33 rfl (go_iconst (pc := 34) d15_34 ci_0 ?_)))
      obtain ⟨a35, e5, hf⟩ := Option.bind_eq_some_iff.mp hf
      refine go_iastore (pc := 35) (q := 21) ar_21 rfl hn_15 e5 d15_35 ?_
      refine go_iinc (pc := 36) (L' := [.val (.ref 1), .val (.int (v1 + (1 : Int32)))]) d15_36 rfl ci_1 rfl (go_goto (pc := 39) (pc' := 2) d15_39 j_39_m37 ?_)
      exact ih (v1 + (1 : Int32)) (sA (sA (sA (sA s 18 a14) 19 a21) 20 a28) 21 a35) _ hf
    · replace hf := (if_neg h1).symm.trans hf
      refine go_icY (pc := 5) (pc' := 42) d15_5 (XT.ii_ge_t h1) j_5_37 ?_
      exact k_buildEdges_42_ok s (.val (.int v1)) (Or.inr ⟨_, rfl, rfl⟩) _ hf
set_option maxRecDepth 65536 in
set_option maxHeartbeats 4000000 in
theorem k_buildEdges_ok  : ∀  (s : S)  (o : S), k_buildEdges s = some o → Go PP m15 0 [.val (.ref 1), .unset] [] (none, [(22, s)]) (none, (none, [(22, o)])) := by
  intro s o hf
  unfold k_buildEdges at hf
  refine go_iconst (pc := 0) d15_0 ci_0 (go_istoreN (pc := 1) (L' := [.val (.ref 1), .val (.int (0 : Int32))]) d15_1 rfl ?_)
  exact k_buildEdges_2_ok BIG (0 : Int32) s _ hf
theorem c_k_buildEdges (s : S) (o : S) (hf : k_buildEdges s = some o) : Call PP m15 [.ref 1] (none, [(22, s)]) (none, (none, [(22, o)])) := call_of_go pl_0 rfl (fun _ => rfl) (k_buildEdges_ok s   _ hf)
set_option maxRecDepth 65536 in
set_option maxHeartbeats 4000000 in
theorem k_hasFact_ok  {s : S} : ∀ (v1 : Int32) (v2 : Int32)   (o : Int32), k_hasFact v1 v2 = o → Go PP m16 0 [.val (.ref 1), .val (.int v1), .val (.int v2)] [] (none, [(22, s)]) (some (.int o), (none, [(22, s)])) := by
  intro v1 v2 o hf
  unfold k_hasFact at hf
  refine go_iloadN (pc := 0) d16_0 rfl (go_aloadN (pc := 1) d16_1 rfl (go_iloadN (pc := 2) d16_2 rfl ?_))
  refine go_priv (pc := 3) (i := 0) (as := [.int v2]) (rest := [.int v1]) (w' := (none, [(22, s)])) lk_0_224 pd_13 rfl oid_0 rfl rfl rfl rfl rfl rfl ⟨rfl, rfl, rfl, rfl, rfl⟩ d16_3 (c_k_bitOf v2 s) ?_
  refine go_iand (pc := 6) d16_6 ?_
  by_cases h1 : (v1 &&& (k_bitOf v2)) = 0
  · replace hf := (if_pos h1).symm.trans hf
    refine go_ifY (pc := 7) (pc' := 14) d16_7 (XT.i0_eq_t h1) j_7_7 ?_
    refine go_iconst (pc := 14) d16_14 ci_0 ?_
    cases hf
    exact go_zret (pc := 15) rfl d16_15 (show (0 : Int32) = nar .boolean (0 : Int32) by decide)
  · replace hf := (if_neg h1).symm.trans hf
    refine go_ifN (pc := 7) d16_7 (XT.i0_eq_f h1) ?_
    refine go_iconst (pc := 10) d16_10 ci_1 (go_goto (pc := 11) (pc' := 15) d16_11 j_11_4 ?_)
    cases hf
    exact go_zret (pc := 15) rfl d16_15 (show (1 : Int32) = nar .boolean (1 : Int32) by decide)
theorem c_k_hasFact (v1 : Int32) (v2 : Int32) (s : S) : Call PP m16 [.ref 1, .int v1, .int v2] (none, [(22, s)]) (some (.int (k_hasFact v1 v2)), (none, [(22, s)])) := call_of_go pl_0 rfl (fun h => nomatch h) (k_hasFact_ok v1 v2   _ rfl)
set_option maxRecDepth 65536 in
set_option maxHeartbeats 4000000 in
theorem k_withFact_ok  {s : S} : ∀ (v1 : Int32) (v2 : Int32) (v3 : Int32)   (o : Int32), k_withFact v1 v2 v3 = o → Go PP m17 0 [.val (.ref 1), .val (.int v1), .val (.int v2), .val (.int v3), .unset] [] (none, [(22, s)]) (some (.int o), (none, [(22, s)])) := by
  intro v1 v2 v3 o hf
  unfold k_withFact at hf
  refine go_iloadN (pc := 0) d17_0 rfl (go_aloadN (pc := 1) d17_1 rfl (go_iloadN (pc := 2) d17_2 rfl ?_))
  refine go_priv (pc := 3) (i := 0) (as := [.int v2]) (rest := [.int v1]) (w' := (none, [(22, s)])) lk_0_224 pd_13 rfl oid_0 rfl rfl rfl rfl rfl rfl ⟨rfl, rfl, rfl, rfl, rfl⟩ d17_3 (c_k_bitOf v2 s) ?_
  refine go_iconst (pc := 6) d17_6 ci_m1 (go_ixor (pc := 7) d17_7 (go_iand (pc := 8) d17_8 (go_istore (pc := 9) (L' := [.val (.ref 1), .val (.int v1), .val (.int v2), .val (.int v3), .val (.int (v1 &&& ((k_bitOf v2) ^^^ (-1 : Int32))))]) d17_9 rfl (go_iloadN (pc := 11) d17_11 rfl ?_))))
  by_cases h1 : v3 = 0
  · replace hf := (if_pos h1).symm.trans hf
    refine go_ifY (pc := 12) (pc' := 24) d17_12 (XT.i0_eq_t h1) j_12_12 ?_
    refine go_iload (pc := 24) d17_24 rfl ?_
    cases hf
    exact go_iret (pc := 26) rfl d17_26
  · replace hf := (if_neg h1).symm.trans hf
    refine go_ifN (pc := 12) d17_12 (XT.i0_eq_f h1) ?_
    refine go_iload (pc := 15) d17_15 rfl (go_aloadN (pc := 17) d17_17 rfl (go_iloadN (pc := 18) d17_18 rfl ?_))
    refine go_priv (pc := 19) (i := 0) (as := [.int v2]) (rest := [.int (v1 &&& ((k_bitOf v2) ^^^ (-1 : Int32)))]) (w' := (none, [(22, s)])) lk_0_224 pd_13 rfl oid_0 rfl rfl rfl rfl rfl rfl ⟨rfl, rfl, rfl, rfl, rfl⟩ d17_19 (c_k_bitOf v2 s) ?_
    refine go_ior (pc := 22) d17_22 ?_
    cases hf
    exact go_iret (pc := 23) rfl d17_23
theorem c_k_withFact (v1 : Int32) (v2 : Int32) (v3 : Int32) (s : S) : Call PP m17 [.ref 1, .int v1, .int v2, .int v3] (none, [(22, s)]) (some (.int (k_withFact v1 v2 v3)), (none, [(22, s)])) := call_of_go pl_0 rfl (fun h => nomatch h) (k_withFact_ok v1 v2 v3   _ rfl)
set_option maxRecDepth 65536 in
set_option maxHeartbeats 4000000 in
theorem k_transferLoad_24_ok  {s : S} : ∀ (v2 : Int32) (v5 : Int32)  (x1 : Slot) (x3 : Slot) (x4 : Slot) (hx1 : k1 x1) (hx3 : k1 x3) (hx4 : k1 x4) (o : Int32), k_transferLoad_24 v2 v5 = o → Go PP m18 24 [.val (.ref 1), x1, .val (.int v2), x3, x4, .val (.int v5)] [] (none, [(22, s)]) (some (.int o), (none, [(22, s)])) := by
  intro v2 v5 x1 x3 x4 hx1 hx3 hx4 o hf
  unfold k_transferLoad_24 at hf
  refine go_aloadN (pc := 24) d18_24 rfl (go_iload (pc := 25) d18_25 rfl (go_iloadN (pc := 27) d18_27 rfl (go_iconst (pc := 28) d18_28 ci_0 ?_)))
  refine go_priv (pc := 29) (i := 0) (as := [.int v5, .int v2, .int (0 : Int32)]) (rest := []) (w' := (none, [(22, s)])) lk_0_251 pd_17 rfl oid_0 rfl rfl rfl rfl rfl rfl ⟨rfl, rfl, rfl, rfl, rfl⟩ d18_29 (c_k_withFact v5 v2 (0 : Int32) s) ?_
  cases hf
  exact go_iret (pc := 32) rfl d18_32
set_option maxRecDepth 65536 in
set_option maxHeartbeats 4000000 in
theorem k_transferLoad_ok  {s : S} : ∀ (v1 : Int32) (v2 : Int32) (v3 : Int32) (v4 : Int32)   (o : Int32), k_transferLoad v1 v2 v3 v4 = o → Go PP m18 0 [.val (.ref 1), .val (.int v1), .val (.int v2), .val (.int v3), .val (.int v4), .unset] [] (none, [(22, s)]) (some (.int o), (none, [(22, s)])) := by
  intro v1 v2 v3 v4 o hf
  unfold k_transferLoad at hf
  refine go_iloadN (pc := 0) d18_0 rfl (go_istore (pc := 1) (L' := [.val (.ref 1), .val (.int v1), .val (.int v2), .val (.int v3), .val (.int v4), .val (.int v1)]) d18_1 rfl (go_iload (pc := 3) d18_3 rfl ?_))
  by_cases h1 : v4 < 0
  · refine go_ifY (pc := 5) (pc' := 24) d18_5 (XT.i0_lt_t h1) j_5_19 ?_
    exact k_transferLoad_24_ok v2 v1 (.val (.int v1)) (.val (.int v3)) (.val (.int v4)) (Or.inr ⟨_, rfl, rfl⟩) (Or.inr ⟨_, rfl, rfl⟩) (Or.inr ⟨_, rfl, rfl⟩) _ (by simpa only [if_pos h1] using hf)
  · refine go_ifN (pc := 5) d18_5 (XT.i0_lt_f h1) ?_
    refine go_iload (pc := 8) d18_8 rfl (go_bipush (pc := 10) d18_10 cb_7 ?_)
    by_cases h2 : (7 : Int32) < v4
    · refine go_icY (pc := 12) (pc' := 24) d18_12 (XT.ii_gt_t h2) j_12_12 ?_
      exact k_transferLoad_24_ok v2 v1 (.val (.int v1)) (.val (.int v3)) (.val (.int v4)) (Or.inr ⟨_, rfl, rfl⟩) (Or.inr ⟨_, rfl, rfl⟩) (Or.inr ⟨_, rfl, rfl⟩) _ (by simpa only [if_neg h1, if_pos h2] using hf)
    · refine go_icN (pc := 12) d18_12 (XT.ii_gt_f h2) ?_
      refine go_iloadN (pc := 15) d18_15 rfl (go_aloadN (pc := 16) d18_16 rfl (go_iloadN (pc := 17) d18_17 rfl (go_priv (pc := 18) (i := 0) (as := [.int v3]) (rest := [.int v1]) (w' := (none, [(22, s)])) lk_0_224 pd_13 rfl oid_0 rfl rfl rfl rfl rfl rfl ⟨rfl, rfl, rfl, rfl, rfl⟩ d18_18 (c_k_bitOf v3 s) (go_ior (pc := 21) d18_21 (go_istore (pc := 22) (L' := [.val (.ref 1), .val (.int v1), .val (.int v2), .val (.int v3), .val (.int v4), .val (.int (v1 ||| (k_bitOf v3)))]) d18_22 rfl ?_)))))
      exact k_transferLoad_24_ok v2 (v1 ||| (k_bitOf v3)) (.val (.int v1)) (.val (.int v3)) (.val (.int v4)) (Or.inr ⟨_, rfl, rfl⟩) (Or.inr ⟨_, rfl, rfl⟩) (Or.inr ⟨_, rfl, rfl⟩) _ (by simpa only [if_neg h1, if_neg h2] using hf)
theorem c_k_transferLoad (v1 : Int32) (v2 : Int32) (v3 : Int32) (v4 : Int32) (s : S) : Call PP m18 [.ref 1, .int v1, .int v2, .int v3, .int v4] (none, [(22, s)]) (some (.int (k_transferLoad v1 v2 v3 v4)), (none, [(22, s)])) := call_of_go pl_0 rfl (fun h => nomatch h) (k_transferLoad_ok v1 v2 v3 v4   _ rfl)
set_option maxRecDepth 65536 in
set_option maxHeartbeats 4000000 in
theorem k_transferStore_ok  {s : S} : ∀ (v1 : Int32) (v2 : Int32) (v3 : Int32)   (o : Int32), k_transferStore v1 v2 v3 = o → Go PP m19 0 [.val (.ref 1), .val (.int v1), .val (.int v2), .val (.int v3)] [] (none, [(22, s)]) (some (.int o), (none, [(22, s)])) := by
  intro v1 v2 v3 o hf
  unfold k_transferStore at hf
  refine go_iloadN (pc := 0) d19_0 rfl ?_
  by_cases h1 : v3 < 0
  · replace hf := (if_pos h1).symm.trans hf
    refine go_ifY (pc := 1) (pc' := 18) d19_1 (XT.i0_lt_t h1) j_1_17 ?_
    refine go_iloadN (pc := 18) d19_18 rfl ?_
    cases hf
    exact go_iret (pc := 19) rfl d19_19
  · replace hf := (if_neg h1).symm.trans hf
    refine go_ifN (pc := 1) d19_1 (XT.i0_lt_f h1) ?_
    refine go_iloadN (pc := 4) d19_4 rfl (go_bipush (pc := 5) d19_5 cb_7 ?_)
    by_cases h2 : (7 : Int32) < v3
    · replace hf := (if_pos h2).symm.trans hf
      refine go_icY (pc := 7) (pc' := 18) d19_7 (XT.ii_gt_t h2) j_7_11 ?_
      refine go_iloadN (pc := 18) d19_18 rfl ?_
      cases hf
      exact go_iret (pc := 19) rfl d19_19
    · replace hf := (if_neg h2).symm.trans hf
      refine go_icN (pc := 7) d19_7 (XT.ii_gt_f h2) ?_
      refine go_iloadN (pc := 10) d19_10 rfl (go_aloadN (pc := 11) d19_11 rfl (go_iloadN (pc := 12) d19_12 rfl ?_))
      refine go_priv (pc := 13) (i := 0) (as := [.int v2]) (rest := [.int v1]) (w' := (none, [(22, s)])) lk_0_224 pd_13 rfl oid_0 rfl rfl rfl rfl rfl rfl ⟨rfl, rfl, rfl, rfl, rfl⟩ d19_13 (c_k_bitOf v2 s) ?_
      refine go_ior (pc := 16) d19_16 ?_
      cases hf
      exact go_iret (pc := 17) rfl d19_17
theorem c_k_transferStore (v1 : Int32) (v2 : Int32) (v3 : Int32) (s : S) : Call PP m19 [.ref 1, .int v1, .int v2, .int v3] (none, [(22, s)]) (some (.int (k_transferStore v1 v2 v3)), (none, [(22, s)])) := call_of_go pl_0 rfl (fun h => nomatch h) (k_transferStore_ok v1 v2 v3   _ rfl)
set_option maxRecDepth 65536 in
set_option maxHeartbeats 4000000 in
theorem k_transfer_131_ok  : ∀ (p0 : Int32) (p1 : Int32) (p2 : Int32) (s : S) (x1 : Slot) (x2 : Slot) (x3 : Slot) (x4 : Slot) (x5 : Slot) (x6 : Slot) (x7 : Slot) (hx1 : k1 x1) (hx2 : k1 x2) (hx3 : k1 x3) (hx4 : k1 x4) (hx5 : k1 x5) (hx6 : k1 x6) (hx7 : k1 x7) (o : Int32), k_transfer_131 p0 p1 p2 s = some o → Go PP m20 131 [.val (.ref 1), x1, x2, x3, x4, x5, x6, x7] [.int p0, .int p1, .int p2, .ref 1] (none, [(22, s)]) (some (.int o), (none, [(22, s)])) := by
  intro p0 p1 p2 s x1 x2 x3 x4 x5 x6 x7 hx1 hx2 hx3 hx4 hx5 hx6 hx7 o hf
  unfold k_transfer_131 at hf
  refine go_priv (pc := 131) (i := 0) (as := [.int p2, .int p1, .int p0]) (rest := []) (w' := (none, [(22, s)])) lk_0_251 pd_17 rfl oid_0 rfl rfl rfl rfl rfl rfl ⟨rfl, rfl, rfl, rfl, rfl⟩ d20_131 (c_k_withFact p2 p1 p0 s) ?_
  cases hf
  exact go_iret (pc := 134) rfl d20_134
set_option maxRecDepth 65536 in
set_option maxHeartbeats 4000000 in
theorem k_transfer_98_ok  : ∀ (p0 : Int32) (p1 : Int32) (p2 : Int32) (s : S) (x1 : Slot) (x2 : Slot) (x3 : Slot) (x4 : Slot) (x5 : Slot) (x6 : Slot) (x7 : Slot) (hx1 : k1 x1) (hx2 : k1 x2) (hx3 : k1 x3) (hx4 : k1 x4) (hx5 : k1 x5) (hx6 : k1 x6) (hx7 : k1 x7) (o : Int32), k_transfer_98 p0 p1 p2 s = some o → Go PP m20 98 [.val (.ref 1), x1, x2, x3, x4, x5, x6, x7] [.int p0, .int p1, .int p2, .ref 1] (none, [(22, s)]) (some (.int o), (none, [(22, s)])) := by
  intro p0 p1 p2 s x1 x2 x3 x4 x5 x6 x7 hx1 hx2 hx3 hx4 hx5 hx6 hx7 o hf
  unfold k_transfer_98 at hf
  refine go_priv (pc := 98) (i := 0) (as := [.int p2, .int p1, .int p0]) (rest := []) (w' := (none, [(22, s)])) lk_0_251 pd_17 rfl oid_0 rfl rfl rfl rfl rfl rfl ⟨rfl, rfl, rfl, rfl, rfl⟩ d20_98 (c_k_withFact p2 p1 p0 s) ?_
  cases hf
  exact go_iret (pc := 101) rfl d20_101
set_option maxRecDepth 65536 in
set_option maxHeartbeats 4000000 in
theorem k_transfer_ok  : ∀ (v1 : Int32) (v2 : Int32) (s : S)  (o : Int32), k_transfer v1 v2 s = some o → Go PP m20 0 [.val (.ref 1), .val (.int v1), .val (.int v2), .unset, .unset, .unset, .unset, .unset] [] (none, [(22, s)]) (some (.int o), (none, [(22, s)])) := by
  intro v1 v2 s o hf
  unfold k_transfer at hf
  refine go_aloadN (pc := 0) d20_0 rfl (go_getA (pc := 1) fa_31 hm_20 d20_1 rfl (go_iloadN (pc := 4) d20_4 rfl ?_))
  obtain ⟨a5, e1, hf⟩ := Option.bind_eq_some_iff.mp hf
  refine go_iaload (pc := 5) (q := 0) ar_0 rfl e1 d20_5 ?_
  refine go_istoreN (pc := 6) (L' := [.val (.ref 1), .val (.int v1), .val (.int v2), .val (.int a5), .unset, .unset, .unset, .unset]) d20_6 rfl (go_aloadN (pc := 7) d20_7 rfl (go_getA (pc := 8) fa_35 hm_20 d20_8 rfl (go_iloadN (pc := 11) d20_11 rfl ?_)))
  obtain ⟨a12, e2, hf⟩ := Option.bind_eq_some_iff.mp hf
  refine go_iaload (pc := 12) (q := 1) ar_1 rfl e2 d20_12 ?_
  refine go_bipush (pc := 13) d20_13 cb_7 (go_iand (pc := 15) d20_15 (go_istore (pc := 16) (L' := [.val (.ref 1), .val (.int v1), .val (.int v2), .val (.int a5), .val (.int (a12 &&& (7 : Int32))), .unset, .unset, .unset]) d20_16 rfl (go_aloadN (pc := 18) d20_18 rfl (go_getA (pc := 19) fa_38 hm_20 d20_19 rfl (go_iloadN (pc := 22) d20_22 rfl ?_)))))
  obtain ⟨a23, e3, hf⟩ := Option.bind_eq_some_iff.mp hf
  refine go_iaload (pc := 23) (q := 2) ar_2 rfl e3 d20_23 ?_
  refine go_istore (pc := 24) (L' := [.val (.ref 1), .val (.int v1), .val (.int v2), .val (.int a5), .val (.int (a12 &&& (7 : Int32))), .val (.int a23), .unset, .unset]) d20_24 rfl (go_aloadN (pc := 26) d20_26 rfl (go_getA (pc := 27) fa_41 hm_20 d20_27 rfl (go_iloadN (pc := 30) d20_30 rfl ?_)))
  obtain ⟨a31, e4, hf⟩ := Option.bind_eq_some_iff.mp hf
  refine go_iaload (pc := 31) (q := 3) ar_3 rfl e4 d20_31 ?_
  refine go_istore (pc := 32) (L' := [.val (.ref 1), .val (.int v1), .val (.int v2), .val (.int a5), .val (.int (a12 &&& (7 : Int32))), .val (.int a23), .val (.int a31), .unset]) d20_32 rfl (go_aloadN (pc := 34) d20_34 rfl (go_iloadN (pc := 35) d20_35 rfl (go_iload (pc := 36) d20_36 rfl (go_bipush (pc := 38) d20_38 cb_7 (go_iand (pc := 40) d20_40 ?_)))))
  refine go_priv (pc := 41) (i := 0) (as := [.int v2, .int (a23 &&& (7 : Int32))]) (rest := []) (w' := (none, [(22, s)])) lk_0_248 pd_16 rfl oid_0 rfl rfl rfl rfl rfl rfl ⟨rfl, rfl, rfl, rfl, rfl⟩ d20_41 (c_k_hasFact v2 (a23 &&& (7 : Int32)) s) ?_
  refine go_istore (pc := 44) (L' := [.val (.ref 1), .val (.int v1), .val (.int v2), .val (.int a5), .val (.int (a12 &&& (7 : Int32))), .val (.int a23), .val (.int a31), .val (.int (k_hasFact v2 (a23 &&& (7 : Int32))))]) d20_44 rfl (go_iloadN (pc := 46) d20_46 rfl ?_)
  by_cases h5 : a5 = 1
  · replace hf := (if_pos h5).symm.trans hf
    refine go_top h5 ?_
    refine go_tswIn (pc := 47) (pc' := 84) (o := 37) d20_47 (by decide) rfl j_47_37 ?_
    refine go_aloadN (pc := 84) d20_84 rfl (go_iloadN (pc := 85) d20_85 rfl (go_iload (pc := 86) d20_86 rfl (go_iload (pc := 88) d20_88 rfl ?_)))
    by_cases h6 : a23 = 0
    · refine go_ifY (pc := 90) (pc' := 97) d20_90 (XT.i0_eq_t h6) j_90_7 ?_
      refine go_iconst (pc := 97) d20_97 ci_0 ?_
      exact k_transfer_98_ok (0 : Int32) (a12 &&& (7 : Int32)) v2 s (.val (.int v1)) (.val (.int v2)) (.val (.int a5)) (.val (.int (a12 &&& (7 : Int32)))) (.val (.int a23)) (.val (.int a31)) (.val (.int (k_hasFact v2 (a23 &&& (7 : Int32))))) (Or.inr ⟨_, rfl, rfl⟩) (Or.inr ⟨_, rfl, rfl⟩) (Or.inr ⟨_, rfl, rfl⟩) (Or.inr ⟨_, rfl, rfl⟩) (Or.inr ⟨_, rfl, rfl⟩) (Or.inr ⟨_, rfl, rfl⟩) (Or.inr ⟨_, rfl, rfl⟩) _ (by simpa only [if_pos h6] using hf)
    · refine go_ifN (pc := 90) d20_90 (XT.i0_eq_f h6) ?_
      refine go_iconst (pc := 93) d20_93 ci_1 (go_goto (pc := 94) (pc' := 98) d20_94 j_94_4 ?_)
      exact k_transfer_98_ok (1 : Int32) (a12 &&& (7 : Int32)) v2 s (.val (.int v1)) (.val (.int v2)) (.val (.int a5)) (.val (.int (a12 &&& (7 : Int32)))) (.val (.int a23)) (.val (.int a31)) (.val (.int (k_hasFact v2 (a23 &&& (7 : Int32))))) (Or.inr ⟨_, rfl, rfl⟩) (Or.inr ⟨_, rfl, rfl⟩) (Or.inr ⟨_, rfl, rfl⟩) (Or.inr ⟨_, rfl, rfl⟩) (Or.inr ⟨_, rfl, rfl⟩) (Or.inr ⟨_, rfl, rfl⟩) (Or.inr ⟨_, rfl, rfl⟩) _ (by simpa only [if_neg h6] using hf)
  replace hf := (if_neg h5).symm.trans hf
  by_cases h7 : a5 = 2
  · replace hf := (if_pos h7).symm.trans hf
    refine go_top h7 ?_
    refine go_tswIn (pc := 47) (pc' := 102) (o := 55) d20_47 (by decide) rfl j_47_55 ?_
    refine go_aloadN (pc := 102) d20_102 rfl (go_iloadN (pc := 103) d20_103 rfl (go_iload (pc := 104) d20_104 rfl (go_iload (pc := 106) d20_106 rfl ?_)))
    refine go_priv (pc := 108) (i := 0) (as := [.int v2, .int (a12 &&& (7 : Int32)), .int (k_hasFact v2 (a23 &&& (7 : Int32)))]) (rest := []) (w' := (none, [(22, s)])) lk_0_251 pd_17 rfl oid_0 rfl rfl rfl rfl rfl rfl ⟨rfl, rfl, rfl, rfl, rfl⟩ d20_108 (c_k_withFact v2 (a12 &&& (7 : Int32)) (k_hasFact v2 (a23 &&& (7 : Int32))) s) ?_
    cases hf
    exact go_iret (pc := 111) rfl d20_111
  replace hf := (if_neg h7).symm.trans hf
  by_cases h8 : a5 = 3
  · replace hf := (if_pos h8).symm.trans hf
    refine go_top h8 ?_
    refine go_tswIn (pc := 47) (pc' := 112) (o := 65) d20_47 (by decide) rfl j_47_65 ?_
    refine go_aloadN (pc := 112) d20_112 rfl (go_iloadN (pc := 113) d20_113 rfl (go_iload (pc := 114) d20_114 rfl (go_iload (pc := 116) d20_116 rfl ?_)))
    by_cases h9 : a31 = 0
    · refine go_ifN (pc := 118) d20_118 (XT.i0_ne_f h9) ?_
      refine go_iload (pc := 121) d20_121 rfl ?_
      by_cases h10 : (k_hasFact v2 (a23 &&& (7 : Int32))) = 0
      · refine go_ifY (pc := 123) (pc' := 130) d20_123 (XT.i0_eq_t h10) j_123_7 ?_
        refine go_iconst (pc := 130) d20_130 ci_0 ?_
        exact k_transfer_131_ok (0 : Int32) (a12 &&& (7 : Int32)) v2 s (.val (.int v1)) (.val (.int v2)) (.val (.int a5)) (.val (.int (a12 &&& (7 : Int32)))) (.val (.int a23)) (.val (.int a31)) (.val (.int (k_hasFact v2 (a23 &&& (7 : Int32))))) (Or.inr ⟨_, rfl, rfl⟩) (Or.inr ⟨_, rfl, rfl⟩) (Or.inr ⟨_, rfl, rfl⟩) (Or.inr ⟨_, rfl, rfl⟩) (Or.inr ⟨_, rfl, rfl⟩) (Or.inr ⟨_, rfl, rfl⟩) (Or.inr ⟨_, rfl, rfl⟩) _ (by simpa only [if_pos h9, if_pos h10] using hf)
      · refine go_ifN (pc := 123) d20_123 (XT.i0_eq_f h10) ?_
        refine go_iconst (pc := 126) d20_126 ci_1 (go_goto (pc := 127) (pc' := 131) d20_127 j_127_4 ?_)
        exact k_transfer_131_ok (1 : Int32) (a12 &&& (7 : Int32)) v2 s (.val (.int v1)) (.val (.int v2)) (.val (.int a5)) (.val (.int (a12 &&& (7 : Int32)))) (.val (.int a23)) (.val (.int a31)) (.val (.int (k_hasFact v2 (a23 &&& (7 : Int32))))) (Or.inr ⟨_, rfl, rfl⟩) (Or.inr ⟨_, rfl, rfl⟩) (Or.inr ⟨_, rfl, rfl⟩) (Or.inr ⟨_, rfl, rfl⟩) (Or.inr ⟨_, rfl, rfl⟩) (Or.inr ⟨_, rfl, rfl⟩) (Or.inr ⟨_, rfl, rfl⟩) _ (by simpa only [if_pos h9, if_neg h10] using hf)
    · refine go_ifY (pc := 118) (pc' := 130) d20_118 (XT.i0_ne_t h9) j_118_12 ?_
      refine go_iconst (pc := 130) d20_130 ci_0 ?_
      exact k_transfer_131_ok (0 : Int32) (a12 &&& (7 : Int32)) v2 s (.val (.int v1)) (.val (.int v2)) (.val (.int a5)) (.val (.int (a12 &&& (7 : Int32)))) (.val (.int a23)) (.val (.int a31)) (.val (.int (k_hasFact v2 (a23 &&& (7 : Int32))))) (Or.inr ⟨_, rfl, rfl⟩) (Or.inr ⟨_, rfl, rfl⟩) (Or.inr ⟨_, rfl, rfl⟩) (Or.inr ⟨_, rfl, rfl⟩) (Or.inr ⟨_, rfl, rfl⟩) (Or.inr ⟨_, rfl, rfl⟩) (Or.inr ⟨_, rfl, rfl⟩) _ (by simpa only [if_neg h9] using hf)
  replace hf := (if_neg h8).symm.trans hf
  by_cases h11 : a5 = 4
  · replace hf := (if_pos h11).symm.trans hf
    refine go_top h11 ?_
    refine go_tswIn (pc := 47) (pc' := 135) (o := 88) d20_47 (by decide) rfl j_47_88 ?_
    refine go_aloadN (pc := 135) d20_135 rfl (go_iloadN (pc := 136) d20_136 rfl (go_iload (pc := 137) d20_137 rfl (go_iload (pc := 139) d20_139 rfl (go_bipush (pc := 141) d20_141 cb_7 (go_iand (pc := 143) d20_143 (go_iload (pc := 144) d20_144 rfl ?_))))))
    refine go_priv (pc := 146) (i := 0) (as := [.int v2, .int (a12 &&& (7 : Int32)), .int (a23 &&& (7 : Int32)), .int a31]) (rest := []) (w' := (none, [(22, s)])) lk_0_255 pd_18 rfl oid_0 rfl rfl rfl rfl rfl rfl ⟨rfl, rfl, rfl, rfl, rfl⟩ d20_146 (c_k_transferLoad v2 (a12 &&& (7 : Int32)) (a23 &&& (7 : Int32)) a31 s) ?_
    cases hf
    exact go_iret (pc := 149) rfl d20_149
  replace hf := (if_neg h11).symm.trans hf
  by_cases h12 : a5 = 5
  · replace hf := (if_pos h12).symm.trans hf
    refine go_top h12 ?_
    refine go_tswIn (pc := 47) (pc' := 150) (o := 103) d20_47 (by decide) rfl j_47_103 ?_
    refine go_aloadN (pc := 150) d20_150 rfl (go_iloadN (pc := 151) d20_151 rfl (go_iload (pc := 152) d20_152 rfl (go_iload (pc := 154) d20_154 rfl ?_)))
    refine go_priv (pc := 156) (i := 0) (as := [.int v2, .int (a12 &&& (7 : Int32)), .int a23]) (rest := []) (w' := (none, [(22, s)])) lk_0_259 pd_19 rfl oid_0 rfl rfl rfl rfl rfl rfl ⟨rfl, rfl, rfl, rfl, rfl⟩ d20_156 (c_k_transferStore v2 (a12 &&& (7 : Int32)) a23 s) ?_
    cases hf
    exact go_iret (pc := 159) rfl d20_159
  replace hf := (if_neg h12).symm.trans hf
  by_cases h13 : a5 = 6
  · replace hf := (if_pos h13).symm.trans hf
    refine go_top h13 ?_
    refine go_tswIn (pc := 47) (pc' := 160) (o := 113) d20_47 (by decide) rfl j_47_113 ?_
    refine go_iloadN (pc := 160) d20_160 rfl (go_aloadN (pc := 161) d20_161 rfl (go_iload (pc := 162) d20_162 rfl ?_))
    refine go_priv (pc := 164) (i := 0) (as := [.int (a12 &&& (7 : Int32))]) (rest := [.int v2]) (w' := (none, [(22, s)])) lk_0_224 pd_13 rfl oid_0 rfl rfl rfl rfl rfl rfl ⟨rfl, rfl, rfl, rfl, rfl⟩ d20_164 (c_k_bitOf (a12 &&& (7 : Int32)) s) ?_
    refine go_ior (pc := 167) d20_167 ?_
    cases hf
    exact go_iret (pc := 168) rfl d20_168
  replace hf := (if_neg h13).symm.trans hf
  have h1 : (a5).toInt < 1 ∨ (a5).toInt > 6 := tsw_out (by decide) (by decide) [(1 : Int32), (2 : Int32), (3 : Int32), (4 : Int32), (5 : Int32), (6 : Int32)] (by decide) (by simp [h5, h7, h8, h11, h12, h13])
  refine go_tswOut (pc := 47) (pc' := 169) d20_47 h1 j_47_122 ?_
  refine go_iloadN (pc := 169) d20_169 rfl ?_
  cases hf
  exact go_iret (pc := 170) rfl d20_170
theorem c_k_transfer (v1 : Int32) (v2 : Int32) (s : S) (o : Int32) (hf : k_transfer v1 v2 s = some o) : Call PP m20 [.ref 1, .int v1, .int v2] (none, [(22, s)]) (some (.int o), (none, [(22, s)])) := call_of_go pl_0 rfl (fun h => nomatch h) (k_transfer_ok v1 v2 s   _ hf)
set_option maxRecDepth 65536 in
set_option maxHeartbeats 4000000 in
theorem k_meetInto_ok  : ∀ (v1 : Int32) (v2 : Int32) (s : S)  (o : S), k_meetInto v1 v2 s = some o → Go PP m21 0 [.val (.ref 1), .val (.int v1), .val (.int v2)] [] (none, [(22, s)]) (none, (none, [(22, o)])) := by
  intro v1 v2 s o hf
  unfold k_meetInto at hf
  refine go_iloadN (pc := 0) d21_0 rfl ?_
  by_cases h1 : v1 < 0
  · replace hf := (if_pos h1).symm.trans hf
    refine go_ifY (pc := 1) (pc' := 10) d21_1 (XT.i0_lt_t h1) j_1_9 ?_
    cases hf
    exact go_ret (pc := 10) rfl d21_10
  · replace hf := (if_neg h1).symm.trans hf
    refine go_ifN (pc := 1) d21_1 (XT.i0_lt_f h1) ?_
    refine go_iloadN (pc := 4) d21_4 rfl (go_bipush (pc := 5) d21_5 cb_32 ?_)
    by_cases h2 : (32 : Int32) < v1
    · replace hf := (if_pos h2).symm.trans hf
      refine go_icN (pc := 7) d21_7 (XT.ii_le_f h2) ?_
      cases hf
      exact go_ret (pc := 10) rfl d21_10
    · replace hf := (if_neg h2).symm.trans hf
      refine go_icY (pc := 7) (pc' := 11) d21_7 (XT.ii_le_t h2) j_7_4 ?_
      refine go_aloadN (pc := 11) d21_11 rfl (go_getA (pc := 12) fa_84 hm_21 d21_12 rfl (go_iloadN (pc := 15) d21_15 rfl (go_aloadN (pc := 16) d21_16 rfl (go_getA (pc := 17) fa_84 hm_21 d21_17 rfl (go_iloadN (pc := 20) d21_20 rfl ?_)))))
      obtain ⟨a21, e3, hf⟩ := Option.bind_eq_some_iff.mp hf
      refine go_iaload (pc := 21) (q := 17) ar_17 rfl e3 d21_21 ?_
      refine go_iloadN (pc := 22) d21_22 rfl (go_iand (pc := 23) d21_23 ?_)
      obtain ⟨a24, e4, hf⟩ := Option.bind_eq_some_iff.mp hf
      refine go_iastore (pc := 24) (q := 17) ar_17 rfl hn_21 e4 d21_24 ?_
      cases hf
      exact go_ret (pc := 25) rfl d21_25
theorem c_k_meetInto (v1 : Int32) (v2 : Int32) (s : S) (o : S) (hf : k_meetInto v1 v2 s = some o) : Call PP m21 [.ref 1, .int v1, .int v2] (none, [(22, s)]) (none, (none, [(22, o)])) := call_of_go pl_0 rfl (fun _ => rfl) (k_meetInto_ok v1 v2 s   _ hf)
set_option maxRecDepth 65536 in
set_option maxHeartbeats 4000000 in
theorem k_propagate_ok  : ∀ (v1 : Int32) (s : S)  (o : S), k_propagate v1 s = some o → Go PP m22 0 [.val (.ref 1), .val (.int v1), .unset] [] (none, [(22, s)]) (none, (none, [(22, o)])) := by
  intro v1 s o hf
  unfold k_propagate at hf
  refine go_aloadN (pc := 0) d22_0 rfl (go_iloadN (pc := 1) d22_1 rfl (go_aloadN (pc := 2) d22_2 rfl (go_getA (pc := 3) fa_81 hm_22 d22_3 rfl (go_iloadN (pc := 6) d22_6 rfl ?_))))
  obtain ⟨a7, e1, hf⟩ := Option.bind_eq_some_iff.mp hf
  refine go_iaload (pc := 7) (q := 16) ar_16 rfl e1 d22_7 ?_
  obtain ⟨r8, e2, hf⟩ := Option.bind_eq_some_iff.mp hf
  refine go_priv (pc := 8) (i := 0) (as := [.int v1, .int a7]) (rest := []) (w' := (none, [(22, s)])) lk_0_242 pd_20 rfl oid_0 rfl rfl rfl rfl rfl rfl ⟨rfl, rfl, rfl, rfl, rfl⟩ d22_8 (c_k_transfer v1 a7 s _ e2) ?_
  refine go_istoreN (pc := 11) (L' := [.val (.ref 1), .val (.int v1), .val (.int r8)]) d22_11 rfl (go_aloadN (pc := 12) d22_12 rfl (go_aloadN (pc := 13) d22_13 rfl (go_getA (pc := 14) fa_87 hm_22 d22_14 rfl (go_iloadN (pc := 17) d22_17 rfl ?_))))
  obtain ⟨a18, e3, hf⟩ := Option.bind_eq_some_iff.mp hf
  refine go_iaload (pc := 18) (q := 18) ar_18 rfl e3 d22_18 ?_
  refine go_iloadN (pc := 19) d22_19 rfl (go_aloadN (pc := 20) d22_20 rfl (go_getA (pc := 21) fa_93 hm_22 d22_21 rfl (go_iloadN (pc := 24) d22_24 rfl ?_)))
  obtain ⟨a25, e4, hf⟩ := Option.bind_eq_some_iff.mp hf
  refine go_iaload (pc := 25) (q := 20) ar_20 rfl e4 d22_25 ?_
  refine go_ior (pc := 26) d22_26 ?_
  obtain ⟨r27, e5, hf⟩ := Option.bind_eq_some_iff.mp hf
  refine go_priv (pc := 27) (i := 0) (as := [.int a18, .int (r8 ||| a25)]) (rest := []) (w' := (none, [(22, r27)])) lk_0_245 pd_21 rfl oid_0 rfl rfl rfl rfl rfl rfl ⟨rfl, rfl, rfl, rfl, rfl⟩ d22_27 (c_k_meetInto a18 (r8 ||| a25) s _ e5) ?_
  refine go_aloadN (pc := 30) d22_30 rfl (go_aloadN (pc := 31) d22_31 rfl (go_getA (pc := 32) fa_90 hm_22 d22_32 rfl (go_iloadN (pc := 35) d22_35 rfl ?_)))
  obtain ⟨a36, e6, hf⟩ := Option.bind_eq_some_iff.mp hf
  refine go_iaload (pc := 36) (q := 19) ar_19 rfl e6 d22_36 ?_
  refine go_iloadN (pc := 37) d22_37 rfl (go_aloadN (pc := 38) d22_38 rfl (go_getA (pc := 39) fa_96 hm_22 d22_39 rfl (go_iloadN (pc := 42) d22_42 rfl ?_)))
  obtain ⟨a43, e7, hf⟩ := Option.bind_eq_some_iff.mp hf
  refine go_iaload (pc := 43) (q := 21) ar_21 rfl e7 d22_43 ?_
  refine go_ior (pc := 44) d22_44 ?_
  obtain ⟨r45, e8, hf⟩ := Option.bind_eq_some_iff.mp hf
  refine go_priv (pc := 45) (i := 0) (as := [.int a36, .int (r8 ||| a43)]) (rest := []) (w' := (none, [(22, r45)])) lk_0_245 pd_21 rfl oid_0 rfl rfl rfl rfl rfl rfl ⟨rfl, rfl, rfl, rfl, rfl⟩ d22_45 (c_k_meetInto a36 (r8 ||| a43) r27 _ e8) ?_
  cases hf
  exact go_ret (pc := 48) rfl d22_48
theorem c_k_propagate (v1 : Int32) (s : S) (o : S) (hf : k_propagate v1 s = some o) : Call PP m22 [.ref 1, .int v1] (none, [(22, s)]) (none, (none, [(22, o)])) := call_of_go pl_0 rfl (fun _ => rfl) (k_propagate_ok v1 s   _ hf)
set_option maxRecDepth 65536 in
set_option maxHeartbeats 4000000 in
theorem k_relaxOnce_61_ok  : ∀ (n : Nat) (v1 : Int32) (v2 : Int32) (s : S)  (o : Int32 × S), k_relaxOnce_61 n v1 v2 s = some o → Go PP m23 61 [.val (.ref 1), .val (.int v1), .val (.int v2)] [] (none, [(22, s)]) (some (.int o.1), (none, [(22, o.2)])) := by
  intro n
  induction n with
  | zero => intro v1 v2 s o hf; exact nomatch hf
  | succ n ih =>
    intro v1 v2 s o hf
    unfold k_relaxOnce_61 at hf
    refine go_iloadN (pc := 61) d23_61 rfl (go_bipush (pc := 62) d23_62 cb_33 ?_)
    by_cases h1 : v2 < (33 : Int32)
    · replace hf := (if_pos h1).symm.trans hf
      refine go_icN (pc := 64) d23_64 (XT.ii_ge_f h1) ?_
      refine go_aloadN (pc := 67) d23_67 rfl (go_getA (pc := 68) fa_84 hm_23 d23_68 rfl (go_iloadN (pc := 71) d23_71 rfl ?_))
      obtain ⟨a72, e2, hf⟩ := Option.bind_eq_some_iff.mp hf
      refine go_iaload (pc := 72) (q := 17) ar_17 rfl e2 d23_72 ?_
      refine go_aloadN (pc := 73) d23_73 rfl (go_getA (pc := 74) fa_81 hm_23 d23_74 rfl (go_iloadN (pc := 77) d23_77 rfl ?_))
      obtain ⟨a78, e3, hf⟩ := Option.bind_eq_some_iff.mp hf
      refine go_iaload (pc := 78) (q := 16) ar_16 rfl e3 d23_78 ?_
      by_cases h4 : a72 = a78
      · replace hf := (if_pos h4).symm.trans hf
        refine go_icY (pc := 79) (pc' := 96) d23_79 (XT.ii_eq_t h4) j_79_17 ?_
        refine go_iinc (pc := 96) (L' := [.val (.ref 1), .val (.int v1), .val (.int (v2 + (1 : Int32)))]) d23_96 rfl ci_1 rfl (go_goto (pc := 99) (pc' := 61) d23_99 j_99_m38 ?_)
        exact ih v1 (v2 + (1 : Int32)) s _ hf
      · replace hf := (if_neg h4).symm.trans hf
        refine go_icN (pc := 79) d23_79 (XT.ii_eq_f h4) ?_
        refine go_iconst (pc := 82) d23_82 ci_1 (go_istoreN (pc := 83) (L' := [.val (.ref 1), .val (.int (1 : Int32)), .val (.int v2)]) d23_83 rfl (go_aloadN (pc := 84) d23_84 rfl (go_getA (pc := 85) fa_81 hm_23 d23_85 rfl (go_iloadN (pc := 88) d23_88 rfl (go_aloadN (pc := 89) d23_89 rfl (go_getA (pc := 90) fa_84 hm_23 d23_90 rfl (go_iloadN (pc := 93) d23_93 rfl ?_)))))))
        obtain ⟨a94, e5, hf⟩ := Option.bind_eq_some_iff.mp hf
        refine go_iaload (pc := 94) (q := 17) ar_17 rfl e5 d23_94 ?_
        obtain ⟨a95, e6, hf⟩ := Option.bind_eq_some_iff.mp hf
        refine go_iastore (pc := 95) (q := 16) ar_16 rfl hn_23 e6 d23_95 ?_
        refine go_iinc (pc := 96) (L' := [.val (.ref 1), .val (.int (1 : Int32)), .val (.int (v2 + (1 : Int32)))]) d23_96 rfl ci_1 rfl (go_goto (pc := 99) (pc' := 61) d23_99 j_99_m38 ?_)
        exact ih (1 : Int32) (v2 + (1 : Int32)) (sA s 16 a95) _ hf
    · replace hf := (if_neg h1).symm.trans hf
      refine go_icY (pc := 64) (pc' := 102) d23_64 (XT.ii_ge_t h1) j_64_38 ?_
      refine go_iloadN (pc := 102) d23_102 rfl ?_
      cases hf
      exact go_zret (pc := 103) rfl d23_103 rfl
set_option maxRecDepth 65536 in
set_option maxHeartbeats 4000000 in
theorem k_relaxOnce_57_ok  : ∀  (s : S) (x1 : Slot) (hx1 : k1 x1) (o : Int32 × S), k_relaxOnce_57 s = some o → Go PP m23 57 [.val (.ref 1), x1, .unset] [] (none, [(22, s)]) (some (.int o.1), (none, [(22, o.2)])) := by
  intro s x1 hx1 o hf
  unfold k_relaxOnce_57 at hf
  refine go_iconst (pc := 57) d23_57 ci_0 (go_istoreN (pc := 58) (L' := [.val (.ref 1), .val (.int (0 : Int32)), .unset]) d23_58 (stx rfl hx1 rfl) (go_iconst (pc := 59) d23_59 ci_0 (go_istoreN (pc := 60) (L' := [.val (.ref 1), .val (.int (0 : Int32)), .val (.int (0 : Int32))]) d23_60 rfl ?_)))
  exact k_relaxOnce_61_ok BIG (0 : Int32) (0 : Int32) s _ hf
set_option maxRecDepth 65536 in
set_option maxHeartbeats 4000000 in
theorem k_relaxOnce_32_ok  : ∀ (n : Nat) (v1 : Int32) (s : S)  (o : Int32 × S), k_relaxOnce_32 n v1 s = some o → Go PP m23 32 [.val (.ref 1), .val (.int v1), .unset] [] (none, [(22, s)]) (some (.int o.1), (none, [(22, o.2)])) := by
  intro n
  induction n with
  | zero => intro v1 s o hf; exact nomatch hf
  | succ n ih =>
    intro v1 s o hf
    unfold k_relaxOnce_32 at hf
    refine go_iloadN (pc := 32) d23_32 rfl (go_aloadN (pc := 33) d23_33 rfl (go_getI (pc := 34) fs_102 hm_23 d23_34 ?_))
    by_cases h1 : v1 < (gI s 8)
    · replace hf := (if_pos h1).symm.trans hf
      refine go_icN (pc := 37) d23_37 (XT.ii_ge_f h1) ?_
      refine go_iloadN (pc := 40) d23_40 rfl (go_bipush (pc := 41) d23_41 cb_32 ?_)
      by_cases h2 : v1 < (32 : Int32)
      · replace hf := (if_pos h2).symm.trans hf
        refine go_icN (pc := 43) d23_43 (XT.ii_ge_f h2) ?_
        refine go_aloadN (pc := 46) d23_46 rfl (go_iloadN (pc := 47) d23_47 rfl ?_)
        obtain ⟨r48, e3, hf⟩ := Option.bind_eq_some_iff.mp hf
        refine go_priv (pc := 48) (i := 0) (as := [.int v1]) (rest := []) (w' := (none, [(22, r48)])) lk_0_239 pd_22 rfl oid_0 rfl rfl rfl rfl rfl rfl ⟨rfl, rfl, rfl, rfl, rfl⟩ d23_48 (c_k_propagate v1 s _ e3) ?_
        refine go_iinc (pc := 51) (L' := [.val (.ref 1), .val (.int (v1 + (1 : Int32))), .unset]) d23_51 rfl ci_1 rfl (go_goto (pc := 54) (pc' := 32) d23_54 j_54_m22 ?_)
        exact ih (v1 + (1 : Int32)) r48 _ hf
      · replace hf := (if_neg h2).symm.trans hf
        refine go_icY (pc := 43) (pc' := 57) d23_43 (XT.ii_ge_t h2) j_43_14 ?_
        exact k_relaxOnce_57_ok s (.val (.int v1)) (Or.inr ⟨_, rfl, rfl⟩) _ hf
    · replace hf := (if_neg h1).symm.trans hf
      refine go_icY (pc := 37) (pc' := 57) d23_37 (XT.ii_ge_t h1) j_37_20 ?_
      exact k_relaxOnce_57_ok s (.val (.int v1)) (Or.inr ⟨_, rfl, rfl⟩) _ hf
set_option maxRecDepth 65536 in
set_option maxHeartbeats 4000000 in
theorem k_relaxOnce_23_ok  : ∀  (s : S) (x1 : Slot) (hx1 : k1 x1) (o : Int32 × S), k_relaxOnce_23 s = some o → Go PP m23 23 [.val (.ref 1), x1, .unset] [] (none, [(22, s)]) (some (.int o.1), (none, [(22, o.2)])) := by
  intro s x1 hx1 o hf
  unfold k_relaxOnce_23 at hf
  refine go_aloadN (pc := 23) d23_23 rfl (go_getA (pc := 24) fa_84 hm_23 d23_24 rfl (go_iconst (pc := 27) d23_27 ci_0 (go_iconst (pc := 28) d23_28 ci_0 ?_)))
  obtain ⟨a29, e1, hf⟩ := Option.bind_eq_some_iff.mp hf
  refine go_iastore (pc := 29) (q := 17) ar_17 rfl hn_23 e1 d23_29 ?_
  refine go_iconst (pc := 30) d23_30 ci_0 (go_istoreN (pc := 31) (L' := [.val (.ref 1), .val (.int (0 : Int32)), .unset]) d23_31 (stx rfl hx1 rfl) ?_)
  exact k_relaxOnce_32_ok BIG (0 : Int32) (sA s 17 a29) _ hf
set_option maxRecDepth 65536 in
set_option maxHeartbeats 4000000 in
theorem k_relaxOnce_2_ok  : ∀ (n : Nat) (v1 : Int32) (s : S)  (o : Int32 × S), k_relaxOnce_2 n v1 s = some o → Go PP m23 2 [.val (.ref 1), .val (.int v1), .unset] [] (none, [(22, s)]) (some (.int o.1), (none, [(22, o.2)])) := by
  intro n
  induction n with
  | zero => intro v1 s o hf; exact nomatch hf
  | succ n ih =>
    intro v1 s o hf
    unfold k_relaxOnce_2 at hf
    refine go_iloadN (pc := 2) d23_2 rfl (go_bipush (pc := 3) d23_3 cb_33 ?_)
    by_cases h1 : v1 < (33 : Int32)
    · replace hf := (if_pos h1).symm.trans hf
      refine go_icN (pc := 5) d23_5 (XT.ii_ge_f h1) ?_
      refine go_aloadN (pc := 8) d23_8 rfl (go_getA (pc := 9) fa_84 hm_23 d23_9 rfl (go_iloadN (pc := 12) d23_12 rfl (go_sipush (pc := 13) d23_13 cs_255 ?_)))
      obtain ⟨a16, e2, hf⟩ := Option.bind_eq_some_iff.mp hf
      refine go_iastore (pc := 16) (q := 17) ar_17 rfl hn_23 e2 d23_16 ?_
      refine go_iinc (pc := 17) (L' := [.val (.ref 1), .val (.int (v1 + (1 : Int32))), .unset]) d23_17 rfl ci_1 rfl (go_goto (pc := 20) (pc' := 2) d23_20 j_20_m18 ?_)
      exact ih (v1 + (1 : Int32)) (sA s 17 a16) _ hf
    · replace hf := (if_neg h1).symm.trans hf
      refine go_icY (pc := 5) (pc' := 23) d23_5 (XT.ii_ge_t h1) j_5_18 ?_
      exact k_relaxOnce_23_ok s (.val (.int v1)) (Or.inr ⟨_, rfl, rfl⟩) _ hf
set_option maxRecDepth 65536 in
set_option maxHeartbeats 4000000 in
theorem k_relaxOnce_ok  : ∀  (s : S)  (o : Int32 × S), k_relaxOnce s = some o → Go PP m23 0 [.val (.ref 1), .unset, .unset] [] (none, [(22, s)]) (some (.int o.1), (none, [(22, o.2)])) := by
  intro s o hf
  unfold k_relaxOnce at hf
  refine go_iconst (pc := 0) d23_0 ci_0 (go_istoreN (pc := 1) (L' := [.val (.ref 1), .val (.int (0 : Int32)), .unset]) d23_1 rfl ?_)
  exact k_relaxOnce_2_ok BIG (0 : Int32) s _ hf
theorem c_k_relaxOnce (s : S) (o : Int32 × S) (hf : k_relaxOnce s = some o) : Call PP m23 [.ref 1] (none, [(22, s)]) (some (.int o.1), (none, [(22, o.2)])) := call_of_go pl_0 rfl (fun h => nomatch h) (k_relaxOnce_ok s   _ hf)
set_option maxRecDepth 65536 in
set_option maxHeartbeats 4000000 in
theorem k_solveFacts_32_ok  : ∀ (n : Nat) (v1 : Int32) (s : S)  (o : Int32 × S), k_solveFacts_32 n v1 s = some o → Go PP m24 32 [.val (.ref 1), .val (.int v1)] [] (none, [(22, s)]) (some (.int o.1), (none, [(22, o.2)])) := by
  intro n
  induction n with
  | zero => intro v1 s o hf; exact nomatch hf
  | succ n ih =>
    intro v1 s o hf
    unfold k_solveFacts_32 at hf
    refine go_iloadN (pc := 32) d24_32 rfl (go_sipush (pc := 33) d24_33 cs_300 ?_)
    by_cases h1 : v1 < (300 : Int32)
    · replace hf := (if_pos h1).symm.trans hf
      refine go_icN (pc := 36) d24_36 (XT.ii_ge_f h1) ?_
      refine go_aloadN (pc := 39) d24_39 rfl ?_
      obtain ⟨r40, e2, hf⟩ := Option.bind_eq_some_iff.mp hf
      refine go_priv (pc := 40) (i := 0) (as := []) (rest := []) (w' := (none, [(22, r40.2)])) lk_0_236 pd_23 rfl oid_0 rfl rfl rfl rfl rfl rfl ⟨rfl, rfl, rfl, rfl, rfl⟩ d24_40 (c_k_relaxOnce s _ e2) ?_
      by_cases h3 : r40.1 = 0
      · replace hf := (if_pos h3).symm.trans hf
        refine go_ifN (pc := 43) d24_43 (XT.i0_ne_f h3) ?_
        refine go_iconst (pc := 46) d24_46 ci_1 ?_
        cases hf
        exact go_zret (pc := 47) rfl d24_47 (show (1 : Int32) = nar .boolean (1 : Int32) by decide)
      · replace hf := (if_neg h3).symm.trans hf
        refine go_ifY (pc := 43) (pc' := 48) d24_43 (XT.i0_ne_t h3) j_43_5 ?_
        refine go_iinc (pc := 48) (L' := [.val (.ref 1), .val (.int (v1 + (1 : Int32)))]) d24_48 rfl ci_1 rfl (go_goto (pc := 51) (pc' := 32) d24_51 j_51_m19 ?_)
        exact ih (v1 + (1 : Int32)) r40.2 _ hf
    · replace hf := (if_neg h1).symm.trans hf
      refine go_icY (pc := 36) (pc' := 54) d24_36 (XT.ii_ge_t h1) j_36_18 ?_
      refine go_iconst (pc := 54) d24_54 ci_0 ?_
      cases hf
      exact go_zret (pc := 55) rfl d24_55 (show (0 : Int32) = nar .boolean (0 : Int32) by decide)
set_option maxRecDepth 65536 in
set_option maxHeartbeats 4000000 in
theorem k_solveFacts_23_ok  : ∀  (s : S) (x1 : Slot) (hx1 : k1 x1) (o : Int32 × S), k_solveFacts_23 s = some o → Go PP m24 23 [.val (.ref 1), x1] [] (none, [(22, s)]) (some (.int o.1), (none, [(22, o.2)])) := by
  intro s x1 hx1 o hf
  unfold k_solveFacts_23 at hf
  refine go_aloadN (pc := 23) d24_23 rfl (go_getA (pc := 24) fa_81 hm_24 d24_24 rfl (go_iconst (pc := 27) d24_27 ci_0 (go_iconst (pc := 28) d24_28 ci_0 ?_)))
  obtain ⟨a29, e1, hf⟩ := Option.bind_eq_some_iff.mp hf
  refine go_iastore (pc := 29) (q := 16) ar_16 rfl hn_24 e1 d24_29 ?_
  refine go_iconst (pc := 30) d24_30 ci_0 (go_istoreN (pc := 31) (L' := [.val (.ref 1), .val (.int (0 : Int32))]) d24_31 (stx rfl hx1 rfl) ?_)
  exact k_solveFacts_32_ok BIG (0 : Int32) (sA s 16 a29) _ hf
set_option maxRecDepth 65536 in
set_option maxHeartbeats 4000000 in
theorem k_solveFacts_2_ok  : ∀ (n : Nat) (v1 : Int32) (s : S)  (o : Int32 × S), k_solveFacts_2 n v1 s = some o → Go PP m24 2 [.val (.ref 1), .val (.int v1)] [] (none, [(22, s)]) (some (.int o.1), (none, [(22, o.2)])) := by
  intro n
  induction n with
  | zero => intro v1 s o hf; exact nomatch hf
  | succ n ih =>
    intro v1 s o hf
    unfold k_solveFacts_2 at hf
    refine go_iloadN (pc := 2) d24_2 rfl (go_bipush (pc := 3) d24_3 cb_33 ?_)
    by_cases h1 : v1 < (33 : Int32)
    · replace hf := (if_pos h1).symm.trans hf
      refine go_icN (pc := 5) d24_5 (XT.ii_ge_f h1) ?_
      refine go_aloadN (pc := 8) d24_8 rfl (go_getA (pc := 9) fa_81 hm_24 d24_9 rfl (go_iloadN (pc := 12) d24_12 rfl (go_sipush (pc := 13) d24_13 cs_255 ?_)))
      obtain ⟨a16, e2, hf⟩ := Option.bind_eq_some_iff.mp hf
      refine go_iastore (pc := 16) (q := 16) ar_16 rfl hn_24 e2 d24_16 ?_
      refine go_iinc (pc := 17) (L' := [.val (.ref 1), .val (.int (v1 + (1 : Int32)))]) d24_17 rfl ci_1 rfl (go_goto (pc := 20) (pc' := 2) d24_20 j_20_m18 ?_)
      exact ih (v1 + (1 : Int32)) (sA s 16 a16) _ hf
    · replace hf := (if_neg h1).symm.trans hf
      refine go_icY (pc := 5) (pc' := 23) d24_5 (XT.ii_ge_t h1) j_5_18 ?_
      exact k_solveFacts_23_ok s (.val (.int v1)) (Or.inr ⟨_, rfl, rfl⟩) _ hf
set_option maxRecDepth 65536 in
set_option maxHeartbeats 4000000 in
theorem k_solveFacts_ok  : ∀  (s : S)  (o : Int32 × S), k_solveFacts s = some o → Go PP m24 0 [.val (.ref 1), .unset] [] (none, [(22, s)]) (some (.int o.1), (none, [(22, o.2)])) := by
  intro s o hf
  unfold k_solveFacts at hf
  refine go_iconst (pc := 0) d24_0 ci_0 (go_istoreN (pc := 1) (L' := [.val (.ref 1), .val (.int (0 : Int32))]) d24_1 rfl ?_)
  exact k_solveFacts_2_ok BIG (0 : Int32) s _ hf
theorem c_k_solveFacts (s : S) (o : Int32 × S) (hf : k_solveFacts s = some o) : Call PP m24 [.ref 1] (none, [(22, s)]) (some (.int o.1), (none, [(22, o.2)])) := call_of_go pl_0 rfl (fun h => nomatch h) (k_solveFacts_ok s   _ hf)
set_option maxRecDepth 65536 in
set_option maxHeartbeats 4000000 in
theorem k_removeRedundant_2_ok  : ∀ (n : Nat) (v1 : Int32) (s : S)  (o : S), k_removeRedundant_2 n v1 s = some o → Go PP m25 2 [.val (.ref 1), .val (.int v1)] [] (none, [(22, s)]) (none, (none, [(22, o)])) := by
  intro n
  induction n with
  | zero => intro v1 s o hf; exact nomatch hf
  | succ n ih =>
    intro v1 s o hf
    unfold k_removeRedundant_2 at hf
    refine go_iloadN (pc := 2) d25_2 rfl (go_aloadN (pc := 3) d25_3 rfl (go_getI (pc := 4) fs_102 hm_25 d25_4 ?_))
    by_cases h1 : v1 < (gI s 8)
    · replace hf := (if_pos h1).symm.trans hf
      refine go_icN (pc := 7) d25_7 (XT.ii_ge_f h1) ?_
      refine go_iloadN (pc := 10) d25_10 rfl (go_bipush (pc := 11) d25_11 cb_32 ?_)
      by_cases h2 : v1 < (32 : Int32)
      · replace hf := (if_pos h2).symm.trans hf
        refine go_icN (pc := 13) d25_13 (XT.ii_ge_f h2) ?_
        refine go_aloadN (pc := 16) d25_16 rfl (go_getA (pc := 17) fa_31 hm_25 d25_17 rfl (go_iloadN (pc := 20) d25_20 rfl ?_))
        obtain ⟨a21, e3, hf⟩ := Option.bind_eq_some_iff.mp hf
        refine go_iaload (pc := 21) (q := 0) ar_0 rfl e3 d25_21 ?_
        refine go_bipush (pc := 22) d25_22 cb_6 ?_
        by_cases h4 : a21 = (6 : Int32)
        · replace hf := (if_pos h4).symm.trans hf
          refine go_icN (pc := 24) d25_24 (XT.ii_ne_f h4) ?_
          refine go_aloadN (pc := 27) d25_27 rfl (go_aloadN (pc := 28) d25_28 rfl (go_getA (pc := 29) fa_81 hm_25 d25_29 rfl (go_iloadN (pc := 32) d25_32 rfl ?_)))
          obtain ⟨a33, e5, hf⟩ := Option.bind_eq_some_iff.mp hf
          refine go_iaload (pc := 33) (q := 16) ar_16 rfl e5 d25_33 ?_
          refine go_aloadN (pc := 34) d25_34 rfl (go_getA (pc := 35) fa_35 hm_25 d25_35 rfl (go_iloadN (pc := 38) d25_38 rfl ?_))
          obtain ⟨a39, e6, hf⟩ := Option.bind_eq_some_iff.mp hf
          refine go_iaload (pc := 39) (q := 1) ar_1 rfl e6 d25_39 ?_
          refine go_priv (pc := 40) (i := 0) (as := [.int a33, .int a39]) (rest := []) (w' := (none, [(22, s)])) lk_0_248 pd_16 rfl oid_0 rfl rfl rfl rfl rfl rfl ⟨rfl, rfl, rfl, rfl, rfl⟩ d25_40 (c_k_hasFact a33 a39 s) ?_
          by_cases h7 : (k_hasFact a33 a39) = 0
          · replace hf := (if_pos h7).symm.trans hf
            refine go_ifY (pc := 43) (pc' := 53) d25_43 (XT.i0_eq_t h7) j_43_10 ?_
            refine go_iinc (pc := 53) (L' := [.val (.ref 1), .val (.int (v1 + (1 : Int32)))]) d25_53 rfl ci_1 rfl (go_goto (pc := 56) (pc' := 2) d25_56 j_56_m54 ?_)
            exact ih (v1 + (1 : Int32)) s _ hf
          · replace hf := (if_neg h7).symm.trans hf
            refine go_ifN (pc := 43) d25_43 (XT.i0_eq_f h7) ?_
            refine go_aloadN (pc := 46) d25_46 rfl (go_getA (pc := 47) fa_75 hm_25 d25_47 rfl (go_iloadN (pc := 50) d25_50 rfl (go_iconst (pc := 51) d25_51 ci_1 ?_)))
            obtain ⟨a52, e8, hf⟩ := Option.bind_eq_some_iff.mp hf
            refine go_bastore (pc := 52) (q := 14) ar_14 (by decide) rfl hn_25 (by decide) e8 d25_52 ?_
            refine go_iinc (pc := 53) (L' := [.val (.ref 1), .val (.int (v1 + (1 : Int32)))]) d25_53 rfl ci_1 rfl (go_goto (pc := 56) (pc' := 2) d25_56 j_56_m54 ?_)
            exact ih (v1 + (1 : Int32)) (sA s 14 a52) _ hf
        · replace hf := (if_neg h4).symm.trans hf
          refine go_icY (pc := 24) (pc' := 53) d25_24 (XT.ii_ne_t h4) j_24_29 ?_
          refine go_iinc (pc := 53) (L' := [.val (.ref 1), .val (.int (v1 + (1 : Int32)))]) d25_53 rfl ci_1 rfl (go_goto (pc := 56) (pc' := 2) d25_56 j_56_m54 ?_)
          exact ih (v1 + (1 : Int32)) s _ hf
      · replace hf := (if_neg h2).symm.trans hf
        refine go_icY (pc := 13) (pc' := 59) d25_13 (XT.ii_ge_t h2) j_13_46 ?_
        cases hf
        exact go_ret (pc := 59) rfl d25_59
    · replace hf := (if_neg h1).symm.trans hf
      refine go_icY (pc := 7) (pc' := 59) d25_7 (XT.ii_ge_t h1) j_7_52 ?_
      cases hf
      exact go_ret (pc := 59) rfl d25_59
set_option maxRecDepth 65536 in
set_option maxHeartbeats 4000000 in
theorem k_removeRedundant_ok  : ∀  (s : S)  (o : S), k_removeRedundant s = some o → Go PP m25 0 [.val (.ref 1), .unset] [] (none, [(22, s)]) (none, (none, [(22, o)])) := by
  intro s o hf
  unfold k_removeRedundant at hf
  refine go_iconst (pc := 0) d25_0 ci_0 (go_istoreN (pc := 1) (L' := [.val (.ref 1), .val (.int (0 : Int32))]) d25_1 rfl ?_)
  exact k_removeRedundant_2_ok BIG (0 : Int32) s _ hf
theorem c_k_removeRedundant (s : S) (o : S) (hf : k_removeRedundant s = some o) : Call PP m25 [.ref 1] (none, [(22, s)]) (none, (none, [(22, o)])) := call_of_go pl_0 rfl (fun _ => rfl) (k_removeRedundant_ok s   _ hf)
set_option maxRecDepth 65536 in
set_option maxHeartbeats 4000000 in
theorem k_hoistInvariant_2_ok  : ∀ (n : Nat) (v1 : Int32) (s : S)  (o : Unit), k_hoistInvariant_2 n v1 s = some o → Go PP m26 2 [.val (.ref 1), .val (.int v1)] [] (none, [(22, s)]) (none, (none, [(22, s)])) := by
  intro n
  induction n with
  | zero => intro v1 s o hf; exact nomatch hf
  | succ n ih =>
    intro v1 s o hf
    unfold k_hoistInvariant_2 at hf
    refine go_iloadN (pc := 2) d26_2 rfl (go_aloadN (pc := 3) d26_3 rfl (go_getI (pc := 4) fs_102 hm_26 d26_4 ?_))
    by_cases h1 : v1 < (gI s 8)
    · replace hf := (if_pos h1).symm.trans hf
      refine go_icN (pc := 7) d26_7 (XT.ii_ge_f h1) ?_
      refine go_iloadN (pc := 10) d26_10 rfl (go_bipush (pc := 11) d26_11 cb_32 ?_)
      by_cases h2 : v1 < (32 : Int32)
      · replace hf := (if_pos h2).symm.trans hf
        refine go_icN (pc := 13) d26_13 (XT.ii_ge_f h2) ?_
        refine go_aloadN (pc := 16) d26_16 rfl (go_getA (pc := 17) fa_31 hm_26 d26_17 rfl (go_iloadN (pc := 20) d26_20 rfl ?_))
        obtain ⟨a21, e3, hf⟩ := Option.bind_eq_some_iff.mp hf
        refine go_iaload (pc := 21) (q := 0) ar_0 rfl e3 d26_21 ?_
        refine go_bipush (pc := 22) d26_22 cb_11 ?_
        by_cases h4 : a21 = (11 : Int32)
        · replace hf := (if_pos h4).symm.trans hf
          refine go_icN (pc := 24) d26_24 (XT.ii_ne_f h4) ?_
          refine go_aloadN (pc := 27) d26_27 rfl (go_iloadN (pc := 28) d26_28 rfl ?_)
          exact nomatch hf
        · replace hf := (if_neg h4).symm.trans hf
          refine go_icY (pc := 24) (pc' := 32) d26_24 (XT.ii_ne_t h4) j_24_8 ?_
          refine go_iinc (pc := 32) (L' := [.val (.ref 1), .val (.int (v1 + (1 : Int32)))]) d26_32 rfl ci_1 rfl (go_goto (pc := 35) (pc' := 2) d26_35 j_35_m33 ?_)
          exact ih (v1 + (1 : Int32)) s _ hf
      · replace hf := (if_neg h2).symm.trans hf
        refine go_icY (pc := 13) (pc' := 38) d26_13 (XT.ii_ge_t h2) j_13_25 ?_
        cases hf
        exact go_ret (pc := 38) rfl d26_38
    · replace hf := (if_neg h1).symm.trans hf
      refine go_icY (pc := 7) (pc' := 38) d26_7 (XT.ii_ge_t h1) j_7_31 ?_
      cases hf
      exact go_ret (pc := 38) rfl d26_38
set_option maxRecDepth 65536 in
set_option maxHeartbeats 4000000 in
theorem k_hoistInvariant_ok  : ∀  (s : S)  (o : Unit), k_hoistInvariant s = some o → Go PP m26 0 [.val (.ref 1), .unset] [] (none, [(22, s)]) (none, (none, [(22, s)])) := by
  intro s o hf
  unfold k_hoistInvariant at hf
  refine go_iconst (pc := 0) d26_0 ci_0 (go_istoreN (pc := 1) (L' := [.val (.ref 1), .val (.int (0 : Int32))]) d26_1 rfl ?_)
  exact k_hoistInvariant_2_ok BIG (0 : Int32) s _ hf
theorem c_k_hoistInvariant (s : S) (o : Unit) (hf : k_hoistInvariant s = some o) : Call PP m26 [.ref 1] (none, [(22, s)]) (none, (none, [(22, s)])) := call_of_go pl_0 rfl (fun _ => rfl) (k_hoistInvariant_ok s   _ hf)
set_option maxRecDepth 65536 in
set_option maxHeartbeats 4000000 in
theorem k_dereferencesNext_ok  : ∀ (v1 : Int32) (s : S)  (o : Int32), k_dereferencesNext v1 s = some o → Go PP m27 0 [.val (.ref 1), .val (.int v1), .unset, .unset] [] (none, [(22, s)]) (some (.int o), (none, [(22, s)])) := by
  intro v1 s o hf
  unfold k_dereferencesNext at hf
  refine go_iloadN (pc := 0) d27_0 rfl (go_iconst (pc := 1) d27_1 ci_1 (go_iadd (pc := 2) d27_2 (go_istoreN (pc := 3) (L' := [.val (.ref 1), .val (.int v1), .val (.int (v1 + (1 : Int32))), .unset]) d27_3 rfl (go_iloadN (pc := 4) d27_4 rfl ?_))))
  by_cases h1 : (v1 + (1 : Int32)) < 0
  · replace hf := (if_pos h1).symm.trans hf
    refine go_ifY (pc := 5) (pc' := 14) d27_5 (XT.i0_lt_t h1) j_5_9 ?_
    refine go_iconst (pc := 14) d27_14 ci_0 ?_
    cases hf
    exact go_zret (pc := 15) rfl d27_15 (show (0 : Int32) = nar .boolean (0 : Int32) by decide)
  · replace hf := (if_neg h1).symm.trans hf
    refine go_ifN (pc := 5) d27_5 (XT.i0_lt_f h1) ?_
    refine go_iloadN (pc := 8) d27_8 rfl (go_bipush (pc := 9) d27_9 cb_32 ?_)
    by_cases h2 : (v1 + (1 : Int32)) < (32 : Int32)
    · replace hf := (if_pos h2).symm.trans hf
      refine go_icY (pc := 11) (pc' := 16) d27_11 (XT.ii_lt_t h2) j_11_5 ?_
      refine go_aloadN (pc := 16) d27_16 rfl (go_getA (pc := 17) fa_35 hm_27 d27_17 rfl (go_iloadN (pc := 20) d27_20 rfl ?_))
      obtain ⟨a21, e3, hf⟩ := Option.bind_eq_some_iff.mp hf
      refine go_iaload (pc := 21) (q := 1) ar_1 rfl e3 d27_21 ?_
      refine go_istoreN (pc := 22) (L' := [.val (.ref 1), .val (.int v1), .val (.int (v1 + (1 : Int32))), .val (.int a21)]) d27_22 rfl (go_aloadN (pc := 23) d27_23 rfl (go_getA (pc := 24) fa_31 hm_27 d27_24 rfl (go_iloadN (pc := 27) d27_27 rfl ?_)))
      obtain ⟨a28, e4, hf⟩ := Option.bind_eq_some_iff.mp hf
      refine go_iaload (pc := 28) (q := 0) ar_0 rfl e4 d27_28 ?_
      refine go_iconst (pc := 29) d27_29 ci_4 ?_
      by_cases h5 : a28 = (4 : Int32)
      · replace hf := (if_pos h5).symm.trans hf
        refine go_icN (pc := 30) d27_30 (XT.ii_ne_f h5) ?_
        refine go_aloadN (pc := 33) d27_33 rfl (go_getA (pc := 34) fa_38 hm_27 d27_34 rfl (go_iloadN (pc := 37) d27_37 rfl ?_))
        obtain ⟨a38, e14, hf⟩ := Option.bind_eq_some_iff.mp hf
        refine go_iaload (pc := 38) (q := 2) ar_2 rfl e14 d27_38 ?_
        refine go_iloadN (pc := 39) d27_39 rfl ?_
        by_cases h15 : a38 = a21
        · replace hf := (if_pos h15).symm.trans hf
          refine go_icN (pc := 40) d27_40 (XT.ii_ne_f h15) ?_
          refine go_aloadN (pc := 43) d27_43 rfl (go_getA (pc := 44) fa_41 hm_27 d27_44 rfl (go_iloadN (pc := 47) d27_47 rfl ?_))
          obtain ⟨a48, e16, hf⟩ := Option.bind_eq_some_iff.mp hf
          refine go_iaload (pc := 48) (q := 3) ar_3 rfl e16 d27_48 ?_
          by_cases h17 : a48 < 0
          · replace hf := (if_pos h17).symm.trans hf
            refine go_ifY (pc := 49) (pc' := 67) d27_49 (XT.i0_lt_t h17) j_49_18 ?_
            refine go_iconst (pc := 67) d27_67 ci_0 ?_
            cases hf
            exact go_zret (pc := 68) rfl d27_68 (show (0 : Int32) = nar .boolean (0 : Int32) by decide)
          · replace hf := (if_neg h17).symm.trans hf
            refine go_ifN (pc := 49) d27_49 (XT.i0_lt_f h17) ?_
            refine go_aloadN (pc := 52) d27_52 rfl (go_getA (pc := 53) fa_41 hm_27 d27_53 rfl (go_iloadN (pc := 56) d27_56 rfl ?_))
            obtain ⟨a57, e18, hf⟩ := Option.bind_eq_some_iff.mp hf
            refine go_iaload (pc := 57) (q := 3) ar_3 rfl e18 d27_57 ?_
            refine go_bipush (pc := 58) d27_58 cb_7 ?_
            by_cases h19 : (7 : Int32) < a57
            · replace hf := (if_pos h19).symm.trans hf
              refine go_icY (pc := 60) (pc' := 67) d27_60 (XT.ii_gt_t h19) j_60_7 ?_
              refine go_iconst (pc := 67) d27_67 ci_0 ?_
              cases hf
              exact go_zret (pc := 68) rfl d27_68 (show (0 : Int32) = nar .boolean (0 : Int32) by decide)
            · replace hf := (if_neg h19).symm.trans hf
              refine go_icN (pc := 60) d27_60 (XT.ii_gt_f h19) ?_
              refine go_iconst (pc := 63) d27_63 ci_1 (go_goto (pc := 64) (pc' := 68) d27_64 j_64_4 ?_)
              cases hf
              exact go_zret (pc := 68) rfl d27_68 (show (1 : Int32) = nar .boolean (1 : Int32) by decide)
        · replace hf := (if_neg h15).symm.trans hf
          refine go_icY (pc := 40) (pc' := 67) d27_40 (XT.ii_ne_t h15) j_40_27 ?_
          refine go_iconst (pc := 67) d27_67 ci_0 ?_
          cases hf
          exact go_zret (pc := 68) rfl d27_68 (show (0 : Int32) = nar .boolean (0 : Int32) by decide)
      · replace hf := (if_neg h5).symm.trans hf
        refine go_icY (pc := 30) (pc' := 69) d27_30 (XT.ii_ne_t h5) j_30_39 ?_
        refine go_aloadN (pc := 69) d27_69 rfl (go_getA (pc := 70) fa_31 hm_27 d27_70 rfl (go_iloadN (pc := 73) d27_73 rfl ?_))
        obtain ⟨a74, e6, hf⟩ := Option.bind_eq_some_iff.mp hf
        refine go_iaload (pc := 74) (q := 0) ar_0 rfl e6 d27_74 ?_
        refine go_iconst (pc := 75) d27_75 ci_5 ?_
        by_cases h7 : a74 = (5 : Int32)
        · replace hf := (if_pos h7).symm.trans hf
          refine go_icN (pc := 76) d27_76 (XT.ii_ne_f h7) ?_
          refine go_aloadN (pc := 79) d27_79 rfl (go_getA (pc := 80) fa_35 hm_27 d27_80 rfl (go_iloadN (pc := 83) d27_83 rfl ?_))
          obtain ⟨a84, e8, hf⟩ := Option.bind_eq_some_iff.mp hf
          refine go_iaload (pc := 84) (q := 1) ar_1 rfl e8 d27_84 ?_
          refine go_iloadN (pc := 85) d27_85 rfl ?_
          by_cases h9 : a84 = a21
          · replace hf := (if_pos h9).symm.trans hf
            refine go_icN (pc := 86) d27_86 (XT.ii_ne_f h9) ?_
            refine go_aloadN (pc := 89) d27_89 rfl (go_getA (pc := 90) fa_38 hm_27 d27_90 rfl (go_iloadN (pc := 93) d27_93 rfl ?_))
            obtain ⟨a94, e10, hf⟩ := Option.bind_eq_some_iff.mp hf
            refine go_iaload (pc := 94) (q := 2) ar_2 rfl e10 d27_94 ?_
            by_cases h11 : a94 < 0
            · replace hf := (if_pos h11).symm.trans hf
              refine go_ifY (pc := 95) (pc' := 113) d27_95 (XT.i0_lt_t h11) j_95_18 ?_
              refine go_iconst (pc := 113) d27_113 ci_0 ?_
              cases hf
              exact go_zret (pc := 114) rfl d27_114 (show (0 : Int32) = nar .boolean (0 : Int32) by decide)
            · replace hf := (if_neg h11).symm.trans hf
              refine go_ifN (pc := 95) d27_95 (XT.i0_lt_f h11) ?_
              refine go_aloadN (pc := 98) d27_98 rfl (go_getA (pc := 99) fa_38 hm_27 d27_99 rfl (go_iloadN (pc := 102) d27_102 rfl ?_))
              obtain ⟨a103, e12, hf⟩ := Option.bind_eq_some_iff.mp hf
              refine go_iaload (pc := 103) (q := 2) ar_2 rfl e12 d27_103 ?_
              refine go_bipush (pc := 104) d27_104 cb_7 ?_
              by_cases h13 : (7 : Int32) < a103
              · replace hf := (if_pos h13).symm.trans hf
                refine go_icY (pc := 106) (pc' := 113) d27_106 (XT.ii_gt_t h13) j_106_7 ?_
                refine go_iconst (pc := 113) d27_113 ci_0 ?_
                cases hf
                exact go_zret (pc := 114) rfl d27_114 (show (0 : Int32) = nar .boolean (0 : Int32) by decide)
              · replace hf := (if_neg h13).symm.trans hf
                refine go_icN (pc := 106) d27_106 (XT.ii_gt_f h13) ?_
                refine go_iconst (pc := 109) d27_109 ci_1 (go_goto (pc := 110) (pc' := 114) d27_110 j_110_4 ?_)
                cases hf
                exact go_zret (pc := 114) rfl d27_114 (show (1 : Int32) = nar .boolean (1 : Int32) by decide)
          · replace hf := (if_neg h9).symm.trans hf
            refine go_icY (pc := 86) (pc' := 113) d27_86 (XT.ii_ne_t h9) j_86_27 ?_
            refine go_iconst (pc := 113) d27_113 ci_0 ?_
            cases hf
            exact go_zret (pc := 114) rfl d27_114 (show (0 : Int32) = nar .boolean (0 : Int32) by decide)
        · replace hf := (if_neg h7).symm.trans hf
          refine go_icY (pc := 76) (pc' := 115) d27_76 (XT.ii_ne_t h7) j_76_39 ?_
          refine go_iconst (pc := 115) d27_115 ci_0 ?_
          cases hf
          exact go_zret (pc := 116) rfl d27_116 (show (0 : Int32) = nar .boolean (0 : Int32) by decide)
    · replace hf := (if_neg h2).symm.trans hf
      refine go_icN (pc := 11) d27_11 (XT.ii_lt_f h2) ?_
      refine go_iconst (pc := 14) d27_14 ci_0 ?_
      cases hf
      exact go_zret (pc := 15) rfl d27_15 (show (0 : Int32) = nar .boolean (0 : Int32) by decide)
theorem c_k_dereferencesNext (v1 : Int32) (s : S) (o : Int32) (hf : k_dereferencesNext v1 s = some o) : Call PP m27 [.ref 1, .int v1] (none, [(22, s)]) (some (.int o), (none, [(22, s)])) := call_of_go pl_0 rfl (fun h => nomatch h) (k_dereferencesNext_ok v1 s   _ hf)
set_option maxRecDepth 65536 in
set_option maxHeartbeats 4000000 in
theorem k_foldImplicit_2_ok  : ∀ (n : Nat) (v1 : Int32) (s : S)  (o : S), k_foldImplicit_2 n v1 s = some o → Go PP m28 2 [.val (.ref 1), .val (.int v1)] [] (none, [(22, s)]) (none, (none, [(22, o)])) := by
  intro n
  induction n with
  | zero => intro v1 s o hf; exact nomatch hf
  | succ n ih =>
    intro v1 s o hf
    unfold k_foldImplicit_2 at hf
    refine go_iloadN (pc := 2) d28_2 rfl (go_iconst (pc := 3) d28_3 ci_1 (go_iadd (pc := 4) d28_4 (go_aloadN (pc := 5) d28_5 rfl (go_getI (pc := 6) fs_102 hm_28 d28_6 ?_))))
    by_cases h1 : (v1 + (1 : Int32)) < (gI s 8)
    · replace hf := (if_pos h1).symm.trans hf
      refine go_icN (pc := 9) d28_9 (XT.ii_ge_f h1) ?_
      refine go_iloadN (pc := 12) d28_12 rfl (go_iconst (pc := 13) d28_13 ci_1 (go_iadd (pc := 14) d28_14 (go_bipush (pc := 15) d28_15 cb_32 ?_)))
      by_cases h2 : (v1 + (1 : Int32)) < (32 : Int32)
      · replace hf := (if_pos h2).symm.trans hf
        refine go_icN (pc := 17) d28_17 (XT.ii_ge_f h2) ?_
        refine go_aloadN (pc := 20) d28_20 rfl (go_getA (pc := 21) fa_31 hm_28 d28_21 rfl (go_iloadN (pc := 24) d28_24 rfl ?_))
        obtain ⟨a25, e3, hf⟩ := Option.bind_eq_some_iff.mp hf
        refine go_iaload (pc := 25) (q := 0) ar_0 rfl e3 d28_25 ?_
        refine go_bipush (pc := 26) d28_26 cb_6 ?_
        by_cases h4 : a25 = (6 : Int32)
        · replace hf := (if_pos h4).symm.trans hf
          refine go_icN (pc := 28) d28_28 (XT.ii_ne_f h4) ?_
          refine go_aloadN (pc := 31) d28_31 rfl (go_getA (pc := 32) fa_75 hm_28 d28_32 rfl (go_iloadN (pc := 35) d28_35 rfl ?_))
          obtain ⟨a36, e5, hf⟩ := Option.bind_eq_some_iff.mp hf
          refine go_baload (pc := 36) (q := 14) ar_14 (by decide) rfl e5 d28_36 ?_
          by_cases h6 : a36 = 0
          · replace hf := (if_pos h6).symm.trans hf
            refine go_ifN (pc := 37) d28_37 (XT.i0_ne_f h6) ?_
            refine go_aloadN (pc := 40) d28_40 rfl (go_iloadN (pc := 41) d28_41 rfl ?_)
            obtain ⟨r42, e7, hf⟩ := Option.bind_eq_some_iff.mp hf
            refine go_priv (pc := 42) (i := 0) (as := [.int v1]) (rest := []) (w' := (none, [(22, s)])) lk_0_273 pd_27 rfl oid_0 rfl rfl rfl rfl rfl rfl ⟨rfl, rfl, rfl, rfl, rfl⟩ d28_42 (c_k_dereferencesNext v1 s _ e7) ?_
            by_cases h8 : r42 = 0
            · replace hf := (if_pos h8).symm.trans hf
              refine go_ifY (pc := 45) (pc' := 55) d28_45 (XT.i0_eq_t h8) j_45_10 ?_
              refine go_iinc (pc := 55) (L' := [.val (.ref 1), .val (.int (v1 + (1 : Int32)))]) d28_55 rfl ci_1 rfl (go_goto (pc := 58) (pc' := 2) d28_58 j_58_m56 ?_)
              exact ih (v1 + (1 : Int32)) s _ hf
            · replace hf := (if_neg h8).symm.trans hf
              refine go_ifN (pc := 45) d28_45 (XT.i0_eq_f h8) ?_
              refine go_aloadN (pc := 48) d28_48 rfl (go_getA (pc := 49) fa_75 hm_28 d28_49 rfl (go_iloadN (pc := 52) d28_52 rfl (go_iconst (pc := 53) d28_53 ci_1 ?_)))
              obtain ⟨a54, e9, hf⟩ := Option.bind_eq_some_iff.mp hf
              refine go_bastore (pc := 54) (q := 14) ar_14 (by decide) rfl hn_28 (by decide) e9 d28_54 ?_
              refine go_iinc (pc := 55) (L' := [.val (.ref 1), .val (.int (v1 + (1 : Int32)))]) d28_55 rfl ci_1 rfl (go_goto (pc := 58) (pc' := 2) d28_58 j_58_m56 ?_)
              exact ih (v1 + (1 : Int32)) (sA s 14 a54) _ hf
          · replace hf := (if_neg h6).symm.trans hf
            refine go_ifY (pc := 37) (pc' := 55) d28_37 (XT.i0_ne_t h6) j_37_18 ?_
            refine go_iinc (pc := 55) (L' := [.val (.ref 1), .val (.int (v1 + (1 : Int32)))]) d28_55 rfl ci_1 rfl (go_goto (pc := 58) (pc' := 2) d28_58 j_58_m56 ?_)
            exact ih (v1 + (1 : Int32)) s _ hf
        · replace hf := (if_neg h4).symm.trans hf
          refine go_icY (pc := 28) (pc' := 55) d28_28 (XT.ii_ne_t h4) j_28_27 ?_
          refine go_iinc (pc := 55) (L' := [.val (.ref 1), .val (.int (v1 + (1 : Int32)))]) d28_55 rfl ci_1 rfl (go_goto (pc := 58) (pc' := 2) d28_58 j_58_m56 ?_)
          exact ih (v1 + (1 : Int32)) s _ hf
      · replace hf := (if_neg h2).symm.trans hf
        refine go_icY (pc := 17) (pc' := 61) d28_17 (XT.ii_ge_t h2) j_17_44 ?_
        cases hf
        exact go_ret (pc := 61) rfl d28_61
    · replace hf := (if_neg h1).symm.trans hf
      refine go_icY (pc := 9) (pc' := 61) d28_9 (XT.ii_ge_t h1) j_9_52 ?_
      cases hf
      exact go_ret (pc := 61) rfl d28_61
set_option maxRecDepth 65536 in
set_option maxHeartbeats 4000000 in
theorem k_foldImplicit_ok  : ∀  (s : S)  (o : S), k_foldImplicit s = some o → Go PP m28 0 [.val (.ref 1), .unset] [] (none, [(22, s)]) (none, (none, [(22, o)])) := by
  intro s o hf
  unfold k_foldImplicit at hf
  refine go_iconst (pc := 0) d28_0 ci_0 (go_istoreN (pc := 1) (L' := [.val (.ref 1), .val (.int (0 : Int32))]) d28_1 rfl ?_)
  exact k_foldImplicit_2_ok BIG (0 : Int32) s _ hf
theorem c_k_foldImplicit (s : S) (o : S) (hf : k_foldImplicit s = some o) : Call PP m28 [.ref 1] (none, [(22, s)]) (none, (none, [(22, o)])) := call_of_go pl_0 rfl (fun _ => rfl) (k_foldImplicit_ok s   _ hf)
set_option maxRecDepth 65536 in
set_option maxHeartbeats 4000000 in
theorem k_optimise_21_ok  : ∀  (s : S) (x1 : Slot) (hx1 : k1 x1) (o : S), k_optimise_21 s = some o → Go PP m29 21 [.val (.ref 1), x1] [] (none, [(22, s)]) (none, (none, [(22, o)])) := by
  intro s x1 hx1 o hf
  unfold k_optimise_21 at hf
  refine go_aloadN (pc := 21) d29_21 rfl ?_
  obtain ⟨r22, e1, hf⟩ := Option.bind_eq_some_iff.mp hf
  refine go_priv (pc := 22) (i := 0) (as := []) (rest := []) (w' := (none, [(22, s)])) lk_0_218 pd_26 rfl oid_0 rfl rfl rfl rfl rfl rfl ⟨rfl, rfl, rfl, rfl, rfl⟩ d29_22 (c_k_hoistInvariant s _ e1) ?_
  refine go_aloadN (pc := 25) d29_25 rfl ?_
  obtain ⟨r26, e2, hf⟩ := Option.bind_eq_some_iff.mp hf
  refine go_priv (pc := 26) (i := 0) (as := []) (rest := []) (w' := (none, [(22, r26)])) lk_0_221 pd_28 rfl oid_0 rfl rfl rfl rfl rfl rfl ⟨rfl, rfl, rfl, rfl, rfl⟩ d29_26 (c_k_foldImplicit s _ e2) ?_
  cases hf
  exact go_ret (pc := 29) rfl d29_29
set_option maxRecDepth 65536 in
set_option maxHeartbeats 4000000 in
theorem k_optimise_ok  : ∀  (s : S)  (o : S), k_optimise s = some o → Go PP m29 0 [.val (.ref 1), .unset] [] (none, [(22, s)]) (none, (none, [(22, o)])) := by
  intro s o hf
  unfold k_optimise at hf
  refine go_aloadN (pc := 0) d29_0 rfl ?_
  obtain ⟨r1, e1, hf⟩ := Option.bind_eq_some_iff.mp hf
  refine go_priv (pc := 1) (i := 0) (as := []) (rest := []) (w' := (none, [(22, r1)])) lk_0_160 pd_12 rfl oid_0 rfl rfl rfl rfl rfl rfl ⟨rfl, rfl, rfl, rfl, rfl⟩ d29_1 (c_k_clearMarks s _ e1) ?_
  refine go_aloadN (pc := 4) d29_4 rfl ?_
  obtain ⟨r5, e2, hf⟩ := Option.bind_eq_some_iff.mp hf
  refine go_priv (pc := 5) (i := 0) (as := []) (rest := []) (w' := (none, [(22, r5)])) lk_0_208 pd_15 rfl oid_0 rfl rfl rfl rfl rfl rfl ⟨rfl, rfl, rfl, rfl, rfl⟩ d29_5 (c_k_buildEdges r1 _ e2) ?_
  refine go_aloadN (pc := 8) d29_8 rfl ?_
  obtain ⟨r9, e3, hf⟩ := Option.bind_eq_some_iff.mp hf
  refine go_priv (pc := 9) (i := 0) (as := []) (rest := []) (w' := (none, [(22, r9.2)])) lk_0_211 pd_24 rfl oid_0 rfl rfl rfl rfl rfl rfl ⟨rfl, rfl, rfl, rfl, rfl⟩ d29_9 (c_k_solveFacts r5 _ e3) ?_
  refine go_istoreN (pc := 12) (L' := [.val (.ref 1), .val (.int r9.1)]) d29_12 rfl (go_iloadN (pc := 13) d29_13 rfl ?_)
  by_cases h4 : r9.1 = 0
  · replace hf := (if_pos h4).symm.trans hf
    refine go_ifY (pc := 14) (pc' := 21) d29_14 (XT.i0_eq_t h4) j_14_7 ?_
    exact k_optimise_21_ok r9.2 (.val (.int r9.1)) (Or.inr ⟨_, rfl, rfl⟩) _ hf
  · replace hf := (if_neg h4).symm.trans hf
    refine go_ifN (pc := 14) d29_14 (XT.i0_eq_f h4) ?_
    refine go_aloadN (pc := 17) d29_17 rfl ?_
    obtain ⟨r18, e5, hf⟩ := Option.bind_eq_some_iff.mp hf
    refine go_priv (pc := 18) (i := 0) (as := []) (rest := []) (w' := (none, [(22, r18)])) lk_0_215 pd_25 rfl oid_0 rfl rfl rfl rfl rfl rfl ⟨rfl, rfl, rfl, rfl, rfl⟩ d29_18 (c_k_removeRedundant r9.2 _ e5) ?_
    exact k_optimise_21_ok r18 (.val (.int r9.1)) (Or.inr ⟨_, rfl, rfl⟩) _ hf
theorem c_k_optimise (s : S) (o : S) (hf : k_optimise s = some o) : Call PP m29 [.ref 1] (none, [(22, s)]) (none, (none, [(22, o)])) := call_of_go pl_0 rfl (fun _ => rfl) (k_optimise_ok s   _ hf)
set_option maxRecDepth 65536 in
set_option maxHeartbeats 4000000 in
theorem k_finish_ok  : ∀ (v1 : Int32) (v2 : Int32) (s : S)  (o : S), k_finish v1 v2 s = o → Go PP m30 0 [.val (.ref 1), .val (.int v1), .val (.int v2)] [] (none, [(22, s)]) (none, (none, [(22, o)])) := by
  intro v1 v2 s o hf
  unfold k_finish at hf
  refine go_aloadN (pc := 0) d30_0 rfl (go_iloadN (pc := 1) d30_1 rfl (go_putI (pc := 2) fs_109 hm_30 (wr_10 _) hn_30 d30_2 (go_iloadN (pc := 5) d30_5 rfl (go_iconst (pc := 6) d30_6 ci_1 ?_))))
  by_cases h1 : v1 = (1 : Int32)
  · replace hf := (if_pos h1).symm.trans hf
    refine go_icN (pc := 7) d30_7 (XT.ii_ne_f h1) ?_
    refine go_aloadN (pc := 10) d30_10 rfl (go_iloadN (pc := 11) d30_11 rfl (go_putI (pc := 12) fs_112 hm_30 (wr_11 _) hn_30 d30_12 (go_goto (pc := 15) (pc' := 23) d30_15 j_15_8 ?_)))
    cases hf
    exact go_ret (pc := 23) rfl d30_23
  · replace hf := (if_neg h1).symm.trans hf
    refine go_icY (pc := 7) (pc' := 18) d30_7 (XT.ii_ne_t h1) j_7_11 ?_
    refine go_aloadN (pc := 18) d30_18 rfl (go_iconst (pc := 19) d30_19 ci_0 (go_putI (pc := 20) fs_112 hm_30 (wr_11 _) hn_30 d30_20 ?_))
    cases hf
    exact go_ret (pc := 23) rfl d30_23
theorem c_k_finish (v1 : Int32) (v2 : Int32) (s : S) : Call PP m30 [.ref 1, .int v1, .int v2] (none, [(22, s)]) (none, (none, [(22, (k_finish v1 v2 s))])) := call_of_go pl_0 rfl (fun _ => rfl) (k_finish_ok v1 v2 s   _ rfl)
set_option maxRecDepth 65536 in
set_option maxHeartbeats 4000000 in
theorem k_accessTrap_12_ok  : ∀ (v1 : Int32) (s : S)  (o : Int32), k_accessTrap_12 v1 s = o → Go PP m31 12 [.val (.ref 1), .val (.int v1)] [] (none, [(22, s)]) (some (.int o), (none, [(22, s)])) := by
  intro v1 s o hf
  unfold k_accessTrap_12 at hf
  refine go_iloadN (pc := 12) d31_12 rfl ?_
  by_cases h1 : v1 < 0
  · replace hf := (if_pos h1).symm.trans hf
    refine go_ifY (pc := 13) (pc' := 30) d31_13 (XT.i0_lt_t h1) j_13_17 ?_
    refine go_iconst (pc := 30) d31_30 ci_3 ?_
    cases hf
    exact go_iret (pc := 31) rfl d31_31
  · replace hf := (if_neg h1).symm.trans hf
    refine go_ifN (pc := 13) d31_13 (XT.i0_lt_f h1) ?_
    refine go_iloadN (pc := 16) d31_16 rfl (go_aloadN (pc := 17) d31_17 rfl (go_getI (pc := 18) fs_99 hm_31 d31_18 ?_))
    by_cases h2 : v1 < (gI s 7)
    · replace hf := (if_pos h2).symm.trans hf
      refine go_icN (pc := 21) d31_21 (XT.ii_ge_f h2) ?_
      refine go_iloadN (pc := 24) d31_24 rfl (go_bipush (pc := 25) d31_25 cb_64 ?_)
      by_cases h3 : v1 < (64 : Int32)
      · replace hf := (if_pos h3).symm.trans hf
        refine go_icY (pc := 27) (pc' := 32) d31_27 (XT.ii_lt_t h3) j_27_5 ?_
        refine go_iconst (pc := 32) d31_32 ci_0 ?_
        cases hf
        exact go_iret (pc := 33) rfl d31_33
      · replace hf := (if_neg h3).symm.trans hf
        refine go_icN (pc := 27) d31_27 (XT.ii_lt_f h3) ?_
        refine go_iconst (pc := 30) d31_30 ci_3 ?_
        cases hf
        exact go_iret (pc := 31) rfl d31_31
    · replace hf := (if_neg h2).symm.trans hf
      refine go_icY (pc := 21) (pc' := 30) d31_21 (XT.ii_ge_t h2) j_21_9 ?_
      refine go_iconst (pc := 30) d31_30 ci_3 ?_
      cases hf
      exact go_iret (pc := 31) rfl d31_31
set_option maxRecDepth 65536 in
set_option maxHeartbeats 4000000 in
theorem k_accessTrap_ok  : ∀ (v1 : Int32) (s : S)  (o : Int32), k_accessTrap v1 s = o → Go PP m31 0 [.val (.ref 1), .val (.int v1)] [] (none, [(22, s)]) (some (.int o), (none, [(22, s)])) := by
  intro v1 s o hf
  unfold k_accessTrap at hf
  refine go_iloadN (pc := 0) d31_0 rfl ?_
  by_cases h1 : v1 < 0
  · replace hf := (if_pos h1).symm.trans hf
    refine go_ifY (pc := 1) (pc' := 12) d31_1 (XT.i0_lt_t h1) j_1_11 ?_
    exact k_accessTrap_12_ok v1 s _ hf
  · replace hf := (if_neg h1).symm.trans hf
    refine go_ifN (pc := 1) d31_1 (XT.i0_lt_f h1) ?_
    refine go_iloadN (pc := 4) d31_4 rfl (go_bipush (pc := 5) d31_5 cb_7 ?_)
    by_cases h2 : (7 : Int32) < v1
    · replace hf := (if_pos h2).symm.trans hf
      refine go_icY (pc := 7) (pc' := 12) d31_7 (XT.ii_gt_t h2) j_7_5 ?_
      exact k_accessTrap_12_ok v1 s _ hf
    · replace hf := (if_neg h2).symm.trans hf
      refine go_icN (pc := 7) d31_7 (XT.ii_gt_f h2) ?_
      refine go_iconst (pc := 10) d31_10 ci_2 ?_
      cases hf
      exact go_iret (pc := 11) rfl d31_11
theorem c_k_accessTrap (v1 : Int32) (s : S) : Call PP m31 [.ref 1, .int v1] (none, [(22, s)]) (some (.int (k_accessTrap v1 s)), (none, [(22, s)])) := call_of_go pl_0 rfl (fun h => nomatch h) (k_accessTrap_ok v1 s   _ rfl)
set_option maxRecDepth 65536 in
set_option maxHeartbeats 4000000 in
theorem k_execLoad_ok  : ∀ (v1 : Int32) (s : S)  (o : Int32 × S), k_execLoad v1 s = some o → Go PP m32 0 [.val (.ref 1), .val (.int v1), .unset, .unset, .unset] [] (none, [(22, s)]) (some (.int o.1), (none, [(22, o.2)])) := by
  intro v1 s o hf
  unfold k_execLoad at hf
  refine go_aloadN (pc := 0) d32_0 rfl (go_getA (pc := 1) fa_69 hm_32 d32_1 rfl (go_aloadN (pc := 4) d32_4 rfl (go_getA (pc := 5) fa_38 hm_32 d32_5 rfl (go_iloadN (pc := 8) d32_8 rfl ?_))))
  obtain ⟨a9, e1, hf⟩ := Option.bind_eq_some_iff.mp hf
  refine go_iaload (pc := 9) (q := 2) ar_2 rfl e1 d32_9 ?_
  refine go_bipush (pc := 10) d32_10 cb_7 (go_iand (pc := 12) d32_12 ?_)
  obtain ⟨a13, e2, hf⟩ := Option.bind_eq_some_iff.mp hf
  refine go_iaload (pc := 13) (q := 12) ar_12 rfl e2 d32_13 ?_
  refine go_istoreN (pc := 14) (L' := [.val (.ref 1), .val (.int v1), .val (.int a13), .unset, .unset]) d32_14 rfl (go_iloadN (pc := 15) d32_15 rfl (go_aloadN (pc := 16) d32_16 rfl (go_getA (pc := 17) fa_41 hm_32 d32_17 rfl (go_iloadN (pc := 20) d32_20 rfl ?_))))
  obtain ⟨a21, e3, hf⟩ := Option.bind_eq_some_iff.mp hf
  refine go_iaload (pc := 21) (q := 3) ar_3 rfl e3 d32_21 ?_
  refine go_iadd (pc := 22) d32_22 (go_istoreN (pc := 23) (L' := [.val (.ref 1), .val (.int v1), .val (.int a13), .val (.int (a13 + a21)), .unset]) d32_23 rfl (go_aloadN (pc := 24) d32_24 rfl (go_iloadN (pc := 25) d32_25 rfl ?_)))
  refine go_priv (pc := 26) (i := 0) (as := [.int (a13 + a21)]) (rest := []) (w' := (none, [(22, s)])) lk_0_198 pd_31 rfl oid_0 rfl rfl rfl rfl rfl rfl ⟨rfl, rfl, rfl, rfl, rfl⟩ d32_26 (c_k_accessTrap (a13 + a21) s) ?_
  refine go_istore (pc := 29) (L' := [.val (.ref 1), .val (.int v1), .val (.int a13), .val (.int (a13 + a21)), .val (.int (k_accessTrap (a13 + a21) s))]) d32_29 rfl (go_iload (pc := 31) d32_31 rfl ?_)
  by_cases h4 : (k_accessTrap (a13 + a21) s) = 0
  · replace hf := (if_pos h4).symm.trans hf
    refine go_ifY (pc := 33) (pc' := 45) d32_33 (XT.i0_eq_t h4) j_33_12 ?_
    refine go_aloadN (pc := 45) d32_45 rfl (go_getA (pc := 46) fa_69 hm_32 d32_46 rfl (go_aloadN (pc := 49) d32_49 rfl (go_getA (pc := 50) fa_35 hm_32 d32_50 rfl (go_iloadN (pc := 53) d32_53 rfl ?_))))
    obtain ⟨a54, e5, hf⟩ := Option.bind_eq_some_iff.mp hf
    refine go_iaload (pc := 54) (q := 1) ar_1 rfl e5 d32_54 ?_
    refine go_bipush (pc := 55) d32_55 cb_7 (go_iand (pc := 57) d32_57 (go_aloadN (pc := 58) d32_58 rfl (go_getA (pc := 59) fa_63 hm_32 d32_59 rfl (go_iloadN (pc := 62) d32_62 rfl (go_bipush (pc := 63) d32_63 cb_63 (go_iand (pc := 65) d32_65 ?_))))))
    obtain ⟨a66, e6, hf⟩ := Option.bind_eq_some_iff.mp hf
    refine go_iaload (pc := 66) (q := 10) ar_10 rfl e6 d32_66 ?_
    obtain ⟨a67, e7, hf⟩ := Option.bind_eq_some_iff.mp hf
    refine go_iastore (pc := 67) (q := 12) ar_12 rfl hn_32 e7 d32_67 ?_
    refine go_iloadN (pc := 68) d32_68 rfl (go_iconst (pc := 69) d32_69 ci_1 (go_iadd (pc := 70) d32_70 ?_))
    cases hf
    exact go_iret (pc := 71) rfl d32_71
  · replace hf := (if_neg h4).symm.trans hf
    refine go_ifN (pc := 33) d32_33 (XT.i0_eq_f h4) ?_
    refine go_aloadN (pc := 36) d32_36 rfl (go_iload (pc := 37) d32_37 rfl (go_iconst (pc := 39) d32_39 ci_0 ?_))
    refine go_priv (pc := 40) (i := 0) (as := [.int (k_accessTrap (a13 + a21) s), .int (0 : Int32)]) (rest := []) (w' := (none, [(22, (k_finish (k_accessTrap (a13 + a21) s) (0 : Int32) s))])) lk_0_166 pd_30 rfl oid_0 rfl rfl rfl rfl rfl rfl ⟨rfl, rfl, rfl, rfl, rfl⟩ d32_40 (c_k_finish (k_accessTrap (a13 + a21) s) (0 : Int32) s) ?_
    refine go_iloadN (pc := 43) d32_43 rfl ?_
    cases hf
    exact go_iret (pc := 44) rfl d32_44
theorem c_k_execLoad (v1 : Int32) (s : S) (o : Int32 × S) (hf : k_execLoad v1 s = some o) : Call PP m32 [.ref 1, .int v1] (none, [(22, s)]) (some (.int o.1), (none, [(22, o.2)])) := call_of_go pl_0 rfl (fun h => nomatch h) (k_execLoad_ok v1 s   _ hf)
set_option maxRecDepth 65536 in
set_option maxHeartbeats 4000000 in
theorem k_execStore_ok  : ∀ (v1 : Int32) (s : S)  (o : Int32 × S), k_execStore v1 s = some o → Go PP m33 0 [.val (.ref 1), .val (.int v1), .unset, .unset, .unset] [] (none, [(22, s)]) (some (.int o.1), (none, [(22, o.2)])) := by
  intro v1 s o hf
  unfold k_execStore at hf
  refine go_aloadN (pc := 0) d33_0 rfl (go_getA (pc := 1) fa_69 hm_33 d33_1 rfl (go_aloadN (pc := 4) d33_4 rfl (go_getA (pc := 5) fa_35 hm_33 d33_5 rfl (go_iloadN (pc := 8) d33_8 rfl ?_))))
  obtain ⟨a9, e1, hf⟩ := Option.bind_eq_some_iff.mp hf
  refine go_iaload (pc := 9) (q := 1) ar_1 rfl e1 d33_9 ?_
  refine go_bipush (pc := 10) d33_10 cb_7 (go_iand (pc := 12) d33_12 ?_)
  obtain ⟨a13, e2, hf⟩ := Option.bind_eq_some_iff.mp hf
  refine go_iaload (pc := 13) (q := 12) ar_12 rfl e2 d33_13 ?_
  refine go_istoreN (pc := 14) (L' := [.val (.ref 1), .val (.int v1), .val (.int a13), .unset, .unset]) d33_14 rfl (go_iloadN (pc := 15) d33_15 rfl (go_aloadN (pc := 16) d33_16 rfl (go_getA (pc := 17) fa_38 hm_33 d33_17 rfl (go_iloadN (pc := 20) d33_20 rfl ?_))))
  obtain ⟨a21, e3, hf⟩ := Option.bind_eq_some_iff.mp hf
  refine go_iaload (pc := 21) (q := 2) ar_2 rfl e3 d33_21 ?_
  refine go_iadd (pc := 22) d33_22 (go_istoreN (pc := 23) (L' := [.val (.ref 1), .val (.int v1), .val (.int a13), .val (.int (a13 + a21)), .unset]) d33_23 rfl (go_aloadN (pc := 24) d33_24 rfl (go_iloadN (pc := 25) d33_25 rfl ?_)))
  refine go_priv (pc := 26) (i := 0) (as := [.int (a13 + a21)]) (rest := []) (w' := (none, [(22, s)])) lk_0_198 pd_31 rfl oid_0 rfl rfl rfl rfl rfl rfl ⟨rfl, rfl, rfl, rfl, rfl⟩ d33_26 (c_k_accessTrap (a13 + a21) s) ?_
  refine go_istore (pc := 29) (L' := [.val (.ref 1), .val (.int v1), .val (.int a13), .val (.int (a13 + a21)), .val (.int (k_accessTrap (a13 + a21) s))]) d33_29 rfl (go_iload (pc := 31) d33_31 rfl ?_)
  by_cases h4 : (k_accessTrap (a13 + a21) s) = 0
  · replace hf := (if_pos h4).symm.trans hf
    refine go_ifY (pc := 33) (pc' := 45) d33_33 (XT.i0_eq_t h4) j_33_12 ?_
    refine go_aloadN (pc := 45) d33_45 rfl (go_getA (pc := 46) fa_63 hm_33 d33_46 rfl (go_iloadN (pc := 49) d33_49 rfl (go_bipush (pc := 50) d33_50 cb_63 (go_iand (pc := 52) d33_52 (go_aloadN (pc := 53) d33_53 rfl (go_getA (pc := 54) fa_69 hm_33 d33_54 rfl (go_aloadN (pc := 57) d33_57 rfl ?_)))))))
    refine go_getA (pc := 58) fa_41 hm_33 d33_58 rfl (go_iloadN (pc := 61) d33_61 rfl ?_)
    obtain ⟨a62, e5, hf⟩ := Option.bind_eq_some_iff.mp hf
    refine go_iaload (pc := 62) (q := 3) ar_3 rfl e5 d33_62 ?_
    refine go_bipush (pc := 63) d33_63 cb_7 (go_iand (pc := 65) d33_65 ?_)
    obtain ⟨a66, e6, hf⟩ := Option.bind_eq_some_iff.mp hf
    refine go_iaload (pc := 66) (q := 12) ar_12 rfl e6 d33_66 ?_
    obtain ⟨a67, e7, hf⟩ := Option.bind_eq_some_iff.mp hf
    refine go_iastore (pc := 67) (q := 10) ar_10 rfl hn_33 e7 d33_67 ?_
    refine go_iloadN (pc := 68) d33_68 rfl (go_iconst (pc := 69) d33_69 ci_1 (go_iadd (pc := 70) d33_70 ?_))
    cases hf
    exact go_iret (pc := 71) rfl d33_71
  · replace hf := (if_neg h4).symm.trans hf
    refine go_ifN (pc := 33) d33_33 (XT.i0_eq_f h4) ?_
    refine go_aloadN (pc := 36) d33_36 rfl (go_iload (pc := 37) d33_37 rfl (go_iconst (pc := 39) d33_39 ci_0 ?_))
    refine go_priv (pc := 40) (i := 0) (as := [.int (k_accessTrap (a13 + a21) s), .int (0 : Int32)]) (rest := []) (w' := (none, [(22, (k_finish (k_accessTrap (a13 + a21) s) (0 : Int32) s))])) lk_0_166 pd_30 rfl oid_0 rfl rfl rfl rfl rfl rfl ⟨rfl, rfl, rfl, rfl, rfl⟩ d33_40 (c_k_finish (k_accessTrap (a13 + a21) s) (0 : Int32) s) ?_
    refine go_iloadN (pc := 43) d33_43 rfl ?_
    cases hf
    exact go_iret (pc := 44) rfl d33_44
theorem c_k_execStore (v1 : Int32) (s : S) (o : Int32 × S) (hf : k_execStore v1 s = some o) : Call PP m33 [.ref 1, .int v1] (none, [(22, s)]) (some (.int o.1), (none, [(22, o.2)])) := call_of_go pl_0 rfl (fun h => nomatch h) (k_execStore_ok v1 s   _ hf)
set_option maxRecDepth 65536 in
set_option maxHeartbeats 4000000 in
theorem k_execCheck_ok  : ∀ (v1 : Int32) (s : S)  (o : Int32 × S), k_execCheck v1 s = some o → Go PP m34 0 [.val (.ref 1), .val (.int v1)] [] (none, [(22, s)]) (some (.int o.1), (none, [(22, o.2)])) := by
  intro v1 s o hf
  unfold k_execCheck at hf
  refine go_aloadN (pc := 0) d34_0 rfl (go_getA (pc := 1) fa_75 hm_34 d34_1 rfl (go_iloadN (pc := 4) d34_4 rfl ?_))
  obtain ⟨a5, e1, hf⟩ := Option.bind_eq_some_iff.mp hf
  refine go_baload (pc := 5) (q := 14) ar_14 (by decide) rfl e1 d34_5 ?_
  by_cases h2 : a5 = 0
  · replace hf := (if_pos h2).symm.trans hf
    refine go_ifY (pc := 6) (pc' := 13) d34_6 (XT.i0_eq_t h2) j_6_7 ?_
    refine go_aloadN (pc := 13) d34_13 rfl (go_getA (pc := 14) fa_69 hm_34 d34_14 rfl (go_aloadN (pc := 17) d34_17 rfl (go_getA (pc := 18) fa_35 hm_34 d34_18 rfl (go_iloadN (pc := 21) d34_21 rfl ?_))))
    obtain ⟨a22, e3, hf⟩ := Option.bind_eq_some_iff.mp hf
    refine go_iaload (pc := 22) (q := 1) ar_1 rfl e3 d34_22 ?_
    refine go_bipush (pc := 23) d34_23 cb_7 (go_iand (pc := 25) d34_25 ?_)
    obtain ⟨a26, e4, hf⟩ := Option.bind_eq_some_iff.mp hf
    refine go_iaload (pc := 26) (q := 12) ar_12 rfl e4 d34_26 ?_
    by_cases h5 : a26 = 0
    · replace hf := (if_pos h5).symm.trans hf
      refine go_ifN (pc := 27) d34_27 (XT.i0_ne_f h5) ?_
      refine go_aloadN (pc := 30) d34_30 rfl (go_iconst (pc := 31) d34_31 ci_2 (go_iconst (pc := 32) d34_32 ci_0 ?_))
      refine go_priv (pc := 33) (i := 0) (as := [.int (2 : Int32), .int (0 : Int32)]) (rest := []) (w' := (none, [(22, (k_finish (2 : Int32) (0 : Int32) s))])) lk_0_166 pd_30 rfl oid_0 rfl rfl rfl rfl rfl rfl ⟨rfl, rfl, rfl, rfl, rfl⟩ d34_33 (c_k_finish (2 : Int32) (0 : Int32) s) ?_
      refine go_iloadN (pc := 36) d34_36 rfl ?_
      cases hf
      exact go_iret (pc := 37) rfl d34_37
    · replace hf := (if_neg h5).symm.trans hf
      refine go_ifY (pc := 27) (pc' := 38) d34_27 (XT.i0_ne_t h5) j_27_11 ?_
      refine go_iloadN (pc := 38) d34_38 rfl (go_iconst (pc := 39) d34_39 ci_1 (go_iadd (pc := 40) d34_40 ?_))
      cases hf
      exact go_iret (pc := 41) rfl d34_41
  · replace hf := (if_neg h2).symm.trans hf
    refine go_ifN (pc := 6) d34_6 (XT.i0_eq_f h2) ?_
    refine go_iloadN (pc := 9) d34_9 rfl (go_iconst (pc := 10) d34_10 ci_1 (go_iadd (pc := 11) d34_11 ?_))
    cases hf
    exact go_iret (pc := 12) rfl d34_12
theorem c_k_execCheck (v1 : Int32) (s : S) (o : Int32 × S) (hf : k_execCheck v1 s = some o) : Call PP m34 [.ref 1, .int v1] (none, [(22, s)]) (some (.int o.1), (none, [(22, o.2)])) := call_of_go pl_0 rfl (fun h => nomatch h) (k_execCheck_ok v1 s   _ hf)
set_option maxRecDepth 65536 in
set_option maxHeartbeats 4000000 in
theorem k_emit_26_ok  : ∀  (s : S) (x1 : Slot) (hx1 : k1 x1) (o : S), k_emit_26 s = some o → Go PP m35 26 [.val (.ref 1), x1] [] (none, [(22, s)]) (none, (none, [(22, o)])) := by
  intro s x1 hx1 o hf
  unfold k_emit_26 at hf
  refine go_aloadN (pc := 26) d35_26 rfl (go_dupR (pc := 27) d35_27 (go_getI (pc := 28) fs_115 hm_35 d35_28 (go_iconst (pc := 31) d35_31 ci_1 (go_iadd (pc := 32) d35_32 (go_putI (pc := 33) fs_115 hm_35 (wr_12 _) hn_35 d35_33 ?_)))))
  cases hf
  exact go_ret (pc := 36) rfl d35_36
set_option maxRecDepth 65536 in
set_option maxHeartbeats 4000000 in
theorem k_emit_ok  : ∀ (v1 : Int32) (s : S)  (o : S), k_emit v1 s = some o → Go PP m35 0 [.val (.ref 1), .val (.int v1)] [] (none, [(22, s)]) (none, (none, [(22, o)])) := by
  intro v1 s o hf
  unfold k_emit at hf
  refine go_aloadN (pc := 0) d35_0 rfl (go_getI (pc := 1) fs_115 hm_35 d35_1 ?_)
  by_cases h1 : (gI s 12) < 0
  · replace hf := (if_pos h1).symm.trans hf
    refine go_ifY (pc := 4) (pc' := 26) d35_4 (XT.i0_lt_t h1) j_4_22 ?_
    exact k_emit_26_ok s (.val (.int v1)) (Or.inr ⟨_, rfl, rfl⟩) _ hf
  · replace hf := (if_neg h1).symm.trans hf
    refine go_ifN (pc := 4) d35_4 (XT.i0_lt_f h1) ?_
    refine go_aloadN (pc := 7) d35_7 rfl (go_getI (pc := 8) fs_115 hm_35 d35_8 (go_bipush (pc := 11) d35_11 cb_32 ?_))
    by_cases h2 : (gI s 12) < (32 : Int32)
    · replace hf := (if_pos h2).symm.trans hf
      refine go_icN (pc := 13) d35_13 (XT.ii_ge_f h2) ?_
      refine go_aloadN (pc := 16) d35_16 rfl (go_getA (pc := 17) fa_66 hm_35 d35_17 rfl (go_aloadN (pc := 20) d35_20 rfl (go_getI (pc := 21) fs_115 hm_35 d35_21 (go_iloadN (pc := 24) d35_24 rfl ?_))))
      obtain ⟨a25, e3, hf⟩ := Option.bind_eq_some_iff.mp hf
      refine go_iastore (pc := 25) (q := 11) ar_11 rfl hn_35 e3 d35_25 ?_
      exact k_emit_26_ok (sA s 11 a25) (.val (.int v1)) (Or.inr ⟨_, rfl, rfl⟩) _ hf
    · replace hf := (if_neg h2).symm.trans hf
      refine go_icY (pc := 13) (pc' := 26) d35_13 (XT.ii_ge_t h2) j_13_13 ?_
      exact k_emit_26_ok s (.val (.int v1)) (Or.inr ⟨_, rfl, rfl⟩) _ hf
theorem c_k_emit (v1 : Int32) (s : S) (o : S) (hf : k_emit v1 s = some o) : Call PP m35 [.ref 1, .int v1] (none, [(22, s)]) (none, (none, [(22, o)])) := call_of_go pl_0 rfl (fun _ => rfl) (k_emit_ok v1 s   _ hf)
set_option maxRecDepth 65536 in
set_option maxHeartbeats 4000000 in
theorem k_executeAt_ok  : ∀ (v1 : Int32) (s : S)  (o : Int32 × S), k_executeAt v1 s = some o → Go PP m36 0 [.val (.ref 1), .val (.int v1), .unset] [] (none, [(22, s)]) (some (.int o.1), (none, [(22, o.2)])) := by
  intro v1 s o hf
  unfold k_executeAt at hf
  refine go_aloadN (pc := 0) d36_0 rfl (go_getA (pc := 1) fa_31 hm_36 d36_1 rfl (go_iloadN (pc := 4) d36_4 rfl ?_))
  obtain ⟨a5, e1, hf⟩ := Option.bind_eq_some_iff.mp hf
  refine go_iaload (pc := 5) (q := 0) ar_0 rfl e1 d36_5 ?_
  refine go_istoreN (pc := 6) (L' := [.val (.ref 1), .val (.int v1), .val (.int a5)]) d36_6 rfl (go_iloadN (pc := 7) d36_7 rfl ?_)
  by_cases h2 : a5 = 1
  · replace hf := (if_pos h2).symm.trans hf
    refine go_top h2 ?_
    refine go_tswIn (pc := 8) (pc' := 72) (o := 64) d36_8 (by decide) rfl j_8_64 ?_
    refine go_aloadN (pc := 72) d36_72 rfl (go_getA (pc := 73) fa_69 hm_36 d36_73 rfl (go_aloadN (pc := 76) d36_76 rfl (go_getA (pc := 77) fa_35 hm_36 d36_77 rfl (go_iloadN (pc := 80) d36_80 rfl ?_))))
    obtain ⟨a81, e3, hf⟩ := Option.bind_eq_some_iff.mp hf
    refine go_iaload (pc := 81) (q := 1) ar_1 rfl e3 d36_81 ?_
    refine go_bipush (pc := 82) d36_82 cb_7 (go_iand (pc := 84) d36_84 (go_aloadN (pc := 85) d36_85 rfl (go_getA (pc := 86) fa_38 hm_36 d36_86 rfl (go_iloadN (pc := 89) d36_89 rfl ?_))))
    obtain ⟨a90, e4, hf⟩ := Option.bind_eq_some_iff.mp hf
    refine go_iaload (pc := 90) (q := 2) ar_2 rfl e4 d36_90 ?_
    obtain ⟨a91, e5, hf⟩ := Option.bind_eq_some_iff.mp hf
    refine go_iastore (pc := 91) (q := 12) ar_12 rfl hn_36 e5 d36_91 ?_
    refine go_iloadN (pc := 92) d36_92 rfl (go_iconst (pc := 93) d36_93 ci_1 (go_iadd (pc := 94) d36_94 ?_))
    cases hf
    exact go_iret (pc := 95) rfl d36_95
  replace hf := (if_neg h2).symm.trans hf
  by_cases h6 : a5 = 2
  · replace hf := (if_pos h6).symm.trans hf
    refine go_top h6 ?_
    refine go_tswIn (pc := 8) (pc' := 96) (o := 88) d36_8 (by decide) rfl j_8_88 ?_
    refine go_aloadN (pc := 96) d36_96 rfl (go_getA (pc := 97) fa_69 hm_36 d36_97 rfl (go_aloadN (pc := 100) d36_100 rfl (go_getA (pc := 101) fa_35 hm_36 d36_101 rfl (go_iloadN (pc := 104) d36_104 rfl ?_))))
    obtain ⟨a105, e7, hf⟩ := Option.bind_eq_some_iff.mp hf
    refine go_iaload (pc := 105) (q := 1) ar_1 rfl e7 d36_105 ?_
    refine go_bipush (pc := 106) d36_106 cb_7 (go_iand (pc := 108) d36_108 (go_aloadN (pc := 109) d36_109 rfl (go_getA (pc := 110) fa_69 hm_36 d36_110 rfl (go_aloadN (pc := 113) d36_113 rfl (go_getA (pc := 114) fa_38 hm_36 d36_114 rfl (go_iloadN (pc := 117) d36_117 rfl ?_))))))
    obtain ⟨a118, e8, hf⟩ := Option.bind_eq_some_iff.mp hf
    refine go_iaload (pc := 118) (q := 2) ar_2 rfl e8 d36_118 ?_
    refine go_bipush (pc := 119) d36_119 cb_7 (go_iand (pc := 121) d36_121 ?_)
    obtain ⟨a122, e9, hf⟩ := Option.bind_eq_some_iff.mp hf
    refine go_iaload (pc := 122) (q := 12) ar_12 rfl e9 d36_122 ?_
    obtain ⟨a123, e10, hf⟩ := Option.bind_eq_some_iff.mp hf
    refine go_iastore (pc := 123) (q := 12) ar_12 rfl hn_36 e10 d36_123 ?_
    refine go_iloadN (pc := 124) d36_124 rfl (go_iconst (pc := 125) d36_125 ci_1 (go_iadd (pc := 126) d36_126 ?_))
    cases hf
    exact go_iret (pc := 127) rfl d36_127
  replace hf := (if_neg h6).symm.trans hf
  by_cases h11 : a5 = 3
  · replace hf := (if_pos h11).symm.trans hf
    refine go_top h11 ?_
    refine go_tswIn (pc := 8) (pc' := 128) (o := 120) d36_8 (by decide) rfl j_8_120 ?_
    refine go_aloadN (pc := 128) d36_128 rfl (go_getA (pc := 129) fa_69 hm_36 d36_129 rfl (go_aloadN (pc := 132) d36_132 rfl (go_getA (pc := 133) fa_35 hm_36 d36_133 rfl (go_iloadN (pc := 136) d36_136 rfl ?_))))
    obtain ⟨a137, e12, hf⟩ := Option.bind_eq_some_iff.mp hf
    refine go_iaload (pc := 137) (q := 1) ar_1 rfl e12 d36_137 ?_
    refine go_bipush (pc := 138) d36_138 cb_7 (go_iand (pc := 140) d36_140 (go_aloadN (pc := 141) d36_141 rfl (go_getA (pc := 142) fa_69 hm_36 d36_142 rfl (go_aloadN (pc := 145) d36_145 rfl (go_getA (pc := 146) fa_38 hm_36 d36_146 rfl (go_iloadN (pc := 149) d36_149 rfl ?_))))))
    obtain ⟨a150, e13, hf⟩ := Option.bind_eq_some_iff.mp hf
    refine go_iaload (pc := 150) (q := 2) ar_2 rfl e13 d36_150 ?_
    refine go_bipush (pc := 151) d36_151 cb_7 (go_iand (pc := 153) d36_153 ?_)
    obtain ⟨a154, e14, hf⟩ := Option.bind_eq_some_iff.mp hf
    refine go_iaload (pc := 154) (q := 12) ar_12 rfl e14 d36_154 ?_
    refine go_aloadN (pc := 155) d36_155 rfl (go_getA (pc := 156) fa_41 hm_36 d36_156 rfl (go_iloadN (pc := 159) d36_159 rfl ?_))
    obtain ⟨a160, e15, hf⟩ := Option.bind_eq_some_iff.mp hf
    refine go_iaload (pc := 160) (q := 3) ar_3 rfl e15 d36_160 ?_
    refine go_iadd (pc := 161) d36_161 ?_
    obtain ⟨a162, e16, hf⟩ := Option.bind_eq_some_iff.mp hf
    refine go_iastore (pc := 162) (q := 12) ar_12 rfl hn_36 e16 d36_162 ?_
    refine go_iloadN (pc := 163) d36_163 rfl (go_iconst (pc := 164) d36_164 ci_1 (go_iadd (pc := 165) d36_165 ?_))
    cases hf
    exact go_iret (pc := 166) rfl d36_166
  replace hf := (if_neg h11).symm.trans hf
  by_cases h17 : a5 = 4
  · replace hf := (if_pos h17).symm.trans hf
    refine go_top h17 ?_
    refine go_tswIn (pc := 8) (pc' := 167) (o := 159) d36_8 (by decide) rfl j_8_159 ?_
    refine go_aloadN (pc := 167) d36_167 rfl (go_iloadN (pc := 168) d36_168 rfl ?_)
    obtain ⟨r169, e18, hf⟩ := Option.bind_eq_some_iff.mp hf
    refine go_priv (pc := 169) (i := 0) (as := [.int v1]) (rest := []) (w' := (none, [(22, r169.2)])) lk_0_173 pd_32 rfl oid_0 rfl rfl rfl rfl rfl rfl ⟨rfl, rfl, rfl, rfl, rfl⟩ d36_169 (c_k_execLoad v1 s _ e18) ?_
    cases hf
    exact go_iret (pc := 172) rfl d36_172
  replace hf := (if_neg h17).symm.trans hf
  by_cases h19 : a5 = 5
  · replace hf := (if_pos h19).symm.trans hf
    refine go_top h19 ?_
    refine go_tswIn (pc := 8) (pc' := 173) (o := 165) d36_8 (by decide) rfl j_8_165 ?_
    refine go_aloadN (pc := 173) d36_173 rfl (go_iloadN (pc := 174) d36_174 rfl ?_)
    obtain ⟨r175, e20, hf⟩ := Option.bind_eq_some_iff.mp hf
    refine go_priv (pc := 175) (i := 0) (as := [.int v1]) (rest := []) (w' := (none, [(22, r175.2)])) lk_0_176 pd_33 rfl oid_0 rfl rfl rfl rfl rfl rfl ⟨rfl, rfl, rfl, rfl, rfl⟩ d36_175 (c_k_execStore v1 s _ e20) ?_
    cases hf
    exact go_iret (pc := 178) rfl d36_178
  replace hf := (if_neg h19).symm.trans hf
  by_cases h21 : a5 = 6
  · replace hf := (if_pos h21).symm.trans hf
    refine go_top h21 ?_
    refine go_tswIn (pc := 8) (pc' := 179) (o := 171) d36_8 (by decide) rfl j_8_171 ?_
    refine go_aloadN (pc := 179) d36_179 rfl (go_iloadN (pc := 180) d36_180 rfl ?_)
    obtain ⟨r181, e22, hf⟩ := Option.bind_eq_some_iff.mp hf
    refine go_priv (pc := 181) (i := 0) (as := [.int v1]) (rest := []) (w' := (none, [(22, r181.2)])) lk_0_179 pd_34 rfl oid_0 rfl rfl rfl rfl rfl rfl ⟨rfl, rfl, rfl, rfl, rfl⟩ d36_181 (c_k_execCheck v1 s _ e22) ?_
    cases hf
    exact go_iret (pc := 184) rfl d36_184
  replace hf := (if_neg h21).symm.trans hf
  by_cases h23 : a5 = 7
  · replace hf := (if_pos h23).symm.trans hf
    refine go_top h23 ?_
    refine go_tswIn (pc := 8) (pc' := 185) (o := 177) d36_8 (by decide) rfl j_8_177 ?_
    refine go_aloadN (pc := 185) d36_185 rfl (go_aloadN (pc := 186) d36_186 rfl (go_getA (pc := 187) fa_69 hm_36 d36_187 rfl (go_aloadN (pc := 190) d36_190 rfl (go_getA (pc := 191) fa_35 hm_36 d36_191 rfl (go_iloadN (pc := 194) d36_194 rfl ?_)))))
    obtain ⟨a195, e24, hf⟩ := Option.bind_eq_some_iff.mp hf
    refine go_iaload (pc := 195) (q := 1) ar_1 rfl e24 d36_195 ?_
    refine go_bipush (pc := 196) d36_196 cb_7 (go_iand (pc := 198) d36_198 ?_)
    obtain ⟨a199, e25, hf⟩ := Option.bind_eq_some_iff.mp hf
    refine go_iaload (pc := 199) (q := 12) ar_12 rfl e25 d36_199 ?_
    obtain ⟨r200, e26, hf⟩ := Option.bind_eq_some_iff.mp hf
    refine go_priv (pc := 200) (i := 0) (as := [.int a199]) (rest := []) (w' := (none, [(22, r200)])) lk_0_182 pd_35 rfl oid_0 rfl rfl rfl rfl rfl rfl ⟨rfl, rfl, rfl, rfl, rfl⟩ d36_200 (c_k_emit a199 s _ e26) ?_
    refine go_iloadN (pc := 203) d36_203 rfl (go_iconst (pc := 204) d36_204 ci_1 (go_iadd (pc := 205) d36_205 ?_))
    cases hf
    exact go_iret (pc := 206) rfl d36_206
  replace hf := (if_neg h23).symm.trans hf
  by_cases h27 : a5 = 8
  · replace hf := (if_pos h27).symm.trans hf
    refine go_top h27 ?_
    refine go_tswIn (pc := 8) (pc' := 207) (o := 199) d36_8 (by decide) rfl j_8_199 ?_
    refine go_aloadN (pc := 207) d36_207 rfl (go_iloadN (pc := 208) d36_208 rfl ?_)
    exact nomatch hf
  replace hf := (if_neg h27).symm.trans hf
  by_cases h28 : a5 = 9
  · replace hf := (if_pos h28).symm.trans hf
    refine go_top h28 ?_
    refine go_tswIn (pc := 8) (pc' := 213) (o := 205) d36_8 (by decide) rfl j_8_205 ?_
    refine go_aloadN (pc := 213) d36_213 rfl (go_iloadN (pc := 214) d36_214 rfl ?_)
    exact nomatch hf
  replace hf := (if_neg h28).symm.trans hf
  by_cases h29 : a5 = 10
  · replace hf := (if_pos h29).symm.trans hf
    refine go_top h29 ?_
    refine go_tswIn (pc := 8) (pc' := 219) (o := 211) d36_8 (by decide) rfl j_8_211 ?_
    refine go_aloadN (pc := 219) d36_219 rfl (go_iloadN (pc := 220) d36_220 rfl ?_)
    exact nomatch hf
  replace hf := (if_neg h29).symm.trans hf
  by_cases h30 : a5 = 11
  · replace hf := (if_pos h30).symm.trans hf
    refine go_top h30 ?_
    refine go_tswIn (pc := 8) (pc' := 225) (o := 217) d36_8 (by decide) rfl j_8_217 ?_
    refine go_aloadN (pc := 225) d36_225 rfl (go_iloadN (pc := 226) d36_226 rfl ?_)
    exact nomatch hf
  replace hf := (if_neg h30).symm.trans hf
  by_cases h31 : a5 = 12
  · replace hf := (if_pos h31).symm.trans hf
    refine go_top h31 ?_
    refine go_tswIn (pc := 8) (pc' := 231) (o := 223) d36_8 (by decide) rfl j_8_223 ?_
    refine go_aloadN (pc := 231) d36_231 rfl (go_iconst (pc := 232) d36_232 ci_1 (go_aloadN (pc := 233) d36_233 rfl (go_getA (pc := 234) fa_69 hm_36 d36_234 rfl (go_aloadN (pc := 237) d36_237 rfl (go_getA (pc := 238) fa_35 hm_36 d36_238 rfl (go_iloadN (pc := 241) d36_241 rfl ?_))))))
    obtain ⟨a242, e32, hf⟩ := Option.bind_eq_some_iff.mp hf
    refine go_iaload (pc := 242) (q := 1) ar_1 rfl e32 d36_242 ?_
    refine go_bipush (pc := 243) d36_243 cb_7 (go_iand (pc := 245) d36_245 ?_)
    obtain ⟨a246, e33, hf⟩ := Option.bind_eq_some_iff.mp hf
    refine go_iaload (pc := 246) (q := 12) ar_12 rfl e33 d36_246 ?_
    refine go_priv (pc := 247) (i := 0) (as := [.int (1 : Int32), .int a246]) (rest := []) (w' := (none, [(22, (k_finish (1 : Int32) a246 s))])) lk_0_166 pd_30 rfl oid_0 rfl rfl rfl rfl rfl rfl ⟨rfl, rfl, rfl, rfl, rfl⟩ d36_247 (c_k_finish (1 : Int32) a246 s) ?_
    refine go_iloadN (pc := 250) d36_250 rfl ?_
    cases hf
    exact go_iret (pc := 251) rfl d36_251
  replace hf := (if_neg h31).symm.trans hf
  have h35 : (a5).toInt < 1 ∨ (a5).toInt > 12 := tsw_out (by decide) (by decide) [(1 : Int32), (2 : Int32), (3 : Int32), (4 : Int32), (5 : Int32), (6 : Int32), (7 : Int32), (8 : Int32), (9 : Int32), (10 : Int32), (11 : Int32), (12 : Int32)] (by decide) (by simp [h2, h6, h11, h17, h19, h21, h23, h27, h28, h29, h30, h31])
  refine go_tswOut (pc := 8) (pc' := 252) d36_8 h35 j_8_244 ?_
  refine go_iloadN (pc := 252) d36_252 rfl (go_iconst (pc := 253) d36_253 ci_1 (go_iadd (pc := 254) d36_254 ?_))
  cases hf
  exact go_iret (pc := 255) rfl d36_255
theorem c_k_executeAt (v1 : Int32) (s : S) (o : Int32 × S) (hf : k_executeAt v1 s = some o) : Call PP m36 [.ref 1, .int v1] (none, [(22, s)]) (some (.int o.1), (none, [(22, o.2)])) := call_of_go pl_0 rfl (fun h => nomatch h) (k_executeAt_ok v1 s   _ hf)
set_option maxRecDepth 65536 in
set_option maxHeartbeats 4000000 in
theorem k_execute_58_ok  : ∀  (s : S) (x1 : Slot) (x2 : Slot) (hx1 : k1 x1) (hx2 : k1 x2) (o : S), k_execute_58 s = some o → Go PP m37 58 [.val (.ref 1), x1, x2] [] (none, [(22, s)]) (none, (none, [(22, o)])) := by
  intro s x1 x2 hx1 hx2 o hf
  unfold k_execute_58 at hf
  refine go_aloadN (pc := 58) d37_58 rfl (go_getI (pc := 59) fs_109 hm_37 d37_59 ?_)
  by_cases h1 : (gI s 10) = 0
  · replace hf := (if_pos h1).symm.trans hf
    refine go_ifN (pc := 62) d37_62 (XT.i0_ne_f h1) ?_
    refine go_aloadN (pc := 65) d37_65 rfl (go_iconst (pc := 66) d37_66 ci_1 (go_iconst (pc := 67) d37_67 ci_0 ?_))
    refine go_priv (pc := 68) (i := 0) (as := [.int (1 : Int32), .int (0 : Int32)]) (rest := []) (w' := (none, [(22, (k_finish (1 : Int32) (0 : Int32) s))])) lk_0_166 pd_30 rfl oid_0 rfl rfl rfl rfl rfl rfl ⟨rfl, rfl, rfl, rfl, rfl⟩ d37_68 (c_k_finish (1 : Int32) (0 : Int32) s) ?_
    cases hf
    exact go_ret (pc := 71) rfl d37_71
  · replace hf := (if_neg h1).symm.trans hf
    refine go_ifY (pc := 62) (pc' := 71) d37_62 (XT.i0_ne_t h1) j_62_9 ?_
    cases hf
    exact go_ret (pc := 71) rfl d37_71
def T_k_execute_4 (k4 : Int32 → Int32 → S → Option S) : Prop := ∀ (v1 : Int32) (v2 : Int32) (s : S)  (o : S), k4 v1 v2 s = some o → Go PP m37 4 [.val (.ref 1), .val (.int v1), .val (.int v2)] [] (none, [(22, s)]) (none, (none, [(22, o)]))
set_option maxRecDepth 65536 in
set_option maxHeartbeats 4000000 in
theorem k_execute_37_ok {k4 : Int32 → Int32 → S → Option S} (hk4 : T_k_execute_4 k4) : ∀ (v1 : Int32) (v2 : Int32) (s : S)  (o : S), k_execute_37 k4 v1 v2 s = some o → Go PP m37 37 [.val (.ref 1), .val (.int v1), .val (.int v2)] [] (none, [(22, s)]) (none, (none, [(22, o)])) := by
  intro v1 v2 s o hf
  unfold k_execute_37 at hf
  refine go_aloadN (pc := 37) d37_37 rfl (go_iconst (pc := 38) d37_38 ci_1 (go_iconst (pc := 39) d37_39 ci_0 ?_))
  refine go_priv (pc := 40) (i := 0) (as := [.int (1 : Int32), .int (0 : Int32)]) (rest := []) (w' := (none, [(22, (k_finish (1 : Int32) (0 : Int32) s))])) lk_0_166 pd_30 rfl oid_0 rfl rfl rfl rfl rfl rfl ⟨rfl, rfl, rfl, rfl, rfl⟩ d37_40 (c_k_finish (1 : Int32) (0 : Int32) s) ?_
  refine go_goto (pc := 43) (pc' := 52) d37_43 j_43_9 (go_iinc (pc := 52) (L' := [.val (.ref 1), .val (.int v1), .val (.int (v2 + (1 : Int32)))]) d37_52 rfl ci_1 rfl (go_goto (pc := 55) (pc' := 4) d37_55 j_55_m51 ?_))
  exact hk4 v1 (v2 + (1 : Int32)) (k_finish (1 : Int32) (0 : Int32) s) _ hf
set_option maxRecDepth 65536 in
set_option maxHeartbeats 4000000 in
theorem k_execute_4_ok  : ∀ (n : Nat) (v1 : Int32) (v2 : Int32) (s : S)  (o : S), k_execute_4 n v1 v2 s = some o → Go PP m37 4 [.val (.ref 1), .val (.int v1), .val (.int v2)] [] (none, [(22, s)]) (none, (none, [(22, o)])) := by
  intro n
  induction n with
  | zero => intro v1 v2 s o hf; exact nomatch hf
  | succ n ih =>
    intro v1 v2 s o hf
    unfold k_execute_4 at hf
    refine go_iloadN (pc := 4) d37_4 rfl (go_sipush (pc := 5) d37_5 cs_4096 ?_)
    by_cases h1 : v2 < (4096 : Int32)
    · replace hf := (if_pos h1).symm.trans hf
      refine go_icN (pc := 8) d37_8 (XT.ii_ge_f h1) ?_
      refine go_aloadN (pc := 11) d37_11 rfl (go_getI (pc := 12) fs_109 hm_37 d37_12 ?_)
      by_cases h2 : (gI s 10) = 0
      · replace hf := (if_pos h2).symm.trans hf
        refine go_ifY (pc := 15) (pc' := 19) d37_15 (XT.i0_eq_t h2) j_15_4 ?_
        refine go_iloadN (pc := 19) d37_19 rfl ?_
        by_cases h3 : v1 < 0
        · replace hf := (if_pos h3).symm.trans hf
          refine go_ifY (pc := 20) (pc' := 37) d37_20 (XT.i0_lt_t h3) j_20_17 ?_
          exact k_execute_37_ok ih v1 v2 s _ hf
        · replace hf := (if_neg h3).symm.trans hf
          refine go_ifN (pc := 20) d37_20 (XT.i0_lt_f h3) ?_
          refine go_iloadN (pc := 23) d37_23 rfl (go_aloadN (pc := 24) d37_24 rfl (go_getI (pc := 25) fs_102 hm_37 d37_25 ?_))
          by_cases h4 : v1 < (gI s 8)
          · replace hf := (if_pos h4).symm.trans hf
            refine go_icN (pc := 28) d37_28 (XT.ii_ge_f h4) ?_
            refine go_iloadN (pc := 31) d37_31 rfl (go_bipush (pc := 32) d37_32 cb_32 ?_)
            by_cases h5 : v1 < (32 : Int32)
            · replace hf := (if_pos h5).symm.trans hf
              refine go_icY (pc := 34) (pc' := 46) d37_34 (XT.ii_lt_t h5) j_34_12 ?_
              refine go_aloadN (pc := 46) d37_46 rfl (go_iloadN (pc := 47) d37_47 rfl ?_)
              obtain ⟨r48, e6, hf⟩ := Option.bind_eq_some_iff.mp hf
              refine go_priv (pc := 48) (i := 0) (as := [.int v1]) (rest := []) (w' := (none, [(22, r48.2)])) lk_0_170 pd_36 rfl oid_0 rfl rfl rfl rfl rfl rfl ⟨rfl, rfl, rfl, rfl, rfl⟩ d37_48 (c_k_executeAt v1 s _ e6) ?_
              refine go_istoreN (pc := 51) (L' := [.val (.ref 1), .val (.int r48.1), .val (.int v2)]) d37_51 rfl (go_iinc (pc := 52) (L' := [.val (.ref 1), .val (.int r48.1), .val (.int (v2 + (1 : Int32)))]) d37_52 rfl ci_1 rfl (go_goto (pc := 55) (pc' := 4) d37_55 j_55_m51 ?_))
              exact ih r48.1 (v2 + (1 : Int32)) r48.2 _ hf
            · replace hf := (if_neg h5).symm.trans hf
              refine go_icN (pc := 34) d37_34 (XT.ii_lt_f h5) ?_
              exact k_execute_37_ok ih v1 v2 s _ hf
          · replace hf := (if_neg h4).symm.trans hf
            refine go_icY (pc := 28) (pc' := 37) d37_28 (XT.ii_ge_t h4) j_28_9 ?_
            exact k_execute_37_ok ih v1 v2 s _ hf
      · replace hf := (if_neg h2).symm.trans hf
        refine go_ifN (pc := 15) d37_15 (XT.i0_eq_f h2) ?_
        cases hf
        exact go_ret (pc := 18) rfl d37_18
    · replace hf := (if_neg h1).symm.trans hf
      refine go_icY (pc := 8) (pc' := 58) d37_8 (XT.ii_ge_t h1) j_8_50 ?_
      exact k_execute_58_ok s (.val (.int v1)) (.val (.int v2)) (Or.inr ⟨_, rfl, rfl⟩) (Or.inr ⟨_, rfl, rfl⟩) _ hf
set_option maxRecDepth 65536 in
set_option maxHeartbeats 4000000 in
theorem k_execute_ok  : ∀  (s : S)  (o : S), k_execute s = some o → Go PP m37 0 [.val (.ref 1), .unset, .unset] [] (none, [(22, s)]) (none, (none, [(22, o)])) := by
  intro s o hf
  unfold k_execute at hf
  refine go_iconst (pc := 0) d37_0 ci_0 (go_istoreN (pc := 1) (L' := [.val (.ref 1), .val (.int (0 : Int32)), .unset]) d37_1 rfl (go_iconst (pc := 2) d37_2 ci_0 (go_istoreN (pc := 3) (L' := [.val (.ref 1), .val (.int (0 : Int32)), .val (.int (0 : Int32))]) d37_3 rfl ?_)))
  exact k_execute_4_ok BIG (0 : Int32) (0 : Int32) s _ hf
theorem c_k_execute (s : S) (o : S) (hf : k_execute s = some o) : Call PP m37 [.ref 1] (none, [(22, s)]) (none, (none, [(22, o)])) := call_of_go pl_0 rfl (fun _ => rfl) (k_execute_ok s   _ hf)
set_option maxRecDepth 65536 in
set_option maxHeartbeats 4000000 in
theorem k_run_29_ok  : ∀  (s : S) (x1 : Slot) (hx1 : k1 x1) (o : Int32 × S), k_run_29 s = some o → Go PP m38 29 [.val (.ref 1), x1] [] (none, [(22, s)]) (some (.int o.1), (none, [(22, o.2)])) := by
  intro s x1 hx1 o hf
  unfold k_run_29 at hf
  refine go_aloadN (pc := 29) d38_29 rfl ?_
  obtain ⟨r30, e1, hf⟩ := Option.bind_eq_some_iff.mp hf
  refine go_priv (pc := 30) (i := 0) (as := []) (rest := []) (w' := (none, [(22, r30)])) lk_0_163 pd_37 rfl oid_0 rfl rfl rfl rfl rfl rfl ⟨rfl, rfl, rfl, rfl, rfl⟩ d38_30 (c_k_execute s _ e1) ?_
  refine go_aloadN (pc := 33) d38_33 rfl (go_getI (pc := 34) fs_109 hm_38 d38_34 ?_)
  cases hf
  exact go_iret (pc := 37) rfl d38_37
set_option maxRecDepth 65536 in
set_option maxHeartbeats 4000000 in
theorem k_run_ok  : ∀ (v1 : Int32) (s : S)  (o : Int32 × S), k_run v1 s = some o → Go PP m38 0 [.val (.ref 1), .val (.int v1)] [] (none, [(22, s)]) (some (.int o.1), (none, [(22, o.2)])) := by
  intro v1 s o hf
  unfold k_run at hf
  refine go_aloadN (pc := 0) d38_0 rfl (go_getZ (pc := 1) fs_105 hm_38 d38_1 ?_)
  by_cases h1 : (gI s 9) = 0
  · replace hf := (if_pos h1).symm.trans hf
    refine go_ifN (pc := 4) d38_4 (XT.i0_ne_f h1) ?_
    refine go_bipush (pc := 7) d38_7 cb_m8 ?_
    cases hf
    exact go_iret (pc := 9) rfl d38_9
  · replace hf := (if_neg h1).symm.trans hf
    refine go_ifY (pc := 4) (pc' := 10) d38_4 (XT.i0_ne_t h1) j_4_6 ?_
    refine go_aloadN (pc := 10) d38_10 rfl ?_
    obtain ⟨r11, e2, hf⟩ := Option.bind_eq_some_iff.mp hf
    refine go_priv (pc := 11) (i := 0) (as := []) (rest := []) (w' := (none, [(22, r11)])) lk_0_154 pd_11 rfl oid_0 rfl rfl rfl rfl rfl rfl ⟨rfl, rfl, rfl, rfl, rfl⟩ d38_11 (c_k_resetRun s _ e2) ?_
    refine go_iloadN (pc := 14) d38_14 rfl ?_
    by_cases h3 : v1 = 0
    · replace hf := (if_pos h3).symm.trans hf
      refine go_ifY (pc := 15) (pc' := 25) d38_15 (XT.i0_eq_t h3) j_15_10 ?_
      refine go_aloadN (pc := 25) d38_25 rfl ?_
      obtain ⟨r26, e4, hf⟩ := Option.bind_eq_some_iff.mp hf
      refine go_priv (pc := 26) (i := 0) (as := []) (rest := []) (w' := (none, [(22, r26)])) lk_0_160 pd_12 rfl oid_0 rfl rfl rfl rfl rfl rfl ⟨rfl, rfl, rfl, rfl, rfl⟩ d38_26 (c_k_clearMarks r11 _ e4) ?_
      exact k_run_29_ok r26 (.val (.int v1)) (Or.inr ⟨_, rfl, rfl⟩) _ hf
    · replace hf := (if_neg h3).symm.trans hf
      refine go_ifN (pc := 15) d38_15 (XT.i0_eq_f h3) ?_
      refine go_aloadN (pc := 18) d38_18 rfl ?_
      obtain ⟨r19, e5, hf⟩ := Option.bind_eq_some_iff.mp hf
      refine go_priv (pc := 19) (i := 0) (as := []) (rest := []) (w' := (none, [(22, r19)])) lk_0_157 pd_29 rfl oid_0 rfl rfl rfl rfl rfl rfl ⟨rfl, rfl, rfl, rfl, rfl⟩ d38_19 (c_k_optimise r11 _ e5) ?_
      refine go_goto (pc := 22) (pc' := 29) d38_22 j_22_7 ?_
      exact k_run_29_ok r19 (.val (.int v1)) (Or.inr ⟨_, rfl, rfl⟩) _ hf
theorem c_k_run (v1 : Int32) (s : S) (o : Int32 × S) (hf : k_run v1 s = some o) : Call PP m38 [.ref 1, .int v1] (none, [(22, s)]) (some (.int o.1), (none, [(22, o.2)])) := call_of_go pl_0 rfl (fun h => nomatch h) (k_run_ok v1 s   _ hf)
set_option maxRecDepth 65536 in
set_option maxHeartbeats 4000000 in
theorem k_getOutcome_ok  : ∀  (s : S)  (o : Int32), k_getOutcome s = o → Go PP m39 0 [.val (.ref 1)] [] (none, [(22, s)]) (some (.int o), (none, [(22, s)])) := by
  intro s o hf
  unfold k_getOutcome at hf
  refine go_aloadN (pc := 0) d39_0 rfl (go_getI (pc := 1) fs_109 hm_39 d39_1 ?_)
  cases hf
  exact go_iret (pc := 4) rfl d39_4
theorem c_k_getOutcome (s : S) : Call PP m39 [.ref 1] (none, [(22, s)]) (some (.int (k_getOutcome s)), (none, [(22, s)])) := call_of_go pl_0 rfl (fun h => nomatch h) (k_getOutcome_ok s   _ rfl)
set_option maxRecDepth 65536 in
set_option maxHeartbeats 4000000 in
theorem k_getResult_ok  : ∀  (s : S)  (o : Int32), k_getResult s = o → Go PP m40 0 [.val (.ref 1)] [] (none, [(22, s)]) (some (.int o), (none, [(22, s)])) := by
  intro s o hf
  unfold k_getResult at hf
  refine go_aloadN (pc := 0) d40_0 rfl (go_getI (pc := 1) fs_109 hm_40 d40_1 (go_iconst (pc := 4) d40_4 ci_1 ?_))
  by_cases h1 : (gI s 10) = (1 : Int32)
  · replace hf := (if_pos h1).symm.trans hf
    refine go_icY (pc := 5) (pc' := 10) d40_5 (XT.ii_eq_t h1) j_5_5 ?_
    refine go_aloadN (pc := 10) d40_10 rfl (go_getI (pc := 11) fs_112 hm_40 d40_11 ?_)
    cases hf
    exact go_iret (pc := 14) rfl d40_14
  · replace hf := (if_neg h1).symm.trans hf
    refine go_icN (pc := 5) d40_5 (XT.ii_eq_f h1) ?_
    refine go_iconst (pc := 8) d40_8 ci_0 ?_
    cases hf
    exact go_iret (pc := 9) rfl d40_9
theorem c_k_getResult (s : S) : Call PP m40 [.ref 1] (none, [(22, s)]) (some (.int (k_getResult s)), (none, [(22, s)])) := call_of_go pl_0 rfl (fun h => nomatch h) (k_getResult_ok s   _ rfl)
set_option maxRecDepth 65536 in
set_option maxHeartbeats 4000000 in
theorem k_getOutputCount_ok  : ∀  (s : S)  (o : Int32), k_getOutputCount s = o → Go PP m41 0 [.val (.ref 1)] [] (none, [(22, s)]) (some (.int o), (none, [(22, s)])) := by
  intro s o hf
  unfold k_getOutputCount at hf
  refine go_aloadN (pc := 0) d41_0 rfl (go_getI (pc := 1) fs_115 hm_41 d41_1 ?_)
  cases hf
  exact go_iret (pc := 4) rfl d41_4
theorem c_k_getOutputCount (s : S) : Call PP m41 [.ref 1] (none, [(22, s)]) (some (.int (k_getOutputCount s)), (none, [(22, s)])) := call_of_go pl_0 rfl (fun h => nomatch h) (k_getOutputCount_ok s   _ rfl)
set_option maxRecDepth 65536 in
set_option maxHeartbeats 4000000 in
theorem k_getOutput_ok  : ∀ (v1 : Int32) (s : S)  (o : Int32), k_getOutput v1 s = some o → Go PP m42 0 [.val (.ref 1), .val (.int v1)] [] (none, [(22, s)]) (some (.int o), (none, [(22, s)])) := by
  intro v1 s o hf
  unfold k_getOutput at hf
  refine go_iloadN (pc := 0) d42_0 rfl ?_
  by_cases h1 : v1 < 0
  · replace hf := (if_pos h1).symm.trans hf
    refine go_ifY (pc := 1) (pc' := 18) d42_1 (XT.i0_lt_t h1) j_1_17 ?_
    refine go_iconst (pc := 18) d42_18 ci_0 ?_
    cases hf
    exact go_iret (pc := 19) rfl d42_19
  · replace hf := (if_neg h1).symm.trans hf
    refine go_ifN (pc := 1) d42_1 (XT.i0_lt_f h1) ?_
    refine go_iloadN (pc := 4) d42_4 rfl (go_bipush (pc := 5) d42_5 cb_32 ?_)
    by_cases h2 : v1 < (32 : Int32)
    · replace hf := (if_pos h2).symm.trans hf
      refine go_icN (pc := 7) d42_7 (XT.ii_ge_f h2) ?_
      refine go_iloadN (pc := 10) d42_10 rfl (go_aloadN (pc := 11) d42_11 rfl (go_getI (pc := 12) fs_115 hm_42 d42_12 ?_))
      by_cases h3 : v1 < (gI s 12)
      · replace hf := (if_pos h3).symm.trans hf
        refine go_icY (pc := 15) (pc' := 20) d42_15 (XT.ii_lt_t h3) j_15_5 ?_
        refine go_aloadN (pc := 20) d42_20 rfl (go_getA (pc := 21) fa_66 hm_42 d42_21 rfl (go_iloadN (pc := 24) d42_24 rfl ?_))
        obtain ⟨a25, e4, hf⟩ := Option.bind_eq_some_iff.mp hf
        refine go_iaload (pc := 25) (q := 11) ar_11 rfl e4 d42_25 ?_
        cases hf
        exact go_iret (pc := 26) rfl d42_26
      · replace hf := (if_neg h3).symm.trans hf
        refine go_icN (pc := 15) d42_15 (XT.ii_lt_f h3) ?_
        refine go_iconst (pc := 18) d42_18 ci_0 ?_
        cases hf
        exact go_iret (pc := 19) rfl d42_19
    · replace hf := (if_neg h2).symm.trans hf
      refine go_icY (pc := 7) (pc' := 18) d42_7 (XT.ii_ge_t h2) j_7_11 ?_
      refine go_iconst (pc := 18) d42_18 ci_0 ?_
      cases hf
      exact go_iret (pc := 19) rfl d42_19
theorem c_k_getOutput (v1 : Int32) (s : S) (o : Int32) (hf : k_getOutput v1 s = some o) : Call PP m42 [.ref 1, .int v1] (none, [(22, s)]) (some (.int o), (none, [(22, s)])) := call_of_go pl_0 rfl (fun h => nomatch h) (k_getOutput_ok v1 s   _ hf)
set_option maxRecDepth 65536 in
set_option maxHeartbeats 4000000 in
theorem k_getHeapAfter_ok  : ∀ (v1 : Int32) (s : S)  (o : Int32), k_getHeapAfter v1 s = some o → Go PP m43 0 [.val (.ref 1), .val (.int v1)] [] (none, [(22, s)]) (some (.int o), (none, [(22, s)])) := by
  intro v1 s o hf
  unfold k_getHeapAfter at hf
  refine go_iloadN (pc := 0) d43_0 rfl ?_
  by_cases h1 : v1 < 0
  · replace hf := (if_pos h1).symm.trans hf
    refine go_ifY (pc := 1) (pc' := 18) d43_1 (XT.i0_lt_t h1) j_1_17 ?_
    refine go_iconst (pc := 18) d43_18 ci_0 ?_
    cases hf
    exact go_iret (pc := 19) rfl d43_19
  · replace hf := (if_neg h1).symm.trans hf
    refine go_ifN (pc := 1) d43_1 (XT.i0_lt_f h1) ?_
    refine go_iloadN (pc := 4) d43_4 rfl (go_aloadN (pc := 5) d43_5 rfl (go_getI (pc := 6) fs_99 hm_43 d43_6 ?_))
    by_cases h2 : v1 < (gI s 7)
    · replace hf := (if_pos h2).symm.trans hf
      refine go_icN (pc := 9) d43_9 (XT.ii_ge_f h2) ?_
      refine go_iloadN (pc := 12) d43_12 rfl (go_bipush (pc := 13) d43_13 cb_64 ?_)
      by_cases h3 : v1 < (64 : Int32)
      · replace hf := (if_pos h3).symm.trans hf
        refine go_icY (pc := 15) (pc' := 20) d43_15 (XT.ii_lt_t h3) j_15_5 ?_
        refine go_aloadN (pc := 20) d43_20 rfl (go_getA (pc := 21) fa_63 hm_43 d43_21 rfl (go_iloadN (pc := 24) d43_24 rfl ?_))
        obtain ⟨a25, e4, hf⟩ := Option.bind_eq_some_iff.mp hf
        refine go_iaload (pc := 25) (q := 10) ar_10 rfl e4 d43_25 ?_
        cases hf
        exact go_iret (pc := 26) rfl d43_26
      · replace hf := (if_neg h3).symm.trans hf
        refine go_icN (pc := 15) d43_15 (XT.ii_lt_f h3) ?_
        refine go_iconst (pc := 18) d43_18 ci_0 ?_
        cases hf
        exact go_iret (pc := 19) rfl d43_19
    · replace hf := (if_neg h2).symm.trans hf
      refine go_icY (pc := 9) (pc' := 18) d43_9 (XT.ii_ge_t h2) j_9_9 ?_
      refine go_iconst (pc := 18) d43_18 ci_0 ?_
      cases hf
      exact go_iret (pc := 19) rfl d43_19
theorem c_k_getHeapAfter (v1 : Int32) (s : S) (o : Int32) (hf : k_getHeapAfter v1 s = some o) : Call PP m43 [.ref 1, .int v1] (none, [(22, s)]) (some (.int o), (none, [(22, s)])) := call_of_go pl_0 rfl (fun h => nomatch h) (k_getHeapAfter_ok v1 s   _ hf)
set_option maxRecDepth 65536 in
set_option maxHeartbeats 4000000 in
theorem k_getRegAfter_ok  : ∀ (v1 : Int32) (s : S)  (o : Int32), k_getRegAfter v1 s = some o → Go PP m44 0 [.val (.ref 1), .val (.int v1)] [] (none, [(22, s)]) (some (.int o), (none, [(22, s)])) := by
  intro v1 s o hf
  unfold k_getRegAfter at hf
  refine go_aloadN (pc := 0) d44_0 rfl (go_getI (pc := 1) fs_109 hm_44 d44_1 (go_iconst (pc := 4) d44_4 ci_1 ?_))
  by_cases h1 : (gI s 10) = (1 : Int32)
  · replace hf := (if_pos h1).symm.trans hf
    refine go_icY (pc := 5) (pc' := 10) d44_5 (XT.ii_eq_t h1) j_5_5 ?_
    refine go_iloadN (pc := 10) d44_10 rfl ?_
    by_cases h2 : v1 < 0
    · replace hf := (if_pos h2).symm.trans hf
      refine go_ifY (pc := 11) (pc' := 20) d44_11 (XT.i0_lt_t h2) j_11_9 ?_
      refine go_iconst (pc := 20) d44_20 ci_0 ?_
      cases hf
      exact go_iret (pc := 21) rfl d44_21
    · replace hf := (if_neg h2).symm.trans hf
      refine go_ifN (pc := 11) d44_11 (XT.i0_lt_f h2) ?_
      refine go_iloadN (pc := 14) d44_14 rfl (go_bipush (pc := 15) d44_15 cb_7 ?_)
      by_cases h3 : (7 : Int32) < v1
      · replace hf := (if_pos h3).symm.trans hf
        refine go_icN (pc := 17) d44_17 (XT.ii_le_f h3) ?_
        refine go_iconst (pc := 20) d44_20 ci_0 ?_
        cases hf
        exact go_iret (pc := 21) rfl d44_21
      · replace hf := (if_neg h3).symm.trans hf
        refine go_icY (pc := 17) (pc' := 22) d44_17 (XT.ii_le_t h3) j_17_5 ?_
        refine go_aloadN (pc := 22) d44_22 rfl (go_getA (pc := 23) fa_69 hm_44 d44_23 rfl (go_iloadN (pc := 26) d44_26 rfl ?_))
        obtain ⟨a27, e4, hf⟩ := Option.bind_eq_some_iff.mp hf
        refine go_iaload (pc := 27) (q := 12) ar_12 rfl e4 d44_27 ?_
        cases hf
        exact go_iret (pc := 28) rfl d44_28
  · replace hf := (if_neg h1).symm.trans hf
    refine go_icN (pc := 5) d44_5 (XT.ii_eq_f h1) ?_
    refine go_iconst (pc := 8) d44_8 ci_0 ?_
    cases hf
    exact go_iret (pc := 9) rfl d44_9
theorem c_k_getRegAfter (v1 : Int32) (s : S) (o : Int32) (hf : k_getRegAfter v1 s = some o) : Call PP m44 [.ref 1, .int v1] (none, [(22, s)]) (some (.int o), (none, [(22, s)])) := call_of_go pl_0 rfl (fun h => nomatch h) (k_getRegAfter_ok v1 s   _ hf)
set_option maxRecDepth 65536 in
set_option maxHeartbeats 4000000 in
theorem h_init_ok_n1  {y0 : S} : ∀ (v0 : Int32) (v1 : Int32) (v2 : Int32) (v3 : Int32)   (o : Int32), h_init v0 v1 v2 v3 = o → Go PP m10 0 [.val (.int v0), .val (.int v1), .val (.int v2), .val (.int v3)] [] (none, [(22, y0)]) (some (.int o), (none, [(22, y0)])) := by
  intro v0 v1 v2 v3 o hf
  unfold h_init at hf
  refine go_iloadN (pc := 0) d10_0 rfl (go_bipush (pc := 1) d10_1 cb_8 ?_)
  by_cases h1 : v0 = (8 : Int32)
  · replace hf := (if_pos h1).symm.trans hf
    refine go_icN (pc := 3) d10_3 (XT.ii_ne_f h1) ?_
    refine go_iloadN (pc := 6) d10_6 rfl ?_
    cases hf
    exact go_iret (pc := 7) rfl d10_7
  · replace hf := (if_neg h1).symm.trans hf
    refine go_icY (pc := 3) (pc' := 8) d10_3 (XT.ii_ne_t h1) j_3_5 ?_
    refine go_iloadN (pc := 8) d10_8 rfl (go_bipush (pc := 9) d10_9 cb_9 ?_)
    by_cases h2 : v0 = (9 : Int32)
    · replace hf := (if_pos h2).symm.trans hf
      refine go_icN (pc := 11) d10_11 (XT.ii_ne_f h2) ?_
      refine go_iloadN (pc := 14) d10_14 rfl ?_
      cases hf
      exact go_iret (pc := 15) rfl d10_15
    · replace hf := (if_neg h2).symm.trans hf
      refine go_icY (pc := 11) (pc' := 16) d10_11 (XT.ii_ne_t h2) j_11_5 ?_
      refine go_iloadN (pc := 16) d10_16 rfl (go_bipush (pc := 17) d10_17 cb_10 ?_)
      by_cases h3 : v0 = (10 : Int32)
      · replace hf := (if_pos h3).symm.trans hf
        refine go_icN (pc := 19) d10_19 (XT.ii_ne_f h3) ?_
        refine go_iloadN (pc := 22) d10_22 rfl ?_
        cases hf
        exact go_iret (pc := 23) rfl d10_23
      · replace hf := (if_neg h3).symm.trans hf
        refine go_icY (pc := 19) (pc' := 24) d10_19 (XT.ii_ne_t h3) j_19_5 ?_
        refine go_iconst (pc := 24) d10_24 ci_0 ?_
        cases hf
        exact go_iret (pc := 25) rfl d10_25
theorem c_h_init_n1 (v0 : Int32) (v1 : Int32) (v2 : Int32) (v3 : Int32) (y0 : S) : Call PP m10 [.int v0, .int v1, .int v2, .int v3] (none, [(22, y0)]) (some (.int (h_init v0 v1 v2 v3)), (none, [(22, y0)])) := call_of_go pl_1 rfl (fun h => nomatch h) (h_init_ok_n1 v0 v1 v2 v3   _ rfl)
def T_law_374 (k374 : Int32 → Int32 → Int32 → Int32 → S → Option (Int32 × S)) : Prop := ∀ (v0 : Int32) (v8 : Int32) (v9 : Int32) (v10 : Int32) (t0 : S) (x1 : Slot) (x2 : Slot) (x3 : Slot) (x5 : Slot) (x6 : Slot) (x7 : Slot) (x11 : Slot) (x12 : Slot) (hx1 : k1 x1) (hx2 : k1 x2) (hx3 : k1 x3) (hx5 : k1 x5) (hx6 : k1 x6) (hx7 : k1 x7) (hx11 : k1 x11) (hx12 : k1 x12) (o : Int32 × S), k374 v0 v8 v9 v10 t0 = some o → Go PP m45 374 [.val (.int v0), x1, x2, x3, .val (.ref 1), x5, x6, x7, .val (.int v8), .val (.int v9), .val (.int v10), x11, x12] [] (none, [(22, t0)]) (some (.int o.1), (none, [(22, o.2)]))
set_option maxRecDepth 65536 in
set_option maxHeartbeats 4000000 in
theorem law_427_ok {k374 : Int32 → Int32 → Int32 → Int32 → S → Option (Int32 × S)} (hk374 : T_law_374 k374) : ∀ (v0 : Int32) (v8 : Int32) (v9 : Int32) (v10 : Int32) (v11 : Int32) (t0 : S) (x1 : Slot) (x2 : Slot) (x3 : Slot) (x5 : Slot) (x6 : Slot) (x7 : Slot) (x12 : Slot) (hx1 : k1 x1) (hx2 : k1 x2) (hx3 : k1 x3) (hx5 : k1 x5) (hx6 : k1 x6) (hx7 : k1 x7) (hx12 : k1 x12) (o : Int32 × S), law_427 k374 v0 v8 v9 v10 v11 t0 = some o → Go PP m45 427 [.val (.int v0), x1, x2, x3, .val (.ref 1), x5, x6, x7, .val (.int v8), .val (.int v9), .val (.int v10), .val (.int v11), x12] [] (none, [(22, t0)]) (some (.int o.1), (none, [(22, o.2)])) := by
  intro v0 v8 v9 v10 v11 t0 x1 x2 x3 x5 x6 x7 x12 hx1 hx2 hx3 hx5 hx6 hx7 hx12 o hf
  unfold law_427 at hf
  refine go_aload (pc := 427) d45_427 rfl (go_iload (pc := 429) d45_429 rfl ?_)
  obtain ⟨r431, e1, hf⟩ := Option.bind_eq_some_iff.mp hf
  refine go_virt (pc := 431) (i := 0) (as := [.int v10]) (rest := []) (w' := (none, [(22, t0)])) lk_1_49 pd_44 rfl oid_0 rfl rfl rfl rfl rfl rfl ⟨rfl, rfl, rfl, rfl, rfl⟩ d45_431 (c_k_getRegAfter v10 t0 _ e1) ?_
  refine go_iload (pc := 434) d45_434 rfl ?_
  by_cases h2 : r431 = v11
  · replace hf := (if_pos h2).symm.trans hf
    refine go_icY (pc := 436) (pc' := 441) d45_436 (XT.ii_eq_t h2) j_436_5 ?_
    refine go_iinc (pc := 441) (L' := [.val (.int v0), x1, x2, x3, .val (.ref 1), x5, x6, x7, .val (.int v8), .val (.int v9), .val (.int (v10 + (1 : Int32))), .val (.int v11), x12]) d45_441 rfl ci_1 rfl (go_goto (pc := 444) (pc' := 374) d45_444 j_444_m70 ?_)
    exact hk374 v0 v8 v9 (v10 + (1 : Int32)) t0 x1 x2 x3 x5 x6 x7 (.val (.int v11)) x12 hx1 hx2 hx3 hx5 hx6 hx7 (Or.inr ⟨_, rfl, rfl⟩) hx12 _ hf
  · replace hf := (if_neg h2).symm.trans hf
    refine go_icN (pc := 436) d45_436 (XT.ii_eq_f h2) ?_
    refine go_iconst (pc := 439) d45_439 ci_0 ?_
    cases hf
    exact go_zret (pc := 440) rfl d45_440 (show (0 : Int32) = nar .boolean (0 : Int32) by decide)
set_option maxRecDepth 65536 in
set_option maxHeartbeats 4000000 in
theorem law_412_ok {k374 : Int32 → Int32 → Int32 → Int32 → S → Option (Int32 × S)} (hk374 : T_law_374 k374) : ∀ (v0 : Int32) (v8 : Int32) (v9 : Int32) (v10 : Int32) (v11 : Int32) (t0 : S) (x1 : Slot) (x2 : Slot) (x3 : Slot) (x5 : Slot) (x6 : Slot) (x7 : Slot) (x12 : Slot) (hx1 : k1 x1) (hx2 : k1 x2) (hx3 : k1 x3) (hx5 : k1 x5) (hx6 : k1 x6) (hx7 : k1 x7) (hx12 : k1 x12) (o : Int32 × S), law_412 k374 v0 v8 v9 v10 v11 t0 = some o → Go PP m45 412 [.val (.int v0), x1, x2, x3, .val (.ref 1), x5, x6, x7, .val (.int v8), .val (.int v9), .val (.int v10), .val (.int v11), x12] [] (none, [(22, t0)]) (some (.int o.1), (none, [(22, o.2)])) := by
  intro v0 v8 v9 v10 v11 t0 x1 x2 x3 x5 x6 x7 x12 hx1 hx2 hx3 hx5 hx6 hx7 hx12 o hf
  unfold law_412 at hf
  refine go_iload (pc := 412) d45_412 rfl ?_
  by_cases h1 : v8 = 0
  · refine go_ifY (pc := 414) (pc' := 427) d45_414 (XT.i0_eq_t h1) j_414_13 ?_
    exact law_427_ok hk374 v0 v8 v9 v10 v11 t0 x1 x2 x3 x5 x6 x7 x12 hx1 hx2 hx3 hx5 hx6 hx7 hx12 _ (by simpa only [if_pos h1] using hf)
  · refine go_ifN (pc := 414) d45_414 (XT.i0_eq_f h1) ?_
    refine go_iload (pc := 417) d45_417 rfl (go_iconst (pc := 419) d45_419 ci_2 ?_)
    by_cases h2 : v10 = (2 : Int32)
    · refine go_icN (pc := 420) d45_420 (XT.ii_ne_f h2) ?_
      refine go_iload (pc := 423) d45_423 rfl (go_istore (pc := 425) (L' := [.val (.int v0), x1, x2, x3, .val (.ref 1), x5, x6, x7, .val (.int v8), .val (.int v9), .val (.int v10), .val (.int v9), x12]) d45_425 rfl ?_)
      exact law_427_ok hk374 v0 v8 v9 v10 v9 t0 x1 x2 x3 x5 x6 x7 x12 hx1 hx2 hx3 hx5 hx6 hx7 hx12 _ (by simpa only [if_neg h1, if_pos h2] using hf)
    · refine go_icY (pc := 420) (pc' := 427) d45_420 (XT.ii_ne_t h2) j_420_7 ?_
      exact law_427_ok hk374 v0 v8 v9 v10 v11 t0 x1 x2 x3 x5 x6 x7 x12 hx1 hx2 hx3 hx5 hx6 hx7 hx12 _ (by simpa only [if_neg h1, if_neg h2] using hf)
set_option maxRecDepth 65536 in
set_option maxHeartbeats 4000000 in
theorem law_398_ok {k374 : Int32 → Int32 → Int32 → Int32 → S → Option (Int32 × S)} (hk374 : T_law_374 k374) : ∀ (v0 : Int32) (v8 : Int32) (v9 : Int32) (v10 : Int32) (v11 : Int32) (t0 : S) (x1 : Slot) (x2 : Slot) (x3 : Slot) (x5 : Slot) (x6 : Slot) (x7 : Slot) (x12 : Slot) (hx1 : k1 x1) (hx2 : k1 x2) (hx3 : k1 x3) (hx5 : k1 x5) (hx6 : k1 x6) (hx7 : k1 x7) (hx12 : k1 x12) (o : Int32 × S), law_398 k374 v0 v8 v9 v10 v11 t0 = some o → Go PP m45 398 [.val (.int v0), x1, x2, x3, .val (.ref 1), x5, x6, x7, .val (.int v8), .val (.int v9), .val (.int v10), .val (.int v11), x12] [] (none, [(22, t0)]) (some (.int o.1), (none, [(22, o.2)])) := by
  intro v0 v8 v9 v10 v11 t0 x1 x2 x3 x5 x6 x7 x12 hx1 hx2 hx3 hx5 hx6 hx7 hx12 o hf
  unfold law_398 at hf
  refine go_iload (pc := 398) d45_398 rfl ?_
  by_cases h1 : v8 = 0
  · refine go_ifY (pc := 400) (pc' := 412) d45_400 (XT.i0_eq_t h1) j_400_12 ?_
    exact law_412_ok hk374 v0 v8 v9 v10 v11 t0 x1 x2 x3 x5 x6 x7 x12 hx1 hx2 hx3 hx5 hx6 hx7 hx12 _ (by simpa only [if_pos h1] using hf)
  · refine go_ifN (pc := 400) d45_400 (XT.i0_eq_f h1) ?_
    refine go_iload (pc := 403) d45_403 rfl (go_iconst (pc := 405) d45_405 ci_1 ?_)
    by_cases h2 : v10 = (1 : Int32)
    · refine go_icN (pc := 406) d45_406 (XT.ii_ne_f h2) ?_
      refine go_iloadN (pc := 409) d45_409 rfl (go_istore (pc := 410) (L' := [.val (.int v0), x1, x2, x3, .val (.ref 1), x5, x6, x7, .val (.int v8), .val (.int v9), .val (.int v10), .val (.int v0), x12]) d45_410 rfl ?_)
      exact law_412_ok hk374 v0 v8 v9 v10 v0 t0 x1 x2 x3 x5 x6 x7 x12 hx1 hx2 hx3 hx5 hx6 hx7 hx12 _ (by simpa only [if_neg h1, if_pos h2] using hf)
    · refine go_icY (pc := 406) (pc' := 412) d45_406 (XT.ii_ne_t h2) j_406_6 ?_
      exact law_412_ok hk374 v0 v8 v9 v10 v11 t0 x1 x2 x3 x5 x6 x7 x12 hx1 hx2 hx3 hx5 hx6 hx7 hx12 _ (by simpa only [if_neg h1, if_neg h2] using hf)
set_option maxRecDepth 65536 in
set_option maxHeartbeats 4000000 in
theorem law_374_ok  : ∀ (n : Nat) (v0 : Int32) (v8 : Int32) (v9 : Int32) (v10 : Int32) (t0 : S) (x1 : Slot) (x2 : Slot) (x3 : Slot) (x5 : Slot) (x6 : Slot) (x7 : Slot) (x11 : Slot) (x12 : Slot) (hx1 : k1 x1) (hx2 : k1 x2) (hx3 : k1 x3) (hx5 : k1 x5) (hx6 : k1 x6) (hx7 : k1 x7) (hx11 : k1 x11) (hx12 : k1 x12) (o : Int32 × S), law_374 n v0 v8 v9 v10 t0 = some o → Go PP m45 374 [.val (.int v0), x1, x2, x3, .val (.ref 1), x5, x6, x7, .val (.int v8), .val (.int v9), .val (.int v10), x11, x12] [] (none, [(22, t0)]) (some (.int o.1), (none, [(22, o.2)])) := by
  intro n
  induction n with
  | zero => intro v0 v8 v9 v10 t0 x1 x2 x3 x5 x6 x7 x11 x12 hx1 hx2 hx3 hx5 hx6 hx7 hx11 hx12 o hf; exact nomatch hf
  | succ n ih =>
    intro v0 v8 v9 v10 t0 x1 x2 x3 x5 x6 x7 x11 x12 hx1 hx2 hx3 hx5 hx6 hx7 hx11 hx12 o hf
    unfold law_374 at hf
    refine go_iload (pc := 374) d45_374 rfl (go_bipush (pc := 376) d45_376 cb_8 ?_)
    by_cases h1 : v10 < (8 : Int32)
    · replace hf := (if_pos h1).symm.trans hf
      refine go_icN (pc := 378) d45_378 (XT.ii_ge_f h1) ?_
      refine go_iconst (pc := 381) d45_381 ci_0 (go_istore (pc := 382) (L' := [.val (.int v0), x1, x2, x3, .val (.ref 1), x5, x6, x7, .val (.int v8), .val (.int v9), .val (.int v10), .val (.int (0 : Int32)), x12]) d45_382 (stx rfl hx11 rfl) (go_iload (pc := 384) d45_384 rfl ?_))
      by_cases h2 : v8 = 0
      · refine go_ifY (pc := 386) (pc' := 398) d45_386 (XT.i0_eq_t h2) j_386_12 ?_
        exact law_398_ok ih v0 v8 v9 v10 (0 : Int32) t0 x1 x2 x3 x5 x6 x7 x12 hx1 hx2 hx3 hx5 hx6 hx7 hx12 _ (by simpa only [if_pos h2] using hf)
      · refine go_ifN (pc := 386) d45_386 (XT.i0_eq_f h2) ?_
        refine go_iload (pc := 389) d45_389 rfl ?_
        by_cases h3 : v10 = 0
        · refine go_ifN (pc := 391) d45_391 (XT.i0_ne_f h3) ?_
          refine go_bipush (pc := 394) d45_394 cb_8 (go_istore (pc := 396) (L' := [.val (.int v0), x1, x2, x3, .val (.ref 1), x5, x6, x7, .val (.int v8), .val (.int v9), .val (.int v10), .val (.int (8 : Int32)), x12]) d45_396 rfl ?_)
          exact law_398_ok ih v0 v8 v9 v10 (8 : Int32) t0 x1 x2 x3 x5 x6 x7 x12 hx1 hx2 hx3 hx5 hx6 hx7 hx12 _ (by simpa only [if_neg h2, if_pos h3] using hf)
        · refine go_ifY (pc := 391) (pc' := 398) d45_391 (XT.i0_ne_t h3) j_391_7 ?_
          exact law_398_ok ih v0 v8 v9 v10 (0 : Int32) t0 x1 x2 x3 x5 x6 x7 x12 hx1 hx2 hx3 hx5 hx6 hx7 hx12 _ (by simpa only [if_neg h2, if_neg h3] using hf)
    · replace hf := (if_neg h1).symm.trans hf
      refine go_icY (pc := 378) (pc' := 447) d45_378 (XT.ii_ge_t h1) j_378_69 ?_
      refine go_iconst (pc := 447) d45_447 ci_1 ?_
      cases hf
      exact go_zret (pc := 448) rfl d45_448 (show (1 : Int32) = nar .boolean (1 : Int32) by decide)
set_option maxRecDepth 65536 in
set_option maxHeartbeats 4000000 in
theorem law_371_ok  : ∀ (v0 : Int32) (v8 : Int32) (v9 : Int32) (t0 : S) (x1 : Slot) (x2 : Slot) (x3 : Slot) (x5 : Slot) (x6 : Slot) (x7 : Slot) (x10 : Slot) (x11 : Slot) (x12 : Slot) (hx1 : k1 x1) (hx2 : k1 x2) (hx3 : k1 x3) (hx5 : k1 x5) (hx6 : k1 x6) (hx7 : k1 x7) (hx10 : k1 x10) (hx11 : k1 x11) (hx12 : k1 x12) (o : Int32 × S), law_371 v0 v8 v9 t0 = some o → Go PP m45 371 [.val (.int v0), x1, x2, x3, .val (.ref 1), x5, x6, x7, .val (.int v8), .val (.int v9), x10, x11, x12] [] (none, [(22, t0)]) (some (.int o.1), (none, [(22, o.2)])) := by
  intro v0 v8 v9 t0 x1 x2 x3 x5 x6 x7 x10 x11 x12 hx1 hx2 hx3 hx5 hx6 hx7 hx10 hx11 hx12 o hf
  unfold law_371 at hf
  refine go_iconst (pc := 371) d45_371 ci_0 (go_istore (pc := 372) (L' := [.val (.int v0), x1, x2, x3, .val (.ref 1), x5, x6, x7, .val (.int v8), .val (.int v9), .val (.int (0 : Int32)), x11, x12]) d45_372 (stx rfl hx10 rfl) ?_)
  exact law_374_ok BIG v0 v8 v9 (0 : Int32) t0 x1 x2 x3 x5 x6 x7 x11 x12 hx1 hx2 hx3 hx5 hx6 hx7 hx11 hx12 _ hf
def T_law_310 (k310 : Int32 → Int32 → Int32 → Int32 → Int32 → Int32 → Int32 → S → Option (Int32 × S)) : Prop := ∀ (v0 : Int32) (v1 : Int32) (v2 : Int32) (v5 : Int32) (v8 : Int32) (v9 : Int32) (v10 : Int32) (t0 : S) (x3 : Slot) (x6 : Slot) (x7 : Slot) (x11 : Slot) (x12 : Slot) (hx3 : k1 x3) (hx6 : k1 x6) (hx7 : k1 x7) (hx11 : k1 x11) (hx12 : k1 x12) (o : Int32 × S), k310 v0 v1 v2 v5 v8 v9 v10 t0 = some o → Go PP m45 310 [.val (.int v0), .val (.int v1), .val (.int v2), x3, .val (.ref 1), .val (.int v5), x6, x7, .val (.int v8), .val (.int v9), .val (.int v10), x11, x12] [] (none, [(22, t0)]) (some (.int o.1), (none, [(22, o.2)]))
set_option maxRecDepth 65536 in
set_option maxHeartbeats 4000000 in
theorem law_349_ok {k310 : Int32 → Int32 → Int32 → Int32 → Int32 → Int32 → Int32 → S → Option (Int32 × S)} (hk310 : T_law_310 k310) : ∀ (v0 : Int32) (v1 : Int32) (v2 : Int32) (v5 : Int32) (v8 : Int32) (v9 : Int32) (v10 : Int32) (v11 : Int32) (p0 : Int32) (t0 : S) (x3 : Slot) (x6 : Slot) (x7 : Slot) (x12 : Slot) (hx3 : k1 x3) (hx6 : k1 x6) (hx7 : k1 x7) (hx12 : k1 x12) (o : Int32 × S), law_349 k310 v0 v1 v2 v5 v8 v9 v10 v11 p0 t0 = some o → Go PP m45 349 [.val (.int v0), .val (.int v1), .val (.int v2), x3, .val (.ref 1), .val (.int v5), x6, x7, .val (.int v8), .val (.int v9), .val (.int v10), .val (.int v11), x12] [.int p0] (none, [(22, t0)]) (some (.int o.1), (none, [(22, o.2)])) := by
  intro v0 v1 v2 v5 v8 v9 v10 v11 p0 t0 x3 x6 x7 x12 hx3 hx6 hx7 hx12 o hf
  unfold law_349 at hf
  refine go_istore (pc := 349) (L' := [.val (.int v0), .val (.int v1), .val (.int v2), x3, .val (.ref 1), .val (.int v5), x6, x7, .val (.int v8), .val (.int v9), .val (.int v10), .val (.int v11), .val (.int p0)]) d45_349 (stx rfl hx12 rfl) (go_aload (pc := 351) d45_351 rfl (go_iload (pc := 353) d45_353 rfl ?_))
  obtain ⟨r355, e1, hf⟩ := Option.bind_eq_some_iff.mp hf
  refine go_virt (pc := 355) (i := 0) (as := [.int v11]) (rest := []) (w' := (none, [(22, t0)])) lk_1_46 pd_43 rfl oid_0 rfl rfl rfl rfl rfl rfl ⟨rfl, rfl, rfl, rfl, rfl⟩ d45_355 (c_k_getHeapAfter v11 t0 _ e1) ?_
  refine go_iload (pc := 358) d45_358 rfl ?_
  by_cases h2 : r355 = p0
  · replace hf := (if_pos h2).symm.trans hf
    refine go_icY (pc := 360) (pc' := 365) d45_360 (XT.ii_eq_t h2) j_360_5 ?_
    refine go_iinc (pc := 365) (L' := [.val (.int v0), .val (.int v1), .val (.int v2), x3, .val (.ref 1), .val (.int v5), x6, x7, .val (.int v8), .val (.int v9), .val (.int (v10 + (1 : Int32))), .val (.int v11), .val (.int p0)]) d45_365 rfl ci_1 rfl (go_goto (pc := 368) (pc' := 310) d45_368 j_368_m58 ?_)
    exact hk310 v0 v1 v2 v5 v8 v9 (v10 + (1 : Int32)) t0 x3 x6 x7 (.val (.int v11)) (.val (.int p0)) hx3 hx6 hx7 (Or.inr ⟨_, rfl, rfl⟩) (Or.inr ⟨_, rfl, rfl⟩) _ hf
  · replace hf := (if_neg h2).symm.trans hf
    refine go_icN (pc := 360) d45_360 (XT.ii_eq_f h2) ?_
    refine go_iconst (pc := 363) d45_363 ci_0 ?_
    cases hf
    exact go_zret (pc := 364) rfl d45_364 (show (0 : Int32) = nar .boolean (0 : Int32) by decide)
set_option maxRecDepth 65536 in
set_option maxHeartbeats 4000000 in
theorem law_310_ok  : ∀ (n : Nat) (v0 : Int32) (v1 : Int32) (v2 : Int32) (v5 : Int32) (v8 : Int32) (v9 : Int32) (v10 : Int32) (t0 : S) (x3 : Slot) (x6 : Slot) (x7 : Slot) (x11 : Slot) (x12 : Slot) (hx3 : k1 x3) (hx6 : k1 x6) (hx7 : k1 x7) (hx11 : k1 x11) (hx12 : k1 x12) (o : Int32 × S), law_310 n v0 v1 v2 v5 v8 v9 v10 t0 = some o → Go PP m45 310 [.val (.int v0), .val (.int v1), .val (.int v2), x3, .val (.ref 1), .val (.int v5), x6, x7, .val (.int v8), .val (.int v9), .val (.int v10), x11, x12] [] (none, [(22, t0)]) (some (.int o.1), (none, [(22, o.2)])) := by
  intro n
  induction n with
  | zero => intro v0 v1 v2 v5 v8 v9 v10 t0 x3 x6 x7 x11 x12 hx3 hx6 hx7 hx11 hx12 o hf; exact nomatch hf
  | succ n ih =>
    intro v0 v1 v2 v5 v8 v9 v10 t0 x3 x6 x7 x11 x12 hx3 hx6 hx7 hx11 hx12 o hf
    unfold law_310 at hf
    refine go_iload (pc := 310) d45_310 rfl (go_bipush (pc := 312) d45_312 cb_8 ?_)
    by_cases h1 : v10 < (8 : Int32)
    · replace hf := (if_pos h1).symm.trans hf
      refine go_icN (pc := 314) d45_314 (XT.ii_ge_f h1) ?_
      refine go_bipush (pc := 317) d45_317 cb_8 (go_iload (pc := 319) d45_319 rfl (go_iadd (pc := 321) d45_321 (go_istore (pc := 322) (L' := [.val (.int v0), .val (.int v1), .val (.int v2), x3, .val (.ref 1), .val (.int v5), x6, x7, .val (.int v8), .val (.int v9), .val (.int v10), .val (.int ((8 : Int32) + v10)), x12]) d45_322 (stx rfl hx11 rfl) (go_iload (pc := 324) d45_324 rfl ?_))))
      by_cases h2 : v8 = 0
      · refine go_ifY (pc := 326) (pc' := 341) d45_326 (XT.i0_eq_t h2) j_326_15 ?_
        refine go_iload (pc := 341) d45_341 rfl (go_iloadN (pc := 343) d45_343 rfl (go_iloadN (pc := 344) d45_344 rfl (go_iloadN (pc := 345) d45_345 rfl (go_stat (pc := 346) (as := [.int ((8 : Int32) + v10), .int v0, .int v1, .int v2]) (rest := []) (w' := (none, [(22, t0)])) lk_1_24 pd_10 rfl rfl ⟨Nat.le_of_ble_eq_true rfl, Nat.le_of_ble_eq_true rfl⟩ ⟨rfl, rfl, rfl⟩ ⟨rfl, rfl, rfl, rfl, rfl⟩ d45_346 (c_h_init_n1 ((8 : Int32) + v10) v0 v1 v2 t0) ?_))))
        exact law_349_ok ih v0 v1 v2 v5 v8 v9 v10 ((8 : Int32) + v10) (h_init ((8 : Int32) + v10) v0 v1 v2) t0 x3 x6 x7 x12 hx3 hx6 hx7 hx12 _ (by simpa only [if_pos h2] using hf)
      · refine go_ifN (pc := 326) d45_326 (XT.i0_eq_f h2) ?_
        refine go_iload (pc := 329) d45_329 rfl (go_iload (pc := 331) d45_331 rfl ?_)
        by_cases h3 : ((8 : Int32) + v10) = v5
        · refine go_icN (pc := 333) d45_333 (XT.ii_ne_f h3) ?_
          refine go_iload (pc := 336) d45_336 rfl (go_goto (pc := 338) (pc' := 349) d45_338 j_338_11 ?_)
          exact law_349_ok ih v0 v1 v2 v5 v8 v9 v10 ((8 : Int32) + v10) v9 t0 x3 x6 x7 x12 hx3 hx6 hx7 hx12 _ (by simpa only [if_neg h2, if_pos h3] using hf)
        · refine go_icY (pc := 333) (pc' := 341) d45_333 (XT.ii_ne_t h3) j_333_8 ?_
          refine go_iload (pc := 341) d45_341 rfl (go_iloadN (pc := 343) d45_343 rfl (go_iloadN (pc := 344) d45_344 rfl (go_iloadN (pc := 345) d45_345 rfl (go_stat (pc := 346) (as := [.int ((8 : Int32) + v10), .int v0, .int v1, .int v2]) (rest := []) (w' := (none, [(22, t0)])) lk_1_24 pd_10 rfl rfl ⟨Nat.le_of_ble_eq_true rfl, Nat.le_of_ble_eq_true rfl⟩ ⟨rfl, rfl, rfl⟩ ⟨rfl, rfl, rfl, rfl, rfl⟩ d45_346 (c_h_init_n1 ((8 : Int32) + v10) v0 v1 v2 t0) ?_))))
          exact law_349_ok ih v0 v1 v2 v5 v8 v9 v10 ((8 : Int32) + v10) (h_init ((8 : Int32) + v10) v0 v1 v2) t0 x3 x6 x7 x12 hx3 hx6 hx7 hx12 _ (by simpa only [if_neg h2, if_neg h3] using hf)
    · replace hf := (if_neg h1).symm.trans hf
      refine go_icY (pc := 314) (pc' := 371) d45_314 (XT.ii_ge_t h1) j_314_57 ?_
      exact law_371_ok v0 v8 v9 t0 (.val (.int v1)) (.val (.int v2)) x3 (.val (.int v5)) x6 x7 (.val (.int v10)) x11 x12 (Or.inr ⟨_, rfl, rfl⟩) (Or.inr ⟨_, rfl, rfl⟩) hx3 (Or.inr ⟨_, rfl, rfl⟩) hx6 hx7 (Or.inr ⟨_, rfl, rfl⟩) hx11 hx12 _ hf
set_option maxRecDepth 65536 in
set_option maxHeartbeats 4000000 in
theorem law_293_ok  : ∀ (v0 : Int32) (v1 : Int32) (v2 : Int32) (v5 : Int32) (v8 : Int32) (v9 : Int32) (p0 : Int32) (p1 : Int32) (t0 : S) (x3 : Slot) (x6 : Slot) (x7 : Slot) (hx3 : k1 x3) (hx6 : k1 x6) (hx7 : k1 x7) (o : Int32 × S), law_293 v0 v1 v2 v5 v8 v9 p0 p1 t0 = some o → Go PP m45 293 [.val (.int v0), .val (.int v1), .val (.int v2), x3, .val (.ref 1), .val (.int v5), x6, x7, .val (.int v8), .val (.int v9), .unset, .unset, .unset] [.int p0, .int p1] (none, [(22, t0)]) (some (.int o.1), (none, [(22, o.2)])) := by
  intro v0 v1 v2 v5 v8 v9 p0 p1 t0 x3 x6 x7 hx3 hx6 hx7 o hf
  unfold law_293 at hf
  by_cases h1 : p1 = p0
  · replace hf := (if_pos h1).symm.trans hf
    refine go_icN (pc := 293) d45_293 (XT.ii_ne_f h1) ?_
    refine go_aload (pc := 296) d45_296 rfl (go_iconst (pc := 298) d45_298 ci_1 ?_)
    obtain ⟨r299, e2, hf⟩ := Option.bind_eq_some_iff.mp hf
    refine go_virt (pc := 299) (i := 0) (as := [.int (1 : Int32)]) (rest := []) (w' := (none, [(22, t0)])) lk_1_42 pd_42 rfl oid_0 rfl rfl rfl rfl rfl rfl ⟨rfl, rfl, rfl, rfl, rfl⟩ d45_299 (c_k_getOutput (1 : Int32) t0 _ e2) ?_
    by_cases h3 : r299 = 0
    · replace hf := (if_pos h3).symm.trans hf
      refine go_ifY (pc := 302) (pc' := 307) d45_302 (XT.i0_eq_t h3) j_302_5 ?_
      refine go_iconst (pc := 307) d45_307 ci_0 (go_istore (pc := 308) (L' := [.val (.int v0), .val (.int v1), .val (.int v2), x3, .val (.ref 1), .val (.int v5), x6, x7, .val (.int v8), .val (.int v9), .val (.int (0 : Int32)), .unset, .unset]) d45_308 rfl ?_)
      exact law_310_ok BIG v0 v1 v2 v5 v8 v9 (0 : Int32) t0 x3 x6 x7 .unset .unset hx3 hx6 hx7 (Or.inl rfl) (Or.inl rfl) _ hf
    · replace hf := (if_neg h3).symm.trans hf
      refine go_ifN (pc := 302) d45_302 (XT.i0_eq_f h3) ?_
      refine go_iconst (pc := 305) d45_305 ci_0 ?_
      cases hf
      exact go_zret (pc := 306) rfl d45_306 (show (0 : Int32) = nar .boolean (0 : Int32) by decide)
  · replace hf := (if_neg h1).symm.trans hf
    refine go_icY (pc := 293) (pc' := 305) d45_293 (XT.ii_ne_t h1) j_293_12 ?_
    refine go_iconst (pc := 305) d45_305 ci_0 ?_
    cases hf
    exact go_zret (pc := 306) rfl d45_306 (show (0 : Int32) = nar .boolean (0 : Int32) by decide)
set_option maxRecDepth 65536 in
set_option maxHeartbeats 4000000 in
theorem law_271_ok  : ∀ (v0 : Int32) (v1 : Int32) (v2 : Int32) (v5 : Int32) (v7 : Int32) (v8 : Int32) (v9 : Int32) (p0 : Int32) (p1 : Int32) (t0 : S) (x3 : Slot) (x6 : Slot) (hx3 : k1 x3) (hx6 : k1 x6) (o : Int32 × S), law_271 v0 v1 v2 v5 v7 v8 v9 p0 p1 t0 = some o → Go PP m45 271 [.val (.int v0), .val (.int v1), .val (.int v2), x3, .val (.ref 1), .val (.int v5), x6, .val (.int v7), .val (.int v8), .val (.int v9), .unset, .unset, .unset] [.int p0, .int p1] (none, [(22, t0)]) (some (.int o.1), (none, [(22, o.2)])) := by
  intro v0 v1 v2 v5 v7 v8 v9 p0 p1 t0 x3 x6 hx3 hx6 o hf
  unfold law_271 at hf
  by_cases h1 : p1 = p0
  · replace hf := (if_pos h1).symm.trans hf
    refine go_icY (pc := 271) (pc' := 276) d45_271 (XT.ii_eq_t h1) j_271_5 ?_
    refine go_aload (pc := 276) d45_276 rfl (go_iconst (pc := 278) d45_278 ci_0 ?_)
    obtain ⟨r279, e2, hf⟩ := Option.bind_eq_some_iff.mp hf
    refine go_virt (pc := 279) (i := 0) (as := [.int (0 : Int32)]) (rest := []) (w' := (none, [(22, t0)])) lk_1_42 pd_42 rfl oid_0 rfl rfl rfl rfl rfl rfl ⟨rfl, rfl, rfl, rfl, rfl⟩ d45_279 (c_k_getOutput (0 : Int32) t0 _ e2) ?_
    refine go_iload (pc := 282) d45_282 rfl ?_
    by_cases h3 : v8 = 0
    · refine go_ifY (pc := 284) (pc' := 292) d45_284 (XT.i0_eq_t h3) j_284_8 ?_
      refine go_iconst (pc := 292) d45_292 ci_0 ?_
      exact law_293_ok v0 v1 v2 v5 v8 v9 (0 : Int32) r279 t0 x3 x6 (.val (.int v7)) hx3 hx6 (Or.inr ⟨_, rfl, rfl⟩) _ (by simpa only [if_pos h3] using hf)
    · refine go_ifN (pc := 284) d45_284 (XT.i0_eq_f h3) ?_
      refine go_iload (pc := 287) d45_287 rfl (go_goto (pc := 289) (pc' := 293) d45_289 j_289_4 ?_)
      exact law_293_ok v0 v1 v2 v5 v8 v9 v7 r279 t0 x3 x6 (.val (.int v7)) hx3 hx6 (Or.inr ⟨_, rfl, rfl⟩) _ (by simpa only [if_neg h3] using hf)
  · replace hf := (if_neg h1).symm.trans hf
    refine go_icN (pc := 271) d45_271 (XT.ii_eq_f h1) ?_
    refine go_iconst (pc := 274) d45_274 ci_0 ?_
    cases hf
    exact go_zret (pc := 275) rfl d45_275 (show (0 : Int32) = nar .boolean (0 : Int32) by decide)
set_option maxRecDepth 65536 in
set_option maxHeartbeats 4000000 in
theorem law_251_ok  : ∀ (v0 : Int32) (v1 : Int32) (v2 : Int32) (v5 : Int32) (v7 : Int32) (v8 : Int32) (v9 : Int32) (p0 : Int32) (p1 : Int32) (t0 : S) (x3 : Slot) (x6 : Slot) (hx3 : k1 x3) (hx6 : k1 x6) (o : Int32 × S), law_251 v0 v1 v2 v5 v7 v8 v9 p0 p1 t0 = some o → Go PP m45 251 [.val (.int v0), .val (.int v1), .val (.int v2), x3, .val (.ref 1), .val (.int v5), x6, .val (.int v7), .val (.int v8), .val (.int v9), .unset, .unset, .unset] [.int p0, .int p1] (none, [(22, t0)]) (some (.int o.1), (none, [(22, o.2)])) := by
  intro v0 v1 v2 v5 v7 v8 v9 p0 p1 t0 x3 x6 hx3 hx6 o hf
  unfold law_251 at hf
  by_cases h1 : p1 = p0
  · replace hf := (if_pos h1).symm.trans hf
    refine go_icY (pc := 251) (pc' := 256) d45_251 (XT.ii_eq_t h1) j_251_5 ?_
    refine go_aload (pc := 256) d45_256 rfl ?_
    refine go_virt (pc := 258) (i := 0) (as := []) (rest := []) (w' := (none, [(22, t0)])) lk_1_39 pd_41 rfl oid_0 rfl rfl rfl rfl rfl rfl ⟨rfl, rfl, rfl, rfl, rfl⟩ d45_258 (c_k_getOutputCount t0) ?_
    refine go_iload (pc := 261) d45_261 rfl ?_
    by_cases h2 : v8 = 0
    · refine go_ifY (pc := 263) (pc' := 270) d45_263 (XT.i0_eq_t h2) j_263_7 ?_
      refine go_iconst (pc := 270) d45_270 ci_0 ?_
      exact law_271_ok v0 v1 v2 v5 v7 v8 v9 (0 : Int32) (k_getOutputCount t0) t0 x3 x6 hx3 hx6 _ (by simpa only [if_pos h2] using hf)
    · refine go_ifN (pc := 263) d45_263 (XT.i0_eq_f h2) ?_
      refine go_iconst (pc := 266) d45_266 ci_1 (go_goto (pc := 267) (pc' := 271) d45_267 j_267_4 ?_)
      exact law_271_ok v0 v1 v2 v5 v7 v8 v9 (1 : Int32) (k_getOutputCount t0) t0 x3 x6 hx3 hx6 _ (by simpa only [if_neg h2] using hf)
  · replace hf := (if_neg h1).symm.trans hf
    refine go_icN (pc := 251) d45_251 (XT.ii_eq_f h1) ?_
    refine go_iconst (pc := 254) d45_254 ci_0 ?_
    cases hf
    exact go_zret (pc := 255) rfl d45_255 (show (0 : Int32) = nar .boolean (0 : Int32) by decide)
set_option maxRecDepth 65536 in
set_option maxHeartbeats 4000000 in
theorem law_204_ok  : ∀ (v0 : Int32) (v1 : Int32) (v2 : Int32) (v3 : Int32) (v5 : Int32) (v6 : Int32) (v7 : Int32) (p0 : Int32) (t0 : S)  (o : Int32 × S), law_204 v0 v1 v2 v3 v5 v6 v7 p0 t0 = some o → Go PP m45 204 [.val (.int v0), .val (.int v1), .val (.int v2), .val (.int v3), .val (.ref 1), .val (.int v5), .val (.int v6), .val (.int v7), .unset, .unset, .unset, .unset, .unset] [.int p0] (none, [(22, t0)]) (some (.int o.1), (none, [(22, o.2)])) := by
  intro v0 v1 v2 v3 v5 v6 v7 p0 t0 o hf
  unfold law_204 at hf
  refine go_istore (pc := 204) (L' := [.val (.int v0), .val (.int v1), .val (.int v2), .val (.int v3), .val (.ref 1), .val (.int v5), .val (.int v6), .val (.int v7), .val (.int p0), .unset, .unset, .unset, .unset]) d45_204 rfl (go_iload (pc := 206) d45_206 rfl (go_iloadN (pc := 208) d45_208 rfl (go_iadd (pc := 209) d45_209 (go_istore (pc := 210) (L' := [.val (.int v0), .val (.int v1), .val (.int v2), .val (.int v3), .val (.ref 1), .val (.int v5), .val (.int v6), .val (.int v7), .val (.int p0), .val (.int (v7 + v3)), .unset, .unset, .unset]) d45_210 rfl (go_aload (pc := 212) d45_212 rfl (go_iconst (pc := 214) d45_214 ci_1 ?_))))))
  obtain ⟨r215, e1, hf⟩ := Option.bind_eq_some_iff.mp hf
  refine go_virt (pc := 215) (i := 0) (as := [.int (1 : Int32)]) (rest := []) (w' := (none, [(22, r215.2)])) lk_1_29 pd_38 rfl oid_0 rfl rfl rfl rfl rfl rfl ⟨rfl, rfl, rfl, rfl, rfl⟩ d45_215 (c_k_run (1 : Int32) t0 _ e1) ?_
  refine go_iload (pc := 218) d45_218 rfl ?_
  by_cases h2 : r215.1 = v6
  · replace hf := (if_pos h2).symm.trans hf
    refine go_icN (pc := 220) d45_220 (XT.ii_ne_f h2) ?_
    refine go_aload (pc := 223) d45_223 rfl ?_
    refine go_virt (pc := 225) (i := 0) (as := []) (rest := []) (w' := (none, [(22, r215.2)])) lk_1_33 pd_39 rfl oid_0 rfl rfl rfl rfl rfl rfl ⟨rfl, rfl, rfl, rfl, rfl⟩ d45_225 (c_k_getOutcome r215.2) ?_
    refine go_iload (pc := 228) d45_228 rfl ?_
    by_cases h3 : (k_getOutcome r215.2) = v6
    · replace hf := (if_pos h3).symm.trans hf
      refine go_icY (pc := 230) (pc' := 235) d45_230 (XT.ii_eq_t h3) j_230_5 ?_
      refine go_aload (pc := 235) d45_235 rfl ?_
      refine go_virt (pc := 237) (i := 0) (as := []) (rest := []) (w' := (none, [(22, r215.2)])) lk_1_36 pd_40 rfl oid_0 rfl rfl rfl rfl rfl rfl ⟨rfl, rfl, rfl, rfl, rfl⟩ d45_237 (c_k_getResult r215.2) ?_
      refine go_iload (pc := 240) d45_240 rfl ?_
      by_cases h4 : p0 = 0
      · refine go_ifY (pc := 242) (pc' := 250) d45_242 (XT.i0_eq_t h4) j_242_8 ?_
        refine go_iconst (pc := 250) d45_250 ci_0 ?_
        exact law_251_ok v0 v1 v2 v5 v7 p0 (v7 + v3) (0 : Int32) (k_getResult r215.2) r215.2 (.val (.int v3)) (.val (.int v6)) (Or.inr ⟨_, rfl, rfl⟩) (Or.inr ⟨_, rfl, rfl⟩) _ (by simpa only [if_pos h4] using hf)
      · refine go_ifN (pc := 242) d45_242 (XT.i0_eq_f h4) ?_
        refine go_iload (pc := 245) d45_245 rfl (go_goto (pc := 247) (pc' := 251) d45_247 j_247_4 ?_)
        exact law_251_ok v0 v1 v2 v5 v7 p0 (v7 + v3) (v7 + v3) (k_getResult r215.2) r215.2 (.val (.int v3)) (.val (.int v6)) (Or.inr ⟨_, rfl, rfl⟩) (Or.inr ⟨_, rfl, rfl⟩) _ (by simpa only [if_neg h4] using hf)
    · replace hf := (if_neg h3).symm.trans hf
      refine go_icN (pc := 230) d45_230 (XT.ii_eq_f h3) ?_
      refine go_iconst (pc := 233) d45_233 ci_0 ?_
      cases hf
      exact go_zret (pc := 234) rfl d45_234 (show (0 : Int32) = nar .boolean (0 : Int32) by decide)
  · replace hf := (if_neg h2).symm.trans hf
    refine go_icY (pc := 220) (pc' := 233) d45_220 (XT.ii_ne_t h2) j_220_13 ?_
    refine go_iconst (pc := 233) d45_233 ci_0 ?_
    cases hf
    exact go_zret (pc := 234) rfl d45_234 (show (0 : Int32) = nar .boolean (0 : Int32) by decide)
set_option maxRecDepth 65536 in
set_option maxHeartbeats 4000000 in
theorem law_193_ok  : ∀ (v0 : Int32) (v1 : Int32) (v2 : Int32) (v3 : Int32) (v5 : Int32) (v6 : Int32) (v7 : Int32) (t0 : S)  (o : Int32 × S), law_193 v0 v1 v2 v3 v5 v6 v7 t0 = some o → Go PP m45 193 [.val (.int v0), .val (.int v1), .val (.int v2), .val (.int v3), .val (.ref 1), .val (.int v5), .val (.int v6), .val (.int v7), .unset, .unset, .unset, .unset, .unset] [] (none, [(22, t0)]) (some (.int o.1), (none, [(22, o.2)])) := by
  intro v0 v1 v2 v3 v5 v6 v7 t0 o hf
  unfold law_193 at hf
  refine go_iload (pc := 193) d45_193 rfl (go_iconst (pc := 195) d45_195 ci_1 ?_)
  by_cases h1 : v6 = (1 : Int32)
  · refine go_icN (pc := 196) d45_196 (XT.ii_ne_f h1) ?_
    refine go_iconst (pc := 199) d45_199 ci_1 (go_goto (pc := 200) (pc' := 204) d45_200 j_200_4 ?_)
    exact law_204_ok v0 v1 v2 v3 v5 v6 v7 (1 : Int32) t0 _ (by simpa only [if_pos h1] using hf)
  · refine go_icY (pc := 196) (pc' := 203) d45_196 (XT.ii_ne_t h1) j_196_7 ?_
    refine go_iconst (pc := 203) d45_203 ci_0 ?_
    exact law_204_ok v0 v1 v2 v3 v5 v6 v7 (0 : Int32) t0 _ (by simpa only [if_neg h1] using hf)
set_option maxRecDepth 65536 in
set_option maxHeartbeats 4000000 in
theorem law_ok  : ∀ (v0 : Int32) (v1 : Int32) (v2 : Int32) (v3 : Int32)   (o : Int32 × S), law v0 v1 v2 v3 = some o → Go PP m45 0 [.val (.int v0), .val (.int v1), .val (.int v2), .val (.int v3), .unset, .unset, .unset, .unset, .unset, .unset, .unset, .unset, .unset] [] (none, []) (some (.int o.1), (none, [(22, o.2)])) := by
  intro v0 v1 v2 v3 o hf
  unfold law at hf
  refine go_new (pc := 0) (n := 0) (w' := (none, [(0, s0)])) (List.mem_of_getElem? (i := 0) rfl) rfl rfl rfl rfl rfl rfl rfl d45_0 oid_0 ?_
  refine go_dupR (pc := 3) d45_3 (go_bipush (pc := 4) d45_4 cb_16 ?_)
  obtain ⟨r6, e2, hf⟩ := Option.bind_eq_some_iff.mp hf
  refine go_init (pc := 6) (i := 0) (as := [.int (16 : Int32)]) (rest := [.ref 1]) (w' := (none, [(22, r6)])) lk_1_9 pd_0 rfl oid_0 rfl rfl rfl rfl rfl rfl rfl rfl rfl ⟨rfl, rfl, rfl⟩ ⟨rfl, rfl⟩ d45_6 (c_k_init (16 : Int32) _ e2) ?_
  refine go_astore (pc := 9) (L' := [.val (.int v0), .val (.int v1), .val (.int v2), .val (.int v3), .val (.ref 1), .unset, .unset, .unset, .unset, .unset, .unset, .unset, .unset]) d45_9 rfl (go_aload (pc := 11) d45_11 rfl (go_bipush (pc := 13) d45_13 cb_8 (go_iloadN (pc := 15) d45_15 rfl ?_)))
  obtain ⟨r16, e3, hf⟩ := Option.bind_eq_some_iff.mp hf
  refine go_virt (pc := 16) (i := 0) (as := [.int (8 : Int32), .int v0]) (rest := []) (w' := (none, [(22, r16.2)])) lk_1_12 pd_1 rfl oid_0 rfl rfl rfl rfl rfl rfl ⟨rfl, rfl, rfl, rfl, rfl⟩ d45_16 (c_k_setCell (8 : Int32) v0 r6 _ e3) ?_
  refine go_pop (pc := 19) d45_19 (go_aload (pc := 20) d45_20 rfl (go_bipush (pc := 22) d45_22 cb_9 (go_iloadN (pc := 24) d45_24 rfl ?_)))
  obtain ⟨r25, e4, hf⟩ := Option.bind_eq_some_iff.mp hf
  refine go_virt (pc := 25) (i := 0) (as := [.int (9 : Int32), .int v1]) (rest := []) (w' := (none, [(22, r25.2)])) lk_1_12 pd_1 rfl oid_0 rfl rfl rfl rfl rfl rfl ⟨rfl, rfl, rfl, rfl, rfl⟩ d45_25 (c_k_setCell (9 : Int32) v1 r16.2 _ e4) ?_
  refine go_pop (pc := 28) d45_28 (go_aload (pc := 29) d45_29 rfl (go_bipush (pc := 31) d45_31 cb_10 (go_iloadN (pc := 33) d45_33 rfl ?_)))
  obtain ⟨r34, e5, hf⟩ := Option.bind_eq_some_iff.mp hf
  refine go_virt (pc := 34) (i := 0) (as := [.int (10 : Int32), .int v2]) (rest := []) (w' := (none, [(22, r34.2)])) lk_1_12 pd_1 rfl oid_0 rfl rfl rfl rfl rfl rfl ⟨rfl, rfl, rfl, rfl, rfl⟩ d45_34 (c_k_setCell (10 : Int32) v2 r25.2 _ e5) ?_
  refine go_pop (pc := 37) d45_37 (go_aload (pc := 38) d45_38 rfl (go_iconst (pc := 40) d45_40 ci_1 (go_iconst (pc := 41) d45_41 ci_0 (go_bipush (pc := 42) d45_42 cb_8 (go_iconst (pc := 44) d45_44 ci_0 ?_)))))
  obtain ⟨r45, e6, hf⟩ := Option.bind_eq_some_iff.mp hf
  refine go_virt (pc := 45) (i := 0) (as := [.int (1 : Int32), .int (0 : Int32), .int (8 : Int32), .int (0 : Int32)]) (rest := []) (w' := (none, [(22, r45.2)])) lk_1_16 pd_7 rfl oid_0 rfl rfl rfl rfl rfl rfl ⟨rfl, rfl, rfl, rfl, rfl⟩ d45_45 (c_k_add (1 : Int32) (0 : Int32) (8 : Int32) (0 : Int32) r34.2 _ e6) ?_
  refine go_pop (pc := 48) d45_48 (go_aload (pc := 49) d45_49 rfl (go_iconst (pc := 51) d45_51 ci_4 (go_iconst (pc := 52) d45_52 ci_1 (go_iconst (pc := 53) d45_53 ci_0 (go_iconst (pc := 54) d45_54 ci_0 ?_)))))
  obtain ⟨r55, e7, hf⟩ := Option.bind_eq_some_iff.mp hf
  refine go_virt (pc := 55) (i := 0) (as := [.int (4 : Int32), .int (1 : Int32), .int (0 : Int32), .int (0 : Int32)]) (rest := []) (w' := (none, [(22, r55.2)])) lk_1_16 pd_7 rfl oid_0 rfl rfl rfl rfl rfl rfl ⟨rfl, rfl, rfl, rfl, rfl⟩ d45_55 (c_k_add (4 : Int32) (1 : Int32) (0 : Int32) (0 : Int32) r45.2 _ e7) ?_
  refine go_pop (pc := 58) d45_58 (go_aload (pc := 59) d45_59 rfl (go_bipush (pc := 61) d45_61 cb_6 (go_iconst (pc := 63) d45_63 ci_1 (go_iconst (pc := 64) d45_64 ci_0 (go_iconst (pc := 65) d45_65 ci_0 ?_)))))
  obtain ⟨r66, e8, hf⟩ := Option.bind_eq_some_iff.mp hf
  refine go_virt (pc := 66) (i := 0) (as := [.int (6 : Int32), .int (1 : Int32), .int (0 : Int32), .int (0 : Int32)]) (rest := []) (w' := (none, [(22, r66.2)])) lk_1_16 pd_7 rfl oid_0 rfl rfl rfl rfl rfl rfl ⟨rfl, rfl, rfl, rfl, rfl⟩ d45_66 (c_k_add (6 : Int32) (1 : Int32) (0 : Int32) (0 : Int32) r55.2 _ e8) ?_
  refine go_pop (pc := 69) d45_69 (go_aload (pc := 70) d45_70 rfl (go_iconst (pc := 72) d45_72 ci_4 (go_iconst (pc := 73) d45_73 ci_2 (go_iconst (pc := 74) d45_74 ci_1 (go_iconst (pc := 75) d45_75 ci_1 ?_)))))
  obtain ⟨r76, e9, hf⟩ := Option.bind_eq_some_iff.mp hf
  refine go_virt (pc := 76) (i := 0) (as := [.int (4 : Int32), .int (2 : Int32), .int (1 : Int32), .int (1 : Int32)]) (rest := []) (w' := (none, [(22, r76.2)])) lk_1_16 pd_7 rfl oid_0 rfl rfl rfl rfl rfl rfl ⟨rfl, rfl, rfl, rfl, rfl⟩ d45_76 (c_k_add (4 : Int32) (2 : Int32) (1 : Int32) (1 : Int32) r66.2 _ e9) ?_
  refine go_pop (pc := 79) d45_79 (go_aload (pc := 80) d45_80 rfl (go_bipush (pc := 82) d45_82 cb_7 (go_iconst (pc := 84) d45_84 ci_2 (go_iconst (pc := 85) d45_85 ci_0 (go_iconst (pc := 86) d45_86 ci_0 ?_)))))
  obtain ⟨r87, e10, hf⟩ := Option.bind_eq_some_iff.mp hf
  refine go_virt (pc := 87) (i := 0) (as := [.int (7 : Int32), .int (2 : Int32), .int (0 : Int32), .int (0 : Int32)]) (rest := []) (w' := (none, [(22, r87.2)])) lk_1_16 pd_7 rfl oid_0 rfl rfl rfl rfl rfl rfl ⟨rfl, rfl, rfl, rfl, rfl⟩ d45_87 (c_k_add (7 : Int32) (2 : Int32) (0 : Int32) (0 : Int32) r76.2 _ e10) ?_
  refine go_pop (pc := 90) d45_90 (go_aload (pc := 91) d45_91 rfl (go_iconst (pc := 93) d45_93 ci_3 (go_iconst (pc := 94) d45_94 ci_2 (go_iconst (pc := 95) d45_95 ci_2 (go_iloadN (pc := 96) d45_96 rfl ?_)))))
  obtain ⟨r97, e11, hf⟩ := Option.bind_eq_some_iff.mp hf
  refine go_virt (pc := 97) (i := 0) (as := [.int (3 : Int32), .int (2 : Int32), .int (2 : Int32), .int v3]) (rest := []) (w' := (none, [(22, r97.2)])) lk_1_16 pd_7 rfl oid_0 rfl rfl rfl rfl rfl rfl ⟨rfl, rfl, rfl, rfl, rfl⟩ d45_97 (c_k_add (3 : Int32) (2 : Int32) (2 : Int32) v3 r87.2 _ e11) ?_
  refine go_pop (pc := 100) d45_100 (go_aload (pc := 101) d45_101 rfl (go_iconst (pc := 103) d45_103 ci_5 (go_iconst (pc := 104) d45_104 ci_1 (go_iconst (pc := 105) d45_105 ci_1 (go_iconst (pc := 106) d45_106 ci_2 ?_)))))
  obtain ⟨r107, e12, hf⟩ := Option.bind_eq_some_iff.mp hf
  refine go_virt (pc := 107) (i := 0) (as := [.int (5 : Int32), .int (1 : Int32), .int (1 : Int32), .int (2 : Int32)]) (rest := []) (w' := (none, [(22, r107.2)])) lk_1_16 pd_7 rfl oid_0 rfl rfl rfl rfl rfl rfl ⟨rfl, rfl, rfl, rfl, rfl⟩ d45_107 (c_k_add (5 : Int32) (1 : Int32) (1 : Int32) (2 : Int32) r97.2 _ e12) ?_
  refine go_pop (pc := 110) d45_110 (go_aload (pc := 111) d45_111 rfl (go_bipush (pc := 113) d45_113 cb_12 (go_iconst (pc := 115) d45_115 ci_2 (go_iconst (pc := 116) d45_116 ci_0 (go_iconst (pc := 117) d45_117 ci_0 ?_)))))
  obtain ⟨r118, e13, hf⟩ := Option.bind_eq_some_iff.mp hf
  refine go_virt (pc := 118) (i := 0) (as := [.int (12 : Int32), .int (2 : Int32), .int (0 : Int32), .int (0 : Int32)]) (rest := []) (w' := (none, [(22, r118.2)])) lk_1_16 pd_7 rfl oid_0 rfl rfl rfl rfl rfl rfl ⟨rfl, rfl, rfl, rfl, rfl⟩ d45_118 (c_k_add (12 : Int32) (2 : Int32) (0 : Int32) (0 : Int32) r107.2 _ e13) ?_
  refine go_pop (pc := 121) d45_121 (go_aload (pc := 122) d45_122 rfl ?_)
  obtain ⟨r124, e14, hf⟩ := Option.bind_eq_some_iff.mp hf
  refine go_virt (pc := 124) (i := 0) (as := []) (rest := []) (w' := (none, [(22, r124.2)])) lk_1_20 pd_9 rfl oid_0 rfl rfl rfl rfl rfl rfl ⟨rfl, rfl, rfl, rfl, rfl⟩ d45_124 (c_k_compile r118.2 _ e14) ?_
  by_cases h15 : r124.1 = 0
  · replace hf := (if_pos h15).symm.trans hf
    refine go_ifY (pc := 127) (pc' := 132) d45_127 (XT.i0_eq_t h15) j_127_5 ?_
    refine go_iloadN (pc := 132) d45_132 rfl (go_iconst (pc := 133) d45_133 ci_1 (go_iadd (pc := 134) d45_134 (go_istore (pc := 135) (L' := [.val (.int v0), .val (.int v1), .val (.int v2), .val (.int v3), .val (.ref 1), .val (.int (v0 + (1 : Int32))), .unset, .unset, .unset, .unset, .unset, .unset, .unset]) d45_135 rfl (go_iconst (pc := 137) d45_137 ci_0 (go_istore (pc := 138) (L' := [.val (.int v0), .val (.int v1), .val (.int v2), .val (.int v3), .val (.ref 1), .val (.int (v0 + (1 : Int32))), .unset, .val (.int (0 : Int32)), .unset, .unset, .unset, .unset, .unset]) d45_138 rfl (go_iloadN (pc := 140) d45_140 rfl ?_))))))
    by_cases h16 : v0 = 0
    · refine go_ifY (pc := 141) (pc' := 156) d45_141 (XT.i0_eq_t h16) j_141_15 ?_
      refine go_iconst (pc := 156) d45_156 ci_2 (go_istore (pc := 157) (L' := [.val (.int v0), .val (.int v1), .val (.int v2), .val (.int v3), .val (.ref 1), .val (.int (v0 + (1 : Int32))), .val (.int (2 : Int32)), .val (.int (0 : Int32)), .unset, .unset, .unset, .unset, .unset]) d45_157 rfl (go_goto (pc := 159) (pc' := 193) d45_159 j_159_34 ?_))
      exact law_193_ok v0 v1 v2 v3 (v0 + (1 : Int32)) (2 : Int32) (0 : Int32) r124.2 _ (by simpa only [if_pos h16] using hf)
    · refine go_ifN (pc := 141) d45_141 (XT.i0_eq_f h16) ?_
      refine go_iload (pc := 144) d45_144 rfl ?_
      by_cases h17 : (v0 + (1 : Int32)) < 0
      · refine go_ifY (pc := 146) (pc' := 162) d45_146 (XT.i0_lt_t h17) j_146_16 ?_
        refine go_iload (pc := 162) d45_162 rfl ?_
        by_cases h18 : (v0 + (1 : Int32)) < 0
        · refine go_ifY (pc := 164) (pc' := 174) d45_164 (XT.i0_lt_t h18) j_164_10 ?_
          refine go_iconst (pc := 174) d45_174 ci_3 (go_istore (pc := 175) (L' := [.val (.int v0), .val (.int v1), .val (.int v2), .val (.int v3), .val (.ref 1), .val (.int (v0 + (1 : Int32))), .val (.int (3 : Int32)), .val (.int (0 : Int32)), .unset, .unset, .unset, .unset, .unset]) d45_175 rfl (go_goto (pc := 177) (pc' := 193) d45_177 j_177_16 ?_))
          exact law_193_ok v0 v1 v2 v3 (v0 + (1 : Int32)) (3 : Int32) (0 : Int32) r124.2 _ (by simpa only [if_neg h16, if_pos h17, if_pos h18] using hf)
        · exact absurd h17 h18
      · refine go_ifN (pc := 146) d45_146 (XT.i0_lt_f h17) ?_
        refine go_iload (pc := 149) d45_149 rfl (go_bipush (pc := 151) d45_151 cb_7 ?_)
        by_cases h20 : (7 : Int32) < (v0 + (1 : Int32))
        · refine go_icY (pc := 153) (pc' := 162) d45_153 (XT.ii_gt_t h20) j_153_9 ?_
          refine go_iload (pc := 162) d45_162 rfl ?_
          by_cases h21 : (v0 + (1 : Int32)) < 0
          · exact absurd h21 h17
          · refine go_ifN (pc := 164) d45_164 (XT.i0_lt_f h21) ?_
            refine go_iload (pc := 167) d45_167 rfl (go_bipush (pc := 169) d45_169 cb_16 ?_)
            by_cases h22 : (v0 + (1 : Int32)) < (16 : Int32)
            · refine go_icY (pc := 171) (pc' := 180) d45_171 (XT.ii_lt_t h22) j_171_9 ?_
              refine go_iconst (pc := 180) d45_180 ci_1 (go_istore (pc := 181) (L' := [.val (.int v0), .val (.int v1), .val (.int v2), .val (.int v3), .val (.ref 1), .val (.int (v0 + (1 : Int32))), .val (.int (1 : Int32)), .val (.int (0 : Int32)), .unset, .unset, .unset, .unset, .unset]) d45_181 rfl (go_iload (pc := 183) d45_183 rfl (go_iloadN (pc := 185) d45_185 rfl (go_iloadN (pc := 186) d45_186 rfl (go_iloadN (pc := 187) d45_187 rfl (go_stat (pc := 188) (as := [.int (v0 + (1 : Int32)), .int v0, .int v1, .int v2]) (rest := []) (w' := (none, [(22, r124.2)])) lk_1_24 pd_10 rfl rfl ⟨Nat.le_of_ble_eq_true rfl, Nat.le_of_ble_eq_true rfl⟩ ⟨rfl, rfl, rfl⟩ ⟨rfl, rfl, rfl, rfl, rfl⟩ d45_188 (c_h_init_n1 (v0 + (1 : Int32)) v0 v1 v2 r124.2) (go_istore (pc := 191) (L' := [.val (.int v0), .val (.int v1), .val (.int v2), .val (.int v3), .val (.ref 1), .val (.int (v0 + (1 : Int32))), .val (.int (1 : Int32)), .val (.int (h_init (v0 + (1 : Int32)) v0 v1 v2)), .unset, .unset, .unset, .unset, .unset]) d45_191 rfl ?_)))))))
              exact law_193_ok v0 v1 v2 v3 (v0 + (1 : Int32)) (1 : Int32) (h_init (v0 + (1 : Int32)) v0 v1 v2) r124.2 _ (by simpa only [if_neg h16, if_neg h17, if_pos h20, if_neg h21, if_pos h22] using hf)
            · refine go_icN (pc := 171) d45_171 (XT.ii_lt_f h22) ?_
              refine go_iconst (pc := 174) d45_174 ci_3 (go_istore (pc := 175) (L' := [.val (.int v0), .val (.int v1), .val (.int v2), .val (.int v3), .val (.ref 1), .val (.int (v0 + (1 : Int32))), .val (.int (3 : Int32)), .val (.int (0 : Int32)), .unset, .unset, .unset, .unset, .unset]) d45_175 rfl (go_goto (pc := 177) (pc' := 193) d45_177 j_177_16 ?_))
              exact law_193_ok v0 v1 v2 v3 (v0 + (1 : Int32)) (3 : Int32) (0 : Int32) r124.2 _ (by simpa only [if_neg h16, if_neg h17, if_pos h20, if_neg h21, if_neg h22] using hf)
        · refine go_icN (pc := 153) d45_153 (XT.ii_gt_f h20) ?_
          refine go_iconst (pc := 156) d45_156 ci_2 (go_istore (pc := 157) (L' := [.val (.int v0), .val (.int v1), .val (.int v2), .val (.int v3), .val (.ref 1), .val (.int (v0 + (1 : Int32))), .val (.int (2 : Int32)), .val (.int (0 : Int32)), .unset, .unset, .unset, .unset, .unset]) d45_157 rfl (go_goto (pc := 159) (pc' := 193) d45_159 j_159_34 ?_))
          exact law_193_ok v0 v1 v2 v3 (v0 + (1 : Int32)) (2 : Int32) (0 : Int32) r124.2 _ (by simpa only [if_neg h16, if_neg h17, if_neg h20] using hf)
  · replace hf := (if_neg h15).symm.trans hf
    refine go_ifN (pc := 127) d45_127 (XT.i0_eq_f h15) ?_
    refine go_iconst (pc := 130) d45_130 ci_0 ?_
    cases hf
    exact go_zret (pc := 131) rfl d45_131 (show (0 : Int32) = nar .boolean (0 : Int32) by decide)
theorem lpk {Z : Type} (L : Nat → Int32 → S → Option Z) (I : Nat → S → Prop) (Q : Option Z → Prop) (m : Nat) (step : ∀ n k s, k < m → I k s → ∃ s', L (n + 1) (Int32.ofNat k) s = L n (Int32.ofNat (k + 1)) s' ∧ I (k + 1) s') (fin : ∀ n s, I m s → Q (L (n + 1) (Int32.ofNat m) s)) : ∀ j k N s, k + j = m → j < N → I k s → Q (L N (Int32.ofNat k) s)
  | _, _, 0, _, _, h, _ => by omega
  | 0, k, N + 1, s, hk, _, i => by
    have : k = m := by omega
    subst this
    exact fin N s i
  | j + 1, k, N + 1, s, hk, hN, i => by
    obtain ⟨s', e, i'⟩ := step N k s (by omega) i
    rw [e]
    exact lpk L I Q m step fin j (k + 1) N s' (by omega) (by omega) i'
theorem val_set {N : Nat} {l : List Int32} {g : Nat → Int32} {k : Nat} (hl : l.length = N) (hk : k < N) (h : ∀ i, i < k → l[i]? = some (g i)) : ∀ i, i < k + 1 → (l.set k (g k))[i]? = some (g i) := fun i hi => by
  by_cases q : k = i
  · subst q; exact List.getElem?_set_self (by omega)
  · rw [List.getElem?_set_ne q]; exact h i (by omega)
/-- the program -/
def pO : Nat → Int32 := fun i => if i = 0 then 1 else if i = 1 then 4 else if i = 2 then 6 else if i = 3 then 4 else if i = 4 then 7 else if i = 5 then 3 else if i = 6 then 5 else 12
def pA : Nat → Int32 := fun i => if i = 0 then 0 else if i = 1 then 1 else if i = 2 then 1 else if i = 6 then 1 else 2
def pB : Nat → Int32 := fun i => if i = 0 then 8 else if i = 3 then 1 else if i = 5 then 2 else if i = 6 then 1 else 0
def pC (k : Int32) : Nat → Int32 := fun i => if i = 3 then 1 else if i = 5 then k else if i = 6 then 2 else 0
/-- the program's first m instructions -/
def Pg (k : Int32) (m : Nat) (s : S) : Prop := (gA s 0).length = 32 ∧ (gA s 1).length = 32 ∧ (gA s 2).length = 32 ∧ (gA s 3).length = 32 ∧ gI s 8 = Int32.ofNat m ∧ gI s 7 = 16 ∧ (∀ i, i < m → (gA s 0)[i]? = some (pO i)) ∧ (∀ i, i < m → (gA s 1)[i]? = some (pA i)) ∧ (∀ i, i < m → (gA s 2)[i]? = some (pB i)) ∧ ∀ i, i < m → (gA s 3)[i]? = some (pC k i)
theorem Pg.fx {k : Int32} {m : Nat} {s t : S} (h : Pg k m s) (a : ∀ f, f < 4 → gA t f = gA s f) (b : gI t 8 = gI s 8) (c : gI t 7 = gI s 7) : Pg k m t := by
  unfold Pg; rw [a 0 (by omega), a 1 (by omega), a 2 (by omega), a 3 (by omega), b, c]; exact h
theorem add_ok {k : Int32} {m : Nat} (hm : m < 8) {s : S} (h : Pg k m s) {v1 v2 v3 v4 : Int32} (c1 : ¬ v1 < 1) (c2 : ¬ (12 : Int32) < v1) (f1 : ¬ k_fits (k_roleOfA v1) v2 = 0) (f2 : ¬ k_fits (k_roleOfB v1) v3 = 0) (f3 : ¬ k_fits (k_roleOfC v1) v4 = 0) (e1 : v1 = pO m) (e2 : k_kept (k_roleOfA v1) v2 = pA m) (e3 : k_kept (k_roleOfB v1) v3 = pB m) (e4 : k_kept (k_roleOfC v1) v4 = pC k m) : ∃ r s', k_add v1 v2 v3 v4 s = some (r, s') ∧ Pg k (m + 1) s' ∧ Fx [8, 9] [] [0, 1, 2, 3] [] s s' := by
  obtain ⟨l0, l1, l2, l3, g8, g7, h0, h1, h2, h3⟩ := id h
  unfold k_add
  rw [g8, if_pos ((lt_lit (m := 32) (by omega)).mpr (by omega)), if_neg c1, if_neg c2, if_neg f1, if_neg f2, if_neg f3, st_ofNat _ _ (by omega) (by omega), Option.bind_some, st_ofNat _ _ (by omega) (by omega), Option.bind_some, st_ofNat _ _ (by omega) (by omega), Option.bind_some, st_ofNat _ _ (by omega) (by omega), Option.bind_some, ofNat_succ, e2, e3, e4, e1]
  refine ⟨_, _, rfl, ?_, (((((Fx.refl ..).sA (by simp)).sA (by simp)).sA (by simp)).sA (by simp)).sI (by simp) |>.sI (by simp)⟩
  refine ⟨by simp [gA_sI, gA_sA, l0], by simp [gA_sI, gA_sA, l1], by simp [gA_sI, gA_sA, l2], by simp [gA_sI, gA_sA, l3], by simp [gI_sI], by simp [gI_sI, gI_sA, g7], ?_, ?_, ?_, ?_⟩
  · simp only [gA_sI, gA_sA]; exact val_set l0 (by omega) h0
  · simp only [gA_sI, gA_sA]; exact val_set l1 (by omega) h1
  · simp only [gA_sI, gA_sA]; exact val_set l2 (by omega) h2
  · simp only [gA_sI, gA_sA]; exact val_set l3 (by omega) h3
theorem op_tab : ∀ i : Fin 8, ¬ pO i.val = 8 ∧ ¬ pO i.val = 11 ∧ ¬ pO i.val = 9 ∧ ¬ pO i.val = 10 := by decide
/-- the lengths of the other arrays -/
def Ln (s : S) : Prop := (gA s 4).length = 32 ∧ (gA s 5).length = 32 ∧ (gA s 6).length = 32 ∧ (gA s 9).length = 64 ∧ (gA s 10).length = 64 ∧ (gA s 11).length = 32 ∧ (gA s 12).length = 8 ∧ (gA s 13).length = 32 ∧ (gA s 14).length = 32 ∧ (gA s 15).length = 32 ∧ (gA s 16).length = 33 ∧ (gA s 17).length = 33 ∧ (gA s 18).length = 33 ∧ (gA s 19).length = 33 ∧ (gA s 20).length = 33 ∧ (gA s 21).length = 33
theorem Ln.set {s : S} (h : Ln s) (f : Nat) (j : Nat) (x : Int32) : Ln (sA s f ((gA s f).set j x)) := by
  unfold Ln at *
  have e : ∀ g, (gA (sA s f ((gA s f).set j x)) g).length = (gA s g).length := fun g => by
    rw [gA_sA]
    by_cases q : g = f
    · rw [if_pos q, q, List.length_set]
    · rw [if_neg q]
  simp only [e]; exact h
theorem Ln.setI {s : S} (h : Ln s) (f : Nat) (x : Int32) : Ln (sI s f x) := by
  unfold Ln at *; simp only [gA_sI]; exact h
theorem compile_ok {k : Int32} {s : S} (h : Pg k 8 s) (L : Ln s) : ∃ s', k_compile s = some (0, s') ∧ Pg k 8 s' ∧ Ln s' ∧ Fx [9, 13, 14] [] [4, 5, 6] [] s s' ∧ gI s' 9 = 1 := by
  unfold k_compile
  refine lpk k_compile_12 (fun j t => Pg k 8 t ∧ Ln t ∧ Fx [9, 13, 14] [] [4, 5, 6] [] s t ∧ gI t 13 = 0) (fun o => ∃ s', o = some (0, s') ∧ Pg k 8 s' ∧ Ln s' ∧ Fx [9, 13, 14] [] [4, 5, 6] [] s s' ∧ gI s' 9 = 1) 8 ?_ ?_ 8 0 BIG _ (by omega) (by unfold BIG; omega) ⟨h.fx (fun f _ => by simp [gA_sI]) (by simp [gI_sI]) (by simp [gI_sI]), (L.setI _ _).setI _ _, ((Fx.refl ..).sI (by simp)).sI (by simp), by simp [gI_sI]⟩
  · rintro N j t hj ⟨ht, Lt, F, g13⟩
    obtain ⟨l0, l1, l2, l3, g8, g7, h0, h1, h2, h3⟩ := id ht
    obtain ⟨o1, o2, o3, o4⟩ := op_tab ⟨j, hj⟩
    dsimp only at o1 o2 o3 o4
    have q4 : (gA t 4).length = 32 := Lt.1
    have q5 : (gA t 5).length = 32 := Lt.2.1
    have q6 : (gA t 6).length = 32 := Lt.2.2.1
    obtain ⟨u, hu⟩ : ∃ u, u = sA (sA (sA t 6 ((gA t 6).set j (-1))) 4 ((gA t 4).set j (-1))) 5 ((gA t 5).set j (-1)) := ⟨_, rfl⟩
    have es : k_scanOne (Int32.ofNat j) t = some (0, u) := by
      unfold k_scanOne
      rw [ix_ofNat _ (by omega), h0 j hj, Option.bind_some, st_ofNat _ _ (by omega) (by omega), Option.bind_some, if_neg o1, if_neg o2, if_neg o3, if_neg o4, st_ofNat _ _ (by omega) (by omega), Option.bind_some, st_ofNat _ _ (by omega) (by omega), Option.bind_some, hu]
    have Lu : Ln u := by
      rw [hu]
      have a1 := Lt.set 6 j (-1)
      have a2 := a1.set 4 j (-1)
      have a3 := a2.set 5 j (-1)
      simpa [gA_sA] using a3
    refine ⟨u, ?_, ht.fx (fun f hf => by rw [hu]; simp [gA_sA, show f ≠ 4 by omega, show f ≠ 5 by omega, show f ≠ 6 by omega]) (by rw [hu]; simp [gI_sA]) (by rw [hu]; simp [gI_sA]), Lu, by rw [hu]; exact ((F.sA (by simp)).sA (by simp)).sA (by simp), by rw [hu]; simp [gI_sA, g13]⟩
    rw [k_compile_12, g8, if_pos ((ofNat_lt (by omega) (by omega)).mpr hj), if_pos ((lt_lit (m := 32) (by omega)).mpr (by omega)), es, Option.bind_some]
    dsimp only
    rw [if_pos rfl, ofNat_succ]
  · rintro N t ⟨ht, Lt, F, g13⟩
    rw [k_compile_12, ht.2.2.2.2.1, if_neg (show ¬ Int32.ofNat 8 < Int32.ofNat 8 by decide)]
    unfold k_compile_44
    rw [g13, if_neg (show ¬ (0 : Int32) < 0 by decide)]
    exact ⟨_, rfl, ht.fx (fun f _ => by simp [gA_sI]) (by simp [gI_sI]) (by simp [gI_sI]), Lt.setI _ _, F.sI (by simp), by simp [gI_sI]⟩
theorem reset49 {s : S} (L : Ln s) : ∃ s', k_resetRun_47 s = some s' ∧ Ln s' ∧ Fx [10, 11, 12] [] [11, 13] [] s s' ∧ (∀ i, i < 32 → (gA s' 11)[i]? = some 0) ∧ gI s' 10 = 0 ∧ gI s' 11 = 0 ∧ gI s' 12 = 0 := by
  unfold k_resetRun_47
  refine lpk k_resetRun_49 (fun j t => Ln t ∧ Fx [10, 11, 12] [] [11, 13] [] s t ∧ ∀ i, i < j → (gA t 11)[i]? = some 0) (fun o => ∃ s', o = some s' ∧ Ln s' ∧ Fx [10, 11, 12] [] [11, 13] [] s s' ∧ (∀ i, i < 32 → (gA s' 11)[i]? = some 0) ∧ gI s' 10 = 0 ∧ gI s' 11 = 0 ∧ gI s' 12 = 0) 32 ?_ ?_ 32 0 BIG s (by omega) (by unfold BIG; omega) ⟨L, Fx.refl .., fun i hi => by omega⟩
  · rintro N j t hj ⟨Lt, F, Z⟩
    have q11 : (gA t 11).length = 32 := Lt.2.2.2.2.2.1
    have q13 : (gA t 13).length = 32 := Lt.2.2.2.2.2.2.2.1
    refine ⟨sA (sA t 11 ((gA t 11).set j 0)) 13 ((gA t 13).set j 0), ?_, by simpa [gA_sA] using (Lt.set 11 j 0).set 13 j 0, (F.sA (by simp)).sA (by simp), ?_⟩
    · rw [k_resetRun_49, if_pos ((lt_lit (m := 32) (by omega)).mpr hj), st_ofNat _ _ (by omega) (by omega), Option.bind_some, st_ofNat _ _ (by omega) (by omega), Option.bind_some, ofNat_succ]
    · simp only [gA_sA]; exact val_set (g := fun _ => 0) q11 hj Z
  · rintro N t ⟨Lt, F, Z⟩
    rw [k_resetRun_49, if_neg (show ¬ Int32.ofNat 32 < 32 by decide)]
    unfold k_resetRun_75
    exact ⟨_, rfl, ((Lt.setI _ _).setI _ _).setI _ _, ((F.sI (by simp)).sI (by simp)).sI (by simp), by simpa [gA_sI] using Z, by simp [gI_sI], by simp [gI_sI], by simp [gI_sI]⟩
theorem reset28 {s : S} (L : Ln s) : ∃ s', k_resetRun_26 s = some s' ∧ Ln s' ∧ Fx [10, 11, 12] [] [11, 12, 13] [] s s' ∧ (∀ i, i < 32 → (gA s' 11)[i]? = some 0) ∧ gI s' 10 = 0 ∧ gI s' 11 = 0 ∧ gI s' 12 = 0 ∧ ∀ i, i < 8 → (gA s' 12)[i]? = some 0 := by
  unfold k_resetRun_26
  refine lpk k_resetRun_28 (fun j t => Ln t ∧ Fx [10, 11, 12] [] [11, 12, 13] [] s t ∧ ∀ i, i < j → (gA t 12)[i]? = some 0) (fun o => ∃ s', o = some s' ∧ Ln s' ∧ Fx [10, 11, 12] [] [11, 12, 13] [] s s' ∧ (∀ i, i < 32 → (gA s' 11)[i]? = some 0) ∧ gI s' 10 = 0 ∧ gI s' 11 = 0 ∧ gI s' 12 = 0 ∧ ∀ i, i < 8 → (gA s' 12)[i]? = some 0) 8 ?_ ?_ 8 0 BIG s (by omega) (by unfold BIG; omega) ⟨L, Fx.refl .., fun i hi => by omega⟩
  · rintro N j t hj ⟨Lt, F, Z⟩
    have q12 : (gA t 12).length = 8 := Lt.2.2.2.2.2.2.1
    refine ⟨sA t 12 ((gA t 12).set j 0), ?_, Lt.set 12 j 0, F.sA (by simp), ?_⟩
    · rw [k_resetRun_28, if_pos ((lt_lit (m := 8) (by omega)).mpr hj), st_ofNat _ _ (by omega) (by omega), Option.bind_some, ofNat_succ]
    · simp only [gA_sA]; exact val_set (g := fun _ => 0) q12 hj Z
  · rintro N t ⟨Lt, F, Z⟩
    obtain ⟨u, e, Lu, Fu, Zu, a, b, c⟩ := reset49 Lt
    rw [k_resetRun_28, if_neg (show ¬ Int32.ofNat 8 < 8 by decide), e]
    exact ⟨u, rfl, Lu, F.trans (Fu.mono (by simp) (by simp) (by simp) (by simp)), Zu, a, b, c, by rw [Fu.2.2.1 12 (by simp)]; exact Z⟩
theorem reset_ok {s : S} (L : Ln s) {g : Nat → Int32} (hg : ∀ i, i < 64 → (gA s 9)[i]? = some (g i)) : ∃ s', k_resetRun s = some s' ∧ Ln s' ∧ Fx [10, 11, 12] [] [10, 11, 12, 13] [] s s' ∧ (∀ i, i < 32 → (gA s' 11)[i]? = some 0) ∧ gI s' 10 = 0 ∧ gI s' 11 = 0 ∧ gI s' 12 = 0 ∧ (∀ i, i < 8 → (gA s' 12)[i]? = some 0) ∧ ∀ i, i < 64 → (gA s' 10)[i]? = some (g i) := by
  unfold k_resetRun
  refine lpk k_resetRun_2 (fun j t => Ln t ∧ Fx [10, 11, 12] [] [10, 11, 12, 13] [] s t ∧ ∀ i, i < j → (gA t 10)[i]? = some (g i)) (fun o => ∃ s', o = some s' ∧ Ln s' ∧ Fx [10, 11, 12] [] [10, 11, 12, 13] [] s s' ∧ (∀ i, i < 32 → (gA s' 11)[i]? = some 0) ∧ gI s' 10 = 0 ∧ gI s' 11 = 0 ∧ gI s' 12 = 0 ∧ (∀ i, i < 8 → (gA s' 12)[i]? = some 0) ∧ ∀ i, i < 64 → (gA s' 10)[i]? = some (g i)) 64 ?_ ?_ 64 0 BIG s (by omega) (by unfold BIG; omega) ⟨L, Fx.refl .., fun i hi => by omega⟩
  · rintro N j t hj ⟨Lt, F, Z⟩
    have q10 : (gA t 10).length = 64 := Lt.2.2.2.2.1
    refine ⟨sA t 10 ((gA t 10).set j (g j)), ?_, Lt.set 10 j _, F.sA (by simp), ?_⟩
    · rw [k_resetRun_2, if_pos ((lt_lit (m := 64) (by omega)).mpr hj), ix_ofNat _ (by omega), F.2.2.1 9 (by simp), hg j hj, Option.bind_some, st_ofNat _ _ (by omega) (by omega), Option.bind_some, ofNat_succ]
    · simp only [gA_sA]; exact val_set q10 hj Z
  · rintro N t ⟨Lt, F, Z⟩
    obtain ⟨u, e, Lu, Fu, Zu, a, b, c, d⟩ := reset28 Lt
    rw [k_resetRun_2, if_neg (show ¬ Int32.ofNat 64 < 64 by decide), e]
    exact ⟨u, rfl, Lu, F.trans (Fu.mono (by simp) (by simp) (by simp) (by simp)), Zu, a, b, c, d, by rw [Fu.2.2.1 10 (by simp)]; exact Z⟩
/-- only marks and facts have changed -/
def G (k : Int32) (s0 s : S) : Prop := Pg k 8 s ∧ Ln s ∧ Fx [] [] [14, 15, 16, 17, 18, 19, 20, 21] [] s0 s
theorem G.put {k : Int32} {s0 s : S} (h : G k s0 s) {f : Nat} (hf : f ∈ [14, 15, 16, 17, 18, 19, 20, 21]) (j : Nat) (x : Int32) : G k s0 (sA s f ((gA s f).set j x)) := by
  obtain ⟨a, b, c⟩ := h
  refine ⟨a.fx (fun g hg => ?_) (by rw [gI_sA]) (by rw [gI_sA]), b.set f j x, c.sA hf⟩
  rw [gA_sA, if_neg]
  simp at hf
  omega
theorem marks_ok {k : Int32} {s0 s : S} (h : G k s0 s) : ∃ s', k_clearMarks s = some s' ∧ G k s0 s' := by
  unfold k_clearMarks
  refine lpk k_clearMarks_2 (fun j t => G k s0 t) (fun o => ∃ s', o = some s' ∧ G k s0 s') 32 ?_ ?_ 32 0 BIG s (by omega) (by unfold BIG; omega) h
  · rintro N j t hj ht
    have q14 : (gA t 14).length = 32 := ht.2.1.2.2.2.2.2.2.2.2.1
    have q15 : (gA t 15).length = 32 := ht.2.1.2.2.2.2.2.2.2.2.2.1
    have a := (ht.put (f := 14) (by simp) j 0).put (f := 15) (by simp) j 0
    refine ⟨sA (sA t 14 ((gA t 14).set j 0)) 15 ((gA t 15).set j 0), ?_, by simpa [gA_sA] using a⟩
    rw [k_clearMarks_2, if_pos ((lt_lit (m := 32) (by omega)).mpr hj), st_ofNat _ _ (by omega) (by omega), Option.bind_some, st_ofNat _ _ (by omega) (by omega), Option.bind_some, ofNat_succ]
  · rintro N t ht
    rw [k_clearMarks_2, if_neg (show ¬ Int32.ofNat 32 < 32 by decide)]
    exact ⟨t, rfl, ht⟩
theorem edges44 {k : Int32} {s0 s : S} (h : G k s0 s) : ∃ s', k_buildEdges_42 s = some s' ∧ G k s0 s' := by
  unfold k_buildEdges_42
  refine lpk k_buildEdges_44 (fun j t => G k s0 t) (fun o => ∃ s', o = some s' ∧ G k s0 s') 8 ?_ ?_ 8 0 BIG s (by omega) (by unfold BIG; omega) h
  · rintro N j t hj ht
    obtain ⟨l0, l1, l2, l3, g8, g7, h0, h1, h2, h3⟩ := id ht.1
    obtain ⟨o1, o2, o3, o4⟩ := op_tab ⟨j, hj⟩
    dsimp only at o1 o2 o3 o4
    have q18 : (gA t 18).length = 33 := ht.2.1.2.2.2.2.2.2.2.2.2.2.2.2.1
    have es : ∃ u, k_edgesOf (Int32.ofNat j) t = some u ∧ G k s0 u := by
      unfold k_edgesOf
      rw [ix_ofNat _ (by omega), h0 j hj, Option.bind_some, ix_ofNat _ (by omega), h1 j hj, Option.bind_some, if_neg o1, if_neg o3, if_neg o2, if_neg o4, st_ofNat _ _ (by omega) (by omega), Option.bind_some]
      split
      · exact ⟨t, rfl, ht⟩
      · exact ⟨_, rfl, ht.put (by simp) _ _⟩
    obtain ⟨u, eu, hu⟩ := es
    refine ⟨u, ?_, hu⟩
    rw [k_buildEdges_44, g8, if_pos ((ofNat_lt (by omega) (by omega)).mpr hj), if_pos ((lt_lit (m := 32) (by omega)).mpr (by omega)), eu, Option.bind_some, ofNat_succ]
  · rintro N t ht
    rw [k_buildEdges_44, ht.1.2.2.2.2.1, if_neg (show ¬ Int32.ofNat 8 < Int32.ofNat 8 by decide)]
    exact ⟨t, rfl, ht⟩
theorem edges_ok {k : Int32} {s0 s : S} (h : G k s0 s) : ∃ s', k_buildEdges s = some s' ∧ G k s0 s' := by
  unfold k_buildEdges
  refine lpk k_buildEdges_2 (fun j t => G k s0 t) (fun o => ∃ s', o = some s' ∧ G k s0 s') 33 ?_ ?_ 33 0 BIG s (by omega) (by unfold BIG; omega) h
  · rintro N j t hj ht
    have q18 : (gA t 18).length = 33 := ht.2.1.2.2.2.2.2.2.2.2.2.2.2.2.1
    have q19 : (gA t 19).length = 33 := ht.2.1.2.2.2.2.2.2.2.2.2.2.2.2.2.1
    have q20 : (gA t 20).length = 33 := ht.2.1.2.2.2.2.2.2.2.2.2.2.2.2.2.2.1
    have q21 : (gA t 21).length = 33 := ht.2.1.2.2.2.2.2.2.2.2.2.2.2.2.2.2.2
    have a := (((ht.put (f := 18) (by simp) j (-1)).put (f := 19) (by simp) j (-1)).put (f := 20) (by simp) j 0).put (f := 21) (by simp) j 0
    refine ⟨sA (sA (sA (sA t 18 ((gA t 18).set j (-1))) 19 ((gA t 19).set j (-1))) 20 ((gA t 20).set j 0)) 21 ((gA t 21).set j 0), ?_, by simpa [gA_sA] using a⟩
    rw [k_buildEdges_2, if_pos ((lt_lit (m := 33) (by omega)).mpr hj), st_ofNat _ _ (by omega) (by omega), Option.bind_some, st_ofNat _ _ (by omega) (by omega), Option.bind_some, st_ofNat _ _ (by omega) (by omega), Option.bind_some, st_ofNat _ _ (by omega) (by omega), Option.bind_some, ofNat_succ]
  · rintro N t ht
    rw [k_buildEdges_2, if_neg (show ¬ Int32.ofNat 33 < 33 by decide)]
    exact edges44 ht
theorem transfer_ok {k : Int32} {s0 s : S} (h : G k s0 s) {j : Nat} (hj : j < 8) (v : Int32) : ∃ w, k_transfer (Int32.ofNat j) v s = some w := by
  obtain ⟨l0, l1, l2, l3, g8, g7, h0, h1, h2, h3⟩ := id h.1
  unfold k_transfer k_transfer_98 k_transfer_131
  rw [ix_ofNat _ (by omega), h0 j hj, Option.bind_some, ix_ofNat _ (by omega), h1 j hj, Option.bind_some, ix_ofNat _ (by omega), h2 j hj, Option.bind_some, ix_ofNat _ (by omega), h3 j hj, Option.bind_some]
  repeat' split
  all_goals exact ⟨_, rfl⟩
theorem meet_ok {k : Int32} {s0 s : S} (h : G k s0 s) (v w : Int32) : ∃ s', k_meetInto v w s = some s' ∧ G k s0 s' := by
  have q17 : (gA s 17).length = 33 := h.2.1.2.2.2.2.2.2.2.2.2.2.2.1
  unfold k_meetInto
  by_cases a : v < 0
  · rw [if_pos a]; exact ⟨s, rfl, h⟩
  · rw [if_neg a]
    by_cases b : (32 : Int32) < v
    · rw [if_pos b]; exact ⟨s, rfl, h⟩
    · obtain ⟨e, hl⟩ := eq_ofNat a
      rw [e] at b
      have b' : ¬ 32 < v.toNatClampNeg := fun z => b (by rw [show (32 : Int32) = Int32.ofNat 32 from rfl]; exact (ofNat_lt (by omega) hl).mpr z)
      rw [e, if_neg b, ix_ofNat _ hl, List.getElem?_eq_getElem (by omega), Option.bind_some, st_ofNat _ _ hl (by omega), Option.bind_some]
      exact ⟨_, rfl, h.put (by simp) _ _⟩
theorem prop_ok {k : Int32} {s0 s : S} (h : G k s0 s) {j : Nat} (hj : j < 8) : ∃ s', k_propagate (Int32.ofNat j) s = some s' ∧ G k s0 s' := by
  have q16 : (gA s 16).length = 33 := h.2.1.2.2.2.2.2.2.2.2.2.2.1
  have q18 : (gA s 18).length = 33 := h.2.1.2.2.2.2.2.2.2.2.2.2.2.2.1
  have q20 : (gA s 20).length = 33 := h.2.1.2.2.2.2.2.2.2.2.2.2.2.2.2.2.1
  unfold k_propagate
  obtain ⟨w, ew⟩ := transfer_ok h hj ((gA s 16)[j]'(by omega))
  rw [ix_ofNat _ (by omega), List.getElem?_eq_getElem (by omega), Option.bind_some, ew, Option.bind_some, ix_ofNat _ (by omega), List.getElem?_eq_getElem (by omega), Option.bind_some, ix_ofNat _ (by omega), List.getElem?_eq_getElem (by omega), Option.bind_some]
  obtain ⟨t, et, ht⟩ := meet_ok h ((gA s 18)[j]'(by omega)) (w ||| (gA s 20)[j]'(by omega))
  have q19 : (gA t 19).length = 33 := ht.2.1.2.2.2.2.2.2.2.2.2.2.2.2.2.1
  have q21 : (gA t 21).length = 33 := ht.2.1.2.2.2.2.2.2.2.2.2.2.2.2.2.2.2
  obtain ⟨u, eu, hu⟩ := meet_ok ht ((gA t 19)[j]'(by omega)) (w ||| (gA t 21)[j]'(by omega))
  rw [et, Option.bind_some, ix_ofNat _ (by omega), List.getElem?_eq_getElem (by omega), Option.bind_some, ix_ofNat _ (by omega), List.getElem?_eq_getElem (by omega), Option.bind_some, eu, Option.bind_some]
  exact ⟨u, rfl, hu⟩
theorem lpc {Z : Type} (L : Nat → Int32 → Int32 → S → Option Z) (I : S → Prop) (Q : Option Z → Prop) (m : Nat) (step : ∀ n k c s, k < m → I s → ∃ c' s', L (n + 1) c (Int32.ofNat k) s = L n c' (Int32.ofNat (k + 1)) s' ∧ I s') (fin : ∀ n c s, I s → Q (L (n + 1) c (Int32.ofNat m) s)) : ∀ j k N c s, k + j = m → j < N → I s → Q (L N c (Int32.ofNat k) s)
  | _, _, 0, _, _, _, h, _ => by omega
  | 0, k, N + 1, c, s, hk, _, i => by
    have : k = m := by omega
    subst this
    exact fin N c s i
  | j + 1, k, N + 1, c, s, hk, hN, i => by
    obtain ⟨c', s', e, i'⟩ := step N k c s (by omega) i
    rw [e]
    exact lpc L I Q m step fin j (k + 1) N c' s' (by omega) (by omega) i'
section
variable {k : Int32} {s0 : S}
theorem relax61 {s : S} (h : G k s0 s) : ∃ r s', k_relaxOnce_57 s = some (r, s') ∧ G k s0 s' := by
  unfold k_relaxOnce_57
  refine lpc k_relaxOnce_61 (fun t => G k s0 t) (fun o => ∃ r s', o = some (r, s') ∧ G k s0 s') 33 ?_ ?_ 33 0 BIG 0 s (by omega) (by unfold BIG; omega) h
  · rintro N j c t hj ht
    have q16 : (gA t 16).length = 33 := ht.2.1.2.2.2.2.2.2.2.2.2.2.1
    have q17 : (gA t 17).length = 33 := ht.2.1.2.2.2.2.2.2.2.2.2.2.2.1
    by_cases q : (gA t 17)[j]'(by omega) = (gA t 16)[j]'(by omega)
    · refine ⟨c, t, ?_, ht⟩
      rw [k_relaxOnce_61, if_pos ((lt_lit (m := 33) (by omega)).mpr hj), ix_ofNat _ (by omega), List.getElem?_eq_getElem (by omega), Option.bind_some, ix_ofNat _ (by omega), List.getElem?_eq_getElem (by omega), Option.bind_some, if_pos q, ofNat_succ]
    · refine ⟨1, _, ?_, ht.put (f := 16) (by simp) j ((gA t 17)[j]'(by omega))⟩
      rw [k_relaxOnce_61, if_pos ((lt_lit (m := 33) (by omega)).mpr hj), ix_ofNat _ (by omega), List.getElem?_eq_getElem (by omega), Option.bind_some, ix_ofNat _ (by omega), List.getElem?_eq_getElem (by omega), Option.bind_some, if_neg q, Option.bind_some, st_ofNat _ _ (by omega) (by omega), Option.bind_some, ofNat_succ]
  · rintro N c t ht
    rw [k_relaxOnce_61, if_neg (show ¬ Int32.ofNat 33 < 33 by decide)]
    exact ⟨_, t, rfl, ht⟩
theorem relax23 {s : S} (h : G k s0 s) : ∃ r s', k_relaxOnce_23 s = some (r, s') ∧ G k s0 s' := by
  have q17 : (gA s 17).length = 33 := h.2.1.2.2.2.2.2.2.2.2.2.2.2.1
  unfold k_relaxOnce_23
  rw [show (0 : Int32) = Int32.ofNat 0 from rfl, st_ofNat _ _ (by omega) (by omega), Option.bind_some]
  refine lpk k_relaxOnce_32 (fun j t => G k s0 t) (fun o => ∃ r s', o = some (r, s') ∧ G k s0 s') 8 ?_ ?_ 8 0 BIG _ (by omega) (by unfold BIG; omega) (h.put (by simp) _ _)
  · rintro N j t hj ht
    obtain ⟨u, eu, hu⟩ := prop_ok ht hj
    refine ⟨u, ?_, hu⟩
    rw [k_relaxOnce_32, ht.1.2.2.2.2.1, if_pos ((ofNat_lt (by omega) (by omega)).mpr hj), if_pos ((lt_lit (m := 32) (by omega)).mpr (by omega)), eu, Option.bind_some, ofNat_succ]
  · rintro N t ht
    rw [k_relaxOnce_32, ht.1.2.2.2.2.1, if_neg (show ¬ Int32.ofNat 8 < Int32.ofNat 8 by decide)]
    exact relax61 ht
theorem relax_ok {s : S} (h : G k s0 s) : ∃ r s', k_relaxOnce s = some (r, s') ∧ G k s0 s' := by
  unfold k_relaxOnce
  refine lpk k_relaxOnce_2 (fun j t => G k s0 t) (fun o => ∃ r s', o = some (r, s') ∧ G k s0 s') 33 ?_ ?_ 33 0 BIG s (by omega) (by unfold BIG; omega) h
  · rintro N j t hj ht
    have q17 : (gA t 17).length = 33 := ht.2.1.2.2.2.2.2.2.2.2.2.2.2.1
    refine ⟨_, ?_, ht.put (f := 17) (by simp) j 255⟩
    rw [k_relaxOnce_2, if_pos ((lt_lit (m := 33) (by omega)).mpr hj), st_ofNat _ _ (by omega) (by omega), Option.bind_some, ofNat_succ]
  · rintro N t ht
    rw [k_relaxOnce_2, if_neg (show ¬ Int32.ofNat 33 < 33 by decide)]
    exact relax23 ht
theorem solve32 : ∀ j i N s, i + j = 300 → j < N → G k s0 s → ∃ r s', k_solveFacts_32 N (Int32.ofNat i) s = some (r, s') ∧ G k s0 s'
  | _, _, 0, _, _, h, _ => by omega
  | 0, i, N + 1, s, hi, _, h => by
    rw [k_solveFacts_32, if_neg (fun z => by have := (lt_lit (m := 300) (by omega)).mp z; omega)]
    exact ⟨_, s, rfl, h⟩
  | j + 1, i, N + 1, s, hi, hN, h => by
    obtain ⟨r, t, e, ht⟩ := relax_ok h
    rw [k_solveFacts_32, if_pos ((lt_lit (m := 300) (by omega)).mpr (by omega)), e, Option.bind_some, ofNat_succ]
    split
    · exact ⟨_, t, rfl, ht⟩
    · exact solve32 j (i + 1) N t (by omega) (by omega) ht
theorem solve_ok {s : S} (h : G k s0 s) : ∃ r s', k_solveFacts s = some (r, s') ∧ G k s0 s' := by
  unfold k_solveFacts
  refine lpk k_solveFacts_2 (fun j t => G k s0 t) (fun o => ∃ r s', o = some (r, s') ∧ G k s0 s') 33 ?_ ?_ 33 0 BIG s (by omega) (by unfold BIG; omega) h
  · rintro N j t hj ht
    have q16 : (gA t 16).length = 33 := ht.2.1.2.2.2.2.2.2.2.2.2.2.1
    refine ⟨_, ?_, ht.put (f := 16) (by simp) j 255⟩
    rw [k_solveFacts_2, if_pos ((lt_lit (m := 33) (by omega)).mpr hj), st_ofNat _ _ (by omega) (by omega), Option.bind_some, ofNat_succ]
  · rintro N t ht
    have q16 : (gA t 16).length = 33 := ht.2.1.2.2.2.2.2.2.2.2.2.2.1
    rw [k_solveFacts_2, if_neg (show ¬ Int32.ofNat 33 < 33 by decide)]
    unfold k_solveFacts_23
    rw [show (0 : Int32) = Int32.ofNat 0 from rfl, st_ofNat _ _ (by omega) (by omega), Option.bind_some]
    exact solve32 300 0 BIG _ (by omega) (by unfold BIG; omega) (ht.put (by simp) _ _)
theorem redund_ok {s : S} (h : G k s0 s) : ∃ s', k_removeRedundant s = some s' ∧ G k s0 s' := by
  unfold k_removeRedundant
  refine lpk k_removeRedundant_2 (fun j t => G k s0 t) (fun o => ∃ s', o = some s' ∧ G k s0 s') 8 ?_ ?_ 8 0 BIG s (by omega) (by unfold BIG; omega) h
  · rintro N j t hj ht
    obtain ⟨l0, l1, l2, l3, g8, g7, h0, h1, h2, h3⟩ := id ht.1
    have q14 : (gA t 14).length = 32 := ht.2.1.2.2.2.2.2.2.2.2.1
    have q16 : (gA t 16).length = 33 := ht.2.1.2.2.2.2.2.2.2.2.2.2.1
    rw [k_removeRedundant_2, g8, if_pos ((ofNat_lt (by omega) (by omega)).mpr hj), if_pos ((lt_lit (m := 32) (by omega)).mpr (by omega)), ix_ofNat _ (by omega), h0 j hj, Option.bind_some, ofNat_succ, ix_ofNat _ (by omega), List.getElem?_eq_getElem (show j < (gA t 16).length by omega), Option.bind_some, ix_ofNat _ (by omega), h1 j hj, Option.bind_some, st_ofNat _ _ (by omega) (by omega), Option.bind_some]
    split
    · split
      · exact ⟨t, rfl, ht⟩
      · exact ⟨_, rfl, ht.put (by simp) _ _⟩
    · exact ⟨t, rfl, ht⟩
  · rintro N t ht
    rw [k_removeRedundant_2, ht.1.2.2.2.2.1, if_neg (show ¬ Int32.ofNat 8 < Int32.ofNat 8 by decide)]
    exact ⟨t, rfl, ht⟩
theorem hoist_ok {s : S} (h : G k s0 s) : k_hoistInvariant s = some () := by
  unfold k_hoistInvariant
  refine lpk k_hoistInvariant_2 (fun j t => t = s) (fun o => o = some ()) 8 ?_ ?_ 8 0 BIG s (by omega) (by unfold BIG; omega) rfl
  · rintro N j t hj rfl
    obtain ⟨l0, l1, l2, l3, g8, g7, h0, h1, h2, h3⟩ := id h.1
    obtain ⟨o1, o2, o3, o4⟩ := op_tab ⟨j, hj⟩
    dsimp only at o1 o2 o3 o4
    refine ⟨t, ?_, rfl⟩
    rw [k_hoistInvariant_2, g8, if_pos ((ofNat_lt (by omega) (by omega)).mpr hj), if_pos ((lt_lit (m := 32) (by omega)).mpr (by omega)), ix_ofNat _ (by omega), h0 j hj, Option.bind_some, if_neg o2, ofNat_succ]
  · rintro N t rfl
    rw [k_hoistInvariant_2, h.1.2.2.2.2.1, if_neg (show ¬ Int32.ofNat 8 < Int32.ofNat 8 by decide)]
theorem deref_ok {s : S} (h : G k s0 s) {j : Nat} (hj : j + 1 < 8) : ∃ r, k_dereferencesNext (Int32.ofNat j) s = some r := by
  obtain ⟨l0, l1, l2, l3, g8, g7, h0, h1, h2, h3⟩ := id h.1
  unfold k_dereferencesNext
  rw [ofNat_succ, if_neg (ofNat_nonneg (by omega)), if_pos ((lt_lit (m := 32) (by omega)).mpr (by omega)), ix_ofNat _ (by omega), h1 j (by omega), Option.bind_some, ix_ofNat _ (by omega), h0 (j + 1) hj, Option.bind_some, ix_ofNat _ (by omega), h2 (j + 1) hj, ix_ofNat _ (by omega), h3 (j + 1) hj, ix_ofNat _ (by omega), h1 (j + 1) hj]
  simp only [Option.bind_some]
  repeat' split
  all_goals exact ⟨_, rfl⟩
theorem fold_ok {s : S} (h : G k s0 s) : ∃ s', k_foldImplicit s = some s' ∧ G k s0 s' := by
  unfold k_foldImplicit
  refine lpk k_foldImplicit_2 (fun j t => G k s0 t) (fun o => ∃ s', o = some s' ∧ G k s0 s') 7 ?_ ?_ 7 0 BIG s (by omega) (by unfold BIG; omega) h
  · rintro N j t hj ht
    obtain ⟨l0, l1, l2, l3, g8, g7, h0, h1, h2, h3⟩ := id ht.1
    have q14 : (gA t 14).length = 32 := ht.2.1.2.2.2.2.2.2.2.2.1
    obtain ⟨r, er⟩ := deref_ok ht (show j + 1 < 8 by omega)
    rw [k_foldImplicit_2, g8, ofNat_succ, if_pos ((ofNat_lt (by omega) (by omega)).mpr (by omega)), if_pos ((lt_lit (m := 32) (by omega)).mpr (by omega)), ix_ofNat _ (by omega), h0 j (by omega), Option.bind_some, ix_ofNat _ (by omega), List.getElem?_eq_getElem (show j < (gA t 14).length by omega), Option.bind_some, er, Option.bind_some, st_ofNat _ _ (by omega) (by omega), Option.bind_some]
    split
    · split
      · split
        · exact ⟨t, rfl, ht⟩
        · exact ⟨_, rfl, ht.put (by simp) _ _⟩
      · exact ⟨t, rfl, ht⟩
    · exact ⟨t, rfl, ht⟩
  · rintro N t ht
    rw [k_foldImplicit_2, ht.1.2.2.2.2.1, ofNat_succ, if_neg (show ¬ Int32.ofNat (7 + 1) < Int32.ofNat 8 by decide)]
    exact ⟨t, rfl, ht⟩
theorem opt_ok {s : S} (h : G k s0 s) : ∃ s', k_optimise s = some s' ∧ G k s0 s' := by
  unfold k_optimise k_optimise_21
  obtain ⟨s1, e1, h1⟩ := marks_ok h
  obtain ⟨s2, e2, h2⟩ := edges_ok h1
  obtain ⟨r, s3, e3, h3⟩ := solve_ok h2
  obtain ⟨s4, e4, h4⟩ := redund_ok h3
  obtain ⟨s5, e5, h5⟩ := fold_ok h4
  obtain ⟨s6, e6, h6⟩ := fold_ok h3
  rw [e1, Option.bind_some, e2, Option.bind_some, e3, Option.bind_some]
  dsimp only
  rw [e4, Option.bind_some, hoist_ok h3, Option.bind_some, hoist_ok h4, Option.bind_some, e5, e6, Option.bind_some, Option.bind_some]
  split
  · exact ⟨s6, rfl, h6⟩
  · exact ⟨s5, rfl, h5⟩
end
/-- the trap of an access -/
def tr (v : Int32) : Int32 := if v < 0 then 3 else if (7 : Int32) < v then (if v < 16 then 0 else 3) else 2
theorem trap_ok {s : S} (g7 : gI s 7 = 16) (v : Int32) : k_accessTrap v s = tr v := by
  unfold k_accessTrap k_accessTrap_12 tr
  rw [g7]
  by_cases a : v < 0
  · simp [a]
  · by_cases b : (7 : Int32) < v
    · by_cases c : v < 16
      · have : v < 64 := by
          rw [Int32.lt_iff_toInt_lt] at c ⊢
          have : (16 : Int32).toInt = 16 := rfl
          have : (64 : Int32).toInt = 64 := rfl
          omega
        simp [a, b, c, this]
      · simp [a, b, c]
    · simp [a, b]
theorem tr0 {v : Int32} (h : tr v = 0) : ∃ a, 8 ≤ a ∧ a < 16 ∧ v = Int32.ofNat a := by
  unfold tr at h
  by_cases a : v < 0
  · rw [if_pos a] at h; cases h
  · rw [if_neg a] at h
    by_cases b : (7 : Int32) < v
    · rw [if_pos b] at h
      by_cases c : v < 16
      · obtain ⟨e, hl⟩ := eq_ofNat a
        rw [e] at b c
        have b' := (ofNat_lt (k := 7) (by omega) hl).mp b
        have c' := (lt_lit (m := 16) hl).mp c
        exact ⟨v.toNatClampNeg, by omega, c', e⟩
      · rw [if_neg c] at h; cases h
    · rw [if_neg b] at h; cases h
theorem and63 : ∀ a : Fin 64, Int32.ofNat a.val &&& 63 = Int32.ofNat a.val := by decide
/-- before the run -/
def St (k : Int32) (s : S) (g r : Nat → Int32) : Prop := Pg k 8 s ∧ Ln s ∧ gI s 10 = 0 ∧ (∀ i, i < 64 → (gA s 10)[i]? = some (g i)) ∧ ∀ i, i < 8 → (gA s 12)[i]? = some (r i)
def up (f : Nat → Int32) (j : Nat) (x : Int32) : Nat → Int32 := fun i => if i = j then x else f i
theorem up_set {N : Nat} {l : List Int32} {f : Nat → Int32} {j : Nat} (hl : l.length = N) (hj : j < N) (h : ∀ i, i < N → l[i]? = some (f i)) (x : Int32) : ∀ i, i < N → (l.set j x)[i]? = some (up f j x i) := fun i hi => by
  unfold up
  by_cases q : i = j
  · subst q; rw [if_pos rfl, List.getElem?_set_self (by omega)]
  · rw [if_neg q, List.getElem?_set_ne (fun e => q e.symm)]; exact h i hi
theorem St.reg {k : Int32} {s : S} {g r : Nat → Int32} (h : St k s g r) {j : Nat} (hj : j < 8) (x : Int32) : St k (sA s 12 ((gA s 12).set j x)) g (up r j x) := by
  obtain ⟨a, b, c, d, e⟩ := h
  refine ⟨a.fx (fun f hf => by rw [gA_sA, if_neg (by omega)]) (by rw [gI_sA]) (by rw [gI_sA]), b.set 12 j x, by rw [gI_sA]; exact c, by rw [gA_sA, if_neg (by decide)]; exact d, ?_⟩
  rw [gA_sA, if_pos rfl]
  exact up_set b.2.2.2.2.2.2.1 hj e x
theorem St.heap {k : Int32} {s : S} {g r : Nat → Int32} (h : St k s g r) {j : Nat} (hj : j < 64) (x : Int32) : St k (sA s 10 ((gA s 10).set j x)) (up g j x) r := by
  obtain ⟨a, b, c, d, e⟩ := h
  refine ⟨a.fx (fun f hf => by rw [gA_sA, if_neg (by omega)]) (by rw [gI_sA]) (by rw [gI_sA]), b.set 10 j x, by rw [gI_sA]; exact c, ?_, by rw [gA_sA, if_neg (by decide)]; exact e⟩
  rw [gA_sA, if_pos rfl]
  exact up_set b.2.2.2.2.1 hj d x
theorem exe_step {k : Int32} {s : S} {g r : Nat → Int32} (h : St k s g r) {pc t N : Nat} (hp : pc < 8) (ht : t < 4096) {v : Int32} {s' : S} (e : k_executeAt (Int32.ofNat pc) s = some (v, s')) : k_execute_4 (N + 1) (Int32.ofNat pc) (Int32.ofNat t) s = k_execute_4 N v (Int32.ofNat (t + 1)) s' := by
  rw [k_execute_4, if_pos ((lt_lit (m := 4096) (by omega)).mpr ht), if_pos h.2.2.1, if_neg (ofNat_nonneg (by omega)), h.1.2.2.2.2.1, if_pos ((ofNat_lt (by omega) (by omega)).mpr hp), if_pos ((lt_lit (m := 32) (by omega)).mpr (by omega)), e, Option.bind_some, ofNat_succ]
theorem exe_end {s : S} (h : ¬ gI s 10 = 0) {t N : Nat} (ht : t < 4096) (v : Int32) : k_execute_4 (N + 1) v (Int32.ofNat t) s = some s := by
  rw [k_execute_4, if_pos ((lt_lit (m := 4096) (by omega)).mpr ht), if_neg h]
section
variable {k : Int32} {s : S} {g r : Nat → Int32}
theorem at0 (h : St k s g r) : k_executeAt (Int32.ofNat 0) s = some (Int32.ofNat 1, sA s 12 ((gA s 12).set 0 8)) := by
  obtain ⟨l0, l1, l2, l3, g8, g7, h0, h1, h2, h3⟩ := id h.1
  have q12 : (gA s 12).length = 8 := h.2.1.2.2.2.2.2.2.1
  unfold k_executeAt
  rw [ix_ofNat _ (by omega), h0 0 (by omega), Option.bind_some, show pO 0 = 1 from rfl, if_pos rfl, ix_ofNat _ (by omega), h1 0 (by omega), Option.bind_some, ix_ofNat _ (by omega), h2 0 (by omega), Option.bind_some, show pA 0 &&& 7 = Int32.ofNat 0 by decide, show pB 0 = 8 from rfl, st_ofNat _ _ (by omega) (by omega), Option.bind_some]
  rfl
theorem load_at (h : St k s g r) {pc : Nat} (hp : pc < 8) (ho : pO pc = 4) {b a : Nat} (hb : b < 8) (ha : a < 8) (eb : pB pc &&& 7 = Int32.ofNat b) (ea : pA pc &&& 7 = Int32.ofNat a) : k_executeAt (Int32.ofNat pc) s = if tr (r b + pC k pc) = 0 then some (Int32.ofNat (pc + 1), sA s 12 ((gA s 12).set a (g (r b + pC k pc).toNatClampNeg))) else some (Int32.ofNat pc, k_finish (tr (r b + pC k pc)) 0 s) := by
  obtain ⟨l0, l1, l2, l3, g8, g7, h0, h1, h2, h3⟩ := id h.1
  have q12 : (gA s 12).length = 8 := h.2.1.2.2.2.2.2.2.1
  unfold k_executeAt
  rw [ix_ofNat _ (by omega), h0 pc hp, Option.bind_some, ho, if_neg (by decide), if_neg (by decide), if_neg (by decide), if_pos rfl]
  unfold k_execLoad
  rw [ix_ofNat _ (by omega), h2 pc hp, Option.bind_some, eb, ix_ofNat _ (by omega), h.2.2.2.2 b hb, Option.bind_some, ix_ofNat _ (by omega), h3 pc hp, Option.bind_some, trap_ok g7]
  by_cases c : tr (r b + pC k pc) = 0
  · obtain ⟨x, x8, x16, ex⟩ := tr0 c
    rw [if_pos c, if_pos c, ex, ix_ofNat _ (by omega), h1 pc hp, Option.bind_some, and63 ⟨x, by omega⟩, ix_ofNat _ (by dsimp only; omega), h.2.2.2.1 x (by omega), Option.bind_some, ea, st_ofNat _ _ (by omega) (by omega), Option.bind_some, Option.bind_some, ofNat_succ, ofNat_clamp (by omega)]
  · rw [if_neg c, if_neg c, Option.bind_some]
theorem at2 (h : St k s g r) : k_executeAt (Int32.ofNat 2) s = some (Int32.ofNat 3, s) ∨ (r 1 = 0 ∧ k_executeAt (Int32.ofNat 2) s = some (Int32.ofNat 2, k_finish 2 0 s)) := by
  obtain ⟨l0, l1, l2, l3, g8, g7, h0, h1, h2, h3⟩ := id h.1
  have q14 : (gA s 14).length = 32 := h.2.1.2.2.2.2.2.2.2.2.1
  unfold k_executeAt
  rw [ix_ofNat _ (by omega), h0 2 (by omega), Option.bind_some, show pO 2 = 6 from rfl, if_neg (by decide), if_neg (by decide), if_neg (by decide), if_neg (by decide), if_neg (by decide), if_pos rfl]
  unfold k_execCheck
  rw [ix_ofNat _ (by omega), List.getElem?_eq_getElem (show 2 < (gA s 14).length by omega), Option.bind_some, ix_ofNat _ (by omega), h1 2 (by omega), Option.bind_some, show pA 2 &&& 7 = Int32.ofNat 1 by decide, ix_ofNat _ (by omega), h.2.2.2.2 1 (by omega), Option.bind_some, ofNat_succ]
  by_cases c : (gA s 14)[2]'(by omega) = 0
  · rw [if_pos c]
    by_cases d : r 1 = 0
    · right; rw [if_pos d]; exact ⟨d, rfl⟩
    · left; rw [if_neg d]; rfl
  · left; rw [if_neg c]; rfl
theorem at4 (h : St k s g r) (g12 : gI s 12 = 0) : k_executeAt (Int32.ofNat 4) s = some (Int32.ofNat 5, sI (sA s 11 ((gA s 11).set 0 (r 2))) 12 1) := by
  obtain ⟨l0, l1, l2, l3, g8, g7, h0, h1, h2, h3⟩ := id h.1
  have q11 : (gA s 11).length = 32 := h.2.1.2.2.2.2.2.1
  unfold k_executeAt
  rw [ix_ofNat _ (by omega), h0 4 (by omega), Option.bind_some, show pO 4 = 7 from rfl, if_neg (by decide), if_neg (by decide), if_neg (by decide), if_neg (by decide), if_neg (by decide), if_neg (by decide), if_pos rfl, ix_ofNat _ (by omega), h1 4 (by omega), Option.bind_some, show pA 4 &&& 7 = Int32.ofNat 2 by decide, ix_ofNat _ (by omega), h.2.2.2.2 2 (by omega), Option.bind_some]
  unfold k_emit k_emit_26
  rw [g12, if_neg (by decide), if_pos (by decide), show Jvm.AM.st (gA s 11) 0 (r 2) = some ((gA s 11).set 0 (r 2)) from st_ofNat (k := 0) _ _ (by omega) (by omega), Option.bind_some, Option.bind_some, ofNat_succ, gI_sA, g12]
  rfl
theorem at5 (h : St k s g r) : k_executeAt (Int32.ofNat 5) s = some (Int32.ofNat 6, sA s 12 ((gA s 12).set 2 (r 2 + k))) := by
  obtain ⟨l0, l1, l2, l3, g8, g7, h0, h1, h2, h3⟩ := id h.1
  have q12 : (gA s 12).length = 8 := h.2.1.2.2.2.2.2.2.1
  unfold k_executeAt
  rw [ix_ofNat _ (by omega), h0 5 (by omega), Option.bind_some, show pO 5 = 3 from rfl, if_neg (by decide), if_neg (by decide), if_pos rfl, ix_ofNat _ (by omega), h1 5 (by omega), Option.bind_some, ix_ofNat _ (by omega), h2 5 (by omega), Option.bind_some, show pB 5 &&& 7 = Int32.ofNat 2 by decide, ix_ofNat _ (by omega), h.2.2.2.2 2 (by omega), Option.bind_some, ix_ofNat _ (by omega), h3 5 (by omega), Option.bind_some, show pA 5 &&& 7 = Int32.ofNat 2 by decide, st_ofNat _ _ (by omega) (by omega), Option.bind_some, ofNat_succ]
  rfl
theorem at6 (h : St k s g r) {x : Nat} (x8 : 8 ≤ x) (x16 : x < 16) (ex : r 1 + 1 = Int32.ofNat x) : k_executeAt (Int32.ofNat 6) s = some (Int32.ofNat 7, sA s 10 ((gA s 10).set x (r 2))) := by
  obtain ⟨l0, l1, l2, l3, g8, g7, h0, h1, h2, h3⟩ := id h.1
  have q10 : (gA s 10).length = 64 := h.2.1.2.2.2.2.1
  have t0 : tr (Int32.ofNat x) = 0 := by
    unfold tr
    rw [if_neg (ofNat_nonneg (by omega)), if_pos (show (7 : Int32) < Int32.ofNat x from (ofNat_lt (k := 7) (by omega) (by omega)).mpr (by omega)), if_pos ((lt_lit (m := 16) (by omega)).mpr x16)]
  unfold k_executeAt
  rw [ix_ofNat _ (by omega), h0 6 (by omega), Option.bind_some, show pO 6 = 5 from rfl, if_neg (by decide), if_neg (by decide), if_neg (by decide), if_neg (by decide), if_pos rfl]
  unfold k_execStore
  rw [ix_ofNat _ (by omega), h1 6 (by omega), Option.bind_some, show pA 6 &&& 7 = Int32.ofNat 1 by decide, ix_ofNat _ (by omega), h.2.2.2.2 1 (by omega), Option.bind_some, ix_ofNat _ (by omega), h2 6 (by omega), Option.bind_some, show pB 6 = 1 from rfl, ex, trap_ok g7, t0, if_pos rfl, ix_ofNat _ (by omega), h3 6 (by omega), Option.bind_some, show pC k 6 &&& 7 = Int32.ofNat 2 by show (2 : Int32) &&& 7 = _; decide, ix_ofNat _ (by omega), h.2.2.2.2 2 (by omega), Option.bind_some, and63 ⟨x, by omega⟩, st_ofNat _ _ (by dsimp only; omega) (by dsimp only; omega), Option.bind_some, Option.bind_some, ofNat_succ]
theorem at7 (h : St k s g r) : k_executeAt (Int32.ofNat 7) s = some (Int32.ofNat 7, k_finish 1 (r 2) s) := by
  obtain ⟨l0, l1, l2, l3, g8, g7, h0, h1, h2, h3⟩ := id h.1
  unfold k_executeAt
  rw [ix_ofNat _ (by omega), h0 7 (by omega), Option.bind_some, show pO 7 = 12 from rfl]
  simp only [if_neg (show ¬ (12 : Int32) = 1 by decide), if_neg (show ¬ (12 : Int32) = 2 by decide), if_neg (show ¬ (12 : Int32) = 3 by decide), if_neg (show ¬ (12 : Int32) = 4 by decide), if_neg (show ¬ (12 : Int32) = 5 by decide), if_neg (show ¬ (12 : Int32) = 6 by decide), if_neg (show ¬ (12 : Int32) = 7 by decide), if_neg (show ¬ (12 : Int32) = 8 by decide), if_neg (show ¬ (12 : Int32) = 9 by decide), if_neg (show ¬ (12 : Int32) = 10 by decide), if_neg (show ¬ (12 : Int32) = 11 by decide), if_true]
  rw [ix_ofNat _ (by omega), h1 7 (by omega), Option.bind_some, show pA 7 &&& 7 = Int32.ofNat 2 by decide, ix_ofNat _ (by omega), h.2.2.2.2 2 (by omega), Option.bind_some]
end
theorem fin_trap {s : S} (g7 : gI s 7 = 16) {t : Int32} (h : ¬ t = 1) : gI (k_finish t 0 s) 10 = t ∧ gI (k_finish t 0 s) 12 = gI s 12 ∧ gI (k_finish t 0 s) 7 = 16 ∧ ∀ f, gA (k_finish t 0 s) f = gA s f := by
  unfold k_finish
  rw [if_neg h]
  exact ⟨by simp [gI_sI], by simp [gI_sI], by simp [gI_sI, g7], fun f => by simp [gA_sI]⟩
theorem tr_ne1 (v : Int32) : ¬ tr v = 1 := by
  unfold tr
  repeat' split
  all_goals decide
/-- the run -/
theorem exe_ok {k : Int32} {s : S} {g : Nat → Int32} (h : St k s g (fun _ => 0)) (g12 : gI s 12 = 0) : ∃ s', k_execute s = some s' ∧ gI s' 7 = 16 ∧ (((g 8 = 0 ∨ ¬ tr (g 8 + 1) = 0) ∧ gI s' 10 = (if g 8 = 0 then 2 else tr (g 8 + 1)) ∧ gI s' 12 = 0 ∧ ∀ i, i < 64 → (gA s' 10)[i]? = some (g i)) ∨ (¬ g 8 = 0 ∧ ∃ x, 8 ≤ x ∧ x < 16 ∧ g 8 + 1 = Int32.ofNat x ∧ gI s' 10 = 1 ∧ gI s' 11 = g x + k ∧ gI s' 12 = 1 ∧ (gA s' 11)[0]? = some (g x) ∧ (∀ i, i < 64 → (gA s' 10)[i]? = some (up g x (g x + k) i)) ∧ ∀ i, i < 8 → (gA s' 12)[i]? = some (up (up (up (fun _ => 0) 0 8) 1 (g 8)) 2 (g x + k) i))) := by
  unfold k_execute
  rw [show k_execute_4 BIG 0 0 s = k_execute_4 (999991 + 1 + 1 + 1 + 1 + 1 + 1 + 1 + 1 + 1) (Int32.ofNat 0) (Int32.ofNat 0) s from rfl]
  rw [exe_step h (by omega) (by omega) (at0 h)]
  have S1 := h.reg (j := 0) (by omega) 8
  have l1 := load_at S1 (pc := 1) (by omega) rfl (b := 0) (a := 1) (by omega) (by omega) (by decide) (by decide)
  have a8 : up (fun _ => (0 : Int32)) 0 8 0 + pC k 1 = 8 := by show (8 : Int32) + 0 = 8; decide
  rw [a8, if_pos (show tr 8 = 0 by decide), show (8 : Int32).toNatClampNeg = 8 from rfl] at l1
  rw [exe_step S1 (by omega) (by omega) l1]
  have S2 := S1.reg (j := 1) (by omega) (g 8)
  generalize hs2 : sA (sA s 12 ((gA s 12).set 0 8)) 12 ((gA (sA s 12 ((gA s 12).set 0 8)) 12).set 1 (g 8)) = s2 at S2
  have k12 : gI s2 12 = 0 := by rw [← hs2]; simp [gI_sA, g12]
  have k7 : gI s2 7 = 16 := S2.1.2.2.2.2.2.1
  have r1 : up (up (fun _ => (0 : Int32)) 0 8) 1 (g 8) 1 = g 8 := rfl
  have trapped : ∀ (t : Int32) (N j : Nat) (v : Int32), j < 4096 → ¬ t = 0 → ¬ t = 1 → (g 8 = 0 ∨ ¬ tr (g 8 + 1) = 0) → t = (if g 8 = 0 then 2 else tr (g 8 + 1)) → ∃ s', k_execute_4 (N + 1) v (Int32.ofNat j) (k_finish t 0 s2) = some s' ∧ gI s' 7 = 16 ∧ (((g 8 = 0 ∨ ¬ tr (g 8 + 1) = 0) ∧ gI s' 10 = (if g 8 = 0 then 2 else tr (g 8 + 1)) ∧ gI s' 12 = 0 ∧ ∀ i, i < 64 → (gA s' 10)[i]? = some (g i)) ∨ (¬ g 8 = 0 ∧ ∃ x, 8 ≤ x ∧ x < 16 ∧ g 8 + 1 = Int32.ofNat x ∧ gI s' 10 = 1 ∧ gI s' 11 = g x + k ∧ gI s' 12 = 1 ∧ (gA s' 11)[0]? = some (g x) ∧ (∀ i, i < 64 → (gA s' 10)[i]? = some (up g x (g x + k) i)) ∧ ∀ i, i < 8 → (gA s' 12)[i]? = some (up (up (up (fun _ => 0) 0 8) 1 (g 8)) 2 (g x + k) i))) := fun t N j v hj t0 t1 cs et => by
    obtain ⟨f10, f12, f7, fA⟩ := fin_trap k7 t1
    refine ⟨_, exe_end (by rw [f10]; exact t0) hj v, f7, Or.inl ⟨cs, by rw [f10, et], by rw [f12, k12], ?_⟩⟩
    rw [fA]; exact S2.2.2.2.1
  rcases at2 S2 with e2 | ⟨z, e2⟩
  · rw [exe_step S2 (pc := 2) (by omega) (by omega) e2]
    have l3 := load_at S2 (pc := 3) (by omega) rfl (b := 1) (a := 2) (by omega) (by omega) (by decide) (by decide)
    rw [r1, show pC k 3 = 1 from rfl] at l3
    by_cases c : tr (g 8 + 1) = 0
    · rw [if_pos c] at l3
      obtain ⟨x, x8, x16, ex⟩ := tr0 c
      have ne : ¬ g 8 = 0 := fun z => by
        rw [z] at c
        exact absurd c (by decide)
      rw [ex, ofNat_clamp (by omega)] at l3
      rw [exe_step S2 (pc := 3) (by omega) (by omega) l3]
      have S3 := S2.reg (j := 2) (by omega) (g x)
      generalize hs3 : sA s2 12 ((gA s2 12).set 2 (g x)) = s3 at S3
      have m12 : gI s3 12 = 0 := by rw [← hs3]; simp [gI_sA, k12]
      rw [exe_step S3 (pc := 4) (by omega) (by omega) (at4 S3 m12)]
      have q11 : (gA s3 11).length = 32 := S3.2.1.2.2.2.2.2.1
      generalize hs4 : sI (sA s3 11 ((gA s3 11).set 0 (up (up (up (fun _ => 0) 0 8) 1 (g 8)) 2 (g x) 2))) 12 1 = s4
      have S4 : St k s4 g (up (up (up (fun _ => 0) 0 8) 1 (g 8)) 2 (g x)) := by
        obtain ⟨a, b, c, d, e⟩ := S3
        rw [← hs4]
        exact ⟨a.fx (fun f hf => by rw [gA_sI, gA_sA, if_neg (by omega)]) (by simp [gI_sI, gI_sA]) (by simp [gI_sI, gI_sA]), (b.set 11 0 _).setI _ _, by simp [gI_sI, gI_sA, c], by simpa [gA_sI, gA_sA] using d, by simpa [gA_sI, gA_sA] using e⟩
      have n12 : gI s4 12 = 1 := by rw [← hs4]; simp [gI_sI]
      have n11 : (gA s4 11)[0]? = some (g x) := by
        rw [← hs4, gA_sI, gA_sA, if_pos rfl, List.getElem?_set_self (by omega)]; rfl
      rw [exe_step S4 (pc := 5) (by omega) (by omega) (at5 S4)]
      have S5 := S4.reg (j := 2) (by omega) (g x + k)
      rw [show up (up (up (fun _ => (0 : Int32)) 0 8) 1 (g 8)) 2 (g x) 2 = g x from rfl]
      generalize hs5 : sA s4 12 ((gA s4 12).set 2 (g x + k)) = s5 at S5
      have e6 := at6 S5 x8 x16 (by show g 8 + 1 = _; exact ex)
      rw [exe_step S5 (pc := 6) (by omega) (by omega) e6]
      have S6 := S5.heap (j := x) (by omega) (g x + k)
      rw [show up (up (up (up (fun _ => (0 : Int32)) 0 8) 1 (g 8)) 2 (g x)) 2 (g x + k) 2 = g x + k from rfl]
      generalize hs6 : sA s5 10 ((gA s5 10).set x (g x + k)) = s6 at S6
      rw [exe_step S6 (pc := 7) (by omega) (by omega) (at7 S6)]
      rw [show up (up (up (up (fun _ => (0 : Int32)) 0 8) 1 (g 8)) 2 (g x)) 2 (g x + k) 2 = g x + k from rfl]
      unfold k_finish
      rw [if_pos rfl]
      refine ⟨_, exe_end (by simp [gI_sI]) (by omega) _, by simp only [gI_sI]; exact S6.1.2.2.2.2.2.1, Or.inr ⟨ne, x, x8, x16, ex, by simp [gI_sI], by simp [gI_sI], ?_, ?_, ?_, ?_⟩⟩
      · simp only [gI_sI]
        rw [← hs6, ← hs5]; simp [gI_sA, n12]
      · simp only [gA_sI]
        rw [← hs6, ← hs5]; simp only [gA_sA]; exact n11
      · simp only [gA_sI]; exact S6.2.2.2.1
      · simp only [gA_sI]
        intro i hi
        rw [S6.2.2.2.2 i hi]
        unfold up
        by_cases q : i = 2
        · rw [if_pos q, if_pos q]
        · rw [if_neg q, if_neg q, if_neg q]
    · rw [if_neg c] at l3
      rw [exe_step S2 (pc := 3) (by omega) (by omega) l3]
      refine trapped _ _ _ _ (by omega) c (tr_ne1 _) (Or.inr c) ?_
      by_cases z : g 8 = 0
      · rw [if_pos z, z]; decide
      · rw [if_neg z]
  · rw [r1] at z
    rw [exe_step S2 (pc := 2) (by omega) (by omega) e2]
    exact trapped _ _ _ _ (by omega) (by decide) (by decide) (Or.inl z) (by rw [if_pos z])
theorem reg_loop {k p nv : Int32} {s : S} {v8 : Int32} (h : (v8 = 0 ∧ ¬ gI s 10 = 1) ∨ (v8 = 1 ∧ gI s 10 = 1 ∧ ∀ i, i < 8 → (gA s 12)[i]? = some (up (up (up (fun _ => 0) 0 8) 1 p) 2 nv i))) : ∃ t, law_371 p v8 nv s = some (1, t) := by
  unfold law_371
  refine lpk (fun N v t => law_374 N p v8 nv v t) (fun j t => t = s) (fun o => ∃ t, o = some (1, t)) 8 ?_ ?_ 8 0 BIG s (by omega) (by unfold BIG; omega) rfl
  · rintro N j t hj rfl
    refine ⟨t, ?_, rfl⟩
    show law_374 (N + 1) _ _ _ _ _ = law_374 N _ _ _ _ _
    rw [law_374, if_pos ((lt_lit (m := 8) (by omega)).mpr hj)]
    unfold law_398 law_412 law_427 k_getRegAfter
    rcases h with ⟨rfl, n1⟩ | ⟨rfl, e1, hr⟩
    · rw [if_neg n1, Option.bind_some, if_pos rfl, if_pos rfl, if_pos rfl, if_pos rfl, ofNat_succ]
    · rw [if_pos e1, if_neg (ofNat_nonneg (by omega)), if_neg (show ¬ (7 : Int32) < Int32.ofNat j from fun z => by have := (ofNat_lt (k := 7) (by omega) (by omega)).mp z; omega), ix_ofNat _ (by omega), hr j hj, Option.bind_some, Option.bind_some]
      have c8 : j = 0 ∨ j = 1 ∨ j = 2 ∨ j = 3 ∨ j = 4 ∨ j = 5 ∨ j = 6 ∨ j = 7 := by omega
      rw [ofNat_succ]
      rcases c8 with rfl | rfl | rfl | rfl | rfl | rfl | rfl | rfl
      all_goals exact if_pos rfl
  · rintro N t rfl
    show ∃ t', law_374 (N + 1) _ _ _ _ _ = _
    rw [law_374, if_neg (show ¬ Int32.ofNat 8 < 8 by decide)]
    exact ⟨_, rfl⟩
def hp0 (p x y : Int32) : Nat → Int32 := up (up (up (fun _ => 0) 8 p) 9 x) 10 y
theorem init_hp (p x y : Int32) {a : Nat} (h8 : 8 ≤ a) (h16 : a < 16) : h_init (Int32.ofNat a) p x y = hp0 p x y a := by
  have c8 : a = 8 ∨ a = 9 ∨ a = 10 ∨ a = 11 ∨ a = 12 ∨ a = 13 ∨ a = 14 ∨ a = 15 := by omega
  rcases c8 with rfl | rfl | rfl | rfl | rfl | rfl | rfl | rfl
  all_goals rfl
theorem heap_loop {k p x y nv v5 : Int32} {s : S} {v8 : Int32} (g7 : gI s 7 = 16) (h : (v8 = 0 ∧ ¬ gI s 10 = 1 ∧ ∀ i, i < 64 → (gA s 10)[i]? = some (hp0 p x y i)) ∨ (v8 = 1 ∧ gI s 10 = 1 ∧ (∀ i, i < 8 → (gA s 12)[i]? = some (up (up (up (fun _ => 0) 0 8) 1 p) 2 nv i)) ∧ ∃ a, 8 ≤ a ∧ a < 16 ∧ v5 = Int32.ofNat a ∧ ∀ i, i < 64 → (gA s 10)[i]? = some (up (hp0 p x y) a nv i))) : ∃ t, law_310 BIG p x y v5 v8 nv 0 s = some (1, t) := by
  refine lpk (fun N v t => law_310 N p x y v5 v8 nv v t) (fun j t => t = s) (fun o => ∃ t, o = some (1, t)) 8 ?_ ?_ 8 0 BIG s (by omega) (by unfold BIG; omega) rfl
  · rintro N j t hj rfl
    refine ⟨t, ?_, rfl⟩
    have e8 : (8 : Int32) + Int32.ofNat j = Int32.ofNat (8 + j) := by rw [show (8 : Int32) = Int32.ofNat 8 from rfl, ofNat_add']
    show law_310 (N + 1) _ _ _ _ _ _ _ _ = law_310 N _ _ _ _ _ _ _ _
    rw [law_310, if_pos ((lt_lit (m := 8) (by omega)).mpr hj)]
    unfold law_349 k_getHeapAfter
    rw [e8, if_neg (ofNat_nonneg (by omega)), g7, if_pos ((lt_lit (m := 16) (by omega)).mpr (by omega)), if_pos ((lt_lit (m := 64) (by omega)).mpr (by omega)), ix_ofNat _ (by omega), ofNat_succ, init_hp p x y (by omega) (by omega)]
    rcases h with ⟨rfl, _, hh⟩ | ⟨rfl, _, _, a, a8, a16, rfl, hh⟩
    · rw [hh (8 + j) (by omega), Option.bind_some, Option.bind_some, if_pos rfl, if_pos rfl]
    · rw [hh (8 + j) (by omega), Option.bind_some, Option.bind_some, if_neg (show ¬ (1 : Int32) = 0 by decide)]
      unfold up
      by_cases q : 8 + j = a
      · rw [if_pos q, if_pos (show Int32.ofNat (8 + j) = Int32.ofNat a by rw [q]), if_pos rfl]
      · have : ¬ Int32.ofNat (8 + j) = Int32.ofNat a := fun z => q (by
          have w := congrArg Int32.toNatClampNeg z
          rw [ofNat_clamp (by omega), ofNat_clamp (by omega)] at w
          exact w)
        rw [if_neg q, if_neg this, if_pos rfl]
  · rintro N t rfl
    show ∃ t', law_310 (N + 1) _ _ _ _ _ _ _ _ = _
    rw [law_310, if_neg (show ¬ Int32.ofNat 8 < 8 by decide)]
    apply reg_loop (k := k)
    rcases h with ⟨a, b, _⟩ | ⟨a, b, c, _⟩
    · exact Or.inl ⟨a, b⟩
    · exact Or.inr ⟨a, b, c⟩
theorem cell_ok {s : S} (g7 : gI s 7 = 16) (l9 : (gA s 9).length = 64) {f : Nat → Int32} (hf : ∀ i, i < 64 → (gA s 9)[i]? = some (f i)) {a : Nat} (a8 : 8 ≤ a) (a16 : a < 16) (v : Int32) : k_setCell (Int32.ofNat a) v s = some (1, sA s 9 ((gA s 9).set a v)) ∧ ∀ i, i < 64 → (gA (sA s 9 ((gA s 9).set a v)) 9)[i]? = some (up f a v i) := by
  constructor
  · unfold k_setCell
    rw [if_neg (fun z => by have := (lt_lit (m := 8) (by omega)).mp z; omega), g7, if_pos ((lt_lit (m := 16) (by omega)).mpr a16), if_pos ((lt_lit (m := 64) (by omega)).mpr (by omega)), st_ofNat _ _ (by omega) (by omega), Option.bind_some]
  · rw [gA_sA, if_pos rfl]
    exact up_set l9 (by omega) hf v
theorem init_ok : ∃ s, k_init 16 = some s ∧ Pg 0 0 s ∧ Ln s ∧ ∀ i, i < 64 → (gA s 9)[i]? = some 0 := by
  unfold k_init k_init_230 k_init_239
  refine ⟨_, rfl, ?_, ?_, ?_⟩
  · refine ⟨by simp [gA_sI, gA_sA, rep_length], by simp [gA_sI, gA_sA, rep_length], by simp [gA_sI, gA_sA, rep_length], by simp [gA_sI, gA_sA, rep_length], by simp [gI_sI], by simp [gI_sI], fun i hi => by omega, fun i hi => by omega, fun i hi => by omega, fun i hi => by omega⟩
  · simp [Ln, gA_sI, gA_sA, rep_length]
  · intro i hi
    simp only [gA_sI, gA_sA]
    show (rep 64 0)[i]? = some 0
    rw [rep_get, if_pos hi]
theorem law_true (v0 v1 v2 v3 : Int32) : ∃ t, law v0 v1 v2 v3 = some (1, t) := by
  obtain ⟨s, es, ps, Ls, z9⟩ := init_ok
  have g7 : gI s 7 = 16 := ps.2.2.2.2.2.1
  have l9 : (gA s 9).length = 64 := Ls.2.2.2.1
  obtain ⟨c1, d1⟩ := cell_ok g7 l9 (f := fun _ => 0) z9 (a := 8) (by omega) (by omega) v0
  obtain ⟨c2, d2⟩ := cell_ok (s := sA s 9 ((gA s 9).set 8 v0)) (by rw [gI_sA]; exact g7) (by rw [gA_sA, if_pos rfl, List.length_set]; exact l9) d1 (a := 9) (by omega) (by omega) v1
  have L1 := Ls.set 9 8 v0
  have L2 := L1.set 9 9 v1
  obtain ⟨c3, d3⟩ := cell_ok (s := sA (sA s 9 ((gA s 9).set 8 v0)) 9 ((gA (sA s 9 ((gA s 9).set 8 v0)) 9).set 9 v1)) (by rw [gI_sA, gI_sA]; exact g7) L2.2.2.2.1 d2 (a := 10) (by omega) (by omega) v2
  have L3 := L2.set 9 10 v2
  generalize hs3 : sA (sA (sA s 9 ((gA s 9).set 8 v0)) 9 ((gA (sA s 9 ((gA s 9).set 8 v0)) 9).set 9 v1)) 9 ((gA (sA (sA s 9 ((gA s 9).set 8 v0)) 9 ((gA (sA s 9 ((gA s 9).set 8 v0)) 9).set 9 v1)) 9).set 10 v2) = s3 at c3 d3 L3
  have P3 : Pg v3 0 s3 := by
    obtain ⟨a, b, c, d, e, f, _⟩ := ps
    rw [← hs3]
    refine ⟨by simpa [gA_sA] using a, by simpa [gA_sA] using b, by simpa [gA_sA] using c, by simpa [gA_sA] using d, by simpa [gI_sA] using e, by simpa [gI_sA] using f, fun i hi => by omega, fun i hi => by omega, fun i hi => by omega, fun i hi => by omega⟩
  obtain ⟨_, t1, e1, P4, F1⟩ := add_ok (by omega) P3 (v1 := 1) (v2 := 0) (v3 := 8) (v4 := 0) (by decide) (by decide) (by decide) (by decide) (by decide) rfl (by decide) (by decide) rfl
  obtain ⟨_, t2, e2, P5, F2⟩ := add_ok (by omega) P4 (v1 := 4) (v2 := 1) (v3 := 0) (v4 := 0) (by decide) (by decide) (by decide) (by decide) (by decide) rfl (by decide) (by decide) rfl
  obtain ⟨_, t3, e3, P6, F3⟩ := add_ok (by omega) P5 (v1 := 6) (v2 := 1) (v3 := 0) (v4 := 0) (by decide) (by decide) (by decide) (by decide) (by decide) rfl (by decide) (by decide) rfl
  obtain ⟨_, t4, e4, P7, F4⟩ := add_ok (by omega) P6 (v1 := 4) (v2 := 2) (v3 := 1) (v4 := 1) (by decide) (by decide) (by decide) (by decide) (by decide) rfl (by decide) (by decide) rfl
  obtain ⟨_, t5, e5, P8, F5⟩ := add_ok (by omega) P7 (v1 := 7) (v2 := 2) (v3 := 0) (v4 := 0) (by decide) (by decide) (by decide) (by decide) (by decide) rfl (by decide) (by decide) rfl
  obtain ⟨_, t6, e6, P9, F6⟩ := add_ok (by omega) P8 (v1 := 3) (v2 := 2) (v3 := 2) (v4 := v3) (by decide) (by decide) (by decide) (by decide) (by show ¬ k_fits 3 v3 = 0; unfold k_fits; rw [if_neg (by decide), if_neg (by decide)]; decide) rfl (by decide) (by decide) rfl
  obtain ⟨_, t7, e7, P10, F7⟩ := add_ok (by omega) P9 (v1 := 5) (v2 := 1) (v3 := 1) (v4 := 2) (by decide) (by decide) (by decide) (by decide) (by decide) rfl (by decide) (by decide) rfl
  obtain ⟨_, t8, e8, P11, F8⟩ := add_ok (by omega) P10 (v1 := 12) (v2 := 2) (v3 := 0) (v4 := 0) (by decide) (by decide) (by decide) (by decide) (by decide) rfl (by decide) (by decide) rfl
  have Fa : Fx [8, 9] [] [0, 1, 2, 3] [] s3 t8 := ((((((F1.trans F2).trans F3).trans F4).trans F5).trans F6).trans F7).trans F8
  have L8 : Ln t8 := by
    unfold Ln
    rw [Fa.2.2.1 4 (by simp), Fa.2.2.1 5 (by simp), Fa.2.2.1 6 (by simp), Fa.2.2.1 9 (by simp), Fa.2.2.1 10 (by simp), Fa.2.2.1 11 (by simp), Fa.2.2.1 12 (by simp), Fa.2.2.1 13 (by simp), Fa.2.2.1 14 (by simp), Fa.2.2.1 15 (by simp), Fa.2.2.1 16 (by simp), Fa.2.2.1 17 (by simp), Fa.2.2.1 18 (by simp), Fa.2.2.1 19 (by simp), Fa.2.2.1 20 (by simp), Fa.2.2.1 21 (by simp)]
    exact L3
  obtain ⟨c, ec, Pc, Lc, Fc, c9⟩ := compile_ok P11 L8
  have hc : ∀ i, i < 64 → (gA c 9)[i]? = some (hp0 v0 v1 v2 i) := by rw [Fc.2.2.1 9 (by simp), Fa.2.2.1 9 (by simp)]; exact d3
  -- the run
  obtain ⟨r, er, Lr, Fr, o0, r10, r11, r12, rr, rh⟩ := reset_ok Lc hc
  have Pr : Pg v3 8 r := Pc.fx (fun f hf => Fr.2.2.1 f (by simp; omega)) (Fr.1 8 (by simp)) (Fr.1 7 (by simp))
  obtain ⟨o, eo, Go⟩ := opt_ok (k := v3) (s0 := r) (s := r) ⟨Pr, Lr, Fx.refl ..⟩
  obtain ⟨Po, Lo, Fo⟩ := Go
  have So : St v3 o (hp0 v0 v1 v2) (fun _ => 0) := ⟨Po, Lo, by rw [Fo.1 10 (by simp)]; exact r10, by rw [Fo.2.2.1 10 (by simp)]; exact rh, by rw [Fo.2.2.1 12 (by simp)]; exact rr⟩
  obtain ⟨u, eu, u7, res⟩ := exe_ok So (by rw [Fo.1 12 (by simp)]; exact r12)
  have run : k_run 1 c = some (gI u 10, u) := by
    unfold k_run k_run_29
    rw [c9, if_neg (show ¬ (1 : Int32) = 0 by decide), er, Option.bind_some, if_neg (show ¬ (1 : Int32) = 0 by decide), eo, Option.bind_some, eu, Option.bind_some]
  unfold law
  rw [es, Option.bind_some, show k_setCell 8 v0 s = _ from c1, Option.bind_some]
  dsimp only
  rw [show k_setCell 9 v1 (sA s 9 ((gA s 9).set 8 v0)) = _ from c2, Option.bind_some]
  dsimp only
  rw [show k_setCell 10 v2 (sA (sA s 9 ((gA s 9).set 8 v0)) 9 ((gA (sA s 9 ((gA s 9).set 8 v0)) 9).set 9 v1)) = _ from c3, Option.bind_some]
  dsimp only
  rw [e1, Option.bind_some]
  dsimp only
  rw [e2, Option.bind_some]
  dsimp only
  rw [e3, Option.bind_some]
  dsimp only
  rw [e4, Option.bind_some]
  dsimp only
  rw [e5, Option.bind_some]
  dsimp only
  rw [e6, Option.bind_some]
  dsimp only
  rw [e7, Option.bind_some]
  dsimp only
  rw [e8, Option.bind_some]
  dsimp only
  rw [ec, Option.bind_some]
  dsimp only
  rw [if_pos rfl]
  have h8 : hp0 v0 v1 v2 8 = v0 := rfl
  rw [h8] at res
  -- the expected outcome
  have v6 : (if v0 = 0 then (2 : Int32) else if (v0 + (1 : Int32)) < 0 then if (v0 + (1 : Int32)) < 0 then (3 : Int32) else if (v0 + (1 : Int32)) < (16 : Int32) then (1 : Int32) else (3 : Int32) else if (7 : Int32) < (v0 + (1 : Int32)) then if (v0 + (1 : Int32)) < 0 then (3 : Int32) else if (v0 + (1 : Int32)) < (16 : Int32) then (1 : Int32) else (3 : Int32) else (2 : Int32)) = if v0 = 0 then 2 else if tr (v0 + 1) = 0 then 1 else tr (v0 + 1) := by
    unfold tr
    by_cases z : v0 = 0
    · rw [if_pos z, if_pos z]
    · rw [if_neg z, if_neg z]
      by_cases a : v0 + 1 < 0
      · simp [a]
      · by_cases b : (7 : Int32) < v0 + 1
        · by_cases d : v0 + 1 < 16
          · simp [a, b, d]
          · simp [a, b, d]
        · simp [a, b]
  rw [v6]
  unfold law_193 law_204 k_getOutcome law_251 k_getResult law_271 k_getOutputCount law_293
  rw [run, Option.bind_some]
  dsimp only
  rcases res with ⟨cs, u10, u12, uh⟩ | ⟨nz, x, x8, x16, ex, u10, u11, u12, uo, uh, ur⟩
  · have e6 : (if v0 = 0 then (2 : Int32) else if tr (v0 + 1) = 0 then 1 else tr (v0 + 1)) = gI u 10 := by
      rw [u10]
      by_cases z : v0 = 0
      · rw [if_pos z, if_pos z]
      · rw [if_neg z, if_neg z, if_neg (cs.resolve_left z)]
    have n1 : ¬ gI u 10 = 1 := by
      rw [u10]
      by_cases z : v0 = 0
      · rw [if_pos z]; decide
      · rw [if_neg z]; exact tr_ne1 _
    have go0 : k_getOutput 0 u = some 0 := by
      unfold k_getOutput
      rw [if_neg (by decide), if_pos (by decide), u12, if_neg (by decide)]
    have go1 : k_getOutput 1 u = some 0 := by
      unfold k_getOutput
      rw [if_neg (by decide), if_pos (by decide), u12, if_neg (by decide)]
    rw [e6, if_pos rfl, if_pos rfl, if_neg n1]
    show ∃ t, _ = some (1, t)
    rw [if_neg n1, if_pos rfl, u12, if_pos rfl, go0, Option.bind_some, if_pos rfl, go1, Option.bind_some, if_pos rfl]
    exact heap_loop (k := v3) u7 (Or.inl ⟨rfl, n1, uh⟩)
  · have t0 : tr (v0 + 1) = 0 := by
      rw [ex]
      unfold tr
      rw [if_neg (ofNat_nonneg (by omega)), if_pos (show (7 : Int32) < Int32.ofNat x from (ofNat_lt (k := 7) (by omega) (by omega)).mpr (by omega)), if_pos ((lt_lit (m := 16) (by omega)).mpr x16)]
    have nn : ¬ v0 + 1 < 0 := by rw [ex]; exact ofNat_nonneg (by omega)
    have n7 : (7 : Int32) < v0 + 1 := by rw [ex]; exact (ofNat_lt (k := 7) (by omega) (by omega)).mpr (by omega)
    have n16 : v0 + 1 < 16 := by rw [ex]; exact (lt_lit (m := 16) (by omega)).mpr x16
    have v7 : h_init (v0 + 1) v0 v1 v2 = hp0 v0 v1 v2 x := by rw [ex]; exact init_hp v0 v1 v2 x8 x16
    have go0 : k_getOutput 0 u = some (hp0 v0 v1 v2 x) := by
      unfold k_getOutput
      rw [if_neg (by decide), if_pos (by decide), u12, if_pos (by decide), show ix (gA u 11) 0 = some (hp0 v0 v1 v2 x) by rw [show (0 : Int32) = Int32.ofNat 0 from rfl, ix_ofNat _ (by omega)]; exact uo, Option.bind_some]
    have go1 : k_getOutput 1 u = some 0 := by
      unfold k_getOutput
      rw [if_neg (by decide), if_pos (by decide), u12, if_neg (by decide)]
    rw [if_neg nz, if_pos t0, if_neg nz, if_neg nn, if_pos n7, if_neg nn, if_pos n16, v7, u10, if_pos rfl, if_pos rfl]
    simp only [if_neg (show ¬ (1 : Int32) = 0 by decide), if_true]
    rw [if_pos u11, if_pos u12, go0, Option.bind_some, if_pos rfl, go1, Option.bind_some, if_pos rfl]
    exact heap_loop (k := v3) u7 (Or.inr ⟨rfl, u10, ur, x, x8, x16, ex, uh⟩)
set_option maxRecDepth 65536 in
set_option maxHeartbeats 40000000 in
theorem comes_1 {Post : Tables → Env → Array Value → State → Outcome → State → Prop} (hpost : ∀ tb e args s v u, (limb_1_1.after args s (.returned v) u = true ∧ limb_1_2.after args s (.returned v) u = true ∧ True) → FrameEnd s (.returned v) u (Jvm.fieldLocs frame_1_writes args s ++ Jvm.arrayLocs frame_1_arrays args s ++ Jvm.staticLocs frame_1_statics s) 56 1536 → Post tb e args s (.returned v) u) :
    ArmFor flags0 classFile x code maxLocals ret World_1 tables_1 room_1 Calls_1 rest_1 Pre_1 Post := by
  intro l hfl _ _ p e ha hc hk s m args below hf hA hF happ hP
  obtain ⟨hcalls, hrest, hpre⟩ := hP
  obtain ⟨-, -, -, hnamed, -, -, -, hat⟩ := (Spec.applies_iff hf).mp happ
  obtain ⟨hg, hn⟩ := and_e (Cond.before_iff.mp (show (Jvm.Cond.and given_1 narrow_1).before args s = true from hpre))
  obtain ⟨g0, b0⟩ := and_e hg
  obtain ⟨a0, b1⟩ := and_e b0
  obtain ⟨a1, b2⟩ := and_e b1
  obtain ⟨a2, b3⟩ := and_e b2
  have a3 := b3
  obtain ⟨w0, w1, w2, w3, rfl⟩ : ∃ w0 w1 w2 w3 : Value, args = #[w0, w1, w2, w3] := by
    have hs : args.size = 4 := by simpa [Cond.value, given_1] using g0
    obtain ⟨L⟩ := args
    match L, hs with
    | [w0, w1, w2, w3], _ => exact ⟨w0, w1, w2, w3, rfl⟩
  have hw := fun d (hd : d ∈ tables_1) => atoms_spec (ws := Jvm.Cond.code x code maxLocals ret :: tables_1) hat d (List.mem_cons_of_mem _ hd)
  have hfit : Fit s := fun {y c} hc i hi => by
    obtain ⟨ha, rfl⟩ := Array.getElem?_eq_some_iff.mp hc
    have q := List.all_eq_true.mp ((Array.all_eq_true_iff_forall_mem.mp hF) _ (Array.getElem_mem ha)) i (List.mem_range.mpr hi)
    simpa [Array.getElem?_eq_getElem hi] using q
  obtain ⟨i0, ei0⟩ := is_v a0
  obtain rfl : w0 = (.int i0) := Option.some.inj ei0
  obtain ⟨i1, ei1⟩ := is_v a1
  obtain rfl : w1 = (.int i1) := Option.some.inj ei1
  obtain ⟨i2, ei2⟩ := is_v a2
  obtain rfl : w2 = (.int i2) := Option.some.inj ei2
  obtain ⟨i3, ei3⟩ := is_v a3
  obtain rfl : w3 = (.int i3) := Option.some.inj ei3
  obtain ⟨t, ht⟩ := law_true i0 i1 i2 i3
  have C : Call PP m45 [.int i0, .int i1, .int i2, .int i3] (none, []) (some (.int ((1 : Int32), t).1), (none, [(22, ((1 : Int32), t).2)])) := call_of_go pl_1 rfl (fun h => by cases h) (law_ok i0 i1 i2 i3 _ ht)
  obtain ⟨n, o, h1, h2, h3, _, L, rfl, ⟨rfl, N, _⟩, hq⟩ := C l s _ tables_1 0 s.heap.size s.heap.size s.heap hw (facts1 hw) (Nat.le_refl _) (repW_none ..) (Nat.zero_le _) (fun _ => ⟨rfl, rfl, rfl⟩) p e ha hc hk s m _ below hf ((Spec.applies_iff_loose hf).mp happ).1 ⟨rfl, State.Warmed39.refl s, rfl⟩ trivial
  refine ⟨n, _, h1, h2, h3, hpost _ _ _ _ _ _ ⟨Cond.after_iff.mpr rfl, Cond.after_iff.mpr (eq_i res_at (Term.int_eval (1)) rfl), trivial⟩ ⟨hq.1, hq.2.1, (hq.2.2.sift fun y hy => Or.inr (N y hy)).mono (by decide) (by decide)⟩⟩
theorem main_1_1 : Claimed_1_1 := comes_1 fun _ _ _ _ _ _ h hF => ⟨h.1, hF⟩
theorem main_1_2 : Claimed_1_2 := comes_1 fun _ _ _ _ _ _ h hF => ⟨h.2.1, hF⟩
end Jvm.Pilot.@@N@@
namespace Jvm.Pilot.@@N@@
open Jvm Jvm.ClassFile Sem Op Lib Jvm.Free Jvm.Stand Jvm.Pilot.@@N@@.Jvm.D
/-! MADE BY PROGRAM (witnessworld.py) out of the Statement's table words and the real class files: 11 classes; the members and pool entries that the words name. The judged class is class 1, her method 2. -/
namespace start1
open Jvm.ClassFile
def u (s : String) : CpInfo := .utf8 (stringToUtf16 s)
/-- a pool by its gaps: so many unusable entries, then the entry; so many at the end -/
def gap : Nat → List CpInfo → List CpInfo
  | 0, r => r
  | n + 1, r => .unusable :: gap n r
def poolList (es : List (Nat × CpInfo)) (last : Nat) : List CpInfo := es.foldr (fun e r => gap e.1 (e.2 :: r)) (gap last [])
def pool (es : List (Nat × CpInfo)) (last : Nat) : Array CpInfo := ⟨poolList es last⟩
def fileOf (pool : Array CpInfo) (this : Nat) (attrs : Array Attribute := #[]) (ms : Array MethodInfo := #[]) (fl : Nat := 33) (sup : Nat := 0) (ifs : Array Nat := #[]) (fds : Array FieldInfo := #[]) : ClassFile where
  minorVersion := 0
  majorVersion := 65
  constantPool := pool
  accessFlags := fl
  thisClass := this
  superClass := sup
  interfaces := ifs
  fields := fds
  methods := ms
  attributes := attrs
def plain (name : String) (sup : Option ClassId) : Class where
  name := name
  kind := .ordinary
  loader := none
  accessFlags := 33
  super := sup
  interfaces := #[]
  cf := none
  fields := #[]
  methods := #[]
  instanceTypes := #[]
  staticTypes := #[]
  resolved := #[]
  callSites := []
  init := .initialized
  statics := none
  mirror := none

def pool0 : Array CpInfo := pool [(5, u "<init>"), (0, u "()V"), (1, .class_ 10), (1, u "java/lang/Object")] 113

def k0c0 : Code := { maxStack := 0, maxLocals := 1, code := object_method_1_code, exceptionTable := #[], attributes := #[] }
def k0m0 : Method := { name := "<init>", desc := "()V", sig := { parameters := [], returnType := none }, accessFlags := 1, code := some k0c0 }
/-- java/lang/Object -/
def k0 : Class := { plain "java/lang/Object" none with
  accessFlags := 33
  interfaces := #[]
  cf := some (fileOf pool0 8 #[] #[{ accessFlags := 1, nameIndex := 5, descriptorIndex := 6, attributes := #[] }] 33 0 #[] #[])
  fields := #[]
  methods := #[k0m0]
  instanceTypes := #[]
  staticTypes := #[]
  resolved := Array.replicate 124 none
  statics := none }

def pool1 : Array CpInfo := pool [(2, .class_ 4), (1, u "java/lang/Object"), (0, u "<init>"), (0, u "()V"), (0, .class_ 8), (0, u "NullCheckOpt"), (0, .methodref 7 10), (0, .nameAndType 5 11), (0, u "(I)V"), (0, .methodref 7 13), (0, .nameAndType 14 15), (0, u "setCell"), (0, u "(II)Z"), (0, .methodref 7 17), (0, .nameAndType 18 19), (0, u "add"), (0, u "(IIII)I"), (0, .methodref 7 21), (0, .nameAndType 22 23), (0, u "compile"), (0, u "()I"), (0, .methodref 25 26), (0, .class_ 27), (0, .nameAndType 28 19), (0, u "NullCheckOptL3"), (0, u "init"), (0, .methodref 7 30), (0, .nameAndType 31 32), (0, u "run"), (0, u "(Z)I"), (0, .methodref 7 34), (0, .nameAndType 35 23), (0, u "getOutcome"), (0, .methodref 7 37), (0, .nameAndType 38 23), (0, u "getResult"), (0, .methodref 7 40), (0, .nameAndType 41 23), (0, u "getOutputCount"), (0, .methodref 7 43), (0, .nameAndType 44 45), (0, u "getOutput"), (0, u "(I)I"), (0, .methodref 7 47), (0, .nameAndType 48 45), (0, u "getHeapAfter"), (0, .methodref 7 50), (0, .nameAndType 51 45), (0, u "getRegAfter"), (3, u "law"), (0, u "(IIII)Z")] 2

def k1m0 : Method := { name := "<init>", desc := "()V", sig := { parameters := [], returnType := none }, accessFlags := 1, code := none }
def k1c1 : Code := { maxStack := 2, maxLocals := 4, code := method_2_code, exceptionTable := #[], attributes := #[] }
def k1m1 : Method := { name := "init", desc := "(IIII)I", sig := { parameters := [.int, .int, .int, .int], returnType := some .int }, accessFlags := 10, code := some k1c1 }
def k1c2 : Code := { maxStack := 5, maxLocals := 13, code := code, exceptionTable := #[], attributes := #[] }
def k1m2 : Method := { name := "law", desc := "(IIII)Z", sig := { parameters := [.int, .int, .int, .int], returnType := some .boolean }, accessFlags := 9, code := some k1c2 }
/-- NullCheckOptL3 -/
def k1 : Class := { plain "NullCheckOptL3" (some 0) with
  accessFlags := 49
  interfaces := #[]
  cf := some (fileOf pool1 25 #[] #[{ accessFlags := 1, nameIndex := 5, descriptorIndex := 6, attributes := #[] }, { accessFlags := 10, nameIndex := 28, descriptorIndex := 19, attributes := #[] }, { accessFlags := 9, nameIndex := 55, descriptorIndex := 56, attributes := #[] }] 49 2 #[] #[])
  fields := #[]
  methods := #[k1m0, k1m1, k1m2]
  instanceTypes := #[]
  staticTypes := #[]
  resolved := Array.replicate 59 none
  statics := none }

def pool2 : Array CpInfo := pool [(1, .methodref 2 3), (0, .class_ 4), (0, .nameAndType 5 6), (0, u "java/lang/Object"), (0, u "<init>"), (0, u "()V"), (0, .fieldref 8 9), (0, .class_ 10), (0, .nameAndType 11 12), (0, u "NullCheckOpt"), (0, u "roleNone"), (0, u "I"), (0, .fieldref 8 14), (0, .nameAndType 15 12), (0, u "roleReg"), (0, .fieldref 8 17), (0, .nameAndType 18 12), (0, u "roleOff"), (0, .fieldref 8 20), (0, .nameAndType 21 12), (0, u "roleImm"), (0, .fieldref 8 23), (0, .nameAndType 24 12), (0, u "stepLimit"), (0, .fieldref 8 26), (0, .nameAndType 27 12), (0, u "passLimit"), (0, .fieldref 8 29), (0, .nameAndType 30 12), (0, u "allFacts"), (0, .fieldref 8 32), (0, .nameAndType 33 34), (0, u "progOp"), (0, u "[I"), (0, .fieldref 8 36), (0, .nameAndType 37 34), (0, u "progA"), (0, .fieldref 8 39), (0, .nameAndType 40 34), (0, u "progB"), (0, .fieldref 8 42), (0, .nameAndType 43 34), (0, u "progC"), (0, .fieldref 8 45), (0, .nameAndType 46 34), (0, u "blockEnd"), (0, .fieldref 8 48), (0, .nameAndType 49 34), (0, u "blockElse"), (0, .fieldref 8 51), (0, .nameAndType 52 34), (0, u "blockOpener"), (0, .fieldref 8 54), (0, .nameAndType 55 34), (0, u "scanStack"), (0, .fieldref 8 57), (0, .nameAndType 58 59), (0, u "scanHasElse"), (0, u "[Z"), (0, .fieldref 8 61), (0, .nameAndType 62 34), (0, u "initialHeap"), (0, .fieldref 8 64), (0, .nameAndType 65 34), (0, u "heapAfter"), (0, .fieldref 8 67), (0, .nameAndType 68 34), (0, u "outputs"), (0, .fieldref 8 70), (0, .nameAndType 71 34), (0, u "regs"), (0, .fieldref 8 73), (0, .nameAndType 74 34), (0, u "loopLeft"), (0, .fieldref 8 76), (0, .nameAndType 77 59), (0, u "skipCheck"), (0, .fieldref 8 79), (0, .nameAndType 80 34), (0, u "hoistMask"), (0, .fieldref 8 82), (0, .nameAndType 83 34), (0, u "factIn"), (0, .fieldref 8 85), (0, .nameAndType 86 34), (0, u "nextIn"), (0, .fieldref 8 88), (0, .nameAndType 89 34), (0, u "succA"), (0, .fieldref 8 91), (0, .nameAndType 92 34), (0, u "succB"), (0, .fieldref 8 94), (0, .nameAndType 95 34), (0, u "gainA"), (0, .fieldref 8 97), (0, .nameAndType 98 34), (0, u "gainB"), (0, .fieldref 8 100), (0, .nameAndType 101 12), (0, u "cells"), (0, .fieldref 8 103), (0, .nameAndType 104 12), (0, u "progLen"), (0, .fieldref 8 106), (0, .nameAndType 107 108), (0, u "compiled"), (0, u "Z"), (0, .fieldref 8 110), (0, .nameAndType 111 12), (0, u "lastOutcome"), (0, .fieldref 8 113), (0, .nameAndType 114 12), (0, u "lastResult"), (0, .fieldref 8 116), (0, .nameAndType 117 12), (0, u "outCount"), (0, .methodref 8 119), (0, .nameAndType 120 121), (0, u "roleOfA"), (0, u "(I)I"), (0, .methodref 8 123), (0, .nameAndType 124 121), (0, u "roleOfB"), (0, .methodref 8 126), (0, .nameAndType 127 121), (0, u "roleOfC"), (0, .methodref 8 129), (0, .nameAndType 130 131), (0, u "fits"), (0, u "(II)Z"), (0, .methodref 8 133), (0, .nameAndType 134 135), (0, u "kept"), (0, u "(II)I"), (0, .fieldref 8 137), (0, .nameAndType 138 12), (0, u "scanDepth"), (0, .fieldref 8 140), (0, .nameAndType 141 12), (0, u "scanLoops"), (0, .methodref 8 143), (0, .nameAndType 144 121), (0, u "scanOne"), (9, .methodref 8 155), (0, .nameAndType 156 6), (0, u "resetRun"), (0, .methodref 8 158), (0, .nameAndType 159 6), (0, u "optimise"), (0, .methodref 8 161), (0, .nameAndType 162 6), (0, u "clearMarks"), (0, .methodref 8 164), (0, .nameAndType 165 6), (0, u "execute"), (0, .methodref 8 167), (0, .nameAndType 168 169), (0, u "finish"), (0, u "(II)V"), (0, .methodref 8 171), (0, .nameAndType 172 121), (0, u "executeAt"), (0, .methodref 8 174), (0, .nameAndType 175 121), (0, u "execLoad"), (0, .methodref 8 177), (0, .nameAndType 178 121), (0, u "execStore"), (0, .methodref 8 180), (0, .nameAndType 181 121), (0, u "execCheck"), (0, .methodref 8 183), (0, .nameAndType 184 185), (0, u "emit"), (0, u "(I)V"), (12, .methodref 8 199), (0, .nameAndType 200 121), (0, u "accessTrap"), (6, u "(I)Z"), (0, .methodref 8 209), (0, .nameAndType 210 6), (0, u "buildEdges"), (0, .methodref 8 212), (0, .nameAndType 213 214), (0, u "solveFacts"), (0, u "()Z"), (0, .methodref 8 216), (0, .nameAndType 217 6), (0, u "removeRedundant"), (0, .methodref 8 219), (0, .nameAndType 220 6), (0, u "hoistInvariant"), (0, .methodref 8 222), (0, .nameAndType 223 6), (0, u "foldImplicit"), (0, .methodref 8 225), (0, .nameAndType 226 121), (0, u "bitOf"), (0, .methodref 8 228), (0, .nameAndType 229 185), (0, u "edgesOf"), (6, .methodref 8 237), (0, .nameAndType 238 214), (0, u "relaxOnce"), (0, .methodref 8 240), (0, .nameAndType 241 185), (0, u "propagate"), (0, .methodref 8 243), (0, .nameAndType 244 135), (0, u "transfer"), (0, .methodref 8 246), (0, .nameAndType 247 169), (0, u "meetInto"), (0, .methodref 8 249), (0, .nameAndType 250 131), (0, u "hasFact"), (0, .methodref 8 252), (0, .nameAndType 253 254), (0, u "withFact"), (0, u "(IIZ)I"), (0, .methodref 8 256), (0, .nameAndType 257 258), (0, u "transferLoad"), (0, u "(IIII)I"), (0, .methodref 8 260), (0, .nameAndType 261 262), (0, u "transferStore"), (0, u "(III)I"), (10, .methodref 8 274), (0, .nameAndType 275 207), (0, u "dereferencesNext"), (0, u "OP_CONST"), (2, u "OP_MOVE"), (1, u "OP_ADDI"), (1, u "OP_LOAD"), (1, u "OP_STORE"), (1, u "OP_CHECK"), (1, u "OP_OUT"), (1, u "OP_IFNULL"), (1, u "OP_ELSE"), (1, u "OP_END"), (1, u "OP_LOOP"), (1, u "OP_RET"), (1, u "MAX_INSTRUCTIONS"), (1, u "MAX_OUTPUTS"), (0, u "GUARD_CELLS"), (0, u "MAX_OPEN_BLOCKS"), (0, u "MAX_OPEN_LOOPS"), (0, u "OK"), (1, u "ERR_FULL"), (1, u "ERR_OP"), (1, u "ERR_OPERAND"), (1, u "ERR_ELSE"), (1, u "ERR_END"), (1, u "ERR_UNCLOSED"), (1, u "ERR_DEEP"), (1, u "ERR_NOT_READY"), (1, u "OUTCOME_NONE"), (0, u "OUTCOME_RETURN"), (0, u "OUTCOME_NULL_TRAP"), (0, u "OUTCOME_RANGE_TRAP"), (7, u "add"), (0, u "compile"), (0, u "()I"), (3, u "setCell"), (1, u "run"), (0, u "(Z)I"), (0, u "getOutcome"), (0, u "getResult"), (0, u "getOutputCount"), (0, u "getOutput"), (0, u "getHeapAfter"), (0, u "getRegAfter")] 2

def k2c0 : Code := { maxStack := 2, maxLocals := 3, code := prog_1_method_1_code, exceptionTable := #[], attributes := #[] }
def k2m0 : Method := { name := "<init>", desc := "(I)V", sig := { parameters := [.int], returnType := none }, accessFlags := 1, code := some k2c0 }
def k2c1 : Code := { maxStack := 5, maxLocals := 9, code := prog_1_method_3_code, exceptionTable := #[], attributes := #[] }
def k2m1 : Method := { name := "add", desc := "(IIII)I", sig := { parameters := [.int, .int, .int, .int], returnType := some .int }, accessFlags := 1, code := some k2c1 }
def k2c2 : Code := { maxStack := 2, maxLocals := 2, code := prog_1_method_4_code, exceptionTable := #[], attributes := #[] }
def k2m2 : Method := { name := "roleOfA", desc := "(I)I", sig := { parameters := [.int], returnType := some .int }, accessFlags := 2, code := some k2c2 }
def k2c3 : Code := { maxStack := 2, maxLocals := 2, code := prog_1_method_5_code, exceptionTable := #[], attributes := #[] }
def k2m3 : Method := { name := "roleOfB", desc := "(I)I", sig := { parameters := [.int], returnType := some .int }, accessFlags := 2, code := some k2c3 }
def k2c4 : Code := { maxStack := 2, maxLocals := 2, code := prog_1_method_6_code, exceptionTable := #[], attributes := #[] }
def k2m4 : Method := { name := "roleOfC", desc := "(I)I", sig := { parameters := [.int], returnType := some .int }, accessFlags := 2, code := some k2c4 }
def k2c5 : Code := { maxStack := 2, maxLocals := 3, code := prog_1_method_7_code, exceptionTable := #[], attributes := #[] }
def k2m5 : Method := { name := "fits", desc := "(II)Z", sig := { parameters := [.int, .int], returnType := some .boolean }, accessFlags := 2, code := some k2c5 }
def k2c6 : Code := { maxStack := 1, maxLocals := 3, code := prog_1_method_8_code, exceptionTable := #[], attributes := #[] }
def k2m6 : Method := { name := "kept", desc := "(II)I", sig := { parameters := [.int, .int], returnType := some .int }, accessFlags := 2, code := some k2c6 }
def k2c7 : Code := { maxStack := 2, maxLocals := 3, code := prog_1_method_9_code, exceptionTable := #[], attributes := #[] }
def k2m7 : Method := { name := "compile", desc := "()I", sig := { parameters := [], returnType := some .int }, accessFlags := 1, code := some k2c7 }
def k2c8 : Code := { maxStack := 3, maxLocals := 3, code := prog_1_method_10_code, exceptionTable := #[], attributes := #[] }
def k2m8 : Method := { name := "scanOne", desc := "(I)I", sig := { parameters := [.int], returnType := some .int }, accessFlags := 2, code := some k2c8 }
def k2c9 : Code := { maxStack := 3, maxLocals := 3, code := prog_1_method_17_code, exceptionTable := #[], attributes := #[] }
def k2m9 : Method := { name := "setCell", desc := "(II)Z", sig := { parameters := [.int, .int], returnType := some .boolean }, accessFlags := 1, code := some k2c9 }
def k2c10 : Code := { maxStack := 1, maxLocals := 2, code := prog_1_method_19_code, exceptionTable := #[], attributes := #[] }
def k2m10 : Method := { name := "run", desc := "(Z)I", sig := { parameters := [.boolean], returnType := some .int }, accessFlags := 1, code := some k2c10 }
def k2c11 : Code := { maxStack := 4, maxLocals := 2, code := prog_1_method_20_code, exceptionTable := #[], attributes := #[] }
def k2m11 : Method := { name := "resetRun", desc := "()V", sig := { parameters := [], returnType := none }, accessFlags := 2, code := some k2c11 }
def k2c12 : Code := { maxStack := 3, maxLocals := 2, code := prog_1_method_21_code, exceptionTable := #[], attributes := #[] }
def k2m12 : Method := { name := "clearMarks", desc := "()V", sig := { parameters := [], returnType := none }, accessFlags := 2, code := some k2c12 }
def k2c13 : Code := { maxStack := 3, maxLocals := 3, code := prog_1_method_22_code, exceptionTable := #[], attributes := #[] }
def k2m13 : Method := { name := "execute", desc := "()V", sig := { parameters := [], returnType := none }, accessFlags := 2, code := some k2c13 }
def k2c14 : Code := { maxStack := 2, maxLocals := 3, code := prog_1_method_23_code, exceptionTable := #[], attributes := #[] }
def k2m14 : Method := { name := "finish", desc := "(II)V", sig := { parameters := [.int, .int], returnType := none }, accessFlags := 2, code := some k2c14 }
def k2c15 : Code := { maxStack := 5, maxLocals := 3, code := prog_1_method_24_code, exceptionTable := #[], attributes := #[] }
def k2m15 : Method := { name := "executeAt", desc := "(I)I", sig := { parameters := [.int], returnType := some .int }, accessFlags := 2, code := some k2c15 }
def k2c16 : Code := { maxStack := 2, maxLocals := 2, code := prog_1_method_25_code, exceptionTable := #[], attributes := #[] }
def k2m16 : Method := { name := "accessTrap", desc := "(I)I", sig := { parameters := [.int], returnType := some .int }, accessFlags := 2, code := some k2c16 }
def k2c17 : Code := { maxStack := 5, maxLocals := 5, code := prog_1_method_26_code, exceptionTable := #[], attributes := #[] }
def k2m17 : Method := { name := "execLoad", desc := "(I)I", sig := { parameters := [.int], returnType := some .int }, accessFlags := 2, code := some k2c17 }
def k2c18 : Code := { maxStack := 5, maxLocals := 5, code := prog_1_method_27_code, exceptionTable := #[], attributes := #[] }
def k2m18 : Method := { name := "execStore", desc := "(I)I", sig := { parameters := [.int], returnType := some .int }, accessFlags := 2, code := some k2c18 }
def k2c19 : Code := { maxStack := 3, maxLocals := 2, code := prog_1_method_28_code, exceptionTable := #[], attributes := #[] }
def k2m19 : Method := { name := "execCheck", desc := "(I)I", sig := { parameters := [.int], returnType := some .int }, accessFlags := 2, code := some k2c19 }
def k2c20 : Code := { maxStack := 3, maxLocals := 2, code := prog_1_method_29_code, exceptionTable := #[], attributes := #[] }
def k2m20 : Method := { name := "emit", desc := "(I)V", sig := { parameters := [.int], returnType := none }, accessFlags := 2, code := some k2c20 }
def k2c21 : Code := { maxStack := 1, maxLocals := 2, code := prog_1_method_36_code, exceptionTable := #[], attributes := #[] }
def k2m21 : Method := { name := "optimise", desc := "()V", sig := { parameters := [], returnType := none }, accessFlags := 2, code := some k2c21 }
def k2c22 : Code := { maxStack := 3, maxLocals := 2, code := prog_1_method_37_code, exceptionTable := #[], attributes := #[] }
def k2m22 : Method := { name := "bitOf", desc := "(I)I", sig := { parameters := [.int], returnType := some .int }, accessFlags := 2, code := some k2c22 }
def k2c23 : Code := { maxStack := 3, maxLocals := 3, code := prog_1_method_38_code, exceptionTable := #[], attributes := #[] }
def k2m23 : Method := { name := "hasFact", desc := "(II)Z", sig := { parameters := [.int, .int], returnType := some .boolean }, accessFlags := 2, code := some k2c23 }
def k2c24 : Code := { maxStack := 3, maxLocals := 5, code := prog_1_method_39_code, exceptionTable := #[], attributes := #[] }
def k2m24 : Method := { name := "withFact", desc := "(IIZ)I", sig := { parameters := [.int, .int, .boolean], returnType := some .int }, accessFlags := 2, code := some k2c24 }
def k2c25 : Code := { maxStack := 3, maxLocals := 2, code := prog_1_method_40_code, exceptionTable := #[], attributes := #[] }
def k2m25 : Method := { name := "buildEdges", desc := "()V", sig := { parameters := [], returnType := none }, accessFlags := 2, code := some k2c25 }
def k2c26 : Code := { maxStack := 4, maxLocals := 4, code := prog_1_method_41_code, exceptionTable := #[], attributes := #[] }
def k2m26 : Method := { name := "edgesOf", desc := "(I)V", sig := { parameters := [.int], returnType := none }, accessFlags := 2, code := some k2c26 }
def k2c27 : Code := { maxStack := 3, maxLocals := 2, code := prog_1_method_44_code, exceptionTable := #[], attributes := #[] }
def k2m27 : Method := { name := "solveFacts", desc := "()Z", sig := { parameters := [], returnType := some .boolean }, accessFlags := 2, code := some k2c27 }
def k2c28 : Code := { maxStack := 4, maxLocals := 3, code := prog_1_method_45_code, exceptionTable := #[], attributes := #[] }
def k2m28 : Method := { name := "relaxOnce", desc := "()Z", sig := { parameters := [], returnType := some .boolean }, accessFlags := 2, code := some k2c28 }
def k2c29 : Code := { maxStack := 5, maxLocals := 3, code := prog_1_method_46_code, exceptionTable := #[], attributes := #[] }
def k2m29 : Method := { name := "propagate", desc := "(I)V", sig := { parameters := [.int], returnType := none }, accessFlags := 2, code := some k2c29 }
def k2c30 : Code := { maxStack := 4, maxLocals := 3, code := prog_1_method_47_code, exceptionTable := #[], attributes := #[] }
def k2m30 : Method := { name := "meetInto", desc := "(II)V", sig := { parameters := [.int, .int], returnType := none }, accessFlags := 2, code := some k2c30 }
def k2c31 : Code := { maxStack := 5, maxLocals := 8, code := prog_1_method_48_code, exceptionTable := #[], attributes := #[] }
def k2m31 : Method := { name := "transfer", desc := "(II)I", sig := { parameters := [.int, .int], returnType := some .int }, accessFlags := 2, code := some k2c31 }
def k2c32 : Code := { maxStack := 4, maxLocals := 6, code := prog_1_method_49_code, exceptionTable := #[], attributes := #[] }
def k2m32 : Method := { name := "transferLoad", desc := "(IIII)I", sig := { parameters := [.int, .int, .int, .int], returnType := some .int }, accessFlags := 2, code := some k2c32 }
def k2c33 : Code := { maxStack := 3, maxLocals := 4, code := prog_1_method_50_code, exceptionTable := #[], attributes := #[] }
def k2m33 : Method := { name := "transferStore", desc := "(III)I", sig := { parameters := [.int, .int, .int], returnType := some .int }, accessFlags := 2, code := some k2c33 }
def k2c34 : Code := { maxStack := 4, maxLocals := 2, code := prog_1_method_51_code, exceptionTable := #[], attributes := #[] }
def k2m34 : Method := { name := "removeRedundant", desc := "()V", sig := { parameters := [], returnType := none }, accessFlags := 2, code := some k2c34 }
def k2c35 : Code := { maxStack := 2, maxLocals := 2, code := prog_1_method_52_code, exceptionTable := #[], attributes := #[] }
def k2m35 : Method := { name := "hoistInvariant", desc := "()V", sig := { parameters := [], returnType := none }, accessFlags := 2, code := some k2c35 }
def k2c36 : Code := { maxStack := 3, maxLocals := 2, code := prog_1_method_56_code, exceptionTable := #[], attributes := #[] }
def k2m36 : Method := { name := "foldImplicit", desc := "()V", sig := { parameters := [], returnType := none }, accessFlags := 2, code := some k2c36 }
def k2c37 : Code := { maxStack := 2, maxLocals := 4, code := prog_1_method_57_code, exceptionTable := #[], attributes := #[] }
def k2m37 : Method := { name := "dereferencesNext", desc := "(I)Z", sig := { parameters := [.int], returnType := some .boolean }, accessFlags := 2, code := some k2c37 }
def k2c38 : Code := { maxStack := 1, maxLocals := 1, code := prog_1_method_58_code, exceptionTable := #[], attributes := #[] }
def k2m38 : Method := { name := "getOutcome", desc := "()I", sig := { parameters := [], returnType := some .int }, accessFlags := 1, code := some k2c38 }
def k2c39 : Code := { maxStack := 2, maxLocals := 1, code := prog_1_method_59_code, exceptionTable := #[], attributes := #[] }
def k2m39 : Method := { name := "getResult", desc := "()I", sig := { parameters := [], returnType := some .int }, accessFlags := 1, code := some k2c39 }
def k2c40 : Code := { maxStack := 1, maxLocals := 1, code := prog_1_method_60_code, exceptionTable := #[], attributes := #[] }
def k2m40 : Method := { name := "getOutputCount", desc := "()I", sig := { parameters := [], returnType := some .int }, accessFlags := 1, code := some k2c40 }
def k2c41 : Code := { maxStack := 2, maxLocals := 2, code := prog_1_method_61_code, exceptionTable := #[], attributes := #[] }
def k2m41 : Method := { name := "getOutput", desc := "(I)I", sig := { parameters := [.int], returnType := some .int }, accessFlags := 1, code := some k2c41 }
def k2c42 : Code := { maxStack := 2, maxLocals := 2, code := prog_1_method_62_code, exceptionTable := #[], attributes := #[] }
def k2m42 : Method := { name := "getHeapAfter", desc := "(I)I", sig := { parameters := [.int], returnType := some .int }, accessFlags := 1, code := some k2c42 }
def k2c43 : Code := { maxStack := 2, maxLocals := 2, code := prog_1_method_63_code, exceptionTable := #[], attributes := #[] }
def k2m43 : Method := { name := "getRegAfter", desc := "(I)I", sig := { parameters := [.int], returnType := some .int }, accessFlags := 1, code := some k2c43 }
/-- NullCheckOpt -/
def k2 : Class := { plain "NullCheckOpt" (some 0) with
  accessFlags := 49
  interfaces := #[]
  cf := some (fileOf pool2 8 #[] #[{ accessFlags := 1, nameIndex := 5, descriptorIndex := 185, attributes := #[] }, { accessFlags := 1, nameIndex := 336, descriptorIndex := 258, attributes := #[] }, { accessFlags := 2, nameIndex := 120, descriptorIndex := 121, attributes := #[] }, { accessFlags := 2, nameIndex := 124, descriptorIndex := 121, attributes := #[] }, { accessFlags := 2, nameIndex := 127, descriptorIndex := 121, attributes := #[] }, { accessFlags := 2, nameIndex := 130, descriptorIndex := 131, attributes := #[] }, { accessFlags := 2, nameIndex := 134, descriptorIndex := 135, attributes := #[] }, { accessFlags := 1, nameIndex := 337, descriptorIndex := 338, attributes := #[] }, { accessFlags := 2, nameIndex := 144, descriptorIndex := 121, attributes := #[] }, { accessFlags := 1, nameIndex := 342, descriptorIndex := 131, attributes := #[] }, { accessFlags := 1, nameIndex := 344, descriptorIndex := 345, attributes := #[] }, { accessFlags := 2, nameIndex := 156, descriptorIndex := 6, attributes := #[] }, { accessFlags := 2, nameIndex := 162, descriptorIndex := 6, attributes := #[] }, { accessFlags := 2, nameIndex := 165, descriptorIndex := 6, attributes := #[] }, { accessFlags := 2, nameIndex := 168, descriptorIndex := 169, attributes := #[] }, { accessFlags := 2, nameIndex := 172, descriptorIndex := 121, attributes := #[] }, { accessFlags := 2, nameIndex := 200, descriptorIndex := 121, attributes := #[] }, { accessFlags := 2, nameIndex := 175, descriptorIndex := 121, attributes := #[] }, { accessFlags := 2, nameIndex := 178, descriptorIndex := 121, attributes := #[] }, { accessFlags := 2, nameIndex := 181, descriptorIndex := 121, attributes := #[] }, { accessFlags := 2, nameIndex := 184, descriptorIndex := 185, attributes := #[] }, { accessFlags := 2, nameIndex := 159, descriptorIndex := 6, attributes := #[] }, { accessFlags := 2, nameIndex := 226, descriptorIndex := 121, attributes := #[] }, { accessFlags := 2, nameIndex := 250, descriptorIndex := 131, attributes := #[] }, { accessFlags := 2, nameIndex := 253, descriptorIndex := 254, attributes := #[] }, { accessFlags := 2, nameIndex := 210, descriptorIndex := 6, attributes := #[] }, { accessFlags := 2, nameIndex := 229, descriptorIndex := 185, attributes := #[] }, { accessFlags := 2, nameIndex := 213, descriptorIndex := 214, attributes := #[] }, { accessFlags := 2, nameIndex := 238, descriptorIndex := 214, attributes := #[] }, { accessFlags := 2, nameIndex := 241, descriptorIndex := 185, attributes := #[] }, { accessFlags := 2, nameIndex := 247, descriptorIndex := 169, attributes := #[] }, { accessFlags := 2, nameIndex := 244, descriptorIndex := 135, attributes := #[] }, { accessFlags := 2, nameIndex := 257, descriptorIndex := 258, attributes := #[] }, { accessFlags := 2, nameIndex := 261, descriptorIndex := 262, attributes := #[] }, { accessFlags := 2, nameIndex := 217, descriptorIndex := 6, attributes := #[] }, { accessFlags := 2, nameIndex := 220, descriptorIndex := 6, attributes := #[] }, { accessFlags := 2, nameIndex := 223, descriptorIndex := 6, attributes := #[] }, { accessFlags := 2, nameIndex := 275, descriptorIndex := 207, attributes := #[] }, { accessFlags := 1, nameIndex := 346, descriptorIndex := 338, attributes := #[] }, { accessFlags := 1, nameIndex := 347, descriptorIndex := 338, attributes := #[] }, { accessFlags := 1, nameIndex := 348, descriptorIndex := 338, attributes := #[] }, { accessFlags := 1, nameIndex := 349, descriptorIndex := 121, attributes := #[] }, { accessFlags := 1, nameIndex := 350, descriptorIndex := 121, attributes := #[] }, { accessFlags := 1, nameIndex := 351, descriptorIndex := 121, attributes := #[] }] 49 2 #[] #[{ accessFlags := 25, nameIndex := 276, descriptorIndex := 12, attributes := #[] }, { accessFlags := 25, nameIndex := 279, descriptorIndex := 12, attributes := #[] }, { accessFlags := 25, nameIndex := 281, descriptorIndex := 12, attributes := #[] }, { accessFlags := 25, nameIndex := 283, descriptorIndex := 12, attributes := #[] }, { accessFlags := 25, nameIndex := 285, descriptorIndex := 12, attributes := #[] }, { accessFlags := 25, nameIndex := 287, descriptorIndex := 12, attributes := #[] }, { accessFlags := 25, nameIndex := 289, descriptorIndex := 12, attributes := #[] }, { accessFlags := 25, nameIndex := 291, descriptorIndex := 12, attributes := #[] }, { accessFlags := 25, nameIndex := 293, descriptorIndex := 12, attributes := #[] }, { accessFlags := 25, nameIndex := 295, descriptorIndex := 12, attributes := #[] }, { accessFlags := 25, nameIndex := 297, descriptorIndex := 12, attributes := #[] }, { accessFlags := 25, nameIndex := 299, descriptorIndex := 12, attributes := #[] }, { accessFlags := 25, nameIndex := 301, descriptorIndex := 12, attributes := #[] }, { accessFlags := 25, nameIndex := 303, descriptorIndex := 12, attributes := #[] }, { accessFlags := 25, nameIndex := 304, descriptorIndex := 12, attributes := #[] }, { accessFlags := 25, nameIndex := 305, descriptorIndex := 12, attributes := #[] }, { accessFlags := 25, nameIndex := 306, descriptorIndex := 12, attributes := #[] }, { accessFlags := 25, nameIndex := 307, descriptorIndex := 12, attributes := #[] }, { accessFlags := 25, nameIndex := 309, descriptorIndex := 12, attributes := #[] }, { accessFlags := 25, nameIndex := 311, descriptorIndex := 12, attributes := #[] }, { accessFlags := 25, nameIndex := 313, descriptorIndex := 12, attributes := #[] }, { accessFlags := 25, nameIndex := 315, descriptorIndex := 12, attributes := #[] }, { accessFlags := 25, nameIndex := 317, descriptorIndex := 12, attributes := #[] }, { accessFlags := 25, nameIndex := 319, descriptorIndex := 12, attributes := #[] }, { accessFlags := 25, nameIndex := 321, descriptorIndex := 12, attributes := #[] }, { accessFlags := 25, nameIndex := 323, descriptorIndex := 12, attributes := #[] }, { accessFlags := 25, nameIndex := 325, descriptorIndex := 12, attributes := #[] }, { accessFlags := 25, nameIndex := 326, descriptorIndex := 12, attributes := #[] }, { accessFlags := 25, nameIndex := 327, descriptorIndex := 12, attributes := #[] }, { accessFlags := 25, nameIndex := 328, descriptorIndex := 12, attributes := #[] }, { accessFlags := 18, nameIndex := 11, descriptorIndex := 12, attributes := #[] }, { accessFlags := 18, nameIndex := 15, descriptorIndex := 12, attributes := #[] }, { accessFlags := 18, nameIndex := 18, descriptorIndex := 12, attributes := #[] }, { accessFlags := 18, nameIndex := 21, descriptorIndex := 12, attributes := #[] }, { accessFlags := 18, nameIndex := 24, descriptorIndex := 12, attributes := #[] }, { accessFlags := 18, nameIndex := 27, descriptorIndex := 12, attributes := #[] }, { accessFlags := 18, nameIndex := 30, descriptorIndex := 12, attributes := #[] }, { accessFlags := 2, nameIndex := 101, descriptorIndex := 12, attributes := #[] }, { accessFlags := 18, nameIndex := 33, descriptorIndex := 34, attributes := #[] }, { accessFlags := 18, nameIndex := 37, descriptorIndex := 34, attributes := #[] }, { accessFlags := 18, nameIndex := 40, descriptorIndex := 34, attributes := #[] }, { accessFlags := 18, nameIndex := 43, descriptorIndex := 34, attributes := #[] }, { accessFlags := 2, nameIndex := 104, descriptorIndex := 12, attributes := #[] }, { accessFlags := 2, nameIndex := 107, descriptorIndex := 108, attributes := #[] }, { accessFlags := 18, nameIndex := 46, descriptorIndex := 34, attributes := #[] }, { accessFlags := 18, nameIndex := 49, descriptorIndex := 34, attributes := #[] }, { accessFlags := 18, nameIndex := 52, descriptorIndex := 34, attributes := #[] }, { accessFlags := 18, nameIndex := 55, descriptorIndex := 34, attributes := #[] }, { accessFlags := 18, nameIndex := 58, descriptorIndex := 59, attributes := #[] }, { accessFlags := 2, nameIndex := 138, descriptorIndex := 12, attributes := #[] }, { accessFlags := 2, nameIndex := 141, descriptorIndex := 12, attributes := #[] }, { accessFlags := 18, nameIndex := 62, descriptorIndex := 34, attributes := #[] }, { accessFlags := 18, nameIndex := 65, descriptorIndex := 34, attributes := #[] }, { accessFlags := 2, nameIndex := 111, descriptorIndex := 12, attributes := #[] }, { accessFlags := 2, nameIndex := 114, descriptorIndex := 12, attributes := #[] }, { accessFlags := 2, nameIndex := 117, descriptorIndex := 12, attributes := #[] }, { accessFlags := 18, nameIndex := 68, descriptorIndex := 34, attributes := #[] }, { accessFlags := 18, nameIndex := 71, descriptorIndex := 34, attributes := #[] }, { accessFlags := 18, nameIndex := 74, descriptorIndex := 34, attributes := #[] }, { accessFlags := 18, nameIndex := 77, descriptorIndex := 59, attributes := #[] }, { accessFlags := 18, nameIndex := 80, descriptorIndex := 34, attributes := #[] }, { accessFlags := 18, nameIndex := 83, descriptorIndex := 34, attributes := #[] }, { accessFlags := 18, nameIndex := 86, descriptorIndex := 34, attributes := #[] }, { accessFlags := 18, nameIndex := 89, descriptorIndex := 34, attributes := #[] }, { accessFlags := 18, nameIndex := 92, descriptorIndex := 34, attributes := #[] }, { accessFlags := 18, nameIndex := 95, descriptorIndex := 34, attributes := #[] }, { accessFlags := 18, nameIndex := 98, descriptorIndex := 34, attributes := #[] }])
  fields := #[{ name := "OP_CONST", type := .int, accessFlags := 25, slot := 0, constantValue := 0 }, { name := "OP_MOVE", type := .int, accessFlags := 25, slot := 1, constantValue := 0 }, { name := "OP_ADDI", type := .int, accessFlags := 25, slot := 2, constantValue := 0 }, { name := "OP_LOAD", type := .int, accessFlags := 25, slot := 3, constantValue := 0 }, { name := "OP_STORE", type := .int, accessFlags := 25, slot := 4, constantValue := 0 }, { name := "OP_CHECK", type := .int, accessFlags := 25, slot := 5, constantValue := 0 }, { name := "OP_OUT", type := .int, accessFlags := 25, slot := 6, constantValue := 0 }, { name := "OP_IFNULL", type := .int, accessFlags := 25, slot := 7, constantValue := 0 }, { name := "OP_ELSE", type := .int, accessFlags := 25, slot := 8, constantValue := 0 }, { name := "OP_END", type := .int, accessFlags := 25, slot := 9, constantValue := 0 }, { name := "OP_LOOP", type := .int, accessFlags := 25, slot := 10, constantValue := 0 }, { name := "OP_RET", type := .int, accessFlags := 25, slot := 11, constantValue := 0 }, { name := "MAX_INSTRUCTIONS", type := .int, accessFlags := 25, slot := 12, constantValue := 0 }, { name := "MAX_OUTPUTS", type := .int, accessFlags := 25, slot := 13, constantValue := 0 }, { name := "GUARD_CELLS", type := .int, accessFlags := 25, slot := 14, constantValue := 0 }, { name := "MAX_OPEN_BLOCKS", type := .int, accessFlags := 25, slot := 15, constantValue := 0 }, { name := "MAX_OPEN_LOOPS", type := .int, accessFlags := 25, slot := 16, constantValue := 0 }, { name := "OK", type := .int, accessFlags := 25, slot := 17, constantValue := 0 }, { name := "ERR_FULL", type := .int, accessFlags := 25, slot := 18, constantValue := 0 }, { name := "ERR_OP", type := .int, accessFlags := 25, slot := 19, constantValue := 0 }, { name := "ERR_OPERAND", type := .int, accessFlags := 25, slot := 20, constantValue := 0 }, { name := "ERR_ELSE", type := .int, accessFlags := 25, slot := 21, constantValue := 0 }, { name := "ERR_END", type := .int, accessFlags := 25, slot := 22, constantValue := 0 }, { name := "ERR_UNCLOSED", type := .int, accessFlags := 25, slot := 23, constantValue := 0 }, { name := "ERR_DEEP", type := .int, accessFlags := 25, slot := 24, constantValue := 0 }, { name := "ERR_NOT_READY", type := .int, accessFlags := 25, slot := 25, constantValue := 0 }, { name := "OUTCOME_NONE", type := .int, accessFlags := 25, slot := 26, constantValue := 0 }, { name := "OUTCOME_RETURN", type := .int, accessFlags := 25, slot := 27, constantValue := 0 }, { name := "OUTCOME_NULL_TRAP", type := .int, accessFlags := 25, slot := 28, constantValue := 0 }, { name := "OUTCOME_RANGE_TRAP", type := .int, accessFlags := 25, slot := 29, constantValue := 0 }, { name := "roleNone", type := .int, accessFlags := 18, slot := 0, constantValue := 0 }, { name := "roleReg", type := .int, accessFlags := 18, slot := 1, constantValue := 0 }, { name := "roleOff", type := .int, accessFlags := 18, slot := 2, constantValue := 0 }, { name := "roleImm", type := .int, accessFlags := 18, slot := 3, constantValue := 0 }, { name := "stepLimit", type := .int, accessFlags := 18, slot := 4, constantValue := 0 }, { name := "passLimit", type := .int, accessFlags := 18, slot := 5, constantValue := 0 }, { name := "allFacts", type := .int, accessFlags := 18, slot := 6, constantValue := 0 }, { name := "cells", type := .int, accessFlags := 2, slot := 7, constantValue := 0 }, { name := "progOp", type := (.array .int), accessFlags := 18, slot := 8, constantValue := 0 }, { name := "progA", type := (.array .int), accessFlags := 18, slot := 9, constantValue := 0 }, { name := "progB", type := (.array .int), accessFlags := 18, slot := 10, constantValue := 0 }, { name := "progC", type := (.array .int), accessFlags := 18, slot := 11, constantValue := 0 }, { name := "progLen", type := .int, accessFlags := 2, slot := 12, constantValue := 0 }, { name := "compiled", type := .boolean, accessFlags := 2, slot := 13, constantValue := 0 }, { name := "blockEnd", type := (.array .int), accessFlags := 18, slot := 14, constantValue := 0 }, { name := "blockElse", type := (.array .int), accessFlags := 18, slot := 15, constantValue := 0 }, { name := "blockOpener", type := (.array .int), accessFlags := 18, slot := 16, constantValue := 0 }, { name := "scanStack", type := (.array .int), accessFlags := 18, slot := 17, constantValue := 0 }, { name := "scanHasElse", type := (.array .boolean), accessFlags := 18, slot := 18, constantValue := 0 }, { name := "scanDepth", type := .int, accessFlags := 2, slot := 19, constantValue := 0 }, { name := "scanLoops", type := .int, accessFlags := 2, slot := 20, constantValue := 0 }, { name := "initialHeap", type := (.array .int), accessFlags := 18, slot := 21, constantValue := 0 }, { name := "heapAfter", type := (.array .int), accessFlags := 18, slot := 22, constantValue := 0 }, { name := "lastOutcome", type := .int, accessFlags := 2, slot := 23, constantValue := 0 }, { name := "lastResult", type := .int, accessFlags := 2, slot := 24, constantValue := 0 }, { name := "outCount", type := .int, accessFlags := 2, slot := 25, constantValue := 0 }, { name := "outputs", type := (.array .int), accessFlags := 18, slot := 26, constantValue := 0 }, { name := "regs", type := (.array .int), accessFlags := 18, slot := 27, constantValue := 0 }, { name := "loopLeft", type := (.array .int), accessFlags := 18, slot := 28, constantValue := 0 }, { name := "skipCheck", type := (.array .boolean), accessFlags := 18, slot := 29, constantValue := 0 }, { name := "hoistMask", type := (.array .int), accessFlags := 18, slot := 30, constantValue := 0 }, { name := "factIn", type := (.array .int), accessFlags := 18, slot := 31, constantValue := 0 }, { name := "nextIn", type := (.array .int), accessFlags := 18, slot := 32, constantValue := 0 }, { name := "succA", type := (.array .int), accessFlags := 18, slot := 33, constantValue := 0 }, { name := "succB", type := (.array .int), accessFlags := 18, slot := 34, constantValue := 0 }, { name := "gainA", type := (.array .int), accessFlags := 18, slot := 35, constantValue := 0 }, { name := "gainB", type := (.array .int), accessFlags := 18, slot := 36, constantValue := 0 }]
  methods := #[k2m0, k2m1, k2m2, k2m3, k2m4, k2m5, k2m6, k2m7, k2m8, k2m9, k2m10, k2m11, k2m12, k2m13, k2m14, k2m15, k2m16, k2m17, k2m18, k2m19, k2m20, k2m21, k2m22, k2m23, k2m24, k2m25, k2m26, k2m27, k2m28, k2m29, k2m30, k2m31, k2m32, k2m33, k2m34, k2m35, k2m36, k2m37, k2m38, k2m39, k2m40, k2m41, k2m42, k2m43]
  instanceTypes := #[.int, .int, .int, .int, .int, .int, .int, .int, (.array .int), (.array .int), (.array .int), (.array .int), .int, .boolean, (.array .int), (.array .int), (.array .int), (.array .int), (.array .boolean), .int, .int, (.array .int), (.array .int), .int, .int, .int, (.array .int), (.array .int), (.array .int), (.array .boolean), (.array .int), (.array .int), (.array .int), (.array .int), (.array .int), (.array .int), (.array .int)]
  staticTypes := #[.int, .int, .int, .int, .int, .int, .int, .int, .int, .int, .int, .int, .int, .int, .int, .int, .int, .int, .int, .int, .int, .int, .int, .int, .int, .int, .int, .int, .int, .int]
  resolved := Array.replicate 354 none
  statics := none }

def pool3 : Array CpInfo := pool [(1, u "java/lang/Cloneable"), (0, .class_ 1), (0, u "java/lang/Object"), (0, .class_ 3)] 3

/-- java/lang/Cloneable -/
def k3 : Class := { plain "java/lang/Cloneable" (some 0) with
  accessFlags := 1537
  interfaces := #[]
  cf := some (fileOf pool3 2 #[] #[] 1537 4 #[] #[])
  fields := #[]
  methods := #[]
  instanceTypes := #[]
  staticTypes := #[]
  resolved := Array.replicate 8 none
  statics := none }

def pool4 : Array CpInfo := pool [(1, u "java/io/Serializable"), (0, .class_ 1), (0, u "java/lang/Object"), (0, .class_ 3)] 3

/-- java/io/Serializable -/
def k4 : Class := { plain "java/io/Serializable" (some 0) with
  accessFlags := 1537
  interfaces := #[]
  cf := some (fileOf pool4 2 #[] #[] 1537 4 #[] #[])
  fields := #[]
  methods := #[]
  instanceTypes := #[]
  staticTypes := #[]
  resolved := Array.replicate 8 none
  statics := none }

/-- the primitive boolean -/
def k5 : Class := { plain "boolean" none with kind := .primitive 'Z', accessFlags := 0x411 }
/-- [Z -/
def k6 : Class := { plain "[Z" (some 0) with kind := .array 5 .boolean, interfaces := #[3, 4], accessFlags := 1041 }

/-- the primitive byte -/
def k7 : Class := { plain "byte" none with kind := .primitive 'B', accessFlags := 0x411 }
/-- [B -/
def k8 : Class := { plain "[B" (some 0) with kind := .array 7 .byte, interfaces := #[3, 4], accessFlags := 1041 }

/-- the primitive int -/
def k9 : Class := { plain "int" none with kind := .primitive 'I', accessFlags := 0x411 }
/-- [I -/
def k10 : Class := { plain "[I" (some 0) with kind := .array 9 .int, interfaces := #[3, 4], accessFlags := 1041 }

def heap : Heap := #[]
def classes : Array Class := #[k0, k1, k2, k3, k4, k5, k6, k7, k8, k9, k10]
def interned : List (Array UInt16 × Addr) := []
def slotsUsed : Nat := 0
def theMethod : MethodId := ⟨1, 2⟩
def args0 : Array Value := #[.int 5, .int 5, .int 5, .int 5]
def aboutOver (below : List Frame) : State where
  vm := { classes := classes, interned := interned.toArray }
  heap := heap
  slotsUsed := slotsUsed
  threads := #[{ frames := .invoking theMethod args0 :: below }]
def below0 : List Frame := [.native { method := ⟨0, 0⟩, args := #[] }]
def about1 : State := aboutOver below0
def p0 : Program := .bare "" "" ""
def e0 : Env := launch0.env 0 0 0
theorem w_frames : about1.frames = Frame.invoking theMethod args0 :: below0 := rfl
set_option maxRecDepth 65536 in
theorem w_args : argsFit about1.vm theMethod args0 = true := by decide +kernel
set_option maxRecDepth 65536 in
theorem w_heap : heapFits about1 = true := by decide +kernel
set_option maxRecDepth 65536 in
theorem w_runnable : about1.curStatus? = some .runnable := by decide +kernel
set_option maxRecDepth 65536 in
theorem w_alone : about1.alone = true := by decide +kernel
set_option maxRecDepth 65536 in
theorem w_named : about1.methodNamed? x = some theMethod := by decide +kernel
set_option maxRecDepth 65536 in
theorem w_hears : about1.hears theMethod below0 = true := by decide +kernel
set_option maxRecDepth 65536 in
theorem w_ripe : about1.ripe theMethod args0 below0 = true := by decide +kernel
theorem w_running : about1.status = .running := rfl
set_option maxRecDepth 65536 in
theorem w_room : about1.hasRoom e0.platform room_1 = true :=
  launch0.hasRoom_least _ room_1 (by decide +kernel) (by decide +kernel) (by decide +kernel) (by decide +kernel) (by decide +kernel) (by decide +kernel)
theorem allAtoms_all (ts : List Jvm.Cond) (a : Array Jvm.Value) (st : Jvm.State) : (allAtoms ts).before a st = ts.all (fun c => c.before a st) := by
  induction ts with
  | nil => rfl
  | cons c t ih =>
    show (Jvm.Cond.and c (allAtoms t)).before a st = _
    rw [Jvm.Cond.before_and, ih, List.all_cons]
def words1 : List Jvm.Cond := Jvm.Cond.code x code maxLocals ret :: tables_1
/-- a 'code' word, met by the world's own term for the bytes: nothing is compared byte by byte -/
theorem code_word {y : MethodName} {bytes : ByteArray} {mx : Nat} {rt : Option FieldType} {a : Array Value} {s : State} {m : MethodId} {meth : Method} {c : Code} (h1 : s.methodNamed? y = some m) (h2 : s.vm.method? m = some meth) (h3 : meth.code = some c) (h4 : c.code = bytes)
    (h5 : (c.maxLocals == mx && c.exceptionTable.isEmpty && decide (c.maxStack ≤ mostOperands) && decide (meth.sig.returnType = rt) && !meth.locks && decide (parseMethodDescriptor y.desc = some meth.sig)) = true) : (Jvm.Cond.code y bytes mx rt).before a s = true := by
  simp only [Bool.and_eq_true, beq_iff_eq, Bool.not_eq_true', decide_eq_true_eq] at h5
  obtain ⟨⟨⟨⟨⟨g1, g2⟩, g3⟩, g4⟩, g5⟩, g6⟩ := h5
  simp [Cond.before, Cond.holds, Cond.value, h1, h2, h3, h4, g1, g2, g3, g4, g5, g6]
def isCode : Jvm.Cond → Bool
  | .code _ _ _ _ => true
  | _ => false
theorem all_split {L : List Jvm.Cond} {P : Jvm.Cond → Bool} (h1 : L.all (fun c => isCode c || P c) = true) (h2 : ∀ c ∈ L.filter isCode, P c = true) : L.all P = true := by
  refine List.all_eq_true.mpr fun c hc => ?_
  have h := List.all_eq_true.mp h1 c hc
  rcases Bool.eq_false_or_eq_true (isCode c) with hi | hi
  · exact h2 c (List.mem_filter.mpr ⟨hc, hi⟩)
  · simpa [hi] using h
set_option maxRecDepth 65536 in
theorem w_c0 : (Jvm.Cond.code x code maxLocals ret).before args0 about1 = true := code_word (m := ⟨1, 2⟩) (meth := k1m2) (c := k1c2) (by decide +kernel) rfl rfl rfl (by decide +kernel)
set_option maxRecDepth 65536 in
theorem w_c1 : (Jvm.Cond.code ({ cls := "NullCheckOpt", name := "<init>", desc := "(I)V" } : Jvm.MethodName) prog_1_method_1_code (3 : Nat) (Option.none : Option Jvm.ClassFile.FieldType)).before args0 about1 = true := code_word (m := ⟨2, 0⟩) (meth := k2m0) (c := k2c0) (by decide +kernel) rfl rfl rfl (by decide +kernel)
set_option maxRecDepth 65536 in
theorem w_c2 : (Jvm.Cond.code ({ cls := "java/lang/Object", name := "<init>", desc := "()V" } : Jvm.MethodName) object_method_1_code (1 : Nat) (Option.none : Option Jvm.ClassFile.FieldType)).before args0 about1 = true := code_word (m := ⟨0, 0⟩) (meth := k0m0) (c := k0c0) (by decide +kernel) rfl rfl rfl (by decide +kernel)
set_option maxRecDepth 65536 in
theorem w_c3 : (Jvm.Cond.code ({ cls := "NullCheckOpt", name := "setCell", desc := "(II)Z" } : Jvm.MethodName) prog_1_method_17_code (3 : Nat) (Option.some Jvm.ClassFile.FieldType.boolean)).before args0 about1 = true := code_word (m := ⟨2, 9⟩) (meth := k2m9) (c := k2c9) (by decide +kernel) rfl rfl rfl (by decide +kernel)
set_option maxRecDepth 65536 in
theorem w_c4 : (Jvm.Cond.code ({ cls := "NullCheckOpt", name := "add", desc := "(IIII)I" } : Jvm.MethodName) prog_1_method_3_code (9 : Nat) (Option.some Jvm.ClassFile.FieldType.int)).before args0 about1 = true := code_word (m := ⟨2, 1⟩) (meth := k2m1) (c := k2c1) (by decide +kernel) rfl rfl rfl (by decide +kernel)
set_option maxRecDepth 65536 in
theorem w_c5 : (Jvm.Cond.code ({ cls := "NullCheckOpt", name := "roleOfA", desc := "(I)I" } : Jvm.MethodName) prog_1_method_4_code (2 : Nat) (Option.some Jvm.ClassFile.FieldType.int)).before args0 about1 = true := code_word (m := ⟨2, 2⟩) (meth := k2m2) (c := k2c2) (by decide +kernel) rfl rfl rfl (by decide +kernel)
set_option maxRecDepth 65536 in
theorem w_c6 : (Jvm.Cond.code ({ cls := "NullCheckOpt", name := "roleOfB", desc := "(I)I" } : Jvm.MethodName) prog_1_method_5_code (2 : Nat) (Option.some Jvm.ClassFile.FieldType.int)).before args0 about1 = true := code_word (m := ⟨2, 3⟩) (meth := k2m3) (c := k2c3) (by decide +kernel) rfl rfl rfl (by decide +kernel)
set_option maxRecDepth 65536 in
theorem w_c7 : (Jvm.Cond.code ({ cls := "NullCheckOpt", name := "roleOfC", desc := "(I)I" } : Jvm.MethodName) prog_1_method_6_code (2 : Nat) (Option.some Jvm.ClassFile.FieldType.int)).before args0 about1 = true := code_word (m := ⟨2, 4⟩) (meth := k2m4) (c := k2c4) (by decide +kernel) rfl rfl rfl (by decide +kernel)
set_option maxRecDepth 65536 in
theorem w_c8 : (Jvm.Cond.code ({ cls := "NullCheckOpt", name := "fits", desc := "(II)Z" } : Jvm.MethodName) prog_1_method_7_code (3 : Nat) (Option.some Jvm.ClassFile.FieldType.boolean)).before args0 about1 = true := code_word (m := ⟨2, 5⟩) (meth := k2m5) (c := k2c5) (by decide +kernel) rfl rfl rfl (by decide +kernel)
set_option maxRecDepth 65536 in
theorem w_c9 : (Jvm.Cond.code ({ cls := "NullCheckOpt", name := "kept", desc := "(II)I" } : Jvm.MethodName) prog_1_method_8_code (3 : Nat) (Option.some Jvm.ClassFile.FieldType.int)).before args0 about1 = true := code_word (m := ⟨2, 6⟩) (meth := k2m6) (c := k2c6) (by decide +kernel) rfl rfl rfl (by decide +kernel)
set_option maxRecDepth 65536 in
theorem w_c10 : (Jvm.Cond.code ({ cls := "NullCheckOpt", name := "compile", desc := "()I" } : Jvm.MethodName) prog_1_method_9_code (3 : Nat) (Option.some Jvm.ClassFile.FieldType.int)).before args0 about1 = true := code_word (m := ⟨2, 7⟩) (meth := k2m7) (c := k2c7) (by decide +kernel) rfl rfl rfl (by decide +kernel)
set_option maxRecDepth 65536 in
theorem w_c11 : (Jvm.Cond.code ({ cls := "NullCheckOpt", name := "scanOne", desc := "(I)I" } : Jvm.MethodName) prog_1_method_10_code (3 : Nat) (Option.some Jvm.ClassFile.FieldType.int)).before args0 about1 = true := code_word (m := ⟨2, 8⟩) (meth := k2m8) (c := k2c8) (by decide +kernel) rfl rfl rfl (by decide +kernel)
set_option maxRecDepth 65536 in
theorem w_c12 : (Jvm.Cond.code ({ cls := "NullCheckOpt", name := "run", desc := "(Z)I" } : Jvm.MethodName) prog_1_method_19_code (2 : Nat) (Option.some Jvm.ClassFile.FieldType.int)).before args0 about1 = true := code_word (m := ⟨2, 10⟩) (meth := k2m10) (c := k2c10) (by decide +kernel) rfl rfl rfl (by decide +kernel)
set_option maxRecDepth 65536 in
theorem w_c13 : (Jvm.Cond.code ({ cls := "NullCheckOpt", name := "resetRun", desc := "()V" } : Jvm.MethodName) prog_1_method_20_code (2 : Nat) (Option.none : Option Jvm.ClassFile.FieldType)).before args0 about1 = true := code_word (m := ⟨2, 11⟩) (meth := k2m11) (c := k2c11) (by decide +kernel) rfl rfl rfl (by decide +kernel)
set_option maxRecDepth 65536 in
theorem w_c14 : (Jvm.Cond.code ({ cls := "NullCheckOpt", name := "optimise", desc := "()V" } : Jvm.MethodName) prog_1_method_36_code (2 : Nat) (Option.none : Option Jvm.ClassFile.FieldType)).before args0 about1 = true := code_word (m := ⟨2, 21⟩) (meth := k2m21) (c := k2c21) (by decide +kernel) rfl rfl rfl (by decide +kernel)
set_option maxRecDepth 65536 in
theorem w_c15 : (Jvm.Cond.code ({ cls := "NullCheckOpt", name := "clearMarks", desc := "()V" } : Jvm.MethodName) prog_1_method_21_code (2 : Nat) (Option.none : Option Jvm.ClassFile.FieldType)).before args0 about1 = true := code_word (m := ⟨2, 12⟩) (meth := k2m12) (c := k2c12) (by decide +kernel) rfl rfl rfl (by decide +kernel)
set_option maxRecDepth 65536 in
theorem w_c16 : (Jvm.Cond.code ({ cls := "NullCheckOpt", name := "buildEdges", desc := "()V" } : Jvm.MethodName) prog_1_method_40_code (2 : Nat) (Option.none : Option Jvm.ClassFile.FieldType)).before args0 about1 = true := code_word (m := ⟨2, 25⟩) (meth := k2m25) (c := k2c25) (by decide +kernel) rfl rfl rfl (by decide +kernel)
set_option maxRecDepth 65536 in
theorem w_c17 : (Jvm.Cond.code ({ cls := "NullCheckOpt", name := "edgesOf", desc := "(I)V" } : Jvm.MethodName) prog_1_method_41_code (4 : Nat) (Option.none : Option Jvm.ClassFile.FieldType)).before args0 about1 = true := code_word (m := ⟨2, 26⟩) (meth := k2m26) (c := k2c26) (by decide +kernel) rfl rfl rfl (by decide +kernel)
set_option maxRecDepth 65536 in
theorem w_c18 : (Jvm.Cond.code ({ cls := "NullCheckOpt", name := "bitOf", desc := "(I)I" } : Jvm.MethodName) prog_1_method_37_code (2 : Nat) (Option.some Jvm.ClassFile.FieldType.int)).before args0 about1 = true := code_word (m := ⟨2, 22⟩) (meth := k2m22) (c := k2c22) (by decide +kernel) rfl rfl rfl (by decide +kernel)
set_option maxRecDepth 65536 in
theorem w_c19 : (Jvm.Cond.code ({ cls := "NullCheckOpt", name := "solveFacts", desc := "()Z" } : Jvm.MethodName) prog_1_method_44_code (2 : Nat) (Option.some Jvm.ClassFile.FieldType.boolean)).before args0 about1 = true := code_word (m := ⟨2, 27⟩) (meth := k2m27) (c := k2c27) (by decide +kernel) rfl rfl rfl (by decide +kernel)
set_option maxRecDepth 65536 in
theorem w_c20 : (Jvm.Cond.code ({ cls := "NullCheckOpt", name := "relaxOnce", desc := "()Z" } : Jvm.MethodName) prog_1_method_45_code (3 : Nat) (Option.some Jvm.ClassFile.FieldType.boolean)).before args0 about1 = true := code_word (m := ⟨2, 28⟩) (meth := k2m28) (c := k2c28) (by decide +kernel) rfl rfl rfl (by decide +kernel)
set_option maxRecDepth 65536 in
theorem w_c21 : (Jvm.Cond.code ({ cls := "NullCheckOpt", name := "propagate", desc := "(I)V" } : Jvm.MethodName) prog_1_method_46_code (3 : Nat) (Option.none : Option Jvm.ClassFile.FieldType)).before args0 about1 = true := code_word (m := ⟨2, 29⟩) (meth := k2m29) (c := k2c29) (by decide +kernel) rfl rfl rfl (by decide +kernel)
set_option maxRecDepth 65536 in
theorem w_c22 : (Jvm.Cond.code ({ cls := "NullCheckOpt", name := "transfer", desc := "(II)I" } : Jvm.MethodName) prog_1_method_48_code (8 : Nat) (Option.some Jvm.ClassFile.FieldType.int)).before args0 about1 = true := code_word (m := ⟨2, 31⟩) (meth := k2m31) (c := k2c31) (by decide +kernel) rfl rfl rfl (by decide +kernel)
set_option maxRecDepth 65536 in
theorem w_c23 : (Jvm.Cond.code ({ cls := "NullCheckOpt", name := "hasFact", desc := "(II)Z" } : Jvm.MethodName) prog_1_method_38_code (3 : Nat) (Option.some Jvm.ClassFile.FieldType.boolean)).before args0 about1 = true := code_word (m := ⟨2, 23⟩) (meth := k2m23) (c := k2c23) (by decide +kernel) rfl rfl rfl (by decide +kernel)
set_option maxRecDepth 65536 in
theorem w_c24 : (Jvm.Cond.code ({ cls := "NullCheckOpt", name := "withFact", desc := "(IIZ)I" } : Jvm.MethodName) prog_1_method_39_code (5 : Nat) (Option.some Jvm.ClassFile.FieldType.int)).before args0 about1 = true := code_word (m := ⟨2, 24⟩) (meth := k2m24) (c := k2c24) (by decide +kernel) rfl rfl rfl (by decide +kernel)
set_option maxRecDepth 65536 in
theorem w_c25 : (Jvm.Cond.code ({ cls := "NullCheckOpt", name := "meetInto", desc := "(II)V" } : Jvm.MethodName) prog_1_method_47_code (3 : Nat) (Option.none : Option Jvm.ClassFile.FieldType)).before args0 about1 = true := code_word (m := ⟨2, 30⟩) (meth := k2m30) (c := k2c30) (by decide +kernel) rfl rfl rfl (by decide +kernel)
set_option maxRecDepth 65536 in
theorem w_c26 : (Jvm.Cond.code ({ cls := "NullCheckOpt", name := "transferLoad", desc := "(IIII)I" } : Jvm.MethodName) prog_1_method_49_code (6 : Nat) (Option.some Jvm.ClassFile.FieldType.int)).before args0 about1 = true := code_word (m := ⟨2, 32⟩) (meth := k2m32) (c := k2c32) (by decide +kernel) rfl rfl rfl (by decide +kernel)
set_option maxRecDepth 65536 in
theorem w_c27 : (Jvm.Cond.code ({ cls := "NullCheckOpt", name := "transferStore", desc := "(III)I" } : Jvm.MethodName) prog_1_method_50_code (4 : Nat) (Option.some Jvm.ClassFile.FieldType.int)).before args0 about1 = true := code_word (m := ⟨2, 33⟩) (meth := k2m33) (c := k2c33) (by decide +kernel) rfl rfl rfl (by decide +kernel)
set_option maxRecDepth 65536 in
theorem w_c28 : (Jvm.Cond.code ({ cls := "NullCheckOpt", name := "removeRedundant", desc := "()V" } : Jvm.MethodName) prog_1_method_51_code (2 : Nat) (Option.none : Option Jvm.ClassFile.FieldType)).before args0 about1 = true := code_word (m := ⟨2, 34⟩) (meth := k2m34) (c := k2c34) (by decide +kernel) rfl rfl rfl (by decide +kernel)
set_option maxRecDepth 65536 in
theorem w_c29 : (Jvm.Cond.code ({ cls := "NullCheckOpt", name := "hoistInvariant", desc := "()V" } : Jvm.MethodName) prog_1_method_52_code (2 : Nat) (Option.none : Option Jvm.ClassFile.FieldType)).before args0 about1 = true := code_word (m := ⟨2, 35⟩) (meth := k2m35) (c := k2c35) (by decide +kernel) rfl rfl rfl (by decide +kernel)
set_option maxRecDepth 65536 in
theorem w_c30 : (Jvm.Cond.code ({ cls := "NullCheckOpt", name := "foldImplicit", desc := "()V" } : Jvm.MethodName) prog_1_method_56_code (2 : Nat) (Option.none : Option Jvm.ClassFile.FieldType)).before args0 about1 = true := code_word (m := ⟨2, 36⟩) (meth := k2m36) (c := k2c36) (by decide +kernel) rfl rfl rfl (by decide +kernel)
set_option maxRecDepth 65536 in
theorem w_c31 : (Jvm.Cond.code ({ cls := "NullCheckOpt", name := "dereferencesNext", desc := "(I)Z" } : Jvm.MethodName) prog_1_method_57_code (4 : Nat) (Option.some Jvm.ClassFile.FieldType.boolean)).before args0 about1 = true := code_word (m := ⟨2, 37⟩) (meth := k2m37) (c := k2c37) (by decide +kernel) rfl rfl rfl (by decide +kernel)
set_option maxRecDepth 65536 in
theorem w_c32 : (Jvm.Cond.code ({ cls := "NullCheckOpt", name := "execute", desc := "()V" } : Jvm.MethodName) prog_1_method_22_code (3 : Nat) (Option.none : Option Jvm.ClassFile.FieldType)).before args0 about1 = true := code_word (m := ⟨2, 13⟩) (meth := k2m13) (c := k2c13) (by decide +kernel) rfl rfl rfl (by decide +kernel)
set_option maxRecDepth 65536 in
theorem w_c33 : (Jvm.Cond.code ({ cls := "NullCheckOpt", name := "executeAt", desc := "(I)I" } : Jvm.MethodName) prog_1_method_24_code (3 : Nat) (Option.some Jvm.ClassFile.FieldType.int)).before args0 about1 = true := code_word (m := ⟨2, 15⟩) (meth := k2m15) (c := k2c15) (by decide +kernel) rfl rfl rfl (by decide +kernel)
set_option maxRecDepth 65536 in
theorem w_c34 : (Jvm.Cond.code ({ cls := "NullCheckOpt", name := "execLoad", desc := "(I)I" } : Jvm.MethodName) prog_1_method_26_code (5 : Nat) (Option.some Jvm.ClassFile.FieldType.int)).before args0 about1 = true := code_word (m := ⟨2, 17⟩) (meth := k2m17) (c := k2c17) (by decide +kernel) rfl rfl rfl (by decide +kernel)
set_option maxRecDepth 65536 in
theorem w_c35 : (Jvm.Cond.code ({ cls := "NullCheckOpt", name := "accessTrap", desc := "(I)I" } : Jvm.MethodName) prog_1_method_25_code (2 : Nat) (Option.some Jvm.ClassFile.FieldType.int)).before args0 about1 = true := code_word (m := ⟨2, 16⟩) (meth := k2m16) (c := k2c16) (by decide +kernel) rfl rfl rfl (by decide +kernel)
set_option maxRecDepth 65536 in
theorem w_c36 : (Jvm.Cond.code ({ cls := "NullCheckOpt", name := "execCheck", desc := "(I)I" } : Jvm.MethodName) prog_1_method_28_code (2 : Nat) (Option.some Jvm.ClassFile.FieldType.int)).before args0 about1 = true := code_word (m := ⟨2, 19⟩) (meth := k2m19) (c := k2c19) (by decide +kernel) rfl rfl rfl (by decide +kernel)
set_option maxRecDepth 65536 in
theorem w_c37 : (Jvm.Cond.code ({ cls := "NullCheckOpt", name := "finish", desc := "(II)V" } : Jvm.MethodName) prog_1_method_23_code (3 : Nat) (Option.none : Option Jvm.ClassFile.FieldType)).before args0 about1 = true := code_word (m := ⟨2, 14⟩) (meth := k2m14) (c := k2c14) (by decide +kernel) rfl rfl rfl (by decide +kernel)
set_option maxRecDepth 65536 in
theorem w_c38 : (Jvm.Cond.code ({ cls := "NullCheckOpt", name := "getOutcome", desc := "()I" } : Jvm.MethodName) prog_1_method_58_code (1 : Nat) (Option.some Jvm.ClassFile.FieldType.int)).before args0 about1 = true := code_word (m := ⟨2, 38⟩) (meth := k2m38) (c := k2c38) (by decide +kernel) rfl rfl rfl (by decide +kernel)
set_option maxRecDepth 65536 in
theorem w_c39 : (Jvm.Cond.code ({ cls := "NullCheckOpt", name := "getResult", desc := "()I" } : Jvm.MethodName) prog_1_method_59_code (1 : Nat) (Option.some Jvm.ClassFile.FieldType.int)).before args0 about1 = true := code_word (m := ⟨2, 39⟩) (meth := k2m39) (c := k2c39) (by decide +kernel) rfl rfl rfl (by decide +kernel)
set_option maxRecDepth 65536 in
theorem w_c40 : (Jvm.Cond.code ({ cls := "NullCheckOpt", name := "getOutputCount", desc := "()I" } : Jvm.MethodName) prog_1_method_60_code (1 : Nat) (Option.some Jvm.ClassFile.FieldType.int)).before args0 about1 = true := code_word (m := ⟨2, 40⟩) (meth := k2m40) (c := k2c40) (by decide +kernel) rfl rfl rfl (by decide +kernel)
set_option maxRecDepth 65536 in
theorem w_c41 : (Jvm.Cond.code ({ cls := "NullCheckOpt", name := "getOutput", desc := "(I)I" } : Jvm.MethodName) prog_1_method_61_code (2 : Nat) (Option.some Jvm.ClassFile.FieldType.int)).before args0 about1 = true := code_word (m := ⟨2, 41⟩) (meth := k2m41) (c := k2c41) (by decide +kernel) rfl rfl rfl (by decide +kernel)
set_option maxRecDepth 65536 in
theorem w_c42 : (Jvm.Cond.code ({ cls := "NullCheckOptL3", name := "init", desc := "(IIII)I" } : Jvm.MethodName) method_2_code (4 : Nat) (Option.some Jvm.ClassFile.FieldType.int)).before args0 about1 = true := code_word (m := ⟨1, 1⟩) (meth := k1m1) (c := k1c1) (by decide +kernel) rfl rfl rfl (by decide +kernel)
set_option maxRecDepth 65536 in
theorem w_c43 : (Jvm.Cond.code ({ cls := "NullCheckOpt", name := "getHeapAfter", desc := "(I)I" } : Jvm.MethodName) prog_1_method_62_code (2 : Nat) (Option.some Jvm.ClassFile.FieldType.int)).before args0 about1 = true := code_word (m := ⟨2, 42⟩) (meth := k2m42) (c := k2c42) (by decide +kernel) rfl rfl rfl (by decide +kernel)
set_option maxRecDepth 65536 in
theorem w_c44 : (Jvm.Cond.code ({ cls := "NullCheckOpt", name := "getRegAfter", desc := "(I)I" } : Jvm.MethodName) prog_1_method_63_code (2 : Nat) (Option.some Jvm.ClassFile.FieldType.int)).before args0 about1 = true := code_word (m := ⟨2, 43⟩) (meth := k2m43) (c := k2c43) (by decide +kernel) rfl rfl rfl (by decide +kernel)
set_option maxRecDepth 65536 in
theorem w_c45 : (Jvm.Cond.code ({ cls := "NullCheckOpt", name := "emit", desc := "(I)V" } : Jvm.MethodName) prog_1_method_29_code (2 : Nat) (Option.none : Option Jvm.ClassFile.FieldType)).before args0 about1 = true := code_word (m := ⟨2, 20⟩) (meth := k2m20) (c := k2c20) (by decide +kernel) rfl rfl rfl (by decide +kernel)
set_option maxRecDepth 65536 in
theorem w_c46 : (Jvm.Cond.code ({ cls := "NullCheckOpt", name := "execStore", desc := "(I)I" } : Jvm.MethodName) prog_1_method_27_code (5 : Nat) (Option.some Jvm.ClassFile.FieldType.int)).before args0 about1 = true := code_word (m := ⟨2, 18⟩) (meth := k2m18) (c := k2c18) (by decide +kernel) rfl rfl rfl (by decide +kernel)
def codes1 : List Jvm.Cond := [Jvm.Cond.code x code maxLocals ret, Jvm.Cond.code ({ cls := "NullCheckOpt", name := "<init>", desc := "(I)V" } : Jvm.MethodName) prog_1_method_1_code (3 : Nat) (Option.none : Option Jvm.ClassFile.FieldType), Jvm.Cond.code ({ cls := "java/lang/Object", name := "<init>", desc := "()V" } : Jvm.MethodName) object_method_1_code (1 : Nat) (Option.none : Option Jvm.ClassFile.FieldType), Jvm.Cond.code ({ cls := "NullCheckOpt", name := "setCell", desc := "(II)Z" } : Jvm.MethodName) prog_1_method_17_code (3 : Nat) (Option.some Jvm.ClassFile.FieldType.boolean), Jvm.Cond.code ({ cls := "NullCheckOpt", name := "add", desc := "(IIII)I" } : Jvm.MethodName) prog_1_method_3_code (9 : Nat) (Option.some Jvm.ClassFile.FieldType.int), Jvm.Cond.code ({ cls := "NullCheckOpt", name := "roleOfA", desc := "(I)I" } : Jvm.MethodName) prog_1_method_4_code (2 : Nat) (Option.some Jvm.ClassFile.FieldType.int), Jvm.Cond.code ({ cls := "NullCheckOpt", name := "roleOfB", desc := "(I)I" } : Jvm.MethodName) prog_1_method_5_code (2 : Nat) (Option.some Jvm.ClassFile.FieldType.int), Jvm.Cond.code ({ cls := "NullCheckOpt", name := "roleOfC", desc := "(I)I" } : Jvm.MethodName) prog_1_method_6_code (2 : Nat) (Option.some Jvm.ClassFile.FieldType.int), Jvm.Cond.code ({ cls := "NullCheckOpt", name := "fits", desc := "(II)Z" } : Jvm.MethodName) prog_1_method_7_code (3 : Nat) (Option.some Jvm.ClassFile.FieldType.boolean), Jvm.Cond.code ({ cls := "NullCheckOpt", name := "kept", desc := "(II)I" } : Jvm.MethodName) prog_1_method_8_code (3 : Nat) (Option.some Jvm.ClassFile.FieldType.int), Jvm.Cond.code ({ cls := "NullCheckOpt", name := "compile", desc := "()I" } : Jvm.MethodName) prog_1_method_9_code (3 : Nat) (Option.some Jvm.ClassFile.FieldType.int), Jvm.Cond.code ({ cls := "NullCheckOpt", name := "scanOne", desc := "(I)I" } : Jvm.MethodName) prog_1_method_10_code (3 : Nat) (Option.some Jvm.ClassFile.FieldType.int), Jvm.Cond.code ({ cls := "NullCheckOpt", name := "run", desc := "(Z)I" } : Jvm.MethodName) prog_1_method_19_code (2 : Nat) (Option.some Jvm.ClassFile.FieldType.int), Jvm.Cond.code ({ cls := "NullCheckOpt", name := "resetRun", desc := "()V" } : Jvm.MethodName) prog_1_method_20_code (2 : Nat) (Option.none : Option Jvm.ClassFile.FieldType), Jvm.Cond.code ({ cls := "NullCheckOpt", name := "optimise", desc := "()V" } : Jvm.MethodName) prog_1_method_36_code (2 : Nat) (Option.none : Option Jvm.ClassFile.FieldType), Jvm.Cond.code ({ cls := "NullCheckOpt", name := "clearMarks", desc := "()V" } : Jvm.MethodName) prog_1_method_21_code (2 : Nat) (Option.none : Option Jvm.ClassFile.FieldType), Jvm.Cond.code ({ cls := "NullCheckOpt", name := "buildEdges", desc := "()V" } : Jvm.MethodName) prog_1_method_40_code (2 : Nat) (Option.none : Option Jvm.ClassFile.FieldType), Jvm.Cond.code ({ cls := "NullCheckOpt", name := "edgesOf", desc := "(I)V" } : Jvm.MethodName) prog_1_method_41_code (4 : Nat) (Option.none : Option Jvm.ClassFile.FieldType), Jvm.Cond.code ({ cls := "NullCheckOpt", name := "bitOf", desc := "(I)I" } : Jvm.MethodName) prog_1_method_37_code (2 : Nat) (Option.some Jvm.ClassFile.FieldType.int), Jvm.Cond.code ({ cls := "NullCheckOpt", name := "solveFacts", desc := "()Z" } : Jvm.MethodName) prog_1_method_44_code (2 : Nat) (Option.some Jvm.ClassFile.FieldType.boolean), Jvm.Cond.code ({ cls := "NullCheckOpt", name := "relaxOnce", desc := "()Z" } : Jvm.MethodName) prog_1_method_45_code (3 : Nat) (Option.some Jvm.ClassFile.FieldType.boolean), Jvm.Cond.code ({ cls := "NullCheckOpt", name := "propagate", desc := "(I)V" } : Jvm.MethodName) prog_1_method_46_code (3 : Nat) (Option.none : Option Jvm.ClassFile.FieldType), Jvm.Cond.code ({ cls := "NullCheckOpt", name := "transfer", desc := "(II)I" } : Jvm.MethodName) prog_1_method_48_code (8 : Nat) (Option.some Jvm.ClassFile.FieldType.int), Jvm.Cond.code ({ cls := "NullCheckOpt", name := "hasFact", desc := "(II)Z" } : Jvm.MethodName) prog_1_method_38_code (3 : Nat) (Option.some Jvm.ClassFile.FieldType.boolean), Jvm.Cond.code ({ cls := "NullCheckOpt", name := "withFact", desc := "(IIZ)I" } : Jvm.MethodName) prog_1_method_39_code (5 : Nat) (Option.some Jvm.ClassFile.FieldType.int), Jvm.Cond.code ({ cls := "NullCheckOpt", name := "meetInto", desc := "(II)V" } : Jvm.MethodName) prog_1_method_47_code (3 : Nat) (Option.none : Option Jvm.ClassFile.FieldType), Jvm.Cond.code ({ cls := "NullCheckOpt", name := "transferLoad", desc := "(IIII)I" } : Jvm.MethodName) prog_1_method_49_code (6 : Nat) (Option.some Jvm.ClassFile.FieldType.int), Jvm.Cond.code ({ cls := "NullCheckOpt", name := "transferStore", desc := "(III)I" } : Jvm.MethodName) prog_1_method_50_code (4 : Nat) (Option.some Jvm.ClassFile.FieldType.int), Jvm.Cond.code ({ cls := "NullCheckOpt", name := "removeRedundant", desc := "()V" } : Jvm.MethodName) prog_1_method_51_code (2 : Nat) (Option.none : Option Jvm.ClassFile.FieldType), Jvm.Cond.code ({ cls := "NullCheckOpt", name := "hoistInvariant", desc := "()V" } : Jvm.MethodName) prog_1_method_52_code (2 : Nat) (Option.none : Option Jvm.ClassFile.FieldType), Jvm.Cond.code ({ cls := "NullCheckOpt", name := "foldImplicit", desc := "()V" } : Jvm.MethodName) prog_1_method_56_code (2 : Nat) (Option.none : Option Jvm.ClassFile.FieldType), Jvm.Cond.code ({ cls := "NullCheckOpt", name := "dereferencesNext", desc := "(I)Z" } : Jvm.MethodName) prog_1_method_57_code (4 : Nat) (Option.some Jvm.ClassFile.FieldType.boolean), Jvm.Cond.code ({ cls := "NullCheckOpt", name := "execute", desc := "()V" } : Jvm.MethodName) prog_1_method_22_code (3 : Nat) (Option.none : Option Jvm.ClassFile.FieldType), Jvm.Cond.code ({ cls := "NullCheckOpt", name := "executeAt", desc := "(I)I" } : Jvm.MethodName) prog_1_method_24_code (3 : Nat) (Option.some Jvm.ClassFile.FieldType.int), Jvm.Cond.code ({ cls := "NullCheckOpt", name := "execLoad", desc := "(I)I" } : Jvm.MethodName) prog_1_method_26_code (5 : Nat) (Option.some Jvm.ClassFile.FieldType.int), Jvm.Cond.code ({ cls := "NullCheckOpt", name := "accessTrap", desc := "(I)I" } : Jvm.MethodName) prog_1_method_25_code (2 : Nat) (Option.some Jvm.ClassFile.FieldType.int), Jvm.Cond.code ({ cls := "NullCheckOpt", name := "execCheck", desc := "(I)I" } : Jvm.MethodName) prog_1_method_28_code (2 : Nat) (Option.some Jvm.ClassFile.FieldType.int), Jvm.Cond.code ({ cls := "NullCheckOpt", name := "finish", desc := "(II)V" } : Jvm.MethodName) prog_1_method_23_code (3 : Nat) (Option.none : Option Jvm.ClassFile.FieldType), Jvm.Cond.code ({ cls := "NullCheckOpt", name := "getOutcome", desc := "()I" } : Jvm.MethodName) prog_1_method_58_code (1 : Nat) (Option.some Jvm.ClassFile.FieldType.int), Jvm.Cond.code ({ cls := "NullCheckOpt", name := "getResult", desc := "()I" } : Jvm.MethodName) prog_1_method_59_code (1 : Nat) (Option.some Jvm.ClassFile.FieldType.int), Jvm.Cond.code ({ cls := "NullCheckOpt", name := "getOutputCount", desc := "()I" } : Jvm.MethodName) prog_1_method_60_code (1 : Nat) (Option.some Jvm.ClassFile.FieldType.int), Jvm.Cond.code ({ cls := "NullCheckOpt", name := "getOutput", desc := "(I)I" } : Jvm.MethodName) prog_1_method_61_code (2 : Nat) (Option.some Jvm.ClassFile.FieldType.int), Jvm.Cond.code ({ cls := "NullCheckOptL3", name := "init", desc := "(IIII)I" } : Jvm.MethodName) method_2_code (4 : Nat) (Option.some Jvm.ClassFile.FieldType.int), Jvm.Cond.code ({ cls := "NullCheckOpt", name := "getHeapAfter", desc := "(I)I" } : Jvm.MethodName) prog_1_method_62_code (2 : Nat) (Option.some Jvm.ClassFile.FieldType.int), Jvm.Cond.code ({ cls := "NullCheckOpt", name := "getRegAfter", desc := "(I)I" } : Jvm.MethodName) prog_1_method_63_code (2 : Nat) (Option.some Jvm.ClassFile.FieldType.int), Jvm.Cond.code ({ cls := "NullCheckOpt", name := "emit", desc := "(I)V" } : Jvm.MethodName) prog_1_method_29_code (2 : Nat) (Option.none : Option Jvm.ClassFile.FieldType), Jvm.Cond.code ({ cls := "NullCheckOpt", name := "execStore", desc := "(I)I" } : Jvm.MethodName) prog_1_method_27_code (5 : Nat) (Option.some Jvm.ClassFile.FieldType.int)]
set_option maxRecDepth 65536 in
theorem codes_eq : words1.filter isCode = codes1 := rfl
theorem w_codes : ∀ c ∈ words1.filter isCode, c.before args0 about1 = true := by
  rw [codes_eq]
  intro c hc
  simp only [codes1, List.mem_cons, List.not_mem_nil, or_false] at hc
  rcases hc with rfl | rfl | rfl | rfl | rfl | rfl | rfl | rfl | rfl | rfl | rfl | rfl | rfl | rfl | rfl | rfl | rfl | rfl | rfl | rfl | rfl | rfl | rfl | rfl | rfl | rfl | rfl | rfl | rfl | rfl | rfl | rfl | rfl | rfl | rfl | rfl | rfl | rfl | rfl | rfl | rfl | rfl | rfl | rfl | rfl | rfl | rfl
  · exact w_c0
  · exact w_c1
  · exact w_c2
  · exact w_c3
  · exact w_c4
  · exact w_c5
  · exact w_c6
  · exact w_c7
  · exact w_c8
  · exact w_c9
  · exact w_c10
  · exact w_c11
  · exact w_c12
  · exact w_c13
  · exact w_c14
  · exact w_c15
  · exact w_c16
  · exact w_c17
  · exact w_c18
  · exact w_c19
  · exact w_c20
  · exact w_c21
  · exact w_c22
  · exact w_c23
  · exact w_c24
  · exact w_c25
  · exact w_c26
  · exact w_c27
  · exact w_c28
  · exact w_c29
  · exact w_c30
  · exact w_c31
  · exact w_c32
  · exact w_c33
  · exact w_c34
  · exact w_c35
  · exact w_c36
  · exact w_c37
  · exact w_c38
  · exact w_c39
  · exact w_c40
  · exact w_c41
  · exact w_c42
  · exact w_c43
  · exact w_c44
  · exact w_c45
  · exact w_c46
set_option maxRecDepth 65536 in
theorem w_t1 : (words1.take 24).all (fun c => isCode c || c.before args0 about1) = true := by decide +kernel
set_option maxRecDepth 65536 in
theorem w_t2 : ((words1.drop 24).take 24).all (fun c => isCode c || c.before args0 about1) = true := by decide +kernel
set_option maxRecDepth 65536 in
theorem w_t3 : (((words1.drop 24).drop 24).take 24).all (fun c => isCode c || c.before args0 about1) = true := by decide +kernel
set_option maxRecDepth 65536 in
theorem w_t4 : ((((words1.drop 24).drop 24).drop 24).take 24).all (fun c => isCode c || c.before args0 about1) = true := by decide +kernel
set_option maxRecDepth 65536 in
theorem w_t5 : (((((words1.drop 24).drop 24).drop 24).drop 24).take 24).all (fun c => isCode c || c.before args0 about1) = true := by decide +kernel
set_option maxRecDepth 65536 in
theorem w_t6 : ((((((words1.drop 24).drop 24).drop 24).drop 24).drop 24).take 24).all (fun c => isCode c || c.before args0 about1) = true := by decide +kernel
set_option maxRecDepth 65536 in
theorem w_t7 : (((((((words1.drop 24).drop 24).drop 24).drop 24).drop 24).drop 24).take 24).all (fun c => isCode c || c.before args0 about1) = true := by decide +kernel
set_option maxRecDepth 65536 in
theorem w_t8 : ((((((((words1.drop 24).drop 24).drop 24).drop 24).drop 24).drop 24).drop 24).take 24).all (fun c => isCode c || c.before args0 about1) = true := by decide +kernel
set_option maxRecDepth 65536 in
theorem w_t9 : (((((((((words1.drop 24).drop 24).drop 24).drop 24).drop 24).drop 24).drop 24).drop 24).take 24).all (fun c => isCode c || c.before args0 about1) = true := by decide +kernel
set_option maxRecDepth 65536 in
theorem w_t10 : ((((((((((words1.drop 24).drop 24).drop 24).drop 24).drop 24).drop 24).drop 24).drop 24).drop 24).take 24).all (fun c => isCode c || c.before args0 about1) = true := by decide +kernel
set_option maxRecDepth 65536 in
theorem w_t11 : (((((((((((words1.drop 24).drop 24).drop 24).drop 24).drop 24).drop 24).drop 24).drop 24).drop 24).drop 24).take 24).all (fun c => isCode c || c.before args0 about1) = true := by decide +kernel
set_option maxRecDepth 65536 in
theorem w_t12 : (((((((((((words1.drop 24).drop 24).drop 24).drop 24).drop 24).drop 24).drop 24).drop 24).drop 24).drop 24).drop 24).all (fun c => isCode c || c.before args0 about1) = true := by decide +kernel
theorem w_tables : (allAtoms (Jvm.Cond.code x code maxLocals ret :: tables_1)).before args0 about1 = true := by
  rw [allAtoms_all]
  show words1.all (fun c => c.before args0 about1) = true
  refine all_split ?_ w_codes
  rw [← List.take_append_drop 24 words1, List.all_append, w_t1, ← List.take_append_drop 24 (words1.drop 24), List.all_append, w_t2, ← List.take_append_drop 24 ((words1.drop 24).drop 24), List.all_append, w_t3, ← List.take_append_drop 24 (((words1.drop 24).drop 24).drop 24), List.all_append, w_t4, ← List.take_append_drop 24 ((((words1.drop 24).drop 24).drop 24).drop 24), List.all_append, w_t5, ← List.take_append_drop 24 (((((words1.drop 24).drop 24).drop 24).drop 24).drop 24), List.all_append, w_t6, ← List.take_append_drop 24 ((((((words1.drop 24).drop 24).drop 24).drop 24).drop 24).drop 24), List.all_append, w_t7, ← List.take_append_drop 24 (((((((words1.drop 24).drop 24).drop 24).drop 24).drop 24).drop 24).drop 24), List.all_append, w_t8, ← List.take_append_drop 24 ((((((((words1.drop 24).drop 24).drop 24).drop 24).drop 24).drop 24).drop 24).drop 24), List.all_append, w_t9, ← List.take_append_drop 24 (((((((((words1.drop 24).drop 24).drop 24).drop 24).drop 24).drop 24).drop 24).drop 24).drop 24), List.all_append, w_t10, ← List.take_append_drop 24 ((((((((((words1.drop 24).drop 24).drop 24).drop 24).drop 24).drop 24).drop 24).drop 24).drop 24).drop 24), List.all_append, w_t11, w_t12]
  rfl
set_option maxRecDepth 65536 in
theorem w_case : (Jvm.Cond.and given_1 narrow_1).before args0 about1 = true := by decide +kernel
theorem w_applies : (headSpec (Jvm.Cond.code x code maxLocals ret :: tables_1) room_1).applies x e0.platform about1 = true :=
  (Spec.applies_iff w_frames).mpr ⟨w_running, w_runnable, w_alone, w_named, w_hears, w_ripe, w_room, w_tables⟩
theorem atStart : AtStart classFile x code maxLocals ret World_1 tables_1 room_1 Calls_1 rest_1 Pre_1 launch0 p0 e0 about1 theMethod args0 below0 :=
  ⟨lists_1, trivial, launch0.admits_env _ _ _, launch0.least_env, fairChoices_fair.cas, fairChoices_fair.clock, w_frames, w_args, w_heap, w_applies, trivial, trivial, w_case⟩
end start1
theorem witness_1 : WitnessClaimed_1 := ⟨start1.p0, start1.e0, start1.about1, start1.theMethod, start1.args0, start1.below0, start1.atStart⟩
end Jvm.Pilot.@@N@@
