import JvmDerived
import JvmDerived.Pilot.@@N@@Statement
import JvmDerived.Pilot.@@N@@Code
set_option linter.unusedVariables false
set_option linter.unusedSimpArgs false
namespace Jvm.AM
open Sem ClassFile Op Lib Jvm.Stand Jvm.Free Jvm.LawKit Jvm.RoadKit
/-! ## 1. The abstract objects: one object of the class, its scalars and its arrays by number -/
abbrev S : Type := (Nat → Int32) × (Nat → Int64) × (Nat → List Int32) × (Nat → List Int64)
def aupd {A : Type} (g : Nat → A) (f : Nat) (v : A) : Nat → A := fun x => if x = f then v else g x
def gI (s : S) (f : Nat) : Int32 := s.1 f
def gL (s : S) (f : Nat) : Int64 := s.2.1 f
def gA (s : S) (f : Nat) : List Int32 := s.2.2.1 f
def gB (s : S) (f : Nat) : List Int64 := s.2.2.2 f
def sI (s : S) (f : Nat) (v : Int32) : S := (aupd s.1 f v, s.2)
def sL (s : S) (f : Nat) (v : Int64) : S := (s.1, aupd s.2.1 f v, s.2.2)
def sA (s : S) (f : Nat) (v : List Int32) : S := (s.1, s.2.1, aupd s.2.2.1 f v, s.2.2.2)
def sB (s : S) (f : Nat) (v : List Int64) : S := (s.1, s.2.1, s.2.2.1, aupd s.2.2.2 f v)
def s0 : S := (fun _ => 0, fun _ => 0, fun _ => [], fun _ => [])
theorem gI_s0 (f : Nat) : gI s0 f = 0 := by simp only [gI, s0]
theorem gL_s0 (f : Nat) : gL s0 f = 0 := by simp only [gL, s0]
theorem gA_s0 (f : Nat) : gA s0 f = [] := by simp only [gA, s0]
theorem gB_s0 (f : Nat) : gB s0 f = [] := by simp only [gB, s0]
theorem gI_sI (s : S) (f g : Nat) (v : Int32) : gI (sI s f v) g = if g = f then v else gI s g := by simp only [gI, gL, gA, gB, sI, sL, sA, sB, aupd]
theorem gI_sL (s : S) (f g : Nat) (v : Int64) : gI (sL s f v) g = gI s g := by simp only [gI, gL, gA, gB, sI, sL, sA, sB, aupd]
theorem gI_sA (s : S) (f g : Nat) (v : List Int32) : gI (sA s f v) g = gI s g := by simp only [gI, gL, gA, gB, sI, sL, sA, sB, aupd]
theorem gI_sB (s : S) (f g : Nat) (v : List Int64) : gI (sB s f v) g = gI s g := by simp only [gI, gL, gA, gB, sI, sL, sA, sB, aupd]
theorem gL_sI (s : S) (f g : Nat) (v : Int32) : gL (sI s f v) g = gL s g := by simp only [gI, gL, gA, gB, sI, sL, sA, sB, aupd]
theorem gL_sL (s : S) (f g : Nat) (v : Int64) : gL (sL s f v) g = if g = f then v else gL s g := by simp only [gI, gL, gA, gB, sI, sL, sA, sB, aupd]
theorem gL_sA (s : S) (f g : Nat) (v : List Int32) : gL (sA s f v) g = gL s g := by simp only [gI, gL, gA, gB, sI, sL, sA, sB, aupd]
theorem gL_sB (s : S) (f g : Nat) (v : List Int64) : gL (sB s f v) g = gL s g := by simp only [gI, gL, gA, gB, sI, sL, sA, sB, aupd]
theorem gA_sI (s : S) (f g : Nat) (v : Int32) : gA (sI s f v) g = gA s g := by simp only [gI, gL, gA, gB, sI, sL, sA, sB, aupd]
theorem gA_sL (s : S) (f g : Nat) (v : Int64) : gA (sL s f v) g = gA s g := by simp only [gI, gL, gA, gB, sI, sL, sA, sB, aupd]
theorem gA_sA (s : S) (f g : Nat) (v : List Int32) : gA (sA s f v) g = if g = f then v else gA s g := by simp only [gI, gL, gA, gB, sI, sL, sA, sB, aupd]
theorem gA_sB (s : S) (f g : Nat) (v : List Int64) : gA (sB s f v) g = gA s g := by simp only [gI, gL, gA, gB, sI, sL, sA, sB, aupd]
theorem gB_sI (s : S) (f g : Nat) (v : Int32) : gB (sI s f v) g = gB s g := by simp only [gI, gL, gA, gB, sI, sL, sA, sB, aupd]
theorem gB_sL (s : S) (f g : Nat) (v : Int64) : gB (sL s f v) g = gB s g := by simp only [gI, gL, gA, gB, sI, sL, sA, sB, aupd]
theorem gB_sA (s : S) (f g : Nat) (v : List Int32) : gB (sA s f v) g = gB s g := by simp only [gI, gL, gA, gB, sI, sL, sA, sB, aupd]
theorem gB_sB (s : S) (f g : Nat) (v : List Int64) : gB (sB s f v) g = if g = f then v else gB s g := by simp only [gI, gL, gA, gB, sI, sL, sA, sB, aupd]
def rep {A : Type} (n : Nat) (x : A) : List A := List.replicate n x
theorem rep_length {A : Type} (n : Nat) (x : A) : (rep n x).length = n := by simp only [rep, List.length_replicate]
theorem rep_get {A : Type} (n : Nat) (x : A) (k : Nat) : (rep n x)[k]? = if k < n then some x else none := by simp only [rep, List.getElem?_replicate]
theorem rep_set {A : Type} (n : Nat) (x : A) (k : Nat) : (rep n x).set k x = rep n x := by simp only [rep, List.set_replicate_self]
/-- reading and writing a component -/
def ix {A : Type} (l : List A) (j : Int32) : Option A := if j < 0 then none else l[j.toNatClampNeg]?
def st {A : Type} (l : List A) (j : Int32) (x : A) : Option (List A) := if j < 0 then none else if j.toNatClampNeg < l.length then some (l.set j.toNatClampNeg x) else none
/-- the world of a run: the script array, if there is one; the objects made so far, each with the number of arrays that it has been given -/
abbrev W : Type := Option (List Int32) × List (Nat × S)
/-- the class: name, slots, scalar fields (name, descriptor, type), array fields in the order of their making (name, descriptor, component type, most slots) -/
abbrev CI : Type := String × Nat × List (String × String × FieldType) × List (String × String × FieldType × Nat)
def cN (c : CI) : String := c.1
def cF (c : CI) : Nat := c.2.1
def cS (c : CI) : List (String × String × FieldType) := c.2.2.1
def cA (c : CI) : List (String × String × FieldType × Nat) := c.2.2.2
def cK (c : CI) : Nat := (cA c).length
/-- the program: the sheet's words, the class -/
abbrev PI : Type := List Jvm.Cond × CI
/-- a method: name, bytes, variables, return type, room, most objects, whether it makes cells, cells and slots at its start -/
abbrev Meth : Type := MethodName × ByteArray × Nat × Option FieldType × Room × Nat × Bool × Nat × Nat
def mY (M : Meth) : MethodName := M.1
def mB (M : Meth) : ByteArray := M.2.1
def mL (M : Meth) : Nat := M.2.2.1
def mT (M : Meth) : Option FieldType := M.2.2.2.1
def mR (M : Meth) : Room := M.2.2.2.2.1
def mN (M : Meth) : Nat := M.2.2.2.2.2.1
def mTop (M : Meth) : Bool := M.2.2.2.2.2.2.1
def mUC (M : Meth) : Nat := M.2.2.2.2.2.2.2.1
def mUS (M : Meth) : Nat := M.2.2.2.2.2.2.2.2
/-! ## 2. Abstract references: 0 the script; j + 1 the cell at b + j -/
def con (α b : Nat) : Value → Value
  | .ref 0 => .ref α
  | .ref (j + 1) => .ref (b + j)
  | v => v
def cs (α b : Nat) : Slot → Slot
  | .val v => .val (con α b v)
  | .unset => .unset
  | .second => .second
def cL (α b : Nat) (L : List Slot) : Array Slot := (L.map (cs α b)).toArray
def cV (α b : Nat) (l : List Value) : List Value := l.map (con α b)
theorem con_cat (α b : Nat) (v : Value) : (con α b v).category = v.category := by
  cases v <;> try rfl
  rename_i a; cases a <;> rfl
theorem con_ref (α b : Nat) (v : Value) : (con α b v).isRef = v.isRef := by
  cases v <;> try rfl
  rename_i a; cases a <;> rfl
theorem cL_get {α b : Nat} {L : List Slot} {k : Nat} {x : Slot} (h : L[k]? = some x) : (cL α b L)[k]? = some (cs α b x) := by
  simp [cL, List.getElem?_toArray, List.getElem?_map, h]
theorem cL_size (α b : Nat) (L : List Slot) : (cL α b L).size = L.length := by simp [cL]
theorem cV_sum (α b : Nat) (l : List Value) : ((cV α b l).map fun v => v.category).sum = (l.map fun v => v.category).sum := by
  simp [cV, List.map_map, Function.comp_def, con_cat]
theorem setAt_map {α b : Nat} {l l' : Array Slot} {i : Nat} {x : Slot} (h : setAt l i x = some l') : setAt (l.map (cs α b)) i (cs α b x) = some (l'.map (cs α b)) := by
  unfold setAt at h ⊢
  split at h
  · rename_i q
    cases h
    rw [if_pos (by simpa using q)]
    simp [Array.map_setIfInBounds]
  · cases h
theorem storeSelf_map {α b : Nat} {l l' : Array Slot} {i : Nat} {v : Value} (h : storeSelf l i v = some l') : storeSelf (l.map (cs α b)) i (con α b v) = some (l'.map (cs α b)) := by
  simp only [storeSelf, Option.bind_eq_bind, Option.bind_eq_some_iff] at h ⊢
  obtain ⟨l1, h1, h2⟩ := h
  refine ⟨l1.map (cs α b), setAt_map (x := .val v) h1, ?_⟩
  rw [con_cat]
  split at h2
  · rename_i q
    rw [if_pos q]
    obtain ⟨x, h3, h4⟩ := Option.bind_eq_some_iff.mp h2
    refine Option.bind_eq_some_iff.mpr ⟨cs α b x, by simp [h3], ?_⟩
    cases x with
    | unset => exact setAt_map (x := .second) h4
    | second => exact setAt_map (x := .second) h4
    | val old =>
      simp only [cs, con_cat] at h4 ⊢
      split at h4
      · rename_i q2
        rw [if_pos q2]
        obtain ⟨y, h5, h6⟩ := Option.bind_eq_some_iff.mp h4
        exact Option.bind_eq_some_iff.mpr ⟨_, setAt_map (x := .unset) h5, setAt_map (x := .second) h6⟩
      · rename_i q2
        rw [if_neg q2]
        exact setAt_map (x := .second) h4
  · rename_i q
    rw [if_neg q]
    cases h2; rfl
theorem store_map {α b : Nat} {l l' : Array Slot} {i : Nat} {v : Value} (h : storeLocals l i v = some l') : storeLocals (l.map (cs α b)) i (con α b v) = some (l'.map (cs α b)) := by
  simp only [storeLocals, Option.bind_eq_bind, Option.bind_eq_some_iff] at h ⊢
  obtain ⟨x, h1, h2⟩ := h
  refine ⟨cs α b x, by simp [h1], ?_⟩
  cases x with
  | unset => exact storeSelf_map h2
  | second =>
    obtain ⟨y, h3, h4⟩ := Option.bind_eq_some_iff.mp h2
    exact Option.bind_eq_some_iff.mpr ⟨_, setAt_map (x := .unset) h3, storeSelf_map h4⟩
  | val old =>
    simp only [cs, con_cat] at h2 ⊢
    split at h2
    · rename_i q
      rw [if_pos q]
      obtain ⟨y, h3, h4⟩ := Option.bind_eq_some_iff.mp h2
      exact Option.bind_eq_some_iff.mpr ⟨_, setAt_map (x := .unset) h3, storeSelf_map h4⟩
    · rename_i q
      rw [if_neg q]
      exact storeSelf_map h2
theorem storeC {α b : Nat} {L L' : List Slot} {i : Nat} {v : Value} (h : storeLocals L.toArray i v = some L'.toArray) : storeLocals (cL α b L) i (con α b v) = some (cL α b L') := by
  have := store_map (α := α) (b := b) h
  simpa [cL] using this
theorem setAt_size {l l' : Array Slot} {i : Nat} {x : Slot} (h : setAt l i x = some l') : l'.size = l.size := by
  unfold setAt at h; split at h <;> cases h; simp
theorem storeSelf_size {l l' : Array Slot} {i : Nat} {v : Value} (h : storeSelf l i v = some l') : l'.size = l.size := by
  simp only [storeSelf, Option.bind_eq_bind, Option.bind_eq_some_iff] at h
  obtain ⟨l1, h1, h2⟩ := h
  have e1 := setAt_size h1
  split at h2
  · obtain ⟨x, h3, h4⟩ := Option.bind_eq_some_iff.mp h2
    cases x with
    | unset => exact (setAt_size h4).trans e1
    | second => exact (setAt_size h4).trans e1
    | val old =>
      dsimp only at h4
      split at h4
      · obtain ⟨y, h5, h6⟩ := Option.bind_eq_some_iff.mp h4
        exact (setAt_size h6).trans ((setAt_size h5).trans e1)
      · exact (setAt_size h4).trans e1
  · cases h2; exact e1
theorem store_size {l l' : Array Slot} {i : Nat} {v : Value} (h : storeLocals l i v = some l') : l'.size = l.size := by
  simp only [storeLocals, Option.bind_eq_bind, Option.bind_eq_some_iff] at h
  obtain ⟨x, h1, h2⟩ := h
  cases x with
  | unset => exact storeSelf_size h2
  | second =>
    obtain ⟨y, h3, h4⟩ := Option.bind_eq_some_iff.mp h2
    exact (storeSelf_size h4).trans (setAt_size h3)
  | val old =>
    dsimp only at h2
    split at h2
    · obtain ⟨y, h3, h4⟩ := Option.bind_eq_some_iff.mp h2
      exact (storeSelf_size h4).trans (setAt_size h3)
    · exact storeSelf_size h2
/-- a variable that may be written over by a value of one word -/
def k1 (o : Slot) : Prop := o = .unset ∨ ∃ w, o = .val w ∧ w.category = 1
def k2 (o o2 : Slot) : Prop := (o = .unset ∧ o2 = .unset) ∨ ∃ u, o = .val (.long u) ∧ o2 = .second
theorem setAt_l {L : List Slot} {k : Nat} {x : Slot} (h : k < L.length) : setAt L.toArray k x = some (L.set k x).toArray := by simp [setAt, h]
theorem get_l {L : List Slot} {k : Nat} {o : Slot} (h : L[k]? = some o) : L.toArray[k]? = some o := by rw [List.getElem?_toArray]; exact h
theorem store_u {L : List Slot} {k : Nat} {v : Value} (h : L[k]? = some .unset) : storeLocals L.toArray k v = storeSelf L.toArray k v := by
  simp only [storeLocals, Option.bind_eq_bind, get_l h, Option.bind_some]
theorem store_1 {L : List Slot} {k : Nat} {v w : Value} (h : L[k]? = some (.val w)) (hw : w.category = 1) : storeLocals L.toArray k v = storeSelf L.toArray k v := by
  simp only [storeLocals, Option.bind_eq_bind, get_l h, Option.bind_some]
  rw [if_neg (by rw [hw]; decide)]
theorem store_k {L : List Slot} {k : Nat} {v : Value} {o : Slot} (h : L[k]? = some o) (ho : k1 o) : storeLocals L.toArray k v = storeSelf L.toArray k v := by
  rcases ho with rfl | ⟨w, rfl, hw⟩
  · exact store_u h
  · exact store_1 h hw
theorem store_2 {L : List Slot} {k : Nat} {v w : Value} (h : L[k]? = some (.val w)) (hw : w.category = 2) (l2 : k + 1 < L.length) : storeLocals L.toArray k v = storeSelf (L.set (k + 1) .unset).toArray k v := by
  simp only [storeLocals, Option.bind_eq_bind, get_l h, Option.bind_some]
  rw [if_pos hw, setAt_l l2, Option.bind_some]
theorem self_1 {L : List Slot} {k : Nat} {v : Value} (hv : v.category = 1) (l : k < L.length) : storeSelf L.toArray k v = some (L.set k (.val v)).toArray := by
  simp only [storeSelf, Option.bind_eq_bind, setAt_l l, Option.bind_some]
  rw [if_neg (by rw [hv]; decide)]
theorem self_2 {L : List Slot} {k : Nat} {v : Value} {o : Slot} (hv : v.category = 2) (h : L[k + 1]? = some o) (ho : k1 o ∨ o = .second) (l : k < L.length) : storeSelf L.toArray k v = some ((L.set k (.val v)).set (k + 1) .second).toArray := by
  have l2 := (List.getElem?_eq_some_iff.mp h).1
  have e2 : (L.set k (.val v))[k + 1]? = some o := by rw [List.getElem?_set_ne (by omega)]; exact h
  simp only [storeSelf, Option.bind_eq_bind, setAt_l l, Option.bind_some]
  rw [if_pos hv, get_l e2, Option.bind_some]
  rcases ho with (rfl | ⟨w, rfl, hw⟩) | rfl
  · exact setAt_l (by rw [List.length_set]; exact l2)
  · dsimp only
    rw [if_neg (by rw [hw]; decide)]
    exact setAt_l (by rw [List.length_set]; exact l2)
  · exact setAt_l (by rw [List.length_set]; exact l2)
theorem self_3 {L : List Slot} {k : Nat} {v w : Value} (hv : v.category = 2) (h : L[k + 1]? = some (.val w)) (hw : w.category = 2) (l3 : k + 2 < L.length) (l : k < L.length) : storeSelf L.toArray k v = some (((L.set k (.val v)).set (k + 2) .unset).set (k + 1) .second).toArray := by
  have l2 := (List.getElem?_eq_some_iff.mp h).1
  have e2 : (L.set k (.val v))[k + 1]? = some (.val w) := by rw [List.getElem?_set_ne (by omega)]; exact h
  simp only [storeSelf, Option.bind_eq_bind, setAt_l l, Option.bind_some]
  rw [if_pos hv, get_l e2, Option.bind_some]
  dsimp only
  rw [if_pos hw, setAt_l (by rw [List.length_set]; exact l3), Option.bind_some, setAt_l (by rw [List.length_set, List.length_set]; exact l2)]
theorem stx {L : List Slot} {k : Nat} {o : Slot} {v : Value} (h : L[k]? = some o) (ho : k1 o) (hv : v.category = 1) : storeLocals L.toArray k v = some (L.set k (.val v)).toArray := by
  rw [store_k h ho, self_1 hv (List.getElem?_eq_some_iff.mp h).1]
theorem stx3 {L : List Slot} {k : Nat} {o o2 : Slot} {u : Int64} (h : L[k]? = some o) (h2 : L[k + 1]? = some o2) (ho : k1 o) (ho2 : k1 o2) : storeLocals L.toArray k (.long u) = some ((L.set k (.val (.long u))).set (k + 1) .second).toArray := by
  rw [store_k h ho, self_2 rfl h2 (Or.inl ho2) (List.getElem?_eq_some_iff.mp h).1]
theorem stx2 {L : List Slot} {k : Nat} {o o2 : Slot} {u : Int64} (h : L[k]? = some o) (h2 : L[k + 1]? = some o2) (ho : k2 o o2) : storeLocals L.toArray k (.long u) = some ((L.set k (.val (.long u))).set (k + 1) .second).toArray := by
  have l1 := (List.getElem?_eq_some_iff.mp h).1
  have l2 := (List.getElem?_eq_some_iff.mp h2).1
  rcases ho with ⟨rfl, rfl⟩ | ⟨u', rfl, rfl⟩
  · exact stx3 h h2 (Or.inl rfl) (Or.inl rfl)
  · rw [store_2 h rfl l2, self_2 (o := .unset) rfl (by rw [List.getElem?_set_self l2]) (Or.inl (Or.inl rfl)) (by rw [List.length_set]; exact l1)]
    rw [List.set_comm _ _ (show k + 1 ≠ k by omega), List.set_set]
theorem stx4 {L : List Slot} {k : Nat} {o2 : Slot} {w : Int64} {v : Value} (h : L[k]? = some (.val (.long w))) (h2 : L[k + 1]? = some o2) (hv : v.category = 1) : storeLocals L.toArray k v = some ((L.set (k + 1) .unset).set k (.val v)).toArray := by
  rw [store_2 h rfl (List.getElem?_eq_some_iff.mp h2).1, self_1 hv (by rw [List.length_set]; exact (List.getElem?_eq_some_iff.mp h).1)]
theorem stx5 {L : List Slot} {k : Nat} {o o3 : Slot} {w u : Int64} (h : L[k]? = some o) (ho : k1 o) (h2 : L[k + 1]? = some (.val (.long w))) (h3 : L[k + 2]? = some o3) : storeLocals L.toArray k (.long u) = some (((L.set k (.val (.long u))).set (k + 2) .unset).set (k + 1) .second).toArray := by
  rw [store_k h ho, self_3 rfl h2 rfl (List.getElem?_eq_some_iff.mp h3).1 (List.getElem?_eq_some_iff.mp h).1]
/-- a tail of dead variables -/
def wtf : Slot ⊕ Int64 → List Slot
  | .inl x => [x]
  | .inr u => [.val (.long u), .second]
def WT (D : List Slot) : Prop := ∃ l : List (Slot ⊕ Int64), D = l.flatMap wtf ∧ ∀ x, Sum.inl x ∈ l → k1 x
theorem wt0 : WT [] := ⟨[], rfl, fun _ h => nomatch h⟩
theorem wt1 {x : Slot} {D : List Slot} (h : k1 x) (W : WT D) : WT (x :: D) := by
  obtain ⟨l, rfl, g⟩ := W
  refine ⟨.inl x :: l, by simp [wtf], fun y hy => ?_⟩
  rcases List.mem_cons.mp hy with e | e
  · cases e; exact h
  · exact g y e
theorem wt2 {u : Int64} {D : List Slot} (W : WT D) : WT (.val (.long u) :: .second :: D) := by
  obtain ⟨l, rfl, g⟩ := W
  refine ⟨.inr u :: l, by simp [wtf], fun y hy => ?_⟩
  rcases List.mem_cons.mp hy with e | e
  · cases e
  · exact g y e
theorem wt12 {x y : Slot} {D : List Slot} (h : k2 x y) (W : WT D) : WT (x :: y :: D) := by
  rcases h with ⟨rfl, rfl⟩ | ⟨u, rfl, rfl⟩
  · exact wt1 (Or.inl rfl) (wt1 (Or.inl rfl) W)
  · exact wt2 W
theorem wt_cases {D : List Slot} (W : WT D) : D = [] ∨ (∃ x E, D = x :: E ∧ k1 x ∧ WT E) ∨ ∃ u E, D = .val (.long u) :: .second :: E ∧ WT E := by
  obtain ⟨l, rfl, g⟩ := W
  match l, g with
  | [], _ => exact Or.inl rfl
  | .inl x :: r, g => exact Or.inr (Or.inl ⟨x, r.flatMap wtf, by simp [wtf], g x (List.mem_cons_self ..), r, rfl, fun y hy => g y (List.mem_cons_of_mem _ hy)⟩)
  | .inr u :: r, g => exact Or.inr (Or.inr ⟨u, r.flatMap wtf, by simp [wtf], r, rfl, fun y hy => g y (List.mem_cons_of_mem _ hy)⟩)
theorem stT {L0 D : List Slot} {v : Value} {n : Nat} (W : WT D) (hl : D.length = n + 1) (hv : v.category = 1) : ∃ D', WT D' ∧ D'.length = n ∧ storeLocals (L0 ++ D).toArray L0.length v = some (L0 ++ ([.val v] : List Slot) ++ D').toArray := by
  rcases wt_cases W with rfl | ⟨x, E, rfl, hx, WE⟩ | ⟨u, E, rfl, WE⟩
  · simp at hl
  · refine ⟨E, WE, by simpa using hl, ?_⟩
    rw [stx (o := x) (by simp) hx hv]; simp
  · refine ⟨.unset :: E, wt1 (Or.inl rfl) WE, by simpa using hl, ?_⟩
    rw [stx4 (w := u) (o2 := .second) (by simp) (by rw [List.getElem?_append_right (by omega)]; simp) hv]
    simp [List.set_append]
theorem stT2 {L0 D : List Slot} {u : Int64} {n : Nat} (W : WT D) (hl : D.length = n + 2) : ∃ D', WT D' ∧ D'.length = n ∧ storeLocals (L0 ++ D).toArray L0.length (.long u) = some (L0 ++ ([.val (.long u), .second] : List Slot) ++ D').toArray := by
  rcases wt_cases W with rfl | ⟨x, E, rfl, hx, WE⟩ | ⟨w, E, rfl, WE⟩
  · simp at hl
  · rcases wt_cases WE with rfl | ⟨y, F, rfl, hy, WF⟩ | ⟨w, F, rfl, WF⟩
    · simp at hl
    · refine ⟨F, WF, by simpa using hl, ?_⟩
      rw [stx3 (o := x) (o2 := y) (by simp) (by rw [List.getElem?_append_right (by omega)]; simp) hx hy]
      simp [List.set_append]
    · refine ⟨.unset :: F, wt1 (Or.inl rfl) WF, by simpa using hl, ?_⟩
      rw [stx5 (o := x) (w := w) (o3 := .second) (by simp) hx (by rw [List.getElem?_append_right (by omega)]; simp) (by rw [List.getElem?_append_right (by omega)]; simp)]
      simp [List.set_append]
  · refine ⟨E, WE, by simpa using hl, ?_⟩
    rw [stx2 (o := .val (.long w)) (o2 := .second) (by simp) (by rw [List.getElem?_append_right (by omega)]; simp) (Or.inr ⟨w, rfl, rfl⟩)]
    simp [List.set_append]
/-- the variables at a method's entry -/
def argL : List Value → List Slot
  | [] => []
  | v :: r => if v.category = 2 then .val v :: .second :: argL r else .val v :: argL r
def entryL (as : List Value) (n : Nat) : List Slot := argL as ++ List.replicate (n - (argL as).length) .unset
theorem argL_fold : ∀ (as : List Value) (acc : List Slot), as.foldl (fun acc v => if v.category = 2 then (acc.push (.val v)).push .second else acc.push (.val v)) acc.toArray = (acc ++ argL as).toArray
  | [], acc => by simp [argL]
  | v :: r, acc => by
    simp only [List.foldl_cons, argL]
    split
    · rename_i q
      rw [show ((acc.toArray.push (Slot.val v)).push Slot.second) = (acc ++ [Slot.val v, Slot.second]).toArray by simp, argL_fold r]
      simp
    · rename_i q
      rw [show (acc.toArray.push (Slot.val v)) = (acc ++ [Slot.val v]).toArray by simp, argL_fold r]
      simp
theorem argL_map (α b : Nat) : ∀ as : List Value, argL (cV α b as) = (argL as).map (cs α b)
  | [] => rfl
  | v :: r => by
    have ih := argL_map α b r
    simp only [cV, List.map_cons, argL, con_cat] at ih ⊢
    split <;> simp [ih, cs]
theorem entry_locals (α b : Nat) (as : List Value) (n : Nat) : argsToLocals (cV α b as).toArray n = cL α b (entryL as n) := by
  have h := argL_fold (cV α b as) []
  simp only [List.nil_append] at h
  have h' : (cV α b as).toArray.foldl (fun acc v => if v.category = 2 then (acc.push (Slot.val v)).push Slot.second else acc.push (Slot.val v)) #[] = (argL (cV α b as)).toArray := by
    rw [← h]; simp
  simp only [argsToLocals]
  rw [h', argL_map]
  simp [cL, entryL, List.map_append, cs]
/-! ## 3. What the heap shows -/
def scV (ty : FieldType) (s : S) (f : Nat) : Value := match ty with
  | .long => .long (gL s f)
  | _ => .int (gI s f)
def arV (ty : FieldType) (s : S) (q : Nat) : List Value := match ty with
  | .long => (gB s q).map .long
  | _ => (gA s q).map .int
def Ar (Z : State) (h : Heap) (a : Nat) (ty : FieldType) (vs : List Value) : Prop := ∃ c : Cell, Arr Z h a c ty ∧ c.slots = vs.toArray
def Rep1 (Z : State) (ci : CI) (h : Heap) (b : Nat) (o : Nat × S) : Prop :=
  Exa Z h b (cN ci) ∧ (∀ f x, (cS ci)[f]? = some x → Fld Z h b (cN ci) x.1 x.2.1 (scV x.2.2 o.2 f)) ∧
  (∀ q x, (cA ci)[q]? = some x → Fld Z h b (cN ci) x.1 x.2.1 (if q < o.1 then .ref (b + 1 + q) else .null)) ∧
  (∀ q x, (cA ci)[q]? = some x → q < o.1 → Ar Z h (b + 1 + q) x.2.2.1 (arV x.2.2.1 o.2 q))
def RepW (Z : State) (ci : CI) (α b : Nat) (w : W) (h : Heap) : Prop :=
  (∀ l, w.1 = some l → Ar Z h α .int (l.map .int) ∧ α < b) ∧ ∀ i o, w.2[i]? = some o → Rep1 Z ci h (b + (cK ci + 1) * i) o
def Frm (lo hi : Nat) (h0 h : Heap) : Prop := ∀ (x : Nat) (c : Cell), h0[x]? = some c → (x < lo ∨ hi ≤ x) → h[x]? = some c
def usedC (w : W) : Nat := (w.2.map fun o => 1 + o.1).sum
def usedS (ci : CI) (w : W) : Nat := (w.2.map fun o => cF ci + (((cA ci).take o.1).map fun x => x.2.2.2).sum).sum
/-- what the sheet says of the class -/
def Facts (Z : State) (a0 : Array Value) (ci : CI) : Prop :=
  (Jvm.Cond.instantiable (cN ci) (cF ci)).before a0 Z = true ∧ (Jvm.Cond.initialized (cN ci)).before a0 Z = true ∧
  (∀ (f : Nat) (x : String × String × FieldType), (cS ci)[f]? = some x → Laid Z a0 (cN ci) (cN ci) x.1 x.2.1 ∧ parseFieldDescriptor x.2.1 = some x.2.2) ∧
  (∀ (q : Nat) (x : String × String × FieldType × Nat), (cA ci)[q]? = some x → Laid Z a0 (cN ci) (cN ci) x.1 x.2.1 ∧ parseFieldDescriptor x.2.1 = some (.array x.2.2.1)) ∧
  ((cS ci).map (fun x => x.1) ++ (cA ci).map (fun x => x.1)).Nodup ∧ (∀ f x, (cS ci)[f]? = some x → defaultValue x.2.2 = scV x.2.2 s0 f) ∧ (cN ci ≠ "java/lang/invoke/MethodHandle" ∧ cN ci ≠ "java/lang/invoke/VarHandle")
theorem nq {a b : Nat} (h : a ≠ b) : @Ne Addr a b := h
theorem Ar.frm {Z : State} {h h' : Heap} {a : Nat} {ty : FieldType} {vs : List Value} (A : Ar Z h a ty vs) (k : ∀ c, h[a]? = some c → h'[a]? = some c) : Ar Z h' a ty vs := by
  obtain ⟨c, ⟨q1, q2⟩, q3⟩ := A; exact ⟨c, ⟨k c q1, q2⟩, q3⟩
theorem fld_frm {Z : State} {h h' : Heap} {a : Nat} {C n d : String} {v : Value} (F : Fld Z h a C n d v) (k : ∀ c, h[a]? = some c → h'[a]? = some c) : Fld Z h' a C n d v := by
  obtain ⟨cell, cf, kc, i, f, h1, r⟩ := F; exact ⟨cell, cf, kc, i, f, k _ h1, r⟩
theorem exa_frm {Z : State} {h h' : Heap} {a : Nat} {C : String} (F : Exa Z h a C) (k : ∀ c, h[a]? = some c → h'[a]? = some c) : Exa Z h' a C := by
  obtain ⟨cell, kc, h1, r⟩ := F; exact ⟨cell, kc, k _ h1, r⟩
theorem get_lt {A : Type} {l : List A} {i : Nat} {x : A} (h : l[i]? = some x) : i < l.length := (List.getElem?_eq_some_iff.mp h).1
theorem Rep1.frm {Z : State} {ci : CI} {h h' : Heap} {b : Nat} {o : Nat × S} (F : Rep1 Z ci h b o) (k : ∀ x c, b ≤ x → x < b + (cK ci + 1) → h[x]? = some c → h'[x]? = some c) : Rep1 Z ci h' b o := by
  obtain ⟨f1, f2, f3, f4⟩ := F
  refine ⟨exa_frm f1 fun c => k b c (Nat.le_refl _) (by omega), fun f x hx => fld_frm (f2 f x hx) fun c => k b c (Nat.le_refl _) (by omega), fun q x hx => fld_frm (f3 q x hx) fun c => k b c (Nat.le_refl _) (by omega), fun q x hx hq => (f4 q x hx hq).frm fun c => k _ c (by omega) ?_⟩
  have := get_lt hx
  simp only [cK]; omega
theorem RepW.ext {Z : State} {ci : CI} {α b : Nat} {w : W} {h h' : Heap} (F : RepW Z ci α b w h) (E : Ext h h') : RepW Z ci α b w h' :=
  ⟨fun l hl => ⟨((F.1 l hl).1).frm fun c q => E.2 _ _ q, (F.1 l hl).2⟩, fun i o ho => (F.2 i o ho).frm fun x c _ _ q => E.2 _ _ q⟩
theorem Frm.refl (lo hi : Nat) (h : Heap) : Frm lo hi h h := fun _ _ q _ => q
theorem Frm.trans {lo hi : Nat} {h0 h1 h2 : Heap} (A : Frm lo hi h0 h1) (B : Frm lo hi h1 h2) : Frm lo hi h0 h2 := fun x c q r => B x c (A x c q r) r
theorem Frm.wide {lo hi lo' hi' : Nat} {h0 h1 : Heap} (A : Frm lo hi h0 h1) (q1 : lo' ≤ lo) (q2 : hi ≤ hi') : Frm lo' hi' h0 h1 := fun x c q r => A x c q (by omega)
theorem Frm.ext {lo hi : Nat} {h0 h1 h2 : Heap} (A : Frm lo hi h0 h1) (E : Ext h1 h2) : Frm lo hi h0 h2 := fun x c q r => E.2 _ _ (A x c q r)
theorem Frm.wr {lo hi : Nat} {h0 h1 h2 : Heap} {a : Nat} {sl : Nat} {v : Value} (A : Frm lo hi h0 h1) (Wt : Wr h1 h2 a sl v) (q1 : lo ≤ a) (q2 : a < hi) : Frm lo hi h0 h2 := fun x c q r => by
  have q3 := A x c q r
  obtain ⟨c', e1, -, -, -, e5, -⟩ := wr_at Wt q3
  have : x ≠ a := by omega
  rw [← e5 this]; exact e1
/-! ## 4. The walk -/
def Ok (P : PI) (M : Meth) (Z : State) (a0 : Array Value) (p : Program) (R : Room) (s : State) (m : MethodId) (meth : Method) (c : Code) (b n0 : Nat) (h0 : Heap) (uC uS : Nat) : Prop :=
  (∀ d ∈ P.1, d.before a0 Z = true) ∧ Facts Z a0 P.2 ∧ p.tables.exec = Jvm.exec ∧ Z.Warmed39 s.vm ∧ s.vm.findClass (mY M).cls = some m.cls ∧ c.code = mB M ∧ c.maxLocals = mL M ∧ meth.sig.returnType = mT M ∧ meth.name = (mY M).name ∧ R = mR M ∧ n0 ≤ b ∧
  (mTop M = true → h0.size = b + uC ∧ uC = mUC M ∧ uS = mUS M) ∧ s.heap.size = h0.size
def Inv (P : PI) (M : Meth) (l : Launch) (Z : State) (p : Program) (e : Env) (R : Room) (s : State) (m : MethodId) (args : Array Value) (below : List Frame) (meth : Method) (c : Code) (α b n0 : Nat) (h0 : Heap) (uC uS : Nat) (w : W) (T : State) (locs : List Loc) (cells slots : Nat) : Prop :=
  Stand p l e R s m args below meth c T locs cells slots ∧ RepW Z P.2 α b w T.heap ∧ Frm b (b + (cK P.2 + 1) * mN M) h0 T.heap ∧ Fr n0 locs ∧ T.heap.size = h0.size + cells ∧ cells + uC = usedC w ∧ slots + uS = usedS P.2 w ∧ cells ≤ R.cells ∧ slots ≤ R.slots ∧ w.2.length ≤ mN M
def Lv (e : Env) (T : State) (m : MethodId) (r : Option Value) (fs : List Frame) : Prop := ∀ (f : JFrame) (acts : List Action), f.method = m → f.locked = none → f.entered = [] → (doReturn e (T.setTop f) acts r).1 = T.setFrames fs
/-- from here the invocation comes to its end, with this value and this world -/
def Go (P : PI) (M : Meth) (pc : Nat) (L : List Slot) (st : List Value) (w : W) (out : Option Value × W) : Prop :=
  L.length = mL M → ∀ (l : Launch) (Z : State) (a0 : Array Value) (p : Program) (e : Env) (R : Room) (s : State) (m : MethodId) (args : Array Value) (below : List Frame) (meth : Method) (c : Code) (α b n0 : Nat) (h0 : Heap) (uC uS : Nat),
    Ok P M Z a0 p R s m meth c b n0 h0 uC uS → ∀ (T : State) (locs : List Loc) (cells slots : Nat), Inv P M l Z p e R s m args below meth c α b n0 h0 uC uS w T locs cells slots →
    ∃ (T' : State) (locs' : List Loc) (cells' slots' : Nat), Inv P M l Z p e R s m args below meth c α b n0 h0 uC uS out.2 T' locs' cells' slots' ∧
      ∀ fs, Lv e T' m (out.1.map (con α b)) fs → Steps p.tables e below (T.setTop (mkF m pc (cL α b L) (cV α b st))) (T'.setFrames fs)
section Rules
variable {P : PI} {M : Meth} {pc pc' : Nat} {L L' : List Slot} {st st' : List Value} {w w' : W} {out : Option Value × W} {x y z v : Int32} {u r : Int64}
theorem go_mv (hL : L.length = mL M → L'.length = mL M)
    (H : ∀ {p : Program} {e : Env} {below : List Frame} {T target : State} {m : MethodId} {c : Code}, At T m c below → p.tables.exec = Jvm.exec → c.code = mB M → ∀ α b : Nat, Steps p.tables e below (T.setTop (mkF m pc' (cL α b L') (cV α b st'))) target → Steps p.tables e below (T.setTop (mkF m pc (cL α b L) (cV α b st))) target)
    (k : Go P M pc' L' st' w out) : Go P M pc L st w out := by
  intro hl l Z a0 p e R s m args below meth c α b n0 h0 uC uS ok T locs cells slots I
  obtain ⟨T', l', c', n', I', fin⟩ := k (hL hl) l Z a0 p e R s m args below meth c α b n0 h0 uC uS ok T locs cells slots I
  exact ⟨T', l', c', n', I', fun fs hv => H I.1.here ok.2.2.1 ok.2.2.2.2.2.1 α b (fin fs hv)⟩
theorem go_ch (H : ∀ (l : Launch) (Z : State) (a0 : Array Value) (p : Program) (e : Env) (R : Room) (s : State) (m : MethodId) (args : Array Value) (below : List Frame) (meth : Method) (c : Code) (α b n0 : Nat) (h0 : Heap) (uC uS : Nat),
      Ok P M Z a0 p R s m meth c b n0 h0 uC uS → L.length = mL M → ∀ (T : State) (locs : List Loc) (cells slots : Nat), Inv P M l Z p e R s m args below meth c α b n0 h0 uC uS w T locs cells slots →
      ∃ (T' : State) (locs' : List Loc) (cells' slots' : Nat), Inv P M l Z p e R s m args below meth c α b n0 h0 uC uS w' T' locs' cells' slots' ∧
        ∀ target, Steps p.tables e below (T'.setTop (mkF m pc' (cL α b L) (cV α b st'))) target → Steps p.tables e below (T.setTop (mkF m pc (cL α b L) (cV α b st))) target)
    (k : Go P M pc' L st' w' out) : Go P M pc L st w out := by
  intro hl l Z a0 p e R s m args below meth c α b n0 h0 uC uS ok T locs cells slots I
  obtain ⟨T1, l1, c1, n1, I1, h1⟩ := H l Z a0 p e R s m args below meth c α b n0 h0 uC uS ok hl T locs cells slots I
  obtain ⟨T', l', c', n', I', fin⟩ := k hl l Z a0 p e R s m args below meth c α b n0 h0 uC uS ok T1 l1 c1 n1 I1
  exact ⟨T', l', c', n', I', fun fs hv => h1 _ (fin fs hv)⟩
/-! ### loads, stores, constants -/
theorem go_iloadN {k : Fin 4} (d : decode (mB M) pc = .ok (.iload_n k, 1)) (hl : L[k.val]? = some (.val (.int v))) (g : Go P M (pc + 1) L (.int v :: st) w out) : Go P M pc L (st) w out :=
  go_mv id (fun h hx hc α b r => XS.iloadN (g := mkF _ pc (cL α b L) (cV α b (st))) h hx rfl (hb hc d) (cL_get hl) r) g
theorem go_iload {k : Nat} (d : decode (mB M) pc = .ok (.iload k, 2)) (hl : L[k]? = some (.val (.int v))) (g : Go P M (pc + 2) L (.int v :: st) w out) : Go P M pc L (st) w out :=
  go_mv id (fun h hx hc α b r => XS.iload (g := mkF _ pc (cL α b L) (cV α b (st))) h hx rfl (hb hc d) (cL_get hl) r) g
theorem go_lloadN {k : Fin 4} (d : decode (mB M) pc = .ok (.lload_n k, 1)) (hl : L[k.val]? = some (.val (.long u))) (g : Go P M (pc + 1) L (.long u :: st) w out) : Go P M pc L (st) w out :=
  go_mv id (fun h hx hc α b r => XT.lloadN (g := mkF _ pc (cL α b L) (cV α b (st))) h hx rfl (hb hc d) (cL_get hl) r) g
theorem go_lload {k : Nat} (d : decode (mB M) pc = .ok (.lload k, 2)) (hl : L[k]? = some (.val (.long u))) (g : Go P M (pc + 2) L (.long u :: st) w out) : Go P M pc L (st) w out :=
  go_mv id (fun h hx hc α b r => XT.lload (g := mkF _ pc (cL α b L) (cV α b (st))) h hx rfl (hb hc d) (cL_get hl) r) g
theorem go_aloadN {k : Fin 4} {a : Nat} (d : decode (mB M) pc = .ok (.aload_n k, 1)) (hl : L[k.val]? = some (.val (.ref a))) (g : Go P M (pc + 1) L (.ref a :: st) w out) : Go P M pc L (st) w out :=
  go_mv id (fun h hx hc α b r => XS.aloadN (g := mkF _ pc (cL α b L) (cV α b (st))) h hx rfl (hb hc d) (cL_get hl) (con_ref α b (.ref a)) r) g
theorem go_aload {k : Nat} {a : Nat} (d : decode (mB M) pc = .ok (.aload k, 2)) (hl : L[k]? = some (.val (.ref a))) (g : Go P M (pc + 2) L (.ref a :: st) w out) : Go P M pc L (st) w out :=
  go_mv id (fun h hx hc α b r => XS.aload (g := mkF _ pc (cL α b L) (cV α b (st))) h hx rfl (hb hc d) (cL_get hl) (con_ref α b (.ref a)) r) g
theorem go_istoreN {k : Fin 4} (d : decode (mB M) pc = .ok (.istore_n k, 1)) (hl : storeLocals L.toArray k.val (.int x) = some L'.toArray) (g : Go P M (pc + 1) L' (st) w out) : Go P M pc L (.int x :: st) w out :=
  go_mv (fun q => by have := store_size hl; simp at this; omega) (fun h hx hc α b r => XS.istoreN (g := mkF _ pc (cL α b L) (cV α b (.int x :: st))) h hx rfl (hb hc d) rfl (storeC hl) r) g
theorem go_istore {k : Nat} (d : decode (mB M) pc = .ok (.istore k, 2)) (hl : storeLocals L.toArray k (.int x) = some L'.toArray) (g : Go P M (pc + 2) L' (st) w out) : Go P M pc L (.int x :: st) w out :=
  go_mv (fun q => by have := store_size hl; simp at this; omega) (fun h hx hc α b r => XS.istore (g := mkF _ pc (cL α b L) (cV α b (.int x :: st))) h hx rfl (hb hc d) rfl (storeC hl) r) g
theorem go_lstoreN {k : Fin 4} (d : decode (mB M) pc = .ok (.lstore_n k, 1)) (hl : storeLocals L.toArray k.val (.long u) = some L'.toArray) (g : Go P M (pc + 1) L' (st) w out) : Go P M pc L (.long u :: st) w out :=
  go_mv (fun q => by have := store_size hl; simp at this; omega) (fun h hx hc α b r => XT.lstoreN (g := mkF _ pc (cL α b L) (cV α b (.long u :: st))) h hx rfl (hb hc d) rfl (storeC hl) r) g
theorem go_lstore {k : Nat} (d : decode (mB M) pc = .ok (.lstore k, 2)) (hl : storeLocals L.toArray k (.long u) = some L'.toArray) (g : Go P M (pc + 2) L' (st) w out) : Go P M pc L (.long u :: st) w out :=
  go_mv (fun q => by have := store_size hl; simp at this; omega) (fun h hx hc α b r => XT.lstore (g := mkF _ pc (cL α b L) (cV α b (.long u :: st))) h hx rfl (hb hc d) rfl (storeC hl) r) g
theorem go_astoreN {k : Fin 4} {a : Nat} (d : decode (mB M) pc = .ok (.astore_n k, 1)) (hl : storeLocals L.toArray k.val (.ref a) = some L'.toArray) (g : Go P M (pc + 1) L' (st) w out) : Go P M pc L (.ref a :: st) w out :=
  go_mv (fun q => by have := store_size hl; simp at this; omega) (fun h hx hc α b r => XS.astoreN (g := mkF _ pc (cL α b L) (cV α b (.ref a :: st))) h hx rfl (hb hc d) rfl (con_ref α b (.ref a)) (storeC hl) r) g
theorem go_astore {k : Nat} {a : Nat} (d : decode (mB M) pc = .ok (.astore k, 2)) (hl : storeLocals L.toArray k (.ref a) = some L'.toArray) (g : Go P M (pc + 2) L' (st) w out) : Go P M pc L (.ref a :: st) w out :=
  go_mv (fun q => by have := store_size hl; simp at this; omega) (fun h hx hc α b r => XS.astore (g := mkF _ pc (cL α b L) (cV α b (.ref a :: st))) h hx rfl (hb hc d) rfl (con_ref α b (.ref a)) (storeC hl) r) g
theorem go_istoreNT {k : Fin 4} {L0 L1 D : List Slot} {n : Nat} (d : decode (mB M) pc = .ok (.istore_n k, 1)) (hk : k.val = L0.length) (h1 : L1 = L0 ++ [.val (.int x)]) (W : WT D) (hl : D.length = n + 1) (g : ∀ D', WT D' → D'.length = n → Go P M (pc + 1) (L1 ++ D') st w out) : Go P M pc (L0 ++ D) (.int x :: st) w out := by
  obtain ⟨D', W', l', e⟩ := stT (L0 := L0) (v := .int x) W hl rfl
  subst h1
  exact go_istoreN d (by rw [hk]; exact e) (g D' W' l')
theorem nilT {Q : List Slot → Prop} (g : Q []) : ∀ D', WT D' → D'.length = 0 → Q D' := fun D' _ l => by
  cases D' with
  | nil => exact g
  | cons => cases l
theorem go_istoreT {k : Nat} {L0 L1 D : List Slot} {n : Nat} (d : decode (mB M) pc = .ok (.istore k, 2)) (hk : k = L0.length) (h1 : L1 = L0 ++ [.val (.int x)]) (W : WT D) (hl : D.length = n + 1) (g : ∀ D', WT D' → D'.length = n → Go P M (pc + 2) (L1 ++ D') st w out) : Go P M pc (L0 ++ D) (.int x :: st) w out := by
  obtain ⟨D', W', l', e⟩ := stT (L0 := L0) (v := .int x) W hl rfl
  subst h1
  exact go_istore d (by rw [hk]; exact e) (g D' W' l')
theorem go_astoreNT {k : Fin 4} {L0 L1 D : List Slot} {n : Nat} {a : Nat} (d : decode (mB M) pc = .ok (.astore_n k, 1)) (hk : k.val = L0.length) (h1 : L1 = L0 ++ [.val (.ref a)]) (W : WT D) (hl : D.length = n + 1) (g : ∀ D', WT D' → D'.length = n → Go P M (pc + 1) (L1 ++ D') st w out) : Go P M pc (L0 ++ D) (.ref a :: st) w out := by
  obtain ⟨D', W', l', e⟩ := stT (L0 := L0) (v := .ref a) W hl rfl
  subst h1
  exact go_astoreN d (by rw [hk]; exact e) (g D' W' l')
theorem go_astoreT {k : Nat} {L0 L1 D : List Slot} {n : Nat} {a : Nat} (d : decode (mB M) pc = .ok (.astore k, 2)) (hk : k = L0.length) (h1 : L1 = L0 ++ [.val (.ref a)]) (W : WT D) (hl : D.length = n + 1) (g : ∀ D', WT D' → D'.length = n → Go P M (pc + 2) (L1 ++ D') st w out) : Go P M pc (L0 ++ D) (.ref a :: st) w out := by
  obtain ⟨D', W', l', e⟩ := stT (L0 := L0) (v := .ref a) W hl rfl
  subst h1
  exact go_astore d (by rw [hk]; exact e) (g D' W' l')
theorem go_lstoreNT {k : Fin 4} {L0 L1 D : List Slot} {n : Nat} (d : decode (mB M) pc = .ok (.lstore_n k, 1)) (hk : k.val = L0.length) (h1 : L1 = L0 ++ [.val (.long u), .second]) (W : WT D) (hl : D.length = n + 2) (g : ∀ D', WT D' → D'.length = n → Go P M (pc + 1) (L1 ++ D') st w out) : Go P M pc (L0 ++ D) (.long u :: st) w out := by
  obtain ⟨D', W', l', e⟩ := stT2 (L0 := L0) (u := u) W hl
  subst h1
  exact go_lstoreN d (by rw [hk]; exact e) (g D' W' l')
theorem go_lstoreT {k : Nat} {L0 L1 D : List Slot} {n : Nat} (d : decode (mB M) pc = .ok (.lstore k, 2)) (hk : k = L0.length) (h1 : L1 = L0 ++ [.val (.long u), .second]) (W : WT D) (hl : D.length = n + 2) (g : ∀ D', WT D' → D'.length = n → Go P M (pc + 2) (L1 ++ D') st w out) : Go P M pc (L0 ++ D) (.long u :: st) w out := by
  obtain ⟨D', W', l', e⟩ := stT2 (L0 := L0) (u := u) W hl
  subst h1
  exact go_lstore d (by rw [hk]; exact e) (g D' W' l')
theorem go_iconst {i : Int} (d : decode (mB M) pc = .ok (.iconst i, 1)) (hv : v = Int32.ofInt i) (g : Go P M (pc + 1) L (.int v :: st) w out) : Go P M pc L (st) w out :=
  go_mv id (fun h hx hc α b r => XS.iconst (g := mkF _ pc (cL α b L) (cV α b (st))) h hx rfl (hb hc d) (hv ▸ r)) g
theorem go_bipush {i : Int} (d : decode (mB M) pc = .ok (.bipush i, 2)) (hv : v = (Int8.ofInt i).toInt32) (g : Go P M (pc + 2) L (.int v :: st) w out) : Go P M pc L (st) w out :=
  go_mv id (fun h hx hc α b r => XS.bipush (g := mkF _ pc (cL α b L) (cV α b (st))) h hx rfl (hb hc d) (hv ▸ r)) g
theorem go_sipush {i : Int} (d : decode (mB M) pc = .ok (.sipush i, 3)) (hv : v = (Int16.ofInt i).toInt32) (g : Go P M (pc + 3) L (.int v :: st) w out) : Go P M pc L (st) w out :=
  go_mv id (fun h hx hc α b r => XS.sipush (g := mkF _ pc (cL α b L) (cV α b (st))) h hx rfl (hb hc d) (hv ▸ r)) g
theorem go_lconst {i : Fin 2} (d : decode (mB M) pc = .ok (.lconst i, 1)) (hv : u = Int64.ofNat i) (g : Go P M (pc + 1) L (.long u :: st) w out) : Go P M pc L (st) w out :=
  go_mv id (fun h hx hc α b r => XT.lconst (g := mkF _ pc (cL α b L) (cV α b (st))) h hx rfl (hb hc d) (hv ▸ r)) g
theorem go_dup  (d : decode (mB M) pc = .ok (.dup, 1))  (g : Go P M (pc + 1) L (.int x :: .int x :: st) w out) : Go P M pc L (.int x :: st) w out :=
  go_mv id (fun h hx hc α b r => XS.dup (g := mkF _ pc (cL α b L) (cV α b (.int x :: st))) h hx rfl (hb hc d) rfl rfl r) g
theorem go_dupR {a : Nat} (d : decode (mB M) pc = .ok (.dup, 1))  (g : Go P M (pc + 1) L (.ref a :: .ref a :: st) w out) : Go P M pc L (.ref a :: st) w out :=
  go_mv id (fun h hx hc α b r => XS.dup (g := mkF _ pc (cL α b L) (cV α b (.ref a :: st))) h hx rfl (hb hc d) rfl (con_cat α b (.ref a)) r) g
theorem go_dup2 {a : Nat} (d : decode (mB M) pc = .ok (.dup2, 1))  (g : Go P M (pc + 1) L (.int x :: .ref a :: .int x :: .ref a :: st) w out) : Go P M pc L (.int x :: .ref a :: st) w out :=
  go_mv id (fun h hx hc α b r => XT.dup2 (g := mkF _ pc (cL α b L) (cV α b (.int x :: .ref a :: st))) h hx rfl (hb hc d) rfl rfl (con_cat α b (.ref a)) r) g
theorem go_dup2I  (d : decode (mB M) pc = .ok (.dup2, 1))  (g : Go P M (pc + 1) L (.int x :: .int y :: .int x :: .int y :: st) w out) : Go P M pc L (.int x :: .int y :: st) w out :=
  go_mv id (fun h hx hc α b r => XT.dup2 (g := mkF _ pc (cL α b L) (cV α b (.int x :: .int y :: st))) h hx rfl (hb hc d) rfl rfl rfl r) g
theorem go_dup2L  (d : decode (mB M) pc = .ok (.dup2, 1))  (g : Go P M (pc + 1) L (.long u :: .long u :: st) w out) : Go P M pc L (.long u :: st) w out :=
  go_mv id (fun h hx hc α b r => XT.dup2L (g := mkF _ pc (cL α b L) (cV α b (.long u :: st))) h hx rfl (hb hc d) rfl r) g
theorem go_pop  (d : decode (mB M) pc = .ok (.pop, 1))  (g : Go P M (pc + 1) L (st) w out) : Go P M pc L (.int x :: st) w out :=
  go_mv id (fun h hx hc α b r => XT.pop (g := mkF _ pc (cL α b L) (cV α b (.int x :: st))) h hx rfl (hb hc d) rfl rfl r) g
theorem go_iadd  (d : decode (mB M) pc = .ok (.iadd, 1))  (g : Go P M (pc + 1) L (.int (x + y) :: st) w out) : Go P M pc L (.int y :: .int x :: st) w out :=
  go_mv id (fun h hx hc α b r => XS.iadd (g := mkF _ pc (cL α b L) (cV α b (.int y :: .int x :: st))) h hx rfl (hb hc d) rfl r) g
theorem go_isub  (d : decode (mB M) pc = .ok (.isub, 1))  (g : Go P M (pc + 1) L (.int (x - y) :: st) w out) : Go P M pc L (.int y :: .int x :: st) w out :=
  go_mv id (fun h hx hc α b r => XS.isub (g := mkF _ pc (cL α b L) (cV α b (.int y :: .int x :: st))) h hx rfl (hb hc d) rfl r) g
theorem go_imul  (d : decode (mB M) pc = .ok (.imul, 1))  (g : Go P M (pc + 1) L (.int (x * y) :: st) w out) : Go P M pc L (.int y :: .int x :: st) w out :=
  go_mv id (fun h hx hc α b r => XS.imul (g := mkF _ pc (cL α b L) (cV α b (.int y :: .int x :: st))) h hx rfl (hb hc d) rfl r) g
theorem go_iand  (d : decode (mB M) pc = .ok (.iand, 1))  (g : Go P M (pc + 1) L (.int (x &&& y) :: st) w out) : Go P M pc L (.int y :: .int x :: st) w out :=
  go_mv id (fun h hx hc α b r => XS.iand (g := mkF _ pc (cL α b L) (cV α b (.int y :: .int x :: st))) h hx rfl (hb hc d) rfl r) g
theorem go_ior  (d : decode (mB M) pc = .ok (.ior, 1))  (g : Go P M (pc + 1) L (.int (x ||| y) :: st) w out) : Go P M pc L (.int y :: .int x :: st) w out :=
  go_mv id (fun h hx hc α b r => XT.ior (g := mkF _ pc (cL α b L) (cV α b (.int y :: .int x :: st))) h hx rfl (hb hc d) rfl r) g
theorem go_ixor  (d : decode (mB M) pc = .ok (.ixor, 1))  (g : Go P M (pc + 1) L (.int (x ^^^ y) :: st) w out) : Go P M pc L (.int y :: .int x :: st) w out :=
  go_mv id (fun h hx hc α b r => XT.ixor (g := mkF _ pc (cL α b L) (cV α b (.int y :: .int x :: st))) h hx rfl (hb hc d) rfl r) g
theorem go_ishl  (d : decode (mB M) pc = .ok (.ishl, 1))  (g : Go P M (pc + 1) L (.int (x <<< (y &&& 31)) :: st) w out) : Go P M pc L (.int y :: .int x :: st) w out :=
  go_mv id (fun h hx hc α b r => XT.ishl (g := mkF _ pc (cL α b L) (cV α b (.int y :: .int x :: st))) h hx rfl (hb hc d) rfl r) g
theorem go_ishr  (d : decode (mB M) pc = .ok (.ishr, 1))  (g : Go P M (pc + 1) L (.int (x >>> (y &&& 31)) :: st) w out) : Go P M pc L (.int y :: .int x :: st) w out :=
  go_mv id (fun h hx hc α b r => XT.ishr (g := mkF _ pc (cL α b L) (cV α b (.int y :: .int x :: st))) h hx rfl (hb hc d) rfl r) g
theorem go_iushr  (d : decode (mB M) pc = .ok (.iushr, 1))  (g : Go P M (pc + 1) L (.int (XT.ushr x y) :: st) w out) : Go P M pc L (.int y :: .int x :: st) w out :=
  go_mv id (fun h hx hc α b r => XT.iushr (g := mkF _ pc (cL α b L) (cV α b (.int y :: .int x :: st))) h hx rfl (hb hc d) rfl r) g
theorem go_idiv  (d : decode (mB M) pc = .ok (.idiv, 1)) (hy : y ≠ 0) (g : Go P M (pc + 1) L (.int (x / y) :: st) w out) : Go P M pc L (.int y :: .int x :: st) w out :=
  go_mv id (fun h hx hc α b r => XS.idiv (g := mkF _ pc (cL α b L) (cV α b (.int y :: .int x :: st))) h hx rfl (hb hc d) rfl hy r) g
theorem go_irem  (d : decode (mB M) pc = .ok (.irem, 1)) (hy : y ≠ 0) (g : Go P M (pc + 1) L (.int (x % y) :: st) w out) : Go P M pc L (.int y :: .int x :: st) w out :=
  go_mv id (fun h hx hc α b r => XS.irem (g := mkF _ pc (cL α b L) (cV α b (.int y :: .int x :: st))) h hx rfl (hb hc d) rfl hy (by rw [irem_eq_mod x y]; exact r)) g
theorem go_ineg  (d : decode (mB M) pc = .ok (.ineg, 1))  (g : Go P M (pc + 1) L (.int (-x) :: st) w out) : Go P M pc L (.int x :: st) w out :=
  go_mv id (fun h hx hc α b r => XS.ineg (g := mkF _ pc (cL α b L) (cV α b (.int x :: st))) h hx rfl (hb hc d) rfl r) g
theorem go_ladd  (d : decode (mB M) pc = .ok (.ladd, 1))  (g : Go P M (pc + 1) L (.long (u + r) :: st) w out) : Go P M pc L (.long r :: .long u :: st) w out :=
  go_mv id (fun h hx hc α b k => XT.ladd (g := mkF _ pc (cL α b L) (cV α b (.long r :: .long u :: st))) h hx rfl (hb hc d) rfl k) g
theorem go_lsub  (d : decode (mB M) pc = .ok (.lsub, 1))  (g : Go P M (pc + 1) L (.long (u - r) :: st) w out) : Go P M pc L (.long r :: .long u :: st) w out :=
  go_mv id (fun h hx hc α b k => XT.lsub (g := mkF _ pc (cL α b L) (cV α b (.long r :: .long u :: st))) h hx rfl (hb hc d) rfl k) g
theorem go_lmul  (d : decode (mB M) pc = .ok (.lmul, 1))  (g : Go P M (pc + 1) L (.long (u * r) :: st) w out) : Go P M pc L (.long r :: .long u :: st) w out :=
  go_mv id (fun h hx hc α b k => XT.lmul (g := mkF _ pc (cL α b L) (cV α b (.long r :: .long u :: st))) h hx rfl (hb hc d) rfl k) g
theorem go_land  (d : decode (mB M) pc = .ok (.land, 1))  (g : Go P M (pc + 1) L (.long (u &&& r) :: st) w out) : Go P M pc L (.long r :: .long u :: st) w out :=
  go_mv id (fun h hx hc α b k => XT.land (g := mkF _ pc (cL α b L) (cV α b (.long r :: .long u :: st))) h hx rfl (hb hc d) rfl k) g
theorem go_lor  (d : decode (mB M) pc = .ok (.lor, 1))  (g : Go P M (pc + 1) L (.long (u ||| r) :: st) w out) : Go P M pc L (.long r :: .long u :: st) w out :=
  go_mv id (fun h hx hc α b k => XT.lor (g := mkF _ pc (cL α b L) (cV α b (.long r :: .long u :: st))) h hx rfl (hb hc d) rfl k) g
theorem go_lxor  (d : decode (mB M) pc = .ok (.lxor, 1))  (g : Go P M (pc + 1) L (.long (u ^^^ r) :: st) w out) : Go P M pc L (.long r :: .long u :: st) w out :=
  go_mv id (fun h hx hc α b k => XT.lxor (g := mkF _ pc (cL α b L) (cV α b (.long r :: .long u :: st))) h hx rfl (hb hc d) rfl k) g
theorem go_lshl  (d : decode (mB M) pc = .ok (.lshl, 1))  (g : Go P M (pc + 1) L (.long (u <<< (y.toInt64 &&& 63)) :: st) w out) : Go P M pc L (.int y :: .long u :: st) w out :=
  go_mv id (fun h hx hc α b r => XT.lshl (g := mkF _ pc (cL α b L) (cV α b (.int y :: .long u :: st))) h hx rfl (hb hc d) rfl r) g
theorem go_lshr  (d : decode (mB M) pc = .ok (.lshr, 1))  (g : Go P M (pc + 1) L (.long (u >>> (y.toInt64 &&& 63)) :: st) w out) : Go P M pc L (.int y :: .long u :: st) w out :=
  go_mv id (fun h hx hc α b r => XT.lshr (g := mkF _ pc (cL α b L) (cV α b (.int y :: .long u :: st))) h hx rfl (hb hc d) rfl r) g
theorem go_lushr  (d : decode (mB M) pc = .ok (.lushr, 1))  (g : Go P M (pc + 1) L (.long (XT.ushrL u y) :: st) w out) : Go P M pc L (.int y :: .long u :: st) w out :=
  go_mv id (fun h hx hc α b r => XT.lushr (g := mkF _ pc (cL α b L) (cV α b (.int y :: .long u :: st))) h hx rfl (hb hc d) rfl r) g
theorem go_lcmp  (d : decode (mB M) pc = .ok (.lcmp, 1))  (g : Go P M (pc + 1) L (.int (XT.cmpL u r) :: st) w out) : Go P M pc L (.long r :: .long u :: st) w out :=
  go_mv id (fun h hx hc α b k => XT.lcmp (g := mkF _ pc (cL α b L) (cV α b (.long r :: .long u :: st))) h hx rfl (hb hc d) rfl k) g
theorem go_i2l  (d : decode (mB M) pc = .ok (.i2l, 1))  (g : Go P M (pc + 1) L (.long x.toInt64 :: st) w out) : Go P M pc L (.int x :: st) w out :=
  go_mv id (fun h hx hc α b r => XT.i2l (g := mkF _ pc (cL α b L) (cV α b (.int x :: st))) h hx rfl (hb hc d) rfl r) g
theorem go_l2i  (d : decode (mB M) pc = .ok (.l2i, 1))  (g : Go P M (pc + 1) L (.int u.toInt32 :: st) w out) : Go P M pc L (.long u :: st) w out :=
  go_mv id (fun h hx hc α b r => XT.l2i (g := mkF _ pc (cL α b L) (cV α b (.long u :: st))) h hx rfl (hb hc d) rfl r) g
theorem go_i2b  (d : decode (mB M) pc = .ok (.i2b, 1))  (g : Go P M (pc + 1) L (.int x.toInt8.toInt32 :: st) w out) : Go P M pc L (.int x :: st) w out :=
  go_mv id (fun h hx hc α b r => XT.i2b (g := mkF _ pc (cL α b L) (cV α b (.int x :: st))) h hx rfl (hb hc d) rfl r) g
theorem go_iinc {k : Nat} {i : Int} (d : decode (mB M) pc = .ok (.iinc k i, 3)) (h1 : L[k]? = some (.val (.int x))) (hv : v = Int32.ofInt i) (hl : storeLocals L.toArray k (.int (x + v)) = some L'.toArray) (g : Go P M (pc + 3) L' (st) w out) : Go P M pc L (st) w out :=
  by subst hv; exact go_mv (fun q => by have := store_size hl; simp at this; omega) (fun h hx hc α b r => XS.iinc (g := mkF _ pc (cL α b L) (cV α b (st))) h hx rfl (hb hc d) (cL_get h1) (storeC hl) r) g
theorem go_goto {o : Int} (d : decode (mB M) pc = .ok (.goto o, 3)) (hp : 0 ≤ (pc : Int) + o ∧ ((pc : Int) + o).toNat = pc') (g : Go P M pc' L (st) w out) : Go P M pc L (st) w out :=
  go_mv id (fun h hx hc α b r => XS.goto (g := mkF _ pc (cL α b L) (cV α b (st))) h hx rfl rfl (hb hc d) hp.1 hp.2 r) g
theorem go_ifY {cd : ClassFile.Cond} {o : Int} (d : decode (mB M) pc = .ok (.ifCond cd o, 3)) (hq : ifCond.holds cd x = true) (hp : 0 ≤ (pc : Int) + o ∧ ((pc : Int) + o).toNat = pc') (g : Go P M pc' L (st) w out) : Go P M pc L (.int x :: st) w out :=
  go_mv id (fun h hx hc α b r => XS.ifYes (g := mkF _ pc (cL α b L) (cV α b (.int x :: st))) h hx rfl rfl (hb hc d) rfl hq hp.1 hp.2 r) g
theorem go_ifN {cd : ClassFile.Cond} {o : Int} (d : decode (mB M) pc = .ok (.ifCond cd o, 3)) (hq : ifCond.holds cd x = false) (g : Go P M (pc + 3) L (st) w out) : Go P M pc L (.int x :: st) w out :=
  go_mv id (fun h hx hc α b r => XS.ifNo (g := mkF _ pc (cL α b L) (cV α b (.int x :: st))) h hx rfl (hb hc d) rfl hq r) g
theorem go_icY {cd : ClassFile.Cond} {o : Int} (d : decode (mB M) pc = .ok (.if_icmp cd o, 3)) (hq : if_icmp.holds cd x y = true) (hp : 0 ≤ (pc : Int) + o ∧ ((pc : Int) + o).toNat = pc') (g : Go P M pc' L (st) w out) : Go P M pc L (.int y :: .int x :: st) w out :=
  go_mv id (fun h hx hc α b r => XS.icmpYes (g := mkF _ pc (cL α b L) (cV α b (.int y :: .int x :: st))) h hx rfl rfl (hb hc d) rfl hq hp.1 hp.2 r) g
theorem go_icN {cd : ClassFile.Cond} {o : Int} (d : decode (mB M) pc = .ok (.if_icmp cd o, 3)) (hq : if_icmp.holds cd x y = false) (g : Go P M (pc + 3) L (st) w out) : Go P M pc L (.int y :: .int x :: st) w out :=
  go_mv id (fun h hx hc α b r => XS.icmpNo (g := mkF _ pc (cL α b L) (cV α b (.int y :: .int x :: st))) h hx rfl (hb hc d) rfl hq r) g
theorem go_nonnull {o : Int} (d : decode (mB M) pc = .ok (.ifnonnull o, 3)) (hp : 0 ≤ (pc : Int) + o ∧ ((pc : Int) + o).toNat = pc') (g : Go P M pc' L st w out) : Go P M pc L (.ref 0 :: st) w out :=
  go_mv id (fun h hx hc α b r => XT.ifnonnullYes (g := mkF _ pc (cL α b L) (cV α b (.ref 0 :: st))) (b := α) h hx rfl rfl (hb hc d) rfl hp.1 hp.2 r) g
theorem go_tswIn {dflt low high : Int} {offs : Array Int} {len : Nat} {o : Int} (d : decode (mB M) pc = .ok (.tableswitch dflt low high offs, len)) (hin : ¬ (x.toInt < low ∨ x.toInt > high)) (hoff : offs[(x.toInt - low).toNat]? = some o) (hp : 0 ≤ (pc : Int) + o ∧ ((pc : Int) + o).toNat = pc') (g : Go P M pc' L st w out) : Go P M pc L (.int x :: st) w out :=
  go_mv id (fun h hx hc α b r => XS.tswIn (g := mkF _ pc (cL α b L) (cV α b (.int x :: st))) h hx rfl rfl (hb hc d) rfl hin hoff hp.1 hp.2 r) g
theorem go_tswOut {dflt low high : Int} {offs : Array Int} {len : Nat} (d : decode (mB M) pc = .ok (.tableswitch dflt low high offs, len)) (hout : x.toInt < low ∨ x.toInt > high) (hp : 0 ≤ (pc : Int) + dflt ∧ ((pc : Int) + dflt).toNat = pc') (g : Go P M pc' L st w out) : Go P M pc L (.int x :: st) w out :=
  go_mv id (fun h hx hc α b r => XS.tswOut (g := mkF _ pc (cL α b L) (cV α b (.int x :: st))) h hx rfl rfl (hb hc d) rfl hout hp.1 hp.2 r) g
/-! ### constants of the pool -/
theorem go_ldc {k : Nat} (d : decode (mB M) pc = .ok (.ldc k, 2)) (hk : Jvm.Cond.constant (mY M).cls k v ∈ P.1) (g : Go P M (pc + 2) L (.int v :: st) w out) : Go P M pc L st w out :=
  go_ch (fun l Z a0 p e R s m args below meth c α b n0 h0 uC uS ok hl T locs cells slots I => ⟨T, locs, cells, slots, I, fun target r => Stand.ldcI (g := mkF m pc (cL α b L) (cV α b st)) I.1 ok.2.2.1 ok.2.2.2.2.1 (mvT ok.2.2.2.1 (ok.1 _ hk)) rfl (hb ok.2.2.2.2.2.1 d) r⟩) g
theorem go_ldcW {k : Nat} (d : decode (mB M) pc = .ok (.ldc_w k, 3)) (hk : Jvm.Cond.constant (mY M).cls k v ∈ P.1) (g : Go P M (pc + 3) L (.int v :: st) w out) : Go P M pc L st w out :=
  go_ch (fun l Z a0 p e R s m args below meth c α b n0 h0 uC uS ok hl T locs cells slots I => ⟨T, locs, cells, slots, I, fun target r => Stand.ldcWI (g := mkF m pc (cL α b L) (cV α b st)) I.1 ok.2.2.1 ok.2.2.2.2.1 (mvT ok.2.2.2.1 (ok.1 _ hk)) rfl (hb ok.2.2.2.2.2.1 d) r⟩) g
theorem go_ldc2 {k : Nat} (d : decode (mB M) pc = .ok (.ldc2_w k, 3)) (hk : Jvm.Cond.constantLong (mY M).cls k u ∈ P.1) (g : Go P M (pc + 3) L (.long u :: st) w out) : Go P M pc L st w out :=
  go_ch (fun l Z a0 p e R s m args below meth c α b n0 h0 uC uS ok hl T locs cells slots I => ⟨T, locs, cells, slots, I, fun target r => Stand.ldc2J (g := mkF m pc (cL α b L) (cV α b st)) I.1 ok.2.2.1 ok.2.2.2.2.1 (mvT ok.2.2.2.1 (ok.1 _ hk)) rfl (hb ok.2.2.2.2.2.1 d) r⟩) g
/-! ### returns -/
theorem go_iret (hT : mT M = some .int) (d : decode (mB M) pc = .ok (.ireturn, 1)) : Go P M pc L (.int x :: st) w (some (.int x), w) := by
  intro hl l Z a0 p e R s m args below meth c α b n0 h0 uC uS ok T locs cells slots I
  exact ⟨T, locs, cells, slots, I, fun fs hv => retOut I.1 ok.2.2.1 (t := .int) (ok.2.2.2.2.2.2.2.1.trans hT) rfl (Or.inl ⟨rfl, Or.inl rfl, x, rfl⟩) (hb ok.2.2.2.2.2.1 d) hv⟩
theorem go_zret (hT : mT M = some .boolean) (d : decode (mB M) pc = .ok (.ireturn, 1)) (hz : v = nar .boolean x) : Go P M pc L (.int x :: st) w (some (.int v), w) := by
  intro hl l Z a0 p e R s m args below meth c α b n0 h0 uC uS ok T locs cells slots I
  subst hz
  exact ⟨T, locs, cells, slots, I, fun fs hv => retN I.1 ok.2.2.1 (t := .boolean) (ok.2.2.2.2.2.2.2.1.trans hT) (Or.inl rfl) (hb ok.2.2.2.2.2.1 d) hv⟩
theorem go_lret (hT : mT M = some .long) (d : decode (mB M) pc = .ok (.lreturn, 1)) : Go P M pc L (.long u :: st) w (some (.long u), w) := by
  intro hl l Z a0 p e R s m args below meth c α b n0 h0 uC uS ok T locs cells slots I
  exact ⟨T, locs, cells, slots, I, fun fs hv => retOut I.1 ok.2.2.1 (t := .long) (ok.2.2.2.2.2.2.2.1.trans hT) rfl (Or.inr (Or.inl ⟨rfl, rfl, u, rfl⟩)) (hb ok.2.2.2.2.2.1 d) hv⟩
theorem go_ret (hT : mT M = none) (d : decode (mB M) pc = .ok (.return_, 1)) : Go P M pc L [] w (none, w) := by
  intro hl l Z a0 p e R s m args below meth c α b n0 h0 uC uS ok T locs cells slots I
  exact ⟨T, locs, cells, slots, I, fun fs hv => I.1.returnOut ok.2.2.1 (ok.2.2.2.2.2.2.2.1.trans hT) (hb ok.2.2.2.2.2.1 d) hv⟩
/-! ### fields -/
variable {o o' : Nat × S} {s : S} {k n : Nat}
theorem rep_one {Z : State} {ci : CI} {α b : Nat} {h : Heap} (F : RepW Z ci α b (none, [o]) h) : Rep1 Z ci h b o := by
  have := F.2 0 o rfl
  simpa using this
theorem rep_mk {Z : State} {ci : CI} {α b : Nat} {h : Heap} (F : Rep1 Z ci h b o) : RepW Z ci α b (none, [o]) h :=
  ⟨fun l hl => (nomatch hl), fun i o1 ho => by
    cases i with
    | zero => cases ho; simpa using F
    | succ i => simp at ho⟩
/-- the entry idx names the scalar field number f; of type ty -/
def FldS (P : PI) (idx f : Nat) (ty : FieldType) : Prop := ∃ nm ds, (cS P.2)[f]? = some (nm, ds, ty) ∧ Jvm.Cond.fieldLink (cN P.2) idx (cN P.2) nm ds ∈ P.1
def FldA (P : PI) (idx q : Nat) (ty : FieldType) : Prop := ∃ nm ds cap, (cA P.2)[q]? = some (nm, ds, ty, cap) ∧ Jvm.Cond.fieldLink (cN P.2) idx (cN P.2) nm ds ∈ P.1
theorem go_getV {idx f : Nat} {ty : FieldType} (F : FldS P idx f ty) (hM : (mY M).cls = cN P.2) (d : decode (mB M) pc = .ok (.getfield idx, 3)) {vv : Value} (hv : vv = scV ty s f) (hr : ∀ α b, con α b vv = vv) (g : Go P M (pc + 3) L (vv :: st) (none, [(k, s)]) out) : Go P M pc L (.ref 1 :: st) (none, [(k, s)]) out :=
  go_ch (fun l Z a0 p e R s1 m args below meth c α b n0 h0 uC uS ok hl T locs cells slots I => by
    obtain ⟨nm, ds, f1, f2⟩ := F
    obtain ⟨hw, fa, hx, hZ, hown, hc, hml, hret, hnm, hR, hn0, htop, hsz⟩ := ok
    obtain ⟨X, Rp, Fm, Nl, hs, u1, u2, c1, c2, hN⟩ := I
    have Fd := (rep_one Rp).2.1 f _ f1
    rw [hM] at hown
    obtain ⟨T', X', e', stp⟩ := getF X hx hZ hown (host := "") (Or.inl (hw _ f2)) Via.refl rfl Fd (g := mkF m pc (cL α b L) (cV α b (.ref 1 :: st))) rfl rfl (hb hc d)
    refine ⟨T', locs, cells, slots, ⟨X', by rw [e']; exact Rp, by rw [e']; exact Fm, Nl, by rw [e']; exact hs, u1, u2, c1, c2, hN⟩, fun target r => stp target ?_⟩
    rw [show cV α b (vv :: st) = con α b vv :: cV α b st from rfl, hr, hv] at r
    exact r) g
theorem go_getI {idx f : Nat} (F : FldS P idx f .int) (hM : (mY M).cls = cN P.2) (d : decode (mB M) pc = .ok (.getfield idx, 3)) (g : Go P M (pc + 3) L (.int (gI s f) :: st) (none, [(k, s)]) out) : Go P M pc L (.ref 1 :: st) (none, [(k, s)]) out :=
  go_getV F hM d rfl (fun _ _ => rfl) g
theorem go_getZ {idx f : Nat} (F : FldS P idx f .boolean) (hM : (mY M).cls = cN P.2) (d : decode (mB M) pc = .ok (.getfield idx, 3)) (g : Go P M (pc + 3) L (.int (gI s f) :: st) (none, [(k, s)]) out) : Go P M pc L (.ref 1 :: st) (none, [(k, s)]) out :=
  go_getV F hM d rfl (fun _ _ => rfl) g
theorem go_getJ {idx f : Nat} (F : FldS P idx f .long) (hM : (mY M).cls = cN P.2) (d : decode (mB M) pc = .ok (.getfield idx, 3)) (g : Go P M (pc + 3) L (.long (gL s f) :: st) (none, [(k, s)]) out) : Go P M pc L (.ref 1 :: st) (none, [(k, s)]) out :=
  go_getV F hM d rfl (fun _ _ => rfl) g
theorem go_getA {idx q : Nat} {ty : FieldType} (F : FldA P idx q ty) (hM : (mY M).cls = cN P.2) (d : decode (mB M) pc = .ok (.getfield idx, 3)) (hq : Nat.blt q k = true) (g : Go P M (pc + 3) L (.ref (q + 2) :: st) (none, [(k, s)]) out) : Go P M pc L (.ref 1 :: st) (none, [(k, s)]) out :=
  go_ch (fun l Z a0 p e R s1 m args below meth c α b n0 h0 uC uS ok hl T locs cells slots I => by
    obtain ⟨nm, ds, cap, f1, f2⟩ := F
    obtain ⟨hw, fa, hx, hZ, hown, hc, hml, hret, hnm, hR, hn0, htop, hsz⟩ := ok
    obtain ⟨X, Rp, Fm, Nl, hs, u1, u2, c1, c2, hN⟩ := I
    have Fd := (rep_one Rp).2.2.1 q _ f1
    rw [if_pos (show q < (k, s).1 by simpa [Nat.blt_eq] using hq)] at Fd
    rw [hM] at hown
    obtain ⟨T', X', e', stp⟩ := getF X hx hZ hown (host := "") (Or.inl (hw _ f2)) Via.refl rfl Fd (g := mkF m pc (cL α b L) (cV α b (.ref 1 :: st))) rfl rfl (hb hc d)
    refine ⟨T', locs, cells, slots, ⟨X', by rw [e']; exact Rp, by rw [e']; exact Fm, Nl, by rw [e']; exact hs, u1, u2, c1, c2, hN⟩, fun target r => stp target ?_⟩
    rw [show cV α b (.ref (q + 2) :: st) = .ref (b + (q + 1)) :: cV α b st from rfl] at r
    rw [show b + 1 + q = b + (q + 1) by omega]
    exact r) g
/-- another scalar of the object takes its value -/
theorem rep_put {Z : State} {a0 : Array Value} {ci : CI} {h h' : Heap} {b : Nat} {s s' : S} {k f : Nat} {nm ds : String} {ty : FieldType} {vv : Value} (fa : Facts Z a0 ci) (F : Rep1 Z ci h b (k, s)) (hf : (cS ci)[f]? = some (nm, ds, ty))
    (Wt : Wr h h' b (Jvm.RoadKit.slotOf Z (cN ci) nm ds) vv) (hv : vv = scV ty s' f) (ho : ∀ f' x, (cS ci)[f']? = some x → f' ≠ f → scV x.2.2 s' f' = scV x.2.2 s f') (ha : gA s' = gA s) (hbb : gB s' = gB s) : Rep1 Z ci h' b (k, s') := by
  obtain ⟨f1, f2, f3, f4⟩ := F
  obtain ⟨-, -, g1, g2, g3, -⟩ := fa
  have lt := get_lt hf
  refine ⟨f1.wr Wt, fun f' x hx => ?_, fun q x hx => ?_, fun q x hx hq => ?_⟩
  · by_cases e : f' = f
    · subst e
      cases hf.symm.trans hx
      show Fld Z h' b (cN ci) nm ds (scV ty s' f')
      rw [← hv]; exact (f2 f' _ hf).same Wt
    · have lt' := get_lt hx
      show Fld Z h' b (cN ci) x.1 x.2.1 (scV x.2.2 s' f')
      rw [ho f' x hx e]
      refine (f2 f' x hx).other Wt (Or.inr ?_)
      refine slot_ne (g1 f' x hx).1 (g1 f _ hf).1 ?_ (g1 f' x hx).2 (g1 f _ hf).2
      intro en
      have n1 : ((cS ci).map (fun x => x.1) ++ (cA ci).map (fun x => x.1))[f']? = some x.1 := by rw [List.getElem?_append_left (by simpa using lt')]; simp [hx]
      have n2 : ((cS ci).map (fun x => x.1) ++ (cA ci).map (fun x => x.1))[f]? = some nm := by rw [List.getElem?_append_left (by simpa using lt)]; simp [hf]
      rw [en] at n1
      obtain ⟨i1, j1⟩ := List.getElem?_eq_some_iff.mp n1
      obtain ⟨i2, j2⟩ := List.getElem?_eq_some_iff.mp n2
      exact e ((List.getElem_inj g3).mp (j1.trans j2.symm))
  · refine (f3 q x hx).other Wt (Or.inr ?_)
    have lt' := get_lt hx
    refine slot_ne (g2 q x hx).1 (g1 f _ hf).1 ?_ (g2 q x hx).2 (g1 f _ hf).2
    intro en
    have n1 : ((cS ci).map (fun x => x.1) ++ (cA ci).map (fun x => x.1))[(cS ci).length + q]? = some x.1 := by rw [List.getElem?_append_right (by simp)]; simp [hx]
    have n2 : ((cS ci).map (fun x => x.1) ++ (cA ci).map (fun x => x.1))[f]? = some nm := by rw [List.getElem?_append_left (by simpa using lt)]; simp [hf]
    rw [en] at n1
    obtain ⟨i1, j1⟩ := List.getElem?_eq_some_iff.mp n1
    obtain ⟨i2, j2⟩ := List.getElem?_eq_some_iff.mp n2
    have := (List.getElem_inj g3).mp (j1.trans j2.symm)
    omega
  · obtain ⟨c, A, e⟩ := f4 q x hx hq
    refine ⟨c, A.other Wt (nq (by omega)), e.trans ?_⟩
    show (arV x.2.2.1 s q).toArray = (arV x.2.2.1 s' q).toArray
    unfold arV
    split <;> simp [ha, hbb]
theorem go_putV {idx f : Nat} {ty : FieldType} {vv : Value} {s' : S} (F : FldS P idx f ty) (hM : (mY M).cls = cN P.2)
    (hlays : ∀ nm ds, (cS P.2)[f]? = some (nm, ds, ty) → Jvm.Cond.lays (cN P.2) (cN P.2) nm ds ∈ P.1 ∨ (Jvm.Cond.laysFinal (cN P.2) (cN P.2) nm ds ∈ P.1 ∧ (mY M).name = "<init>"))
    (hpos : 0 < mN M) (hr : ∀ α b, con α b vv = vv) (hn : narrow ty vv = vv) (hfi : fits ty vv = true) (hv : vv = scV ty s' f) (ho : ∀ f' x, (cS P.2)[f']? = some x → f' ≠ f → scV x.2.2 s' f' = scV x.2.2 s f') (ha : gA s' = gA s) (hbb : gB s' = gB s)
    (d : decode (mB M) pc = .ok (.putfield idx, 3)) (g : Go P M (pc + 3) L st (none, [(k, s')]) out) : Go P M pc L (vv :: .ref 1 :: st) (none, [(k, s)]) out :=
  go_ch (fun l Z a0 p e R s1 m args below meth c α b n0 h0 uC uS ok hl T locs cells slots I => by
    obtain ⟨nm, ds, f1, f2⟩ := F
    obtain ⟨hw, fa, hx, hZ, hown, hc, hml, hret, hnm, hR, hn0, htop, hsz⟩ := ok
    obtain ⟨X, Rp, Fm, Nl, hs, u1, u2, c1, c2, hN⟩ := I
    have Rp1 := rep_one Rp
    have Fd := Rp1.2.1 f _ f1
    rw [hM] at hown
    obtain ⟨T', h', X', e', Wt, stp⟩ := putF X hx hZ hown (host := "") (Or.inl (hw _ f2)) Via.refl rfl Fd Rp1.1 ((hlays nm ds f1).imp (fun q => hw _ q) (fun q => ⟨hw _ q.1, rfl, hnm.trans q.2⟩)) fa.1 (fa.2.2.1 f _ f1).2 hn hfi (g := mkF m pc (cL α b L) (vv :: .ref b :: cV α b st)) rfl rfl (hb hc d)
    refine ⟨T', _, cells, slots, ⟨X', rep_mk (by rw [e']; exact rep_put fa Rp1 f1 Wt hv ho ha hbb), by rw [e']; exact Fm.wr Wt (Nat.le_refl _) (by have := Nat.mul_le_mul_left (cK P.2 + 1) hpos; omega), Fr.snoc X' Nl hn0, by rw [e', Wt.size]; exact hs, u1, u2, c1, c2, hN⟩, fun target r => ?_⟩
    rw [show cV α b (vv :: .ref 1 :: st) = con α b vv :: .ref b :: cV α b st from rfl, hr]
    exact stp target r) g
theorem scV_sI (s : S) (f : Nat) (x : Int32) (ty : FieldType) (f' : Nat) (h : f' ≠ f) : scV ty (sI s f x) f' = scV ty s f' := by
  unfold scV; split <;> simp [gI_sI, gL_sI, h]
theorem scV_sL (s : S) (f : Nat) (x : Int64) (ty : FieldType) (f' : Nat) (h : f' ≠ f) : scV ty (sL s f x) f' = scV ty s f' := by
  unfold scV; split <;> simp [gI_sL, gL_sL, h]
/-- the word that lets the field be written -/
def Wrt (P : PI) (M : Meth) (f : Nat) : Prop := ∃ nm ds ty, (cS P.2)[f]? = some (nm, ds, ty) ∧ (Jvm.Cond.lays (cN P.2) (cN P.2) nm ds ∈ P.1 ∨ (Jvm.Cond.laysFinal (cN P.2) (cN P.2) nm ds ∈ P.1 ∧ (mY M).name = "<init>"))
theorem Wrt.use {f : Nat} {ty : FieldType} (h : Wrt P M f) : ∀ nm ds, (cS P.2)[f]? = some (nm, ds, ty) → Jvm.Cond.lays (cN P.2) (cN P.2) nm ds ∈ P.1 ∨ (Jvm.Cond.laysFinal (cN P.2) (cN P.2) nm ds ∈ P.1 ∧ (mY M).name = "<init>") := by
  obtain ⟨nm, ds, ty', h1, h2⟩ := h
  intro nm' ds' h3
  cases h1.symm.trans h3
  exact h2
theorem go_putI {idx f : Nat} (F : FldS P idx f .int) (hM : (mY M).cls = cN P.2) (hl : Wrt P M f) (hp : 0 < mN M) (d : decode (mB M) pc = .ok (.putfield idx, 3)) (g : Go P M (pc + 3) L st (none, [(k, sI s f x)]) out) : Go P M pc L (.int x :: .ref 1 :: st) (none, [(k, s)]) out :=
  go_putV F hM hl.use hp (fun _ _ => rfl) rfl rfl (by simp [scV, gI_sI]) (fun f' y _ h => scV_sI s f x _ f' h) rfl rfl d g
theorem go_putZ {idx f : Nat} (F : FldS P idx f .boolean) (hM : (mY M).cls = cN P.2) (hl : Wrt P M f) (hp : 0 < mN M) (hz : x = 0 ∨ x = 1) (d : decode (mB M) pc = .ok (.putfield idx, 3)) (g : Go P M (pc + 3) L st (none, [(k, sI s f x)]) out) : Go P M pc L (.int x :: .ref 1 :: st) (none, [(k, s)]) out :=
  go_putV F hM hl.use hp (fun _ _ => rfl) (by rcases hz with rfl | rfl <;> rfl) (by rcases hz with rfl | rfl <;> rfl) (by simp [scV, gI_sI]) (fun f' y _ h => scV_sI s f x _ f' h) rfl rfl d g
theorem go_putJ {idx f : Nat} (F : FldS P idx f .long) (hM : (mY M).cls = cN P.2) (hl : Wrt P M f) (hp : 0 < mN M) (d : decode (mB M) pc = .ok (.putfield idx, 3)) (g : Go P M (pc + 3) L st (none, [(k, sL s f u)]) out) : Go P M pc L (.long u :: .ref 1 :: st) (none, [(k, s)]) out :=
  go_putV F hM hl.use hp (fun _ _ => rfl) rfl rfl (by simp [scV, gL_sL]) (fun f' y _ h => scV_sL s f u _ f' h) rfl rfl d g
/-! ### arrays -/
theorem ix_some {A : Type} {l : List A} {j : Int32} {x : A} (h : ix l j = some x) : ¬ j < 0 ∧ l[j.toNatClampNeg]? = some x := by
  unfold ix at h; split at h
  · cases h
  · rename_i q; exact ⟨q, h⟩
theorem st_some {A : Type} {l l' : List A} {j : Int32} {x : A} (h : Jvm.AM.st l j x = some l') : ¬ j < 0 ∧ j.toNatClampNeg < l.length ∧ l' = l.set j.toNatClampNeg x := by
  unfold Jvm.AM.st at h; split at h
  · cases h
  · rename_i q; split at h
    · rename_i q2; cases h; exact ⟨q, q2, rfl⟩
    · cases h
theorem ar_in {c : Cell} {vs : List Value} {j : Int32} {vv : Value} (e : c.slots = vs.toArray) (h1 : ¬ j < 0) (h2 : vs[j.toNatClampNeg]? = some vv) : ¬ (j < 0 ∨ c.slots.size ≤ j.toNatClampNeg) ∧ c.slots[j.toNatClampNeg]? = some vv := by
  have := get_lt h2
  refine ⟨fun q => ?_, by rw [e]; simpa using h2⟩
  rcases q with q | q
  · exact h1 q
  · rw [e] at q; simp at q; omega
theorem go_iaload {q : Nat} {j : Int32} {nm ds : String} {cap : Nat} (ha : (cA P.2)[q]? = some (nm, ds, .int, cap)) (hq : Nat.blt q k = true) (hx : ix (gA s q) j = some v) (d : decode (mB M) pc = .ok (.iaload, 1)) (g : Go P M (pc + 1) L (.int v :: st) (none, [(k, s)]) out) : Go P M pc L (.int j :: .ref (q + 2) :: st) (none, [(k, s)]) out :=
  go_ch (fun l Z a0 p e R s1 m args below meth c α b n0 h0 uC uS ok hl T locs cells slots I => by
    obtain ⟨cl, A, ec⟩ := (rep_one I.2.1).2.2.2 q _ ha (by simpa [Nat.blt_eq] using hq)
    obtain ⟨h1, h2⟩ := ix_some hx
    obtain ⟨h3, h4⟩ := ar_in ec h1 (vv := .int v) (by simp [arV, h2])
    refine ⟨T, locs, cells, slots, I, fun target r => ?_⟩
    refine I.1.iaload ok.2.2.1 (j := j) (v := .int v) A.1 (State.isArrayOf_alike ok.2.2.2.1.alike A.2.1) A.2.2 h3 h4 (g := mkF m pc (cL α b L) (.int j :: .ref (b + 1 + q) :: cV α b st)) rfl rfl (hb ok.2.2.2.2.2.1 d) _ r |> fun t => ?_
    rw [show cV α b (.int j :: .ref (q + 2) :: st) = .int j :: .ref (b + (q + 1)) :: cV α b st from rfl, show b + (q + 1) = b + 1 + q by omega]
    exact t) g
theorem go_laload {q : Nat} {j : Int32} {nm ds : String} {cap : Nat} (ha : (cA P.2)[q]? = some (nm, ds, .long, cap)) (hq : Nat.blt q k = true) (hx : ix (gB s q) j = some u) (d : decode (mB M) pc = .ok (.laload, 1)) (g : Go P M (pc + 1) L (.long u :: st) (none, [(k, s)]) out) : Go P M pc L (.int j :: .ref (q + 2) :: st) (none, [(k, s)]) out :=
  go_ch (fun l Z a0 p e R s1 m args below meth c α b n0 h0 uC uS ok hl T locs cells slots I => by
    obtain ⟨cl, A, ec⟩ := (rep_one I.2.1).2.2.2 q _ ha (by simpa [Nat.blt_eq] using hq)
    obtain ⟨h1, h2⟩ := ix_some hx
    obtain ⟨h3, h4⟩ := ar_in ec h1 (vv := .long u) (by simp [arV, h2])
    refine ⟨T, locs, cells, slots, I, fun target r => ?_⟩
    refine I.1.laload ok.2.2.1 (j := j) (v := .long u) A.1 (State.isArrayOf_alike ok.2.2.2.1.alike A.2.1) A.2.2 h3 h4 (g := mkF m pc (cL α b L) (.int j :: .ref (b + 1 + q) :: cV α b st)) rfl rfl (hb ok.2.2.2.2.2.1 d) _ r |> fun t => ?_
    rw [show cV α b (.int j :: .ref (q + 2) :: st) = .int j :: .ref (b + (q + 1)) :: cV α b st from rfl, show b + (q + 1) = b + 1 + q by omega]
    exact t) g
theorem go_baload {q : Nat} {j : Int32} {nm ds : String} {ty : FieldType} {cap : Nat} (ha : (cA P.2)[q]? = some (nm, ds, ty, cap)) (hty : ty = .boolean ∨ ty = .byte) (hq : Nat.blt q k = true) (hx : ix (gA s q) j = some v) (d : decode (mB M) pc = .ok (.baload, 1)) (g : Go P M (pc + 1) L (.int v :: st) (none, [(k, s)]) out) : Go P M pc L (.int j :: .ref (q + 2) :: st) (none, [(k, s)]) out :=
  go_ch (fun l Z a0 p e R s1 m args below meth c α b n0 h0 uC uS ok hl T locs cells slots I => by
    obtain ⟨cl, A, ec⟩ := (rep_one I.2.1).2.2.2 q _ ha (by simpa [Nat.blt_eq] using hq)
    obtain ⟨h1, h2⟩ := ix_some hx
    refine ⟨T, locs, cells, slots, I, fun target r => ?_⟩
    rw [show cV α b (.int j :: .ref (q + 2) :: st) = .int j :: .ref (b + (q + 1)) :: cV α b st from rfl, show b + (q + 1) = b + 1 + q by omega]
    rcases hty with rfl | rfl
    · obtain ⟨h3, h4⟩ := ar_in ec h1 (vv := .int v) (by simp [arV, h2])
      exact I.1.baloadBooleans ok.2.2.1 (j := j) (v := .int v) A.1 (State.isArrayOf_alike ok.2.2.2.1.alike A.2.1) A.2.2 h3 h4 (g := mkF m pc (cL α b L) (.int j :: .ref (b + 1 + q) :: cV α b st)) rfl rfl (hb ok.2.2.2.2.2.1 d) _ r
    · obtain ⟨h3, h4⟩ := ar_in ec h1 (vv := .int v) (by simp [arV, h2])
      exact I.1.baloadBytes ok.2.2.1 (j := j) (v := .int v) A.1 (State.isArrayOf_alike ok.2.2.2.1.alike A.2.1) A.2.2 h3 h4 (g := mkF m pc (cL α b L) (.int j :: .ref (b + 1 + q) :: cV α b st)) rfl rfl (hb ok.2.2.2.2.2.1 d) _ r) g
theorem go_alen {q : Nat} {nm ds : String} {ty : FieldType} {cap : Nat} (ha : (cA P.2)[q]? = some (nm, ds, ty, cap)) (hty : ty ≠ .long) (hq : Nat.blt q k = true) (d : decode (mB M) pc = .ok (.arraylength, 1)) (g : Go P M (pc + 1) L (.int (gA s q).length.toInt32 :: st) (none, [(k, s)]) out) : Go P M pc L (.ref (q + 2) :: st) (none, [(k, s)]) out :=
  go_ch (fun l Z a0 p e R s1 m args below meth c α b n0 h0 uC uS ok hl T locs cells slots I => by
    obtain ⟨cl, A, ec⟩ := (rep_one I.2.1).2.2.2 q _ ha (by simpa [Nat.blt_eq] using hq)
    refine ⟨T, locs, cells, slots, I, fun target r => ?_⟩
    have e1 : cl.slots.size = (gA s q).length := by rw [ec]; cases ty <;> simp [arV] at hty ⊢
    rw [show cV α b (.ref (q + 2) :: st) = .ref (b + (q + 1)) :: cV α b st from rfl, show b + (q + 1) = b + 1 + q by omega]
    refine I.1.arraylength ok.2.2.1 (cell := cl) A.1 (State.isArrayOf_alike ok.2.2.2.1.alike A.2.1) (g := mkF m pc (cL α b L) (.ref (b + 1 + q) :: cV α b st)) rfl rfl (hb ok.2.2.2.2.2.1 d) _ ?_
    rw [e1]; exact r) g
theorem go_sload {l0 : List Int32} {os : List (Nat × S)} {j : Int32} (hx : ix l0 j = some v) (d : decode (mB M) pc = .ok (.iaload, 1)) (g : Go P M (pc + 1) L (.int v :: st) (some l0, os) out) : Go P M pc L (.int j :: .ref 0 :: st) (some l0, os) out :=
  go_ch (fun l Z a0 p e R s1 m args below meth c α b n0 h0 uC uS ok hl T locs cells slots I => by
    obtain ⟨cl, A, ec⟩ := (I.2.1.1 l0 rfl).1
    obtain ⟨h1, h2⟩ := ix_some hx
    obtain ⟨h3, h4⟩ := ar_in ec h1 (vv := .int v) (by simp [h2])
    exact ⟨T, locs, cells, slots, I, fun target r => I.1.iaload ok.2.2.1 (j := j) (v := .int v) A.1 (State.isArrayOf_alike ok.2.2.2.1.alike A.2.1) A.2.2 h3 h4 (g := mkF m pc (cL α b L) (cV α b (.int j :: .ref 0 :: st))) rfl rfl (hb ok.2.2.2.2.2.1 d) _ r⟩) g
theorem go_slen {l0 : List Int32} {os : List (Nat × S)} (d : decode (mB M) pc = .ok (.arraylength, 1)) (g : Go P M (pc + 1) L (.int l0.length.toInt32 :: st) (some l0, os) out) : Go P M pc L (.ref 0 :: st) (some l0, os) out :=
  go_ch (fun l Z a0 p e R s1 m args below meth c α b n0 h0 uC uS ok hl T locs cells slots I => by
    obtain ⟨cl, A, ec⟩ := (I.2.1.1 l0 rfl).1
    refine ⟨T, locs, cells, slots, I, fun target r => ?_⟩
    have e1 : cl.slots.size = l0.length := by rw [ec]; simp
    refine I.1.arraylength ok.2.2.1 (cell := cl) A.1 (State.isArrayOf_alike ok.2.2.2.1.alike A.2.1) (g := mkF m pc (cL α b L) (cV α b (.ref 0 :: st))) rfl rfl (hb ok.2.2.2.2.2.1 d) _ ?_
    rw [e1]; exact r) g
/-- a component of an array of the object takes its value -/
theorem rep_store {Z : State} {ci : CI} {h h' : Heap} {b : Nat} {s s' : S} {k q i : Nat} {nm ds : String} {ty : FieldType} {cap : Nat} {vv : Value} (F : Rep1 Z ci h b (k, s)) (hf : (cA ci)[q]? = some (nm, ds, ty, cap)) (hq : q < k)
    (Wt : Wr h h' (b + 1 + q) i vv) (hi : i < (arV ty s q).length) (hv : arV ty s' q = (arV ty s q).set i vv) (ho : ∀ q' x, (cA ci)[q']? = some x → q' ≠ q → arV x.2.2.1 s' q' = arV x.2.2.1 s q') (ha : gI s' = gI s) (hbb : gL s' = gL s) : Rep1 Z ci h' b (k, s') := by
  obtain ⟨f1, f2, f3, f4⟩ := F
  refine ⟨f1.wr Wt, fun f x hx => ?_, fun q' x hx => (f3 q' x hx).other Wt (Or.inl (nq (by omega))), fun q' x hx hq' => ?_⟩
  · have e : scV x.2.2 s' f = scV x.2.2 s f := by unfold scV; split <;> simp [ha, hbb]
    show Fld Z h' b (cN ci) x.1 x.2.1 (scV x.2.2 s' f)
    rw [e]
    exact (f2 f x hx).other Wt (Or.inl (nq (by omega)))
  · by_cases e : q' = q
    · subst e
      cases hf.symm.trans hx
      obtain ⟨c, A, ec⟩ := f4 q' _ hf hq
      refine ⟨_, A.same Wt, ?_⟩
      show (c.setSlot i vv).slots = (arV ty s' q').toArray
      rw [hv]
      simp only [Cell.setSlot, ec]
      simp
    · obtain ⟨c, A, ec⟩ := f4 q' x hx hq'
      refine ⟨c, A.other Wt (nq (by omega)), ec.trans ?_⟩
      rw [ho q' x hx e]
theorem arV_sA (s : S) (q : Nat) (l : List Int32) (ty : FieldType) (q' : Nat) (h : q' ≠ q) : arV ty (sA s q l) q' = arV ty s q' := by
  unfold arV; split <;> simp [gA_sA, gB_sA, h]
theorem arV_sB (s : S) (q : Nat) (l : List Int64) (ty : FieldType) (q' : Nat) (h : q' ≠ q) : arV ty (sB s q l) q' = arV ty s q' := by
  unfold arV; split <;> simp [gA_sB, gB_sB, h]
theorem in_of {c : Cell} {vs : List Value} {j : Int32} (e : c.slots = vs.toArray) (h1 : ¬ j < 0) (h2 : j.toNatClampNeg < vs.length) : ¬ (j < 0 ∨ c.slots.size ≤ j.toNatClampNeg) := fun q => by
  rcases q with q | q
  · exact h1 q
  · rw [e] at q; simp at q; omega
theorem go_iastore {q : Nat} {j : Int32} {nm ds : String} {cap : Nat} {l' : List Int32} (ha : (cA P.2)[q]? = some (nm, ds, .int, cap)) (hq : Nat.blt q k = true) (hp : 0 < mN M) (hx : Jvm.AM.st (gA s q) j x = some l') (d : decode (mB M) pc = .ok (.iastore, 1)) (g : Go P M (pc + 1) L st (none, [(k, sA s q l')]) out) : Go P M pc L (.int x :: .int j :: .ref (q + 2) :: st) (none, [(k, s)]) out :=
  go_ch (fun l Z a0 p e R s1 m args below meth c α b n0 h0 uC uS ok hl T locs cells slots I => by
    have hq' : q < k := by simpa [Nat.blt_eq] using hq
    have hqK := get_lt ha
    obtain ⟨X, Rp, Fm, Nl, hs, u1, u2, c1, c2, hN⟩ := I
    obtain ⟨cl, A, ec⟩ := (rep_one Rp).2.2.2 q _ ha hq'
    obtain ⟨h1, h2, rfl⟩ := st_some hx
    have hin := in_of ec h1 (by simpa [arV] using h2)
    obtain ⟨T', h', X', e', Wt, stp⟩ := stI X ok.2.2.1 ok.2.2.2.1 rfl A (x := x) hin (g := mkF m pc (cL α b L) (.int x :: .int j :: .ref (b + 1 + q) :: cV α b st)) rfl rfl (hb ok.2.2.2.2.2.1 d)
    refine ⟨T', _, cells, slots, ⟨X', rep_mk (by rw [e']; exact rep_store (rep_one Rp) ha hq' Wt (by simpa [arV] using h2) (by simp [arV, gA_sA, List.map_set]) (fun q' y _ h => arV_sA s q _ _ q' h) rfl rfl), by rw [e']; exact Fm.wr Wt (by omega) (by have := Nat.mul_le_mul_left (cK P.2 + 1) hp; simp only [cK] at *; omega), Fr.snoc X' Nl (by have := ok.2.2.2.2.2.2.2.2.2.2.1; omega), by rw [e', Wt.size]; exact hs, u1, u2, c1, c2, hN⟩, fun target r => ?_⟩
    rw [show cV α b (.int x :: .int j :: .ref (q + 2) :: st) = .int x :: .int j :: .ref (b + (q + 1)) :: cV α b st from rfl, show b + (q + 1) = b + 1 + q by omega]
    exact stp target r) g
theorem go_lastore {q : Nat} {j : Int32} {nm ds : String} {cap : Nat} {l' : List Int64} (ha : (cA P.2)[q]? = some (nm, ds, .long, cap)) (hq : Nat.blt q k = true) (hp : 0 < mN M) (hx : Jvm.AM.st (gB s q) j u = some l') (d : decode (mB M) pc = .ok (.lastore, 1)) (g : Go P M (pc + 1) L st (none, [(k, sB s q l')]) out) : Go P M pc L (.long u :: .int j :: .ref (q + 2) :: st) (none, [(k, s)]) out :=
  go_ch (fun l Z a0 p e R s1 m args below meth c α b n0 h0 uC uS ok hl T locs cells slots I => by
    have hq' : q < k := by simpa [Nat.blt_eq] using hq
    have hqK := get_lt ha
    obtain ⟨X, Rp, Fm, Nl, hs, u1, u2, c1, c2, hN⟩ := I
    obtain ⟨cl, A, ec⟩ := (rep_one Rp).2.2.2 q _ ha hq'
    obtain ⟨h1, h2, rfl⟩ := st_some hx
    have hin := in_of ec h1 (by simpa [arV] using h2)
    obtain ⟨T', h', X', e', Wt, stp⟩ := stJ X ok.2.2.1 ok.2.2.2.1 rfl A (x := u) hin (g := mkF m pc (cL α b L) (.long u :: .int j :: .ref (b + 1 + q) :: cV α b st)) rfl rfl (hb ok.2.2.2.2.2.1 d)
    refine ⟨T', _, cells, slots, ⟨X', rep_mk (by rw [e']; exact rep_store (rep_one Rp) ha hq' Wt (by simpa [arV] using h2) (by simp [arV, gB_sB, List.map_set]) (fun q' y _ h => arV_sB s q _ _ q' h) rfl rfl), by rw [e']; exact Fm.wr Wt (by omega) (by have := Nat.mul_le_mul_left (cK P.2 + 1) hp; simp only [cK] at *; omega), Fr.snoc X' Nl (by have := ok.2.2.2.2.2.2.2.2.2.2.1; omega), by rw [e', Wt.size]; exact hs, u1, u2, c1, c2, hN⟩, fun target r => ?_⟩
    rw [show cV α b (.long u :: .int j :: .ref (q + 2) :: st) = .long u :: .int j :: .ref (b + (q + 1)) :: cV α b st from rfl, show b + (q + 1) = b + 1 + q by omega]
    exact stp target r) g
theorem go_bastore {q : Nat} {j : Int32} {nm ds : String} {ty : FieldType} {cap : Nat} {l' : List Int32} (ha : (cA P.2)[q]? = some (nm, ds, ty, cap)) (hty : ty = .boolean ∨ ty = .byte) (hq : Nat.blt q k = true) (hp : 0 < mN M) (hv : v = nar ty x) (hx : Jvm.AM.st (gA s q) j v = some l') (d : decode (mB M) pc = .ok (.bastore, 1)) (g : Go P M (pc + 1) L st (none, [(k, sA s q l')]) out) : Go P M pc L (.int x :: .int j :: .ref (q + 2) :: st) (none, [(k, s)]) out :=
  go_ch (fun l Z a0 p e R s1 m args below meth c α b n0 h0 uC uS ok hl T locs cells slots I => by
    have hq' : q < k := by simpa [Nat.blt_eq] using hq
    have hqK := get_lt ha
    obtain ⟨X, Rp, Fm, Nl, hs, u1, u2, c1, c2, hN⟩ := I
    obtain ⟨cl, A, ec⟩ := (rep_one Rp).2.2.2 q _ ha hq'
    obtain ⟨h1, h2, rfl⟩ := st_some hx
    subst hv
    have hlen : j.toNatClampNeg < (arV ty s q).length := by rcases hty with rfl | rfl <;> simpa [arV] using h2
    have hset : arV ty (sA s q ((gA s q).set j.toNatClampNeg (nar ty x))) q = (arV ty s q).set j.toNatClampNeg (.int (nar ty x)) := by rcases hty with rfl | rfl <;> simp [arV, gA_sA, List.map_set]
    have hin := in_of ec h1 hlen
    obtain ⟨T', h', X', e', Wt, stp⟩ : ∃ T' h', Stand p l e R s1 m args below meth c T' (locs ++ [⟨b + 1 + q, j.toNatClampNeg⟩]) cells slots ∧ T'.heap = h' ∧ Wr T.heap h' (b + 1 + q) j.toNatClampNeg (.int (nar ty x)) ∧ ∀ target, Steps p.tables e below (T'.setTop (mkF m (pc + 1) (cL α b L) (cV α b st))) target → Steps p.tables e below (T.setTop (mkF m pc (cL α b L) (.int x :: .int j :: .ref (b + 1 + q) :: cV α b st))) target := by
      rcases hty with rfl | rfl
      · exact stZ X ok.2.2.1 ok.2.2.2.1 rfl A (x := x) hin (g := mkF m pc (cL α b L) (.int x :: .int j :: .ref (b + 1 + q) :: cV α b st)) rfl rfl (hb ok.2.2.2.2.2.1 d)
      · exact stB X ok.2.2.1 ok.2.2.2.1 rfl A (x := x) hin (g := mkF m pc (cL α b L) (.int x :: .int j :: .ref (b + 1 + q) :: cV α b st)) rfl rfl (hb ok.2.2.2.2.2.1 d)
    refine ⟨T', _, cells, slots, ⟨X', rep_mk (by rw [e']; exact rep_store (rep_one Rp) ha hq' Wt hlen hset (fun q' y _ h => arV_sA s q _ _ q' h) rfl rfl), by rw [e']; exact Fm.wr Wt (by omega) (by have := Nat.mul_le_mul_left (cK P.2 + 1) hp; simp only [cK] at *; omega), Fr.snoc X' Nl (by have := ok.2.2.2.2.2.2.2.2.2.2.1; omega), by rw [e', Wt.size]; exact hs, u1, u2, c1, c2, hN⟩, fun target r => ?_⟩
    rw [show cV α b (.int x :: .int j :: .ref (q + 2) :: st) = .int x :: .int j :: .ref (b + (q + 1)) :: cV α b st from rfl, show b + (q + 1) = b + 1 + q by omega]
    exact stp target r) g
/-! ## 5. A method as a whole; calls -/
def Call (P : PI) (M : Meth) (as : List Value) (w : W) (out : Option Value × W) : Prop :=
  ∀ (l : Launch) (Z : State) (a0 : Array Value) (ws : List Jvm.Cond) (α b n0 : Nat) (h0 : Heap), (∀ d ∈ P.1, d.before a0 Z = true) → Facts Z a0 P.2 → n0 ≤ b → RepW Z P.2 α b w h0 → w.2.length ≤ mN M → (mTop M = true → h0.size = b + usedC w ∧ usedC w = mUC M ∧ usedS P.2 w = mUS M) →
    MetFree l (mY M) (head1 (Jvm.Cond.code (mY M) (mB M) (mL M) (mT M) :: ws) (mR M)) (fun a U => a = (cV α b as).toArray ∧ Z.Warmed39 U.vm ∧ U.heap = h0) (fun _ _ _ _ _ => True)
      (fun _ U o U' => ∃ v L, o = .returned v ∧ (v = out.1.map (con α b) ∧ Fr n0 L ∧ RepW Z P.2 α b out.2 U'.heap ∧ Frm b (b + (cK P.2 + 1) * mN M) h0 U'.heap ∧ ∃ k, U'.heap.size = h0.size + k ∧ k + usedC w = usedC out.2) ∧ FrameEnd U o U' L (mR M).cells (mR M).slots)
theorem call_of_go {as : List Value} (hpl : plainName (mY M).cls = true) (hlen : (entryL as (mL M)).length = mL M) (hret : mT M = none → out.1 = none) (g : Go P M 0 (entryL as (mL M)) [] w out) : Call P M as w out := by
  intro l Z a0 ws α b n0 h0 hw fa hn0 Rp hN htop
  refine MetFree.of_bodySF (plainFor_of_name hpl) hisR ?_
  intro p e s m args below meth c s₁ Bd hml0 hP hK
  obtain ⟨rfl, hZ, hh⟩ := hP
  have X0 : Stand p l e (mR M) s m (cV α b as).toArray below meth c s₁ [] 0 0 := Stand.of_body Bd
  have e0 : s₁.heap = h0 := by rw [← hh, Bd.state]; rfl
  obtain ⟨T', L', c', n', I', fin⟩ := g hlen l Z a0 p e (mR M) s m (cV α b as).toArray below meth c α b n0 h0 (usedC w) (usedS P.2 w) ⟨hw, fa, Bd.exec, hZ, findClass_of_methodNamed Bd.named, Bd.bytes, hml0, Bd.returns, (name_of_methodNamed Bd.named Bd.method).1, rfl, hn0, htop, by rw [hh]⟩ s₁ [] 0 0 ⟨X0, by rw [e0]; exact Rp, by rw [e0]; exact Frm.refl _ _ _, Fr.nil _, by rw [e0]; rfl, by simp, by simp, Nat.zero_le _, Nat.zero_le _, hN⟩
  obtain ⟨X', Rp', Fm', Nl', hs', u1', u2', c1', c2', hN'⟩ := I'
  obtain ⟨fs, hr, hrun, hended, hW, hsame⟩ := X'.leave (v := out.1.map (con α b)) (fun h => by rw [Bd.returns] at h; rw [hret h]; rfl)
  refine ⟨_, _, ?_, hrun, hended, _, _, rfl, ⟨rfl, Nl', Rp', Fm', c', hs', u1'⟩, ⟨_, rfl⟩, hW, hsame.mono c1' c2'⟩
  have q := fin fs hr
  rw [← entry_locals] at q
  exact q
def nr : Value → Bool
  | .ref _ => false
  | _ => true
theorem con_nr {α b : Nat} {v : Value} (h : nr v = true) : con α b v = v := by
  cases v <;> first | rfl | cases h
theorem cV_nr {α b : Nat} {l : List Value} (h : l.all nr = true) : cV α b l = l := by
  have : ∀ x ∈ l, con α b x = x := fun x hx => con_nr (List.all_eq_true.mp h x hx)
  unfold cV
  exact (List.map_congr_left this).trans (List.map_id _)
theorem rep_obj {Z : State} {ci : CI} {α b : Nat} {h : Heap} {i : Nat} (F : RepW Z ci α b w h) (ho : w.2[i]? = some o) : RepW Z ci 0 (b + (cK ci + 1) * i) (none, [o]) h := rep_mk (F.2 i o ho)
theorem rep_back {Z : State} {ci : CI} {α α' b : Nat} {h h' : Heap} {i : Nat} (F : RepW Z ci α b w h) (ho : w.2[i]? = some o) (G : RepW Z ci α' (b + (cK ci + 1) * i) (none, [o']) h') (Fm : Frm (b + (cK ci + 1) * i) (b + (cK ci + 1) * i + (cK ci + 1) * 1) h h') : RepW Z ci α b (w.1, w.2.set i o') h' := by
  refine ⟨fun l hl => ⟨((F.1 l hl).1).frm fun c q => Fm _ _ q (Or.inl ?_), (F.1 l hl).2⟩, fun j oj hj => ?_⟩
  · have := (F.1 l hl).2; exact Nat.lt_of_lt_of_le this (Nat.le_add_right _ _)
  · by_cases e : j = i
    · subst e
      rw [show (w.1, w.2.set j o').2 = w.2.set j o' from rfl, List.getElem?_set_self (get_lt ho)] at hj
      cases hj
      exact rep_one G
    · rw [show (w.1, w.2.set i o').2 = w.2.set i o' from rfl, List.getElem?_set_ne (Ne.symm e)] at hj
      refine (F.2 j oj hj).frm fun x c q1 q2 q3 => Fm _ _ q3 ?_
      rcases Nat.lt_or_gt_of_ne e with q | q
      · have := Nat.mul_le_mul_left (cK ci + 1) q
        rw [Nat.mul_succ] at this; omega
      · have := Nat.mul_le_mul_left (cK ci + 1) q
        rw [Nat.mul_succ] at this; omega
theorem sum_set {A : Type} (f : A → Nat) {a a' : A} : ∀ {l : List A} {i : Nat}, l[i]? = some a → ((l.set i a').map f).sum + f a = (l.map f).sum + f a'
  | [], i, h => by simp at h
  | b :: r, 0, h => by simp at h; subst h; simp; omega
  | b :: r, i + 1, h => by
    simp only [List.getElem?_cons_succ] at h
    have := sum_set f (a' := a') h
    simp only [List.set_cons_succ, List.map_cons, List.sum_cons]; omega
def CQ (ci : CI) (Z : State) (α b n0 : Nat) (h0 : Heap) (N : Nat) (w : W) (out : Option Value × W) (v : Option Value) (hp : Heap) (L : List Loc) : Prop := v = out.1.map (con α b) ∧ Fr n0 L ∧ RepW Z ci α b out.2 hp ∧ Frm b (b + (cK ci + 1) * N) h0 hp ∧ ∃ k, hp.size = h0.size + k ∧ k + usedC w = usedC out.2
/-- what a callee that makes nothing must fit into -/
def Small (M M' : Meth) (rest : List Value) : Prop := (mR M').cells = 0 ∧ (mR M').slots = 0 ∧ mTop M' = false ∧ Nat.ble ((mR M').frames + 1) (mR M).frames = true ∧ Nat.ble ((rest.map fun v => v.category).sum + (mL M' + 11) + (mR M').locals) (mR M).locals = true
theorem ret_st {α b b' : Nat} {r : Option Value} {rest : List Value} (hr : r.all nr = true) : (r.map (con 0 b')).toList ++ cV α b rest = cV α b (r.toList ++ rest) := by
  cases r with
  | none => rfl
  | some v => simp only [Option.map_some, Option.toList_some, cV, List.cons_append, List.nil_append, List.map_cons]; rw [con_nr (show nr v = true from hr), con_nr (show nr v = true from hr)]
theorem inv_obj {l : Launch} {Z : State} {p : Program} {e : Env} {R : Room} {s : State} {m : MethodId} {args : Array Value} {below : List Frame} {meth : Method} {c : Code} {α b n0 : Nat} {h0 : Heap} {uC uS : Nat} {T T2 : State} {locs L2 : List Loc} {cells slots rc rs i : Nat}
    (I : Inv P M l Z p e R s m args below meth c α b n0 h0 uC uS w T locs cells slots) (ho : w.2[i]? = some o) (X2 : Stand p l e R s m args below meth c T2 (locs ++ L2) (cells + rc) (slots + rs))
    (N2 : Fr n0 L2) (R2 : RepW Z P.2 0 (b + (cK P.2 + 1) * i) (none, [o']) T2.heap) (F2 : Frm (b + (cK P.2 + 1) * i) (b + (cK P.2 + 1) * i + (cK P.2 + 1) * 1) T.heap T2.heap) (k2 : ∃ k, T2.heap.size = T.heap.size + k ∧ k + usedC (none, [o]) = usedC (none, [o']))
    (hC : o'.1 = o.1 + rc) (hS : usedS P.2 (none, [o']) = usedS P.2 (none, [o]) + rs) (q1 : cells + rc ≤ R.cells) (q2 : slots + rs ≤ R.slots) : Inv P M l Z p e R s m args below meth c α b n0 h0 uC uS (w.1, w.2.set i o') T2 (locs ++ L2) (cells + rc) (slots + rs) := by
  obtain ⟨X, Rp, Fm, Nl, hs, u1, u2, c1, c2, hN⟩ := I
  obtain ⟨k, k1, k3⟩ := k2
  have hi := get_lt ho
  have a1 := sum_set (fun o : Nat × S => 1 + o.1) (a' := o') ho
  have a2 := sum_set (fun o : Nat × S => cF P.2 + (((cA P.2).take o.1).map fun x => x.2.2.2).sum) (a' := o') ho
  have hle : (cK P.2 + 1) * (i + 1) ≤ (cK P.2 + 1) * mN M := Nat.mul_le_mul_left _ (by omega)
  rw [Nat.mul_succ] at hle
  refine ⟨X2, rep_back Rp ho R2 F2, Fm.trans (F2.wide (Nat.le_add_right _ _) (by omega)), Nl.app N2, ?_, ?_, ?_, q1, q2, by simpa using hN⟩
  · simp only [usedC, List.map_cons, List.map_nil, List.sum_cons, List.sum_nil] at k3; omega
  · simp only [usedC] at u1 ⊢; omega
  · simp only [usedS, List.map_cons, List.map_nil, List.sum_cons, List.sum_nil] at u2 hS ⊢; omega
def LinkV (P : PI) (own : String) (idx : Nat) (M' : Meth) : Prop := Jvm.Cond.methodLink own idx (mY M') ∈ P.1 ∧ Jvm.Cond.declares (mY M') ∈ P.1 ∧ Jvm.Cond.selects (cN P.2) (mY M') (mY M') ∈ P.1 ∧ Jvm.Cond.instanceMethod (mY M') ∈ P.1 ∧ Jvm.Cond.code (mY M') (mB M') (mL M') (mT M') ∈ P.1 ∧ (mY M').cls = cN P.2 ∧ mN M' = 1
def LinkP (P : PI) (own : String) (idx : Nat) (M' : Meth) : Prop := Jvm.Cond.methodLink own idx (mY M') ∈ P.1 ∧ Jvm.Cond.instanceMethod (mY M') ∈ P.1 ∧ Jvm.Cond.privateMethod (mY M') ∈ P.1 ∧ Jvm.Cond.code (mY M') (mB M') (mL M') (mT M') ∈ P.1 ∧ (mY M').cls = cN P.2 ∧ mN M' = 1
def LinkS (P : PI) (own : String) (idx : Nat) (M' : Meth) : Prop := Jvm.Cond.methodLink own idx (mY M') ∈ P.1 ∧ Jvm.Cond.static (mY M') ∈ P.1 ∧ Jvm.Cond.initialized (mY M').cls ∈ P.1 ∧ Jvm.Cond.code (mY M') (mB M') (mL M') (mT M') ∈ P.1 ∧ ((mY M').cls ≠ "java/lang/invoke/MethodHandle" ∧ (mY M').cls ≠ "java/lang/invoke/VarHandle")
def LinkI (P : PI) (own : String) (idx : Nat) (M' : Meth) : Prop := Jvm.Cond.methodLink own idx (mY M') ∈ P.1 ∧ Jvm.Cond.instanceMethod (mY M') ∈ P.1 ∧ Jvm.Cond.code (mY M') (mB M') (mL M') (mT M') ∈ P.1 ∧ (mY M').cls = cN P.2 ∧ mN M' = 1 ∧ mT M' = none ∧ (mY M').name = "<init>"
variable {M' : Meth} {i idx id : Nat} {as rest : List Value} {rv : Option Value} {ps : List FieldType} {rt : Option FieldType}
theorem cV_call {α b : Nat} {jd : Nat} (hnr : as.all nr = true) (hst : st = as.reverse ++ .ref (jd + 1) :: rest) : cV α b st = as.reverse ++ .ref (b + jd) :: cV α b rest := by
  subst hst
  have h1 : cV α b as.reverse = as.reverse := cV_nr (by rw [List.all_reverse]; exact hnr)
  unfold cV at h1 ⊢
  rw [List.map_append, h1]; rfl
theorem go_virt (lk : LinkV P (mY M).cls idx M') (pd : parseMethodDescriptor (mY M').desc = some ⟨ps, rt⟩) (hn : as.length = ps.length) (hid : id = (cK P.2 + 1) * i + 1) (hst : st = as.reverse ++ .ref id :: rest) (hnr : as.all nr = true) (hrr : rv.all nr = true) (ho : w.2[i]? = some o) (hw' : w' = (w.1, w.2.set i o')) (hC : o'.1 = o.1) (sm : Small M M' rest)
    (d : decode (mB M) pc = .ok (.invokevirtual idx, 3)) (cl : Call P M' (.ref 1 :: as) (none, [o]) (rv, (none, [o']))) (g : Go P M (pc + 3) L (rv.toList ++ rest) w' out) : Go P M pc L st w out :=
  go_ch (fun l Z a0 p e R s1 m args below meth c α b n0 h0 uC uS ok hl T locs cells slots I => by
    subst hw' hid
    obtain ⟨hw, fa, hx, hZ, hown, hc, hml, hret, hnm, hR, hn0, htop, hsz⟩ := ok
    obtain ⟨k1, k2, k3, k4, k5, k6, k7⟩ := lk
    obtain ⟨z1, z2, z3, z4, z5⟩ := sm
    have C := cl l Z a0 [] 0 (b + (cK P.2 + 1) * i) n0 T.heap hw fa (Nat.le_trans hn0 (Nat.le_add_right _ _)) (rep_obj I.2.1 ho) (by rw [k7]; exact Nat.le_refl _) (fun q => by rw [z3] at q; cases q)
    have Bk := backOf (Q := CQ P.2 Z 0 (b + (cK P.2 + 1) * i) n0 T.heap (mN M') (none, [o]) (rv, (none, [o']))) (R := R) (p := p) (e := e) (below := below) (s := s1) (args := args) (len := 3) (W := (rest.map fun v => v.category).sum) C hZ (hw _ k5) (by rw [k6]; exact fa.2.1) (by rw [hR]; exact Nat.le_of_ble_eq_true z4) (by rw [hR]; exact Nat.le_of_ble_eq_true z5)
    have E := (I.2.1.2 i o ho).1
    obtain ⟨cB, kB, q1, q2, q3⟩ := isOf (T := T) hZ rfl E
    obtain ⟨v, vm1, ⟨T2, Lx, kx, nx⟩, -, X2, ⟨L2, hQ, l2, y2, n2⟩, stp⟩ := I.1.virtualBack hx (y := mY M') (z := mY M') hown (mvT hZ (hw _ k1)) (mvT hZ (hw _ k2)) (notFace_of_selects (args := #[]) (mvT hZ (hw _ k3))) (mvT hZ (hw _ k3)) (mvT hZ (hw _ k4)) (by rw [k6]; exact fa.2.2.2.2.2.2) Bk q1 q3 (g := mkF m pc (cL α b L) (cV α b st)) rfl (by show (cL α b L).size = c.maxLocals; rw [cL_size, hl, hml]) (Steps.refl _) (argsL := as) (rest := cV α b rest) (lenOf pd hn) (cV_call hnr hst)
      (by show 2 * 0 + _ ≤ _; rw [cV_sum]; exact Nat.le_of_eq (Nat.zero_add _)) (hb hc d) (fun _ _ => ⟨by rw [show (cV 0 (b + (cK P.2 + 1) * i) (.ref 1 :: as)) = .ref (b + (cK P.2 + 1) * i) :: cV 0 (b + (cK P.2 + 1) * i) as from rfl, cV_nr hnr], rfl, by rw [z1]; exact I.2.2.2.2.2.2.2.1, by rw [z2]; exact I.2.2.2.2.2.2.2.2.1⟩)
    dsimp only [Pt.U, Pt.locs, Pt.cells, Pt.slots] at X2 l2 y2 n2 stp hQ
    subst l2 y2 n2
    obtain ⟨rfl, N2, R2, F2, k8⟩ := hQ
    rw [k7] at F2
    refine ⟨T2, _, _, _, inv_obj I ho X2 N2 R2 F2 k8 (by rw [z1]; exact hC) (by rw [z2]; simp [usedS, hC]) (by rw [z1]; exact I.2.2.2.2.2.2.2.1) (by rw [z2]; exact I.2.2.2.2.2.2.2.2.1), fun target r => stp.trans ?_⟩
    rw [← ret_st (b' := b + (cK P.2 + 1) * i) hrr] at r
    exact r) g
theorem go_priv (lk : LinkP P (mY M).cls idx M') (pd : parseMethodDescriptor (mY M').desc = some ⟨ps, rt⟩) (hn : as.length = ps.length) (hid : id = (cK P.2 + 1) * i + 1) (hst : st = as.reverse ++ .ref id :: rest) (hnr : as.all nr = true) (hrr : rv.all nr = true) (ho : w.2[i]? = some o) (hw' : w' = (w.1, w.2.set i o')) (hC : o'.1 = o.1) (sm : Small M M' rest)
    (d : decode (mB M) pc = .ok (.invokevirtual idx, 3)) (cl : Call P M' (.ref 1 :: as) (none, [o]) (rv, (none, [o']))) (g : Go P M (pc + 3) L (rv.toList ++ rest) w' out) : Go P M pc L st w out :=
  go_ch (fun l Z a0 p e R s1 m args below meth c α b n0 h0 uC uS ok hl T locs cells slots I => by
    subst hw' hid
    obtain ⟨hw, fa, hx, hZ, hown, hc, hml, hret, hnm, hR, hn0, htop, hsz⟩ := ok
    obtain ⟨k1, k4, k3, k5, k6, k7⟩ := lk
    obtain ⟨z1, z2, z3, z4, z5⟩ := sm
    have C := cl l Z a0 [] 0 (b + (cK P.2 + 1) * i) n0 T.heap hw fa (Nat.le_trans hn0 (Nat.le_add_right _ _)) (rep_obj I.2.1 ho) (by rw [k7]; exact Nat.le_refl _) (fun q => by rw [z3] at q; cases q)
    have Bk := backOf (Q := CQ P.2 Z 0 (b + (cK P.2 + 1) * i) n0 T.heap (mN M') (none, [o]) (rv, (none, [o']))) (R := R) (p := p) (e := e) (below := below) (s := s1) (args := args) (len := 3) (W := (rest.map fun v => v.category).sum) C hZ (hw _ k5) (by rw [k6]; exact fa.2.1) (by rw [hR]; exact Nat.le_of_ble_eq_true z4) (by rw [hR]; exact Nat.le_of_ble_eq_true z5)
    obtain ⟨cell, q1, q2⟩ := (I.2.1.2 i o ho).1.cell
    have hy : (mY M').cls ≠ "java/lang/invoke/MethodHandle" ∧ (mY M').cls ≠ "java/lang/invoke/VarHandle" := by rw [k6]; exact fa.2.2.2.2.2.2
    have hpriv : s1.PrivateAt (mY M') := Cond.privateMethod_at (mvP hZ (hw _ k3) (args := #[]))
    have hin : (Jvm.Cond.instanceMethod (mY M')).before args s1 = true := mvT hZ (hw _ k4)
    obtain ⟨c2, kk, i1, i2, i3, i4, -⟩ := Cond.instantiable_spec fa.1
    obtain ⟨k', j1, j2⟩ := hZ.alike.2.2 _ _ i2
    have hsel : (Jvm.Cond.selects (mY M').cls (mY M') (mY M')).before args s1 = true := selects_self_of_private (c := c2) (k := k') (by rw [k6, hZ.alike.findClass]; exact i1) j1 (by
      have : kk.isInterface = false := by simp only [Bool.or_eq_false_iff] at i4; exact i4.1
      rw [j2]; exact this) hpriv hin hy
    obtain ⟨v, vm1, ⟨T2, Lx, kx, nx⟩, -, X2, ⟨L2, hQ, l2, y2, n2⟩, stp⟩ := I.1.privateBack hx (y := mY M') hown (mvT hZ (hw _ k1)) hin hsel hpriv (mvT hZ (hw _ k5)) hy Bk (g := mkF m pc (cL α b L) (cV α b st)) rfl (by show (cL α b L).size = c.maxLocals; rw [cL_size, hl, hml]) (Steps.refl _) (a := b + (cK P.2 + 1) * i) q1 q2 (argsL := as) (rest := cV α b rest) (lenOf pd hn) (cV_call hnr hst)
      (by show 2 * 0 + _ ≤ _; rw [cV_sum]; exact Nat.le_of_eq (Nat.zero_add _)) (hb hc d) (fun _ _ => ⟨by rw [show (cV 0 (b + (cK P.2 + 1) * i) (.ref 1 :: as)) = .ref (b + (cK P.2 + 1) * i) :: cV 0 (b + (cK P.2 + 1) * i) as from rfl, cV_nr hnr], rfl, by rw [z1]; exact I.2.2.2.2.2.2.2.1, by rw [z2]; exact I.2.2.2.2.2.2.2.2.1⟩)
    dsimp only [Pt.U, Pt.locs, Pt.cells, Pt.slots] at X2 l2 y2 n2 stp hQ
    subst l2 y2 n2
    obtain ⟨rfl, N2, R2, F2, k8⟩ := hQ
    rw [k7] at F2
    refine ⟨T2, _, _, _, inv_obj I ho X2 N2 R2 F2 k8 (by rw [z1]; exact hC) (by rw [z2]; simp [usedS, hC]) (by rw [z1]; exact I.2.2.2.2.2.2.2.1) (by rw [z2]; exact I.2.2.2.2.2.2.2.2.1), fun target r => stp.trans ?_⟩
    rw [← ret_st (b' := b + (cK P.2 + 1) * i) hrr] at r
    exact r) g
theorem go_stat (lk : LinkS P (mY M).cls idx M') (pd : parseMethodDescriptor (mY M').desc = some ⟨ps, rt⟩) (hn : as.length = ps.length) (hst : st = as.reverse ++ rest) (hN' : mN M' ≤ mN M ∧ w.2.length ≤ mN M') (hu : usedC w' = usedC w ∧ usedS P.2 w' = usedS P.2 w ∧ w'.2.length = w.2.length) (sm : Small M M' rest)
    (d : decode (mB M) pc = .ok (.invokestatic idx, 3)) (cl : Call P M' as w (rv, w')) (g : Go P M (pc + 3) L (rv.toList ++ rest) w' out) : Go P M pc L st w out :=
  go_ch (fun l Z a0 p e R s1 m args below meth c α b n0 h0 uC uS ok hl T locs cells slots I => by
    obtain ⟨hw, fa, hx, hZ, hown, hc, hml, hret, hnm, hR, hn0, htop, hsz⟩ := ok
    obtain ⟨k1, k2, k3, k5, k6⟩ := lk
    obtain ⟨z1, z2, z3, z4, z5⟩ := sm
    have C := cl l Z a0 [] α b n0 T.heap hw fa hn0 I.2.1 hN'.2 (fun q => by rw [z3] at q; cases q)
    have Bk := backOf (Q := CQ P.2 Z α b n0 T.heap (mN M') w (rv, w')) (R := R) (p := p) (e := e) (below := below) (s := s1) (args := args) (len := 3) (W := (rest.map fun v => v.category).sum) C hZ (hw _ k5) (hw _ k3) (by rw [hR]; exact Nat.le_of_ble_eq_true z4) (by rw [hR]; exact Nat.le_of_ble_eq_true z5)
    obtain ⟨v, vm1, ⟨T2, Lx, kx, nx⟩, -, X2, ⟨L2, hQ, l2, y2, n2⟩, stp⟩ := Jvm.LawKit.callS I.1 hx (y := mY M') hown (mvT hZ (hw _ k1)) (mvT hZ (hw _ k2)) (mvT hZ (hw _ k3)) (mvT hZ (hw _ k5)) k6 Bk (g := mkF m pc (cL α b L) (cV α b st)) rfl (by show (cL α b L).size = c.maxLocals; rw [cL_size, hl, hml]) (argsL := cV α b as) (rest := cV α b rest) (lenOf pd (by simpa [cV] using hn)) (by subst hst; simp [cV])
      (by show 2 * 0 + _ ≤ _; rw [cV_sum]; exact Nat.le_of_eq (Nat.zero_add _)) (hb hc d) (fun _ _ => ⟨rfl, rfl, by rw [z1]; exact I.2.2.2.2.2.2.2.1, by rw [z2]; exact I.2.2.2.2.2.2.2.2.1⟩)
    dsimp only [Pt.U, Pt.locs, Pt.cells, Pt.slots] at X2 l2 y2 n2 stp hQ
    subst l2 y2 n2
    obtain ⟨rfl, N2, R2, F2, k, k8, k9⟩ := hQ
    obtain ⟨X, Rp, Fm, Nl, hs, u1, u2, c1, c2, hN⟩ := I
    rw [z1, z2] at X2
    refine ⟨T2, _, _, _, ⟨X2, R2, Fm.trans (F2.wide (Nat.le_refl _) (by have := Nat.mul_le_mul_left (cK P.2 + 1) hN'.1; omega)), Nl.app N2, ?_, ?_, ?_, c1, c2, by rw [hu.2.2]; exact hN⟩, fun target r => stp target ?_⟩
    · rw [k8]; have := hu.1; simp only at k9; omega
    · rw [hu.1]; exact u1
    · rw [hu.2.1]; exact u2
    · have e1 : cV α b (rv.toList ++ rest) = (rv.map (con α b)).toList ++ cV α b rest := by cases rv <;> rfl
      rw [e1] at r; exact r) g
/-- a constructor, by its contract -/
theorem go_init {k2 : Nat} {s2 : S} (lk : LinkI P (mY M).cls idx M') (pd : parseMethodDescriptor (mY M').desc = some ⟨ps, rt⟩) (hn : as.length = ps.length) (hid : id = (cK P.2 + 1) * i + 1) (hst : st = as.reverse ++ .ref id :: rest) (hnr : as.all nr = true) (ho : w.2[i]? = some (k, s)) (hw' : w' = (w.1, w.2.set i (k2, s2)))
    (hC : k2 = k + (mR M').cells) (hS : usedS P.2 (none, [(k2, s2)]) = usedS P.2 (none, [(k, s)]) + (mR M').slots) (htM : mTop M = true) (hR1 : Nat.ble (usedC w + (mR M').cells) ((mR M).cells + mUC M) = true) (hR2 : Nat.ble (usedS P.2 w + (mR M').slots) ((mR M).slots + mUS M) = true)
    (hq : usedC w = (cK P.2 + 1) * i + usedC (none, [(k, s)]) ∧ usedC (none, [(k, s)]) = mUC M' ∧ usedS P.2 (none, [(k, s)]) = mUS M') (sm : Nat.ble ((mR M').frames + 1) (mR M).frames = true ∧ Nat.ble ((rest.map fun v => v.category).sum + (mL M' + 11) + (mR M').locals) (mR M).locals = true)
    (d : decode (mB M) pc = .ok (.invokespecial idx, 3)) (cl : Call P M' (.ref 1 :: as) (none, [(k, s)]) (none, (none, [(k2, s2)]))) (g : Go P M (pc + 3) L rest w' out) : Go P M pc L st w out :=
  go_ch (fun l Z a0 p e R s1 m args below meth c α b n0 h0 uC uS ok hl T locs cells slots I => by
    subst hw' hid
    obtain ⟨hw, fa, hx, hZ, hown, hc, hml, hret, hnm, hR, hn0, htop, hsz⟩ := ok
    obtain ⟨k1, k4, k5, k6, k7, k9, k10⟩ := lk
    obtain ⟨z4, z5⟩ := sm
    obtain ⟨t1, t2, t3⟩ := htop htM
    have Ic := I.2.2.2.2.2.1
    have Is := I.2.2.2.2.2.2.1
    have b1 : cells + (mR M').cells ≤ R.cells := by have := Nat.le_of_ble_eq_true hR1; rw [hR]; omega
    have b2 : slots + (mR M').slots ≤ R.slots := by have := Nat.le_of_ble_eq_true hR2; rw [hR]; omega
    have C := cl l Z a0 [] 0 (b + (cK P.2 + 1) * i) n0 T.heap hw fa (Nat.le_trans hn0 (Nat.le_add_right _ _)) (rep_obj I.2.1 ho) (by rw [k7]; exact Nat.le_refl _) (fun _ => ⟨by rw [I.2.2.2.2.1]; have := hq.1; omega, hq.2.1, hq.2.2⟩)
    have Bk := backOf (Q := CQ P.2 Z 0 (b + (cK P.2 + 1) * i) n0 T.heap (mN M') (none, [(k, s)]) (none, (none, [(k2, s2)]))) (R := R) (p := p) (e := e) (below := below) (s := s1) (args := args) (len := 3) (W := (rest.map fun v => v.category).sum) C hZ (hw _ k5) (by rw [k6]; exact fa.2.1) (by rw [hR]; exact Nat.le_of_ble_eq_true z4) (by rw [hR]; exact Nat.le_of_ble_eq_true z5)
    have hy : (mY M').cls ≠ "java/lang/invoke/MethodHandle" ∧ (mY M').cls ≠ "java/lang/invoke/VarHandle" := by rw [k6]; exact fa.2.2.2.2.2.2
    have hcd := hw _ k5
    rw [k9] at hcd
    obtain ⟨v, vm1, ⟨T2, Lx, kx, nx⟩, -, X2, ⟨L2, hQ, l2, y2, n2⟩, stp⟩ := I.1.specialBack hx (y := mY M') k10 hown (mvT hZ (hw _ k1)) (mvT hZ (hw _ k4)) (mvT hZ hcd) hy Bk (g := mkF m pc (cL α b L) (cV α b st)) rfl (by show (cL α b L).size = c.maxLocals; rw [cL_size, hl, hml]) (Steps.refl _) (a := b + (cK P.2 + 1) * i) (argsL := as) (rest := cV α b rest) (lenOf pd hn) (cV_call hnr hst)
      (by show 2 * 0 + _ ≤ _; rw [cV_sum]; exact Nat.le_of_eq (Nat.zero_add _)) (hb hc d) (fun _ _ => ⟨by rw [show (cV 0 (b + (cK P.2 + 1) * i) (.ref 1 :: as)) = .ref (b + (cK P.2 + 1) * i) :: cV 0 (b + (cK P.2 + 1) * i) as from rfl, cV_nr hnr], rfl, b1, b2⟩)
    dsimp only [Pt.U, Pt.locs, Pt.cells, Pt.slots] at X2 l2 y2 n2 stp hQ
    subst l2 y2 n2
    obtain ⟨rfl, N2, R2, F2, k8⟩ := hQ
    rw [k7] at F2
    exact ⟨T2, _, _, _, inv_obj I ho X2 N2 R2 F2 k8 hC hS b1 b2, fun target r => stp.trans r⟩) g
/-- Object's constructor -/
theorem go_objinit {a : Nat} (k1 : Jvm.Cond.methodLink (mY M).cls idx Lib.objectInit ∈ P.1) (k2 : Jvm.Cond.instanceMethod Lib.objectInit ∈ P.1) (k3 : Jvm.Cond.code Lib.objectInit ⟨#[0xb1]⟩ 1 none ∈ P.1) (z4 : Nat.ble 1 (mR M).frames = true) (z5 : Nat.ble ((rest.map fun v => v.category).sum + 12) (mR M).locals = true)
    (d : decode (mB M) pc = .ok (.invokespecial idx, 3)) (g : Go P M (pc + 3) L rest w out) : Go P M pc L (.ref (a + 1) :: rest) w out :=
  go_ch (fun l Z a0 p e R s1 m args below meth c α b n0 h0 uC uS ok hl T locs cells slots I => by
    obtain ⟨hw, fa, hx, hZ, hown, hc, hml, hret, hnm, hR, hn0, htop, hsz⟩ := ok
    obtain ⟨X, Rp, Fm, Nl, hs, u1, u2, c1, c2, hN⟩ := I
    obtain ⟨T', X', e', stp⟩ := initO X hx hZ hown (hw _ k1) (hw _ k2) (hw _ k3) rfl (g := mkF m pc (cL α b L) (cV α b (.ref (a + 1) :: rest))) rfl (by show (cL α b L).size = c.maxLocals; rw [cL_size, hl, hml]) (a := b + a) (rest := cV α b rest) rfl (hb hc d) (by rw [hR]; exact Nat.le_of_ble_eq_true z4) (W := (rest.map fun v => v.category).sum) (by show 2 * 0 + _ ≤ _; rw [cV_sum]; exact Nat.le_of_eq (Nat.zero_add _)) (by rw [hR]; exact Nat.le_of_ble_eq_true z5)
    exact ⟨T', locs, cells, slots, ⟨X', by rw [e']; exact Rp, by rw [e']; exact Fm, Nl, by rw [e']; exact hs, u1, u2, c1, c2, hN⟩, fun target r => stp target r⟩) g
/-- a new object of the class -/
theorem go_new {n : Nat} (k1 : Jvm.Cond.classLink (mY M).cls idx (cN P.2) ∈ P.1) (htM : mTop M = true) (hn : w.2.length = n) (hq : usedC w = (cK P.2 + 1) * n) (hw' : w' = (w.1, w.2 ++ [(0, s0)])) (hN' : Nat.blt n (mN M) = true) (hR1 : Nat.ble (usedC w + 1) ((mR M).cells + mUC M) = true) (hR2 : Nat.ble (usedS P.2 w + cF P.2) ((mR M).slots + mUS M) = true)
    (d : decode (mB M) pc = .ok (.new idx, 3)) (hid : id = (cK P.2 + 1) * n + 1) (g : Go P M (pc + 3) L (.ref id :: st) w' out) : Go P M pc L st w out :=
  go_ch (fun l Z a0 p e R s1 m args below meth c α b n0 h0 uC uS ok hl T locs cells slots I => by
    subst hw' hid
    obtain ⟨hw, fa, hx, hZ, hown, hc, hml, hret, hnm, hR, hn0, htop, hsz⟩ := ok
    obtain ⟨X, Rp, Fm, Nl, hs, u1, u2, c1, c2, hN⟩ := I
    obtain ⟨t1, t2, t3⟩ := htop htM
    have b1 : cells + 1 ≤ R.cells := by have := Nat.le_of_ble_eq_true hR1; rw [hR]; omega
    have b2 : slots + cF P.2 ≤ R.slots := by have := Nat.le_of_ble_eq_true hR2; rw [hR]; omega
    obtain ⟨T2, h2, X2, e2, E2, A2, D2, -, st2⟩ := newO X hx hZ hown (hw _ k1) fa.1 fa.2.1 rfl (g := mkF m pc (cL α b L) (cV α b st)) rfl (hb hc d) b1 b2
    have ha : T.heap.size = b + (cK P.2 + 1) * n := by rw [hs, t1]; omega
    rw [ha] at A2 D2 st2
    have sz2 : T2.heap.size = T.heap.size + 1 := by
      have q1 := X2.heapSize
      have q2 : b + (cK P.2 + 1) * n < h2.size := A2.lt
      rw [e2] at q1 ⊢
      omega
    refine ⟨T2, locs, _, _, ⟨X2, ?_, by rw [e2]; exact Fm.ext E2, Nl, by rw [sz2, hs]; omega, ?_, ?_, b1, b2, ?_⟩, fun target r => st2 target ?_⟩
    · rw [e2]
      refine ⟨fun l1 h1 => (Rp.ext E2).1 l1 h1, fun j oj hj => ?_⟩
      by_cases q : j < w.2.length
      · rw [show (w.1, w.2 ++ [(0, s0)]).2 = w.2 ++ [(0, s0)] from rfl, List.getElem?_append_left q] at hj
        exact (Rp.ext E2).2 j oj hj
      · have hj' := get_lt hj
        simp at hj'
        have ej : j = n := by omega
        subst ej
        rw [show (w.1, w.2 ++ [(0, s0)]).2 = w.2 ++ [(0, s0)] from rfl, List.getElem?_append_right (by omega)] at hj
        rw [hn] at hj; simp at hj; subst hj
        refine ⟨A2, fun f x hx => ?_, fun q x hx => ?_, fun q x _ hq => absurd hq (Nat.not_lt_zero _)⟩
        · have := D2 (fa.2.2.1 f x hx).1 (fa.2.2.1 f x hx).2
          rw [fa.2.2.2.2.2.1 f x hx] at this
          exact this
        · have := D2 (fa.2.2.2.1 q x hx).1 (fa.2.2.2.1 q x hx).2
          rw [if_neg (Nat.not_lt_zero _)]
          exact this
    · simp [usedC] at u1 ⊢; omega
    · simp [usedS] at u2 ⊢; omega
    · simp; have : n < mN M := by simpa [Nat.blt_eq] using hN'
      omega
    · exact r) g
/-- a new array, laid into its field at once -/
theorem rep_new {Z : State} {a0 : Array Value} {ci : CI} {h h1 h2 : Heap} {b : Nat} {s s' : S} {k : Nat} {nm ds : String} {ty : FieldType} {cap : Nat} {cl : Cell} (fa : Facts Z a0 ci) (F : Rep1 Z ci h b (k, s)) (hf : (cA ci)[k]? = some (nm, ds, ty, cap)) (E : Ext h h1) (A : Arr Z h1 (b + 1 + k) cl ty) (ec : cl.slots = (arV ty s' k).toArray)
    (Wt : Wr h1 h2 b (Jvm.RoadKit.slotOf Z (cN ci) nm ds) (.ref (b + 1 + k))) (ho : ∀ q' x, (cA ci)[q']? = some x → q' ≠ k → arV x.2.2.1 s' q' = arV x.2.2.1 s q') (ha : gI s' = gI s) (hbb : gL s' = gL s) : Rep1 Z ci h2 b (k + 1, s') := by
  obtain ⟨f1, f2, f3, f4⟩ := F
  obtain ⟨-, -, g1, g2, g3, -⟩ := fa
  have lt := get_lt hf
  refine ⟨(f1.ext E).wr Wt, fun f x hx => ?_, fun q x hx => ?_, fun q x hx hq => ?_⟩
  · have e : scV x.2.2 s' f = scV x.2.2 s f := by unfold scV; split <;> simp [ha, hbb]
    have lt' := get_lt hx
    show Fld Z h2 b (cN ci) x.1 x.2.1 (scV x.2.2 s' f)
    rw [e]
    refine ((f2 f x hx).ext E).other Wt (Or.inr ?_)
    refine slot_ne (g1 f x hx).1 (g2 k _ hf).1 ?_ (g1 f x hx).2 (g2 k _ hf).2
    intro en
    have n1 : ((cS ci).map (fun x => x.1) ++ (cA ci).map (fun x => x.1))[f]? = some x.1 := by rw [List.getElem?_append_left (by simpa using lt')]; simp [hx]
    have n2 : ((cS ci).map (fun x => x.1) ++ (cA ci).map (fun x => x.1))[(cS ci).length + k]? = some nm := by rw [List.getElem?_append_right (by simp)]; simp [hf]
    rw [en] at n1
    obtain ⟨i1, j1⟩ := List.getElem?_eq_some_iff.mp n1
    obtain ⟨i2, j2⟩ := List.getElem?_eq_some_iff.mp n2
    have := (List.getElem_inj g3).mp (j1.trans j2.symm)
    omega
  · by_cases e : q = k
    · subst e
      cases hf.symm.trans hx
      rw [if_pos (show q < (q + 1, s').1 from Nat.lt_succ_self q)]
      exact ((f3 q _ hf).ext E).same Wt
    · have lt' := get_lt hx
      have e2 : (if q < (k + 1, s').1 then Value.ref (b + 1 + q) else Value.null) = (if q < (k, s).1 then Value.ref (b + 1 + q) else Value.null) := by
        show (if q < k + 1 then _ else _) = (if q < k then _ else _)
        by_cases q1 : q < k
        · rw [if_pos q1, if_pos (by omega)]
        · rw [if_neg q1, if_neg (by omega)]
      rw [e2]
      refine ((f3 q x hx).ext E).other Wt (Or.inr ?_)
      refine slot_ne (g2 q x hx).1 (g2 k _ hf).1 ?_ (g2 q x hx).2 (g2 k _ hf).2
      intro en
      have n1 : ((cS ci).map (fun x => x.1) ++ (cA ci).map (fun x => x.1))[(cS ci).length + q]? = some x.1 := by rw [List.getElem?_append_right (by simp)]; simp [hx]
      have n2 : ((cS ci).map (fun x => x.1) ++ (cA ci).map (fun x => x.1))[(cS ci).length + k]? = some nm := by rw [List.getElem?_append_right (by simp)]; simp [hf]
      rw [en] at n1
      obtain ⟨i1, j1⟩ := List.getElem?_eq_some_iff.mp n1
      obtain ⟨i2, j2⟩ := List.getElem?_eq_some_iff.mp n2
      have := (List.getElem_inj g3).mp (j1.trans j2.symm)
      omega
  · by_cases e : q = k
    · subst e
      cases hf.symm.trans hx
      exact ⟨cl, A.other Wt (nq (by omega)), ec⟩
    · obtain ⟨c, B, eb⟩ := f4 q x hx (by have : q < k + 1 := hq; show q < k; omega)
      refine ⟨c, (B.ext E).other Wt (nq (by omega)), eb.trans ?_⟩
      rw [ho q x hx e]
theorem go_newV {aty : ArrayType} {ty : FieldType} {nm ds : String} {cap : Nat} {n : Int32} {s' : S} (hty : newarray.typeOf aty = ty) (ha : (cA P.2)[k]? = some (nm, ds, ty, cap)) (k0 : Jvm.Cond.arrayClass ty ∈ P.1) (k1 : Jvm.Cond.fieldLink (cN P.2) idx (cN P.2) nm ds ∈ P.1) (hM : (mY M).cls = cN P.2)
    (hlays : Jvm.Cond.lays (cN P.2) (cN P.2) nm ds ∈ P.1 ∨ (Jvm.Cond.laysFinal (cN P.2) (cN P.2) nm ds ∈ P.1 ∧ (mY M).name = "<init>")) (htM : mTop M = true) (hp : 0 < mN M) (hn : ¬ n < 0) (hcap : Nat.ble n.toNatClampNeg cap = true) (hbig : Nat.ble (cap * 8) 536870912 = true)
    (hR1 : Nat.ble (1 + k + 1) ((mR M).cells + mUC M) = true) (hR2 : Nat.ble (usedS P.2 (none, [(k, s)]) + cap) ((mR M).slots + mUS M) = true)
    (hv : arV ty s' k = List.replicate n.toNatClampNeg (defaultValue ty)) (hoth : ∀ q' x, (cA P.2)[q']? = some x → q' ≠ k → arV x.2.2.1 s' q' = arV x.2.2.1 s q') (hgI : gI s' = gI s) (hgL : gL s' = gL s)
    (d : decode (mB M) pc = .ok (.newarray aty, 2)) (d2 : decode (mB M) (pc + 2) = .ok (.putfield idx, 3)) (g : Go P M (pc + 5) L st (none, [(k + 1, s')]) out) : Go P M pc L (.int n :: .ref 1 :: st) (none, [(k, s)]) out :=
  go_ch (fun l Z a0 p e R s1 m args below meth c α b n0 h0 uC uS ok hl T locs cells slots I => by
    obtain ⟨hw, fa, hx, hZ, hown, hc, hml, hret, hnm, hR, hn0, htop, hsz⟩ := ok
    obtain ⟨X, Rp, Fm, Nl, hs, u1, u2, c1, c2, hN⟩ := I
    obtain ⟨t1, t2, t3⟩ := htop htM
    have u1' : cells + uC = 1 + k := by simpa [usedC] using u1
    have b1 : cells + 1 ≤ R.cells := by have := Nat.le_of_ble_eq_true hR1; rw [hR]; omega
    have b2 : slots + cap ≤ R.slots := by have := Nat.le_of_ble_eq_true hR2; rw [hR]; omega
    subst hty
    obtain ⟨T2, h2, cA2, X2, e2, E2, A2, st2⟩ := newP X hx hZ (hw _ k0) rfl (g := mkF m pc (cL α b L) (.int n :: .ref b :: cV α b st)) rfl (hb hc d) rfl hn (Nat.le_of_ble_eq_true hcap) (Nat.le_of_ble_eq_true hbig) b1 b2
    have hadr : T.heap.size = b + 1 + k := by rw [hs, t1]; omega
    rw [hadr] at A2 st2
    have sz2 : T2.heap.size = T.heap.size + 1 := by
      have q1 := X2.heapSize
      have q2 : b + 1 + k < h2.size := A2.lt
      rw [e2] at q1 ⊢
      omega
    have Rp1 := rep_one Rp
    have Fd := Rp1.2.2.1 k _ ha
    rw [if_neg (show ¬ k < (k, s).1 from Nat.lt_irrefl k)] at Fd
    rw [hM] at hown
    obtain ⟨T3, h3, X3, e3, Wt, st3⟩ := putF X2 hx hZ hown (host := "") (Or.inl (hw _ k1)) Via.refl e2 (Fd.ext E2) (Rp1.1.ext E2) (hlays.imp (fun q => hw _ q) (fun q => ⟨hw _ q.1, rfl, hnm.trans q.2⟩)) fa.1 (fa.2.2.2.1 k _ ha).2 (v := .ref (b + 1 + k)) rfl rfl (g := mkF m (pc + 2) (cL α b L) (.ref (b + 1 + k) :: .ref b :: cV α b st)) rfl rfl (hb hc d2)
    refine ⟨T3, _, _, _, ⟨X3, rep_mk (by rw [e3]; exact rep_new fa Rp1 ha E2 A2 (by rw [hv]; simp [newA]) Wt hoth hgI hgL), by rw [e3]; exact (Fm.ext E2).wr Wt (Nat.le_refl _) (by have := Nat.mul_le_mul_left (cK P.2 + 1) hp; omega), Fr.snoc X3 Nl hn0, by rw [e3, Wt.size, ← e2, sz2, hs]; omega, by simp [usedC]; omega, ?_, b1, b2, hN⟩, fun target r => st2 target (st3 target r)⟩
    have hk := get_lt ha
    simp only [usedS, List.map_cons, List.map_nil, List.sum_cons, List.sum_nil] at u2 ⊢
    rw [List.take_add_one, List.map_append, List.sum_append, ha]
    simp [List.map_take] at u2 ⊢; omega) g
theorem go_newI {aty : ArrayType} {ty : FieldType} {nm ds : String} {cap : Nat} {n : Int32} (hty : newarray.typeOf aty = ty) (hi : ty = .int ∨ ty = .boolean ∨ ty = .byte) (ha : (cA P.2)[k]? = some (nm, ds, ty, cap)) (k0 : Jvm.Cond.arrayClass ty ∈ P.1) (k1 : Jvm.Cond.fieldLink (cN P.2) idx (cN P.2) nm ds ∈ P.1) (hM : (mY M).cls = cN P.2)
    (hlays : Jvm.Cond.lays (cN P.2) (cN P.2) nm ds ∈ P.1 ∨ (Jvm.Cond.laysFinal (cN P.2) (cN P.2) nm ds ∈ P.1 ∧ (mY M).name = "<init>")) (htM : mTop M = true) (hp : 0 < mN M) (hn : ¬ n < 0) (hcap : Nat.ble n.toNatClampNeg cap = true) (hbig : Nat.ble (cap * 8) 536870912 = true)
    (hR1 : Nat.ble (1 + k + 1) ((mR M).cells + mUC M) = true) (hR2 : Nat.ble (usedS P.2 (none, [(k, s)]) + cap) ((mR M).slots + mUS M) = true)
    (d : decode (mB M) pc = .ok (.newarray aty, 2)) (d2 : decode (mB M) (pc + 2) = .ok (.putfield idx, 3)) (g : Go P M (pc + 5) L st (none, [(k + 1, sA s k (rep n.toNatClampNeg 0))]) out) : Go P M pc L (.int n :: .ref 1 :: st) (none, [(k, s)]) out :=
  go_newV hty ha k0 k1 hM hlays htM hp hn hcap hbig hR1 hR2 (by rcases hi with rfl | rfl | rfl <;> simp [arV, gA_sA, defaultValue, rep]) (fun q' x _ h => arV_sA s k _ _ q' h) rfl rfl d d2 g
theorem go_newJ {nm ds : String} {cap : Nat} {n : Int32} (ha : (cA P.2)[k]? = some (nm, ds, .long, cap)) (k0 : Jvm.Cond.arrayClass .long ∈ P.1) (k1 : Jvm.Cond.fieldLink (cN P.2) idx (cN P.2) nm ds ∈ P.1) (hM : (mY M).cls = cN P.2)
    (hlays : Jvm.Cond.lays (cN P.2) (cN P.2) nm ds ∈ P.1 ∨ (Jvm.Cond.laysFinal (cN P.2) (cN P.2) nm ds ∈ P.1 ∧ (mY M).name = "<init>")) (htM : mTop M = true) (hp : 0 < mN M) (hn : ¬ n < 0) (hcap : Nat.ble n.toNatClampNeg cap = true) (hbig : Nat.ble (cap * 8) 536870912 = true)
    (hR1 : Nat.ble (1 + k + 1) ((mR M).cells + mUC M) = true) (hR2 : Nat.ble (usedS P.2 (none, [(k, s)]) + cap) ((mR M).slots + mUS M) = true)
    (d : decode (mB M) pc = .ok (.newarray .long, 2)) (d2 : decode (mB M) (pc + 2) = .ok (.putfield idx, 3)) (g : Go P M (pc + 5) L st (none, [(k + 1, sB s k (rep n.toNatClampNeg 0))]) out) : Go P M pc L (.int n :: .ref 1 :: st) (none, [(k, s)]) out :=
  go_newV (aty := .long) (ty := .long) rfl ha k0 k1 hM hlays htM hp hn hcap hbig hR1 hR2 (by simp [arV, gB_sB, defaultValue, rep]) (fun q' x _ h => arV_sB s k _ _ q' h) rfl rfl d d2 g
end Rules
/-! ## the start -/
theorem tsw_out {x : Int32} {lo hi : Int} (h1 : -2147483648 ≤ lo) (h2 : hi < 2147483648) (ks : List Int32) (hk : ks = ((List.range (hi - lo + 1).toNat).map fun (j : Nat) => Int32.ofInt (lo + (j : Int)))) (hx : ∀ k ∈ ks, x ≠ k) : x.toInt < lo ∨ x.toInt > hi := by
  by_cases q1 : x.toInt < lo
  · exact Or.inl q1
  by_cases q2 : x.toInt > hi
  · exact Or.inr q2
  refine absurd rfl (hx x ?_)
  rw [hk, List.mem_map]
  refine ⟨(x.toInt - lo).toNat, List.mem_range.mpr (by omega), ?_⟩
  rw [show lo + (((x.toInt - lo).toNat : Nat) : Int) = x.toInt by omega]
  exact Int32.ofInt_toInt x
theorem list_of_array {V : Type} (a : Array V) (f : Nat → V) (h : ∀ j, j < a.size → a[j]? = some (f j)) : a = ((List.range a.size).map f).toArray := by
  apply Array.ext'
  apply List.ext_getElem?
  intro j
  by_cases q : j < a.size
  · simpa [q] using h j q
  · simp [q]
theorem small_len {n : Nat} {k : Int32} (h : n < 2 ^ 31) (q : n.toInt32 ≤ k) : (n : Int) ≤ k.toInt := by
  have e : (Int32.ofNat n).toInt = n := Int32.toInt_ofNat_of_lt h
  have := Int32.le_iff_toInt_le.mp q
  rwa [show n.toInt32.toInt = n from e] at this
theorem script_of {s : State} {args : Array Value} {t : Term} {k : Int32} (hf : Fit s) (h1 : (Cond.arrayOf t .int).value args s none s [] = some true) (h2 : (Cond.le (.length t) (.int k)).value args s none s [] = some true) :
    ∃ (a : Nat) (l : List Int32), t.eval args s none [] s = some (.ref a) ∧ Ar s s.heap a .int (l.map .int) ∧ a < s.heap.size ∧ (l.length : Int) ≤ k.toInt := by
  obtain ⟨a, ev⟩ := arr_v h1
  obtain ⟨c, A⟩ := Arr.start ev h1
  obtain ⟨x, y, ex, ey, -, -⟩ := cmp_v (Or.inr (Or.inr h2))
  obtain ⟨b, cell, e1, e2, e3, ev2⟩ := Jvm.Lib.length_spec ex
  have ea : b = a := by rw [ev] at e1; cases e1; rfl
  have ec : cell = c := by
    have := Arr.fin (Vm.Alike.refl _) A
    rw [ea, this] at e2; cases e2; rfl
  subst ea ec ev2
  obtain ⟨n, en, S⟩ := Scr.start hf A e3
  have hle : cell.slots.size.toInt32 ≤ k := by
    have ek : (Term.int k).eval args s none [] s = some (.int k) := rfl
    simp only [Cond.value, ex, ek] at h2
    simpa using h2
  refine ⟨b, (List.range cell.slots.size).map fun j => atv cell (Int32.ofNat j), ev, ⟨cell, A, ?_⟩, A.lt, ?_⟩
  · rw [List.map_map]
    refine list_of_array cell.slots _ fun j hj => ?_
    have e4 : (Int32.ofNat j).toNatClampNeg = j := by
      have : (Int32.ofNat j).toInt = j := Int32.toInt_ofNat_of_lt (by omega)
      simp [Int32.toNatClampNeg, this]
    have e5 : ¬ (Int32.ofNat j < 0) := by
      rw [Int32.lt_iff_toInt_lt, Int32.toInt_ofNat_of_lt (by omega)]; simp
    have := S.2.2.2 (Int32.ofNat j) (by rw [e4]; rintro (q | q); exact e5 q; omega)
    rw [e4] at this
    exact this
  · simpa using small_len e3 hle
theorem repW_none (Z : State) (ci : CI) (α b : Nat) (h : Heap) : RepW Z ci α b (none, []) h := ⟨fun l hl => (by cases hl), fun i o ho => (by simp at ho)⟩
theorem repW_some {Z : State} {ci : CI} {α b : Nat} {h : Heap} {l : List Int32} (A : Ar Z h α .int (l.map .int)) (q : α < b) : RepW Z ci α b (some l, []) h := ⟨fun l' hl => by cases hl; exact ⟨A, q⟩, fun i o ho => by simp at ho⟩
end Jvm.AM
/-! ## plain lemmas on ints, arrays and updates -/
namespace Jvm.PL
open Jvm.AM
theorem ofNat_toInt {k : Nat} (h : k < 2147483648) : (Int32.ofNat k).toInt = k := Int32.toInt_ofNat_of_lt h
theorem ofNat_lt {k m : Nat} (hk : k < 2147483648) (hm : m < 2147483648) : Int32.ofNat k < Int32.ofNat m ↔ k < m := by
  rw [Int32.lt_iff_toInt_lt, ofNat_toInt hk, ofNat_toInt hm]; omega
theorem lt_lit {k m : Nat} (hk : k < 2147483648) (hm : m < 2147483648 := by decide) : Int32.ofNat k < (OfNat.ofNat m : Int32) ↔ k < m := ofNat_lt hk hm
theorem ofNat_succ (k : Nat) : Int32.ofNat k + 1 = Int32.ofNat (k + 1) := by
  rw [Int32.ofNat_add]; rfl
theorem ofNat_nonneg {k : Nat} (hk : k < 2147483648) : ¬ Int32.ofNat k < 0 := by rw [Int32.lt_iff_toInt_lt, ofNat_toInt hk]; simp
theorem ofNat_clamp {k : Nat} (hk : k < 2147483648) : (Int32.ofNat k).toNatClampNeg = k := by simp [Int32.toNatClampNeg, ofNat_toInt hk]
theorem ix_ofNat {A : Type} (l : List A) {k : Nat} (hk : k < 2147483648) : ix l (Int32.ofNat k) = l[k]? := by
  unfold ix; rw [if_neg (ofNat_nonneg hk), ofNat_clamp hk]
theorem st_ofNat {A : Type} (l : List A) (x : A) {k : Nat} (hk : k < 2147483648) (hl : k < l.length) : Jvm.AM.st l (Int32.ofNat k) x = some (l.set k x) := by
  unfold Jvm.AM.st; rw [if_neg (ofNat_nonneg hk), ofNat_clamp hk, if_pos hl]
theorem toInt_clamp {v : Int32} (h : ¬ v < 0) : (v.toNatClampNeg : Int) = v.toInt := by
  rw [Int32.lt_iff_toInt_lt] at h
  simp only [Int32.toNatClampNeg]
  have : (0 : Int32).toInt = 0 := rfl
  omega
theorem eq_ofNat {v : Int32} (h : ¬ v < 0) : v = Int32.ofNat v.toNatClampNeg ∧ v.toNatClampNeg < 2147483648 := by
  have h1 := toInt_clamp h
  have h2 := v.toInt_lt
  have h3 : v.toNatClampNeg < 2147483648 := by omega
  refine ⟨Int32.toInt_inj.mp ?_, h3⟩
  rw [ofNat_toInt h3]; exact h1.symm
theorem ix_rep {A : Type} {v : Int32} {n : Nat} {x : A} (h0 : ¬ v < 0) (h1 : v < Int32.ofNat n) (hn : n < 2147483648) : ix (rep n x) v = some x := by
  obtain ⟨e, hl⟩ := eq_ofNat h0
  rw [e] at h1 ⊢
  have h2 := (ofNat_lt hl hn).mp h1
  rw [ix_ofNat _ hl, rep_get, if_pos h2]
theorem ix_nat {A : Type} (l : List A) {v : Int32} (h0 : ¬ v < 0) : ix l v = l[v.toNatClampNeg]? := by unfold ix; rw [if_neg h0]
theorem st_nat {A : Type} (l : List A) {v : Int32} {x : A} (h0 : ¬ v < 0) (hl : v.toNatClampNeg < l.length) : Jvm.AM.st l v x = some (l.set v.toNatClampNeg x) := by
  unfold Jvm.AM.st; rw [if_neg h0, if_pos hl]
theorem clamp_lt {v : Int32} {n : Nat} (h0 : ¬ v < 0) (h1 : v < Int32.ofNat n) (hn : n < 2147483648) : v.toNatClampNeg < n := by
  obtain ⟨e, hl⟩ := eq_ofNat h0
  rw [e] at h1
  exact (ofNat_lt hl hn).mp h1
theorem clamp_inj {v w : Int32} (h0 : ¬ v < 0) (h1 : ¬ w < 0) : v.toNatClampNeg = w.toNatClampNeg ↔ v = w := by
  constructor
  · intro h
    have a := toInt_clamp h0
    have b := toInt_clamp h1
    exact Int32.toInt_inj.mp (by omega)
  · intro h; rw [h]
end Jvm.PL
namespace Jvm.PL
open Jvm.AM
/-- all but the named fields and arrays is as it was -/
def Fx (I L A B : List Nat) (s s' : S) : Prop := (∀ f, f ∉ I → gI s' f = gI s f) ∧ (∀ f, f ∉ L → gL s' f = gL s f) ∧ (∀ f, f ∉ A → gA s' f = gA s f) ∧ (∀ f, f ∉ B → gB s' f = gB s f)
theorem Fx.refl (I L A B : List Nat) (s : S) : Fx I L A B s s := ⟨fun _ _ => rfl, fun _ _ => rfl, fun _ _ => rfl, fun _ _ => rfl⟩
theorem Fx.trans {I L A B : List Nat} {s t u : S} (h : Fx I L A B s t) (k : Fx I L A B t u) : Fx I L A B s u :=
  ⟨fun f q => (k.1 f q).trans (h.1 f q), fun f q => (k.2.1 f q).trans (h.2.1 f q), fun f q => (k.2.2.1 f q).trans (h.2.2.1 f q), fun f q => (k.2.2.2 f q).trans (h.2.2.2 f q)⟩
theorem Fx.mono {I L A B I' L' A' B' : List Nat} {s t : S} (h : Fx I L A B s t) (a : ∀ f ∈ I, f ∈ I') (b : ∀ f ∈ L, f ∈ L') (c : ∀ f ∈ A, f ∈ A') (d : ∀ f ∈ B, f ∈ B') : Fx I' L' A' B' s t :=
  ⟨fun f q => h.1 f fun x => q (a f x), fun f q => h.2.1 f fun x => q (b f x), fun f q => h.2.2.1 f fun x => q (c f x), fun f q => h.2.2.2 f fun x => q (d f x)⟩
theorem Fx.sA {I L A B : List Nat} {s t : S} {f : Nat} {l : List Int32} (h : Fx I L A B s t) (hf : f ∈ A) : Fx I L A B s (Jvm.AM.sA t f l) :=
  ⟨fun g q => (gI_sA _ _ _ _).trans (h.1 g q), fun g q => (gL_sA _ _ _ _).trans (h.2.1 g q), fun g q => by rw [gA_sA, if_neg (fun e : g = f => q (e ▸ hf))]; exact h.2.2.1 g q, fun g q => (gB_sA _ _ _ _).trans (h.2.2.2 g q)⟩
theorem Fx.sI {I L A B : List Nat} {s t : S} {f : Nat} {l : Int32} (h : Fx I L A B s t) (hf : f ∈ I) : Fx I L A B s (Jvm.AM.sI t f l) :=
  ⟨fun g q => by rw [gI_sI, if_neg (fun e : g = f => q (e ▸ hf))]; exact h.1 g q, fun g q => (gL_sI _ _ _ _).trans (h.2.1 g q), fun g q => (gA_sI _ _ _ _).trans (h.2.2.1 g q), fun g q => (gB_sI _ _ _ _).trans (h.2.2.2 g q)⟩
theorem Fx.sL {I L A B : List Nat} {s t : S} {f : Nat} {l : Int64} (h : Fx I L A B s t) (hf : f ∈ L) : Fx I L A B s (Jvm.AM.sL t f l) :=
  ⟨fun g q => (gI_sL _ _ _ _).trans (h.1 g q), fun g q => by rw [gL_sL, if_neg (fun e : g = f => q (e ▸ hf))]; exact h.2.1 g q, fun g q => (gA_sL _ _ _ _).trans (h.2.2.1 g q), fun g q => (gB_sL _ _ _ _).trans (h.2.2.2 g q)⟩
theorem Fx.sB {I L A B : List Nat} {s t : S} {f : Nat} {l : List Int64} (h : Fx I L A B s t) (hf : f ∈ B) : Fx I L A B s (Jvm.AM.sB t f l) :=
  ⟨fun g q => (gI_sB _ _ _ _).trans (h.1 g q), fun g q => (gL_sB _ _ _ _).trans (h.2.1 g q), fun g q => (gA_sB _ _ _ _).trans (h.2.2.1 g q), fun g q => by rw [gB_sB, if_neg (fun e : g = f => q (e ▸ hf))]; exact h.2.2.2 g q⟩
theorem ofNat_add' (a b : Nat) : Int32.ofNat a + Int32.ofNat b = Int32.ofNat (a + b) := (Int32.ofNat_add a b).symm
/-- the first k entries are x -/
def Upto {A : Type} (l : List A) (k : Nat) (x : A) : Prop := ∀ i, i < k → l[i]? = some x
theorem Upto.zero {A : Type} (l : List A) (x : A) : Upto l 0 x := fun _ h => absurd h (Nat.not_lt_zero _)
theorem Upto.set {A : Type} {l : List A} {k : Nat} {x : A} (h : Upto l k x) (hk : k < l.length) : Upto (l.set k x) (k + 1) x := fun i hi => by
  by_cases e : i = k
  · subst e; simp [hk]
  · rw [List.getElem?_set_ne (Ne.symm e)]; exact h i (by omega)
theorem Upto.all {A : Type} {l : List A} {k : Nat} {x : A} (h : Upto l k x) (hk : l.length = k) : l = rep k x := by
  apply List.ext_getElem?
  intro i
  rw [rep_get]
  by_cases q : i < k
  · rw [if_pos q]; exact h i q
  · rw [if_neg q, List.getElem?_eq_none (by omega)]
end Jvm.PL
namespace Jvm.PL
open Jvm.AM
/-- a loop by its invariant; m: the turns that are left -/
theorem run_loop {A B : Type} (L : Nat → A → B) (F : A → B) (I : Nat → A → Prop) (h : ∀ n m a, I (m + 1) a → ∃ a', L (n + 1) a = L n a' ∧ I m a') (h0 : ∀ n a, I 0 a → L (n + 1) a = F a) : ∀ m n a, m < n → I m a → ∃ a', L n a = F a' ∧ I 0 a'
  | 0, n + 1, a, _, i => ⟨a, h0 n a i, i⟩
  | m + 1, n + 1, a, q, i => by
    obtain ⟨a', e, i'⟩ := h n m a i
    obtain ⟨a'', e', i''⟩ := run_loop L F I h h0 m n a' (by omega) i'
    exact ⟨a'', e.trans e', i''⟩
/-- 'for k in 0 .. N' -/
theorem run_for {B : Type} (L : Nat → Int32 → S → B) (F : S → B) (N : Nat) (I : Nat → S → Prop) (h : ∀ n k s, k < N → I k s → ∃ s', L (n + 1) (Int32.ofNat k) s = L n (Int32.ofNat (k + 1)) s' ∧ I (k + 1) s') (h0 : ∀ n s, I N s → L (n + 1) (Int32.ofNat N) s = F s) (n : Nat) (s : S) (hn : N < n) (i : I 0 s) :
    ∃ s', L n (Int32.ofNat 0) s = F s' ∧ I N s' := by
  obtain ⟨a, e, k, hk, ea, ia⟩ := run_loop (fun n (a : Int32 × S) => L n a.1 a.2) (fun a => F a.2) (fun m a => ∃ k, k + m = N ∧ a.1 = Int32.ofNat k ∧ I k a.2)
    (fun n m a ⟨k, h1, h2, h3⟩ => by
      obtain ⟨s', e, i'⟩ := h n k a.2 (by omega) h3
      exact ⟨(Int32.ofNat (k + 1), s'), by show L (n + 1) a.1 a.2 = _; rw [h2]; exact e, k + 1, by omega, rfl, i'⟩)
    (fun n a ⟨k, h1, h2, h3⟩ => by
      have : k = N := by omega
      subst this
      show L (n + 1) a.1 a.2 = _; rw [h2]; exact h0 n a.2 h3) N n (Int32.ofNat 0, s) hn ⟨0, by omega, rfl, i⟩
  have : k = N := by omega
  subst this
  exact ⟨a.2, e, ia⟩
end Jvm.PL
namespace Jvm.PL
open Jvm.AM
/-- the end test of a loop over a script -/
theorem len_lt {n k c : Nat} (hn : n ≤ 100000) (hk : k ≤ 100000) (hc : c ≤ 100000) : (n.toInt32 - Int32.ofNat c) < Int32.ofNat k ↔ n < k + c := by
  rw [Int32.lt_iff_toInt_lt, Int32.toInt_sub, show n.toInt32 = Int32.ofNat n from rfl, ofNat_toInt (by omega), ofNat_toInt (by omega), ofNat_toInt (by omega)]
  have : ((n : Int) - c).bmod (2 ^ 32) = n - c := by
    rw [Int.bmod_eq_of_le] <;> omega
  rw [this]; omega
/-- a loop over a script, c entries a turn: it ends in what every way out says -/
theorem run_script {A B : Type} (L : Nat → Int32 → A → B) (c len : Nat) (hc : 0 < c) (P : B → Prop) (I : Nat → A → Prop) (h : ∀ n k a, k + c ≤ len → I k a → P (L (n + 1) (Int32.ofNat k) a) ∨ ∃ a', L (n + 1) (Int32.ofNat k) a = L n (Int32.ofNat (k + c)) a' ∧ I (k + c) a') (h0 : ∀ n k a, k ≤ len → len < k + c → I k a → P (L (n + 1) (Int32.ofNat k) a)) : ∀ n k a, len < n + k → k ≤ len → I k a → P (L n (Int32.ofNat k) a)
  | 0, k, a, hn, hk, i => by omega
  | n + 1, k, a, hn, hk, i => by
    by_cases q : k + c ≤ len
    · rcases h n k a q i with p | ⟨a', e, i'⟩
      · exact p
      · rw [e]; exact run_script L c len hc P I h h0 n (k + c) a' (by omega) q i'
    · exact h0 n k a hk (by omega) i
theorem ix_some {A : Type} (l : List A) {k : Nat} (hk : k < 2147483648) (hl : k < l.length) : ∃ x, ix l (Int32.ofNat k) = some x := ⟨l[k], by rw [ix_ofNat _ hk, List.getElem?_eq_getElem hl]⟩
theorem ofNat_lit (a b : Nat) : Int32.ofNat a + (OfNat.ofNat b : Int32) = Int32.ofNat (a + b) := ofNat_add' a b
end Jvm.PL
namespace Jvm.PL
open Jvm.AM
theorem upd_same {A : Type} (g : Nat → A) (f : Nat) (a b : A) : aupd (aupd g f a) f b = aupd g f b := by
  funext x; unfold aupd; by_cases q : x = f <;> simp [q]
theorem upd_comm {A : Type} (g : Nat → A) {f h : Nat} (n : f ≠ h) (a b : A) : aupd (aupd g f a) h b = aupd (aupd g h b) f a := by
  funext x; unfold aupd
  by_cases q : x = f
  · have : ¬ f = h := n
    simp [q, this]
  · by_cases r : x = h
    · rw [if_pos r, if_neg q, if_pos r]
    · rw [if_neg r, if_neg q, if_neg q, if_neg r]
theorem sA_same (s : S) (f : Nat) (a b : List Int32) : Jvm.AM.sA (Jvm.AM.sA s f a) f b = Jvm.AM.sA s f b := by
  unfold Jvm.AM.sA; simp only [upd_same]
theorem sA_comm (s : S) {f h : Nat} (n : f ≠ h) (a b : List Int32) : Jvm.AM.sA (Jvm.AM.sA s f a) h b = Jvm.AM.sA (Jvm.AM.sA s h b) f a := by
  unfold Jvm.AM.sA; simp only; rw [upd_comm _ n]
end Jvm.PL
/-! ## rows of bits -/
namespace Jvm.PL
open Jvm.AM Jvm.Free
def bt (w : Int32) (y : Nat) : Bool := w.toBitVec.getLsbD y
theorem bt_zero (y : Nat) : bt 0 y = false := by simp [bt]
theorem bt_or (a b : Int32) (y : Nat) : bt (a ||| b) y = (bt a y || bt b y) := by simp [bt]
theorem bt_and (a b : Int32) (y : Nat) : bt (a &&& b) y = (bt a y && bt b y) := by simp [bt]
theorem bt_ge (w : Int32) {y : Nat} (h : 32 ≤ y) : bt w y = false := by unfold bt; exact BitVec.getLsbD_of_ge _ _ h
theorem bt_m1 {y : Nat} (h : y < 32) : bt (-1) y = true := by
  unfold bt
  rw [show (-1 : Int32).toBitVec = BitVec.allOnes 32 from rfl, BitVec.getLsbD_allOnes]
  simp [h]
theorem bt_not (a : Int32) {y : Nat} (h : y < 32) : bt (a ^^^ (-1)) y = !bt a y := by
  have := bt_m1 h
  unfold bt at *
  rw [Int32.toBitVec_xor, BitVec.getLsbD_xor, this]; simp
theorem bt_andn (a b : Int32) (y : Nat) : bt (a &&& (b ^^^ (-1))) y = (bt a y && !bt b y) := by
  rw [bt_and]
  by_cases h : y < 32
  · rw [bt_not b h]
  · rw [bt_ge a (by omega)]; simp
theorem bt_ext {a b : Int32} (h : ∀ y, y < 32 → bt a y = bt b y) : a = b := by
  apply Int32.toBitVec_inj.mp
  apply BitVec.eq_of_getLsbD_eq
  intro i hi
  exact h i hi
theorem bt_eq0 {w : Int32} : w = 0 ↔ ∀ y, y < 32 → bt w y = false := by
  constructor
  · rintro rfl y _; exact bt_zero y
  · intro h; exact bt_ext fun y hy => by rw [h y hy, bt_zero]
theorem ushr_bit (w : Int32) {y : Nat} (hy : y < 32) : (XT.ushr w (Int32.ofNat y)).toBitVec = w.toBitVec >>> y := by
  unfold XT.ushr
  have h1 : ((Int32.ofNat y &&& 31).toUInt32.toBitVec).toNat = y := by
    show ((Int32.ofNat y &&& 31).toBitVec).toNat = y
    rw [Int32.toBitVec_and, BitVec.toNat_and]
    have e1 : (Int32.ofNat y).toBitVec.toNat = y := by
      show (BitVec.ofNat 32 y).toNat = y
      rw [BitVec.toNat_ofNat]; omega
    have e2 : (31 : Int32).toBitVec.toNat = 31 := rfl
    rw [e1, e2, show 31 = 2 ^ 5 - 1 from rfl, Nat.and_two_pow_sub_one_eq_mod]; omega
  show (w.toUInt32 >>> (Int32.ofNat y &&& 31).toUInt32).toBitVec = _
  rw [UInt32.toBitVec_shiftRight]
  show w.toBitVec >>> ((Int32.ofNat y &&& 31).toUInt32.toBitVec % 32) = _
  rw [BitVec.ushiftRight_eq']
  congr 1
  rw [BitVec.toNat_umod, h1]
  show y % 32 = y
  omega
theorem and1 (w : Int32) : (w &&& 1 = 0) ↔ bt w 0 = false := by
  constructor
  · intro h
    have : bt (w &&& 1) 0 = false := by rw [h, bt_zero]
    rw [bt_and] at this
    simpa [show bt 1 0 = true from rfl] using this
  · intro h
    refine bt_ext fun y hy => ?_
    rw [bt_and, bt_zero]
    cases y with
    | zero => rw [h]; rfl
    | succ y =>
      have : bt 1 (y + 1) = false := by
        unfold bt
        show (1#32).getLsbD (y + 1) = false
        simp [BitVec.getLsbD_one]
      rw [this]; simp
theorem test_bit (w : Int32) {y : Nat} (hy : y < 32) : (XT.ushr w (Int32.ofNat y) &&& 1 = 0) ↔ bt w y = false := by
  rw [and1]
  unfold bt
  rw [ushr_bit w hy]; simp
theorem shl_bit {b : Nat} (hb : b < 32) (y : Nat) : bt ((1 : Int32) <<< (Int32.ofNat b &&& 31)) y = decide (y = b) := by
  have h1 : (Int32.ofNat b &&& 31) = Int32.ofNat b := by
    apply Int32.toBitVec_inj.mp
    rw [Int32.toBitVec_and]
    apply BitVec.eq_of_toNat_eq
    rw [BitVec.toNat_and]
    have e1 : (Int32.ofNat b).toBitVec.toNat = b := by
      show (BitVec.ofNat 32 b).toNat = b
      rw [BitVec.toNat_ofNat]; omega
    have e2 : (31 : Int32).toBitVec.toNat = 31 := rfl
    rw [e1, e2, show 31 = 2 ^ 5 - 1 from rfl, Nat.and_two_pow_sub_one_eq_mod]; omega
  rw [h1]
  unfold bt
  have e : ((1 : Int32) <<< Int32.ofNat b).toBitVec = (1#32) <<< b := by
    rw [Int32.toBitVec_shiftLeft]
    show (1#32) <<< ((Int32.ofNat b).toBitVec.smod 32) = _
    have : (Int32.ofNat b).toBitVec.smod 32 = BitVec.ofNat 32 b := by
      have hz : ∀ b : Fin 32, (Int32.ofNat b.val).toBitVec.smod 32 = BitVec.ofNat 32 b.val := by decide
      exact hz ⟨b, hb⟩
    rw [this, BitVec.shiftLeft_eq']
    congr 1
    rw [BitVec.toNat_ofNat]; omega
  rw [e]
  simp only [BitVec.getLsbD_shiftLeft, BitVec.getLsbD_one]
  by_cases h : y = b
  · subst h; simp [hb]
  · simp [h]; omega
end Jvm.PL
namespace Jvm.Pilot.@@N@@
open Jvm Jvm.ClassFile Sem Op Lib Jvm.Free Jvm.Stand Jvm.LawKit Jvm.RoadKit Jvm.AM Jvm.PL Jvm.Pilot.@@N@@.Jvm.D
def ci1 : CI := ("DeferredCountY", 20, [("heapCells", "I", .int), ("fieldsPer", "I", .int), ("rootCap", "I", .int), ("tableCap", "I", .int), ("liveTotal", "I", .int), ("rootDepth", "I", .int), ("tableLen", "I", .int), ("workTop", "I", .int), ("runs", "I", .int)], [("live", "[Z", .boolean, 64), ("cellFields", "[I", .int, 256), ("refs", "[I", .int, 64), ("rootStack", "[I", .int, 16), ("tableIds", "[I", .int, 64), ("tablePos", "[I", .int, 64), ("survivor", "[Z", .boolean, 64), ("rootHeld", "[Z", .boolean, 64), ("queued", "[Z", .boolean, 64), ("holders", "[I", .int, 64), ("work", "[I", .int, 64)])
def PP : PI := (tables_1, ci1)
def BIG : Nat := 1000000
def m0 : Meth := (⟨"DeferredCountYOwnLaw", "cell", "([II)I"⟩, method_2_code, 2, (some .int), { frames := 0, cells := 0, slots := 0, locals := 0 }, 1, false, 0, 0)
def m1 : Meth := (⟨"DeferredCountY", "clamp", "(III)I"⟩, prog_1_method_58_code, 3, (some .int), { frames := 0, cells := 0, slots := 0, locals := 0 }, 1, false, 0, 0)
def m2 : Meth := (⟨"DeferredCountY", "clearCellFields", "(I)V"⟩, prog_1_method_42_code, 4, none, { frames := 0, cells := 0, slots := 0, locals := 0 }, 1, false, 0, 0)
def m3 : Meth := (⟨"DeferredCountY", "resetHeap", "()V"⟩, prog_1_method_54_code, 2, none, { frames := 1, cells := 0, slots := 0, locals := 15 }, 1, false, 0, 0)
def m4 : Meth := (⟨"DeferredCountY", "resetRoots", "()V"⟩, prog_1_method_55_code, 2, none, { frames := 0, cells := 0, slots := 0, locals := 0 }, 1, false, 0, 0)
def m5 : Meth := (⟨"DeferredCountY", "resetTable", "()V"⟩, prog_1_method_56_code, 2, none, { frames := 0, cells := 0, slots := 0, locals := 0 }, 1, false, 0, 0)
def m6 : Meth := (⟨"DeferredCountY", "resetScratch", "()V"⟩, prog_1_method_57_code, 2, none, { frames := 0, cells := 0, slots := 0, locals := 0 }, 1, false, 0, 0)
def m7 : Meth := (⟨"DeferredCountY", "<init>", "(IIII)V"⟩, prog_1_method_1_code, 6, none, { frames := 2, cells := 11, slots := 848, locals := 28 }, 1, true, 1, 20)
def m8 : Meth := (⟨"DeferredCountY", "depth", "()I"⟩, prog_1_method_8_code, 1, (some .int), { frames := 0, cells := 0, slots := 0, locals := 0 }, 1, false, 0, 0)
def m9 : Meth := (⟨"DeferredCountY", "isRootSlot", "(I)Z"⟩, prog_1_method_62_code, 2, (some .boolean), { frames := 0, cells := 0, slots := 0, locals := 0 }, 1, false, 0, 0)
def m10 : Meth := (⟨"DeferredCountY", "root", "(I)I"⟩, prog_1_method_9_code, 2, (some .int), { frames := 1, cells := 0, slots := 0, locals := 13 }, 1, false, 0, 0)
def m11 : Meth := (⟨"DeferredCountY", "isObjectId", "(I)Z"⟩, prog_1_method_59_code, 2, (some .boolean), { frames := 0, cells := 0, slots := 0, locals := 0 }, 1, false, 0, 0)
def m12 : Meth := (⟨"DeferredCountY", "isLiveId", "(I)Z"⟩, prog_1_method_60_code, 2, (some .boolean), { frames := 1, cells := 0, slots := 0, locals := 13 }, 1, false, 0, 0)
def m13 : Meth := (⟨"DeferredCountY", "isLive", "(I)Z"⟩, prog_1_method_10_code, 2, (some .boolean), { frames := 2, cells := 0, slots := 0, locals := 26 }, 1, false, 0, 0)
def m14 : Meth := (⟨"DeferredCountY", "tableHas", "(I)Z"⟩, prog_1_method_51_code, 2, (some .boolean), { frames := 1, cells := 0, slots := 0, locals := 13 }, 1, false, 0, 0)
def m15 : Meth := (⟨"DeferredCountY", "inTable", "(I)Z"⟩, prog_1_method_13_code, 2, (some .boolean), { frames := 2, cells := 0, slots := 0, locals := 26 }, 1, false, 0, 0)
def m16 : Meth := (⟨"DeferredCountY", "isFieldNo", "(I)Z"⟩, prog_1_method_61_code, 2, (some .boolean), { frames := 0, cells := 0, slots := 0, locals := 0 }, 1, false, 0, 0)
def m17 : Meth := (⟨"DeferredCountY", "readField", "(II)I"⟩, prog_1_method_43_code, 3, (some .int), { frames := 1, cells := 0, slots := 0, locals := 13 }, 1, false, 0, 0)
def m18 : Meth := (⟨"DeferredCountY", "field", "(II)I"⟩, prog_1_method_11_code, 3, (some .int), { frames := 2, cells := 0, slots := 0, locals := 27 }, 1, false, 0, 0)
def m19 : Meth := (⟨"DeferredCountY", "count", "(I)I"⟩, prog_1_method_12_code, 2, (some .int), { frames := 2, cells := 0, slots := 0, locals := 26 }, 1, false, 0, 0)
def m20 : Meth := (⟨"DeferredCountY", "tableSize", "()I"⟩, prog_1_method_14_code, 1, (some .int), { frames := 0, cells := 0, slots := 0, locals := 0 }, 1, false, 0, 0)
def m21 : Meth := (⟨"DeferredCountY", "rootsFull", "()Z"⟩, prog_1_method_47_code, 1, (some .boolean), { frames := 0, cells := 0, slots := 0, locals := 0 }, 1, false, 0, 0)
def m22 : Meth := (⟨"DeferredCountY", "hasFreeCell", "()Z"⟩, prog_1_method_38_code, 1, (some .boolean), { frames := 0, cells := 0, slots := 0, locals := 0 }, 1, false, 0, 0)
def m23 : Meth := (⟨"DeferredCountY", "tableIsFull", "()Z"⟩, prog_1_method_52_code, 1, (some .boolean), { frames := 0, cells := 0, slots := 0, locals := 0 }, 1, false, 0, 0)
def m24 : Meth := (⟨"DeferredCountY", "allocNeedsReconcile", "()Z"⟩, prog_1_method_20_code, 1, (some .boolean), { frames := 1, cells := 0, slots := 0, locals := 12 }, 1, false, 0, 0)
def m25 : Meth := (⟨"DeferredCountY", "markRootHeld", "()V"⟩, prog_1_method_26_code, 3, none, { frames := 1, cells := 0, slots := 0, locals := 13 }, 1, false, 0, 0)
def m26 : Meth := (⟨"DeferredCountY", "addHoldersOf", "(I)V"⟩, prog_1_method_28_code, 4, none, { frames := 2, cells := 0, slots := 0, locals := 27 }, 1, false, 0, 0)
def m27 : Meth := (⟨"DeferredCountY", "countHolders", "()V"⟩, prog_1_method_27_code, 2, none, { frames := 3, cells := 0, slots := 0, locals := 42 }, 1, false, 0, 0)
def m28 : Meth := (⟨"DeferredCountY", "eligible", "(I)Z"⟩, prog_1_method_30_code, 2, (some .boolean), { frames := 1, cells := 0, slots := 0, locals := 13 }, 1, false, 0, 0)
def m29 : Meth := (⟨"DeferredCountY", "enqueue", "(I)V"⟩, prog_1_method_31_code, 2, none, { frames := 0, cells := 0, slots := 0, locals := 0 }, 1, false, 0, 0)
def m30 : Meth := (⟨"DeferredCountY", "seedWork", "()V"⟩, prog_1_method_29_code, 2, none, { frames := 2, cells := 0, slots := 0, locals := 26 }, 1, false, 0, 0)
def m31 : Meth := (⟨"DeferredCountY", "dropHoldersOf", "(I)V"⟩, prog_1_method_33_code, 4, none, { frames := 2, cells := 0, slots := 0, locals := 27 }, 1, false, 0, 0)
def m32 : Meth := (⟨"DeferredCountY", "cascade", "()V"⟩, prog_1_method_32_code, 3, none, { frames := 3, cells := 0, slots := 0, locals := 42 }, 1, false, 0, 0)
def m33 : Meth := (⟨"DeferredCountY", "releaseCell", "(I)V"⟩, prog_1_method_41_code, 2, none, { frames := 1, cells := 0, slots := 0, locals := 15 }, 1, false, 0, 0)
def m34 : Meth := (⟨"DeferredCountY", "sweep", "()I"⟩, prog_1_method_34_code, 3, (some .int), { frames := 2, cells := 0, slots := 0, locals := 28 }, 1, false, 0, 0)
def m35 : Meth := (⟨"DeferredCountY", "refInc", "(I)V"⟩, prog_1_method_45_code, 2, none, { frames := 1, cells := 0, slots := 0, locals := 13 }, 1, false, 0, 0)
def m36 : Meth := (⟨"DeferredCountY", "countOutgoing", "(I)V"⟩, prog_1_method_36_code, 4, none, { frames := 2, cells := 0, slots := 0, locals := 27 }, 1, false, 0, 0)
def m37 : Meth := (⟨"DeferredCountY", "recountRefs", "()V"⟩, prog_1_method_35_code, 2, none, { frames := 3, cells := 0, slots := 0, locals := 42 }, 1, false, 0, 0)
def m38 : Meth := (⟨"DeferredCountY", "tableInsert", "(I)Z"⟩, prog_1_method_53_code, 2, (some .boolean), { frames := 1, cells := 0, slots := 0, locals := 13 }, 1, false, 0, 0)
def m39 : Meth := (⟨"DeferredCountY", "rebuildTable", "()V"⟩, prog_1_method_37_code, 2, none, { frames := 2, cells := 0, slots := 0, locals := 26 }, 1, false, 0, 0)
def m40 : Meth := (⟨"DeferredCountY", "runReconciliation", "()I"⟩, prog_1_method_25_code, 2, (some .int), { frames := 4, cells := 0, slots := 0, locals := 56 }, 1, false, 0, 0)
def m41 : Meth := (⟨"DeferredCountY", "lowestFreeCell", "()I"⟩, prog_1_method_39_code, 2, (some .int), { frames := 0, cells := 0, slots := 0, locals := 0 }, 1, false, 0, 0)
def m42 : Meth := (⟨"DeferredCountY", "bringToLife", "(I)V"⟩, prog_1_method_40_code, 2, none, { frames := 1, cells := 0, slots := 0, locals := 15 }, 1, false, 0, 0)
def m43 : Meth := (⟨"DeferredCountY", "rootPush", "(I)V"⟩, prog_1_method_48_code, 2, none, { frames := 0, cells := 0, slots := 0, locals := 0 }, 1, false, 0, 0)
def m44 : Meth := (⟨"DeferredCountY", "placeNewObject", "(I)V"⟩, prog_1_method_21_code, 2, none, { frames := 2, cells := 0, slots := 0, locals := 28 }, 1, false, 0, 0)
def m45 : Meth := (⟨"DeferredCountY", "alloc", "()I"⟩, prog_1_method_2_code, 2, (some .int), { frames := 5, cells := 0, slots := 0, locals := 69 }, 1, false, 0, 0)
def m46 : Meth := (⟨"DeferredCountY", "loadCheck", "(II)I"⟩, prog_1_method_17_code, 3, (some .int), { frames := 2, cells := 0, slots := 0, locals := 26 }, 1, false, 0, 0)
def m47 : Meth := (⟨"DeferredCountY", "load", "(II)I"⟩, prog_1_method_3_code, 6, (some .int), { frames := 3, cells := 0, slots := 0, locals := 40 }, 1, false, 0, 0)
def m48 : Meth := (⟨"DeferredCountY", "isValueSlot", "(I)Z"⟩, prog_1_method_63_code, 2, (some .boolean), { frames := 1, cells := 0, slots := 0, locals := 13 }, 1, false, 0, 0)
def m49 : Meth := (⟨"DeferredCountY", "storeCheck", "(III)I"⟩, prog_1_method_18_code, 4, (some .int), { frames := 2, cells := 0, slots := 0, locals := 26 }, 1, false, 0, 0)
def m50 : Meth := (⟨"DeferredCountY", "valueOfSlot", "(I)I"⟩, prog_1_method_50_code, 2, (some .int), { frames := 1, cells := 0, slots := 0, locals := 13 }, 1, false, 0, 0)
def m51 : Meth := (⟨"DeferredCountY", "storeNeedsReconcile", "(II)Z"⟩, prog_1_method_22_code, 3, (some .boolean), { frames := 2, cells := 0, slots := 0, locals := 26 }, 1, false, 0, 0)
def m52 : Meth := (⟨"DeferredCountY", "refDec", "(I)V"⟩, prog_1_method_46_code, 2, none, { frames := 1, cells := 0, slots := 0, locals := 13 }, 1, false, 0, 0)
def m53 : Meth := (⟨"DeferredCountY", "writeFieldRaw", "(III)V"⟩, prog_1_method_44_code, 4, none, { frames := 1, cells := 0, slots := 0, locals := 13 }, 1, false, 0, 0)
def m54 : Meth := (⟨"DeferredCountY", "assignField", "(III)V"⟩, prog_1_method_23_code, 5, none, { frames := 2, cells := 0, slots := 0, locals := 28 }, 1, false, 0, 0)
def m55 : Meth := (⟨"DeferredCountY", "noteZeroCount", "(I)V"⟩, prog_1_method_24_code, 2, none, { frames := 2, cells := 0, slots := 0, locals := 26 }, 1, false, 0, 0)
def m56 : Meth := (⟨"DeferredCountY", "store", "(III)I"⟩, prog_1_method_4_code, 8, (some .int), { frames := 5, cells := 0, slots := 0, locals := 69 }, 1, false, 0, 0)
def m57 : Meth := (⟨"DeferredCountY", "pushCheck", "(I)I"⟩, prog_1_method_19_code, 2, (some .int), { frames := 2, cells := 0, slots := 0, locals := 26 }, 1, false, 0, 0)
def m58 : Meth := (⟨"DeferredCountY", "push", "(I)I"⟩, prog_1_method_5_code, 4, (some .int), { frames := 3, cells := 0, slots := 0, locals := 39 }, 1, false, 0, 0)
def m59 : Meth := (⟨"DeferredCountY", "reconcile", "()I"⟩, prog_1_method_7_code, 1, (some .int), { frames := 5, cells := 0, slots := 0, locals := 69 }, 1, false, 0, 0)
def m60 : Meth := (⟨"DeferredCountY", "rootPopTop", "()V"⟩, prog_1_method_49_code, 1, none, { frames := 0, cells := 0, slots := 0, locals := 0 }, 1, false, 0, 0)
def m61 : Meth := (⟨"DeferredCountY", "pop", "()I"⟩, prog_1_method_6_code, 1, (some .int), { frames := 1, cells := 0, slots := 0, locals := 12 }, 1, false, 0, 0)
def m62 : Meth := (x, code, maxLocals, ret, room_1, 1, true, 0, 0)
theorem ar_0 : (cA PP.2)[0]? = some ("live", "[Z", .boolean, 64) := rfl
theorem ar_1 : (cA PP.2)[1]? = some ("cellFields", "[I", .int, 256) := rfl
theorem ar_2 : (cA PP.2)[2]? = some ("refs", "[I", .int, 64) := rfl
theorem ar_3 : (cA PP.2)[3]? = some ("rootStack", "[I", .int, 16) := rfl
theorem ar_4 : (cA PP.2)[4]? = some ("tableIds", "[I", .int, 64) := rfl
theorem ar_5 : (cA PP.2)[5]? = some ("tablePos", "[I", .int, 64) := rfl
theorem ar_6 : (cA PP.2)[6]? = some ("survivor", "[Z", .boolean, 64) := rfl
theorem ar_7 : (cA PP.2)[7]? = some ("rootHeld", "[Z", .boolean, 64) := rfl
theorem ar_8 : (cA PP.2)[8]? = some ("queued", "[Z", .boolean, 64) := rfl
theorem ar_9 : (cA PP.2)[9]? = some ("holders", "[I", .int, 64) := rfl
theorem ar_10 : (cA PP.2)[10]? = some ("work", "[I", .int, 64) := rfl
theorem fa_7 : FldA PP 7 0 .boolean := ⟨_, _, _, rfl, List.mem_of_getElem? (i := 14) rfl⟩
theorem fa_13 : FldA PP 13 1 .int := ⟨_, _, _, rfl, List.mem_of_getElem? (i := 17) rfl⟩
theorem fa_17 : FldA PP 17 2 .int := ⟨_, _, _, rfl, List.mem_of_getElem? (i := 19) rfl⟩
theorem fa_20 : FldA PP 20 3 .int := ⟨_, _, _, rfl, List.mem_of_getElem? (i := 21) rfl⟩
theorem fa_23 : FldA PP 23 4 .int := ⟨_, _, _, rfl, List.mem_of_getElem? (i := 23) rfl⟩
theorem fa_26 : FldA PP 26 5 .int := ⟨_, _, _, rfl, List.mem_of_getElem? (i := 25) rfl⟩
theorem fa_29 : FldA PP 29 6 .boolean := ⟨_, _, _, rfl, List.mem_of_getElem? (i := 27) rfl⟩
theorem fa_32 : FldA PP 32 7 .boolean := ⟨_, _, _, rfl, List.mem_of_getElem? (i := 29) rfl⟩
theorem fa_35 : FldA PP 35 8 .boolean := ⟨_, _, _, rfl, List.mem_of_getElem? (i := 31) rfl⟩
theorem fa_38 : FldA PP 38 9 .int := ⟨_, _, _, rfl, List.mem_of_getElem? (i := 33) rfl⟩
theorem fa_41 : FldA PP 41 10 .int := ⟨_, _, _, rfl, List.mem_of_getElem? (i := 35) rfl⟩
theorem fs_48 : FldS PP 48 0 .int := ⟨_, _, rfl, List.mem_of_getElem? (i := 40) rfl⟩
theorem fs_52 : FldS PP 52 1 .int := ⟨_, _, rfl, List.mem_of_getElem? (i := 42) rfl⟩
theorem fs_55 : FldS PP 55 2 .int := ⟨_, _, rfl, List.mem_of_getElem? (i := 44) rfl⟩
theorem fs_58 : FldS PP 58 3 .int := ⟨_, _, rfl, List.mem_of_getElem? (i := 46) rfl⟩
theorem fs_73 : FldS PP 73 8 .int := ⟨_, _, rfl, List.mem_of_getElem? (i := 76) rfl⟩
theorem fs_125 : FldS PP 125 5 .int := ⟨_, _, rfl, List.mem_of_getElem? (i := 62) rfl⟩
theorem fs_144 : FldS PP 144 6 .int := ⟨_, _, rfl, List.mem_of_getElem? (i := 68) rfl⟩
theorem fs_147 : FldS PP 147 4 .int := ⟨_, _, rfl, List.mem_of_getElem? (i := 56) rfl⟩
theorem fs_201 : FldS PP 201 7 .int := ⟨_, _, rfl, List.mem_of_getElem? (i := 74) rfl⟩
theorem wr_0 (M : Meth) : Wrt PP M 0 := ⟨_, _, _, rfl, Or.inl (List.mem_of_getElem? (i := 41) rfl)⟩
theorem wr_1 (M : Meth) : Wrt PP M 1 := ⟨_, _, _, rfl, Or.inl (List.mem_of_getElem? (i := 43) rfl)⟩
theorem wr_2 (M : Meth) : Wrt PP M 2 := ⟨_, _, _, rfl, Or.inl (List.mem_of_getElem? (i := 45) rfl)⟩
theorem wr_3 (M : Meth) : Wrt PP M 3 := ⟨_, _, _, rfl, Or.inl (List.mem_of_getElem? (i := 47) rfl)⟩
theorem wr_4 (M : Meth) : Wrt PP M 4 := ⟨_, _, _, rfl, Or.inl (List.mem_of_getElem? (i := 57) rfl)⟩
theorem wr_5 (M : Meth) : Wrt PP M 5 := ⟨_, _, _, rfl, Or.inl (List.mem_of_getElem? (i := 63) rfl)⟩
theorem wr_6 (M : Meth) : Wrt PP M 6 := ⟨_, _, _, rfl, Or.inl (List.mem_of_getElem? (i := 69) rfl)⟩
theorem wr_7 (M : Meth) : Wrt PP M 7 := ⟨_, _, _, rfl, Or.inl (List.mem_of_getElem? (i := 75) rfl)⟩
theorem wr_8 (M : Meth) : Wrt PP M 8 := ⟨_, _, _, rfl, Or.inl (List.mem_of_getElem? (i := 77) rfl)⟩
theorem oid_0 : 1 = (cK PP.2 + 1) * 0 + 1 := rfl
theorem pl_0 : plainName "DeferredCountY" = true := by first | (simp [plainName, overriddenIn]; done) | decide +kernel
theorem pl_1 : plainName "DeferredCountYOwnLaw" = true := by first | (simp [plainName, overriddenIn]; done) | decide +kernel
theorem hn_0 : 0 < mN m0 := by decide
theorem pd_0 : parseMethodDescriptor (mY m0).desc = some ⟨[.array .int, .int], (some .int)⟩ := by decide +kernel
theorem hm_1 : (mY m1).cls = cN PP.2 := rfl
theorem hn_1 : 0 < mN m1 := by decide
theorem pd_1 : parseMethodDescriptor (mY m1).desc = some ⟨[.int, .int, .int], (some .int)⟩ := by decide +kernel
theorem hm_2 : (mY m2).cls = cN PP.2 := rfl
theorem hn_2 : 0 < mN m2 := by decide
theorem pd_2 : parseMethodDescriptor (mY m2).desc = some ⟨[.int], none⟩ := by decide +kernel
theorem hm_3 : (mY m3).cls = cN PP.2 := rfl
theorem hn_3 : 0 < mN m3 := by decide
theorem pd_3 : parseMethodDescriptor (mY m3).desc = some ⟨[], none⟩ := by decide +kernel
theorem hm_4 : (mY m4).cls = cN PP.2 := rfl
theorem hn_4 : 0 < mN m4 := by decide
theorem pd_4 : parseMethodDescriptor (mY m4).desc = some ⟨[], none⟩ := by decide +kernel
theorem hm_5 : (mY m5).cls = cN PP.2 := rfl
theorem hn_5 : 0 < mN m5 := by decide
theorem pd_5 : parseMethodDescriptor (mY m5).desc = some ⟨[], none⟩ := by decide +kernel
theorem hm_6 : (mY m6).cls = cN PP.2 := rfl
theorem hn_6 : 0 < mN m6 := by decide
theorem pd_6 : parseMethodDescriptor (mY m6).desc = some ⟨[], none⟩ := by decide +kernel
theorem hm_7 : (mY m7).cls = cN PP.2 := rfl
theorem hn_7 : 0 < mN m7 := by decide
theorem pd_7 : parseMethodDescriptor (mY m7).desc = some ⟨[.int, .int, .int, .int], none⟩ := by decide +kernel
theorem hm_8 : (mY m8).cls = cN PP.2 := rfl
theorem hn_8 : 0 < mN m8 := by decide
theorem pd_8 : parseMethodDescriptor (mY m8).desc = some ⟨[], (some .int)⟩ := by decide +kernel
theorem hm_9 : (mY m9).cls = cN PP.2 := rfl
theorem hn_9 : 0 < mN m9 := by decide
theorem pd_9 : parseMethodDescriptor (mY m9).desc = some ⟨[.int], (some .boolean)⟩ := by decide +kernel
theorem hm_10 : (mY m10).cls = cN PP.2 := rfl
theorem hn_10 : 0 < mN m10 := by decide
theorem pd_10 : parseMethodDescriptor (mY m10).desc = some ⟨[.int], (some .int)⟩ := by decide +kernel
theorem hm_11 : (mY m11).cls = cN PP.2 := rfl
theorem hn_11 : 0 < mN m11 := by decide
theorem pd_11 : parseMethodDescriptor (mY m11).desc = some ⟨[.int], (some .boolean)⟩ := by decide +kernel
theorem hm_12 : (mY m12).cls = cN PP.2 := rfl
theorem hn_12 : 0 < mN m12 := by decide
theorem pd_12 : parseMethodDescriptor (mY m12).desc = some ⟨[.int], (some .boolean)⟩ := by decide +kernel
theorem hm_13 : (mY m13).cls = cN PP.2 := rfl
theorem hn_13 : 0 < mN m13 := by decide
theorem pd_13 : parseMethodDescriptor (mY m13).desc = some ⟨[.int], (some .boolean)⟩ := by decide +kernel
theorem hm_14 : (mY m14).cls = cN PP.2 := rfl
theorem hn_14 : 0 < mN m14 := by decide
theorem pd_14 : parseMethodDescriptor (mY m14).desc = some ⟨[.int], (some .boolean)⟩ := by decide +kernel
theorem hm_15 : (mY m15).cls = cN PP.2 := rfl
theorem hn_15 : 0 < mN m15 := by decide
theorem pd_15 : parseMethodDescriptor (mY m15).desc = some ⟨[.int], (some .boolean)⟩ := by decide +kernel
theorem hm_16 : (mY m16).cls = cN PP.2 := rfl
theorem hn_16 : 0 < mN m16 := by decide
theorem pd_16 : parseMethodDescriptor (mY m16).desc = some ⟨[.int], (some .boolean)⟩ := by decide +kernel
theorem hm_17 : (mY m17).cls = cN PP.2 := rfl
theorem hn_17 : 0 < mN m17 := by decide
theorem pd_17 : parseMethodDescriptor (mY m17).desc = some ⟨[.int, .int], (some .int)⟩ := by decide +kernel
theorem hm_18 : (mY m18).cls = cN PP.2 := rfl
theorem hn_18 : 0 < mN m18 := by decide
theorem pd_18 : parseMethodDescriptor (mY m18).desc = some ⟨[.int, .int], (some .int)⟩ := by decide +kernel
theorem hm_19 : (mY m19).cls = cN PP.2 := rfl
theorem hn_19 : 0 < mN m19 := by decide
theorem pd_19 : parseMethodDescriptor (mY m19).desc = some ⟨[.int], (some .int)⟩ := by decide +kernel
theorem hm_20 : (mY m20).cls = cN PP.2 := rfl
theorem hn_20 : 0 < mN m20 := by decide
theorem pd_20 : parseMethodDescriptor (mY m20).desc = some ⟨[], (some .int)⟩ := by decide +kernel
theorem hm_21 : (mY m21).cls = cN PP.2 := rfl
theorem hn_21 : 0 < mN m21 := by decide
theorem pd_21 : parseMethodDescriptor (mY m21).desc = some ⟨[], (some .boolean)⟩ := by decide +kernel
theorem hm_22 : (mY m22).cls = cN PP.2 := rfl
theorem hn_22 : 0 < mN m22 := by decide
theorem pd_22 : parseMethodDescriptor (mY m22).desc = some ⟨[], (some .boolean)⟩ := by decide +kernel
theorem hm_23 : (mY m23).cls = cN PP.2 := rfl
theorem hn_23 : 0 < mN m23 := by decide
theorem pd_23 : parseMethodDescriptor (mY m23).desc = some ⟨[], (some .boolean)⟩ := by decide +kernel
theorem hm_24 : (mY m24).cls = cN PP.2 := rfl
theorem hn_24 : 0 < mN m24 := by decide
theorem pd_24 : parseMethodDescriptor (mY m24).desc = some ⟨[], (some .boolean)⟩ := by decide +kernel
theorem hm_25 : (mY m25).cls = cN PP.2 := rfl
theorem hn_25 : 0 < mN m25 := by decide
theorem pd_25 : parseMethodDescriptor (mY m25).desc = some ⟨[], none⟩ := by decide +kernel
theorem hm_26 : (mY m26).cls = cN PP.2 := rfl
theorem hn_26 : 0 < mN m26 := by decide
theorem pd_26 : parseMethodDescriptor (mY m26).desc = some ⟨[.int], none⟩ := by decide +kernel
theorem hm_27 : (mY m27).cls = cN PP.2 := rfl
theorem hn_27 : 0 < mN m27 := by decide
theorem pd_27 : parseMethodDescriptor (mY m27).desc = some ⟨[], none⟩ := by decide +kernel
theorem hm_28 : (mY m28).cls = cN PP.2 := rfl
theorem hn_28 : 0 < mN m28 := by decide
theorem pd_28 : parseMethodDescriptor (mY m28).desc = some ⟨[.int], (some .boolean)⟩ := by decide +kernel
theorem hm_29 : (mY m29).cls = cN PP.2 := rfl
theorem hn_29 : 0 < mN m29 := by decide
theorem pd_29 : parseMethodDescriptor (mY m29).desc = some ⟨[.int], none⟩ := by decide +kernel
theorem hm_30 : (mY m30).cls = cN PP.2 := rfl
theorem hn_30 : 0 < mN m30 := by decide
theorem pd_30 : parseMethodDescriptor (mY m30).desc = some ⟨[], none⟩ := by decide +kernel
theorem hm_31 : (mY m31).cls = cN PP.2 := rfl
theorem hn_31 : 0 < mN m31 := by decide
theorem pd_31 : parseMethodDescriptor (mY m31).desc = some ⟨[.int], none⟩ := by decide +kernel
theorem hm_32 : (mY m32).cls = cN PP.2 := rfl
theorem hn_32 : 0 < mN m32 := by decide
theorem pd_32 : parseMethodDescriptor (mY m32).desc = some ⟨[], none⟩ := by decide +kernel
theorem hm_33 : (mY m33).cls = cN PP.2 := rfl
theorem hn_33 : 0 < mN m33 := by decide
theorem pd_33 : parseMethodDescriptor (mY m33).desc = some ⟨[.int], none⟩ := by decide +kernel
theorem hm_34 : (mY m34).cls = cN PP.2 := rfl
theorem hn_34 : 0 < mN m34 := by decide
theorem pd_34 : parseMethodDescriptor (mY m34).desc = some ⟨[], (some .int)⟩ := by decide +kernel
theorem hm_35 : (mY m35).cls = cN PP.2 := rfl
theorem hn_35 : 0 < mN m35 := by decide
theorem pd_35 : parseMethodDescriptor (mY m35).desc = some ⟨[.int], none⟩ := by decide +kernel
theorem hm_36 : (mY m36).cls = cN PP.2 := rfl
theorem hn_36 : 0 < mN m36 := by decide
theorem pd_36 : parseMethodDescriptor (mY m36).desc = some ⟨[.int], none⟩ := by decide +kernel
theorem hm_37 : (mY m37).cls = cN PP.2 := rfl
theorem hn_37 : 0 < mN m37 := by decide
theorem pd_37 : parseMethodDescriptor (mY m37).desc = some ⟨[], none⟩ := by decide +kernel
theorem hm_38 : (mY m38).cls = cN PP.2 := rfl
theorem hn_38 : 0 < mN m38 := by decide
theorem pd_38 : parseMethodDescriptor (mY m38).desc = some ⟨[.int], (some .boolean)⟩ := by decide +kernel
theorem hm_39 : (mY m39).cls = cN PP.2 := rfl
theorem hn_39 : 0 < mN m39 := by decide
theorem pd_39 : parseMethodDescriptor (mY m39).desc = some ⟨[], none⟩ := by decide +kernel
theorem hm_40 : (mY m40).cls = cN PP.2 := rfl
theorem hn_40 : 0 < mN m40 := by decide
theorem pd_40 : parseMethodDescriptor (mY m40).desc = some ⟨[], (some .int)⟩ := by decide +kernel
theorem hm_41 : (mY m41).cls = cN PP.2 := rfl
theorem hn_41 : 0 < mN m41 := by decide
theorem pd_41 : parseMethodDescriptor (mY m41).desc = some ⟨[], (some .int)⟩ := by decide +kernel
theorem hm_42 : (mY m42).cls = cN PP.2 := rfl
theorem hn_42 : 0 < mN m42 := by decide
theorem pd_42 : parseMethodDescriptor (mY m42).desc = some ⟨[.int], none⟩ := by decide +kernel
theorem hm_43 : (mY m43).cls = cN PP.2 := rfl
theorem hn_43 : 0 < mN m43 := by decide
theorem pd_43 : parseMethodDescriptor (mY m43).desc = some ⟨[.int], none⟩ := by decide +kernel
theorem hm_44 : (mY m44).cls = cN PP.2 := rfl
theorem hn_44 : 0 < mN m44 := by decide
theorem pd_44 : parseMethodDescriptor (mY m44).desc = some ⟨[.int], none⟩ := by decide +kernel
theorem hm_45 : (mY m45).cls = cN PP.2 := rfl
theorem hn_45 : 0 < mN m45 := by decide
theorem pd_45 : parseMethodDescriptor (mY m45).desc = some ⟨[], (some .int)⟩ := by decide +kernel
theorem hm_46 : (mY m46).cls = cN PP.2 := rfl
theorem hn_46 : 0 < mN m46 := by decide
theorem pd_46 : parseMethodDescriptor (mY m46).desc = some ⟨[.int, .int], (some .int)⟩ := by decide +kernel
theorem hm_47 : (mY m47).cls = cN PP.2 := rfl
theorem hn_47 : 0 < mN m47 := by decide
theorem pd_47 : parseMethodDescriptor (mY m47).desc = some ⟨[.int, .int], (some .int)⟩ := by decide +kernel
theorem hm_48 : (mY m48).cls = cN PP.2 := rfl
theorem hn_48 : 0 < mN m48 := by decide
theorem pd_48 : parseMethodDescriptor (mY m48).desc = some ⟨[.int], (some .boolean)⟩ := by decide +kernel
theorem hm_49 : (mY m49).cls = cN PP.2 := rfl
theorem hn_49 : 0 < mN m49 := by decide
theorem pd_49 : parseMethodDescriptor (mY m49).desc = some ⟨[.int, .int, .int], (some .int)⟩ := by decide +kernel
theorem hm_50 : (mY m50).cls = cN PP.2 := rfl
theorem hn_50 : 0 < mN m50 := by decide
theorem pd_50 : parseMethodDescriptor (mY m50).desc = some ⟨[.int], (some .int)⟩ := by decide +kernel
theorem hm_51 : (mY m51).cls = cN PP.2 := rfl
theorem hn_51 : 0 < mN m51 := by decide
theorem pd_51 : parseMethodDescriptor (mY m51).desc = some ⟨[.int, .int], (some .boolean)⟩ := by decide +kernel
theorem hm_52 : (mY m52).cls = cN PP.2 := rfl
theorem hn_52 : 0 < mN m52 := by decide
theorem pd_52 : parseMethodDescriptor (mY m52).desc = some ⟨[.int], none⟩ := by decide +kernel
theorem hm_53 : (mY m53).cls = cN PP.2 := rfl
theorem hn_53 : 0 < mN m53 := by decide
theorem pd_53 : parseMethodDescriptor (mY m53).desc = some ⟨[.int, .int, .int], none⟩ := by decide +kernel
theorem hm_54 : (mY m54).cls = cN PP.2 := rfl
theorem hn_54 : 0 < mN m54 := by decide
theorem pd_54 : parseMethodDescriptor (mY m54).desc = some ⟨[.int, .int, .int], none⟩ := by decide +kernel
theorem hm_55 : (mY m55).cls = cN PP.2 := rfl
theorem hn_55 : 0 < mN m55 := by decide
theorem pd_55 : parseMethodDescriptor (mY m55).desc = some ⟨[.int], none⟩ := by decide +kernel
theorem hm_56 : (mY m56).cls = cN PP.2 := rfl
theorem hn_56 : 0 < mN m56 := by decide
theorem pd_56 : parseMethodDescriptor (mY m56).desc = some ⟨[.int, .int, .int], (some .int)⟩ := by decide +kernel
theorem hm_57 : (mY m57).cls = cN PP.2 := rfl
theorem hn_57 : 0 < mN m57 := by decide
theorem pd_57 : parseMethodDescriptor (mY m57).desc = some ⟨[.int], (some .int)⟩ := by decide +kernel
theorem hm_58 : (mY m58).cls = cN PP.2 := rfl
theorem hn_58 : 0 < mN m58 := by decide
theorem pd_58 : parseMethodDescriptor (mY m58).desc = some ⟨[.int], (some .int)⟩ := by decide +kernel
theorem hm_59 : (mY m59).cls = cN PP.2 := rfl
theorem hn_59 : 0 < mN m59 := by decide
theorem pd_59 : parseMethodDescriptor (mY m59).desc = some ⟨[], (some .int)⟩ := by decide +kernel
theorem hm_60 : (mY m60).cls = cN PP.2 := rfl
theorem hn_60 : 0 < mN m60 := by decide
theorem pd_60 : parseMethodDescriptor (mY m60).desc = some ⟨[], none⟩ := by decide +kernel
theorem hm_61 : (mY m61).cls = cN PP.2 := rfl
theorem hn_61 : 0 < mN m61 := by decide
theorem pd_61 : parseMethodDescriptor (mY m61).desc = some ⟨[], (some .int)⟩ := by decide +kernel
theorem hn_62 : 0 < mN m62 := by decide
theorem d0_0 : decode (mB m0) 0 = .ok (.iload_n 1, 1) := by decide +kernel
theorem d0_1 : decode (mB m0) 1 = .ok (.aload_n 0, 1) := by decide +kernel
theorem d0_2 : decode (mB m0) 2 = .ok (.arraylength, 1) := by decide +kernel
theorem d0_3 : decode (mB m0) 3 = .ok (.if_icmp .ge 9, 3) := by decide +kernel
theorem d0_6 : decode (mB m0) 6 = .ok (.aload_n 0, 1) := by decide +kernel
theorem d0_7 : decode (mB m0) 7 = .ok (.iload_n 1, 1) := by decide +kernel
theorem d0_8 : decode (mB m0) 8 = .ok (.iaload, 1) := by decide +kernel
theorem d0_9 : decode (mB m0) 9 = .ok (.goto 4, 3) := by decide +kernel
theorem d0_12 : decode (mB m0) 12 = .ok (.iconst 0, 1) := by decide +kernel
theorem d0_13 : decode (mB m0) 13 = .ok (.ireturn, 1) := by decide +kernel
theorem d1_0 : decode (mB m1) 0 = .ok (.iload_n 0, 1) := by decide +kernel
theorem d1_1 : decode (mB m1) 1 = .ok (.iload_n 1, 1) := by decide +kernel
theorem d1_2 : decode (mB m1) 2 = .ok (.if_icmp .ge 5, 3) := by decide +kernel
theorem d1_5 : decode (mB m1) 5 = .ok (.iload_n 1, 1) := by decide +kernel
theorem d1_6 : decode (mB m1) 6 = .ok (.ireturn, 1) := by decide +kernel
theorem d1_7 : decode (mB m1) 7 = .ok (.iload_n 0, 1) := by decide +kernel
theorem d1_8 : decode (mB m1) 8 = .ok (.iload_n 2, 1) := by decide +kernel
theorem d1_9 : decode (mB m1) 9 = .ok (.if_icmp .le 5, 3) := by decide +kernel
theorem d1_12 : decode (mB m1) 12 = .ok (.iload_n 2, 1) := by decide +kernel
theorem d1_13 : decode (mB m1) 13 = .ok (.ireturn, 1) := by decide +kernel
theorem d1_14 : decode (mB m1) 14 = .ok (.iload_n 0, 1) := by decide +kernel
theorem d1_15 : decode (mB m1) 15 = .ok (.ireturn, 1) := by decide +kernel
theorem d2_0 : decode (mB m2) 0 = .ok (.iload_n 1, 1) := by decide +kernel
theorem d2_1 : decode (mB m2) 1 = .ok (.ifCond .lt 9, 3) := by decide +kernel
theorem d2_4 : decode (mB m2) 4 = .ok (.iload_n 1, 1) := by decide +kernel
theorem d2_5 : decode (mB m2) 5 = .ok (.bipush 64, 2) := by decide +kernel
theorem d2_7 : decode (mB m2) 7 = .ok (.if_icmp .lt 4, 3) := by decide +kernel
theorem d2_10 : decode (mB m2) 10 = .ok (.return_, 1) := by decide +kernel
theorem d2_11 : decode (mB m2) 11 = .ok (.iload_n 1, 1) := by decide +kernel
theorem d2_12 : decode (mB m2) 12 = .ok (.iconst 4, 1) := by decide +kernel
theorem d2_13 : decode (mB m2) 13 = .ok (.imul, 1) := by decide +kernel
theorem d2_14 : decode (mB m2) 14 = .ok (.istore_n 2, 1) := by decide +kernel
theorem d2_15 : decode (mB m2) 15 = .ok (.iconst 0, 1) := by decide +kernel
theorem d2_16 : decode (mB m2) 16 = .ok (.istore_n 3, 1) := by decide +kernel
theorem d2_17 : decode (mB m2) 17 = .ok (.iload_n 3, 1) := by decide +kernel
theorem d2_18 : decode (mB m2) 18 = .ok (.iconst 4, 1) := by decide +kernel
theorem d2_19 : decode (mB m2) 19 = .ok (.if_icmp .ge 18, 3) := by decide +kernel
theorem d2_22 : decode (mB m2) 22 = .ok (.aload_n 0, 1) := by decide +kernel
theorem d2_23 : decode (mB m2) 23 = .ok (.getfield 13, 3) := by decide +kernel
theorem d2_26 : decode (mB m2) 26 = .ok (.iload_n 2, 1) := by decide +kernel
theorem d2_27 : decode (mB m2) 27 = .ok (.iload_n 3, 1) := by decide +kernel
theorem d2_28 : decode (mB m2) 28 = .ok (.iadd, 1) := by decide +kernel
theorem d2_29 : decode (mB m2) 29 = .ok (.iconst (-1), 1) := by decide +kernel
theorem d2_30 : decode (mB m2) 30 = .ok (.iastore, 1) := by decide +kernel
theorem d2_31 : decode (mB m2) 31 = .ok (.iinc 3 1, 3) := by decide +kernel
theorem d2_34 : decode (mB m2) 34 = .ok (.goto (-17), 3) := by decide +kernel
theorem d2_37 : decode (mB m2) 37 = .ok (.return_, 1) := by decide +kernel
theorem d3_0 : decode (mB m3) 0 = .ok (.iconst 0, 1) := by decide +kernel
theorem d3_1 : decode (mB m3) 1 = .ok (.istore_n 1, 1) := by decide +kernel
theorem d3_2 : decode (mB m3) 2 = .ok (.iload_n 1, 1) := by decide +kernel
theorem d3_3 : decode (mB m3) 3 = .ok (.bipush 64, 2) := by decide +kernel
theorem d3_5 : decode (mB m3) 5 = .ok (.if_icmp .ge 28, 3) := by decide +kernel
theorem d3_8 : decode (mB m3) 8 = .ok (.aload_n 0, 1) := by decide +kernel
theorem d3_9 : decode (mB m3) 9 = .ok (.getfield 7, 3) := by decide +kernel
theorem d3_12 : decode (mB m3) 12 = .ok (.iload_n 1, 1) := by decide +kernel
theorem d3_13 : decode (mB m3) 13 = .ok (.iconst 0, 1) := by decide +kernel
theorem d3_14 : decode (mB m3) 14 = .ok (.bastore, 1) := by decide +kernel
theorem d3_15 : decode (mB m3) 15 = .ok (.aload_n 0, 1) := by decide +kernel
theorem d3_16 : decode (mB m3) 16 = .ok (.getfield 17, 3) := by decide +kernel
theorem d3_19 : decode (mB m3) 19 = .ok (.iload_n 1, 1) := by decide +kernel
theorem d3_20 : decode (mB m3) 20 = .ok (.iconst 0, 1) := by decide +kernel
theorem d3_21 : decode (mB m3) 21 = .ok (.iastore, 1) := by decide +kernel
theorem d3_22 : decode (mB m3) 22 = .ok (.aload_n 0, 1) := by decide +kernel
theorem d3_23 : decode (mB m3) 23 = .ok (.iload_n 1, 1) := by decide +kernel
theorem d3_24 : decode (mB m3) 24 = .ok (.invokevirtual 219, 3) := by decide +kernel
theorem d3_27 : decode (mB m3) 27 = .ok (.iinc 1 1, 3) := by decide +kernel
theorem d3_30 : decode (mB m3) 30 = .ok (.goto (-28), 3) := by decide +kernel
theorem d3_33 : decode (mB m3) 33 = .ok (.aload_n 0, 1) := by decide +kernel
theorem d3_34 : decode (mB m3) 34 = .ok (.iconst 0, 1) := by decide +kernel
theorem d3_35 : decode (mB m3) 35 = .ok (.putfield 147, 3) := by decide +kernel
theorem d3_38 : decode (mB m3) 38 = .ok (.return_, 1) := by decide +kernel
theorem d4_0 : decode (mB m4) 0 = .ok (.iconst 0, 1) := by decide +kernel
theorem d4_1 : decode (mB m4) 1 = .ok (.istore_n 1, 1) := by decide +kernel
theorem d4_2 : decode (mB m4) 2 = .ok (.iload_n 1, 1) := by decide +kernel
theorem d4_3 : decode (mB m4) 3 = .ok (.bipush 16, 2) := by decide +kernel
theorem d4_5 : decode (mB m4) 5 = .ok (.if_icmp .ge 16, 3) := by decide +kernel
theorem d4_8 : decode (mB m4) 8 = .ok (.aload_n 0, 1) := by decide +kernel
theorem d4_9 : decode (mB m4) 9 = .ok (.getfield 20, 3) := by decide +kernel
theorem d4_12 : decode (mB m4) 12 = .ok (.iload_n 1, 1) := by decide +kernel
theorem d4_13 : decode (mB m4) 13 = .ok (.iconst (-1), 1) := by decide +kernel
theorem d4_14 : decode (mB m4) 14 = .ok (.iastore, 1) := by decide +kernel
theorem d4_15 : decode (mB m4) 15 = .ok (.iinc 1 1, 3) := by decide +kernel
theorem d4_18 : decode (mB m4) 18 = .ok (.goto (-16), 3) := by decide +kernel
theorem d4_21 : decode (mB m4) 21 = .ok (.aload_n 0, 1) := by decide +kernel
theorem d4_22 : decode (mB m4) 22 = .ok (.iconst 0, 1) := by decide +kernel
theorem d4_23 : decode (mB m4) 23 = .ok (.putfield 125, 3) := by decide +kernel
theorem d4_26 : decode (mB m4) 26 = .ok (.return_, 1) := by decide +kernel
theorem d5_0 : decode (mB m5) 0 = .ok (.iconst 0, 1) := by decide +kernel
theorem d5_1 : decode (mB m5) 1 = .ok (.istore_n 1, 1) := by decide +kernel
theorem d5_2 : decode (mB m5) 2 = .ok (.iload_n 1, 1) := by decide +kernel
theorem d5_3 : decode (mB m5) 3 = .ok (.bipush 64, 2) := by decide +kernel
theorem d5_5 : decode (mB m5) 5 = .ok (.if_icmp .ge 16, 3) := by decide +kernel
theorem d5_8 : decode (mB m5) 8 = .ok (.aload_n 0, 1) := by decide +kernel
theorem d5_9 : decode (mB m5) 9 = .ok (.getfield 23, 3) := by decide +kernel
theorem d5_12 : decode (mB m5) 12 = .ok (.iload_n 1, 1) := by decide +kernel
theorem d5_13 : decode (mB m5) 13 = .ok (.iconst (-1), 1) := by decide +kernel
theorem d5_14 : decode (mB m5) 14 = .ok (.iastore, 1) := by decide +kernel
theorem d5_15 : decode (mB m5) 15 = .ok (.iinc 1 1, 3) := by decide +kernel
theorem d5_18 : decode (mB m5) 18 = .ok (.goto (-16), 3) := by decide +kernel
theorem d5_21 : decode (mB m5) 21 = .ok (.iconst 0, 1) := by decide +kernel
theorem d5_22 : decode (mB m5) 22 = .ok (.istore_n 1, 1) := by decide +kernel
theorem d5_23 : decode (mB m5) 23 = .ok (.iload_n 1, 1) := by decide +kernel
theorem d5_24 : decode (mB m5) 24 = .ok (.bipush 64, 2) := by decide +kernel
theorem d5_26 : decode (mB m5) 26 = .ok (.if_icmp .ge 16, 3) := by decide +kernel
theorem d5_29 : decode (mB m5) 29 = .ok (.aload_n 0, 1) := by decide +kernel
theorem d5_30 : decode (mB m5) 30 = .ok (.getfield 26, 3) := by decide +kernel
theorem d5_33 : decode (mB m5) 33 = .ok (.iload_n 1, 1) := by decide +kernel
theorem d5_34 : decode (mB m5) 34 = .ok (.iconst (-1), 1) := by decide +kernel
theorem d5_35 : decode (mB m5) 35 = .ok (.iastore, 1) := by decide +kernel
theorem d5_36 : decode (mB m5) 36 = .ok (.iinc 1 1, 3) := by decide +kernel
theorem d5_39 : decode (mB m5) 39 = .ok (.goto (-16), 3) := by decide +kernel
theorem d5_42 : decode (mB m5) 42 = .ok (.aload_n 0, 1) := by decide +kernel
theorem d5_43 : decode (mB m5) 43 = .ok (.iconst 0, 1) := by decide +kernel
theorem d5_44 : decode (mB m5) 44 = .ok (.putfield 144, 3) := by decide +kernel
theorem d5_47 : decode (mB m5) 47 = .ok (.return_, 1) := by decide +kernel
theorem d6_0 : decode (mB m6) 0 = .ok (.iconst 0, 1) := by decide +kernel
theorem d6_1 : decode (mB m6) 1 = .ok (.istore_n 1, 1) := by decide +kernel
theorem d6_2 : decode (mB m6) 2 = .ok (.iload_n 1, 1) := by decide +kernel
theorem d6_3 : decode (mB m6) 3 = .ok (.bipush 64, 2) := by decide +kernel
theorem d6_5 : decode (mB m6) 5 = .ok (.if_icmp .ge 44, 3) := by decide +kernel
theorem d6_8 : decode (mB m6) 8 = .ok (.aload_n 0, 1) := by decide +kernel
theorem d6_9 : decode (mB m6) 9 = .ok (.getfield 29, 3) := by decide +kernel
theorem d6_12 : decode (mB m6) 12 = .ok (.iload_n 1, 1) := by decide +kernel
theorem d6_13 : decode (mB m6) 13 = .ok (.iconst 0, 1) := by decide +kernel
theorem d6_14 : decode (mB m6) 14 = .ok (.bastore, 1) := by decide +kernel
theorem d6_15 : decode (mB m6) 15 = .ok (.aload_n 0, 1) := by decide +kernel
theorem d6_16 : decode (mB m6) 16 = .ok (.getfield 32, 3) := by decide +kernel
theorem d6_19 : decode (mB m6) 19 = .ok (.iload_n 1, 1) := by decide +kernel
theorem d6_20 : decode (mB m6) 20 = .ok (.iconst 0, 1) := by decide +kernel
theorem d6_21 : decode (mB m6) 21 = .ok (.bastore, 1) := by decide +kernel
theorem d6_22 : decode (mB m6) 22 = .ok (.aload_n 0, 1) := by decide +kernel
theorem d6_23 : decode (mB m6) 23 = .ok (.getfield 35, 3) := by decide +kernel
theorem d6_26 : decode (mB m6) 26 = .ok (.iload_n 1, 1) := by decide +kernel
theorem d6_27 : decode (mB m6) 27 = .ok (.iconst 0, 1) := by decide +kernel
theorem d6_28 : decode (mB m6) 28 = .ok (.bastore, 1) := by decide +kernel
theorem d6_29 : decode (mB m6) 29 = .ok (.aload_n 0, 1) := by decide +kernel
theorem d6_30 : decode (mB m6) 30 = .ok (.getfield 38, 3) := by decide +kernel
theorem d6_33 : decode (mB m6) 33 = .ok (.iload_n 1, 1) := by decide +kernel
theorem d6_34 : decode (mB m6) 34 = .ok (.iconst 0, 1) := by decide +kernel
theorem d6_35 : decode (mB m6) 35 = .ok (.iastore, 1) := by decide +kernel
theorem d6_36 : decode (mB m6) 36 = .ok (.aload_n 0, 1) := by decide +kernel
theorem d6_37 : decode (mB m6) 37 = .ok (.getfield 41, 3) := by decide +kernel
theorem d6_40 : decode (mB m6) 40 = .ok (.iload_n 1, 1) := by decide +kernel
theorem d6_41 : decode (mB m6) 41 = .ok (.iconst (-1), 1) := by decide +kernel
theorem d6_42 : decode (mB m6) 42 = .ok (.iastore, 1) := by decide +kernel
theorem d6_43 : decode (mB m6) 43 = .ok (.iinc 1 1, 3) := by decide +kernel
theorem d6_46 : decode (mB m6) 46 = .ok (.goto (-44), 3) := by decide +kernel
theorem d6_49 : decode (mB m6) 49 = .ok (.aload_n 0, 1) := by decide +kernel
theorem d6_50 : decode (mB m6) 50 = .ok (.iconst 0, 1) := by decide +kernel
theorem d6_51 : decode (mB m6) 51 = .ok (.putfield 201, 3) := by decide +kernel
theorem d6_54 : decode (mB m6) 54 = .ok (.return_, 1) := by decide +kernel
theorem d7_0 : decode (mB m7) 0 = .ok (.aload_n 0, 1) := by decide +kernel
theorem d7_1 : decode (mB m7) 1 = .ok (.invokespecial 1, 3) := by decide +kernel
theorem d7_4 : decode (mB m7) 4 = .ok (.aload_n 0, 1) := by decide +kernel
theorem d7_5 : decode (mB m7) 5 = .ok (.bipush 64, 2) := by decide +kernel
theorem d7_7 : decode (mB m7) 7 = .ok (.newarray .boolean, 2) := by decide +kernel
theorem d7_9 : decode (mB m7) 9 = .ok (.putfield 7, 3) := by decide +kernel
theorem d7_12 : decode (mB m7) 12 = .ok (.aload_n 0, 1) := by decide +kernel
theorem d7_13 : decode (mB m7) 13 = .ok (.sipush 256, 3) := by decide +kernel
theorem d7_16 : decode (mB m7) 16 = .ok (.newarray .int, 2) := by decide +kernel
theorem d7_18 : decode (mB m7) 18 = .ok (.putfield 13, 3) := by decide +kernel
theorem d7_21 : decode (mB m7) 21 = .ok (.aload_n 0, 1) := by decide +kernel
theorem d7_22 : decode (mB m7) 22 = .ok (.bipush 64, 2) := by decide +kernel
theorem d7_24 : decode (mB m7) 24 = .ok (.newarray .int, 2) := by decide +kernel
theorem d7_26 : decode (mB m7) 26 = .ok (.putfield 17, 3) := by decide +kernel
theorem d7_29 : decode (mB m7) 29 = .ok (.aload_n 0, 1) := by decide +kernel
theorem d7_30 : decode (mB m7) 30 = .ok (.bipush 16, 2) := by decide +kernel
theorem d7_32 : decode (mB m7) 32 = .ok (.newarray .int, 2) := by decide +kernel
theorem d7_34 : decode (mB m7) 34 = .ok (.putfield 20, 3) := by decide +kernel
theorem d7_37 : decode (mB m7) 37 = .ok (.aload_n 0, 1) := by decide +kernel
theorem d7_38 : decode (mB m7) 38 = .ok (.bipush 64, 2) := by decide +kernel
theorem d7_40 : decode (mB m7) 40 = .ok (.newarray .int, 2) := by decide +kernel
theorem d7_42 : decode (mB m7) 42 = .ok (.putfield 23, 3) := by decide +kernel
theorem d7_45 : decode (mB m7) 45 = .ok (.aload_n 0, 1) := by decide +kernel
theorem d7_46 : decode (mB m7) 46 = .ok (.bipush 64, 2) := by decide +kernel
theorem d7_48 : decode (mB m7) 48 = .ok (.newarray .int, 2) := by decide +kernel
theorem d7_50 : decode (mB m7) 50 = .ok (.putfield 26, 3) := by decide +kernel
theorem d7_53 : decode (mB m7) 53 = .ok (.aload_n 0, 1) := by decide +kernel
theorem d7_54 : decode (mB m7) 54 = .ok (.bipush 64, 2) := by decide +kernel
theorem d7_56 : decode (mB m7) 56 = .ok (.newarray .boolean, 2) := by decide +kernel
theorem d7_58 : decode (mB m7) 58 = .ok (.putfield 29, 3) := by decide +kernel
theorem d7_61 : decode (mB m7) 61 = .ok (.aload_n 0, 1) := by decide +kernel
theorem d7_62 : decode (mB m7) 62 = .ok (.bipush 64, 2) := by decide +kernel
theorem d7_64 : decode (mB m7) 64 = .ok (.newarray .boolean, 2) := by decide +kernel
theorem d7_66 : decode (mB m7) 66 = .ok (.putfield 32, 3) := by decide +kernel
theorem d7_69 : decode (mB m7) 69 = .ok (.aload_n 0, 1) := by decide +kernel
theorem d7_70 : decode (mB m7) 70 = .ok (.bipush 64, 2) := by decide +kernel
theorem d7_72 : decode (mB m7) 72 = .ok (.newarray .boolean, 2) := by decide +kernel
theorem d7_74 : decode (mB m7) 74 = .ok (.putfield 35, 3) := by decide +kernel
theorem d7_77 : decode (mB m7) 77 = .ok (.aload_n 0, 1) := by decide +kernel
theorem d7_78 : decode (mB m7) 78 = .ok (.bipush 64, 2) := by decide +kernel
theorem d7_80 : decode (mB m7) 80 = .ok (.newarray .int, 2) := by decide +kernel
theorem d7_82 : decode (mB m7) 82 = .ok (.putfield 38, 3) := by decide +kernel
theorem d7_85 : decode (mB m7) 85 = .ok (.aload_n 0, 1) := by decide +kernel
theorem d7_86 : decode (mB m7) 86 = .ok (.bipush 64, 2) := by decide +kernel
theorem d7_88 : decode (mB m7) 88 = .ok (.newarray .int, 2) := by decide +kernel
theorem d7_90 : decode (mB m7) 90 = .ok (.putfield 41, 3) := by decide +kernel
theorem d7_93 : decode (mB m7) 93 = .ok (.aload_n 0, 1) := by decide +kernel
theorem d7_94 : decode (mB m7) 94 = .ok (.iload_n 1, 1) := by decide +kernel
theorem d7_95 : decode (mB m7) 95 = .ok (.iconst 4, 1) := by decide +kernel
theorem d7_96 : decode (mB m7) 96 = .ok (.bipush 64, 2) := by decide +kernel
theorem d7_98 : decode (mB m7) 98 = .ok (.invokestatic 44, 3) := by decide +kernel
theorem d7_101 : decode (mB m7) 101 = .ok (.putfield 48, 3) := by decide +kernel
theorem d7_104 : decode (mB m7) 104 = .ok (.aload_n 0, 1) := by decide +kernel
theorem d7_105 : decode (mB m7) 105 = .ok (.iload_n 2, 1) := by decide +kernel
theorem d7_106 : decode (mB m7) 106 = .ok (.iconst 1, 1) := by decide +kernel
theorem d7_107 : decode (mB m7) 107 = .ok (.iconst 4, 1) := by decide +kernel
theorem d7_108 : decode (mB m7) 108 = .ok (.invokestatic 44, 3) := by decide +kernel
theorem d7_111 : decode (mB m7) 111 = .ok (.putfield 52, 3) := by decide +kernel
theorem d7_114 : decode (mB m7) 114 = .ok (.aload_n 0, 1) := by decide +kernel
theorem d7_115 : decode (mB m7) 115 = .ok (.iload_n 3, 1) := by decide +kernel
theorem d7_116 : decode (mB m7) 116 = .ok (.iconst 1, 1) := by decide +kernel
theorem d7_117 : decode (mB m7) 117 = .ok (.bipush 16, 2) := by decide +kernel
theorem d7_119 : decode (mB m7) 119 = .ok (.invokestatic 44, 3) := by decide +kernel
theorem d7_122 : decode (mB m7) 122 = .ok (.putfield 55, 3) := by decide +kernel
theorem d7_125 : decode (mB m7) 125 = .ok (.aload_n 0, 1) := by decide +kernel
theorem d7_126 : decode (mB m7) 126 = .ok (.getfield 55, 3) := by decide +kernel
theorem d7_129 : decode (mB m7) 129 = .ok (.iconst 1, 1) := by decide +kernel
theorem d7_130 : decode (mB m7) 130 = .ok (.iadd, 1) := by decide +kernel
theorem d7_131 : decode (mB m7) 131 = .ok (.istore 5, 2) := by decide +kernel
theorem d7_133 : decode (mB m7) 133 = .ok (.aload_n 0, 1) := by decide +kernel
theorem d7_134 : decode (mB m7) 134 = .ok (.iload 4, 2) := by decide +kernel
theorem d7_136 : decode (mB m7) 136 = .ok (.iload 5, 2) := by decide +kernel
theorem d7_138 : decode (mB m7) 138 = .ok (.bipush 64, 2) := by decide +kernel
theorem d7_140 : decode (mB m7) 140 = .ok (.invokestatic 44, 3) := by decide +kernel
theorem d7_143 : decode (mB m7) 143 = .ok (.putfield 58, 3) := by decide +kernel
theorem d7_146 : decode (mB m7) 146 = .ok (.aload_n 0, 1) := by decide +kernel
theorem d7_147 : decode (mB m7) 147 = .ok (.invokevirtual 61, 3) := by decide +kernel
theorem d7_150 : decode (mB m7) 150 = .ok (.aload_n 0, 1) := by decide +kernel
theorem d7_151 : decode (mB m7) 151 = .ok (.invokevirtual 64, 3) := by decide +kernel
theorem d7_154 : decode (mB m7) 154 = .ok (.aload_n 0, 1) := by decide +kernel
theorem d7_155 : decode (mB m7) 155 = .ok (.invokevirtual 67, 3) := by decide +kernel
theorem d7_158 : decode (mB m7) 158 = .ok (.aload_n 0, 1) := by decide +kernel
theorem d7_159 : decode (mB m7) 159 = .ok (.invokevirtual 70, 3) := by decide +kernel
theorem d7_162 : decode (mB m7) 162 = .ok (.aload_n 0, 1) := by decide +kernel
theorem d7_163 : decode (mB m7) 163 = .ok (.iconst 0, 1) := by decide +kernel
theorem d7_164 : decode (mB m7) 164 = .ok (.putfield 73, 3) := by decide +kernel
theorem d7_167 : decode (mB m7) 167 = .ok (.return_, 1) := by decide +kernel
theorem d8_0 : decode (mB m8) 0 = .ok (.aload_n 0, 1) := by decide +kernel
theorem d8_1 : decode (mB m8) 1 = .ok (.getfield 125, 3) := by decide +kernel
theorem d8_4 : decode (mB m8) 4 = .ok (.ireturn, 1) := by decide +kernel
theorem d9_0 : decode (mB m9) 0 = .ok (.iload_n 1, 1) := by decide +kernel
theorem d9_1 : decode (mB m9) 1 = .ok (.ifCond .lt 15, 3) := by decide +kernel
theorem d9_4 : decode (mB m9) 4 = .ok (.iload_n 1, 1) := by decide +kernel
theorem d9_5 : decode (mB m9) 5 = .ok (.aload_n 0, 1) := by decide +kernel
theorem d9_6 : decode (mB m9) 6 = .ok (.getfield 125, 3) := by decide +kernel
theorem d9_9 : decode (mB m9) 9 = .ok (.if_icmp .ge 7, 3) := by decide +kernel
theorem d9_12 : decode (mB m9) 12 = .ok (.iconst 1, 1) := by decide +kernel
theorem d9_13 : decode (mB m9) 13 = .ok (.goto 4, 3) := by decide +kernel
theorem d9_16 : decode (mB m9) 16 = .ok (.iconst 0, 1) := by decide +kernel
theorem d9_17 : decode (mB m9) 17 = .ok (.ireturn, 1) := by decide +kernel
theorem d10_0 : decode (mB m10) 0 = .ok (.aload_n 0, 1) := by decide +kernel
theorem d10_1 : decode (mB m10) 1 = .ok (.iload_n 1, 1) := by decide +kernel
theorem d10_2 : decode (mB m10) 2 = .ok (.invokevirtual 131, 3) := by decide +kernel
theorem d10_5 : decode (mB m10) 5 = .ok (.ifCond .ne 6, 3) := by decide +kernel
theorem d10_8 : decode (mB m10) 8 = .ok (.bipush (-5), 2) := by decide +kernel
theorem d10_10 : decode (mB m10) 10 = .ok (.ireturn, 1) := by decide +kernel
theorem d10_11 : decode (mB m10) 11 = .ok (.aload_n 0, 1) := by decide +kernel
theorem d10_12 : decode (mB m10) 12 = .ok (.getfield 20, 3) := by decide +kernel
theorem d10_15 : decode (mB m10) 15 = .ok (.iload_n 1, 1) := by decide +kernel
theorem d10_16 : decode (mB m10) 16 = .ok (.iaload, 1) := by decide +kernel
theorem d10_17 : decode (mB m10) 17 = .ok (.ireturn, 1) := by decide +kernel
theorem d11_0 : decode (mB m11) 0 = .ok (.iload_n 1, 1) := by decide +kernel
theorem d11_1 : decode (mB m11) 1 = .ok (.ifCond .lt 15, 3) := by decide +kernel
theorem d11_4 : decode (mB m11) 4 = .ok (.iload_n 1, 1) := by decide +kernel
theorem d11_5 : decode (mB m11) 5 = .ok (.aload_n 0, 1) := by decide +kernel
theorem d11_6 : decode (mB m11) 6 = .ok (.getfield 48, 3) := by decide +kernel
theorem d11_9 : decode (mB m11) 9 = .ok (.if_icmp .ge 7, 3) := by decide +kernel
theorem d11_12 : decode (mB m11) 12 = .ok (.iconst 1, 1) := by decide +kernel
theorem d11_13 : decode (mB m11) 13 = .ok (.goto 4, 3) := by decide +kernel
theorem d11_16 : decode (mB m11) 16 = .ok (.iconst 0, 1) := by decide +kernel
theorem d11_17 : decode (mB m11) 17 = .ok (.ireturn, 1) := by decide +kernel
theorem d12_0 : decode (mB m12) 0 = .ok (.aload_n 0, 1) := by decide +kernel
theorem d12_1 : decode (mB m12) 1 = .ok (.iload_n 1, 1) := by decide +kernel
theorem d12_2 : decode (mB m12) 2 = .ok (.invokevirtual 165, 3) := by decide +kernel
theorem d12_5 : decode (mB m12) 5 = .ok (.ifCond .eq 16, 3) := by decide +kernel
theorem d12_8 : decode (mB m12) 8 = .ok (.aload_n 0, 1) := by decide +kernel
theorem d12_9 : decode (mB m12) 9 = .ok (.getfield 7, 3) := by decide +kernel
theorem d12_12 : decode (mB m12) 12 = .ok (.iload_n 1, 1) := by decide +kernel
theorem d12_13 : decode (mB m12) 13 = .ok (.baload, 1) := by decide +kernel
theorem d12_14 : decode (mB m12) 14 = .ok (.ifCond .eq 7, 3) := by decide +kernel
theorem d12_17 : decode (mB m12) 17 = .ok (.iconst 1, 1) := by decide +kernel
theorem d12_18 : decode (mB m12) 18 = .ok (.goto 4, 3) := by decide +kernel
theorem d12_21 : decode (mB m12) 21 = .ok (.iconst 0, 1) := by decide +kernel
theorem d12_22 : decode (mB m12) 22 = .ok (.ireturn, 1) := by decide +kernel
theorem d13_0 : decode (mB m13) 0 = .ok (.aload_n 0, 1) := by decide +kernel
theorem d13_1 : decode (mB m13) 1 = .ok (.iload_n 1, 1) := by decide +kernel
theorem d13_2 : decode (mB m13) 2 = .ok (.invokevirtual 135, 3) := by decide +kernel
theorem d13_5 : decode (mB m13) 5 = .ok (.ireturn, 1) := by decide +kernel
theorem d14_0 : decode (mB m14) 0 = .ok (.aload_n 0, 1) := by decide +kernel
theorem d14_1 : decode (mB m14) 1 = .ok (.iload_n 1, 1) := by decide +kernel
theorem d14_2 : decode (mB m14) 2 = .ok (.invokevirtual 165, 3) := by decide +kernel
theorem d14_5 : decode (mB m14) 5 = .ok (.ifCond .ne 5, 3) := by decide +kernel
theorem d14_8 : decode (mB m14) 8 = .ok (.iconst 0, 1) := by decide +kernel
theorem d14_9 : decode (mB m14) 9 = .ok (.ireturn, 1) := by decide +kernel
theorem d14_10 : decode (mB m14) 10 = .ok (.aload_n 0, 1) := by decide +kernel
theorem d14_11 : decode (mB m14) 11 = .ok (.getfield 26, 3) := by decide +kernel
theorem d14_14 : decode (mB m14) 14 = .ok (.iload_n 1, 1) := by decide +kernel
theorem d14_15 : decode (mB m14) 15 = .ok (.iaload, 1) := by decide +kernel
theorem d14_16 : decode (mB m14) 16 = .ok (.iconst (-1), 1) := by decide +kernel
theorem d14_17 : decode (mB m14) 17 = .ok (.if_icmp .eq 7, 3) := by decide +kernel
theorem d14_20 : decode (mB m14) 20 = .ok (.iconst 1, 1) := by decide +kernel
theorem d14_21 : decode (mB m14) 21 = .ok (.goto 4, 3) := by decide +kernel
theorem d14_24 : decode (mB m14) 24 = .ok (.iconst 0, 1) := by decide +kernel
theorem d14_25 : decode (mB m14) 25 = .ok (.ireturn, 1) := by decide +kernel
theorem d15_0 : decode (mB m15) 0 = .ok (.aload_n 0, 1) := by decide +kernel
theorem d15_1 : decode (mB m15) 1 = .ok (.iload_n 1, 1) := by decide +kernel
theorem d15_2 : decode (mB m15) 2 = .ok (.invokevirtual 141, 3) := by decide +kernel
theorem d15_5 : decode (mB m15) 5 = .ok (.ireturn, 1) := by decide +kernel
theorem d16_0 : decode (mB m16) 0 = .ok (.iload_n 1, 1) := by decide +kernel
theorem d16_1 : decode (mB m16) 1 = .ok (.ifCond .lt 15, 3) := by decide +kernel
theorem d16_4 : decode (mB m16) 4 = .ok (.iload_n 1, 1) := by decide +kernel
theorem d16_5 : decode (mB m16) 5 = .ok (.aload_n 0, 1) := by decide +kernel
theorem d16_6 : decode (mB m16) 6 = .ok (.getfield 52, 3) := by decide +kernel
theorem d16_9 : decode (mB m16) 9 = .ok (.if_icmp .ge 7, 3) := by decide +kernel
theorem d16_12 : decode (mB m16) 12 = .ok (.iconst 1, 1) := by decide +kernel
theorem d16_13 : decode (mB m16) 13 = .ok (.goto 4, 3) := by decide +kernel
theorem d16_16 : decode (mB m16) 16 = .ok (.iconst 0, 1) := by decide +kernel
theorem d16_17 : decode (mB m16) 17 = .ok (.ireturn, 1) := by decide +kernel
theorem d17_0 : decode (mB m17) 0 = .ok (.aload_n 0, 1) := by decide +kernel
theorem d17_1 : decode (mB m17) 1 = .ok (.iload_n 1, 1) := by decide +kernel
theorem d17_2 : decode (mB m17) 2 = .ok (.invokevirtual 165, 3) := by decide +kernel
theorem d17_5 : decode (mB m17) 5 = .ok (.ifCond .ne 5, 3) := by decide +kernel
theorem d17_8 : decode (mB m17) 8 = .ok (.iconst (-1), 1) := by decide +kernel
theorem d17_9 : decode (mB m17) 9 = .ok (.ireturn, 1) := by decide +kernel
theorem d17_10 : decode (mB m17) 10 = .ok (.aload_n 0, 1) := by decide +kernel
theorem d17_11 : decode (mB m17) 11 = .ok (.iload_n 2, 1) := by decide +kernel
theorem d17_12 : decode (mB m17) 12 = .ok (.invokevirtual 138, 3) := by decide +kernel
theorem d17_15 : decode (mB m17) 15 = .ok (.ifCond .ne 5, 3) := by decide +kernel
theorem d17_18 : decode (mB m17) 18 = .ok (.iconst (-1), 1) := by decide +kernel
theorem d17_19 : decode (mB m17) 19 = .ok (.ireturn, 1) := by decide +kernel
theorem d17_20 : decode (mB m17) 20 = .ok (.aload_n 0, 1) := by decide +kernel
theorem d17_21 : decode (mB m17) 21 = .ok (.getfield 13, 3) := by decide +kernel
theorem d17_24 : decode (mB m17) 24 = .ok (.iload_n 1, 1) := by decide +kernel
theorem d17_25 : decode (mB m17) 25 = .ok (.iconst 4, 1) := by decide +kernel
theorem d17_26 : decode (mB m17) 26 = .ok (.imul, 1) := by decide +kernel
theorem d17_27 : decode (mB m17) 27 = .ok (.iload_n 2, 1) := by decide +kernel
theorem d17_28 : decode (mB m17) 28 = .ok (.iadd, 1) := by decide +kernel
theorem d17_29 : decode (mB m17) 29 = .ok (.iaload, 1) := by decide +kernel
theorem d17_30 : decode (mB m17) 30 = .ok (.ireturn, 1) := by decide +kernel
theorem d18_0 : decode (mB m18) 0 = .ok (.aload_n 0, 1) := by decide +kernel
theorem d18_1 : decode (mB m18) 1 = .ok (.iload_n 1, 1) := by decide +kernel
theorem d18_2 : decode (mB m18) 2 = .ok (.invokevirtual 135, 3) := by decide +kernel
theorem d18_5 : decode (mB m18) 5 = .ok (.ifCond .ne 6, 3) := by decide +kernel
theorem d18_8 : decode (mB m18) 8 = .ok (.bipush (-8), 2) := by decide +kernel
theorem d18_10 : decode (mB m18) 10 = .ok (.ireturn, 1) := by decide +kernel
theorem d18_11 : decode (mB m18) 11 = .ok (.aload_n 0, 1) := by decide +kernel
theorem d18_12 : decode (mB m18) 12 = .ok (.iload_n 2, 1) := by decide +kernel
theorem d18_13 : decode (mB m18) 13 = .ok (.invokevirtual 138, 3) := by decide +kernel
theorem d18_16 : decode (mB m18) 16 = .ok (.ifCond .ne 6, 3) := by decide +kernel
theorem d18_19 : decode (mB m18) 19 = .ok (.bipush (-6), 2) := by decide +kernel
theorem d18_21 : decode (mB m18) 21 = .ok (.ireturn, 1) := by decide +kernel
theorem d18_22 : decode (mB m18) 22 = .ok (.aload_n 0, 1) := by decide +kernel
theorem d18_23 : decode (mB m18) 23 = .ok (.iload_n 1, 1) := by decide +kernel
theorem d18_24 : decode (mB m18) 24 = .ok (.iload_n 2, 1) := by decide +kernel
theorem d18_25 : decode (mB m18) 25 = .ok (.invokevirtual 98, 3) := by decide +kernel
theorem d18_28 : decode (mB m18) 28 = .ok (.ireturn, 1) := by decide +kernel
theorem d19_0 : decode (mB m19) 0 = .ok (.aload_n 0, 1) := by decide +kernel
theorem d19_1 : decode (mB m19) 1 = .ok (.iload_n 1, 1) := by decide +kernel
theorem d19_2 : decode (mB m19) 2 = .ok (.invokevirtual 135, 3) := by decide +kernel
theorem d19_5 : decode (mB m19) 5 = .ok (.ifCond .ne 6, 3) := by decide +kernel
theorem d19_8 : decode (mB m19) 8 = .ok (.bipush (-8), 2) := by decide +kernel
theorem d19_10 : decode (mB m19) 10 = .ok (.ireturn, 1) := by decide +kernel
theorem d19_11 : decode (mB m19) 11 = .ok (.aload_n 0, 1) := by decide +kernel
theorem d19_12 : decode (mB m19) 12 = .ok (.getfield 17, 3) := by decide +kernel
theorem d19_15 : decode (mB m19) 15 = .ok (.iload_n 1, 1) := by decide +kernel
theorem d19_16 : decode (mB m19) 16 = .ok (.iaload, 1) := by decide +kernel
theorem d19_17 : decode (mB m19) 17 = .ok (.ireturn, 1) := by decide +kernel
theorem d20_0 : decode (mB m20) 0 = .ok (.aload_n 0, 1) := by decide +kernel
theorem d20_1 : decode (mB m20) 1 = .ok (.getfield 144, 3) := by decide +kernel
theorem d20_4 : decode (mB m20) 4 = .ok (.ireturn, 1) := by decide +kernel
theorem d21_0 : decode (mB m21) 0 = .ok (.aload_n 0, 1) := by decide +kernel
theorem d21_1 : decode (mB m21) 1 = .ok (.getfield 125, 3) := by decide +kernel
theorem d21_4 : decode (mB m21) 4 = .ok (.aload_n 0, 1) := by decide +kernel
theorem d21_5 : decode (mB m21) 5 = .ok (.getfield 55, 3) := by decide +kernel
theorem d21_8 : decode (mB m21) 8 = .ok (.if_icmp .lt 7, 3) := by decide +kernel
theorem d21_11 : decode (mB m21) 11 = .ok (.iconst 1, 1) := by decide +kernel
theorem d21_12 : decode (mB m21) 12 = .ok (.goto 4, 3) := by decide +kernel
theorem d21_15 : decode (mB m21) 15 = .ok (.iconst 0, 1) := by decide +kernel
theorem d21_16 : decode (mB m21) 16 = .ok (.ireturn, 1) := by decide +kernel
theorem d22_0 : decode (mB m22) 0 = .ok (.aload_n 0, 1) := by decide +kernel
theorem d22_1 : decode (mB m22) 1 = .ok (.getfield 147, 3) := by decide +kernel
theorem d22_4 : decode (mB m22) 4 = .ok (.aload_n 0, 1) := by decide +kernel
theorem d22_5 : decode (mB m22) 5 = .ok (.getfield 48, 3) := by decide +kernel
theorem d22_8 : decode (mB m22) 8 = .ok (.if_icmp .ge 7, 3) := by decide +kernel
theorem d22_11 : decode (mB m22) 11 = .ok (.iconst 1, 1) := by decide +kernel
theorem d22_12 : decode (mB m22) 12 = .ok (.goto 4, 3) := by decide +kernel
theorem d22_15 : decode (mB m22) 15 = .ok (.iconst 0, 1) := by decide +kernel
theorem d22_16 : decode (mB m22) 16 = .ok (.ireturn, 1) := by decide +kernel
theorem d23_0 : decode (mB m23) 0 = .ok (.aload_n 0, 1) := by decide +kernel
theorem d23_1 : decode (mB m23) 1 = .ok (.getfield 144, 3) := by decide +kernel
theorem d23_4 : decode (mB m23) 4 = .ok (.aload_n 0, 1) := by decide +kernel
theorem d23_5 : decode (mB m23) 5 = .ok (.getfield 58, 3) := by decide +kernel
theorem d23_8 : decode (mB m23) 8 = .ok (.if_icmp .lt 7, 3) := by decide +kernel
theorem d23_11 : decode (mB m23) 11 = .ok (.iconst 1, 1) := by decide +kernel
theorem d23_12 : decode (mB m23) 12 = .ok (.goto 4, 3) := by decide +kernel
theorem d23_15 : decode (mB m23) 15 = .ok (.iconst 0, 1) := by decide +kernel
theorem d23_16 : decode (mB m23) 16 = .ok (.ireturn, 1) := by decide +kernel
theorem d24_0 : decode (mB m24) 0 = .ok (.aload_n 0, 1) := by decide +kernel
theorem d24_1 : decode (mB m24) 1 = .ok (.invokevirtual 153, 3) := by decide +kernel
theorem d24_4 : decode (mB m24) 4 = .ok (.ifCond .ne 5, 3) := by decide +kernel
theorem d24_7 : decode (mB m24) 7 = .ok (.iconst 1, 1) := by decide +kernel
theorem d24_8 : decode (mB m24) 8 = .ok (.ireturn, 1) := by decide +kernel
theorem d24_9 : decode (mB m24) 9 = .ok (.aload_n 0, 1) := by decide +kernel
theorem d24_10 : decode (mB m24) 10 = .ok (.invokevirtual 156, 3) := by decide +kernel
theorem d24_13 : decode (mB m24) 13 = .ok (.ireturn, 1) := by decide +kernel
theorem d25_0 : decode (mB m25) 0 = .ok (.iconst 0, 1) := by decide +kernel
theorem d25_1 : decode (mB m25) 1 = .ok (.istore_n 1, 1) := by decide +kernel
theorem d25_2 : decode (mB m25) 2 = .ok (.iload_n 1, 1) := by decide +kernel
theorem d25_3 : decode (mB m25) 3 = .ok (.bipush 64, 2) := by decide +kernel
theorem d25_5 : decode (mB m25) 5 = .ok (.if_icmp .ge 16, 3) := by decide +kernel
theorem d25_8 : decode (mB m25) 8 = .ok (.aload_n 0, 1) := by decide +kernel
theorem d25_9 : decode (mB m25) 9 = .ok (.getfield 32, 3) := by decide +kernel
theorem d25_12 : decode (mB m25) 12 = .ok (.iload_n 1, 1) := by decide +kernel
theorem d25_13 : decode (mB m25) 13 = .ok (.iconst 0, 1) := by decide +kernel
theorem d25_14 : decode (mB m25) 14 = .ok (.bastore, 1) := by decide +kernel
theorem d25_15 : decode (mB m25) 15 = .ok (.iinc 1 1, 3) := by decide +kernel
theorem d25_18 : decode (mB m25) 18 = .ok (.goto (-16), 3) := by decide +kernel
theorem d25_21 : decode (mB m25) 21 = .ok (.iconst 0, 1) := by decide +kernel
theorem d25_22 : decode (mB m25) 22 = .ok (.istore_n 1, 1) := by decide +kernel
theorem d25_23 : decode (mB m25) 23 = .ok (.iload_n 1, 1) := by decide +kernel
theorem d25_24 : decode (mB m25) 24 = .ok (.aload_n 0, 1) := by decide +kernel
theorem d25_25 : decode (mB m25) 25 = .ok (.getfield 125, 3) := by decide +kernel
theorem d25_28 : decode (mB m25) 28 = .ok (.if_icmp .ge 37, 3) := by decide +kernel
theorem d25_31 : decode (mB m25) 31 = .ok (.iload_n 1, 1) := by decide +kernel
theorem d25_32 : decode (mB m25) 32 = .ok (.bipush 16, 2) := by decide +kernel
theorem d25_34 : decode (mB m25) 34 = .ok (.if_icmp .ge 31, 3) := by decide +kernel
theorem d25_37 : decode (mB m25) 37 = .ok (.aload_n 0, 1) := by decide +kernel
theorem d25_38 : decode (mB m25) 38 = .ok (.getfield 20, 3) := by decide +kernel
theorem d25_41 : decode (mB m25) 41 = .ok (.iload_n 1, 1) := by decide +kernel
theorem d25_42 : decode (mB m25) 42 = .ok (.iaload, 1) := by decide +kernel
theorem d25_43 : decode (mB m25) 43 = .ok (.istore_n 2, 1) := by decide +kernel
theorem d25_44 : decode (mB m25) 44 = .ok (.aload_n 0, 1) := by decide +kernel
theorem d25_45 : decode (mB m25) 45 = .ok (.iload_n 2, 1) := by decide +kernel
theorem d25_46 : decode (mB m25) 46 = .ok (.invokevirtual 165, 3) := by decide +kernel
theorem d25_49 : decode (mB m25) 49 = .ok (.ifCond .eq 10, 3) := by decide +kernel
theorem d25_52 : decode (mB m25) 52 = .ok (.aload_n 0, 1) := by decide +kernel
theorem d25_53 : decode (mB m25) 53 = .ok (.getfield 32, 3) := by decide +kernel
theorem d25_56 : decode (mB m25) 56 = .ok (.iload_n 2, 1) := by decide +kernel
theorem d25_57 : decode (mB m25) 57 = .ok (.iconst 1, 1) := by decide +kernel
theorem d25_58 : decode (mB m25) 58 = .ok (.bastore, 1) := by decide +kernel
theorem d25_59 : decode (mB m25) 59 = .ok (.iinc 1 1, 3) := by decide +kernel
theorem d25_62 : decode (mB m25) 62 = .ok (.goto (-39), 3) := by decide +kernel
theorem d25_65 : decode (mB m25) 65 = .ok (.return_, 1) := by decide +kernel
theorem d26_0 : decode (mB m26) 0 = .ok (.iconst 0, 1) := by decide +kernel
theorem d26_1 : decode (mB m26) 1 = .ok (.istore_n 2, 1) := by decide +kernel
theorem d26_2 : decode (mB m26) 2 = .ok (.iload_n 2, 1) := by decide +kernel
theorem d26_3 : decode (mB m26) 3 = .ok (.aload_n 0, 1) := by decide +kernel
theorem d26_4 : decode (mB m26) 4 = .ok (.getfield 52, 3) := by decide +kernel
theorem d26_7 : decode (mB m26) 7 = .ok (.if_icmp .ge 38, 3) := by decide +kernel
theorem d26_10 : decode (mB m26) 10 = .ok (.aload_n 0, 1) := by decide +kernel
theorem d26_11 : decode (mB m26) 11 = .ok (.iload_n 1, 1) := by decide +kernel
theorem d26_12 : decode (mB m26) 12 = .ok (.iload_n 2, 1) := by decide +kernel
theorem d26_13 : decode (mB m26) 13 = .ok (.invokevirtual 98, 3) := by decide +kernel
theorem d26_16 : decode (mB m26) 16 = .ok (.istore_n 3, 1) := by decide +kernel
theorem d26_17 : decode (mB m26) 17 = .ok (.aload_n 0, 1) := by decide +kernel
theorem d26_18 : decode (mB m26) 18 = .ok (.iload_n 3, 1) := by decide +kernel
theorem d26_19 : decode (mB m26) 19 = .ok (.invokevirtual 135, 3) := by decide +kernel
theorem d26_22 : decode (mB m26) 22 = .ok (.ifCond .eq 17, 3) := by decide +kernel
theorem d26_25 : decode (mB m26) 25 = .ok (.aload_n 0, 1) := by decide +kernel
theorem d26_26 : decode (mB m26) 26 = .ok (.getfield 38, 3) := by decide +kernel
theorem d26_29 : decode (mB m26) 29 = .ok (.iload_n 3, 1) := by decide +kernel
theorem d26_30 : decode (mB m26) 30 = .ok (.aload_n 0, 1) := by decide +kernel
theorem d26_31 : decode (mB m26) 31 = .ok (.getfield 38, 3) := by decide +kernel
theorem d26_34 : decode (mB m26) 34 = .ok (.iload_n 3, 1) := by decide +kernel
theorem d26_35 : decode (mB m26) 35 = .ok (.iaload, 1) := by decide +kernel
theorem d26_36 : decode (mB m26) 36 = .ok (.iconst 1, 1) := by decide +kernel
theorem d26_37 : decode (mB m26) 37 = .ok (.iadd, 1) := by decide +kernel
theorem d26_38 : decode (mB m26) 38 = .ok (.iastore, 1) := by decide +kernel
theorem d26_39 : decode (mB m26) 39 = .ok (.iinc 2 1, 3) := by decide +kernel
theorem d26_42 : decode (mB m26) 42 = .ok (.goto (-40), 3) := by decide +kernel
theorem d26_45 : decode (mB m26) 45 = .ok (.return_, 1) := by decide +kernel
theorem d27_0 : decode (mB m27) 0 = .ok (.iconst 0, 1) := by decide +kernel
theorem d27_1 : decode (mB m27) 1 = .ok (.istore_n 1, 1) := by decide +kernel
theorem d27_2 : decode (mB m27) 2 = .ok (.iload_n 1, 1) := by decide +kernel
theorem d27_3 : decode (mB m27) 3 = .ok (.bipush 64, 2) := by decide +kernel
theorem d27_5 : decode (mB m27) 5 = .ok (.if_icmp .ge 51, 3) := by decide +kernel
theorem d27_8 : decode (mB m27) 8 = .ok (.aload_n 0, 1) := by decide +kernel
theorem d27_9 : decode (mB m27) 9 = .ok (.getfield 38, 3) := by decide +kernel
theorem d27_12 : decode (mB m27) 12 = .ok (.iload_n 1, 1) := by decide +kernel
theorem d27_13 : decode (mB m27) 13 = .ok (.iconst 0, 1) := by decide +kernel
theorem d27_14 : decode (mB m27) 14 = .ok (.iastore, 1) := by decide +kernel
theorem d27_15 : decode (mB m27) 15 = .ok (.aload_n 0, 1) := by decide +kernel
theorem d27_16 : decode (mB m27) 16 = .ok (.getfield 35, 3) := by decide +kernel
theorem d27_19 : decode (mB m27) 19 = .ok (.iload_n 1, 1) := by decide +kernel
theorem d27_20 : decode (mB m27) 20 = .ok (.iconst 0, 1) := by decide +kernel
theorem d27_21 : decode (mB m27) 21 = .ok (.bastore, 1) := by decide +kernel
theorem d27_22 : decode (mB m27) 22 = .ok (.aload_n 0, 1) := by decide +kernel
theorem d27_23 : decode (mB m27) 23 = .ok (.getfield 29, 3) := by decide +kernel
theorem d27_26 : decode (mB m27) 26 = .ok (.iload_n 1, 1) := by decide +kernel
theorem d27_27 : decode (mB m27) 27 = .ok (.iload_n 1, 1) := by decide +kernel
theorem d27_28 : decode (mB m27) 28 = .ok (.aload_n 0, 1) := by decide +kernel
theorem d27_29 : decode (mB m27) 29 = .ok (.getfield 48, 3) := by decide +kernel
theorem d27_32 : decode (mB m27) 32 = .ok (.if_icmp .ge 16, 3) := by decide +kernel
theorem d27_35 : decode (mB m27) 35 = .ok (.aload_n 0, 1) := by decide +kernel
theorem d27_36 : decode (mB m27) 36 = .ok (.getfield 7, 3) := by decide +kernel
theorem d27_39 : decode (mB m27) 39 = .ok (.iload_n 1, 1) := by decide +kernel
theorem d27_40 : decode (mB m27) 40 = .ok (.baload, 1) := by decide +kernel
theorem d27_41 : decode (mB m27) 41 = .ok (.ifCond .eq 7, 3) := by decide +kernel
theorem d27_44 : decode (mB m27) 44 = .ok (.iconst 1, 1) := by decide +kernel
theorem d27_45 : decode (mB m27) 45 = .ok (.goto 4, 3) := by decide +kernel
theorem d27_48 : decode (mB m27) 48 = .ok (.iconst 0, 1) := by decide +kernel
theorem d27_49 : decode (mB m27) 49 = .ok (.bastore, 1) := by decide +kernel
theorem d27_50 : decode (mB m27) 50 = .ok (.iinc 1 1, 3) := by decide +kernel
theorem d27_53 : decode (mB m27) 53 = .ok (.goto (-51), 3) := by decide +kernel
theorem d27_56 : decode (mB m27) 56 = .ok (.iconst 0, 1) := by decide +kernel
theorem d27_57 : decode (mB m27) 57 = .ok (.istore_n 1, 1) := by decide +kernel
theorem d27_58 : decode (mB m27) 58 = .ok (.iload_n 1, 1) := by decide +kernel
theorem d27_59 : decode (mB m27) 59 = .ok (.aload_n 0, 1) := by decide +kernel
theorem d27_60 : decode (mB m27) 60 = .ok (.getfield 48, 3) := by decide +kernel
theorem d27_63 : decode (mB m27) 63 = .ok (.if_icmp .ge 23, 3) := by decide +kernel
theorem d27_66 : decode (mB m27) 66 = .ok (.aload_n 0, 1) := by decide +kernel
theorem d27_67 : decode (mB m27) 67 = .ok (.getfield 7, 3) := by decide +kernel
theorem d27_70 : decode (mB m27) 70 = .ok (.iload_n 1, 1) := by decide +kernel
theorem d27_71 : decode (mB m27) 71 = .ok (.baload, 1) := by decide +kernel
theorem d27_72 : decode (mB m27) 72 = .ok (.ifCond .eq 8, 3) := by decide +kernel
theorem d27_75 : decode (mB m27) 75 = .ok (.aload_n 0, 1) := by decide +kernel
theorem d27_76 : decode (mB m27) 76 = .ok (.iload_n 1, 1) := by decide +kernel
theorem d27_77 : decode (mB m27) 77 = .ok (.invokevirtual 198, 3) := by decide +kernel
theorem d27_80 : decode (mB m27) 80 = .ok (.iinc 1 1, 3) := by decide +kernel
theorem d27_83 : decode (mB m27) 83 = .ok (.goto (-25), 3) := by decide +kernel
theorem d27_86 : decode (mB m27) 86 = .ok (.return_, 1) := by decide +kernel
theorem d28_0 : decode (mB m28) 0 = .ok (.aload_n 0, 1) := by decide +kernel
theorem d28_1 : decode (mB m28) 1 = .ok (.iload_n 1, 1) := by decide +kernel
theorem d28_2 : decode (mB m28) 2 = .ok (.invokevirtual 165, 3) := by decide +kernel
theorem d28_5 : decode (mB m28) 5 = .ok (.ifCond .ne 5, 3) := by decide +kernel
theorem d28_8 : decode (mB m28) 8 = .ok (.iconst 0, 1) := by decide +kernel
theorem d28_9 : decode (mB m28) 9 = .ok (.ireturn, 1) := by decide +kernel
theorem d28_10 : decode (mB m28) 10 = .ok (.aload_n 0, 1) := by decide +kernel
theorem d28_11 : decode (mB m28) 11 = .ok (.getfield 29, 3) := by decide +kernel
theorem d28_14 : decode (mB m28) 14 = .ok (.iload_n 1, 1) := by decide +kernel
theorem d28_15 : decode (mB m28) 15 = .ok (.baload, 1) := by decide +kernel
theorem d28_16 : decode (mB m28) 16 = .ok (.ifCond .ne 5, 3) := by decide +kernel
theorem d28_19 : decode (mB m28) 19 = .ok (.iconst 0, 1) := by decide +kernel
theorem d28_20 : decode (mB m28) 20 = .ok (.ireturn, 1) := by decide +kernel
theorem d28_21 : decode (mB m28) 21 = .ok (.aload_n 0, 1) := by decide +kernel
theorem d28_22 : decode (mB m28) 22 = .ok (.getfield 32, 3) := by decide +kernel
theorem d28_25 : decode (mB m28) 25 = .ok (.iload_n 1, 1) := by decide +kernel
theorem d28_26 : decode (mB m28) 26 = .ok (.baload, 1) := by decide +kernel
theorem d28_27 : decode (mB m28) 27 = .ok (.ifCond .eq 5, 3) := by decide +kernel
theorem d28_30 : decode (mB m28) 30 = .ok (.iconst 0, 1) := by decide +kernel
theorem d28_31 : decode (mB m28) 31 = .ok (.ireturn, 1) := by decide +kernel
theorem d28_32 : decode (mB m28) 32 = .ok (.aload_n 0, 1) := by decide +kernel
theorem d28_33 : decode (mB m28) 33 = .ok (.getfield 35, 3) := by decide +kernel
theorem d28_36 : decode (mB m28) 36 = .ok (.iload_n 1, 1) := by decide +kernel
theorem d28_37 : decode (mB m28) 37 = .ok (.baload, 1) := by decide +kernel
theorem d28_38 : decode (mB m28) 38 = .ok (.ifCond .eq 5, 3) := by decide +kernel
theorem d28_41 : decode (mB m28) 41 = .ok (.iconst 0, 1) := by decide +kernel
theorem d28_42 : decode (mB m28) 42 = .ok (.ireturn, 1) := by decide +kernel
theorem d28_43 : decode (mB m28) 43 = .ok (.aload_n 0, 1) := by decide +kernel
theorem d28_44 : decode (mB m28) 44 = .ok (.getfield 38, 3) := by decide +kernel
theorem d28_47 : decode (mB m28) 47 = .ok (.iload_n 1, 1) := by decide +kernel
theorem d28_48 : decode (mB m28) 48 = .ok (.iaload, 1) := by decide +kernel
theorem d28_49 : decode (mB m28) 49 = .ok (.ifCond .ne 7, 3) := by decide +kernel
theorem d28_52 : decode (mB m28) 52 = .ok (.iconst 1, 1) := by decide +kernel
theorem d28_53 : decode (mB m28) 53 = .ok (.goto 4, 3) := by decide +kernel
theorem d28_56 : decode (mB m28) 56 = .ok (.iconst 0, 1) := by decide +kernel
theorem d28_57 : decode (mB m28) 57 = .ok (.ireturn, 1) := by decide +kernel
theorem d29_0 : decode (mB m29) 0 = .ok (.aload_n 0, 1) := by decide +kernel
theorem d29_1 : decode (mB m29) 1 = .ok (.getfield 201, 3) := by decide +kernel
theorem d29_4 : decode (mB m29) 4 = .ok (.bipush 64, 2) := by decide +kernel
theorem d29_6 : decode (mB m29) 6 = .ok (.if_icmp .lt 4, 3) := by decide +kernel
theorem d29_9 : decode (mB m29) 9 = .ok (.return_, 1) := by decide +kernel
theorem d29_10 : decode (mB m29) 10 = .ok (.aload_n 0, 1) := by decide +kernel
theorem d29_11 : decode (mB m29) 11 = .ok (.getfield 41, 3) := by decide +kernel
theorem d29_14 : decode (mB m29) 14 = .ok (.aload_n 0, 1) := by decide +kernel
theorem d29_15 : decode (mB m29) 15 = .ok (.getfield 201, 3) := by decide +kernel
theorem d29_18 : decode (mB m29) 18 = .ok (.iload_n 1, 1) := by decide +kernel
theorem d29_19 : decode (mB m29) 19 = .ok (.iastore, 1) := by decide +kernel
theorem d29_20 : decode (mB m29) 20 = .ok (.aload_n 0, 1) := by decide +kernel
theorem d29_21 : decode (mB m29) 21 = .ok (.aload_n 0, 1) := by decide +kernel
theorem d29_22 : decode (mB m29) 22 = .ok (.getfield 201, 3) := by decide +kernel
theorem d29_25 : decode (mB m29) 25 = .ok (.iconst 1, 1) := by decide +kernel
theorem d29_26 : decode (mB m29) 26 = .ok (.iadd, 1) := by decide +kernel
theorem d29_27 : decode (mB m29) 27 = .ok (.putfield 201, 3) := by decide +kernel
theorem d29_30 : decode (mB m29) 30 = .ok (.aload_n 0, 1) := by decide +kernel
theorem d29_31 : decode (mB m29) 31 = .ok (.getfield 35, 3) := by decide +kernel
theorem d29_34 : decode (mB m29) 34 = .ok (.iload_n 1, 1) := by decide +kernel
theorem d29_35 : decode (mB m29) 35 = .ok (.iconst 1, 1) := by decide +kernel
theorem d29_36 : decode (mB m29) 36 = .ok (.bastore, 1) := by decide +kernel
theorem d29_37 : decode (mB m29) 37 = .ok (.return_, 1) := by decide +kernel
theorem d30_0 : decode (mB m30) 0 = .ok (.aload_n 0, 1) := by decide +kernel
theorem d30_1 : decode (mB m30) 1 = .ok (.iconst 0, 1) := by decide +kernel
theorem d30_2 : decode (mB m30) 2 = .ok (.putfield 201, 3) := by decide +kernel
theorem d30_5 : decode (mB m30) 5 = .ok (.iconst 0, 1) := by decide +kernel
theorem d30_6 : decode (mB m30) 6 = .ok (.istore_n 1, 1) := by decide +kernel
theorem d30_7 : decode (mB m30) 7 = .ok (.iload_n 1, 1) := by decide +kernel
theorem d30_8 : decode (mB m30) 8 = .ok (.aload_n 0, 1) := by decide +kernel
theorem d30_9 : decode (mB m30) 9 = .ok (.getfield 48, 3) := by decide +kernel
theorem d30_12 : decode (mB m30) 12 = .ok (.if_icmp .ge 22, 3) := by decide +kernel
theorem d30_15 : decode (mB m30) 15 = .ok (.aload_n 0, 1) := by decide +kernel
theorem d30_16 : decode (mB m30) 16 = .ok (.iload_n 1, 1) := by decide +kernel
theorem d30_17 : decode (mB m30) 17 = .ok (.invokevirtual 204, 3) := by decide +kernel
theorem d30_20 : decode (mB m30) 20 = .ok (.ifCond .eq 8, 3) := by decide +kernel
theorem d30_23 : decode (mB m30) 23 = .ok (.aload_n 0, 1) := by decide +kernel
theorem d30_24 : decode (mB m30) 24 = .ok (.iload_n 1, 1) := by decide +kernel
theorem d30_25 : decode (mB m30) 25 = .ok (.invokevirtual 207, 3) := by decide +kernel
theorem d30_28 : decode (mB m30) 28 = .ok (.iinc 1 1, 3) := by decide +kernel
theorem d30_31 : decode (mB m30) 31 = .ok (.goto (-24), 3) := by decide +kernel
theorem d30_34 : decode (mB m30) 34 = .ok (.return_, 1) := by decide +kernel
theorem d31_0 : decode (mB m31) 0 = .ok (.iconst 0, 1) := by decide +kernel
theorem d31_1 : decode (mB m31) 1 = .ok (.istore_n 2, 1) := by decide +kernel
theorem d31_2 : decode (mB m31) 2 = .ok (.iload_n 2, 1) := by decide +kernel
theorem d31_3 : decode (mB m31) 3 = .ok (.aload_n 0, 1) := by decide +kernel
theorem d31_4 : decode (mB m31) 4 = .ok (.getfield 52, 3) := by decide +kernel
theorem d31_7 : decode (mB m31) 7 = .ok (.if_icmp .ge 60, 3) := by decide +kernel
theorem d31_10 : decode (mB m31) 10 = .ok (.aload_n 0, 1) := by decide +kernel
theorem d31_11 : decode (mB m31) 11 = .ok (.iload_n 1, 1) := by decide +kernel
theorem d31_12 : decode (mB m31) 12 = .ok (.iload_n 2, 1) := by decide +kernel
theorem d31_13 : decode (mB m31) 13 = .ok (.invokevirtual 98, 3) := by decide +kernel
theorem d31_16 : decode (mB m31) 16 = .ok (.istore_n 3, 1) := by decide +kernel
theorem d31_17 : decode (mB m31) 17 = .ok (.aload_n 0, 1) := by decide +kernel
theorem d31_18 : decode (mB m31) 18 = .ok (.iload_n 3, 1) := by decide +kernel
theorem d31_19 : decode (mB m31) 19 = .ok (.invokevirtual 135, 3) := by decide +kernel
theorem d31_22 : decode (mB m31) 22 = .ok (.ifCond .eq 39, 3) := by decide +kernel
theorem d31_25 : decode (mB m31) 25 = .ok (.aload_n 0, 1) := by decide +kernel
theorem d31_26 : decode (mB m31) 26 = .ok (.getfield 38, 3) := by decide +kernel
theorem d31_29 : decode (mB m31) 29 = .ok (.iload_n 3, 1) := by decide +kernel
theorem d31_30 : decode (mB m31) 30 = .ok (.iaload, 1) := by decide +kernel
theorem d31_31 : decode (mB m31) 31 = .ok (.ifCond .le 30, 3) := by decide +kernel
theorem d31_34 : decode (mB m31) 34 = .ok (.aload_n 0, 1) := by decide +kernel
theorem d31_35 : decode (mB m31) 35 = .ok (.getfield 38, 3) := by decide +kernel
theorem d31_38 : decode (mB m31) 38 = .ok (.iload_n 3, 1) := by decide +kernel
theorem d31_39 : decode (mB m31) 39 = .ok (.aload_n 0, 1) := by decide +kernel
theorem d31_40 : decode (mB m31) 40 = .ok (.getfield 38, 3) := by decide +kernel
theorem d31_43 : decode (mB m31) 43 = .ok (.iload_n 3, 1) := by decide +kernel
theorem d31_44 : decode (mB m31) 44 = .ok (.iaload, 1) := by decide +kernel
theorem d31_45 : decode (mB m31) 45 = .ok (.iconst 1, 1) := by decide +kernel
theorem d31_46 : decode (mB m31) 46 = .ok (.isub, 1) := by decide +kernel
theorem d31_47 : decode (mB m31) 47 = .ok (.iastore, 1) := by decide +kernel
theorem d31_48 : decode (mB m31) 48 = .ok (.aload_n 0, 1) := by decide +kernel
theorem d31_49 : decode (mB m31) 49 = .ok (.iload_n 3, 1) := by decide +kernel
theorem d31_50 : decode (mB m31) 50 = .ok (.invokevirtual 204, 3) := by decide +kernel
theorem d31_53 : decode (mB m31) 53 = .ok (.ifCond .eq 8, 3) := by decide +kernel
theorem d31_56 : decode (mB m31) 56 = .ok (.aload_n 0, 1) := by decide +kernel
theorem d31_57 : decode (mB m31) 57 = .ok (.iload_n 3, 1) := by decide +kernel
theorem d31_58 : decode (mB m31) 58 = .ok (.invokevirtual 207, 3) := by decide +kernel
theorem d31_61 : decode (mB m31) 61 = .ok (.iinc 2 1, 3) := by decide +kernel
theorem d31_64 : decode (mB m31) 64 = .ok (.goto (-62), 3) := by decide +kernel
theorem d31_67 : decode (mB m31) 67 = .ok (.return_, 1) := by decide +kernel
theorem d32_0 : decode (mB m32) 0 = .ok (.iconst 0, 1) := by decide +kernel
theorem d32_1 : decode (mB m32) 1 = .ok (.istore_n 1, 1) := by decide +kernel
theorem d32_2 : decode (mB m32) 2 = .ok (.iload_n 1, 1) := by decide +kernel
theorem d32_3 : decode (mB m32) 3 = .ok (.bipush 64, 2) := by decide +kernel
theorem d32_5 : decode (mB m32) 5 = .ok (.if_icmp .gt 56, 3) := by decide +kernel
theorem d32_8 : decode (mB m32) 8 = .ok (.aload_n 0, 1) := by decide +kernel
theorem d32_9 : decode (mB m32) 9 = .ok (.getfield 201, 3) := by decide +kernel
theorem d32_12 : decode (mB m32) 12 = .ok (.ifCond .le 49, 3) := by decide +kernel
theorem d32_15 : decode (mB m32) 15 = .ok (.aload_n 0, 1) := by decide +kernel
theorem d32_16 : decode (mB m32) 16 = .ok (.aload_n 0, 1) := by decide +kernel
theorem d32_17 : decode (mB m32) 17 = .ok (.getfield 201, 3) := by decide +kernel
theorem d32_20 : decode (mB m32) 20 = .ok (.iconst 1, 1) := by decide +kernel
theorem d32_21 : decode (mB m32) 21 = .ok (.isub, 1) := by decide +kernel
theorem d32_22 : decode (mB m32) 22 = .ok (.putfield 201, 3) := by decide +kernel
theorem d32_25 : decode (mB m32) 25 = .ok (.aload_n 0, 1) := by decide +kernel
theorem d32_26 : decode (mB m32) 26 = .ok (.getfield 41, 3) := by decide +kernel
theorem d32_29 : decode (mB m32) 29 = .ok (.aload_n 0, 1) := by decide +kernel
theorem d32_30 : decode (mB m32) 30 = .ok (.getfield 201, 3) := by decide +kernel
theorem d32_33 : decode (mB m32) 33 = .ok (.iaload, 1) := by decide +kernel
theorem d32_34 : decode (mB m32) 34 = .ok (.istore_n 2, 1) := by decide +kernel
theorem d32_35 : decode (mB m32) 35 = .ok (.aload_n 0, 1) := by decide +kernel
theorem d32_36 : decode (mB m32) 36 = .ok (.iload_n 2, 1) := by decide +kernel
theorem d32_37 : decode (mB m32) 37 = .ok (.invokevirtual 165, 3) := by decide +kernel
theorem d32_40 : decode (mB m32) 40 = .ok (.ifCond .eq 15, 3) := by decide +kernel
theorem d32_43 : decode (mB m32) 43 = .ok (.aload_n 0, 1) := by decide +kernel
theorem d32_44 : decode (mB m32) 44 = .ok (.getfield 29, 3) := by decide +kernel
theorem d32_47 : decode (mB m32) 47 = .ok (.iload_n 2, 1) := by decide +kernel
theorem d32_48 : decode (mB m32) 48 = .ok (.iconst 0, 1) := by decide +kernel
theorem d32_49 : decode (mB m32) 49 = .ok (.bastore, 1) := by decide +kernel
theorem d32_50 : decode (mB m32) 50 = .ok (.aload_n 0, 1) := by decide +kernel
theorem d32_51 : decode (mB m32) 51 = .ok (.iload_n 2, 1) := by decide +kernel
theorem d32_52 : decode (mB m32) 52 = .ok (.invokevirtual 210, 3) := by decide +kernel
theorem d32_55 : decode (mB m32) 55 = .ok (.iinc 1 1, 3) := by decide +kernel
theorem d32_58 : decode (mB m32) 58 = .ok (.goto (-56), 3) := by decide +kernel
theorem d32_61 : decode (mB m32) 61 = .ok (.aload_n 0, 1) := by decide +kernel
theorem d32_62 : decode (mB m32) 62 = .ok (.iconst 0, 1) := by decide +kernel
theorem d32_63 : decode (mB m32) 63 = .ok (.putfield 201, 3) := by decide +kernel
theorem d32_66 : decode (mB m32) 66 = .ok (.return_, 1) := by decide +kernel
theorem d33_0 : decode (mB m33) 0 = .ok (.aload_n 0, 1) := by decide +kernel
theorem d33_1 : decode (mB m33) 1 = .ok (.iload_n 1, 1) := by decide +kernel
theorem d33_2 : decode (mB m33) 2 = .ok (.invokevirtual 165, 3) := by decide +kernel
theorem d33_5 : decode (mB m33) 5 = .ok (.ifCond .ne 4, 3) := by decide +kernel
theorem d33_8 : decode (mB m33) 8 = .ok (.return_, 1) := by decide +kernel
theorem d33_9 : decode (mB m33) 9 = .ok (.aload_n 0, 1) := by decide +kernel
theorem d33_10 : decode (mB m33) 10 = .ok (.getfield 7, 3) := by decide +kernel
theorem d33_13 : decode (mB m33) 13 = .ok (.iload_n 1, 1) := by decide +kernel
theorem d33_14 : decode (mB m33) 14 = .ok (.baload, 1) := by decide +kernel
theorem d33_15 : decode (mB m33) 15 = .ok (.ifCond .ne 4, 3) := by decide +kernel
theorem d33_18 : decode (mB m33) 18 = .ok (.return_, 1) := by decide +kernel
theorem d33_19 : decode (mB m33) 19 = .ok (.aload_n 0, 1) := by decide +kernel
theorem d33_20 : decode (mB m33) 20 = .ok (.getfield 7, 3) := by decide +kernel
theorem d33_23 : decode (mB m33) 23 = .ok (.iload_n 1, 1) := by decide +kernel
theorem d33_24 : decode (mB m33) 24 = .ok (.iconst 0, 1) := by decide +kernel
theorem d33_25 : decode (mB m33) 25 = .ok (.bastore, 1) := by decide +kernel
theorem d33_26 : decode (mB m33) 26 = .ok (.aload_n 0, 1) := by decide +kernel
theorem d33_27 : decode (mB m33) 27 = .ok (.iload_n 1, 1) := by decide +kernel
theorem d33_28 : decode (mB m33) 28 = .ok (.invokevirtual 219, 3) := by decide +kernel
theorem d33_31 : decode (mB m33) 31 = .ok (.aload_n 0, 1) := by decide +kernel
theorem d33_32 : decode (mB m33) 32 = .ok (.getfield 17, 3) := by decide +kernel
theorem d33_35 : decode (mB m33) 35 = .ok (.iload_n 1, 1) := by decide +kernel
theorem d33_36 : decode (mB m33) 36 = .ok (.iconst 0, 1) := by decide +kernel
theorem d33_37 : decode (mB m33) 37 = .ok (.iastore, 1) := by decide +kernel
theorem d33_38 : decode (mB m33) 38 = .ok (.aload_n 0, 1) := by decide +kernel
theorem d33_39 : decode (mB m33) 39 = .ok (.aload_n 0, 1) := by decide +kernel
theorem d33_40 : decode (mB m33) 40 = .ok (.getfield 147, 3) := by decide +kernel
theorem d33_43 : decode (mB m33) 43 = .ok (.iconst 1, 1) := by decide +kernel
theorem d33_44 : decode (mB m33) 44 = .ok (.isub, 1) := by decide +kernel
theorem d33_45 : decode (mB m33) 45 = .ok (.putfield 147, 3) := by decide +kernel
theorem d33_48 : decode (mB m33) 48 = .ok (.return_, 1) := by decide +kernel
theorem d34_0 : decode (mB m34) 0 = .ok (.iconst 0, 1) := by decide +kernel
theorem d34_1 : decode (mB m34) 1 = .ok (.istore_n 1, 1) := by decide +kernel
theorem d34_2 : decode (mB m34) 2 = .ok (.iconst 0, 1) := by decide +kernel
theorem d34_3 : decode (mB m34) 3 = .ok (.istore_n 2, 1) := by decide +kernel
theorem d34_4 : decode (mB m34) 4 = .ok (.iload_n 2, 1) := by decide +kernel
theorem d34_5 : decode (mB m34) 5 = .ok (.aload_n 0, 1) := by decide +kernel
theorem d34_6 : decode (mB m34) 6 = .ok (.getfield 48, 3) := by decide +kernel
theorem d34_9 : decode (mB m34) 9 = .ok (.if_icmp .ge 36, 3) := by decide +kernel
theorem d34_12 : decode (mB m34) 12 = .ok (.aload_n 0, 1) := by decide +kernel
theorem d34_13 : decode (mB m34) 13 = .ok (.getfield 7, 3) := by decide +kernel
theorem d34_16 : decode (mB m34) 16 = .ok (.iload_n 2, 1) := by decide +kernel
theorem d34_17 : decode (mB m34) 17 = .ok (.baload, 1) := by decide +kernel
theorem d34_18 : decode (mB m34) 18 = .ok (.ifCond .eq 21, 3) := by decide +kernel
theorem d34_21 : decode (mB m34) 21 = .ok (.aload_n 0, 1) := by decide +kernel
theorem d34_22 : decode (mB m34) 22 = .ok (.getfield 29, 3) := by decide +kernel
theorem d34_25 : decode (mB m34) 25 = .ok (.iload_n 2, 1) := by decide +kernel
theorem d34_26 : decode (mB m34) 26 = .ok (.baload, 1) := by decide +kernel
theorem d34_27 : decode (mB m34) 27 = .ok (.ifCond .ne 12, 3) := by decide +kernel
theorem d34_30 : decode (mB m34) 30 = .ok (.aload_n 0, 1) := by decide +kernel
theorem d34_31 : decode (mB m34) 31 = .ok (.iload_n 2, 1) := by decide +kernel
theorem d34_32 : decode (mB m34) 32 = .ok (.invokevirtual 213, 3) := by decide +kernel
theorem d34_35 : decode (mB m34) 35 = .ok (.iload_n 1, 1) := by decide +kernel
theorem d34_36 : decode (mB m34) 36 = .ok (.iconst 1, 1) := by decide +kernel
theorem d34_37 : decode (mB m34) 37 = .ok (.iadd, 1) := by decide +kernel
theorem d34_38 : decode (mB m34) 38 = .ok (.istore_n 1, 1) := by decide +kernel
theorem d34_39 : decode (mB m34) 39 = .ok (.iinc 2 1, 3) := by decide +kernel
theorem d34_42 : decode (mB m34) 42 = .ok (.goto (-38), 3) := by decide +kernel
theorem d34_45 : decode (mB m34) 45 = .ok (.iload_n 1, 1) := by decide +kernel
theorem d34_46 : decode (mB m34) 46 = .ok (.ireturn, 1) := by decide +kernel
theorem d35_0 : decode (mB m35) 0 = .ok (.aload_n 0, 1) := by decide +kernel
theorem d35_1 : decode (mB m35) 1 = .ok (.iload_n 1, 1) := by decide +kernel
theorem d35_2 : decode (mB m35) 2 = .ok (.invokevirtual 165, 3) := by decide +kernel
theorem d35_5 : decode (mB m35) 5 = .ok (.ifCond .eq 17, 3) := by decide +kernel
theorem d35_8 : decode (mB m35) 8 = .ok (.aload_n 0, 1) := by decide +kernel
theorem d35_9 : decode (mB m35) 9 = .ok (.getfield 17, 3) := by decide +kernel
theorem d35_12 : decode (mB m35) 12 = .ok (.iload_n 1, 1) := by decide +kernel
theorem d35_13 : decode (mB m35) 13 = .ok (.aload_n 0, 1) := by decide +kernel
theorem d35_14 : decode (mB m35) 14 = .ok (.getfield 17, 3) := by decide +kernel
theorem d35_17 : decode (mB m35) 17 = .ok (.iload_n 1, 1) := by decide +kernel
theorem d35_18 : decode (mB m35) 18 = .ok (.iaload, 1) := by decide +kernel
theorem d35_19 : decode (mB m35) 19 = .ok (.iconst 1, 1) := by decide +kernel
theorem d35_20 : decode (mB m35) 20 = .ok (.iadd, 1) := by decide +kernel
theorem d35_21 : decode (mB m35) 21 = .ok (.iastore, 1) := by decide +kernel
theorem d35_22 : decode (mB m35) 22 = .ok (.return_, 1) := by decide +kernel
theorem d36_0 : decode (mB m36) 0 = .ok (.iconst 0, 1) := by decide +kernel
theorem d36_1 : decode (mB m36) 1 = .ok (.istore_n 2, 1) := by decide +kernel
theorem d36_2 : decode (mB m36) 2 = .ok (.iload_n 2, 1) := by decide +kernel
theorem d36_3 : decode (mB m36) 3 = .ok (.aload_n 0, 1) := by decide +kernel
theorem d36_4 : decode (mB m36) 4 = .ok (.getfield 52, 3) := by decide +kernel
theorem d36_7 : decode (mB m36) 7 = .ok (.if_icmp .ge 29, 3) := by decide +kernel
theorem d36_10 : decode (mB m36) 10 = .ok (.aload_n 0, 1) := by decide +kernel
theorem d36_11 : decode (mB m36) 11 = .ok (.iload_n 1, 1) := by decide +kernel
theorem d36_12 : decode (mB m36) 12 = .ok (.iload_n 2, 1) := by decide +kernel
theorem d36_13 : decode (mB m36) 13 = .ok (.invokevirtual 98, 3) := by decide +kernel
theorem d36_16 : decode (mB m36) 16 = .ok (.istore_n 3, 1) := by decide +kernel
theorem d36_17 : decode (mB m36) 17 = .ok (.aload_n 0, 1) := by decide +kernel
theorem d36_18 : decode (mB m36) 18 = .ok (.iload_n 3, 1) := by decide +kernel
theorem d36_19 : decode (mB m36) 19 = .ok (.invokevirtual 135, 3) := by decide +kernel
theorem d36_22 : decode (mB m36) 22 = .ok (.ifCond .eq 8, 3) := by decide +kernel
theorem d36_25 : decode (mB m36) 25 = .ok (.aload_n 0, 1) := by decide +kernel
theorem d36_26 : decode (mB m36) 26 = .ok (.iload_n 3, 1) := by decide +kernel
theorem d36_27 : decode (mB m36) 27 = .ok (.invokevirtual 171, 3) := by decide +kernel
theorem d36_30 : decode (mB m36) 30 = .ok (.iinc 2 1, 3) := by decide +kernel
theorem d36_33 : decode (mB m36) 33 = .ok (.goto (-31), 3) := by decide +kernel
theorem d36_36 : decode (mB m36) 36 = .ok (.return_, 1) := by decide +kernel
theorem d37_0 : decode (mB m37) 0 = .ok (.iconst 0, 1) := by decide +kernel
theorem d37_1 : decode (mB m37) 1 = .ok (.istore_n 1, 1) := by decide +kernel
theorem d37_2 : decode (mB m37) 2 = .ok (.iload_n 1, 1) := by decide +kernel
theorem d37_3 : decode (mB m37) 3 = .ok (.bipush 64, 2) := by decide +kernel
theorem d37_5 : decode (mB m37) 5 = .ok (.if_icmp .ge 16, 3) := by decide +kernel
theorem d37_8 : decode (mB m37) 8 = .ok (.aload_n 0, 1) := by decide +kernel
theorem d37_9 : decode (mB m37) 9 = .ok (.getfield 17, 3) := by decide +kernel
theorem d37_12 : decode (mB m37) 12 = .ok (.iload_n 1, 1) := by decide +kernel
theorem d37_13 : decode (mB m37) 13 = .ok (.iconst 0, 1) := by decide +kernel
theorem d37_14 : decode (mB m37) 14 = .ok (.iastore, 1) := by decide +kernel
theorem d37_15 : decode (mB m37) 15 = .ok (.iinc 1 1, 3) := by decide +kernel
theorem d37_18 : decode (mB m37) 18 = .ok (.goto (-16), 3) := by decide +kernel
theorem d37_21 : decode (mB m37) 21 = .ok (.iconst 0, 1) := by decide +kernel
theorem d37_22 : decode (mB m37) 22 = .ok (.istore_n 1, 1) := by decide +kernel
theorem d37_23 : decode (mB m37) 23 = .ok (.iload_n 1, 1) := by decide +kernel
theorem d37_24 : decode (mB m37) 24 = .ok (.aload_n 0, 1) := by decide +kernel
theorem d37_25 : decode (mB m37) 25 = .ok (.getfield 48, 3) := by decide +kernel
theorem d37_28 : decode (mB m37) 28 = .ok (.if_icmp .ge 23, 3) := by decide +kernel
theorem d37_31 : decode (mB m37) 31 = .ok (.aload_n 0, 1) := by decide +kernel
theorem d37_32 : decode (mB m37) 32 = .ok (.getfield 7, 3) := by decide +kernel
theorem d37_35 : decode (mB m37) 35 = .ok (.iload_n 1, 1) := by decide +kernel
theorem d37_36 : decode (mB m37) 36 = .ok (.baload, 1) := by decide +kernel
theorem d37_37 : decode (mB m37) 37 = .ok (.ifCond .eq 8, 3) := by decide +kernel
theorem d37_40 : decode (mB m37) 40 = .ok (.aload_n 0, 1) := by decide +kernel
theorem d37_41 : decode (mB m37) 41 = .ok (.iload_n 1, 1) := by decide +kernel
theorem d37_42 : decode (mB m37) 42 = .ok (.invokevirtual 216, 3) := by decide +kernel
theorem d37_45 : decode (mB m37) 45 = .ok (.iinc 1 1, 3) := by decide +kernel
theorem d37_48 : decode (mB m37) 48 = .ok (.goto (-25), 3) := by decide +kernel
theorem d37_51 : decode (mB m37) 51 = .ok (.return_, 1) := by decide +kernel
theorem d38_0 : decode (mB m38) 0 = .ok (.aload_n 0, 1) := by decide +kernel
theorem d38_1 : decode (mB m38) 1 = .ok (.iload_n 1, 1) := by decide +kernel
theorem d38_2 : decode (mB m38) 2 = .ok (.invokevirtual 165, 3) := by decide +kernel
theorem d38_5 : decode (mB m38) 5 = .ok (.ifCond .ne 5, 3) := by decide +kernel
theorem d38_8 : decode (mB m38) 8 = .ok (.iconst 0, 1) := by decide +kernel
theorem d38_9 : decode (mB m38) 9 = .ok (.ireturn, 1) := by decide +kernel
theorem d38_10 : decode (mB m38) 10 = .ok (.aload_n 0, 1) := by decide +kernel
theorem d38_11 : decode (mB m38) 11 = .ok (.getfield 26, 3) := by decide +kernel
theorem d38_14 : decode (mB m38) 14 = .ok (.iload_n 1, 1) := by decide +kernel
theorem d38_15 : decode (mB m38) 15 = .ok (.iaload, 1) := by decide +kernel
theorem d38_16 : decode (mB m38) 16 = .ok (.iconst (-1), 1) := by decide +kernel
theorem d38_17 : decode (mB m38) 17 = .ok (.if_icmp .eq 5, 3) := by decide +kernel
theorem d38_20 : decode (mB m38) 20 = .ok (.iconst 0, 1) := by decide +kernel
theorem d38_21 : decode (mB m38) 21 = .ok (.ireturn, 1) := by decide +kernel
theorem d38_22 : decode (mB m38) 22 = .ok (.aload_n 0, 1) := by decide +kernel
theorem d38_23 : decode (mB m38) 23 = .ok (.getfield 144, 3) := by decide +kernel
theorem d38_26 : decode (mB m38) 26 = .ok (.aload_n 0, 1) := by decide +kernel
theorem d38_27 : decode (mB m38) 27 = .ok (.getfield 58, 3) := by decide +kernel
theorem d38_30 : decode (mB m38) 30 = .ok (.if_icmp .ge 12, 3) := by decide +kernel
theorem d38_33 : decode (mB m38) 33 = .ok (.aload_n 0, 1) := by decide +kernel
theorem d38_34 : decode (mB m38) 34 = .ok (.getfield 144, 3) := by decide +kernel
theorem d38_37 : decode (mB m38) 37 = .ok (.bipush 64, 2) := by decide +kernel
theorem d38_39 : decode (mB m38) 39 = .ok (.if_icmp .lt 5, 3) := by decide +kernel
theorem d38_42 : decode (mB m38) 42 = .ok (.iconst 0, 1) := by decide +kernel
theorem d38_43 : decode (mB m38) 43 = .ok (.ireturn, 1) := by decide +kernel
theorem d38_44 : decode (mB m38) 44 = .ok (.aload_n 0, 1) := by decide +kernel
theorem d38_45 : decode (mB m38) 45 = .ok (.getfield 23, 3) := by decide +kernel
theorem d38_48 : decode (mB m38) 48 = .ok (.aload_n 0, 1) := by decide +kernel
theorem d38_49 : decode (mB m38) 49 = .ok (.getfield 144, 3) := by decide +kernel
theorem d38_52 : decode (mB m38) 52 = .ok (.iload_n 1, 1) := by decide +kernel
theorem d38_53 : decode (mB m38) 53 = .ok (.iastore, 1) := by decide +kernel
theorem d38_54 : decode (mB m38) 54 = .ok (.aload_n 0, 1) := by decide +kernel
theorem d38_55 : decode (mB m38) 55 = .ok (.getfield 26, 3) := by decide +kernel
theorem d38_58 : decode (mB m38) 58 = .ok (.iload_n 1, 1) := by decide +kernel
theorem d38_59 : decode (mB m38) 59 = .ok (.aload_n 0, 1) := by decide +kernel
theorem d38_60 : decode (mB m38) 60 = .ok (.getfield 144, 3) := by decide +kernel
theorem d38_63 : decode (mB m38) 63 = .ok (.iastore, 1) := by decide +kernel
theorem d38_64 : decode (mB m38) 64 = .ok (.aload_n 0, 1) := by decide +kernel
theorem d38_65 : decode (mB m38) 65 = .ok (.aload_n 0, 1) := by decide +kernel
theorem d38_66 : decode (mB m38) 66 = .ok (.getfield 144, 3) := by decide +kernel
theorem d38_69 : decode (mB m38) 69 = .ok (.iconst 1, 1) := by decide +kernel
theorem d38_70 : decode (mB m38) 70 = .ok (.iadd, 1) := by decide +kernel
theorem d38_71 : decode (mB m38) 71 = .ok (.putfield 144, 3) := by decide +kernel
theorem d38_74 : decode (mB m38) 74 = .ok (.iconst 1, 1) := by decide +kernel
theorem d38_75 : decode (mB m38) 75 = .ok (.ireturn, 1) := by decide +kernel
theorem d39_0 : decode (mB m39) 0 = .ok (.aload_n 0, 1) := by decide +kernel
theorem d39_1 : decode (mB m39) 1 = .ok (.invokevirtual 67, 3) := by decide +kernel
theorem d39_4 : decode (mB m39) 4 = .ok (.iconst 0, 1) := by decide +kernel
theorem d39_5 : decode (mB m39) 5 = .ok (.istore_n 1, 1) := by decide +kernel
theorem d39_6 : decode (mB m39) 6 = .ok (.iload_n 1, 1) := by decide +kernel
theorem d39_7 : decode (mB m39) 7 = .ok (.aload_n 0, 1) := by decide +kernel
theorem d39_8 : decode (mB m39) 8 = .ok (.getfield 48, 3) := by decide +kernel
theorem d39_11 : decode (mB m39) 11 = .ok (.if_icmp .ge 33, 3) := by decide +kernel
theorem d39_14 : decode (mB m39) 14 = .ok (.aload_n 0, 1) := by decide +kernel
theorem d39_15 : decode (mB m39) 15 = .ok (.getfield 7, 3) := by decide +kernel
theorem d39_18 : decode (mB m39) 18 = .ok (.iload_n 1, 1) := by decide +kernel
theorem d39_19 : decode (mB m39) 19 = .ok (.baload, 1) := by decide +kernel
theorem d39_20 : decode (mB m39) 20 = .ok (.ifCond .eq 18, 3) := by decide +kernel
theorem d39_23 : decode (mB m39) 23 = .ok (.aload_n 0, 1) := by decide +kernel
theorem d39_24 : decode (mB m39) 24 = .ok (.getfield 17, 3) := by decide +kernel
theorem d39_27 : decode (mB m39) 27 = .ok (.iload_n 1, 1) := by decide +kernel
theorem d39_28 : decode (mB m39) 28 = .ok (.iaload, 1) := by decide +kernel
theorem d39_29 : decode (mB m39) 29 = .ok (.ifCond .ne 9, 3) := by decide +kernel
theorem d39_32 : decode (mB m39) 32 = .ok (.aload_n 0, 1) := by decide +kernel
theorem d39_33 : decode (mB m39) 33 = .ok (.iload_n 1, 1) := by decide +kernel
theorem d39_34 : decode (mB m39) 34 = .ok (.invokevirtual 162, 3) := by decide +kernel
theorem d39_37 : decode (mB m39) 37 = .ok (.pop, 1) := by decide +kernel
theorem d39_38 : decode (mB m39) 38 = .ok (.iinc 1 1, 3) := by decide +kernel
theorem d39_41 : decode (mB m39) 41 = .ok (.goto (-35), 3) := by decide +kernel
theorem d39_44 : decode (mB m39) 44 = .ok (.return_, 1) := by decide +kernel
theorem d40_0 : decode (mB m40) 0 = .ok (.aload_n 0, 1) := by decide +kernel
theorem d40_1 : decode (mB m40) 1 = .ok (.aload_n 0, 1) := by decide +kernel
theorem d40_2 : decode (mB m40) 2 = .ok (.getfield 73, 3) := by decide +kernel
theorem d40_5 : decode (mB m40) 5 = .ok (.iconst 1, 1) := by decide +kernel
theorem d40_6 : decode (mB m40) 6 = .ok (.iadd, 1) := by decide +kernel
theorem d40_7 : decode (mB m40) 7 = .ok (.putfield 73, 3) := by decide +kernel
theorem d40_10 : decode (mB m40) 10 = .ok (.aload_n 0, 1) := by decide +kernel
theorem d40_11 : decode (mB m40) 11 = .ok (.invokevirtual 177, 3) := by decide +kernel
theorem d40_14 : decode (mB m40) 14 = .ok (.aload_n 0, 1) := by decide +kernel
theorem d40_15 : decode (mB m40) 15 = .ok (.invokevirtual 180, 3) := by decide +kernel
theorem d40_18 : decode (mB m40) 18 = .ok (.aload_n 0, 1) := by decide +kernel
theorem d40_19 : decode (mB m40) 19 = .ok (.invokevirtual 183, 3) := by decide +kernel
theorem d40_22 : decode (mB m40) 22 = .ok (.aload_n 0, 1) := by decide +kernel
theorem d40_23 : decode (mB m40) 23 = .ok (.invokevirtual 186, 3) := by decide +kernel
theorem d40_26 : decode (mB m40) 26 = .ok (.aload_n 0, 1) := by decide +kernel
theorem d40_27 : decode (mB m40) 27 = .ok (.invokevirtual 189, 3) := by decide +kernel
theorem d40_30 : decode (mB m40) 30 = .ok (.istore_n 1, 1) := by decide +kernel
theorem d40_31 : decode (mB m40) 31 = .ok (.aload_n 0, 1) := by decide +kernel
theorem d40_32 : decode (mB m40) 32 = .ok (.invokevirtual 192, 3) := by decide +kernel
theorem d40_35 : decode (mB m40) 35 = .ok (.aload_n 0, 1) := by decide +kernel
theorem d40_36 : decode (mB m40) 36 = .ok (.invokevirtual 195, 3) := by decide +kernel
theorem d40_39 : decode (mB m40) 39 = .ok (.iload_n 1, 1) := by decide +kernel
theorem d40_40 : decode (mB m40) 40 = .ok (.ireturn, 1) := by decide +kernel
theorem d41_0 : decode (mB m41) 0 = .ok (.iconst 0, 1) := by decide +kernel
theorem d41_1 : decode (mB m41) 1 = .ok (.istore_n 1, 1) := by decide +kernel
theorem d41_2 : decode (mB m41) 2 = .ok (.iload_n 1, 1) := by decide +kernel
theorem d41_3 : decode (mB m41) 3 = .ok (.aload_n 0, 1) := by decide +kernel
theorem d41_4 : decode (mB m41) 4 = .ok (.getfield 48, 3) := by decide +kernel
theorem d41_7 : decode (mB m41) 7 = .ok (.if_icmp .ge 20, 3) := by decide +kernel
theorem d41_10 : decode (mB m41) 10 = .ok (.aload_n 0, 1) := by decide +kernel
theorem d41_11 : decode (mB m41) 11 = .ok (.getfield 7, 3) := by decide +kernel
theorem d41_14 : decode (mB m41) 14 = .ok (.iload_n 1, 1) := by decide +kernel
theorem d41_15 : decode (mB m41) 15 = .ok (.baload, 1) := by decide +kernel
theorem d41_16 : decode (mB m41) 16 = .ok (.ifCond .ne 5, 3) := by decide +kernel
theorem d41_19 : decode (mB m41) 19 = .ok (.iload_n 1, 1) := by decide +kernel
theorem d41_20 : decode (mB m41) 20 = .ok (.ireturn, 1) := by decide +kernel
theorem d41_21 : decode (mB m41) 21 = .ok (.iinc 1 1, 3) := by decide +kernel
theorem d41_24 : decode (mB m41) 24 = .ok (.goto (-22), 3) := by decide +kernel
theorem d41_27 : decode (mB m41) 27 = .ok (.iconst (-1), 1) := by decide +kernel
theorem d41_28 : decode (mB m41) 28 = .ok (.ireturn, 1) := by decide +kernel
theorem d42_0 : decode (mB m42) 0 = .ok (.aload_n 0, 1) := by decide +kernel
theorem d42_1 : decode (mB m42) 1 = .ok (.iload_n 1, 1) := by decide +kernel
theorem d42_2 : decode (mB m42) 2 = .ok (.invokevirtual 165, 3) := by decide +kernel
theorem d42_5 : decode (mB m42) 5 = .ok (.ifCond .ne 4, 3) := by decide +kernel
theorem d42_8 : decode (mB m42) 8 = .ok (.return_, 1) := by decide +kernel
theorem d42_9 : decode (mB m42) 9 = .ok (.aload_n 0, 1) := by decide +kernel
theorem d42_10 : decode (mB m42) 10 = .ok (.getfield 7, 3) := by decide +kernel
theorem d42_13 : decode (mB m42) 13 = .ok (.iload_n 1, 1) := by decide +kernel
theorem d42_14 : decode (mB m42) 14 = .ok (.baload, 1) := by decide +kernel
theorem d42_15 : decode (mB m42) 15 = .ok (.ifCond .eq 4, 3) := by decide +kernel
theorem d42_18 : decode (mB m42) 18 = .ok (.return_, 1) := by decide +kernel
theorem d42_19 : decode (mB m42) 19 = .ok (.aload_n 0, 1) := by decide +kernel
theorem d42_20 : decode (mB m42) 20 = .ok (.getfield 7, 3) := by decide +kernel
theorem d42_23 : decode (mB m42) 23 = .ok (.iload_n 1, 1) := by decide +kernel
theorem d42_24 : decode (mB m42) 24 = .ok (.iconst 1, 1) := by decide +kernel
theorem d42_25 : decode (mB m42) 25 = .ok (.bastore, 1) := by decide +kernel
theorem d42_26 : decode (mB m42) 26 = .ok (.aload_n 0, 1) := by decide +kernel
theorem d42_27 : decode (mB m42) 27 = .ok (.iload_n 1, 1) := by decide +kernel
theorem d42_28 : decode (mB m42) 28 = .ok (.invokevirtual 219, 3) := by decide +kernel
theorem d42_31 : decode (mB m42) 31 = .ok (.aload_n 0, 1) := by decide +kernel
theorem d42_32 : decode (mB m42) 32 = .ok (.getfield 17, 3) := by decide +kernel
theorem d42_35 : decode (mB m42) 35 = .ok (.iload_n 1, 1) := by decide +kernel
theorem d42_36 : decode (mB m42) 36 = .ok (.iconst 0, 1) := by decide +kernel
theorem d42_37 : decode (mB m42) 37 = .ok (.iastore, 1) := by decide +kernel
theorem d42_38 : decode (mB m42) 38 = .ok (.aload_n 0, 1) := by decide +kernel
theorem d42_39 : decode (mB m42) 39 = .ok (.aload_n 0, 1) := by decide +kernel
theorem d42_40 : decode (mB m42) 40 = .ok (.getfield 147, 3) := by decide +kernel
theorem d42_43 : decode (mB m42) 43 = .ok (.iconst 1, 1) := by decide +kernel
theorem d42_44 : decode (mB m42) 44 = .ok (.iadd, 1) := by decide +kernel
theorem d42_45 : decode (mB m42) 45 = .ok (.putfield 147, 3) := by decide +kernel
theorem d42_48 : decode (mB m42) 48 = .ok (.return_, 1) := by decide +kernel
theorem d43_0 : decode (mB m43) 0 = .ok (.aload_n 0, 1) := by decide +kernel
theorem d43_1 : decode (mB m43) 1 = .ok (.getfield 125, 3) := by decide +kernel
theorem d43_4 : decode (mB m43) 4 = .ok (.aload_n 0, 1) := by decide +kernel
theorem d43_5 : decode (mB m43) 5 = .ok (.getfield 55, 3) := by decide +kernel
theorem d43_8 : decode (mB m43) 8 = .ok (.if_icmp .ge 12, 3) := by decide +kernel
theorem d43_11 : decode (mB m43) 11 = .ok (.aload_n 0, 1) := by decide +kernel
theorem d43_12 : decode (mB m43) 12 = .ok (.getfield 125, 3) := by decide +kernel
theorem d43_15 : decode (mB m43) 15 = .ok (.bipush 16, 2) := by decide +kernel
theorem d43_17 : decode (mB m43) 17 = .ok (.if_icmp .lt 4, 3) := by decide +kernel
theorem d43_20 : decode (mB m43) 20 = .ok (.return_, 1) := by decide +kernel
theorem d43_21 : decode (mB m43) 21 = .ok (.aload_n 0, 1) := by decide +kernel
theorem d43_22 : decode (mB m43) 22 = .ok (.getfield 20, 3) := by decide +kernel
theorem d43_25 : decode (mB m43) 25 = .ok (.aload_n 0, 1) := by decide +kernel
theorem d43_26 : decode (mB m43) 26 = .ok (.getfield 125, 3) := by decide +kernel
theorem d43_29 : decode (mB m43) 29 = .ok (.iload_n 1, 1) := by decide +kernel
theorem d43_30 : decode (mB m43) 30 = .ok (.iastore, 1) := by decide +kernel
theorem d43_31 : decode (mB m43) 31 = .ok (.aload_n 0, 1) := by decide +kernel
theorem d43_32 : decode (mB m43) 32 = .ok (.aload_n 0, 1) := by decide +kernel
theorem d43_33 : decode (mB m43) 33 = .ok (.getfield 125, 3) := by decide +kernel
theorem d43_36 : decode (mB m43) 36 = .ok (.iconst 1, 1) := by decide +kernel
theorem d43_37 : decode (mB m43) 37 = .ok (.iadd, 1) := by decide +kernel
theorem d43_38 : decode (mB m43) 38 = .ok (.putfield 125, 3) := by decide +kernel
theorem d43_41 : decode (mB m43) 41 = .ok (.return_, 1) := by decide +kernel
theorem d44_0 : decode (mB m44) 0 = .ok (.aload_n 0, 1) := by decide +kernel
theorem d44_1 : decode (mB m44) 1 = .ok (.iload_n 1, 1) := by decide +kernel
theorem d44_2 : decode (mB m44) 2 = .ok (.invokevirtual 159, 3) := by decide +kernel
theorem d44_5 : decode (mB m44) 5 = .ok (.aload_n 0, 1) := by decide +kernel
theorem d44_6 : decode (mB m44) 6 = .ok (.iload_n 1, 1) := by decide +kernel
theorem d44_7 : decode (mB m44) 7 = .ok (.invokevirtual 162, 3) := by decide +kernel
theorem d44_10 : decode (mB m44) 10 = .ok (.pop, 1) := by decide +kernel
theorem d44_11 : decode (mB m44) 11 = .ok (.aload_n 0, 1) := by decide +kernel
theorem d44_12 : decode (mB m44) 12 = .ok (.iload_n 1, 1) := by decide +kernel
theorem d44_13 : decode (mB m44) 13 = .ok (.invokevirtual 101, 3) := by decide +kernel
theorem d44_16 : decode (mB m44) 16 = .ok (.return_, 1) := by decide +kernel
theorem d45_0 : decode (mB m45) 0 = .ok (.aload_n 0, 1) := by decide +kernel
theorem d45_1 : decode (mB m45) 1 = .ok (.invokevirtual 76, 3) := by decide +kernel
theorem d45_4 : decode (mB m45) 4 = .ok (.ifCond .eq 6, 3) := by decide +kernel
theorem d45_7 : decode (mB m45) 7 = .ok (.bipush (-2), 2) := by decide +kernel
theorem d45_9 : decode (mB m45) 9 = .ok (.ireturn, 1) := by decide +kernel
theorem d45_10 : decode (mB m45) 10 = .ok (.aload_n 0, 1) := by decide +kernel
theorem d45_11 : decode (mB m45) 11 = .ok (.invokevirtual 80, 3) := by decide +kernel
theorem d45_14 : decode (mB m45) 14 = .ok (.ifCond .eq 8, 3) := by decide +kernel
theorem d45_17 : decode (mB m45) 17 = .ok (.aload_n 0, 1) := by decide +kernel
theorem d45_18 : decode (mB m45) 18 = .ok (.invokevirtual 83, 3) := by decide +kernel
theorem d45_21 : decode (mB m45) 21 = .ok (.pop, 1) := by decide +kernel
theorem d45_22 : decode (mB m45) 22 = .ok (.aload_n 0, 1) := by decide +kernel
theorem d45_23 : decode (mB m45) 23 = .ok (.invokevirtual 87, 3) := by decide +kernel
theorem d45_26 : decode (mB m45) 26 = .ok (.istore_n 1, 1) := by decide +kernel
theorem d45_27 : decode (mB m45) 27 = .ok (.iload_n 1, 1) := by decide +kernel
theorem d45_28 : decode (mB m45) 28 = .ok (.iconst (-1), 1) := by decide +kernel
theorem d45_29 : decode (mB m45) 29 = .ok (.if_icmp .ne 6, 3) := by decide +kernel
theorem d45_32 : decode (mB m45) 32 = .ok (.bipush (-4), 2) := by decide +kernel
theorem d45_34 : decode (mB m45) 34 = .ok (.ireturn, 1) := by decide +kernel
theorem d45_35 : decode (mB m45) 35 = .ok (.aload_n 0, 1) := by decide +kernel
theorem d45_36 : decode (mB m45) 36 = .ok (.iload_n 1, 1) := by decide +kernel
theorem d45_37 : decode (mB m45) 37 = .ok (.invokevirtual 90, 3) := by decide +kernel
theorem d45_40 : decode (mB m45) 40 = .ok (.iload_n 1, 1) := by decide +kernel
theorem d45_41 : decode (mB m45) 41 = .ok (.ireturn, 1) := by decide +kernel
theorem d46_0 : decode (mB m46) 0 = .ok (.aload_n 0, 1) := by decide +kernel
theorem d46_1 : decode (mB m46) 1 = .ok (.invokevirtual 76, 3) := by decide +kernel
theorem d46_4 : decode (mB m46) 4 = .ok (.ifCond .eq 6, 3) := by decide +kernel
theorem d46_7 : decode (mB m46) 7 = .ok (.bipush (-2), 2) := by decide +kernel
theorem d46_9 : decode (mB m46) 9 = .ok (.ireturn, 1) := by decide +kernel
theorem d46_10 : decode (mB m46) 10 = .ok (.aload_n 0, 1) := by decide +kernel
theorem d46_11 : decode (mB m46) 11 = .ok (.iload_n 1, 1) := by decide +kernel
theorem d46_12 : decode (mB m46) 12 = .ok (.invokevirtual 131, 3) := by decide +kernel
theorem d46_15 : decode (mB m46) 15 = .ok (.ifCond .ne 6, 3) := by decide +kernel
theorem d46_18 : decode (mB m46) 18 = .ok (.bipush (-5), 2) := by decide +kernel
theorem d46_20 : decode (mB m46) 20 = .ok (.ireturn, 1) := by decide +kernel
theorem d46_21 : decode (mB m46) 21 = .ok (.aload_n 0, 1) := by decide +kernel
theorem d46_22 : decode (mB m46) 22 = .ok (.iload_n 2, 1) := by decide +kernel
theorem d46_23 : decode (mB m46) 23 = .ok (.invokevirtual 138, 3) := by decide +kernel
theorem d46_26 : decode (mB m46) 26 = .ok (.ifCond .ne 6, 3) := by decide +kernel
theorem d46_29 : decode (mB m46) 29 = .ok (.bipush (-6), 2) := by decide +kernel
theorem d46_31 : decode (mB m46) 31 = .ok (.ireturn, 1) := by decide +kernel
theorem d46_32 : decode (mB m46) 32 = .ok (.aload_n 0, 1) := by decide +kernel
theorem d46_33 : decode (mB m46) 33 = .ok (.getfield 20, 3) := by decide +kernel
theorem d46_36 : decode (mB m46) 36 = .ok (.iload_n 1, 1) := by decide +kernel
theorem d46_37 : decode (mB m46) 37 = .ok (.iaload, 1) := by decide +kernel
theorem d46_38 : decode (mB m46) 38 = .ok (.iconst (-1), 1) := by decide +kernel
theorem d46_39 : decode (mB m46) 39 = .ok (.if_icmp .ne 6, 3) := by decide +kernel
theorem d46_42 : decode (mB m46) 42 = .ok (.bipush (-7), 2) := by decide +kernel
theorem d46_44 : decode (mB m46) 44 = .ok (.ireturn, 1) := by decide +kernel
theorem d46_45 : decode (mB m46) 45 = .ok (.aload_n 0, 1) := by decide +kernel
theorem d46_46 : decode (mB m46) 46 = .ok (.aload_n 0, 1) := by decide +kernel
theorem d46_47 : decode (mB m46) 47 = .ok (.getfield 20, 3) := by decide +kernel
theorem d46_50 : decode (mB m46) 50 = .ok (.iload_n 1, 1) := by decide +kernel
theorem d46_51 : decode (mB m46) 51 = .ok (.iaload, 1) := by decide +kernel
theorem d46_52 : decode (mB m46) 52 = .ok (.invokevirtual 135, 3) := by decide +kernel
theorem d46_55 : decode (mB m46) 55 = .ok (.ifCond .ne 6, 3) := by decide +kernel
theorem d46_58 : decode (mB m46) 58 = .ok (.bipush (-7), 2) := by decide +kernel
theorem d46_60 : decode (mB m46) 60 = .ok (.ireturn, 1) := by decide +kernel
theorem d46_61 : decode (mB m46) 61 = .ok (.iconst 0, 1) := by decide +kernel
theorem d46_62 : decode (mB m46) 62 = .ok (.ireturn, 1) := by decide +kernel
theorem d47_0 : decode (mB m47) 0 = .ok (.aload_n 0, 1) := by decide +kernel
theorem d47_1 : decode (mB m47) 1 = .ok (.iload_n 1, 1) := by decide +kernel
theorem d47_2 : decode (mB m47) 2 = .ok (.iload_n 2, 1) := by decide +kernel
theorem d47_3 : decode (mB m47) 3 = .ok (.invokevirtual 94, 3) := by decide +kernel
theorem d47_6 : decode (mB m47) 6 = .ok (.istore_n 3, 1) := by decide +kernel
theorem d47_7 : decode (mB m47) 7 = .ok (.iload_n 3, 1) := by decide +kernel
theorem d47_8 : decode (mB m47) 8 = .ok (.ifCond .eq 5, 3) := by decide +kernel
theorem d47_11 : decode (mB m47) 11 = .ok (.iload_n 3, 1) := by decide +kernel
theorem d47_12 : decode (mB m47) 12 = .ok (.ireturn, 1) := by decide +kernel
theorem d47_13 : decode (mB m47) 13 = .ok (.aload_n 0, 1) := by decide +kernel
theorem d47_14 : decode (mB m47) 14 = .ok (.getfield 20, 3) := by decide +kernel
theorem d47_17 : decode (mB m47) 17 = .ok (.iload_n 1, 1) := by decide +kernel
theorem d47_18 : decode (mB m47) 18 = .ok (.iaload, 1) := by decide +kernel
theorem d47_19 : decode (mB m47) 19 = .ok (.istore 4, 2) := by decide +kernel
theorem d47_21 : decode (mB m47) 21 = .ok (.aload_n 0, 1) := by decide +kernel
theorem d47_22 : decode (mB m47) 22 = .ok (.iload 4, 2) := by decide +kernel
theorem d47_24 : decode (mB m47) 24 = .ok (.iload_n 2, 1) := by decide +kernel
theorem d47_25 : decode (mB m47) 25 = .ok (.invokevirtual 98, 3) := by decide +kernel
theorem d47_28 : decode (mB m47) 28 = .ok (.istore 5, 2) := by decide +kernel
theorem d47_30 : decode (mB m47) 30 = .ok (.aload_n 0, 1) := by decide +kernel
theorem d47_31 : decode (mB m47) 31 = .ok (.iload 5, 2) := by decide +kernel
theorem d47_33 : decode (mB m47) 33 = .ok (.invokevirtual 101, 3) := by decide +kernel
theorem d47_36 : decode (mB m47) 36 = .ok (.iconst 0, 1) := by decide +kernel
theorem d47_37 : decode (mB m47) 37 = .ok (.ireturn, 1) := by decide +kernel
theorem d48_0 : decode (mB m48) 0 = .ok (.iload_n 1, 1) := by decide +kernel
theorem d48_1 : decode (mB m48) 1 = .ok (.iconst (-1), 1) := by decide +kernel
theorem d48_2 : decode (mB m48) 2 = .ok (.if_icmp .ne 5, 3) := by decide +kernel
theorem d48_5 : decode (mB m48) 5 = .ok (.iconst 1, 1) := by decide +kernel
theorem d48_6 : decode (mB m48) 6 = .ok (.ireturn, 1) := by decide +kernel
theorem d48_7 : decode (mB m48) 7 = .ok (.aload_n 0, 1) := by decide +kernel
theorem d48_8 : decode (mB m48) 8 = .ok (.iload_n 1, 1) := by decide +kernel
theorem d48_9 : decode (mB m48) 9 = .ok (.invokevirtual 131, 3) := by decide +kernel
theorem d48_12 : decode (mB m48) 12 = .ok (.ireturn, 1) := by decide +kernel
theorem d49_0 : decode (mB m49) 0 = .ok (.aload_n 0, 1) := by decide +kernel
theorem d49_1 : decode (mB m49) 1 = .ok (.iload_n 1, 1) := by decide +kernel
theorem d49_2 : decode (mB m49) 2 = .ok (.invokevirtual 131, 3) := by decide +kernel
theorem d49_5 : decode (mB m49) 5 = .ok (.ifCond .ne 6, 3) := by decide +kernel
theorem d49_8 : decode (mB m49) 8 = .ok (.bipush (-5), 2) := by decide +kernel
theorem d49_10 : decode (mB m49) 10 = .ok (.ireturn, 1) := by decide +kernel
theorem d49_11 : decode (mB m49) 11 = .ok (.aload_n 0, 1) := by decide +kernel
theorem d49_12 : decode (mB m49) 12 = .ok (.iload_n 2, 1) := by decide +kernel
theorem d49_13 : decode (mB m49) 13 = .ok (.invokevirtual 138, 3) := by decide +kernel
theorem d49_16 : decode (mB m49) 16 = .ok (.ifCond .ne 6, 3) := by decide +kernel
theorem d49_19 : decode (mB m49) 19 = .ok (.bipush (-6), 2) := by decide +kernel
theorem d49_21 : decode (mB m49) 21 = .ok (.ireturn, 1) := by decide +kernel
theorem d49_22 : decode (mB m49) 22 = .ok (.aload_n 0, 1) := by decide +kernel
theorem d49_23 : decode (mB m49) 23 = .ok (.iload_n 3, 1) := by decide +kernel
theorem d49_24 : decode (mB m49) 24 = .ok (.invokevirtual 150, 3) := by decide +kernel
theorem d49_27 : decode (mB m49) 27 = .ok (.ifCond .ne 6, 3) := by decide +kernel
theorem d49_30 : decode (mB m49) 30 = .ok (.bipush (-5), 2) := by decide +kernel
theorem d49_32 : decode (mB m49) 32 = .ok (.ireturn, 1) := by decide +kernel
theorem d49_33 : decode (mB m49) 33 = .ok (.aload_n 0, 1) := by decide +kernel
theorem d49_34 : decode (mB m49) 34 = .ok (.getfield 20, 3) := by decide +kernel
theorem d49_37 : decode (mB m49) 37 = .ok (.iload_n 1, 1) := by decide +kernel
theorem d49_38 : decode (mB m49) 38 = .ok (.iaload, 1) := by decide +kernel
theorem d49_39 : decode (mB m49) 39 = .ok (.iconst (-1), 1) := by decide +kernel
theorem d49_40 : decode (mB m49) 40 = .ok (.if_icmp .ne 6, 3) := by decide +kernel
theorem d49_43 : decode (mB m49) 43 = .ok (.bipush (-7), 2) := by decide +kernel
theorem d49_45 : decode (mB m49) 45 = .ok (.ireturn, 1) := by decide +kernel
theorem d49_46 : decode (mB m49) 46 = .ok (.aload_n 0, 1) := by decide +kernel
theorem d49_47 : decode (mB m49) 47 = .ok (.aload_n 0, 1) := by decide +kernel
theorem d49_48 : decode (mB m49) 48 = .ok (.getfield 20, 3) := by decide +kernel
theorem d49_51 : decode (mB m49) 51 = .ok (.iload_n 1, 1) := by decide +kernel
theorem d49_52 : decode (mB m49) 52 = .ok (.iaload, 1) := by decide +kernel
theorem d49_53 : decode (mB m49) 53 = .ok (.invokevirtual 135, 3) := by decide +kernel
theorem d49_56 : decode (mB m49) 56 = .ok (.ifCond .ne 6, 3) := by decide +kernel
theorem d49_59 : decode (mB m49) 59 = .ok (.bipush (-7), 2) := by decide +kernel
theorem d49_61 : decode (mB m49) 61 = .ok (.ireturn, 1) := by decide +kernel
theorem d49_62 : decode (mB m49) 62 = .ok (.iconst 0, 1) := by decide +kernel
theorem d49_63 : decode (mB m49) 63 = .ok (.ireturn, 1) := by decide +kernel
theorem d50_0 : decode (mB m50) 0 = .ok (.iload_n 1, 1) := by decide +kernel
theorem d50_1 : decode (mB m50) 1 = .ok (.iconst (-1), 1) := by decide +kernel
theorem d50_2 : decode (mB m50) 2 = .ok (.if_icmp .ne 5, 3) := by decide +kernel
theorem d50_5 : decode (mB m50) 5 = .ok (.iconst (-1), 1) := by decide +kernel
theorem d50_6 : decode (mB m50) 6 = .ok (.ireturn, 1) := by decide +kernel
theorem d50_7 : decode (mB m50) 7 = .ok (.aload_n 0, 1) := by decide +kernel
theorem d50_8 : decode (mB m50) 8 = .ok (.iload_n 1, 1) := by decide +kernel
theorem d50_9 : decode (mB m50) 9 = .ok (.invokevirtual 131, 3) := by decide +kernel
theorem d50_12 : decode (mB m50) 12 = .ok (.ifCond .ne 5, 3) := by decide +kernel
theorem d50_15 : decode (mB m50) 15 = .ok (.iconst (-1), 1) := by decide +kernel
theorem d50_16 : decode (mB m50) 16 = .ok (.ireturn, 1) := by decide +kernel
theorem d50_17 : decode (mB m50) 17 = .ok (.aload_n 0, 1) := by decide +kernel
theorem d50_18 : decode (mB m50) 18 = .ok (.getfield 20, 3) := by decide +kernel
theorem d50_21 : decode (mB m50) 21 = .ok (.iload_n 1, 1) := by decide +kernel
theorem d50_22 : decode (mB m50) 22 = .ok (.iaload, 1) := by decide +kernel
theorem d50_23 : decode (mB m50) 23 = .ok (.ireturn, 1) := by decide +kernel
theorem d51_0 : decode (mB m51) 0 = .ok (.iload_n 1, 1) := by decide +kernel
theorem d51_1 : decode (mB m51) 1 = .ok (.iconst (-1), 1) := by decide +kernel
theorem d51_2 : decode (mB m51) 2 = .ok (.if_icmp .ne 5, 3) := by decide +kernel
theorem d51_5 : decode (mB m51) 5 = .ok (.iconst 0, 1) := by decide +kernel
theorem d51_6 : decode (mB m51) 6 = .ok (.ireturn, 1) := by decide +kernel
theorem d51_7 : decode (mB m51) 7 = .ok (.iload_n 1, 1) := by decide +kernel
theorem d51_8 : decode (mB m51) 8 = .ok (.iload_n 2, 1) := by decide +kernel
theorem d51_9 : decode (mB m51) 9 = .ok (.if_icmp .ne 5, 3) := by decide +kernel
theorem d51_12 : decode (mB m51) 12 = .ok (.iconst 0, 1) := by decide +kernel
theorem d51_13 : decode (mB m51) 13 = .ok (.ireturn, 1) := by decide +kernel
theorem d51_14 : decode (mB m51) 14 = .ok (.aload_n 0, 1) := by decide +kernel
theorem d51_15 : decode (mB m51) 15 = .ok (.iload_n 1, 1) := by decide +kernel
theorem d51_16 : decode (mB m51) 16 = .ok (.invokevirtual 165, 3) := by decide +kernel
theorem d51_19 : decode (mB m51) 19 = .ok (.ifCond .ne 5, 3) := by decide +kernel
theorem d51_22 : decode (mB m51) 22 = .ok (.iconst 0, 1) := by decide +kernel
theorem d51_23 : decode (mB m51) 23 = .ok (.ireturn, 1) := by decide +kernel
theorem d51_24 : decode (mB m51) 24 = .ok (.aload_n 0, 1) := by decide +kernel
theorem d51_25 : decode (mB m51) 25 = .ok (.getfield 17, 3) := by decide +kernel
theorem d51_28 : decode (mB m51) 28 = .ok (.iload_n 1, 1) := by decide +kernel
theorem d51_29 : decode (mB m51) 29 = .ok (.iaload, 1) := by decide +kernel
theorem d51_30 : decode (mB m51) 30 = .ok (.iconst 1, 1) := by decide +kernel
theorem d51_31 : decode (mB m51) 31 = .ok (.if_icmp .eq 5, 3) := by decide +kernel
theorem d51_34 : decode (mB m51) 34 = .ok (.iconst 0, 1) := by decide +kernel
theorem d51_35 : decode (mB m51) 35 = .ok (.ireturn, 1) := by decide +kernel
theorem d51_36 : decode (mB m51) 36 = .ok (.aload_n 0, 1) := by decide +kernel
theorem d51_37 : decode (mB m51) 37 = .ok (.iload_n 1, 1) := by decide +kernel
theorem d51_38 : decode (mB m51) 38 = .ok (.invokevirtual 141, 3) := by decide +kernel
theorem d51_41 : decode (mB m51) 41 = .ok (.ifCond .eq 5, 3) := by decide +kernel
theorem d51_44 : decode (mB m51) 44 = .ok (.iconst 0, 1) := by decide +kernel
theorem d51_45 : decode (mB m51) 45 = .ok (.ireturn, 1) := by decide +kernel
theorem d51_46 : decode (mB m51) 46 = .ok (.aload_n 0, 1) := by decide +kernel
theorem d51_47 : decode (mB m51) 47 = .ok (.invokevirtual 156, 3) := by decide +kernel
theorem d51_50 : decode (mB m51) 50 = .ok (.ireturn, 1) := by decide +kernel
theorem d52_0 : decode (mB m52) 0 = .ok (.aload_n 0, 1) := by decide +kernel
theorem d52_1 : decode (mB m52) 1 = .ok (.iload_n 1, 1) := by decide +kernel
theorem d52_2 : decode (mB m52) 2 = .ok (.invokevirtual 165, 3) := by decide +kernel
theorem d52_5 : decode (mB m52) 5 = .ok (.ifCond .eq 26, 3) := by decide +kernel
theorem d52_8 : decode (mB m52) 8 = .ok (.aload_n 0, 1) := by decide +kernel
theorem d52_9 : decode (mB m52) 9 = .ok (.getfield 17, 3) := by decide +kernel
theorem d52_12 : decode (mB m52) 12 = .ok (.iload_n 1, 1) := by decide +kernel
theorem d52_13 : decode (mB m52) 13 = .ok (.iaload, 1) := by decide +kernel
theorem d52_14 : decode (mB m52) 14 = .ok (.ifCond .le 17, 3) := by decide +kernel
theorem d52_17 : decode (mB m52) 17 = .ok (.aload_n 0, 1) := by decide +kernel
theorem d52_18 : decode (mB m52) 18 = .ok (.getfield 17, 3) := by decide +kernel
theorem d52_21 : decode (mB m52) 21 = .ok (.iload_n 1, 1) := by decide +kernel
theorem d52_22 : decode (mB m52) 22 = .ok (.aload_n 0, 1) := by decide +kernel
theorem d52_23 : decode (mB m52) 23 = .ok (.getfield 17, 3) := by decide +kernel
theorem d52_26 : decode (mB m52) 26 = .ok (.iload_n 1, 1) := by decide +kernel
theorem d52_27 : decode (mB m52) 27 = .ok (.iaload, 1) := by decide +kernel
theorem d52_28 : decode (mB m52) 28 = .ok (.iconst 1, 1) := by decide +kernel
theorem d52_29 : decode (mB m52) 29 = .ok (.isub, 1) := by decide +kernel
theorem d52_30 : decode (mB m52) 30 = .ok (.iastore, 1) := by decide +kernel
theorem d52_31 : decode (mB m52) 31 = .ok (.return_, 1) := by decide +kernel
theorem d53_0 : decode (mB m53) 0 = .ok (.aload_n 0, 1) := by decide +kernel
theorem d53_1 : decode (mB m53) 1 = .ok (.iload_n 1, 1) := by decide +kernel
theorem d53_2 : decode (mB m53) 2 = .ok (.invokevirtual 165, 3) := by decide +kernel
theorem d53_5 : decode (mB m53) 5 = .ok (.ifCond .ne 4, 3) := by decide +kernel
theorem d53_8 : decode (mB m53) 8 = .ok (.return_, 1) := by decide +kernel
theorem d53_9 : decode (mB m53) 9 = .ok (.aload_n 0, 1) := by decide +kernel
theorem d53_10 : decode (mB m53) 10 = .ok (.iload_n 2, 1) := by decide +kernel
theorem d53_11 : decode (mB m53) 11 = .ok (.invokevirtual 138, 3) := by decide +kernel
theorem d53_14 : decode (mB m53) 14 = .ok (.ifCond .ne 4, 3) := by decide +kernel
theorem d53_17 : decode (mB m53) 17 = .ok (.return_, 1) := by decide +kernel
theorem d53_18 : decode (mB m53) 18 = .ok (.aload_n 0, 1) := by decide +kernel
theorem d53_19 : decode (mB m53) 19 = .ok (.getfield 13, 3) := by decide +kernel
theorem d53_22 : decode (mB m53) 22 = .ok (.iload_n 1, 1) := by decide +kernel
theorem d53_23 : decode (mB m53) 23 = .ok (.iconst 4, 1) := by decide +kernel
theorem d53_24 : decode (mB m53) 24 = .ok (.imul, 1) := by decide +kernel
theorem d53_25 : decode (mB m53) 25 = .ok (.iload_n 2, 1) := by decide +kernel
theorem d53_26 : decode (mB m53) 26 = .ok (.iadd, 1) := by decide +kernel
theorem d53_27 : decode (mB m53) 27 = .ok (.iload_n 3, 1) := by decide +kernel
theorem d53_28 : decode (mB m53) 28 = .ok (.iastore, 1) := by decide +kernel
theorem d53_29 : decode (mB m53) 29 = .ok (.return_, 1) := by decide +kernel
theorem d54_0 : decode (mB m54) 0 = .ok (.aload_n 0, 1) := by decide +kernel
theorem d54_1 : decode (mB m54) 1 = .ok (.iload_n 1, 1) := by decide +kernel
theorem d54_2 : decode (mB m54) 2 = .ok (.iload_n 2, 1) := by decide +kernel
theorem d54_3 : decode (mB m54) 3 = .ok (.invokevirtual 98, 3) := by decide +kernel
theorem d54_6 : decode (mB m54) 6 = .ok (.istore 4, 2) := by decide +kernel
theorem d54_8 : decode (mB m54) 8 = .ok (.aload_n 0, 1) := by decide +kernel
theorem d54_9 : decode (mB m54) 9 = .ok (.iload 4, 2) := by decide +kernel
theorem d54_11 : decode (mB m54) 11 = .ok (.invokevirtual 168, 3) := by decide +kernel
theorem d54_14 : decode (mB m54) 14 = .ok (.aload_n 0, 1) := by decide +kernel
theorem d54_15 : decode (mB m54) 15 = .ok (.iload_n 3, 1) := by decide +kernel
theorem d54_16 : decode (mB m54) 16 = .ok (.invokevirtual 171, 3) := by decide +kernel
theorem d54_19 : decode (mB m54) 19 = .ok (.aload_n 0, 1) := by decide +kernel
theorem d54_20 : decode (mB m54) 20 = .ok (.iload_n 1, 1) := by decide +kernel
theorem d54_21 : decode (mB m54) 21 = .ok (.iload_n 2, 1) := by decide +kernel
theorem d54_22 : decode (mB m54) 22 = .ok (.iload_n 3, 1) := by decide +kernel
theorem d54_23 : decode (mB m54) 23 = .ok (.invokevirtual 174, 3) := by decide +kernel
theorem d54_26 : decode (mB m54) 26 = .ok (.return_, 1) := by decide +kernel
theorem d55_0 : decode (mB m55) 0 = .ok (.iload_n 1, 1) := by decide +kernel
theorem d55_1 : decode (mB m55) 1 = .ok (.iconst (-1), 1) := by decide +kernel
theorem d55_2 : decode (mB m55) 2 = .ok (.if_icmp .ne 4, 3) := by decide +kernel
theorem d55_5 : decode (mB m55) 5 = .ok (.return_, 1) := by decide +kernel
theorem d55_6 : decode (mB m55) 6 = .ok (.aload_n 0, 1) := by decide +kernel
theorem d55_7 : decode (mB m55) 7 = .ok (.iload_n 1, 1) := by decide +kernel
theorem d55_8 : decode (mB m55) 8 = .ok (.invokevirtual 165, 3) := by decide +kernel
theorem d55_11 : decode (mB m55) 11 = .ok (.ifCond .ne 4, 3) := by decide +kernel
theorem d55_14 : decode (mB m55) 14 = .ok (.return_, 1) := by decide +kernel
theorem d55_15 : decode (mB m55) 15 = .ok (.aload_n 0, 1) := by decide +kernel
theorem d55_16 : decode (mB m55) 16 = .ok (.getfield 17, 3) := by decide +kernel
theorem d55_19 : decode (mB m55) 19 = .ok (.iload_n 1, 1) := by decide +kernel
theorem d55_20 : decode (mB m55) 20 = .ok (.iaload, 1) := by decide +kernel
theorem d55_21 : decode (mB m55) 21 = .ok (.ifCond .eq 4, 3) := by decide +kernel
theorem d55_24 : decode (mB m55) 24 = .ok (.return_, 1) := by decide +kernel
theorem d55_25 : decode (mB m55) 25 = .ok (.aload_n 0, 1) := by decide +kernel
theorem d55_26 : decode (mB m55) 26 = .ok (.iload_n 1, 1) := by decide +kernel
theorem d55_27 : decode (mB m55) 27 = .ok (.invokevirtual 141, 3) := by decide +kernel
theorem d55_30 : decode (mB m55) 30 = .ok (.ifCond .eq 4, 3) := by decide +kernel
theorem d55_33 : decode (mB m55) 33 = .ok (.return_, 1) := by decide +kernel
theorem d55_34 : decode (mB m55) 34 = .ok (.aload_n 0, 1) := by decide +kernel
theorem d55_35 : decode (mB m55) 35 = .ok (.iload_n 1, 1) := by decide +kernel
theorem d55_36 : decode (mB m55) 36 = .ok (.invokevirtual 162, 3) := by decide +kernel
theorem d55_39 : decode (mB m55) 39 = .ok (.pop, 1) := by decide +kernel
theorem d55_40 : decode (mB m55) 40 = .ok (.return_, 1) := by decide +kernel
theorem d56_0 : decode (mB m56) 0 = .ok (.aload_n 0, 1) := by decide +kernel
theorem d56_1 : decode (mB m56) 1 = .ok (.iload_n 1, 1) := by decide +kernel
theorem d56_2 : decode (mB m56) 2 = .ok (.iload_n 2, 1) := by decide +kernel
theorem d56_3 : decode (mB m56) 3 = .ok (.iload_n 3, 1) := by decide +kernel
theorem d56_4 : decode (mB m56) 4 = .ok (.invokevirtual 104, 3) := by decide +kernel
theorem d56_7 : decode (mB m56) 7 = .ok (.istore 4, 2) := by decide +kernel
theorem d56_9 : decode (mB m56) 9 = .ok (.iload 4, 2) := by decide +kernel
theorem d56_11 : decode (mB m56) 11 = .ok (.ifCond .eq 6, 3) := by decide +kernel
theorem d56_14 : decode (mB m56) 14 = .ok (.iload 4, 2) := by decide +kernel
theorem d56_16 : decode (mB m56) 16 = .ok (.ireturn, 1) := by decide +kernel
theorem d56_17 : decode (mB m56) 17 = .ok (.aload_n 0, 1) := by decide +kernel
theorem d56_18 : decode (mB m56) 18 = .ok (.getfield 20, 3) := by decide +kernel
theorem d56_21 : decode (mB m56) 21 = .ok (.iload_n 1, 1) := by decide +kernel
theorem d56_22 : decode (mB m56) 22 = .ok (.iaload, 1) := by decide +kernel
theorem d56_23 : decode (mB m56) 23 = .ok (.istore 5, 2) := by decide +kernel
theorem d56_25 : decode (mB m56) 25 = .ok (.aload_n 0, 1) := by decide +kernel
theorem d56_26 : decode (mB m56) 26 = .ok (.iload_n 3, 1) := by decide +kernel
theorem d56_27 : decode (mB m56) 27 = .ok (.invokevirtual 107, 3) := by decide +kernel
theorem d56_30 : decode (mB m56) 30 = .ok (.istore 6, 2) := by decide +kernel
theorem d56_32 : decode (mB m56) 32 = .ok (.aload_n 0, 1) := by decide +kernel
theorem d56_33 : decode (mB m56) 33 = .ok (.iload 5, 2) := by decide +kernel
theorem d56_35 : decode (mB m56) 35 = .ok (.iload_n 2, 1) := by decide +kernel
theorem d56_36 : decode (mB m56) 36 = .ok (.invokevirtual 98, 3) := by decide +kernel
theorem d56_39 : decode (mB m56) 39 = .ok (.istore 7, 2) := by decide +kernel
theorem d56_41 : decode (mB m56) 41 = .ok (.aload_n 0, 1) := by decide +kernel
theorem d56_42 : decode (mB m56) 42 = .ok (.iload 7, 2) := by decide +kernel
theorem d56_44 : decode (mB m56) 44 = .ok (.iload 6, 2) := by decide +kernel
theorem d56_46 : decode (mB m56) 46 = .ok (.invokevirtual 111, 3) := by decide +kernel
theorem d56_49 : decode (mB m56) 49 = .ok (.ifCond .eq 8, 3) := by decide +kernel
theorem d56_52 : decode (mB m56) 52 = .ok (.aload_n 0, 1) := by decide +kernel
theorem d56_53 : decode (mB m56) 53 = .ok (.invokevirtual 83, 3) := by decide +kernel
theorem d56_56 : decode (mB m56) 56 = .ok (.pop, 1) := by decide +kernel
theorem d56_57 : decode (mB m56) 57 = .ok (.aload_n 0, 1) := by decide +kernel
theorem d56_58 : decode (mB m56) 58 = .ok (.iload 5, 2) := by decide +kernel
theorem d56_60 : decode (mB m56) 60 = .ok (.iload_n 2, 1) := by decide +kernel
theorem d56_61 : decode (mB m56) 61 = .ok (.iload 6, 2) := by decide +kernel
theorem d56_63 : decode (mB m56) 63 = .ok (.invokevirtual 115, 3) := by decide +kernel
theorem d56_66 : decode (mB m56) 66 = .ok (.aload_n 0, 1) := by decide +kernel
theorem d56_67 : decode (mB m56) 67 = .ok (.iload 7, 2) := by decide +kernel
theorem d56_69 : decode (mB m56) 69 = .ok (.invokevirtual 119, 3) := by decide +kernel
theorem d56_72 : decode (mB m56) 72 = .ok (.iconst 0, 1) := by decide +kernel
theorem d56_73 : decode (mB m56) 73 = .ok (.ireturn, 1) := by decide +kernel
theorem d57_0 : decode (mB m57) 0 = .ok (.aload_n 0, 1) := by decide +kernel
theorem d57_1 : decode (mB m57) 1 = .ok (.invokevirtual 76, 3) := by decide +kernel
theorem d57_4 : decode (mB m57) 4 = .ok (.ifCond .eq 6, 3) := by decide +kernel
theorem d57_7 : decode (mB m57) 7 = .ok (.bipush (-2), 2) := by decide +kernel
theorem d57_9 : decode (mB m57) 9 = .ok (.ireturn, 1) := by decide +kernel
theorem d57_10 : decode (mB m57) 10 = .ok (.aload_n 0, 1) := by decide +kernel
theorem d57_11 : decode (mB m57) 11 = .ok (.iload_n 1, 1) := by decide +kernel
theorem d57_12 : decode (mB m57) 12 = .ok (.invokevirtual 150, 3) := by decide +kernel
theorem d57_15 : decode (mB m57) 15 = .ok (.ifCond .ne 6, 3) := by decide +kernel
theorem d57_18 : decode (mB m57) 18 = .ok (.bipush (-5), 2) := by decide +kernel
theorem d57_20 : decode (mB m57) 20 = .ok (.ireturn, 1) := by decide +kernel
theorem d57_21 : decode (mB m57) 21 = .ok (.iconst 0, 1) := by decide +kernel
theorem d57_22 : decode (mB m57) 22 = .ok (.ireturn, 1) := by decide +kernel
theorem d58_0 : decode (mB m58) 0 = .ok (.aload_n 0, 1) := by decide +kernel
theorem d58_1 : decode (mB m58) 1 = .ok (.iload_n 1, 1) := by decide +kernel
theorem d58_2 : decode (mB m58) 2 = .ok (.invokevirtual 122, 3) := by decide +kernel
theorem d58_5 : decode (mB m58) 5 = .ok (.istore_n 2, 1) := by decide +kernel
theorem d58_6 : decode (mB m58) 6 = .ok (.iload_n 2, 1) := by decide +kernel
theorem d58_7 : decode (mB m58) 7 = .ok (.ifCond .eq 5, 3) := by decide +kernel
theorem d58_10 : decode (mB m58) 10 = .ok (.iload_n 2, 1) := by decide +kernel
theorem d58_11 : decode (mB m58) 11 = .ok (.ireturn, 1) := by decide +kernel
theorem d58_12 : decode (mB m58) 12 = .ok (.aload_n 0, 1) := by decide +kernel
theorem d58_13 : decode (mB m58) 13 = .ok (.iload_n 1, 1) := by decide +kernel
theorem d58_14 : decode (mB m58) 14 = .ok (.invokevirtual 107, 3) := by decide +kernel
theorem d58_17 : decode (mB m58) 17 = .ok (.istore_n 3, 1) := by decide +kernel
theorem d58_18 : decode (mB m58) 18 = .ok (.aload_n 0, 1) := by decide +kernel
theorem d58_19 : decode (mB m58) 19 = .ok (.iload_n 3, 1) := by decide +kernel
theorem d58_20 : decode (mB m58) 20 = .ok (.invokevirtual 101, 3) := by decide +kernel
theorem d58_23 : decode (mB m58) 23 = .ok (.iconst 0, 1) := by decide +kernel
theorem d58_24 : decode (mB m58) 24 = .ok (.ireturn, 1) := by decide +kernel
theorem d59_0 : decode (mB m59) 0 = .ok (.aload_n 0, 1) := by decide +kernel
theorem d59_1 : decode (mB m59) 1 = .ok (.invokevirtual 83, 3) := by decide +kernel
theorem d59_4 : decode (mB m59) 4 = .ok (.ireturn, 1) := by decide +kernel
theorem d60_0 : decode (mB m60) 0 = .ok (.aload_n 0, 1) := by decide +kernel
theorem d60_1 : decode (mB m60) 1 = .ok (.getfield 125, 3) := by decide +kernel
theorem d60_4 : decode (mB m60) 4 = .ok (.ifCond .gt 4, 3) := by decide +kernel
theorem d60_7 : decode (mB m60) 7 = .ok (.return_, 1) := by decide +kernel
theorem d60_8 : decode (mB m60) 8 = .ok (.aload_n 0, 1) := by decide +kernel
theorem d60_9 : decode (mB m60) 9 = .ok (.aload_n 0, 1) := by decide +kernel
theorem d60_10 : decode (mB m60) 10 = .ok (.getfield 125, 3) := by decide +kernel
theorem d60_13 : decode (mB m60) 13 = .ok (.iconst 1, 1) := by decide +kernel
theorem d60_14 : decode (mB m60) 14 = .ok (.isub, 1) := by decide +kernel
theorem d60_15 : decode (mB m60) 15 = .ok (.putfield 125, 3) := by decide +kernel
theorem d60_18 : decode (mB m60) 18 = .ok (.aload_n 0, 1) := by decide +kernel
theorem d60_19 : decode (mB m60) 19 = .ok (.getfield 20, 3) := by decide +kernel
theorem d60_22 : decode (mB m60) 22 = .ok (.aload_n 0, 1) := by decide +kernel
theorem d60_23 : decode (mB m60) 23 = .ok (.getfield 125, 3) := by decide +kernel
theorem d60_26 : decode (mB m60) 26 = .ok (.iconst (-1), 1) := by decide +kernel
theorem d60_27 : decode (mB m60) 27 = .ok (.iastore, 1) := by decide +kernel
theorem d60_28 : decode (mB m60) 28 = .ok (.return_, 1) := by decide +kernel
theorem d61_0 : decode (mB m61) 0 = .ok (.aload_n 0, 1) := by decide +kernel
theorem d61_1 : decode (mB m61) 1 = .ok (.getfield 125, 3) := by decide +kernel
theorem d61_4 : decode (mB m61) 4 = .ok (.ifCond .gt 6, 3) := by decide +kernel
theorem d61_7 : decode (mB m61) 7 = .ok (.bipush (-3), 2) := by decide +kernel
theorem d61_9 : decode (mB m61) 9 = .ok (.ireturn, 1) := by decide +kernel
theorem d61_10 : decode (mB m61) 10 = .ok (.aload_n 0, 1) := by decide +kernel
theorem d61_11 : decode (mB m61) 11 = .ok (.invokevirtual 128, 3) := by decide +kernel
theorem d61_14 : decode (mB m61) 14 = .ok (.iconst 0, 1) := by decide +kernel
theorem d61_15 : decode (mB m61) 15 = .ok (.ireturn, 1) := by decide +kernel
theorem d62_0 : decode (mB m62) 0 = .ok (.iconst 4, 1) := by decide +kernel
theorem d62_1 : decode (mB m62) 1 = .ok (.aload_n 0, 1) := by decide +kernel
theorem d62_2 : decode (mB m62) 2 = .ok (.iconst 0, 1) := by decide +kernel
theorem d62_3 : decode (mB m62) 3 = .ok (.invokestatic 7, 3) := by decide +kernel
theorem d62_6 : decode (mB m62) 6 = .ok (.bipush 15, 2) := by decide +kernel
theorem d62_8 : decode (mB m62) 8 = .ok (.iand, 1) := by decide +kernel
theorem d62_9 : decode (mB m62) 9 = .ok (.iadd, 1) := by decide +kernel
theorem d62_10 : decode (mB m62) 10 = .ok (.istore_n 1, 1) := by decide +kernel
theorem d62_11 : decode (mB m62) 11 = .ok (.iconst 1, 1) := by decide +kernel
theorem d62_12 : decode (mB m62) 12 = .ok (.aload_n 0, 1) := by decide +kernel
theorem d62_13 : decode (mB m62) 13 = .ok (.iconst 1, 1) := by decide +kernel
theorem d62_14 : decode (mB m62) 14 = .ok (.invokestatic 7, 3) := by decide +kernel
theorem d62_17 : decode (mB m62) 17 = .ok (.iconst 3, 1) := by decide +kernel
theorem d62_18 : decode (mB m62) 18 = .ok (.iand, 1) := by decide +kernel
theorem d62_19 : decode (mB m62) 19 = .ok (.iadd, 1) := by decide +kernel
theorem d62_20 : decode (mB m62) 20 = .ok (.istore_n 2, 1) := by decide +kernel
theorem d62_21 : decode (mB m62) 21 = .ok (.iconst 1, 1) := by decide +kernel
theorem d62_22 : decode (mB m62) 22 = .ok (.aload_n 0, 1) := by decide +kernel
theorem d62_23 : decode (mB m62) 23 = .ok (.iconst 2, 1) := by decide +kernel
theorem d62_24 : decode (mB m62) 24 = .ok (.invokestatic 7, 3) := by decide +kernel
theorem d62_27 : decode (mB m62) 27 = .ok (.bipush 15, 2) := by decide +kernel
theorem d62_29 : decode (mB m62) 29 = .ok (.iand, 1) := by decide +kernel
theorem d62_30 : decode (mB m62) 30 = .ok (.iadd, 1) := by decide +kernel
theorem d62_31 : decode (mB m62) 31 = .ok (.istore_n 3, 1) := by decide +kernel
theorem d62_32 : decode (mB m62) 32 = .ok (.iload_n 3, 1) := by decide +kernel
theorem d62_33 : decode (mB m62) 33 = .ok (.iconst 1, 1) := by decide +kernel
theorem d62_34 : decode (mB m62) 34 = .ok (.iadd, 1) := by decide +kernel
theorem d62_35 : decode (mB m62) 35 = .ok (.aload_n 0, 1) := by decide +kernel
theorem d62_36 : decode (mB m62) 36 = .ok (.iconst 3, 1) := by decide +kernel
theorem d62_37 : decode (mB m62) 37 = .ok (.invokestatic 7, 3) := by decide +kernel
theorem d62_40 : decode (mB m62) 40 = .ok (.bipush 7, 2) := by decide +kernel
theorem d62_42 : decode (mB m62) 42 = .ok (.iand, 1) := by decide +kernel
theorem d62_43 : decode (mB m62) 43 = .ok (.iadd, 1) := by decide +kernel
theorem d62_44 : decode (mB m62) 44 = .ok (.istore 4, 2) := by decide +kernel
theorem d62_46 : decode (mB m62) 46 = .ok (.new 13, 3) := by decide +kernel
theorem d62_49 : decode (mB m62) 49 = .ok (.dup, 1) := by decide +kernel
theorem d62_50 : decode (mB m62) 50 = .ok (.iload_n 1, 1) := by decide +kernel
theorem d62_51 : decode (mB m62) 51 = .ok (.iload_n 2, 1) := by decide +kernel
theorem d62_52 : decode (mB m62) 52 = .ok (.iload_n 3, 1) := by decide +kernel
theorem d62_53 : decode (mB m62) 53 = .ok (.iload 4, 2) := by decide +kernel
theorem d62_55 : decode (mB m62) 55 = .ok (.invokespecial 15, 3) := by decide +kernel
theorem d62_58 : decode (mB m62) 58 = .ok (.astore 5, 2) := by decide +kernel
theorem d62_60 : decode (mB m62) 60 = .ok (.iconst 0, 1) := by decide +kernel
theorem d62_61 : decode (mB m62) 61 = .ok (.istore 6, 2) := by decide +kernel
theorem d62_63 : decode (mB m62) 63 = .ok (.iconst 4, 1) := by decide +kernel
theorem d62_64 : decode (mB m62) 64 = .ok (.istore 7, 2) := by decide +kernel
theorem d62_66 : decode (mB m62) 66 = .ok (.aload 5, 2) := by decide +kernel
theorem d62_68 : decode (mB m62) 68 = .ok (.invokevirtual 18, 3) := by decide +kernel
theorem d62_71 : decode (mB m62) 71 = .ok (.istore 8, 2) := by decide +kernel
theorem d62_73 : decode (mB m62) 73 = .ok (.iload 8, 2) := by decide +kernel
theorem d62_75 : decode (mB m62) 75 = .ok (.ifCond .lt 9, 3) := by decide +kernel
theorem d62_78 : decode (mB m62) 78 = .ok (.iload 8, 2) := by decide +kernel
theorem d62_80 : decode (mB m62) 80 = .ok (.iload_n 3, 1) := by decide +kernel
theorem d62_81 : decode (mB m62) 81 = .ok (.if_icmp .le 5, 3) := by decide +kernel
theorem d62_84 : decode (mB m62) 84 = .ok (.iconst 0, 1) := by decide +kernel
theorem d62_85 : decode (mB m62) 85 = .ok (.ireturn, 1) := by decide +kernel
theorem d62_86 : decode (mB m62) 86 = .ok (.lconst 0, 1) := by decide +kernel
theorem d62_87 : decode (mB m62) 87 = .ok (.lstore 9, 2) := by decide +kernel
theorem d62_89 : decode (mB m62) 89 = .ok (.iconst 0, 1) := by decide +kernel
theorem d62_90 : decode (mB m62) 90 = .ok (.istore 11, 2) := by decide +kernel
theorem d62_92 : decode (mB m62) 92 = .ok (.iload 11, 2) := by decide +kernel
theorem d62_94 : decode (mB m62) 94 = .ok (.iload 8, 2) := by decide +kernel
theorem d62_96 : decode (mB m62) 96 = .ok (.if_icmp .ge 59, 3) := by decide +kernel
theorem d62_99 : decode (mB m62) 99 = .ok (.aload 5, 2) := by decide +kernel
theorem d62_101 : decode (mB m62) 101 = .ok (.iload 11, 2) := by decide +kernel
theorem d62_103 : decode (mB m62) 103 = .ok (.invokevirtual 22, 3) := by decide +kernel
theorem d62_106 : decode (mB m62) 106 = .ok (.istore 12, 2) := by decide +kernel
theorem d62_108 : decode (mB m62) 108 = .ok (.iload 12, 2) := by decide +kernel
theorem d62_110 : decode (mB m62) 110 = .ok (.iconst (-1), 1) := by decide +kernel
theorem d62_111 : decode (mB m62) 111 = .ok (.if_icmp .ne 6, 3) := by decide +kernel
theorem d62_114 : decode (mB m62) 114 = .ok (.goto 35, 3) := by decide +kernel
theorem d62_117 : decode (mB m62) 117 = .ok (.iload 12, 2) := by decide +kernel
theorem d62_119 : decode (mB m62) 119 = .ok (.ifCond .lt 19, 3) := by decide +kernel
theorem d62_122 : decode (mB m62) 122 = .ok (.iload 12, 2) := by decide +kernel
theorem d62_124 : decode (mB m62) 124 = .ok (.iload_n 1, 1) := by decide +kernel
theorem d62_125 : decode (mB m62) 125 = .ok (.if_icmp .ge 13, 3) := by decide +kernel
theorem d62_128 : decode (mB m62) 128 = .ok (.aload 5, 2) := by decide +kernel
theorem d62_130 : decode (mB m62) 130 = .ok (.iload 12, 2) := by decide +kernel
theorem d62_132 : decode (mB m62) 132 = .ok (.invokevirtual 26, 3) := by decide +kernel
theorem d62_135 : decode (mB m62) 135 = .ok (.ifCond .ne 5, 3) := by decide +kernel
theorem d62_138 : decode (mB m62) 138 = .ok (.iconst 0, 1) := by decide +kernel
theorem d62_139 : decode (mB m62) 139 = .ok (.ireturn, 1) := by decide +kernel
theorem d62_140 : decode (mB m62) 140 = .ok (.lload 9, 2) := by decide +kernel
theorem d62_142 : decode (mB m62) 142 = .ok (.lconst 1, 1) := by decide +kernel
theorem d62_143 : decode (mB m62) 143 = .ok (.iload 12, 2) := by decide +kernel
theorem d62_145 : decode (mB m62) 145 = .ok (.lshl, 1) := by decide +kernel
theorem d62_146 : decode (mB m62) 146 = .ok (.lor, 1) := by decide +kernel
theorem d62_147 : decode (mB m62) 147 = .ok (.lstore 9, 2) := by decide +kernel
theorem d62_149 : decode (mB m62) 149 = .ok (.iinc 11 1, 3) := by decide +kernel
theorem d62_152 : decode (mB m62) 152 = .ok (.goto (-60), 3) := by decide +kernel
theorem d62_155 : decode (mB m62) 155 = .ok (.iconst 0, 1) := by decide +kernel
theorem d62_156 : decode (mB m62) 156 = .ok (.istore 11, 2) := by decide +kernel
theorem d62_158 : decode (mB m62) 158 = .ok (.iload 11, 2) := by decide +kernel
theorem d62_160 : decode (mB m62) 160 = .ok (.iload_n 1, 1) := by decide +kernel
theorem d62_161 : decode (mB m62) 161 = .ok (.if_icmp .ge 86, 3) := by decide +kernel
theorem d62_164 : decode (mB m62) 164 = .ok (.aload 5, 2) := by decide +kernel
theorem d62_166 : decode (mB m62) 166 = .ok (.iload 11, 2) := by decide +kernel
theorem d62_168 : decode (mB m62) 168 = .ok (.invokevirtual 26, 3) := by decide +kernel
theorem d62_171 : decode (mB m62) 171 = .ok (.ifCond .ne 15, 3) := by decide +kernel
theorem d62_174 : decode (mB m62) 174 = .ok (.aload 5, 2) := by decide +kernel
theorem d62_176 : decode (mB m62) 176 = .ok (.iload 11, 2) := by decide +kernel
theorem d62_178 : decode (mB m62) 178 = .ok (.invokevirtual 30, 3) := by decide +kernel
theorem d62_181 : decode (mB m62) 181 = .ok (.ifCond .eq 60, 3) := by decide +kernel
theorem d62_184 : decode (mB m62) 184 = .ok (.iconst 0, 1) := by decide +kernel
theorem d62_185 : decode (mB m62) 185 = .ok (.ireturn, 1) := by decide +kernel
theorem d62_186 : decode (mB m62) 186 = .ok (.iconst 0, 1) := by decide +kernel
theorem d62_187 : decode (mB m62) 187 = .ok (.istore 12, 2) := by decide +kernel
theorem d62_189 : decode (mB m62) 189 = .ok (.iload 12, 2) := by decide +kernel
theorem d62_191 : decode (mB m62) 191 = .ok (.iload_n 2, 1) := by decide +kernel
theorem d62_192 : decode (mB m62) 192 = .ok (.if_icmp .ge 49, 3) := by decide +kernel
theorem d62_195 : decode (mB m62) 195 = .ok (.aload 5, 2) := by decide +kernel
theorem d62_197 : decode (mB m62) 197 = .ok (.iload 11, 2) := by decide +kernel
theorem d62_199 : decode (mB m62) 199 = .ok (.iload 12, 2) := by decide +kernel
theorem d62_201 : decode (mB m62) 201 = .ok (.invokevirtual 33, 3) := by decide +kernel
theorem d62_204 : decode (mB m62) 204 = .ok (.istore 13, 2) := by decide +kernel
theorem d62_206 : decode (mB m62) 206 = .ok (.iload 13, 2) := by decide +kernel
theorem d62_208 : decode (mB m62) 208 = .ok (.iconst (-1), 1) := by decide +kernel
theorem d62_209 : decode (mB m62) 209 = .ok (.if_icmp .eq 26, 3) := by decide +kernel
theorem d62_212 : decode (mB m62) 212 = .ok (.iload 13, 2) := by decide +kernel
theorem d62_214 : decode (mB m62) 214 = .ok (.ifCond .lt 19, 3) := by decide +kernel
theorem d62_217 : decode (mB m62) 217 = .ok (.iload 13, 2) := by decide +kernel
theorem d62_219 : decode (mB m62) 219 = .ok (.iload_n 1, 1) := by decide +kernel
theorem d62_220 : decode (mB m62) 220 = .ok (.if_icmp .ge 13, 3) := by decide +kernel
theorem d62_223 : decode (mB m62) 223 = .ok (.aload 5, 2) := by decide +kernel
theorem d62_225 : decode (mB m62) 225 = .ok (.iload 13, 2) := by decide +kernel
theorem d62_227 : decode (mB m62) 227 = .ok (.invokevirtual 26, 3) := by decide +kernel
theorem d62_230 : decode (mB m62) 230 = .ok (.ifCond .ne 5, 3) := by decide +kernel
theorem d62_233 : decode (mB m62) 233 = .ok (.iconst 0, 1) := by decide +kernel
theorem d62_234 : decode (mB m62) 234 = .ok (.ireturn, 1) := by decide +kernel
theorem d62_235 : decode (mB m62) 235 = .ok (.iinc 12 1, 3) := by decide +kernel
theorem d62_238 : decode (mB m62) 238 = .ok (.goto (-49), 3) := by decide +kernel
theorem d62_241 : decode (mB m62) 241 = .ok (.iinc 11 1, 3) := by decide +kernel
theorem d62_244 : decode (mB m62) 244 = .ok (.goto (-86), 3) := by decide +kernel
theorem d62_247 : decode (mB m62) 247 = .ok (.iconst 0, 1) := by decide +kernel
theorem d62_248 : decode (mB m62) 248 = .ok (.istore 11, 2) := by decide +kernel
theorem d62_250 : decode (mB m62) 250 = .ok (.iload 11, 2) := by decide +kernel
theorem d62_252 : decode (mB m62) 252 = .ok (.iload_n 1, 1) := by decide +kernel
theorem d62_253 : decode (mB m62) 253 = .ok (.if_icmp .ge 116, 3) := by decide +kernel
theorem d62_256 : decode (mB m62) 256 = .ok (.aload 5, 2) := by decide +kernel
theorem d62_258 : decode (mB m62) 258 = .ok (.iload 11, 2) := by decide +kernel
theorem d62_260 : decode (mB m62) 260 = .ok (.invokevirtual 26, 3) := by decide +kernel
theorem d62_263 : decode (mB m62) 263 = .ok (.ifCond .ne 6, 3) := by decide +kernel
theorem d62_266 : decode (mB m62) 266 = .ok (.goto 97, 3) := by decide +kernel
theorem d62_269 : decode (mB m62) 269 = .ok (.iconst 0, 1) := by decide +kernel
theorem d62_270 : decode (mB m62) 270 = .ok (.istore 12, 2) := by decide +kernel
theorem d62_272 : decode (mB m62) 272 = .ok (.iconst 0, 1) := by decide +kernel
theorem d62_273 : decode (mB m62) 273 = .ok (.istore 13, 2) := by decide +kernel
theorem d62_275 : decode (mB m62) 275 = .ok (.iload 13, 2) := by decide +kernel
theorem d62_277 : decode (mB m62) 277 = .ok (.iload_n 1, 1) := by decide +kernel
theorem d62_278 : decode (mB m62) 278 = .ok (.if_icmp .ge 54, 3) := by decide +kernel
theorem d62_281 : decode (mB m62) 281 = .ok (.aload 5, 2) := by decide +kernel
theorem d62_283 : decode (mB m62) 283 = .ok (.iload 13, 2) := by decide +kernel
theorem d62_285 : decode (mB m62) 285 = .ok (.invokevirtual 26, 3) := by decide +kernel
theorem d62_288 : decode (mB m62) 288 = .ok (.ifCond .ne 6, 3) := by decide +kernel
theorem d62_291 : decode (mB m62) 291 = .ok (.goto 35, 3) := by decide +kernel
theorem d62_294 : decode (mB m62) 294 = .ok (.iconst 0, 1) := by decide +kernel
theorem d62_295 : decode (mB m62) 295 = .ok (.istore 14, 2) := by decide +kernel
theorem d62_297 : decode (mB m62) 297 = .ok (.iload 14, 2) := by decide +kernel
theorem d62_299 : decode (mB m62) 299 = .ok (.iload_n 2, 1) := by decide +kernel
theorem d62_300 : decode (mB m62) 300 = .ok (.if_icmp .ge 26, 3) := by decide +kernel
theorem d62_303 : decode (mB m62) 303 = .ok (.aload 5, 2) := by decide +kernel
theorem d62_305 : decode (mB m62) 305 = .ok (.iload 13, 2) := by decide +kernel
theorem d62_307 : decode (mB m62) 307 = .ok (.iload 14, 2) := by decide +kernel
theorem d62_309 : decode (mB m62) 309 = .ok (.invokevirtual 33, 3) := by decide +kernel
theorem d62_312 : decode (mB m62) 312 = .ok (.iload 11, 2) := by decide +kernel
theorem d62_314 : decode (mB m62) 314 = .ok (.if_icmp .ne 6, 3) := by decide +kernel
theorem d62_317 : decode (mB m62) 317 = .ok (.iinc 12 1, 3) := by decide +kernel
theorem d62_320 : decode (mB m62) 320 = .ok (.iinc 14 1, 3) := by decide +kernel
theorem d62_323 : decode (mB m62) 323 = .ok (.goto (-26), 3) := by decide +kernel
theorem d62_326 : decode (mB m62) 326 = .ok (.iinc 13 1, 3) := by decide +kernel
theorem d62_329 : decode (mB m62) 329 = .ok (.goto (-54), 3) := by decide +kernel
theorem d62_332 : decode (mB m62) 332 = .ok (.aload 5, 2) := by decide +kernel
theorem d62_334 : decode (mB m62) 334 = .ok (.iload 11, 2) := by decide +kernel
theorem d62_336 : decode (mB m62) 336 = .ok (.invokevirtual 37, 3) := by decide +kernel
theorem d62_339 : decode (mB m62) 339 = .ok (.iload 12, 2) := by decide +kernel
theorem d62_341 : decode (mB m62) 341 = .ok (.if_icmp .eq 5, 3) := by decide +kernel
theorem d62_344 : decode (mB m62) 344 = .ok (.iconst 0, 1) := by decide +kernel
theorem d62_345 : decode (mB m62) 345 = .ok (.ireturn, 1) := by decide +kernel
theorem d62_346 : decode (mB m62) 346 = .ok (.iload 12, 2) := by decide +kernel
theorem d62_348 : decode (mB m62) 348 = .ok (.ifCond .ne 15, 3) := by decide +kernel
theorem d62_351 : decode (mB m62) 351 = .ok (.aload 5, 2) := by decide +kernel
theorem d62_353 : decode (mB m62) 353 = .ok (.iload 11, 2) := by decide +kernel
theorem d62_355 : decode (mB m62) 355 = .ok (.invokevirtual 30, 3) := by decide +kernel
theorem d62_358 : decode (mB m62) 358 = .ok (.ifCond .ne 5, 3) := by decide +kernel
theorem d62_361 : decode (mB m62) 361 = .ok (.iconst 0, 1) := by decide +kernel
theorem d62_362 : decode (mB m62) 362 = .ok (.ireturn, 1) := by decide +kernel
theorem d62_363 : decode (mB m62) 363 = .ok (.iinc 11 1, 3) := by decide +kernel
theorem d62_366 : decode (mB m62) 366 = .ok (.goto (-116), 3) := by decide +kernel
theorem d62_369 : decode (mB m62) 369 = .ok (.aload 5, 2) := by decide +kernel
theorem d62_371 : decode (mB m62) 371 = .ok (.invokevirtual 40, 3) := by decide +kernel
theorem d62_374 : decode (mB m62) 374 = .ok (.iload 4, 2) := by decide +kernel
theorem d62_376 : decode (mB m62) 376 = .ok (.if_icmp .le 5, 3) := by decide +kernel
theorem d62_379 : decode (mB m62) 379 = .ok (.iconst 0, 1) := by decide +kernel
theorem d62_380 : decode (mB m62) 380 = .ok (.ireturn, 1) := by decide +kernel
theorem d62_381 : decode (mB m62) 381 = .ok (.iload 6, 2) := by decide +kernel
theorem d62_383 : decode (mB m62) 383 = .ok (.ifCond .eq 276, 3) := by decide +kernel
theorem d62_386 : decode (mB m62) 386 = .ok (.lconst 0, 1) := by decide +kernel
theorem d62_387 : decode (mB m62) 387 = .ok (.lstore 11, 2) := by decide +kernel
theorem d62_389 : decode (mB m62) 389 = .ok (.iconst 0, 1) := by decide +kernel
theorem d62_390 : decode (mB m62) 390 = .ok (.istore 13, 2) := by decide +kernel
theorem d62_392 : decode (mB m62) 392 = .ok (.iload 13, 2) := by decide +kernel
theorem d62_394 : decode (mB m62) 394 = .ok (.iload_n 1, 1) := by decide +kernel
theorem d62_395 : decode (mB m62) 395 = .ok (.if_icmp .gt 264, 3) := by decide +kernel
theorem d62_398 : decode (mB m62) 398 = .ok (.lconst 0, 1) := by decide +kernel
theorem d62_399 : decode (mB m62) 399 = .ok (.lstore 14, 2) := by decide +kernel
theorem d62_401 : decode (mB m62) 401 = .ok (.iload 13, 2) := by decide +kernel
theorem d62_403 : decode (mB m62) 403 = .ok (.iload_n 1, 1) := by decide +kernel
theorem d62_404 : decode (mB m62) 404 = .ok (.if_icmp .ge 59, 3) := by decide +kernel
theorem d62_407 : decode (mB m62) 407 = .ok (.aload 5, 2) := by decide +kernel
theorem d62_409 : decode (mB m62) 409 = .ok (.iload 13, 2) := by decide +kernel
theorem d62_411 : decode (mB m62) 411 = .ok (.invokevirtual 26, 3) := by decide +kernel
theorem d62_414 : decode (mB m62) 414 = .ok (.ifCond .ne 6, 3) := by decide +kernel
theorem d62_417 : decode (mB m62) 417 = .ok (.goto 236, 3) := by decide +kernel
theorem d62_420 : decode (mB m62) 420 = .ok (.iconst 0, 1) := by decide +kernel
theorem d62_421 : decode (mB m62) 421 = .ok (.istore 16, 2) := by decide +kernel
theorem d62_423 : decode (mB m62) 423 = .ok (.iload 16, 2) := by decide +kernel
theorem d62_425 : decode (mB m62) 425 = .ok (.iload_n 2, 1) := by decide +kernel
theorem d62_426 : decode (mB m62) 426 = .ok (.if_icmp .ge 34, 3) := by decide +kernel
theorem d62_429 : decode (mB m62) 429 = .ok (.aload 5, 2) := by decide +kernel
theorem d62_431 : decode (mB m62) 431 = .ok (.iload 13, 2) := by decide +kernel
theorem d62_433 : decode (mB m62) 433 = .ok (.iload 16, 2) := by decide +kernel
theorem d62_435 : decode (mB m62) 435 = .ok (.invokevirtual 33, 3) := by decide +kernel
theorem d62_438 : decode (mB m62) 438 = .ok (.istore 17, 2) := by decide +kernel
theorem d62_440 : decode (mB m62) 440 = .ok (.iload 17, 2) := by decide +kernel
theorem d62_442 : decode (mB m62) 442 = .ok (.ifCond .lt 12, 3) := by decide +kernel
theorem d62_445 : decode (mB m62) 445 = .ok (.lload 14, 2) := by decide +kernel
theorem d62_447 : decode (mB m62) 447 = .ok (.lconst 1, 1) := by decide +kernel
theorem d62_448 : decode (mB m62) 448 = .ok (.iload 17, 2) := by decide +kernel
theorem d62_450 : decode (mB m62) 450 = .ok (.lshl, 1) := by decide +kernel
theorem d62_451 : decode (mB m62) 451 = .ok (.lor, 1) := by decide +kernel
theorem d62_452 : decode (mB m62) 452 = .ok (.lstore 14, 2) := by decide +kernel
theorem d62_454 : decode (mB m62) 454 = .ok (.iinc 16 1, 3) := by decide +kernel
theorem d62_457 : decode (mB m62) 457 = .ok (.goto (-34), 3) := by decide +kernel
theorem d62_460 : decode (mB m62) 460 = .ok (.goto 10, 3) := by decide +kernel
theorem d62_463 : decode (mB m62) 463 = .ok (.lload 9, 2) := by decide +kernel
theorem d62_465 : decode (mB m62) 465 = .ok (.lload 11, 2) := by decide +kernel
theorem d62_467 : decode (mB m62) 467 = .ok (.lor, 1) := by decide +kernel
theorem d62_468 : decode (mB m62) 468 = .ok (.lstore 14, 2) := by decide +kernel
theorem d62_470 : decode (mB m62) 470 = .ok (.iconst 0, 1) := by decide +kernel
theorem d62_471 : decode (mB m62) 471 = .ok (.istore 16, 2) := by decide +kernel
theorem d62_473 : decode (mB m62) 473 = .ok (.iload 16, 2) := by decide +kernel
theorem d62_475 : decode (mB m62) 475 = .ok (.iload_n 1, 1) := by decide +kernel
theorem d62_476 : decode (mB m62) 476 = .ok (.if_icmp .gt 108, 3) := by decide +kernel
theorem d62_479 : decode (mB m62) 479 = .ok (.lload 14, 2) := by decide +kernel
theorem d62_481 : decode (mB m62) 481 = .ok (.lstore 17, 2) := by decide +kernel
theorem d62_483 : decode (mB m62) 483 = .ok (.iconst 0, 1) := by decide +kernel
theorem d62_484 : decode (mB m62) 484 = .ok (.istore 19, 2) := by decide +kernel
theorem d62_486 : decode (mB m62) 486 = .ok (.iload 19, 2) := by decide +kernel
theorem d62_488 : decode (mB m62) 488 = .ok (.iload_n 1, 1) := by decide +kernel
theorem d62_489 : decode (mB m62) 489 = .ok (.if_icmp .ge 74, 3) := by decide +kernel
theorem d62_492 : decode (mB m62) 492 = .ok (.lload 14, 2) := by decide +kernel
theorem d62_494 : decode (mB m62) 494 = .ok (.iload 19, 2) := by decide +kernel
theorem d62_496 : decode (mB m62) 496 = .ok (.lushr, 1) := by decide +kernel
theorem d62_497 : decode (mB m62) 497 = .ok (.lconst 1, 1) := by decide +kernel
theorem d62_498 : decode (mB m62) 498 = .ok (.land, 1) := by decide +kernel
theorem d62_499 : decode (mB m62) 499 = .ok (.lconst 0, 1) := by decide +kernel
theorem d62_500 : decode (mB m62) 500 = .ok (.lcmp, 1) := by decide +kernel
theorem d62_501 : decode (mB m62) 501 = .ok (.ifCond .eq 56, 3) := by decide +kernel
theorem d62_504 : decode (mB m62) 504 = .ok (.aload 5, 2) := by decide +kernel
theorem d62_506 : decode (mB m62) 506 = .ok (.iload 19, 2) := by decide +kernel
theorem d62_508 : decode (mB m62) 508 = .ok (.invokevirtual 26, 3) := by decide +kernel
theorem d62_511 : decode (mB m62) 511 = .ok (.ifCond .ne 6, 3) := by decide +kernel
theorem d62_514 : decode (mB m62) 514 = .ok (.goto 43, 3) := by decide +kernel
theorem d62_517 : decode (mB m62) 517 = .ok (.iconst 0, 1) := by decide +kernel
theorem d62_518 : decode (mB m62) 518 = .ok (.istore 20, 2) := by decide +kernel
theorem d62_520 : decode (mB m62) 520 = .ok (.iload 20, 2) := by decide +kernel
theorem d62_522 : decode (mB m62) 522 = .ok (.iload_n 2, 1) := by decide +kernel
theorem d62_523 : decode (mB m62) 523 = .ok (.if_icmp .ge 34, 3) := by decide +kernel
theorem d62_526 : decode (mB m62) 526 = .ok (.aload 5, 2) := by decide +kernel
theorem d62_528 : decode (mB m62) 528 = .ok (.iload 19, 2) := by decide +kernel
theorem d62_530 : decode (mB m62) 530 = .ok (.iload 20, 2) := by decide +kernel
theorem d62_532 : decode (mB m62) 532 = .ok (.invokevirtual 33, 3) := by decide +kernel
theorem d62_535 : decode (mB m62) 535 = .ok (.istore 21, 2) := by decide +kernel
theorem d62_537 : decode (mB m62) 537 = .ok (.iload 21, 2) := by decide +kernel
theorem d62_539 : decode (mB m62) 539 = .ok (.ifCond .lt 12, 3) := by decide +kernel
theorem d62_542 : decode (mB m62) 542 = .ok (.lload 17, 2) := by decide +kernel
theorem d62_544 : decode (mB m62) 544 = .ok (.lconst 1, 1) := by decide +kernel
theorem d62_545 : decode (mB m62) 545 = .ok (.iload 21, 2) := by decide +kernel
theorem d62_547 : decode (mB m62) 547 = .ok (.lshl, 1) := by decide +kernel
theorem d62_548 : decode (mB m62) 548 = .ok (.lor, 1) := by decide +kernel
theorem d62_549 : decode (mB m62) 549 = .ok (.lstore 17, 2) := by decide +kernel
theorem d62_551 : decode (mB m62) 551 = .ok (.iinc 20 1, 3) := by decide +kernel
theorem d62_554 : decode (mB m62) 554 = .ok (.goto (-34), 3) := by decide +kernel
theorem d62_557 : decode (mB m62) 557 = .ok (.iinc 19 1, 3) := by decide +kernel
theorem d62_560 : decode (mB m62) 560 = .ok (.goto (-74), 3) := by decide +kernel
theorem d62_563 : decode (mB m62) 563 = .ok (.lload 17, 2) := by decide +kernel
theorem d62_565 : decode (mB m62) 565 = .ok (.lload 14, 2) := by decide +kernel
theorem d62_567 : decode (mB m62) 567 = .ok (.lcmp, 1) := by decide +kernel
theorem d62_568 : decode (mB m62) 568 = .ok (.ifCond .ne 6, 3) := by decide +kernel
theorem d62_571 : decode (mB m62) 571 = .ok (.goto 13, 3) := by decide +kernel
theorem d62_574 : decode (mB m62) 574 = .ok (.lload 17, 2) := by decide +kernel
theorem d62_576 : decode (mB m62) 576 = .ok (.lstore 14, 2) := by decide +kernel
theorem d62_578 : decode (mB m62) 578 = .ok (.iinc 16 1, 3) := by decide +kernel
theorem d62_581 : decode (mB m62) 581 = .ok (.goto (-108), 3) := by decide +kernel
theorem d62_584 : decode (mB m62) 584 = .ok (.iload 13, 2) := by decide +kernel
theorem d62_586 : decode (mB m62) 586 = .ok (.iload_n 1, 1) := by decide +kernel
theorem d62_587 : decode (mB m62) 587 = .ok (.if_icmp .ge 27, 3) := by decide +kernel
theorem d62_590 : decode (mB m62) 590 = .ok (.lload 14, 2) := by decide +kernel
theorem d62_592 : decode (mB m62) 592 = .ok (.iload 13, 2) := by decide +kernel
theorem d62_594 : decode (mB m62) 594 = .ok (.lushr, 1) := by decide +kernel
theorem d62_595 : decode (mB m62) 595 = .ok (.lconst 1, 1) := by decide +kernel
theorem d62_596 : decode (mB m62) 596 = .ok (.land, 1) := by decide +kernel
theorem d62_597 : decode (mB m62) 597 = .ok (.lconst 0, 1) := by decide +kernel
theorem d62_598 : decode (mB m62) 598 = .ok (.lcmp, 1) := by decide +kernel
theorem d62_599 : decode (mB m62) 599 = .ok (.ifCond .eq 54, 3) := by decide +kernel
theorem d62_602 : decode (mB m62) 602 = .ok (.lload 11, 2) := by decide +kernel
theorem d62_604 : decode (mB m62) 604 = .ok (.lconst 1, 1) := by decide +kernel
theorem d62_605 : decode (mB m62) 605 = .ok (.iload 13, 2) := by decide +kernel
theorem d62_607 : decode (mB m62) 607 = .ok (.lshl, 1) := by decide +kernel
theorem d62_608 : decode (mB m62) 608 = .ok (.lor, 1) := by decide +kernel
theorem d62_609 : decode (mB m62) 609 = .ok (.lstore 11, 2) := by decide +kernel
theorem d62_611 : decode (mB m62) 611 = .ok (.goto 42, 3) := by decide +kernel
theorem d62_614 : decode (mB m62) 614 = .ok (.iconst 0, 1) := by decide +kernel
theorem d62_615 : decode (mB m62) 615 = .ok (.istore 16, 2) := by decide +kernel
theorem d62_617 : decode (mB m62) 617 = .ok (.iload 16, 2) := by decide +kernel
theorem d62_619 : decode (mB m62) 619 = .ok (.iload_n 1, 1) := by decide +kernel
theorem d62_620 : decode (mB m62) 620 = .ok (.if_icmp .ge 33, 3) := by decide +kernel
theorem d62_623 : decode (mB m62) 623 = .ok (.aload 5, 2) := by decide +kernel
theorem d62_625 : decode (mB m62) 625 = .ok (.iload 16, 2) := by decide +kernel
theorem d62_627 : decode (mB m62) 627 = .ok (.invokevirtual 26, 3) := by decide +kernel
theorem d62_630 : decode (mB m62) 630 = .ok (.ifCond .eq 17, 3) := by decide +kernel
theorem d62_633 : decode (mB m62) 633 = .ok (.lload 14, 2) := by decide +kernel
theorem d62_635 : decode (mB m62) 635 = .ok (.iload 16, 2) := by decide +kernel
theorem d62_637 : decode (mB m62) 637 = .ok (.lushr, 1) := by decide +kernel
theorem d62_638 : decode (mB m62) 638 = .ok (.lconst 1, 1) := by decide +kernel
theorem d62_639 : decode (mB m62) 639 = .ok (.land, 1) := by decide +kernel
theorem d62_640 : decode (mB m62) 640 = .ok (.lconst 0, 1) := by decide +kernel
theorem d62_641 : decode (mB m62) 641 = .ok (.lcmp, 1) := by decide +kernel
theorem d62_642 : decode (mB m62) 642 = .ok (.ifCond .ne 5, 3) := by decide +kernel
theorem d62_645 : decode (mB m62) 645 = .ok (.iconst 0, 1) := by decide +kernel
theorem d62_646 : decode (mB m62) 646 = .ok (.ireturn, 1) := by decide +kernel
theorem d62_647 : decode (mB m62) 647 = .ok (.iinc 16 1, 3) := by decide +kernel
theorem d62_650 : decode (mB m62) 650 = .ok (.goto (-33), 3) := by decide +kernel
theorem d62_653 : decode (mB m62) 653 = .ok (.iinc 13 1, 3) := by decide +kernel
theorem d62_656 : decode (mB m62) 656 = .ok (.goto (-264), 3) := by decide +kernel
theorem d62_659 : decode (mB m62) 659 = .ok (.iload 7, 2) := by decide +kernel
theorem d62_661 : decode (mB m62) 661 = .ok (.aload_n 0, 1) := by decide +kernel
theorem d62_662 : decode (mB m62) 662 = .ok (.arraylength, 1) := by decide +kernel
theorem d62_663 : decode (mB m62) 663 = .ok (.if_icmp .lt 5, 3) := by decide +kernel
theorem d62_666 : decode (mB m62) 666 = .ok (.iconst 1, 1) := by decide +kernel
theorem d62_667 : decode (mB m62) 667 = .ok (.ireturn, 1) := by decide +kernel
theorem d62_668 : decode (mB m62) 668 = .ok (.iconst 0, 1) := by decide +kernel
theorem d62_669 : decode (mB m62) 669 = .ok (.istore 6, 2) := by decide +kernel
theorem d62_671 : decode (mB m62) 671 = .ok (.aload_n 0, 1) := by decide +kernel
theorem d62_672 : decode (mB m62) 672 = .ok (.iload 7, 2) := by decide +kernel
theorem d62_674 : decode (mB m62) 674 = .ok (.iaload, 1) := by decide +kernel
theorem d62_675 : decode (mB m62) 675 = .ok (.bipush 7, 2) := by decide +kernel
theorem d62_677 : decode (mB m62) 677 = .ok (.iand, 1) := by decide +kernel
theorem d62_678 : decode (mB m62) 678 = .ok (.istore 11, 2) := by decide +kernel
theorem d62_680 : decode (mB m62) 680 = .ok (.aload_n 0, 1) := by decide +kernel
theorem d62_681 : decode (mB m62) 681 = .ok (.iload 7, 2) := by decide +kernel
theorem d62_683 : decode (mB m62) 683 = .ok (.iconst 1, 1) := by decide +kernel
theorem d62_684 : decode (mB m62) 684 = .ok (.iadd, 1) := by decide +kernel
theorem d62_685 : decode (mB m62) 685 = .ok (.invokestatic 7, 3) := by decide +kernel
theorem d62_688 : decode (mB m62) 688 = .ok (.istore 12, 2) := by decide +kernel
theorem d62_690 : decode (mB m62) 690 = .ok (.aload_n 0, 1) := by decide +kernel
theorem d62_691 : decode (mB m62) 691 = .ok (.iload 7, 2) := by decide +kernel
theorem d62_693 : decode (mB m62) 693 = .ok (.iconst 2, 1) := by decide +kernel
theorem d62_694 : decode (mB m62) 694 = .ok (.iadd, 1) := by decide +kernel
theorem d62_695 : decode (mB m62) 695 = .ok (.invokestatic 7, 3) := by decide +kernel
theorem d62_698 : decode (mB m62) 698 = .ok (.istore 13, 2) := by decide +kernel
theorem d62_700 : decode (mB m62) 700 = .ok (.iload 12, 2) := by decide +kernel
theorem d62_702 : decode (mB m62) 702 = .ok (.bipush 31, 2) := by decide +kernel
theorem d62_704 : decode (mB m62) 704 = .ok (.iand, 1) := by decide +kernel
theorem d62_705 : decode (mB m62) 705 = .ok (.iload 8, 2) := by decide +kernel
theorem d62_707 : decode (mB m62) 707 = .ok (.iconst 2, 1) := by decide +kernel
theorem d62_708 : decode (mB m62) 708 = .ok (.iadd, 1) := by decide +kernel
theorem d62_709 : decode (mB m62) 709 = .ok (.irem, 1) := by decide +kernel
theorem d62_710 : decode (mB m62) 710 = .ok (.iconst 1, 1) := by decide +kernel
theorem d62_711 : decode (mB m62) 711 = .ok (.isub, 1) := by decide +kernel
theorem d62_712 : decode (mB m62) 712 = .ok (.istore 14, 2) := by decide +kernel
theorem d62_714 : decode (mB m62) 714 = .ok (.iload 13, 2) := by decide +kernel
theorem d62_716 : decode (mB m62) 716 = .ok (.bipush 7, 2) := by decide +kernel
theorem d62_718 : decode (mB m62) 718 = .ok (.iand, 1) := by decide +kernel
theorem d62_719 : decode (mB m62) 719 = .ok (.iload_n 2, 1) := by decide +kernel
theorem d62_720 : decode (mB m62) 720 = .ok (.iconst 1, 1) := by decide +kernel
theorem d62_721 : decode (mB m62) 721 = .ok (.iadd, 1) := by decide +kernel
theorem d62_722 : decode (mB m62) 722 = .ok (.irem, 1) := by decide +kernel
theorem d62_723 : decode (mB m62) 723 = .ok (.istore 15, 2) := by decide +kernel
theorem d62_725 : decode (mB m62) 725 = .ok (.iload 13, 2) := by decide +kernel
theorem d62_727 : decode (mB m62) 727 = .ok (.iconst 3, 1) := by decide +kernel
theorem d62_728 : decode (mB m62) 728 = .ok (.iushr, 1) := by decide +kernel
theorem d62_729 : decode (mB m62) 729 = .ok (.bipush 31, 2) := by decide +kernel
theorem d62_731 : decode (mB m62) 731 = .ok (.iand, 1) := by decide +kernel
theorem d62_732 : decode (mB m62) 732 = .ok (.iload 8, 2) := by decide +kernel
theorem d62_734 : decode (mB m62) 734 = .ok (.iconst 2, 1) := by decide +kernel
theorem d62_735 : decode (mB m62) 735 = .ok (.iadd, 1) := by decide +kernel
theorem d62_736 : decode (mB m62) 736 = .ok (.irem, 1) := by decide +kernel
theorem d62_737 : decode (mB m62) 737 = .ok (.iconst 1, 1) := by decide +kernel
theorem d62_738 : decode (mB m62) 738 = .ok (.isub, 1) := by decide +kernel
theorem d62_739 : decode (mB m62) 739 = .ok (.istore 16, 2) := by decide +kernel
theorem d62_741 : decode (mB m62) 741 = .ok (.iload 11, 2) := by decide +kernel
theorem d62_743 : decode (mB m62) 743 = .ok (.ifCond .ne 12, 3) := by decide +kernel
theorem d62_746 : decode (mB m62) 746 = .ok (.aload 5, 2) := by decide +kernel
theorem d62_748 : decode (mB m62) 748 = .ok (.invokevirtual 43, 3) := by decide +kernel
theorem d62_751 : decode (mB m62) 751 = .ok (.pop, 1) := by decide +kernel
theorem d62_752 : decode (mB m62) 752 = .ok (.goto 91, 3) := by decide +kernel
theorem d62_755 : decode (mB m62) 755 = .ok (.iload 11, 2) := by decide +kernel
theorem d62_757 : decode (mB m62) 757 = .ok (.iconst 1, 1) := by decide +kernel
theorem d62_758 : decode (mB m62) 758 = .ok (.if_icmp .ne 16, 3) := by decide +kernel
theorem d62_761 : decode (mB m62) 761 = .ok (.aload 5, 2) := by decide +kernel
theorem d62_763 : decode (mB m62) 763 = .ok (.iload 14, 2) := by decide +kernel
theorem d62_765 : decode (mB m62) 765 = .ok (.iload 15, 2) := by decide +kernel
theorem d62_767 : decode (mB m62) 767 = .ok (.invokevirtual 46, 3) := by decide +kernel
theorem d62_770 : decode (mB m62) 770 = .ok (.pop, 1) := by decide +kernel
theorem d62_771 : decode (mB m62) 771 = .ok (.goto 72, 3) := by decide +kernel
theorem d62_774 : decode (mB m62) 774 = .ok (.iload 11, 2) := by decide +kernel
theorem d62_776 : decode (mB m62) 776 = .ok (.iconst 2, 1) := by decide +kernel
theorem d62_777 : decode (mB m62) 777 = .ok (.if_icmp .eq 9, 3) := by decide +kernel
theorem d62_780 : decode (mB m62) 780 = .ok (.iload 11, 2) := by decide +kernel
theorem d62_782 : decode (mB m62) 782 = .ok (.iconst 3, 1) := by decide +kernel
theorem d62_783 : decode (mB m62) 783 = .ok (.if_icmp .ne 18, 3) := by decide +kernel
theorem d62_786 : decode (mB m62) 786 = .ok (.aload 5, 2) := by decide +kernel
theorem d62_788 : decode (mB m62) 788 = .ok (.iload 14, 2) := by decide +kernel
theorem d62_790 : decode (mB m62) 790 = .ok (.iload 15, 2) := by decide +kernel
theorem d62_792 : decode (mB m62) 792 = .ok (.iload 16, 2) := by decide +kernel
theorem d62_794 : decode (mB m62) 794 = .ok (.invokevirtual 49, 3) := by decide +kernel
theorem d62_797 : decode (mB m62) 797 = .ok (.pop, 1) := by decide +kernel
theorem d62_798 : decode (mB m62) 798 = .ok (.goto 45, 3) := by decide +kernel
theorem d62_801 : decode (mB m62) 801 = .ok (.iload 11, 2) := by decide +kernel
theorem d62_803 : decode (mB m62) 803 = .ok (.iconst 4, 1) := by decide +kernel
theorem d62_804 : decode (mB m62) 804 = .ok (.if_icmp .ne 14, 3) := by decide +kernel
theorem d62_807 : decode (mB m62) 807 = .ok (.aload 5, 2) := by decide +kernel
theorem d62_809 : decode (mB m62) 809 = .ok (.iload 14, 2) := by decide +kernel
theorem d62_811 : decode (mB m62) 811 = .ok (.invokevirtual 53, 3) := by decide +kernel
theorem d62_814 : decode (mB m62) 814 = .ok (.pop, 1) := by decide +kernel
theorem d62_815 : decode (mB m62) 815 = .ok (.goto 28, 3) := by decide +kernel
theorem d62_818 : decode (mB m62) 818 = .ok (.iload 11, 2) := by decide +kernel
theorem d62_820 : decode (mB m62) 820 = .ok (.bipush 6, 2) := by decide +kernel
theorem d62_822 : decode (mB m62) 822 = .ok (.if_icmp .ne 15, 3) := by decide +kernel
theorem d62_825 : decode (mB m62) 825 = .ok (.aload 5, 2) := by decide +kernel
theorem d62_827 : decode (mB m62) 827 = .ok (.invokevirtual 56, 3) := by decide +kernel
theorem d62_830 : decode (mB m62) 830 = .ok (.pop, 1) := by decide +kernel
theorem d62_831 : decode (mB m62) 831 = .ok (.iconst 1, 1) := by decide +kernel
theorem d62_832 : decode (mB m62) 832 = .ok (.istore 6, 2) := by decide +kernel
theorem d62_834 : decode (mB m62) 834 = .ok (.goto 9, 3) := by decide +kernel
theorem d62_837 : decode (mB m62) 837 = .ok (.aload 5, 2) := by decide +kernel
theorem d62_839 : decode (mB m62) 839 = .ok (.invokevirtual 59, 3) := by decide +kernel
theorem d62_842 : decode (mB m62) 842 = .ok (.pop, 1) := by decide +kernel
theorem d62_843 : decode (mB m62) 843 = .ok (.iinc 7 3, 3) := by decide +kernel
theorem d62_846 : decode (mB m62) 846 = .ok (.goto (-780), 3) := by decide +kernel
theorem cb_m8 : (-8 : Int32) = (Int8.ofInt (-8)).toInt32 := by decide
theorem cb_m7 : (-7 : Int32) = (Int8.ofInt (-7)).toInt32 := by decide
theorem cb_m6 : (-6 : Int32) = (Int8.ofInt (-6)).toInt32 := by decide
theorem cb_m5 : (-5 : Int32) = (Int8.ofInt (-5)).toInt32 := by decide
theorem cb_m4 : (-4 : Int32) = (Int8.ofInt (-4)).toInt32 := by decide
theorem cb_m3 : (-3 : Int32) = (Int8.ofInt (-3)).toInt32 := by decide
theorem cb_m2 : (-2 : Int32) = (Int8.ofInt (-2)).toInt32 := by decide
theorem cb_6 : (6 : Int32) = (Int8.ofInt (6)).toInt32 := by decide
theorem cb_7 : (7 : Int32) = (Int8.ofInt (7)).toInt32 := by decide
theorem cb_15 : (15 : Int32) = (Int8.ofInt (15)).toInt32 := by decide
theorem cb_16 : (16 : Int32) = (Int8.ofInt (16)).toInt32 := by decide
theorem cb_31 : (31 : Int32) = (Int8.ofInt (31)).toInt32 := by decide
theorem cb_64 : (64 : Int32) = (Int8.ofInt (64)).toInt32 := by decide
theorem ci_m1 : (-1 : Int32) = Int32.ofInt (-1) := by decide
theorem ci_0 : (0 : Int32) = Int32.ofInt (0) := by decide
theorem ci_1 : (1 : Int32) = Int32.ofInt (1) := by decide
theorem ci_2 : (2 : Int32) = Int32.ofInt (2) := by decide
theorem ci_3 : (3 : Int32) = Int32.ofInt (3) := by decide
theorem ci_4 : (4 : Int32) = Int32.ofInt (4) := by decide
theorem cl_0 : (0 : Int64) = Int64.ofNat ((0 : Fin 2)) := by decide
theorem cl_1 : (1 : Int64) = Int64.ofNat ((1 : Fin 2)) := by decide
theorem cs_256 : (256 : Int32) = (Int16.ofInt (256)).toInt32 := by decide
theorem j_1_9 : 0 ≤ ((1 : Nat) : Int) + (9) ∧ (((1 : Nat) : Int) + (9)).toNat = 10 := by decide
theorem j_1_15 : 0 ≤ ((1 : Nat) : Int) + (15) ∧ (((1 : Nat) : Int) + (15)).toNat = 16 := by decide
theorem j_2_4 : 0 ≤ ((2 : Nat) : Int) + (4) ∧ (((2 : Nat) : Int) + (4)).toNat = 6 := by decide
theorem j_2_5 : 0 ≤ ((2 : Nat) : Int) + (5) ∧ (((2 : Nat) : Int) + (5)).toNat = 7 := by decide
theorem j_3_9 : 0 ≤ ((3 : Nat) : Int) + (9) ∧ (((3 : Nat) : Int) + (9)).toNat = 12 := by decide
theorem j_4_4 : 0 ≤ ((4 : Nat) : Int) + (4) ∧ (((4 : Nat) : Int) + (4)).toNat = 8 := by decide
theorem j_4_5 : 0 ≤ ((4 : Nat) : Int) + (5) ∧ (((4 : Nat) : Int) + (5)).toNat = 9 := by decide
theorem j_4_6 : 0 ≤ ((4 : Nat) : Int) + (6) ∧ (((4 : Nat) : Int) + (6)).toNat = 10 := by decide
theorem j_5_4 : 0 ≤ ((5 : Nat) : Int) + (4) ∧ (((5 : Nat) : Int) + (4)).toNat = 9 := by decide
theorem j_5_5 : 0 ≤ ((5 : Nat) : Int) + (5) ∧ (((5 : Nat) : Int) + (5)).toNat = 10 := by decide
theorem j_5_6 : 0 ≤ ((5 : Nat) : Int) + (6) ∧ (((5 : Nat) : Int) + (6)).toNat = 11 := by decide
theorem j_5_16 : 0 ≤ ((5 : Nat) : Int) + (16) ∧ (((5 : Nat) : Int) + (16)).toNat = 21 := by decide
theorem j_5_17 : 0 ≤ ((5 : Nat) : Int) + (17) ∧ (((5 : Nat) : Int) + (17)).toNat = 22 := by decide
theorem j_5_26 : 0 ≤ ((5 : Nat) : Int) + (26) ∧ (((5 : Nat) : Int) + (26)).toNat = 31 := by decide
theorem j_5_28 : 0 ≤ ((5 : Nat) : Int) + (28) ∧ (((5 : Nat) : Int) + (28)).toNat = 33 := by decide
theorem j_5_44 : 0 ≤ ((5 : Nat) : Int) + (44) ∧ (((5 : Nat) : Int) + (44)).toNat = 49 := by decide
theorem j_5_51 : 0 ≤ ((5 : Nat) : Int) + (51) ∧ (((5 : Nat) : Int) + (51)).toNat = 56 := by decide
theorem j_5_56 : 0 ≤ ((5 : Nat) : Int) + (56) ∧ (((5 : Nat) : Int) + (56)).toNat = 61 := by decide
theorem j_6_4 : 0 ≤ ((6 : Nat) : Int) + (4) ∧ (((6 : Nat) : Int) + (4)).toNat = 10 := by decide
theorem j_7_4 : 0 ≤ ((7 : Nat) : Int) + (4) ∧ (((7 : Nat) : Int) + (4)).toNat = 11 := by decide
theorem j_7_5 : 0 ≤ ((7 : Nat) : Int) + (5) ∧ (((7 : Nat) : Int) + (5)).toNat = 12 := by decide
theorem j_7_20 : 0 ≤ ((7 : Nat) : Int) + (20) ∧ (((7 : Nat) : Int) + (20)).toNat = 27 := by decide
theorem j_7_29 : 0 ≤ ((7 : Nat) : Int) + (29) ∧ (((7 : Nat) : Int) + (29)).toNat = 36 := by decide
theorem j_7_38 : 0 ≤ ((7 : Nat) : Int) + (38) ∧ (((7 : Nat) : Int) + (38)).toNat = 45 := by decide
theorem j_7_60 : 0 ≤ ((7 : Nat) : Int) + (60) ∧ (((7 : Nat) : Int) + (60)).toNat = 67 := by decide
theorem j_8_5 : 0 ≤ ((8 : Nat) : Int) + (5) ∧ (((8 : Nat) : Int) + (5)).toNat = 13 := by decide
theorem j_8_7 : 0 ≤ ((8 : Nat) : Int) + (7) ∧ (((8 : Nat) : Int) + (7)).toNat = 15 := by decide
theorem j_8_12 : 0 ≤ ((8 : Nat) : Int) + (12) ∧ (((8 : Nat) : Int) + (12)).toNat = 20 := by decide
theorem j_9_4 : 0 ≤ ((9 : Nat) : Int) + (4) ∧ (((9 : Nat) : Int) + (4)).toNat = 13 := by decide
theorem j_9_5 : 0 ≤ ((9 : Nat) : Int) + (5) ∧ (((9 : Nat) : Int) + (5)).toNat = 14 := by decide
theorem j_9_7 : 0 ≤ ((9 : Nat) : Int) + (7) ∧ (((9 : Nat) : Int) + (7)).toNat = 16 := by decide
theorem j_9_36 : 0 ≤ ((9 : Nat) : Int) + (36) ∧ (((9 : Nat) : Int) + (36)).toNat = 45 := by decide
theorem j_11_4 : 0 ≤ ((11 : Nat) : Int) + (4) ∧ (((11 : Nat) : Int) + (4)).toNat = 15 := by decide
theorem j_11_6 : 0 ≤ ((11 : Nat) : Int) + (6) ∧ (((11 : Nat) : Int) + (6)).toNat = 17 := by decide
theorem j_11_33 : 0 ≤ ((11 : Nat) : Int) + (33) ∧ (((11 : Nat) : Int) + (33)).toNat = 44 := by decide
theorem j_12_4 : 0 ≤ ((12 : Nat) : Int) + (4) ∧ (((12 : Nat) : Int) + (4)).toNat = 16 := by decide
theorem j_12_5 : 0 ≤ ((12 : Nat) : Int) + (5) ∧ (((12 : Nat) : Int) + (5)).toNat = 17 := by decide
theorem j_12_22 : 0 ≤ ((12 : Nat) : Int) + (22) ∧ (((12 : Nat) : Int) + (22)).toNat = 34 := by decide
theorem j_12_49 : 0 ≤ ((12 : Nat) : Int) + (49) ∧ (((12 : Nat) : Int) + (49)).toNat = 61 := by decide
theorem j_13_4 : 0 ≤ ((13 : Nat) : Int) + (4) ∧ (((13 : Nat) : Int) + (4)).toNat = 17 := by decide
theorem j_14_4 : 0 ≤ ((14 : Nat) : Int) + (4) ∧ (((14 : Nat) : Int) + (4)).toNat = 18 := by decide
theorem j_14_7 : 0 ≤ ((14 : Nat) : Int) + (7) ∧ (((14 : Nat) : Int) + (7)).toNat = 21 := by decide
theorem j_14_8 : 0 ≤ ((14 : Nat) : Int) + (8) ∧ (((14 : Nat) : Int) + (8)).toNat = 22 := by decide
theorem j_14_17 : 0 ≤ ((14 : Nat) : Int) + (17) ∧ (((14 : Nat) : Int) + (17)).toNat = 31 := by decide
theorem j_15_4 : 0 ≤ ((15 : Nat) : Int) + (4) ∧ (((15 : Nat) : Int) + (4)).toNat = 19 := by decide
theorem j_15_5 : 0 ≤ ((15 : Nat) : Int) + (5) ∧ (((15 : Nat) : Int) + (5)).toNat = 20 := by decide
theorem j_15_6 : 0 ≤ ((15 : Nat) : Int) + (6) ∧ (((15 : Nat) : Int) + (6)).toNat = 21 := by decide
theorem j_16_5 : 0 ≤ ((16 : Nat) : Int) + (5) ∧ (((16 : Nat) : Int) + (5)).toNat = 21 := by decide
theorem j_16_6 : 0 ≤ ((16 : Nat) : Int) + (6) ∧ (((16 : Nat) : Int) + (6)).toNat = 22 := by decide
theorem j_17_4 : 0 ≤ ((17 : Nat) : Int) + (4) ∧ (((17 : Nat) : Int) + (4)).toNat = 21 := by decide
theorem j_17_5 : 0 ≤ ((17 : Nat) : Int) + (5) ∧ (((17 : Nat) : Int) + (5)).toNat = 22 := by decide
theorem j_17_7 : 0 ≤ ((17 : Nat) : Int) + (7) ∧ (((17 : Nat) : Int) + (7)).toNat = 24 := by decide
theorem j_18_m16 : 0 ≤ ((18 : Nat) : Int) + (-16) ∧ (((18 : Nat) : Int) + (-16)).toNat = 2 := by decide
theorem j_18_4 : 0 ≤ ((18 : Nat) : Int) + (4) ∧ (((18 : Nat) : Int) + (4)).toNat = 22 := by decide
theorem j_18_21 : 0 ≤ ((18 : Nat) : Int) + (21) ∧ (((18 : Nat) : Int) + (21)).toNat = 39 := by decide
theorem j_19_5 : 0 ≤ ((19 : Nat) : Int) + (5) ∧ (((19 : Nat) : Int) + (5)).toNat = 24 := by decide
theorem j_19_18 : 0 ≤ ((19 : Nat) : Int) + (18) ∧ (((19 : Nat) : Int) + (18)).toNat = 37 := by decide
theorem j_20_8 : 0 ≤ ((20 : Nat) : Int) + (8) ∧ (((20 : Nat) : Int) + (8)).toNat = 28 := by decide
theorem j_20_18 : 0 ≤ ((20 : Nat) : Int) + (18) ∧ (((20 : Nat) : Int) + (18)).toNat = 38 := by decide
theorem j_21_4 : 0 ≤ ((21 : Nat) : Int) + (4) ∧ (((21 : Nat) : Int) + (4)).toNat = 25 := by decide
theorem j_22_8 : 0 ≤ ((22 : Nat) : Int) + (8) ∧ (((22 : Nat) : Int) + (8)).toNat = 30 := by decide
theorem j_22_17 : 0 ≤ ((22 : Nat) : Int) + (17) ∧ (((22 : Nat) : Int) + (17)).toNat = 39 := by decide
theorem j_22_39 : 0 ≤ ((22 : Nat) : Int) + (39) ∧ (((22 : Nat) : Int) + (39)).toNat = 61 := by decide
theorem j_24_m22 : 0 ≤ ((24 : Nat) : Int) + (-22) ∧ (((24 : Nat) : Int) + (-22)).toNat = 2 := by decide
theorem j_26_6 : 0 ≤ ((26 : Nat) : Int) + (6) ∧ (((26 : Nat) : Int) + (6)).toNat = 32 := by decide
theorem j_26_16 : 0 ≤ ((26 : Nat) : Int) + (16) ∧ (((26 : Nat) : Int) + (16)).toNat = 42 := by decide
theorem j_27_5 : 0 ≤ ((27 : Nat) : Int) + (5) ∧ (((27 : Nat) : Int) + (5)).toNat = 32 := by decide
theorem j_27_6 : 0 ≤ ((27 : Nat) : Int) + (6) ∧ (((27 : Nat) : Int) + (6)).toNat = 33 := by decide
theorem j_27_12 : 0 ≤ ((27 : Nat) : Int) + (12) ∧ (((27 : Nat) : Int) + (12)).toNat = 39 := by decide
theorem j_28_23 : 0 ≤ ((28 : Nat) : Int) + (23) ∧ (((28 : Nat) : Int) + (23)).toNat = 51 := by decide
theorem j_28_37 : 0 ≤ ((28 : Nat) : Int) + (37) ∧ (((28 : Nat) : Int) + (37)).toNat = 65 := by decide
theorem j_29_6 : 0 ≤ ((29 : Nat) : Int) + (6) ∧ (((29 : Nat) : Int) + (6)).toNat = 35 := by decide
theorem j_29_9 : 0 ≤ ((29 : Nat) : Int) + (9) ∧ (((29 : Nat) : Int) + (9)).toNat = 38 := by decide
theorem j_30_m28 : 0 ≤ ((30 : Nat) : Int) + (-28) ∧ (((30 : Nat) : Int) + (-28)).toNat = 2 := by decide
theorem j_30_4 : 0 ≤ ((30 : Nat) : Int) + (4) ∧ (((30 : Nat) : Int) + (4)).toNat = 34 := by decide
theorem j_30_12 : 0 ≤ ((30 : Nat) : Int) + (12) ∧ (((30 : Nat) : Int) + (12)).toNat = 42 := by decide
theorem j_31_m24 : 0 ≤ ((31 : Nat) : Int) + (-24) ∧ (((31 : Nat) : Int) + (-24)).toNat = 7 := by decide
theorem j_31_5 : 0 ≤ ((31 : Nat) : Int) + (5) ∧ (((31 : Nat) : Int) + (5)).toNat = 36 := by decide
theorem j_31_30 : 0 ≤ ((31 : Nat) : Int) + (30) ∧ (((31 : Nat) : Int) + (30)).toNat = 61 := by decide
theorem j_32_16 : 0 ≤ ((32 : Nat) : Int) + (16) ∧ (((32 : Nat) : Int) + (16)).toNat = 48 := by decide
theorem j_33_m31 : 0 ≤ ((33 : Nat) : Int) + (-31) ∧ (((33 : Nat) : Int) + (-31)).toNat = 2 := by decide
theorem j_34_m17 : 0 ≤ ((34 : Nat) : Int) + (-17) ∧ (((34 : Nat) : Int) + (-17)).toNat = 17 := by decide
theorem j_34_31 : 0 ≤ ((34 : Nat) : Int) + (31) ∧ (((34 : Nat) : Int) + (31)).toNat = 65 := by decide
theorem j_37_8 : 0 ≤ ((37 : Nat) : Int) + (8) ∧ (((37 : Nat) : Int) + (8)).toNat = 45 := by decide
theorem j_38_5 : 0 ≤ ((38 : Nat) : Int) + (5) ∧ (((38 : Nat) : Int) + (5)).toNat = 43 := by decide
theorem j_39_m16 : 0 ≤ ((39 : Nat) : Int) + (-16) ∧ (((39 : Nat) : Int) + (-16)).toNat = 23 := by decide
theorem j_39_5 : 0 ≤ ((39 : Nat) : Int) + (5) ∧ (((39 : Nat) : Int) + (5)).toNat = 44 := by decide
theorem j_39_6 : 0 ≤ ((39 : Nat) : Int) + (6) ∧ (((39 : Nat) : Int) + (6)).toNat = 45 := by decide
theorem j_40_6 : 0 ≤ ((40 : Nat) : Int) + (6) ∧ (((40 : Nat) : Int) + (6)).toNat = 46 := by decide
theorem j_40_15 : 0 ≤ ((40 : Nat) : Int) + (15) ∧ (((40 : Nat) : Int) + (15)).toNat = 55 := by decide
theorem j_41_m35 : 0 ≤ ((41 : Nat) : Int) + (-35) ∧ (((41 : Nat) : Int) + (-35)).toNat = 6 := by decide
theorem j_41_5 : 0 ≤ ((41 : Nat) : Int) + (5) ∧ (((41 : Nat) : Int) + (5)).toNat = 46 := by decide
theorem j_41_7 : 0 ≤ ((41 : Nat) : Int) + (7) ∧ (((41 : Nat) : Int) + (7)).toNat = 48 := by decide
theorem j_42_m40 : 0 ≤ ((42 : Nat) : Int) + (-40) ∧ (((42 : Nat) : Int) + (-40)).toNat = 2 := by decide
theorem j_42_m38 : 0 ≤ ((42 : Nat) : Int) + (-38) ∧ (((42 : Nat) : Int) + (-38)).toNat = 4 := by decide
theorem j_45_4 : 0 ≤ ((45 : Nat) : Int) + (4) ∧ (((45 : Nat) : Int) + (4)).toNat = 49 := by decide
theorem j_46_m44 : 0 ≤ ((46 : Nat) : Int) + (-44) ∧ (((46 : Nat) : Int) + (-44)).toNat = 2 := by decide
theorem j_48_m25 : 0 ≤ ((48 : Nat) : Int) + (-25) ∧ (((48 : Nat) : Int) + (-25)).toNat = 23 := by decide
theorem j_49_7 : 0 ≤ ((49 : Nat) : Int) + (7) ∧ (((49 : Nat) : Int) + (7)).toNat = 56 := by decide
theorem j_49_8 : 0 ≤ ((49 : Nat) : Int) + (8) ∧ (((49 : Nat) : Int) + (8)).toNat = 57 := by decide
theorem j_49_10 : 0 ≤ ((49 : Nat) : Int) + (10) ∧ (((49 : Nat) : Int) + (10)).toNat = 59 := by decide
theorem j_53_m51 : 0 ≤ ((53 : Nat) : Int) + (-51) ∧ (((53 : Nat) : Int) + (-51)).toNat = 2 := by decide
theorem j_53_4 : 0 ≤ ((53 : Nat) : Int) + (4) ∧ (((53 : Nat) : Int) + (4)).toNat = 57 := by decide
theorem j_53_8 : 0 ≤ ((53 : Nat) : Int) + (8) ∧ (((53 : Nat) : Int) + (8)).toNat = 61 := by decide
theorem j_55_6 : 0 ≤ ((55 : Nat) : Int) + (6) ∧ (((55 : Nat) : Int) + (6)).toNat = 61 := by decide
theorem j_56_6 : 0 ≤ ((56 : Nat) : Int) + (6) ∧ (((56 : Nat) : Int) + (6)).toNat = 62 := by decide
theorem j_58_m56 : 0 ≤ ((58 : Nat) : Int) + (-56) ∧ (((58 : Nat) : Int) + (-56)).toNat = 2 := by decide
theorem j_62_m39 : 0 ≤ ((62 : Nat) : Int) + (-39) ∧ (((62 : Nat) : Int) + (-39)).toNat = 23 := by decide
theorem j_63_23 : 0 ≤ ((63 : Nat) : Int) + (23) ∧ (((63 : Nat) : Int) + (23)).toNat = 86 := by decide
theorem j_64_m62 : 0 ≤ ((64 : Nat) : Int) + (-62) ∧ (((64 : Nat) : Int) + (-62)).toNat = 2 := by decide
theorem j_72_8 : 0 ≤ ((72 : Nat) : Int) + (8) ∧ (((72 : Nat) : Int) + (8)).toNat = 80 := by decide
theorem j_75_9 : 0 ≤ ((75 : Nat) : Int) + (9) ∧ (((75 : Nat) : Int) + (9)).toNat = 84 := by decide
theorem j_81_5 : 0 ≤ ((81 : Nat) : Int) + (5) ∧ (((81 : Nat) : Int) + (5)).toNat = 86 := by decide
theorem j_83_m25 : 0 ≤ ((83 : Nat) : Int) + (-25) ∧ (((83 : Nat) : Int) + (-25)).toNat = 58 := by decide
theorem j_96_59 : 0 ≤ ((96 : Nat) : Int) + (59) ∧ (((96 : Nat) : Int) + (59)).toNat = 155 := by decide
theorem j_111_6 : 0 ≤ ((111 : Nat) : Int) + (6) ∧ (((111 : Nat) : Int) + (6)).toNat = 117 := by decide
theorem j_114_35 : 0 ≤ ((114 : Nat) : Int) + (35) ∧ (((114 : Nat) : Int) + (35)).toNat = 149 := by decide
theorem j_119_19 : 0 ≤ ((119 : Nat) : Int) + (19) ∧ (((119 : Nat) : Int) + (19)).toNat = 138 := by decide
theorem j_125_13 : 0 ≤ ((125 : Nat) : Int) + (13) ∧ (((125 : Nat) : Int) + (13)).toNat = 138 := by decide
theorem j_135_5 : 0 ≤ ((135 : Nat) : Int) + (5) ∧ (((135 : Nat) : Int) + (5)).toNat = 140 := by decide
theorem j_152_m60 : 0 ≤ ((152 : Nat) : Int) + (-60) ∧ (((152 : Nat) : Int) + (-60)).toNat = 92 := by decide
theorem j_161_86 : 0 ≤ ((161 : Nat) : Int) + (86) ∧ (((161 : Nat) : Int) + (86)).toNat = 247 := by decide
theorem j_171_15 : 0 ≤ ((171 : Nat) : Int) + (15) ∧ (((171 : Nat) : Int) + (15)).toNat = 186 := by decide
theorem j_181_60 : 0 ≤ ((181 : Nat) : Int) + (60) ∧ (((181 : Nat) : Int) + (60)).toNat = 241 := by decide
theorem j_192_49 : 0 ≤ ((192 : Nat) : Int) + (49) ∧ (((192 : Nat) : Int) + (49)).toNat = 241 := by decide
theorem j_209_26 : 0 ≤ ((209 : Nat) : Int) + (26) ∧ (((209 : Nat) : Int) + (26)).toNat = 235 := by decide
theorem j_214_19 : 0 ≤ ((214 : Nat) : Int) + (19) ∧ (((214 : Nat) : Int) + (19)).toNat = 233 := by decide
theorem j_220_13 : 0 ≤ ((220 : Nat) : Int) + (13) ∧ (((220 : Nat) : Int) + (13)).toNat = 233 := by decide
theorem j_230_5 : 0 ≤ ((230 : Nat) : Int) + (5) ∧ (((230 : Nat) : Int) + (5)).toNat = 235 := by decide
theorem j_238_m49 : 0 ≤ ((238 : Nat) : Int) + (-49) ∧ (((238 : Nat) : Int) + (-49)).toNat = 189 := by decide
theorem j_244_m86 : 0 ≤ ((244 : Nat) : Int) + (-86) ∧ (((244 : Nat) : Int) + (-86)).toNat = 158 := by decide
theorem j_253_116 : 0 ≤ ((253 : Nat) : Int) + (116) ∧ (((253 : Nat) : Int) + (116)).toNat = 369 := by decide
theorem j_263_6 : 0 ≤ ((263 : Nat) : Int) + (6) ∧ (((263 : Nat) : Int) + (6)).toNat = 269 := by decide
theorem j_266_97 : 0 ≤ ((266 : Nat) : Int) + (97) ∧ (((266 : Nat) : Int) + (97)).toNat = 363 := by decide
theorem j_278_54 : 0 ≤ ((278 : Nat) : Int) + (54) ∧ (((278 : Nat) : Int) + (54)).toNat = 332 := by decide
theorem j_288_6 : 0 ≤ ((288 : Nat) : Int) + (6) ∧ (((288 : Nat) : Int) + (6)).toNat = 294 := by decide
theorem j_291_35 : 0 ≤ ((291 : Nat) : Int) + (35) ∧ (((291 : Nat) : Int) + (35)).toNat = 326 := by decide
theorem j_300_26 : 0 ≤ ((300 : Nat) : Int) + (26) ∧ (((300 : Nat) : Int) + (26)).toNat = 326 := by decide
theorem j_314_6 : 0 ≤ ((314 : Nat) : Int) + (6) ∧ (((314 : Nat) : Int) + (6)).toNat = 320 := by decide
theorem j_323_m26 : 0 ≤ ((323 : Nat) : Int) + (-26) ∧ (((323 : Nat) : Int) + (-26)).toNat = 297 := by decide
theorem j_329_m54 : 0 ≤ ((329 : Nat) : Int) + (-54) ∧ (((329 : Nat) : Int) + (-54)).toNat = 275 := by decide
theorem j_341_5 : 0 ≤ ((341 : Nat) : Int) + (5) ∧ (((341 : Nat) : Int) + (5)).toNat = 346 := by decide
theorem j_348_15 : 0 ≤ ((348 : Nat) : Int) + (15) ∧ (((348 : Nat) : Int) + (15)).toNat = 363 := by decide
theorem j_358_5 : 0 ≤ ((358 : Nat) : Int) + (5) ∧ (((358 : Nat) : Int) + (5)).toNat = 363 := by decide
theorem j_366_m116 : 0 ≤ ((366 : Nat) : Int) + (-116) ∧ (((366 : Nat) : Int) + (-116)).toNat = 250 := by decide
theorem j_376_5 : 0 ≤ ((376 : Nat) : Int) + (5) ∧ (((376 : Nat) : Int) + (5)).toNat = 381 := by decide
theorem j_383_276 : 0 ≤ ((383 : Nat) : Int) + (276) ∧ (((383 : Nat) : Int) + (276)).toNat = 659 := by decide
theorem j_395_264 : 0 ≤ ((395 : Nat) : Int) + (264) ∧ (((395 : Nat) : Int) + (264)).toNat = 659 := by decide
theorem j_404_59 : 0 ≤ ((404 : Nat) : Int) + (59) ∧ (((404 : Nat) : Int) + (59)).toNat = 463 := by decide
theorem j_414_6 : 0 ≤ ((414 : Nat) : Int) + (6) ∧ (((414 : Nat) : Int) + (6)).toNat = 420 := by decide
theorem j_417_236 : 0 ≤ ((417 : Nat) : Int) + (236) ∧ (((417 : Nat) : Int) + (236)).toNat = 653 := by decide
theorem j_426_34 : 0 ≤ ((426 : Nat) : Int) + (34) ∧ (((426 : Nat) : Int) + (34)).toNat = 460 := by decide
theorem j_442_12 : 0 ≤ ((442 : Nat) : Int) + (12) ∧ (((442 : Nat) : Int) + (12)).toNat = 454 := by decide
theorem j_457_m34 : 0 ≤ ((457 : Nat) : Int) + (-34) ∧ (((457 : Nat) : Int) + (-34)).toNat = 423 := by decide
theorem j_460_10 : 0 ≤ ((460 : Nat) : Int) + (10) ∧ (((460 : Nat) : Int) + (10)).toNat = 470 := by decide
theorem j_476_108 : 0 ≤ ((476 : Nat) : Int) + (108) ∧ (((476 : Nat) : Int) + (108)).toNat = 584 := by decide
theorem j_489_74 : 0 ≤ ((489 : Nat) : Int) + (74) ∧ (((489 : Nat) : Int) + (74)).toNat = 563 := by decide
theorem j_501_56 : 0 ≤ ((501 : Nat) : Int) + (56) ∧ (((501 : Nat) : Int) + (56)).toNat = 557 := by decide
theorem j_511_6 : 0 ≤ ((511 : Nat) : Int) + (6) ∧ (((511 : Nat) : Int) + (6)).toNat = 517 := by decide
theorem j_514_43 : 0 ≤ ((514 : Nat) : Int) + (43) ∧ (((514 : Nat) : Int) + (43)).toNat = 557 := by decide
theorem j_523_34 : 0 ≤ ((523 : Nat) : Int) + (34) ∧ (((523 : Nat) : Int) + (34)).toNat = 557 := by decide
theorem j_539_12 : 0 ≤ ((539 : Nat) : Int) + (12) ∧ (((539 : Nat) : Int) + (12)).toNat = 551 := by decide
theorem j_554_m34 : 0 ≤ ((554 : Nat) : Int) + (-34) ∧ (((554 : Nat) : Int) + (-34)).toNat = 520 := by decide
theorem j_560_m74 : 0 ≤ ((560 : Nat) : Int) + (-74) ∧ (((560 : Nat) : Int) + (-74)).toNat = 486 := by decide
theorem j_568_6 : 0 ≤ ((568 : Nat) : Int) + (6) ∧ (((568 : Nat) : Int) + (6)).toNat = 574 := by decide
theorem j_571_13 : 0 ≤ ((571 : Nat) : Int) + (13) ∧ (((571 : Nat) : Int) + (13)).toNat = 584 := by decide
theorem j_581_m108 : 0 ≤ ((581 : Nat) : Int) + (-108) ∧ (((581 : Nat) : Int) + (-108)).toNat = 473 := by decide
theorem j_587_27 : 0 ≤ ((587 : Nat) : Int) + (27) ∧ (((587 : Nat) : Int) + (27)).toNat = 614 := by decide
theorem j_599_54 : 0 ≤ ((599 : Nat) : Int) + (54) ∧ (((599 : Nat) : Int) + (54)).toNat = 653 := by decide
theorem j_611_42 : 0 ≤ ((611 : Nat) : Int) + (42) ∧ (((611 : Nat) : Int) + (42)).toNat = 653 := by decide
theorem j_620_33 : 0 ≤ ((620 : Nat) : Int) + (33) ∧ (((620 : Nat) : Int) + (33)).toNat = 653 := by decide
theorem j_630_17 : 0 ≤ ((630 : Nat) : Int) + (17) ∧ (((630 : Nat) : Int) + (17)).toNat = 647 := by decide
theorem j_642_5 : 0 ≤ ((642 : Nat) : Int) + (5) ∧ (((642 : Nat) : Int) + (5)).toNat = 647 := by decide
theorem j_650_m33 : 0 ≤ ((650 : Nat) : Int) + (-33) ∧ (((650 : Nat) : Int) + (-33)).toNat = 617 := by decide
theorem j_656_m264 : 0 ≤ ((656 : Nat) : Int) + (-264) ∧ (((656 : Nat) : Int) + (-264)).toNat = 392 := by decide
theorem j_663_5 : 0 ≤ ((663 : Nat) : Int) + (5) ∧ (((663 : Nat) : Int) + (5)).toNat = 668 := by decide
theorem j_743_12 : 0 ≤ ((743 : Nat) : Int) + (12) ∧ (((743 : Nat) : Int) + (12)).toNat = 755 := by decide
theorem j_752_91 : 0 ≤ ((752 : Nat) : Int) + (91) ∧ (((752 : Nat) : Int) + (91)).toNat = 843 := by decide
theorem j_758_16 : 0 ≤ ((758 : Nat) : Int) + (16) ∧ (((758 : Nat) : Int) + (16)).toNat = 774 := by decide
theorem j_771_72 : 0 ≤ ((771 : Nat) : Int) + (72) ∧ (((771 : Nat) : Int) + (72)).toNat = 843 := by decide
theorem j_777_9 : 0 ≤ ((777 : Nat) : Int) + (9) ∧ (((777 : Nat) : Int) + (9)).toNat = 786 := by decide
theorem j_783_18 : 0 ≤ ((783 : Nat) : Int) + (18) ∧ (((783 : Nat) : Int) + (18)).toNat = 801 := by decide
theorem j_798_45 : 0 ≤ ((798 : Nat) : Int) + (45) ∧ (((798 : Nat) : Int) + (45)).toNat = 843 := by decide
theorem j_804_14 : 0 ≤ ((804 : Nat) : Int) + (14) ∧ (((804 : Nat) : Int) + (14)).toNat = 818 := by decide
theorem j_815_28 : 0 ≤ ((815 : Nat) : Int) + (28) ∧ (((815 : Nat) : Int) + (28)).toNat = 843 := by decide
theorem j_822_15 : 0 ≤ ((822 : Nat) : Int) + (15) ∧ (((822 : Nat) : Int) + (15)).toNat = 837 := by decide
theorem j_834_9 : 0 ≤ ((834 : Nat) : Int) + (9) ∧ (((834 : Nat) : Int) + (9)).toNat = 843 := by decide
theorem j_846_m780 : 0 ≤ ((846 : Nat) : Int) + (-780) ∧ (((846 : Nat) : Int) + (-780)).toNat = 66 := by decide
theorem lk_0_44 : LinkS PP "DeferredCountY" 44 m1 := ⟨List.mem_of_getElem? (i := 37) rfl, List.mem_of_getElem? (i := 38) rfl, List.mem_of_getElem? (i := 6) rfl, List.mem_of_getElem? (i := 39) rfl, by decide⟩
theorem lk_0_61 : LinkP PP "DeferredCountY" 61 m3 := ⟨List.mem_of_getElem? (i := 48) rfl, List.mem_of_getElem? (i := 49) rfl, List.mem_of_getElem? (i := 50) rfl, List.mem_of_getElem? (i := 51) rfl, rfl, rfl⟩
theorem lk_0_64 : LinkP PP "DeferredCountY" 64 m4 := ⟨List.mem_of_getElem? (i := 58) rfl, List.mem_of_getElem? (i := 59) rfl, List.mem_of_getElem? (i := 60) rfl, List.mem_of_getElem? (i := 61) rfl, rfl, rfl⟩
theorem lk_0_67 : LinkP PP "DeferredCountY" 67 m5 := ⟨List.mem_of_getElem? (i := 64) rfl, List.mem_of_getElem? (i := 65) rfl, List.mem_of_getElem? (i := 66) rfl, List.mem_of_getElem? (i := 67) rfl, rfl, rfl⟩
theorem lk_0_70 : LinkP PP "DeferredCountY" 70 m6 := ⟨List.mem_of_getElem? (i := 70) rfl, List.mem_of_getElem? (i := 71) rfl, List.mem_of_getElem? (i := 72) rfl, List.mem_of_getElem? (i := 73) rfl, rfl, rfl⟩
theorem lk_0_76 : LinkP PP "DeferredCountY" 76 m21 := ⟨List.mem_of_getElem? (i := 132) rfl, List.mem_of_getElem? (i := 133) rfl, List.mem_of_getElem? (i := 134) rfl, List.mem_of_getElem? (i := 135) rfl, rfl, rfl⟩
theorem lk_0_80 : LinkP PP "DeferredCountY" 80 m24 := ⟨List.mem_of_getElem? (i := 141) rfl, List.mem_of_getElem? (i := 142) rfl, List.mem_of_getElem? (i := 143) rfl, List.mem_of_getElem? (i := 144) rfl, rfl, rfl⟩
theorem lk_0_83 : LinkP PP "DeferredCountY" 83 m40 := ⟨List.mem_of_getElem? (i := 233) rfl, List.mem_of_getElem? (i := 234) rfl, List.mem_of_getElem? (i := 235) rfl, List.mem_of_getElem? (i := 236) rfl, rfl, rfl⟩
theorem lk_0_87 : LinkP PP "DeferredCountY" 87 m41 := ⟨List.mem_of_getElem? (i := 153) rfl, List.mem_of_getElem? (i := 154) rfl, List.mem_of_getElem? (i := 155) rfl, List.mem_of_getElem? (i := 156) rfl, rfl, rfl⟩
theorem lk_0_90 : LinkP PP "DeferredCountY" 90 m44 := ⟨List.mem_of_getElem? (i := 157) rfl, List.mem_of_getElem? (i := 158) rfl, List.mem_of_getElem? (i := 159) rfl, List.mem_of_getElem? (i := 160) rfl, rfl, rfl⟩
theorem lk_0_94 : LinkP PP "DeferredCountY" 94 m46 := ⟨List.mem_of_getElem? (i := 128) rfl, List.mem_of_getElem? (i := 129) rfl, List.mem_of_getElem? (i := 130) rfl, List.mem_of_getElem? (i := 131) rfl, rfl, rfl⟩
theorem lk_0_98 : LinkP PP "DeferredCountY" 98 m17 := ⟨List.mem_of_getElem? (i := 187) rfl, List.mem_of_getElem? (i := 188) rfl, List.mem_of_getElem? (i := 189) rfl, List.mem_of_getElem? (i := 190) rfl, rfl, rfl⟩
theorem lk_0_101 : LinkP PP "DeferredCountY" 101 m43 := ⟨List.mem_of_getElem? (i := 169) rfl, List.mem_of_getElem? (i := 170) rfl, List.mem_of_getElem? (i := 171) rfl, List.mem_of_getElem? (i := 172) rfl, rfl, rfl⟩
theorem lk_0_104 : LinkP PP "DeferredCountY" 104 m49 := ⟨List.mem_of_getElem? (i := 115) rfl, List.mem_of_getElem? (i := 116) rfl, List.mem_of_getElem? (i := 117) rfl, List.mem_of_getElem? (i := 118) rfl, rfl, rfl⟩
theorem lk_0_107 : LinkP PP "DeferredCountY" 107 m50 := ⟨List.mem_of_getElem? (i := 200) rfl, List.mem_of_getElem? (i := 201) rfl, List.mem_of_getElem? (i := 202) rfl, List.mem_of_getElem? (i := 203) rfl, rfl, rfl⟩
theorem lk_0_111 : LinkP PP "DeferredCountY" 111 m51 := ⟨List.mem_of_getElem? (i := 204) rfl, List.mem_of_getElem? (i := 205) rfl, List.mem_of_getElem? (i := 206) rfl, List.mem_of_getElem? (i := 207) rfl, rfl, rfl⟩
theorem lk_0_115 : LinkP PP "DeferredCountY" 115 m54 := ⟨List.mem_of_getElem? (i := 208) rfl, List.mem_of_getElem? (i := 209) rfl, List.mem_of_getElem? (i := 210) rfl, List.mem_of_getElem? (i := 211) rfl, rfl, rfl⟩
theorem lk_0_119 : LinkP PP "DeferredCountY" 119 m55 := ⟨List.mem_of_getElem? (i := 224) rfl, List.mem_of_getElem? (i := 225) rfl, List.mem_of_getElem? (i := 226) rfl, List.mem_of_getElem? (i := 227) rfl, rfl, rfl⟩
theorem lk_0_122 : LinkP PP "DeferredCountY" 122 m57 := ⟨List.mem_of_getElem? (i := 291) rfl, List.mem_of_getElem? (i := 292) rfl, List.mem_of_getElem? (i := 293) rfl, List.mem_of_getElem? (i := 294) rfl, rfl, rfl⟩
theorem lk_0_128 : LinkP PP "DeferredCountY" 128 m60 := ⟨List.mem_of_getElem? (i := 282) rfl, List.mem_of_getElem? (i := 283) rfl, List.mem_of_getElem? (i := 284) rfl, List.mem_of_getElem? (i := 285) rfl, rfl, rfl⟩
theorem lk_0_131 : LinkP PP "DeferredCountY" 131 m9 := ⟨List.mem_of_getElem? (i := 119) rfl, List.mem_of_getElem? (i := 120) rfl, List.mem_of_getElem? (i := 121) rfl, List.mem_of_getElem? (i := 122) rfl, rfl, rfl⟩
theorem lk_0_135 : LinkP PP "DeferredCountY" 135 m12 := ⟨List.mem_of_getElem? (i := 88) rfl, List.mem_of_getElem? (i := 89) rfl, List.mem_of_getElem? (i := 90) rfl, List.mem_of_getElem? (i := 91) rfl, rfl, rfl⟩
theorem lk_0_138 : LinkP PP "DeferredCountY" 138 m16 := ⟨List.mem_of_getElem? (i := 183) rfl, List.mem_of_getElem? (i := 184) rfl, List.mem_of_getElem? (i := 185) rfl, List.mem_of_getElem? (i := 186) rfl, rfl, rfl⟩
theorem lk_0_141 : LinkP PP "DeferredCountY" 141 m14 := ⟨List.mem_of_getElem? (i := 101) rfl, List.mem_of_getElem? (i := 102) rfl, List.mem_of_getElem? (i := 103) rfl, List.mem_of_getElem? (i := 104) rfl, rfl, rfl⟩
theorem lk_0_150 : LinkP PP "DeferredCountY" 150 m48 := ⟨List.mem_of_getElem? (i := 196) rfl, List.mem_of_getElem? (i := 197) rfl, List.mem_of_getElem? (i := 198) rfl, List.mem_of_getElem? (i := 199) rfl, rfl, rfl⟩
theorem lk_0_153 : LinkP PP "DeferredCountY" 153 m22 := ⟨List.mem_of_getElem? (i := 145) rfl, List.mem_of_getElem? (i := 146) rfl, List.mem_of_getElem? (i := 147) rfl, List.mem_of_getElem? (i := 148) rfl, rfl, rfl⟩
theorem lk_0_156 : LinkP PP "DeferredCountY" 156 m23 := ⟨List.mem_of_getElem? (i := 149) rfl, List.mem_of_getElem? (i := 150) rfl, List.mem_of_getElem? (i := 151) rfl, List.mem_of_getElem? (i := 152) rfl, rfl, rfl⟩
theorem lk_0_159 : LinkP PP "DeferredCountY" 159 m42 := ⟨List.mem_of_getElem? (i := 161) rfl, List.mem_of_getElem? (i := 162) rfl, List.mem_of_getElem? (i := 163) rfl, List.mem_of_getElem? (i := 164) rfl, rfl, rfl⟩
theorem lk_0_162 : LinkP PP "DeferredCountY" 162 m38 := ⟨List.mem_of_getElem? (i := 165) rfl, List.mem_of_getElem? (i := 166) rfl, List.mem_of_getElem? (i := 167) rfl, List.mem_of_getElem? (i := 168) rfl, rfl, rfl⟩
theorem lk_0_165 : LinkP PP "DeferredCountY" 165 m11 := ⟨List.mem_of_getElem? (i := 92) rfl, List.mem_of_getElem? (i := 93) rfl, List.mem_of_getElem? (i := 94) rfl, List.mem_of_getElem? (i := 95) rfl, rfl, rfl⟩
theorem lk_0_168 : LinkP PP "DeferredCountY" 168 m52 := ⟨List.mem_of_getElem? (i := 212) rfl, List.mem_of_getElem? (i := 213) rfl, List.mem_of_getElem? (i := 214) rfl, List.mem_of_getElem? (i := 215) rfl, rfl, rfl⟩
theorem lk_0_171 : LinkP PP "DeferredCountY" 171 m35 := ⟨List.mem_of_getElem? (i := 216) rfl, List.mem_of_getElem? (i := 217) rfl, List.mem_of_getElem? (i := 218) rfl, List.mem_of_getElem? (i := 219) rfl, rfl, rfl⟩
theorem lk_0_174 : LinkP PP "DeferredCountY" 174 m53 := ⟨List.mem_of_getElem? (i := 220) rfl, List.mem_of_getElem? (i := 221) rfl, List.mem_of_getElem? (i := 222) rfl, List.mem_of_getElem? (i := 223) rfl, rfl, rfl⟩
theorem lk_0_177 : LinkP PP "DeferredCountY" 177 m25 := ⟨List.mem_of_getElem? (i := 237) rfl, List.mem_of_getElem? (i := 238) rfl, List.mem_of_getElem? (i := 239) rfl, List.mem_of_getElem? (i := 240) rfl, rfl, rfl⟩
theorem lk_0_180 : LinkP PP "DeferredCountY" 180 m27 := ⟨List.mem_of_getElem? (i := 241) rfl, List.mem_of_getElem? (i := 242) rfl, List.mem_of_getElem? (i := 243) rfl, List.mem_of_getElem? (i := 244) rfl, rfl, rfl⟩
theorem lk_0_183 : LinkP PP "DeferredCountY" 183 m30 := ⟨List.mem_of_getElem? (i := 245) rfl, List.mem_of_getElem? (i := 246) rfl, List.mem_of_getElem? (i := 247) rfl, List.mem_of_getElem? (i := 248) rfl, rfl, rfl⟩
theorem lk_0_186 : LinkP PP "DeferredCountY" 186 m32 := ⟨List.mem_of_getElem? (i := 253) rfl, List.mem_of_getElem? (i := 254) rfl, List.mem_of_getElem? (i := 255) rfl, List.mem_of_getElem? (i := 256) rfl, rfl, rfl⟩
theorem lk_0_189 : LinkP PP "DeferredCountY" 189 m34 := ⟨List.mem_of_getElem? (i := 257) rfl, List.mem_of_getElem? (i := 258) rfl, List.mem_of_getElem? (i := 259) rfl, List.mem_of_getElem? (i := 260) rfl, rfl, rfl⟩
theorem lk_0_192 : LinkP PP "DeferredCountY" 192 m37 := ⟨List.mem_of_getElem? (i := 261) rfl, List.mem_of_getElem? (i := 262) rfl, List.mem_of_getElem? (i := 263) rfl, List.mem_of_getElem? (i := 264) rfl, rfl, rfl⟩
theorem lk_0_195 : LinkP PP "DeferredCountY" 195 m39 := ⟨List.mem_of_getElem? (i := 265) rfl, List.mem_of_getElem? (i := 266) rfl, List.mem_of_getElem? (i := 267) rfl, List.mem_of_getElem? (i := 268) rfl, rfl, rfl⟩
theorem lk_0_198 : LinkP PP "DeferredCountY" 198 m26 := ⟨List.mem_of_getElem? (i := 274) rfl, List.mem_of_getElem? (i := 275) rfl, List.mem_of_getElem? (i := 276) rfl, List.mem_of_getElem? (i := 277) rfl, rfl, rfl⟩
theorem lk_0_204 : LinkP PP "DeferredCountY" 204 m28 := ⟨List.mem_of_getElem? (i := 249) rfl, List.mem_of_getElem? (i := 250) rfl, List.mem_of_getElem? (i := 251) rfl, List.mem_of_getElem? (i := 252) rfl, rfl, rfl⟩
theorem lk_0_207 : LinkP PP "DeferredCountY" 207 m29 := ⟨List.mem_of_getElem? (i := 295) rfl, List.mem_of_getElem? (i := 296) rfl, List.mem_of_getElem? (i := 297) rfl, List.mem_of_getElem? (i := 298) rfl, rfl, rfl⟩
theorem lk_0_210 : LinkP PP "DeferredCountY" 210 m31 := ⟨List.mem_of_getElem? (i := 299) rfl, List.mem_of_getElem? (i := 300) rfl, List.mem_of_getElem? (i := 301) rfl, List.mem_of_getElem? (i := 302) rfl, rfl, rfl⟩
theorem lk_0_213 : LinkP PP "DeferredCountY" 213 m33 := ⟨List.mem_of_getElem? (i := 303) rfl, List.mem_of_getElem? (i := 304) rfl, List.mem_of_getElem? (i := 305) rfl, List.mem_of_getElem? (i := 306) rfl, rfl, rfl⟩
theorem lk_0_216 : LinkP PP "DeferredCountY" 216 m36 := ⟨List.mem_of_getElem? (i := 278) rfl, List.mem_of_getElem? (i := 279) rfl, List.mem_of_getElem? (i := 280) rfl, List.mem_of_getElem? (i := 281) rfl, rfl, rfl⟩
theorem lk_0_219 : LinkP PP "DeferredCountY" 219 m2 := ⟨List.mem_of_getElem? (i := 52) rfl, List.mem_of_getElem? (i := 53) rfl, List.mem_of_getElem? (i := 54) rfl, List.mem_of_getElem? (i := 55) rfl, rfl, rfl⟩
theorem lk_1_7 : LinkS PP "DeferredCountYOwnLaw" 7 m0 := ⟨List.mem_of_getElem? (i := 0) rfl, List.mem_of_getElem? (i := 1) rfl, List.mem_of_getElem? (i := 2) rfl, List.mem_of_getElem? (i := 3) rfl, by decide⟩
theorem lk_1_15 : LinkI PP "DeferredCountYOwnLaw" 15 m7 := ⟨List.mem_of_getElem? (i := 7) rfl, List.mem_of_getElem? (i := 8) rfl, List.mem_of_getElem? (i := 9) rfl, rfl, rfl, rfl, rfl⟩
theorem lk_1_18 : LinkV PP "DeferredCountYOwnLaw" 18 m8 := ⟨List.mem_of_getElem? (i := 78) rfl, List.mem_of_getElem? (i := 79) rfl, List.mem_of_getElem? (i := 81) rfl, List.mem_of_getElem? (i := 80) rfl, List.mem_of_getElem? (i := 82) rfl, rfl, rfl⟩
theorem lk_1_22 : LinkV PP "DeferredCountYOwnLaw" 22 m10 := ⟨List.mem_of_getElem? (i := 173) rfl, List.mem_of_getElem? (i := 174) rfl, List.mem_of_getElem? (i := 176) rfl, List.mem_of_getElem? (i := 175) rfl, List.mem_of_getElem? (i := 177) rfl, rfl, rfl⟩
theorem lk_1_26 : LinkV PP "DeferredCountYOwnLaw" 26 m13 := ⟨List.mem_of_getElem? (i := 83) rfl, List.mem_of_getElem? (i := 84) rfl, List.mem_of_getElem? (i := 86) rfl, List.mem_of_getElem? (i := 85) rfl, List.mem_of_getElem? (i := 87) rfl, rfl, rfl⟩
theorem lk_1_30 : LinkV PP "DeferredCountYOwnLaw" 30 m15 := ⟨List.mem_of_getElem? (i := 96) rfl, List.mem_of_getElem? (i := 97) rfl, List.mem_of_getElem? (i := 99) rfl, List.mem_of_getElem? (i := 98) rfl, List.mem_of_getElem? (i := 100) rfl, rfl, rfl⟩
theorem lk_1_33 : LinkV PP "DeferredCountYOwnLaw" 33 m18 := ⟨List.mem_of_getElem? (i := 178) rfl, List.mem_of_getElem? (i := 179) rfl, List.mem_of_getElem? (i := 181) rfl, List.mem_of_getElem? (i := 180) rfl, List.mem_of_getElem? (i := 182) rfl, rfl, rfl⟩
theorem lk_1_37 : LinkV PP "DeferredCountYOwnLaw" 37 m19 := ⟨List.mem_of_getElem? (i := 191) rfl, List.mem_of_getElem? (i := 192) rfl, List.mem_of_getElem? (i := 194) rfl, List.mem_of_getElem? (i := 193) rfl, List.mem_of_getElem? (i := 195) rfl, rfl, rfl⟩
theorem lk_1_40 : LinkV PP "DeferredCountYOwnLaw" 40 m20 := ⟨List.mem_of_getElem? (i := 105) rfl, List.mem_of_getElem? (i := 106) rfl, List.mem_of_getElem? (i := 108) rfl, List.mem_of_getElem? (i := 107) rfl, List.mem_of_getElem? (i := 109) rfl, rfl, rfl⟩
theorem lk_1_43 : LinkV PP "DeferredCountYOwnLaw" 43 m45 := ⟨List.mem_of_getElem? (i := 136) rfl, List.mem_of_getElem? (i := 137) rfl, List.mem_of_getElem? (i := 139) rfl, List.mem_of_getElem? (i := 138) rfl, List.mem_of_getElem? (i := 140) rfl, rfl, rfl⟩
theorem lk_1_46 : LinkV PP "DeferredCountYOwnLaw" 46 m47 := ⟨List.mem_of_getElem? (i := 123) rfl, List.mem_of_getElem? (i := 124) rfl, List.mem_of_getElem? (i := 126) rfl, List.mem_of_getElem? (i := 125) rfl, List.mem_of_getElem? (i := 127) rfl, rfl, rfl⟩
theorem lk_1_49 : LinkV PP "DeferredCountYOwnLaw" 49 m56 := ⟨List.mem_of_getElem? (i := 110) rfl, List.mem_of_getElem? (i := 111) rfl, List.mem_of_getElem? (i := 113) rfl, List.mem_of_getElem? (i := 112) rfl, List.mem_of_getElem? (i := 114) rfl, rfl, rfl⟩
theorem lk_1_53 : LinkV PP "DeferredCountYOwnLaw" 53 m58 := ⟨List.mem_of_getElem? (i := 286) rfl, List.mem_of_getElem? (i := 287) rfl, List.mem_of_getElem? (i := 289) rfl, List.mem_of_getElem? (i := 288) rfl, List.mem_of_getElem? (i := 290) rfl, rfl, rfl⟩
theorem lk_1_56 : LinkV PP "DeferredCountYOwnLaw" 56 m59 := ⟨List.mem_of_getElem? (i := 228) rfl, List.mem_of_getElem? (i := 229) rfl, List.mem_of_getElem? (i := 231) rfl, List.mem_of_getElem? (i := 230) rfl, List.mem_of_getElem? (i := 232) rfl, rfl, rfl⟩
theorem lk_1_59 : LinkV PP "DeferredCountYOwnLaw" 59 m61 := ⟨List.mem_of_getElem? (i := 269) rfl, List.mem_of_getElem? (i := 270) rfl, List.mem_of_getElem? (i := 272) rfl, List.mem_of_getElem? (i := 271) rfl, List.mem_of_getElem? (i := 273) rfl, rfl, rfl⟩
theorem facts1 {Z : State} {a0 : Array Value} (hw : ∀ d ∈ tables_1, d.before a0 Z = true) : Facts Z a0 ci1 := by
  refine ⟨hw _ (List.mem_of_getElem? (i := 5) rfl), hw _ (List.mem_of_getElem? (i := 6) rfl), ?_, ?_, by decide, ?_, by decide⟩
  · intro f x hx
    match f, hx with
    | 0, hx => cases hx; exact ⟨Or.inl (hw _ (List.mem_of_getElem? (i := 41) rfl)), by decide⟩
    | 1, hx => cases hx; exact ⟨Or.inl (hw _ (List.mem_of_getElem? (i := 43) rfl)), by decide⟩
    | 2, hx => cases hx; exact ⟨Or.inl (hw _ (List.mem_of_getElem? (i := 45) rfl)), by decide⟩
    | 3, hx => cases hx; exact ⟨Or.inl (hw _ (List.mem_of_getElem? (i := 47) rfl)), by decide⟩
    | 4, hx => cases hx; exact ⟨Or.inl (hw _ (List.mem_of_getElem? (i := 57) rfl)), by decide⟩
    | 5, hx => cases hx; exact ⟨Or.inl (hw _ (List.mem_of_getElem? (i := 63) rfl)), by decide⟩
    | 6, hx => cases hx; exact ⟨Or.inl (hw _ (List.mem_of_getElem? (i := 69) rfl)), by decide⟩
    | 7, hx => cases hx; exact ⟨Or.inl (hw _ (List.mem_of_getElem? (i := 75) rfl)), by decide⟩
    | 8, hx => cases hx; exact ⟨Or.inl (hw _ (List.mem_of_getElem? (i := 77) rfl)), by decide⟩
    | n + 9, hx => simp [cS, ci1] at hx
  · intro q x hx
    match q, hx with
    | 0, hx => cases hx; exact ⟨Or.inl (hw _ (List.mem_of_getElem? (i := 15) rfl)), by decide⟩
    | 1, hx => cases hx; exact ⟨Or.inl (hw _ (List.mem_of_getElem? (i := 18) rfl)), by decide⟩
    | 2, hx => cases hx; exact ⟨Or.inl (hw _ (List.mem_of_getElem? (i := 20) rfl)), by decide⟩
    | 3, hx => cases hx; exact ⟨Or.inl (hw _ (List.mem_of_getElem? (i := 22) rfl)), by decide⟩
    | 4, hx => cases hx; exact ⟨Or.inl (hw _ (List.mem_of_getElem? (i := 24) rfl)), by decide⟩
    | 5, hx => cases hx; exact ⟨Or.inl (hw _ (List.mem_of_getElem? (i := 26) rfl)), by decide⟩
    | 6, hx => cases hx; exact ⟨Or.inl (hw _ (List.mem_of_getElem? (i := 28) rfl)), by decide⟩
    | 7, hx => cases hx; exact ⟨Or.inl (hw _ (List.mem_of_getElem? (i := 30) rfl)), by decide⟩
    | 8, hx => cases hx; exact ⟨Or.inl (hw _ (List.mem_of_getElem? (i := 32) rfl)), by decide⟩
    | 9, hx => cases hx; exact ⟨Or.inl (hw _ (List.mem_of_getElem? (i := 34) rfl)), by decide⟩
    | 10, hx => cases hx; exact ⟨Or.inl (hw _ (List.mem_of_getElem? (i := 36) rfl)), by decide⟩
    | n + 11, hx => simp [cA, ci1] at hx
  · intro f x hx
    match f, hx with
    | 0, hx => cases hx; rfl
    | 1, hx => cases hx; rfl
    | 2, hx => cases hx; rfl
    | 3, hx => cases hx; rfl
    | 4, hx => cases hx; rfl
    | 5, hx => cases hx; rfl
    | 6, hx => cases hx; rfl
    | 7, hx => cases hx; rfl
    | 8, hx => cases hx; rfl
    | n + 9, hx => simp [cS, ci1] at hx
def k_clamp  (v0 : Int32) (v1 : Int32) (v2 : Int32)  : Int32 :=
  if v0 < v1 then
    v1
  else
    if v2 < v0 then
      v2
    else
      v0
def k_clearCellFields_17  : Nat → Int32 → Int32 → S → Option S
  | 0, _, _, _ => none
  | n + 1, v2, v3, s =>
    if v3 < (4 : Int32) then
      (Jvm.AM.st (gA s 1) (v2 + v3) (-1 : Int32)).bind fun a30 =>
      k_clearCellFields_17 n v2 (v3 + (1 : Int32)) (sA s 1 a30)
    else
      some s
def k_clearCellFields  (v1 : Int32) (s : S) : Option S :=
  if v1 < 0 then
    some s
  else
    if v1 < (64 : Int32) then
      k_clearCellFields_17 BIG (v1 * (4 : Int32)) (0 : Int32) s
    else
      some s
def k_resetHeap_33   (s : S) : Option S :=
  some (sI s 4 (0 : Int32))
def k_resetHeap_2  : Nat → Int32 → S → Option S
  | 0, _, _ => none
  | n + 1, v1, s =>
    if v1 < (64 : Int32) then
      (Jvm.AM.st (gA s 0) v1 (0 : Int32)).bind fun a14 =>
      (Jvm.AM.st (gA s 2) v1 (0 : Int32)).bind fun a21 =>
      (k_clearCellFields v1 (sA (sA s 0 a14) 2 a21)).bind fun r24 =>
      k_resetHeap_2 n (v1 + (1 : Int32)) r24
    else
      k_resetHeap_33 s
def k_resetHeap   (s : S) : Option S :=
  k_resetHeap_2 BIG (0 : Int32) s
def k_resetRoots_21   (s : S) : Option S :=
  some (sI s 5 (0 : Int32))
def k_resetRoots_2  : Nat → Int32 → S → Option S
  | 0, _, _ => none
  | n + 1, v1, s =>
    if v1 < (16 : Int32) then
      (Jvm.AM.st (gA s 3) v1 (-1 : Int32)).bind fun a14 =>
      k_resetRoots_2 n (v1 + (1 : Int32)) (sA s 3 a14)
    else
      k_resetRoots_21 s
def k_resetRoots   (s : S) : Option S :=
  k_resetRoots_2 BIG (0 : Int32) s
def k_resetTable_42   (s : S) : Option S :=
  some (sI s 6 (0 : Int32))
def k_resetTable_23  : Nat → Int32 → S → Option S
  | 0, _, _ => none
  | n + 1, v1, s =>
    if v1 < (64 : Int32) then
      (Jvm.AM.st (gA s 5) v1 (-1 : Int32)).bind fun a35 =>
      k_resetTable_23 n (v1 + (1 : Int32)) (sA s 5 a35)
    else
      k_resetTable_42 s
def k_resetTable_21   (s : S) : Option S :=
  k_resetTable_23 BIG (0 : Int32) s
def k_resetTable_2  : Nat → Int32 → S → Option S
  | 0, _, _ => none
  | n + 1, v1, s =>
    if v1 < (64 : Int32) then
      (Jvm.AM.st (gA s 4) v1 (-1 : Int32)).bind fun a14 =>
      k_resetTable_2 n (v1 + (1 : Int32)) (sA s 4 a14)
    else
      k_resetTable_21 s
def k_resetTable   (s : S) : Option S :=
  k_resetTable_2 BIG (0 : Int32) s
def k_resetScratch_49   (s : S) : Option S :=
  some (sI s 7 (0 : Int32))
def k_resetScratch_2  : Nat → Int32 → S → Option S
  | 0, _, _ => none
  | n + 1, v1, s =>
    if v1 < (64 : Int32) then
      (Jvm.AM.st (gA s 6) v1 (0 : Int32)).bind fun a14 =>
      (Jvm.AM.st (gA s 7) v1 (0 : Int32)).bind fun a21 =>
      (Jvm.AM.st (gA s 8) v1 (0 : Int32)).bind fun a28 =>
      (Jvm.AM.st (gA s 9) v1 (0 : Int32)).bind fun a35 =>
      (Jvm.AM.st (gA s 10) v1 (-1 : Int32)).bind fun a42 =>
      k_resetScratch_2 n (v1 + (1 : Int32)) (sA (sA (sA (sA (sA s 6 a14) 7 a21) 8 a28) 9 a35) 10 a42)
    else
      k_resetScratch_49 s
def k_resetScratch   (s : S) : Option S :=
  k_resetScratch_2 BIG (0 : Int32) s
def k_init  (v1 : Int32) (v2 : Int32) (v3 : Int32) (v4 : Int32)  : Option S :=
  (k_resetHeap (sI (sI (sI (sI (sA (sA (sA (sA (sA (sA (sA (sA (sA (sA (sA s0 0 (rep 64 0)) 1 (rep 256 0)) 2 (rep 64 0)) 3 (rep 16 0)) 4 (rep 64 0)) 5 (rep 64 0)) 6 (rep 64 0)) 7 (rep 64 0)) 8 (rep 64 0)) 9 (rep 64 0)) 10 (rep 64 0)) 0 (k_clamp v1 (4 : Int32) (64 : Int32))) 1 (k_clamp v2 (1 : Int32) (4 : Int32))) 2 (k_clamp v3 (1 : Int32) (16 : Int32))) 3 (k_clamp v4 ((k_clamp v3 (1 : Int32) (16 : Int32)) + (1 : Int32)) (64 : Int32)))).bind fun r147 =>
  (k_resetRoots r147).bind fun r151 =>
  (k_resetTable r151).bind fun r155 =>
  (k_resetScratch r155).bind fun r159 =>
  some (sI r159 8 (0 : Int32))
def k_depth   (s : S) : Int32 :=
  gI s 5
def k_isRootSlot  (v1 : Int32) (s : S) : Int32 :=
  if v1 < 0 then
    (0 : Int32)
  else
    if v1 < (gI s 5) then
      (1 : Int32)
    else
      (0 : Int32)
def k_root  (v1 : Int32) (s : S) : Option Int32 :=
  if (k_isRootSlot v1 s) = 0 then
    some (-5 : Int32)
  else
    (ix (gA s 3) v1).bind fun a16 =>
    some a16
def k_isObjectId  (v1 : Int32) (s : S) : Int32 :=
  if v1 < 0 then
    (0 : Int32)
  else
    if v1 < (gI s 0) then
      (1 : Int32)
    else
      (0 : Int32)
def k_isLiveId  (v1 : Int32) (s : S) : Option Int32 :=
  if (k_isObjectId v1 s) = 0 then
    some (0 : Int32)
  else
    (ix (gA s 0) v1).bind fun a13 =>
    if a13 = 0 then
      some (0 : Int32)
    else
      some (1 : Int32)
def k_isLive  (v1 : Int32) (s : S) : Option Int32 :=
  (k_isLiveId v1 s).bind fun r2 =>
  some (nar .boolean r2)
def k_tableHas  (v1 : Int32) (s : S) : Option Int32 :=
  if (k_isObjectId v1 s) = 0 then
    some (0 : Int32)
  else
    (ix (gA s 5) v1).bind fun a15 =>
    if a15 = (-1 : Int32) then
      some (0 : Int32)
    else
      some (1 : Int32)
def k_inTable  (v1 : Int32) (s : S) : Option Int32 :=
  (k_tableHas v1 s).bind fun r2 =>
  some (nar .boolean r2)
def k_isFieldNo  (v1 : Int32) (s : S) : Int32 :=
  if v1 < 0 then
    (0 : Int32)
  else
    if v1 < (gI s 1) then
      (1 : Int32)
    else
      (0 : Int32)
def k_readField  (v1 : Int32) (v2 : Int32) (s : S) : Option Int32 :=
  if (k_isObjectId v1 s) = 0 then
    some (-1 : Int32)
  else
    if (k_isFieldNo v2 s) = 0 then
      some (-1 : Int32)
    else
      (ix (gA s 1) ((v1 * (4 : Int32)) + v2)).bind fun a29 =>
      some a29
def k_field  (v1 : Int32) (v2 : Int32) (s : S) : Option Int32 :=
  (k_isLiveId v1 s).bind fun r2 =>
  if r2 = 0 then
    some (-8 : Int32)
  else
    if (k_isFieldNo v2 s) = 0 then
      some (-6 : Int32)
    else
      (k_readField v1 v2 s).bind fun r25 =>
      some r25
def k_count  (v1 : Int32) (s : S) : Option Int32 :=
  (k_isLiveId v1 s).bind fun r2 =>
  if r2 = 0 then
    some (-8 : Int32)
  else
    (ix (gA s 2) v1).bind fun a16 =>
    some a16
def k_tableSize   (s : S) : Int32 :=
  gI s 6
def k_rootsFull   (s : S) : Int32 :=
  if (gI s 5) < (gI s 2) then
    (0 : Int32)
  else
    (1 : Int32)
def k_hasFreeCell   (s : S) : Int32 :=
  if (gI s 4) < (gI s 0) then
    (1 : Int32)
  else
    (0 : Int32)
def k_tableIsFull   (s : S) : Int32 :=
  if (gI s 6) < (gI s 3) then
    (0 : Int32)
  else
    (1 : Int32)
def k_allocNeedsReconcile   (s : S) : Int32 :=
  if (k_hasFreeCell s) = 0 then
    (1 : Int32)
  else
    nar .boolean (k_tableIsFull s)
def k_markRootHeld_23  : Nat → Int32 → S → Option S
  | 0, _, _ => none
  | n + 1, v1, s =>
    if v1 < (gI s 5) then
      if v1 < (16 : Int32) then
        (ix (gA s 3) v1).bind fun a42 =>
        if (k_isObjectId a42 s) = 0 then
          k_markRootHeld_23 n (v1 + (1 : Int32)) s
        else
          (Jvm.AM.st (gA s 7) a42 (1 : Int32)).bind fun a58 =>
          k_markRootHeld_23 n (v1 + (1 : Int32)) (sA s 7 a58)
      else
        some s
    else
      some s
def k_markRootHeld_21   (s : S) : Option S :=
  k_markRootHeld_23 BIG (0 : Int32) s
def k_markRootHeld_2  : Nat → Int32 → S → Option S
  | 0, _, _ => none
  | n + 1, v1, s =>
    if v1 < (64 : Int32) then
      (Jvm.AM.st (gA s 7) v1 (0 : Int32)).bind fun a14 =>
      k_markRootHeld_2 n (v1 + (1 : Int32)) (sA s 7 a14)
    else
      k_markRootHeld_21 s
def k_markRootHeld   (s : S) : Option S :=
  k_markRootHeld_2 BIG (0 : Int32) s
def k_addHoldersOf_2  : Nat → Int32 → Int32 → S → Option S
  | 0, _, _, _ => none
  | n + 1, v1, v2, s =>
    if v2 < (gI s 1) then
      (k_readField v1 v2 s).bind fun r13 =>
      (k_isLiveId r13 s).bind fun r19 =>
      if r19 = 0 then
        k_addHoldersOf_2 n v1 (v2 + (1 : Int32)) s
      else
        (ix (gA s 9) r13).bind fun a35 =>
        (Jvm.AM.st (gA s 9) r13 (a35 + (1 : Int32))).bind fun a38 =>
        k_addHoldersOf_2 n v1 (v2 + (1 : Int32)) (sA s 9 a38)
    else
      some s
def k_addHoldersOf  (v1 : Int32) (s : S) : Option S :=
  k_addHoldersOf_2 BIG v1 (0 : Int32) s
def k_countHolders_58  : Nat → Int32 → S → Option S
  | 0, _, _ => none
  | n + 1, v1, s =>
    if v1 < (gI s 0) then
      (ix (gA s 0) v1).bind fun a71 =>
      if a71 = 0 then
        k_countHolders_58 n (v1 + (1 : Int32)) s
      else
        (k_addHoldersOf v1 s).bind fun r77 =>
        k_countHolders_58 n (v1 + (1 : Int32)) r77
    else
      some s
def k_countHolders_56   (s : S) : Option S :=
  k_countHolders_58 BIG (0 : Int32) s
def k_countHolders_49 (k2 : Int32 → S → Option S) (v1 : Int32) (p0 : Int32) (p1 : Int32) (s : S) : Option S :=
  (Jvm.AM.st (gA s 6) p1 (nar .boolean p0)).bind fun a49 =>
  k2 (v1 + (1 : Int32)) (sA s 6 a49)
def k_countHolders_48 (k2 : Int32 → S → Option S) (v1 : Int32) (p0 : Int32) (s : S) : Option S :=
  k_countHolders_49 k2 v1 (0 : Int32) p0 s
def k_countHolders_2  : Nat → Int32 → S → Option S
  | 0, _, _ => none
  | n + 1, v1, s =>
    if v1 < (64 : Int32) then
      (Jvm.AM.st (gA s 9) v1 (0 : Int32)).bind fun a14 =>
      (Jvm.AM.st (gA s 8) v1 (0 : Int32)).bind fun a21 =>
      if v1 < (gI s 0) then
        (ix (gA s 0) v1).bind fun a40 =>
        k_countHolders_49 (fun v1 s => k_countHolders_2 n v1 s) v1 (if a40 = 0 then (0 : Int32) else (1 : Int32)) v1 (sA (sA s 9 a14) 8 a21)
      else
        k_countHolders_48 (fun v1 s => k_countHolders_2 n v1 s) v1 v1 (sA (sA s 9 a14) 8 a21)
    else
      k_countHolders_56 s
def k_countHolders   (s : S) : Option S :=
  k_countHolders_2 BIG (0 : Int32) s
def k_eligible  (v1 : Int32) (s : S) : Option Int32 :=
  if (k_isObjectId v1 s) = 0 then
    some (0 : Int32)
  else
    (ix (gA s 6) v1).bind fun a15 =>
    if a15 = 0 then
      some (0 : Int32)
    else
      (ix (gA s 7) v1).bind fun a26 =>
      if a26 = 0 then
        (ix (gA s 8) v1).bind fun a37 =>
        if a37 = 0 then
          (ix (gA s 9) v1).bind fun a48 =>
          if a48 = 0 then
            some (1 : Int32)
          else
            some (0 : Int32)
        else
          some (0 : Int32)
      else
        some (0 : Int32)
def k_enqueue  (v1 : Int32) (s : S) : Option S :=
  if (gI s 7) < (64 : Int32) then
    (Jvm.AM.st (gA s 10) (gI s 7) v1).bind fun a19 =>
    (Jvm.AM.st (gA s 8) v1 (1 : Int32)).bind fun a36 =>
    some (sA (sI (sA s 10 a19) 7 ((gI s 7) + (1 : Int32))) 8 a36)
  else
    some s
def k_seedWork_7  : Nat → Int32 → S → Option S
  | 0, _, _ => none
  | n + 1, v1, s =>
    if v1 < (gI s 0) then
      (k_eligible v1 s).bind fun r17 =>
      if r17 = 0 then
        k_seedWork_7 n (v1 + (1 : Int32)) s
      else
        (k_enqueue v1 s).bind fun r25 =>
        k_seedWork_7 n (v1 + (1 : Int32)) r25
    else
      some s
def k_seedWork   (s : S) : Option S :=
  k_seedWork_7 BIG (0 : Int32) (sI s 7 (0 : Int32))
def k_dropHoldersOf_2  : Nat → Int32 → Int32 → S → Option S
  | 0, _, _, _ => none
  | n + 1, v1, v2, s =>
    if v2 < (gI s 1) then
      (k_readField v1 v2 s).bind fun r13 =>
      (k_isLiveId r13 s).bind fun r19 =>
      if r19 = 0 then
        k_dropHoldersOf_2 n v1 (v2 + (1 : Int32)) s
      else
        (ix (gA s 9) r13).bind fun a30 =>
        if 0 < a30 then
          (ix (gA s 9) r13).bind fun a44 =>
          (Jvm.AM.st (gA s 9) r13 (a44 - (1 : Int32))).bind fun a47 =>
          (k_eligible r13 (sA s 9 a47)).bind fun r50 =>
          if r50 = 0 then
            k_dropHoldersOf_2 n v1 (v2 + (1 : Int32)) (sA s 9 a47)
          else
            (k_enqueue r13 (sA s 9 a47)).bind fun r58 =>
            k_dropHoldersOf_2 n v1 (v2 + (1 : Int32)) r58
        else
          k_dropHoldersOf_2 n v1 (v2 + (1 : Int32)) s
    else
      some s
def k_dropHoldersOf  (v1 : Int32) (s : S) : Option S :=
  k_dropHoldersOf_2 BIG v1 (0 : Int32) s
def k_cascade_61   (s : S) : Option S :=
  some (sI s 7 (0 : Int32))
def k_cascade_2  : Nat → Int32 → S → Option S
  | 0, _, _ => none
  | n + 1, v1, s =>
    if (64 : Int32) < v1 then
      k_cascade_61 s
    else
      if 0 < (gI s 7) then
        (ix (gA s 10) ((gI s 7) - (1 : Int32))).bind fun a33 =>
        if (k_isObjectId a33 (sI s 7 ((gI s 7) - (1 : Int32)))) = 0 then
          k_cascade_2 n (v1 + (1 : Int32)) (sI s 7 ((gI s 7) - (1 : Int32)))
        else
          (Jvm.AM.st (gA s 6) a33 (0 : Int32)).bind fun a49 =>
          (k_dropHoldersOf a33 (sA (sI s 7 ((gI s 7) - (1 : Int32))) 6 a49)).bind fun r52 =>
          k_cascade_2 n (v1 + (1 : Int32)) r52
      else
        k_cascade_61 s
def k_cascade   (s : S) : Option S :=
  k_cascade_2 BIG (0 : Int32) s
def k_releaseCell  (v1 : Int32) (s : S) : Option S :=
  if (k_isObjectId v1 s) = 0 then
    some s
  else
    (ix (gA s 0) v1).bind fun a14 =>
    if a14 = 0 then
      some s
    else
      (Jvm.AM.st (gA s 0) v1 (0 : Int32)).bind fun a25 =>
      (k_clearCellFields v1 (sA s 0 a25)).bind fun r28 =>
      (Jvm.AM.st (gA r28 2) v1 (0 : Int32)).bind fun a37 =>
      some (sI (sA r28 2 a37) 4 ((gI r28 4) - (1 : Int32)))
def k_sweep_4  : Nat → Int32 → Int32 → S → Option (Int32 × S)
  | 0, _, _, _ => none
  | n + 1, v1, v2, s =>
    if v2 < (gI s 0) then
      (ix (gA s 0) v2).bind fun a17 =>
      if a17 = 0 then
        k_sweep_4 n v1 (v2 + (1 : Int32)) s
      else
        (ix (gA s 6) v2).bind fun a26 =>
        if a26 = 0 then
          (k_releaseCell v2 s).bind fun r32 =>
          k_sweep_4 n (v1 + (1 : Int32)) (v2 + (1 : Int32)) r32
        else
          k_sweep_4 n v1 (v2 + (1 : Int32)) s
    else
      some (v1, s)
def k_sweep   (s : S) : Option (Int32 × S) :=
  k_sweep_4 BIG (0 : Int32) (0 : Int32) s
def k_refInc  (v1 : Int32) (s : S) : Option S :=
  if (k_isObjectId v1 s) = 0 then
    some s
  else
    (ix (gA s 2) v1).bind fun a18 =>
    (Jvm.AM.st (gA s 2) v1 (a18 + (1 : Int32))).bind fun a21 =>
    some (sA s 2 a21)
def k_countOutgoing_2  : Nat → Int32 → Int32 → S → Option S
  | 0, _, _, _ => none
  | n + 1, v1, v2, s =>
    if v2 < (gI s 1) then
      (k_readField v1 v2 s).bind fun r13 =>
      (k_isLiveId r13 s).bind fun r19 =>
      if r19 = 0 then
        k_countOutgoing_2 n v1 (v2 + (1 : Int32)) s
      else
        (k_refInc r13 s).bind fun r27 =>
        k_countOutgoing_2 n v1 (v2 + (1 : Int32)) r27
    else
      some s
def k_countOutgoing  (v1 : Int32) (s : S) : Option S :=
  k_countOutgoing_2 BIG v1 (0 : Int32) s
def k_recountRefs_23  : Nat → Int32 → S → Option S
  | 0, _, _ => none
  | n + 1, v1, s =>
    if v1 < (gI s 0) then
      (ix (gA s 0) v1).bind fun a36 =>
      if a36 = 0 then
        k_recountRefs_23 n (v1 + (1 : Int32)) s
      else
        (k_countOutgoing v1 s).bind fun r42 =>
        k_recountRefs_23 n (v1 + (1 : Int32)) r42
    else
      some s
def k_recountRefs_21   (s : S) : Option S :=
  k_recountRefs_23 BIG (0 : Int32) s
def k_recountRefs_2  : Nat → Int32 → S → Option S
  | 0, _, _ => none
  | n + 1, v1, s =>
    if v1 < (64 : Int32) then
      (Jvm.AM.st (gA s 2) v1 (0 : Int32)).bind fun a14 =>
      k_recountRefs_2 n (v1 + (1 : Int32)) (sA s 2 a14)
    else
      k_recountRefs_21 s
def k_recountRefs   (s : S) : Option S :=
  k_recountRefs_2 BIG (0 : Int32) s
def k_tableInsert  (v1 : Int32) (s : S) : Option (Int32 × S) :=
  if (k_isObjectId v1 s) = 0 then
    some ((0 : Int32), s)
  else
    (ix (gA s 5) v1).bind fun a15 =>
    if a15 = (-1 : Int32) then
      if (gI s 6) < (gI s 3) then
        if (gI s 6) < (64 : Int32) then
          (Jvm.AM.st (gA s 4) (gI s 6) v1).bind fun a53 =>
          (Jvm.AM.st (gA s 5) v1 (gI s 6)).bind fun a63 =>
          some ((1 : Int32), sI (sA (sA s 4 a53) 5 a63) 6 ((gI s 6) + (1 : Int32)))
        else
          some ((0 : Int32), s)
      else
        some ((0 : Int32), s)
    else
      some ((0 : Int32), s)
def k_rebuildTable_6  : Nat → Int32 → S → Option S
  | 0, _, _ => none
  | n + 1, v1, s =>
    if v1 < (gI s 0) then
      (ix (gA s 0) v1).bind fun a19 =>
      if a19 = 0 then
        k_rebuildTable_6 n (v1 + (1 : Int32)) s
      else
        (ix (gA s 2) v1).bind fun a28 =>
        if a28 = 0 then
          (k_tableInsert v1 s).bind fun r34 =>
          k_rebuildTable_6 n (v1 + (1 : Int32)) r34.2
        else
          k_rebuildTable_6 n (v1 + (1 : Int32)) s
    else
      some s
def k_rebuildTable   (s : S) : Option S :=
  (k_resetTable s).bind fun r1 =>
  k_rebuildTable_6 BIG (0 : Int32) r1
def k_runReconciliation   (s : S) : Option (Int32 × S) :=
  (k_markRootHeld (sI s 8 ((gI s 8) + (1 : Int32)))).bind fun r11 =>
  (k_countHolders r11).bind fun r15 =>
  (k_seedWork r15).bind fun r19 =>
  (k_cascade r19).bind fun r23 =>
  (k_sweep r23).bind fun r27 =>
  (k_recountRefs r27.2).bind fun r32 =>
  (k_rebuildTable r32).bind fun r36 =>
  some (r27.1, r36)
def k_lowestFreeCell_2  : Nat → Int32 → S → Option Int32
  | 0, _, _ => none
  | n + 1, v1, s =>
    if v1 < (gI s 0) then
      (ix (gA s 0) v1).bind fun a15 =>
      if a15 = 0 then
        some v1
      else
        k_lowestFreeCell_2 n (v1 + (1 : Int32)) s
    else
      some (-1 : Int32)
def k_lowestFreeCell   (s : S) : Option Int32 :=
  k_lowestFreeCell_2 BIG (0 : Int32) s
def k_bringToLife  (v1 : Int32) (s : S) : Option S :=
  if (k_isObjectId v1 s) = 0 then
    some s
  else
    (ix (gA s 0) v1).bind fun a14 =>
    if a14 = 0 then
      (Jvm.AM.st (gA s 0) v1 (1 : Int32)).bind fun a25 =>
      (k_clearCellFields v1 (sA s 0 a25)).bind fun r28 =>
      (Jvm.AM.st (gA r28 2) v1 (0 : Int32)).bind fun a37 =>
      some (sI (sA r28 2 a37) 4 ((gI r28 4) + (1 : Int32)))
    else
      some s
def k_rootPush  (v1 : Int32) (s : S) : Option S :=
  if (gI s 5) < (gI s 2) then
    if (gI s 5) < (16 : Int32) then
      (Jvm.AM.st (gA s 3) (gI s 5) v1).bind fun a30 =>
      some (sI (sA s 3 a30) 5 ((gI s 5) + (1 : Int32)))
    else
      some s
  else
    some s
def k_placeNewObject  (v1 : Int32) (s : S) : Option S :=
  (k_bringToLife v1 s).bind fun r2 =>
  (k_tableInsert v1 r2).bind fun r7 =>
  (k_rootPush v1 r7.2).bind fun r13 =>
  some r13
def k_alloc_22   (s : S) : Option (Int32 × S) :=
  (k_lowestFreeCell s).bind fun r23 =>
  if r23 = (-1 : Int32) then
    some ((-4 : Int32), s)
  else
    (k_placeNewObject r23 s).bind fun r37 =>
    some (r23, r37)
def k_alloc   (s : S) : Option (Int32 × S) :=
  if (k_rootsFull s) = 0 then
    if (k_allocNeedsReconcile s) = 0 then
      k_alloc_22 s
    else
      (k_runReconciliation s).bind fun r18 =>
      k_alloc_22 r18.2
  else
    some ((-2 : Int32), s)
def k_loadCheck  (v1 : Int32) (v2 : Int32) (s : S) : Option Int32 :=
  if (k_rootsFull s) = 0 then
    if (k_isRootSlot v1 s) = 0 then
      some (-5 : Int32)
    else
      if (k_isFieldNo v2 s) = 0 then
        some (-6 : Int32)
      else
        (ix (gA s 3) v1).bind fun a37 =>
        if a37 = (-1 : Int32) then
          some (-7 : Int32)
        else
          (ix (gA s 3) v1).bind fun a51 =>
          (k_isLiveId a51 s).bind fun r52 =>
          if r52 = 0 then
            some (-7 : Int32)
          else
            some (0 : Int32)
  else
    some (-2 : Int32)
def k_load  (v1 : Int32) (v2 : Int32) (s : S) : Option (Int32 × S) :=
  (k_loadCheck v1 v2 s).bind fun r3 =>
  if r3 = 0 then
    (ix (gA s 3) v1).bind fun a18 =>
    (k_readField a18 v2 s).bind fun r25 =>
    (k_rootPush r25 s).bind fun r33 =>
    some ((0 : Int32), r33)
  else
    some (r3, s)
def k_isValueSlot  (v1 : Int32) (s : S) : Int32 :=
  if v1 = (-1 : Int32) then
    (1 : Int32)
  else
    nar .boolean (k_isRootSlot v1 s)
def k_storeCheck  (v1 : Int32) (v2 : Int32) (v3 : Int32) (s : S) : Option Int32 :=
  if (k_isRootSlot v1 s) = 0 then
    some (-5 : Int32)
  else
    if (k_isFieldNo v2 s) = 0 then
      some (-6 : Int32)
    else
      if (k_isValueSlot v3 s) = 0 then
        some (-5 : Int32)
      else
        (ix (gA s 3) v1).bind fun a38 =>
        if a38 = (-1 : Int32) then
          some (-7 : Int32)
        else
          (ix (gA s 3) v1).bind fun a52 =>
          (k_isLiveId a52 s).bind fun r53 =>
          if r53 = 0 then
            some (-7 : Int32)
          else
            some (0 : Int32)
def k_valueOfSlot  (v1 : Int32) (s : S) : Option Int32 :=
  if v1 = (-1 : Int32) then
    some (-1 : Int32)
  else
    if (k_isRootSlot v1 s) = 0 then
      some (-1 : Int32)
    else
      (ix (gA s 3) v1).bind fun a22 =>
      some a22
def k_storeNeedsReconcile  (v1 : Int32) (v2 : Int32) (s : S) : Option Int32 :=
  if v1 = (-1 : Int32) then
    some (0 : Int32)
  else
    if v1 = v2 then
      some (0 : Int32)
    else
      if (k_isObjectId v1 s) = 0 then
        some (0 : Int32)
      else
        (ix (gA s 2) v1).bind fun a29 =>
        if a29 = (1 : Int32) then
          (k_tableHas v1 s).bind fun r38 =>
          if r38 = 0 then
            some (nar .boolean (k_tableIsFull s))
          else
            some (0 : Int32)
        else
          some (0 : Int32)
def k_refDec  (v1 : Int32) (s : S) : Option S :=
  if (k_isObjectId v1 s) = 0 then
    some s
  else
    (ix (gA s 2) v1).bind fun a13 =>
    if 0 < a13 then
      (ix (gA s 2) v1).bind fun a27 =>
      (Jvm.AM.st (gA s 2) v1 (a27 - (1 : Int32))).bind fun a30 =>
      some (sA s 2 a30)
    else
      some s
def k_writeFieldRaw  (v1 : Int32) (v2 : Int32) (v3 : Int32) (s : S) : Option S :=
  if (k_isObjectId v1 s) = 0 then
    some s
  else
    if (k_isFieldNo v2 s) = 0 then
      some s
    else
      (Jvm.AM.st (gA s 1) ((v1 * (4 : Int32)) + v2) v3).bind fun a28 =>
      some (sA s 1 a28)
def k_assignField  (v1 : Int32) (v2 : Int32) (v3 : Int32) (s : S) : Option S :=
  (k_readField v1 v2 s).bind fun r3 =>
  (k_refDec r3 s).bind fun r11 =>
  (k_refInc v3 r11).bind fun r16 =>
  (k_writeFieldRaw v1 v2 v3 r16).bind fun r23 =>
  some r23
def k_noteZeroCount  (v1 : Int32) (s : S) : Option S :=
  if v1 = (-1 : Int32) then
    some s
  else
    if (k_isObjectId v1 s) = 0 then
      some s
    else
      (ix (gA s 2) v1).bind fun a20 =>
      if a20 = 0 then
        (k_tableHas v1 s).bind fun r27 =>
        if r27 = 0 then
          (k_tableInsert v1 s).bind fun r36 =>
          some r36.2
        else
          some s
      else
        some s
def k_store_57  (v2 : Int32) (v5 : Int32) (v6 : Int32) (v7 : Int32) (s : S) : Option (Int32 × S) :=
  (k_assignField v5 v2 v6 s).bind fun r63 =>
  (k_noteZeroCount v7 r63).bind fun r69 =>
  some ((0 : Int32), r69)
def k_store  (v1 : Int32) (v2 : Int32) (v3 : Int32) (s : S) : Option (Int32 × S) :=
  (k_storeCheck v1 v2 v3 s).bind fun r4 =>
  if r4 = 0 then
    (ix (gA s 3) v1).bind fun a22 =>
    (k_valueOfSlot v3 s).bind fun r27 =>
    (k_readField a22 v2 s).bind fun r36 =>
    (k_storeNeedsReconcile r36 r27 s).bind fun r46 =>
    if r46 = 0 then
      k_store_57 v2 a22 r27 r36 s
    else
      (k_runReconciliation s).bind fun r53 =>
      k_store_57 v2 a22 r27 r36 r53.2
  else
    some (r4, s)
def k_pushCheck  (v1 : Int32) (s : S) : Int32 :=
  if (k_rootsFull s) = 0 then
    if (k_isValueSlot v1 s) = 0 then
      (-5 : Int32)
    else
      (0 : Int32)
  else
    (-2 : Int32)
def k_push  (v1 : Int32) (s : S) : Option (Int32 × S) :=
  if (k_pushCheck v1 s) = 0 then
    (k_valueOfSlot v1 s).bind fun r14 =>
    (k_rootPush r14 s).bind fun r20 =>
    some ((0 : Int32), r20)
  else
    some ((k_pushCheck v1 s), s)
def k_reconcile   (s : S) : Option (Int32 × S) :=
  (k_runReconciliation s).bind fun r1 =>
  some (r1.1, r1.2)
def k_rootPopTop   (s : S) : Option S :=
  if 0 < (gI s 5) then
    (Jvm.AM.st (gA s 3) ((gI s 5) - (1 : Int32)) (-1 : Int32)).bind fun a27 =>
    some (sA (sI s 5 ((gI s 5) - (1 : Int32))) 3 a27)
  else
    some s
def k_pop   (s : S) : Option (Int32 × S) :=
  if 0 < (gI s 5) then
    (k_rootPopTop s).bind fun r11 =>
    some ((0 : Int32), r11)
  else
    some ((-3 : Int32), s)
def h_cell  (v1 : Int32) (q : List Int32) : Option Int32 :=
  if v1 < q.length.toInt32 then
    (ix q v1).bind fun a8 =>
    some a8
  else
    some (0 : Int32)
def law_786 (k66 : Int32 → Int32 → Int32 → Int32 → Int32 → Int32 → List Int32 → S → Option (Int32 × S)) (v1 : Int32) (v2 : Int32) (v3 : Int32) (v4 : Int32) (v6 : Int32) (v7 : Int32) (v14 : Int32) (v15 : Int32) (v16 : Int32) (q : List Int32) (t0 : S) : Option (Int32 × S) :=
  (k_store v14 v15 v16 t0).bind fun r794 =>
  k66 v1 v2 v3 v4 v6 (v7 + (3 : Int32)) q r794.2
def law_659 (k66 : Int32 → Int32 → Int32 → Int32 → Int32 → Int32 → List Int32 → S → Option (Int32 × S)) (v1 : Int32) (v2 : Int32) (v3 : Int32) (v4 : Int32) (v7 : Int32) (v8 : Int32) (q : List Int32) (t0 : S) : Option (Int32 × S) :=
  if v7 < q.length.toInt32 then
    (ix q v7).bind fun a674 =>
    (h_cell (v7 + (1 : Int32)) q).bind fun r685 =>
    (h_cell (v7 + (2 : Int32)) q).bind fun r695 =>
    if (v8 + (2 : Int32)) = 0 then none else
    if (v2 + (1 : Int32)) = 0 then none else
    if (v8 + (2 : Int32)) = 0 then none else
    if (a674 &&& (7 : Int32)) = 0 then
      (k_alloc t0).bind fun r748 =>
      k66 v1 v2 v3 v4 (0 : Int32) (v7 + (3 : Int32)) q r748.2
    else
      if (a674 &&& (7 : Int32)) = (1 : Int32) then
        (k_load (((r685 &&& (31 : Int32)) % (v8 + (2 : Int32))) - (1 : Int32)) ((r695 &&& (7 : Int32)) % (v2 + (1 : Int32))) t0).bind fun r767 =>
        k66 v1 v2 v3 v4 (0 : Int32) (v7 + (3 : Int32)) q r767.2
      else
        if (a674 &&& (7 : Int32)) = (2 : Int32) then
          law_786 k66 v1 v2 v3 v4 (0 : Int32) v7 (((r685 &&& (31 : Int32)) % (v8 + (2 : Int32))) - (1 : Int32)) ((r695 &&& (7 : Int32)) % (v2 + (1 : Int32))) ((((XT.ushr r695 (3 : Int32)) &&& (31 : Int32)) % (v8 + (2 : Int32))) - (1 : Int32)) q t0
        else
          if (a674 &&& (7 : Int32)) = (3 : Int32) then
            law_786 k66 v1 v2 v3 v4 (0 : Int32) v7 (((r685 &&& (31 : Int32)) % (v8 + (2 : Int32))) - (1 : Int32)) ((r695 &&& (7 : Int32)) % (v2 + (1 : Int32))) ((((XT.ushr r695 (3 : Int32)) &&& (31 : Int32)) % (v8 + (2 : Int32))) - (1 : Int32)) q t0
          else
            if (a674 &&& (7 : Int32)) = (4 : Int32) then
              (k_push (((r685 &&& (31 : Int32)) % (v8 + (2 : Int32))) - (1 : Int32)) t0).bind fun r811 =>
              k66 v1 v2 v3 v4 (0 : Int32) (v7 + (3 : Int32)) q r811.2
            else
              if (a674 &&& (7 : Int32)) = (6 : Int32) then
                (k_reconcile t0).bind fun r827 =>
                k66 v1 v2 v3 v4 (1 : Int32) (v7 + (3 : Int32)) q r827.2
              else
                (k_pop t0).bind fun r839 =>
                k66 v1 v2 v3 v4 (0 : Int32) (v7 + (3 : Int32)) q r839.2
  else
    some ((1 : Int32), t0)
def law_617 (k66 : Int32 → Int32 → Int32 → Int32 → Int32 → Int32 → List Int32 → S → Option (Int32 × S)) (k392 : Int32 → Int32 → Int32 → Int32 → Int32 → Int32 → Int64 → Int64 → Int32 → List Int32 → S → Option (Int32 × S)) : Nat → Int32 → Int32 → Int32 → Int32 → Int32 → Int32 → Int64 → Int64 → Int32 → Int64 → Int32 → List Int32 → S → Option (Int32 × S)
  | 0, _, _, _, _, _, _, _, _, _, _, _, _, _ => none
  | n + 1, v1, v2, v3, v4, v7, v8, v9, v11, v13, v14, v16, q, t0 =>
    if v16 < v1 then
      (k_isLive v16 t0).bind fun r627 =>
      if r627 = 0 then
        law_617 k66 k392 n v1 v2 v3 v4 v7 v8 v9 v11 v13 v14 (v16 + (1 : Int32)) q t0
      else
        if ((XT.ushrL v14 v16) &&& (1 : Int64)) = (0 : Int64) then
          some ((0 : Int32), t0)
        else
          law_617 k66 k392 n v1 v2 v3 v4 v7 v8 v9 v11 v13 v14 (v16 + (1 : Int32)) q t0
    else
      k392 v1 v2 v3 v4 v7 v8 v9 v11 (v13 + (1 : Int32)) q t0
def law_584 (k66 : Int32 → Int32 → Int32 → Int32 → Int32 → Int32 → List Int32 → S → Option (Int32 × S)) (k392 : Int32 → Int32 → Int32 → Int32 → Int32 → Int32 → Int64 → Int64 → Int32 → List Int32 → S → Option (Int32 × S)) (v1 : Int32) (v2 : Int32) (v3 : Int32) (v4 : Int32) (v7 : Int32) (v8 : Int32) (v9 : Int64) (v11 : Int64) (v13 : Int32) (v14 : Int64) (q : List Int32) (t0 : S) : Option (Int32 × S) :=
  if v13 < v1 then
    k392 v1 v2 v3 v4 v7 v8 v9 (if ((XT.ushrL v14 v13) &&& (1 : Int64)) = (0 : Int64) then v11 else v11 ||| ((1 : Int64) <<< (v13.toInt64 &&& 63))) (v13 + (1 : Int32)) q t0
  else
    law_617 k66 k392 BIG v1 v2 v3 v4 v7 v8 v9 v11 v13 v14 (0 : Int32) q t0
def law_571 (k66 : Int32 → Int32 → Int32 → Int32 → Int32 → Int32 → List Int32 → S → Option (Int32 × S)) (k392 : Int32 → Int32 → Int32 → Int32 → Int32 → Int32 → Int64 → Int64 → Int32 → List Int32 → S → Option (Int32 × S)) (v1 : Int32) (v2 : Int32) (v3 : Int32) (v4 : Int32) (v7 : Int32) (v8 : Int32) (v9 : Int64) (v11 : Int64) (v13 : Int32) (v14 : Int64) (q : List Int32) (t0 : S) : Option (Int32 × S) :=
  law_584 k66 k392 v1 v2 v3 v4 v7 v8 v9 v11 v13 v14 q t0
def law_563 (k66 : Int32 → Int32 → Int32 → Int32 → Int32 → Int32 → List Int32 → S → Option (Int32 × S)) (k392 : Int32 → Int32 → Int32 → Int32 → Int32 → Int32 → Int64 → Int64 → Int32 → List Int32 → S → Option (Int32 × S)) (k473 : Int32 → Int32 → Int32 → Int32 → Int32 → Int32 → Int64 → Int64 → Int32 → Int64 → Int32 → List Int32 → S → Option (Int32 × S)) (v1 : Int32) (v2 : Int32) (v3 : Int32) (v4 : Int32) (v7 : Int32) (v8 : Int32) (v9 : Int64) (v11 : Int64) (v13 : Int32) (v14 : Int64) (v16 : Int32) (v17 : Int64) (q : List Int32) (t0 : S) : Option (Int32 × S) :=
  if v17 = v14 then
    law_571 k66 k392 v1 v2 v3 v4 v7 v8 v9 v11 v13 v14 q t0
  else
    k473 v1 v2 v3 v4 v7 v8 v9 v11 v13 v17 (v16 + (1 : Int32)) q t0
def law_520 (k66 : Int32 → Int32 → Int32 → Int32 → Int32 → Int32 → List Int32 → S → Option (Int32 × S)) (k392 : Int32 → Int32 → Int32 → Int32 → Int32 → Int32 → Int64 → Int64 → Int32 → List Int32 → S → Option (Int32 × S)) (k473 : Int32 → Int32 → Int32 → Int32 → Int32 → Int32 → Int64 → Int64 → Int32 → Int64 → Int32 → List Int32 → S → Option (Int32 × S)) (k486 : Int32 → Int32 → Int32 → Int32 → Int32 → Int32 → Int64 → Int64 → Int32 → Int64 → Int32 → Int64 → Int32 → List Int32 → S → Option (Int32 × S)) : Nat → Int32 → Int32 → Int32 → Int32 → Int32 → Int32 → Int64 → Int64 → Int32 → Int64 → Int32 → Int64 → Int32 → Int32 → List Int32 → S → Option (Int32 × S)
  | 0, _, _, _, _, _, _, _, _, _, _, _, _, _, _, _, _ => none
  | n + 1, v1, v2, v3, v4, v7, v8, v9, v11, v13, v14, v16, v17, v19, v20, q, t0 =>
    if v20 < v2 then
      (k_field v19 v20 t0).bind fun r532 =>
      law_520 k66 k392 k473 k486 n v1 v2 v3 v4 v7 v8 v9 v11 v13 v14 v16 (if r532 < 0 then v17 else v17 ||| ((1 : Int64) <<< (r532.toInt64 &&& 63))) v19 (v20 + (1 : Int32)) q t0
    else
      k486 v1 v2 v3 v4 v7 v8 v9 v11 v13 v14 v16 v17 (v19 + (1 : Int32)) q t0
def law_486 (k66 : Int32 → Int32 → Int32 → Int32 → Int32 → Int32 → List Int32 → S → Option (Int32 × S)) (k392 : Int32 → Int32 → Int32 → Int32 → Int32 → Int32 → Int64 → Int64 → Int32 → List Int32 → S → Option (Int32 × S)) (k473 : Int32 → Int32 → Int32 → Int32 → Int32 → Int32 → Int64 → Int64 → Int32 → Int64 → Int32 → List Int32 → S → Option (Int32 × S)) : Nat → Int32 → Int32 → Int32 → Int32 → Int32 → Int32 → Int64 → Int64 → Int32 → Int64 → Int32 → Int64 → Int32 → List Int32 → S → Option (Int32 × S)
  | 0, _, _, _, _, _, _, _, _, _, _, _, _, _, _, _ => none
  | n + 1, v1, v2, v3, v4, v7, v8, v9, v11, v13, v14, v16, v17, v19, q, t0 =>
    if v19 < v1 then
      if ((XT.ushrL v14 v19) &&& (1 : Int64)) = (0 : Int64) then
        law_486 k66 k392 k473 n v1 v2 v3 v4 v7 v8 v9 v11 v13 v14 v16 v17 (v19 + (1 : Int32)) q t0
      else
        (k_isLive v19 t0).bind fun r508 =>
        if r508 = 0 then
          law_486 k66 k392 k473 n v1 v2 v3 v4 v7 v8 v9 v11 v13 v14 v16 v17 (v19 + (1 : Int32)) q t0
        else
          law_520 k66 k392 k473 (fun v1 v2 v3 v4 v7 v8 v9 v11 v13 v14 v16 v17 v19 q t0 => law_486 k66 k392 k473 n v1 v2 v3 v4 v7 v8 v9 v11 v13 v14 v16 v17 v19 q t0) BIG v1 v2 v3 v4 v7 v8 v9 v11 v13 v14 v16 v17 v19 (0 : Int32) q t0
    else
      law_563 k66 k392 k473 v1 v2 v3 v4 v7 v8 v9 v11 v13 v14 v16 v17 q t0
def law_473 (k66 : Int32 → Int32 → Int32 → Int32 → Int32 → Int32 → List Int32 → S → Option (Int32 × S)) (k392 : Int32 → Int32 → Int32 → Int32 → Int32 → Int32 → Int64 → Int64 → Int32 → List Int32 → S → Option (Int32 × S)) : Nat → Int32 → Int32 → Int32 → Int32 → Int32 → Int32 → Int64 → Int64 → Int32 → Int64 → Int32 → List Int32 → S → Option (Int32 × S)
  | 0, _, _, _, _, _, _, _, _, _, _, _, _, _ => none
  | n + 1, v1, v2, v3, v4, v7, v8, v9, v11, v13, v14, v16, q, t0 =>
    if v1 < v16 then
      law_584 k66 k392 v1 v2 v3 v4 v7 v8 v9 v11 v13 v14 q t0
    else
      law_486 k66 k392 (fun v1 v2 v3 v4 v7 v8 v9 v11 v13 v14 v16 q t0 => law_473 k66 k392 n v1 v2 v3 v4 v7 v8 v9 v11 v13 v14 v16 q t0) BIG v1 v2 v3 v4 v7 v8 v9 v11 v13 v14 v16 v14 (0 : Int32) q t0
def law_470 (k66 : Int32 → Int32 → Int32 → Int32 → Int32 → Int32 → List Int32 → S → Option (Int32 × S)) (k392 : Int32 → Int32 → Int32 → Int32 → Int32 → Int32 → Int64 → Int64 → Int32 → List Int32 → S → Option (Int32 × S)) (v1 : Int32) (v2 : Int32) (v3 : Int32) (v4 : Int32) (v7 : Int32) (v8 : Int32) (v9 : Int64) (v11 : Int64) (v13 : Int32) (v14 : Int64) (q : List Int32) (t0 : S) : Option (Int32 × S) :=
  law_473 k66 k392 BIG v1 v2 v3 v4 v7 v8 v9 v11 v13 v14 (0 : Int32) q t0
def law_460 (k66 : Int32 → Int32 → Int32 → Int32 → Int32 → Int32 → List Int32 → S → Option (Int32 × S)) (k392 : Int32 → Int32 → Int32 → Int32 → Int32 → Int32 → Int64 → Int64 → Int32 → List Int32 → S → Option (Int32 × S)) (v1 : Int32) (v2 : Int32) (v3 : Int32) (v4 : Int32) (v7 : Int32) (v8 : Int32) (v9 : Int64) (v11 : Int64) (v13 : Int32) (v14 : Int64) (q : List Int32) (t0 : S) : Option (Int32 × S) :=
  law_470 k66 k392 v1 v2 v3 v4 v7 v8 v9 v11 v13 v14 q t0
def law_423 (k66 : Int32 → Int32 → Int32 → Int32 → Int32 → Int32 → List Int32 → S → Option (Int32 × S)) (k392 : Int32 → Int32 → Int32 → Int32 → Int32 → Int32 → Int64 → Int64 → Int32 → List Int32 → S → Option (Int32 × S)) : Nat → Int32 → Int32 → Int32 → Int32 → Int32 → Int32 → Int64 → Int64 → Int32 → Int64 → Int32 → List Int32 → S → Option (Int32 × S)
  | 0, _, _, _, _, _, _, _, _, _, _, _, _, _ => none
  | n + 1, v1, v2, v3, v4, v7, v8, v9, v11, v13, v14, v16, q, t0 =>
    if v16 < v2 then
      (k_field v13 v16 t0).bind fun r435 =>
      law_423 k66 k392 n v1 v2 v3 v4 v7 v8 v9 v11 v13 (if r435 < 0 then v14 else v14 ||| ((1 : Int64) <<< (r435.toInt64 &&& 63))) (v16 + (1 : Int32)) q t0
    else
      law_460 k66 k392 v1 v2 v3 v4 v7 v8 v9 v11 v13 v14 q t0
def law_392 (k66 : Int32 → Int32 → Int32 → Int32 → Int32 → Int32 → List Int32 → S → Option (Int32 × S)) : Nat → Int32 → Int32 → Int32 → Int32 → Int32 → Int32 → Int64 → Int64 → Int32 → List Int32 → S → Option (Int32 × S)
  | 0, _, _, _, _, _, _, _, _, _, _, _ => none
  | n + 1, v1, v2, v3, v4, v7, v8, v9, v11, v13, q, t0 =>
    if v1 < v13 then
      law_659 k66 v1 v2 v3 v4 v7 v8 q t0
    else
      if v13 < v1 then
        (k_isLive v13 t0).bind fun r411 =>
        if r411 = 0 then
          law_392 k66 n v1 v2 v3 v4 v7 v8 v9 v11 (v13 + (1 : Int32)) q t0
        else
          law_423 k66 (fun v1 v2 v3 v4 v7 v8 v9 v11 v13 q t0 => law_392 k66 n v1 v2 v3 v4 v7 v8 v9 v11 v13 q t0) BIG v1 v2 v3 v4 v7 v8 v9 v11 v13 (0 : Int64) (0 : Int32) q t0
      else
        law_470 k66 (fun v1 v2 v3 v4 v7 v8 v9 v11 v13 q t0 => law_392 k66 n v1 v2 v3 v4 v7 v8 v9 v11 v13 q t0) v1 v2 v3 v4 v7 v8 v9 v11 v13 (v9 ||| v11) q t0
def law_369 (k66 : Int32 → Int32 → Int32 → Int32 → Int32 → Int32 → List Int32 → S → Option (Int32 × S)) (v1 : Int32) (v2 : Int32) (v3 : Int32) (v4 : Int32) (v6 : Int32) (v7 : Int32) (v8 : Int32) (v9 : Int64) (q : List Int32) (t0 : S) : Option (Int32 × S) :=
  if v4 < (k_tableSize t0) then
    some ((0 : Int32), t0)
  else
    if v6 = 0 then
      law_659 k66 v1 v2 v3 v4 v7 v8 q t0
    else
      law_392 k66 BIG v1 v2 v3 v4 v7 v8 v9 (0 : Int64) (0 : Int32) q t0
def law_332 (k66 : Int32 → Int32 → Int32 → Int32 → Int32 → Int32 → List Int32 → S → Option (Int32 × S)) (k250 : Int32 → Int32 → Int32 → Int32 → Int32 → Int32 → Int32 → Int64 → Int32 → List Int32 → S → Option (Int32 × S)) (v1 : Int32) (v2 : Int32) (v3 : Int32) (v4 : Int32) (v6 : Int32) (v7 : Int32) (v8 : Int32) (v9 : Int64) (v11 : Int32) (v12 : Int32) (q : List Int32) (t0 : S) : Option (Int32 × S) :=
  (k_count v11 t0).bind fun r336 =>
  if r336 = v12 then
    if v12 = 0 then
      (k_inTable v11 t0).bind fun r355 =>
      if r355 = 0 then
        some ((0 : Int32), t0)
      else
        k250 v1 v2 v3 v4 v6 v7 v8 v9 (v11 + (1 : Int32)) q t0
    else
      k250 v1 v2 v3 v4 v6 v7 v8 v9 (v11 + (1 : Int32)) q t0
  else
    some ((0 : Int32), t0)
def law_297 (k66 : Int32 → Int32 → Int32 → Int32 → Int32 → Int32 → List Int32 → S → Option (Int32 × S)) (k250 : Int32 → Int32 → Int32 → Int32 → Int32 → Int32 → Int32 → Int64 → Int32 → List Int32 → S → Option (Int32 × S)) (k275 : Int32 → Int32 → Int32 → Int32 → Int32 → Int32 → Int32 → Int64 → Int32 → Int32 → Int32 → List Int32 → S → Option (Int32 × S)) : Nat → Int32 → Int32 → Int32 → Int32 → Int32 → Int32 → Int32 → Int64 → Int32 → Int32 → Int32 → Int32 → List Int32 → S → Option (Int32 × S)
  | 0, _, _, _, _, _, _, _, _, _, _, _, _, _, _ => none
  | n + 1, v1, v2, v3, v4, v6, v7, v8, v9, v11, v12, v13, v14, q, t0 =>
    if v14 < v2 then
      (k_field v13 v14 t0).bind fun r309 =>
      law_297 k66 k250 k275 n v1 v2 v3 v4 v6 v7 v8 v9 v11 (if r309 = v11 then v12 + (1 : Int32) else v12) v13 (v14 + (1 : Int32)) q t0
    else
      k275 v1 v2 v3 v4 v6 v7 v8 v9 v11 v12 (v13 + (1 : Int32)) q t0
def law_275 (k66 : Int32 → Int32 → Int32 → Int32 → Int32 → Int32 → List Int32 → S → Option (Int32 × S)) (k250 : Int32 → Int32 → Int32 → Int32 → Int32 → Int32 → Int32 → Int64 → Int32 → List Int32 → S → Option (Int32 × S)) : Nat → Int32 → Int32 → Int32 → Int32 → Int32 → Int32 → Int32 → Int64 → Int32 → Int32 → Int32 → List Int32 → S → Option (Int32 × S)
  | 0, _, _, _, _, _, _, _, _, _, _, _, _, _ => none
  | n + 1, v1, v2, v3, v4, v6, v7, v8, v9, v11, v12, v13, q, t0 =>
    if v13 < v1 then
      (k_isLive v13 t0).bind fun r285 =>
      if r285 = 0 then
        law_275 k66 k250 n v1 v2 v3 v4 v6 v7 v8 v9 v11 v12 (v13 + (1 : Int32)) q t0
      else
        law_297 k66 k250 (fun v1 v2 v3 v4 v6 v7 v8 v9 v11 v12 v13 q t0 => law_275 k66 k250 n v1 v2 v3 v4 v6 v7 v8 v9 v11 v12 v13 q t0) BIG v1 v2 v3 v4 v6 v7 v8 v9 v11 v12 v13 (0 : Int32) q t0
    else
      law_332 k66 k250 v1 v2 v3 v4 v6 v7 v8 v9 v11 v12 q t0
def law_250 (k66 : Int32 → Int32 → Int32 → Int32 → Int32 → Int32 → List Int32 → S → Option (Int32 × S)) : Nat → Int32 → Int32 → Int32 → Int32 → Int32 → Int32 → Int32 → Int64 → Int32 → List Int32 → S → Option (Int32 × S)
  | 0, _, _, _, _, _, _, _, _, _, _, _ => none
  | n + 1, v1, v2, v3, v4, v6, v7, v8, v9, v11, q, t0 =>
    if v11 < v1 then
      (k_isLive v11 t0).bind fun r260 =>
      if r260 = 0 then
        law_250 k66 n v1 v2 v3 v4 v6 v7 v8 v9 (v11 + (1 : Int32)) q t0
      else
        law_275 k66 (fun v1 v2 v3 v4 v6 v7 v8 v9 v11 q t0 => law_250 k66 n v1 v2 v3 v4 v6 v7 v8 v9 v11 q t0) BIG v1 v2 v3 v4 v6 v7 v8 v9 v11 (0 : Int32) (0 : Int32) q t0
    else
      law_369 k66 v1 v2 v3 v4 v6 v7 v8 v9 q t0
def law_247 (k66 : Int32 → Int32 → Int32 → Int32 → Int32 → Int32 → List Int32 → S → Option (Int32 × S)) (v1 : Int32) (v2 : Int32) (v3 : Int32) (v4 : Int32) (v6 : Int32) (v7 : Int32) (v8 : Int32) (v9 : Int64) (q : List Int32) (t0 : S) : Option (Int32 × S) :=
  law_250 k66 BIG v1 v2 v3 v4 v6 v7 v8 v9 (0 : Int32) q t0
def law_189 (k66 : Int32 → Int32 → Int32 → Int32 → Int32 → Int32 → List Int32 → S → Option (Int32 × S)) (k158 : Int32 → Int32 → Int32 → Int32 → Int32 → Int32 → Int32 → Int64 → Int32 → List Int32 → S → Option (Int32 × S)) : Nat → Int32 → Int32 → Int32 → Int32 → Int32 → Int32 → Int32 → Int64 → Int32 → Int32 → List Int32 → S → Option (Int32 × S)
  | 0, _, _, _, _, _, _, _, _, _, _, _, _ => none
  | n + 1, v1, v2, v3, v4, v6, v7, v8, v9, v11, v12, q, t0 =>
    if v12 < v2 then
      (k_field v11 v12 t0).bind fun r201 =>
      if r201 = (-1 : Int32) then
        law_189 k66 k158 n v1 v2 v3 v4 v6 v7 v8 v9 v11 (v12 + (1 : Int32)) q t0
      else
        if r201 < 0 then
          some ((0 : Int32), t0)
        else
          if r201 < v1 then
            (k_isLive r201 t0).bind fun r227 =>
            if r227 = 0 then
              some ((0 : Int32), t0)
            else
              law_189 k66 k158 n v1 v2 v3 v4 v6 v7 v8 v9 v11 (v12 + (1 : Int32)) q t0
          else
            some ((0 : Int32), t0)
    else
      k158 v1 v2 v3 v4 v6 v7 v8 v9 (v11 + (1 : Int32)) q t0
def law_158 (k66 : Int32 → Int32 → Int32 → Int32 → Int32 → Int32 → List Int32 → S → Option (Int32 × S)) : Nat → Int32 → Int32 → Int32 → Int32 → Int32 → Int32 → Int32 → Int64 → Int32 → List Int32 → S → Option (Int32 × S)
  | 0, _, _, _, _, _, _, _, _, _, _, _ => none
  | n + 1, v1, v2, v3, v4, v6, v7, v8, v9, v11, q, t0 =>
    if v11 < v1 then
      (k_isLive v11 t0).bind fun r168 =>
      if r168 = 0 then
        (k_inTable v11 t0).bind fun r178 =>
        if r178 = 0 then
          law_158 k66 n v1 v2 v3 v4 v6 v7 v8 v9 (v11 + (1 : Int32)) q t0
        else
          some ((0 : Int32), t0)
      else
        law_189 k66 (fun v1 v2 v3 v4 v6 v7 v8 v9 v11 q t0 => law_158 k66 n v1 v2 v3 v4 v6 v7 v8 v9 v11 q t0) BIG v1 v2 v3 v4 v6 v7 v8 v9 v11 (0 : Int32) q t0
    else
      law_247 k66 v1 v2 v3 v4 v6 v7 v8 v9 q t0
def law_155 (k66 : Int32 → Int32 → Int32 → Int32 → Int32 → Int32 → List Int32 → S → Option (Int32 × S)) (v1 : Int32) (v2 : Int32) (v3 : Int32) (v4 : Int32) (v6 : Int32) (v7 : Int32) (v8 : Int32) (v9 : Int64) (q : List Int32) (t0 : S) : Option (Int32 × S) :=
  law_158 k66 BIG v1 v2 v3 v4 v6 v7 v8 v9 (0 : Int32) q t0
def law_92 (k66 : Int32 → Int32 → Int32 → Int32 → Int32 → Int32 → List Int32 → S → Option (Int32 × S)) : Nat → Int32 → Int32 → Int32 → Int32 → Int32 → Int32 → Int32 → Int64 → Int32 → List Int32 → S → Option (Int32 × S)
  | 0, _, _, _, _, _, _, _, _, _, _, _ => none
  | n + 1, v1, v2, v3, v4, v6, v7, v8, v9, v11, q, t0 =>
    if v11 < v8 then
      (k_root v11 t0).bind fun r103 =>
      if r103 = (-1 : Int32) then
        law_92 k66 n v1 v2 v3 v4 v6 v7 v8 v9 (v11 + (1 : Int32)) q t0
      else
        if r103 < 0 then
          some ((0 : Int32), t0)
        else
          if r103 < v1 then
            (k_isLive r103 t0).bind fun r132 =>
            if r132 = 0 then
              some ((0 : Int32), t0)
            else
              law_92 k66 n v1 v2 v3 v4 v6 v7 v8 (v9 ||| ((1 : Int64) <<< (r103.toInt64 &&& 63))) (v11 + (1 : Int32)) q t0
          else
            some ((0 : Int32), t0)
    else
      law_155 k66 v1 v2 v3 v4 v6 v7 v8 v9 q t0
def law_66  : Nat → Int32 → Int32 → Int32 → Int32 → Int32 → Int32 → List Int32 → S → Option (Int32 × S)
  | 0, _, _, _, _, _, _, _, _ => none
  | n + 1, v1, v2, v3, v4, v6, v7, q, t0 =>
    if (k_depth t0) < 0 then
      some ((0 : Int32), t0)
    else
      if v3 < (k_depth t0) then
        some ((0 : Int32), t0)
      else
        law_92 (fun v1 v2 v3 v4 v6 v7 q t0 => law_66 n v1 v2 v3 v4 v6 v7 q t0) BIG v1 v2 v3 v4 v6 v7 (k_depth t0) (0 : Int64) (0 : Int32) q t0
def law   (q : List Int32) : Option (Int32 × S) :=
  (h_cell (0 : Int32) q).bind fun r3 =>
  (h_cell (1 : Int32) q).bind fun r14 =>
  (h_cell (2 : Int32) q).bind fun r24 =>
  (h_cell (3 : Int32) q).bind fun r37 =>
  (k_init ((4 : Int32) + (r3 &&& (15 : Int32))) ((1 : Int32) + (r14 &&& (3 : Int32))) ((1 : Int32) + (r24 &&& (15 : Int32))) ((((1 : Int32) + (r24 &&& (15 : Int32))) + (1 : Int32)) + (r37 &&& (7 : Int32)))).bind fun r55 =>
  law_66 BIG ((4 : Int32) + (r3 &&& (15 : Int32))) ((1 : Int32) + (r14 &&& (3 : Int32))) ((1 : Int32) + (r24 &&& (15 : Int32))) ((((1 : Int32) + (r24 &&& (15 : Int32))) + (1 : Int32)) + (r37 &&& (7 : Int32))) (0 : Int32) (4 : Int32) q r55
set_option maxRecDepth 65536 in
set_option maxHeartbeats 4000000 in
theorem k_clamp_ok  {w : W} : ∀ (v0 : Int32) (v1 : Int32) (v2 : Int32)   (o : Int32), k_clamp v0 v1 v2 = o → Go PP m1 0 [.val (.int v0), .val (.int v1), .val (.int v2)] [] w (some (.int o), w) := by
  intro v0 v1 v2 o hf
  unfold k_clamp at hf
  refine go_iloadN (pc := 0) d1_0 rfl (go_iloadN (pc := 1) d1_1 rfl ?_)
  by_cases h1 : v0 < v1
  · replace hf := (if_pos h1).symm.trans hf
    refine go_icN (pc := 2) d1_2 (XT.ii_ge_f h1) ?_
    refine go_iloadN (pc := 5) d1_5 rfl ?_
    cases hf
    exact go_iret (pc := 6) rfl d1_6
  · replace hf := (if_neg h1).symm.trans hf
    refine go_icY (pc := 2) (pc' := 7) d1_2 (XT.ii_ge_t h1) j_2_5 ?_
    refine go_iloadN (pc := 7) d1_7 rfl (go_iloadN (pc := 8) d1_8 rfl ?_)
    by_cases h2 : v2 < v0
    · replace hf := (if_pos h2).symm.trans hf
      refine go_icN (pc := 9) d1_9 (XT.ii_le_f h2) ?_
      refine go_iloadN (pc := 12) d1_12 rfl ?_
      cases hf
      exact go_iret (pc := 13) rfl d1_13
    · replace hf := (if_neg h2).symm.trans hf
      refine go_icY (pc := 9) (pc' := 14) d1_9 (XT.ii_le_t h2) j_9_5 ?_
      refine go_iloadN (pc := 14) d1_14 rfl ?_
      cases hf
      exact go_iret (pc := 15) rfl d1_15
theorem c_k_clamp (v0 : Int32) (v1 : Int32) (v2 : Int32) (w : W) : Call PP m1 [.int v0, .int v1, .int v2] w (some (.int (k_clamp v0 v1 v2)), w) := call_of_go pl_0 rfl (fun h => nomatch h) (k_clamp_ok v0 v1 v2   _ rfl)
set_option maxRecDepth 65536 in
set_option maxHeartbeats 4000000 in
theorem k_clearCellFields_17_ok  : ∀ (n : Nat) (v2 : Int32) (v3 : Int32) (s : S) (x1 : Slot) (hx1 : k1 x1) (o : S), k_clearCellFields_17 n v2 v3 s = some o → Go PP m2 17 [.val (.ref 1), x1, .val (.int v2), .val (.int v3)] [] (none, [(11, s)]) (none, (none, [(11, o)])) := by
  intro n
  induction n with
  | zero => intro v2 v3 s x1 hx1 o hf; exact nomatch hf
  | succ n ih =>
    intro v2 v3 s x1 hx1 o hf
    unfold k_clearCellFields_17 at hf
    refine go_iloadN (pc := 17) d2_17 rfl (go_iconst (pc := 18) d2_18 ci_4 ?_)
    by_cases h1 : v3 < (4 : Int32)
    · replace hf := (if_pos h1).symm.trans hf
      refine go_icN (pc := 19) d2_19 (XT.ii_ge_f h1) ?_
      refine go_aloadN (pc := 22) d2_22 rfl (go_getA (pc := 23) fa_13 hm_2 d2_23 rfl (go_iloadN (pc := 26) d2_26 rfl (go_iloadN (pc := 27) d2_27 rfl (go_iadd (pc := 28) d2_28 (go_iconst (pc := 29) d2_29 ci_m1 ?_)))))
      obtain ⟨a30, e2, hf⟩ := Option.bind_eq_some_iff.mp hf
      refine go_iastore (pc := 30) (q := 1) ar_1 rfl hn_2 e2 d2_30 ?_
      refine go_iinc (pc := 31) (L' := [.val (.ref 1), x1, .val (.int v2), .val (.int (v3 + (1 : Int32)))]) d2_31 rfl ci_1 rfl (go_goto (pc := 34) (pc' := 17) d2_34 j_34_m17 ?_)
      exact ih v2 (v3 + (1 : Int32)) (sA s 1 a30) x1 hx1 _ hf
    · replace hf := (if_neg h1).symm.trans hf
      refine go_icY (pc := 19) (pc' := 37) d2_19 (XT.ii_ge_t h1) j_19_18 ?_
      cases hf
      exact go_ret (pc := 37) rfl d2_37
set_option maxRecDepth 65536 in
set_option maxHeartbeats 4000000 in
theorem k_clearCellFields_ok  : ∀ (v1 : Int32) (s : S)  (o : S), k_clearCellFields v1 s = some o → Go PP m2 0 [.val (.ref 1), .val (.int v1), .unset, .unset] [] (none, [(11, s)]) (none, (none, [(11, o)])) := by
  intro v1 s o hf
  unfold k_clearCellFields at hf
  refine go_iloadN (pc := 0) d2_0 rfl ?_
  by_cases h1 : v1 < 0
  · replace hf := (if_pos h1).symm.trans hf
    refine go_ifY (pc := 1) (pc' := 10) d2_1 (XT.i0_lt_t h1) j_1_9 ?_
    cases hf
    exact go_ret (pc := 10) rfl d2_10
  · replace hf := (if_neg h1).symm.trans hf
    refine go_ifN (pc := 1) d2_1 (XT.i0_lt_f h1) ?_
    refine go_iloadN (pc := 4) d2_4 rfl (go_bipush (pc := 5) d2_5 cb_64 ?_)
    by_cases h2 : v1 < (64 : Int32)
    · replace hf := (if_pos h2).symm.trans hf
      refine go_icY (pc := 7) (pc' := 11) d2_7 (XT.ii_lt_t h2) j_7_4 ?_
      refine go_iloadN (pc := 11) d2_11 rfl (go_iconst (pc := 12) d2_12 ci_4 (go_imul (pc := 13) d2_13 (go_istoreN (pc := 14) (L' := [.val (.ref 1), .val (.int v1), .val (.int (v1 * (4 : Int32))), .unset]) d2_14 rfl (go_iconst (pc := 15) d2_15 ci_0 (go_istoreN (pc := 16) (L' := [.val (.ref 1), .val (.int v1), .val (.int (v1 * (4 : Int32))), .val (.int (0 : Int32))]) d2_16 rfl ?_)))))
      exact k_clearCellFields_17_ok BIG (v1 * (4 : Int32)) (0 : Int32) s (.val (.int v1)) (Or.inr ⟨_, rfl, rfl⟩) _ hf
    · replace hf := (if_neg h2).symm.trans hf
      refine go_icN (pc := 7) d2_7 (XT.ii_lt_f h2) ?_
      cases hf
      exact go_ret (pc := 10) rfl d2_10
theorem c_k_clearCellFields (v1 : Int32) (s : S) (o : S) (hf : k_clearCellFields v1 s = some o) : Call PP m2 [.ref 1, .int v1] (none, [(11, s)]) (none, (none, [(11, o)])) := call_of_go pl_0 rfl (fun _ => rfl) (k_clearCellFields_ok v1 s   _ hf)
set_option maxRecDepth 65536 in
set_option maxHeartbeats 4000000 in
theorem k_resetHeap_33_ok  : ∀  (s : S) (x1 : Slot) (hx1 : k1 x1) (o : S), k_resetHeap_33 s = some o → Go PP m3 33 [.val (.ref 1), x1] [] (none, [(11, s)]) (none, (none, [(11, o)])) := by
  intro s x1 hx1 o hf
  unfold k_resetHeap_33 at hf
  refine go_aloadN (pc := 33) d3_33 rfl (go_iconst (pc := 34) d3_34 ci_0 (go_putI (pc := 35) fs_147 hm_3 (wr_4 _) hn_3 d3_35 ?_))
  cases hf
  exact go_ret (pc := 38) rfl d3_38
set_option maxRecDepth 65536 in
set_option maxHeartbeats 4000000 in
theorem k_resetHeap_2_ok  : ∀ (n : Nat) (v1 : Int32) (s : S)  (o : S), k_resetHeap_2 n v1 s = some o → Go PP m3 2 [.val (.ref 1), .val (.int v1)] [] (none, [(11, s)]) (none, (none, [(11, o)])) := by
  intro n
  induction n with
  | zero => intro v1 s o hf; exact nomatch hf
  | succ n ih =>
    intro v1 s o hf
    unfold k_resetHeap_2 at hf
    refine go_iloadN (pc := 2) d3_2 rfl (go_bipush (pc := 3) d3_3 cb_64 ?_)
    by_cases h1 : v1 < (64 : Int32)
    · replace hf := (if_pos h1).symm.trans hf
      refine go_icN (pc := 5) d3_5 (XT.ii_ge_f h1) ?_
      refine go_aloadN (pc := 8) d3_8 rfl (go_getA (pc := 9) fa_7 hm_3 d3_9 rfl (go_iloadN (pc := 12) d3_12 rfl (go_iconst (pc := 13) d3_13 ci_0 ?_)))
      obtain ⟨a14, e2, hf⟩ := Option.bind_eq_some_iff.mp hf
      refine go_bastore (pc := 14) (q := 0) ar_0 (by decide) rfl hn_3 (by decide) e2 d3_14 ?_
      refine go_aloadN (pc := 15) d3_15 rfl (go_getA (pc := 16) fa_17 hm_3 d3_16 rfl (go_iloadN (pc := 19) d3_19 rfl (go_iconst (pc := 20) d3_20 ci_0 ?_)))
      obtain ⟨a21, e3, hf⟩ := Option.bind_eq_some_iff.mp hf
      refine go_iastore (pc := 21) (q := 2) ar_2 rfl hn_3 e3 d3_21 ?_
      refine go_aloadN (pc := 22) d3_22 rfl (go_iloadN (pc := 23) d3_23 rfl ?_)
      obtain ⟨r24, e4, hf⟩ := Option.bind_eq_some_iff.mp hf
      refine go_priv (pc := 24) (i := 0) (as := [.int v1]) (rest := []) (w' := (none, [(11, r24)])) lk_0_219 pd_2 rfl oid_0 rfl rfl rfl rfl rfl rfl ⟨rfl, rfl, rfl, rfl, rfl⟩ d3_24 (c_k_clearCellFields v1 (sA (sA s 0 a14) 2 a21) _ e4) ?_
      refine go_iinc (pc := 27) (L' := [.val (.ref 1), .val (.int (v1 + (1 : Int32)))]) d3_27 rfl ci_1 rfl (go_goto (pc := 30) (pc' := 2) d3_30 j_30_m28 ?_)
      exact ih (v1 + (1 : Int32)) r24 _ hf
    · replace hf := (if_neg h1).symm.trans hf
      refine go_icY (pc := 5) (pc' := 33) d3_5 (XT.ii_ge_t h1) j_5_28 ?_
      exact k_resetHeap_33_ok s (.val (.int v1)) (Or.inr ⟨_, rfl, rfl⟩) _ hf
set_option maxRecDepth 65536 in
set_option maxHeartbeats 4000000 in
theorem k_resetHeap_ok  : ∀  (s : S)  (o : S), k_resetHeap s = some o → Go PP m3 0 [.val (.ref 1), .unset] [] (none, [(11, s)]) (none, (none, [(11, o)])) := by
  intro s o hf
  unfold k_resetHeap at hf
  refine go_iconst (pc := 0) d3_0 ci_0 (go_istoreN (pc := 1) (L' := [.val (.ref 1), .val (.int (0 : Int32))]) d3_1 rfl ?_)
  exact k_resetHeap_2_ok BIG (0 : Int32) s _ hf
theorem c_k_resetHeap (s : S) (o : S) (hf : k_resetHeap s = some o) : Call PP m3 [.ref 1] (none, [(11, s)]) (none, (none, [(11, o)])) := call_of_go pl_0 rfl (fun _ => rfl) (k_resetHeap_ok s   _ hf)
set_option maxRecDepth 65536 in
set_option maxHeartbeats 4000000 in
theorem k_resetRoots_21_ok  : ∀  (s : S) (x1 : Slot) (hx1 : k1 x1) (o : S), k_resetRoots_21 s = some o → Go PP m4 21 [.val (.ref 1), x1] [] (none, [(11, s)]) (none, (none, [(11, o)])) := by
  intro s x1 hx1 o hf
  unfold k_resetRoots_21 at hf
  refine go_aloadN (pc := 21) d4_21 rfl (go_iconst (pc := 22) d4_22 ci_0 (go_putI (pc := 23) fs_125 hm_4 (wr_5 _) hn_4 d4_23 ?_))
  cases hf
  exact go_ret (pc := 26) rfl d4_26
set_option maxRecDepth 65536 in
set_option maxHeartbeats 4000000 in
theorem k_resetRoots_2_ok  : ∀ (n : Nat) (v1 : Int32) (s : S)  (o : S), k_resetRoots_2 n v1 s = some o → Go PP m4 2 [.val (.ref 1), .val (.int v1)] [] (none, [(11, s)]) (none, (none, [(11, o)])) := by
  intro n
  induction n with
  | zero => intro v1 s o hf; exact nomatch hf
  | succ n ih =>
    intro v1 s o hf
    unfold k_resetRoots_2 at hf
    refine go_iloadN (pc := 2) d4_2 rfl (go_bipush (pc := 3) d4_3 cb_16 ?_)
    by_cases h1 : v1 < (16 : Int32)
    · replace hf := (if_pos h1).symm.trans hf
      refine go_icN (pc := 5) d4_5 (XT.ii_ge_f h1) ?_
      refine go_aloadN (pc := 8) d4_8 rfl (go_getA (pc := 9) fa_20 hm_4 d4_9 rfl (go_iloadN (pc := 12) d4_12 rfl (go_iconst (pc := 13) d4_13 ci_m1 ?_)))
      obtain ⟨a14, e2, hf⟩ := Option.bind_eq_some_iff.mp hf
      refine go_iastore (pc := 14) (q := 3) ar_3 rfl hn_4 e2 d4_14 ?_
      refine go_iinc (pc := 15) (L' := [.val (.ref 1), .val (.int (v1 + (1 : Int32)))]) d4_15 rfl ci_1 rfl (go_goto (pc := 18) (pc' := 2) d4_18 j_18_m16 ?_)
      exact ih (v1 + (1 : Int32)) (sA s 3 a14) _ hf
    · replace hf := (if_neg h1).symm.trans hf
      refine go_icY (pc := 5) (pc' := 21) d4_5 (XT.ii_ge_t h1) j_5_16 ?_
      exact k_resetRoots_21_ok s (.val (.int v1)) (Or.inr ⟨_, rfl, rfl⟩) _ hf
set_option maxRecDepth 65536 in
set_option maxHeartbeats 4000000 in
theorem k_resetRoots_ok  : ∀  (s : S)  (o : S), k_resetRoots s = some o → Go PP m4 0 [.val (.ref 1), .unset] [] (none, [(11, s)]) (none, (none, [(11, o)])) := by
  intro s o hf
  unfold k_resetRoots at hf
  refine go_iconst (pc := 0) d4_0 ci_0 (go_istoreN (pc := 1) (L' := [.val (.ref 1), .val (.int (0 : Int32))]) d4_1 rfl ?_)
  exact k_resetRoots_2_ok BIG (0 : Int32) s _ hf
theorem c_k_resetRoots (s : S) (o : S) (hf : k_resetRoots s = some o) : Call PP m4 [.ref 1] (none, [(11, s)]) (none, (none, [(11, o)])) := call_of_go pl_0 rfl (fun _ => rfl) (k_resetRoots_ok s   _ hf)
set_option maxRecDepth 65536 in
set_option maxHeartbeats 4000000 in
theorem k_resetTable_42_ok  : ∀  (s : S) (x1 : Slot) (hx1 : k1 x1) (o : S), k_resetTable_42 s = some o → Go PP m5 42 [.val (.ref 1), x1] [] (none, [(11, s)]) (none, (none, [(11, o)])) := by
  intro s x1 hx1 o hf
  unfold k_resetTable_42 at hf
  refine go_aloadN (pc := 42) d5_42 rfl (go_iconst (pc := 43) d5_43 ci_0 (go_putI (pc := 44) fs_144 hm_5 (wr_6 _) hn_5 d5_44 ?_))
  cases hf
  exact go_ret (pc := 47) rfl d5_47
set_option maxRecDepth 65536 in
set_option maxHeartbeats 4000000 in
theorem k_resetTable_23_ok  : ∀ (n : Nat) (v1 : Int32) (s : S)  (o : S), k_resetTable_23 n v1 s = some o → Go PP m5 23 [.val (.ref 1), .val (.int v1)] [] (none, [(11, s)]) (none, (none, [(11, o)])) := by
  intro n
  induction n with
  | zero => intro v1 s o hf; exact nomatch hf
  | succ n ih =>
    intro v1 s o hf
    unfold k_resetTable_23 at hf
    refine go_iloadN (pc := 23) d5_23 rfl (go_bipush (pc := 24) d5_24 cb_64 ?_)
    by_cases h1 : v1 < (64 : Int32)
    · replace hf := (if_pos h1).symm.trans hf
      refine go_icN (pc := 26) d5_26 (XT.ii_ge_f h1) ?_
      refine go_aloadN (pc := 29) d5_29 rfl (go_getA (pc := 30) fa_26 hm_5 d5_30 rfl (go_iloadN (pc := 33) d5_33 rfl (go_iconst (pc := 34) d5_34 ci_m1 ?_)))
      obtain ⟨a35, e2, hf⟩ := Option.bind_eq_some_iff.mp hf
      refine go_iastore (pc := 35) (q := 5) ar_5 rfl hn_5 e2 d5_35 ?_
      refine go_iinc (pc := 36) (L' := [.val (.ref 1), .val (.int (v1 + (1 : Int32)))]) d5_36 rfl ci_1 rfl (go_goto (pc := 39) (pc' := 23) d5_39 j_39_m16 ?_)
      exact ih (v1 + (1 : Int32)) (sA s 5 a35) _ hf
    · replace hf := (if_neg h1).symm.trans hf
      refine go_icY (pc := 26) (pc' := 42) d5_26 (XT.ii_ge_t h1) j_26_16 ?_
      exact k_resetTable_42_ok s (.val (.int v1)) (Or.inr ⟨_, rfl, rfl⟩) _ hf
set_option maxRecDepth 65536 in
set_option maxHeartbeats 4000000 in
theorem k_resetTable_21_ok  : ∀  (s : S) (x1 : Slot) (hx1 : k1 x1) (o : S), k_resetTable_21 s = some o → Go PP m5 21 [.val (.ref 1), x1] [] (none, [(11, s)]) (none, (none, [(11, o)])) := by
  intro s x1 hx1 o hf
  unfold k_resetTable_21 at hf
  refine go_iconst (pc := 21) d5_21 ci_0 (go_istoreN (pc := 22) (L' := [.val (.ref 1), .val (.int (0 : Int32))]) d5_22 (stx rfl hx1 rfl) ?_)
  exact k_resetTable_23_ok BIG (0 : Int32) s _ hf
set_option maxRecDepth 65536 in
set_option maxHeartbeats 4000000 in
theorem k_resetTable_2_ok  : ∀ (n : Nat) (v1 : Int32) (s : S)  (o : S), k_resetTable_2 n v1 s = some o → Go PP m5 2 [.val (.ref 1), .val (.int v1)] [] (none, [(11, s)]) (none, (none, [(11, o)])) := by
  intro n
  induction n with
  | zero => intro v1 s o hf; exact nomatch hf
  | succ n ih =>
    intro v1 s o hf
    unfold k_resetTable_2 at hf
    refine go_iloadN (pc := 2) d5_2 rfl (go_bipush (pc := 3) d5_3 cb_64 ?_)
    by_cases h1 : v1 < (64 : Int32)
    · replace hf := (if_pos h1).symm.trans hf
      refine go_icN (pc := 5) d5_5 (XT.ii_ge_f h1) ?_
      refine go_aloadN (pc := 8) d5_8 rfl (go_getA (pc := 9) fa_23 hm_5 d5_9 rfl (go_iloadN (pc := 12) d5_12 rfl (go_iconst (pc := 13) d5_13 ci_m1 ?_)))
      obtain ⟨a14, e2, hf⟩ := Option.bind_eq_some_iff.mp hf
      refine go_iastore (pc := 14) (q := 4) ar_4 rfl hn_5 e2 d5_14 ?_
      refine go_iinc (pc := 15) (L' := [.val (.ref 1), .val (.int (v1 + (1 : Int32)))]) d5_15 rfl ci_1 rfl (go_goto (pc := 18) (pc' := 2) d5_18 j_18_m16 ?_)
      exact ih (v1 + (1 : Int32)) (sA s 4 a14) _ hf
    · replace hf := (if_neg h1).symm.trans hf
      refine go_icY (pc := 5) (pc' := 21) d5_5 (XT.ii_ge_t h1) j_5_16 ?_
      exact k_resetTable_21_ok s (.val (.int v1)) (Or.inr ⟨_, rfl, rfl⟩) _ hf
set_option maxRecDepth 65536 in
set_option maxHeartbeats 4000000 in
theorem k_resetTable_ok  : ∀  (s : S)  (o : S), k_resetTable s = some o → Go PP m5 0 [.val (.ref 1), .unset] [] (none, [(11, s)]) (none, (none, [(11, o)])) := by
  intro s o hf
  unfold k_resetTable at hf
  refine go_iconst (pc := 0) d5_0 ci_0 (go_istoreN (pc := 1) (L' := [.val (.ref 1), .val (.int (0 : Int32))]) d5_1 rfl ?_)
  exact k_resetTable_2_ok BIG (0 : Int32) s _ hf
theorem c_k_resetTable (s : S) (o : S) (hf : k_resetTable s = some o) : Call PP m5 [.ref 1] (none, [(11, s)]) (none, (none, [(11, o)])) := call_of_go pl_0 rfl (fun _ => rfl) (k_resetTable_ok s   _ hf)
set_option maxRecDepth 65536 in
set_option maxHeartbeats 4000000 in
theorem k_resetScratch_49_ok  : ∀  (s : S) (x1 : Slot) (hx1 : k1 x1) (o : S), k_resetScratch_49 s = some o → Go PP m6 49 [.val (.ref 1), x1] [] (none, [(11, s)]) (none, (none, [(11, o)])) := by
  intro s x1 hx1 o hf
  unfold k_resetScratch_49 at hf
  refine go_aloadN (pc := 49) d6_49 rfl (go_iconst (pc := 50) d6_50 ci_0 (go_putI (pc := 51) fs_201 hm_6 (wr_7 _) hn_6 d6_51 ?_))
  cases hf
  exact go_ret (pc := 54) rfl d6_54
set_option maxRecDepth 65536 in
set_option maxHeartbeats 4000000 in
theorem k_resetScratch_2_ok  : ∀ (n : Nat) (v1 : Int32) (s : S)  (o : S), k_resetScratch_2 n v1 s = some o → Go PP m6 2 [.val (.ref 1), .val (.int v1)] [] (none, [(11, s)]) (none, (none, [(11, o)])) := by
  intro n
  induction n with
  | zero => intro v1 s o hf; exact nomatch hf
  | succ n ih =>
    intro v1 s o hf
    unfold k_resetScratch_2 at hf
    refine go_iloadN (pc := 2) d6_2 rfl (go_bipush (pc := 3) d6_3 cb_64 ?_)
    by_cases h1 : v1 < (64 : Int32)
    · replace hf := (if_pos h1).symm.trans hf
      refine go_icN (pc := 5) d6_5 (XT.ii_ge_f h1) ?_
      refine go_aloadN (pc := 8) d6_8 rfl (go_getA (pc := 9) fa_29 hm_6 d6_9 rfl (go_iloadN (pc := 12) d6_12 rfl (go_iconst (pc := 13) d6_13 ci_0 ?_)))
      obtain ⟨a14, e2, hf⟩ := Option.bind_eq_some_iff.mp hf
      refine go_bastore (pc := 14) (q := 6) ar_6 (by decide) rfl hn_6 (by decide) e2 d6_14 ?_
      refine go_aloadN (pc := 15) d6_15 rfl (go_getA (pc := 16) fa_32 hm_6 d6_16 rfl (go_iloadN (pc := 19) d6_19 rfl (go_iconst (pc := 20) d6_20 ci_0 ?_)))
      obtain ⟨a21, e3, hf⟩ := Option.bind_eq_some_iff.mp hf
      refine go_bastore (pc := 21) (q := 7) ar_7 (by decide) rfl hn_6 (by decide) e3 d6_21 ?_
      refine go_aloadN (pc := 22) d6_22 rfl (go_getA (pc := 23) fa_35 hm_6 d6_23 rfl (go_iloadN (pc := 26) d6_26 rfl (go_iconst (pc := 27) d6_27 ci_0 ?_)))
      obtain ⟨a28, e4, hf⟩ := Option.bind_eq_some_iff.mp hf
      refine go_bastore (pc := 28) (q := 8) ar_8 (by decide) rfl hn_6 (by decide) e4 d6_28 ?_
      refine go_aloadN (pc := 29) d6_29 rfl (go_getA (pc := 30) fa_38 hm_6 d6_30 rfl (go_iloadN (pc := 33) d6_33 rfl (go_iconst (pc := 34) d6_34 ci_0 ?_)))
      obtain ⟨a35, e5, hf⟩ := Option.bind_eq_some_iff.mp hf
      refine go_iastore (pc := 35) (q := 9) ar_9 rfl hn_6 e5 d6_35 ?_
      refine go_aloadN (pc := 36) d6_36 rfl (go_getA (pc := 37) fa_41 hm_6 d6_37 rfl (go_iloadN (pc := 40) d6_40 rfl (go_iconst (pc := 41) d6_41 ci_m1 ?_)))
      obtain ⟨a42, e6, hf⟩ := Option.bind_eq_some_iff.mp hf
      refine go_iastore (pc := 42) (q := 10) ar_10 rfl hn_6 e6 d6_42 ?_
      refine go_iinc (pc := 43) (L' := [.val (.ref 1), .val (.int (v1 + (1 : Int32)))]) d6_43 rfl ci_1 rfl (go_goto (pc := 46) (pc' := 2) d6_46 j_46_m44 ?_)
      exact ih (v1 + (1 : Int32)) (sA (sA (sA (sA (sA s 6 a14) 7 a21) 8 a28) 9 a35) 10 a42) _ hf
    · replace hf := (if_neg h1).symm.trans hf
      refine go_icY (pc := 5) (pc' := 49) d6_5 (XT.ii_ge_t h1) j_5_44 ?_
      exact k_resetScratch_49_ok s (.val (.int v1)) (Or.inr ⟨_, rfl, rfl⟩) _ hf
set_option maxRecDepth 65536 in
set_option maxHeartbeats 4000000 in
theorem k_resetScratch_ok  : ∀  (s : S)  (o : S), k_resetScratch s = some o → Go PP m6 0 [.val (.ref 1), .unset] [] (none, [(11, s)]) (none, (none, [(11, o)])) := by
  intro s o hf
  unfold k_resetScratch at hf
  refine go_iconst (pc := 0) d6_0 ci_0 (go_istoreN (pc := 1) (L' := [.val (.ref 1), .val (.int (0 : Int32))]) d6_1 rfl ?_)
  exact k_resetScratch_2_ok BIG (0 : Int32) s _ hf
theorem c_k_resetScratch (s : S) (o : S) (hf : k_resetScratch s = some o) : Call PP m6 [.ref 1] (none, [(11, s)]) (none, (none, [(11, o)])) := call_of_go pl_0 rfl (fun _ => rfl) (k_resetScratch_ok s   _ hf)
set_option maxRecDepth 65536 in
set_option maxHeartbeats 4000000 in
theorem k_init_ok  : ∀ (v1 : Int32) (v2 : Int32) (v3 : Int32) (v4 : Int32)   (o : S), k_init v1 v2 v3 v4 = some o → Go PP m7 0 [.val (.ref 1), .val (.int v1), .val (.int v2), .val (.int v3), .val (.int v4), .unset] [] (none, [(0, s0)]) (none, (none, [(11, o)])) := by
  intro v1 v2 v3 v4 o hf
  unfold k_init at hf
  refine go_aloadN (pc := 0) d7_0 rfl ?_
  refine go_objinit (pc := 1) (rest := []) (a := 0) (List.mem_of_getElem? (i := 10) rfl) (List.mem_of_getElem? (i := 11) rfl) (List.mem_of_getElem? (i := 12) rfl) rfl rfl d7_1 ?_
  refine go_aloadN (pc := 4) d7_4 rfl (go_bipush (pc := 5) d7_5 cb_64 ?_)
  refine go_newI (pc := 7) (ty := .boolean) rfl (by decide) ar_0 (List.mem_of_getElem? (i := 13) rfl) (List.mem_of_getElem? (i := 14) rfl) hm_7 (Or.inl (List.mem_of_getElem? (i := 15) rfl)) rfl hn_7 (by decide) rfl rfl rfl rfl d7_7 d7_9 ?_
  refine go_aloadN (pc := 12) d7_12 rfl (go_sipush (pc := 13) d7_13 cs_256 ?_)
  refine go_newI (pc := 16) (ty := .int) rfl (by decide) ar_1 (List.mem_of_getElem? (i := 16) rfl) (List.mem_of_getElem? (i := 17) rfl) hm_7 (Or.inl (List.mem_of_getElem? (i := 18) rfl)) rfl hn_7 (by decide) rfl rfl rfl rfl d7_16 d7_18 ?_
  refine go_aloadN (pc := 21) d7_21 rfl (go_bipush (pc := 22) d7_22 cb_64 ?_)
  refine go_newI (pc := 24) (ty := .int) rfl (by decide) ar_2 (List.mem_of_getElem? (i := 16) rfl) (List.mem_of_getElem? (i := 19) rfl) hm_7 (Or.inl (List.mem_of_getElem? (i := 20) rfl)) rfl hn_7 (by decide) rfl rfl rfl rfl d7_24 d7_26 ?_
  refine go_aloadN (pc := 29) d7_29 rfl (go_bipush (pc := 30) d7_30 cb_16 ?_)
  refine go_newI (pc := 32) (ty := .int) rfl (by decide) ar_3 (List.mem_of_getElem? (i := 16) rfl) (List.mem_of_getElem? (i := 21) rfl) hm_7 (Or.inl (List.mem_of_getElem? (i := 22) rfl)) rfl hn_7 (by decide) rfl rfl rfl rfl d7_32 d7_34 ?_
  refine go_aloadN (pc := 37) d7_37 rfl (go_bipush (pc := 38) d7_38 cb_64 ?_)
  refine go_newI (pc := 40) (ty := .int) rfl (by decide) ar_4 (List.mem_of_getElem? (i := 16) rfl) (List.mem_of_getElem? (i := 23) rfl) hm_7 (Or.inl (List.mem_of_getElem? (i := 24) rfl)) rfl hn_7 (by decide) rfl rfl rfl rfl d7_40 d7_42 ?_
  refine go_aloadN (pc := 45) d7_45 rfl (go_bipush (pc := 46) d7_46 cb_64 ?_)
  refine go_newI (pc := 48) (ty := .int) rfl (by decide) ar_5 (List.mem_of_getElem? (i := 16) rfl) (List.mem_of_getElem? (i := 25) rfl) hm_7 (Or.inl (List.mem_of_getElem? (i := 26) rfl)) rfl hn_7 (by decide) rfl rfl rfl rfl d7_48 d7_50 ?_
  refine go_aloadN (pc := 53) d7_53 rfl (go_bipush (pc := 54) d7_54 cb_64 ?_)
  refine go_newI (pc := 56) (ty := .boolean) rfl (by decide) ar_6 (List.mem_of_getElem? (i := 13) rfl) (List.mem_of_getElem? (i := 27) rfl) hm_7 (Or.inl (List.mem_of_getElem? (i := 28) rfl)) rfl hn_7 (by decide) rfl rfl rfl rfl d7_56 d7_58 ?_
  refine go_aloadN (pc := 61) d7_61 rfl (go_bipush (pc := 62) d7_62 cb_64 ?_)
  refine go_newI (pc := 64) (ty := .boolean) rfl (by decide) ar_7 (List.mem_of_getElem? (i := 13) rfl) (List.mem_of_getElem? (i := 29) rfl) hm_7 (Or.inl (List.mem_of_getElem? (i := 30) rfl)) rfl hn_7 (by decide) rfl rfl rfl rfl d7_64 d7_66 ?_
  refine go_aloadN (pc := 69) d7_69 rfl (go_bipush (pc := 70) d7_70 cb_64 ?_)
  refine go_newI (pc := 72) (ty := .boolean) rfl (by decide) ar_8 (List.mem_of_getElem? (i := 13) rfl) (List.mem_of_getElem? (i := 31) rfl) hm_7 (Or.inl (List.mem_of_getElem? (i := 32) rfl)) rfl hn_7 (by decide) rfl rfl rfl rfl d7_72 d7_74 ?_
  refine go_aloadN (pc := 77) d7_77 rfl (go_bipush (pc := 78) d7_78 cb_64 ?_)
  refine go_newI (pc := 80) (ty := .int) rfl (by decide) ar_9 (List.mem_of_getElem? (i := 16) rfl) (List.mem_of_getElem? (i := 33) rfl) hm_7 (Or.inl (List.mem_of_getElem? (i := 34) rfl)) rfl hn_7 (by decide) rfl rfl rfl rfl d7_80 d7_82 ?_
  refine go_aloadN (pc := 85) d7_85 rfl (go_bipush (pc := 86) d7_86 cb_64 ?_)
  refine go_newI (pc := 88) (ty := .int) rfl (by decide) ar_10 (List.mem_of_getElem? (i := 16) rfl) (List.mem_of_getElem? (i := 35) rfl) hm_7 (Or.inl (List.mem_of_getElem? (i := 36) rfl)) rfl hn_7 (by decide) rfl rfl rfl rfl d7_88 d7_90 ?_
  refine go_aloadN (pc := 93) d7_93 rfl (go_iloadN (pc := 94) d7_94 rfl (go_iconst (pc := 95) d7_95 ci_4 (go_bipush (pc := 96) d7_96 cb_64 ?_)))
  refine go_stat (pc := 98) (as := [.int v1, .int (4 : Int32), .int (64 : Int32)]) (rest := [.ref 1]) (w' := (none, [(11, sA (sA (sA (sA (sA (sA (sA (sA (sA (sA (sA s0 0 (rep 64 0)) 1 (rep 256 0)) 2 (rep 64 0)) 3 (rep 16 0)) 4 (rep 64 0)) 5 (rep 64 0)) 6 (rep 64 0)) 7 (rep 64 0)) 8 (rep 64 0)) 9 (rep 64 0)) 10 (rep 64 0))])) lk_0_44 pd_1 rfl rfl ⟨Nat.le_of_ble_eq_true rfl, Nat.le_of_ble_eq_true rfl⟩ ⟨rfl, rfl, rfl⟩ ⟨rfl, rfl, rfl, rfl, rfl⟩ d7_98 (c_k_clamp v1 (4 : Int32) (64 : Int32) (none, [(11, sA (sA (sA (sA (sA (sA (sA (sA (sA (sA (sA s0 0 (rep 64 0)) 1 (rep 256 0)) 2 (rep 64 0)) 3 (rep 16 0)) 4 (rep 64 0)) 5 (rep 64 0)) 6 (rep 64 0)) 7 (rep 64 0)) 8 (rep 64 0)) 9 (rep 64 0)) 10 (rep 64 0))])) ?_
  refine go_putI (pc := 101) fs_48 hm_7 (wr_0 _) hn_7 d7_101 (go_aloadN (pc := 104) d7_104 rfl (go_iloadN (pc := 105) d7_105 rfl (go_iconst (pc := 106) d7_106 ci_1 (go_iconst (pc := 107) d7_107 ci_4 ?_))))
  refine go_stat (pc := 108) (as := [.int v2, .int (1 : Int32), .int (4 : Int32)]) (rest := [.ref 1]) (w' := (none, [(11, sI (sA (sA (sA (sA (sA (sA (sA (sA (sA (sA (sA s0 0 (rep 64 0)) 1 (rep 256 0)) 2 (rep 64 0)) 3 (rep 16 0)) 4 (rep 64 0)) 5 (rep 64 0)) 6 (rep 64 0)) 7 (rep 64 0)) 8 (rep 64 0)) 9 (rep 64 0)) 10 (rep 64 0)) 0 (k_clamp v1 (4 : Int32) (64 : Int32)))])) lk_0_44 pd_1 rfl rfl ⟨Nat.le_of_ble_eq_true rfl, Nat.le_of_ble_eq_true rfl⟩ ⟨rfl, rfl, rfl⟩ ⟨rfl, rfl, rfl, rfl, rfl⟩ d7_108 (c_k_clamp v2 (1 : Int32) (4 : Int32) (none, [(11, sI (sA (sA (sA (sA (sA (sA (sA (sA (sA (sA (sA s0 0 (rep 64 0)) 1 (rep 256 0)) 2 (rep 64 0)) 3 (rep 16 0)) 4 (rep 64 0)) 5 (rep 64 0)) 6 (rep 64 0)) 7 (rep 64 0)) 8 (rep 64 0)) 9 (rep 64 0)) 10 (rep 64 0)) 0 (k_clamp v1 (4 : Int32) (64 : Int32)))])) ?_
  refine go_putI (pc := 111) fs_52 hm_7 (wr_1 _) hn_7 d7_111 (go_aloadN (pc := 114) d7_114 rfl (go_iloadN (pc := 115) d7_115 rfl (go_iconst (pc := 116) d7_116 ci_1 (go_bipush (pc := 117) d7_117 cb_16 ?_))))
  refine go_stat (pc := 119) (as := [.int v3, .int (1 : Int32), .int (16 : Int32)]) (rest := [.ref 1]) (w' := (none, [(11, sI (sI (sA (sA (sA (sA (sA (sA (sA (sA (sA (sA (sA s0 0 (rep 64 0)) 1 (rep 256 0)) 2 (rep 64 0)) 3 (rep 16 0)) 4 (rep 64 0)) 5 (rep 64 0)) 6 (rep 64 0)) 7 (rep 64 0)) 8 (rep 64 0)) 9 (rep 64 0)) 10 (rep 64 0)) 0 (k_clamp v1 (4 : Int32) (64 : Int32))) 1 (k_clamp v2 (1 : Int32) (4 : Int32)))])) lk_0_44 pd_1 rfl rfl ⟨Nat.le_of_ble_eq_true rfl, Nat.le_of_ble_eq_true rfl⟩ ⟨rfl, rfl, rfl⟩ ⟨rfl, rfl, rfl, rfl, rfl⟩ d7_119 (c_k_clamp v3 (1 : Int32) (16 : Int32) (none, [(11, sI (sI (sA (sA (sA (sA (sA (sA (sA (sA (sA (sA (sA s0 0 (rep 64 0)) 1 (rep 256 0)) 2 (rep 64 0)) 3 (rep 16 0)) 4 (rep 64 0)) 5 (rep 64 0)) 6 (rep 64 0)) 7 (rep 64 0)) 8 (rep 64 0)) 9 (rep 64 0)) 10 (rep 64 0)) 0 (k_clamp v1 (4 : Int32) (64 : Int32))) 1 (k_clamp v2 (1 : Int32) (4 : Int32)))])) ?_
  refine go_putI (pc := 122) fs_55 hm_7 (wr_2 _) hn_7 d7_122 (go_aloadN (pc := 125) d7_125 rfl (go_getI (pc := 126) fs_55 hm_7 d7_126 (go_iconst (pc := 129) d7_129 ci_1 (go_iadd (pc := 130) d7_130 (go_istore (pc := 131) (L' := [.val (.ref 1), .val (.int v1), .val (.int v2), .val (.int v3), .val (.int v4), .val (.int ((k_clamp v3 (1 : Int32) (16 : Int32)) + (1 : Int32)))]) d7_131 rfl (go_aloadN (pc := 133) d7_133 rfl (go_iload (pc := 134) d7_134 rfl ?_)))))))
  refine go_iload (pc := 136) d7_136 rfl (go_bipush (pc := 138) d7_138 cb_64 ?_)
  refine go_stat (pc := 140) (as := [.int v4, .int ((k_clamp v3 (1 : Int32) (16 : Int32)) + (1 : Int32)), .int (64 : Int32)]) (rest := [.ref 1]) (w' := (none, [(11, sI (sI (sI (sA (sA (sA (sA (sA (sA (sA (sA (sA (sA (sA s0 0 (rep 64 0)) 1 (rep 256 0)) 2 (rep 64 0)) 3 (rep 16 0)) 4 (rep 64 0)) 5 (rep 64 0)) 6 (rep 64 0)) 7 (rep 64 0)) 8 (rep 64 0)) 9 (rep 64 0)) 10 (rep 64 0)) 0 (k_clamp v1 (4 : Int32) (64 : Int32))) 1 (k_clamp v2 (1 : Int32) (4 : Int32))) 2 (k_clamp v3 (1 : Int32) (16 : Int32)))])) lk_0_44 pd_1 rfl rfl ⟨Nat.le_of_ble_eq_true rfl, Nat.le_of_ble_eq_true rfl⟩ ⟨rfl, rfl, rfl⟩ ⟨rfl, rfl, rfl, rfl, rfl⟩ d7_140 (c_k_clamp v4 ((k_clamp v3 (1 : Int32) (16 : Int32)) + (1 : Int32)) (64 : Int32) (none, [(11, sI (sI (sI (sA (sA (sA (sA (sA (sA (sA (sA (sA (sA (sA s0 0 (rep 64 0)) 1 (rep 256 0)) 2 (rep 64 0)) 3 (rep 16 0)) 4 (rep 64 0)) 5 (rep 64 0)) 6 (rep 64 0)) 7 (rep 64 0)) 8 (rep 64 0)) 9 (rep 64 0)) 10 (rep 64 0)) 0 (k_clamp v1 (4 : Int32) (64 : Int32))) 1 (k_clamp v2 (1 : Int32) (4 : Int32))) 2 (k_clamp v3 (1 : Int32) (16 : Int32)))])) ?_
  refine go_putI (pc := 143) fs_58 hm_7 (wr_3 _) hn_7 d7_143 (go_aloadN (pc := 146) d7_146 rfl ?_)
  obtain ⟨r147, e12, hf⟩ := Option.bind_eq_some_iff.mp hf
  refine go_priv (pc := 147) (i := 0) (as := []) (rest := []) (w' := (none, [(11, r147)])) lk_0_61 pd_3 rfl oid_0 rfl rfl rfl rfl rfl rfl ⟨rfl, rfl, rfl, rfl, rfl⟩ d7_147 (c_k_resetHeap (sI (sI (sI (sI (sA (sA (sA (sA (sA (sA (sA (sA (sA (sA (sA s0 0 (rep 64 0)) 1 (rep 256 0)) 2 (rep 64 0)) 3 (rep 16 0)) 4 (rep 64 0)) 5 (rep 64 0)) 6 (rep 64 0)) 7 (rep 64 0)) 8 (rep 64 0)) 9 (rep 64 0)) 10 (rep 64 0)) 0 (k_clamp v1 (4 : Int32) (64 : Int32))) 1 (k_clamp v2 (1 : Int32) (4 : Int32))) 2 (k_clamp v3 (1 : Int32) (16 : Int32))) 3 (k_clamp v4 ((k_clamp v3 (1 : Int32) (16 : Int32)) + (1 : Int32)) (64 : Int32))) _ e12) ?_
  refine go_aloadN (pc := 150) d7_150 rfl ?_
  obtain ⟨r151, e13, hf⟩ := Option.bind_eq_some_iff.mp hf
  refine go_priv (pc := 151) (i := 0) (as := []) (rest := []) (w' := (none, [(11, r151)])) lk_0_64 pd_4 rfl oid_0 rfl rfl rfl rfl rfl rfl ⟨rfl, rfl, rfl, rfl, rfl⟩ d7_151 (c_k_resetRoots r147 _ e13) ?_
  refine go_aloadN (pc := 154) d7_154 rfl ?_
  obtain ⟨r155, e14, hf⟩ := Option.bind_eq_some_iff.mp hf
  refine go_priv (pc := 155) (i := 0) (as := []) (rest := []) (w' := (none, [(11, r155)])) lk_0_67 pd_5 rfl oid_0 rfl rfl rfl rfl rfl rfl ⟨rfl, rfl, rfl, rfl, rfl⟩ d7_155 (c_k_resetTable r151 _ e14) ?_
  refine go_aloadN (pc := 158) d7_158 rfl ?_
  obtain ⟨r159, e15, hf⟩ := Option.bind_eq_some_iff.mp hf
  refine go_priv (pc := 159) (i := 0) (as := []) (rest := []) (w' := (none, [(11, r159)])) lk_0_70 pd_6 rfl oid_0 rfl rfl rfl rfl rfl rfl ⟨rfl, rfl, rfl, rfl, rfl⟩ d7_159 (c_k_resetScratch r155 _ e15) ?_
  refine go_aloadN (pc := 162) d7_162 rfl (go_iconst (pc := 163) d7_163 ci_0 (go_putI (pc := 164) fs_73 hm_7 (wr_8 _) hn_7 d7_164 ?_))
  cases hf
  exact go_ret (pc := 167) rfl d7_167
theorem c_k_init (v1 : Int32) (v2 : Int32) (v3 : Int32) (v4 : Int32) (o : S) (hf : k_init v1 v2 v3 v4 = some o) : Call PP m7 [.ref 1, .int v1, .int v2, .int v3, .int v4] (none, [(0, s0)]) (none, (none, [(11, o)])) := call_of_go pl_0 rfl (fun _ => rfl) (k_init_ok v1 v2 v3 v4   _ hf)
set_option maxRecDepth 65536 in
set_option maxHeartbeats 4000000 in
theorem k_depth_ok  : ∀  (s : S)  (o : Int32), k_depth s = o → Go PP m8 0 [.val (.ref 1)] [] (none, [(11, s)]) (some (.int o), (none, [(11, s)])) := by
  intro s o hf
  unfold k_depth at hf
  refine go_aloadN (pc := 0) d8_0 rfl (go_getI (pc := 1) fs_125 hm_8 d8_1 ?_)
  cases hf
  exact go_iret (pc := 4) rfl d8_4
theorem c_k_depth (s : S) : Call PP m8 [.ref 1] (none, [(11, s)]) (some (.int (k_depth s)), (none, [(11, s)])) := call_of_go pl_0 rfl (fun h => nomatch h) (k_depth_ok s   _ rfl)
set_option maxRecDepth 65536 in
set_option maxHeartbeats 4000000 in
theorem k_isRootSlot_ok  : ∀ (v1 : Int32) (s : S)  (o : Int32), k_isRootSlot v1 s = o → Go PP m9 0 [.val (.ref 1), .val (.int v1)] [] (none, [(11, s)]) (some (.int o), (none, [(11, s)])) := by
  intro v1 s o hf
  unfold k_isRootSlot at hf
  refine go_iloadN (pc := 0) d9_0 rfl ?_
  by_cases h1 : v1 < 0
  · replace hf := (if_pos h1).symm.trans hf
    refine go_ifY (pc := 1) (pc' := 16) d9_1 (XT.i0_lt_t h1) j_1_15 ?_
    refine go_iconst (pc := 16) d9_16 ci_0 ?_
    cases hf
    exact go_zret (pc := 17) rfl d9_17 (show (0 : Int32) = nar .boolean (0 : Int32) by decide)
  · replace hf := (if_neg h1).symm.trans hf
    refine go_ifN (pc := 1) d9_1 (XT.i0_lt_f h1) ?_
    refine go_iloadN (pc := 4) d9_4 rfl (go_aloadN (pc := 5) d9_5 rfl (go_getI (pc := 6) fs_125 hm_9 d9_6 ?_))
    by_cases h2 : v1 < (gI s 5)
    · replace hf := (if_pos h2).symm.trans hf
      refine go_icN (pc := 9) d9_9 (XT.ii_ge_f h2) ?_
      refine go_iconst (pc := 12) d9_12 ci_1 (go_goto (pc := 13) (pc' := 17) d9_13 j_13_4 ?_)
      cases hf
      exact go_zret (pc := 17) rfl d9_17 (show (1 : Int32) = nar .boolean (1 : Int32) by decide)
    · replace hf := (if_neg h2).symm.trans hf
      refine go_icY (pc := 9) (pc' := 16) d9_9 (XT.ii_ge_t h2) j_9_7 ?_
      refine go_iconst (pc := 16) d9_16 ci_0 ?_
      cases hf
      exact go_zret (pc := 17) rfl d9_17 (show (0 : Int32) = nar .boolean (0 : Int32) by decide)
theorem c_k_isRootSlot (v1 : Int32) (s : S) : Call PP m9 [.ref 1, .int v1] (none, [(11, s)]) (some (.int (k_isRootSlot v1 s)), (none, [(11, s)])) := call_of_go pl_0 rfl (fun h => nomatch h) (k_isRootSlot_ok v1 s   _ rfl)
set_option maxRecDepth 65536 in
set_option maxHeartbeats 4000000 in
theorem k_root_ok  : ∀ (v1 : Int32) (s : S)  (o : Int32), k_root v1 s = some o → Go PP m10 0 [.val (.ref 1), .val (.int v1)] [] (none, [(11, s)]) (some (.int o), (none, [(11, s)])) := by
  intro v1 s o hf
  unfold k_root at hf
  refine go_aloadN (pc := 0) d10_0 rfl (go_iloadN (pc := 1) d10_1 rfl ?_)
  refine go_priv (pc := 2) (i := 0) (as := [.int v1]) (rest := []) (w' := (none, [(11, s)])) lk_0_131 pd_9 rfl oid_0 rfl rfl rfl rfl rfl rfl ⟨rfl, rfl, rfl, rfl, rfl⟩ d10_2 (c_k_isRootSlot v1 s) ?_
  by_cases h1 : (k_isRootSlot v1 s) = 0
  · replace hf := (if_pos h1).symm.trans hf
    refine go_ifN (pc := 5) d10_5 (XT.i0_ne_f h1) ?_
    refine go_bipush (pc := 8) d10_8 cb_m5 ?_
    cases hf
    exact go_iret (pc := 10) rfl d10_10
  · replace hf := (if_neg h1).symm.trans hf
    refine go_ifY (pc := 5) (pc' := 11) d10_5 (XT.i0_ne_t h1) j_5_6 ?_
    refine go_aloadN (pc := 11) d10_11 rfl (go_getA (pc := 12) fa_20 hm_10 d10_12 rfl (go_iloadN (pc := 15) d10_15 rfl ?_))
    obtain ⟨a16, e2, hf⟩ := Option.bind_eq_some_iff.mp hf
    refine go_iaload (pc := 16) (q := 3) ar_3 rfl e2 d10_16 ?_
    cases hf
    exact go_iret (pc := 17) rfl d10_17
theorem c_k_root (v1 : Int32) (s : S) (o : Int32) (hf : k_root v1 s = some o) : Call PP m10 [.ref 1, .int v1] (none, [(11, s)]) (some (.int o), (none, [(11, s)])) := call_of_go pl_0 rfl (fun h => nomatch h) (k_root_ok v1 s   _ hf)
set_option maxRecDepth 65536 in
set_option maxHeartbeats 4000000 in
theorem k_isObjectId_ok  : ∀ (v1 : Int32) (s : S)  (o : Int32), k_isObjectId v1 s = o → Go PP m11 0 [.val (.ref 1), .val (.int v1)] [] (none, [(11, s)]) (some (.int o), (none, [(11, s)])) := by
  intro v1 s o hf
  unfold k_isObjectId at hf
  refine go_iloadN (pc := 0) d11_0 rfl ?_
  by_cases h1 : v1 < 0
  · replace hf := (if_pos h1).symm.trans hf
    refine go_ifY (pc := 1) (pc' := 16) d11_1 (XT.i0_lt_t h1) j_1_15 ?_
    refine go_iconst (pc := 16) d11_16 ci_0 ?_
    cases hf
    exact go_zret (pc := 17) rfl d11_17 (show (0 : Int32) = nar .boolean (0 : Int32) by decide)
  · replace hf := (if_neg h1).symm.trans hf
    refine go_ifN (pc := 1) d11_1 (XT.i0_lt_f h1) ?_
    refine go_iloadN (pc := 4) d11_4 rfl (go_aloadN (pc := 5) d11_5 rfl (go_getI (pc := 6) fs_48 hm_11 d11_6 ?_))
    by_cases h2 : v1 < (gI s 0)
    · replace hf := (if_pos h2).symm.trans hf
      refine go_icN (pc := 9) d11_9 (XT.ii_ge_f h2) ?_
      refine go_iconst (pc := 12) d11_12 ci_1 (go_goto (pc := 13) (pc' := 17) d11_13 j_13_4 ?_)
      cases hf
      exact go_zret (pc := 17) rfl d11_17 (show (1 : Int32) = nar .boolean (1 : Int32) by decide)
    · replace hf := (if_neg h2).symm.trans hf
      refine go_icY (pc := 9) (pc' := 16) d11_9 (XT.ii_ge_t h2) j_9_7 ?_
      refine go_iconst (pc := 16) d11_16 ci_0 ?_
      cases hf
      exact go_zret (pc := 17) rfl d11_17 (show (0 : Int32) = nar .boolean (0 : Int32) by decide)
theorem c_k_isObjectId (v1 : Int32) (s : S) : Call PP m11 [.ref 1, .int v1] (none, [(11, s)]) (some (.int (k_isObjectId v1 s)), (none, [(11, s)])) := call_of_go pl_0 rfl (fun h => nomatch h) (k_isObjectId_ok v1 s   _ rfl)
set_option maxRecDepth 65536 in
set_option maxHeartbeats 4000000 in
theorem k_isLiveId_ok  : ∀ (v1 : Int32) (s : S)  (o : Int32), k_isLiveId v1 s = some o → Go PP m12 0 [.val (.ref 1), .val (.int v1)] [] (none, [(11, s)]) (some (.int o), (none, [(11, s)])) := by
  intro v1 s o hf
  unfold k_isLiveId at hf
  refine go_aloadN (pc := 0) d12_0 rfl (go_iloadN (pc := 1) d12_1 rfl ?_)
  refine go_priv (pc := 2) (i := 0) (as := [.int v1]) (rest := []) (w' := (none, [(11, s)])) lk_0_165 pd_11 rfl oid_0 rfl rfl rfl rfl rfl rfl ⟨rfl, rfl, rfl, rfl, rfl⟩ d12_2 (c_k_isObjectId v1 s) ?_
  by_cases h1 : (k_isObjectId v1 s) = 0
  · replace hf := (if_pos h1).symm.trans hf
    refine go_ifY (pc := 5) (pc' := 21) d12_5 (XT.i0_eq_t h1) j_5_16 ?_
    refine go_iconst (pc := 21) d12_21 ci_0 ?_
    cases hf
    exact go_zret (pc := 22) rfl d12_22 (show (0 : Int32) = nar .boolean (0 : Int32) by decide)
  · replace hf := (if_neg h1).symm.trans hf
    refine go_ifN (pc := 5) d12_5 (XT.i0_eq_f h1) ?_
    refine go_aloadN (pc := 8) d12_8 rfl (go_getA (pc := 9) fa_7 hm_12 d12_9 rfl (go_iloadN (pc := 12) d12_12 rfl ?_))
    obtain ⟨a13, e2, hf⟩ := Option.bind_eq_some_iff.mp hf
    refine go_baload (pc := 13) (q := 0) ar_0 (by decide) rfl e2 d12_13 ?_
    by_cases h3 : a13 = 0
    · replace hf := (if_pos h3).symm.trans hf
      refine go_ifY (pc := 14) (pc' := 21) d12_14 (XT.i0_eq_t h3) j_14_7 ?_
      refine go_iconst (pc := 21) d12_21 ci_0 ?_
      cases hf
      exact go_zret (pc := 22) rfl d12_22 (show (0 : Int32) = nar .boolean (0 : Int32) by decide)
    · replace hf := (if_neg h3).symm.trans hf
      refine go_ifN (pc := 14) d12_14 (XT.i0_eq_f h3) ?_
      refine go_iconst (pc := 17) d12_17 ci_1 (go_goto (pc := 18) (pc' := 22) d12_18 j_18_4 ?_)
      cases hf
      exact go_zret (pc := 22) rfl d12_22 (show (1 : Int32) = nar .boolean (1 : Int32) by decide)
theorem c_k_isLiveId (v1 : Int32) (s : S) (o : Int32) (hf : k_isLiveId v1 s = some o) : Call PP m12 [.ref 1, .int v1] (none, [(11, s)]) (some (.int o), (none, [(11, s)])) := call_of_go pl_0 rfl (fun h => nomatch h) (k_isLiveId_ok v1 s   _ hf)
set_option maxRecDepth 65536 in
set_option maxHeartbeats 4000000 in
theorem k_isLive_ok  : ∀ (v1 : Int32) (s : S)  (o : Int32), k_isLive v1 s = some o → Go PP m13 0 [.val (.ref 1), .val (.int v1)] [] (none, [(11, s)]) (some (.int o), (none, [(11, s)])) := by
  intro v1 s o hf
  unfold k_isLive at hf
  refine go_aloadN (pc := 0) d13_0 rfl (go_iloadN (pc := 1) d13_1 rfl ?_)
  obtain ⟨r2, e1, hf⟩ := Option.bind_eq_some_iff.mp hf
  refine go_priv (pc := 2) (i := 0) (as := [.int v1]) (rest := []) (w' := (none, [(11, s)])) lk_0_135 pd_12 rfl oid_0 rfl rfl rfl rfl rfl rfl ⟨rfl, rfl, rfl, rfl, rfl⟩ d13_2 (c_k_isLiveId v1 s _ e1) ?_
  cases hf
  exact go_zret (pc := 5) rfl d13_5 rfl
theorem c_k_isLive (v1 : Int32) (s : S) (o : Int32) (hf : k_isLive v1 s = some o) : Call PP m13 [.ref 1, .int v1] (none, [(11, s)]) (some (.int o), (none, [(11, s)])) := call_of_go pl_0 rfl (fun h => nomatch h) (k_isLive_ok v1 s   _ hf)
set_option maxRecDepth 65536 in
set_option maxHeartbeats 4000000 in
theorem k_tableHas_ok  : ∀ (v1 : Int32) (s : S)  (o : Int32), k_tableHas v1 s = some o → Go PP m14 0 [.val (.ref 1), .val (.int v1)] [] (none, [(11, s)]) (some (.int o), (none, [(11, s)])) := by
  intro v1 s o hf
  unfold k_tableHas at hf
  refine go_aloadN (pc := 0) d14_0 rfl (go_iloadN (pc := 1) d14_1 rfl ?_)
  refine go_priv (pc := 2) (i := 0) (as := [.int v1]) (rest := []) (w' := (none, [(11, s)])) lk_0_165 pd_11 rfl oid_0 rfl rfl rfl rfl rfl rfl ⟨rfl, rfl, rfl, rfl, rfl⟩ d14_2 (c_k_isObjectId v1 s) ?_
  by_cases h1 : (k_isObjectId v1 s) = 0
  · replace hf := (if_pos h1).symm.trans hf
    refine go_ifN (pc := 5) d14_5 (XT.i0_ne_f h1) ?_
    refine go_iconst (pc := 8) d14_8 ci_0 ?_
    cases hf
    exact go_zret (pc := 9) rfl d14_9 (show (0 : Int32) = nar .boolean (0 : Int32) by decide)
  · replace hf := (if_neg h1).symm.trans hf
    refine go_ifY (pc := 5) (pc' := 10) d14_5 (XT.i0_ne_t h1) j_5_5 ?_
    refine go_aloadN (pc := 10) d14_10 rfl (go_getA (pc := 11) fa_26 hm_14 d14_11 rfl (go_iloadN (pc := 14) d14_14 rfl ?_))
    obtain ⟨a15, e2, hf⟩ := Option.bind_eq_some_iff.mp hf
    refine go_iaload (pc := 15) (q := 5) ar_5 rfl e2 d14_15 ?_
    refine go_iconst (pc := 16) d14_16 ci_m1 ?_
    by_cases h3 : a15 = (-1 : Int32)
    · replace hf := (if_pos h3).symm.trans hf
      refine go_icY (pc := 17) (pc' := 24) d14_17 (XT.ii_eq_t h3) j_17_7 ?_
      refine go_iconst (pc := 24) d14_24 ci_0 ?_
      cases hf
      exact go_zret (pc := 25) rfl d14_25 (show (0 : Int32) = nar .boolean (0 : Int32) by decide)
    · replace hf := (if_neg h3).symm.trans hf
      refine go_icN (pc := 17) d14_17 (XT.ii_eq_f h3) ?_
      refine go_iconst (pc := 20) d14_20 ci_1 (go_goto (pc := 21) (pc' := 25) d14_21 j_21_4 ?_)
      cases hf
      exact go_zret (pc := 25) rfl d14_25 (show (1 : Int32) = nar .boolean (1 : Int32) by decide)
theorem c_k_tableHas (v1 : Int32) (s : S) (o : Int32) (hf : k_tableHas v1 s = some o) : Call PP m14 [.ref 1, .int v1] (none, [(11, s)]) (some (.int o), (none, [(11, s)])) := call_of_go pl_0 rfl (fun h => nomatch h) (k_tableHas_ok v1 s   _ hf)
set_option maxRecDepth 65536 in
set_option maxHeartbeats 4000000 in
theorem k_inTable_ok  : ∀ (v1 : Int32) (s : S)  (o : Int32), k_inTable v1 s = some o → Go PP m15 0 [.val (.ref 1), .val (.int v1)] [] (none, [(11, s)]) (some (.int o), (none, [(11, s)])) := by
  intro v1 s o hf
  unfold k_inTable at hf
  refine go_aloadN (pc := 0) d15_0 rfl (go_iloadN (pc := 1) d15_1 rfl ?_)
  obtain ⟨r2, e1, hf⟩ := Option.bind_eq_some_iff.mp hf
  refine go_priv (pc := 2) (i := 0) (as := [.int v1]) (rest := []) (w' := (none, [(11, s)])) lk_0_141 pd_14 rfl oid_0 rfl rfl rfl rfl rfl rfl ⟨rfl, rfl, rfl, rfl, rfl⟩ d15_2 (c_k_tableHas v1 s _ e1) ?_
  cases hf
  exact go_zret (pc := 5) rfl d15_5 rfl
theorem c_k_inTable (v1 : Int32) (s : S) (o : Int32) (hf : k_inTable v1 s = some o) : Call PP m15 [.ref 1, .int v1] (none, [(11, s)]) (some (.int o), (none, [(11, s)])) := call_of_go pl_0 rfl (fun h => nomatch h) (k_inTable_ok v1 s   _ hf)
set_option maxRecDepth 65536 in
set_option maxHeartbeats 4000000 in
theorem k_isFieldNo_ok  : ∀ (v1 : Int32) (s : S)  (o : Int32), k_isFieldNo v1 s = o → Go PP m16 0 [.val (.ref 1), .val (.int v1)] [] (none, [(11, s)]) (some (.int o), (none, [(11, s)])) := by
  intro v1 s o hf
  unfold k_isFieldNo at hf
  refine go_iloadN (pc := 0) d16_0 rfl ?_
  by_cases h1 : v1 < 0
  · replace hf := (if_pos h1).symm.trans hf
    refine go_ifY (pc := 1) (pc' := 16) d16_1 (XT.i0_lt_t h1) j_1_15 ?_
    refine go_iconst (pc := 16) d16_16 ci_0 ?_
    cases hf
    exact go_zret (pc := 17) rfl d16_17 (show (0 : Int32) = nar .boolean (0 : Int32) by decide)
  · replace hf := (if_neg h1).symm.trans hf
    refine go_ifN (pc := 1) d16_1 (XT.i0_lt_f h1) ?_
    refine go_iloadN (pc := 4) d16_4 rfl (go_aloadN (pc := 5) d16_5 rfl (go_getI (pc := 6) fs_52 hm_16 d16_6 ?_))
    by_cases h2 : v1 < (gI s 1)
    · replace hf := (if_pos h2).symm.trans hf
      refine go_icN (pc := 9) d16_9 (XT.ii_ge_f h2) ?_
      refine go_iconst (pc := 12) d16_12 ci_1 (go_goto (pc := 13) (pc' := 17) d16_13 j_13_4 ?_)
      cases hf
      exact go_zret (pc := 17) rfl d16_17 (show (1 : Int32) = nar .boolean (1 : Int32) by decide)
    · replace hf := (if_neg h2).symm.trans hf
      refine go_icY (pc := 9) (pc' := 16) d16_9 (XT.ii_ge_t h2) j_9_7 ?_
      refine go_iconst (pc := 16) d16_16 ci_0 ?_
      cases hf
      exact go_zret (pc := 17) rfl d16_17 (show (0 : Int32) = nar .boolean (0 : Int32) by decide)
theorem c_k_isFieldNo (v1 : Int32) (s : S) : Call PP m16 [.ref 1, .int v1] (none, [(11, s)]) (some (.int (k_isFieldNo v1 s)), (none, [(11, s)])) := call_of_go pl_0 rfl (fun h => nomatch h) (k_isFieldNo_ok v1 s   _ rfl)
set_option maxRecDepth 65536 in
set_option maxHeartbeats 4000000 in
theorem k_readField_ok  : ∀ (v1 : Int32) (v2 : Int32) (s : S)  (o : Int32), k_readField v1 v2 s = some o → Go PP m17 0 [.val (.ref 1), .val (.int v1), .val (.int v2)] [] (none, [(11, s)]) (some (.int o), (none, [(11, s)])) := by
  intro v1 v2 s o hf
  unfold k_readField at hf
  refine go_aloadN (pc := 0) d17_0 rfl (go_iloadN (pc := 1) d17_1 rfl ?_)
  refine go_priv (pc := 2) (i := 0) (as := [.int v1]) (rest := []) (w' := (none, [(11, s)])) lk_0_165 pd_11 rfl oid_0 rfl rfl rfl rfl rfl rfl ⟨rfl, rfl, rfl, rfl, rfl⟩ d17_2 (c_k_isObjectId v1 s) ?_
  by_cases h1 : (k_isObjectId v1 s) = 0
  · replace hf := (if_pos h1).symm.trans hf
    refine go_ifN (pc := 5) d17_5 (XT.i0_ne_f h1) ?_
    refine go_iconst (pc := 8) d17_8 ci_m1 ?_
    cases hf
    exact go_iret (pc := 9) rfl d17_9
  · replace hf := (if_neg h1).symm.trans hf
    refine go_ifY (pc := 5) (pc' := 10) d17_5 (XT.i0_ne_t h1) j_5_5 ?_
    refine go_aloadN (pc := 10) d17_10 rfl (go_iloadN (pc := 11) d17_11 rfl ?_)
    refine go_priv (pc := 12) (i := 0) (as := [.int v2]) (rest := []) (w' := (none, [(11, s)])) lk_0_138 pd_16 rfl oid_0 rfl rfl rfl rfl rfl rfl ⟨rfl, rfl, rfl, rfl, rfl⟩ d17_12 (c_k_isFieldNo v2 s) ?_
    by_cases h2 : (k_isFieldNo v2 s) = 0
    · replace hf := (if_pos h2).symm.trans hf
      refine go_ifN (pc := 15) d17_15 (XT.i0_ne_f h2) ?_
      refine go_iconst (pc := 18) d17_18 ci_m1 ?_
      cases hf
      exact go_iret (pc := 19) rfl d17_19
    · replace hf := (if_neg h2).symm.trans hf
      refine go_ifY (pc := 15) (pc' := 20) d17_15 (XT.i0_ne_t h2) j_15_5 ?_
      refine go_aloadN (pc := 20) d17_20 rfl (go_getA (pc := 21) fa_13 hm_17 d17_21 rfl (go_iloadN (pc := 24) d17_24 rfl (go_iconst (pc := 25) d17_25 ci_4 (go_imul (pc := 26) d17_26 (go_iloadN (pc := 27) d17_27 rfl (go_iadd (pc := 28) d17_28 ?_))))))
      obtain ⟨a29, e3, hf⟩ := Option.bind_eq_some_iff.mp hf
      refine go_iaload (pc := 29) (q := 1) ar_1 rfl e3 d17_29 ?_
      cases hf
      exact go_iret (pc := 30) rfl d17_30
theorem c_k_readField (v1 : Int32) (v2 : Int32) (s : S) (o : Int32) (hf : k_readField v1 v2 s = some o) : Call PP m17 [.ref 1, .int v1, .int v2] (none, [(11, s)]) (some (.int o), (none, [(11, s)])) := call_of_go pl_0 rfl (fun h => nomatch h) (k_readField_ok v1 v2 s   _ hf)
set_option maxRecDepth 65536 in
set_option maxHeartbeats 4000000 in
theorem k_field_ok  : ∀ (v1 : Int32) (v2 : Int32) (s : S)  (o : Int32), k_field v1 v2 s = some o → Go PP m18 0 [.val (.ref 1), .val (.int v1), .val (.int v2)] [] (none, [(11, s)]) (some (.int o), (none, [(11, s)])) := by
  intro v1 v2 s o hf
  unfold k_field at hf
  refine go_aloadN (pc := 0) d18_0 rfl (go_iloadN (pc := 1) d18_1 rfl ?_)
  obtain ⟨r2, e1, hf⟩ := Option.bind_eq_some_iff.mp hf
  refine go_priv (pc := 2) (i := 0) (as := [.int v1]) (rest := []) (w' := (none, [(11, s)])) lk_0_135 pd_12 rfl oid_0 rfl rfl rfl rfl rfl rfl ⟨rfl, rfl, rfl, rfl, rfl⟩ d18_2 (c_k_isLiveId v1 s _ e1) ?_
  by_cases h2 : r2 = 0
  · replace hf := (if_pos h2).symm.trans hf
    refine go_ifN (pc := 5) d18_5 (XT.i0_ne_f h2) ?_
    refine go_bipush (pc := 8) d18_8 cb_m8 ?_
    cases hf
    exact go_iret (pc := 10) rfl d18_10
  · replace hf := (if_neg h2).symm.trans hf
    refine go_ifY (pc := 5) (pc' := 11) d18_5 (XT.i0_ne_t h2) j_5_6 ?_
    refine go_aloadN (pc := 11) d18_11 rfl (go_iloadN (pc := 12) d18_12 rfl ?_)
    refine go_priv (pc := 13) (i := 0) (as := [.int v2]) (rest := []) (w' := (none, [(11, s)])) lk_0_138 pd_16 rfl oid_0 rfl rfl rfl rfl rfl rfl ⟨rfl, rfl, rfl, rfl, rfl⟩ d18_13 (c_k_isFieldNo v2 s) ?_
    by_cases h3 : (k_isFieldNo v2 s) = 0
    · replace hf := (if_pos h3).symm.trans hf
      refine go_ifN (pc := 16) d18_16 (XT.i0_ne_f h3) ?_
      refine go_bipush (pc := 19) d18_19 cb_m6 ?_
      cases hf
      exact go_iret (pc := 21) rfl d18_21
    · replace hf := (if_neg h3).symm.trans hf
      refine go_ifY (pc := 16) (pc' := 22) d18_16 (XT.i0_ne_t h3) j_16_6 ?_
      refine go_aloadN (pc := 22) d18_22 rfl (go_iloadN (pc := 23) d18_23 rfl (go_iloadN (pc := 24) d18_24 rfl ?_))
      obtain ⟨r25, e4, hf⟩ := Option.bind_eq_some_iff.mp hf
      refine go_priv (pc := 25) (i := 0) (as := [.int v1, .int v2]) (rest := []) (w' := (none, [(11, s)])) lk_0_98 pd_17 rfl oid_0 rfl rfl rfl rfl rfl rfl ⟨rfl, rfl, rfl, rfl, rfl⟩ d18_25 (c_k_readField v1 v2 s _ e4) ?_
      cases hf
      exact go_iret (pc := 28) rfl d18_28
theorem c_k_field (v1 : Int32) (v2 : Int32) (s : S) (o : Int32) (hf : k_field v1 v2 s = some o) : Call PP m18 [.ref 1, .int v1, .int v2] (none, [(11, s)]) (some (.int o), (none, [(11, s)])) := call_of_go pl_0 rfl (fun h => nomatch h) (k_field_ok v1 v2 s   _ hf)
set_option maxRecDepth 65536 in
set_option maxHeartbeats 4000000 in
theorem k_count_ok  : ∀ (v1 : Int32) (s : S)  (o : Int32), k_count v1 s = some o → Go PP m19 0 [.val (.ref 1), .val (.int v1)] [] (none, [(11, s)]) (some (.int o), (none, [(11, s)])) := by
  intro v1 s o hf
  unfold k_count at hf
  refine go_aloadN (pc := 0) d19_0 rfl (go_iloadN (pc := 1) d19_1 rfl ?_)
  obtain ⟨r2, e1, hf⟩ := Option.bind_eq_some_iff.mp hf
  refine go_priv (pc := 2) (i := 0) (as := [.int v1]) (rest := []) (w' := (none, [(11, s)])) lk_0_135 pd_12 rfl oid_0 rfl rfl rfl rfl rfl rfl ⟨rfl, rfl, rfl, rfl, rfl⟩ d19_2 (c_k_isLiveId v1 s _ e1) ?_
  by_cases h2 : r2 = 0
  · replace hf := (if_pos h2).symm.trans hf
    refine go_ifN (pc := 5) d19_5 (XT.i0_ne_f h2) ?_
    refine go_bipush (pc := 8) d19_8 cb_m8 ?_
    cases hf
    exact go_iret (pc := 10) rfl d19_10
  · replace hf := (if_neg h2).symm.trans hf
    refine go_ifY (pc := 5) (pc' := 11) d19_5 (XT.i0_ne_t h2) j_5_6 ?_
    refine go_aloadN (pc := 11) d19_11 rfl (go_getA (pc := 12) fa_17 hm_19 d19_12 rfl (go_iloadN (pc := 15) d19_15 rfl ?_))
    obtain ⟨a16, e3, hf⟩ := Option.bind_eq_some_iff.mp hf
    refine go_iaload (pc := 16) (q := 2) ar_2 rfl e3 d19_16 ?_
    cases hf
    exact go_iret (pc := 17) rfl d19_17
theorem c_k_count (v1 : Int32) (s : S) (o : Int32) (hf : k_count v1 s = some o) : Call PP m19 [.ref 1, .int v1] (none, [(11, s)]) (some (.int o), (none, [(11, s)])) := call_of_go pl_0 rfl (fun h => nomatch h) (k_count_ok v1 s   _ hf)
set_option maxRecDepth 65536 in
set_option maxHeartbeats 4000000 in
theorem k_tableSize_ok  : ∀  (s : S)  (o : Int32), k_tableSize s = o → Go PP m20 0 [.val (.ref 1)] [] (none, [(11, s)]) (some (.int o), (none, [(11, s)])) := by
  intro s o hf
  unfold k_tableSize at hf
  refine go_aloadN (pc := 0) d20_0 rfl (go_getI (pc := 1) fs_144 hm_20 d20_1 ?_)
  cases hf
  exact go_iret (pc := 4) rfl d20_4
theorem c_k_tableSize (s : S) : Call PP m20 [.ref 1] (none, [(11, s)]) (some (.int (k_tableSize s)), (none, [(11, s)])) := call_of_go pl_0 rfl (fun h => nomatch h) (k_tableSize_ok s   _ rfl)
set_option maxRecDepth 65536 in
set_option maxHeartbeats 4000000 in
theorem k_rootsFull_ok  : ∀  (s : S)  (o : Int32), k_rootsFull s = o → Go PP m21 0 [.val (.ref 1)] [] (none, [(11, s)]) (some (.int o), (none, [(11, s)])) := by
  intro s o hf
  unfold k_rootsFull at hf
  refine go_aloadN (pc := 0) d21_0 rfl (go_getI (pc := 1) fs_125 hm_21 d21_1 (go_aloadN (pc := 4) d21_4 rfl (go_getI (pc := 5) fs_55 hm_21 d21_5 ?_)))
  by_cases h1 : (gI s 5) < (gI s 2)
  · replace hf := (if_pos h1).symm.trans hf
    refine go_icY (pc := 8) (pc' := 15) d21_8 (XT.ii_lt_t h1) j_8_7 ?_
    refine go_iconst (pc := 15) d21_15 ci_0 ?_
    cases hf
    exact go_zret (pc := 16) rfl d21_16 (show (0 : Int32) = nar .boolean (0 : Int32) by decide)
  · replace hf := (if_neg h1).symm.trans hf
    refine go_icN (pc := 8) d21_8 (XT.ii_lt_f h1) ?_
    refine go_iconst (pc := 11) d21_11 ci_1 (go_goto (pc := 12) (pc' := 16) d21_12 j_12_4 ?_)
    cases hf
    exact go_zret (pc := 16) rfl d21_16 (show (1 : Int32) = nar .boolean (1 : Int32) by decide)
theorem c_k_rootsFull (s : S) : Call PP m21 [.ref 1] (none, [(11, s)]) (some (.int (k_rootsFull s)), (none, [(11, s)])) := call_of_go pl_0 rfl (fun h => nomatch h) (k_rootsFull_ok s   _ rfl)
set_option maxRecDepth 65536 in
set_option maxHeartbeats 4000000 in
theorem k_hasFreeCell_ok  : ∀  (s : S)  (o : Int32), k_hasFreeCell s = o → Go PP m22 0 [.val (.ref 1)] [] (none, [(11, s)]) (some (.int o), (none, [(11, s)])) := by
  intro s o hf
  unfold k_hasFreeCell at hf
  refine go_aloadN (pc := 0) d22_0 rfl (go_getI (pc := 1) fs_147 hm_22 d22_1 (go_aloadN (pc := 4) d22_4 rfl (go_getI (pc := 5) fs_48 hm_22 d22_5 ?_)))
  by_cases h1 : (gI s 4) < (gI s 0)
  · replace hf := (if_pos h1).symm.trans hf
    refine go_icN (pc := 8) d22_8 (XT.ii_ge_f h1) ?_
    refine go_iconst (pc := 11) d22_11 ci_1 (go_goto (pc := 12) (pc' := 16) d22_12 j_12_4 ?_)
    cases hf
    exact go_zret (pc := 16) rfl d22_16 (show (1 : Int32) = nar .boolean (1 : Int32) by decide)
  · replace hf := (if_neg h1).symm.trans hf
    refine go_icY (pc := 8) (pc' := 15) d22_8 (XT.ii_ge_t h1) j_8_7 ?_
    refine go_iconst (pc := 15) d22_15 ci_0 ?_
    cases hf
    exact go_zret (pc := 16) rfl d22_16 (show (0 : Int32) = nar .boolean (0 : Int32) by decide)
theorem c_k_hasFreeCell (s : S) : Call PP m22 [.ref 1] (none, [(11, s)]) (some (.int (k_hasFreeCell s)), (none, [(11, s)])) := call_of_go pl_0 rfl (fun h => nomatch h) (k_hasFreeCell_ok s   _ rfl)
set_option maxRecDepth 65536 in
set_option maxHeartbeats 4000000 in
theorem k_tableIsFull_ok  : ∀  (s : S)  (o : Int32), k_tableIsFull s = o → Go PP m23 0 [.val (.ref 1)] [] (none, [(11, s)]) (some (.int o), (none, [(11, s)])) := by
  intro s o hf
  unfold k_tableIsFull at hf
  refine go_aloadN (pc := 0) d23_0 rfl (go_getI (pc := 1) fs_144 hm_23 d23_1 (go_aloadN (pc := 4) d23_4 rfl (go_getI (pc := 5) fs_58 hm_23 d23_5 ?_)))
  by_cases h1 : (gI s 6) < (gI s 3)
  · replace hf := (if_pos h1).symm.trans hf
    refine go_icY (pc := 8) (pc' := 15) d23_8 (XT.ii_lt_t h1) j_8_7 ?_
    refine go_iconst (pc := 15) d23_15 ci_0 ?_
    cases hf
    exact go_zret (pc := 16) rfl d23_16 (show (0 : Int32) = nar .boolean (0 : Int32) by decide)
  · replace hf := (if_neg h1).symm.trans hf
    refine go_icN (pc := 8) d23_8 (XT.ii_lt_f h1) ?_
    refine go_iconst (pc := 11) d23_11 ci_1 (go_goto (pc := 12) (pc' := 16) d23_12 j_12_4 ?_)
    cases hf
    exact go_zret (pc := 16) rfl d23_16 (show (1 : Int32) = nar .boolean (1 : Int32) by decide)
theorem c_k_tableIsFull (s : S) : Call PP m23 [.ref 1] (none, [(11, s)]) (some (.int (k_tableIsFull s)), (none, [(11, s)])) := call_of_go pl_0 rfl (fun h => nomatch h) (k_tableIsFull_ok s   _ rfl)
set_option maxRecDepth 65536 in
set_option maxHeartbeats 4000000 in
theorem k_allocNeedsReconcile_ok  : ∀  (s : S)  (o : Int32), k_allocNeedsReconcile s = o → Go PP m24 0 [.val (.ref 1)] [] (none, [(11, s)]) (some (.int o), (none, [(11, s)])) := by
  intro s o hf
  unfold k_allocNeedsReconcile at hf
  refine go_aloadN (pc := 0) d24_0 rfl ?_
  refine go_priv (pc := 1) (i := 0) (as := []) (rest := []) (w' := (none, [(11, s)])) lk_0_153 pd_22 rfl oid_0 rfl rfl rfl rfl rfl rfl ⟨rfl, rfl, rfl, rfl, rfl⟩ d24_1 (c_k_hasFreeCell s) ?_
  by_cases h1 : (k_hasFreeCell s) = 0
  · replace hf := (if_pos h1).symm.trans hf
    refine go_ifN (pc := 4) d24_4 (XT.i0_ne_f h1) ?_
    refine go_iconst (pc := 7) d24_7 ci_1 ?_
    cases hf
    exact go_zret (pc := 8) rfl d24_8 (show (1 : Int32) = nar .boolean (1 : Int32) by decide)
  · replace hf := (if_neg h1).symm.trans hf
    refine go_ifY (pc := 4) (pc' := 9) d24_4 (XT.i0_ne_t h1) j_4_5 ?_
    refine go_aloadN (pc := 9) d24_9 rfl ?_
    refine go_priv (pc := 10) (i := 0) (as := []) (rest := []) (w' := (none, [(11, s)])) lk_0_156 pd_23 rfl oid_0 rfl rfl rfl rfl rfl rfl ⟨rfl, rfl, rfl, rfl, rfl⟩ d24_10 (c_k_tableIsFull s) ?_
    cases hf
    exact go_zret (pc := 13) rfl d24_13 rfl
theorem c_k_allocNeedsReconcile (s : S) : Call PP m24 [.ref 1] (none, [(11, s)]) (some (.int (k_allocNeedsReconcile s)), (none, [(11, s)])) := call_of_go pl_0 rfl (fun h => nomatch h) (k_allocNeedsReconcile_ok s   _ rfl)
set_option maxRecDepth 65536 in
set_option maxHeartbeats 4000000 in
theorem k_markRootHeld_23_ok  : ∀ (n : Nat) (v1 : Int32) (s : S) (x2 : Slot) (hx2 : k1 x2) (o : S), k_markRootHeld_23 n v1 s = some o → Go PP m25 23 [.val (.ref 1), .val (.int v1), x2] [] (none, [(11, s)]) (none, (none, [(11, o)])) := by
  intro n
  induction n with
  | zero => intro v1 s x2 hx2 o hf; exact nomatch hf
  | succ n ih =>
    intro v1 s x2 hx2 o hf
    unfold k_markRootHeld_23 at hf
    refine go_iloadN (pc := 23) d25_23 rfl (go_aloadN (pc := 24) d25_24 rfl (go_getI (pc := 25) fs_125 hm_25 d25_25 ?_))
    by_cases h1 : v1 < (gI s 5)
    · replace hf := (if_pos h1).symm.trans hf
      refine go_icN (pc := 28) d25_28 (XT.ii_ge_f h1) ?_
      refine go_iloadN (pc := 31) d25_31 rfl (go_bipush (pc := 32) d25_32 cb_16 ?_)
      by_cases h2 : v1 < (16 : Int32)
      · replace hf := (if_pos h2).symm.trans hf
        refine go_icN (pc := 34) d25_34 (XT.ii_ge_f h2) ?_
        refine go_aloadN (pc := 37) d25_37 rfl (go_getA (pc := 38) fa_20 hm_25 d25_38 rfl (go_iloadN (pc := 41) d25_41 rfl ?_))
        obtain ⟨a42, e3, hf⟩ := Option.bind_eq_some_iff.mp hf
        refine go_iaload (pc := 42) (q := 3) ar_3 rfl e3 d25_42 ?_
        refine go_istoreN (pc := 43) (L' := [.val (.ref 1), .val (.int v1), .val (.int a42)]) d25_43 (stx rfl hx2 rfl) (go_aloadN (pc := 44) d25_44 rfl (go_iloadN (pc := 45) d25_45 rfl ?_))
        refine go_priv (pc := 46) (i := 0) (as := [.int a42]) (rest := []) (w' := (none, [(11, s)])) lk_0_165 pd_11 rfl oid_0 rfl rfl rfl rfl rfl rfl ⟨rfl, rfl, rfl, rfl, rfl⟩ d25_46 (c_k_isObjectId a42 s) ?_
        by_cases h4 : (k_isObjectId a42 s) = 0
        · replace hf := (if_pos h4).symm.trans hf
          refine go_ifY (pc := 49) (pc' := 59) d25_49 (XT.i0_eq_t h4) j_49_10 ?_
          refine go_iinc (pc := 59) (L' := [.val (.ref 1), .val (.int (v1 + (1 : Int32))), .val (.int a42)]) d25_59 rfl ci_1 rfl (go_goto (pc := 62) (pc' := 23) d25_62 j_62_m39 ?_)
          exact ih (v1 + (1 : Int32)) s (.val (.int a42)) (Or.inr ⟨_, rfl, rfl⟩) _ hf
        · replace hf := (if_neg h4).symm.trans hf
          refine go_ifN (pc := 49) d25_49 (XT.i0_eq_f h4) ?_
          refine go_aloadN (pc := 52) d25_52 rfl (go_getA (pc := 53) fa_32 hm_25 d25_53 rfl (go_iloadN (pc := 56) d25_56 rfl (go_iconst (pc := 57) d25_57 ci_1 ?_)))
          obtain ⟨a58, e5, hf⟩ := Option.bind_eq_some_iff.mp hf
          refine go_bastore (pc := 58) (q := 7) ar_7 (by decide) rfl hn_25 (by decide) e5 d25_58 ?_
          refine go_iinc (pc := 59) (L' := [.val (.ref 1), .val (.int (v1 + (1 : Int32))), .val (.int a42)]) d25_59 rfl ci_1 rfl (go_goto (pc := 62) (pc' := 23) d25_62 j_62_m39 ?_)
          exact ih (v1 + (1 : Int32)) (sA s 7 a58) (.val (.int a42)) (Or.inr ⟨_, rfl, rfl⟩) _ hf
      · replace hf := (if_neg h2).symm.trans hf
        refine go_icY (pc := 34) (pc' := 65) d25_34 (XT.ii_ge_t h2) j_34_31 ?_
        cases hf
        exact go_ret (pc := 65) rfl d25_65
    · replace hf := (if_neg h1).symm.trans hf
      refine go_icY (pc := 28) (pc' := 65) d25_28 (XT.ii_ge_t h1) j_28_37 ?_
      cases hf
      exact go_ret (pc := 65) rfl d25_65
set_option maxRecDepth 65536 in
set_option maxHeartbeats 4000000 in
theorem k_markRootHeld_21_ok  : ∀  (s : S) (x1 : Slot) (hx1 : k1 x1) (o : S), k_markRootHeld_21 s = some o → Go PP m25 21 [.val (.ref 1), x1, .unset] [] (none, [(11, s)]) (none, (none, [(11, o)])) := by
  intro s x1 hx1 o hf
  unfold k_markRootHeld_21 at hf
  refine go_iconst (pc := 21) d25_21 ci_0 (go_istoreN (pc := 22) (L' := [.val (.ref 1), .val (.int (0 : Int32)), .unset]) d25_22 (stx rfl hx1 rfl) ?_)
  exact k_markRootHeld_23_ok BIG (0 : Int32) s .unset (Or.inl rfl) _ hf
set_option maxRecDepth 65536 in
set_option maxHeartbeats 4000000 in
theorem k_markRootHeld_2_ok  : ∀ (n : Nat) (v1 : Int32) (s : S)  (o : S), k_markRootHeld_2 n v1 s = some o → Go PP m25 2 [.val (.ref 1), .val (.int v1), .unset] [] (none, [(11, s)]) (none, (none, [(11, o)])) := by
  intro n
  induction n with
  | zero => intro v1 s o hf; exact nomatch hf
  | succ n ih =>
    intro v1 s o hf
    unfold k_markRootHeld_2 at hf
    refine go_iloadN (pc := 2) d25_2 rfl (go_bipush (pc := 3) d25_3 cb_64 ?_)
    by_cases h1 : v1 < (64 : Int32)
    · replace hf := (if_pos h1).symm.trans hf
      refine go_icN (pc := 5) d25_5 (XT.ii_ge_f h1) ?_
      refine go_aloadN (pc := 8) d25_8 rfl (go_getA (pc := 9) fa_32 hm_25 d25_9 rfl (go_iloadN (pc := 12) d25_12 rfl (go_iconst (pc := 13) d25_13 ci_0 ?_)))
      obtain ⟨a14, e2, hf⟩ := Option.bind_eq_some_iff.mp hf
      refine go_bastore (pc := 14) (q := 7) ar_7 (by decide) rfl hn_25 (by decide) e2 d25_14 ?_
      refine go_iinc (pc := 15) (L' := [.val (.ref 1), .val (.int (v1 + (1 : Int32))), .unset]) d25_15 rfl ci_1 rfl (go_goto (pc := 18) (pc' := 2) d25_18 j_18_m16 ?_)
      exact ih (v1 + (1 : Int32)) (sA s 7 a14) _ hf
    · replace hf := (if_neg h1).symm.trans hf
      refine go_icY (pc := 5) (pc' := 21) d25_5 (XT.ii_ge_t h1) j_5_16 ?_
      exact k_markRootHeld_21_ok s (.val (.int v1)) (Or.inr ⟨_, rfl, rfl⟩) _ hf
set_option maxRecDepth 65536 in
set_option maxHeartbeats 4000000 in
theorem k_markRootHeld_ok  : ∀  (s : S)  (o : S), k_markRootHeld s = some o → Go PP m25 0 [.val (.ref 1), .unset, .unset] [] (none, [(11, s)]) (none, (none, [(11, o)])) := by
  intro s o hf
  unfold k_markRootHeld at hf
  refine go_iconst (pc := 0) d25_0 ci_0 (go_istoreN (pc := 1) (L' := [.val (.ref 1), .val (.int (0 : Int32)), .unset]) d25_1 rfl ?_)
  exact k_markRootHeld_2_ok BIG (0 : Int32) s _ hf
theorem c_k_markRootHeld (s : S) (o : S) (hf : k_markRootHeld s = some o) : Call PP m25 [.ref 1] (none, [(11, s)]) (none, (none, [(11, o)])) := call_of_go pl_0 rfl (fun _ => rfl) (k_markRootHeld_ok s   _ hf)
set_option maxRecDepth 65536 in
set_option maxHeartbeats 4000000 in
theorem k_addHoldersOf_2_ok  : ∀ (n : Nat) (v1 : Int32) (v2 : Int32) (s : S) (x3 : Slot) (hx3 : k1 x3) (o : S), k_addHoldersOf_2 n v1 v2 s = some o → Go PP m26 2 [.val (.ref 1), .val (.int v1), .val (.int v2), x3] [] (none, [(11, s)]) (none, (none, [(11, o)])) := by
  intro n
  induction n with
  | zero => intro v1 v2 s x3 hx3 o hf; exact nomatch hf
  | succ n ih =>
    intro v1 v2 s x3 hx3 o hf
    unfold k_addHoldersOf_2 at hf
    refine go_iloadN (pc := 2) d26_2 rfl (go_aloadN (pc := 3) d26_3 rfl (go_getI (pc := 4) fs_52 hm_26 d26_4 ?_))
    by_cases h1 : v2 < (gI s 1)
    · replace hf := (if_pos h1).symm.trans hf
      refine go_icN (pc := 7) d26_7 (XT.ii_ge_f h1) ?_
      refine go_aloadN (pc := 10) d26_10 rfl (go_iloadN (pc := 11) d26_11 rfl (go_iloadN (pc := 12) d26_12 rfl ?_))
      obtain ⟨r13, e2, hf⟩ := Option.bind_eq_some_iff.mp hf
      refine go_priv (pc := 13) (i := 0) (as := [.int v1, .int v2]) (rest := []) (w' := (none, [(11, s)])) lk_0_98 pd_17 rfl oid_0 rfl rfl rfl rfl rfl rfl ⟨rfl, rfl, rfl, rfl, rfl⟩ d26_13 (c_k_readField v1 v2 s _ e2) ?_
      refine go_istoreN (pc := 16) (L' := [.val (.ref 1), .val (.int v1), .val (.int v2), .val (.int r13)]) d26_16 (stx rfl hx3 rfl) (go_aloadN (pc := 17) d26_17 rfl (go_iloadN (pc := 18) d26_18 rfl ?_))
      obtain ⟨r19, e3, hf⟩ := Option.bind_eq_some_iff.mp hf
      refine go_priv (pc := 19) (i := 0) (as := [.int r13]) (rest := []) (w' := (none, [(11, s)])) lk_0_135 pd_12 rfl oid_0 rfl rfl rfl rfl rfl rfl ⟨rfl, rfl, rfl, rfl, rfl⟩ d26_19 (c_k_isLiveId r13 s _ e3) ?_
      by_cases h4 : r19 = 0
      · replace hf := (if_pos h4).symm.trans hf
        refine go_ifY (pc := 22) (pc' := 39) d26_22 (XT.i0_eq_t h4) j_22_17 ?_
        refine go_iinc (pc := 39) (L' := [.val (.ref 1), .val (.int v1), .val (.int (v2 + (1 : Int32))), .val (.int r13)]) d26_39 rfl ci_1 rfl (go_goto (pc := 42) (pc' := 2) d26_42 j_42_m40 ?_)
        exact ih v1 (v2 + (1 : Int32)) s (.val (.int r13)) (Or.inr ⟨_, rfl, rfl⟩) _ hf
      · replace hf := (if_neg h4).symm.trans hf
        refine go_ifN (pc := 22) d26_22 (XT.i0_eq_f h4) ?_
        refine go_aloadN (pc := 25) d26_25 rfl (go_getA (pc := 26) fa_38 hm_26 d26_26 rfl (go_iloadN (pc := 29) d26_29 rfl (go_aloadN (pc := 30) d26_30 rfl (go_getA (pc := 31) fa_38 hm_26 d26_31 rfl (go_iloadN (pc := 34) d26_34 rfl ?_)))))
        obtain ⟨a35, e5, hf⟩ := Option.bind_eq_some_iff.mp hf
        refine go_iaload (pc := 35) (q := 9) ar_9 rfl e5 d26_35 ?_
        refine go_iconst (pc := 36) d26_36 ci_1 (go_iadd (pc := 37) d26_37 ?_)
        obtain ⟨a38, e6, hf⟩ := Option.bind_eq_some_iff.mp hf
        refine go_iastore (pc := 38) (q := 9) ar_9 rfl hn_26 e6 d26_38 ?_
        refine go_iinc (pc := 39) (L' := [.val (.ref 1), .val (.int v1), .val (.int (v2 + (1 : Int32))), .val (.int r13)]) d26_39 rfl ci_1 rfl (go_goto (pc := 42) (pc' := 2) d26_42 j_42_m40 ?_)
        exact ih v1 (v2 + (1 : Int32)) (sA s 9 a38) (.val (.int r13)) (Or.inr ⟨_, rfl, rfl⟩) _ hf
    · replace hf := (if_neg h1).symm.trans hf
      refine go_icY (pc := 7) (pc' := 45) d26_7 (XT.ii_ge_t h1) j_7_38 ?_
      cases hf
      exact go_ret (pc := 45) rfl d26_45
set_option maxRecDepth 65536 in
set_option maxHeartbeats 4000000 in
theorem k_addHoldersOf_ok  : ∀ (v1 : Int32) (s : S)  (o : S), k_addHoldersOf v1 s = some o → Go PP m26 0 [.val (.ref 1), .val (.int v1), .unset, .unset] [] (none, [(11, s)]) (none, (none, [(11, o)])) := by
  intro v1 s o hf
  unfold k_addHoldersOf at hf
  refine go_iconst (pc := 0) d26_0 ci_0 (go_istoreN (pc := 1) (L' := [.val (.ref 1), .val (.int v1), .val (.int (0 : Int32)), .unset]) d26_1 rfl ?_)
  exact k_addHoldersOf_2_ok BIG v1 (0 : Int32) s .unset (Or.inl rfl) _ hf
theorem c_k_addHoldersOf (v1 : Int32) (s : S) (o : S) (hf : k_addHoldersOf v1 s = some o) : Call PP m26 [.ref 1, .int v1] (none, [(11, s)]) (none, (none, [(11, o)])) := call_of_go pl_0 rfl (fun _ => rfl) (k_addHoldersOf_ok v1 s   _ hf)
set_option maxRecDepth 65536 in
set_option maxHeartbeats 4000000 in
theorem k_countHolders_58_ok  : ∀ (n : Nat) (v1 : Int32) (s : S)  (o : S), k_countHolders_58 n v1 s = some o → Go PP m27 58 [.val (.ref 1), .val (.int v1)] [] (none, [(11, s)]) (none, (none, [(11, o)])) := by
  intro n
  induction n with
  | zero => intro v1 s o hf; exact nomatch hf
  | succ n ih =>
    intro v1 s o hf
    unfold k_countHolders_58 at hf
    refine go_iloadN (pc := 58) d27_58 rfl (go_aloadN (pc := 59) d27_59 rfl (go_getI (pc := 60) fs_48 hm_27 d27_60 ?_))
    by_cases h1 : v1 < (gI s 0)
    · replace hf := (if_pos h1).symm.trans hf
      refine go_icN (pc := 63) d27_63 (XT.ii_ge_f h1) ?_
      refine go_aloadN (pc := 66) d27_66 rfl (go_getA (pc := 67) fa_7 hm_27 d27_67 rfl (go_iloadN (pc := 70) d27_70 rfl ?_))
      obtain ⟨a71, e2, hf⟩ := Option.bind_eq_some_iff.mp hf
      refine go_baload (pc := 71) (q := 0) ar_0 (by decide) rfl e2 d27_71 ?_
      by_cases h3 : a71 = 0
      · replace hf := (if_pos h3).symm.trans hf
        refine go_ifY (pc := 72) (pc' := 80) d27_72 (XT.i0_eq_t h3) j_72_8 ?_
        refine go_iinc (pc := 80) (L' := [.val (.ref 1), .val (.int (v1 + (1 : Int32)))]) d27_80 rfl ci_1 rfl (go_goto (pc := 83) (pc' := 58) d27_83 j_83_m25 ?_)
        exact ih (v1 + (1 : Int32)) s _ hf
      · replace hf := (if_neg h3).symm.trans hf
        refine go_ifN (pc := 72) d27_72 (XT.i0_eq_f h3) ?_
        refine go_aloadN (pc := 75) d27_75 rfl (go_iloadN (pc := 76) d27_76 rfl ?_)
        obtain ⟨r77, e4, hf⟩ := Option.bind_eq_some_iff.mp hf
        refine go_priv (pc := 77) (i := 0) (as := [.int v1]) (rest := []) (w' := (none, [(11, r77)])) lk_0_198 pd_26 rfl oid_0 rfl rfl rfl rfl rfl rfl ⟨rfl, rfl, rfl, rfl, rfl⟩ d27_77 (c_k_addHoldersOf v1 s _ e4) ?_
        refine go_iinc (pc := 80) (L' := [.val (.ref 1), .val (.int (v1 + (1 : Int32)))]) d27_80 rfl ci_1 rfl (go_goto (pc := 83) (pc' := 58) d27_83 j_83_m25 ?_)
        exact ih (v1 + (1 : Int32)) r77 _ hf
    · replace hf := (if_neg h1).symm.trans hf
      refine go_icY (pc := 63) (pc' := 86) d27_63 (XT.ii_ge_t h1) j_63_23 ?_
      cases hf
      exact go_ret (pc := 86) rfl d27_86
set_option maxRecDepth 65536 in
set_option maxHeartbeats 4000000 in
theorem k_countHolders_56_ok  : ∀  (s : S) (x1 : Slot) (hx1 : k1 x1) (o : S), k_countHolders_56 s = some o → Go PP m27 56 [.val (.ref 1), x1] [] (none, [(11, s)]) (none, (none, [(11, o)])) := by
  intro s x1 hx1 o hf
  unfold k_countHolders_56 at hf
  refine go_iconst (pc := 56) d27_56 ci_0 (go_istoreN (pc := 57) (L' := [.val (.ref 1), .val (.int (0 : Int32))]) d27_57 (stx rfl hx1 rfl) ?_)
  exact k_countHolders_58_ok BIG (0 : Int32) s _ hf
def T_k_countHolders_2 (k2 : Int32 → S → Option S) : Prop := ∀ (v1 : Int32) (s : S)  (o : S), k2 v1 s = some o → Go PP m27 2 [.val (.ref 1), .val (.int v1)] [] (none, [(11, s)]) (none, (none, [(11, o)]))
set_option maxRecDepth 65536 in
set_option maxHeartbeats 4000000 in
theorem k_countHolders_49_ok {k2 : Int32 → S → Option S} (hk2 : T_k_countHolders_2 k2) : ∀ (v1 : Int32) (p0 : Int32) (p1 : Int32) (s : S)  (o : S), k_countHolders_49 k2 v1 p0 p1 s = some o → Go PP m27 49 [.val (.ref 1), .val (.int v1)] [.int p0, .int p1, .ref 8] (none, [(11, s)]) (none, (none, [(11, o)])) := by
  intro v1 p0 p1 s o hf
  unfold k_countHolders_49 at hf
  obtain ⟨a49, e1, hf⟩ := Option.bind_eq_some_iff.mp hf
  refine go_bastore (pc := 49) (q := 6) ar_6 (by decide) rfl hn_27 rfl e1 d27_49 ?_
  refine go_iinc (pc := 50) (L' := [.val (.ref 1), .val (.int (v1 + (1 : Int32)))]) d27_50 rfl ci_1 rfl (go_goto (pc := 53) (pc' := 2) d27_53 j_53_m51 ?_)
  exact hk2 (v1 + (1 : Int32)) (sA s 6 a49) _ hf
set_option maxRecDepth 65536 in
set_option maxHeartbeats 4000000 in
theorem k_countHolders_48_ok {k2 : Int32 → S → Option S} (hk2 : T_k_countHolders_2 k2) : ∀ (v1 : Int32) (p0 : Int32) (s : S)  (o : S), k_countHolders_48 k2 v1 p0 s = some o → Go PP m27 48 [.val (.ref 1), .val (.int v1)] [.int p0, .ref 8] (none, [(11, s)]) (none, (none, [(11, o)])) := by
  intro v1 p0 s o hf
  unfold k_countHolders_48 at hf
  refine go_iconst (pc := 48) d27_48 ci_0 ?_
  exact k_countHolders_49_ok hk2 v1 (0 : Int32) p0 s _ hf
set_option maxRecDepth 65536 in
set_option maxHeartbeats 4000000 in
theorem k_countHolders_2_ok  : ∀ (n : Nat) (v1 : Int32) (s : S)  (o : S), k_countHolders_2 n v1 s = some o → Go PP m27 2 [.val (.ref 1), .val (.int v1)] [] (none, [(11, s)]) (none, (none, [(11, o)])) := by
  intro n
  induction n with
  | zero => intro v1 s o hf; exact nomatch hf
  | succ n ih =>
    intro v1 s o hf
    unfold k_countHolders_2 at hf
    refine go_iloadN (pc := 2) d27_2 rfl (go_bipush (pc := 3) d27_3 cb_64 ?_)
    by_cases h1 : v1 < (64 : Int32)
    · replace hf := (if_pos h1).symm.trans hf
      refine go_icN (pc := 5) d27_5 (XT.ii_ge_f h1) ?_
      refine go_aloadN (pc := 8) d27_8 rfl (go_getA (pc := 9) fa_38 hm_27 d27_9 rfl (go_iloadN (pc := 12) d27_12 rfl (go_iconst (pc := 13) d27_13 ci_0 ?_)))
      obtain ⟨a14, e2, hf⟩ := Option.bind_eq_some_iff.mp hf
      refine go_iastore (pc := 14) (q := 9) ar_9 rfl hn_27 e2 d27_14 ?_
      refine go_aloadN (pc := 15) d27_15 rfl (go_getA (pc := 16) fa_35 hm_27 d27_16 rfl (go_iloadN (pc := 19) d27_19 rfl (go_iconst (pc := 20) d27_20 ci_0 ?_)))
      obtain ⟨a21, e3, hf⟩ := Option.bind_eq_some_iff.mp hf
      refine go_bastore (pc := 21) (q := 8) ar_8 (by decide) rfl hn_27 (by decide) e3 d27_21 ?_
      refine go_aloadN (pc := 22) d27_22 rfl (go_getA (pc := 23) fa_29 hm_27 d27_23 rfl (go_iloadN (pc := 26) d27_26 rfl (go_iloadN (pc := 27) d27_27 rfl (go_aloadN (pc := 28) d27_28 rfl (go_getI (pc := 29) fs_48 hm_27 d27_29 ?_)))))
      by_cases h4 : v1 < (gI s 0)
      · replace hf := (if_pos h4).symm.trans hf
        refine go_icN (pc := 32) d27_32 (XT.ii_ge_f h4) ?_
        refine go_aloadN (pc := 35) d27_35 rfl (go_getA (pc := 36) fa_7 hm_27 d27_36 rfl (go_iloadN (pc := 39) d27_39 rfl ?_))
        obtain ⟨a40, e5, hf⟩ := Option.bind_eq_some_iff.mp hf
        refine go_baload (pc := 40) (q := 0) ar_0 (by decide) rfl e5 d27_40 ?_
        by_cases h6 : a40 = 0
        · refine go_ifY (pc := 41) (pc' := 48) d27_41 (XT.i0_eq_t h6) j_41_7 ?_
          refine go_iconst (pc := 48) d27_48 ci_0 ?_
          exact k_countHolders_49_ok ih v1 (0 : Int32) v1 (sA (sA s 9 a14) 8 a21) _ (by simpa only [if_pos h6] using hf)
        · refine go_ifN (pc := 41) d27_41 (XT.i0_eq_f h6) ?_
          refine go_iconst (pc := 44) d27_44 ci_1 (go_goto (pc := 45) (pc' := 49) d27_45 j_45_4 ?_)
          exact k_countHolders_49_ok ih v1 (1 : Int32) v1 (sA (sA s 9 a14) 8 a21) _ (by simpa only [if_neg h6] using hf)
      · replace hf := (if_neg h4).symm.trans hf
        refine go_icY (pc := 32) (pc' := 48) d27_32 (XT.ii_ge_t h4) j_32_16 ?_
        exact k_countHolders_48_ok ih v1 v1 (sA (sA s 9 a14) 8 a21) _ hf
    · replace hf := (if_neg h1).symm.trans hf
      refine go_icY (pc := 5) (pc' := 56) d27_5 (XT.ii_ge_t h1) j_5_51 ?_
      exact k_countHolders_56_ok s (.val (.int v1)) (Or.inr ⟨_, rfl, rfl⟩) _ hf
set_option maxRecDepth 65536 in
set_option maxHeartbeats 4000000 in
theorem k_countHolders_ok  : ∀  (s : S)  (o : S), k_countHolders s = some o → Go PP m27 0 [.val (.ref 1), .unset] [] (none, [(11, s)]) (none, (none, [(11, o)])) := by
  intro s o hf
  unfold k_countHolders at hf
  refine go_iconst (pc := 0) d27_0 ci_0 (go_istoreN (pc := 1) (L' := [.val (.ref 1), .val (.int (0 : Int32))]) d27_1 rfl ?_)
  exact k_countHolders_2_ok BIG (0 : Int32) s _ hf
theorem c_k_countHolders (s : S) (o : S) (hf : k_countHolders s = some o) : Call PP m27 [.ref 1] (none, [(11, s)]) (none, (none, [(11, o)])) := call_of_go pl_0 rfl (fun _ => rfl) (k_countHolders_ok s   _ hf)
set_option maxRecDepth 65536 in
set_option maxHeartbeats 4000000 in
theorem k_eligible_ok  : ∀ (v1 : Int32) (s : S)  (o : Int32), k_eligible v1 s = some o → Go PP m28 0 [.val (.ref 1), .val (.int v1)] [] (none, [(11, s)]) (some (.int o), (none, [(11, s)])) := by
  intro v1 s o hf
  unfold k_eligible at hf
  refine go_aloadN (pc := 0) d28_0 rfl (go_iloadN (pc := 1) d28_1 rfl ?_)
  refine go_priv (pc := 2) (i := 0) (as := [.int v1]) (rest := []) (w' := (none, [(11, s)])) lk_0_165 pd_11 rfl oid_0 rfl rfl rfl rfl rfl rfl ⟨rfl, rfl, rfl, rfl, rfl⟩ d28_2 (c_k_isObjectId v1 s) ?_
  by_cases h1 : (k_isObjectId v1 s) = 0
  · replace hf := (if_pos h1).symm.trans hf
    refine go_ifN (pc := 5) d28_5 (XT.i0_ne_f h1) ?_
    refine go_iconst (pc := 8) d28_8 ci_0 ?_
    cases hf
    exact go_zret (pc := 9) rfl d28_9 (show (0 : Int32) = nar .boolean (0 : Int32) by decide)
  · replace hf := (if_neg h1).symm.trans hf
    refine go_ifY (pc := 5) (pc' := 10) d28_5 (XT.i0_ne_t h1) j_5_5 ?_
    refine go_aloadN (pc := 10) d28_10 rfl (go_getA (pc := 11) fa_29 hm_28 d28_11 rfl (go_iloadN (pc := 14) d28_14 rfl ?_))
    obtain ⟨a15, e2, hf⟩ := Option.bind_eq_some_iff.mp hf
    refine go_baload (pc := 15) (q := 6) ar_6 (by decide) rfl e2 d28_15 ?_
    by_cases h3 : a15 = 0
    · replace hf := (if_pos h3).symm.trans hf
      refine go_ifN (pc := 16) d28_16 (XT.i0_ne_f h3) ?_
      refine go_iconst (pc := 19) d28_19 ci_0 ?_
      cases hf
      exact go_zret (pc := 20) rfl d28_20 (show (0 : Int32) = nar .boolean (0 : Int32) by decide)
    · replace hf := (if_neg h3).symm.trans hf
      refine go_ifY (pc := 16) (pc' := 21) d28_16 (XT.i0_ne_t h3) j_16_5 ?_
      refine go_aloadN (pc := 21) d28_21 rfl (go_getA (pc := 22) fa_32 hm_28 d28_22 rfl (go_iloadN (pc := 25) d28_25 rfl ?_))
      obtain ⟨a26, e4, hf⟩ := Option.bind_eq_some_iff.mp hf
      refine go_baload (pc := 26) (q := 7) ar_7 (by decide) rfl e4 d28_26 ?_
      by_cases h5 : a26 = 0
      · replace hf := (if_pos h5).symm.trans hf
        refine go_ifY (pc := 27) (pc' := 32) d28_27 (XT.i0_eq_t h5) j_27_5 ?_
        refine go_aloadN (pc := 32) d28_32 rfl (go_getA (pc := 33) fa_35 hm_28 d28_33 rfl (go_iloadN (pc := 36) d28_36 rfl ?_))
        obtain ⟨a37, e6, hf⟩ := Option.bind_eq_some_iff.mp hf
        refine go_baload (pc := 37) (q := 8) ar_8 (by decide) rfl e6 d28_37 ?_
        by_cases h7 : a37 = 0
        · replace hf := (if_pos h7).symm.trans hf
          refine go_ifY (pc := 38) (pc' := 43) d28_38 (XT.i0_eq_t h7) j_38_5 ?_
          refine go_aloadN (pc := 43) d28_43 rfl (go_getA (pc := 44) fa_38 hm_28 d28_44 rfl (go_iloadN (pc := 47) d28_47 rfl ?_))
          obtain ⟨a48, e8, hf⟩ := Option.bind_eq_some_iff.mp hf
          refine go_iaload (pc := 48) (q := 9) ar_9 rfl e8 d28_48 ?_
          by_cases h9 : a48 = 0
          · replace hf := (if_pos h9).symm.trans hf
            refine go_ifN (pc := 49) d28_49 (XT.i0_ne_f h9) ?_
            refine go_iconst (pc := 52) d28_52 ci_1 (go_goto (pc := 53) (pc' := 57) d28_53 j_53_4 ?_)
            cases hf
            exact go_zret (pc := 57) rfl d28_57 (show (1 : Int32) = nar .boolean (1 : Int32) by decide)
          · replace hf := (if_neg h9).symm.trans hf
            refine go_ifY (pc := 49) (pc' := 56) d28_49 (XT.i0_ne_t h9) j_49_7 ?_
            refine go_iconst (pc := 56) d28_56 ci_0 ?_
            cases hf
            exact go_zret (pc := 57) rfl d28_57 (show (0 : Int32) = nar .boolean (0 : Int32) by decide)
        · replace hf := (if_neg h7).symm.trans hf
          refine go_ifN (pc := 38) d28_38 (XT.i0_eq_f h7) ?_
          refine go_iconst (pc := 41) d28_41 ci_0 ?_
          cases hf
          exact go_zret (pc := 42) rfl d28_42 (show (0 : Int32) = nar .boolean (0 : Int32) by decide)
      · replace hf := (if_neg h5).symm.trans hf
        refine go_ifN (pc := 27) d28_27 (XT.i0_eq_f h5) ?_
        refine go_iconst (pc := 30) d28_30 ci_0 ?_
        cases hf
        exact go_zret (pc := 31) rfl d28_31 (show (0 : Int32) = nar .boolean (0 : Int32) by decide)
theorem c_k_eligible (v1 : Int32) (s : S) (o : Int32) (hf : k_eligible v1 s = some o) : Call PP m28 [.ref 1, .int v1] (none, [(11, s)]) (some (.int o), (none, [(11, s)])) := call_of_go pl_0 rfl (fun h => nomatch h) (k_eligible_ok v1 s   _ hf)
set_option maxRecDepth 65536 in
set_option maxHeartbeats 4000000 in
theorem k_enqueue_ok  : ∀ (v1 : Int32) (s : S)  (o : S), k_enqueue v1 s = some o → Go PP m29 0 [.val (.ref 1), .val (.int v1)] [] (none, [(11, s)]) (none, (none, [(11, o)])) := by
  intro v1 s o hf
  unfold k_enqueue at hf
  refine go_aloadN (pc := 0) d29_0 rfl (go_getI (pc := 1) fs_201 hm_29 d29_1 (go_bipush (pc := 4) d29_4 cb_64 ?_))
  by_cases h1 : (gI s 7) < (64 : Int32)
  · replace hf := (if_pos h1).symm.trans hf
    refine go_icY (pc := 6) (pc' := 10) d29_6 (XT.ii_lt_t h1) j_6_4 ?_
    refine go_aloadN (pc := 10) d29_10 rfl (go_getA (pc := 11) fa_41 hm_29 d29_11 rfl (go_aloadN (pc := 14) d29_14 rfl (go_getI (pc := 15) fs_201 hm_29 d29_15 (go_iloadN (pc := 18) d29_18 rfl ?_))))
    obtain ⟨a19, e2, hf⟩ := Option.bind_eq_some_iff.mp hf
    refine go_iastore (pc := 19) (q := 10) ar_10 rfl hn_29 e2 d29_19 ?_
    refine go_aloadN (pc := 20) d29_20 rfl (go_aloadN (pc := 21) d29_21 rfl (go_getI (pc := 22) fs_201 hm_29 d29_22 (go_iconst (pc := 25) d29_25 ci_1 (go_iadd (pc := 26) d29_26 (go_putI (pc := 27) fs_201 hm_29 (wr_7 _) hn_29 d29_27 (go_aloadN (pc := 30) d29_30 rfl (go_getA (pc := 31) fa_35 hm_29 d29_31 rfl ?_)))))))
    refine go_iloadN (pc := 34) d29_34 rfl (go_iconst (pc := 35) d29_35 ci_1 ?_)
    obtain ⟨a36, e3, hf⟩ := Option.bind_eq_some_iff.mp hf
    refine go_bastore (pc := 36) (q := 8) ar_8 (by decide) rfl hn_29 (by decide) e3 d29_36 ?_
    cases hf
    exact go_ret (pc := 37) rfl d29_37
  · replace hf := (if_neg h1).symm.trans hf
    refine go_icN (pc := 6) d29_6 (XT.ii_lt_f h1) ?_
    cases hf
    exact go_ret (pc := 9) rfl d29_9
theorem c_k_enqueue (v1 : Int32) (s : S) (o : S) (hf : k_enqueue v1 s = some o) : Call PP m29 [.ref 1, .int v1] (none, [(11, s)]) (none, (none, [(11, o)])) := call_of_go pl_0 rfl (fun _ => rfl) (k_enqueue_ok v1 s   _ hf)
set_option maxRecDepth 65536 in
set_option maxHeartbeats 4000000 in
theorem k_seedWork_7_ok  : ∀ (n : Nat) (v1 : Int32) (s : S)  (o : S), k_seedWork_7 n v1 s = some o → Go PP m30 7 [.val (.ref 1), .val (.int v1)] [] (none, [(11, s)]) (none, (none, [(11, o)])) := by
  intro n
  induction n with
  | zero => intro v1 s o hf; exact nomatch hf
  | succ n ih =>
    intro v1 s o hf
    unfold k_seedWork_7 at hf
    refine go_iloadN (pc := 7) d30_7 rfl (go_aloadN (pc := 8) d30_8 rfl (go_getI (pc := 9) fs_48 hm_30 d30_9 ?_))
    by_cases h1 : v1 < (gI s 0)
    · replace hf := (if_pos h1).symm.trans hf
      refine go_icN (pc := 12) d30_12 (XT.ii_ge_f h1) ?_
      refine go_aloadN (pc := 15) d30_15 rfl (go_iloadN (pc := 16) d30_16 rfl ?_)
      obtain ⟨r17, e2, hf⟩ := Option.bind_eq_some_iff.mp hf
      refine go_priv (pc := 17) (i := 0) (as := [.int v1]) (rest := []) (w' := (none, [(11, s)])) lk_0_204 pd_28 rfl oid_0 rfl rfl rfl rfl rfl rfl ⟨rfl, rfl, rfl, rfl, rfl⟩ d30_17 (c_k_eligible v1 s _ e2) ?_
      by_cases h3 : r17 = 0
      · replace hf := (if_pos h3).symm.trans hf
        refine go_ifY (pc := 20) (pc' := 28) d30_20 (XT.i0_eq_t h3) j_20_8 ?_
        refine go_iinc (pc := 28) (L' := [.val (.ref 1), .val (.int (v1 + (1 : Int32)))]) d30_28 rfl ci_1 rfl (go_goto (pc := 31) (pc' := 7) d30_31 j_31_m24 ?_)
        exact ih (v1 + (1 : Int32)) s _ hf
      · replace hf := (if_neg h3).symm.trans hf
        refine go_ifN (pc := 20) d30_20 (XT.i0_eq_f h3) ?_
        refine go_aloadN (pc := 23) d30_23 rfl (go_iloadN (pc := 24) d30_24 rfl ?_)
        obtain ⟨r25, e4, hf⟩ := Option.bind_eq_some_iff.mp hf
        refine go_priv (pc := 25) (i := 0) (as := [.int v1]) (rest := []) (w' := (none, [(11, r25)])) lk_0_207 pd_29 rfl oid_0 rfl rfl rfl rfl rfl rfl ⟨rfl, rfl, rfl, rfl, rfl⟩ d30_25 (c_k_enqueue v1 s _ e4) ?_
        refine go_iinc (pc := 28) (L' := [.val (.ref 1), .val (.int (v1 + (1 : Int32)))]) d30_28 rfl ci_1 rfl (go_goto (pc := 31) (pc' := 7) d30_31 j_31_m24 ?_)
        exact ih (v1 + (1 : Int32)) r25 _ hf
    · replace hf := (if_neg h1).symm.trans hf
      refine go_icY (pc := 12) (pc' := 34) d30_12 (XT.ii_ge_t h1) j_12_22 ?_
      cases hf
      exact go_ret (pc := 34) rfl d30_34
set_option maxRecDepth 65536 in
set_option maxHeartbeats 4000000 in
theorem k_seedWork_ok  : ∀  (s : S)  (o : S), k_seedWork s = some o → Go PP m30 0 [.val (.ref 1), .unset] [] (none, [(11, s)]) (none, (none, [(11, o)])) := by
  intro s o hf
  unfold k_seedWork at hf
  refine go_aloadN (pc := 0) d30_0 rfl (go_iconst (pc := 1) d30_1 ci_0 (go_putI (pc := 2) fs_201 hm_30 (wr_7 _) hn_30 d30_2 (go_iconst (pc := 5) d30_5 ci_0 (go_istoreN (pc := 6) (L' := [.val (.ref 1), .val (.int (0 : Int32))]) d30_6 rfl ?_))))
  exact k_seedWork_7_ok BIG (0 : Int32) (sI s 7 (0 : Int32)) _ hf
theorem c_k_seedWork (s : S) (o : S) (hf : k_seedWork s = some o) : Call PP m30 [.ref 1] (none, [(11, s)]) (none, (none, [(11, o)])) := call_of_go pl_0 rfl (fun _ => rfl) (k_seedWork_ok s   _ hf)
set_option maxRecDepth 65536 in
set_option maxHeartbeats 4000000 in
theorem k_dropHoldersOf_2_ok  : ∀ (n : Nat) (v1 : Int32) (v2 : Int32) (s : S) (x3 : Slot) (hx3 : k1 x3) (o : S), k_dropHoldersOf_2 n v1 v2 s = some o → Go PP m31 2 [.val (.ref 1), .val (.int v1), .val (.int v2), x3] [] (none, [(11, s)]) (none, (none, [(11, o)])) := by
  intro n
  induction n with
  | zero => intro v1 v2 s x3 hx3 o hf; exact nomatch hf
  | succ n ih =>
    intro v1 v2 s x3 hx3 o hf
    unfold k_dropHoldersOf_2 at hf
    refine go_iloadN (pc := 2) d31_2 rfl (go_aloadN (pc := 3) d31_3 rfl (go_getI (pc := 4) fs_52 hm_31 d31_4 ?_))
    by_cases h1 : v2 < (gI s 1)
    · replace hf := (if_pos h1).symm.trans hf
      refine go_icN (pc := 7) d31_7 (XT.ii_ge_f h1) ?_
      refine go_aloadN (pc := 10) d31_10 rfl (go_iloadN (pc := 11) d31_11 rfl (go_iloadN (pc := 12) d31_12 rfl ?_))
      obtain ⟨r13, e2, hf⟩ := Option.bind_eq_some_iff.mp hf
      refine go_priv (pc := 13) (i := 0) (as := [.int v1, .int v2]) (rest := []) (w' := (none, [(11, s)])) lk_0_98 pd_17 rfl oid_0 rfl rfl rfl rfl rfl rfl ⟨rfl, rfl, rfl, rfl, rfl⟩ d31_13 (c_k_readField v1 v2 s _ e2) ?_
      refine go_istoreN (pc := 16) (L' := [.val (.ref 1), .val (.int v1), .val (.int v2), .val (.int r13)]) d31_16 (stx rfl hx3 rfl) (go_aloadN (pc := 17) d31_17 rfl (go_iloadN (pc := 18) d31_18 rfl ?_))
      obtain ⟨r19, e3, hf⟩ := Option.bind_eq_some_iff.mp hf
      refine go_priv (pc := 19) (i := 0) (as := [.int r13]) (rest := []) (w' := (none, [(11, s)])) lk_0_135 pd_12 rfl oid_0 rfl rfl rfl rfl rfl rfl ⟨rfl, rfl, rfl, rfl, rfl⟩ d31_19 (c_k_isLiveId r13 s _ e3) ?_
      by_cases h4 : r19 = 0
      · replace hf := (if_pos h4).symm.trans hf
        refine go_ifY (pc := 22) (pc' := 61) d31_22 (XT.i0_eq_t h4) j_22_39 ?_
        refine go_iinc (pc := 61) (L' := [.val (.ref 1), .val (.int v1), .val (.int (v2 + (1 : Int32))), .val (.int r13)]) d31_61 rfl ci_1 rfl (go_goto (pc := 64) (pc' := 2) d31_64 j_64_m62 ?_)
        exact ih v1 (v2 + (1 : Int32)) s (.val (.int r13)) (Or.inr ⟨_, rfl, rfl⟩) _ hf
      · replace hf := (if_neg h4).symm.trans hf
        refine go_ifN (pc := 22) d31_22 (XT.i0_eq_f h4) ?_
        refine go_aloadN (pc := 25) d31_25 rfl (go_getA (pc := 26) fa_38 hm_31 d31_26 rfl (go_iloadN (pc := 29) d31_29 rfl ?_))
        obtain ⟨a30, e5, hf⟩ := Option.bind_eq_some_iff.mp hf
        refine go_iaload (pc := 30) (q := 9) ar_9 rfl e5 d31_30 ?_
        by_cases h6 : 0 < a30
        · replace hf := (if_pos h6).symm.trans hf
          refine go_ifN (pc := 31) d31_31 (XT.i0_le_f h6) ?_
          refine go_aloadN (pc := 34) d31_34 rfl (go_getA (pc := 35) fa_38 hm_31 d31_35 rfl (go_iloadN (pc := 38) d31_38 rfl (go_aloadN (pc := 39) d31_39 rfl (go_getA (pc := 40) fa_38 hm_31 d31_40 rfl (go_iloadN (pc := 43) d31_43 rfl ?_)))))
          obtain ⟨a44, e7, hf⟩ := Option.bind_eq_some_iff.mp hf
          refine go_iaload (pc := 44) (q := 9) ar_9 rfl e7 d31_44 ?_
          refine go_iconst (pc := 45) d31_45 ci_1 (go_isub (pc := 46) d31_46 ?_)
          obtain ⟨a47, e8, hf⟩ := Option.bind_eq_some_iff.mp hf
          refine go_iastore (pc := 47) (q := 9) ar_9 rfl hn_31 e8 d31_47 ?_
          refine go_aloadN (pc := 48) d31_48 rfl (go_iloadN (pc := 49) d31_49 rfl ?_)
          obtain ⟨r50, e9, hf⟩ := Option.bind_eq_some_iff.mp hf
          refine go_priv (pc := 50) (i := 0) (as := [.int r13]) (rest := []) (w' := (none, [(11, sA s 9 a47)])) lk_0_204 pd_28 rfl oid_0 rfl rfl rfl rfl rfl rfl ⟨rfl, rfl, rfl, rfl, rfl⟩ d31_50 (c_k_eligible r13 (sA s 9 a47) _ e9) ?_
          by_cases h10 : r50 = 0
          · replace hf := (if_pos h10).symm.trans hf
            refine go_ifY (pc := 53) (pc' := 61) d31_53 (XT.i0_eq_t h10) j_53_8 ?_
            refine go_iinc (pc := 61) (L' := [.val (.ref 1), .val (.int v1), .val (.int (v2 + (1 : Int32))), .val (.int r13)]) d31_61 rfl ci_1 rfl (go_goto (pc := 64) (pc' := 2) d31_64 j_64_m62 ?_)
            exact ih v1 (v2 + (1 : Int32)) (sA s 9 a47) (.val (.int r13)) (Or.inr ⟨_, rfl, rfl⟩) _ hf
          · replace hf := (if_neg h10).symm.trans hf
            refine go_ifN (pc := 53) d31_53 (XT.i0_eq_f h10) ?_
            refine go_aloadN (pc := 56) d31_56 rfl (go_iloadN (pc := 57) d31_57 rfl ?_)
            obtain ⟨r58, e11, hf⟩ := Option.bind_eq_some_iff.mp hf
            refine go_priv (pc := 58) (i := 0) (as := [.int r13]) (rest := []) (w' := (none, [(11, r58)])) lk_0_207 pd_29 rfl oid_0 rfl rfl rfl rfl rfl rfl ⟨rfl, rfl, rfl, rfl, rfl⟩ d31_58 (c_k_enqueue r13 (sA s 9 a47) _ e11) ?_
            refine go_iinc (pc := 61) (L' := [.val (.ref 1), .val (.int v1), .val (.int (v2 + (1 : Int32))), .val (.int r13)]) d31_61 rfl ci_1 rfl (go_goto (pc := 64) (pc' := 2) d31_64 j_64_m62 ?_)
            exact ih v1 (v2 + (1 : Int32)) r58 (.val (.int r13)) (Or.inr ⟨_, rfl, rfl⟩) _ hf
        · replace hf := (if_neg h6).symm.trans hf
          refine go_ifY (pc := 31) (pc' := 61) d31_31 (XT.i0_le_t h6) j_31_30 ?_
          refine go_iinc (pc := 61) (L' := [.val (.ref 1), .val (.int v1), .val (.int (v2 + (1 : Int32))), .val (.int r13)]) d31_61 rfl ci_1 rfl (go_goto (pc := 64) (pc' := 2) d31_64 j_64_m62 ?_)
          exact ih v1 (v2 + (1 : Int32)) s (.val (.int r13)) (Or.inr ⟨_, rfl, rfl⟩) _ hf
    · replace hf := (if_neg h1).symm.trans hf
      refine go_icY (pc := 7) (pc' := 67) d31_7 (XT.ii_ge_t h1) j_7_60 ?_
      cases hf
      exact go_ret (pc := 67) rfl d31_67
set_option maxRecDepth 65536 in
set_option maxHeartbeats 4000000 in
theorem k_dropHoldersOf_ok  : ∀ (v1 : Int32) (s : S)  (o : S), k_dropHoldersOf v1 s = some o → Go PP m31 0 [.val (.ref 1), .val (.int v1), .unset, .unset] [] (none, [(11, s)]) (none, (none, [(11, o)])) := by
  intro v1 s o hf
  unfold k_dropHoldersOf at hf
  refine go_iconst (pc := 0) d31_0 ci_0 (go_istoreN (pc := 1) (L' := [.val (.ref 1), .val (.int v1), .val (.int (0 : Int32)), .unset]) d31_1 rfl ?_)
  exact k_dropHoldersOf_2_ok BIG v1 (0 : Int32) s .unset (Or.inl rfl) _ hf
theorem c_k_dropHoldersOf (v1 : Int32) (s : S) (o : S) (hf : k_dropHoldersOf v1 s = some o) : Call PP m31 [.ref 1, .int v1] (none, [(11, s)]) (none, (none, [(11, o)])) := call_of_go pl_0 rfl (fun _ => rfl) (k_dropHoldersOf_ok v1 s   _ hf)
set_option maxRecDepth 65536 in
set_option maxHeartbeats 4000000 in
theorem k_cascade_61_ok  : ∀  (s : S) (x1 : Slot) (x2 : Slot) (hx1 : k1 x1) (hx2 : k1 x2) (o : S), k_cascade_61 s = some o → Go PP m32 61 [.val (.ref 1), x1, x2] [] (none, [(11, s)]) (none, (none, [(11, o)])) := by
  intro s x1 x2 hx1 hx2 o hf
  unfold k_cascade_61 at hf
  refine go_aloadN (pc := 61) d32_61 rfl (go_iconst (pc := 62) d32_62 ci_0 (go_putI (pc := 63) fs_201 hm_32 (wr_7 _) hn_32 d32_63 ?_))
  cases hf
  exact go_ret (pc := 66) rfl d32_66
set_option maxRecDepth 65536 in
set_option maxHeartbeats 4000000 in
theorem k_cascade_2_ok  : ∀ (n : Nat) (v1 : Int32) (s : S) (x2 : Slot) (hx2 : k1 x2) (o : S), k_cascade_2 n v1 s = some o → Go PP m32 2 [.val (.ref 1), .val (.int v1), x2] [] (none, [(11, s)]) (none, (none, [(11, o)])) := by
  intro n
  induction n with
  | zero => intro v1 s x2 hx2 o hf; exact nomatch hf
  | succ n ih =>
    intro v1 s x2 hx2 o hf
    unfold k_cascade_2 at hf
    refine go_iloadN (pc := 2) d32_2 rfl (go_bipush (pc := 3) d32_3 cb_64 ?_)
    by_cases h1 : (64 : Int32) < v1
    · replace hf := (if_pos h1).symm.trans hf
      refine go_icY (pc := 5) (pc' := 61) d32_5 (XT.ii_gt_t h1) j_5_56 ?_
      exact k_cascade_61_ok s (.val (.int v1)) x2 (Or.inr ⟨_, rfl, rfl⟩) hx2 _ hf
    · replace hf := (if_neg h1).symm.trans hf
      refine go_icN (pc := 5) d32_5 (XT.ii_gt_f h1) ?_
      refine go_aloadN (pc := 8) d32_8 rfl (go_getI (pc := 9) fs_201 hm_32 d32_9 ?_)
      by_cases h2 : 0 < (gI s 7)
      · replace hf := (if_pos h2).symm.trans hf
        refine go_ifN (pc := 12) d32_12 (XT.i0_le_f h2) ?_
        refine go_aloadN (pc := 15) d32_15 rfl (go_aloadN (pc := 16) d32_16 rfl (go_getI (pc := 17) fs_201 hm_32 d32_17 (go_iconst (pc := 20) d32_20 ci_1 (go_isub (pc := 21) d32_21 (go_putI (pc := 22) fs_201 hm_32 (wr_7 _) hn_32 d32_22 (go_aloadN (pc := 25) d32_25 rfl (go_getA (pc := 26) fa_41 hm_32 d32_26 rfl ?_)))))))
        refine go_aloadN (pc := 29) d32_29 rfl (go_getI (pc := 30) fs_201 hm_32 d32_30 ?_)
        obtain ⟨a33, e3, hf⟩ := Option.bind_eq_some_iff.mp hf
        refine go_iaload (pc := 33) (q := 10) ar_10 rfl e3 d32_33 ?_
        refine go_istoreN (pc := 34) (L' := [.val (.ref 1), .val (.int v1), .val (.int a33)]) d32_34 (stx rfl hx2 rfl) (go_aloadN (pc := 35) d32_35 rfl (go_iloadN (pc := 36) d32_36 rfl ?_))
        refine go_priv (pc := 37) (i := 0) (as := [.int a33]) (rest := []) (w' := (none, [(11, sI s 7 ((gI s 7) - (1 : Int32)))])) lk_0_165 pd_11 rfl oid_0 rfl rfl rfl rfl rfl rfl ⟨rfl, rfl, rfl, rfl, rfl⟩ d32_37 (c_k_isObjectId a33 (sI s 7 ((gI s 7) - (1 : Int32)))) ?_
        by_cases h4 : (k_isObjectId a33 (sI s 7 ((gI s 7) - (1 : Int32)))) = 0
        · replace hf := (if_pos h4).symm.trans hf
          refine go_ifY (pc := 40) (pc' := 55) d32_40 (XT.i0_eq_t h4) j_40_15 ?_
          refine go_iinc (pc := 55) (L' := [.val (.ref 1), .val (.int (v1 + (1 : Int32))), .val (.int a33)]) d32_55 rfl ci_1 rfl (go_goto (pc := 58) (pc' := 2) d32_58 j_58_m56 ?_)
          exact ih (v1 + (1 : Int32)) (sI s 7 ((gI s 7) - (1 : Int32))) (.val (.int a33)) (Or.inr ⟨_, rfl, rfl⟩) _ hf
        · replace hf := (if_neg h4).symm.trans hf
          refine go_ifN (pc := 40) d32_40 (XT.i0_eq_f h4) ?_
          refine go_aloadN (pc := 43) d32_43 rfl (go_getA (pc := 44) fa_29 hm_32 d32_44 rfl (go_iloadN (pc := 47) d32_47 rfl (go_iconst (pc := 48) d32_48 ci_0 ?_)))
          obtain ⟨a49, e5, hf⟩ := Option.bind_eq_some_iff.mp hf
          refine go_bastore (pc := 49) (q := 6) ar_6 (by decide) rfl hn_32 (by decide) e5 d32_49 ?_
          refine go_aloadN (pc := 50) d32_50 rfl (go_iloadN (pc := 51) d32_51 rfl ?_)
          obtain ⟨r52, e6, hf⟩ := Option.bind_eq_some_iff.mp hf
          refine go_priv (pc := 52) (i := 0) (as := [.int a33]) (rest := []) (w' := (none, [(11, r52)])) lk_0_210 pd_31 rfl oid_0 rfl rfl rfl rfl rfl rfl ⟨rfl, rfl, rfl, rfl, rfl⟩ d32_52 (c_k_dropHoldersOf a33 (sA (sI s 7 ((gI s 7) - (1 : Int32))) 6 a49) _ e6) ?_
          refine go_iinc (pc := 55) (L' := [.val (.ref 1), .val (.int (v1 + (1 : Int32))), .val (.int a33)]) d32_55 rfl ci_1 rfl (go_goto (pc := 58) (pc' := 2) d32_58 j_58_m56 ?_)
          exact ih (v1 + (1 : Int32)) r52 (.val (.int a33)) (Or.inr ⟨_, rfl, rfl⟩) _ hf
      · replace hf := (if_neg h2).symm.trans hf
        refine go_ifY (pc := 12) (pc' := 61) d32_12 (XT.i0_le_t h2) j_12_49 ?_
        exact k_cascade_61_ok s (.val (.int v1)) x2 (Or.inr ⟨_, rfl, rfl⟩) hx2 _ hf
set_option maxRecDepth 65536 in
set_option maxHeartbeats 4000000 in
theorem k_cascade_ok  : ∀  (s : S)  (o : S), k_cascade s = some o → Go PP m32 0 [.val (.ref 1), .unset, .unset] [] (none, [(11, s)]) (none, (none, [(11, o)])) := by
  intro s o hf
  unfold k_cascade at hf
  refine go_iconst (pc := 0) d32_0 ci_0 (go_istoreN (pc := 1) (L' := [.val (.ref 1), .val (.int (0 : Int32)), .unset]) d32_1 rfl ?_)
  exact k_cascade_2_ok BIG (0 : Int32) s .unset (Or.inl rfl) _ hf
theorem c_k_cascade (s : S) (o : S) (hf : k_cascade s = some o) : Call PP m32 [.ref 1] (none, [(11, s)]) (none, (none, [(11, o)])) := call_of_go pl_0 rfl (fun _ => rfl) (k_cascade_ok s   _ hf)
set_option maxRecDepth 65536 in
set_option maxHeartbeats 4000000 in
theorem k_releaseCell_ok  : ∀ (v1 : Int32) (s : S)  (o : S), k_releaseCell v1 s = some o → Go PP m33 0 [.val (.ref 1), .val (.int v1)] [] (none, [(11, s)]) (none, (none, [(11, o)])) := by
  intro v1 s o hf
  unfold k_releaseCell at hf
  refine go_aloadN (pc := 0) d33_0 rfl (go_iloadN (pc := 1) d33_1 rfl ?_)
  refine go_priv (pc := 2) (i := 0) (as := [.int v1]) (rest := []) (w' := (none, [(11, s)])) lk_0_165 pd_11 rfl oid_0 rfl rfl rfl rfl rfl rfl ⟨rfl, rfl, rfl, rfl, rfl⟩ d33_2 (c_k_isObjectId v1 s) ?_
  by_cases h1 : (k_isObjectId v1 s) = 0
  · replace hf := (if_pos h1).symm.trans hf
    refine go_ifN (pc := 5) d33_5 (XT.i0_ne_f h1) ?_
    cases hf
    exact go_ret (pc := 8) rfl d33_8
  · replace hf := (if_neg h1).symm.trans hf
    refine go_ifY (pc := 5) (pc' := 9) d33_5 (XT.i0_ne_t h1) j_5_4 ?_
    refine go_aloadN (pc := 9) d33_9 rfl (go_getA (pc := 10) fa_7 hm_33 d33_10 rfl (go_iloadN (pc := 13) d33_13 rfl ?_))
    obtain ⟨a14, e2, hf⟩ := Option.bind_eq_some_iff.mp hf
    refine go_baload (pc := 14) (q := 0) ar_0 (by decide) rfl e2 d33_14 ?_
    by_cases h3 : a14 = 0
    · replace hf := (if_pos h3).symm.trans hf
      refine go_ifN (pc := 15) d33_15 (XT.i0_ne_f h3) ?_
      cases hf
      exact go_ret (pc := 18) rfl d33_18
    · replace hf := (if_neg h3).symm.trans hf
      refine go_ifY (pc := 15) (pc' := 19) d33_15 (XT.i0_ne_t h3) j_15_4 ?_
      refine go_aloadN (pc := 19) d33_19 rfl (go_getA (pc := 20) fa_7 hm_33 d33_20 rfl (go_iloadN (pc := 23) d33_23 rfl (go_iconst (pc := 24) d33_24 ci_0 ?_)))
      obtain ⟨a25, e4, hf⟩ := Option.bind_eq_some_iff.mp hf
      refine go_bastore (pc := 25) (q := 0) ar_0 (by decide) rfl hn_33 (by decide) e4 d33_25 ?_
      refine go_aloadN (pc := 26) d33_26 rfl (go_iloadN (pc := 27) d33_27 rfl ?_)
      obtain ⟨r28, e5, hf⟩ := Option.bind_eq_some_iff.mp hf
      refine go_priv (pc := 28) (i := 0) (as := [.int v1]) (rest := []) (w' := (none, [(11, r28)])) lk_0_219 pd_2 rfl oid_0 rfl rfl rfl rfl rfl rfl ⟨rfl, rfl, rfl, rfl, rfl⟩ d33_28 (c_k_clearCellFields v1 (sA s 0 a25) _ e5) ?_
      refine go_aloadN (pc := 31) d33_31 rfl (go_getA (pc := 32) fa_17 hm_33 d33_32 rfl (go_iloadN (pc := 35) d33_35 rfl (go_iconst (pc := 36) d33_36 ci_0 ?_)))
      obtain ⟨a37, e6, hf⟩ := Option.bind_eq_some_iff.mp hf
      refine go_iastore (pc := 37) (q := 2) ar_2 rfl hn_33 e6 d33_37 ?_
      refine go_aloadN (pc := 38) d33_38 rfl (go_aloadN (pc := 39) d33_39 rfl (go_getI (pc := 40) fs_147 hm_33 d33_40 (go_iconst (pc := 43) d33_43 ci_1 (go_isub (pc := 44) d33_44 (go_putI (pc := 45) fs_147 hm_33 (wr_4 _) hn_33 d33_45 ?_)))))
      cases hf
      exact go_ret (pc := 48) rfl d33_48
theorem c_k_releaseCell (v1 : Int32) (s : S) (o : S) (hf : k_releaseCell v1 s = some o) : Call PP m33 [.ref 1, .int v1] (none, [(11, s)]) (none, (none, [(11, o)])) := call_of_go pl_0 rfl (fun _ => rfl) (k_releaseCell_ok v1 s   _ hf)
set_option maxRecDepth 65536 in
set_option maxHeartbeats 4000000 in
theorem k_sweep_4_ok  : ∀ (n : Nat) (v1 : Int32) (v2 : Int32) (s : S)  (o : Int32 × S), k_sweep_4 n v1 v2 s = some o → Go PP m34 4 [.val (.ref 1), .val (.int v1), .val (.int v2)] [] (none, [(11, s)]) (some (.int o.1), (none, [(11, o.2)])) := by
  intro n
  induction n with
  | zero => intro v1 v2 s o hf; exact nomatch hf
  | succ n ih =>
    intro v1 v2 s o hf
    unfold k_sweep_4 at hf
    refine go_iloadN (pc := 4) d34_4 rfl (go_aloadN (pc := 5) d34_5 rfl (go_getI (pc := 6) fs_48 hm_34 d34_6 ?_))
    by_cases h1 : v2 < (gI s 0)
    · replace hf := (if_pos h1).symm.trans hf
      refine go_icN (pc := 9) d34_9 (XT.ii_ge_f h1) ?_
      refine go_aloadN (pc := 12) d34_12 rfl (go_getA (pc := 13) fa_7 hm_34 d34_13 rfl (go_iloadN (pc := 16) d34_16 rfl ?_))
      obtain ⟨a17, e2, hf⟩ := Option.bind_eq_some_iff.mp hf
      refine go_baload (pc := 17) (q := 0) ar_0 (by decide) rfl e2 d34_17 ?_
      by_cases h3 : a17 = 0
      · replace hf := (if_pos h3).symm.trans hf
        refine go_ifY (pc := 18) (pc' := 39) d34_18 (XT.i0_eq_t h3) j_18_21 ?_
        refine go_iinc (pc := 39) (L' := [.val (.ref 1), .val (.int v1), .val (.int (v2 + (1 : Int32)))]) d34_39 rfl ci_1 rfl (go_goto (pc := 42) (pc' := 4) d34_42 j_42_m38 ?_)
        exact ih v1 (v2 + (1 : Int32)) s _ hf
      · replace hf := (if_neg h3).symm.trans hf
        refine go_ifN (pc := 18) d34_18 (XT.i0_eq_f h3) ?_
        refine go_aloadN (pc := 21) d34_21 rfl (go_getA (pc := 22) fa_29 hm_34 d34_22 rfl (go_iloadN (pc := 25) d34_25 rfl ?_))
        obtain ⟨a26, e4, hf⟩ := Option.bind_eq_some_iff.mp hf
        refine go_baload (pc := 26) (q := 6) ar_6 (by decide) rfl e4 d34_26 ?_
        by_cases h5 : a26 = 0
        · replace hf := (if_pos h5).symm.trans hf
          refine go_ifN (pc := 27) d34_27 (XT.i0_ne_f h5) ?_
          refine go_aloadN (pc := 30) d34_30 rfl (go_iloadN (pc := 31) d34_31 rfl ?_)
          obtain ⟨r32, e6, hf⟩ := Option.bind_eq_some_iff.mp hf
          refine go_priv (pc := 32) (i := 0) (as := [.int v2]) (rest := []) (w' := (none, [(11, r32)])) lk_0_213 pd_33 rfl oid_0 rfl rfl rfl rfl rfl rfl ⟨rfl, rfl, rfl, rfl, rfl⟩ d34_32 (c_k_releaseCell v2 s _ e6) ?_
          refine go_iloadN (pc := 35) d34_35 rfl (go_iconst (pc := 36) d34_36 ci_1 (go_iadd (pc := 37) d34_37 (go_istoreN (pc := 38) (L' := [.val (.ref 1), .val (.int (v1 + (1 : Int32))), .val (.int v2)]) d34_38 rfl (go_iinc (pc := 39) (L' := [.val (.ref 1), .val (.int (v1 + (1 : Int32))), .val (.int (v2 + (1 : Int32)))]) d34_39 rfl ci_1 rfl (go_goto (pc := 42) (pc' := 4) d34_42 j_42_m38 ?_)))))
          exact ih (v1 + (1 : Int32)) (v2 + (1 : Int32)) r32 _ hf
        · replace hf := (if_neg h5).symm.trans hf
          refine go_ifY (pc := 27) (pc' := 39) d34_27 (XT.i0_ne_t h5) j_27_12 ?_
          refine go_iinc (pc := 39) (L' := [.val (.ref 1), .val (.int v1), .val (.int (v2 + (1 : Int32)))]) d34_39 rfl ci_1 rfl (go_goto (pc := 42) (pc' := 4) d34_42 j_42_m38 ?_)
          exact ih v1 (v2 + (1 : Int32)) s _ hf
    · replace hf := (if_neg h1).symm.trans hf
      refine go_icY (pc := 9) (pc' := 45) d34_9 (XT.ii_ge_t h1) j_9_36 ?_
      refine go_iloadN (pc := 45) d34_45 rfl ?_
      cases hf
      exact go_iret (pc := 46) rfl d34_46
set_option maxRecDepth 65536 in
set_option maxHeartbeats 4000000 in
theorem k_sweep_ok  : ∀  (s : S)  (o : Int32 × S), k_sweep s = some o → Go PP m34 0 [.val (.ref 1), .unset, .unset] [] (none, [(11, s)]) (some (.int o.1), (none, [(11, o.2)])) := by
  intro s o hf
  unfold k_sweep at hf
  refine go_iconst (pc := 0) d34_0 ci_0 (go_istoreN (pc := 1) (L' := [.val (.ref 1), .val (.int (0 : Int32)), .unset]) d34_1 rfl (go_iconst (pc := 2) d34_2 ci_0 (go_istoreN (pc := 3) (L' := [.val (.ref 1), .val (.int (0 : Int32)), .val (.int (0 : Int32))]) d34_3 rfl ?_)))
  exact k_sweep_4_ok BIG (0 : Int32) (0 : Int32) s _ hf
theorem c_k_sweep (s : S) (o : Int32 × S) (hf : k_sweep s = some o) : Call PP m34 [.ref 1] (none, [(11, s)]) (some (.int o.1), (none, [(11, o.2)])) := call_of_go pl_0 rfl (fun h => nomatch h) (k_sweep_ok s   _ hf)
set_option maxRecDepth 65536 in
set_option maxHeartbeats 4000000 in
theorem k_refInc_ok  : ∀ (v1 : Int32) (s : S)  (o : S), k_refInc v1 s = some o → Go PP m35 0 [.val (.ref 1), .val (.int v1)] [] (none, [(11, s)]) (none, (none, [(11, o)])) := by
  intro v1 s o hf
  unfold k_refInc at hf
  refine go_aloadN (pc := 0) d35_0 rfl (go_iloadN (pc := 1) d35_1 rfl ?_)
  refine go_priv (pc := 2) (i := 0) (as := [.int v1]) (rest := []) (w' := (none, [(11, s)])) lk_0_165 pd_11 rfl oid_0 rfl rfl rfl rfl rfl rfl ⟨rfl, rfl, rfl, rfl, rfl⟩ d35_2 (c_k_isObjectId v1 s) ?_
  by_cases h1 : (k_isObjectId v1 s) = 0
  · replace hf := (if_pos h1).symm.trans hf
    refine go_ifY (pc := 5) (pc' := 22) d35_5 (XT.i0_eq_t h1) j_5_17 ?_
    cases hf
    exact go_ret (pc := 22) rfl d35_22
  · replace hf := (if_neg h1).symm.trans hf
    refine go_ifN (pc := 5) d35_5 (XT.i0_eq_f h1) ?_
    refine go_aloadN (pc := 8) d35_8 rfl (go_getA (pc := 9) fa_17 hm_35 d35_9 rfl (go_iloadN (pc := 12) d35_12 rfl (go_aloadN (pc := 13) d35_13 rfl (go_getA (pc := 14) fa_17 hm_35 d35_14 rfl (go_iloadN (pc := 17) d35_17 rfl ?_)))))
    obtain ⟨a18, e2, hf⟩ := Option.bind_eq_some_iff.mp hf
    refine go_iaload (pc := 18) (q := 2) ar_2 rfl e2 d35_18 ?_
    refine go_iconst (pc := 19) d35_19 ci_1 (go_iadd (pc := 20) d35_20 ?_)
    obtain ⟨a21, e3, hf⟩ := Option.bind_eq_some_iff.mp hf
    refine go_iastore (pc := 21) (q := 2) ar_2 rfl hn_35 e3 d35_21 ?_
    cases hf
    exact go_ret (pc := 22) rfl d35_22
theorem c_k_refInc (v1 : Int32) (s : S) (o : S) (hf : k_refInc v1 s = some o) : Call PP m35 [.ref 1, .int v1] (none, [(11, s)]) (none, (none, [(11, o)])) := call_of_go pl_0 rfl (fun _ => rfl) (k_refInc_ok v1 s   _ hf)
set_option maxRecDepth 65536 in
set_option maxHeartbeats 4000000 in
theorem k_countOutgoing_2_ok  : ∀ (n : Nat) (v1 : Int32) (v2 : Int32) (s : S) (x3 : Slot) (hx3 : k1 x3) (o : S), k_countOutgoing_2 n v1 v2 s = some o → Go PP m36 2 [.val (.ref 1), .val (.int v1), .val (.int v2), x3] [] (none, [(11, s)]) (none, (none, [(11, o)])) := by
  intro n
  induction n with
  | zero => intro v1 v2 s x3 hx3 o hf; exact nomatch hf
  | succ n ih =>
    intro v1 v2 s x3 hx3 o hf
    unfold k_countOutgoing_2 at hf
    refine go_iloadN (pc := 2) d36_2 rfl (go_aloadN (pc := 3) d36_3 rfl (go_getI (pc := 4) fs_52 hm_36 d36_4 ?_))
    by_cases h1 : v2 < (gI s 1)
    · replace hf := (if_pos h1).symm.trans hf
      refine go_icN (pc := 7) d36_7 (XT.ii_ge_f h1) ?_
      refine go_aloadN (pc := 10) d36_10 rfl (go_iloadN (pc := 11) d36_11 rfl (go_iloadN (pc := 12) d36_12 rfl ?_))
      obtain ⟨r13, e2, hf⟩ := Option.bind_eq_some_iff.mp hf
      refine go_priv (pc := 13) (i := 0) (as := [.int v1, .int v2]) (rest := []) (w' := (none, [(11, s)])) lk_0_98 pd_17 rfl oid_0 rfl rfl rfl rfl rfl rfl ⟨rfl, rfl, rfl, rfl, rfl⟩ d36_13 (c_k_readField v1 v2 s _ e2) ?_
      refine go_istoreN (pc := 16) (L' := [.val (.ref 1), .val (.int v1), .val (.int v2), .val (.int r13)]) d36_16 (stx rfl hx3 rfl) (go_aloadN (pc := 17) d36_17 rfl (go_iloadN (pc := 18) d36_18 rfl ?_))
      obtain ⟨r19, e3, hf⟩ := Option.bind_eq_some_iff.mp hf
      refine go_priv (pc := 19) (i := 0) (as := [.int r13]) (rest := []) (w' := (none, [(11, s)])) lk_0_135 pd_12 rfl oid_0 rfl rfl rfl rfl rfl rfl ⟨rfl, rfl, rfl, rfl, rfl⟩ d36_19 (c_k_isLiveId r13 s _ e3) ?_
      by_cases h4 : r19 = 0
      · replace hf := (if_pos h4).symm.trans hf
        refine go_ifY (pc := 22) (pc' := 30) d36_22 (XT.i0_eq_t h4) j_22_8 ?_
        refine go_iinc (pc := 30) (L' := [.val (.ref 1), .val (.int v1), .val (.int (v2 + (1 : Int32))), .val (.int r13)]) d36_30 rfl ci_1 rfl (go_goto (pc := 33) (pc' := 2) d36_33 j_33_m31 ?_)
        exact ih v1 (v2 + (1 : Int32)) s (.val (.int r13)) (Or.inr ⟨_, rfl, rfl⟩) _ hf
      · replace hf := (if_neg h4).symm.trans hf
        refine go_ifN (pc := 22) d36_22 (XT.i0_eq_f h4) ?_
        refine go_aloadN (pc := 25) d36_25 rfl (go_iloadN (pc := 26) d36_26 rfl ?_)
        obtain ⟨r27, e5, hf⟩ := Option.bind_eq_some_iff.mp hf
        refine go_priv (pc := 27) (i := 0) (as := [.int r13]) (rest := []) (w' := (none, [(11, r27)])) lk_0_171 pd_35 rfl oid_0 rfl rfl rfl rfl rfl rfl ⟨rfl, rfl, rfl, rfl, rfl⟩ d36_27 (c_k_refInc r13 s _ e5) ?_
        refine go_iinc (pc := 30) (L' := [.val (.ref 1), .val (.int v1), .val (.int (v2 + (1 : Int32))), .val (.int r13)]) d36_30 rfl ci_1 rfl (go_goto (pc := 33) (pc' := 2) d36_33 j_33_m31 ?_)
        exact ih v1 (v2 + (1 : Int32)) r27 (.val (.int r13)) (Or.inr ⟨_, rfl, rfl⟩) _ hf
    · replace hf := (if_neg h1).symm.trans hf
      refine go_icY (pc := 7) (pc' := 36) d36_7 (XT.ii_ge_t h1) j_7_29 ?_
      cases hf
      exact go_ret (pc := 36) rfl d36_36
set_option maxRecDepth 65536 in
set_option maxHeartbeats 4000000 in
theorem k_countOutgoing_ok  : ∀ (v1 : Int32) (s : S)  (o : S), k_countOutgoing v1 s = some o → Go PP m36 0 [.val (.ref 1), .val (.int v1), .unset, .unset] [] (none, [(11, s)]) (none, (none, [(11, o)])) := by
  intro v1 s o hf
  unfold k_countOutgoing at hf
  refine go_iconst (pc := 0) d36_0 ci_0 (go_istoreN (pc := 1) (L' := [.val (.ref 1), .val (.int v1), .val (.int (0 : Int32)), .unset]) d36_1 rfl ?_)
  exact k_countOutgoing_2_ok BIG v1 (0 : Int32) s .unset (Or.inl rfl) _ hf
theorem c_k_countOutgoing (v1 : Int32) (s : S) (o : S) (hf : k_countOutgoing v1 s = some o) : Call PP m36 [.ref 1, .int v1] (none, [(11, s)]) (none, (none, [(11, o)])) := call_of_go pl_0 rfl (fun _ => rfl) (k_countOutgoing_ok v1 s   _ hf)
set_option maxRecDepth 65536 in
set_option maxHeartbeats 4000000 in
theorem k_recountRefs_23_ok  : ∀ (n : Nat) (v1 : Int32) (s : S)  (o : S), k_recountRefs_23 n v1 s = some o → Go PP m37 23 [.val (.ref 1), .val (.int v1)] [] (none, [(11, s)]) (none, (none, [(11, o)])) := by
  intro n
  induction n with
  | zero => intro v1 s o hf; exact nomatch hf
  | succ n ih =>
    intro v1 s o hf
    unfold k_recountRefs_23 at hf
    refine go_iloadN (pc := 23) d37_23 rfl (go_aloadN (pc := 24) d37_24 rfl (go_getI (pc := 25) fs_48 hm_37 d37_25 ?_))
    by_cases h1 : v1 < (gI s 0)
    · replace hf := (if_pos h1).symm.trans hf
      refine go_icN (pc := 28) d37_28 (XT.ii_ge_f h1) ?_
      refine go_aloadN (pc := 31) d37_31 rfl (go_getA (pc := 32) fa_7 hm_37 d37_32 rfl (go_iloadN (pc := 35) d37_35 rfl ?_))
      obtain ⟨a36, e2, hf⟩ := Option.bind_eq_some_iff.mp hf
      refine go_baload (pc := 36) (q := 0) ar_0 (by decide) rfl e2 d37_36 ?_
      by_cases h3 : a36 = 0
      · replace hf := (if_pos h3).symm.trans hf
        refine go_ifY (pc := 37) (pc' := 45) d37_37 (XT.i0_eq_t h3) j_37_8 ?_
        refine go_iinc (pc := 45) (L' := [.val (.ref 1), .val (.int (v1 + (1 : Int32)))]) d37_45 rfl ci_1 rfl (go_goto (pc := 48) (pc' := 23) d37_48 j_48_m25 ?_)
        exact ih (v1 + (1 : Int32)) s _ hf
      · replace hf := (if_neg h3).symm.trans hf
        refine go_ifN (pc := 37) d37_37 (XT.i0_eq_f h3) ?_
        refine go_aloadN (pc := 40) d37_40 rfl (go_iloadN (pc := 41) d37_41 rfl ?_)
        obtain ⟨r42, e4, hf⟩ := Option.bind_eq_some_iff.mp hf
        refine go_priv (pc := 42) (i := 0) (as := [.int v1]) (rest := []) (w' := (none, [(11, r42)])) lk_0_216 pd_36 rfl oid_0 rfl rfl rfl rfl rfl rfl ⟨rfl, rfl, rfl, rfl, rfl⟩ d37_42 (c_k_countOutgoing v1 s _ e4) ?_
        refine go_iinc (pc := 45) (L' := [.val (.ref 1), .val (.int (v1 + (1 : Int32)))]) d37_45 rfl ci_1 rfl (go_goto (pc := 48) (pc' := 23) d37_48 j_48_m25 ?_)
        exact ih (v1 + (1 : Int32)) r42 _ hf
    · replace hf := (if_neg h1).symm.trans hf
      refine go_icY (pc := 28) (pc' := 51) d37_28 (XT.ii_ge_t h1) j_28_23 ?_
      cases hf
      exact go_ret (pc := 51) rfl d37_51
set_option maxRecDepth 65536 in
set_option maxHeartbeats 4000000 in
theorem k_recountRefs_21_ok  : ∀  (s : S) (x1 : Slot) (hx1 : k1 x1) (o : S), k_recountRefs_21 s = some o → Go PP m37 21 [.val (.ref 1), x1] [] (none, [(11, s)]) (none, (none, [(11, o)])) := by
  intro s x1 hx1 o hf
  unfold k_recountRefs_21 at hf
  refine go_iconst (pc := 21) d37_21 ci_0 (go_istoreN (pc := 22) (L' := [.val (.ref 1), .val (.int (0 : Int32))]) d37_22 (stx rfl hx1 rfl) ?_)
  exact k_recountRefs_23_ok BIG (0 : Int32) s _ hf
set_option maxRecDepth 65536 in
set_option maxHeartbeats 4000000 in
theorem k_recountRefs_2_ok  : ∀ (n : Nat) (v1 : Int32) (s : S)  (o : S), k_recountRefs_2 n v1 s = some o → Go PP m37 2 [.val (.ref 1), .val (.int v1)] [] (none, [(11, s)]) (none, (none, [(11, o)])) := by
  intro n
  induction n with
  | zero => intro v1 s o hf; exact nomatch hf
  | succ n ih =>
    intro v1 s o hf
    unfold k_recountRefs_2 at hf
    refine go_iloadN (pc := 2) d37_2 rfl (go_bipush (pc := 3) d37_3 cb_64 ?_)
    by_cases h1 : v1 < (64 : Int32)
    · replace hf := (if_pos h1).symm.trans hf
      refine go_icN (pc := 5) d37_5 (XT.ii_ge_f h1) ?_
      refine go_aloadN (pc := 8) d37_8 rfl (go_getA (pc := 9) fa_17 hm_37 d37_9 rfl (go_iloadN (pc := 12) d37_12 rfl (go_iconst (pc := 13) d37_13 ci_0 ?_)))
      obtain ⟨a14, e2, hf⟩ := Option.bind_eq_some_iff.mp hf
      refine go_iastore (pc := 14) (q := 2) ar_2 rfl hn_37 e2 d37_14 ?_
      refine go_iinc (pc := 15) (L' := [.val (.ref 1), .val (.int (v1 + (1 : Int32)))]) d37_15 rfl ci_1 rfl (go_goto (pc := 18) (pc' := 2) d37_18 j_18_m16 ?_)
      exact ih (v1 + (1 : Int32)) (sA s 2 a14) _ hf
    · replace hf := (if_neg h1).symm.trans hf
      refine go_icY (pc := 5) (pc' := 21) d37_5 (XT.ii_ge_t h1) j_5_16 ?_
      exact k_recountRefs_21_ok s (.val (.int v1)) (Or.inr ⟨_, rfl, rfl⟩) _ hf
set_option maxRecDepth 65536 in
set_option maxHeartbeats 4000000 in
theorem k_recountRefs_ok  : ∀  (s : S)  (o : S), k_recountRefs s = some o → Go PP m37 0 [.val (.ref 1), .unset] [] (none, [(11, s)]) (none, (none, [(11, o)])) := by
  intro s o hf
  unfold k_recountRefs at hf
  refine go_iconst (pc := 0) d37_0 ci_0 (go_istoreN (pc := 1) (L' := [.val (.ref 1), .val (.int (0 : Int32))]) d37_1 rfl ?_)
  exact k_recountRefs_2_ok BIG (0 : Int32) s _ hf
theorem c_k_recountRefs (s : S) (o : S) (hf : k_recountRefs s = some o) : Call PP m37 [.ref 1] (none, [(11, s)]) (none, (none, [(11, o)])) := call_of_go pl_0 rfl (fun _ => rfl) (k_recountRefs_ok s   _ hf)
set_option maxRecDepth 65536 in
set_option maxHeartbeats 4000000 in
theorem k_tableInsert_ok  : ∀ (v1 : Int32) (s : S)  (o : Int32 × S), k_tableInsert v1 s = some o → Go PP m38 0 [.val (.ref 1), .val (.int v1)] [] (none, [(11, s)]) (some (.int o.1), (none, [(11, o.2)])) := by
  intro v1 s o hf
  unfold k_tableInsert at hf
  refine go_aloadN (pc := 0) d38_0 rfl (go_iloadN (pc := 1) d38_1 rfl ?_)
  refine go_priv (pc := 2) (i := 0) (as := [.int v1]) (rest := []) (w' := (none, [(11, s)])) lk_0_165 pd_11 rfl oid_0 rfl rfl rfl rfl rfl rfl ⟨rfl, rfl, rfl, rfl, rfl⟩ d38_2 (c_k_isObjectId v1 s) ?_
  by_cases h1 : (k_isObjectId v1 s) = 0
  · replace hf := (if_pos h1).symm.trans hf
    refine go_ifN (pc := 5) d38_5 (XT.i0_ne_f h1) ?_
    refine go_iconst (pc := 8) d38_8 ci_0 ?_
    cases hf
    exact go_zret (pc := 9) rfl d38_9 (show (0 : Int32) = nar .boolean (0 : Int32) by decide)
  · replace hf := (if_neg h1).symm.trans hf
    refine go_ifY (pc := 5) (pc' := 10) d38_5 (XT.i0_ne_t h1) j_5_5 ?_
    refine go_aloadN (pc := 10) d38_10 rfl (go_getA (pc := 11) fa_26 hm_38 d38_11 rfl (go_iloadN (pc := 14) d38_14 rfl ?_))
    obtain ⟨a15, e2, hf⟩ := Option.bind_eq_some_iff.mp hf
    refine go_iaload (pc := 15) (q := 5) ar_5 rfl e2 d38_15 ?_
    refine go_iconst (pc := 16) d38_16 ci_m1 ?_
    by_cases h3 : a15 = (-1 : Int32)
    · replace hf := (if_pos h3).symm.trans hf
      refine go_icY (pc := 17) (pc' := 22) d38_17 (XT.ii_eq_t h3) j_17_5 ?_
      refine go_aloadN (pc := 22) d38_22 rfl (go_getI (pc := 23) fs_144 hm_38 d38_23 (go_aloadN (pc := 26) d38_26 rfl (go_getI (pc := 27) fs_58 hm_38 d38_27 ?_)))
      by_cases h4 : (gI s 6) < (gI s 3)
      · replace hf := (if_pos h4).symm.trans hf
        refine go_icN (pc := 30) d38_30 (XT.ii_ge_f h4) ?_
        refine go_aloadN (pc := 33) d38_33 rfl (go_getI (pc := 34) fs_144 hm_38 d38_34 (go_bipush (pc := 37) d38_37 cb_64 ?_))
        by_cases h5 : (gI s 6) < (64 : Int32)
        · replace hf := (if_pos h5).symm.trans hf
          refine go_icY (pc := 39) (pc' := 44) d38_39 (XT.ii_lt_t h5) j_39_5 ?_
          refine go_aloadN (pc := 44) d38_44 rfl (go_getA (pc := 45) fa_23 hm_38 d38_45 rfl (go_aloadN (pc := 48) d38_48 rfl (go_getI (pc := 49) fs_144 hm_38 d38_49 (go_iloadN (pc := 52) d38_52 rfl ?_))))
          obtain ⟨a53, e6, hf⟩ := Option.bind_eq_some_iff.mp hf
          refine go_iastore (pc := 53) (q := 4) ar_4 rfl hn_38 e6 d38_53 ?_
          refine go_aloadN (pc := 54) d38_54 rfl (go_getA (pc := 55) fa_26 hm_38 d38_55 rfl (go_iloadN (pc := 58) d38_58 rfl (go_aloadN (pc := 59) d38_59 rfl (go_getI (pc := 60) fs_144 hm_38 d38_60 ?_))))
          obtain ⟨a63, e7, hf⟩ := Option.bind_eq_some_iff.mp hf
          refine go_iastore (pc := 63) (q := 5) ar_5 rfl hn_38 e7 d38_63 ?_
          refine go_aloadN (pc := 64) d38_64 rfl (go_aloadN (pc := 65) d38_65 rfl (go_getI (pc := 66) fs_144 hm_38 d38_66 (go_iconst (pc := 69) d38_69 ci_1 (go_iadd (pc := 70) d38_70 (go_putI (pc := 71) fs_144 hm_38 (wr_6 _) hn_38 d38_71 (go_iconst (pc := 74) d38_74 ci_1 ?_))))))
          cases hf
          exact go_zret (pc := 75) rfl d38_75 (show (1 : Int32) = nar .boolean (1 : Int32) by decide)
        · replace hf := (if_neg h5).symm.trans hf
          refine go_icN (pc := 39) d38_39 (XT.ii_lt_f h5) ?_
          refine go_iconst (pc := 42) d38_42 ci_0 ?_
          cases hf
          exact go_zret (pc := 43) rfl d38_43 (show (0 : Int32) = nar .boolean (0 : Int32) by decide)
      · replace hf := (if_neg h4).symm.trans hf
        refine go_icY (pc := 30) (pc' := 42) d38_30 (XT.ii_ge_t h4) j_30_12 ?_
        refine go_iconst (pc := 42) d38_42 ci_0 ?_
        cases hf
        exact go_zret (pc := 43) rfl d38_43 (show (0 : Int32) = nar .boolean (0 : Int32) by decide)
    · replace hf := (if_neg h3).symm.trans hf
      refine go_icN (pc := 17) d38_17 (XT.ii_eq_f h3) ?_
      refine go_iconst (pc := 20) d38_20 ci_0 ?_
      cases hf
      exact go_zret (pc := 21) rfl d38_21 (show (0 : Int32) = nar .boolean (0 : Int32) by decide)
theorem c_k_tableInsert (v1 : Int32) (s : S) (o : Int32 × S) (hf : k_tableInsert v1 s = some o) : Call PP m38 [.ref 1, .int v1] (none, [(11, s)]) (some (.int o.1), (none, [(11, o.2)])) := call_of_go pl_0 rfl (fun h => nomatch h) (k_tableInsert_ok v1 s   _ hf)
set_option maxRecDepth 65536 in
set_option maxHeartbeats 4000000 in
theorem k_rebuildTable_6_ok  : ∀ (n : Nat) (v1 : Int32) (s : S)  (o : S), k_rebuildTable_6 n v1 s = some o → Go PP m39 6 [.val (.ref 1), .val (.int v1)] [] (none, [(11, s)]) (none, (none, [(11, o)])) := by
  intro n
  induction n with
  | zero => intro v1 s o hf; exact nomatch hf
  | succ n ih =>
    intro v1 s o hf
    unfold k_rebuildTable_6 at hf
    refine go_iloadN (pc := 6) d39_6 rfl (go_aloadN (pc := 7) d39_7 rfl (go_getI (pc := 8) fs_48 hm_39 d39_8 ?_))
    by_cases h1 : v1 < (gI s 0)
    · replace hf := (if_pos h1).symm.trans hf
      refine go_icN (pc := 11) d39_11 (XT.ii_ge_f h1) ?_
      refine go_aloadN (pc := 14) d39_14 rfl (go_getA (pc := 15) fa_7 hm_39 d39_15 rfl (go_iloadN (pc := 18) d39_18 rfl ?_))
      obtain ⟨a19, e2, hf⟩ := Option.bind_eq_some_iff.mp hf
      refine go_baload (pc := 19) (q := 0) ar_0 (by decide) rfl e2 d39_19 ?_
      by_cases h3 : a19 = 0
      · replace hf := (if_pos h3).symm.trans hf
        refine go_ifY (pc := 20) (pc' := 38) d39_20 (XT.i0_eq_t h3) j_20_18 ?_
        refine go_iinc (pc := 38) (L' := [.val (.ref 1), .val (.int (v1 + (1 : Int32)))]) d39_38 rfl ci_1 rfl (go_goto (pc := 41) (pc' := 6) d39_41 j_41_m35 ?_)
        exact ih (v1 + (1 : Int32)) s _ hf
      · replace hf := (if_neg h3).symm.trans hf
        refine go_ifN (pc := 20) d39_20 (XT.i0_eq_f h3) ?_
        refine go_aloadN (pc := 23) d39_23 rfl (go_getA (pc := 24) fa_17 hm_39 d39_24 rfl (go_iloadN (pc := 27) d39_27 rfl ?_))
        obtain ⟨a28, e4, hf⟩ := Option.bind_eq_some_iff.mp hf
        refine go_iaload (pc := 28) (q := 2) ar_2 rfl e4 d39_28 ?_
        by_cases h5 : a28 = 0
        · replace hf := (if_pos h5).symm.trans hf
          refine go_ifN (pc := 29) d39_29 (XT.i0_ne_f h5) ?_
          refine go_aloadN (pc := 32) d39_32 rfl (go_iloadN (pc := 33) d39_33 rfl ?_)
          obtain ⟨r34, e6, hf⟩ := Option.bind_eq_some_iff.mp hf
          refine go_priv (pc := 34) (i := 0) (as := [.int v1]) (rest := []) (w' := (none, [(11, r34.2)])) lk_0_162 pd_38 rfl oid_0 rfl rfl rfl rfl rfl rfl ⟨rfl, rfl, rfl, rfl, rfl⟩ d39_34 (c_k_tableInsert v1 s _ e6) ?_
          refine go_pop (pc := 37) d39_37 (go_iinc (pc := 38) (L' := [.val (.ref 1), .val (.int (v1 + (1 : Int32)))]) d39_38 rfl ci_1 rfl (go_goto (pc := 41) (pc' := 6) d39_41 j_41_m35 ?_))
          exact ih (v1 + (1 : Int32)) r34.2 _ hf
        · replace hf := (if_neg h5).symm.trans hf
          refine go_ifY (pc := 29) (pc' := 38) d39_29 (XT.i0_ne_t h5) j_29_9 ?_
          refine go_iinc (pc := 38) (L' := [.val (.ref 1), .val (.int (v1 + (1 : Int32)))]) d39_38 rfl ci_1 rfl (go_goto (pc := 41) (pc' := 6) d39_41 j_41_m35 ?_)
          exact ih (v1 + (1 : Int32)) s _ hf
    · replace hf := (if_neg h1).symm.trans hf
      refine go_icY (pc := 11) (pc' := 44) d39_11 (XT.ii_ge_t h1) j_11_33 ?_
      cases hf
      exact go_ret (pc := 44) rfl d39_44
set_option maxRecDepth 65536 in
set_option maxHeartbeats 4000000 in
theorem k_rebuildTable_ok  : ∀  (s : S)  (o : S), k_rebuildTable s = some o → Go PP m39 0 [.val (.ref 1), .unset] [] (none, [(11, s)]) (none, (none, [(11, o)])) := by
  intro s o hf
  unfold k_rebuildTable at hf
  refine go_aloadN (pc := 0) d39_0 rfl ?_
  obtain ⟨r1, e1, hf⟩ := Option.bind_eq_some_iff.mp hf
  refine go_priv (pc := 1) (i := 0) (as := []) (rest := []) (w' := (none, [(11, r1)])) lk_0_67 pd_5 rfl oid_0 rfl rfl rfl rfl rfl rfl ⟨rfl, rfl, rfl, rfl, rfl⟩ d39_1 (c_k_resetTable s _ e1) ?_
  refine go_iconst (pc := 4) d39_4 ci_0 (go_istoreN (pc := 5) (L' := [.val (.ref 1), .val (.int (0 : Int32))]) d39_5 rfl ?_)
  exact k_rebuildTable_6_ok BIG (0 : Int32) r1 _ hf
theorem c_k_rebuildTable (s : S) (o : S) (hf : k_rebuildTable s = some o) : Call PP m39 [.ref 1] (none, [(11, s)]) (none, (none, [(11, o)])) := call_of_go pl_0 rfl (fun _ => rfl) (k_rebuildTable_ok s   _ hf)
set_option maxRecDepth 65536 in
set_option maxHeartbeats 4000000 in
theorem k_runReconciliation_ok  : ∀  (s : S)  (o : Int32 × S), k_runReconciliation s = some o → Go PP m40 0 [.val (.ref 1), .unset] [] (none, [(11, s)]) (some (.int o.1), (none, [(11, o.2)])) := by
  intro s o hf
  unfold k_runReconciliation at hf
  refine go_aloadN (pc := 0) d40_0 rfl (go_aloadN (pc := 1) d40_1 rfl (go_getI (pc := 2) fs_73 hm_40 d40_2 (go_iconst (pc := 5) d40_5 ci_1 (go_iadd (pc := 6) d40_6 (go_putI (pc := 7) fs_73 hm_40 (wr_8 _) hn_40 d40_7 (go_aloadN (pc := 10) d40_10 rfl ?_))))))
  obtain ⟨r11, e1, hf⟩ := Option.bind_eq_some_iff.mp hf
  refine go_priv (pc := 11) (i := 0) (as := []) (rest := []) (w' := (none, [(11, r11)])) lk_0_177 pd_25 rfl oid_0 rfl rfl rfl rfl rfl rfl ⟨rfl, rfl, rfl, rfl, rfl⟩ d40_11 (c_k_markRootHeld (sI s 8 ((gI s 8) + (1 : Int32))) _ e1) ?_
  refine go_aloadN (pc := 14) d40_14 rfl ?_
  obtain ⟨r15, e2, hf⟩ := Option.bind_eq_some_iff.mp hf
  refine go_priv (pc := 15) (i := 0) (as := []) (rest := []) (w' := (none, [(11, r15)])) lk_0_180 pd_27 rfl oid_0 rfl rfl rfl rfl rfl rfl ⟨rfl, rfl, rfl, rfl, rfl⟩ d40_15 (c_k_countHolders r11 _ e2) ?_
  refine go_aloadN (pc := 18) d40_18 rfl ?_
  obtain ⟨r19, e3, hf⟩ := Option.bind_eq_some_iff.mp hf
  refine go_priv (pc := 19) (i := 0) (as := []) (rest := []) (w' := (none, [(11, r19)])) lk_0_183 pd_30 rfl oid_0 rfl rfl rfl rfl rfl rfl ⟨rfl, rfl, rfl, rfl, rfl⟩ d40_19 (c_k_seedWork r15 _ e3) ?_
  refine go_aloadN (pc := 22) d40_22 rfl ?_
  obtain ⟨r23, e4, hf⟩ := Option.bind_eq_some_iff.mp hf
  refine go_priv (pc := 23) (i := 0) (as := []) (rest := []) (w' := (none, [(11, r23)])) lk_0_186 pd_32 rfl oid_0 rfl rfl rfl rfl rfl rfl ⟨rfl, rfl, rfl, rfl, rfl⟩ d40_23 (c_k_cascade r19 _ e4) ?_
  refine go_aloadN (pc := 26) d40_26 rfl ?_
  obtain ⟨r27, e5, hf⟩ := Option.bind_eq_some_iff.mp hf
  refine go_priv (pc := 27) (i := 0) (as := []) (rest := []) (w' := (none, [(11, r27.2)])) lk_0_189 pd_34 rfl oid_0 rfl rfl rfl rfl rfl rfl ⟨rfl, rfl, rfl, rfl, rfl⟩ d40_27 (c_k_sweep r23 _ e5) ?_
  refine go_istoreN (pc := 30) (L' := [.val (.ref 1), .val (.int r27.1)]) d40_30 rfl (go_aloadN (pc := 31) d40_31 rfl ?_)
  obtain ⟨r32, e6, hf⟩ := Option.bind_eq_some_iff.mp hf
  refine go_priv (pc := 32) (i := 0) (as := []) (rest := []) (w' := (none, [(11, r32)])) lk_0_192 pd_37 rfl oid_0 rfl rfl rfl rfl rfl rfl ⟨rfl, rfl, rfl, rfl, rfl⟩ d40_32 (c_k_recountRefs r27.2 _ e6) ?_
  refine go_aloadN (pc := 35) d40_35 rfl ?_
  obtain ⟨r36, e7, hf⟩ := Option.bind_eq_some_iff.mp hf
  refine go_priv (pc := 36) (i := 0) (as := []) (rest := []) (w' := (none, [(11, r36)])) lk_0_195 pd_39 rfl oid_0 rfl rfl rfl rfl rfl rfl ⟨rfl, rfl, rfl, rfl, rfl⟩ d40_36 (c_k_rebuildTable r32 _ e7) ?_
  refine go_iloadN (pc := 39) d40_39 rfl ?_
  cases hf
  exact go_iret (pc := 40) rfl d40_40
theorem c_k_runReconciliation (s : S) (o : Int32 × S) (hf : k_runReconciliation s = some o) : Call PP m40 [.ref 1] (none, [(11, s)]) (some (.int o.1), (none, [(11, o.2)])) := call_of_go pl_0 rfl (fun h => nomatch h) (k_runReconciliation_ok s   _ hf)
set_option maxRecDepth 65536 in
set_option maxHeartbeats 4000000 in
theorem k_lowestFreeCell_2_ok  : ∀ (n : Nat) (v1 : Int32) (s : S)  (o : Int32), k_lowestFreeCell_2 n v1 s = some o → Go PP m41 2 [.val (.ref 1), .val (.int v1)] [] (none, [(11, s)]) (some (.int o), (none, [(11, s)])) := by
  intro n
  induction n with
  | zero => intro v1 s o hf; exact nomatch hf
  | succ n ih =>
    intro v1 s o hf
    unfold k_lowestFreeCell_2 at hf
    refine go_iloadN (pc := 2) d41_2 rfl (go_aloadN (pc := 3) d41_3 rfl (go_getI (pc := 4) fs_48 hm_41 d41_4 ?_))
    by_cases h1 : v1 < (gI s 0)
    · replace hf := (if_pos h1).symm.trans hf
      refine go_icN (pc := 7) d41_7 (XT.ii_ge_f h1) ?_
      refine go_aloadN (pc := 10) d41_10 rfl (go_getA (pc := 11) fa_7 hm_41 d41_11 rfl (go_iloadN (pc := 14) d41_14 rfl ?_))
      obtain ⟨a15, e2, hf⟩ := Option.bind_eq_some_iff.mp hf
      refine go_baload (pc := 15) (q := 0) ar_0 (by decide) rfl e2 d41_15 ?_
      by_cases h3 : a15 = 0
      · replace hf := (if_pos h3).symm.trans hf
        refine go_ifN (pc := 16) d41_16 (XT.i0_ne_f h3) ?_
        refine go_iloadN (pc := 19) d41_19 rfl ?_
        cases hf
        exact go_iret (pc := 20) rfl d41_20
      · replace hf := (if_neg h3).symm.trans hf
        refine go_ifY (pc := 16) (pc' := 21) d41_16 (XT.i0_ne_t h3) j_16_5 ?_
        refine go_iinc (pc := 21) (L' := [.val (.ref 1), .val (.int (v1 + (1 : Int32)))]) d41_21 rfl ci_1 rfl (go_goto (pc := 24) (pc' := 2) d41_24 j_24_m22 ?_)
        exact ih (v1 + (1 : Int32)) s _ hf
    · replace hf := (if_neg h1).symm.trans hf
      refine go_icY (pc := 7) (pc' := 27) d41_7 (XT.ii_ge_t h1) j_7_20 ?_
      refine go_iconst (pc := 27) d41_27 ci_m1 ?_
      cases hf
      exact go_iret (pc := 28) rfl d41_28
set_option maxRecDepth 65536 in
set_option maxHeartbeats 4000000 in
theorem k_lowestFreeCell_ok  : ∀  (s : S)  (o : Int32), k_lowestFreeCell s = some o → Go PP m41 0 [.val (.ref 1), .unset] [] (none, [(11, s)]) (some (.int o), (none, [(11, s)])) := by
  intro s o hf
  unfold k_lowestFreeCell at hf
  refine go_iconst (pc := 0) d41_0 ci_0 (go_istoreN (pc := 1) (L' := [.val (.ref 1), .val (.int (0 : Int32))]) d41_1 rfl ?_)
  exact k_lowestFreeCell_2_ok BIG (0 : Int32) s _ hf
theorem c_k_lowestFreeCell (s : S) (o : Int32) (hf : k_lowestFreeCell s = some o) : Call PP m41 [.ref 1] (none, [(11, s)]) (some (.int o), (none, [(11, s)])) := call_of_go pl_0 rfl (fun h => nomatch h) (k_lowestFreeCell_ok s   _ hf)
set_option maxRecDepth 65536 in
set_option maxHeartbeats 4000000 in
theorem k_bringToLife_ok  : ∀ (v1 : Int32) (s : S)  (o : S), k_bringToLife v1 s = some o → Go PP m42 0 [.val (.ref 1), .val (.int v1)] [] (none, [(11, s)]) (none, (none, [(11, o)])) := by
  intro v1 s o hf
  unfold k_bringToLife at hf
  refine go_aloadN (pc := 0) d42_0 rfl (go_iloadN (pc := 1) d42_1 rfl ?_)
  refine go_priv (pc := 2) (i := 0) (as := [.int v1]) (rest := []) (w' := (none, [(11, s)])) lk_0_165 pd_11 rfl oid_0 rfl rfl rfl rfl rfl rfl ⟨rfl, rfl, rfl, rfl, rfl⟩ d42_2 (c_k_isObjectId v1 s) ?_
  by_cases h1 : (k_isObjectId v1 s) = 0
  · replace hf := (if_pos h1).symm.trans hf
    refine go_ifN (pc := 5) d42_5 (XT.i0_ne_f h1) ?_
    cases hf
    exact go_ret (pc := 8) rfl d42_8
  · replace hf := (if_neg h1).symm.trans hf
    refine go_ifY (pc := 5) (pc' := 9) d42_5 (XT.i0_ne_t h1) j_5_4 ?_
    refine go_aloadN (pc := 9) d42_9 rfl (go_getA (pc := 10) fa_7 hm_42 d42_10 rfl (go_iloadN (pc := 13) d42_13 rfl ?_))
    obtain ⟨a14, e2, hf⟩ := Option.bind_eq_some_iff.mp hf
    refine go_baload (pc := 14) (q := 0) ar_0 (by decide) rfl e2 d42_14 ?_
    by_cases h3 : a14 = 0
    · replace hf := (if_pos h3).symm.trans hf
      refine go_ifY (pc := 15) (pc' := 19) d42_15 (XT.i0_eq_t h3) j_15_4 ?_
      refine go_aloadN (pc := 19) d42_19 rfl (go_getA (pc := 20) fa_7 hm_42 d42_20 rfl (go_iloadN (pc := 23) d42_23 rfl (go_iconst (pc := 24) d42_24 ci_1 ?_)))
      obtain ⟨a25, e4, hf⟩ := Option.bind_eq_some_iff.mp hf
      refine go_bastore (pc := 25) (q := 0) ar_0 (by decide) rfl hn_42 (by decide) e4 d42_25 ?_
      refine go_aloadN (pc := 26) d42_26 rfl (go_iloadN (pc := 27) d42_27 rfl ?_)
      obtain ⟨r28, e5, hf⟩ := Option.bind_eq_some_iff.mp hf
      refine go_priv (pc := 28) (i := 0) (as := [.int v1]) (rest := []) (w' := (none, [(11, r28)])) lk_0_219 pd_2 rfl oid_0 rfl rfl rfl rfl rfl rfl ⟨rfl, rfl, rfl, rfl, rfl⟩ d42_28 (c_k_clearCellFields v1 (sA s 0 a25) _ e5) ?_
      refine go_aloadN (pc := 31) d42_31 rfl (go_getA (pc := 32) fa_17 hm_42 d42_32 rfl (go_iloadN (pc := 35) d42_35 rfl (go_iconst (pc := 36) d42_36 ci_0 ?_)))
      obtain ⟨a37, e6, hf⟩ := Option.bind_eq_some_iff.mp hf
      refine go_iastore (pc := 37) (q := 2) ar_2 rfl hn_42 e6 d42_37 ?_
      refine go_aloadN (pc := 38) d42_38 rfl (go_aloadN (pc := 39) d42_39 rfl (go_getI (pc := 40) fs_147 hm_42 d42_40 (go_iconst (pc := 43) d42_43 ci_1 (go_iadd (pc := 44) d42_44 (go_putI (pc := 45) fs_147 hm_42 (wr_4 _) hn_42 d42_45 ?_)))))
      cases hf
      exact go_ret (pc := 48) rfl d42_48
    · replace hf := (if_neg h3).symm.trans hf
      refine go_ifN (pc := 15) d42_15 (XT.i0_eq_f h3) ?_
      cases hf
      exact go_ret (pc := 18) rfl d42_18
theorem c_k_bringToLife (v1 : Int32) (s : S) (o : S) (hf : k_bringToLife v1 s = some o) : Call PP m42 [.ref 1, .int v1] (none, [(11, s)]) (none, (none, [(11, o)])) := call_of_go pl_0 rfl (fun _ => rfl) (k_bringToLife_ok v1 s   _ hf)
set_option maxRecDepth 65536 in
set_option maxHeartbeats 4000000 in
theorem k_rootPush_ok  : ∀ (v1 : Int32) (s : S)  (o : S), k_rootPush v1 s = some o → Go PP m43 0 [.val (.ref 1), .val (.int v1)] [] (none, [(11, s)]) (none, (none, [(11, o)])) := by
  intro v1 s o hf
  unfold k_rootPush at hf
  refine go_aloadN (pc := 0) d43_0 rfl (go_getI (pc := 1) fs_125 hm_43 d43_1 (go_aloadN (pc := 4) d43_4 rfl (go_getI (pc := 5) fs_55 hm_43 d43_5 ?_)))
  by_cases h1 : (gI s 5) < (gI s 2)
  · replace hf := (if_pos h1).symm.trans hf
    refine go_icN (pc := 8) d43_8 (XT.ii_ge_f h1) ?_
    refine go_aloadN (pc := 11) d43_11 rfl (go_getI (pc := 12) fs_125 hm_43 d43_12 (go_bipush (pc := 15) d43_15 cb_16 ?_))
    by_cases h2 : (gI s 5) < (16 : Int32)
    · replace hf := (if_pos h2).symm.trans hf
      refine go_icY (pc := 17) (pc' := 21) d43_17 (XT.ii_lt_t h2) j_17_4 ?_
      refine go_aloadN (pc := 21) d43_21 rfl (go_getA (pc := 22) fa_20 hm_43 d43_22 rfl (go_aloadN (pc := 25) d43_25 rfl (go_getI (pc := 26) fs_125 hm_43 d43_26 (go_iloadN (pc := 29) d43_29 rfl ?_))))
      obtain ⟨a30, e3, hf⟩ := Option.bind_eq_some_iff.mp hf
      refine go_iastore (pc := 30) (q := 3) ar_3 rfl hn_43 e3 d43_30 ?_
      refine go_aloadN (pc := 31) d43_31 rfl (go_aloadN (pc := 32) d43_32 rfl (go_getI (pc := 33) fs_125 hm_43 d43_33 (go_iconst (pc := 36) d43_36 ci_1 (go_iadd (pc := 37) d43_37 (go_putI (pc := 38) fs_125 hm_43 (wr_5 _) hn_43 d43_38 ?_)))))
      cases hf
      exact go_ret (pc := 41) rfl d43_41
    · replace hf := (if_neg h2).symm.trans hf
      refine go_icN (pc := 17) d43_17 (XT.ii_lt_f h2) ?_
      cases hf
      exact go_ret (pc := 20) rfl d43_20
  · replace hf := (if_neg h1).symm.trans hf
    refine go_icY (pc := 8) (pc' := 20) d43_8 (XT.ii_ge_t h1) j_8_12 ?_
    cases hf
    exact go_ret (pc := 20) rfl d43_20
theorem c_k_rootPush (v1 : Int32) (s : S) (o : S) (hf : k_rootPush v1 s = some o) : Call PP m43 [.ref 1, .int v1] (none, [(11, s)]) (none, (none, [(11, o)])) := call_of_go pl_0 rfl (fun _ => rfl) (k_rootPush_ok v1 s   _ hf)
set_option maxRecDepth 65536 in
set_option maxHeartbeats 4000000 in
theorem k_placeNewObject_ok  : ∀ (v1 : Int32) (s : S)  (o : S), k_placeNewObject v1 s = some o → Go PP m44 0 [.val (.ref 1), .val (.int v1)] [] (none, [(11, s)]) (none, (none, [(11, o)])) := by
  intro v1 s o hf
  unfold k_placeNewObject at hf
  refine go_aloadN (pc := 0) d44_0 rfl (go_iloadN (pc := 1) d44_1 rfl ?_)
  obtain ⟨r2, e1, hf⟩ := Option.bind_eq_some_iff.mp hf
  refine go_priv (pc := 2) (i := 0) (as := [.int v1]) (rest := []) (w' := (none, [(11, r2)])) lk_0_159 pd_42 rfl oid_0 rfl rfl rfl rfl rfl rfl ⟨rfl, rfl, rfl, rfl, rfl⟩ d44_2 (c_k_bringToLife v1 s _ e1) ?_
  refine go_aloadN (pc := 5) d44_5 rfl (go_iloadN (pc := 6) d44_6 rfl ?_)
  obtain ⟨r7, e2, hf⟩ := Option.bind_eq_some_iff.mp hf
  refine go_priv (pc := 7) (i := 0) (as := [.int v1]) (rest := []) (w' := (none, [(11, r7.2)])) lk_0_162 pd_38 rfl oid_0 rfl rfl rfl rfl rfl rfl ⟨rfl, rfl, rfl, rfl, rfl⟩ d44_7 (c_k_tableInsert v1 r2 _ e2) ?_
  refine go_pop (pc := 10) d44_10 (go_aloadN (pc := 11) d44_11 rfl (go_iloadN (pc := 12) d44_12 rfl ?_))
  obtain ⟨r13, e3, hf⟩ := Option.bind_eq_some_iff.mp hf
  refine go_priv (pc := 13) (i := 0) (as := [.int v1]) (rest := []) (w' := (none, [(11, r13)])) lk_0_101 pd_43 rfl oid_0 rfl rfl rfl rfl rfl rfl ⟨rfl, rfl, rfl, rfl, rfl⟩ d44_13 (c_k_rootPush v1 r7.2 _ e3) ?_
  cases hf
  exact go_ret (pc := 16) rfl d44_16
theorem c_k_placeNewObject (v1 : Int32) (s : S) (o : S) (hf : k_placeNewObject v1 s = some o) : Call PP m44 [.ref 1, .int v1] (none, [(11, s)]) (none, (none, [(11, o)])) := call_of_go pl_0 rfl (fun _ => rfl) (k_placeNewObject_ok v1 s   _ hf)
set_option maxRecDepth 65536 in
set_option maxHeartbeats 4000000 in
theorem k_alloc_22_ok  : ∀  (s : S)  (o : Int32 × S), k_alloc_22 s = some o → Go PP m45 22 [.val (.ref 1), .unset] [] (none, [(11, s)]) (some (.int o.1), (none, [(11, o.2)])) := by
  intro s o hf
  unfold k_alloc_22 at hf
  refine go_aloadN (pc := 22) d45_22 rfl ?_
  obtain ⟨r23, e1, hf⟩ := Option.bind_eq_some_iff.mp hf
  refine go_priv (pc := 23) (i := 0) (as := []) (rest := []) (w' := (none, [(11, s)])) lk_0_87 pd_41 rfl oid_0 rfl rfl rfl rfl rfl rfl ⟨rfl, rfl, rfl, rfl, rfl⟩ d45_23 (c_k_lowestFreeCell s _ e1) ?_
  refine go_istoreN (pc := 26) (L' := [.val (.ref 1), .val (.int r23)]) d45_26 rfl (go_iloadN (pc := 27) d45_27 rfl (go_iconst (pc := 28) d45_28 ci_m1 ?_))
  by_cases h2 : r23 = (-1 : Int32)
  · replace hf := (if_pos h2).symm.trans hf
    refine go_icN (pc := 29) d45_29 (XT.ii_ne_f h2) ?_
    refine go_bipush (pc := 32) d45_32 cb_m4 ?_
    cases hf
    exact go_iret (pc := 34) rfl d45_34
  · replace hf := (if_neg h2).symm.trans hf
    refine go_icY (pc := 29) (pc' := 35) d45_29 (XT.ii_ne_t h2) j_29_6 ?_
    refine go_aloadN (pc := 35) d45_35 rfl (go_iloadN (pc := 36) d45_36 rfl ?_)
    obtain ⟨r37, e3, hf⟩ := Option.bind_eq_some_iff.mp hf
    refine go_priv (pc := 37) (i := 0) (as := [.int r23]) (rest := []) (w' := (none, [(11, r37)])) lk_0_90 pd_44 rfl oid_0 rfl rfl rfl rfl rfl rfl ⟨rfl, rfl, rfl, rfl, rfl⟩ d45_37 (c_k_placeNewObject r23 s _ e3) ?_
    refine go_iloadN (pc := 40) d45_40 rfl ?_
    cases hf
    exact go_iret (pc := 41) rfl d45_41
set_option maxRecDepth 65536 in
set_option maxHeartbeats 4000000 in
theorem k_alloc_ok  : ∀  (s : S)  (o : Int32 × S), k_alloc s = some o → Go PP m45 0 [.val (.ref 1), .unset] [] (none, [(11, s)]) (some (.int o.1), (none, [(11, o.2)])) := by
  intro s o hf
  unfold k_alloc at hf
  refine go_aloadN (pc := 0) d45_0 rfl ?_
  refine go_priv (pc := 1) (i := 0) (as := []) (rest := []) (w' := (none, [(11, s)])) lk_0_76 pd_21 rfl oid_0 rfl rfl rfl rfl rfl rfl ⟨rfl, rfl, rfl, rfl, rfl⟩ d45_1 (c_k_rootsFull s) ?_
  by_cases h1 : (k_rootsFull s) = 0
  · replace hf := (if_pos h1).symm.trans hf
    refine go_ifY (pc := 4) (pc' := 10) d45_4 (XT.i0_eq_t h1) j_4_6 ?_
    refine go_aloadN (pc := 10) d45_10 rfl ?_
    refine go_priv (pc := 11) (i := 0) (as := []) (rest := []) (w' := (none, [(11, s)])) lk_0_80 pd_24 rfl oid_0 rfl rfl rfl rfl rfl rfl ⟨rfl, rfl, rfl, rfl, rfl⟩ d45_11 (c_k_allocNeedsReconcile s) ?_
    by_cases h2 : (k_allocNeedsReconcile s) = 0
    · replace hf := (if_pos h2).symm.trans hf
      refine go_ifY (pc := 14) (pc' := 22) d45_14 (XT.i0_eq_t h2) j_14_8 ?_
      exact k_alloc_22_ok s _ hf
    · replace hf := (if_neg h2).symm.trans hf
      refine go_ifN (pc := 14) d45_14 (XT.i0_eq_f h2) ?_
      refine go_aloadN (pc := 17) d45_17 rfl ?_
      obtain ⟨r18, e3, hf⟩ := Option.bind_eq_some_iff.mp hf
      refine go_priv (pc := 18) (i := 0) (as := []) (rest := []) (w' := (none, [(11, r18.2)])) lk_0_83 pd_40 rfl oid_0 rfl rfl rfl rfl rfl rfl ⟨rfl, rfl, rfl, rfl, rfl⟩ d45_18 (c_k_runReconciliation s _ e3) ?_
      refine go_pop (pc := 21) d45_21 ?_
      exact k_alloc_22_ok r18.2 _ hf
  · replace hf := (if_neg h1).symm.trans hf
    refine go_ifN (pc := 4) d45_4 (XT.i0_eq_f h1) ?_
    refine go_bipush (pc := 7) d45_7 cb_m2 ?_
    cases hf
    exact go_iret (pc := 9) rfl d45_9
theorem c_k_alloc (s : S) (o : Int32 × S) (hf : k_alloc s = some o) : Call PP m45 [.ref 1] (none, [(11, s)]) (some (.int o.1), (none, [(11, o.2)])) := call_of_go pl_0 rfl (fun h => nomatch h) (k_alloc_ok s   _ hf)
set_option maxRecDepth 65536 in
set_option maxHeartbeats 4000000 in
theorem k_loadCheck_ok  : ∀ (v1 : Int32) (v2 : Int32) (s : S)  (o : Int32), k_loadCheck v1 v2 s = some o → Go PP m46 0 [.val (.ref 1), .val (.int v1), .val (.int v2)] [] (none, [(11, s)]) (some (.int o), (none, [(11, s)])) := by
  intro v1 v2 s o hf
  unfold k_loadCheck at hf
  refine go_aloadN (pc := 0) d46_0 rfl ?_
  refine go_priv (pc := 1) (i := 0) (as := []) (rest := []) (w' := (none, [(11, s)])) lk_0_76 pd_21 rfl oid_0 rfl rfl rfl rfl rfl rfl ⟨rfl, rfl, rfl, rfl, rfl⟩ d46_1 (c_k_rootsFull s) ?_
  by_cases h1 : (k_rootsFull s) = 0
  · replace hf := (if_pos h1).symm.trans hf
    refine go_ifY (pc := 4) (pc' := 10) d46_4 (XT.i0_eq_t h1) j_4_6 ?_
    refine go_aloadN (pc := 10) d46_10 rfl (go_iloadN (pc := 11) d46_11 rfl ?_)
    refine go_priv (pc := 12) (i := 0) (as := [.int v1]) (rest := []) (w' := (none, [(11, s)])) lk_0_131 pd_9 rfl oid_0 rfl rfl rfl rfl rfl rfl ⟨rfl, rfl, rfl, rfl, rfl⟩ d46_12 (c_k_isRootSlot v1 s) ?_
    by_cases h2 : (k_isRootSlot v1 s) = 0
    · replace hf := (if_pos h2).symm.trans hf
      refine go_ifN (pc := 15) d46_15 (XT.i0_ne_f h2) ?_
      refine go_bipush (pc := 18) d46_18 cb_m5 ?_
      cases hf
      exact go_iret (pc := 20) rfl d46_20
    · replace hf := (if_neg h2).symm.trans hf
      refine go_ifY (pc := 15) (pc' := 21) d46_15 (XT.i0_ne_t h2) j_15_6 ?_
      refine go_aloadN (pc := 21) d46_21 rfl (go_iloadN (pc := 22) d46_22 rfl ?_)
      refine go_priv (pc := 23) (i := 0) (as := [.int v2]) (rest := []) (w' := (none, [(11, s)])) lk_0_138 pd_16 rfl oid_0 rfl rfl rfl rfl rfl rfl ⟨rfl, rfl, rfl, rfl, rfl⟩ d46_23 (c_k_isFieldNo v2 s) ?_
      by_cases h3 : (k_isFieldNo v2 s) = 0
      · replace hf := (if_pos h3).symm.trans hf
        refine go_ifN (pc := 26) d46_26 (XT.i0_ne_f h3) ?_
        refine go_bipush (pc := 29) d46_29 cb_m6 ?_
        cases hf
        exact go_iret (pc := 31) rfl d46_31
      · replace hf := (if_neg h3).symm.trans hf
        refine go_ifY (pc := 26) (pc' := 32) d46_26 (XT.i0_ne_t h3) j_26_6 ?_
        refine go_aloadN (pc := 32) d46_32 rfl (go_getA (pc := 33) fa_20 hm_46 d46_33 rfl (go_iloadN (pc := 36) d46_36 rfl ?_))
        obtain ⟨a37, e4, hf⟩ := Option.bind_eq_some_iff.mp hf
        refine go_iaload (pc := 37) (q := 3) ar_3 rfl e4 d46_37 ?_
        refine go_iconst (pc := 38) d46_38 ci_m1 ?_
        by_cases h5 : a37 = (-1 : Int32)
        · replace hf := (if_pos h5).symm.trans hf
          refine go_icN (pc := 39) d46_39 (XT.ii_ne_f h5) ?_
          refine go_bipush (pc := 42) d46_42 cb_m7 ?_
          cases hf
          exact go_iret (pc := 44) rfl d46_44
        · replace hf := (if_neg h5).symm.trans hf
          refine go_icY (pc := 39) (pc' := 45) d46_39 (XT.ii_ne_t h5) j_39_6 ?_
          refine go_aloadN (pc := 45) d46_45 rfl (go_aloadN (pc := 46) d46_46 rfl (go_getA (pc := 47) fa_20 hm_46 d46_47 rfl (go_iloadN (pc := 50) d46_50 rfl ?_)))
          obtain ⟨a51, e6, hf⟩ := Option.bind_eq_some_iff.mp hf
          refine go_iaload (pc := 51) (q := 3) ar_3 rfl e6 d46_51 ?_
          obtain ⟨r52, e7, hf⟩ := Option.bind_eq_some_iff.mp hf
          refine go_priv (pc := 52) (i := 0) (as := [.int a51]) (rest := []) (w' := (none, [(11, s)])) lk_0_135 pd_12 rfl oid_0 rfl rfl rfl rfl rfl rfl ⟨rfl, rfl, rfl, rfl, rfl⟩ d46_52 (c_k_isLiveId a51 s _ e7) ?_
          by_cases h8 : r52 = 0
          · replace hf := (if_pos h8).symm.trans hf
            refine go_ifN (pc := 55) d46_55 (XT.i0_ne_f h8) ?_
            refine go_bipush (pc := 58) d46_58 cb_m7 ?_
            cases hf
            exact go_iret (pc := 60) rfl d46_60
          · replace hf := (if_neg h8).symm.trans hf
            refine go_ifY (pc := 55) (pc' := 61) d46_55 (XT.i0_ne_t h8) j_55_6 ?_
            refine go_iconst (pc := 61) d46_61 ci_0 ?_
            cases hf
            exact go_iret (pc := 62) rfl d46_62
  · replace hf := (if_neg h1).symm.trans hf
    refine go_ifN (pc := 4) d46_4 (XT.i0_eq_f h1) ?_
    refine go_bipush (pc := 7) d46_7 cb_m2 ?_
    cases hf
    exact go_iret (pc := 9) rfl d46_9
theorem c_k_loadCheck (v1 : Int32) (v2 : Int32) (s : S) (o : Int32) (hf : k_loadCheck v1 v2 s = some o) : Call PP m46 [.ref 1, .int v1, .int v2] (none, [(11, s)]) (some (.int o), (none, [(11, s)])) := call_of_go pl_0 rfl (fun h => nomatch h) (k_loadCheck_ok v1 v2 s   _ hf)
set_option maxRecDepth 65536 in
set_option maxHeartbeats 4000000 in
theorem k_load_ok  : ∀ (v1 : Int32) (v2 : Int32) (s : S)  (o : Int32 × S), k_load v1 v2 s = some o → Go PP m47 0 [.val (.ref 1), .val (.int v1), .val (.int v2), .unset, .unset, .unset] [] (none, [(11, s)]) (some (.int o.1), (none, [(11, o.2)])) := by
  intro v1 v2 s o hf
  unfold k_load at hf
  refine go_aloadN (pc := 0) d47_0 rfl (go_iloadN (pc := 1) d47_1 rfl (go_iloadN (pc := 2) d47_2 rfl ?_))
  obtain ⟨r3, e1, hf⟩ := Option.bind_eq_some_iff.mp hf
  refine go_priv (pc := 3) (i := 0) (as := [.int v1, .int v2]) (rest := []) (w' := (none, [(11, s)])) lk_0_94 pd_46 rfl oid_0 rfl rfl rfl rfl rfl rfl ⟨rfl, rfl, rfl, rfl, rfl⟩ d47_3 (c_k_loadCheck v1 v2 s _ e1) ?_
  refine go_istoreN (pc := 6) (L' := [.val (.ref 1), .val (.int v1), .val (.int v2), .val (.int r3), .unset, .unset]) d47_6 rfl (go_iloadN (pc := 7) d47_7 rfl ?_)
  by_cases h2 : r3 = 0
  · replace hf := (if_pos h2).symm.trans hf
    refine go_ifY (pc := 8) (pc' := 13) d47_8 (XT.i0_eq_t h2) j_8_5 ?_
    refine go_aloadN (pc := 13) d47_13 rfl (go_getA (pc := 14) fa_20 hm_47 d47_14 rfl (go_iloadN (pc := 17) d47_17 rfl ?_))
    obtain ⟨a18, e3, hf⟩ := Option.bind_eq_some_iff.mp hf
    refine go_iaload (pc := 18) (q := 3) ar_3 rfl e3 d47_18 ?_
    refine go_istore (pc := 19) (L' := [.val (.ref 1), .val (.int v1), .val (.int v2), .val (.int r3), .val (.int a18), .unset]) d47_19 rfl (go_aloadN (pc := 21) d47_21 rfl (go_iload (pc := 22) d47_22 rfl (go_iloadN (pc := 24) d47_24 rfl ?_)))
    obtain ⟨r25, e4, hf⟩ := Option.bind_eq_some_iff.mp hf
    refine go_priv (pc := 25) (i := 0) (as := [.int a18, .int v2]) (rest := []) (w' := (none, [(11, s)])) lk_0_98 pd_17 rfl oid_0 rfl rfl rfl rfl rfl rfl ⟨rfl, rfl, rfl, rfl, rfl⟩ d47_25 (c_k_readField a18 v2 s _ e4) ?_
    refine go_istore (pc := 28) (L' := [.val (.ref 1), .val (.int v1), .val (.int v2), .val (.int r3), .val (.int a18), .val (.int r25)]) d47_28 rfl (go_aloadN (pc := 30) d47_30 rfl (go_iload (pc := 31) d47_31 rfl ?_))
    obtain ⟨r33, e5, hf⟩ := Option.bind_eq_some_iff.mp hf
    refine go_priv (pc := 33) (i := 0) (as := [.int r25]) (rest := []) (w' := (none, [(11, r33)])) lk_0_101 pd_43 rfl oid_0 rfl rfl rfl rfl rfl rfl ⟨rfl, rfl, rfl, rfl, rfl⟩ d47_33 (c_k_rootPush r25 s _ e5) ?_
    refine go_iconst (pc := 36) d47_36 ci_0 ?_
    cases hf
    exact go_iret (pc := 37) rfl d47_37
  · replace hf := (if_neg h2).symm.trans hf
    refine go_ifN (pc := 8) d47_8 (XT.i0_eq_f h2) ?_
    refine go_iloadN (pc := 11) d47_11 rfl ?_
    cases hf
    exact go_iret (pc := 12) rfl d47_12
theorem c_k_load (v1 : Int32) (v2 : Int32) (s : S) (o : Int32 × S) (hf : k_load v1 v2 s = some o) : Call PP m47 [.ref 1, .int v1, .int v2] (none, [(11, s)]) (some (.int o.1), (none, [(11, o.2)])) := call_of_go pl_0 rfl (fun h => nomatch h) (k_load_ok v1 v2 s   _ hf)
set_option maxRecDepth 65536 in
set_option maxHeartbeats 4000000 in
theorem k_isValueSlot_ok  : ∀ (v1 : Int32) (s : S)  (o : Int32), k_isValueSlot v1 s = o → Go PP m48 0 [.val (.ref 1), .val (.int v1)] [] (none, [(11, s)]) (some (.int o), (none, [(11, s)])) := by
  intro v1 s o hf
  unfold k_isValueSlot at hf
  refine go_iloadN (pc := 0) d48_0 rfl (go_iconst (pc := 1) d48_1 ci_m1 ?_)
  by_cases h1 : v1 = (-1 : Int32)
  · replace hf := (if_pos h1).symm.trans hf
    refine go_icN (pc := 2) d48_2 (XT.ii_ne_f h1) ?_
    refine go_iconst (pc := 5) d48_5 ci_1 ?_
    cases hf
    exact go_zret (pc := 6) rfl d48_6 (show (1 : Int32) = nar .boolean (1 : Int32) by decide)
  · replace hf := (if_neg h1).symm.trans hf
    refine go_icY (pc := 2) (pc' := 7) d48_2 (XT.ii_ne_t h1) j_2_5 ?_
    refine go_aloadN (pc := 7) d48_7 rfl (go_iloadN (pc := 8) d48_8 rfl ?_)
    refine go_priv (pc := 9) (i := 0) (as := [.int v1]) (rest := []) (w' := (none, [(11, s)])) lk_0_131 pd_9 rfl oid_0 rfl rfl rfl rfl rfl rfl ⟨rfl, rfl, rfl, rfl, rfl⟩ d48_9 (c_k_isRootSlot v1 s) ?_
    cases hf
    exact go_zret (pc := 12) rfl d48_12 rfl
theorem c_k_isValueSlot (v1 : Int32) (s : S) : Call PP m48 [.ref 1, .int v1] (none, [(11, s)]) (some (.int (k_isValueSlot v1 s)), (none, [(11, s)])) := call_of_go pl_0 rfl (fun h => nomatch h) (k_isValueSlot_ok v1 s   _ rfl)
set_option maxRecDepth 65536 in
set_option maxHeartbeats 4000000 in
theorem k_storeCheck_ok  : ∀ (v1 : Int32) (v2 : Int32) (v3 : Int32) (s : S)  (o : Int32), k_storeCheck v1 v2 v3 s = some o → Go PP m49 0 [.val (.ref 1), .val (.int v1), .val (.int v2), .val (.int v3)] [] (none, [(11, s)]) (some (.int o), (none, [(11, s)])) := by
  intro v1 v2 v3 s o hf
  unfold k_storeCheck at hf
  refine go_aloadN (pc := 0) d49_0 rfl (go_iloadN (pc := 1) d49_1 rfl ?_)
  refine go_priv (pc := 2) (i := 0) (as := [.int v1]) (rest := []) (w' := (none, [(11, s)])) lk_0_131 pd_9 rfl oid_0 rfl rfl rfl rfl rfl rfl ⟨rfl, rfl, rfl, rfl, rfl⟩ d49_2 (c_k_isRootSlot v1 s) ?_
  by_cases h1 : (k_isRootSlot v1 s) = 0
  · replace hf := (if_pos h1).symm.trans hf
    refine go_ifN (pc := 5) d49_5 (XT.i0_ne_f h1) ?_
    refine go_bipush (pc := 8) d49_8 cb_m5 ?_
    cases hf
    exact go_iret (pc := 10) rfl d49_10
  · replace hf := (if_neg h1).symm.trans hf
    refine go_ifY (pc := 5) (pc' := 11) d49_5 (XT.i0_ne_t h1) j_5_6 ?_
    refine go_aloadN (pc := 11) d49_11 rfl (go_iloadN (pc := 12) d49_12 rfl ?_)
    refine go_priv (pc := 13) (i := 0) (as := [.int v2]) (rest := []) (w' := (none, [(11, s)])) lk_0_138 pd_16 rfl oid_0 rfl rfl rfl rfl rfl rfl ⟨rfl, rfl, rfl, rfl, rfl⟩ d49_13 (c_k_isFieldNo v2 s) ?_
    by_cases h2 : (k_isFieldNo v2 s) = 0
    · replace hf := (if_pos h2).symm.trans hf
      refine go_ifN (pc := 16) d49_16 (XT.i0_ne_f h2) ?_
      refine go_bipush (pc := 19) d49_19 cb_m6 ?_
      cases hf
      exact go_iret (pc := 21) rfl d49_21
    · replace hf := (if_neg h2).symm.trans hf
      refine go_ifY (pc := 16) (pc' := 22) d49_16 (XT.i0_ne_t h2) j_16_6 ?_
      refine go_aloadN (pc := 22) d49_22 rfl (go_iloadN (pc := 23) d49_23 rfl ?_)
      refine go_priv (pc := 24) (i := 0) (as := [.int v3]) (rest := []) (w' := (none, [(11, s)])) lk_0_150 pd_48 rfl oid_0 rfl rfl rfl rfl rfl rfl ⟨rfl, rfl, rfl, rfl, rfl⟩ d49_24 (c_k_isValueSlot v3 s) ?_
      by_cases h3 : (k_isValueSlot v3 s) = 0
      · replace hf := (if_pos h3).symm.trans hf
        refine go_ifN (pc := 27) d49_27 (XT.i0_ne_f h3) ?_
        refine go_bipush (pc := 30) d49_30 cb_m5 ?_
        cases hf
        exact go_iret (pc := 32) rfl d49_32
      · replace hf := (if_neg h3).symm.trans hf
        refine go_ifY (pc := 27) (pc' := 33) d49_27 (XT.i0_ne_t h3) j_27_6 ?_
        refine go_aloadN (pc := 33) d49_33 rfl (go_getA (pc := 34) fa_20 hm_49 d49_34 rfl (go_iloadN (pc := 37) d49_37 rfl ?_))
        obtain ⟨a38, e4, hf⟩ := Option.bind_eq_some_iff.mp hf
        refine go_iaload (pc := 38) (q := 3) ar_3 rfl e4 d49_38 ?_
        refine go_iconst (pc := 39) d49_39 ci_m1 ?_
        by_cases h5 : a38 = (-1 : Int32)
        · replace hf := (if_pos h5).symm.trans hf
          refine go_icN (pc := 40) d49_40 (XT.ii_ne_f h5) ?_
          refine go_bipush (pc := 43) d49_43 cb_m7 ?_
          cases hf
          exact go_iret (pc := 45) rfl d49_45
        · replace hf := (if_neg h5).symm.trans hf
          refine go_icY (pc := 40) (pc' := 46) d49_40 (XT.ii_ne_t h5) j_40_6 ?_
          refine go_aloadN (pc := 46) d49_46 rfl (go_aloadN (pc := 47) d49_47 rfl (go_getA (pc := 48) fa_20 hm_49 d49_48 rfl (go_iloadN (pc := 51) d49_51 rfl ?_)))
          obtain ⟨a52, e6, hf⟩ := Option.bind_eq_some_iff.mp hf
          refine go_iaload (pc := 52) (q := 3) ar_3 rfl e6 d49_52 ?_
          obtain ⟨r53, e7, hf⟩ := Option.bind_eq_some_iff.mp hf
          refine go_priv (pc := 53) (i := 0) (as := [.int a52]) (rest := []) (w' := (none, [(11, s)])) lk_0_135 pd_12 rfl oid_0 rfl rfl rfl rfl rfl rfl ⟨rfl, rfl, rfl, rfl, rfl⟩ d49_53 (c_k_isLiveId a52 s _ e7) ?_
          by_cases h8 : r53 = 0
          · replace hf := (if_pos h8).symm.trans hf
            refine go_ifN (pc := 56) d49_56 (XT.i0_ne_f h8) ?_
            refine go_bipush (pc := 59) d49_59 cb_m7 ?_
            cases hf
            exact go_iret (pc := 61) rfl d49_61
          · replace hf := (if_neg h8).symm.trans hf
            refine go_ifY (pc := 56) (pc' := 62) d49_56 (XT.i0_ne_t h8) j_56_6 ?_
            refine go_iconst (pc := 62) d49_62 ci_0 ?_
            cases hf
            exact go_iret (pc := 63) rfl d49_63
theorem c_k_storeCheck (v1 : Int32) (v2 : Int32) (v3 : Int32) (s : S) (o : Int32) (hf : k_storeCheck v1 v2 v3 s = some o) : Call PP m49 [.ref 1, .int v1, .int v2, .int v3] (none, [(11, s)]) (some (.int o), (none, [(11, s)])) := call_of_go pl_0 rfl (fun h => nomatch h) (k_storeCheck_ok v1 v2 v3 s   _ hf)
set_option maxRecDepth 65536 in
set_option maxHeartbeats 4000000 in
theorem k_valueOfSlot_ok  : ∀ (v1 : Int32) (s : S)  (o : Int32), k_valueOfSlot v1 s = some o → Go PP m50 0 [.val (.ref 1), .val (.int v1)] [] (none, [(11, s)]) (some (.int o), (none, [(11, s)])) := by
  intro v1 s o hf
  unfold k_valueOfSlot at hf
  refine go_iloadN (pc := 0) d50_0 rfl (go_iconst (pc := 1) d50_1 ci_m1 ?_)
  by_cases h1 : v1 = (-1 : Int32)
  · replace hf := (if_pos h1).symm.trans hf
    refine go_icN (pc := 2) d50_2 (XT.ii_ne_f h1) ?_
    refine go_iconst (pc := 5) d50_5 ci_m1 ?_
    cases hf
    exact go_iret (pc := 6) rfl d50_6
  · replace hf := (if_neg h1).symm.trans hf
    refine go_icY (pc := 2) (pc' := 7) d50_2 (XT.ii_ne_t h1) j_2_5 ?_
    refine go_aloadN (pc := 7) d50_7 rfl (go_iloadN (pc := 8) d50_8 rfl ?_)
    refine go_priv (pc := 9) (i := 0) (as := [.int v1]) (rest := []) (w' := (none, [(11, s)])) lk_0_131 pd_9 rfl oid_0 rfl rfl rfl rfl rfl rfl ⟨rfl, rfl, rfl, rfl, rfl⟩ d50_9 (c_k_isRootSlot v1 s) ?_
    by_cases h2 : (k_isRootSlot v1 s) = 0
    · replace hf := (if_pos h2).symm.trans hf
      refine go_ifN (pc := 12) d50_12 (XT.i0_ne_f h2) ?_
      refine go_iconst (pc := 15) d50_15 ci_m1 ?_
      cases hf
      exact go_iret (pc := 16) rfl d50_16
    · replace hf := (if_neg h2).symm.trans hf
      refine go_ifY (pc := 12) (pc' := 17) d50_12 (XT.i0_ne_t h2) j_12_5 ?_
      refine go_aloadN (pc := 17) d50_17 rfl (go_getA (pc := 18) fa_20 hm_50 d50_18 rfl (go_iloadN (pc := 21) d50_21 rfl ?_))
      obtain ⟨a22, e3, hf⟩ := Option.bind_eq_some_iff.mp hf
      refine go_iaload (pc := 22) (q := 3) ar_3 rfl e3 d50_22 ?_
      cases hf
      exact go_iret (pc := 23) rfl d50_23
theorem c_k_valueOfSlot (v1 : Int32) (s : S) (o : Int32) (hf : k_valueOfSlot v1 s = some o) : Call PP m50 [.ref 1, .int v1] (none, [(11, s)]) (some (.int o), (none, [(11, s)])) := call_of_go pl_0 rfl (fun h => nomatch h) (k_valueOfSlot_ok v1 s   _ hf)
set_option maxRecDepth 65536 in
set_option maxHeartbeats 4000000 in
theorem k_storeNeedsReconcile_ok  : ∀ (v1 : Int32) (v2 : Int32) (s : S)  (o : Int32), k_storeNeedsReconcile v1 v2 s = some o → Go PP m51 0 [.val (.ref 1), .val (.int v1), .val (.int v2)] [] (none, [(11, s)]) (some (.int o), (none, [(11, s)])) := by
  intro v1 v2 s o hf
  unfold k_storeNeedsReconcile at hf
  refine go_iloadN (pc := 0) d51_0 rfl (go_iconst (pc := 1) d51_1 ci_m1 ?_)
  by_cases h1 : v1 = (-1 : Int32)
  · replace hf := (if_pos h1).symm.trans hf
    refine go_icN (pc := 2) d51_2 (XT.ii_ne_f h1) ?_
    refine go_iconst (pc := 5) d51_5 ci_0 ?_
    cases hf
    exact go_zret (pc := 6) rfl d51_6 (show (0 : Int32) = nar .boolean (0 : Int32) by decide)
  · replace hf := (if_neg h1).symm.trans hf
    refine go_icY (pc := 2) (pc' := 7) d51_2 (XT.ii_ne_t h1) j_2_5 ?_
    refine go_iloadN (pc := 7) d51_7 rfl (go_iloadN (pc := 8) d51_8 rfl ?_)
    by_cases h2 : v1 = v2
    · replace hf := (if_pos h2).symm.trans hf
      refine go_icN (pc := 9) d51_9 (XT.ii_ne_f h2) ?_
      refine go_iconst (pc := 12) d51_12 ci_0 ?_
      cases hf
      exact go_zret (pc := 13) rfl d51_13 (show (0 : Int32) = nar .boolean (0 : Int32) by decide)
    · replace hf := (if_neg h2).symm.trans hf
      refine go_icY (pc := 9) (pc' := 14) d51_9 (XT.ii_ne_t h2) j_9_5 ?_
      refine go_aloadN (pc := 14) d51_14 rfl (go_iloadN (pc := 15) d51_15 rfl ?_)
      refine go_priv (pc := 16) (i := 0) (as := [.int v1]) (rest := []) (w' := (none, [(11, s)])) lk_0_165 pd_11 rfl oid_0 rfl rfl rfl rfl rfl rfl ⟨rfl, rfl, rfl, rfl, rfl⟩ d51_16 (c_k_isObjectId v1 s) ?_
      by_cases h3 : (k_isObjectId v1 s) = 0
      · replace hf := (if_pos h3).symm.trans hf
        refine go_ifN (pc := 19) d51_19 (XT.i0_ne_f h3) ?_
        refine go_iconst (pc := 22) d51_22 ci_0 ?_
        cases hf
        exact go_zret (pc := 23) rfl d51_23 (show (0 : Int32) = nar .boolean (0 : Int32) by decide)
      · replace hf := (if_neg h3).symm.trans hf
        refine go_ifY (pc := 19) (pc' := 24) d51_19 (XT.i0_ne_t h3) j_19_5 ?_
        refine go_aloadN (pc := 24) d51_24 rfl (go_getA (pc := 25) fa_17 hm_51 d51_25 rfl (go_iloadN (pc := 28) d51_28 rfl ?_))
        obtain ⟨a29, e4, hf⟩ := Option.bind_eq_some_iff.mp hf
        refine go_iaload (pc := 29) (q := 2) ar_2 rfl e4 d51_29 ?_
        refine go_iconst (pc := 30) d51_30 ci_1 ?_
        by_cases h5 : a29 = (1 : Int32)
        · replace hf := (if_pos h5).symm.trans hf
          refine go_icY (pc := 31) (pc' := 36) d51_31 (XT.ii_eq_t h5) j_31_5 ?_
          refine go_aloadN (pc := 36) d51_36 rfl (go_iloadN (pc := 37) d51_37 rfl ?_)
          obtain ⟨r38, e6, hf⟩ := Option.bind_eq_some_iff.mp hf
          refine go_priv (pc := 38) (i := 0) (as := [.int v1]) (rest := []) (w' := (none, [(11, s)])) lk_0_141 pd_14 rfl oid_0 rfl rfl rfl rfl rfl rfl ⟨rfl, rfl, rfl, rfl, rfl⟩ d51_38 (c_k_tableHas v1 s _ e6) ?_
          by_cases h7 : r38 = 0
          · replace hf := (if_pos h7).symm.trans hf
            refine go_ifY (pc := 41) (pc' := 46) d51_41 (XT.i0_eq_t h7) j_41_5 ?_
            refine go_aloadN (pc := 46) d51_46 rfl ?_
            refine go_priv (pc := 47) (i := 0) (as := []) (rest := []) (w' := (none, [(11, s)])) lk_0_156 pd_23 rfl oid_0 rfl rfl rfl rfl rfl rfl ⟨rfl, rfl, rfl, rfl, rfl⟩ d51_47 (c_k_tableIsFull s) ?_
            cases hf
            exact go_zret (pc := 50) rfl d51_50 rfl
          · replace hf := (if_neg h7).symm.trans hf
            refine go_ifN (pc := 41) d51_41 (XT.i0_eq_f h7) ?_
            refine go_iconst (pc := 44) d51_44 ci_0 ?_
            cases hf
            exact go_zret (pc := 45) rfl d51_45 (show (0 : Int32) = nar .boolean (0 : Int32) by decide)
        · replace hf := (if_neg h5).symm.trans hf
          refine go_icN (pc := 31) d51_31 (XT.ii_eq_f h5) ?_
          refine go_iconst (pc := 34) d51_34 ci_0 ?_
          cases hf
          exact go_zret (pc := 35) rfl d51_35 (show (0 : Int32) = nar .boolean (0 : Int32) by decide)
theorem c_k_storeNeedsReconcile (v1 : Int32) (v2 : Int32) (s : S) (o : Int32) (hf : k_storeNeedsReconcile v1 v2 s = some o) : Call PP m51 [.ref 1, .int v1, .int v2] (none, [(11, s)]) (some (.int o), (none, [(11, s)])) := call_of_go pl_0 rfl (fun h => nomatch h) (k_storeNeedsReconcile_ok v1 v2 s   _ hf)
set_option maxRecDepth 65536 in
set_option maxHeartbeats 4000000 in
theorem k_refDec_ok  : ∀ (v1 : Int32) (s : S)  (o : S), k_refDec v1 s = some o → Go PP m52 0 [.val (.ref 1), .val (.int v1)] [] (none, [(11, s)]) (none, (none, [(11, o)])) := by
  intro v1 s o hf
  unfold k_refDec at hf
  refine go_aloadN (pc := 0) d52_0 rfl (go_iloadN (pc := 1) d52_1 rfl ?_)
  refine go_priv (pc := 2) (i := 0) (as := [.int v1]) (rest := []) (w' := (none, [(11, s)])) lk_0_165 pd_11 rfl oid_0 rfl rfl rfl rfl rfl rfl ⟨rfl, rfl, rfl, rfl, rfl⟩ d52_2 (c_k_isObjectId v1 s) ?_
  by_cases h1 : (k_isObjectId v1 s) = 0
  · replace hf := (if_pos h1).symm.trans hf
    refine go_ifY (pc := 5) (pc' := 31) d52_5 (XT.i0_eq_t h1) j_5_26 ?_
    cases hf
    exact go_ret (pc := 31) rfl d52_31
  · replace hf := (if_neg h1).symm.trans hf
    refine go_ifN (pc := 5) d52_5 (XT.i0_eq_f h1) ?_
    refine go_aloadN (pc := 8) d52_8 rfl (go_getA (pc := 9) fa_17 hm_52 d52_9 rfl (go_iloadN (pc := 12) d52_12 rfl ?_))
    obtain ⟨a13, e2, hf⟩ := Option.bind_eq_some_iff.mp hf
    refine go_iaload (pc := 13) (q := 2) ar_2 rfl e2 d52_13 ?_
    by_cases h3 : 0 < a13
    · replace hf := (if_pos h3).symm.trans hf
      refine go_ifN (pc := 14) d52_14 (XT.i0_le_f h3) ?_
      refine go_aloadN (pc := 17) d52_17 rfl (go_getA (pc := 18) fa_17 hm_52 d52_18 rfl (go_iloadN (pc := 21) d52_21 rfl (go_aloadN (pc := 22) d52_22 rfl (go_getA (pc := 23) fa_17 hm_52 d52_23 rfl (go_iloadN (pc := 26) d52_26 rfl ?_)))))
      obtain ⟨a27, e4, hf⟩ := Option.bind_eq_some_iff.mp hf
      refine go_iaload (pc := 27) (q := 2) ar_2 rfl e4 d52_27 ?_
      refine go_iconst (pc := 28) d52_28 ci_1 (go_isub (pc := 29) d52_29 ?_)
      obtain ⟨a30, e5, hf⟩ := Option.bind_eq_some_iff.mp hf
      refine go_iastore (pc := 30) (q := 2) ar_2 rfl hn_52 e5 d52_30 ?_
      cases hf
      exact go_ret (pc := 31) rfl d52_31
    · replace hf := (if_neg h3).symm.trans hf
      refine go_ifY (pc := 14) (pc' := 31) d52_14 (XT.i0_le_t h3) j_14_17 ?_
      cases hf
      exact go_ret (pc := 31) rfl d52_31
theorem c_k_refDec (v1 : Int32) (s : S) (o : S) (hf : k_refDec v1 s = some o) : Call PP m52 [.ref 1, .int v1] (none, [(11, s)]) (none, (none, [(11, o)])) := call_of_go pl_0 rfl (fun _ => rfl) (k_refDec_ok v1 s   _ hf)
set_option maxRecDepth 65536 in
set_option maxHeartbeats 4000000 in
theorem k_writeFieldRaw_ok  : ∀ (v1 : Int32) (v2 : Int32) (v3 : Int32) (s : S)  (o : S), k_writeFieldRaw v1 v2 v3 s = some o → Go PP m53 0 [.val (.ref 1), .val (.int v1), .val (.int v2), .val (.int v3)] [] (none, [(11, s)]) (none, (none, [(11, o)])) := by
  intro v1 v2 v3 s o hf
  unfold k_writeFieldRaw at hf
  refine go_aloadN (pc := 0) d53_0 rfl (go_iloadN (pc := 1) d53_1 rfl ?_)
  refine go_priv (pc := 2) (i := 0) (as := [.int v1]) (rest := []) (w' := (none, [(11, s)])) lk_0_165 pd_11 rfl oid_0 rfl rfl rfl rfl rfl rfl ⟨rfl, rfl, rfl, rfl, rfl⟩ d53_2 (c_k_isObjectId v1 s) ?_
  by_cases h1 : (k_isObjectId v1 s) = 0
  · replace hf := (if_pos h1).symm.trans hf
    refine go_ifN (pc := 5) d53_5 (XT.i0_ne_f h1) ?_
    cases hf
    exact go_ret (pc := 8) rfl d53_8
  · replace hf := (if_neg h1).symm.trans hf
    refine go_ifY (pc := 5) (pc' := 9) d53_5 (XT.i0_ne_t h1) j_5_4 ?_
    refine go_aloadN (pc := 9) d53_9 rfl (go_iloadN (pc := 10) d53_10 rfl ?_)
    refine go_priv (pc := 11) (i := 0) (as := [.int v2]) (rest := []) (w' := (none, [(11, s)])) lk_0_138 pd_16 rfl oid_0 rfl rfl rfl rfl rfl rfl ⟨rfl, rfl, rfl, rfl, rfl⟩ d53_11 (c_k_isFieldNo v2 s) ?_
    by_cases h2 : (k_isFieldNo v2 s) = 0
    · replace hf := (if_pos h2).symm.trans hf
      refine go_ifN (pc := 14) d53_14 (XT.i0_ne_f h2) ?_
      cases hf
      exact go_ret (pc := 17) rfl d53_17
    · replace hf := (if_neg h2).symm.trans hf
      refine go_ifY (pc := 14) (pc' := 18) d53_14 (XT.i0_ne_t h2) j_14_4 ?_
      refine go_aloadN (pc := 18) d53_18 rfl (go_getA (pc := 19) fa_13 hm_53 d53_19 rfl (go_iloadN (pc := 22) d53_22 rfl (go_iconst (pc := 23) d53_23 ci_4 (go_imul (pc := 24) d53_24 (go_iloadN (pc := 25) d53_25 rfl (go_iadd (pc := 26) d53_26 (go_iloadN (pc := 27) d53_27 rfl ?_)))))))
      obtain ⟨a28, e3, hf⟩ := Option.bind_eq_some_iff.mp hf
      refine go_iastore (pc := 28) (q := 1) ar_1 rfl hn_53 e3 d53_28 ?_
      cases hf
      exact go_ret (pc := 29) rfl d53_29
theorem c_k_writeFieldRaw (v1 : Int32) (v2 : Int32) (v3 : Int32) (s : S) (o : S) (hf : k_writeFieldRaw v1 v2 v3 s = some o) : Call PP m53 [.ref 1, .int v1, .int v2, .int v3] (none, [(11, s)]) (none, (none, [(11, o)])) := call_of_go pl_0 rfl (fun _ => rfl) (k_writeFieldRaw_ok v1 v2 v3 s   _ hf)
set_option maxRecDepth 65536 in
set_option maxHeartbeats 4000000 in
theorem k_assignField_ok  : ∀ (v1 : Int32) (v2 : Int32) (v3 : Int32) (s : S)  (o : S), k_assignField v1 v2 v3 s = some o → Go PP m54 0 [.val (.ref 1), .val (.int v1), .val (.int v2), .val (.int v3), .unset] [] (none, [(11, s)]) (none, (none, [(11, o)])) := by
  intro v1 v2 v3 s o hf
  unfold k_assignField at hf
  refine go_aloadN (pc := 0) d54_0 rfl (go_iloadN (pc := 1) d54_1 rfl (go_iloadN (pc := 2) d54_2 rfl ?_))
  obtain ⟨r3, e1, hf⟩ := Option.bind_eq_some_iff.mp hf
  refine go_priv (pc := 3) (i := 0) (as := [.int v1, .int v2]) (rest := []) (w' := (none, [(11, s)])) lk_0_98 pd_17 rfl oid_0 rfl rfl rfl rfl rfl rfl ⟨rfl, rfl, rfl, rfl, rfl⟩ d54_3 (c_k_readField v1 v2 s _ e1) ?_
  refine go_istore (pc := 6) (L' := [.val (.ref 1), .val (.int v1), .val (.int v2), .val (.int v3), .val (.int r3)]) d54_6 rfl (go_aloadN (pc := 8) d54_8 rfl (go_iload (pc := 9) d54_9 rfl ?_))
  obtain ⟨r11, e2, hf⟩ := Option.bind_eq_some_iff.mp hf
  refine go_priv (pc := 11) (i := 0) (as := [.int r3]) (rest := []) (w' := (none, [(11, r11)])) lk_0_168 pd_52 rfl oid_0 rfl rfl rfl rfl rfl rfl ⟨rfl, rfl, rfl, rfl, rfl⟩ d54_11 (c_k_refDec r3 s _ e2) ?_
  refine go_aloadN (pc := 14) d54_14 rfl (go_iloadN (pc := 15) d54_15 rfl ?_)
  obtain ⟨r16, e3, hf⟩ := Option.bind_eq_some_iff.mp hf
  refine go_priv (pc := 16) (i := 0) (as := [.int v3]) (rest := []) (w' := (none, [(11, r16)])) lk_0_171 pd_35 rfl oid_0 rfl rfl rfl rfl rfl rfl ⟨rfl, rfl, rfl, rfl, rfl⟩ d54_16 (c_k_refInc v3 r11 _ e3) ?_
  refine go_aloadN (pc := 19) d54_19 rfl (go_iloadN (pc := 20) d54_20 rfl (go_iloadN (pc := 21) d54_21 rfl (go_iloadN (pc := 22) d54_22 rfl ?_)))
  obtain ⟨r23, e4, hf⟩ := Option.bind_eq_some_iff.mp hf
  refine go_priv (pc := 23) (i := 0) (as := [.int v1, .int v2, .int v3]) (rest := []) (w' := (none, [(11, r23)])) lk_0_174 pd_53 rfl oid_0 rfl rfl rfl rfl rfl rfl ⟨rfl, rfl, rfl, rfl, rfl⟩ d54_23 (c_k_writeFieldRaw v1 v2 v3 r16 _ e4) ?_
  cases hf
  exact go_ret (pc := 26) rfl d54_26
theorem c_k_assignField (v1 : Int32) (v2 : Int32) (v3 : Int32) (s : S) (o : S) (hf : k_assignField v1 v2 v3 s = some o) : Call PP m54 [.ref 1, .int v1, .int v2, .int v3] (none, [(11, s)]) (none, (none, [(11, o)])) := call_of_go pl_0 rfl (fun _ => rfl) (k_assignField_ok v1 v2 v3 s   _ hf)
set_option maxRecDepth 65536 in
set_option maxHeartbeats 4000000 in
theorem k_noteZeroCount_ok  : ∀ (v1 : Int32) (s : S)  (o : S), k_noteZeroCount v1 s = some o → Go PP m55 0 [.val (.ref 1), .val (.int v1)] [] (none, [(11, s)]) (none, (none, [(11, o)])) := by
  intro v1 s o hf
  unfold k_noteZeroCount at hf
  refine go_iloadN (pc := 0) d55_0 rfl (go_iconst (pc := 1) d55_1 ci_m1 ?_)
  by_cases h1 : v1 = (-1 : Int32)
  · replace hf := (if_pos h1).symm.trans hf
    refine go_icN (pc := 2) d55_2 (XT.ii_ne_f h1) ?_
    cases hf
    exact go_ret (pc := 5) rfl d55_5
  · replace hf := (if_neg h1).symm.trans hf
    refine go_icY (pc := 2) (pc' := 6) d55_2 (XT.ii_ne_t h1) j_2_4 ?_
    refine go_aloadN (pc := 6) d55_6 rfl (go_iloadN (pc := 7) d55_7 rfl ?_)
    refine go_priv (pc := 8) (i := 0) (as := [.int v1]) (rest := []) (w' := (none, [(11, s)])) lk_0_165 pd_11 rfl oid_0 rfl rfl rfl rfl rfl rfl ⟨rfl, rfl, rfl, rfl, rfl⟩ d55_8 (c_k_isObjectId v1 s) ?_
    by_cases h2 : (k_isObjectId v1 s) = 0
    · replace hf := (if_pos h2).symm.trans hf
      refine go_ifN (pc := 11) d55_11 (XT.i0_ne_f h2) ?_
      cases hf
      exact go_ret (pc := 14) rfl d55_14
    · replace hf := (if_neg h2).symm.trans hf
      refine go_ifY (pc := 11) (pc' := 15) d55_11 (XT.i0_ne_t h2) j_11_4 ?_
      refine go_aloadN (pc := 15) d55_15 rfl (go_getA (pc := 16) fa_17 hm_55 d55_16 rfl (go_iloadN (pc := 19) d55_19 rfl ?_))
      obtain ⟨a20, e3, hf⟩ := Option.bind_eq_some_iff.mp hf
      refine go_iaload (pc := 20) (q := 2) ar_2 rfl e3 d55_20 ?_
      by_cases h4 : a20 = 0
      · replace hf := (if_pos h4).symm.trans hf
        refine go_ifY (pc := 21) (pc' := 25) d55_21 (XT.i0_eq_t h4) j_21_4 ?_
        refine go_aloadN (pc := 25) d55_25 rfl (go_iloadN (pc := 26) d55_26 rfl ?_)
        obtain ⟨r27, e5, hf⟩ := Option.bind_eq_some_iff.mp hf
        refine go_priv (pc := 27) (i := 0) (as := [.int v1]) (rest := []) (w' := (none, [(11, s)])) lk_0_141 pd_14 rfl oid_0 rfl rfl rfl rfl rfl rfl ⟨rfl, rfl, rfl, rfl, rfl⟩ d55_27 (c_k_tableHas v1 s _ e5) ?_
        by_cases h6 : r27 = 0
        · replace hf := (if_pos h6).symm.trans hf
          refine go_ifY (pc := 30) (pc' := 34) d55_30 (XT.i0_eq_t h6) j_30_4 ?_
          refine go_aloadN (pc := 34) d55_34 rfl (go_iloadN (pc := 35) d55_35 rfl ?_)
          obtain ⟨r36, e7, hf⟩ := Option.bind_eq_some_iff.mp hf
          refine go_priv (pc := 36) (i := 0) (as := [.int v1]) (rest := []) (w' := (none, [(11, r36.2)])) lk_0_162 pd_38 rfl oid_0 rfl rfl rfl rfl rfl rfl ⟨rfl, rfl, rfl, rfl, rfl⟩ d55_36 (c_k_tableInsert v1 s _ e7) ?_
          refine go_pop (pc := 39) d55_39 ?_
          cases hf
          exact go_ret (pc := 40) rfl d55_40
        · replace hf := (if_neg h6).symm.trans hf
          refine go_ifN (pc := 30) d55_30 (XT.i0_eq_f h6) ?_
          cases hf
          exact go_ret (pc := 33) rfl d55_33
      · replace hf := (if_neg h4).symm.trans hf
        refine go_ifN (pc := 21) d55_21 (XT.i0_eq_f h4) ?_
        cases hf
        exact go_ret (pc := 24) rfl d55_24
theorem c_k_noteZeroCount (v1 : Int32) (s : S) (o : S) (hf : k_noteZeroCount v1 s = some o) : Call PP m55 [.ref 1, .int v1] (none, [(11, s)]) (none, (none, [(11, o)])) := call_of_go pl_0 rfl (fun _ => rfl) (k_noteZeroCount_ok v1 s   _ hf)
set_option maxRecDepth 65536 in
set_option maxHeartbeats 4000000 in
theorem k_store_57_ok  : ∀ (v2 : Int32) (v5 : Int32) (v6 : Int32) (v7 : Int32) (s : S) (x1 : Slot) (x3 : Slot) (x4 : Slot) (hx1 : k1 x1) (hx3 : k1 x3) (hx4 : k1 x4) (o : Int32 × S), k_store_57 v2 v5 v6 v7 s = some o → Go PP m56 57 [.val (.ref 1), x1, .val (.int v2), x3, x4, .val (.int v5), .val (.int v6), .val (.int v7)] [] (none, [(11, s)]) (some (.int o.1), (none, [(11, o.2)])) := by
  intro v2 v5 v6 v7 s x1 x3 x4 hx1 hx3 hx4 o hf
  unfold k_store_57 at hf
  refine go_aloadN (pc := 57) d56_57 rfl (go_iload (pc := 58) d56_58 rfl (go_iloadN (pc := 60) d56_60 rfl (go_iload (pc := 61) d56_61 rfl ?_)))
  obtain ⟨r63, e1, hf⟩ := Option.bind_eq_some_iff.mp hf
  refine go_priv (pc := 63) (i := 0) (as := [.int v5, .int v2, .int v6]) (rest := []) (w' := (none, [(11, r63)])) lk_0_115 pd_54 rfl oid_0 rfl rfl rfl rfl rfl rfl ⟨rfl, rfl, rfl, rfl, rfl⟩ d56_63 (c_k_assignField v5 v2 v6 s _ e1) ?_
  refine go_aloadN (pc := 66) d56_66 rfl (go_iload (pc := 67) d56_67 rfl ?_)
  obtain ⟨r69, e2, hf⟩ := Option.bind_eq_some_iff.mp hf
  refine go_priv (pc := 69) (i := 0) (as := [.int v7]) (rest := []) (w' := (none, [(11, r69)])) lk_0_119 pd_55 rfl oid_0 rfl rfl rfl rfl rfl rfl ⟨rfl, rfl, rfl, rfl, rfl⟩ d56_69 (c_k_noteZeroCount v7 r63 _ e2) ?_
  refine go_iconst (pc := 72) d56_72 ci_0 ?_
  cases hf
  exact go_iret (pc := 73) rfl d56_73
set_option maxRecDepth 65536 in
set_option maxHeartbeats 4000000 in
theorem k_store_ok  : ∀ (v1 : Int32) (v2 : Int32) (v3 : Int32) (s : S)  (o : Int32 × S), k_store v1 v2 v3 s = some o → Go PP m56 0 [.val (.ref 1), .val (.int v1), .val (.int v2), .val (.int v3), .unset, .unset, .unset, .unset] [] (none, [(11, s)]) (some (.int o.1), (none, [(11, o.2)])) := by
  intro v1 v2 v3 s o hf
  unfold k_store at hf
  refine go_aloadN (pc := 0) d56_0 rfl (go_iloadN (pc := 1) d56_1 rfl (go_iloadN (pc := 2) d56_2 rfl (go_iloadN (pc := 3) d56_3 rfl ?_)))
  obtain ⟨r4, e1, hf⟩ := Option.bind_eq_some_iff.mp hf
  refine go_priv (pc := 4) (i := 0) (as := [.int v1, .int v2, .int v3]) (rest := []) (w' := (none, [(11, s)])) lk_0_104 pd_49 rfl oid_0 rfl rfl rfl rfl rfl rfl ⟨rfl, rfl, rfl, rfl, rfl⟩ d56_4 (c_k_storeCheck v1 v2 v3 s _ e1) ?_
  refine go_istore (pc := 7) (L' := [.val (.ref 1), .val (.int v1), .val (.int v2), .val (.int v3), .val (.int r4), .unset, .unset, .unset]) d56_7 rfl (go_iload (pc := 9) d56_9 rfl ?_)
  by_cases h2 : r4 = 0
  · replace hf := (if_pos h2).symm.trans hf
    refine go_ifY (pc := 11) (pc' := 17) d56_11 (XT.i0_eq_t h2) j_11_6 ?_
    refine go_aloadN (pc := 17) d56_17 rfl (go_getA (pc := 18) fa_20 hm_56 d56_18 rfl (go_iloadN (pc := 21) d56_21 rfl ?_))
    obtain ⟨a22, e3, hf⟩ := Option.bind_eq_some_iff.mp hf
    refine go_iaload (pc := 22) (q := 3) ar_3 rfl e3 d56_22 ?_
    refine go_istore (pc := 23) (L' := [.val (.ref 1), .val (.int v1), .val (.int v2), .val (.int v3), .val (.int r4), .val (.int a22), .unset, .unset]) d56_23 rfl (go_aloadN (pc := 25) d56_25 rfl (go_iloadN (pc := 26) d56_26 rfl ?_))
    obtain ⟨r27, e4, hf⟩ := Option.bind_eq_some_iff.mp hf
    refine go_priv (pc := 27) (i := 0) (as := [.int v3]) (rest := []) (w' := (none, [(11, s)])) lk_0_107 pd_50 rfl oid_0 rfl rfl rfl rfl rfl rfl ⟨rfl, rfl, rfl, rfl, rfl⟩ d56_27 (c_k_valueOfSlot v3 s _ e4) ?_
    refine go_istore (pc := 30) (L' := [.val (.ref 1), .val (.int v1), .val (.int v2), .val (.int v3), .val (.int r4), .val (.int a22), .val (.int r27), .unset]) d56_30 rfl (go_aloadN (pc := 32) d56_32 rfl (go_iload (pc := 33) d56_33 rfl (go_iloadN (pc := 35) d56_35 rfl ?_)))
    obtain ⟨r36, e5, hf⟩ := Option.bind_eq_some_iff.mp hf
    refine go_priv (pc := 36) (i := 0) (as := [.int a22, .int v2]) (rest := []) (w' := (none, [(11, s)])) lk_0_98 pd_17 rfl oid_0 rfl rfl rfl rfl rfl rfl ⟨rfl, rfl, rfl, rfl, rfl⟩ d56_36 (c_k_readField a22 v2 s _ e5) ?_
    refine go_istore (pc := 39) (L' := [.val (.ref 1), .val (.int v1), .val (.int v2), .val (.int v3), .val (.int r4), .val (.int a22), .val (.int r27), .val (.int r36)]) d56_39 rfl (go_aloadN (pc := 41) d56_41 rfl (go_iload (pc := 42) d56_42 rfl (go_iload (pc := 44) d56_44 rfl ?_)))
    obtain ⟨r46, e6, hf⟩ := Option.bind_eq_some_iff.mp hf
    refine go_priv (pc := 46) (i := 0) (as := [.int r36, .int r27]) (rest := []) (w' := (none, [(11, s)])) lk_0_111 pd_51 rfl oid_0 rfl rfl rfl rfl rfl rfl ⟨rfl, rfl, rfl, rfl, rfl⟩ d56_46 (c_k_storeNeedsReconcile r36 r27 s _ e6) ?_
    by_cases h7 : r46 = 0
    · replace hf := (if_pos h7).symm.trans hf
      refine go_ifY (pc := 49) (pc' := 57) d56_49 (XT.i0_eq_t h7) j_49_8 ?_
      exact k_store_57_ok v2 a22 r27 r36 s (.val (.int v1)) (.val (.int v3)) (.val (.int r4)) (Or.inr ⟨_, rfl, rfl⟩) (Or.inr ⟨_, rfl, rfl⟩) (Or.inr ⟨_, rfl, rfl⟩) _ hf
    · replace hf := (if_neg h7).symm.trans hf
      refine go_ifN (pc := 49) d56_49 (XT.i0_eq_f h7) ?_
      refine go_aloadN (pc := 52) d56_52 rfl ?_
      obtain ⟨r53, e8, hf⟩ := Option.bind_eq_some_iff.mp hf
      refine go_priv (pc := 53) (i := 0) (as := []) (rest := []) (w' := (none, [(11, r53.2)])) lk_0_83 pd_40 rfl oid_0 rfl rfl rfl rfl rfl rfl ⟨rfl, rfl, rfl, rfl, rfl⟩ d56_53 (c_k_runReconciliation s _ e8) ?_
      refine go_pop (pc := 56) d56_56 ?_
      exact k_store_57_ok v2 a22 r27 r36 r53.2 (.val (.int v1)) (.val (.int v3)) (.val (.int r4)) (Or.inr ⟨_, rfl, rfl⟩) (Or.inr ⟨_, rfl, rfl⟩) (Or.inr ⟨_, rfl, rfl⟩) _ hf
  · replace hf := (if_neg h2).symm.trans hf
    refine go_ifN (pc := 11) d56_11 (XT.i0_eq_f h2) ?_
    refine go_iload (pc := 14) d56_14 rfl ?_
    cases hf
    exact go_iret (pc := 16) rfl d56_16
theorem c_k_store (v1 : Int32) (v2 : Int32) (v3 : Int32) (s : S) (o : Int32 × S) (hf : k_store v1 v2 v3 s = some o) : Call PP m56 [.ref 1, .int v1, .int v2, .int v3] (none, [(11, s)]) (some (.int o.1), (none, [(11, o.2)])) := call_of_go pl_0 rfl (fun h => nomatch h) (k_store_ok v1 v2 v3 s   _ hf)
set_option maxRecDepth 65536 in
set_option maxHeartbeats 4000000 in
theorem k_pushCheck_ok  : ∀ (v1 : Int32) (s : S)  (o : Int32), k_pushCheck v1 s = o → Go PP m57 0 [.val (.ref 1), .val (.int v1)] [] (none, [(11, s)]) (some (.int o), (none, [(11, s)])) := by
  intro v1 s o hf
  unfold k_pushCheck at hf
  refine go_aloadN (pc := 0) d57_0 rfl ?_
  refine go_priv (pc := 1) (i := 0) (as := []) (rest := []) (w' := (none, [(11, s)])) lk_0_76 pd_21 rfl oid_0 rfl rfl rfl rfl rfl rfl ⟨rfl, rfl, rfl, rfl, rfl⟩ d57_1 (c_k_rootsFull s) ?_
  by_cases h1 : (k_rootsFull s) = 0
  · replace hf := (if_pos h1).symm.trans hf
    refine go_ifY (pc := 4) (pc' := 10) d57_4 (XT.i0_eq_t h1) j_4_6 ?_
    refine go_aloadN (pc := 10) d57_10 rfl (go_iloadN (pc := 11) d57_11 rfl ?_)
    refine go_priv (pc := 12) (i := 0) (as := [.int v1]) (rest := []) (w' := (none, [(11, s)])) lk_0_150 pd_48 rfl oid_0 rfl rfl rfl rfl rfl rfl ⟨rfl, rfl, rfl, rfl, rfl⟩ d57_12 (c_k_isValueSlot v1 s) ?_
    by_cases h2 : (k_isValueSlot v1 s) = 0
    · replace hf := (if_pos h2).symm.trans hf
      refine go_ifN (pc := 15) d57_15 (XT.i0_ne_f h2) ?_
      refine go_bipush (pc := 18) d57_18 cb_m5 ?_
      cases hf
      exact go_iret (pc := 20) rfl d57_20
    · replace hf := (if_neg h2).symm.trans hf
      refine go_ifY (pc := 15) (pc' := 21) d57_15 (XT.i0_ne_t h2) j_15_6 ?_
      refine go_iconst (pc := 21) d57_21 ci_0 ?_
      cases hf
      exact go_iret (pc := 22) rfl d57_22
  · replace hf := (if_neg h1).symm.trans hf
    refine go_ifN (pc := 4) d57_4 (XT.i0_eq_f h1) ?_
    refine go_bipush (pc := 7) d57_7 cb_m2 ?_
    cases hf
    exact go_iret (pc := 9) rfl d57_9
theorem c_k_pushCheck (v1 : Int32) (s : S) : Call PP m57 [.ref 1, .int v1] (none, [(11, s)]) (some (.int (k_pushCheck v1 s)), (none, [(11, s)])) := call_of_go pl_0 rfl (fun h => nomatch h) (k_pushCheck_ok v1 s   _ rfl)
set_option maxRecDepth 65536 in
set_option maxHeartbeats 4000000 in
theorem k_push_ok  : ∀ (v1 : Int32) (s : S)  (o : Int32 × S), k_push v1 s = some o → Go PP m58 0 [.val (.ref 1), .val (.int v1), .unset, .unset] [] (none, [(11, s)]) (some (.int o.1), (none, [(11, o.2)])) := by
  intro v1 s o hf
  unfold k_push at hf
  refine go_aloadN (pc := 0) d58_0 rfl (go_iloadN (pc := 1) d58_1 rfl ?_)
  refine go_priv (pc := 2) (i := 0) (as := [.int v1]) (rest := []) (w' := (none, [(11, s)])) lk_0_122 pd_57 rfl oid_0 rfl rfl rfl rfl rfl rfl ⟨rfl, rfl, rfl, rfl, rfl⟩ d58_2 (c_k_pushCheck v1 s) ?_
  refine go_istoreN (pc := 5) (L' := [.val (.ref 1), .val (.int v1), .val (.int (k_pushCheck v1 s)), .unset]) d58_5 rfl (go_iloadN (pc := 6) d58_6 rfl ?_)
  by_cases h1 : (k_pushCheck v1 s) = 0
  · replace hf := (if_pos h1).symm.trans hf
    refine go_ifY (pc := 7) (pc' := 12) d58_7 (XT.i0_eq_t h1) j_7_5 ?_
    refine go_aloadN (pc := 12) d58_12 rfl (go_iloadN (pc := 13) d58_13 rfl ?_)
    obtain ⟨r14, e2, hf⟩ := Option.bind_eq_some_iff.mp hf
    refine go_priv (pc := 14) (i := 0) (as := [.int v1]) (rest := []) (w' := (none, [(11, s)])) lk_0_107 pd_50 rfl oid_0 rfl rfl rfl rfl rfl rfl ⟨rfl, rfl, rfl, rfl, rfl⟩ d58_14 (c_k_valueOfSlot v1 s _ e2) ?_
    refine go_istoreN (pc := 17) (L' := [.val (.ref 1), .val (.int v1), .val (.int (k_pushCheck v1 s)), .val (.int r14)]) d58_17 rfl (go_aloadN (pc := 18) d58_18 rfl (go_iloadN (pc := 19) d58_19 rfl ?_))
    obtain ⟨r20, e3, hf⟩ := Option.bind_eq_some_iff.mp hf
    refine go_priv (pc := 20) (i := 0) (as := [.int r14]) (rest := []) (w' := (none, [(11, r20)])) lk_0_101 pd_43 rfl oid_0 rfl rfl rfl rfl rfl rfl ⟨rfl, rfl, rfl, rfl, rfl⟩ d58_20 (c_k_rootPush r14 s _ e3) ?_
    refine go_iconst (pc := 23) d58_23 ci_0 ?_
    cases hf
    exact go_iret (pc := 24) rfl d58_24
  · replace hf := (if_neg h1).symm.trans hf
    refine go_ifN (pc := 7) d58_7 (XT.i0_eq_f h1) ?_
    refine go_iloadN (pc := 10) d58_10 rfl ?_
    cases hf
    exact go_iret (pc := 11) rfl d58_11
theorem c_k_push (v1 : Int32) (s : S) (o : Int32 × S) (hf : k_push v1 s = some o) : Call PP m58 [.ref 1, .int v1] (none, [(11, s)]) (some (.int o.1), (none, [(11, o.2)])) := call_of_go pl_0 rfl (fun h => nomatch h) (k_push_ok v1 s   _ hf)
set_option maxRecDepth 65536 in
set_option maxHeartbeats 4000000 in
theorem k_reconcile_ok  : ∀  (s : S)  (o : Int32 × S), k_reconcile s = some o → Go PP m59 0 [.val (.ref 1)] [] (none, [(11, s)]) (some (.int o.1), (none, [(11, o.2)])) := by
  intro s o hf
  unfold k_reconcile at hf
  refine go_aloadN (pc := 0) d59_0 rfl ?_
  obtain ⟨r1, e1, hf⟩ := Option.bind_eq_some_iff.mp hf
  refine go_priv (pc := 1) (i := 0) (as := []) (rest := []) (w' := (none, [(11, r1.2)])) lk_0_83 pd_40 rfl oid_0 rfl rfl rfl rfl rfl rfl ⟨rfl, rfl, rfl, rfl, rfl⟩ d59_1 (c_k_runReconciliation s _ e1) ?_
  cases hf
  exact go_iret (pc := 4) rfl d59_4
theorem c_k_reconcile (s : S) (o : Int32 × S) (hf : k_reconcile s = some o) : Call PP m59 [.ref 1] (none, [(11, s)]) (some (.int o.1), (none, [(11, o.2)])) := call_of_go pl_0 rfl (fun h => nomatch h) (k_reconcile_ok s   _ hf)
set_option maxRecDepth 65536 in
set_option maxHeartbeats 4000000 in
theorem k_rootPopTop_ok  : ∀  (s : S)  (o : S), k_rootPopTop s = some o → Go PP m60 0 [.val (.ref 1)] [] (none, [(11, s)]) (none, (none, [(11, o)])) := by
  intro s o hf
  unfold k_rootPopTop at hf
  refine go_aloadN (pc := 0) d60_0 rfl (go_getI (pc := 1) fs_125 hm_60 d60_1 ?_)
  by_cases h1 : 0 < (gI s 5)
  · replace hf := (if_pos h1).symm.trans hf
    refine go_ifY (pc := 4) (pc' := 8) d60_4 (XT.i0_gt_t h1) j_4_4 ?_
    refine go_aloadN (pc := 8) d60_8 rfl (go_aloadN (pc := 9) d60_9 rfl (go_getI (pc := 10) fs_125 hm_60 d60_10 (go_iconst (pc := 13) d60_13 ci_1 (go_isub (pc := 14) d60_14 (go_putI (pc := 15) fs_125 hm_60 (wr_5 _) hn_60 d60_15 (go_aloadN (pc := 18) d60_18 rfl (go_getA (pc := 19) fa_20 hm_60 d60_19 rfl ?_)))))))
    refine go_aloadN (pc := 22) d60_22 rfl (go_getI (pc := 23) fs_125 hm_60 d60_23 (go_iconst (pc := 26) d60_26 ci_m1 ?_))
    obtain ⟨a27, e2, hf⟩ := Option.bind_eq_some_iff.mp hf
    refine go_iastore (pc := 27) (q := 3) ar_3 rfl hn_60 e2 d60_27 ?_
    cases hf
    exact go_ret (pc := 28) rfl d60_28
  · replace hf := (if_neg h1).symm.trans hf
    refine go_ifN (pc := 4) d60_4 (XT.i0_gt_f h1) ?_
    cases hf
    exact go_ret (pc := 7) rfl d60_7
theorem c_k_rootPopTop (s : S) (o : S) (hf : k_rootPopTop s = some o) : Call PP m60 [.ref 1] (none, [(11, s)]) (none, (none, [(11, o)])) := call_of_go pl_0 rfl (fun _ => rfl) (k_rootPopTop_ok s   _ hf)
set_option maxRecDepth 65536 in
set_option maxHeartbeats 4000000 in
theorem k_pop_ok  : ∀  (s : S)  (o : Int32 × S), k_pop s = some o → Go PP m61 0 [.val (.ref 1)] [] (none, [(11, s)]) (some (.int o.1), (none, [(11, o.2)])) := by
  intro s o hf
  unfold k_pop at hf
  refine go_aloadN (pc := 0) d61_0 rfl (go_getI (pc := 1) fs_125 hm_61 d61_1 ?_)
  by_cases h1 : 0 < (gI s 5)
  · replace hf := (if_pos h1).symm.trans hf
    refine go_ifY (pc := 4) (pc' := 10) d61_4 (XT.i0_gt_t h1) j_4_6 ?_
    refine go_aloadN (pc := 10) d61_10 rfl ?_
    obtain ⟨r11, e2, hf⟩ := Option.bind_eq_some_iff.mp hf
    refine go_priv (pc := 11) (i := 0) (as := []) (rest := []) (w' := (none, [(11, r11)])) lk_0_128 pd_60 rfl oid_0 rfl rfl rfl rfl rfl rfl ⟨rfl, rfl, rfl, rfl, rfl⟩ d61_11 (c_k_rootPopTop s _ e2) ?_
    refine go_iconst (pc := 14) d61_14 ci_0 ?_
    cases hf
    exact go_iret (pc := 15) rfl d61_15
  · replace hf := (if_neg h1).symm.trans hf
    refine go_ifN (pc := 4) d61_4 (XT.i0_gt_f h1) ?_
    refine go_bipush (pc := 7) d61_7 cb_m3 ?_
    cases hf
    exact go_iret (pc := 9) rfl d61_9
theorem c_k_pop (s : S) (o : Int32 × S) (hf : k_pop s = some o) : Call PP m61 [.ref 1] (none, [(11, s)]) (some (.int o.1), (none, [(11, o.2)])) := call_of_go pl_0 rfl (fun h => nomatch h) (k_pop_ok s   _ hf)
set_option maxRecDepth 65536 in
set_option maxHeartbeats 4000000 in
theorem h_cell_ok_n0  : ∀ (v1 : Int32) (q : List Int32)  (o : Int32), h_cell v1 q = some o → Go PP m0 0 [.val (.ref 0), .val (.int v1)] [] (some q, []) (some (.int o), (some q, [])) := by
  intro v1 q o hf
  unfold h_cell at hf
  refine go_iloadN (pc := 0) d0_0 rfl (go_aloadN (pc := 1) d0_1 rfl (go_slen (pc := 2) d0_2 ?_))
  by_cases h1 : v1 < q.length.toInt32
  · replace hf := (if_pos h1).symm.trans hf
    refine go_icN (pc := 3) d0_3 (XT.ii_ge_f h1) ?_
    refine go_aloadN (pc := 6) d0_6 rfl (go_iloadN (pc := 7) d0_7 rfl ?_)
    obtain ⟨a8, e2, hf⟩ := Option.bind_eq_some_iff.mp hf
    refine go_sload (pc := 8) e2 d0_8 ?_
    refine go_goto (pc := 9) (pc' := 13) d0_9 j_9_4 ?_
    cases hf
    exact go_iret (pc := 13) rfl d0_13
  · replace hf := (if_neg h1).symm.trans hf
    refine go_icY (pc := 3) (pc' := 12) d0_3 (XT.ii_ge_t h1) j_3_9 ?_
    refine go_iconst (pc := 12) d0_12 ci_0 ?_
    cases hf
    exact go_iret (pc := 13) rfl d0_13
theorem c_h_cell_n0 (v1 : Int32) (q : List Int32) (o : Int32) (hf : h_cell v1 q = some o) : Call PP m0 [.ref 0, .int v1] (some q, []) (some (.int o), (some q, [])) := call_of_go pl_1 rfl (fun h => nomatch h) (h_cell_ok_n0 v1 q   _ hf)
set_option maxRecDepth 65536 in
set_option maxHeartbeats 4000000 in
theorem h_cell_ok_n1  {y0 : S} : ∀ (v1 : Int32) (q : List Int32)  (o : Int32), h_cell v1 q = some o → Go PP m0 0 [.val (.ref 0), .val (.int v1)] [] (some q, [(11, y0)]) (some (.int o), (some q, [(11, y0)])) := by
  intro v1 q o hf
  unfold h_cell at hf
  refine go_iloadN (pc := 0) d0_0 rfl (go_aloadN (pc := 1) d0_1 rfl (go_slen (pc := 2) d0_2 ?_))
  by_cases h1 : v1 < q.length.toInt32
  · replace hf := (if_pos h1).symm.trans hf
    refine go_icN (pc := 3) d0_3 (XT.ii_ge_f h1) ?_
    refine go_aloadN (pc := 6) d0_6 rfl (go_iloadN (pc := 7) d0_7 rfl ?_)
    obtain ⟨a8, e2, hf⟩ := Option.bind_eq_some_iff.mp hf
    refine go_sload (pc := 8) e2 d0_8 ?_
    refine go_goto (pc := 9) (pc' := 13) d0_9 j_9_4 ?_
    cases hf
    exact go_iret (pc := 13) rfl d0_13
  · replace hf := (if_neg h1).symm.trans hf
    refine go_icY (pc := 3) (pc' := 12) d0_3 (XT.ii_ge_t h1) j_3_9 ?_
    refine go_iconst (pc := 12) d0_12 ci_0 ?_
    cases hf
    exact go_iret (pc := 13) rfl d0_13
theorem c_h_cell_n1 (v1 : Int32) (q : List Int32) (y0 : S) (o : Int32) (hf : h_cell v1 q = some o) : Call PP m0 [.ref 0, .int v1] (some q, [(11, y0)]) (some (.int o), (some q, [(11, y0)])) := call_of_go pl_1 rfl (fun h => nomatch h) (h_cell_ok_n1 v1 q   _ hf)
def T_law_66 (k66 : Int32 → Int32 → Int32 → Int32 → Int32 → Int32 → List Int32 → S → Option (Int32 × S)) : Prop := ∀ (v1 : Int32) (v2 : Int32) (v3 : Int32) (v4 : Int32) (v6 : Int32) (v7 : Int32) (q : List Int32) (t0 : S) (x8 : Slot) (x9 : Slot) (x10 : Slot) (x11 : Slot) (x12 : Slot) (x13 : Slot) (x14 : Slot) (x15 : Slot) (x16 : Slot) (D17 : List Slot) (hx8 : k1 x8) (hx9 : k2 x9 x10) (hx11 : k1 x11) (hx12 : k1 x12) (hx13 : k1 x13) (hx14 : k1 x14) (hx15 : k1 x15) (hx16 : k1 x16) (hD17 : WT D17) (lD17 : D17.length = 5) (o : Int32 × S), k66 v1 v2 v3 v4 v6 v7 q t0 = some o → Go PP m62 66 ([.val (.ref 0), .val (.int v1), .val (.int v2), .val (.int v3), .val (.int v4), .val (.ref 1), .val (.int v6), .val (.int v7), x8, x9, x10, x11, x12, x13, x14, x15, x16] ++ D17) [] (some q, [(11, t0)]) (some (.int o.1), (some q, [(11, o.2)]))
set_option maxRecDepth 65536 in
set_option maxHeartbeats 4000000 in
theorem law_786_ok {k66 : Int32 → Int32 → Int32 → Int32 → Int32 → Int32 → List Int32 → S → Option (Int32 × S)} (hk66 : T_law_66 k66) : ∀ (v1 : Int32) (v2 : Int32) (v3 : Int32) (v4 : Int32) (v6 : Int32) (v7 : Int32) (v14 : Int32) (v15 : Int32) (v16 : Int32) (q : List Int32) (t0 : S) (x8 : Slot) (x9 : Slot) (x10 : Slot) (x11 : Slot) (x12 : Slot) (x13 : Slot) (D17 : List Slot) (hx8 : k1 x8) (hx9 : k2 x9 x10) (hx11 : k1 x11) (hx12 : k1 x12) (hx13 : k1 x13) (hD17 : WT D17) (lD17 : D17.length = 5) (o : Int32 × S), law_786 k66 v1 v2 v3 v4 v6 v7 v14 v15 v16 q t0 = some o → Go PP m62 786 ([.val (.ref 0), .val (.int v1), .val (.int v2), .val (.int v3), .val (.int v4), .val (.ref 1), .val (.int v6), .val (.int v7), x8, x9, x10, x11, x12, x13, .val (.int v14), .val (.int v15), .val (.int v16)] ++ D17) [] (some q, [(11, t0)]) (some (.int o.1), (some q, [(11, o.2)])) := by
  intro v1 v2 v3 v4 v6 v7 v14 v15 v16 q t0 x8 x9 x10 x11 x12 x13 D17 hx8 hx9 hx11 hx12 hx13 hD17 lD17 o hf
  unfold law_786 at hf
  refine go_aload (pc := 786) d62_786 rfl (go_iload (pc := 788) d62_788 rfl (go_iload (pc := 790) d62_790 rfl (go_iload (pc := 792) d62_792 rfl ?_)))
  obtain ⟨r794, e1, hf⟩ := Option.bind_eq_some_iff.mp hf
  refine go_virt (pc := 794) (i := 0) (as := [.int v14, .int v15, .int v16]) (rest := []) (w' := (some q, [(11, r794.2)])) lk_1_49 pd_56 rfl oid_0 rfl rfl rfl rfl rfl rfl ⟨rfl, rfl, rfl, rfl, rfl⟩ d62_794 (c_k_store v14 v15 v16 t0 _ e1) ?_
  refine go_pop (pc := 797) d62_797 (go_goto (pc := 798) (pc' := 843) d62_798 j_798_45 (go_iinc (pc := 843) (L' := ([.val (.ref 0), .val (.int v1), .val (.int v2), .val (.int v3), .val (.int v4), .val (.ref 1), .val (.int v6), .val (.int (v7 + (3 : Int32))), x8, x9, x10, x11, x12, x13, .val (.int v14), .val (.int v15), .val (.int v16)] ++ D17)) d62_843 rfl ci_3 (stx rfl (Or.inr ⟨_, rfl, rfl⟩) rfl) (go_goto (pc := 846) (pc' := 66) d62_846 j_846_m780 ?_)))
  exact hk66 v1 v2 v3 v4 v6 (v7 + (3 : Int32)) q r794.2 x8 x9 x10 x11 x12 x13 (.val (.int v14)) (.val (.int v15)) (.val (.int v16)) D17 hx8 hx9 hx11 hx12 hx13 (Or.inr ⟨_, rfl, rfl⟩) (Or.inr ⟨_, rfl, rfl⟩) (Or.inr ⟨_, rfl, rfl⟩) hD17 lD17 _ hf
set_option maxRecDepth 65536 in
set_option maxHeartbeats 4000000 in
theorem law_659_ok {k66 : Int32 → Int32 → Int32 → Int32 → Int32 → Int32 → List Int32 → S → Option (Int32 × S)} (hk66 : T_law_66 k66) : ∀ (v1 : Int32) (v2 : Int32) (v3 : Int32) (v4 : Int32) (v7 : Int32) (v8 : Int32) (q : List Int32) (t0 : S) (x6 : Slot) (x9 : Slot) (x10 : Slot) (D11 : List Slot) (hx6 : k1 x6) (hx9 : k2 x9 x10) (hD11 : WT D11) (lD11 : D11.length = 11) (o : Int32 × S), law_659 k66 v1 v2 v3 v4 v7 v8 q t0 = some o → Go PP m62 659 ([.val (.ref 0), .val (.int v1), .val (.int v2), .val (.int v3), .val (.int v4), .val (.ref 1), x6, .val (.int v7), .val (.int v8), x9, x10] ++ D11) [] (some q, [(11, t0)]) (some (.int o.1), (some q, [(11, o.2)])) := by
  intro v1 v2 v3 v4 v7 v8 q t0 x6 x9 x10 D11 hx6 hx9 hD11 lD11 o hf
  unfold law_659 at hf
  refine go_iload (pc := 659) d62_659 rfl (go_aloadN (pc := 661) d62_661 rfl (go_slen (pc := 662) d62_662 ?_))
  by_cases h1 : v7 < q.length.toInt32
  · replace hf := (if_pos h1).symm.trans hf
    refine go_icY (pc := 663) (pc' := 668) d62_663 (XT.ii_lt_t h1) j_663_5 ?_
    refine go_iconst (pc := 668) d62_668 ci_0 (go_istore (pc := 669) (L' := ([.val (.ref 0), .val (.int v1), .val (.int v2), .val (.int v3), .val (.int v4), .val (.ref 1), .val (.int (0 : Int32)), .val (.int v7), .val (.int v8), x9, x10] ++ D11)) d62_669 (stx rfl hx6 rfl) (go_aloadN (pc := 671) d62_671 rfl (go_iload (pc := 672) d62_672 rfl ?_)))
    obtain ⟨a674, e2, hf⟩ := Option.bind_eq_some_iff.mp hf
    refine go_sload (pc := 674) e2 d62_674 ?_
    refine go_bipush (pc := 675) d62_675 cb_7 (go_iand (pc := 677) d62_677 (go_istoreT (pc := 678) (L0 := [.val (.ref 0), .val (.int v1), .val (.int v2), .val (.int v3), .val (.int v4), .val (.ref 1), .val (.int (0 : Int32)), .val (.int v7), .val (.int v8), x9, x10]) (L1 := [.val (.ref 0), .val (.int v1), .val (.int v2), .val (.int v3), .val (.int v4), .val (.ref 1), .val (.int (0 : Int32)), .val (.int v7), .val (.int v8), x9, x10, .val (.int (a674 &&& (7 : Int32)))]) d62_678 rfl rfl hD11 lD11 fun E678 hE678 lE678 => (go_aloadN (pc := 680) d62_680 rfl (go_iload (pc := 681) d62_681 rfl (go_iconst (pc := 683) d62_683 ci_1 (go_iadd (pc := 684) d62_684 ?_))))))
    obtain ⟨r685, e3, hf⟩ := Option.bind_eq_some_iff.mp hf
    refine go_stat (pc := 685) (as := [.ref 0, .int (v7 + (1 : Int32))]) (rest := []) (w' := (some q, [(11, t0)])) lk_1_7 pd_0 rfl rfl ⟨Nat.le_of_ble_eq_true rfl, Nat.le_of_ble_eq_true rfl⟩ ⟨rfl, rfl, rfl⟩ ⟨rfl, rfl, rfl, rfl, rfl⟩ d62_685 (c_h_cell_n1 (v7 + (1 : Int32)) q t0 _ e3) ?_
    refine go_istoreT (pc := 688) (L0 := [.val (.ref 0), .val (.int v1), .val (.int v2), .val (.int v3), .val (.int v4), .val (.ref 1), .val (.int (0 : Int32)), .val (.int v7), .val (.int v8), x9, x10, .val (.int (a674 &&& (7 : Int32)))]) (L1 := [.val (.ref 0), .val (.int v1), .val (.int v2), .val (.int v3), .val (.int v4), .val (.ref 1), .val (.int (0 : Int32)), .val (.int v7), .val (.int v8), x9, x10, .val (.int (a674 &&& (7 : Int32))), .val (.int r685)]) d62_688 rfl rfl hE678 lE678 fun E688 hE688 lE688 => (go_aloadN (pc := 690) d62_690 rfl (go_iload (pc := 691) d62_691 rfl (go_iconst (pc := 693) d62_693 ci_2 (go_iadd (pc := 694) d62_694 ?_))))
    obtain ⟨r695, e4, hf⟩ := Option.bind_eq_some_iff.mp hf
    refine go_stat (pc := 695) (as := [.ref 0, .int (v7 + (2 : Int32))]) (rest := []) (w' := (some q, [(11, t0)])) lk_1_7 pd_0 rfl rfl ⟨Nat.le_of_ble_eq_true rfl, Nat.le_of_ble_eq_true rfl⟩ ⟨rfl, rfl, rfl⟩ ⟨rfl, rfl, rfl, rfl, rfl⟩ d62_695 (c_h_cell_n1 (v7 + (2 : Int32)) q t0 _ e4) ?_
    refine go_istoreT (pc := 698) (L0 := [.val (.ref 0), .val (.int v1), .val (.int v2), .val (.int v3), .val (.int v4), .val (.ref 1), .val (.int (0 : Int32)), .val (.int v7), .val (.int v8), x9, x10, .val (.int (a674 &&& (7 : Int32))), .val (.int r685)]) (L1 := [.val (.ref 0), .val (.int v1), .val (.int v2), .val (.int v3), .val (.int v4), .val (.ref 1), .val (.int (0 : Int32)), .val (.int v7), .val (.int v8), x9, x10, .val (.int (a674 &&& (7 : Int32))), .val (.int r685), .val (.int r695)]) d62_698 rfl rfl hE688 lE688 fun E698 hE698 lE698 => (go_iload (pc := 700) d62_700 rfl (go_bipush (pc := 702) d62_702 cb_31 (go_iand (pc := 704) d62_704 (go_iload (pc := 705) d62_705 rfl (go_iconst (pc := 707) d62_707 ci_2 (go_iadd (pc := 708) d62_708 ?_))))))
    by_cases e5 : (v8 + (2 : Int32)) = 0
    · exact nomatch ((if_pos e5).symm.trans hf)
    replace hf := (if_neg e5).symm.trans hf
    refine go_irem (pc := 709) d62_709 e5 ?_
    refine go_iconst (pc := 710) d62_710 ci_1 (go_isub (pc := 711) d62_711 (go_istoreT (pc := 712) (L0 := [.val (.ref 0), .val (.int v1), .val (.int v2), .val (.int v3), .val (.int v4), .val (.ref 1), .val (.int (0 : Int32)), .val (.int v7), .val (.int v8), x9, x10, .val (.int (a674 &&& (7 : Int32))), .val (.int r685), .val (.int r695)]) (L1 := [.val (.ref 0), .val (.int v1), .val (.int v2), .val (.int v3), .val (.int v4), .val (.ref 1), .val (.int (0 : Int32)), .val (.int v7), .val (.int v8), x9, x10, .val (.int (a674 &&& (7 : Int32))), .val (.int r685), .val (.int r695), .val (.int (((r685 &&& (31 : Int32)) % (v8 + (2 : Int32))) - (1 : Int32)))]) d62_712 rfl rfl hE698 lE698 fun E712 hE712 lE712 => (go_iload (pc := 714) d62_714 rfl (go_bipush (pc := 716) d62_716 cb_7 (go_iand (pc := 718) d62_718 (go_iloadN (pc := 719) d62_719 rfl (go_iconst (pc := 720) d62_720 ci_1 ?_)))))))
    refine go_iadd (pc := 721) d62_721 ?_
    by_cases e6 : (v2 + (1 : Int32)) = 0
    · exact nomatch ((if_pos e6).symm.trans hf)
    replace hf := (if_neg e6).symm.trans hf
    refine go_irem (pc := 722) d62_722 e6 ?_
    refine go_istoreT (pc := 723) (L0 := [.val (.ref 0), .val (.int v1), .val (.int v2), .val (.int v3), .val (.int v4), .val (.ref 1), .val (.int (0 : Int32)), .val (.int v7), .val (.int v8), x9, x10, .val (.int (a674 &&& (7 : Int32))), .val (.int r685), .val (.int r695), .val (.int (((r685 &&& (31 : Int32)) % (v8 + (2 : Int32))) - (1 : Int32)))]) (L1 := [.val (.ref 0), .val (.int v1), .val (.int v2), .val (.int v3), .val (.int v4), .val (.ref 1), .val (.int (0 : Int32)), .val (.int v7), .val (.int v8), x9, x10, .val (.int (a674 &&& (7 : Int32))), .val (.int r685), .val (.int r695), .val (.int (((r685 &&& (31 : Int32)) % (v8 + (2 : Int32))) - (1 : Int32))), .val (.int ((r695 &&& (7 : Int32)) % (v2 + (1 : Int32))))]) d62_723 rfl rfl hE712 lE712 fun E723 hE723 lE723 => (go_iload (pc := 725) d62_725 rfl (go_iconst (pc := 727) d62_727 ci_3 (go_iushr (pc := 728) d62_728 (go_bipush (pc := 729) d62_729 cb_31 (go_iand (pc := 731) d62_731 (go_iload (pc := 732) d62_732 rfl (go_iconst (pc := 734) d62_734 ci_2 ?_)))))))
    refine go_iadd (pc := 735) d62_735 ?_
    by_cases e7 : (v8 + (2 : Int32)) = 0
    · exact nomatch ((if_pos e7).symm.trans hf)
    replace hf := (if_neg e7).symm.trans hf
    refine go_irem (pc := 736) d62_736 e7 ?_
    refine go_iconst (pc := 737) d62_737 ci_1 (go_isub (pc := 738) d62_738 (go_istoreT (pc := 739) (L0 := [.val (.ref 0), .val (.int v1), .val (.int v2), .val (.int v3), .val (.int v4), .val (.ref 1), .val (.int (0 : Int32)), .val (.int v7), .val (.int v8), x9, x10, .val (.int (a674 &&& (7 : Int32))), .val (.int r685), .val (.int r695), .val (.int (((r685 &&& (31 : Int32)) % (v8 + (2 : Int32))) - (1 : Int32))), .val (.int ((r695 &&& (7 : Int32)) % (v2 + (1 : Int32))))]) (L1 := [.val (.ref 0), .val (.int v1), .val (.int v2), .val (.int v3), .val (.int v4), .val (.ref 1), .val (.int (0 : Int32)), .val (.int v7), .val (.int v8), x9, x10, .val (.int (a674 &&& (7 : Int32))), .val (.int r685), .val (.int r695), .val (.int (((r685 &&& (31 : Int32)) % (v8 + (2 : Int32))) - (1 : Int32))), .val (.int ((r695 &&& (7 : Int32)) % (v2 + (1 : Int32)))), .val (.int ((((XT.ushr r695 (3 : Int32)) &&& (31 : Int32)) % (v8 + (2 : Int32))) - (1 : Int32)))]) d62_739 rfl rfl hE723 lE723 fun E739 hE739 lE739 => (go_iload (pc := 741) d62_741 rfl ?_)))
    by_cases h8 : (a674 &&& (7 : Int32)) = 0
    · replace hf := (if_pos h8).symm.trans hf
      refine go_ifN (pc := 743) d62_743 (XT.i0_ne_f h8) ?_
      refine go_aload (pc := 746) d62_746 rfl ?_
      obtain ⟨r748, e18, hf⟩ := Option.bind_eq_some_iff.mp hf
      refine go_virt (pc := 748) (i := 0) (as := []) (rest := []) (w' := (some q, [(11, r748.2)])) lk_1_43 pd_45 rfl oid_0 rfl rfl rfl rfl rfl rfl ⟨rfl, rfl, rfl, rfl, rfl⟩ d62_748 (c_k_alloc t0 _ e18) ?_
      refine go_pop (pc := 751) d62_751 (go_goto (pc := 752) (pc' := 843) d62_752 j_752_91 (go_iinc (pc := 843) (L' := ([.val (.ref 0), .val (.int v1), .val (.int v2), .val (.int v3), .val (.int v4), .val (.ref 1), .val (.int (0 : Int32)), .val (.int (v7 + (3 : Int32))), .val (.int v8), x9, x10, .val (.int (a674 &&& (7 : Int32))), .val (.int r685), .val (.int r695), .val (.int (((r685 &&& (31 : Int32)) % (v8 + (2 : Int32))) - (1 : Int32))), .val (.int ((r695 &&& (7 : Int32)) % (v2 + (1 : Int32)))), .val (.int ((((XT.ushr r695 (3 : Int32)) &&& (31 : Int32)) % (v8 + (2 : Int32))) - (1 : Int32)))] ++ E739)) d62_843 rfl ci_3 (stx rfl (Or.inr ⟨_, rfl, rfl⟩) rfl) (go_goto (pc := 846) (pc' := 66) d62_846 j_846_m780 ?_)))
      exact hk66 v1 v2 v3 v4 (0 : Int32) (v7 + (3 : Int32)) q r748.2 (.val (.int v8)) x9 x10 (.val (.int (a674 &&& (7 : Int32)))) (.val (.int r685)) (.val (.int r695)) (.val (.int (((r685 &&& (31 : Int32)) % (v8 + (2 : Int32))) - (1 : Int32)))) (.val (.int ((r695 &&& (7 : Int32)) % (v2 + (1 : Int32))))) (.val (.int ((((XT.ushr r695 (3 : Int32)) &&& (31 : Int32)) % (v8 + (2 : Int32))) - (1 : Int32)))) E739 (Or.inr ⟨_, rfl, rfl⟩) hx9 (Or.inr ⟨_, rfl, rfl⟩) (Or.inr ⟨_, rfl, rfl⟩) (Or.inr ⟨_, rfl, rfl⟩) (Or.inr ⟨_, rfl, rfl⟩) (Or.inr ⟨_, rfl, rfl⟩) (Or.inr ⟨_, rfl, rfl⟩) hE739 lE739 _ hf
    · replace hf := (if_neg h8).symm.trans hf
      refine go_ifY (pc := 743) (pc' := 755) d62_743 (XT.i0_ne_t h8) j_743_12 ?_
      refine go_iload (pc := 755) d62_755 rfl (go_iconst (pc := 757) d62_757 ci_1 ?_)
      by_cases h9 : (a674 &&& (7 : Int32)) = (1 : Int32)
      · replace hf := (if_pos h9).symm.trans hf
        refine go_icN (pc := 758) d62_758 (XT.ii_ne_f h9) ?_
        refine go_aload (pc := 761) d62_761 rfl (go_iload (pc := 763) d62_763 rfl (go_iload (pc := 765) d62_765 rfl ?_))
        obtain ⟨r767, e17, hf⟩ := Option.bind_eq_some_iff.mp hf
        refine go_virt (pc := 767) (i := 0) (as := [.int (((r685 &&& (31 : Int32)) % (v8 + (2 : Int32))) - (1 : Int32)), .int ((r695 &&& (7 : Int32)) % (v2 + (1 : Int32)))]) (rest := []) (w' := (some q, [(11, r767.2)])) lk_1_46 pd_47 rfl oid_0 rfl rfl rfl rfl rfl rfl ⟨rfl, rfl, rfl, rfl, rfl⟩ d62_767 (c_k_load (((r685 &&& (31 : Int32)) % (v8 + (2 : Int32))) - (1 : Int32)) ((r695 &&& (7 : Int32)) % (v2 + (1 : Int32))) t0 _ e17) ?_
        refine go_pop (pc := 770) d62_770 (go_goto (pc := 771) (pc' := 843) d62_771 j_771_72 (go_iinc (pc := 843) (L' := ([.val (.ref 0), .val (.int v1), .val (.int v2), .val (.int v3), .val (.int v4), .val (.ref 1), .val (.int (0 : Int32)), .val (.int (v7 + (3 : Int32))), .val (.int v8), x9, x10, .val (.int (a674 &&& (7 : Int32))), .val (.int r685), .val (.int r695), .val (.int (((r685 &&& (31 : Int32)) % (v8 + (2 : Int32))) - (1 : Int32))), .val (.int ((r695 &&& (7 : Int32)) % (v2 + (1 : Int32)))), .val (.int ((((XT.ushr r695 (3 : Int32)) &&& (31 : Int32)) % (v8 + (2 : Int32))) - (1 : Int32)))] ++ E739)) d62_843 rfl ci_3 (stx rfl (Or.inr ⟨_, rfl, rfl⟩) rfl) (go_goto (pc := 846) (pc' := 66) d62_846 j_846_m780 ?_)))
        exact hk66 v1 v2 v3 v4 (0 : Int32) (v7 + (3 : Int32)) q r767.2 (.val (.int v8)) x9 x10 (.val (.int (a674 &&& (7 : Int32)))) (.val (.int r685)) (.val (.int r695)) (.val (.int (((r685 &&& (31 : Int32)) % (v8 + (2 : Int32))) - (1 : Int32)))) (.val (.int ((r695 &&& (7 : Int32)) % (v2 + (1 : Int32))))) (.val (.int ((((XT.ushr r695 (3 : Int32)) &&& (31 : Int32)) % (v8 + (2 : Int32))) - (1 : Int32)))) E739 (Or.inr ⟨_, rfl, rfl⟩) hx9 (Or.inr ⟨_, rfl, rfl⟩) (Or.inr ⟨_, rfl, rfl⟩) (Or.inr ⟨_, rfl, rfl⟩) (Or.inr ⟨_, rfl, rfl⟩) (Or.inr ⟨_, rfl, rfl⟩) (Or.inr ⟨_, rfl, rfl⟩) hE739 lE739 _ hf
      · replace hf := (if_neg h9).symm.trans hf
        refine go_icY (pc := 758) (pc' := 774) d62_758 (XT.ii_ne_t h9) j_758_16 ?_
        refine go_iload (pc := 774) d62_774 rfl (go_iconst (pc := 776) d62_776 ci_2 ?_)
        by_cases h10 : (a674 &&& (7 : Int32)) = (2 : Int32)
        · replace hf := (if_pos h10).symm.trans hf
          refine go_icY (pc := 777) (pc' := 786) d62_777 (XT.ii_eq_t h10) j_777_9 ?_
          exact law_786_ok hk66 v1 v2 v3 v4 (0 : Int32) v7 (((r685 &&& (31 : Int32)) % (v8 + (2 : Int32))) - (1 : Int32)) ((r695 &&& (7 : Int32)) % (v2 + (1 : Int32))) ((((XT.ushr r695 (3 : Int32)) &&& (31 : Int32)) % (v8 + (2 : Int32))) - (1 : Int32)) q t0 (.val (.int v8)) x9 x10 (.val (.int (a674 &&& (7 : Int32)))) (.val (.int r685)) (.val (.int r695)) E739 (Or.inr ⟨_, rfl, rfl⟩) hx9 (Or.inr ⟨_, rfl, rfl⟩) (Or.inr ⟨_, rfl, rfl⟩) (Or.inr ⟨_, rfl, rfl⟩) hE739 lE739 _ hf
        · replace hf := (if_neg h10).symm.trans hf
          refine go_icN (pc := 777) d62_777 (XT.ii_eq_f h10) ?_
          refine go_iload (pc := 780) d62_780 rfl (go_iconst (pc := 782) d62_782 ci_3 ?_)
          by_cases h11 : (a674 &&& (7 : Int32)) = (3 : Int32)
          · replace hf := (if_pos h11).symm.trans hf
            refine go_icN (pc := 783) d62_783 (XT.ii_ne_f h11) ?_
            exact law_786_ok hk66 v1 v2 v3 v4 (0 : Int32) v7 (((r685 &&& (31 : Int32)) % (v8 + (2 : Int32))) - (1 : Int32)) ((r695 &&& (7 : Int32)) % (v2 + (1 : Int32))) ((((XT.ushr r695 (3 : Int32)) &&& (31 : Int32)) % (v8 + (2 : Int32))) - (1 : Int32)) q t0 (.val (.int v8)) x9 x10 (.val (.int (a674 &&& (7 : Int32)))) (.val (.int r685)) (.val (.int r695)) E739 (Or.inr ⟨_, rfl, rfl⟩) hx9 (Or.inr ⟨_, rfl, rfl⟩) (Or.inr ⟨_, rfl, rfl⟩) (Or.inr ⟨_, rfl, rfl⟩) hE739 lE739 _ hf
          · replace hf := (if_neg h11).symm.trans hf
            refine go_icY (pc := 783) (pc' := 801) d62_783 (XT.ii_ne_t h11) j_783_18 ?_
            refine go_iload (pc := 801) d62_801 rfl (go_iconst (pc := 803) d62_803 ci_4 ?_)
            by_cases h12 : (a674 &&& (7 : Int32)) = (4 : Int32)
            · replace hf := (if_pos h12).symm.trans hf
              refine go_icN (pc := 804) d62_804 (XT.ii_ne_f h12) ?_
              refine go_aload (pc := 807) d62_807 rfl (go_iload (pc := 809) d62_809 rfl ?_)
              obtain ⟨r811, e16, hf⟩ := Option.bind_eq_some_iff.mp hf
              refine go_virt (pc := 811) (i := 0) (as := [.int (((r685 &&& (31 : Int32)) % (v8 + (2 : Int32))) - (1 : Int32))]) (rest := []) (w' := (some q, [(11, r811.2)])) lk_1_53 pd_58 rfl oid_0 rfl rfl rfl rfl rfl rfl ⟨rfl, rfl, rfl, rfl, rfl⟩ d62_811 (c_k_push (((r685 &&& (31 : Int32)) % (v8 + (2 : Int32))) - (1 : Int32)) t0 _ e16) ?_
              refine go_pop (pc := 814) d62_814 (go_goto (pc := 815) (pc' := 843) d62_815 j_815_28 (go_iinc (pc := 843) (L' := ([.val (.ref 0), .val (.int v1), .val (.int v2), .val (.int v3), .val (.int v4), .val (.ref 1), .val (.int (0 : Int32)), .val (.int (v7 + (3 : Int32))), .val (.int v8), x9, x10, .val (.int (a674 &&& (7 : Int32))), .val (.int r685), .val (.int r695), .val (.int (((r685 &&& (31 : Int32)) % (v8 + (2 : Int32))) - (1 : Int32))), .val (.int ((r695 &&& (7 : Int32)) % (v2 + (1 : Int32)))), .val (.int ((((XT.ushr r695 (3 : Int32)) &&& (31 : Int32)) % (v8 + (2 : Int32))) - (1 : Int32)))] ++ E739)) d62_843 rfl ci_3 (stx rfl (Or.inr ⟨_, rfl, rfl⟩) rfl) (go_goto (pc := 846) (pc' := 66) d62_846 j_846_m780 ?_)))
              exact hk66 v1 v2 v3 v4 (0 : Int32) (v7 + (3 : Int32)) q r811.2 (.val (.int v8)) x9 x10 (.val (.int (a674 &&& (7 : Int32)))) (.val (.int r685)) (.val (.int r695)) (.val (.int (((r685 &&& (31 : Int32)) % (v8 + (2 : Int32))) - (1 : Int32)))) (.val (.int ((r695 &&& (7 : Int32)) % (v2 + (1 : Int32))))) (.val (.int ((((XT.ushr r695 (3 : Int32)) &&& (31 : Int32)) % (v8 + (2 : Int32))) - (1 : Int32)))) E739 (Or.inr ⟨_, rfl, rfl⟩) hx9 (Or.inr ⟨_, rfl, rfl⟩) (Or.inr ⟨_, rfl, rfl⟩) (Or.inr ⟨_, rfl, rfl⟩) (Or.inr ⟨_, rfl, rfl⟩) (Or.inr ⟨_, rfl, rfl⟩) (Or.inr ⟨_, rfl, rfl⟩) hE739 lE739 _ hf
            · replace hf := (if_neg h12).symm.trans hf
              refine go_icY (pc := 804) (pc' := 818) d62_804 (XT.ii_ne_t h12) j_804_14 ?_
              refine go_iload (pc := 818) d62_818 rfl (go_bipush (pc := 820) d62_820 cb_6 ?_)
              by_cases h13 : (a674 &&& (7 : Int32)) = (6 : Int32)
              · replace hf := (if_pos h13).symm.trans hf
                refine go_icN (pc := 822) d62_822 (XT.ii_ne_f h13) ?_
                refine go_aload (pc := 825) d62_825 rfl ?_
                obtain ⟨r827, e15, hf⟩ := Option.bind_eq_some_iff.mp hf
                refine go_virt (pc := 827) (i := 0) (as := []) (rest := []) (w' := (some q, [(11, r827.2)])) lk_1_56 pd_59 rfl oid_0 rfl rfl rfl rfl rfl rfl ⟨rfl, rfl, rfl, rfl, rfl⟩ d62_827 (c_k_reconcile t0 _ e15) ?_
                refine go_pop (pc := 830) d62_830 (go_iconst (pc := 831) d62_831 ci_1 (go_istore (pc := 832) (L' := ([.val (.ref 0), .val (.int v1), .val (.int v2), .val (.int v3), .val (.int v4), .val (.ref 1), .val (.int (1 : Int32)), .val (.int v7), .val (.int v8), x9, x10, .val (.int (a674 &&& (7 : Int32))), .val (.int r685), .val (.int r695), .val (.int (((r685 &&& (31 : Int32)) % (v8 + (2 : Int32))) - (1 : Int32))), .val (.int ((r695 &&& (7 : Int32)) % (v2 + (1 : Int32)))), .val (.int ((((XT.ushr r695 (3 : Int32)) &&& (31 : Int32)) % (v8 + (2 : Int32))) - (1 : Int32)))] ++ E739)) d62_832 (stx rfl (Or.inr ⟨_, rfl, rfl⟩) rfl) (go_goto (pc := 834) (pc' := 843) d62_834 j_834_9 (go_iinc (pc := 843) (L' := ([.val (.ref 0), .val (.int v1), .val (.int v2), .val (.int v3), .val (.int v4), .val (.ref 1), .val (.int (1 : Int32)), .val (.int (v7 + (3 : Int32))), .val (.int v8), x9, x10, .val (.int (a674 &&& (7 : Int32))), .val (.int r685), .val (.int r695), .val (.int (((r685 &&& (31 : Int32)) % (v8 + (2 : Int32))) - (1 : Int32))), .val (.int ((r695 &&& (7 : Int32)) % (v2 + (1 : Int32)))), .val (.int ((((XT.ushr r695 (3 : Int32)) &&& (31 : Int32)) % (v8 + (2 : Int32))) - (1 : Int32)))] ++ E739)) d62_843 rfl ci_3 (stx rfl (Or.inr ⟨_, rfl, rfl⟩) rfl) (go_goto (pc := 846) (pc' := 66) d62_846 j_846_m780 ?_)))))
                exact hk66 v1 v2 v3 v4 (1 : Int32) (v7 + (3 : Int32)) q r827.2 (.val (.int v8)) x9 x10 (.val (.int (a674 &&& (7 : Int32)))) (.val (.int r685)) (.val (.int r695)) (.val (.int (((r685 &&& (31 : Int32)) % (v8 + (2 : Int32))) - (1 : Int32)))) (.val (.int ((r695 &&& (7 : Int32)) % (v2 + (1 : Int32))))) (.val (.int ((((XT.ushr r695 (3 : Int32)) &&& (31 : Int32)) % (v8 + (2 : Int32))) - (1 : Int32)))) E739 (Or.inr ⟨_, rfl, rfl⟩) hx9 (Or.inr ⟨_, rfl, rfl⟩) (Or.inr ⟨_, rfl, rfl⟩) (Or.inr ⟨_, rfl, rfl⟩) (Or.inr ⟨_, rfl, rfl⟩) (Or.inr ⟨_, rfl, rfl⟩) (Or.inr ⟨_, rfl, rfl⟩) hE739 lE739 _ hf
              · replace hf := (if_neg h13).symm.trans hf
                refine go_icY (pc := 822) (pc' := 837) d62_822 (XT.ii_ne_t h13) j_822_15 ?_
                refine go_aload (pc := 837) d62_837 rfl ?_
                obtain ⟨r839, e14, hf⟩ := Option.bind_eq_some_iff.mp hf
                refine go_virt (pc := 839) (i := 0) (as := []) (rest := []) (w' := (some q, [(11, r839.2)])) lk_1_59 pd_61 rfl oid_0 rfl rfl rfl rfl rfl rfl ⟨rfl, rfl, rfl, rfl, rfl⟩ d62_839 (c_k_pop t0 _ e14) ?_
                refine go_pop (pc := 842) d62_842 (go_iinc (pc := 843) (L' := ([.val (.ref 0), .val (.int v1), .val (.int v2), .val (.int v3), .val (.int v4), .val (.ref 1), .val (.int (0 : Int32)), .val (.int (v7 + (3 : Int32))), .val (.int v8), x9, x10, .val (.int (a674 &&& (7 : Int32))), .val (.int r685), .val (.int r695), .val (.int (((r685 &&& (31 : Int32)) % (v8 + (2 : Int32))) - (1 : Int32))), .val (.int ((r695 &&& (7 : Int32)) % (v2 + (1 : Int32)))), .val (.int ((((XT.ushr r695 (3 : Int32)) &&& (31 : Int32)) % (v8 + (2 : Int32))) - (1 : Int32)))] ++ E739)) d62_843 rfl ci_3 (stx rfl (Or.inr ⟨_, rfl, rfl⟩) rfl) (go_goto (pc := 846) (pc' := 66) d62_846 j_846_m780 ?_))
                exact hk66 v1 v2 v3 v4 (0 : Int32) (v7 + (3 : Int32)) q r839.2 (.val (.int v8)) x9 x10 (.val (.int (a674 &&& (7 : Int32)))) (.val (.int r685)) (.val (.int r695)) (.val (.int (((r685 &&& (31 : Int32)) % (v8 + (2 : Int32))) - (1 : Int32)))) (.val (.int ((r695 &&& (7 : Int32)) % (v2 + (1 : Int32))))) (.val (.int ((((XT.ushr r695 (3 : Int32)) &&& (31 : Int32)) % (v8 + (2 : Int32))) - (1 : Int32)))) E739 (Or.inr ⟨_, rfl, rfl⟩) hx9 (Or.inr ⟨_, rfl, rfl⟩) (Or.inr ⟨_, rfl, rfl⟩) (Or.inr ⟨_, rfl, rfl⟩) (Or.inr ⟨_, rfl, rfl⟩) (Or.inr ⟨_, rfl, rfl⟩) (Or.inr ⟨_, rfl, rfl⟩) hE739 lE739 _ hf
  · replace hf := (if_neg h1).symm.trans hf
    refine go_icN (pc := 663) d62_663 (XT.ii_lt_f h1) ?_
    refine go_iconst (pc := 666) d62_666 ci_1 ?_
    cases hf
    exact go_zret (pc := 667) rfl d62_667 (show (1 : Int32) = nar .boolean (1 : Int32) by decide)
def T_law_392 (k392 : Int32 → Int32 → Int32 → Int32 → Int32 → Int32 → Int64 → Int64 → Int32 → List Int32 → S → Option (Int32 × S)) : Prop := ∀ (v1 : Int32) (v2 : Int32) (v3 : Int32) (v4 : Int32) (v7 : Int32) (v8 : Int32) (v9 : Int64) (v11 : Int64) (v13 : Int32) (q : List Int32) (t0 : S) (x6 : Slot) (D14 : List Slot) (hx6 : k1 x6) (hD14 : WT D14) (lD14 : D14.length = 8) (o : Int32 × S), k392 v1 v2 v3 v4 v7 v8 v9 v11 v13 q t0 = some o → Go PP m62 392 ([.val (.ref 0), .val (.int v1), .val (.int v2), .val (.int v3), .val (.int v4), .val (.ref 1), x6, .val (.int v7), .val (.int v8), .val (.long v9), .second, .val (.long v11), .second, .val (.int v13)] ++ D14) [] (some q, [(11, t0)]) (some (.int o.1), (some q, [(11, o.2)]))
set_option maxRecDepth 65536 in
set_option maxHeartbeats 4000000 in
theorem law_617_ok {k66 : Int32 → Int32 → Int32 → Int32 → Int32 → Int32 → List Int32 → S → Option (Int32 × S)} {k392 : Int32 → Int32 → Int32 → Int32 → Int32 → Int32 → Int64 → Int64 → Int32 → List Int32 → S → Option (Int32 × S)} (hk66 : T_law_66 k66) (hk392 : T_law_392 k392) : ∀ (n : Nat) (v1 : Int32) (v2 : Int32) (v3 : Int32) (v4 : Int32) (v7 : Int32) (v8 : Int32) (v9 : Int64) (v11 : Int64) (v13 : Int32) (v14 : Int64) (v16 : Int32) (q : List Int32) (t0 : S) (x6 : Slot) (D17 : List Slot) (hx6 : k1 x6) (hD17 : WT D17) (lD17 : D17.length = 5) (o : Int32 × S), law_617 k66 k392 n v1 v2 v3 v4 v7 v8 v9 v11 v13 v14 v16 q t0 = some o → Go PP m62 617 ([.val (.ref 0), .val (.int v1), .val (.int v2), .val (.int v3), .val (.int v4), .val (.ref 1), x6, .val (.int v7), .val (.int v8), .val (.long v9), .second, .val (.long v11), .second, .val (.int v13), .val (.long v14), .second, .val (.int v16)] ++ D17) [] (some q, [(11, t0)]) (some (.int o.1), (some q, [(11, o.2)])) := by
  intro n
  induction n with
  | zero => intro v1 v2 v3 v4 v7 v8 v9 v11 v13 v14 v16 q t0 x6 D17 hx6 hD17 lD17 o hf; exact nomatch hf
  | succ n ih =>
    intro v1 v2 v3 v4 v7 v8 v9 v11 v13 v14 v16 q t0 x6 D17 hx6 hD17 lD17 o hf
    unfold law_617 at hf
    refine go_iload (pc := 617) d62_617 rfl (go_iloadN (pc := 619) d62_619 rfl ?_)
    by_cases h1 : v16 < v1
    · replace hf := (if_pos h1).symm.trans hf
      refine go_icN (pc := 620) d62_620 (XT.ii_ge_f h1) ?_
      refine go_aload (pc := 623) d62_623 rfl (go_iload (pc := 625) d62_625 rfl ?_)
      obtain ⟨r627, e2, hf⟩ := Option.bind_eq_some_iff.mp hf
      refine go_virt (pc := 627) (i := 0) (as := [.int v16]) (rest := []) (w' := (some q, [(11, t0)])) lk_1_26 pd_13 rfl oid_0 rfl rfl rfl rfl rfl rfl ⟨rfl, rfl, rfl, rfl, rfl⟩ d62_627 (c_k_isLive v16 t0 _ e2) ?_
      by_cases h3 : r627 = 0
      · replace hf := (if_pos h3).symm.trans hf
        refine go_ifY (pc := 630) (pc' := 647) d62_630 (XT.i0_eq_t h3) j_630_17 ?_
        refine go_iinc (pc := 647) (L' := ([.val (.ref 0), .val (.int v1), .val (.int v2), .val (.int v3), .val (.int v4), .val (.ref 1), x6, .val (.int v7), .val (.int v8), .val (.long v9), .second, .val (.long v11), .second, .val (.int v13), .val (.long v14), .second, .val (.int (v16 + (1 : Int32)))] ++ D17)) d62_647 rfl ci_1 (stx rfl (Or.inr ⟨_, rfl, rfl⟩) rfl) (go_goto (pc := 650) (pc' := 617) d62_650 j_650_m33 ?_)
        exact ih v1 v2 v3 v4 v7 v8 v9 v11 v13 v14 (v16 + (1 : Int32)) q t0 x6 D17 hx6 hD17 lD17 _ hf
      · replace hf := (if_neg h3).symm.trans hf
        refine go_ifN (pc := 630) d62_630 (XT.i0_eq_f h3) ?_
        refine go_lload (pc := 633) d62_633 rfl (go_iload (pc := 635) d62_635 rfl (go_lushr (pc := 637) d62_637 (go_lconst (pc := 638) d62_638 cl_1 (go_land (pc := 639) d62_639 (go_lconst (pc := 640) d62_640 cl_0 (go_lcmp (pc := 641) d62_641 ?_))))))
        by_cases h4 : ((XT.ushrL v14 v16) &&& (1 : Int64)) = (0 : Int64)
        · replace hf := (if_pos h4).symm.trans hf
          refine go_ifN (pc := 642) d62_642 (XT.ll_ne_f h4) ?_
          refine go_iconst (pc := 645) d62_645 ci_0 ?_
          cases hf
          exact go_zret (pc := 646) rfl d62_646 (show (0 : Int32) = nar .boolean (0 : Int32) by decide)
        · replace hf := (if_neg h4).symm.trans hf
          refine go_ifY (pc := 642) (pc' := 647) d62_642 (XT.ll_ne_t h4) j_642_5 ?_
          refine go_iinc (pc := 647) (L' := ([.val (.ref 0), .val (.int v1), .val (.int v2), .val (.int v3), .val (.int v4), .val (.ref 1), x6, .val (.int v7), .val (.int v8), .val (.long v9), .second, .val (.long v11), .second, .val (.int v13), .val (.long v14), .second, .val (.int (v16 + (1 : Int32)))] ++ D17)) d62_647 rfl ci_1 (stx rfl (Or.inr ⟨_, rfl, rfl⟩) rfl) (go_goto (pc := 650) (pc' := 617) d62_650 j_650_m33 ?_)
          exact ih v1 v2 v3 v4 v7 v8 v9 v11 v13 v14 (v16 + (1 : Int32)) q t0 x6 D17 hx6 hD17 lD17 _ hf
    · replace hf := (if_neg h1).symm.trans hf
      refine go_icY (pc := 620) (pc' := 653) d62_620 (XT.ii_ge_t h1) j_620_33 ?_
      refine go_iinc (pc := 653) (L' := ([.val (.ref 0), .val (.int v1), .val (.int v2), .val (.int v3), .val (.int v4), .val (.ref 1), x6, .val (.int v7), .val (.int v8), .val (.long v9), .second, .val (.long v11), .second, .val (.int (v13 + (1 : Int32))), .val (.long v14), .second, .val (.int v16)] ++ D17)) d62_653 rfl ci_1 (stx rfl (Or.inr ⟨_, rfl, rfl⟩) rfl) (go_goto (pc := 656) (pc' := 392) d62_656 j_656_m264 ?_)
      exact hk392 v1 v2 v3 v4 v7 v8 v9 v11 (v13 + (1 : Int32)) q t0 x6 ([.val (.long v14), .second, .val (.int v16)] ++ D17) hx6 (wt2 (wt1 (Or.inr ⟨_, rfl, rfl⟩) hD17)) (by simp [lD17]) _ hf
set_option maxRecDepth 65536 in
set_option maxHeartbeats 4000000 in
theorem law_584_ok {k66 : Int32 → Int32 → Int32 → Int32 → Int32 → Int32 → List Int32 → S → Option (Int32 × S)} {k392 : Int32 → Int32 → Int32 → Int32 → Int32 → Int32 → Int64 → Int64 → Int32 → List Int32 → S → Option (Int32 × S)} (hk66 : T_law_66 k66) (hk392 : T_law_392 k392) : ∀ (v1 : Int32) (v2 : Int32) (v3 : Int32) (v4 : Int32) (v7 : Int32) (v8 : Int32) (v9 : Int64) (v11 : Int64) (v13 : Int32) (v14 : Int64) (q : List Int32) (t0 : S) (x6 : Slot) (x16 : Slot) (D17 : List Slot) (hx6 : k1 x6) (hx16 : k1 x16) (hD17 : WT D17) (lD17 : D17.length = 5) (o : Int32 × S), law_584 k66 k392 v1 v2 v3 v4 v7 v8 v9 v11 v13 v14 q t0 = some o → Go PP m62 584 ([.val (.ref 0), .val (.int v1), .val (.int v2), .val (.int v3), .val (.int v4), .val (.ref 1), x6, .val (.int v7), .val (.int v8), .val (.long v9), .second, .val (.long v11), .second, .val (.int v13), .val (.long v14), .second, x16] ++ D17) [] (some q, [(11, t0)]) (some (.int o.1), (some q, [(11, o.2)])) := by
  intro v1 v2 v3 v4 v7 v8 v9 v11 v13 v14 q t0 x6 x16 D17 hx6 hx16 hD17 lD17 o hf
  unfold law_584 at hf
  refine go_iload (pc := 584) d62_584 rfl (go_iloadN (pc := 586) d62_586 rfl ?_)
  by_cases h1 : v13 < v1
  · replace hf := (if_pos h1).symm.trans hf
    refine go_icN (pc := 587) d62_587 (XT.ii_ge_f h1) ?_
    refine go_lload (pc := 590) d62_590 rfl (go_iload (pc := 592) d62_592 rfl (go_lushr (pc := 594) d62_594 (go_lconst (pc := 595) d62_595 cl_1 (go_land (pc := 596) d62_596 (go_lconst (pc := 597) d62_597 cl_0 (go_lcmp (pc := 598) d62_598 ?_))))))
    by_cases h2 : ((XT.ushrL v14 v13) &&& (1 : Int64)) = (0 : Int64)
    · refine go_ifY (pc := 599) (pc' := 653) d62_599 (XT.ll_eq_t h2) j_599_54 ?_
      refine go_iinc (pc := 653) (L' := ([.val (.ref 0), .val (.int v1), .val (.int v2), .val (.int v3), .val (.int v4), .val (.ref 1), x6, .val (.int v7), .val (.int v8), .val (.long v9), .second, .val (.long v11), .second, .val (.int (v13 + (1 : Int32))), .val (.long v14), .second, x16] ++ D17)) d62_653 rfl ci_1 (stx rfl (Or.inr ⟨_, rfl, rfl⟩) rfl) (go_goto (pc := 656) (pc' := 392) d62_656 j_656_m264 ?_)
      exact hk392 v1 v2 v3 v4 v7 v8 v9 v11 (v13 + (1 : Int32)) q t0 x6 ([.val (.long v14), .second, x16] ++ D17) hx6 (wt2 (wt1 hx16 hD17)) (by simp [lD17]) _ (by simpa only [if_pos h2] using hf)
    · refine go_ifN (pc := 599) d62_599 (XT.ll_eq_f h2) ?_
      refine go_lload (pc := 602) d62_602 rfl (go_lconst (pc := 604) d62_604 cl_1 (go_iload (pc := 605) d62_605 rfl (go_lshl (pc := 607) d62_607 (go_lor (pc := 608) d62_608 (go_lstore (pc := 609) (L' := ([.val (.ref 0), .val (.int v1), .val (.int v2), .val (.int v3), .val (.int v4), .val (.ref 1), x6, .val (.int v7), .val (.int v8), .val (.long v9), .second, .val (.long (v11 ||| ((1 : Int64) <<< (v13.toInt64 &&& 63)))), .second, .val (.int v13), .val (.long v14), .second, x16] ++ D17)) d62_609 (stx2 rfl rfl (Or.inr ⟨_, rfl, rfl⟩)) (go_goto (pc := 611) (pc' := 653) d62_611 j_611_42 (go_iinc (pc := 653) (L' := ([.val (.ref 0), .val (.int v1), .val (.int v2), .val (.int v3), .val (.int v4), .val (.ref 1), x6, .val (.int v7), .val (.int v8), .val (.long v9), .second, .val (.long (v11 ||| ((1 : Int64) <<< (v13.toInt64 &&& 63)))), .second, .val (.int (v13 + (1 : Int32))), .val (.long v14), .second, x16] ++ D17)) d62_653 rfl ci_1 (stx rfl (Or.inr ⟨_, rfl, rfl⟩) rfl) ?_)))))))
      refine go_goto (pc := 656) (pc' := 392) d62_656 j_656_m264 ?_
      exact hk392 v1 v2 v3 v4 v7 v8 v9 (v11 ||| ((1 : Int64) <<< (v13.toInt64 &&& 63))) (v13 + (1 : Int32)) q t0 x6 ([.val (.long v14), .second, x16] ++ D17) hx6 (wt2 (wt1 hx16 hD17)) (by simp [lD17]) _ (by simpa only [if_neg h2] using hf)
  · replace hf := (if_neg h1).symm.trans hf
    refine go_icY (pc := 587) (pc' := 614) d62_587 (XT.ii_ge_t h1) j_587_27 ?_
    refine go_iconst (pc := 614) d62_614 ci_0 (go_istore (pc := 615) (L' := ([.val (.ref 0), .val (.int v1), .val (.int v2), .val (.int v3), .val (.int v4), .val (.ref 1), x6, .val (.int v7), .val (.int v8), .val (.long v9), .second, .val (.long v11), .second, .val (.int v13), .val (.long v14), .second, .val (.int (0 : Int32))] ++ D17)) d62_615 (stx rfl hx16 rfl) ?_)
    exact law_617_ok hk66 hk392 BIG v1 v2 v3 v4 v7 v8 v9 v11 v13 v14 (0 : Int32) q t0 x6 D17 hx6 hD17 lD17 _ hf
set_option maxRecDepth 65536 in
set_option maxHeartbeats 4000000 in
theorem law_571_ok {k66 : Int32 → Int32 → Int32 → Int32 → Int32 → Int32 → List Int32 → S → Option (Int32 × S)} {k392 : Int32 → Int32 → Int32 → Int32 → Int32 → Int32 → Int64 → Int64 → Int32 → List Int32 → S → Option (Int32 × S)} (hk66 : T_law_66 k66) (hk392 : T_law_392 k392) : ∀ (v1 : Int32) (v2 : Int32) (v3 : Int32) (v4 : Int32) (v7 : Int32) (v8 : Int32) (v9 : Int64) (v11 : Int64) (v13 : Int32) (v14 : Int64) (q : List Int32) (t0 : S) (x6 : Slot) (x16 : Slot) (x17 : Slot) (x18 : Slot) (x19 : Slot) (D20 : List Slot) (hx6 : k1 x6) (hx16 : k1 x16) (hx17 : k2 x17 x18) (hx19 : k1 x19) (hD20 : WT D20) (lD20 : D20.length = 2) (o : Int32 × S), law_571 k66 k392 v1 v2 v3 v4 v7 v8 v9 v11 v13 v14 q t0 = some o → Go PP m62 571 ([.val (.ref 0), .val (.int v1), .val (.int v2), .val (.int v3), .val (.int v4), .val (.ref 1), x6, .val (.int v7), .val (.int v8), .val (.long v9), .second, .val (.long v11), .second, .val (.int v13), .val (.long v14), .second, x16, x17, x18, x19] ++ D20) [] (some q, [(11, t0)]) (some (.int o.1), (some q, [(11, o.2)])) := by
  intro v1 v2 v3 v4 v7 v8 v9 v11 v13 v14 q t0 x6 x16 x17 x18 x19 D20 hx6 hx16 hx17 hx19 hD20 lD20 o hf
  unfold law_571 at hf
  refine go_goto (pc := 571) (pc' := 584) d62_571 j_571_13 ?_
  exact law_584_ok hk66 hk392 v1 v2 v3 v4 v7 v8 v9 v11 v13 v14 q t0 x6 x16 ([x17, x18, x19] ++ D20) hx6 hx16 (wt12 hx17 (wt1 hx19 hD20)) (by simp [lD20]) _ hf
def T_law_473 (k473 : Int32 → Int32 → Int32 → Int32 → Int32 → Int32 → Int64 → Int64 → Int32 → Int64 → Int32 → List Int32 → S → Option (Int32 × S)) : Prop := ∀ (v1 : Int32) (v2 : Int32) (v3 : Int32) (v4 : Int32) (v7 : Int32) (v8 : Int32) (v9 : Int64) (v11 : Int64) (v13 : Int32) (v14 : Int64) (v16 : Int32) (q : List Int32) (t0 : S) (x6 : Slot) (D17 : List Slot) (hx6 : k1 x6) (hD17 : WT D17) (lD17 : D17.length = 5) (o : Int32 × S), k473 v1 v2 v3 v4 v7 v8 v9 v11 v13 v14 v16 q t0 = some o → Go PP m62 473 ([.val (.ref 0), .val (.int v1), .val (.int v2), .val (.int v3), .val (.int v4), .val (.ref 1), x6, .val (.int v7), .val (.int v8), .val (.long v9), .second, .val (.long v11), .second, .val (.int v13), .val (.long v14), .second, .val (.int v16)] ++ D17) [] (some q, [(11, t0)]) (some (.int o.1), (some q, [(11, o.2)]))
set_option maxRecDepth 65536 in
set_option maxHeartbeats 4000000 in
theorem law_563_ok {k66 : Int32 → Int32 → Int32 → Int32 → Int32 → Int32 → List Int32 → S → Option (Int32 × S)} {k392 : Int32 → Int32 → Int32 → Int32 → Int32 → Int32 → Int64 → Int64 → Int32 → List Int32 → S → Option (Int32 × S)} {k473 : Int32 → Int32 → Int32 → Int32 → Int32 → Int32 → Int64 → Int64 → Int32 → Int64 → Int32 → List Int32 → S → Option (Int32 × S)} (hk66 : T_law_66 k66) (hk392 : T_law_392 k392) (hk473 : T_law_473 k473) : ∀ (v1 : Int32) (v2 : Int32) (v3 : Int32) (v4 : Int32) (v7 : Int32) (v8 : Int32) (v9 : Int64) (v11 : Int64) (v13 : Int32) (v14 : Int64) (v16 : Int32) (v17 : Int64) (q : List Int32) (t0 : S) (x6 : Slot) (x19 : Slot) (D20 : List Slot) (hx6 : k1 x6) (hx19 : k1 x19) (hD20 : WT D20) (lD20 : D20.length = 2) (o : Int32 × S), law_563 k66 k392 k473 v1 v2 v3 v4 v7 v8 v9 v11 v13 v14 v16 v17 q t0 = some o → Go PP m62 563 ([.val (.ref 0), .val (.int v1), .val (.int v2), .val (.int v3), .val (.int v4), .val (.ref 1), x6, .val (.int v7), .val (.int v8), .val (.long v9), .second, .val (.long v11), .second, .val (.int v13), .val (.long v14), .second, .val (.int v16), .val (.long v17), .second, x19] ++ D20) [] (some q, [(11, t0)]) (some (.int o.1), (some q, [(11, o.2)])) := by
  intro v1 v2 v3 v4 v7 v8 v9 v11 v13 v14 v16 v17 q t0 x6 x19 D20 hx6 hx19 hD20 lD20 o hf
  unfold law_563 at hf
  refine go_lload (pc := 563) d62_563 rfl (go_lload (pc := 565) d62_565 rfl (go_lcmp (pc := 567) d62_567 ?_))
  by_cases h1 : v17 = v14
  · replace hf := (if_pos h1).symm.trans hf
    refine go_ifN (pc := 568) d62_568 (XT.ll_ne_f h1) ?_
    exact law_571_ok hk66 hk392 v1 v2 v3 v4 v7 v8 v9 v11 v13 v14 q t0 x6 (.val (.int v16)) (.val (.long v17)) .second x19 D20 hx6 (Or.inr ⟨_, rfl, rfl⟩) (Or.inr ⟨_, rfl, rfl⟩) hx19 hD20 lD20 _ hf
  · replace hf := (if_neg h1).symm.trans hf
    refine go_ifY (pc := 568) (pc' := 574) d62_568 (XT.ll_ne_t h1) j_568_6 ?_
    refine go_lload (pc := 574) d62_574 rfl (go_lstore (pc := 576) (L' := ([.val (.ref 0), .val (.int v1), .val (.int v2), .val (.int v3), .val (.int v4), .val (.ref 1), x6, .val (.int v7), .val (.int v8), .val (.long v9), .second, .val (.long v11), .second, .val (.int v13), .val (.long v17), .second, .val (.int v16), .val (.long v17), .second, x19] ++ D20)) d62_576 (stx2 rfl rfl (Or.inr ⟨_, rfl, rfl⟩)) (go_iinc (pc := 578) (L' := ([.val (.ref 0), .val (.int v1), .val (.int v2), .val (.int v3), .val (.int v4), .val (.ref 1), x6, .val (.int v7), .val (.int v8), .val (.long v9), .second, .val (.long v11), .second, .val (.int v13), .val (.long v17), .second, .val (.int (v16 + (1 : Int32))), .val (.long v17), .second, x19] ++ D20)) d62_578 rfl ci_1 (stx rfl (Or.inr ⟨_, rfl, rfl⟩) rfl) (go_goto (pc := 581) (pc' := 473) d62_581 j_581_m108 ?_)))
    exact hk473 v1 v2 v3 v4 v7 v8 v9 v11 v13 v17 (v16 + (1 : Int32)) q t0 x6 ([.val (.long v17), .second, x19] ++ D20) hx6 (wt2 (wt1 hx19 hD20)) (by simp [lD20]) _ hf
def T_law_486 (k486 : Int32 → Int32 → Int32 → Int32 → Int32 → Int32 → Int64 → Int64 → Int32 → Int64 → Int32 → Int64 → Int32 → List Int32 → S → Option (Int32 × S)) : Prop := ∀ (v1 : Int32) (v2 : Int32) (v3 : Int32) (v4 : Int32) (v7 : Int32) (v8 : Int32) (v9 : Int64) (v11 : Int64) (v13 : Int32) (v14 : Int64) (v16 : Int32) (v17 : Int64) (v19 : Int32) (q : List Int32) (t0 : S) (x6 : Slot) (D20 : List Slot) (hx6 : k1 x6) (hD20 : WT D20) (lD20 : D20.length = 2) (o : Int32 × S), k486 v1 v2 v3 v4 v7 v8 v9 v11 v13 v14 v16 v17 v19 q t0 = some o → Go PP m62 486 ([.val (.ref 0), .val (.int v1), .val (.int v2), .val (.int v3), .val (.int v4), .val (.ref 1), x6, .val (.int v7), .val (.int v8), .val (.long v9), .second, .val (.long v11), .second, .val (.int v13), .val (.long v14), .second, .val (.int v16), .val (.long v17), .second, .val (.int v19)] ++ D20) [] (some q, [(11, t0)]) (some (.int o.1), (some q, [(11, o.2)]))
set_option maxRecDepth 65536 in
set_option maxHeartbeats 4000000 in
theorem law_520_ok {k66 : Int32 → Int32 → Int32 → Int32 → Int32 → Int32 → List Int32 → S → Option (Int32 × S)} {k392 : Int32 → Int32 → Int32 → Int32 → Int32 → Int32 → Int64 → Int64 → Int32 → List Int32 → S → Option (Int32 × S)} {k473 : Int32 → Int32 → Int32 → Int32 → Int32 → Int32 → Int64 → Int64 → Int32 → Int64 → Int32 → List Int32 → S → Option (Int32 × S)} {k486 : Int32 → Int32 → Int32 → Int32 → Int32 → Int32 → Int64 → Int64 → Int32 → Int64 → Int32 → Int64 → Int32 → List Int32 → S → Option (Int32 × S)} (hk66 : T_law_66 k66) (hk392 : T_law_392 k392) (hk473 : T_law_473 k473) (hk486 : T_law_486 k486) : ∀ (n : Nat) (v1 : Int32) (v2 : Int32) (v3 : Int32) (v4 : Int32) (v7 : Int32) (v8 : Int32) (v9 : Int64) (v11 : Int64) (v13 : Int32) (v14 : Int64) (v16 : Int32) (v17 : Int64) (v19 : Int32) (v20 : Int32) (q : List Int32) (t0 : S) (x6 : Slot) (D21 : List Slot) (hx6 : k1 x6) (hD21 : WT D21) (lD21 : D21.length = 1) (o : Int32 × S), law_520 k66 k392 k473 k486 n v1 v2 v3 v4 v7 v8 v9 v11 v13 v14 v16 v17 v19 v20 q t0 = some o → Go PP m62 520 ([.val (.ref 0), .val (.int v1), .val (.int v2), .val (.int v3), .val (.int v4), .val (.ref 1), x6, .val (.int v7), .val (.int v8), .val (.long v9), .second, .val (.long v11), .second, .val (.int v13), .val (.long v14), .second, .val (.int v16), .val (.long v17), .second, .val (.int v19), .val (.int v20)] ++ D21) [] (some q, [(11, t0)]) (some (.int o.1), (some q, [(11, o.2)])) := by
  intro n
  induction n with
  | zero => intro v1 v2 v3 v4 v7 v8 v9 v11 v13 v14 v16 v17 v19 v20 q t0 x6 D21 hx6 hD21 lD21 o hf; exact nomatch hf
  | succ n ih =>
    intro v1 v2 v3 v4 v7 v8 v9 v11 v13 v14 v16 v17 v19 v20 q t0 x6 D21 hx6 hD21 lD21 o hf
    unfold law_520 at hf
    refine go_iload (pc := 520) d62_520 rfl (go_iloadN (pc := 522) d62_522 rfl ?_)
    by_cases h1 : v20 < v2
    · replace hf := (if_pos h1).symm.trans hf
      refine go_icN (pc := 523) d62_523 (XT.ii_ge_f h1) ?_
      refine go_aload (pc := 526) d62_526 rfl (go_iload (pc := 528) d62_528 rfl (go_iload (pc := 530) d62_530 rfl ?_))
      obtain ⟨r532, e2, hf⟩ := Option.bind_eq_some_iff.mp hf
      refine go_virt (pc := 532) (i := 0) (as := [.int v19, .int v20]) (rest := []) (w' := (some q, [(11, t0)])) lk_1_33 pd_18 rfl oid_0 rfl rfl rfl rfl rfl rfl ⟨rfl, rfl, rfl, rfl, rfl⟩ d62_532 (c_k_field v19 v20 t0 _ e2) ?_
      refine go_istoreT (pc := 535) (L0 := [.val (.ref 0), .val (.int v1), .val (.int v2), .val (.int v3), .val (.int v4), .val (.ref 1), x6, .val (.int v7), .val (.int v8), .val (.long v9), .second, .val (.long v11), .second, .val (.int v13), .val (.long v14), .second, .val (.int v16), .val (.long v17), .second, .val (.int v19), .val (.int v20)]) (L1 := [.val (.ref 0), .val (.int v1), .val (.int v2), .val (.int v3), .val (.int v4), .val (.ref 1), x6, .val (.int v7), .val (.int v8), .val (.long v9), .second, .val (.long v11), .second, .val (.int v13), .val (.long v14), .second, .val (.int v16), .val (.long v17), .second, .val (.int v19), .val (.int v20), .val (.int r532)]) d62_535 rfl rfl hD21 lD21 <| nilT (go_iload (pc := 537) d62_537 rfl ?_)
      by_cases h3 : r532 < 0
      · refine go_ifY (pc := 539) (pc' := 551) d62_539 (XT.i0_lt_t h3) j_539_12 ?_
        refine go_iinc (pc := 551) (L' := [.val (.ref 0), .val (.int v1), .val (.int v2), .val (.int v3), .val (.int v4), .val (.ref 1), x6, .val (.int v7), .val (.int v8), .val (.long v9), .second, .val (.long v11), .second, .val (.int v13), .val (.long v14), .second, .val (.int v16), .val (.long v17), .second, .val (.int v19), .val (.int (v20 + (1 : Int32))), .val (.int r532)]) d62_551 rfl ci_1 rfl (go_goto (pc := 554) (pc' := 520) d62_554 j_554_m34 ?_)
        exact ih v1 v2 v3 v4 v7 v8 v9 v11 v13 v14 v16 v17 v19 (v20 + (1 : Int32)) q t0 x6 [.val (.int r532)] hx6 (wt1 (Or.inr ⟨_, rfl, rfl⟩) wt0) rfl _ (by simpa only [if_pos h3] using hf)
      · refine go_ifN (pc := 539) d62_539 (XT.i0_lt_f h3) ?_
        refine go_lload (pc := 542) d62_542 rfl (go_lconst (pc := 544) d62_544 cl_1 (go_iload (pc := 545) d62_545 rfl (go_lshl (pc := 547) d62_547 (go_lor (pc := 548) d62_548 (go_lstore (pc := 549) (L' := [.val (.ref 0), .val (.int v1), .val (.int v2), .val (.int v3), .val (.int v4), .val (.ref 1), x6, .val (.int v7), .val (.int v8), .val (.long v9), .second, .val (.long v11), .second, .val (.int v13), .val (.long v14), .second, .val (.int v16), .val (.long (v17 ||| ((1 : Int64) <<< (r532.toInt64 &&& 63)))), .second, .val (.int v19), .val (.int v20), .val (.int r532)]) d62_549 rfl (go_iinc (pc := 551) (L' := [.val (.ref 0), .val (.int v1), .val (.int v2), .val (.int v3), .val (.int v4), .val (.ref 1), x6, .val (.int v7), .val (.int v8), .val (.long v9), .second, .val (.long v11), .second, .val (.int v13), .val (.long v14), .second, .val (.int v16), .val (.long (v17 ||| ((1 : Int64) <<< (r532.toInt64 &&& 63)))), .second, .val (.int v19), .val (.int (v20 + (1 : Int32))), .val (.int r532)]) d62_551 rfl ci_1 rfl (go_goto (pc := 554) (pc' := 520) d62_554 j_554_m34 ?_)))))))
        exact ih v1 v2 v3 v4 v7 v8 v9 v11 v13 v14 v16 (v17 ||| ((1 : Int64) <<< (r532.toInt64 &&& 63))) v19 (v20 + (1 : Int32)) q t0 x6 [.val (.int r532)] hx6 (wt1 (Or.inr ⟨_, rfl, rfl⟩) wt0) rfl _ (by simpa only [if_neg h3] using hf)
    · replace hf := (if_neg h1).symm.trans hf
      refine go_icY (pc := 523) (pc' := 557) d62_523 (XT.ii_ge_t h1) j_523_34 ?_
      refine go_iinc (pc := 557) (L' := ([.val (.ref 0), .val (.int v1), .val (.int v2), .val (.int v3), .val (.int v4), .val (.ref 1), x6, .val (.int v7), .val (.int v8), .val (.long v9), .second, .val (.long v11), .second, .val (.int v13), .val (.long v14), .second, .val (.int v16), .val (.long v17), .second, .val (.int (v19 + (1 : Int32))), .val (.int v20)] ++ D21)) d62_557 rfl ci_1 (stx rfl (Or.inr ⟨_, rfl, rfl⟩) rfl) (go_goto (pc := 560) (pc' := 486) d62_560 j_560_m74 ?_)
      exact hk486 v1 v2 v3 v4 v7 v8 v9 v11 v13 v14 v16 v17 (v19 + (1 : Int32)) q t0 x6 ([.val (.int v20)] ++ D21) hx6 (wt1 (Or.inr ⟨_, rfl, rfl⟩) hD21) (by simp [lD21]) _ hf
set_option maxRecDepth 65536 in
set_option maxHeartbeats 4000000 in
theorem law_486_ok {k66 : Int32 → Int32 → Int32 → Int32 → Int32 → Int32 → List Int32 → S → Option (Int32 × S)} {k392 : Int32 → Int32 → Int32 → Int32 → Int32 → Int32 → Int64 → Int64 → Int32 → List Int32 → S → Option (Int32 × S)} {k473 : Int32 → Int32 → Int32 → Int32 → Int32 → Int32 → Int64 → Int64 → Int32 → Int64 → Int32 → List Int32 → S → Option (Int32 × S)} (hk66 : T_law_66 k66) (hk392 : T_law_392 k392) (hk473 : T_law_473 k473) : ∀ (n : Nat) (v1 : Int32) (v2 : Int32) (v3 : Int32) (v4 : Int32) (v7 : Int32) (v8 : Int32) (v9 : Int64) (v11 : Int64) (v13 : Int32) (v14 : Int64) (v16 : Int32) (v17 : Int64) (v19 : Int32) (q : List Int32) (t0 : S) (x6 : Slot) (D20 : List Slot) (hx6 : k1 x6) (hD20 : WT D20) (lD20 : D20.length = 2) (o : Int32 × S), law_486 k66 k392 k473 n v1 v2 v3 v4 v7 v8 v9 v11 v13 v14 v16 v17 v19 q t0 = some o → Go PP m62 486 ([.val (.ref 0), .val (.int v1), .val (.int v2), .val (.int v3), .val (.int v4), .val (.ref 1), x6, .val (.int v7), .val (.int v8), .val (.long v9), .second, .val (.long v11), .second, .val (.int v13), .val (.long v14), .second, .val (.int v16), .val (.long v17), .second, .val (.int v19)] ++ D20) [] (some q, [(11, t0)]) (some (.int o.1), (some q, [(11, o.2)])) := by
  intro n
  induction n with
  | zero => intro v1 v2 v3 v4 v7 v8 v9 v11 v13 v14 v16 v17 v19 q t0 x6 D20 hx6 hD20 lD20 o hf; exact nomatch hf
  | succ n ih =>
    intro v1 v2 v3 v4 v7 v8 v9 v11 v13 v14 v16 v17 v19 q t0 x6 D20 hx6 hD20 lD20 o hf
    unfold law_486 at hf
    refine go_iload (pc := 486) d62_486 rfl (go_iloadN (pc := 488) d62_488 rfl ?_)
    by_cases h1 : v19 < v1
    · replace hf := (if_pos h1).symm.trans hf
      refine go_icN (pc := 489) d62_489 (XT.ii_ge_f h1) ?_
      refine go_lload (pc := 492) d62_492 rfl (go_iload (pc := 494) d62_494 rfl (go_lushr (pc := 496) d62_496 (go_lconst (pc := 497) d62_497 cl_1 (go_land (pc := 498) d62_498 (go_lconst (pc := 499) d62_499 cl_0 (go_lcmp (pc := 500) d62_500 ?_))))))
      by_cases h2 : ((XT.ushrL v14 v19) &&& (1 : Int64)) = (0 : Int64)
      · replace hf := (if_pos h2).symm.trans hf
        refine go_ifY (pc := 501) (pc' := 557) d62_501 (XT.ll_eq_t h2) j_501_56 ?_
        refine go_iinc (pc := 557) (L' := ([.val (.ref 0), .val (.int v1), .val (.int v2), .val (.int v3), .val (.int v4), .val (.ref 1), x6, .val (.int v7), .val (.int v8), .val (.long v9), .second, .val (.long v11), .second, .val (.int v13), .val (.long v14), .second, .val (.int v16), .val (.long v17), .second, .val (.int (v19 + (1 : Int32)))] ++ D20)) d62_557 rfl ci_1 (stx rfl (Or.inr ⟨_, rfl, rfl⟩) rfl) (go_goto (pc := 560) (pc' := 486) d62_560 j_560_m74 ?_)
        exact ih v1 v2 v3 v4 v7 v8 v9 v11 v13 v14 v16 v17 (v19 + (1 : Int32)) q t0 x6 D20 hx6 hD20 lD20 _ hf
      · replace hf := (if_neg h2).symm.trans hf
        refine go_ifN (pc := 501) d62_501 (XT.ll_eq_f h2) ?_
        refine go_aload (pc := 504) d62_504 rfl (go_iload (pc := 506) d62_506 rfl ?_)
        obtain ⟨r508, e3, hf⟩ := Option.bind_eq_some_iff.mp hf
        refine go_virt (pc := 508) (i := 0) (as := [.int v19]) (rest := []) (w' := (some q, [(11, t0)])) lk_1_26 pd_13 rfl oid_0 rfl rfl rfl rfl rfl rfl ⟨rfl, rfl, rfl, rfl, rfl⟩ d62_508 (c_k_isLive v19 t0 _ e3) ?_
        by_cases h4 : r508 = 0
        · replace hf := (if_pos h4).symm.trans hf
          refine go_ifN (pc := 511) d62_511 (XT.i0_ne_f h4) ?_
          refine go_goto (pc := 514) (pc' := 557) d62_514 j_514_43 (go_iinc (pc := 557) (L' := ([.val (.ref 0), .val (.int v1), .val (.int v2), .val (.int v3), .val (.int v4), .val (.ref 1), x6, .val (.int v7), .val (.int v8), .val (.long v9), .second, .val (.long v11), .second, .val (.int v13), .val (.long v14), .second, .val (.int v16), .val (.long v17), .second, .val (.int (v19 + (1 : Int32)))] ++ D20)) d62_557 rfl ci_1 (stx rfl (Or.inr ⟨_, rfl, rfl⟩) rfl) (go_goto (pc := 560) (pc' := 486) d62_560 j_560_m74 ?_))
          exact ih v1 v2 v3 v4 v7 v8 v9 v11 v13 v14 v16 v17 (v19 + (1 : Int32)) q t0 x6 D20 hx6 hD20 lD20 _ hf
        · replace hf := (if_neg h4).symm.trans hf
          refine go_ifY (pc := 511) (pc' := 517) d62_511 (XT.i0_ne_t h4) j_511_6 ?_
          refine go_iconst (pc := 517) d62_517 ci_0 (go_istoreT (pc := 518) (L0 := [.val (.ref 0), .val (.int v1), .val (.int v2), .val (.int v3), .val (.int v4), .val (.ref 1), x6, .val (.int v7), .val (.int v8), .val (.long v9), .second, .val (.long v11), .second, .val (.int v13), .val (.long v14), .second, .val (.int v16), .val (.long v17), .second, .val (.int v19)]) (L1 := [.val (.ref 0), .val (.int v1), .val (.int v2), .val (.int v3), .val (.int v4), .val (.ref 1), x6, .val (.int v7), .val (.int v8), .val (.long v9), .second, .val (.long v11), .second, .val (.int v13), .val (.long v14), .second, .val (.int v16), .val (.long v17), .second, .val (.int v19), .val (.int (0 : Int32))]) d62_518 rfl rfl hD20 lD20 fun E518 hE518 lE518 => ?_)
          exact law_520_ok hk66 hk392 hk473 ih BIG v1 v2 v3 v4 v7 v8 v9 v11 v13 v14 v16 v17 v19 (0 : Int32) q t0 x6 E518 hx6 hE518 lE518 _ hf
    · replace hf := (if_neg h1).symm.trans hf
      refine go_icY (pc := 489) (pc' := 563) d62_489 (XT.ii_ge_t h1) j_489_74 ?_
      exact law_563_ok hk66 hk392 hk473 v1 v2 v3 v4 v7 v8 v9 v11 v13 v14 v16 v17 q t0 x6 (.val (.int v19)) D20 hx6 (Or.inr ⟨_, rfl, rfl⟩) hD20 lD20 _ hf
set_option maxRecDepth 65536 in
set_option maxHeartbeats 4000000 in
theorem law_473_ok {k66 : Int32 → Int32 → Int32 → Int32 → Int32 → Int32 → List Int32 → S → Option (Int32 × S)} {k392 : Int32 → Int32 → Int32 → Int32 → Int32 → Int32 → Int64 → Int64 → Int32 → List Int32 → S → Option (Int32 × S)} (hk66 : T_law_66 k66) (hk392 : T_law_392 k392) : ∀ (n : Nat) (v1 : Int32) (v2 : Int32) (v3 : Int32) (v4 : Int32) (v7 : Int32) (v8 : Int32) (v9 : Int64) (v11 : Int64) (v13 : Int32) (v14 : Int64) (v16 : Int32) (q : List Int32) (t0 : S) (x6 : Slot) (D17 : List Slot) (hx6 : k1 x6) (hD17 : WT D17) (lD17 : D17.length = 5) (o : Int32 × S), law_473 k66 k392 n v1 v2 v3 v4 v7 v8 v9 v11 v13 v14 v16 q t0 = some o → Go PP m62 473 ([.val (.ref 0), .val (.int v1), .val (.int v2), .val (.int v3), .val (.int v4), .val (.ref 1), x6, .val (.int v7), .val (.int v8), .val (.long v9), .second, .val (.long v11), .second, .val (.int v13), .val (.long v14), .second, .val (.int v16)] ++ D17) [] (some q, [(11, t0)]) (some (.int o.1), (some q, [(11, o.2)])) := by
  intro n
  induction n with
  | zero => intro v1 v2 v3 v4 v7 v8 v9 v11 v13 v14 v16 q t0 x6 D17 hx6 hD17 lD17 o hf; exact nomatch hf
  | succ n ih =>
    intro v1 v2 v3 v4 v7 v8 v9 v11 v13 v14 v16 q t0 x6 D17 hx6 hD17 lD17 o hf
    unfold law_473 at hf
    refine go_iload (pc := 473) d62_473 rfl (go_iloadN (pc := 475) d62_475 rfl ?_)
    by_cases h1 : v1 < v16
    · replace hf := (if_pos h1).symm.trans hf
      refine go_icY (pc := 476) (pc' := 584) d62_476 (XT.ii_gt_t h1) j_476_108 ?_
      exact law_584_ok hk66 hk392 v1 v2 v3 v4 v7 v8 v9 v11 v13 v14 q t0 x6 (.val (.int v16)) D17 hx6 (Or.inr ⟨_, rfl, rfl⟩) hD17 lD17 _ hf
    · replace hf := (if_neg h1).symm.trans hf
      refine go_icN (pc := 476) d62_476 (XT.ii_gt_f h1) ?_
      refine go_lload (pc := 479) d62_479 rfl (go_lstoreT (pc := 481) (L0 := [.val (.ref 0), .val (.int v1), .val (.int v2), .val (.int v3), .val (.int v4), .val (.ref 1), x6, .val (.int v7), .val (.int v8), .val (.long v9), .second, .val (.long v11), .second, .val (.int v13), .val (.long v14), .second, .val (.int v16)]) (L1 := [.val (.ref 0), .val (.int v1), .val (.int v2), .val (.int v3), .val (.int v4), .val (.ref 1), x6, .val (.int v7), .val (.int v8), .val (.long v9), .second, .val (.long v11), .second, .val (.int v13), .val (.long v14), .second, .val (.int v16), .val (.long v14), .second]) d62_481 rfl rfl hD17 lD17 fun E481 hE481 lE481 => (go_iconst (pc := 483) d62_483 ci_0 (go_istoreT (pc := 484) (L0 := [.val (.ref 0), .val (.int v1), .val (.int v2), .val (.int v3), .val (.int v4), .val (.ref 1), x6, .val (.int v7), .val (.int v8), .val (.long v9), .second, .val (.long v11), .second, .val (.int v13), .val (.long v14), .second, .val (.int v16), .val (.long v14), .second]) (L1 := [.val (.ref 0), .val (.int v1), .val (.int v2), .val (.int v3), .val (.int v4), .val (.ref 1), x6, .val (.int v7), .val (.int v8), .val (.long v9), .second, .val (.long v11), .second, .val (.int v13), .val (.long v14), .second, .val (.int v16), .val (.long v14), .second, .val (.int (0 : Int32))]) d62_484 rfl rfl hE481 lE481 fun E484 hE484 lE484 => ?_)))
      exact law_486_ok hk66 hk392 ih BIG v1 v2 v3 v4 v7 v8 v9 v11 v13 v14 v16 v14 (0 : Int32) q t0 x6 E484 hx6 hE484 lE484 _ hf
set_option maxRecDepth 65536 in
set_option maxHeartbeats 4000000 in
theorem law_470_ok {k66 : Int32 → Int32 → Int32 → Int32 → Int32 → Int32 → List Int32 → S → Option (Int32 × S)} {k392 : Int32 → Int32 → Int32 → Int32 → Int32 → Int32 → Int64 → Int64 → Int32 → List Int32 → S → Option (Int32 × S)} (hk66 : T_law_66 k66) (hk392 : T_law_392 k392) : ∀ (v1 : Int32) (v2 : Int32) (v3 : Int32) (v4 : Int32) (v7 : Int32) (v8 : Int32) (v9 : Int64) (v11 : Int64) (v13 : Int32) (v14 : Int64) (q : List Int32) (t0 : S) (x6 : Slot) (D16 : List Slot) (hx6 : k1 x6) (hD16 : WT D16) (lD16 : D16.length = 6) (o : Int32 × S), law_470 k66 k392 v1 v2 v3 v4 v7 v8 v9 v11 v13 v14 q t0 = some o → Go PP m62 470 ([.val (.ref 0), .val (.int v1), .val (.int v2), .val (.int v3), .val (.int v4), .val (.ref 1), x6, .val (.int v7), .val (.int v8), .val (.long v9), .second, .val (.long v11), .second, .val (.int v13), .val (.long v14), .second] ++ D16) [] (some q, [(11, t0)]) (some (.int o.1), (some q, [(11, o.2)])) := by
  intro v1 v2 v3 v4 v7 v8 v9 v11 v13 v14 q t0 x6 D16 hx6 hD16 lD16 o hf
  unfold law_470 at hf
  refine go_iconst (pc := 470) d62_470 ci_0 (go_istoreT (pc := 471) (L0 := [.val (.ref 0), .val (.int v1), .val (.int v2), .val (.int v3), .val (.int v4), .val (.ref 1), x6, .val (.int v7), .val (.int v8), .val (.long v9), .second, .val (.long v11), .second, .val (.int v13), .val (.long v14), .second]) (L1 := [.val (.ref 0), .val (.int v1), .val (.int v2), .val (.int v3), .val (.int v4), .val (.ref 1), x6, .val (.int v7), .val (.int v8), .val (.long v9), .second, .val (.long v11), .second, .val (.int v13), .val (.long v14), .second, .val (.int (0 : Int32))]) d62_471 rfl rfl hD16 lD16 fun E471 hE471 lE471 => ?_)
  exact law_473_ok hk66 hk392 BIG v1 v2 v3 v4 v7 v8 v9 v11 v13 v14 (0 : Int32) q t0 x6 E471 hx6 hE471 lE471 _ hf
set_option maxRecDepth 65536 in
set_option maxHeartbeats 4000000 in
theorem law_460_ok {k66 : Int32 → Int32 → Int32 → Int32 → Int32 → Int32 → List Int32 → S → Option (Int32 × S)} {k392 : Int32 → Int32 → Int32 → Int32 → Int32 → Int32 → Int64 → Int64 → Int32 → List Int32 → S → Option (Int32 × S)} (hk66 : T_law_66 k66) (hk392 : T_law_392 k392) : ∀ (v1 : Int32) (v2 : Int32) (v3 : Int32) (v4 : Int32) (v7 : Int32) (v8 : Int32) (v9 : Int64) (v11 : Int64) (v13 : Int32) (v14 : Int64) (q : List Int32) (t0 : S) (x6 : Slot) (x16 : Slot) (D17 : List Slot) (hx6 : k1 x6) (hx16 : k1 x16) (hD17 : WT D17) (lD17 : D17.length = 5) (o : Int32 × S), law_460 k66 k392 v1 v2 v3 v4 v7 v8 v9 v11 v13 v14 q t0 = some o → Go PP m62 460 ([.val (.ref 0), .val (.int v1), .val (.int v2), .val (.int v3), .val (.int v4), .val (.ref 1), x6, .val (.int v7), .val (.int v8), .val (.long v9), .second, .val (.long v11), .second, .val (.int v13), .val (.long v14), .second, x16] ++ D17) [] (some q, [(11, t0)]) (some (.int o.1), (some q, [(11, o.2)])) := by
  intro v1 v2 v3 v4 v7 v8 v9 v11 v13 v14 q t0 x6 x16 D17 hx6 hx16 hD17 lD17 o hf
  unfold law_460 at hf
  refine go_goto (pc := 460) (pc' := 470) d62_460 j_460_10 ?_
  exact law_470_ok hk66 hk392 v1 v2 v3 v4 v7 v8 v9 v11 v13 v14 q t0 x6 ([x16] ++ D17) hx6 (wt1 hx16 hD17) (by simp [lD17]) _ hf
set_option maxRecDepth 65536 in
set_option maxHeartbeats 4000000 in
theorem law_423_ok {k66 : Int32 → Int32 → Int32 → Int32 → Int32 → Int32 → List Int32 → S → Option (Int32 × S)} {k392 : Int32 → Int32 → Int32 → Int32 → Int32 → Int32 → Int64 → Int64 → Int32 → List Int32 → S → Option (Int32 × S)} (hk66 : T_law_66 k66) (hk392 : T_law_392 k392) : ∀ (n : Nat) (v1 : Int32) (v2 : Int32) (v3 : Int32) (v4 : Int32) (v7 : Int32) (v8 : Int32) (v9 : Int64) (v11 : Int64) (v13 : Int32) (v14 : Int64) (v16 : Int32) (q : List Int32) (t0 : S) (x6 : Slot) (D17 : List Slot) (hx6 : k1 x6) (hD17 : WT D17) (lD17 : D17.length = 5) (o : Int32 × S), law_423 k66 k392 n v1 v2 v3 v4 v7 v8 v9 v11 v13 v14 v16 q t0 = some o → Go PP m62 423 ([.val (.ref 0), .val (.int v1), .val (.int v2), .val (.int v3), .val (.int v4), .val (.ref 1), x6, .val (.int v7), .val (.int v8), .val (.long v9), .second, .val (.long v11), .second, .val (.int v13), .val (.long v14), .second, .val (.int v16)] ++ D17) [] (some q, [(11, t0)]) (some (.int o.1), (some q, [(11, o.2)])) := by
  intro n
  induction n with
  | zero => intro v1 v2 v3 v4 v7 v8 v9 v11 v13 v14 v16 q t0 x6 D17 hx6 hD17 lD17 o hf; exact nomatch hf
  | succ n ih =>
    intro v1 v2 v3 v4 v7 v8 v9 v11 v13 v14 v16 q t0 x6 D17 hx6 hD17 lD17 o hf
    unfold law_423 at hf
    refine go_iload (pc := 423) d62_423 rfl (go_iloadN (pc := 425) d62_425 rfl ?_)
    by_cases h1 : v16 < v2
    · replace hf := (if_pos h1).symm.trans hf
      refine go_icN (pc := 426) d62_426 (XT.ii_ge_f h1) ?_
      refine go_aload (pc := 429) d62_429 rfl (go_iload (pc := 431) d62_431 rfl (go_iload (pc := 433) d62_433 rfl ?_))
      obtain ⟨r435, e2, hf⟩ := Option.bind_eq_some_iff.mp hf
      refine go_virt (pc := 435) (i := 0) (as := [.int v13, .int v16]) (rest := []) (w' := (some q, [(11, t0)])) lk_1_33 pd_18 rfl oid_0 rfl rfl rfl rfl rfl rfl ⟨rfl, rfl, rfl, rfl, rfl⟩ d62_435 (c_k_field v13 v16 t0 _ e2) ?_
      refine go_istoreT (pc := 438) (L0 := [.val (.ref 0), .val (.int v1), .val (.int v2), .val (.int v3), .val (.int v4), .val (.ref 1), x6, .val (.int v7), .val (.int v8), .val (.long v9), .second, .val (.long v11), .second, .val (.int v13), .val (.long v14), .second, .val (.int v16)]) (L1 := [.val (.ref 0), .val (.int v1), .val (.int v2), .val (.int v3), .val (.int v4), .val (.ref 1), x6, .val (.int v7), .val (.int v8), .val (.long v9), .second, .val (.long v11), .second, .val (.int v13), .val (.long v14), .second, .val (.int v16), .val (.int r435)]) d62_438 rfl rfl hD17 lD17 fun E438 hE438 lE438 => (go_iload (pc := 440) d62_440 rfl ?_)
      by_cases h3 : r435 < 0
      · refine go_ifY (pc := 442) (pc' := 454) d62_442 (XT.i0_lt_t h3) j_442_12 ?_
        refine go_iinc (pc := 454) (L' := ([.val (.ref 0), .val (.int v1), .val (.int v2), .val (.int v3), .val (.int v4), .val (.ref 1), x6, .val (.int v7), .val (.int v8), .val (.long v9), .second, .val (.long v11), .second, .val (.int v13), .val (.long v14), .second, .val (.int (v16 + (1 : Int32))), .val (.int r435)] ++ E438)) d62_454 rfl ci_1 (stx rfl (Or.inr ⟨_, rfl, rfl⟩) rfl) (go_goto (pc := 457) (pc' := 423) d62_457 j_457_m34 ?_)
        exact ih v1 v2 v3 v4 v7 v8 v9 v11 v13 v14 (v16 + (1 : Int32)) q t0 x6 ([.val (.int r435)] ++ E438) hx6 (wt1 (Or.inr ⟨_, rfl, rfl⟩) hE438) (by simp [lE438]) _ (by simpa only [if_pos h3] using hf)
      · refine go_ifN (pc := 442) d62_442 (XT.i0_lt_f h3) ?_
        refine go_lload (pc := 445) d62_445 rfl (go_lconst (pc := 447) d62_447 cl_1 (go_iload (pc := 448) d62_448 rfl (go_lshl (pc := 450) d62_450 (go_lor (pc := 451) d62_451 (go_lstore (pc := 452) (L' := ([.val (.ref 0), .val (.int v1), .val (.int v2), .val (.int v3), .val (.int v4), .val (.ref 1), x6, .val (.int v7), .val (.int v8), .val (.long v9), .second, .val (.long v11), .second, .val (.int v13), .val (.long (v14 ||| ((1 : Int64) <<< (r435.toInt64 &&& 63)))), .second, .val (.int v16), .val (.int r435)] ++ E438)) d62_452 (stx2 rfl rfl (Or.inr ⟨_, rfl, rfl⟩)) (go_iinc (pc := 454) (L' := ([.val (.ref 0), .val (.int v1), .val (.int v2), .val (.int v3), .val (.int v4), .val (.ref 1), x6, .val (.int v7), .val (.int v8), .val (.long v9), .second, .val (.long v11), .second, .val (.int v13), .val (.long (v14 ||| ((1 : Int64) <<< (r435.toInt64 &&& 63)))), .second, .val (.int (v16 + (1 : Int32))), .val (.int r435)] ++ E438)) d62_454 rfl ci_1 (stx rfl (Or.inr ⟨_, rfl, rfl⟩) rfl) (go_goto (pc := 457) (pc' := 423) d62_457 j_457_m34 ?_)))))))
        exact ih v1 v2 v3 v4 v7 v8 v9 v11 v13 (v14 ||| ((1 : Int64) <<< (r435.toInt64 &&& 63))) (v16 + (1 : Int32)) q t0 x6 ([.val (.int r435)] ++ E438) hx6 (wt1 (Or.inr ⟨_, rfl, rfl⟩) hE438) (by simp [lE438]) _ (by simpa only [if_neg h3] using hf)
    · replace hf := (if_neg h1).symm.trans hf
      refine go_icY (pc := 426) (pc' := 460) d62_426 (XT.ii_ge_t h1) j_426_34 ?_
      exact law_460_ok hk66 hk392 v1 v2 v3 v4 v7 v8 v9 v11 v13 v14 q t0 x6 (.val (.int v16)) D17 hx6 (Or.inr ⟨_, rfl, rfl⟩) hD17 lD17 _ hf
set_option maxRecDepth 65536 in
set_option maxHeartbeats 4000000 in
theorem law_392_ok {k66 : Int32 → Int32 → Int32 → Int32 → Int32 → Int32 → List Int32 → S → Option (Int32 × S)} (hk66 : T_law_66 k66) : ∀ (n : Nat) (v1 : Int32) (v2 : Int32) (v3 : Int32) (v4 : Int32) (v7 : Int32) (v8 : Int32) (v9 : Int64) (v11 : Int64) (v13 : Int32) (q : List Int32) (t0 : S) (x6 : Slot) (D14 : List Slot) (hx6 : k1 x6) (hD14 : WT D14) (lD14 : D14.length = 8) (o : Int32 × S), law_392 k66 n v1 v2 v3 v4 v7 v8 v9 v11 v13 q t0 = some o → Go PP m62 392 ([.val (.ref 0), .val (.int v1), .val (.int v2), .val (.int v3), .val (.int v4), .val (.ref 1), x6, .val (.int v7), .val (.int v8), .val (.long v9), .second, .val (.long v11), .second, .val (.int v13)] ++ D14) [] (some q, [(11, t0)]) (some (.int o.1), (some q, [(11, o.2)])) := by
  intro n
  induction n with
  | zero => intro v1 v2 v3 v4 v7 v8 v9 v11 v13 q t0 x6 D14 hx6 hD14 lD14 o hf; exact nomatch hf
  | succ n ih =>
    intro v1 v2 v3 v4 v7 v8 v9 v11 v13 q t0 x6 D14 hx6 hD14 lD14 o hf
    unfold law_392 at hf
    refine go_iload (pc := 392) d62_392 rfl (go_iloadN (pc := 394) d62_394 rfl ?_)
    by_cases h1 : v1 < v13
    · replace hf := (if_pos h1).symm.trans hf
      refine go_icY (pc := 395) (pc' := 659) d62_395 (XT.ii_gt_t h1) j_395_264 ?_
      exact law_659_ok hk66 v1 v2 v3 v4 v7 v8 q t0 x6 (.val (.long v9)) .second ([.val (.long v11), .second, .val (.int v13)] ++ D14) hx6 (Or.inr ⟨_, rfl, rfl⟩) (wt2 (wt1 (Or.inr ⟨_, rfl, rfl⟩) hD14)) (by simp [lD14]) _ hf
    · replace hf := (if_neg h1).symm.trans hf
      refine go_icN (pc := 395) d62_395 (XT.ii_gt_f h1) ?_
      refine go_lconst (pc := 398) d62_398 cl_0 (go_lstoreT (pc := 399) (L0 := [.val (.ref 0), .val (.int v1), .val (.int v2), .val (.int v3), .val (.int v4), .val (.ref 1), x6, .val (.int v7), .val (.int v8), .val (.long v9), .second, .val (.long v11), .second, .val (.int v13)]) (L1 := [.val (.ref 0), .val (.int v1), .val (.int v2), .val (.int v3), .val (.int v4), .val (.ref 1), x6, .val (.int v7), .val (.int v8), .val (.long v9), .second, .val (.long v11), .second, .val (.int v13), .val (.long (0 : Int64)), .second]) d62_399 rfl rfl hD14 lD14 fun E399 hE399 lE399 => (go_iload (pc := 401) d62_401 rfl (go_iloadN (pc := 403) d62_403 rfl ?_)))
      by_cases h2 : v13 < v1
      · replace hf := (if_pos h2).symm.trans hf
        refine go_icN (pc := 404) d62_404 (XT.ii_ge_f h2) ?_
        refine go_aload (pc := 407) d62_407 rfl (go_iload (pc := 409) d62_409 rfl ?_)
        obtain ⟨r411, e3, hf⟩ := Option.bind_eq_some_iff.mp hf
        refine go_virt (pc := 411) (i := 0) (as := [.int v13]) (rest := []) (w' := (some q, [(11, t0)])) lk_1_26 pd_13 rfl oid_0 rfl rfl rfl rfl rfl rfl ⟨rfl, rfl, rfl, rfl, rfl⟩ d62_411 (c_k_isLive v13 t0 _ e3) ?_
        by_cases h4 : r411 = 0
        · replace hf := (if_pos h4).symm.trans hf
          refine go_ifN (pc := 414) d62_414 (XT.i0_ne_f h4) ?_
          refine go_goto (pc := 417) (pc' := 653) d62_417 j_417_236 (go_iinc (pc := 653) (L' := ([.val (.ref 0), .val (.int v1), .val (.int v2), .val (.int v3), .val (.int v4), .val (.ref 1), x6, .val (.int v7), .val (.int v8), .val (.long v9), .second, .val (.long v11), .second, .val (.int (v13 + (1 : Int32))), .val (.long (0 : Int64)), .second] ++ E399)) d62_653 rfl ci_1 (stx rfl (Or.inr ⟨_, rfl, rfl⟩) rfl) (go_goto (pc := 656) (pc' := 392) d62_656 j_656_m264 ?_))
          exact ih v1 v2 v3 v4 v7 v8 v9 v11 (v13 + (1 : Int32)) q t0 x6 ([.val (.long (0 : Int64)), .second] ++ E399) hx6 (wt2 hE399) (by simp [lE399]) _ hf
        · replace hf := (if_neg h4).symm.trans hf
          refine go_ifY (pc := 414) (pc' := 420) d62_414 (XT.i0_ne_t h4) j_414_6 ?_
          refine go_iconst (pc := 420) d62_420 ci_0 (go_istoreT (pc := 421) (L0 := [.val (.ref 0), .val (.int v1), .val (.int v2), .val (.int v3), .val (.int v4), .val (.ref 1), x6, .val (.int v7), .val (.int v8), .val (.long v9), .second, .val (.long v11), .second, .val (.int v13), .val (.long (0 : Int64)), .second]) (L1 := [.val (.ref 0), .val (.int v1), .val (.int v2), .val (.int v3), .val (.int v4), .val (.ref 1), x6, .val (.int v7), .val (.int v8), .val (.long v9), .second, .val (.long v11), .second, .val (.int v13), .val (.long (0 : Int64)), .second, .val (.int (0 : Int32))]) d62_421 rfl rfl hE399 lE399 fun E421 hE421 lE421 => ?_)
          exact law_423_ok hk66 ih BIG v1 v2 v3 v4 v7 v8 v9 v11 v13 (0 : Int64) (0 : Int32) q t0 x6 E421 hx6 hE421 lE421 _ hf
      · replace hf := (if_neg h2).symm.trans hf
        refine go_icY (pc := 404) (pc' := 463) d62_404 (XT.ii_ge_t h2) j_404_59 ?_
        refine go_lload (pc := 463) d62_463 rfl (go_lload (pc := 465) d62_465 rfl (go_lor (pc := 467) d62_467 (go_lstore (pc := 468) (L' := ([.val (.ref 0), .val (.int v1), .val (.int v2), .val (.int v3), .val (.int v4), .val (.ref 1), x6, .val (.int v7), .val (.int v8), .val (.long v9), .second, .val (.long v11), .second, .val (.int v13), .val (.long (v9 ||| v11)), .second] ++ E399)) d62_468 (stx2 rfl rfl (Or.inr ⟨_, rfl, rfl⟩)) ?_)))
        exact law_470_ok hk66 ih v1 v2 v3 v4 v7 v8 v9 v11 v13 (v9 ||| v11) q t0 x6 E399 hx6 hE399 lE399 _ hf
set_option maxRecDepth 65536 in
set_option maxHeartbeats 4000000 in
theorem law_369_ok {k66 : Int32 → Int32 → Int32 → Int32 → Int32 → Int32 → List Int32 → S → Option (Int32 × S)} (hk66 : T_law_66 k66) : ∀ (v1 : Int32) (v2 : Int32) (v3 : Int32) (v4 : Int32) (v6 : Int32) (v7 : Int32) (v8 : Int32) (v9 : Int64) (q : List Int32) (t0 : S) (x11 : Slot) (x12 : Slot) (x13 : Slot) (x14 : Slot) (x15 : Slot) (x16 : Slot) (D17 : List Slot) (hx11 : k1 x11) (hx12 : k1 x12) (hx13 : k1 x13) (hx14 : k1 x14) (hx15 : k1 x15) (hx16 : k1 x16) (hD17 : WT D17) (lD17 : D17.length = 5) (o : Int32 × S), law_369 k66 v1 v2 v3 v4 v6 v7 v8 v9 q t0 = some o → Go PP m62 369 ([.val (.ref 0), .val (.int v1), .val (.int v2), .val (.int v3), .val (.int v4), .val (.ref 1), .val (.int v6), .val (.int v7), .val (.int v8), .val (.long v9), .second, x11, x12, x13, x14, x15, x16] ++ D17) [] (some q, [(11, t0)]) (some (.int o.1), (some q, [(11, o.2)])) := by
  intro v1 v2 v3 v4 v6 v7 v8 v9 q t0 x11 x12 x13 x14 x15 x16 D17 hx11 hx12 hx13 hx14 hx15 hx16 hD17 lD17 o hf
  unfold law_369 at hf
  refine go_aload (pc := 369) d62_369 rfl ?_
  refine go_virt (pc := 371) (i := 0) (as := []) (rest := []) (w' := (some q, [(11, t0)])) lk_1_40 pd_20 rfl oid_0 rfl rfl rfl rfl rfl rfl ⟨rfl, rfl, rfl, rfl, rfl⟩ d62_371 (c_k_tableSize t0) ?_
  refine go_iload (pc := 374) d62_374 rfl ?_
  by_cases h1 : v4 < (k_tableSize t0)
  · replace hf := (if_pos h1).symm.trans hf
    refine go_icN (pc := 376) d62_376 (XT.ii_le_f h1) ?_
    refine go_iconst (pc := 379) d62_379 ci_0 ?_
    cases hf
    exact go_zret (pc := 380) rfl d62_380 (show (0 : Int32) = nar .boolean (0 : Int32) by decide)
  · replace hf := (if_neg h1).symm.trans hf
    refine go_icY (pc := 376) (pc' := 381) d62_376 (XT.ii_le_t h1) j_376_5 ?_
    refine go_iload (pc := 381) d62_381 rfl ?_
    by_cases h2 : v6 = 0
    · replace hf := (if_pos h2).symm.trans hf
      refine go_ifY (pc := 383) (pc' := 659) d62_383 (XT.i0_eq_t h2) j_383_276 ?_
      exact law_659_ok hk66 v1 v2 v3 v4 v7 v8 q t0 (.val (.int v6)) (.val (.long v9)) .second ([x11, x12, x13, x14, x15, x16] ++ D17) (Or.inr ⟨_, rfl, rfl⟩) (Or.inr ⟨_, rfl, rfl⟩) (wt1 hx11 (wt1 hx12 (wt1 hx13 (wt1 hx14 (wt1 hx15 (wt1 hx16 hD17)))))) (by simp [lD17]) _ hf
    · replace hf := (if_neg h2).symm.trans hf
      refine go_ifN (pc := 383) d62_383 (XT.i0_eq_f h2) ?_
      refine go_lconst (pc := 386) d62_386 cl_0 (go_lstore (pc := 387) (L' := ([.val (.ref 0), .val (.int v1), .val (.int v2), .val (.int v3), .val (.int v4), .val (.ref 1), .val (.int v6), .val (.int v7), .val (.int v8), .val (.long v9), .second, .val (.long (0 : Int64)), .second, x13, x14, x15, x16] ++ D17)) d62_387 (stx3 rfl rfl hx11 hx12) (go_iconst (pc := 389) d62_389 ci_0 (go_istore (pc := 390) (L' := ([.val (.ref 0), .val (.int v1), .val (.int v2), .val (.int v3), .val (.int v4), .val (.ref 1), .val (.int v6), .val (.int v7), .val (.int v8), .val (.long v9), .second, .val (.long (0 : Int64)), .second, .val (.int (0 : Int32)), x14, x15, x16] ++ D17)) d62_390 (stx rfl hx13 rfl) ?_)))
      exact law_392_ok hk66 BIG v1 v2 v3 v4 v7 v8 v9 (0 : Int64) (0 : Int32) q t0 (.val (.int v6)) ([x14, x15, x16] ++ D17) (Or.inr ⟨_, rfl, rfl⟩) (wt1 hx14 (wt1 hx15 (wt1 hx16 hD17))) (by simp [lD17]) _ hf
def T_law_250 (k250 : Int32 → Int32 → Int32 → Int32 → Int32 → Int32 → Int32 → Int64 → Int32 → List Int32 → S → Option (Int32 × S)) : Prop := ∀ (v1 : Int32) (v2 : Int32) (v3 : Int32) (v4 : Int32) (v6 : Int32) (v7 : Int32) (v8 : Int32) (v9 : Int64) (v11 : Int32) (q : List Int32) (t0 : S) (x12 : Slot) (x13 : Slot) (x14 : Slot) (x15 : Slot) (x16 : Slot) (D17 : List Slot) (hx12 : k1 x12) (hx13 : k1 x13) (hx14 : k1 x14) (hx15 : k1 x15) (hx16 : k1 x16) (hD17 : WT D17) (lD17 : D17.length = 5) (o : Int32 × S), k250 v1 v2 v3 v4 v6 v7 v8 v9 v11 q t0 = some o → Go PP m62 250 ([.val (.ref 0), .val (.int v1), .val (.int v2), .val (.int v3), .val (.int v4), .val (.ref 1), .val (.int v6), .val (.int v7), .val (.int v8), .val (.long v9), .second, .val (.int v11), x12, x13, x14, x15, x16] ++ D17) [] (some q, [(11, t0)]) (some (.int o.1), (some q, [(11, o.2)]))
set_option maxRecDepth 65536 in
set_option maxHeartbeats 4000000 in
theorem law_332_ok {k66 : Int32 → Int32 → Int32 → Int32 → Int32 → Int32 → List Int32 → S → Option (Int32 × S)} {k250 : Int32 → Int32 → Int32 → Int32 → Int32 → Int32 → Int32 → Int64 → Int32 → List Int32 → S → Option (Int32 × S)} (hk66 : T_law_66 k66) (hk250 : T_law_250 k250) : ∀ (v1 : Int32) (v2 : Int32) (v3 : Int32) (v4 : Int32) (v6 : Int32) (v7 : Int32) (v8 : Int32) (v9 : Int64) (v11 : Int32) (v12 : Int32) (q : List Int32) (t0 : S) (x13 : Slot) (x14 : Slot) (x15 : Slot) (x16 : Slot) (D17 : List Slot) (hx13 : k1 x13) (hx14 : k1 x14) (hx15 : k1 x15) (hx16 : k1 x16) (hD17 : WT D17) (lD17 : D17.length = 5) (o : Int32 × S), law_332 k66 k250 v1 v2 v3 v4 v6 v7 v8 v9 v11 v12 q t0 = some o → Go PP m62 332 ([.val (.ref 0), .val (.int v1), .val (.int v2), .val (.int v3), .val (.int v4), .val (.ref 1), .val (.int v6), .val (.int v7), .val (.int v8), .val (.long v9), .second, .val (.int v11), .val (.int v12), x13, x14, x15, x16] ++ D17) [] (some q, [(11, t0)]) (some (.int o.1), (some q, [(11, o.2)])) := by
  intro v1 v2 v3 v4 v6 v7 v8 v9 v11 v12 q t0 x13 x14 x15 x16 D17 hx13 hx14 hx15 hx16 hD17 lD17 o hf
  unfold law_332 at hf
  refine go_aload (pc := 332) d62_332 rfl (go_iload (pc := 334) d62_334 rfl ?_)
  obtain ⟨r336, e1, hf⟩ := Option.bind_eq_some_iff.mp hf
  refine go_virt (pc := 336) (i := 0) (as := [.int v11]) (rest := []) (w' := (some q, [(11, t0)])) lk_1_37 pd_19 rfl oid_0 rfl rfl rfl rfl rfl rfl ⟨rfl, rfl, rfl, rfl, rfl⟩ d62_336 (c_k_count v11 t0 _ e1) ?_
  refine go_iload (pc := 339) d62_339 rfl ?_
  by_cases h2 : r336 = v12
  · replace hf := (if_pos h2).symm.trans hf
    refine go_icY (pc := 341) (pc' := 346) d62_341 (XT.ii_eq_t h2) j_341_5 ?_
    refine go_iload (pc := 346) d62_346 rfl ?_
    by_cases h3 : v12 = 0
    · replace hf := (if_pos h3).symm.trans hf
      refine go_ifN (pc := 348) d62_348 (XT.i0_ne_f h3) ?_
      refine go_aload (pc := 351) d62_351 rfl (go_iload (pc := 353) d62_353 rfl ?_)
      obtain ⟨r355, e4, hf⟩ := Option.bind_eq_some_iff.mp hf
      refine go_virt (pc := 355) (i := 0) (as := [.int v11]) (rest := []) (w' := (some q, [(11, t0)])) lk_1_30 pd_15 rfl oid_0 rfl rfl rfl rfl rfl rfl ⟨rfl, rfl, rfl, rfl, rfl⟩ d62_355 (c_k_inTable v11 t0 _ e4) ?_
      by_cases h5 : r355 = 0
      · replace hf := (if_pos h5).symm.trans hf
        refine go_ifN (pc := 358) d62_358 (XT.i0_ne_f h5) ?_
        refine go_iconst (pc := 361) d62_361 ci_0 ?_
        cases hf
        exact go_zret (pc := 362) rfl d62_362 (show (0 : Int32) = nar .boolean (0 : Int32) by decide)
      · replace hf := (if_neg h5).symm.trans hf
        refine go_ifY (pc := 358) (pc' := 363) d62_358 (XT.i0_ne_t h5) j_358_5 ?_
        refine go_iinc (pc := 363) (L' := ([.val (.ref 0), .val (.int v1), .val (.int v2), .val (.int v3), .val (.int v4), .val (.ref 1), .val (.int v6), .val (.int v7), .val (.int v8), .val (.long v9), .second, .val (.int (v11 + (1 : Int32))), .val (.int v12), x13, x14, x15, x16] ++ D17)) d62_363 rfl ci_1 (stx rfl (Or.inr ⟨_, rfl, rfl⟩) rfl) (go_goto (pc := 366) (pc' := 250) d62_366 j_366_m116 ?_)
        exact hk250 v1 v2 v3 v4 v6 v7 v8 v9 (v11 + (1 : Int32)) q t0 (.val (.int v12)) x13 x14 x15 x16 D17 (Or.inr ⟨_, rfl, rfl⟩) hx13 hx14 hx15 hx16 hD17 lD17 _ hf
    · replace hf := (if_neg h3).symm.trans hf
      refine go_ifY (pc := 348) (pc' := 363) d62_348 (XT.i0_ne_t h3) j_348_15 ?_
      refine go_iinc (pc := 363) (L' := ([.val (.ref 0), .val (.int v1), .val (.int v2), .val (.int v3), .val (.int v4), .val (.ref 1), .val (.int v6), .val (.int v7), .val (.int v8), .val (.long v9), .second, .val (.int (v11 + (1 : Int32))), .val (.int v12), x13, x14, x15, x16] ++ D17)) d62_363 rfl ci_1 (stx rfl (Or.inr ⟨_, rfl, rfl⟩) rfl) (go_goto (pc := 366) (pc' := 250) d62_366 j_366_m116 ?_)
      exact hk250 v1 v2 v3 v4 v6 v7 v8 v9 (v11 + (1 : Int32)) q t0 (.val (.int v12)) x13 x14 x15 x16 D17 (Or.inr ⟨_, rfl, rfl⟩) hx13 hx14 hx15 hx16 hD17 lD17 _ hf
  · replace hf := (if_neg h2).symm.trans hf
    refine go_icN (pc := 341) d62_341 (XT.ii_eq_f h2) ?_
    refine go_iconst (pc := 344) d62_344 ci_0 ?_
    cases hf
    exact go_zret (pc := 345) rfl d62_345 (show (0 : Int32) = nar .boolean (0 : Int32) by decide)
def T_law_275 (k275 : Int32 → Int32 → Int32 → Int32 → Int32 → Int32 → Int32 → Int64 → Int32 → Int32 → Int32 → List Int32 → S → Option (Int32 × S)) : Prop := ∀ (v1 : Int32) (v2 : Int32) (v3 : Int32) (v4 : Int32) (v6 : Int32) (v7 : Int32) (v8 : Int32) (v9 : Int64) (v11 : Int32) (v12 : Int32) (v13 : Int32) (q : List Int32) (t0 : S) (x14 : Slot) (x15 : Slot) (x16 : Slot) (D17 : List Slot) (hx14 : k1 x14) (hx15 : k1 x15) (hx16 : k1 x16) (hD17 : WT D17) (lD17 : D17.length = 5) (o : Int32 × S), k275 v1 v2 v3 v4 v6 v7 v8 v9 v11 v12 v13 q t0 = some o → Go PP m62 275 ([.val (.ref 0), .val (.int v1), .val (.int v2), .val (.int v3), .val (.int v4), .val (.ref 1), .val (.int v6), .val (.int v7), .val (.int v8), .val (.long v9), .second, .val (.int v11), .val (.int v12), .val (.int v13), x14, x15, x16] ++ D17) [] (some q, [(11, t0)]) (some (.int o.1), (some q, [(11, o.2)]))
set_option maxRecDepth 65536 in
set_option maxHeartbeats 4000000 in
theorem law_297_ok {k66 : Int32 → Int32 → Int32 → Int32 → Int32 → Int32 → List Int32 → S → Option (Int32 × S)} {k250 : Int32 → Int32 → Int32 → Int32 → Int32 → Int32 → Int32 → Int64 → Int32 → List Int32 → S → Option (Int32 × S)} {k275 : Int32 → Int32 → Int32 → Int32 → Int32 → Int32 → Int32 → Int64 → Int32 → Int32 → Int32 → List Int32 → S → Option (Int32 × S)} (hk66 : T_law_66 k66) (hk250 : T_law_250 k250) (hk275 : T_law_275 k275) : ∀ (n : Nat) (v1 : Int32) (v2 : Int32) (v3 : Int32) (v4 : Int32) (v6 : Int32) (v7 : Int32) (v8 : Int32) (v9 : Int64) (v11 : Int32) (v12 : Int32) (v13 : Int32) (v14 : Int32) (q : List Int32) (t0 : S) (x15 : Slot) (x16 : Slot) (D17 : List Slot) (hx15 : k1 x15) (hx16 : k1 x16) (hD17 : WT D17) (lD17 : D17.length = 5) (o : Int32 × S), law_297 k66 k250 k275 n v1 v2 v3 v4 v6 v7 v8 v9 v11 v12 v13 v14 q t0 = some o → Go PP m62 297 ([.val (.ref 0), .val (.int v1), .val (.int v2), .val (.int v3), .val (.int v4), .val (.ref 1), .val (.int v6), .val (.int v7), .val (.int v8), .val (.long v9), .second, .val (.int v11), .val (.int v12), .val (.int v13), .val (.int v14), x15, x16] ++ D17) [] (some q, [(11, t0)]) (some (.int o.1), (some q, [(11, o.2)])) := by
  intro n
  induction n with
  | zero => intro v1 v2 v3 v4 v6 v7 v8 v9 v11 v12 v13 v14 q t0 x15 x16 D17 hx15 hx16 hD17 lD17 o hf; exact nomatch hf
  | succ n ih =>
    intro v1 v2 v3 v4 v6 v7 v8 v9 v11 v12 v13 v14 q t0 x15 x16 D17 hx15 hx16 hD17 lD17 o hf
    unfold law_297 at hf
    refine go_iload (pc := 297) d62_297 rfl (go_iloadN (pc := 299) d62_299 rfl ?_)
    by_cases h1 : v14 < v2
    · replace hf := (if_pos h1).symm.trans hf
      refine go_icN (pc := 300) d62_300 (XT.ii_ge_f h1) ?_
      refine go_aload (pc := 303) d62_303 rfl (go_iload (pc := 305) d62_305 rfl (go_iload (pc := 307) d62_307 rfl ?_))
      obtain ⟨r309, e2, hf⟩ := Option.bind_eq_some_iff.mp hf
      refine go_virt (pc := 309) (i := 0) (as := [.int v13, .int v14]) (rest := []) (w' := (some q, [(11, t0)])) lk_1_33 pd_18 rfl oid_0 rfl rfl rfl rfl rfl rfl ⟨rfl, rfl, rfl, rfl, rfl⟩ d62_309 (c_k_field v13 v14 t0 _ e2) ?_
      refine go_iload (pc := 312) d62_312 rfl ?_
      by_cases h3 : r309 = v11
      · refine go_icN (pc := 314) d62_314 (XT.ii_ne_f h3) ?_
        refine go_iinc (pc := 317) (L' := ([.val (.ref 0), .val (.int v1), .val (.int v2), .val (.int v3), .val (.int v4), .val (.ref 1), .val (.int v6), .val (.int v7), .val (.int v8), .val (.long v9), .second, .val (.int v11), .val (.int (v12 + (1 : Int32))), .val (.int v13), .val (.int v14), x15, x16] ++ D17)) d62_317 rfl ci_1 (stx rfl (Or.inr ⟨_, rfl, rfl⟩) rfl) (go_iinc (pc := 320) (L' := ([.val (.ref 0), .val (.int v1), .val (.int v2), .val (.int v3), .val (.int v4), .val (.ref 1), .val (.int v6), .val (.int v7), .val (.int v8), .val (.long v9), .second, .val (.int v11), .val (.int (v12 + (1 : Int32))), .val (.int v13), .val (.int (v14 + (1 : Int32))), x15, x16] ++ D17)) d62_320 rfl ci_1 (stx rfl (Or.inr ⟨_, rfl, rfl⟩) rfl) (go_goto (pc := 323) (pc' := 297) d62_323 j_323_m26 ?_))
        exact ih v1 v2 v3 v4 v6 v7 v8 v9 v11 (v12 + (1 : Int32)) v13 (v14 + (1 : Int32)) q t0 x15 x16 D17 hx15 hx16 hD17 lD17 _ (by simpa only [if_pos h3] using hf)
      · refine go_icY (pc := 314) (pc' := 320) d62_314 (XT.ii_ne_t h3) j_314_6 ?_
        refine go_iinc (pc := 320) (L' := ([.val (.ref 0), .val (.int v1), .val (.int v2), .val (.int v3), .val (.int v4), .val (.ref 1), .val (.int v6), .val (.int v7), .val (.int v8), .val (.long v9), .second, .val (.int v11), .val (.int v12), .val (.int v13), .val (.int (v14 + (1 : Int32))), x15, x16] ++ D17)) d62_320 rfl ci_1 (stx rfl (Or.inr ⟨_, rfl, rfl⟩) rfl) (go_goto (pc := 323) (pc' := 297) d62_323 j_323_m26 ?_)
        exact ih v1 v2 v3 v4 v6 v7 v8 v9 v11 v12 v13 (v14 + (1 : Int32)) q t0 x15 x16 D17 hx15 hx16 hD17 lD17 _ (by simpa only [if_neg h3] using hf)
    · replace hf := (if_neg h1).symm.trans hf
      refine go_icY (pc := 300) (pc' := 326) d62_300 (XT.ii_ge_t h1) j_300_26 ?_
      refine go_iinc (pc := 326) (L' := ([.val (.ref 0), .val (.int v1), .val (.int v2), .val (.int v3), .val (.int v4), .val (.ref 1), .val (.int v6), .val (.int v7), .val (.int v8), .val (.long v9), .second, .val (.int v11), .val (.int v12), .val (.int (v13 + (1 : Int32))), .val (.int v14), x15, x16] ++ D17)) d62_326 rfl ci_1 (stx rfl (Or.inr ⟨_, rfl, rfl⟩) rfl) (go_goto (pc := 329) (pc' := 275) d62_329 j_329_m54 ?_)
      exact hk275 v1 v2 v3 v4 v6 v7 v8 v9 v11 v12 (v13 + (1 : Int32)) q t0 (.val (.int v14)) x15 x16 D17 (Or.inr ⟨_, rfl, rfl⟩) hx15 hx16 hD17 lD17 _ hf
set_option maxRecDepth 65536 in
set_option maxHeartbeats 4000000 in
theorem law_275_ok {k66 : Int32 → Int32 → Int32 → Int32 → Int32 → Int32 → List Int32 → S → Option (Int32 × S)} {k250 : Int32 → Int32 → Int32 → Int32 → Int32 → Int32 → Int32 → Int64 → Int32 → List Int32 → S → Option (Int32 × S)} (hk66 : T_law_66 k66) (hk250 : T_law_250 k250) : ∀ (n : Nat) (v1 : Int32) (v2 : Int32) (v3 : Int32) (v4 : Int32) (v6 : Int32) (v7 : Int32) (v8 : Int32) (v9 : Int64) (v11 : Int32) (v12 : Int32) (v13 : Int32) (q : List Int32) (t0 : S) (x14 : Slot) (x15 : Slot) (x16 : Slot) (D17 : List Slot) (hx14 : k1 x14) (hx15 : k1 x15) (hx16 : k1 x16) (hD17 : WT D17) (lD17 : D17.length = 5) (o : Int32 × S), law_275 k66 k250 n v1 v2 v3 v4 v6 v7 v8 v9 v11 v12 v13 q t0 = some o → Go PP m62 275 ([.val (.ref 0), .val (.int v1), .val (.int v2), .val (.int v3), .val (.int v4), .val (.ref 1), .val (.int v6), .val (.int v7), .val (.int v8), .val (.long v9), .second, .val (.int v11), .val (.int v12), .val (.int v13), x14, x15, x16] ++ D17) [] (some q, [(11, t0)]) (some (.int o.1), (some q, [(11, o.2)])) := by
  intro n
  induction n with
  | zero => intro v1 v2 v3 v4 v6 v7 v8 v9 v11 v12 v13 q t0 x14 x15 x16 D17 hx14 hx15 hx16 hD17 lD17 o hf; exact nomatch hf
  | succ n ih =>
    intro v1 v2 v3 v4 v6 v7 v8 v9 v11 v12 v13 q t0 x14 x15 x16 D17 hx14 hx15 hx16 hD17 lD17 o hf
    unfold law_275 at hf
    refine go_iload (pc := 275) d62_275 rfl (go_iloadN (pc := 277) d62_277 rfl ?_)
    by_cases h1 : v13 < v1
    · replace hf := (if_pos h1).symm.trans hf
      refine go_icN (pc := 278) d62_278 (XT.ii_ge_f h1) ?_
      refine go_aload (pc := 281) d62_281 rfl (go_iload (pc := 283) d62_283 rfl ?_)
      obtain ⟨r285, e2, hf⟩ := Option.bind_eq_some_iff.mp hf
      refine go_virt (pc := 285) (i := 0) (as := [.int v13]) (rest := []) (w' := (some q, [(11, t0)])) lk_1_26 pd_13 rfl oid_0 rfl rfl rfl rfl rfl rfl ⟨rfl, rfl, rfl, rfl, rfl⟩ d62_285 (c_k_isLive v13 t0 _ e2) ?_
      by_cases h3 : r285 = 0
      · replace hf := (if_pos h3).symm.trans hf
        refine go_ifN (pc := 288) d62_288 (XT.i0_ne_f h3) ?_
        refine go_goto (pc := 291) (pc' := 326) d62_291 j_291_35 (go_iinc (pc := 326) (L' := ([.val (.ref 0), .val (.int v1), .val (.int v2), .val (.int v3), .val (.int v4), .val (.ref 1), .val (.int v6), .val (.int v7), .val (.int v8), .val (.long v9), .second, .val (.int v11), .val (.int v12), .val (.int (v13 + (1 : Int32))), x14, x15, x16] ++ D17)) d62_326 rfl ci_1 (stx rfl (Or.inr ⟨_, rfl, rfl⟩) rfl) (go_goto (pc := 329) (pc' := 275) d62_329 j_329_m54 ?_))
        exact ih v1 v2 v3 v4 v6 v7 v8 v9 v11 v12 (v13 + (1 : Int32)) q t0 x14 x15 x16 D17 hx14 hx15 hx16 hD17 lD17 _ hf
      · replace hf := (if_neg h3).symm.trans hf
        refine go_ifY (pc := 288) (pc' := 294) d62_288 (XT.i0_ne_t h3) j_288_6 ?_
        refine go_iconst (pc := 294) d62_294 ci_0 (go_istore (pc := 295) (L' := ([.val (.ref 0), .val (.int v1), .val (.int v2), .val (.int v3), .val (.int v4), .val (.ref 1), .val (.int v6), .val (.int v7), .val (.int v8), .val (.long v9), .second, .val (.int v11), .val (.int v12), .val (.int v13), .val (.int (0 : Int32)), x15, x16] ++ D17)) d62_295 (stx rfl hx14 rfl) ?_)
        exact law_297_ok hk66 hk250 ih BIG v1 v2 v3 v4 v6 v7 v8 v9 v11 v12 v13 (0 : Int32) q t0 x15 x16 D17 hx15 hx16 hD17 lD17 _ hf
    · replace hf := (if_neg h1).symm.trans hf
      refine go_icY (pc := 278) (pc' := 332) d62_278 (XT.ii_ge_t h1) j_278_54 ?_
      exact law_332_ok hk66 hk250 v1 v2 v3 v4 v6 v7 v8 v9 v11 v12 q t0 (.val (.int v13)) x14 x15 x16 D17 (Or.inr ⟨_, rfl, rfl⟩) hx14 hx15 hx16 hD17 lD17 _ hf
set_option maxRecDepth 65536 in
set_option maxHeartbeats 4000000 in
theorem law_250_ok {k66 : Int32 → Int32 → Int32 → Int32 → Int32 → Int32 → List Int32 → S → Option (Int32 × S)} (hk66 : T_law_66 k66) : ∀ (n : Nat) (v1 : Int32) (v2 : Int32) (v3 : Int32) (v4 : Int32) (v6 : Int32) (v7 : Int32) (v8 : Int32) (v9 : Int64) (v11 : Int32) (q : List Int32) (t0 : S) (x12 : Slot) (x13 : Slot) (x14 : Slot) (x15 : Slot) (x16 : Slot) (D17 : List Slot) (hx12 : k1 x12) (hx13 : k1 x13) (hx14 : k1 x14) (hx15 : k1 x15) (hx16 : k1 x16) (hD17 : WT D17) (lD17 : D17.length = 5) (o : Int32 × S), law_250 k66 n v1 v2 v3 v4 v6 v7 v8 v9 v11 q t0 = some o → Go PP m62 250 ([.val (.ref 0), .val (.int v1), .val (.int v2), .val (.int v3), .val (.int v4), .val (.ref 1), .val (.int v6), .val (.int v7), .val (.int v8), .val (.long v9), .second, .val (.int v11), x12, x13, x14, x15, x16] ++ D17) [] (some q, [(11, t0)]) (some (.int o.1), (some q, [(11, o.2)])) := by
  intro n
  induction n with
  | zero => intro v1 v2 v3 v4 v6 v7 v8 v9 v11 q t0 x12 x13 x14 x15 x16 D17 hx12 hx13 hx14 hx15 hx16 hD17 lD17 o hf; exact nomatch hf
  | succ n ih =>
    intro v1 v2 v3 v4 v6 v7 v8 v9 v11 q t0 x12 x13 x14 x15 x16 D17 hx12 hx13 hx14 hx15 hx16 hD17 lD17 o hf
    unfold law_250 at hf
    refine go_iload (pc := 250) d62_250 rfl (go_iloadN (pc := 252) d62_252 rfl ?_)
    by_cases h1 : v11 < v1
    · replace hf := (if_pos h1).symm.trans hf
      refine go_icN (pc := 253) d62_253 (XT.ii_ge_f h1) ?_
      refine go_aload (pc := 256) d62_256 rfl (go_iload (pc := 258) d62_258 rfl ?_)
      obtain ⟨r260, e2, hf⟩ := Option.bind_eq_some_iff.mp hf
      refine go_virt (pc := 260) (i := 0) (as := [.int v11]) (rest := []) (w' := (some q, [(11, t0)])) lk_1_26 pd_13 rfl oid_0 rfl rfl rfl rfl rfl rfl ⟨rfl, rfl, rfl, rfl, rfl⟩ d62_260 (c_k_isLive v11 t0 _ e2) ?_
      by_cases h3 : r260 = 0
      · replace hf := (if_pos h3).symm.trans hf
        refine go_ifN (pc := 263) d62_263 (XT.i0_ne_f h3) ?_
        refine go_goto (pc := 266) (pc' := 363) d62_266 j_266_97 (go_iinc (pc := 363) (L' := ([.val (.ref 0), .val (.int v1), .val (.int v2), .val (.int v3), .val (.int v4), .val (.ref 1), .val (.int v6), .val (.int v7), .val (.int v8), .val (.long v9), .second, .val (.int (v11 + (1 : Int32))), x12, x13, x14, x15, x16] ++ D17)) d62_363 rfl ci_1 (stx rfl (Or.inr ⟨_, rfl, rfl⟩) rfl) (go_goto (pc := 366) (pc' := 250) d62_366 j_366_m116 ?_))
        exact ih v1 v2 v3 v4 v6 v7 v8 v9 (v11 + (1 : Int32)) q t0 x12 x13 x14 x15 x16 D17 hx12 hx13 hx14 hx15 hx16 hD17 lD17 _ hf
      · replace hf := (if_neg h3).symm.trans hf
        refine go_ifY (pc := 263) (pc' := 269) d62_263 (XT.i0_ne_t h3) j_263_6 ?_
        refine go_iconst (pc := 269) d62_269 ci_0 (go_istore (pc := 270) (L' := ([.val (.ref 0), .val (.int v1), .val (.int v2), .val (.int v3), .val (.int v4), .val (.ref 1), .val (.int v6), .val (.int v7), .val (.int v8), .val (.long v9), .second, .val (.int v11), .val (.int (0 : Int32)), x13, x14, x15, x16] ++ D17)) d62_270 (stx rfl hx12 rfl) (go_iconst (pc := 272) d62_272 ci_0 (go_istore (pc := 273) (L' := ([.val (.ref 0), .val (.int v1), .val (.int v2), .val (.int v3), .val (.int v4), .val (.ref 1), .val (.int v6), .val (.int v7), .val (.int v8), .val (.long v9), .second, .val (.int v11), .val (.int (0 : Int32)), .val (.int (0 : Int32)), x14, x15, x16] ++ D17)) d62_273 (stx rfl hx13 rfl) ?_)))
        exact law_275_ok hk66 ih BIG v1 v2 v3 v4 v6 v7 v8 v9 v11 (0 : Int32) (0 : Int32) q t0 x14 x15 x16 D17 hx14 hx15 hx16 hD17 lD17 _ hf
    · replace hf := (if_neg h1).symm.trans hf
      refine go_icY (pc := 253) (pc' := 369) d62_253 (XT.ii_ge_t h1) j_253_116 ?_
      exact law_369_ok hk66 v1 v2 v3 v4 v6 v7 v8 v9 q t0 (.val (.int v11)) x12 x13 x14 x15 x16 D17 (Or.inr ⟨_, rfl, rfl⟩) hx12 hx13 hx14 hx15 hx16 hD17 lD17 _ hf
set_option maxRecDepth 65536 in
set_option maxHeartbeats 4000000 in
theorem law_247_ok {k66 : Int32 → Int32 → Int32 → Int32 → Int32 → Int32 → List Int32 → S → Option (Int32 × S)} (hk66 : T_law_66 k66) : ∀ (v1 : Int32) (v2 : Int32) (v3 : Int32) (v4 : Int32) (v6 : Int32) (v7 : Int32) (v8 : Int32) (v9 : Int64) (q : List Int32) (t0 : S) (x11 : Slot) (x12 : Slot) (x13 : Slot) (x14 : Slot) (x15 : Slot) (x16 : Slot) (D17 : List Slot) (hx11 : k1 x11) (hx12 : k1 x12) (hx13 : k1 x13) (hx14 : k1 x14) (hx15 : k1 x15) (hx16 : k1 x16) (hD17 : WT D17) (lD17 : D17.length = 5) (o : Int32 × S), law_247 k66 v1 v2 v3 v4 v6 v7 v8 v9 q t0 = some o → Go PP m62 247 ([.val (.ref 0), .val (.int v1), .val (.int v2), .val (.int v3), .val (.int v4), .val (.ref 1), .val (.int v6), .val (.int v7), .val (.int v8), .val (.long v9), .second, x11, x12, x13, x14, x15, x16] ++ D17) [] (some q, [(11, t0)]) (some (.int o.1), (some q, [(11, o.2)])) := by
  intro v1 v2 v3 v4 v6 v7 v8 v9 q t0 x11 x12 x13 x14 x15 x16 D17 hx11 hx12 hx13 hx14 hx15 hx16 hD17 lD17 o hf
  unfold law_247 at hf
  refine go_iconst (pc := 247) d62_247 ci_0 (go_istore (pc := 248) (L' := ([.val (.ref 0), .val (.int v1), .val (.int v2), .val (.int v3), .val (.int v4), .val (.ref 1), .val (.int v6), .val (.int v7), .val (.int v8), .val (.long v9), .second, .val (.int (0 : Int32)), x12, x13, x14, x15, x16] ++ D17)) d62_248 (stx rfl hx11 rfl) ?_)
  exact law_250_ok hk66 BIG v1 v2 v3 v4 v6 v7 v8 v9 (0 : Int32) q t0 x12 x13 x14 x15 x16 D17 hx12 hx13 hx14 hx15 hx16 hD17 lD17 _ hf
def T_law_158 (k158 : Int32 → Int32 → Int32 → Int32 → Int32 → Int32 → Int32 → Int64 → Int32 → List Int32 → S → Option (Int32 × S)) : Prop := ∀ (v1 : Int32) (v2 : Int32) (v3 : Int32) (v4 : Int32) (v6 : Int32) (v7 : Int32) (v8 : Int32) (v9 : Int64) (v11 : Int32) (q : List Int32) (t0 : S) (x12 : Slot) (x13 : Slot) (x14 : Slot) (x15 : Slot) (x16 : Slot) (D17 : List Slot) (hx12 : k1 x12) (hx13 : k1 x13) (hx14 : k1 x14) (hx15 : k1 x15) (hx16 : k1 x16) (hD17 : WT D17) (lD17 : D17.length = 5) (o : Int32 × S), k158 v1 v2 v3 v4 v6 v7 v8 v9 v11 q t0 = some o → Go PP m62 158 ([.val (.ref 0), .val (.int v1), .val (.int v2), .val (.int v3), .val (.int v4), .val (.ref 1), .val (.int v6), .val (.int v7), .val (.int v8), .val (.long v9), .second, .val (.int v11), x12, x13, x14, x15, x16] ++ D17) [] (some q, [(11, t0)]) (some (.int o.1), (some q, [(11, o.2)]))
set_option maxRecDepth 65536 in
set_option maxHeartbeats 4000000 in
theorem law_189_ok {k66 : Int32 → Int32 → Int32 → Int32 → Int32 → Int32 → List Int32 → S → Option (Int32 × S)} {k158 : Int32 → Int32 → Int32 → Int32 → Int32 → Int32 → Int32 → Int64 → Int32 → List Int32 → S → Option (Int32 × S)} (hk66 : T_law_66 k66) (hk158 : T_law_158 k158) : ∀ (n : Nat) (v1 : Int32) (v2 : Int32) (v3 : Int32) (v4 : Int32) (v6 : Int32) (v7 : Int32) (v8 : Int32) (v9 : Int64) (v11 : Int32) (v12 : Int32) (q : List Int32) (t0 : S) (x13 : Slot) (x14 : Slot) (x15 : Slot) (x16 : Slot) (D17 : List Slot) (hx13 : k1 x13) (hx14 : k1 x14) (hx15 : k1 x15) (hx16 : k1 x16) (hD17 : WT D17) (lD17 : D17.length = 5) (o : Int32 × S), law_189 k66 k158 n v1 v2 v3 v4 v6 v7 v8 v9 v11 v12 q t0 = some o → Go PP m62 189 ([.val (.ref 0), .val (.int v1), .val (.int v2), .val (.int v3), .val (.int v4), .val (.ref 1), .val (.int v6), .val (.int v7), .val (.int v8), .val (.long v9), .second, .val (.int v11), .val (.int v12), x13, x14, x15, x16] ++ D17) [] (some q, [(11, t0)]) (some (.int o.1), (some q, [(11, o.2)])) := by
  intro n
  induction n with
  | zero => intro v1 v2 v3 v4 v6 v7 v8 v9 v11 v12 q t0 x13 x14 x15 x16 D17 hx13 hx14 hx15 hx16 hD17 lD17 o hf; exact nomatch hf
  | succ n ih =>
    intro v1 v2 v3 v4 v6 v7 v8 v9 v11 v12 q t0 x13 x14 x15 x16 D17 hx13 hx14 hx15 hx16 hD17 lD17 o hf
    unfold law_189 at hf
    refine go_iload (pc := 189) d62_189 rfl (go_iloadN (pc := 191) d62_191 rfl ?_)
    by_cases h1 : v12 < v2
    · replace hf := (if_pos h1).symm.trans hf
      refine go_icN (pc := 192) d62_192 (XT.ii_ge_f h1) ?_
      refine go_aload (pc := 195) d62_195 rfl (go_iload (pc := 197) d62_197 rfl (go_iload (pc := 199) d62_199 rfl ?_))
      obtain ⟨r201, e2, hf⟩ := Option.bind_eq_some_iff.mp hf
      refine go_virt (pc := 201) (i := 0) (as := [.int v11, .int v12]) (rest := []) (w' := (some q, [(11, t0)])) lk_1_33 pd_18 rfl oid_0 rfl rfl rfl rfl rfl rfl ⟨rfl, rfl, rfl, rfl, rfl⟩ d62_201 (c_k_field v11 v12 t0 _ e2) ?_
      refine go_istore (pc := 204) (L' := ([.val (.ref 0), .val (.int v1), .val (.int v2), .val (.int v3), .val (.int v4), .val (.ref 1), .val (.int v6), .val (.int v7), .val (.int v8), .val (.long v9), .second, .val (.int v11), .val (.int v12), .val (.int r201), x14, x15, x16] ++ D17)) d62_204 (stx rfl hx13 rfl) (go_iload (pc := 206) d62_206 rfl (go_iconst (pc := 208) d62_208 ci_m1 ?_))
      by_cases h3 : r201 = (-1 : Int32)
      · replace hf := (if_pos h3).symm.trans hf
        refine go_icY (pc := 209) (pc' := 235) d62_209 (XT.ii_eq_t h3) j_209_26 ?_
        refine go_iinc (pc := 235) (L' := ([.val (.ref 0), .val (.int v1), .val (.int v2), .val (.int v3), .val (.int v4), .val (.ref 1), .val (.int v6), .val (.int v7), .val (.int v8), .val (.long v9), .second, .val (.int v11), .val (.int (v12 + (1 : Int32))), .val (.int r201), x14, x15, x16] ++ D17)) d62_235 rfl ci_1 (stx rfl (Or.inr ⟨_, rfl, rfl⟩) rfl) (go_goto (pc := 238) (pc' := 189) d62_238 j_238_m49 ?_)
        exact ih v1 v2 v3 v4 v6 v7 v8 v9 v11 (v12 + (1 : Int32)) q t0 (.val (.int r201)) x14 x15 x16 D17 (Or.inr ⟨_, rfl, rfl⟩) hx14 hx15 hx16 hD17 lD17 _ hf
      · replace hf := (if_neg h3).symm.trans hf
        refine go_icN (pc := 209) d62_209 (XT.ii_eq_f h3) ?_
        refine go_iload (pc := 212) d62_212 rfl ?_
        by_cases h4 : r201 < 0
        · replace hf := (if_pos h4).symm.trans hf
          refine go_ifY (pc := 214) (pc' := 233) d62_214 (XT.i0_lt_t h4) j_214_19 ?_
          refine go_iconst (pc := 233) d62_233 ci_0 ?_
          cases hf
          exact go_zret (pc := 234) rfl d62_234 (show (0 : Int32) = nar .boolean (0 : Int32) by decide)
        · replace hf := (if_neg h4).symm.trans hf
          refine go_ifN (pc := 214) d62_214 (XT.i0_lt_f h4) ?_
          refine go_iload (pc := 217) d62_217 rfl (go_iloadN (pc := 219) d62_219 rfl ?_)
          by_cases h5 : r201 < v1
          · replace hf := (if_pos h5).symm.trans hf
            refine go_icN (pc := 220) d62_220 (XT.ii_ge_f h5) ?_
            refine go_aload (pc := 223) d62_223 rfl (go_iload (pc := 225) d62_225 rfl ?_)
            obtain ⟨r227, e6, hf⟩ := Option.bind_eq_some_iff.mp hf
            refine go_virt (pc := 227) (i := 0) (as := [.int r201]) (rest := []) (w' := (some q, [(11, t0)])) lk_1_26 pd_13 rfl oid_0 rfl rfl rfl rfl rfl rfl ⟨rfl, rfl, rfl, rfl, rfl⟩ d62_227 (c_k_isLive r201 t0 _ e6) ?_
            by_cases h7 : r227 = 0
            · replace hf := (if_pos h7).symm.trans hf
              refine go_ifN (pc := 230) d62_230 (XT.i0_ne_f h7) ?_
              refine go_iconst (pc := 233) d62_233 ci_0 ?_
              cases hf
              exact go_zret (pc := 234) rfl d62_234 (show (0 : Int32) = nar .boolean (0 : Int32) by decide)
            · replace hf := (if_neg h7).symm.trans hf
              refine go_ifY (pc := 230) (pc' := 235) d62_230 (XT.i0_ne_t h7) j_230_5 ?_
              refine go_iinc (pc := 235) (L' := ([.val (.ref 0), .val (.int v1), .val (.int v2), .val (.int v3), .val (.int v4), .val (.ref 1), .val (.int v6), .val (.int v7), .val (.int v8), .val (.long v9), .second, .val (.int v11), .val (.int (v12 + (1 : Int32))), .val (.int r201), x14, x15, x16] ++ D17)) d62_235 rfl ci_1 (stx rfl (Or.inr ⟨_, rfl, rfl⟩) rfl) (go_goto (pc := 238) (pc' := 189) d62_238 j_238_m49 ?_)
              exact ih v1 v2 v3 v4 v6 v7 v8 v9 v11 (v12 + (1 : Int32)) q t0 (.val (.int r201)) x14 x15 x16 D17 (Or.inr ⟨_, rfl, rfl⟩) hx14 hx15 hx16 hD17 lD17 _ hf
          · replace hf := (if_neg h5).symm.trans hf
            refine go_icY (pc := 220) (pc' := 233) d62_220 (XT.ii_ge_t h5) j_220_13 ?_
            refine go_iconst (pc := 233) d62_233 ci_0 ?_
            cases hf
            exact go_zret (pc := 234) rfl d62_234 (show (0 : Int32) = nar .boolean (0 : Int32) by decide)
    · replace hf := (if_neg h1).symm.trans hf
      refine go_icY (pc := 192) (pc' := 241) d62_192 (XT.ii_ge_t h1) j_192_49 ?_
      refine go_iinc (pc := 241) (L' := ([.val (.ref 0), .val (.int v1), .val (.int v2), .val (.int v3), .val (.int v4), .val (.ref 1), .val (.int v6), .val (.int v7), .val (.int v8), .val (.long v9), .second, .val (.int (v11 + (1 : Int32))), .val (.int v12), x13, x14, x15, x16] ++ D17)) d62_241 rfl ci_1 (stx rfl (Or.inr ⟨_, rfl, rfl⟩) rfl) (go_goto (pc := 244) (pc' := 158) d62_244 j_244_m86 ?_)
      exact hk158 v1 v2 v3 v4 v6 v7 v8 v9 (v11 + (1 : Int32)) q t0 (.val (.int v12)) x13 x14 x15 x16 D17 (Or.inr ⟨_, rfl, rfl⟩) hx13 hx14 hx15 hx16 hD17 lD17 _ hf
set_option maxRecDepth 65536 in
set_option maxHeartbeats 4000000 in
theorem law_158_ok {k66 : Int32 → Int32 → Int32 → Int32 → Int32 → Int32 → List Int32 → S → Option (Int32 × S)} (hk66 : T_law_66 k66) : ∀ (n : Nat) (v1 : Int32) (v2 : Int32) (v3 : Int32) (v4 : Int32) (v6 : Int32) (v7 : Int32) (v8 : Int32) (v9 : Int64) (v11 : Int32) (q : List Int32) (t0 : S) (x12 : Slot) (x13 : Slot) (x14 : Slot) (x15 : Slot) (x16 : Slot) (D17 : List Slot) (hx12 : k1 x12) (hx13 : k1 x13) (hx14 : k1 x14) (hx15 : k1 x15) (hx16 : k1 x16) (hD17 : WT D17) (lD17 : D17.length = 5) (o : Int32 × S), law_158 k66 n v1 v2 v3 v4 v6 v7 v8 v9 v11 q t0 = some o → Go PP m62 158 ([.val (.ref 0), .val (.int v1), .val (.int v2), .val (.int v3), .val (.int v4), .val (.ref 1), .val (.int v6), .val (.int v7), .val (.int v8), .val (.long v9), .second, .val (.int v11), x12, x13, x14, x15, x16] ++ D17) [] (some q, [(11, t0)]) (some (.int o.1), (some q, [(11, o.2)])) := by
  intro n
  induction n with
  | zero => intro v1 v2 v3 v4 v6 v7 v8 v9 v11 q t0 x12 x13 x14 x15 x16 D17 hx12 hx13 hx14 hx15 hx16 hD17 lD17 o hf; exact nomatch hf
  | succ n ih =>
    intro v1 v2 v3 v4 v6 v7 v8 v9 v11 q t0 x12 x13 x14 x15 x16 D17 hx12 hx13 hx14 hx15 hx16 hD17 lD17 o hf
    unfold law_158 at hf
    refine go_iload (pc := 158) d62_158 rfl (go_iloadN (pc := 160) d62_160 rfl ?_)
    by_cases h1 : v11 < v1
    · replace hf := (if_pos h1).symm.trans hf
      refine go_icN (pc := 161) d62_161 (XT.ii_ge_f h1) ?_
      refine go_aload (pc := 164) d62_164 rfl (go_iload (pc := 166) d62_166 rfl ?_)
      obtain ⟨r168, e2, hf⟩ := Option.bind_eq_some_iff.mp hf
      refine go_virt (pc := 168) (i := 0) (as := [.int v11]) (rest := []) (w' := (some q, [(11, t0)])) lk_1_26 pd_13 rfl oid_0 rfl rfl rfl rfl rfl rfl ⟨rfl, rfl, rfl, rfl, rfl⟩ d62_168 (c_k_isLive v11 t0 _ e2) ?_
      by_cases h3 : r168 = 0
      · replace hf := (if_pos h3).symm.trans hf
        refine go_ifN (pc := 171) d62_171 (XT.i0_ne_f h3) ?_
        refine go_aload (pc := 174) d62_174 rfl (go_iload (pc := 176) d62_176 rfl ?_)
        obtain ⟨r178, e4, hf⟩ := Option.bind_eq_some_iff.mp hf
        refine go_virt (pc := 178) (i := 0) (as := [.int v11]) (rest := []) (w' := (some q, [(11, t0)])) lk_1_30 pd_15 rfl oid_0 rfl rfl rfl rfl rfl rfl ⟨rfl, rfl, rfl, rfl, rfl⟩ d62_178 (c_k_inTable v11 t0 _ e4) ?_
        by_cases h5 : r178 = 0
        · replace hf := (if_pos h5).symm.trans hf
          refine go_ifY (pc := 181) (pc' := 241) d62_181 (XT.i0_eq_t h5) j_181_60 ?_
          refine go_iinc (pc := 241) (L' := ([.val (.ref 0), .val (.int v1), .val (.int v2), .val (.int v3), .val (.int v4), .val (.ref 1), .val (.int v6), .val (.int v7), .val (.int v8), .val (.long v9), .second, .val (.int (v11 + (1 : Int32))), x12, x13, x14, x15, x16] ++ D17)) d62_241 rfl ci_1 (stx rfl (Or.inr ⟨_, rfl, rfl⟩) rfl) (go_goto (pc := 244) (pc' := 158) d62_244 j_244_m86 ?_)
          exact ih v1 v2 v3 v4 v6 v7 v8 v9 (v11 + (1 : Int32)) q t0 x12 x13 x14 x15 x16 D17 hx12 hx13 hx14 hx15 hx16 hD17 lD17 _ hf
        · replace hf := (if_neg h5).symm.trans hf
          refine go_ifN (pc := 181) d62_181 (XT.i0_eq_f h5) ?_
          refine go_iconst (pc := 184) d62_184 ci_0 ?_
          cases hf
          exact go_zret (pc := 185) rfl d62_185 (show (0 : Int32) = nar .boolean (0 : Int32) by decide)
      · replace hf := (if_neg h3).symm.trans hf
        refine go_ifY (pc := 171) (pc' := 186) d62_171 (XT.i0_ne_t h3) j_171_15 ?_
        refine go_iconst (pc := 186) d62_186 ci_0 (go_istore (pc := 187) (L' := ([.val (.ref 0), .val (.int v1), .val (.int v2), .val (.int v3), .val (.int v4), .val (.ref 1), .val (.int v6), .val (.int v7), .val (.int v8), .val (.long v9), .second, .val (.int v11), .val (.int (0 : Int32)), x13, x14, x15, x16] ++ D17)) d62_187 (stx rfl hx12 rfl) ?_)
        exact law_189_ok hk66 ih BIG v1 v2 v3 v4 v6 v7 v8 v9 v11 (0 : Int32) q t0 x13 x14 x15 x16 D17 hx13 hx14 hx15 hx16 hD17 lD17 _ hf
    · replace hf := (if_neg h1).symm.trans hf
      refine go_icY (pc := 161) (pc' := 247) d62_161 (XT.ii_ge_t h1) j_161_86 ?_
      exact law_247_ok hk66 v1 v2 v3 v4 v6 v7 v8 v9 q t0 (.val (.int v11)) x12 x13 x14 x15 x16 D17 (Or.inr ⟨_, rfl, rfl⟩) hx12 hx13 hx14 hx15 hx16 hD17 lD17 _ hf
set_option maxRecDepth 65536 in
set_option maxHeartbeats 4000000 in
theorem law_155_ok {k66 : Int32 → Int32 → Int32 → Int32 → Int32 → Int32 → List Int32 → S → Option (Int32 × S)} (hk66 : T_law_66 k66) : ∀ (v1 : Int32) (v2 : Int32) (v3 : Int32) (v4 : Int32) (v6 : Int32) (v7 : Int32) (v8 : Int32) (v9 : Int64) (q : List Int32) (t0 : S) (x11 : Slot) (x12 : Slot) (x13 : Slot) (x14 : Slot) (x15 : Slot) (x16 : Slot) (D17 : List Slot) (hx11 : k1 x11) (hx12 : k1 x12) (hx13 : k1 x13) (hx14 : k1 x14) (hx15 : k1 x15) (hx16 : k1 x16) (hD17 : WT D17) (lD17 : D17.length = 5) (o : Int32 × S), law_155 k66 v1 v2 v3 v4 v6 v7 v8 v9 q t0 = some o → Go PP m62 155 ([.val (.ref 0), .val (.int v1), .val (.int v2), .val (.int v3), .val (.int v4), .val (.ref 1), .val (.int v6), .val (.int v7), .val (.int v8), .val (.long v9), .second, x11, x12, x13, x14, x15, x16] ++ D17) [] (some q, [(11, t0)]) (some (.int o.1), (some q, [(11, o.2)])) := by
  intro v1 v2 v3 v4 v6 v7 v8 v9 q t0 x11 x12 x13 x14 x15 x16 D17 hx11 hx12 hx13 hx14 hx15 hx16 hD17 lD17 o hf
  unfold law_155 at hf
  refine go_iconst (pc := 155) d62_155 ci_0 (go_istore (pc := 156) (L' := ([.val (.ref 0), .val (.int v1), .val (.int v2), .val (.int v3), .val (.int v4), .val (.ref 1), .val (.int v6), .val (.int v7), .val (.int v8), .val (.long v9), .second, .val (.int (0 : Int32)), x12, x13, x14, x15, x16] ++ D17)) d62_156 (stx rfl hx11 rfl) ?_)
  exact law_158_ok hk66 BIG v1 v2 v3 v4 v6 v7 v8 v9 (0 : Int32) q t0 x12 x13 x14 x15 x16 D17 hx12 hx13 hx14 hx15 hx16 hD17 lD17 _ hf
set_option maxRecDepth 65536 in
set_option maxHeartbeats 4000000 in
theorem law_92_ok {k66 : Int32 → Int32 → Int32 → Int32 → Int32 → Int32 → List Int32 → S → Option (Int32 × S)} (hk66 : T_law_66 k66) : ∀ (n : Nat) (v1 : Int32) (v2 : Int32) (v3 : Int32) (v4 : Int32) (v6 : Int32) (v7 : Int32) (v8 : Int32) (v9 : Int64) (v11 : Int32) (q : List Int32) (t0 : S) (x12 : Slot) (x13 : Slot) (x14 : Slot) (x15 : Slot) (x16 : Slot) (D17 : List Slot) (hx12 : k1 x12) (hx13 : k1 x13) (hx14 : k1 x14) (hx15 : k1 x15) (hx16 : k1 x16) (hD17 : WT D17) (lD17 : D17.length = 5) (o : Int32 × S), law_92 k66 n v1 v2 v3 v4 v6 v7 v8 v9 v11 q t0 = some o → Go PP m62 92 ([.val (.ref 0), .val (.int v1), .val (.int v2), .val (.int v3), .val (.int v4), .val (.ref 1), .val (.int v6), .val (.int v7), .val (.int v8), .val (.long v9), .second, .val (.int v11), x12, x13, x14, x15, x16] ++ D17) [] (some q, [(11, t0)]) (some (.int o.1), (some q, [(11, o.2)])) := by
  intro n
  induction n with
  | zero => intro v1 v2 v3 v4 v6 v7 v8 v9 v11 q t0 x12 x13 x14 x15 x16 D17 hx12 hx13 hx14 hx15 hx16 hD17 lD17 o hf; exact nomatch hf
  | succ n ih =>
    intro v1 v2 v3 v4 v6 v7 v8 v9 v11 q t0 x12 x13 x14 x15 x16 D17 hx12 hx13 hx14 hx15 hx16 hD17 lD17 o hf
    unfold law_92 at hf
    refine go_iload (pc := 92) d62_92 rfl (go_iload (pc := 94) d62_94 rfl ?_)
    by_cases h1 : v11 < v8
    · replace hf := (if_pos h1).symm.trans hf
      refine go_icN (pc := 96) d62_96 (XT.ii_ge_f h1) ?_
      refine go_aload (pc := 99) d62_99 rfl (go_iload (pc := 101) d62_101 rfl ?_)
      obtain ⟨r103, e2, hf⟩ := Option.bind_eq_some_iff.mp hf
      refine go_virt (pc := 103) (i := 0) (as := [.int v11]) (rest := []) (w' := (some q, [(11, t0)])) lk_1_22 pd_10 rfl oid_0 rfl rfl rfl rfl rfl rfl ⟨rfl, rfl, rfl, rfl, rfl⟩ d62_103 (c_k_root v11 t0 _ e2) ?_
      refine go_istore (pc := 106) (L' := ([.val (.ref 0), .val (.int v1), .val (.int v2), .val (.int v3), .val (.int v4), .val (.ref 1), .val (.int v6), .val (.int v7), .val (.int v8), .val (.long v9), .second, .val (.int v11), .val (.int r103), x13, x14, x15, x16] ++ D17)) d62_106 (stx rfl hx12 rfl) (go_iload (pc := 108) d62_108 rfl (go_iconst (pc := 110) d62_110 ci_m1 ?_))
      by_cases h3 : r103 = (-1 : Int32)
      · replace hf := (if_pos h3).symm.trans hf
        refine go_icN (pc := 111) d62_111 (XT.ii_ne_f h3) ?_
        refine go_goto (pc := 114) (pc' := 149) d62_114 j_114_35 (go_iinc (pc := 149) (L' := ([.val (.ref 0), .val (.int v1), .val (.int v2), .val (.int v3), .val (.int v4), .val (.ref 1), .val (.int v6), .val (.int v7), .val (.int v8), .val (.long v9), .second, .val (.int (v11 + (1 : Int32))), .val (.int r103), x13, x14, x15, x16] ++ D17)) d62_149 rfl ci_1 (stx rfl (Or.inr ⟨_, rfl, rfl⟩) rfl) (go_goto (pc := 152) (pc' := 92) d62_152 j_152_m60 ?_))
        exact ih v1 v2 v3 v4 v6 v7 v8 v9 (v11 + (1 : Int32)) q t0 (.val (.int r103)) x13 x14 x15 x16 D17 (Or.inr ⟨_, rfl, rfl⟩) hx13 hx14 hx15 hx16 hD17 lD17 _ hf
      · replace hf := (if_neg h3).symm.trans hf
        refine go_icY (pc := 111) (pc' := 117) d62_111 (XT.ii_ne_t h3) j_111_6 ?_
        refine go_iload (pc := 117) d62_117 rfl ?_
        by_cases h4 : r103 < 0
        · replace hf := (if_pos h4).symm.trans hf
          refine go_ifY (pc := 119) (pc' := 138) d62_119 (XT.i0_lt_t h4) j_119_19 ?_
          refine go_iconst (pc := 138) d62_138 ci_0 ?_
          cases hf
          exact go_zret (pc := 139) rfl d62_139 (show (0 : Int32) = nar .boolean (0 : Int32) by decide)
        · replace hf := (if_neg h4).symm.trans hf
          refine go_ifN (pc := 119) d62_119 (XT.i0_lt_f h4) ?_
          refine go_iload (pc := 122) d62_122 rfl (go_iloadN (pc := 124) d62_124 rfl ?_)
          by_cases h5 : r103 < v1
          · replace hf := (if_pos h5).symm.trans hf
            refine go_icN (pc := 125) d62_125 (XT.ii_ge_f h5) ?_
            refine go_aload (pc := 128) d62_128 rfl (go_iload (pc := 130) d62_130 rfl ?_)
            obtain ⟨r132, e6, hf⟩ := Option.bind_eq_some_iff.mp hf
            refine go_virt (pc := 132) (i := 0) (as := [.int r103]) (rest := []) (w' := (some q, [(11, t0)])) lk_1_26 pd_13 rfl oid_0 rfl rfl rfl rfl rfl rfl ⟨rfl, rfl, rfl, rfl, rfl⟩ d62_132 (c_k_isLive r103 t0 _ e6) ?_
            by_cases h7 : r132 = 0
            · replace hf := (if_pos h7).symm.trans hf
              refine go_ifN (pc := 135) d62_135 (XT.i0_ne_f h7) ?_
              refine go_iconst (pc := 138) d62_138 ci_0 ?_
              cases hf
              exact go_zret (pc := 139) rfl d62_139 (show (0 : Int32) = nar .boolean (0 : Int32) by decide)
            · replace hf := (if_neg h7).symm.trans hf
              refine go_ifY (pc := 135) (pc' := 140) d62_135 (XT.i0_ne_t h7) j_135_5 ?_
              refine go_lload (pc := 140) d62_140 rfl (go_lconst (pc := 142) d62_142 cl_1 (go_iload (pc := 143) d62_143 rfl (go_lshl (pc := 145) d62_145 (go_lor (pc := 146) d62_146 (go_lstore (pc := 147) (L' := ([.val (.ref 0), .val (.int v1), .val (.int v2), .val (.int v3), .val (.int v4), .val (.ref 1), .val (.int v6), .val (.int v7), .val (.int v8), .val (.long (v9 ||| ((1 : Int64) <<< (r103.toInt64 &&& 63)))), .second, .val (.int v11), .val (.int r103), x13, x14, x15, x16] ++ D17)) d62_147 (stx2 rfl rfl (Or.inr ⟨_, rfl, rfl⟩)) (go_iinc (pc := 149) (L' := ([.val (.ref 0), .val (.int v1), .val (.int v2), .val (.int v3), .val (.int v4), .val (.ref 1), .val (.int v6), .val (.int v7), .val (.int v8), .val (.long (v9 ||| ((1 : Int64) <<< (r103.toInt64 &&& 63)))), .second, .val (.int (v11 + (1 : Int32))), .val (.int r103), x13, x14, x15, x16] ++ D17)) d62_149 rfl ci_1 (stx rfl (Or.inr ⟨_, rfl, rfl⟩) rfl) (go_goto (pc := 152) (pc' := 92) d62_152 j_152_m60 ?_)))))))
              exact ih v1 v2 v3 v4 v6 v7 v8 (v9 ||| ((1 : Int64) <<< (r103.toInt64 &&& 63))) (v11 + (1 : Int32)) q t0 (.val (.int r103)) x13 x14 x15 x16 D17 (Or.inr ⟨_, rfl, rfl⟩) hx13 hx14 hx15 hx16 hD17 lD17 _ hf
          · replace hf := (if_neg h5).symm.trans hf
            refine go_icY (pc := 125) (pc' := 138) d62_125 (XT.ii_ge_t h5) j_125_13 ?_
            refine go_iconst (pc := 138) d62_138 ci_0 ?_
            cases hf
            exact go_zret (pc := 139) rfl d62_139 (show (0 : Int32) = nar .boolean (0 : Int32) by decide)
    · replace hf := (if_neg h1).symm.trans hf
      refine go_icY (pc := 96) (pc' := 155) d62_96 (XT.ii_ge_t h1) j_96_59 ?_
      exact law_155_ok hk66 v1 v2 v3 v4 v6 v7 v8 v9 q t0 (.val (.int v11)) x12 x13 x14 x15 x16 D17 (Or.inr ⟨_, rfl, rfl⟩) hx12 hx13 hx14 hx15 hx16 hD17 lD17 _ hf
set_option maxRecDepth 65536 in
set_option maxHeartbeats 4000000 in
theorem law_66_ok  : ∀ (n : Nat) (v1 : Int32) (v2 : Int32) (v3 : Int32) (v4 : Int32) (v6 : Int32) (v7 : Int32) (q : List Int32) (t0 : S) (x8 : Slot) (x9 : Slot) (x10 : Slot) (x11 : Slot) (x12 : Slot) (x13 : Slot) (x14 : Slot) (x15 : Slot) (x16 : Slot) (D17 : List Slot) (hx8 : k1 x8) (hx9 : k2 x9 x10) (hx11 : k1 x11) (hx12 : k1 x12) (hx13 : k1 x13) (hx14 : k1 x14) (hx15 : k1 x15) (hx16 : k1 x16) (hD17 : WT D17) (lD17 : D17.length = 5) (o : Int32 × S), law_66 n v1 v2 v3 v4 v6 v7 q t0 = some o → Go PP m62 66 ([.val (.ref 0), .val (.int v1), .val (.int v2), .val (.int v3), .val (.int v4), .val (.ref 1), .val (.int v6), .val (.int v7), x8, x9, x10, x11, x12, x13, x14, x15, x16] ++ D17) [] (some q, [(11, t0)]) (some (.int o.1), (some q, [(11, o.2)])) := by
  intro n
  induction n with
  | zero => intro v1 v2 v3 v4 v6 v7 q t0 x8 x9 x10 x11 x12 x13 x14 x15 x16 D17 hx8 hx9 hx11 hx12 hx13 hx14 hx15 hx16 hD17 lD17 o hf; exact nomatch hf
  | succ n ih =>
    intro v1 v2 v3 v4 v6 v7 q t0 x8 x9 x10 x11 x12 x13 x14 x15 x16 D17 hx8 hx9 hx11 hx12 hx13 hx14 hx15 hx16 hD17 lD17 o hf
    unfold law_66 at hf
    refine go_aload (pc := 66) d62_66 rfl ?_
    refine go_virt (pc := 68) (i := 0) (as := []) (rest := []) (w' := (some q, [(11, t0)])) lk_1_18 pd_8 rfl oid_0 rfl rfl rfl rfl rfl rfl ⟨rfl, rfl, rfl, rfl, rfl⟩ d62_68 (c_k_depth t0) ?_
    refine go_istore (pc := 71) (L' := ([.val (.ref 0), .val (.int v1), .val (.int v2), .val (.int v3), .val (.int v4), .val (.ref 1), .val (.int v6), .val (.int v7), .val (.int (k_depth t0)), x9, x10, x11, x12, x13, x14, x15, x16] ++ D17)) d62_71 (stx rfl hx8 rfl) (go_iload (pc := 73) d62_73 rfl ?_)
    by_cases h1 : (k_depth t0) < 0
    · replace hf := (if_pos h1).symm.trans hf
      refine go_ifY (pc := 75) (pc' := 84) d62_75 (XT.i0_lt_t h1) j_75_9 ?_
      refine go_iconst (pc := 84) d62_84 ci_0 ?_
      cases hf
      exact go_zret (pc := 85) rfl d62_85 (show (0 : Int32) = nar .boolean (0 : Int32) by decide)
    · replace hf := (if_neg h1).symm.trans hf
      refine go_ifN (pc := 75) d62_75 (XT.i0_lt_f h1) ?_
      refine go_iload (pc := 78) d62_78 rfl (go_iloadN (pc := 80) d62_80 rfl ?_)
      by_cases h2 : v3 < (k_depth t0)
      · replace hf := (if_pos h2).symm.trans hf
        refine go_icN (pc := 81) d62_81 (XT.ii_le_f h2) ?_
        refine go_iconst (pc := 84) d62_84 ci_0 ?_
        cases hf
        exact go_zret (pc := 85) rfl d62_85 (show (0 : Int32) = nar .boolean (0 : Int32) by decide)
      · replace hf := (if_neg h2).symm.trans hf
        refine go_icY (pc := 81) (pc' := 86) d62_81 (XT.ii_le_t h2) j_81_5 ?_
        refine go_lconst (pc := 86) d62_86 cl_0 (go_lstore (pc := 87) (L' := ([.val (.ref 0), .val (.int v1), .val (.int v2), .val (.int v3), .val (.int v4), .val (.ref 1), .val (.int v6), .val (.int v7), .val (.int (k_depth t0)), .val (.long (0 : Int64)), .second, x11, x12, x13, x14, x15, x16] ++ D17)) d62_87 (stx2 rfl rfl hx9) (go_iconst (pc := 89) d62_89 ci_0 (go_istore (pc := 90) (L' := ([.val (.ref 0), .val (.int v1), .val (.int v2), .val (.int v3), .val (.int v4), .val (.ref 1), .val (.int v6), .val (.int v7), .val (.int (k_depth t0)), .val (.long (0 : Int64)), .second, .val (.int (0 : Int32)), x12, x13, x14, x15, x16] ++ D17)) d62_90 (stx rfl hx11 rfl) ?_)))
        exact law_92_ok ih BIG v1 v2 v3 v4 v6 v7 (k_depth t0) (0 : Int64) (0 : Int32) q t0 x12 x13 x14 x15 x16 D17 hx12 hx13 hx14 hx15 hx16 hD17 lD17 _ hf
set_option maxRecDepth 65536 in
set_option maxHeartbeats 4000000 in
theorem law_ok  : ∀  (q : List Int32)  (o : Int32 × S), law q = some o → Go PP m62 0 [.val (.ref 0), .unset, .unset, .unset, .unset, .unset, .unset, .unset, .unset, .unset, .unset, .unset, .unset, .unset, .unset, .unset, .unset, .unset, .unset, .unset, .unset, .unset] [] (some q, []) (some (.int o.1), (some q, [(11, o.2)])) := by
  intro q o hf
  unfold law at hf
  refine go_iconst (pc := 0) d62_0 ci_4 (go_aloadN (pc := 1) d62_1 rfl (go_iconst (pc := 2) d62_2 ci_0 ?_))
  obtain ⟨r3, e1, hf⟩ := Option.bind_eq_some_iff.mp hf
  refine go_stat (pc := 3) (as := [.ref 0, .int (0 : Int32)]) (rest := [.int (4 : Int32)]) (w' := (some q, [])) lk_1_7 pd_0 rfl rfl ⟨Nat.le_of_ble_eq_true rfl, Nat.le_of_ble_eq_true rfl⟩ ⟨rfl, rfl, rfl⟩ ⟨rfl, rfl, rfl, rfl, rfl⟩ d62_3 (c_h_cell_n0 (0 : Int32) q _ e1) ?_
  refine go_bipush (pc := 6) d62_6 cb_15 (go_iand (pc := 8) d62_8 (go_iadd (pc := 9) d62_9 (go_istoreN (pc := 10) (L' := [.val (.ref 0), .val (.int ((4 : Int32) + (r3 &&& (15 : Int32)))), .unset, .unset, .unset, .unset, .unset, .unset, .unset, .unset, .unset, .unset, .unset, .unset, .unset, .unset, .unset, .unset, .unset, .unset, .unset, .unset]) d62_10 rfl (go_iconst (pc := 11) d62_11 ci_1 (go_aloadN (pc := 12) d62_12 rfl (go_iconst (pc := 13) d62_13 ci_1 ?_))))))
  obtain ⟨r14, e2, hf⟩ := Option.bind_eq_some_iff.mp hf
  refine go_stat (pc := 14) (as := [.ref 0, .int (1 : Int32)]) (rest := [.int (1 : Int32)]) (w' := (some q, [])) lk_1_7 pd_0 rfl rfl ⟨Nat.le_of_ble_eq_true rfl, Nat.le_of_ble_eq_true rfl⟩ ⟨rfl, rfl, rfl⟩ ⟨rfl, rfl, rfl, rfl, rfl⟩ d62_14 (c_h_cell_n0 (1 : Int32) q _ e2) ?_
  refine go_iconst (pc := 17) d62_17 ci_3 (go_iand (pc := 18) d62_18 (go_iadd (pc := 19) d62_19 (go_istoreN (pc := 20) (L' := [.val (.ref 0), .val (.int ((4 : Int32) + (r3 &&& (15 : Int32)))), .val (.int ((1 : Int32) + (r14 &&& (3 : Int32)))), .unset, .unset, .unset, .unset, .unset, .unset, .unset, .unset, .unset, .unset, .unset, .unset, .unset, .unset, .unset, .unset, .unset, .unset, .unset]) d62_20 rfl (go_iconst (pc := 21) d62_21 ci_1 (go_aloadN (pc := 22) d62_22 rfl (go_iconst (pc := 23) d62_23 ci_2 ?_))))))
  obtain ⟨r24, e3, hf⟩ := Option.bind_eq_some_iff.mp hf
  refine go_stat (pc := 24) (as := [.ref 0, .int (2 : Int32)]) (rest := [.int (1 : Int32)]) (w' := (some q, [])) lk_1_7 pd_0 rfl rfl ⟨Nat.le_of_ble_eq_true rfl, Nat.le_of_ble_eq_true rfl⟩ ⟨rfl, rfl, rfl⟩ ⟨rfl, rfl, rfl, rfl, rfl⟩ d62_24 (c_h_cell_n0 (2 : Int32) q _ e3) ?_
  refine go_bipush (pc := 27) d62_27 cb_15 (go_iand (pc := 29) d62_29 (go_iadd (pc := 30) d62_30 (go_istoreN (pc := 31) (L' := [.val (.ref 0), .val (.int ((4 : Int32) + (r3 &&& (15 : Int32)))), .val (.int ((1 : Int32) + (r14 &&& (3 : Int32)))), .val (.int ((1 : Int32) + (r24 &&& (15 : Int32)))), .unset, .unset, .unset, .unset, .unset, .unset, .unset, .unset, .unset, .unset, .unset, .unset, .unset, .unset, .unset, .unset, .unset, .unset]) d62_31 rfl (go_iloadN (pc := 32) d62_32 rfl (go_iconst (pc := 33) d62_33 ci_1 (go_iadd (pc := 34) d62_34 (go_aloadN (pc := 35) d62_35 rfl ?_)))))))
  refine go_iconst (pc := 36) d62_36 ci_3 ?_
  obtain ⟨r37, e4, hf⟩ := Option.bind_eq_some_iff.mp hf
  refine go_stat (pc := 37) (as := [.ref 0, .int (3 : Int32)]) (rest := [.int (((1 : Int32) + (r24 &&& (15 : Int32))) + (1 : Int32))]) (w' := (some q, [])) lk_1_7 pd_0 rfl rfl ⟨Nat.le_of_ble_eq_true rfl, Nat.le_of_ble_eq_true rfl⟩ ⟨rfl, rfl, rfl⟩ ⟨rfl, rfl, rfl, rfl, rfl⟩ d62_37 (c_h_cell_n0 (3 : Int32) q _ e4) ?_
  refine go_bipush (pc := 40) d62_40 cb_7 (go_iand (pc := 42) d62_42 (go_iadd (pc := 43) d62_43 (go_istore (pc := 44) (L' := [.val (.ref 0), .val (.int ((4 : Int32) + (r3 &&& (15 : Int32)))), .val (.int ((1 : Int32) + (r14 &&& (3 : Int32)))), .val (.int ((1 : Int32) + (r24 &&& (15 : Int32)))), .val (.int ((((1 : Int32) + (r24 &&& (15 : Int32))) + (1 : Int32)) + (r37 &&& (7 : Int32)))), .unset, .unset, .unset, .unset, .unset, .unset, .unset, .unset, .unset, .unset, .unset, .unset, .unset, .unset, .unset, .unset, .unset]) d62_44 rfl ?_)))
  refine go_new (pc := 46) (n := 0) (w' := (some q, [(0, s0)])) (List.mem_of_getElem? (i := 4) rfl) rfl rfl rfl rfl rfl rfl rfl d62_46 oid_0 ?_
  refine go_dupR (pc := 49) d62_49 (go_iloadN (pc := 50) d62_50 rfl (go_iloadN (pc := 51) d62_51 rfl (go_iloadN (pc := 52) d62_52 rfl (go_iload (pc := 53) d62_53 rfl ?_))))
  obtain ⟨r55, e6, hf⟩ := Option.bind_eq_some_iff.mp hf
  refine go_init (pc := 55) (i := 0) (as := [.int ((4 : Int32) + (r3 &&& (15 : Int32))), .int ((1 : Int32) + (r14 &&& (3 : Int32))), .int ((1 : Int32) + (r24 &&& (15 : Int32))), .int ((((1 : Int32) + (r24 &&& (15 : Int32))) + (1 : Int32)) + (r37 &&& (7 : Int32)))]) (rest := [.ref 1]) (w' := (some q, [(11, r55)])) lk_1_15 pd_7 rfl oid_0 rfl rfl rfl rfl rfl rfl rfl rfl rfl ⟨rfl, rfl, rfl⟩ ⟨rfl, rfl⟩ d62_55 (c_k_init ((4 : Int32) + (r3 &&& (15 : Int32))) ((1 : Int32) + (r14 &&& (3 : Int32))) ((1 : Int32) + (r24 &&& (15 : Int32))) ((((1 : Int32) + (r24 &&& (15 : Int32))) + (1 : Int32)) + (r37 &&& (7 : Int32))) _ e6) ?_
  refine go_astore (pc := 58) (L' := [.val (.ref 0), .val (.int ((4 : Int32) + (r3 &&& (15 : Int32)))), .val (.int ((1 : Int32) + (r14 &&& (3 : Int32)))), .val (.int ((1 : Int32) + (r24 &&& (15 : Int32)))), .val (.int ((((1 : Int32) + (r24 &&& (15 : Int32))) + (1 : Int32)) + (r37 &&& (7 : Int32)))), .val (.ref 1), .unset, .unset, .unset, .unset, .unset, .unset, .unset, .unset, .unset, .unset, .unset, .unset, .unset, .unset, .unset, .unset]) d62_58 rfl (go_iconst (pc := 60) d62_60 ci_0 (go_istore (pc := 61) (L' := [.val (.ref 0), .val (.int ((4 : Int32) + (r3 &&& (15 : Int32)))), .val (.int ((1 : Int32) + (r14 &&& (3 : Int32)))), .val (.int ((1 : Int32) + (r24 &&& (15 : Int32)))), .val (.int ((((1 : Int32) + (r24 &&& (15 : Int32))) + (1 : Int32)) + (r37 &&& (7 : Int32)))), .val (.ref 1), .val (.int (0 : Int32)), .unset, .unset, .unset, .unset, .unset, .unset, .unset, .unset, .unset, .unset, .unset, .unset, .unset, .unset, .unset]) d62_61 rfl (go_iconst (pc := 63) d62_63 ci_4 (go_istore (pc := 64) (L' := [.val (.ref 0), .val (.int ((4 : Int32) + (r3 &&& (15 : Int32)))), .val (.int ((1 : Int32) + (r14 &&& (3 : Int32)))), .val (.int ((1 : Int32) + (r24 &&& (15 : Int32)))), .val (.int ((((1 : Int32) + (r24 &&& (15 : Int32))) + (1 : Int32)) + (r37 &&& (7 : Int32)))), .val (.ref 1), .val (.int (0 : Int32)), .val (.int (4 : Int32)), .unset, .unset, .unset, .unset, .unset, .unset, .unset, .unset, .unset, .unset, .unset, .unset, .unset, .unset]) d62_64 rfl ?_))))
  exact law_66_ok BIG ((4 : Int32) + (r3 &&& (15 : Int32))) ((1 : Int32) + (r14 &&& (3 : Int32))) ((1 : Int32) + (r24 &&& (15 : Int32))) ((((1 : Int32) + (r24 &&& (15 : Int32))) + (1 : Int32)) + (r37 &&& (7 : Int32))) (0 : Int32) (4 : Int32) q r55 .unset .unset .unset .unset .unset .unset .unset .unset .unset [.unset, .unset, .unset, .unset, .unset] (Or.inl rfl) (Or.inl ⟨rfl, rfl⟩) (Or.inl rfl) (Or.inl rfl) (Or.inl rfl) (Or.inl rfl) (Or.inl rfl) (Or.inl rfl) (wt1 (Or.inl rfl) (wt1 (Or.inl rfl) (wt1 (Or.inl rfl) (wt1 (Or.inl rfl) (wt1 (Or.inl rfl) wt0))))) rfl _ hf
def own_len (s : S) : Prop := (gA s 0).length = 64 ∧ (gA s 1).length = 256 ∧ (gA s 2).length = 64 ∧ (gA s 3).length = 16 ∧ (gA s 4).length = 64 ∧ (gA s 5).length = 64 ∧ (gA s 6).length = 64 ∧ (gA s 7).length = 64 ∧ (gA s 8).length = 64 ∧ (gA s 9).length = 64 ∧ (gA s 10).length = 64
theorem own_ccf (s : S) (j : Nat) (hj : j < 64) (hl : (gA s 1).length = 256) : ∃ s', k_clearCellFields (Int32.ofNat j) s = some s' ∧ Fx [] [] [1] [] s s' ∧ (gA s' 1).length = 256 ∧ ∀ i, i < 256 → (gA s' 1)[i]? = if 4 * j ≤ i ∧ i < 4 * j + 4 then some (-1 : Int32) else (gA s 1)[i]? := by
  have h0 : ¬ Int32.ofNat j < 0 := ofNat_nonneg (by omega)
  have h1 : Int32.ofNat j < 64 := (lt_lit (by omega)).mpr hj
  have hm : Int32.ofNat j * 4 = Int32.ofNat (j * 4) := (Int32.ofNat_mul j 4).symm
  obtain ⟨s', e, F', l', U⟩ := run_for (fun n v s => k_clearCellFields_17 n (Int32.ofNat (j * 4)) v s) some 4 (fun k u => Fx [] [] [1] [] s u ∧ (gA u 1).length = 256 ∧ ∀ i, i < 256 → (gA u 1)[i]? = if 4 * j ≤ i ∧ i < 4 * j + k then some (-1 : Int32) else (gA s 1)[i]?) (by
    intro n k u hk ⟨F, l, U⟩
    refine ⟨sA u 1 ((gA u 1).set (j * 4 + k) (-1)), ?_, F.sA (by simp), by simp [gA_sA, l], ?_⟩
    · show k_clearCellFields_17 (n + 1) _ _ _ = k_clearCellFields_17 n _ _ _
      rw [k_clearCellFields_17, if_pos ((lt_lit (by omega)).mpr hk), ofNat_add', st_ofNat _ _ (by omega) (by omega), ofNat_succ]; rfl
    · intro i hi
      simp only [gA_sA, if_true]
      by_cases q : i = j * 4 + k
      · subst q; rw [List.getElem?_set_self (by omega), if_pos (by omega)]
      · rw [List.getElem?_set_ne (by omega), U i hi]
        by_cases r : 4 * j ≤ i ∧ i < 4 * j + k
        · rw [if_pos r, if_pos (by omega)]
        · rw [if_neg r, if_neg (by omega)]) (fun n s _ => by show k_clearCellFields_17 (n + 1) _ _ _ = _; rw [k_clearCellFields_17, if_neg (by decide)]) BIG s (by decide) ⟨Fx.refl .., hl, fun i hi => by rw [if_neg (by omega)]⟩
  refine ⟨s', ?_, F', l', U⟩
  unfold k_clearCellFields
  rw [if_neg h0, if_pos h1, hm]
  exact e
def own_J (t s : S) : Prop := Fx [4, 5, 6, 7] [] [0, 1, 2, 3, 4, 5, 6, 7, 8, 9, 10] [] t s ∧ own_len s
theorem own_rh (t s : S) (h : own_J t s) : ∃ s', k_resetHeap s = some s' ∧ own_J t s' ∧ gI s' 4 = 0 ∧ (∀ i, i < 64 → (gA s' 0)[i]? = some 0) ∧ (∀ i, i < 64 → (gA s' 2)[i]? = some 0) ∧ (∀ i, i < 256 → (gA s' 1)[i]? = some (-1 : Int32)) := by
  obtain ⟨s', e, i, U, U2, U1⟩ := run_for k_resetHeap_2 k_resetHeap_33 64 (fun k s => own_J t s ∧ (∀ i, i < k → (gA s 0)[i]? = some 0) ∧ (∀ i, i < k → (gA s 2)[i]? = some 0) ∧ (∀ i, i < 4 * k → (gA s 1)[i]? = some (-1 : Int32))) (by
    intro n k s hk ⟨⟨F, l0, l1, l2, l3, l4, l5, l6, l7, l8, l9, l10⟩, U, U2, U1⟩
    obtain ⟨s', e, F', l', g1⟩ := own_ccf (sA (sA s 0 ((gA s 0).set k 0)) 2 ((gA s 2).set k 0)) k hk (by simp [gA_sA, l1])
    have g : ∀ f, f ≠ 1 → gA s' f = gA (sA (sA s 0 ((gA s 0).set k 0)) 2 ((gA s 2).set k 0)) f := fun f hf => F'.2.2.1 f (by simpa using hf)
    refine ⟨s', ?_, ⟨((F.sA (by simp)).sA (by simp)).trans (F'.mono (by simp) (by simp) (by simp) (by simp)), ?_⟩, ?_, ?_, ?_⟩
    · rw [k_resetHeap_2, if_pos ((lt_lit (by omega)).mpr hk), st_ofNat _ _ (by omega) (by omega), Option.bind_some, st_ofNat _ _ (by omega) (by omega), Option.bind_some, e, Option.bind_some, ofNat_succ]
    · simp [own_len, l', g, gA_sA, *]
    · intro i hi
      rw [g 0 (by decide)]
      simp only [gA_sA]
      by_cases q : i = k
      · subst q; simp [l0, hk]
      · simp; rw [List.getElem?_set_ne (by omega)]; exact U i (by omega)
    · intro i hi
      rw [g 2 (by decide)]
      simp only [gA_sA]
      by_cases q : i = k
      · subst q; simp [l2, hk]
      · simp; rw [List.getElem?_set_ne (by omega)]; exact U2 i (by omega)
    · intro i hi
      rw [g1 i (by omega)]
      by_cases q : 4 * k ≤ i ∧ i < 4 * k + 4
      · rw [if_pos q]
      · rw [if_neg q]; simp [gA_sA]; exact U1 i (by omega)) (fun n s _ => by rw [k_resetHeap_2, if_neg (by decide)]) BIG s (by decide) ⟨h, fun i hi => absurd hi (Nat.not_lt_zero _), fun i hi => absurd hi (Nat.not_lt_zero _), fun i hi => absurd hi (by omega)⟩
  refine ⟨_, e, ⟨i.1.sI (by simp), ?_⟩, by simp [gI_sI], fun j hj => by simp only [gA_sI]; exact U j hj, fun j hj => by simp only [gA_sI]; exact U2 j hj, fun j hj => by simp only [gA_sI]; exact U1 j (by omega)⟩
  have := i.2
  simp [own_len, gA_sI] at this ⊢; exact this
theorem own_rr (t s : S) (h : own_J t s) : ∃ s', k_resetRoots s = some s' ∧ own_J t s' ∧ gI s' 5 = 0 ∧ Fx [5] [] [3] [] s s' := by
  obtain ⟨s', e, i, F2⟩ := run_for k_resetRoots_2 k_resetRoots_21 16 (fun k u => own_J t u ∧ Fx [5] [] [3] [] s u) (by
    intro n k u hk ⟨⟨F, l0, l1, l2, l3, l4, l5, l6, l7, l8, l9, l10⟩, F2⟩
    refine ⟨sA u 3 ((gA u 3).set k (-1)), ?_, ⟨F.sA (by simp), ?_⟩, F2.sA (by simp)⟩
    · rw [k_resetRoots_2, if_pos ((lt_lit (by omega)).mpr hk), st_ofNat _ _ (by omega) (by omega), Option.bind_some, ofNat_succ]
    · simp [own_len, gA_sA, *]) (fun n s _ => by rw [k_resetRoots_2, if_neg (by decide)]) BIG s (by decide) ⟨h, Fx.refl ..⟩
  refine ⟨_, e, ⟨i.1.sI (by simp), ?_⟩, by simp [gI_sI], F2.sI (by simp)⟩
  have := i.2
  simp [own_len, gA_sI] at this ⊢; exact this
theorem own_rt (t s : S) (h : own_J t s) : ∃ s', k_resetTable s = some s' ∧ own_J t s' ∧ gI s' 6 = 0 ∧ (∀ i, i < 64 → (gA s' 5)[i]? = some (-1 : Int32)) ∧ Fx [6] [] [4, 5] [] s s' := by
  obtain ⟨u, e, i, F2⟩ := run_for k_resetTable_2 k_resetTable_21 64 (fun k u => own_J t u ∧ Fx [6] [] [4, 5] [] s u) (by
    intro n k u hk ⟨⟨F, l0, l1, l2, l3, l4, l5, l6, l7, l8, l9, l10⟩, F2⟩
    refine ⟨sA u 4 ((gA u 4).set k (-1)), ?_, ⟨F.sA (by simp), ?_⟩, F2.sA (by simp)⟩
    · rw [k_resetTable_2, if_pos ((lt_lit (by omega)).mpr hk), st_ofNat _ _ (by omega) (by omega), Option.bind_some, ofNat_succ]
    · simp [own_len, gA_sA, *]) (fun n s _ => by rw [k_resetTable_2, if_neg (by decide)]) BIG s (by decide) ⟨h, Fx.refl ..⟩
  obtain ⟨w, e2, i2, F3, U⟩ := run_for k_resetTable_23 k_resetTable_42 64 (fun k w => own_J t w ∧ Fx [6] [] [4, 5] [] s w ∧ Upto (gA w 5) k (-1)) (by
    intro n k u hk ⟨⟨F, l0, l1, l2, l3, l4, l5, l6, l7, l8, l9, l10⟩, F2, U⟩
    refine ⟨sA u 5 ((gA u 5).set k (-1)), ?_, ⟨F.sA (by simp), ?_⟩, F2.sA (by simp), ?_⟩
    · rw [k_resetTable_23, if_pos ((lt_lit (by omega)).mpr hk), st_ofNat _ _ (by omega) (by omega), Option.bind_some, ofNat_succ]
    · simp [own_len, gA_sA, *]
    · simp only [gA_sA, if_true]; exact U.set (by omega)) (fun n s _ => by rw [k_resetTable_23, if_neg (by decide)]) BIG u (by decide) ⟨i, F2, Upto.zero _ _⟩
  refine ⟨_, e.trans e2, ⟨i2.1.sI (by simp), ?_⟩, by simp [gI_sI], fun j hj => by simp only [gA_sI]; exact U j hj, F3.sI (by simp)⟩
  have := i2.2
  simp [own_len, gA_sI] at this ⊢; exact this
theorem own_rs (t s : S) (h : own_J t s) : ∃ s', k_resetScratch s = some s' ∧ own_J t s' ∧ Fx [7] [] [6, 7, 8, 9, 10] [] s s' := by
  obtain ⟨s', e, i, F2⟩ := run_for k_resetScratch_2 k_resetScratch_49 64 (fun k u => own_J t u ∧ Fx [7] [] [6, 7, 8, 9, 10] [] s u) (by
    intro n k u hk ⟨⟨F, l0, l1, l2, l3, l4, l5, l6, l7, l8, l9, l10⟩, F2⟩
    refine ⟨sA (sA (sA (sA (sA u 6 ((gA u 6).set k 0)) 7 ((gA u 7).set k 0)) 8 ((gA u 8).set k 0)) 9 ((gA u 9).set k 0)) 10 ((gA u 10).set k (-1)), ?_, ⟨((((F.sA (by simp)).sA (by simp)).sA (by simp)).sA (by simp)).sA (by simp), ?_⟩, ((((F2.sA (by simp)).sA (by simp)).sA (by simp)).sA (by simp)).sA (by simp)⟩
    · rw [k_resetScratch_2, if_pos ((lt_lit (by omega)).mpr hk), st_ofNat _ _ (by omega) (by omega), Option.bind_some, st_ofNat _ _ (by omega) (by omega), Option.bind_some, st_ofNat _ _ (by omega) (by omega), Option.bind_some, st_ofNat _ _ (by omega) (by omega), Option.bind_some, st_ofNat _ _ (by omega) (by omega), Option.bind_some, ofNat_succ]
    · simp [own_len, gA_sA, *]) (fun n s _ => by rw [k_resetScratch_2, if_neg (by decide)]) BIG s (by decide) ⟨h, Fx.refl ..⟩
  refine ⟨_, e, ⟨i.1.sI (by simp), ?_⟩, F2.sI (by simp)⟩
  have := i.2
  simp [own_len, gA_sI] at this ⊢; exact this
def bI (b : Bool) : Int32 := if b then 1 else 0
theorem bI_ite (b : Bool) : (if bI b = 0 then some (0 : Int32) else some 1) = some (bI b) := by cases b <;> rfl
def pc : Option Nat → Int32
  | none => -1
  | some x => Int32.ofNat x
/-- field f of s shows g below H -/
def Rg (H : Nat) (s : S) (f : Nat) (g : Nat → Int32) : Prop := ∀ x, x < H → (gA s f)[x]? = some (g x)
theorem Rg.fx {H : Nat} {s t : S} {f : Nat} {g : Nat → Int32} (h : Rg H s f g) (e : gA t f = gA s f) : Rg H t f g := by unfold Rg; rw [e]; exact h
theorem Rg.put {H : Nat} {s : S} {f : Nat} {g : Nat → Int32} (h : Rg H s f g) {x : Nat} (hx : x < (gA s f).length) (v : Int32) : Rg H (sA s f ((gA s f).set x v)) f (aupd g x v) := fun y hy => by
  rw [gA_sA, if_pos rfl]
  unfold aupd
  by_cases q : y = x
  · subst q; rw [if_pos rfl, List.getElem?_set_self hx]
  · rw [if_neg q, List.getElem?_set_ne (by omega)]; exact h y hy
theorem Rg.congr {H : Nat} {s : S} {f : Nat} {g g' : Nat → Int32} (h : Rg H s f g) (e : ∀ x, x < H → g x = g' x) : Rg H s f g' := fun x hx => by rw [h x hx, e x hx]
def Gd (H RC TC Fn : Nat) (s : S) : Prop := gI s 0 = Int32.ofNat H ∧ gI s 1 = Int32.ofNat Fn ∧ gI s 2 = Int32.ofNat RC ∧ gI s 3 = Int32.ofNat TC ∧ own_len s ∧ H ≤ 19 ∧ RC ≤ 16 ∧ RC < TC ∧ TC ≤ 64 ∧ Fn ≤ 4
theorem len_of {s t : S} (h : own_len s) (e : ∀ k, k ≤ 10 → (gA t k).length = (gA s k).length) : own_len t := by
  obtain ⟨l0, l1, l2, l3, l4, l5, l6, l7, l8, l9, l10⟩ := h
  exact ⟨by rw [e 0 (by omega)]; exact l0, by rw [e 1 (by omega)]; exact l1, by rw [e 2 (by omega)]; exact l2, by rw [e 3 (by omega)]; exact l3, by rw [e 4 (by omega)]; exact l4, by rw [e 5 (by omega)]; exact l5, by rw [e 6 (by omega)]; exact l6, by rw [e 7 (by omega)]; exact l7, by rw [e 8 (by omega)]; exact l8, by rw [e 9 (by omega)]; exact l9, by rw [e 10 (by omega)]; exact l10⟩
theorem len_set {s : S} (h : own_len s) {f x : Nat} {v : Int32} : own_len (sA s f ((gA s f).set x v)) := len_of h fun k _ => by
  rw [gA_sA]
  by_cases q : k = f
  · rw [if_pos q, List.length_set, q]
  · rw [if_neg q]
theorem len_sI {s : S} (h : own_len s) {f : Nat} {v : Int32} : own_len (sI s f v) := len_of h fun k _ => by rw [gA_sI]
theorem len64 {s : S} (h : own_len s) {f : Nat} (hf : f = 0 ∨ f = 2 ∨ f = 4 ∨ f = 5 ∨ f = 6 ∨ f = 7 ∨ f = 8 ∨ f = 9 ∨ f = 10) : (gA s f).length = 64 := by
  obtain ⟨l0, l1, l2, l3, l4, l5, l6, l7, l8, l9, l10⟩ := h
  rcases hf with rfl | rfl | rfl | rfl | rfl | rfl | rfl | rfl | rfl <;> assumption
theorem Gd.put {H RC TC Fn : Nat} {s : S} (h : Gd H RC TC Fn s) {f x : Nat} {v : Int32} : Gd H RC TC Fn (sA s f ((gA s f).set x v)) := by
  obtain ⟨g0, g1, g2, g3, l, b⟩ := h
  exact ⟨by rw [gI_sA]; exact g0, by rw [gI_sA]; exact g1, by rw [gI_sA]; exact g2, by rw [gI_sA]; exact g3, len_set l, b⟩
theorem Gd.sI {H RC TC Fn : Nat} {s : S} (h : Gd H RC TC Fn s) {f : Nat} {v : Int32} (hf : 4 ≤ f) : Gd H RC TC Fn (sI s f v) := by
  obtain ⟨g0, g1, g2, g3, l, b⟩ := h
  exact ⟨by rw [gI_sI, if_neg (by omega)]; exact g0, by rw [gI_sI, if_neg (by omega)]; exact g1, by rw [gI_sI, if_neg (by omega)]; exact g2, by rw [gI_sI, if_neg (by omega)]; exact g3, len_sI l, b⟩
theorem Gd.fx {H RC TC Fn : Nat} {s t : S} (h : Gd H RC TC Fn s) (i : ∀ k, k < 4 → gI t k = gI s k) (l : own_len t) : Gd H RC TC Fn t := by
  obtain ⟨g0, g1, g2, g3, _, b⟩ := h
  exact ⟨by rw [i 0 (by omega)]; exact g0, by rw [i 1 (by omega)]; exact g1, by rw [i 2 (by omega)]; exact g2, by rw [i 3 (by omega)]; exact g3, l, b⟩
theorem obj_yes {H RC TC Fn : Nat} {s : S} (G : Gd H RC TC Fn s) {x : Nat} (hx : x < H) : k_isObjectId (Int32.ofNat x) s = 1 := by
  obtain ⟨g0, g1, g2, g3, l, b⟩ := G
  unfold k_isObjectId
  rw [if_neg (ofNat_nonneg (by omega)), g0, if_pos (by rw [ofNat_lt (by omega) (by omega)]; exact hx)]
theorem obj_nil (s : S) : k_isObjectId (-1) s = 0 := by unfold k_isObjectId; rw [if_pos (by decide)]
def Rfd (H : Nat) (s : S) (fd : Nat → Nat → Option Nat) : Prop := ∀ x f, x < H → f < 4 → (gA s 1)[4 * x + f]? = some (pc (fd x f))
theorem Rfd.fx {H : Nat} {s t : S} {fd : Nat → Nat → Option Nat} (h : Rfd H s fd) (e : gA t 1 = gA s 1) : Rfd H t fd := by unfold Rfd; rw [e]; exact h
theorem fno_yes {H RC TC Fn : Nat} {s : S} (G : Gd H RC TC Fn s) {f : Nat} (hf : f < Fn) : k_isFieldNo (Int32.ofNat f) s = 1 := by
  have f4 := G.2.2.2.2.2.2.2.2.2
  unfold k_isFieldNo
  rw [if_neg (ofNat_nonneg (by omega)), G.2.1, if_pos (by rw [ofNat_lt (by omega) (by omega)]; exact hf)]
theorem mul4 (x f : Nat) : Int32.ofNat x * 4 + Int32.ofNat f = Int32.ofNat (4 * x + f) := by
  rw [show Int32.ofNat x * 4 = Int32.ofNat (x * 4) from (Int32.ofNat_mul x 4).symm, ofNat_add', Nat.mul_comm]
theorem read_ok {H RC TC Fn : Nat} {s : S} (G : Gd H RC TC Fn s) {fd : Nat → Nat → Option Nat} (R : Rfd H s fd) {x f : Nat} (hx : x < H) (hf : f < Fn) : k_readField (Int32.ofNat x) (Int32.ofNat f) s = some (pc (fd x f)) := by
  have h8 := G.2.2.2.2.2.1
  have f4 := G.2.2.2.2.2.2.2.2.2
  unfold k_readField
  rw [obj_yes G hx, if_neg (by decide), fno_yes G hf, if_neg (by decide), mul4, ix_ofNat _ (by omega), R x f hx (by omega), Option.bind_some]
def lvO (lv : Nat → Bool) : Option Nat → Int32
  | none => 0
  | some y => bI (lv y)
theorem live_ok {H RC TC Fn : Nat} {s : S} (G : Gd H RC TC Fn s) {lv : Nat → Bool} (R : Rg H s 0 (fun x => bI (lv x))) {o : Option Nat} (ho : ∀ y, o = some y → y < H) : k_isLiveId (pc o) s = some (lvO lv o) := by
  have h8 := G.2.2.2.2.2.1
  unfold k_isLiveId
  cases o with
  | none => rw [show pc none = -1 from rfl, obj_nil, if_pos rfl]; rfl
  | some y =>
    have hy := ho y rfl
    rw [show pc (some y) = Int32.ofNat y from rfl, obj_yes G hy, if_neg (by decide), ix_ofNat _ (by omega), R y hy, Option.bind_some]
    exact bI_ite _
def fc (fd : Nat → Nat → Option Nat) (y x : Nat) : Nat → Nat
  | 0 => 0
  | k + 1 => fc fd y x k + (if fd y k = some x then 1 else 0)
theorem fc_zero {fd : Nat → Nat → Option Nat} {y x : Nat} : ∀ k, fc fd y x k = 0 ↔ ∀ f, f < k → fd y f ≠ some x
  | 0 => ⟨fun _ f h => by omega, fun _ => rfl⟩
  | k + 1 => by
    rw [fc]
    have ih := fc_zero (fd := fd) (y := y) (x := x) k
    constructor
    · intro h f hf
      by_cases q : f = k
      · subst q
        intro e
        rw [if_pos e] at h
        omega
      · exact ih.mp (by omega) f (by omega)
    · intro h
      rw [ih.mpr fun f hf => h f (by omega), if_neg (h k (by omega))]
theorem fc_le (fd : Nat → Nat → Option Nat) (y x : Nat) : ∀ k, fc fd y x k ≤ k
  | 0 => Nat.le_refl _
  | k + 1 => by
    rw [fc]
    have := fc_le fd y x k
    split <;> omega
theorem fc_congr {fd gd : Nat → Nat → Option Nat} {y x : Nat} : ∀ k, (∀ f, f < k → fd y f = gd y f) → fc fd y x k = fc gd y x k
  | 0, _ => rfl
  | k + 1, h => by rw [fc, fc, fc_congr k fun f hf => h f (by omega), h k (by omega)]
def one (fd : Nat → Nat → Option Nat) (y x : Nat) : Nat := fc fd y x 4
theorem fc_top {fd : Nat → Nat → Option Nat} {Fn : Nat} (wF : ∀ x f y, fd x f = some y → f < Fn) (y x : Nat) : ∀ k, Fn ≤ k → fc fd y x k = fc fd y x Fn
  | 0, h => by rw [show Fn = 0 by omega]
  | k + 1, h => by
    by_cases q : Fn = k + 1
    · rw [q]
    · rw [fc, fc_top wF y x k (by omega), if_neg (fun e => by have := wF y k x e; omega), Nat.add_zero]
def deg (P : Nat → Bool) (fd : Nat → Nat → Option Nat) (x : Nat) : Nat → Nat
  | 0 => 0
  | n + 1 => deg P fd x n + (if P n then one fd n x else 0)
theorem deg_congr {P Q : Nat → Bool} {fd gd : Nat → Nat → Option Nat} {x : Nat} : ∀ n, (∀ y, y < n → P y = Q y ∧ (P y = true → one fd y x = one gd y x)) → deg P fd x n = deg Q gd x n
  | 0, _ => rfl
  | n + 1, h => by
    rw [deg, deg, deg_congr n fun y hy => h y (by omega)]
    obtain ⟨h1, h2⟩ := h n (by omega)
    rw [← h1]
    cases e : P n with
    | false => rfl
    | true => rw [if_pos rfl, if_pos rfl, h2 e]
theorem deg_drop {P : Nat → Bool} {fd : Nat → Nat → Option Nat} {x z : Nat} (hz : P z = true) : ∀ n, z < n → deg (aupd P z false) fd x n + one fd z x = deg P fd x n
  | 0, h => by omega
  | n + 1, h => by
    rw [deg, deg]
    by_cases q : z = n
    · subst q
      have e : deg (aupd P z false) fd x z = deg P fd x z := deg_congr z fun y hy => by
        have : aupd P z false y = P y := by unfold aupd; rw [if_neg (by omega)]
        rw [this]; exact ⟨rfl, fun _ => rfl⟩
      have e2 : aupd P z false z = false := by unfold aupd; rw [if_pos rfl]
      rw [e, e2, hz]; simp
    · have := deg_drop (fd := fd) (x := x) hz n (by omega)
      have e2 : aupd P z false n = P n := by unfold aupd; rw [if_neg (by omega)]
      rw [e2]; omega
theorem deg_zero {P : Nat → Bool} {fd : Nat → Nat → Option Nat} {x : Nat} : ∀ n, deg P fd x n = 0 ↔ ∀ y f, y < n → P y = true → f < 4 → fd y f ≠ some x
  | 0 => ⟨fun _ y f h => by omega, fun _ => rfl⟩
  | n + 1 => by
    rw [deg]
    have ih := deg_zero (P := P) (fd := fd) (x := x) n
    constructor
    · intro h y f hy hp hf
      by_cases q : y = n
      · subst q
        rw [hp, if_pos rfl] at h
        exact (fc_zero 4).mp (show fc fd y x 4 = 0 by unfold one at h; omega) f hf
      · exact (ih.mp (by omega)) y f (by omega) hp hf
    · intro h
      have h1 := ih.mpr fun y f hy hp hf => h y f (by omega) hp hf
      rw [h1]
      cases e : P n with
      | false => rfl
      | true =>
        rw [if_pos rfl]
        rw [Nat.zero_add]
        exact (fc_zero 4).mpr fun f hf => h n f (by omega) e hf
theorem deg_le (P : Nat → Bool) (fd : Nat → Nat → Option Nat) (x : Nat) : ∀ n, deg P fd x n ≤ 4 * n
  | 0 => by simp [deg]
  | n + 1 => by
    rw [deg]
    have := deg_le P fd x n
    have : one fd n x ≤ 4 := fc_le ..
    split <;> omega
/-- what a heap shows -/
def Rr (s : S) (rts : List (Option Nat)) : Prop := gI s 5 = Int32.ofNat rts.length ∧ ∀ (i : Nat) (o : Option Nat), rts[i]? = some o → (gA s 3)[i]? = some (pc o)
theorem Rr.fx {s t : S} {rts : List (Option Nat)} (h : Rr s rts) (i5 : gI t 5 = gI s 5) (e : gA t 3 = gA s 3) : Rr t rts := by unfold Rr; rw [i5, e]; exact h
theorem clr7 : ∀ m j N s, j + m = 64 → m < N → own_len s → Upto (gA s 7) j 0 → ∃ s', k_markRootHeld_2 N (Int32.ofNat j) s = k_markRootHeld_21 s' ∧ Fx [] [] [7] [] s s' ∧ own_len s' ∧ gA s' 7 = rep 64 0
  | _, _, 0, _, _, h, _, _ => by omega
  | 0, j, N + 1, s, hj, _, l, u => by
    have : j = 64 := by omega
    subst this
    exact ⟨s, by rw [k_markRootHeld_2, if_neg (by decide)], Fx.refl .., l, u.all (len64 l (by simp))⟩
  | m + 1, j, N + 1, s, hj, hN, l, u => by
    have l7 := len64 l (f := 7) (by simp)
    rw [k_markRootHeld_2, if_pos ((lt_lit (m := 64) (by omega) (by decide)).mpr (by omega)), st_ofNat _ _ (by omega) (by omega), Option.bind_some, ofNat_succ]
    obtain ⟨s', e, F, r⟩ := clr7 m (j + 1) N (sA s 7 ((gA s 7).set j 0)) (by omega) (by omega) (len_set l) (by rw [gA_sA, if_pos rfl]; exact u.set (by omega))
    exact ⟨s', e, ((Fx.refl ..).sA (by simp)).trans F, r⟩
def held (rts : List (Option Nat)) (x : Nat) : Bool := decide (some x ∈ rts)
theorem mark_loop {H RC TC Fn : Nat} {rts : List (Option Nat)} (hl : rts.length ≤ 16) (hr : ∀ y, some y ∈ rts → y < H) : ∀ m j N s, j + m = rts.length → m < N → Gd H RC TC Fn s → Rr s rts → Rg H s 7 (fun x => bI (held (rts.take j) x)) → ∃ s', k_markRootHeld_23 N (Int32.ofNat j) s = some s' ∧ Fx [] [] [7] [] s s' ∧ Gd H RC TC Fn s' ∧ Rg H s' 7 (fun x => bI (held rts x))
  | _, _, 0, _, _, h, _, _, _ => by omega
  | 0, j, N + 1, s, hj, _, G, R, g => by
    have : j = rts.length := by omega
    subst this
    rw [List.take_length] at g
    exact ⟨s, by rw [k_markRootHeld_23, R.1, if_neg (by rw [ofNat_lt (by omega) (by omega)]; omega)], Fx.refl .., G, g⟩
  | m + 1, j, N + 1, s, hj, hN, G, R, g => by
    have hj' : j < rts.length := by omega
    have ej : rts[j]? = some rts[j] := List.getElem?_eq_getElem hj'
    have h8 := G.2.2.2.2.2.1
    have l7 := len64 G.2.2.2.2.1 (f := 7) (by simp)
    have tk : rts.take (j + 1) = rts.take j ++ [rts[j]] := by rw [List.take_add_one, ej]; rfl
    rw [k_markRootHeld_23, R.1, if_pos (by rw [ofNat_lt (by omega) (by omega)]; exact hj'), if_pos ((lt_lit (m := 16) (by omega) (by decide)).mpr (by omega)), ix_ofNat _ (by omega), R.2 j _ ej, Option.bind_some, ofNat_succ]
    cases e : rts[j] with
    | none =>
      rw [show pc none = -1 from rfl, obj_nil, if_pos rfl]
      refine mark_loop hl hr m (j + 1) N s (by omega) (by omega) G R (g.congr fun x hx => ?_)
      rw [tk, e]; unfold held; simp
    | some y =>
      have hy : y < H := hr y (by rw [← e]; exact List.getElem_mem hj')
      rw [show pc (some y) = Int32.ofNat y from rfl, obj_yes G hy, if_neg (by decide), st_ofNat _ _ (by omega) (by omega), Option.bind_some]
      obtain ⟨s', e', F, r⟩ := mark_loop hl hr m (j + 1) N (sA s 7 ((gA s 7).set y 1)) (by omega) (by omega) G.put (R.fx (by rw [gI_sA]) (by rw [gA_sA, if_neg (by decide)])) ((g.put (by omega) 1).congr fun x hx => by
        unfold aupd
        by_cases w : x = y
        · rw [if_pos w, tk, e]; unfold held; simp [w]; rfl
        · rw [if_neg w, tk, e]; unfold held; simp [w])
      exact ⟨s', e', ((Fx.refl ..).sA (by simp)).trans F, r⟩
theorem mark_ok {H RC TC Fn : Nat} {rts : List (Option Nat)} (hl : rts.length ≤ 16) (hr : ∀ y, some y ∈ rts → y < H) {s : S} (G : Gd H RC TC Fn s) (R : Rr s rts) : ∃ s', k_markRootHeld s = some s' ∧ Fx [] [] [7] [] s s' ∧ Gd H RC TC Fn s' ∧ Rg H s' 7 (fun x => bI (held rts x)) := by
  have h8 := G.2.2.2.2.2.1
  obtain ⟨t, e, F, l, a⟩ := clr7 64 0 BIG s (by omega) (by unfold BIG; omega) G.2.2.2.2.1 (Upto.zero _ _)
  have Gt : Gd H RC TC Fn t := G.fx (fun k _ => F.1 k (by simp)) l
  obtain ⟨s', e2, F2, G2, g2⟩ := mark_loop hl hr rts.length 0 BIG t (by omega) (by unfold BIG; omega) Gt (R.fx (F.1 5 (by simp)) (F.2.2.1 3 (by simp))) (fun x hx => by
    rw [a]; unfold rep; rw [List.getElem?_replicate, if_pos (by omega)]; unfold held; simp; rfl)
  refine ⟨s', ?_, F.trans F2, G2, g2⟩
  unfold k_markRootHeld
  rw [show (0 : Int32) = Int32.ofNat 0 from rfl, e]
  exact e2
theorem init_cnt {H RC TC Fn : Nat} {lv : Nat → Bool} : ∀ m j N s, j + m = 64 → m < N → Gd H RC TC Fn s → Rg H s 0 (fun x => bI (lv x)) → Upto (gA s 9) j 0 → Upto (gA s 8) j 0 → (∀ x, x < j → x < H → (gA s 6)[x]? = some (bI (lv x))) → ∃ s', k_countHolders_2 N (Int32.ofNat j) s = k_countHolders_56 s' ∧ Fx [] [] [6, 8, 9] [] s s' ∧ Gd H RC TC Fn s' ∧ Rg H s' 9 (fun _ => 0) ∧ Rg H s' 8 (fun _ => 0) ∧ Rg H s' 6 (fun x => bI (lv x))
  | _, _, 0, _, _, h, _, _, _, _, _ => by omega
  | 0, j, N + 1, s, hj, _, G, R, u9, u8, g6 => by
    have : j = 64 := by omega
    subst this
    have h8 := G.2.2.2.2.2.1
    exact ⟨s, by rw [k_countHolders_2, if_neg (by decide)], Fx.refl .., G, fun x hx => u9 x (by omega), fun x hx => u8 x (by omega), fun x hx => g6 x (by omega) hx⟩
  | m + 1, j, N + 1, s, hj, hN, G, R, u9, u8, g6 => by
    have h8 := G.2.2.2.2.2.1
    have l9 := len64 G.2.2.2.2.1 (f := 9) (by simp)
    have l8 := len64 G.2.2.2.2.1 (f := 8) (by simp)
    have l6 := len64 G.2.2.2.2.1 (f := 6) (by simp)
    have nb : ∀ b, nar .boolean (bI b) = bI b := fun b => by cases b <;> decide
    have key : ∀ p0 : Int32, (j < H → p0 = bI (lv j)) → (p0 = 0 ∨ p0 = 1) → ∃ s', k_countHolders_49 (fun v1 s => k_countHolders_2 N v1 s) (Int32.ofNat j) p0 (Int32.ofNat j) (sA (sA s 9 ((gA s 9).set j 0)) 8 ((gA s 8).set j 0)) = k_countHolders_56 s' ∧ Fx [] [] [6, 8, 9] [] s s' ∧ Gd H RC TC Fn s' ∧ Rg H s' 9 (fun _ => 0) ∧ Rg H s' 8 (fun _ => 0) ∧ Rg H s' 6 (fun x => bI (lv x)) := fun p0 hp h01 => by
      unfold k_countHolders_49
      have n01 : nar .boolean p0 = p0 := by rcases h01 with h | h <;> rw [h] <;> decide
      have e6 : gA (sA (sA s 9 ((gA s 9).set j 0)) 8 ((gA s 8).set j 0)) 6 = gA s 6 := by simp only [gA_sA]; rfl
      have Gt : Gd H RC TC Fn (sA (sA s 9 ((gA s 9).set j 0)) 8 ((gA s 8).set j 0)) := by
        have := (G.put (f := 9) (x := j) (v := 0)).put (f := 8) (x := j) (v := 0)
        rw [gA_sA, if_neg (by decide)] at this
        exact this
      rw [n01, e6, st_ofNat _ _ (by omega) (by omega), Option.bind_some, ofNat_succ]
      have Gt2 := Gt.put (f := 6) (x := j) (v := p0)
      rw [e6] at Gt2
      obtain ⟨s', e, F, r⟩ := init_cnt m (j + 1) N (sA (sA (sA s 9 ((gA s 9).set j 0)) 8 ((gA s 8).set j 0)) 6 ((gA s 6).set j p0)) (by omega) (by omega) Gt2 (R.fx (by simp only [gA_sA]; rfl)) (by simp only [gA_sA]; exact u9.set (by omega)) (by simp only [gA_sA]; exact u8.set (by omega)) (fun x hx hH => by
        simp only [gA_sA, if_true]
        by_cases w : x = j
        · subst w; rw [List.getElem?_set_self (by omega), hp hH]
        · rw [List.getElem?_set_ne (by omega)]; exact g6 x (by omega) hH)
      exact ⟨s', e, ((((Fx.refl ..).sA (by simp)).sA (by simp)).sA (by simp)).trans F, r⟩
    rw [k_countHolders_2, if_pos ((lt_lit (m := 64) (by omega) (by decide)).mpr (by omega)), st_ofNat _ _ (by omega) (by omega), Option.bind_some, st_ofNat _ _ (by omega) (by omega), Option.bind_some, G.1]
    by_cases q : j < H
    · rw [if_pos (by rw [ofNat_lt (by omega) (by omega)]; exact q), ix_ofNat _ (by omega), R j q, Option.bind_some]
      refine key _ (fun _ => ?_) ?_
      · show (if bI (lv j) = 0 then (0 : Int32) else 1) = bI (lv j)
        cases lv j <;> rfl
      · show (if bI (lv j) = 0 then (0 : Int32) else 1) = 0 ∨ (if bI (lv j) = 0 then (0 : Int32) else 1) = 1
        cases lv j
        · exact Or.inl rfl
        · exact Or.inr rfl
    · rw [if_neg (by rw [ofNat_lt (by omega) (by omega)]; exact q)]
      exact key 0 (fun z => absurd z q) (Or.inl rfl)
/-- one field pair is counted into array a -/
theorem add_loop {H RC TC Fn : Nat} {lv : Nat → Bool} {fd : Nat → Nat → Option Nat} (w1 : ∀ x f y, fd x f = some y → y < H ∧ lv y = true) (wF : ∀ x f y, fd x f = some y → f < Fn) {y : Nat} (hy : y < H) {s : S} (G : Gd H RC TC Fn s) (R0 : Rg H s 0 (fun x => bI (lv x))) (Rf : Rfd H s fd) {g : Nat → Nat} (gb : ∀ x, x < H → g x ≤ 100) (R9 : Rg H s 9 (fun x => Int32.ofNat (g x))) : ∃ s', k_addHoldersOf (Int32.ofNat y) s = some s' ∧ Fx [] [] [9] [] s s' ∧ Gd H RC TC Fn s' ∧ Rg H s' 9 (fun x => Int32.ofNat (g x + one fd y x)) := by
  have h8 := G.2.2.2.2.2.1
  have f4 := G.2.2.2.2.2.2.2.2.2
  -- one step
  have step : ∀ (f : Nat) (n : Nat) (s : S) (g : Nat → Nat), f < Fn → Gd H RC TC Fn s → Rg H s 0 (fun x => bI (lv x)) → Rfd H s fd → Rg H s 9 (fun x => Int32.ofNat (g x)) → ∃ s', k_addHoldersOf_2 (n + 1) (Int32.ofNat y) (Int32.ofNat f) s = k_addHoldersOf_2 n (Int32.ofNat y) (Int32.ofNat (f + 1)) s' ∧ Fx [] [] [9] [] s s' ∧ Gd H RC TC Fn s' ∧ Rg H s' 9 (fun x => Int32.ofNat (g x + if fd y f = some x then 1 else 0)) := fun f n s g hf G R0 Rf R9 => by
    have l9 := len64 G.2.2.2.2.1 (f := 9) (by simp)
    rw [k_addHoldersOf_2, G.2.1, if_pos (by rw [ofNat_lt (by omega) (by omega)]; exact hf), read_ok G Rf hy hf, Option.bind_some, live_ok G R0 (fun z hz => (w1 y f z hz).1), Option.bind_some, ofNat_succ]
    cases e : fd y f with
    | none =>
      rw [if_pos (show lvO lv none = 0 from rfl)]
      exact ⟨s, rfl, Fx.refl .., G, R9.congr fun x hx => by simp⟩
    | some z =>
      obtain ⟨hz, lz⟩ := w1 y f z e
      rw [show lvO lv (some z) = bI (lv z) from rfl, lz, if_neg (by decide), show pc (some z) = Int32.ofNat z from rfl, ix_ofNat _ (by omega), R9 z hz, Option.bind_some, ofNat_succ, st_ofNat _ _ (by omega) (by omega), Option.bind_some]
      refine ⟨_, rfl, (Fx.refl ..).sA (by simp), G.put, (R9.put (by omega) _).congr fun x hx => ?_⟩
      unfold aupd
      by_cases w : x = z
      · rw [if_pos w, w, if_pos rfl]
      · rw [if_neg w, if_neg (fun q => w (Option.some.inj q).symm)]; rfl
  have loop : ∀ m f n (s : S), f + m = Fn → m < n → Gd H RC TC Fn s → Rg H s 0 (fun x => bI (lv x)) → Rfd H s fd → Rg H s 9 (fun x => Int32.ofNat (g x + fc fd y x f)) → ∃ s', k_addHoldersOf_2 n (Int32.ofNat y) (Int32.ofNat f) s = some s' ∧ Fx [] [] [9] [] s s' ∧ Gd H RC TC Fn s' ∧ Rg H s' 9 (fun x => Int32.ofNat (g x + fc fd y x Fn)) := by
    intro m
    induction m with
    | zero =>
      intro f n s hf hn G R0 Rf R9
      obtain ⟨n, rfl⟩ : ∃ k, n = k + 1 := ⟨n - 1, by omega⟩
      have : f = Fn := by omega
      subst this
      exact ⟨s, by rw [k_addHoldersOf_2, G.2.1, if_neg (by rw [ofNat_lt (by omega) (by omega)]; omega)], Fx.refl .., G, R9⟩
    | succ m ih =>
      intro f n s hf hn G R0 Rf R9
      obtain ⟨n, rfl⟩ : ∃ k, n = k + 1 := ⟨n - 1, by omega⟩
      obtain ⟨t, e1, F1, G1, R1⟩ := step f n s _ (by omega) G R0 Rf R9
      obtain ⟨u, e2, F2, r⟩ := ih (f + 1) n t (by omega) (by omega) G1 (R0.fx (F1.2.2.1 0 (by simp))) (Rf.fx (F1.2.2.1 1 (by simp))) (R1.congr fun x hx => by rw [fc, Nat.add_assoc])
      exact ⟨u, e1.trans e2, F1.trans F2, r⟩
  obtain ⟨u, e, F, G', R⟩ := loop Fn 0 BIG s (by omega) (by unfold BIG; omega) G R0 Rf R9
  refine ⟨u, e, F, G', R.congr fun x hx => ?_⟩
  unfold one
  rw [fc_top wF y x 4 f4]
theorem cnt_loop {H RC TC Fn : Nat} {lv : Nat → Bool} {fd : Nat → Nat → Option Nat} (w1 : ∀ x f y, fd x f = some y → y < H ∧ lv y = true) (wF : ∀ x f y, fd x f = some y → f < Fn) : ∀ m j N s, j + m = H → m < N → Gd H RC TC Fn s → Rg H s 0 (fun x => bI (lv x)) → Rfd H s fd → Rg H s 9 (fun x => Int32.ofNat (deg lv fd x j)) → ∃ s', k_countHolders_58 N (Int32.ofNat j) s = some s' ∧ Fx [] [] [9] [] s s' ∧ Gd H RC TC Fn s' ∧ Rg H s' 9 (fun x => Int32.ofNat (deg lv fd x H))
  | _, _, 0, _, _, h, _, _, _, _ => by omega
  | 0, j, N + 1, s, hj, _, G, R0, Rf, R9 => by
    have : j = H := by omega
    subst this
    have h8 := G.2.2.2.2.2.1
    exact ⟨s, by rw [k_countHolders_58, G.1, if_neg (by rw [ofNat_lt (by omega) (by omega)]; omega)], Fx.refl .., G, R9⟩
  | m + 1, j, N + 1, s, hj, hN, G, R0, Rf, R9 => by
    have h8 := G.2.2.2.2.2.1
    rw [k_countHolders_58, G.1, if_pos (by rw [ofNat_lt (by omega) (by omega)]; omega), ix_ofNat _ (by omega), show (gA s 0)[j]? = some (bI (lv j)) from R0 j (by omega), Option.bind_some, ofNat_succ]
    cases e : lv j with
    | false =>
      rw [if_pos (show bI false = 0 from rfl)]
      exact cnt_loop w1 wF m (j + 1) N s (by omega) (by omega) G R0 Rf (R9.congr fun x hx => by rw [deg, e]; rfl)
    | true =>
      rw [if_neg (show ¬ bI true = 0 by decide)]
      obtain ⟨t, e1, F1, G1, R1⟩ := add_loop w1 wF (y := j) (by omega) G R0 Rf (fun x hx => by have := deg_le lv fd x j; omega) R9
      rw [e1, Option.bind_some]
      obtain ⟨s', e2, F2, r⟩ := cnt_loop w1 wF m (j + 1) N t (by omega) (by omega) G1 (R0.fx (F1.2.2.1 0 (by simp))) (Rf.fx (F1.2.2.1 1 (by simp))) (R1.congr fun x hx => by rw [deg, e]; rfl)
      exact ⟨s', e2, F1.trans F2, r⟩
def RW (s : S) (W : List Nat) : Prop := gI s 7 = Int32.ofNat W.length ∧ W.length ≤ 19 ∧ ∀ (i x : Nat), W[i]? = some x → (gA s 10)[i]? = some (Int32.ofNat x)
theorem RW.fx {s t : S} {W : List Nat} (h : RW s W) (i : gI t 7 = gI s 7) (e : gA t 10 = gA s 10) : RW t W := by unfold RW; rw [i, e]; exact h
/-- the state of the work -/
def Cs (H RC TC Fn : Nat) (s : S) (lv : Nat → Bool) (fd : Nat → Nat → Option Nat) (hd P Q : Nat → Bool) (hold : Nat → Nat) (W : List Nat) : Prop := Gd H RC TC Fn s ∧ Rg H s 0 (fun x => bI (lv x)) ∧ Rfd H s fd ∧ Rg H s 6 (fun x => bI (P x)) ∧ Rg H s 7 (fun x => bI (hd x)) ∧ Rg H s 8 (fun x => bI (Q x)) ∧ Rg H s 9 (fun x => Int32.ofNat (hold x)) ∧ RW s W ∧ ∀ x, x < H → hold x ≤ 100
def elig (hd P Q : Nat → Bool) (hold : Nat → Nat) (x : Nat) : Bool := P x && !hd x && !Q x && decide (hold x = 0)
theorem nat_zero {n : Nat} (h : n ≤ 1000) : Int32.ofNat n = 0 ↔ n = 0 := by
  constructor
  · intro e
    have := congrArg Int32.toInt e
    rw [ofNat_toInt (by omega), show (0 : Int32).toInt = 0 from rfl] at this
    omega
  · intro e; rw [e]; rfl
theorem elig_ok {H RC TC Fn : Nat} {s : S} {lv : Nat → Bool} {fd : Nat → Nat → Option Nat} {hd P Q : Nat → Bool} {hold : Nat → Nat} {W : List Nat} (C : Cs H RC TC Fn s lv fd hd P Q hold W) {x : Nat} (hx : x < H) : k_eligible (Int32.ofNat x) s = some (bI (elig hd P Q hold x)) := by
  obtain ⟨G, R0, Rf, R6, R7, R8, R9, _, hb⟩ := C
  have h8 := G.2.2.2.2.2.1
  unfold k_eligible elig
  rw [obj_yes G hx, if_neg (by decide), ix_ofNat _ (by omega), show (gA s 6)[x]? = some (bI (P x)) from R6 x hx, Option.bind_some]
  cases P x
  · rw [if_pos (show bI false = 0 from rfl)]; rfl
  rw [if_neg (show ¬ bI true = 0 by decide), ix_ofNat _ (by omega), show (gA s 7)[x]? = some (bI (hd x)) from R7 x hx, Option.bind_some]
  cases hd x
  case true => rw [if_neg (show ¬ bI true = 0 by decide)]; rfl
  rw [if_pos (show bI false = 0 from rfl), ix_ofNat _ (by omega), show (gA s 8)[x]? = some (bI (Q x)) from R8 x hx, Option.bind_some]
  cases Q x
  case true => rw [if_neg (show ¬ bI true = 0 by decide)]; rfl
  rw [if_pos (show bI false = 0 from rfl), ix_ofNat _ (by omega), show (gA s 9)[x]? = some (Int32.ofNat (hold x)) from R9 x hx, Option.bind_some]
  have z := nat_zero (n := hold x) (by have := hb x hx; omega)
  by_cases q : hold x = 0
  · rw [if_pos (z.mpr q)]; simp [q]; rfl
  · rw [if_neg (fun e => q (z.mp e))]; simp [q]; rfl
theorem enq_ok {H RC TC Fn : Nat} {s : S} {lv : Nat → Bool} {fd : Nat → Nat → Option Nat} {hd P Q : Nat → Bool} {hold : Nat → Nat} {W : List Nat} (C : Cs H RC TC Fn s lv fd hd P Q hold W) {x : Nat} (hx : x < H) (hW : W.length < 19) : ∃ s', k_enqueue (Int32.ofNat x) s = some s' ∧ Fx [7] [] [8, 10] [] s s' ∧ Cs H RC TC Fn s' lv fd hd P (aupd Q x true) hold (W ++ [x]) := by
  obtain ⟨G, R0, Rf, R6, R7, R8, R9, ⟨w7, w8, wi⟩, hb⟩ := C
  have h8 := G.2.2.2.2.2.1
  have l8 := len64 G.2.2.2.2.1 (f := 8) (by simp)
  have l10 := len64 G.2.2.2.2.1 (f := 10) (by simp)
  have e8 : gA (sI (sA s 10 ((gA s 10).set W.length (Int32.ofNat x))) 7 (Int32.ofNat (W.length + 1))) 8 = gA s 8 := by rw [gA_sI, gA_sA, if_neg (by decide)]
  have G1 : Gd H RC TC Fn (sI (sA s 10 ((gA s 10).set W.length (Int32.ofNat x))) 7 (Int32.ofNat (W.length + 1))) := G.put.sI (by omega)
  have G2 := G1.put (f := 8) (x := x) (v := 1)
  rw [e8] at G2
  refine ⟨sA (sI (sA s 10 ((gA s 10).set W.length (Int32.ofNat x))) 7 (Int32.ofNat (W.length + 1))) 8 ((gA s 8).set x 1), ?_, ?_, G2, ?_, ?_, ?_, ?_, ?_, ?_, ⟨?_, ?_, ?_⟩, hb⟩
  · unfold k_enqueue
    rw [w7, if_pos ((lt_lit (m := 64) (by omega) (by decide)).mpr (by omega)), st_ofNat _ _ (by omega) (by omega), Option.bind_some, st_ofNat _ _ (by omega) (by omega), Option.bind_some, ofNat_succ]
  · exact (((Fx.refl ..).sA (by simp)).sI (by simp)).sA (by simp)
  · exact R0.fx (by simp only [gA_sA, gA_sI]; rfl)
  · exact Rf.fx (by simp only [gA_sA, gA_sI]; rfl)
  · exact R6.fx (by simp only [gA_sA, gA_sI]; rfl)
  · exact R7.fx (by simp only [gA_sA, gA_sI]; rfl)
  · intro y hy
    rw [gA_sA, if_pos rfl]
    show _ = some (bI (aupd Q x true y))
    unfold aupd
    by_cases q : y = x
    · subst q; rw [if_pos rfl, List.getElem?_set_self (by omega)]; rfl
    · rw [if_neg q, List.getElem?_set_ne (by omega)]; exact R8 y hy
  · exact R9.fx (by simp only [gA_sA, gA_sI]; rfl)
  · rw [gI_sA, gI_sI, if_pos rfl, List.length_append, List.length_singleton]
  · rw [List.length_append, List.length_singleton]; omega
  · intro i y hi
    have e10 : gA (sA (sI (sA s 10 ((gA s 10).set W.length (Int32.ofNat x))) 7 (Int32.ofNat (W.length + 1))) 8 ((gA s 8).set x 1)) 10 = (gA s 10).set W.length (Int32.ofNat x) := by simp only [gA_sA, gA_sI]; rfl
    rw [e10]
    have il := (List.getElem?_eq_some_iff.mp hi).1
    rw [List.length_append, List.length_singleton] at il
    by_cases q : i < W.length
    · rw [List.getElem?_append_left q] at hi
      rw [List.getElem?_set_ne (by omega)]; exact wi i y hi
    · have : i = W.length := by omega
      subst this
      rw [List.getElem?_append_right (by omega), Nat.sub_self] at hi
      cases hi
      rw [List.getElem?_set_self (by omega)]
theorem nodup_len {l : List Nat} (nd : l.Nodup) {n : Nat} (h : ∀ x ∈ l, x < n) : l.length ≤ n := by
  have key : ∀ (n : Nat) (l : List Nat), l.Nodup → (∀ x ∈ l, x < n) → l.length ≤ n := by
    intro n
    induction n with
    | zero =>
      intro l nd h
      cases l with
      | nil => simp
      | cons a r => exact absurd (h a List.mem_cons_self) (by omega)
    | succ n ih =>
      intro l nd h
      by_cases q : n ∈ l
      · have := ih (l.erase n) (List.Nodup.erase n nd) (fun x hx => by
          have h1 := (List.Nodup.mem_erase_iff nd).mp hx
          have := h x h1.2
          omega)
        rw [List.length_erase_of_mem q] at this
        omega
      · have := ih l nd (fun x hx => by
          have := h x hx
          have : x ≠ n := fun e => q (e ▸ hx)
          omega)
        omega
  exact key n l nd h
theorem seed_loop {H RC TC Fn : Nat} {lv : Nat → Bool} {fd : Nat → Nat → Option Nat} {hd P : Nat → Bool} {hold : Nat → Nat} : ∀ m j N s Q W, j + m = H → m < N → Cs H RC TC Fn s lv fd hd P Q hold W → W.Nodup → (∀ x, x ∈ W ↔ x < j ∧ P x = true ∧ hd x = false ∧ hold x = 0) → (∀ x, Q x = decide (x ∈ W)) → ∃ s' Q' W', k_seedWork_7 N (Int32.ofNat j) s = some s' ∧ Fx [7] [] [8, 10] [] s s' ∧ Cs H RC TC Fn s' lv fd hd P Q' hold W' ∧ W'.Nodup ∧ (∀ x, x ∈ W' ↔ x < H ∧ P x = true ∧ hd x = false ∧ hold x = 0) ∧ (∀ x, Q' x = decide (x ∈ W'))
  | _, _, 0, _, _, _, _, h, _, _, _, _ => by omega
  | 0, j, N + 1, s, Q, W, hj, _, C, nd, mw, mq => by
    have : j = H := by omega
    subst this
    have h8 := C.1.2.2.2.2.2.1
    exact ⟨s, Q, W, by rw [k_seedWork_7, C.1.1, if_neg (by rw [ofNat_lt (by omega) (by omega)]; omega)], Fx.refl .., C, nd, mw, mq⟩
  | m + 1, j, N + 1, s, Q, W, hj, hN, C, nd, mw, mq => by
    have h8 := C.1.2.2.2.2.2.1
    have hjH : j < H := by omega
    rw [k_seedWork_7, C.1.1, if_pos (by rw [ofNat_lt (by omega) (by omega)]; omega), elig_ok C hjH, Option.bind_some, ofNat_succ]
    have nj : j ∉ W := fun z => by have := ((mw j).mp z).1; omega
    have qj : Q j = false := by rw [mq j]; exact decide_eq_false nj
    by_cases q : P j = true ∧ hd j = false ∧ hold j = 0
    · have e : elig hd P Q hold j = true := by unfold elig; simp [q.1, q.2.1, q.2.2, qj]
      have wl : W.length ≤ j := nodup_len nd (fun x hx => ((mw x).mp hx).1)
      obtain ⟨t, et, Ft, Ct⟩ := enq_ok C hjH (by omega)
      rw [e, if_neg (show ¬ bI true = 0 by decide), et, Option.bind_some]
      obtain ⟨s', Q', W', e', F', r⟩ := seed_loop m (j + 1) N t (aupd Q j true) (W ++ [j]) (by omega) (by omega) Ct (by
        rw [List.nodup_append]; exact ⟨nd, by simp, fun x hx y hy => by rw [List.mem_singleton.mp hy]; intro z; rw [z] at hx; exact nj hx⟩) (fun x => by
        rw [List.mem_append, mw x, List.mem_singleton]
        constructor
        · rintro (z | z)
          · exact ⟨by omega, z.2⟩
          · rw [z]; exact ⟨by omega, q⟩
        · rintro ⟨z1, z2⟩
          by_cases w : x = j
          · exact Or.inr w
          · exact Or.inl ⟨by omega, z2⟩) (fun x => by
        unfold aupd
        by_cases w : x = j
        · rw [if_pos w, w]; simp
        · rw [if_neg w, mq x]; simp [w])
      exact ⟨s', Q', W', e', Ft.trans F', r⟩
    · have e : elig hd P Q hold j = false := by
        unfold elig
        cases hP : P j with
        | false => rfl
        | true =>
          cases hh : hd j with
          | true => rfl
          | false =>
            have : hold j ≠ 0 := fun z => q ⟨hP, hh, z⟩
            simp [this]
      rw [e, if_pos (show bI false = 0 from rfl)]
      exact seed_loop m (j + 1) N s Q W (by omega) (by omega) C nd (fun x => by
        rw [mw x]
        constructor
        · rintro ⟨z1, z2⟩; exact ⟨by omega, z2⟩
        · rintro ⟨z1, z2⟩
          by_cases w : x = j
          · rw [w] at z2; exact absurd z2 q
          · exact ⟨by omega, z2⟩) mq
/-- while the fields of x are dropped -/
def Md (H : Nat) (lv : Nat → Bool) (fd : Nat → Nat → Option Nat) (hd P Q : Nat → Bool) (hold : Nat → Nat) (W : List Nat) (x f : Nat) : Prop := (∀ y, y < H → hold y + fc fd x y f = deg P fd y H + one fd x y) ∧ W.Nodup ∧ (∀ y, y ∈ W ↔ y < H ∧ Q y = true ∧ P y = true) ∧ (∀ y, y < H → Q y = true → hold y = 0 ∧ hd y = false) ∧ (∀ y, y < H → P y = true → hd y = false → hold y = 0 → Q y = true) ∧ (∀ y, y < H → lv y = true → P y = false → Q y = true) ∧ (∀ y, y < H → P y = true → lv y = true)
theorem drop_step {H RC TC Fn : Nat} {lv : Nat → Bool} {fd : Nat → Nat → Option Nat} (w1 : ∀ x f y, fd x f = some y → y < H ∧ lv y = true) (wF : ∀ x f y, fd x f = some y → f < Fn) {hd P Q : Nat → Bool} {hold : Nat → Nat} {W : List Nat} {x f n : Nat} {s : S} (hx : x < H) (hf : f < Fn) (C : Cs H RC TC Fn s lv fd hd P Q hold W) (M : Md H lv fd hd P Q hold W x f) : ∃ s' Q' hold' W', k_dropHoldersOf_2 (n + 1) (Int32.ofNat x) (Int32.ofNat f) s = k_dropHoldersOf_2 n (Int32.ofNat x) (Int32.ofNat (f + 1)) s' ∧ Fx [7] [] [8, 9, 10] [] s s' ∧ Cs H RC TC Fn s' lv fd hd P Q' hold' W' ∧ Md H lv fd hd P Q' hold' W' x (f + 1) := by
  obtain ⟨G, R0, Rf, R6, R7, R8, R9, RWs, hb⟩ := id C
  obtain ⟨m1, m2, m3, m4, m5, m6, m7⟩ := id M
  have h8 := G.2.2.2.2.2.1
  have l9 := len64 G.2.2.2.2.1 (f := 9) (by simp)
  have f4 := G.2.2.2.2.2.2.2.2.2
  rw [k_dropHoldersOf_2, G.2.1, if_pos (by rw [ofNat_lt (by omega) (by omega)]; exact hf), read_ok G Rf hx hf, Option.bind_some, live_ok G R0 (fun z hz => (w1 x f z hz).1), Option.bind_some, ofNat_succ]
  cases e : fd x f with
  | none =>
    rw [if_pos (show lvO lv none = 0 from rfl)]
    refine ⟨s, Q, hold, W, rfl, Fx.refl .., C, fun y hy => ?_, m2, m3, m4, m5, m6, m7⟩
    have := m1 y hy
    rw [fc, e]
    simpa using this
  | some y =>
    obtain ⟨hy, ly⟩ := w1 x f y e
    have rp : fc fd x y (f + 1) = fc fd x y f + 1 := by rw [fc, if_pos e]
    have rn : ∀ z, z ≠ y → fc fd x z (f + 1) = fc fd x z f := fun z hz => by rw [fc, if_neg (fun q => hz (Option.some.inj (q.symm.trans e))), Nat.add_zero]
    have rle : fc fd x y (f + 1) ≤ one fd x y := by
      unfold one
      have mono : ∀ a b, fc fd x y a ≤ fc fd x y (a + b) := fun a b => by
        induction b with
        | zero => exact Nat.le_refl _
        | succ b ih => rw [show a + (b + 1) = (a + b) + 1 by omega, fc]; omega
      have := mono (f + 1) (4 - (f + 1))
      rw [show f + 1 + (4 - (f + 1)) = 4 by omega] at this
      exact this
    have hp : 0 < hold y := by have := m1 y hy; omega
    have hby := hb y hy
    rw [show lvO lv (some y) = bI (lv y) from rfl, ly, if_neg (by decide), show pc (some y) = Int32.ofNat y from rfl, ix_ofNat _ (by omega), show (gA s 9)[y]? = some (Int32.ofNat (hold y)) from R9 y hy, Option.bind_some, Option.bind_some, if_pos (by rw [show (0 : Int32) = Int32.ofNat 0 from rfl, ofNat_lt (by omega) (by omega)]; exact hp)]
    have s1 : Int32.ofNat (hold y) - 1 = Int32.ofNat (hold y - 1) := by
      have := ofNat_succ (hold y - 1)
      rw [show hold y - 1 + 1 = hold y by omega] at this
      rw [← this]; simp
    rw [s1, st_ofNat _ _ (by omega) (by omega), Option.bind_some]
    have C1 : Cs H RC TC Fn (sA s 9 ((gA s 9).set y (Int32.ofNat (hold y - 1)))) lv fd hd P Q (aupd hold y (hold y - 1)) W := by
      refine ⟨G.put, R0.fx (by rw [gA_sA, if_neg (by decide)]), Rf.fx (by rw [gA_sA, if_neg (by decide)]), R6.fx (by rw [gA_sA, if_neg (by decide)]), R7.fx (by rw [gA_sA, if_neg (by decide)]), R8.fx (by rw [gA_sA, if_neg (by decide)]), (R9.put (by omega) _).congr fun z hz => ?_, RWs.fx (by rw [gI_sA]) (by rw [gA_sA, if_neg (by decide)]), fun z hz => ?_⟩
      · unfold aupd
        by_cases w : z = y
        · rw [if_pos w, if_pos w]
        · rw [if_neg w, if_neg w]
      · unfold aupd
        by_cases w : z = y
        · rw [if_pos w]; omega
        · rw [if_neg w]; exact hb z hz
    have nQ : Q y = false := by
      cases hQ : Q y with
      | false => rfl
      | true => have := (m4 y hy hQ).1; omega
    have F0 : Fx [7] [] [8, 9, 10] [] s (sA s 9 ((gA s 9).set y (Int32.ofNat (hold y - 1)))) := (Fx.refl ..).sA (by simp)
    have m1' : ∀ z, z < H → (aupd hold y (hold y - 1)) z + fc fd x z (f + 1) = deg P fd z H + one fd x z := fun z hz => by
      unfold aupd
      by_cases w : z = y
      · rw [if_pos w, w, rp]; have := m1 y hy; omega
      · rw [if_neg w, rn z w]; exact m1 z hz
    rw [elig_ok C1 hy, Option.bind_some]
    by_cases q : P y = true ∧ hd y = false ∧ hold y - 1 = 0
    · have ee : elig hd P Q (aupd hold y (hold y - 1)) y = true := by
        unfold elig
        rw [show (aupd hold y (hold y - 1)) y = hold y - 1 by unfold aupd; rw [if_pos rfl]]
        simp [q.1, q.2.1, q.2.2, nQ]
      have nW : y ∉ W := fun z => by rw [((m3 y).mp z).2.1] at nQ; cases nQ
      have wl : W.length < 19 := by
        have n2 : (y :: W).Nodup := List.nodup_cons.mpr ⟨nW, m2⟩
        have := nodup_len n2 (n := H) (fun z hz => by
          rcases List.mem_cons.mp hz with w | w
          · rw [w]; exact hy
          · exact ((m3 z).mp w).1)
        rw [List.length_cons] at this
        omega
      obtain ⟨t, et, Ft, Ct⟩ := enq_ok C1 hy wl
      rw [ee, if_neg (show ¬ bI true = 0 by decide), et, Option.bind_some]
      refine ⟨t, aupd Q y true, _, W ++ [y], rfl, F0.trans (Ft.mono (by simp) (by simp) (by simp) (by simp)), Ct, m1', ?_, fun z => ?_, fun z hz hQ => ?_, fun z hz h1 h2 h3 => ?_, fun z hz h1 h2 => ?_, m7⟩
      · rw [List.nodup_append]; exact ⟨m2, by simp, fun a ha b hb => by rw [List.mem_singleton.mp hb]; intro w; rw [w] at ha; exact nW ha⟩
      · rw [List.mem_append, m3 z, List.mem_singleton]
        unfold aupd
        by_cases w : z = y
        · rw [if_pos w, w]; simp [hy, q.1]
        · rw [if_neg w]; simp [w]
      · unfold aupd at hQ ⊢
        by_cases w : z = y
        · rw [if_pos w, w]; exact ⟨q.2.2, q.2.1⟩
        · rw [if_neg w] at hQ ⊢; exact m4 z hz hQ
      · unfold aupd at h3 ⊢
        by_cases w : z = y
        · rw [if_pos w]
        · rw [if_neg w] at h3 ⊢; exact m5 z hz h1 h2 h3
      · unfold aupd
        by_cases w : z = y
        · rw [if_pos w]
        · rw [if_neg w]; exact m6 z hz h1 h2
    · have ee : elig hd P Q (aupd hold y (hold y - 1)) y = false := by
        unfold elig
        rw [show (aupd hold y (hold y - 1)) y = hold y - 1 by unfold aupd; rw [if_pos rfl]]
        cases hP : P y with
        | false => rfl
        | true =>
          cases hh : hd y with
          | true => rfl
          | false =>
            have : ¬ (hold y - 1 = 0) := fun z => q ⟨hP, hh, z⟩
            simp [this]
      rw [ee, if_pos (show bI false = 0 from rfl)]
      refine ⟨_, Q, _, W, rfl, F0, C1, m1', m2, m3, fun z hz hQ => ?_, fun z hz h1 h2 h3 => ?_, m6, m7⟩
      · unfold aupd
        by_cases w : z = y
        · rw [w, nQ] at hQ; cases hQ
        · rw [if_neg w]; exact m4 z hz hQ
      · unfold aupd at h3
        by_cases w : z = y
        · rw [if_pos w] at h3
          rw [w] at h1 h2
          exact absurd ⟨h1, h2, h3⟩ q
        · rw [if_neg w] at h3; exact m5 z hz h1 h2 h3
theorem drop_ok {H RC TC Fn : Nat} {lv : Nat → Bool} {fd : Nat → Nat → Option Nat} (w1 : ∀ x f y, fd x f = some y → y < H ∧ lv y = true) (wF : ∀ x f y, fd x f = some y → f < Fn) {hd P Q : Nat → Bool} {hold : Nat → Nat} {W : List Nat} {x : Nat} {s : S} (hx : x < H) (C : Cs H RC TC Fn s lv fd hd P Q hold W) (M : Md H lv fd hd P Q hold W x 0) : ∃ s' Q' hold' W', k_dropHoldersOf (Int32.ofNat x) s = some s' ∧ Fx [7] [] [8, 9, 10] [] s s' ∧ Cs H RC TC Fn s' lv fd hd P Q' hold' W' ∧ Md H lv fd hd P Q' hold' W' x Fn := by
  have f4 := C.1.2.2.2.2.2.2.2.2.2
  have loop : ∀ m f n (s : S) Q hold W, f + m = Fn → m < n → Cs H RC TC Fn s lv fd hd P Q hold W → Md H lv fd hd P Q hold W x f → ∃ s' Q' hold' W', k_dropHoldersOf_2 n (Int32.ofNat x) (Int32.ofNat f) s = some s' ∧ Fx [7] [] [8, 9, 10] [] s s' ∧ Cs H RC TC Fn s' lv fd hd P Q' hold' W' ∧ Md H lv fd hd P Q' hold' W' x Fn := by
    intro m
    induction m with
    | zero =>
      intro f n s Q hold W hf hn C M
      obtain ⟨n, rfl⟩ : ∃ k, n = k + 1 := ⟨n - 1, by omega⟩
      have : f = Fn := by omega
      subst this
      exact ⟨s, Q, hold, W, by rw [k_dropHoldersOf_2, C.1.2.1, if_neg (by rw [ofNat_lt (by omega) (by omega)]; omega)], Fx.refl .., C, M⟩
    | succ m ih =>
      intro f n s Q hold W hf hn C M
      obtain ⟨n, rfl⟩ : ∃ k, n = k + 1 := ⟨n - 1, by omega⟩
      obtain ⟨t, Q1, h1, W1, e1, F1, C1, M1⟩ := drop_step (n := n) w1 wF hx (by omega) C M
      obtain ⟨u, Q2, h2, W2, e2, F2, r⟩ := ih (f + 1) n t Q1 h1 W1 (by omega) (by omega) C1 M1
      exact ⟨u, Q2, h2, W2, e1.trans e2, F1.trans F2, r⟩
  exact loop Fn 0 BIG s Q hold W (by omega) (by unfold BIG; omega) C M
def cntB (p : Nat → Bool) (H : Nat) : Nat := (List.range H).countP fun x => p x
theorem cntB_upd (p : Nat → Bool) (z : Nat) (b : Bool) : ∀ H, z < H → cntB (aupd p z b) H + (if p z then 1 else 0) = cntB p H + (if b then 1 else 0)
  | 0, h => by omega
  | n + 1, h => by
    unfold cntB
    rw [List.range_succ, List.countP_append, List.countP_append, List.countP_cons, List.countP_cons, List.countP_nil, List.countP_nil]
    by_cases q : z = n
    · subst q
      have e : (List.range z).countP (fun i => aupd p z b i) = (List.range z).countP (fun i => p i) := by
        apply List.countP_congr
        intro i hi
        have := List.mem_range.mp hi
        unfold aupd
        rw [if_neg (by omega)]
      have e2 : aupd p z b z = b := by unfold aupd; rw [if_pos rfl]
      rw [e, e2]
      omega
    · have := cntB_upd p z b n (by omega)
      unfold cntB at this
      have e2 : aupd p z b n = p n := by unfold aupd; rw [if_neg (by omega)]
      rw [e2]
      omega
theorem cntB_congr {p q : Nat → Bool} {H : Nat} (h : ∀ x, x < H → p x = q x) : cntB p H = cntB q H := by
  unfold cntB
  apply List.countP_congr
  intro x hx
  rw [h x (List.mem_range.mp hx)]
theorem cntB_le (p : Nat → Bool) (H : Nat) : cntB p H ≤ H := by
  unfold cntB; exact Nat.le_trans List.countP_le_length (by simp)
def CI (H : Nat) (lv : Nat → Bool) (fd : Nat → Nat → Option Nat) (hd P Q : Nat → Bool) (hold : Nat → Nat) (W : List Nat) : Prop := (∀ y, y < H → hold y = deg P fd y H) ∧ W.Nodup ∧ (∀ y, y ∈ W ↔ y < H ∧ Q y = true ∧ P y = true) ∧ (∀ y, y < H → Q y = true → hold y = 0 ∧ hd y = false) ∧ (∀ y, y < H → P y = true → hd y = false → hold y = 0 → Q y = true) ∧ (∀ y, y < H → lv y = true → P y = false → Q y = true) ∧ (∀ y, y < H → P y = true → lv y = true)
theorem casc_loop {H RC TC Fn : Nat} {lv : Nat → Bool} {fd : Nat → Nat → Option Nat} (w1 : ∀ x f y, fd x f = some y → y < H ∧ lv y = true) (wF : ∀ x f y, fd x f = some y → f < Fn) {hd : Nat → Bool} : ∀ m j N s P Q hold W, cntB P H ≤ m → j + m ≤ 64 → m < N → Cs H RC TC Fn s lv fd hd P Q hold W → CI H lv fd hd P Q hold W → ∃ s' P' Q' hold', k_cascade_2 N (Int32.ofNat j) s = some s' ∧ Fx [7] [] [6, 8, 9, 10] [] s s' ∧ Gd H RC TC Fn s' ∧ Rg H s' 6 (fun x => bI (P' x)) ∧ CI H lv fd hd P' Q' hold' [] ∧ (W = [] → P' = P) ∧ ∀ S : Nat → Bool, (∀ y, S y = true → y < H ∧ (hd y = true ∨ ∃ z f, S z = true ∧ fd z f = some y)) → (∀ y, S y = true → P y = true) → ∀ y, S y = true → P' y = true
  | m, j, 0, _, _, _, _, _, _, _, h, _, _ => by omega
  | m, j, N + 1, s, P, Q, hold, W, hm, hj, hN, C, I => by
    obtain ⟨G, R0, Rf, R6, R7, R8, R9, ⟨w7, w8, wi⟩, hb⟩ := id C
    obtain ⟨c1, c2, c3, c4, c5, c6, c7⟩ := id I
    have h8 := G.2.2.2.2.2.1
    rw [k_cascade_2, if_neg (fun z => by rw [show (64 : Int32) = Int32.ofNat 64 from rfl, ofNat_lt (by omega) (by omega)] at z; omega), w7]
    rcases List.eq_nil_or_concat W with w | ⟨W0, x, w⟩
    · subst w
      rw [if_neg (by decide)]
      exact ⟨sI s 7 0, P, Q, hold, rfl, (Fx.refl ..).sI (by simp), G.sI (by omega), R6.fx (by rw [gA_sI]), I, fun _ => rfl, fun S _ h => h⟩
    · have w' : W = W0 ++ [x] := by rw [w]; simp
      subst w'
      have wl : (W0 ++ [x]).length = W0.length + 1 := by simp
      have xm : x ∈ W0 ++ [x] := by simp
      obtain ⟨hx, qx, px⟩ := (c3 x).mp xm
      have nx : x ∉ W0 := fun z => by
        have := (List.nodup_append.mp c2).2.2 x z x (by simp)
        exact this rfl
      have sub1 : Int32.ofNat (W0 ++ [x]).length - 1 = Int32.ofNat W0.length := by rw [wl, ← ofNat_succ]; simp
      have ex : (gA s 10)[W0.length]? = some (Int32.ofNat x) := wi W0.length x (by rw [List.getElem?_append_right (by omega), Nat.sub_self]; rfl)
      have l6 := len64 G.2.2.2.2.1 (f := 6) (by simp)
      have G1 : Gd H RC TC Fn (sI s 7 (Int32.ofNat W0.length)) := G.sI (by omega)
      have G2 := G1.put (f := 6) (x := x) (v := 0)
      rw [gA_sI] at G2
      rw [if_pos (by rw [show (0 : Int32) = Int32.ofNat 0 from rfl, ofNat_lt (by omega) (by omega)]; omega), sub1, ix_ofNat _ (by omega), ex, Option.bind_some, obj_yes G1 hx, if_neg (by decide), st_ofNat _ _ (by omega) (by omega), Option.bind_some]
      have C1 : Cs H RC TC Fn (sA (sI s 7 (Int32.ofNat W0.length)) 6 ((gA s 6).set x 0)) lv fd hd (aupd P x false) Q hold W0 := by
        refine ⟨G2, R0.fx (by simp only [gA_sA, gA_sI]; rfl), Rf.fx (by simp only [gA_sA, gA_sI]; rfl), ?_, R7.fx (by simp only [gA_sA, gA_sI]; rfl), R8.fx (by simp only [gA_sA, gA_sI]; rfl), R9.fx (by simp only [gA_sA, gA_sI]; rfl), ⟨?_, by omega, fun i y hi => ?_⟩, hb⟩
        · intro y hy
          rw [gA_sA, if_pos rfl]
          show _ = some (bI (aupd P x false y))
          unfold aupd
          by_cases q : y = x
          · subst q; rw [if_pos rfl, List.getElem?_set_self (by omega)]; rfl
          · rw [if_neg q, List.getElem?_set_ne (by omega)]; exact R6 y hy
        · rw [gI_sA, gI_sI, if_pos rfl]
        · have il := (List.getElem?_eq_some_iff.mp hi).1
          have := wi i y (by rw [List.getElem?_append_left il]; exact hi)
          simp only [gA_sA, gA_sI]
          exact this
      have M1 : Md H lv fd hd (aupd P x false) Q hold W0 x 0 := by
        refine ⟨fun y hy => ?_, (List.nodup_append.mp c2).1, fun y => ?_, c4, fun y hy h1 h2 h3 => ?_, fun y hy h1 h2 => ?_, fun y hy h1 => ?_⟩
        · rw [c1 y hy, ← deg_drop (fd := fd) (x := y) px H hx, fc]; rfl
        · unfold aupd
          by_cases q : y = x
          · rw [if_pos q, q]; simp [nx]
          · rw [if_neg q]
            have := c3 y
            rw [List.mem_append, List.mem_singleton] at this
            constructor
            · intro z; exact this.mp (Or.inl z)
            · intro z; exact (this.mpr z).elim (fun y => y) (fun y => absurd y q)
        · unfold aupd at h1
          by_cases q : y = x
          · rw [if_pos q] at h1; cases h1
          · rw [if_neg q] at h1; exact c5 y hy h1 h2 h3
        · unfold aupd at h2
          by_cases q : y = x
          · rw [q]; exact qx
          · rw [if_neg q] at h2; exact c6 y hy h1 h2
        · unfold aupd at h1
          by_cases q : y = x
          · rw [if_pos q] at h1; cases h1
          · rw [if_neg q] at h1; exact c7 y hy h1
      obtain ⟨t, Q1, hold1, W1, e1, F1, C2, M2⟩ := drop_ok w1 wF hx C1 M1
      have I2 : CI H lv fd hd (aupd P x false) Q1 hold1 W1 := by
        obtain ⟨a1, a2⟩ := M2
        refine ⟨fun y hy => ?_, a2⟩
        have h := a1 y hy
        have ft := fc_top wF x y 4 G.2.2.2.2.2.2.2.2.2
        unfold one at h
        omega
      have cb := cntB_upd P x false H hx
      rw [px] at cb
      simp at cb
      rw [e1, Option.bind_some, ofNat_succ]
      obtain ⟨m', rfl⟩ : ∃ m', m = m' + 1 := ⟨m - 1, by omega⟩
      obtain ⟨s', P', Q', hold', e', F', G', R', I', _, mx⟩ := casc_loop w1 wF m' (j + 1) N t (aupd P x false) Q1 hold1 W1 (by omega) (by omega) (by omega) C2 I2
      refine ⟨s', P', Q', hold', e', ?_, G', R', I', fun z => absurd z (by simp), fun S hS hP => mx S hS fun z hz => ?_⟩
      · exact ((((Fx.refl ..).sI (by simp)).sA (by simp)).trans (F1.mono (by simp) (by simp) (by simp) (by simp))).trans F'
      · by_cases w : z = x
        · subst w
          have hq := c4 z hx qx
          rcases (hS z hz).2 with w | ⟨a, f, ha, hf⟩
          · rw [hq.2] at w; cases w
          · have h0 := hq.1
            rw [c1 z hx] at h0
            have f4 := G.2.2.2.2.2.2.2.2.2
            have := wF a f z hf
            exact absurd hf ((deg_zero H).mp h0 a f (hS a ha).1 (hP a ha) (by omega))
        · rw [show aupd P x false z = P z by unfold aupd; rw [if_neg w]]; exact hP z hz
theorem rel_ok {H RC TC Fn : Nat} {s : S} (G : Gd H RC TC Fn s) {lv : Nat → Bool} {fd : Nat → Nat → Option Nat} {n : Nat} (R0 : Rg H s 0 (fun x => bI (lv x))) (Rf : Rfd H s fd) (hn : gI s 4 = Int32.ofNat (n + 1)) {x : Nat} (hx : x < H) (lx : lv x = true) : ∃ s', k_releaseCell (Int32.ofNat x) s = some s' ∧ Fx [4] [] [0, 1, 2] [] s s' ∧ Gd H RC TC Fn s' ∧ Rg H s' 0 (fun y => bI (aupd lv x false y)) ∧ Rfd H s' (fun y f => if y = x then none else fd y f) ∧ gI s' 4 = Int32.ofNat n := by
  have h8 := G.2.2.2.2.2.1
  have l0 := len64 G.2.2.2.2.1 (f := 0) (by simp)
  have l2 := len64 G.2.2.2.2.1 (f := 2) (by simp)
  have l1 : (gA s 1).length = 256 := G.2.2.2.2.1.2.1
  obtain ⟨t, et, Ft, lt, gt⟩ := own_ccf (sA s 0 ((gA s 0).set x 0)) x (by omega) (by rw [gA_sA, if_neg (by decide)]; exact l1)
  have t0 : gA t 0 = (gA s 0).set x 0 := by rw [Ft.2.2.1 0 (by simp), gA_sA, if_pos rfl]
  have t2 : gA t 2 = gA s 2 := by rw [Ft.2.2.1 2 (by simp), gA_sA, if_neg (by decide)]
  have lnt : own_len t := len_of G.2.2.2.2.1 fun k hk => by
    by_cases q : k = 1
    · rw [q, lt, l1]
    · rw [Ft.2.2.1 k (by simp [q]), gA_sA]
      by_cases w : k = 0
      · rw [if_pos w, List.length_set, w]
      · rw [if_neg w]
  have Gt : Gd H RC TC Fn t := G.fx (fun k _ => by rw [Ft.1 k (by simp), gI_sA]) lnt
  have G2 := (Gt.put (f := 2) (x := x) (v := 0)).sI (f := 4) (v := Int32.ofNat n) (by omega)
  rw [t2] at G2
  refine ⟨sI (sA t 2 ((gA s 2).set x 0)) 4 (Int32.ofNat n), ?_, ?_, G2, ?_, ?_, by rw [gI_sI, if_pos rfl]⟩
  · unfold k_releaseCell
    rw [obj_yes G hx, if_neg (by decide), ix_ofNat _ (by omega), show (gA s 0)[x]? = some (bI (lv x)) from R0 x hx, Option.bind_some, lx, if_neg (show ¬ bI true = 0 by decide), st_ofNat _ _ (by omega) (by omega), Option.bind_some, et, Option.bind_some, t2, st_ofNat _ _ (by omega) (by omega), Option.bind_some, Ft.1 4 (by simp), gI_sA, hn, ← ofNat_succ]
    simp
  · have F0 : Fx [4] [] [0, 1, 2] [] s (sA s 0 ((gA s 0).set x 0)) := (Fx.refl ..).sA (by simp)
    exact ((F0.trans (Ft.mono (by simp) (by simp) (by simp) (by simp))).sA (by simp)).sI (by simp)
  · intro y hy
    simp only [gA_sI, gA_sA]
    rw [if_neg (by decide), t0]
    unfold aupd
    by_cases q : y = x
    · subst q; rw [if_pos rfl, List.getElem?_set_self (by omega)]; rfl
    · rw [if_neg q, List.getElem?_set_ne (by omega)]; exact R0 y hy
  · intro y f hy hf
    simp only [gA_sI, gA_sA]
    rw [if_neg (by decide), gt _ (by omega)]
    by_cases q : y = x
    · rw [if_pos q, if_pos (by omega)]; rfl
    · rw [if_neg q, if_neg (by omega), gA_sA, if_neg (by decide)]; exact Rf y f hy hf
def lvM (P lv : Nat → Bool) (j y : Nat) : Bool := if y < j then P y else lv y
def fdM (P : Nat → Bool) (fd : Nat → Nat → Option Nat) (j y f : Nat) : Option Nat := if y < j ∧ P y = false then none else fd y f
theorem sweep_loop {H RC TC Fn : Nat} {lv P : Nat → Bool} {fd : Nat → Nat → Option Nat} (sub : ∀ x, x < H → P x = true → lv x = true) (dead : ∀ x f, lv x = false → fd x f = none) : ∀ m j N s a, j + m = H → m < N → Gd H RC TC Fn s → Rg H s 0 (fun x => bI (lvM P lv j x)) → Rfd H s (fdM P fd j) → Rg H s 6 (fun x => bI (P x)) → a + cntB (lvM P lv j) H = cntB lv H → gI s 4 = Int32.ofNat (cntB (lvM P lv j) H) → ∃ s' b, k_sweep_4 N (Int32.ofNat a) (Int32.ofNat j) s = some (Int32.ofNat b, s') ∧ Fx [4] [] [0, 1, 2] [] s s' ∧ Gd H RC TC Fn s' ∧ Rg H s' 0 (fun x => bI (P x)) ∧ Rfd H s' (fdM P fd H) ∧ b + cntB P H = cntB lv H ∧ gI s' 4 = Int32.ofNat (cntB P H)
  | _, _, 0, _, _, _, h, _, _, _, _, _, _ => by omega
  | 0, j, N + 1, s, a, hj, _, G, R0, Rf, R6, ha, h4 => by
    have : j = H := by omega
    subst this
    have h8 := G.2.2.2.2.2.1
    have e : cntB (lvM P lv j) j = cntB P j := cntB_congr fun x hx => by unfold lvM; rw [if_pos hx]
    rw [e] at ha h4
    exact ⟨s, a, by rw [k_sweep_4, G.1, if_neg (by rw [ofNat_lt (by omega) (by omega)]; omega)], Fx.refl .., G, R0.congr fun x hx => by unfold lvM; rw [if_pos hx], Rf, ha, h4⟩
  | m + 1, j, N + 1, s, a, hj, hN, G, R0, Rf, R6, ha, h4 => by
    have h8 := G.2.2.2.2.2.1
    have hjH : j < H := by omega
    have ej : lvM P lv j j = lv j := by unfold lvM; rw [if_neg (by omega)]
    rw [k_sweep_4, G.1, if_pos (by rw [ofNat_lt (by omega) (by omega)]; omega), ix_ofNat _ (by omega), show (gA s 0)[j]? = some (bI (lvM P lv j j)) from R0 j hjH, Option.bind_some, ej, ix_ofNat _ (by omega), show (gA s 6)[j]? = some (bI (P j)) from R6 j hjH, Option.bind_some, ofNat_succ, ofNat_succ]
    have same : P j = lv j → ∃ s' b, k_sweep_4 N (Int32.ofNat a) (Int32.ofNat (j + 1)) s = some (Int32.ofNat b, s') ∧ Fx [4] [] [0, 1, 2] [] s s' ∧ Gd H RC TC Fn s' ∧ Rg H s' 0 (fun x => bI (P x)) ∧ Rfd H s' (fdM P fd H) ∧ b + cntB P H = cntB lv H ∧ gI s' 4 = Int32.ofNat (cntB P H) := fun pe => by
      have el : ∀ x, lvM P lv j x = lvM P lv (j + 1) x := fun x => by
        unfold lvM
        by_cases q : x = j
        · rw [q, if_neg (by omega), if_pos (by omega), pe]
        · by_cases w : x < j
          · rw [if_pos w, if_pos (by omega)]
          · rw [if_neg w, if_neg (by omega)]
      have ec : cntB (lvM P lv j) H = cntB (lvM P lv (j + 1)) H := cntB_congr fun x _ => el x
      rw [ec] at ha h4
      refine sweep_loop sub dead m (j + 1) N s a (by omega) (by omega) G (R0.congr fun x hx => by rw [el x]) (fun x f hx hf => ?_) R6 ha h4
      rw [Rf x f hx hf]
      congr 2
      unfold fdM
      by_cases q : x = j
      · subst q
        rw [if_neg (by omega)]
        by_cases w : P x = false
        · rw [if_pos ⟨by omega, w⟩, dead x f (by rw [← pe]; exact w)]
        · rw [if_neg (fun z => w z.2)]
      · by_cases w : x < j ∧ P x = false
        · rw [if_pos w, if_pos ⟨by omega, w.2⟩]
        · rw [if_neg w, if_neg (fun z => w ⟨by omega, z.2⟩)]
    cases el : lv j with
    | false =>
      rw [if_pos (show bI false = 0 from rfl)]
      refine same ?_
      rw [el]
      cases hP : P j with
      | false => rfl
      | true => rw [sub j hjH hP] at el; cases el
    | true =>
      rw [if_neg (show ¬ bI true = 0 by decide)]
      cases hP : P j with
      | true =>
        rw [if_neg (show ¬ bI true = 0 by decide)]
        exact same (by rw [hP, el])
      | false =>
        rw [if_pos (show bI false = 0 from rfl)]
        have lj : lvM P lv j j = true := by rw [ej, el]
        have cb := cntB_upd (lvM P lv j) j false H hjH
        rw [lj] at cb
        simp at cb
        have eu : ∀ x, aupd (lvM P lv j) j false x = lvM P lv (j + 1) x := fun x => by
          unfold aupd lvM
          by_cases q : x = j
          · rw [if_pos q, q, if_pos (by omega), hP]
          · rw [if_neg q]
            by_cases w : x < j
            · rw [if_pos w, if_pos (by omega)]
            · rw [if_neg w, if_neg (by omega)]
        have ec : cntB (aupd (lvM P lv j) j false) H = cntB (lvM P lv (j + 1)) H := cntB_congr fun x _ => eu x
        rw [ec] at cb
        obtain ⟨t, et, Ft, Gt, t0, tf, t4⟩ := rel_ok G (n := cntB (lvM P lv (j + 1)) H) R0 Rf (by rw [h4, ← cb]) hjH lj
        rw [et, Option.bind_some]
        obtain ⟨s', b, e', F', r⟩ := sweep_loop sub dead m (j + 1) N t (a + 1) (by omega) (by omega) Gt (t0.congr fun x hx => by rw [eu x]) (fun x f hx hf => by
          rw [tf x f hx hf]
          congr 2
          unfold fdM
          dsimp only
          by_cases q : x = j
          · rw [if_pos q, q, if_pos ⟨by omega, hP⟩]
          · rw [if_neg q]
            by_cases w : x < j ∧ P x = false
            · rw [if_pos w, if_pos ⟨by omega, w.2⟩]
            · rw [if_neg w, if_neg (fun z => w ⟨by omega, z.2⟩)]) (R6.fx (Ft.2.2.1 6 (by simp))) (by omega) t4
        exact ⟨s', b, e', Ft.trans F', r⟩
theorem clr2 : ∀ m j N s, j + m = 64 → m < N → own_len s → Upto (gA s 2) j 0 → ∃ s', k_recountRefs_2 N (Int32.ofNat j) s = k_recountRefs_21 s' ∧ Fx [] [] [2] [] s s' ∧ own_len s' ∧ gA s' 2 = rep 64 0
  | _, _, 0, _, _, h, _, _ => by omega
  | 0, j, N + 1, s, hj, _, l, u => by
    have : j = 64 := by omega
    subst this
    exact ⟨s, by rw [k_recountRefs_2, if_neg (by decide)], Fx.refl .., l, u.all (len64 l (by simp))⟩
  | m + 1, j, N + 1, s, hj, hN, l, u => by
    have l2 := len64 l (f := 2) (by simp)
    rw [k_recountRefs_2, if_pos ((lt_lit (m := 64) (by omega) (by decide)).mpr (by omega)), st_ofNat _ _ (by omega) (by omega), Option.bind_some, ofNat_succ]
    obtain ⟨s', e, F, r⟩ := clr2 m (j + 1) N (sA s 2 ((gA s 2).set j 0)) (by omega) (by omega) (len_set l) (by rw [gA_sA, if_pos rfl]; exact u.set (by omega))
    exact ⟨s', e, ((Fx.refl ..).sA (by simp)).trans F, r⟩
theorem inc_ok {H RC TC Fn : Nat} {s : S} (G : Gd H RC TC Fn s) {g : Nat → Nat} (R2 : Rg H s 2 (fun x => Int32.ofNat (g x))) {z : Nat} (hz : z < H) : k_refInc (Int32.ofNat z) s = some (sA s 2 ((gA s 2).set z (Int32.ofNat (g z + 1)))) ∧ Gd H RC TC Fn (sA s 2 ((gA s 2).set z (Int32.ofNat (g z + 1)))) ∧ Rg H (sA s 2 ((gA s 2).set z (Int32.ofNat (g z + 1)))) 2 (fun x => Int32.ofNat (aupd g z (g z + 1) x)) := by
  have h8 := G.2.2.2.2.2.1
  have l2 := len64 G.2.2.2.2.1 (f := 2) (by simp)
  refine ⟨?_, G.put, (R2.put (by omega) _).congr fun x hx => ?_⟩
  · unfold k_refInc
    rw [obj_yes G hz, if_neg (by decide), ix_ofNat _ (by omega), show (gA s 2)[z]? = some (Int32.ofNat (g z)) from R2 z hz, Option.bind_some, ofNat_succ, st_ofNat _ _ (by omega) (by omega), Option.bind_some]
  · unfold aupd
    by_cases w : x = z
    · rw [if_pos w, if_pos w]
    · rw [if_neg w, if_neg w]
theorem out_ok {H RC TC Fn : Nat} {lv : Nat → Bool} {fd : Nat → Nat → Option Nat} (w1 : ∀ x f y, x < H → f < Fn → fd x f = some y → y < H ∧ lv y = true) (wF : ∀ x f y, fd x f = some y → f < Fn) {y : Nat} (hy : y < H) {s : S} (G : Gd H RC TC Fn s) (R0 : Rg H s 0 (fun x => bI (lv x))) (Rf : Rfd H s fd) {g : Nat → Nat} (R2 : Rg H s 2 (fun x => Int32.ofNat (g x))) : ∃ s', k_countOutgoing (Int32.ofNat y) s = some s' ∧ Fx [] [] [2] [] s s' ∧ Gd H RC TC Fn s' ∧ Rg H s' 2 (fun x => Int32.ofNat (g x + one fd y x)) := by
  have h8 := G.2.2.2.2.2.1
  have f4 := G.2.2.2.2.2.2.2.2.2
  have step : ∀ (f : Nat) (n : Nat) (s : S) (g : Nat → Nat), f < Fn → Gd H RC TC Fn s → Rg H s 0 (fun x => bI (lv x)) → Rfd H s fd → Rg H s 2 (fun x => Int32.ofNat (g x)) → ∃ s', k_countOutgoing_2 (n + 1) (Int32.ofNat y) (Int32.ofNat f) s = k_countOutgoing_2 n (Int32.ofNat y) (Int32.ofNat (f + 1)) s' ∧ Fx [] [] [2] [] s s' ∧ Gd H RC TC Fn s' ∧ Rg H s' 2 (fun x => Int32.ofNat (g x + if fd y f = some x then 1 else 0)) := fun f n s g hf G R0 Rf R2 => by
    rw [k_countOutgoing_2, G.2.1, if_pos (by rw [ofNat_lt (by omega) (by omega)]; exact hf), read_ok G Rf hy hf, Option.bind_some, live_ok G R0 (fun z hz => (w1 y f z hy hf hz).1), Option.bind_some, ofNat_succ]
    cases e : fd y f with
    | none =>
      rw [if_pos (show lvO lv none = 0 from rfl)]
      exact ⟨s, rfl, Fx.refl .., G, R2.congr fun x hx => by simp⟩
    | some z =>
      obtain ⟨hz, lz⟩ := w1 y f z hy hf e
      obtain ⟨e1, G1, R1⟩ := inc_ok G R2 hz
      rw [show lvO lv (some z) = bI (lv z) from rfl, lz, if_neg (by decide), show pc (some z) = Int32.ofNat z from rfl, e1, Option.bind_some]
      refine ⟨_, rfl, (Fx.refl ..).sA (by simp), G1, R1.congr fun x hx => ?_⟩
      unfold aupd
      by_cases w : x = z
      · rw [if_pos w, w, if_pos rfl]
      · rw [if_neg w, if_neg (fun q => w (Option.some.inj q).symm)]; rfl
  have loop : ∀ m f n (s : S), f + m = Fn → m < n → Gd H RC TC Fn s → Rg H s 0 (fun x => bI (lv x)) → Rfd H s fd → Rg H s 2 (fun x => Int32.ofNat (g x + fc fd y x f)) → ∃ s', k_countOutgoing_2 n (Int32.ofNat y) (Int32.ofNat f) s = some s' ∧ Fx [] [] [2] [] s s' ∧ Gd H RC TC Fn s' ∧ Rg H s' 2 (fun x => Int32.ofNat (g x + fc fd y x Fn)) := by
    intro m
    induction m with
    | zero =>
      intro f n s hf hn G R0 Rf R9
      obtain ⟨n, rfl⟩ : ∃ k, n = k + 1 := ⟨n - 1, by omega⟩
      have : f = Fn := by omega
      subst this
      exact ⟨s, by rw [k_countOutgoing_2, G.2.1, if_neg (by rw [ofNat_lt (by omega) (by omega)]; omega)], Fx.refl .., G, R9⟩
    | succ m ih =>
      intro f n s hf hn G R0 Rf R9
      obtain ⟨n, rfl⟩ : ∃ k, n = k + 1 := ⟨n - 1, by omega⟩
      obtain ⟨t, e1, F1, G1, R1⟩ := step f n s _ (by omega) G R0 Rf R9
      obtain ⟨u, e2, F2, r⟩ := ih (f + 1) n t (by omega) (by omega) G1 (R0.fx (F1.2.2.1 0 (by simp))) (Rf.fx (F1.2.2.1 1 (by simp))) (R1.congr fun x hx => by rw [fc, Nat.add_assoc])
      exact ⟨u, e1.trans e2, F1.trans F2, r⟩
  obtain ⟨u, e, F, G', R⟩ := loop Fn 0 BIG s (by omega) (by unfold BIG; omega) G R0 Rf R2
  refine ⟨u, e, F, G', R.congr fun x hx => ?_⟩
  unfold one
  rw [fc_top wF y x 4 f4]
theorem rec_loop {H RC TC Fn : Nat} {lv : Nat → Bool} {fd : Nat → Nat → Option Nat} (w1 : ∀ x f y, x < H → f < Fn → fd x f = some y → y < H ∧ lv y = true) (wF : ∀ x f y, fd x f = some y → f < Fn) : ∀ m j N s, j + m = H → m < N → Gd H RC TC Fn s → Rg H s 0 (fun x => bI (lv x)) → Rfd H s fd → Rg H s 2 (fun x => Int32.ofNat (deg lv fd x j)) → ∃ s', k_recountRefs_23 N (Int32.ofNat j) s = some s' ∧ Fx [] [] [2] [] s s' ∧ Gd H RC TC Fn s' ∧ Rg H s' 2 (fun x => Int32.ofNat (deg lv fd x H))
  | _, _, 0, _, _, h, _, _, _, _ => by omega
  | 0, j, N + 1, s, hj, _, G, R0, Rf, R2 => by
    have : j = H := by omega
    subst this
    have h8 := G.2.2.2.2.2.1
    exact ⟨s, by rw [k_recountRefs_23, G.1, if_neg (by rw [ofNat_lt (by omega) (by omega)]; omega)], Fx.refl .., G, R2⟩
  | m + 1, j, N + 1, s, hj, hN, G, R0, Rf, R2 => by
    have h8 := G.2.2.2.2.2.1
    rw [k_recountRefs_23, G.1, if_pos (by rw [ofNat_lt (by omega) (by omega)]; omega), ix_ofNat _ (by omega), show (gA s 0)[j]? = some (bI (lv j)) from R0 j (by omega), Option.bind_some, ofNat_succ]
    cases e : lv j with
    | false =>
      rw [if_pos (show bI false = 0 from rfl)]
      exact rec_loop w1 wF m (j + 1) N s (by omega) (by omega) G R0 Rf (R2.congr fun x hx => by rw [deg, e]; rfl)
    | true =>
      rw [if_neg (show ¬ bI true = 0 by decide)]
      obtain ⟨t, e1, F1, G1, R1⟩ := out_ok w1 wF (y := j) (by omega) G R0 Rf R2
      rw [e1, Option.bind_some]
      obtain ⟨s', e2, F2, r⟩ := rec_loop w1 wF m (j + 1) N t (by omega) (by omega) G1 (R0.fx (F1.2.2.1 0 (by simp))) (Rf.fx (F1.2.2.1 1 (by simp))) (R1.congr fun x hx => by rw [deg, e]; rfl)
      exact ⟨s', e2, F1.trans F2, r⟩
theorem recount_ok {H RC TC Fn : Nat} {lv : Nat → Bool} {fd : Nat → Nat → Option Nat} (w1 : ∀ x f y, x < H → f < Fn → fd x f = some y → y < H ∧ lv y = true) (wF : ∀ x f y, fd x f = some y → f < Fn) {s : S} (G : Gd H RC TC Fn s) (R0 : Rg H s 0 (fun x => bI (lv x))) (Rf : Rfd H s fd) : ∃ s', k_recountRefs s = some s' ∧ Fx [] [] [2] [] s s' ∧ Gd H RC TC Fn s' ∧ Rg H s' 2 (fun x => Int32.ofNat (deg lv fd x H)) := by
  have h8 := G.2.2.2.2.2.1
  obtain ⟨t, e, F, l, a⟩ := clr2 64 0 BIG s (by omega) (by unfold BIG; omega) G.2.2.2.2.1 (Upto.zero _ _)
  have Gt : Gd H RC TC Fn t := G.fx (fun k _ => F.1 k (by simp)) l
  obtain ⟨s', e2, F2, G2, g2⟩ := rec_loop w1 wF H 0 BIG t (by omega) (by unfold BIG; omega) Gt (R0.fx (F.2.2.1 0 (by simp))) (Rf.fx (F.2.2.1 1 (by simp))) (fun x hx => by
    rw [a]; unfold rep; rw [List.getElem?_replicate, if_pos (by omega)]; rfl)
  refine ⟨s', ?_, F.trans F2, G2, g2⟩
  unfold k_recountRefs
  rw [show (0 : Int32) = Int32.ofNat 0 from rfl, e]
  exact e2
/-- the table -/
def RT (H : Nat) (s : S) (tb : List Nat) : Prop := gI s 6 = Int32.ofNat tb.length ∧ tb.length ≤ 19 ∧ ∀ x, x < H → ∃ p, (gA s 5)[x]? = some p ∧ (p = -1 ↔ x ∉ tb)
theorem RT.fx {H : Nat} {s t : S} {tb : List Nat} (h : RT H s tb) (i : gI t 6 = gI s 6) (e : gA t 5 = gA s 5) : RT H t tb := by unfold RT; rw [i, e]; exact h
theorem enc_ne {c : Nat} (hc : c < 1000) : Int32.ofNat c ≠ -1 := fun e => absurd (show (-1 : Int32) < 0 by decide) (by rw [← e]; exact ofNat_nonneg (by omega))
theorem ins_ok {H RC TC Fn : Nat} {s : S} (G : Gd H RC TC Fn s) {tb : List Nat} (R : RT H s tb) {x : Nat} (hx : x < H) (nx : x ∉ tb) (room : tb.length < TC) (t8 : tb.length < 19) : ∃ s', k_tableInsert (Int32.ofNat x) s = some (1, s') ∧ Fx [6] [] [4, 5] [] s s' ∧ Gd H RC TC Fn s' ∧ RT H s' (tb ++ [x]) := by
  have h8 := G.2.2.2.2.2.1
  have l4 := len64 G.2.2.2.2.1 (f := 4) (by simp)
  have l5 := len64 G.2.2.2.2.1 (f := 5) (by simp)
  obtain ⟨r6, rl, ri⟩ := R
  obtain ⟨p, ep, hp⟩ := ri x hx
  have tc : TC ≤ 64 := G.2.2.2.2.2.2.2.2.1
  have e5 : gA (sA s 4 ((gA s 4).set tb.length (Int32.ofNat x))) 5 = gA s 5 := by rw [gA_sA, if_neg (by decide)]
  have G2 := ((G.put (f := 4) (x := tb.length) (v := Int32.ofNat x)).put (f := 5) (x := x) (v := Int32.ofNat tb.length)).sI (f := 6) (v := Int32.ofNat (tb.length + 1)) (by omega)
  rw [e5] at G2
  refine ⟨sI (sA (sA s 4 ((gA s 4).set tb.length (Int32.ofNat x))) 5 ((gA s 5).set x (Int32.ofNat tb.length))) 6 (Int32.ofNat (tb.length + 1)), ?_, (((Fx.refl ..).sA (by simp)).sA (by simp)).sI (by simp), G2, ?_, ?_, ?_⟩
  · unfold k_tableInsert
    rw [obj_yes G hx, if_neg (by decide), ix_ofNat _ (by omega), ep, Option.bind_some, if_pos (hp.mpr nx), r6, G.2.2.2.1, if_pos (by rw [ofNat_lt (by omega) (by omega)]; exact room), if_pos ((lt_lit (m := 64) (by omega) (by decide)).mpr (by omega)), st_ofNat _ _ (by omega) (by omega), Option.bind_some, st_ofNat _ _ (by omega) (by omega), Option.bind_some, ofNat_succ]
  · rw [gI_sI, if_pos rfl, List.length_append, List.length_singleton]
  · rw [List.length_append, List.length_singleton]; omega
  · intro y hy
    rw [gA_sI, gA_sA, if_pos rfl]
    by_cases q : y = x
    · subst q
      exact ⟨Int32.ofNat tb.length, List.getElem?_set_self (by omega), fun z => absurd z (enc_ne (by omega)), fun z => absurd (by simp) z⟩
    · obtain ⟨p', ep', hp'⟩ := ri y hy
      refine ⟨p', by rw [List.getElem?_set_ne (by omega)]; exact ep', ?_⟩
      rw [hp']
      simp [q]
def zl (lv : Nat → Bool) (fd : Nat → Nat → Option Nat) (H j : Nat) : List Nat := (List.range j).filter fun x => lv x && decide (deg lv fd x H = 0)
theorem zl_mem {lv : Nat → Bool} {fd : Nat → Nat → Option Nat} {H j x : Nat} : x ∈ zl lv fd H j ↔ x < j ∧ lv x = true ∧ deg lv fd x H = 0 := by
  unfold zl
  rw [List.mem_filter, List.mem_range]
  simp
theorem nodup_filter (p : Nat → Bool) {l : List Nat} (h : l.Nodup) : (l.filter p).Nodup := List.Nodup.sublist List.filter_sublist h
theorem zl_nodup (lv : Nat → Bool) (fd : Nat → Nat → Option Nat) (H j : Nat) : (zl lv fd H j).Nodup := nodup_filter _ List.nodup_range
theorem reb_loop {H RC TC Fn : Nat} {lv : Nat → Bool} {fd : Nat → Nat → Option Nat} (room : ∀ l : List Nat, l.Nodup → (∀ x ∈ l, x < H ∧ lv x = true ∧ deg lv fd x H = 0) → l.length ≤ RC) : ∀ m j N s, j + m = H → m < N → Gd H RC TC Fn s → Rg H s 0 (fun x => bI (lv x)) → Rg H s 2 (fun x => Int32.ofNat (deg lv fd x H)) → RT H s (zl lv fd H j) → ∃ s', k_rebuildTable_6 N (Int32.ofNat j) s = some s' ∧ Fx [6] [] [4, 5] [] s s' ∧ Gd H RC TC Fn s' ∧ RT H s' (zl lv fd H H)
  | _, _, 0, _, _, h, _, _, _, _ => by omega
  | 0, j, N + 1, s, hj, _, G, R0, R2, R => by
    have : j = H := by omega
    subst this
    have h8 := G.2.2.2.2.2.1
    exact ⟨s, by rw [k_rebuildTable_6, G.1, if_neg (by rw [ofNat_lt (by omega) (by omega)]; omega)], Fx.refl .., G, R⟩
  | m + 1, j, N + 1, s, hj, hN, G, R0, R2, R => by
    have h8 := G.2.2.2.2.2.1
    have hjH : j < H := by omega
    have dl := deg_le lv fd j H
    have zs : zl lv fd H (j + 1) = zl lv fd H j ++ (if (lv j && decide (deg lv fd j H = 0)) then [j] else []) := by
      unfold zl
      rw [List.range_succ, List.filter_append]
      congr 1
      rw [List.filter_cons, List.filter_nil]
    rw [k_rebuildTable_6, G.1, if_pos (by rw [ofNat_lt (by omega) (by omega)]; omega), ix_ofNat _ (by omega), show (gA s 0)[j]? = some (bI (lv j)) from R0 j hjH, Option.bind_some, ix_ofNat _ (by omega), show (gA s 2)[j]? = some (Int32.ofNat (deg lv fd j H)) from R2 j hjH, Option.bind_some, ofNat_succ]
    cases el : lv j with
    | false =>
      rw [el] at zs
      simp at zs
      rw [if_pos (show bI false = 0 from rfl)]
      exact reb_loop room m (j + 1) N s (by omega) (by omega) G R0 R2 (by rw [zs]; exact R)
    | true =>
      rw [el] at zs
      rw [if_neg (show ¬ bI true = 0 by decide)]
      by_cases q : deg lv fd j H = 0
      · simp [q] at zs
        have nj : j ∉ zl lv fd H j := fun z => by have := (zl_mem.mp z).1; omega
        have nd2 : (zl lv fd H j ++ [j]).Nodup := by
          rw [List.nodup_append]
          exact ⟨zl_nodup .., by simp, fun a ha b hb => by rw [List.mem_singleton.mp hb]; intro w; rw [w] at ha; exact nj ha⟩
        have rm := room (zl lv fd H j ++ [j]) nd2 (fun x hx => by
          rcases List.mem_append.mp hx with w | w
          · have := zl_mem.mp w; exact ⟨by omega, this.2⟩
          · rw [List.mem_singleton.mp w]; exact ⟨hjH, el, q⟩)
        rw [List.length_append, List.length_singleton] at rm
        have b := G.2.2.2.2.2.2
        obtain ⟨t, et, Ft, Gt, Rt⟩ := ins_ok G R hjH nj (by omega) (by omega)
        rw [q, if_pos (show Int32.ofNat 0 = 0 from rfl), et, Option.bind_some]
        obtain ⟨s', e', F', r⟩ := reb_loop room m (j + 1) N t (by omega) (by omega) Gt (R0.fx (Ft.2.2.1 0 (by simp))) (R2.fx (Ft.2.2.1 2 (by simp))) (by rw [zs]; exact Rt)
        exact ⟨s', e', Ft.trans F', r⟩
      · simp [q] at zs
        rw [if_neg (fun z => q ((nat_zero (by omega)).mp z))]
        exact reb_loop room m (j + 1) N s (by omega) (by omega) G R0 R2 (by rw [zs]; exact R)
theorem rebuild_ok {H RC TC Fn : Nat} {lv : Nat → Bool} {fd : Nat → Nat → Option Nat} (room : ∀ l : List Nat, l.Nodup → (∀ x ∈ l, x < H ∧ lv x = true ∧ deg lv fd x H = 0) → l.length ≤ RC) {s : S} (G : Gd H RC TC Fn s) (R0 : Rg H s 0 (fun x => bI (lv x))) (R2 : Rg H s 2 (fun x => Int32.ofNat (deg lv fd x H))) : ∃ s', k_rebuildTable s = some s' ∧ Fx [6] [] [4, 5] [] s s' ∧ Gd H RC TC Fn s' ∧ RT H s' (zl lv fd H H) := by
  have h8 := G.2.2.2.2.2.1
  obtain ⟨t, e, ⟨_, l⟩, t6, t5, F⟩ := own_rt s s ⟨Fx.refl .., G.2.2.2.2.1⟩
  have Gt : Gd H RC TC Fn t := G.fx (fun k hk => F.1 k (by simp; omega)) l
  obtain ⟨s', e2, F2, r⟩ := reb_loop room H 0 BIG t (by omega) (by unfold BIG; omega) Gt (R0.fx (F.2.2.1 0 (by simp))) (R2.fx (F.2.2.1 2 (by simp))) ⟨t6, by simp [zl], fun x hx => ⟨-1, t5 x (by omega), by simp [zl]⟩⟩
  refine ⟨s', ?_, F.trans F2, r⟩
  unfold k_rebuildTable
  rw [e, Option.bind_some, show (0 : Int32) = Int32.ofNat 0 from rfl]
  exact e2
def Wf (H RC Fn : Nat) (lv : Nat → Bool) (fd : Nat → Nat → Option Nat) (rts : List (Option Nat)) (tb : List Nat) : Prop := (∀ x f y, fd x f = some y → x < H ∧ f < Fn ∧ lv x = true ∧ y < H ∧ lv y = true) ∧ (∀ y, some y ∈ rts → y < H ∧ lv y = true) ∧ rts.length ≤ RC ∧ tb.Nodup ∧ (∀ x ∈ tb, x < H ∧ lv x = true) ∧ (∀ x, x < H → lv x = true → deg lv fd x H = 0 → x ∈ tb)
def RI (H RC TC Fn : Nat) (s : S) (lv : Nat → Bool) (fd : Nat → Nat → Option Nat) (rts : List (Option Nat)) (tb : List Nat) : Prop := Gd H RC TC Fn s ∧ Rg H s 0 (fun x => bI (lv x)) ∧ Rfd H s fd ∧ Rg H s 2 (fun x => Int32.ofNat (deg lv fd x H)) ∧ Rr s rts ∧ RT H s tb ∧ gI s 4 = Int32.ofNat (cntB lv H) ∧ Wf H RC Fn lv fd rts tb
theorem nodup_sub : ∀ {l m : List Nat}, l.Nodup → (∀ x ∈ l, x ∈ m) → l.length ≤ m.length
  | [], _, _, _ => by simp
  | x :: l, m, nd, h => by
    have hx := h x List.mem_cons_self
    have h1 := nodup_sub (l := l) (m := m.erase x) (List.nodup_cons.mp nd).2 (fun y hy => by
      have hy' := h y (List.mem_cons_of_mem _ hy)
      have ne : y ≠ x := fun e => (List.nodup_cons.mp nd).1 (e ▸ hy)
      exact (List.mem_erase_of_ne ne).mpr hy')
    rw [List.length_erase_of_mem hx] at h1
    have := List.length_pos_of_mem hx
    rw [List.length_cons]
    omega
theorem root_len {rts : List (Option Nat)} {l : List Nat} (nd : l.Nodup) (h : ∀ x ∈ l, some x ∈ rts) : l.length ≤ rts.length := by
  have := nodup_sub (m := rts.filterMap id) nd (fun x hx => by
    rw [List.mem_filterMap]
    exact ⟨some x, h x hx, rfl⟩)
  exact Nat.le_trans this (List.length_filterMap_le _ _)
theorem reconcile_ok {H RC TC Fn : Nat} {s : S} {lv : Nat → Bool} {fd : Nat → Nat → Option Nat} {rts : List (Option Nat)} {tb : List Nat} (h : RI H RC TC Fn s lv fd rts tb) : ∃ s' P b, k_runReconciliation s = some (Int32.ofNat b, s') ∧ RI H RC TC Fn s' P (fdM P fd H) rts (zl P (fdM P fd H) H H) ∧ gI s' 8 = gI s 8 + 1 ∧ (zl P (fdM P fd H) H H).length ≤ RC ∧ b + cntB P H = cntB lv H ∧ (∀ x, x < H → P x = true → lv x = true) ∧ (∀ x, x < H → some x ∈ rts → P x = true) ∧ (∀ x, x < H → P x = true → ∀ f y, fd x f = some y → P y = true) ∧ (∀ x, x < H → P x = true → some x ∉ rts → deg P (fdM P fd H) x H ≠ 0) ∧ ((∀ x, x < H → lv x = true → some x ∉ rts → deg lv fd x H ≠ 0) → ∀ x, x < H → P x = lv x) ∧ ∀ S : Nat → Bool, (∀ y, S y = true → y < H ∧ lv y = true ∧ (some y ∈ rts ∨ ∃ z f, S z = true ∧ fd z f = some y)) → ∀ y, S y = true → P y = true := by
  obtain ⟨G, R0, Rf, R2, Rrt, RTb, g4, w1, w2, w3, w4, w5, w6⟩ := h
  have h8 := G.2.2.2.2.2.1
  have rc6 : RC ≤ 16 := G.2.2.2.2.2.2.1
  have f4 := G.2.2.2.2.2.2.2.2.2
  have wF : ∀ x f y, fd x f = some y → f < Fn := fun x f y e => (w1 x f y e).2.1
  have w1' : ∀ x f y, fd x f = some y → y < H ∧ lv y = true := fun x f y e => (w1 x f y e).2.2.2
  -- mark
  obtain ⟨a, ea, Fa, Ga, A7⟩ := mark_ok (s := sI s 8 (gI s 8 + 1)) (by omega) (fun y hy => (w2 y hy).1) (G.sI (by omega)) (Rrt.fx (by rw [gI_sI, if_neg (by decide)]) (by rw [gA_sI]))
  have aA : ∀ k, k ≠ 7 → gA a k = gA s k := fun k hk => by rw [Fa.2.2.1 k (by simp [hk]), gA_sI]
  have aI : ∀ k, k ≠ 8 → gI a k = gI s k := fun k hk => by rw [Fa.1 k (by simp), gI_sI, if_neg hk]
  have a8 : gI a 8 = gI s 8 + 1 := by rw [Fa.1 8 (by simp), gI_sI, if_pos rfl]
  have A0 : Rg H a 0 (fun x => bI (lv x)) := R0.fx (aA 0 (by decide))
  have Af : Rfd H a fd := Rf.fx (aA 1 (by decide))
  -- count
  obtain ⟨b, eb, Fb, Gb, B9, B8, B6⟩ := init_cnt 64 0 BIG a (by omega) (by unfold BIG; omega) Ga A0 (Upto.zero _ _) (Upto.zero _ _) (fun x hx => by omega)
  obtain ⟨c, ec, Fc, Gc, C9⟩ := cnt_loop w1' wF H 0 BIG b (by omega) (by unfold BIG; omega) Gb (A0.fx (Fb.2.2.1 0 (by simp))) (Af.fx (Fb.2.2.1 1 (by simp))) B9
  have cA : ∀ k, k ≠ 6 → k ≠ 8 → k ≠ 9 → gA c k = gA a k := fun k x y z => by rw [Fc.2.2.1 k (by simp [z]), Fb.2.2.1 k (by simp [x, y, z])]
  have cI : ∀ k, gI c k = gI a k := fun k => by rw [Fc.1 k (by simp), Fb.1 k (by simp)]
  have ecnt : k_countHolders a = some c := by
    unfold k_countHolders
    rw [show (0 : Int32) = Int32.ofNat 0 from rfl, eb]
    exact ec
  -- seed
  have CS : Cs H RC TC Fn (sI c 7 0) lv fd (held rts) lv (fun _ => false) (fun x => deg lv fd x H) [] := by
    refine ⟨Gc.sI (by omega), A0.fx (by rw [gA_sI, cA 0 (by decide) (by decide) (by decide)]), Af.fx (by rw [gA_sI, cA 1 (by decide) (by decide) (by decide)]), B6.fx (by rw [gA_sI, Fc.2.2.1 6 (by simp)]), A7.fx (by rw [gA_sI, cA 7 (by decide) (by decide) (by decide)]), (B8.fx (by rw [gA_sI, Fc.2.2.1 8 (by simp)])).congr fun x hx => rfl, C9.fx (by rw [gA_sI]), ⟨by rw [gI_sI, if_pos rfl]; rfl, by simp, fun i x hi => by cases hi⟩, fun x hx => by have := deg_le lv fd x H; show deg lv fd x H ≤ 100; omega⟩
  obtain ⟨d, Q, W, ed, Fd, CD, ndW, mW, mQ⟩ := seed_loop H 0 BIG (sI c 7 0) (fun _ => false) [] (by omega) (by unfold BIG; omega) CS List.nodup_nil (fun x => by simp) (fun x => by simp)
  have eseed : k_seedWork c = some d := by
    unfold k_seedWork
    rw [show k_seedWork_7 BIG 0 (sI c 7 0) = k_seedWork_7 BIG (Int32.ofNat 0) (sI c 7 0) from rfl]
    exact ed
  -- cascade
  have CI0 : CI H lv fd (held rts) lv Q (fun x => deg lv fd x H) W := by
    refine ⟨fun y _ => rfl, ndW, fun y => ?_, fun y hy hq => ?_, fun y hy p1 p2 p3 => ?_, fun y hy p1 p2 => ?_, fun y _ p => p⟩
    · constructor
      · intro z
        have := (mW y).mp z
        exact ⟨this.1, by rw [mQ y]; exact decide_eq_true z, this.2.1⟩
      · rintro ⟨z1, z2, _⟩
        rw [mQ y] at z2
        exact decide_eq_true_eq.mp z2
    · rw [mQ y] at hq
      have := (mW y).mp (decide_eq_true_eq.mp hq)
      exact ⟨this.2.2.2, this.2.2.1⟩
    · rw [mQ y]; exact decide_eq_true ((mW y).mpr ⟨hy, p1, p2, p3⟩)
    · rw [p1] at p2; cases p2
  have lvb := cntB_le lv H
  obtain ⟨e, P, Q', hold', ee, Fe, Ge, E6, CI1, stay, mx⟩ := casc_loop w1' wF 19 0 BIG d lv Q _ W (by omega) (by omega) (by unfold BIG; omega) CD CI0
  obtain ⟨i1, _, i3, i4, i5, i6, i7⟩ := CI1
  have ecas : k_cascade d = some e := ee
  have eA : ∀ k, k ≤ 5 → gA e k = gA s k := fun k hk => by
    rw [Fe.2.2.1 k (by simp; omega), Fd.2.2.1 k (by simp; omega), gA_sI, cA k (by omega) (by omega) (by omega), aA k (by omega)]
  have eI : ∀ k, k ≠ 7 → k ≠ 8 → gI e k = gI s k := fun k x y => by
    rw [Fe.1 k (by simp [x]), Fd.1 k (by simp [x]), gI_sI, if_neg x, cI, aI k y]
  have e8 : gI e 8 = gI s 8 + 1 := by
    rw [Fe.1 8 (by simp), Fd.1 8 (by simp), gI_sI, if_neg (by decide), cI]; exact a8
  have dead : ∀ x f, lv x = false → fd x f = none := fun x f hl => by
    cases hfd : fd x f with
    | none => rfl
    | some y => rw [(w1 x f y hfd).2.2.1] at hl; cases hl
  -- facts of the survivors
  have o1 : ∀ x, x < H → P x = true → lv x = true := i7
  have o2 : ∀ x, x < H → some x ∈ rts → P x = true := fun x hx hr => by
    cases hP : P x with
    | true => rfl
    | false =>
      have := (i4 x hx (i6 x hx (w2 x hr).2 hP)).2
      unfold held at this
      simp [hr] at this
  have o3 : ∀ x, x < H → P x = true → ∀ f y, fd x f = some y → P y = true := fun x hx hp f y hfd => by
    obtain ⟨_, hf, _, hy, ly⟩ := w1 x f y hfd
    cases hP : P y with
    | true => rfl
    | false =>
      have hz := (i4 y hy (i6 y hy ly hP)).1
      rw [i1 y hy] at hz
      exact absurd hfd ((deg_zero H).mp hz x f hx hp (by omega))
  have fdm : ∀ x f, x < H → P x = true → fdM P fd H x f = fd x f := fun x f hx hp => by
    unfold fdM
    rw [if_neg (fun z => by rw [hp] at z; cases z.2)]
  have degE : ∀ x, deg P (fdM P fd H) x H = deg P fd x H := fun x => deg_congr H fun y hy => ⟨rfl, fun hp => fc_congr 4 fun f _ => fdm y f hy hp⟩
  have o4 : ∀ x, x < H → P x = true → some x ∉ rts → deg P (fdM P fd H) x H ≠ 0 := fun x hx hp hr z => by
    rw [degE] at z
    have hh : held rts x = false := by unfold held; exact decide_eq_false hr
    have hq := i5 x hx hp hh (by rw [i1 x hx]; exact z)
    have := (i3 x).mpr ⟨hx, hq, hp⟩
    cases this
  -- sweep
  obtain ⟨t, n, et, Ft, Gt, T0, Tf, cnt, t4⟩ := sweep_loop o1 dead H 0 BIG e 0 (by omega) (by unfold BIG; omega) Ge ((R0.fx (eA 0 (by omega))).congr fun x hx => by unfold lvM; rw [if_neg (by omega)]) (fun x f hx hf => by
    rw [(Rf.fx (eA 1 (by omega))) x f hx hf]; congr 2) E6 (by
    rw [Nat.zero_add]; exact cntB_congr fun x hx => by unfold lvM; rw [if_neg (by omega)]) (by
    rw [eI 4 (by decide) (by decide), g4, show cntB (lvM P lv 0) H = cntB lv H from cntB_congr fun x hx => by unfold lvM; rw [if_neg (by omega)]])
  have esw : k_sweep e = some (Int32.ofNat n, t) := et
  have wFP : ∀ x f y, fdM P fd H x f = some y → f < Fn := fun x f y e => by
    unfold fdM at e
    by_cases w : x < H ∧ P x = false
    · rw [if_pos w] at e; cases e
    · rw [if_neg w] at e; exact wF x f y e
  have w1P : ∀ x f y, x < H → f < Fn → fdM P fd H x f = some y → y < H ∧ P y = true := fun x f y hx hf hfd => by
    have hp : P x = true := by
      cases hP : P x with
      | true => rfl
      | false => unfold fdM at hfd; rw [if_pos ⟨hx, hP⟩] at hfd; cases hfd
    rw [fdm x f hx hp] at hfd
    exact ⟨(w1' x f y hfd).1, o3 x hx hp f y hfd⟩
  obtain ⟨u, eu, Fu, Gu, U2⟩ := recount_ok w1P wFP Gt T0 Tf
  have room : ∀ l : List Nat, l.Nodup → (∀ x ∈ l, x < H ∧ P x = true ∧ deg P (fdM P fd H) x H = 0) → l.length ≤ RC := fun l nd hl => by
    refine Nat.le_trans (root_len nd fun x hx => ?_) w3
    obtain ⟨z1, z2, z3⟩ := hl x hx
    by_cases hr : some x ∈ rts
    · exact hr
    · exact absurd z3 (o4 x z1 z2 hr)
  obtain ⟨v, ev, Fv, Gv, VT⟩ := rebuild_ok room Gu (T0.fx (Fu.2.2.1 0 (by simp))) U2
  have vI : ∀ k, k ≠ 4 → k ≠ 6 → k ≠ 7 → k ≠ 8 → gI v k = gI s k := fun k x y z w => by
    rw [Fv.1 k (by simp [y]), Fu.1 k (by simp), Ft.1 k (by simp [x]), eI k z w]
  refine ⟨v, P, n, ?_, ⟨Gv, T0.fx (by rw [Fv.2.2.1 0 (by simp), Fu.2.2.1 0 (by simp)]), Tf.fx (by rw [Fv.2.2.1 1 (by simp), Fu.2.2.1 1 (by simp)]), U2.fx (Fv.2.2.1 2 (by simp)), Rrt.fx (vI 5 (by decide) (by decide) (by decide) (by decide)) (by rw [Fv.2.2.1 3 (by simp), Fu.2.2.1 3 (by simp), Ft.2.2.1 3 (by simp), eA 3 (by omega)]), VT, ?_, fun x f y hfd => ?_, fun y hy => ⟨(w2 y hy).1, o2 y (w2 y hy).1 hy⟩, w3, zl_nodup .., fun x hx => ?_, fun x hx hp hz => zl_mem.mpr ⟨hx, hp, hz⟩⟩, ?_, room _ (zl_nodup ..) (fun x hx => zl_mem.mp hx), cnt, o1, o2, o3, o4, fun nz x hx => ?_, fun S hS => mx S (fun y hy => ⟨(hS y hy).1, (hS y hy).2.2.elim (fun w => Or.inl (by unfold held; exact decide_eq_true w)) Or.inr⟩) fun y hy => (hS y hy).2.1⟩
  · unfold k_runReconciliation
    rw [ea, Option.bind_some, ecnt, Option.bind_some, eseed, Option.bind_some, ecas, Option.bind_some, esw, Option.bind_some]
    dsimp only
    rw [eu, Option.bind_some, ev, Option.bind_some]
  · rw [Fv.1 4 (by simp), Fu.1 4 (by simp), t4]
  · have hx : x < H ∧ P x = true ∧ fd x f = some y := by
      unfold fdM at hfd
      by_cases w : x < H ∧ P x = false
      · rw [if_pos w] at hfd; cases hfd
      · rw [if_neg w] at hfd
        have hx := (w1 x f y hfd).1
        refine ⟨hx, ?_, hfd⟩
        cases hP : P x with
        | true => rfl
        | false => exact absurd ⟨hx, hP⟩ w
    obtain ⟨_, hf, _, hy, _⟩ := w1 x f y hx.2.2
    exact ⟨hx.1, hf, hx.2.1, hy, o3 x hx.1 hx.2.1 f y hx.2.2⟩
  · have := zl_mem.mp hx; exact ⟨this.1, this.2.1⟩
  · rw [Fv.1 8 (by simp), Fu.1 8 (by simp), Ft.1 8 (by simp)]; exact e8
  · have we : W = [] := by
      cases W with
      | nil => rfl
      | cons z l =>
        obtain ⟨z1, z2, z3, z4⟩ := (mW z).mp List.mem_cons_self
        exact absurd z4 (nz z z1 z2 (fun hr => by unfold held at z3; simp [hr] at z3))
    rw [stay we]
theorem rfull {H RC TC Fn : Nat} {s : S} {lv : Nat → Bool} {fd : Nat → Nat → Option Nat} {rts : List (Option Nat)} {tb : List Nat} (h : RI H RC TC Fn s lv fd rts tb) : k_rootsFull s = if rts.length < RC then 0 else 1 := by
  obtain ⟨G, R0, Rf, R2, Rrt, RTb, g4, w1, w2, w3, _⟩ := h
  have := G.2.2.2.2.2.2.1
  unfold k_rootsFull
  rw [Rrt.1, G.2.2.1]
  by_cases q : rts.length < RC
  · rw [if_pos (by rw [ofNat_lt (by omega) (by omega)]; exact q), if_pos q]
  · rw [if_neg (by rw [ofNat_lt (by omega) (by omega)]; exact q), if_neg q]
def slotO (rts : List (Option Nat)) (v : Int32) : Option (Option Nat) := if v < 0 then none else rts[v.toNatClampNeg]?
theorem rslot {H RC TC Fn : Nat} {s : S} {lv : Nat → Bool} {fd : Nat → Nat → Option Nat} {rts : List (Option Nat)} {tb : List Nat} (h : RI H RC TC Fn s lv fd rts tb) (v : Int32) : (slotO rts v = none ∧ k_isRootSlot v s = 0) ∨ ∃ i o, i < rts.length ∧ v = Int32.ofNat i ∧ rts[i]? = some o ∧ slotO rts v = some o ∧ k_isRootSlot v s = 1 ∧ ix (gA s 3) v = some (pc o) := by
  obtain ⟨G, R0, Rf, R2, Rrt, RTb, g4, w1, w2, w3, _⟩ := h
  have := G.2.2.2.2.2.2.1
  unfold slotO k_isRootSlot
  rw [Rrt.1]
  by_cases q : v < 0
  · left; rw [if_pos q, if_pos q]; exact ⟨rfl, rfl⟩
  · rw [if_neg q, if_neg q]
    obtain ⟨e, l⟩ := eq_ofNat q
    by_cases w : v < Int32.ofNat rts.length
    · right
      have c := clamp_lt q w (by omega)
      refine ⟨v.toNatClampNeg, rts[v.toNatClampNeg], c, e, List.getElem?_eq_getElem c, List.getElem?_eq_getElem c, by rw [if_pos w], ?_⟩
      rw [ix_nat _ q]
      exact Rrt.2 _ _ (List.getElem?_eq_getElem c)
    · left
      rw [if_neg w]
      refine ⟨List.getElem?_eq_none ?_, rfl⟩
      rw [e, ofNat_lt l (by omega)] at w
      omega
theorem push_root {H RC TC Fn : Nat} {s : S} {lv : Nat → Bool} {fd : Nat → Nat → Option Nat} {rts : List (Option Nat)} {tb : List Nat} (h : RI H RC TC Fn s lv fd rts tb) {o : Option Nat} (ho : ∀ y, o = some y → y < H ∧ lv y = true) (room : rts.length < RC) : ∃ s', k_rootPush (pc o) s = some s' ∧ Fx [5] [] [3] [] s s' ∧ RI H RC TC Fn s' lv fd (rts ++ [o]) tb := by
  obtain ⟨G, R0, Rf, R2, Rrt, RTb, g4, w1, w2, w3, w4, w5, w6⟩ := h
  have r6 := G.2.2.2.2.2.2.1
  have l3 : (gA s 3).length = 16 := G.2.2.2.2.1.2.2.2.1
  refine ⟨sI (sA s 3 ((gA s 3).set rts.length (pc o))) 5 (Int32.ofNat (rts.length + 1)), ?_, ((Fx.refl ..).sA (by simp)).sI (by simp), G.put.sI (by omega), R0.fx (by simp only [gA_sI, gA_sA]; rfl), Rf.fx (by simp only [gA_sI, gA_sA]; rfl), R2.fx (by simp only [gA_sI, gA_sA]; rfl), ⟨?_, fun i p hi => ?_⟩, RTb.fx (by rw [gI_sI, if_neg (by decide), gI_sA]) (by simp only [gA_sI, gA_sA]; rfl), by rw [gI_sI, if_neg (by decide), gI_sA]; exact g4, w1, fun y hy => ?_, ?_, w4, w5, w6⟩
  · unfold k_rootPush
    rw [Rrt.1, G.2.2.1, if_pos (by rw [ofNat_lt (by omega) (by omega)]; exact room), if_pos ((lt_lit (m := 16) (by omega) (by decide)).mpr (by omega)), st_ofNat _ _ (by omega) (by omega), Option.bind_some, ofNat_succ]
  · rw [gI_sI, if_pos rfl, List.length_append, List.length_singleton]
  · rw [gA_sI, gA_sA, if_pos rfl]
    have il := (List.getElem?_eq_some_iff.mp hi).1
    rw [List.length_append, List.length_singleton] at il
    by_cases q : i < rts.length
    · rw [List.getElem?_append_left q] at hi
      rw [List.getElem?_set_ne (by omega)]; exact Rrt.2 i p hi
    · have : i = rts.length := by omega
      subst this
      rw [List.getElem?_append_right (by omega), Nat.sub_self] at hi
      cases hi
      rw [List.getElem?_set_self (by omega)]
  · rcases List.mem_append.mp hy with z | z
    · exact w2 y z
    · exact ho y (List.mem_singleton.mp z).symm
  · rw [List.length_append, List.length_singleton]; omega
theorem pop_ok {H RC TC Fn : Nat} {s : S} {lv : Nat → Bool} {fd : Nat → Nat → Option Nat} {rts : List (Option Nat)} {tb : List Nat} (h : RI H RC TC Fn s lv fd rts tb) : (rts = [] ∧ k_pop s = some (-3, s)) ∨ (rts ≠ [] ∧ ∃ s', k_pop s = some (0, s') ∧ Fx [5] [] [3] [] s s' ∧ RI H RC TC Fn s' lv fd rts.dropLast tb) := by
  obtain ⟨G, R0, Rf, R2, Rrt, RTb, g4, w1, w2, w3, w4, w5, w6⟩ := id h
  have r6 := G.2.2.2.2.2.2.1
  have l3 : (gA s 3).length = 16 := G.2.2.2.2.1.2.2.2.1
  unfold k_pop k_rootPopTop
  rw [Rrt.1]
  rcases List.eq_nil_or_concat rts with w | ⟨r, o, w⟩
  · left
    subst w
    rw [if_neg (by decide)]
    exact ⟨rfl, rfl⟩
  · right
    have w' : rts = r ++ [o] := by rw [w]; simp
    subst w'
    have ll : (r ++ [o]).length = r.length + 1 := by simp
    have s1 : Int32.ofNat (r ++ [o]).length - 1 = Int32.ofNat r.length := by rw [ll, ← ofNat_succ]; simp
    refine ⟨by simp, ?_⟩
    rw [if_pos (by rw [show (0 : Int32) = Int32.ofNat 0 from rfl, ofNat_lt (by omega) (by omega)]; omega), if_pos (by rw [show (0 : Int32) = Int32.ofNat 0 from rfl, ofNat_lt (by omega) (by omega)]; omega), s1, st_ofNat _ _ (by omega) (by omega), Option.bind_some, Option.bind_some, List.dropLast_concat]
    have G2 := (G.sI (f := 5) (v := Int32.ofNat r.length) (by omega)).put (f := 3) (x := r.length) (v := -1)
    rw [gA_sI] at G2
    refine ⟨_, rfl, ((Fx.refl ..).sI (by simp)).sA (by simp), G2, R0.fx (by simp only [gA_sI, gA_sA]; rfl), Rf.fx (by simp only [gA_sI, gA_sA]; rfl), R2.fx (by simp only [gA_sI, gA_sA]; rfl), ⟨by rw [gI_sA, gI_sI, if_pos rfl], fun i p hi => ?_⟩, RTb.fx (by rw [gI_sA, gI_sI, if_neg (by decide)]) (by simp only [gA_sI, gA_sA]; rfl), by rw [gI_sA, gI_sI, if_neg (by decide)]; exact g4, w1, fun y hy => w2 y (List.mem_append_left _ hy), by omega, w4, w5, w6⟩
    have il := (List.getElem?_eq_some_iff.mp hi).1
    rw [gA_sA, if_pos rfl, List.getElem?_set_ne (by omega)]
    exact Rrt.2 i p (by rw [List.getElem?_append_left il]; exact hi)
theorem deg_life {lv : Nat → Bool} {fd : Nat → Nat → Option Nat} {c : Nat} (nf : ∀ f, f < 4 → fd c f = none) (x : Nat) (lc : lv c = false) : ∀ n, deg (aupd lv c true) fd x n = deg lv fd x n
  | 0 => rfl
  | n + 1 => by
    rw [deg, deg, deg_life nf x lc n]
    by_cases q : n = c
    · subst q
      have o : one fd n x = 0 := (fc_zero 4).mpr fun f hf => by rw [nf f hf]; simp
      rw [o]; split <;> split <;> rfl
    · have e : aupd lv c true n = lv n := by unfold aupd; rw [if_neg q]
      rw [e]
theorem low_loop {H RC TC Fn : Nat} {s : S} {lv : Nat → Bool} (G : Gd H RC TC Fn s) (R0 : Rg H s 0 (fun x => bI (lv x))) : ∀ m j N, j + m = H → m < N → (∀ i, i < j → lv i = true) → (k_lowestFreeCell_2 N (Int32.ofNat j) s = some (-1) ∧ ∀ i, i < H → lv i = true) ∨ ∃ c, c < H ∧ lv c = false ∧ (∀ i, i < c → lv i = true) ∧ k_lowestFreeCell_2 N (Int32.ofNat j) s = some (Int32.ofNat c)
  | _, _, 0, _, h, _ => by omega
  | 0, j, N + 1, hj, _, b => by
    have h8 := G.2.2.2.2.2.1
    exact Or.inl ⟨by rw [k_lowestFreeCell_2, G.1, if_neg (by rw [ofNat_lt (by omega) (by omega)]; omega)], fun i hi => b i (by omega)⟩
  | m + 1, j, N + 1, hj, hN, b => by
    have h8 := G.2.2.2.2.2.1
    rw [k_lowestFreeCell_2, G.1, if_pos (by rw [ofNat_lt (by omega) (by omega)]; omega), ix_ofNat _ (by omega), show (gA s 0)[j]? = some (bI (lv j)) from R0 j (by omega), Option.bind_some, ofNat_succ]
    cases e : lv j with
    | false => exact Or.inr ⟨j, by omega, e, b, by rw [if_pos (show bI false = 0 from rfl)]⟩
    | true =>
      rw [if_neg (show ¬ bI true = 0 by decide)]
      refine low_loop G R0 m (j + 1) N (by omega) (by omega) fun i hi => ?_
      by_cases w : i = j
      · rw [w]; exact e
      · exact b i (by omega)
theorem cntB_full {p : Nat → Bool} {H : Nat} : cntB p H = H ↔ ∀ x, x < H → p x = true := by
  unfold cntB
  constructor
  · intro h x hx
    have : (List.range H).countP (fun x => p x) = (List.range H).length := by rw [h, List.length_range]
    exact List.countP_eq_length.mp this x (List.mem_range.mpr hx)
  · intro h
    have : (List.range H).countP (fun x => p x) = (List.range H).length := List.countP_eq_length.mpr fun x hx => h x (List.mem_range.mp hx)
    rw [this, List.length_range]
theorem place_ok {H RC TC Fn : Nat} {s : S} {lv : Nat → Bool} {fd : Nat → Nat → Option Nat} {rts : List (Option Nat)} {tb : List Nat} (h : RI H RC TC Fn s lv fd rts tb) {c : Nat} (hc : c < H) (lc : lv c = false) (room : tb.length < TC) (rr : rts.length < RC) : ∃ s', k_placeNewObject (Int32.ofNat c) s = some s' ∧ RI H RC TC Fn s' (aupd lv c true) fd (rts ++ [some c]) (tb ++ [c]) ∧ gI s' 8 = gI s 8 := by
  obtain ⟨G, R0, Rf, R2, Rrt, RTb, g4, w1, w2, w3, w4, w5, w6⟩ := id h
  have h8 := G.2.2.2.2.2.1
  have l0 := len64 G.2.2.2.2.1 (f := 0) (by simp)
  have l2 := len64 G.2.2.2.2.1 (f := 2) (by simp)
  have l1 : (gA s 1).length = 256 := G.2.2.2.2.1.2.1
  have nf : ∀ f, f < 4 → fd c f = none := fun f _ => by
    cases e : fd c f with
    | none => rfl
    | some y => rw [(w1 c f y e).2.2.1] at lc; cases lc
  have dl : ∀ x, deg (aupd lv c true) fd x H = deg lv fd x H := fun x => deg_life nf x lc H
  have dc : deg lv fd c H = 0 := (deg_zero H).mpr fun y f hy hp hf e => by rw [(w1 y f c e).2.2.2.2] at lc; cases lc
  have cu := cntB_upd lv c true H hc
  rw [lc] at cu
  simp at cu
  obtain ⟨t, et, Ft, lt, gt⟩ := own_ccf (sA s 0 ((gA s 0).set c 1)) c (by omega) (by rw [gA_sA, if_neg (by decide)]; exact l1)
  have t0 : gA t 0 = (gA s 0).set c 1 := by rw [Ft.2.2.1 0 (by simp), gA_sA, if_pos rfl]
  have t2 : gA t 2 = gA s 2 := by rw [Ft.2.2.1 2 (by simp), gA_sA, if_neg (by decide)]
  have lnt : own_len t := len_of G.2.2.2.2.1 fun k hk => by
    by_cases q : k = 1
    · rw [q, lt, l1]
    · rw [Ft.2.2.1 k (by simp [q]), gA_sA]
      by_cases w : k = 0
      · rw [if_pos w, List.length_set, w]
      · rw [if_neg w]
  have Gt : Gd H RC TC Fn t := G.fx (fun k _ => by rw [Ft.1 k (by simp), gI_sA]) lnt
  have G2 := (Gt.put (f := 2) (x := c) (v := 0)).sI (f := 4) (v := Int32.ofNat (cntB lv H + 1)) (by omega)
  rw [t2] at G2
  obtain ⟨u, hu⟩ : ∃ u, u = sI (sA t 2 ((gA s 2).set c 0)) 4 (Int32.ofNat (cntB lv H + 1)) := ⟨_, rfl⟩
  rw [← hu] at G2
  have bl : k_bringToLife (Int32.ofNat c) s = some u := by
    unfold k_bringToLife
    rw [obj_yes G hc, if_neg (by decide), ix_ofNat _ (by omega), show (gA s 0)[c]? = some (bI (lv c)) from R0 c hc, Option.bind_some, lc, if_pos (show bI false = 0 from rfl), st_ofNat _ _ (by omega) (by omega), Option.bind_some, et, Option.bind_some, t2, st_ofNat _ _ (by omega) (by omega), Option.bind_some, Ft.1 4 (by simp), gI_sA, g4, ofNat_succ, ← hu]
  have uA : ∀ k, k ≠ 0 → k ≠ 1 → k ≠ 2 → gA u k = gA s k := fun k a b d => by
    rw [hu, gA_sI, gA_sA, if_neg d, Ft.2.2.1 k (by simp [b]), gA_sA, if_neg a]
  have uI : ∀ k, k ≠ 4 → gI u k = gI s k := fun k a => by rw [hu, gI_sI, if_neg a, gI_sA, Ft.1 k (by simp), gI_sA]
  have ntb : c ∉ tb := fun z => by rw [(w5 c z).2] at lc; cases lc
  have tl : tb.length < 19 := by
    have := nodup_len (l := c :: tb) (List.nodup_cons.mpr ⟨ntb, w4⟩) (n := H) (fun z hz => by
      rcases List.mem_cons.mp hz with w | w
      · rw [w]; exact hc
      · exact (w5 z w).1)
    rw [List.length_cons] at this
    omega
  obtain ⟨v, ev, Fv, Gv, VT⟩ := ins_ok G2 (RTb.fx (uI 6 (by decide)) (uA 5 (by decide) (by decide) (by decide))) hc ntb room tl
  have RIv : RI H RC TC Fn v (aupd lv c true) fd rts (tb ++ [c]) := by
    refine ⟨Gv, ?_, ?_, ?_, (Rrt.fx (uI 5 (by decide)) (uA 3 (by decide) (by decide) (by decide))).fx (Fv.1 5 (by simp)) (Fv.2.2.1 3 (by simp)), VT, ?_, fun x f y e => ?_, fun y hy => ?_, w3, ?_, fun x hx => ?_, fun x hx hl hz => ?_⟩
    · intro y hy
      rw [Fv.2.2.1 0 (by simp), hu, gA_sI, gA_sA, if_neg (by decide), t0]
      unfold aupd
      dsimp only
      by_cases q : y = c
      · subst q; rw [if_pos rfl, List.getElem?_set_self (by omega)]; rfl
      · rw [if_neg q, List.getElem?_set_ne (by omega)]; exact R0 y hy
    · intro y f hy hf
      rw [Fv.2.2.1 1 (by simp), hu, gA_sI, gA_sA, if_neg (by decide), gt _ (by omega)]
      by_cases q : y = c
      · rw [if_pos (by omega), q, nf f hf]; rfl
      · rw [if_neg (by omega), gA_sA, if_neg (by decide)]; exact Rf y f hy hf
    · intro y hy
      rw [Fv.2.2.1 2 (by simp), hu, gA_sI, gA_sA, if_pos rfl]
      dsimp only
      rw [dl]
      by_cases q : y = c
      · subst q; rw [List.getElem?_set_self (by omega), dc]; rfl
      · rw [List.getElem?_set_ne (by omega)]; exact R2 y hy
    · rw [Fv.1 4 (by simp), hu, gI_sI, if_pos rfl, ← cu]
    · obtain ⟨a1, a2, a3, a4, a5⟩ := w1 x f y e
      refine ⟨a1, a2, ?_, a4, ?_⟩
      · unfold aupd; split
        · rfl
        · exact a3
      · unfold aupd; split
        · rfl
        · exact a5
    · obtain ⟨a1, a2⟩ := w2 y hy
      refine ⟨a1, ?_⟩
      unfold aupd; split
      · rfl
      · exact a2
    · rw [List.nodup_append]; exact ⟨w4, by simp, fun a ha b hb => by rw [List.mem_singleton.mp hb]; intro w; rw [w] at ha; exact ntb ha⟩
    · rcases List.mem_append.mp hx with w | w
      · obtain ⟨a1, a2⟩ := w5 x w
        refine ⟨a1, ?_⟩
        unfold aupd; split
        · rfl
        · exact a2
      · rw [List.mem_singleton.mp w]
        refine ⟨hc, ?_⟩
        unfold aupd; rw [if_pos rfl]
    · rw [dl] at hz
      by_cases q : x = c
      · rw [q]; simp
      · unfold aupd at hl
        rw [if_neg q] at hl
        exact List.mem_append_left _ (w6 x hx hl hz)
  obtain ⟨w, ew, Fw, RIw⟩ := push_root RIv (o := some c) (fun y hy => by cases hy; exact ⟨hc, by unfold aupd; rw [if_pos rfl]⟩) rr
  refine ⟨w, ?_, RIw, by rw [Fw.1 8 (by simp), Fv.1 8 (by simp), uI 8 (by decide)]⟩
  unfold k_placeNewObject
  rw [bl, Option.bind_some, ev, Option.bind_some]
  dsimp only
  rw [show Int32.ofNat c = pc (some c) from rfl, ew, Option.bind_some]
theorem alloc_ok {H RC TC Fn : Nat} {s : S} {lv : Nat → Bool} {fd : Nat → Nat → Option Nat} {rts : List (Option Nat)} {tb : List Nat} (h : RI H RC TC Fn s lv fd rts tb) (ht : tb.length ≤ TC) : (RC ≤ rts.length ∧ k_alloc s = some (-2, s)) ∨ (rts.length < RC ∧ ∃ s1 lv1 fd1 tb1, RI H RC TC Fn s1 lv1 fd1 rts tb1 ∧ tb1.length < TC ∧ ((cntB lv H < H ∧ tb.length < TC ∧ s1 = s ∧ lv1 = lv ∧ fd1 = fd ∧ tb1 = tb) ∨ (¬ (cntB lv H < H ∧ tb.length < TC) ∧ gI s1 8 = gI s 8 + 1 ∧ ∃ b, k_runReconciliation s = some (b, s1))) ∧ ((cntB lv1 H = H ∧ k_alloc s = some (-4, s1)) ∨ ∃ c s', c < H ∧ lv1 c = false ∧ (∀ i, i < c → lv1 i = true) ∧ k_alloc s = some (Int32.ofNat c, s') ∧ RI H RC TC Fn s' (aupd lv1 c true) fd1 (rts ++ [some c]) (tb1 ++ [c]) ∧ gI s' 8 = gI s1 8)) := by
  obtain ⟨G, R0, Rf, R2, Rrt, RTb, g4, w1, w2, w3, w4, w5, w6⟩ := id h
  have h8 := G.2.2.2.2.2.1
  have gb := G.2.2.2.2.2.2
  have cb := cntB_le lv H
  have rf := rfull h
  by_cases q : rts.length < RC
  · right
    refine ⟨q, ?_⟩
    rw [if_pos q] at rf
    have fin : ∀ s1 lv1 fd1 tb1, RI H RC TC Fn s1 lv1 fd1 rts tb1 → tb1.length < TC → (cntB lv1 H = H ∧ k_alloc_22 s1 = some (-4, s1)) ∨ ∃ c s', c < H ∧ lv1 c = false ∧ (∀ i, i < c → lv1 i = true) ∧ k_alloc_22 s1 = some (Int32.ofNat c, s') ∧ RI H RC TC Fn s' (aupd lv1 c true) fd1 (rts ++ [some c]) (tb1 ++ [c]) ∧ gI s' 8 = gI s1 8 := fun s1 lv1 fd1 tb1 h1 hr => by
      unfold k_alloc_22 k_lowestFreeCell
      rw [show (0 : Int32) = Int32.ofNat 0 from rfl]
      rcases low_loop h1.1 h1.2.1 H 0 BIG (by omega) (by unfold BIG; omega) (fun i hi => by omega) with ⟨e, al⟩ | ⟨c, hc, lc, al, e⟩
      · left
        refine ⟨cntB_full.mpr al, ?_⟩
        rw [e, Option.bind_some, if_pos rfl]
      · right
        obtain ⟨s', es, R', g8⟩ := place_ok h1 hc lc hr q
        refine ⟨c, s', hc, lc, al, ?_, R', g8⟩
        rw [e, Option.bind_some, if_neg (enc_ne (by omega)), es, Option.bind_some]
    have hf : k_hasFreeCell s = if cntB lv H < H then 1 else 0 := by
      unfold k_hasFreeCell
      rw [g4, G.1]
      by_cases w : cntB lv H < H
      · rw [if_pos (by rw [ofNat_lt (by omega) (by omega)]; exact w), if_pos w]
      · rw [if_neg (by rw [ofNat_lt (by omega) (by omega)]; exact w), if_neg w]
    have tf : k_tableIsFull s = if tb.length < TC then 0 else 1 := by
      unfold k_tableIsFull
      rw [RTb.1, G.2.2.2.1]
      have := RTb.2.1
      by_cases w : tb.length < TC
      · rw [if_pos (by rw [ofNat_lt (by omega) (by omega)]; exact w), if_pos w]
      · rw [if_neg (by rw [ofNat_lt (by omega) (by omega)]; exact w), if_neg w]
    by_cases w : cntB lv H < H ∧ tb.length < TC
    · have nr : k_allocNeedsReconcile s = 0 := by
        unfold k_allocNeedsReconcile
        rw [hf, if_pos w.1, if_neg (by decide), tf, if_pos w.2]; rfl
      refine ⟨s, lv, fd, tb, h, w.2, Or.inl ⟨w.1, w.2, rfl, rfl, rfl, rfl⟩, ?_⟩
      unfold k_alloc
      rw [rf, if_pos rfl, nr, if_pos rfl]
      exact fin s lv fd tb h w.2
    · have nr : ¬ k_allocNeedsReconcile s = 0 := by
        unfold k_allocNeedsReconcile
        by_cases z : cntB lv H < H
        · rw [hf, if_pos z, if_neg (by decide), tf, if_neg (fun y => w ⟨z, y⟩)]; decide
        · rw [hf, if_neg z, if_pos rfl]; decide
      obtain ⟨s1, P, b, e, R1, g8, zr, _⟩ := reconcile_ok h
      have zlr : (zl P (fdM P fd H) H H).length < TC := by omega
      refine ⟨s1, P, _, _, R1, zlr, Or.inr ⟨w, g8, _, e⟩, ?_⟩
      unfold k_alloc
      rw [rf, if_pos rfl, if_neg nr, e, Option.bind_some]
      exact fin s1 P _ _ R1 zlr
  · left
    rw [if_neg q] at rf
    refine ⟨by omega, ?_⟩
    unfold k_alloc
    rw [rf, if_neg (by decide)]
def setF (fd : Nat → Nat → Option Nat) (x f : Nat) (o : Option Nat) : Nat → Nat → Option Nat := fun y g => if y = x ∧ g = f then o else fd y g
theorem setF_ne {fd : Nat → Nat → Option Nat} {x f : Nat} {o : Option Nat} {y g : Nat} (h : y ≠ x) : setF fd x f o y g = fd y g := by unfold setF; rw [if_neg (fun z => h z.1)]
theorem fc_setn {fd : Nat → Nat → Option Nat} {x f : Nat} {o : Option Nat} {z : Nat} : ∀ k, k ≤ f → fc (setF fd x f o) x z k = fc fd x z k := fun k hk => fc_congr k fun g hg => by unfold setF; rw [if_neg (fun w => by omega)]
theorem fc_set {fd : Nat → Nat → Option Nat} {x f : Nat} (o : Option Nat) (z : Nat) : ∀ k, f < k → fc (setF fd x f o) x z k + (if fd x f = some z then 1 else 0) = fc fd x z k + (if o = some z then 1 else 0)
  | 0, h => by omega
  | k + 1, h => by
    rw [fc, fc]
    by_cases q : f = k
    · subst q
      rw [fc_setn f (Nat.le_refl _), show setF fd x f o x f = o by unfold setF; rw [if_pos ⟨rfl, rfl⟩]]
      omega
    · have ih := fc_set (fd := fd) (x := x) (f := f) o z k (by omega)
      rw [show setF fd x f o x k = fd x k by unfold setF; rw [if_neg (fun w => q w.2.symm)]]
      omega
theorem deg_set {lv : Nat → Bool} {fd : Nat → Nat → Option Nat} {x f : Nat} (o : Option Nat) (hf : f < 4) (lx : lv x = true) (z : Nat) : ∀ n, x < n → deg lv (setF fd x f o) z n + (if fd x f = some z then 1 else 0) = deg lv fd z n + (if o = some z then 1 else 0)
  | 0, h => by omega
  | n + 1, h => by
    rw [deg, deg]
    by_cases q : x = n
    · subst q
      have e : deg lv (setF fd x f o) z x = deg lv fd z x := deg_congr x fun y hy => ⟨rfl, fun _ => fc_congr 4 fun g _ => setF_ne (by omega)⟩
      rw [e, lx, if_pos rfl, if_pos rfl]
      have := fc_set (fd := fd) (x := x) (f := f) o z 4 hf
      unfold one
      omega
    · have ih := deg_set (lv := lv) (fd := fd) (f := f) o hf lx z n (by omega)
      have e : one (setF fd x f o) n z = one fd n z := fc_congr 4 fun g _ => setF_ne (by omega)
      rw [e]
      omega
theorem assign_ok {H RC TC Fn : Nat} {s : S} {lv : Nat → Bool} {fd : Nat → Nat → Option Nat} {rts : List (Option Nat)} {tb : List Nat} (h : RI H RC TC Fn s lv fd rts tb) {x f : Nat} {o : Option Nat} (hx : x < H) (hf : f < Fn) (lx : lv x = true) (ho : ∀ y, o = some y → y < H ∧ lv y = true) : ∃ s', k_assignField (Int32.ofNat x) (Int32.ofNat f) (pc o) s = some s' ∧ Fx [] [] [1, 2] [] s s' ∧ Gd H RC TC Fn s' ∧ Rfd H s' (setF fd x f o) ∧ Rg H s' 2 (fun z => Int32.ofNat (deg lv (setF fd x f o) z H)) := by
  obtain ⟨G, R0, Rf, R2, Rrt, RTb, g4, w1, w2, w3, w4, w5, w6⟩ := h
  have h8 := G.2.2.2.2.2.1
  have l2 := len64 G.2.2.2.2.1 (f := 2) (by simp)
  have l1 : (gA s 1).length = 256 := G.2.2.2.2.1.2.1
  have f4 := G.2.2.2.2.2.2.2.2.2
  have D := deg_set (lv := lv) (fd := fd) (x := x) (f := f) o (show f < 4 by omega) lx
  -- the count of the old target falls
  obtain ⟨t, et, Ft, Gt, T2⟩ : ∃ t, k_refDec (pc (fd x f)) s = some t ∧ Fx [] [] [2] [] s t ∧ Gd H RC TC Fn t ∧ Rg H t 2 (fun z => Int32.ofNat (deg lv fd z H - if fd x f = some z then 1 else 0)) := by
    unfold k_refDec
    cases e : fd x f with
    | none =>
      rw [show pc none = -1 from rfl, obj_nil, if_pos rfl]
      exact ⟨s, rfl, Fx.refl .., G, R2.congr fun z hz => by simp⟩
    | some y =>
      obtain ⟨_, _, _, hy, ly⟩ := w1 x f y e
      have dp : 0 < deg lv fd y H := by
        have := D y H hx
        rw [e] at this
        rcases Nat.eq_zero_or_pos (deg lv fd y H) with z | z
        · exact absurd e ((deg_zero H).mp z x f hx lx (by omega))
        · exact z
      have dl := deg_le lv fd y H
      rw [show pc (some y) = Int32.ofNat y from rfl, obj_yes G hy, if_neg (by decide), ix_ofNat _ (by omega), show (gA s 2)[y]? = some (Int32.ofNat (deg lv fd y H)) from R2 y hy, Option.bind_some, Option.bind_some, if_pos (by rw [show (0 : Int32) = Int32.ofNat 0 from rfl, ofNat_lt (by omega) (by omega)]; exact dp)]
      have s1 : Int32.ofNat (deg lv fd y H) - 1 = Int32.ofNat (deg lv fd y H - 1) := by
        have := ofNat_succ (deg lv fd y H - 1)
        rw [show deg lv fd y H - 1 + 1 = deg lv fd y H by omega] at this
        rw [← this]; simp
      rw [s1, st_ofNat _ _ (by omega) (by omega), Option.bind_some]
      refine ⟨_, rfl, (Fx.refl ..).sA (by simp), G.put, (R2.put (by omega) _).congr fun z hz => ?_⟩
      unfold aupd
      by_cases w : z = y
      · rw [if_pos w, w, if_pos rfl]
      · rw [if_neg w, if_neg (fun q => w (Option.some.inj q).symm)]; rfl
  obtain ⟨u, eu, Fu, Gu, U2⟩ : ∃ u, k_refInc (pc o) t = some u ∧ Fx [] [] [2] [] t u ∧ Gd H RC TC Fn u ∧ Rg H u 2 (fun z => Int32.ofNat (deg lv (setF fd x f o) z H)) := by
    have key : ∀ z, z < H → deg lv fd z H - (if fd x f = some z then 1 else 0) + (if o = some z then 1 else 0) = deg lv (setF fd x f o) z H := fun z hz => by
      have d := D z H hx
      by_cases w : fd x f = some z
      · have dp : 0 < deg lv fd z H := by
          rcases Nat.eq_zero_or_pos (deg lv fd z H) with y | y
          · exact absurd w ((deg_zero H).mp y x f hx lx (by omega))
          · exact y
        rw [if_pos w] at d ⊢
        omega
      · rw [if_neg w] at d ⊢
        omega
    cases e : o with
    | none =>
      rw [e] at key
      unfold k_refInc
      rw [show pc none = -1 from rfl, obj_nil, if_pos rfl]
      exact ⟨t, rfl, Fx.refl .., Gt, T2.congr fun z hz => by rw [← key z hz]; simp⟩
    | some y =>
      rw [e] at key
      have hy := (ho y e).1
      obtain ⟨e1, G1, R1⟩ := inc_ok Gt T2 hy
      refine ⟨_, e1, (Fx.refl ..).sA (by simp), G1, R1.congr fun z hz => ?_⟩
      rw [← key z hz]
      unfold aupd
      by_cases w : z = y
      · rw [if_pos w, w, if_pos rfl]
      · rw [if_neg w, if_neg (fun q => w (Option.some.inj q).symm)]; rfl
  have u1 : gA u 1 = gA s 1 := by rw [Fu.2.2.1 1 (by simp), Ft.2.2.1 1 (by simp)]
  have G3 := Gu.put (f := 1) (x := 4 * x + f) (v := pc o)
  rw [u1] at G3
  refine ⟨sA u 1 ((gA s 1).set (4 * x + f) (pc o)), ?_, ?_, G3, fun y g hy hg => ?_, U2.fx (by rw [gA_sA, if_neg (by decide)])⟩
  · unfold k_assignField k_writeFieldRaw
    rw [read_ok G Rf hx hf, Option.bind_some, et, Option.bind_some, eu, Option.bind_some, obj_yes Gu hx, if_neg (by decide), fno_yes Gu hf, if_neg (by decide), mul4, u1, st_ofNat _ _ (by omega) (by omega), Option.bind_some, Option.bind_some]
  · exact ((Ft.mono (by simp) (by simp) (by simp) (by simp)).trans (Fu.mono (by simp) (by simp) (by simp) (by simp))).sA (by simp)
  · rw [gA_sA, if_pos rfl]
    unfold setF
    by_cases w : y = x ∧ g = f
    · rw [if_pos w, w.1, w.2, List.getElem?_set_self (by omega)]
    · rw [if_neg w, List.getElem?_set_ne (by omega)]; exact Rf y g hy hg
theorem store57_ok {H RC TC Fn : Nat} {s : S} {lv : Nat → Bool} {fd : Nat → Nat → Option Nat} {rts : List (Option Nat)} {tb : List Nat} (h : RI H RC TC Fn s lv fd rts tb) {x f : Nat} {o : Option Nat} (hx : x < H) (hf : f < Fn) (lx : lv x = true) (ho : ∀ y, o = some y → y < H ∧ lv y = true) (room : ∀ y, fd x f = some y → o ≠ some y → deg lv fd y H = 1 → y ∉ tb → tb.length < TC) : ∃ s' tb', k_store_57 (Int32.ofNat f) (Int32.ofNat x) (pc o) (pc (fd x f)) s = some (0, s') ∧ RI H RC TC Fn s' lv (setF fd x f o) rts tb' ∧ gI s' 8 = gI s 8 ∧ (∀ y, fd x f = some y → deg lv (setF fd x f o) y H = 0 → y ∈ tb') ∧ (tb.length ≤ TC → tb'.length ≤ TC) := by
  obtain ⟨G, R0, Rf, R2, Rrt, RTb, g4, w1, w2, w3, w4, w5, w6⟩ := id h
  have h8 := G.2.2.2.2.2.1
  have f4 := G.2.2.2.2.2.2.2.2.2
  have D := fun z => deg_set (lv := lv) (fd := fd) (x := x) (f := f) o (show f < 4 by omega) lx z H hx
  obtain ⟨t, et, Ft, Gt, Tf, T2⟩ := assign_ok h hx hf lx ho
  have w1' : ∀ a g y, setF fd x f o a g = some y → a < H ∧ g < Fn ∧ lv a = true ∧ y < H ∧ lv y = true := fun a g y e => by
    unfold setF at e
    by_cases w : a = x ∧ g = f
    · rw [if_pos w] at e
      obtain ⟨b1, b2⟩ := ho y e
      exact ⟨by rw [w.1]; exact hx, by rw [w.2]; exact hf, by rw [w.1]; exact lx, b1, b2⟩
    · rw [if_neg w] at e; exact w1 a g y e
  have RTt : RT H t tb := RTb.fx (Ft.1 6 (by simp)) (Ft.2.2.1 5 (by simp))
  unfold k_store_57
  rw [et, Option.bind_some]
  -- where nothing is entered
  have stay : (∀ y, fd x f = some y → deg lv (setF fd x f o) y H = 0 → y ∈ tb) → RI H RC TC Fn t lv (setF fd x f o) rts tb := fun hy => by
    refine ⟨Gt, R0.fx (Ft.2.2.1 0 (by simp)), Tf, T2, Rrt.fx (Ft.1 5 (by simp)) (Ft.2.2.1 3 (by simp)), RTt, by rw [Ft.1 4 (by simp)]; exact g4, w1', w2, w3, w4, w5, fun z hz lz dz => ?_⟩
    by_cases w : fd x f = some z
    · exact hy z w dz
    · have d := D z
      rw [if_neg w] at d
      exact w6 z hz lz (by omega)
  unfold k_noteZeroCount
  cases e : fd x f with
  | none =>
    rw [show pc none = -1 from rfl, if_pos rfl, Option.bind_some]
    exact ⟨t, tb, rfl, stay (fun y hy => by rw [e] at hy; cases hy), Ft.1 8 (by simp), fun y hy => (by cases hy), fun q => q⟩
  | some y =>
    obtain ⟨_, _, _, hy, ly⟩ := w1 x f y e
    have dl := deg_le lv (setF fd x f o) y H
    have dpos : 0 < deg lv fd y H := by
      rcases Nat.eq_zero_or_pos (deg lv fd y H) with z | z
      · exact absurd e ((deg_zero H).mp z x f hx lx (by omega))
      · exact z
    rw [show pc (some y) = Int32.ofNat y from rfl, if_neg (enc_ne (by omega)), obj_yes Gt hy, if_neg (by decide), ix_ofNat _ (by omega), show (gA t 2)[y]? = some (Int32.ofNat (deg lv (setF fd x f o) y H)) from T2 y hy, Option.bind_some]
    by_cases dz : deg lv (setF fd x f o) y H = 0
    · have d := D y
      rw [dz, e, if_pos rfl] at d
      have on : o ≠ some y := fun q => by rw [if_pos q] at d; omega
      rw [if_neg on] at d
      obtain ⟨p, ep, hp⟩ := RTt.2.2 y hy
      have th : k_tableHas (Int32.ofNat y) t = some (if y ∈ tb then 1 else 0) := by
        unfold k_tableHas
        rw [obj_yes Gt hy, if_neg (by decide), ix_ofNat _ (by omega), ep, Option.bind_some]
        by_cases w : y ∈ tb
        · rw [if_neg (fun q => hp.mp q w), if_pos w]
        · rw [if_pos (hp.mpr w), if_neg w]
      rw [dz, if_pos (show Int32.ofNat 0 = 0 from rfl), th, Option.bind_some]
      by_cases w : y ∈ tb
      · rw [if_pos w, if_neg (by decide), Option.bind_some]
        exact ⟨t, tb, rfl, stay (fun z hz _ => by rw [e] at hz; cases hz; exact w), Ft.1 8 (by simp), fun z hz _ => (by cases hz; exact w), fun q => q⟩
      · rw [if_neg w, if_pos rfl]
        have tl : tb.length < 19 := by
          have := nodup_len (l := y :: tb) (List.nodup_cons.mpr ⟨w, w4⟩) (n := H) (fun z hz => by
            rcases List.mem_cons.mp hz with q | q
            · rw [q]; exact hy
            · exact (w5 z q).1)
          rw [List.length_cons] at this
          omega
        obtain ⟨u, eu, Fu, Gu, UT⟩ := ins_ok Gt RTt hy w (room y e on (by omega) w) tl
        rw [eu, Option.bind_some, Option.bind_some]
        refine ⟨u, tb ++ [y], rfl, ⟨Gu, (R0.fx (Ft.2.2.1 0 (by simp))).fx (Fu.2.2.1 0 (by simp)), Tf.fx (Fu.2.2.1 1 (by simp)), T2.fx (Fu.2.2.1 2 (by simp)), (Rrt.fx (Ft.1 5 (by simp)) (Ft.2.2.1 3 (by simp))).fx (Fu.1 5 (by simp)) (Fu.2.2.1 3 (by simp)), UT, by rw [Fu.1 4 (by simp), Ft.1 4 (by simp)]; exact g4, w1', w2, w3, ?_, fun z hz => ?_, fun z hz lz dz' => ?_⟩, by rw [Fu.1 8 (by simp), Ft.1 8 (by simp)], fun z hz _ => (by cases hz; simp), fun _ => ?_⟩
        · rw [List.nodup_append]; exact ⟨w4, by simp, fun a ha b hb => by rw [List.mem_singleton.mp hb]; intro q; rw [q] at ha; exact w ha⟩
        · rcases List.mem_append.mp hz with q | q
          · exact w5 z q
          · rw [List.mem_singleton.mp q]; exact ⟨hy, ly⟩
        · by_cases q : z = y
          · rw [q]; simp
          · have d' := D z
            rw [e, if_neg (fun r => q (Option.some.inj r).symm)] at d'
            exact List.mem_append_left _ (w6 z hz lz (by omega))
        · have := room y e on (by omega) w
          rw [List.length_append, List.length_singleton]; omega
    · rw [if_neg (fun z => dz ((nat_zero (by omega)).mp z)), Option.bind_some]
      exact ⟨t, tb, rfl, stay (fun z hz q => by rw [e] at hz; cases hz; exact absurd q dz), Ft.1 8 (by simp), fun z hz q => (by cases hz; exact absurd q dz), fun q => q⟩
def fieldO (Fn : Nat) (v : Int32) : Option Nat := if v < 0 then none else if v < Int32.ofNat Fn then some v.toNatClampNeg else none
theorem fno {H RC TC Fn : Nat} {s : S} (G : Gd H RC TC Fn s) (v : Int32) : (fieldO Fn v = none ∧ k_isFieldNo v s = 0) ∨ ∃ f, f < Fn ∧ v = Int32.ofNat f ∧ fieldO Fn v = some f ∧ k_isFieldNo v s = 1 := by
  have f4 := G.2.2.2.2.2.2.2.2.2
  unfold fieldO k_isFieldNo
  rw [G.2.1]
  by_cases q : v < 0
  · left; rw [if_pos q, if_pos q]; exact ⟨rfl, rfl⟩
  · by_cases w : v < Int32.ofNat Fn
    · right
      exact ⟨v.toNatClampNeg, clamp_lt q w (by omega), (eq_ofNat q).1, by rw [if_neg q, if_pos w], by rw [if_neg q, if_pos w]⟩
    · left; rw [if_neg q, if_neg q, if_neg w, if_neg w]; exact ⟨rfl, rfl⟩
theorem live_obj {H RC TC Fn : Nat} {s : S} {lv : Nat → Bool} (G : Gd H RC TC Fn s) (R0 : Rg H s 0 (fun x => bI (lv x))) {x : Nat} (hx : x < H) : k_isLiveId (Int32.ofNat x) s = some (bI (lv x)) := by
  have := live_ok G R0 (o := some x) (fun y hy => by cases hy; exact hx)
  exact this
/-- the answers of load -/
theorem load_ok {H RC TC Fn : Nat} {s : S} {lv : Nat → Bool} {fd : Nat → Nat → Option Nat} {rts : List (Option Nat)} {tb : List Nat} (h : RI H RC TC Fn s lv fd rts tb) (v w : Int32) : (RC ≤ rts.length ∧ k_load v w s = some (-2, s)) ∨ (rts.length < RC ∧ ((slotO rts v = none ∧ k_load v w s = some (-5, s)) ∨ (∃ o, slotO rts v = some o ∧ ((fieldO Fn w = none ∧ k_load v w s = some (-6, s)) ∨ ∃ f, fieldO Fn w = some f ∧ ((o = none ∧ k_load v w s = some (-7, s)) ∨ ∃ x s', o = some x ∧ x < H ∧ lv x = true ∧ f < Fn ∧ k_load v w s = some (0, s') ∧ RI H RC TC Fn s' lv fd (rts ++ [fd x f]) tb ∧ gI s' 8 = gI s 8))))) := by
  obtain ⟨G, R0, Rf, R2, Rrt, RTb, g4, w1, w2, w3, w4, w5, w6⟩ := id h
  have h8 := G.2.2.2.2.2.1
  have rf := rfull h
  unfold k_load k_loadCheck
  by_cases q : rts.length < RC
  · right
    refine ⟨q, ?_⟩
    rw [rf, if_pos q, if_pos rfl]
    rcases rslot h v with ⟨e1, e2⟩ | ⟨i, o, hi, ev, ei, e1, e2, e3⟩
    · left
      rw [e2, if_pos rfl, Option.bind_some, if_neg (by decide)]
      exact ⟨e1, rfl⟩
    · right
      refine ⟨o, e1, ?_⟩
      rw [e2, if_neg (by decide)]
      rcases fno G w with ⟨f1, f2⟩ | ⟨f, hf, ew, f1, f2⟩
      · left
        rw [f2, if_pos rfl, Option.bind_some, if_neg (by decide)]
        exact ⟨f1, rfl⟩
      · right
        refine ⟨f, f1, ?_⟩
        rw [f2, if_neg (by decide), e3, Option.bind_some, Option.bind_some, Option.bind_some]
        cases o with
        | none =>
          left
          rw [show pc none = -1 from rfl, if_pos rfl, Option.bind_some, if_neg (by decide)]
          exact ⟨rfl, rfl⟩
        | some x =>
          right
          obtain ⟨hx, lx⟩ := w2 x (List.mem_of_getElem? ei)
          obtain ⟨t, et, Ft, Rt⟩ := push_root h (o := fd x f) (fun y hy => ⟨(w1 x f y hy).2.2.2.1, (w1 x f y hy).2.2.2.2⟩) q
          refine ⟨x, t, rfl, hx, lx, hf, ?_, Rt, Ft.1 8 (by simp)⟩
          rw [show pc (some x) = Int32.ofNat x from rfl, if_neg (enc_ne (by omega)), live_obj G R0 hx, Option.bind_some, lx, if_neg (show ¬ bI true = 0 by decide), Option.bind_some, if_pos rfl, ew, read_ok G Rf hx hf, Option.bind_some, et, Option.bind_some]
  · left
    rw [rf, if_neg q, if_neg (by decide), Option.bind_some, if_neg (by decide)]
    exact ⟨by omega, rfl⟩
/-- what a value slot names: none if it is bad -/
def valO (rts : List (Option Nat)) (v : Int32) : Option (Option Nat) := if v = -1 then some none else slotO rts v
theorem vslot {H RC TC Fn : Nat} {s : S} {lv : Nat → Bool} {fd : Nat → Nat → Option Nat} {rts : List (Option Nat)} {tb : List Nat} (h : RI H RC TC Fn s lv fd rts tb) (v : Int32) : (valO rts v = none ∧ k_isValueSlot v s = 0) ∨ ∃ o, valO rts v = some o ∧ k_isValueSlot v s = 1 ∧ k_valueOfSlot v s = some (pc o) ∧ ∀ y, o = some y → y < H ∧ lv y = true ∧ some y ∈ rts := by
  obtain ⟨G, R0, Rf, R2, Rrt, RTb, g4, w1, w2, w3, w4, w5, w6⟩ := id h
  unfold valO k_isValueSlot k_valueOfSlot
  by_cases q : v = -1
  · right
    refine ⟨none, by rw [if_pos q], by rw [if_pos q], by rw [if_pos q]; rfl, fun y hy => by cases hy⟩
  · rw [if_neg q, if_neg q]
    rcases rslot h v with ⟨e1, e2⟩ | ⟨i, o, hi, ev, ei, e1, e2, e3⟩
    · left
      rw [e1, e2]; exact ⟨rfl, by decide⟩
    · right
      refine ⟨o, e1, by rw [e2]; decide, ?_, fun y hy => ?_⟩
      · rw [if_neg q, e2, if_neg (by decide), e3, Option.bind_some]
      · subst hy
        have := List.mem_of_getElem? ei
        exact ⟨(w2 y this).1, (w2 y this).2, this⟩
theorem push_ok {H RC TC Fn : Nat} {s : S} {lv : Nat → Bool} {fd : Nat → Nat → Option Nat} {rts : List (Option Nat)} {tb : List Nat} (h : RI H RC TC Fn s lv fd rts tb) (v : Int32) : (RC ≤ rts.length ∧ k_push v s = some (-2, s)) ∨ (rts.length < RC ∧ ((valO rts v = none ∧ k_push v s = some (-5, s)) ∨ ∃ o s', valO rts v = some o ∧ k_push v s = some (0, s') ∧ RI H RC TC Fn s' lv fd (rts ++ [o]) tb ∧ gI s' 8 = gI s 8)) := by
  have rf := rfull h
  unfold k_push k_pushCheck
  by_cases q : rts.length < RC
  · right
    refine ⟨q, ?_⟩
    rw [rf, if_pos q, if_pos rfl]
    rcases vslot h v with ⟨e1, e2⟩ | ⟨o, e1, e2, e3, e4⟩
    · left
      rw [e2, if_pos rfl, if_neg (show ¬ (-5 : Int32) = 0 by decide)]
      exact ⟨e1, rfl⟩
    · right
      obtain ⟨t, et, Ft, Rt⟩ := push_root h (o := o) (fun y hy => ⟨(e4 y hy).1, (e4 y hy).2.1⟩) q
      refine ⟨o, t, e1, ?_, Rt, Ft.1 8 (by simp)⟩
      rw [e2, if_neg (show ¬ (1 : Int32) = 0 by decide), if_pos rfl, e3, Option.bind_some, et, Option.bind_some]
  · left
    rw [rf, if_neg q, if_neg (show ¬ (1 : Int32) = 0 by decide), if_neg (show ¬ (-2 : Int32) = 0 by decide)]
    exact ⟨by omega, rfl⟩
theorem store_ok {H RC TC Fn : Nat} {s : S} {lv : Nat → Bool} {fd : Nat → Nat → Option Nat} {rts : List (Option Nat)} {tb : List Nat} (h : RI H RC TC Fn s lv fd rts tb) (ht : tb.length ≤ TC) (v w z : Int32) : (slotO rts v = none ∧ k_store v w z s = some (-5, s)) ∨ ∃ o, slotO rts v = some o ∧ ((fieldO Fn w = none ∧ k_store v w z s = some (-6, s)) ∨ ∃ f, fieldO Fn w = some f ∧ f < Fn ∧ ((valO rts z = none ∧ k_store v w z s = some (-5, s)) ∨ ∃ p, valO rts z = some p ∧ ((o = none ∧ k_store v w z s = some (-7, s)) ∨ ∃ x s1 lv1 fd1 tb1 s' tb', o = some x ∧ x < H ∧ lv x = true ∧ RI H RC TC Fn s1 lv1 fd1 rts tb1 ∧ ((s1 = s ∧ lv1 = lv ∧ fd1 = fd ∧ tb1 = tb) ∨ (tb.length = TC ∧ gI s1 8 = gI s 8 + 1)) ∧ fd1 x f = fd x f ∧ k_store v w z s = some (0, s') ∧ RI H RC TC Fn s' lv1 (setF fd1 x f p) rts tb' ∧ gI s' 8 = gI s1 8 ∧ tb'.length ≤ TC))) := by
  obtain ⟨G, R0, Rf, R2, Rrt, RTb, g4, w1, w2, w3, w4, w5, w6⟩ := id h
  have h8 := G.2.2.2.2.2.1
  have gb := G.2.2.2.2.2.2
  unfold k_store k_storeCheck
  rcases rslot h v with ⟨e1, e2⟩ | ⟨i, o, hi, ev, ei, e1, e2, e3⟩
  · left
    rw [e2, if_pos rfl, Option.bind_some, if_neg (by decide)]
    exact ⟨e1, rfl⟩
  · right
    refine ⟨o, e1, ?_⟩
    rw [e2, if_neg (by decide)]
    rcases fno G w with ⟨f1, f2⟩ | ⟨f, hf, ew, f1, f2⟩
    · left
      rw [f2, if_pos rfl, Option.bind_some, if_neg (by decide)]
      exact ⟨f1, rfl⟩
    · right
      refine ⟨f, f1, hf, ?_⟩
      rw [f2, if_neg (by decide)]
      rcases vslot h z with ⟨z1, z2⟩ | ⟨p, z1, z2, z3, z4⟩
      · left
        rw [z2, if_pos rfl, Option.bind_some, if_neg (by decide)]
        exact ⟨z1, rfl⟩
      · right
        refine ⟨p, z1, ?_⟩
        rw [z2, if_neg (by decide), e3, Option.bind_some, Option.bind_some, Option.bind_some]
        cases o with
        | none =>
          left
          rw [show pc none = -1 from rfl, if_pos rfl, Option.bind_some, if_neg (by decide)]
          exact ⟨rfl, rfl⟩
        | some x =>
          right
          have xr : some x ∈ rts := List.mem_of_getElem? ei
          obtain ⟨hx, lx⟩ := w2 x xr
          rw [show pc (some x) = Int32.ofNat x from rfl, if_neg (enc_ne (by omega)), live_obj G R0 hx, Option.bind_some, lx, if_neg (show ¬ bI true = 0 by decide), Option.bind_some, if_pos rfl, z3, Option.bind_some, ew, read_ok G Rf hx hf, Option.bind_some]
          have tf : k_tableIsFull s = if tb.length < TC then 0 else 1 := by
            unfold k_tableIsFull
            rw [RTb.1, G.2.2.2.1]
            have := RTb.2.1
            by_cases w : tb.length < TC
            · rw [if_pos (by rw [ofNat_lt (by omega) (by omega)]; exact w), if_pos w]
            · rw [if_neg (by rw [ofNat_lt (by omega) (by omega)]; exact w), if_neg w]
          have p8 : ∀ y, p = some y → y < 19 := fun y hy => by have := (z4 y hy).1; omega
          have sn : ∃ b : Int32, k_storeNeedsReconcile (pc (fd x f)) (pc p) s = some b ∧ (b = 0 → ∀ y, fd x f = some y → p ≠ some y → deg lv fd y H = 1 → y ∉ tb → tb.length < TC) ∧ (b ≠ 0 → tb.length = TC) := by
            unfold k_storeNeedsReconcile
            cases e : fd x f with
            | none => exact ⟨0, by rw [show pc none = -1 from rfl, if_pos rfl], fun _ y hy => (by cases hy), fun q => absurd rfl q⟩
            | some y =>
              obtain ⟨_, _, _, hy, ly⟩ := w1 x f y e
              have dl := deg_le lv fd y H
              rw [show pc (some y) = Int32.ofNat y from rfl, if_neg (enc_ne (by omega))]
              by_cases c1 : p = some y
              · rw [c1, show pc (some y) = Int32.ofNat y from rfl, if_pos rfl]
                exact ⟨0, rfl, fun _ y' hy' n => by cases hy'; exact absurd rfl n, fun q => absurd rfl q⟩
              · have c1' : ¬ Int32.ofNat y = pc p := fun q => c1 (by
                  cases hp : p with
                  | none => rw [hp] at q; exact absurd q (enc_ne (by omega))
                  | some y2 =>
                    rw [hp] at q
                    have b2 := p8 y2 hp
                    have := congrArg Int32.toInt q
                    rw [ofNat_toInt (by omega), show pc (some y2) = Int32.ofNat y2 from rfl, ofNat_toInt (by omega)] at this
                    congr 1; omega)
                rw [if_neg c1', obj_yes G hy, if_neg (by decide), ix_ofNat _ (by omega), show (gA s 2)[y]? = some (Int32.ofNat (deg lv fd y H)) from R2 y hy, Option.bind_some]
                by_cases c2 : deg lv fd y H = 1
                · obtain ⟨pp, ep, hp⟩ := RTb.2.2 y hy
                  have th : k_tableHas (Int32.ofNat y) s = some (if y ∈ tb then 1 else 0) := by
                    unfold k_tableHas
                    rw [obj_yes G hy, if_neg (by decide), ix_ofNat _ (by omega), ep, Option.bind_some]
                    by_cases w : y ∈ tb
                    · rw [if_neg (fun q => hp.mp q w), if_pos w]
                    · rw [if_pos (hp.mpr w), if_neg w]
                  rw [c2, if_pos (show Int32.ofNat 1 = 1 from rfl), th, Option.bind_some]
                  by_cases c3 : y ∈ tb
                  · rw [if_pos c3, if_neg (by decide)]
                    exact ⟨0, rfl, fun _ y' hy' _ _ n => by cases hy'; exact absurd c3 n, fun q => absurd rfl q⟩
                  · rw [if_neg c3, if_pos rfl, tf]
                    by_cases c4 : tb.length < TC
                    · rw [if_pos c4]
                      exact ⟨_, rfl, fun _ _ _ _ _ _ => c4, fun q => absurd rfl q⟩
                    · rw [if_neg c4]
                      exact ⟨_, rfl, fun q => absurd q (by decide), fun _ => by omega⟩
                · have c2' : ¬ Int32.ofNat (deg lv fd y H) = 1 := fun q => c2 (by
                    have := congrArg Int32.toInt q
                    rw [ofNat_toInt (by omega), show (1 : Int32).toInt = 1 from rfl] at this
                    omega)
                  rw [if_neg c2']
                  exact ⟨0, rfl, fun _ y' hy' _ n => by cases hy'; exact absurd n c2, fun q => absurd rfl q⟩
          obtain ⟨b, eb, hb0, hb1⟩ := sn
          rw [eb, Option.bind_some]
          by_cases q : b = 0
          · rw [if_pos q]
            obtain ⟨s', tb', es, R', g8, _, tl⟩ := store57_ok h (o := p) hx hf lx (fun y hy => ⟨(z4 y hy).1, (z4 y hy).2.1⟩) (hb0 q)
            exact ⟨x, s, lv, fd, tb, s', tb', rfl, hx, lx, h, Or.inl ⟨rfl, rfl, rfl, rfl⟩, rfl, es, R', g8, tl ht⟩
          · rw [if_neg q]
            obtain ⟨s1, P, n, er, R1, g8, zr, cnt, o1, o2, o3, o4, _⟩ := reconcile_ok h
            have px := o2 x hx xr
            have fx : fdM P fd H x f = fd x f := by unfold fdM; rw [if_neg (fun q => by rw [px] at q; cases q.2)]
            obtain ⟨s', tb', es, R', g8', _, tl⟩ := store57_ok R1 (o := p) hx hf px (fun y hy => ⟨(z4 y hy).1, o2 y (z4 y hy).1 (z4 y hy).2.2⟩) (fun _ _ _ _ _ => by omega)
            rw [fx] at es
            rw [er, Option.bind_some]
            exact ⟨x, s1, P, _, _, s', tb', rfl, hx, lx, R1, Or.inr ⟨hb1 q, g8⟩, fx, es, R', g8', tl (by omega)⟩
theorem nb (b : Bool) : nar .boolean (bI b) = bI b := by cases b <;> decide
theorem isLive_ok {H RC TC Fn : Nat} {s : S} {lv : Nat → Bool} {fd : Nat → Nat → Option Nat} {rts : List (Option Nat)} {tb : List Nat} (h : RI H RC TC Fn s lv fd rts tb) {x : Nat} (hx : x < H) : k_isLive (Int32.ofNat x) s = some (bI (lv x)) := by
  unfold k_isLive
  rw [live_obj h.1 h.2.1 hx, Option.bind_some, nb]
theorem count_ok {H RC TC Fn : Nat} {s : S} {lv : Nat → Bool} {fd : Nat → Nat → Option Nat} {rts : List (Option Nat)} {tb : List Nat} (h : RI H RC TC Fn s lv fd rts tb) {x : Nat} (hx : x < H) : k_count (Int32.ofNat x) s = some (if lv x then Int32.ofNat (deg lv fd x H) else -8) := by
  have h8 := h.1.2.2.2.2.2.1
  unfold k_count
  rw [live_obj h.1 h.2.1 hx, Option.bind_some]
  cases lv x
  · rfl
  · rw [if_neg (show ¬ bI true = 0 by decide), ix_ofNat _ (by omega), show (gA s 2)[x]? = _ from h.2.2.2.1 x hx, Option.bind_some]; rfl
theorem inTable_ok {H RC TC Fn : Nat} {s : S} {lv : Nat → Bool} {fd : Nat → Nat → Option Nat} {rts : List (Option Nat)} {tb : List Nat} (h : RI H RC TC Fn s lv fd rts tb) {x : Nat} (hx : x < H) : k_inTable (Int32.ofNat x) s = some (bI (decide (x ∈ tb))) := by
  have h8 := h.1.2.2.2.2.2.1
  obtain ⟨p, ep, hp⟩ := h.2.2.2.2.2.1.2.2 x hx
  unfold k_inTable k_tableHas
  rw [obj_yes h.1 hx, if_neg (by decide), ix_ofNat _ (by omega), ep, Option.bind_some]
  by_cases w : x ∈ tb
  · rw [if_neg (fun q => hp.mp q w), Option.bind_some, show decide (x ∈ tb) = true from decide_eq_true w]; rfl
  · rw [if_pos (hp.mpr w), Option.bind_some, show decide (x ∈ tb) = false from decide_eq_false w]; rfl
theorem field_ok {H RC TC Fn : Nat} {s : S} {lv : Nat → Bool} {fd : Nat → Nat → Option Nat} {rts : List (Option Nat)} {tb : List Nat} (h : RI H RC TC Fn s lv fd rts tb) {x f : Nat} (hx : x < H) (hf : f < Fn) : k_field (Int32.ofNat x) (Int32.ofNat f) s = some (if lv x then pc (fd x f) else -8) := by
  unfold k_field
  rw [live_obj h.1 h.2.1 hx, Option.bind_some]
  cases lv x
  · rfl
  · rw [if_neg (show ¬ bI true = 0 by decide), fno_yes h.1 hf, if_neg (by decide), read_ok h.1 h.2.2.1 hx hf, Option.bind_some]; rfl
def rootV (rts : List (Option Nat)) (i : Nat) : Int32 := match rts[i]? with
  | none => -5
  | some o => pc o
theorem root_ok {H RC TC Fn : Nat} {s : S} {lv : Nat → Bool} {fd : Nat → Nat → Option Nat} {rts : List (Option Nat)} {tb : List Nat} (h : RI H RC TC Fn s lv fd rts tb) {i : Nat} (hi : i < 1000) : k_root (Int32.ofNat i) s = some (rootV rts i) := by
  have r6 := h.1.2.2.2.2.2.2.1
  have w3 := h.2.2.2.2.2.2.2.2.2.1
  unfold k_root rootV
  rcases rslot h (Int32.ofNat i) with ⟨e1, e2⟩ | ⟨j, o, hj, ev, ej, e1, e2, e3⟩
  · rw [e2, if_pos rfl]
    unfold slotO at e1
    rw [if_neg (ofNat_nonneg (by omega)), ofNat_clamp (by omega)] at e1
    rw [e1]
  · have : i = j := by
      have := congrArg Int32.toInt ev
      rw [ofNat_toInt (by omega), ofNat_toInt (by omega)] at this
      omega
    subst this
    rw [e2, if_neg (by decide), e3, Option.bind_some, ej]
theorem wf0 (H RC Fn : Nat) : Wf H RC Fn (fun _ => false) (fun _ _ => none) [] [] := ⟨fun x f y e => (by cases e), fun y hy => (by cases hy), (by simp), List.nodup_nil, fun x hx => (by cases hx), fun x hx e => (by cases e)⟩
theorem init_RI {v1 v2 v3 v4 : Int32} {H RC TC Fn : Nat} (h8 : H ≤ 19) (r6 : RC ≤ 16) (rt : RC < TC) (t64 : TC ≤ 64) (f4 : Fn ≤ 4) (e1 : k_clamp v1 4 64 = Int32.ofNat H) (e2 : k_clamp v2 1 4 = Int32.ofNat Fn) (e3 : k_clamp v3 1 16 = Int32.ofNat RC) (e4 : k_clamp v4 (Int32.ofNat RC + 1) 64 = Int32.ofNat TC) : ∃ s, k_init v1 v2 v3 v4 = some s ∧ RI H RC TC Fn s (fun _ => false) (fun _ _ => none) [] [] ∧ gI s 8 = 0 := by
  unfold k_init
  rw [e1, e2, e3, e4]
  obtain ⟨z, hz⟩ : ∃ z, z = (sI (sI (sI (sI (sA (sA (sA (sA (sA (sA (sA (sA (sA (sA (sA s0 0 (rep 64 0)) 1 (rep 256 0)) 2 (rep 64 0)) 3 (rep 16 0)) 4 (rep 64 0)) 5 (rep 64 0)) 6 (rep 64 0)) 7 (rep 64 0)) 8 (rep 64 0)) 9 (rep 64 0)) 10 (rep 64 0)) 0 (Int32.ofNat H)) 1 (Int32.ofNat Fn)) 2 (Int32.ofNat RC)) 3 (Int32.ofNat TC)) := ⟨_, rfl⟩
  have lz : own_len z := by
    rw [hz]
    refine ⟨?_, ?_, ?_, ?_, ?_, ?_, ?_, ?_, ?_, ?_, ?_⟩ <;> simp only [gA_sI, gA_sA] <;> exact rep_length ..
  rw [← hz]
  have J0 : own_J z z := ⟨Fx.refl .., lz⟩
  obtain ⟨a, ea, Ja, a4, a0, a2, a1⟩ := own_rh z z J0
  obtain ⟨b, eb, Jb, b5, Fb⟩ := own_rr z a Ja
  obtain ⟨c, ec, Jc, c6, c5, Fc⟩ := own_rt z b Jb
  obtain ⟨d, ed, Jd, Fd⟩ := own_rs z c Jc
  rw [ea, Option.bind_some, eb, Option.bind_some, ec, Option.bind_some, ed, Option.bind_some]
  have dI : ∀ k, k < 4 → gI (sI d 8 0) k = gI z k := fun k hk => by rw [gI_sI, if_neg (by omega)]; exact Jd.1.1 k (by simp; omega)
  have dA : ∀ k, k ≤ 2 → gA d k = gA a k := fun k hk => by rw [Fd.2.2.1 k (by simp; omega), Fc.2.2.1 k (by simp; omega), Fb.2.2.1 k (by simp; omega)]
  refine ⟨_, rfl, ⟨⟨by rw [dI 0 (by omega), hz]; simp [gI_sI], by rw [dI 1 (by omega), hz]; simp [gI_sI], by rw [dI 2 (by omega), hz]; simp [gI_sI], by rw [dI 3 (by omega), hz]; simp [gI_sI], len_sI Jd.2, h8, r6, rt, t64, f4⟩, fun x hx => ?_, fun x f hx hf => ?_, fun x hx => ?_, ⟨?_, fun i o hi => (by cases hi)⟩, ⟨?_, by simp, fun x hx => ⟨-1, ?_, by simp⟩⟩, ?_, wf0 H RC Fn⟩, by rw [gI_sI, if_pos rfl]⟩
  · rw [gA_sI, dA 0 (by omega)]; exact a0 x (by omega)
  · rw [gA_sI, dA 1 (by omega)]; exact a1 _ (by omega)
  · rw [gA_sI, dA 2 (by omega), a2 x (by omega)]
    show some 0 = some (Int32.ofNat (deg (fun _ => false) (fun _ _ => none) x H))
    rw [show deg (fun _ => false) (fun _ _ => none) x H = 0 from (deg_zero H).mpr fun y f _ hp => by cases hp]; rfl
  · rw [gI_sI, if_neg (by decide), Fd.1 5 (by simp), Fc.1 5 (by simp)]; exact b5
  · rw [gI_sI, if_neg (by decide), Fd.1 6 (by simp)]; exact c6
  · rw [gA_sI, Fd.2.2.1 5 (by simp)]; exact c5 x (by omega)
  · rw [gI_sI, if_neg (by decide), Fd.1 4 (by simp), Fc.1 4 (by simp), Fb.1 4 (by simp), a4]
    have : cntB (fun _ => false) H = 0 := by
      unfold cntB
      rw [List.countP_eq_zero]
      intro x _ q; cases q
    rw [this]; rfl
def J (H RC TC Fn : Nat) (s : S) : Prop := ∃ lv fd rts tb, RI H RC TC Fn s lv fd rts tb ∧ tb.length ≤ TC
theorem alloc_J {H RC TC Fn : Nat} {s : S} (h : J H RC TC Fn s) : ∃ k s', k_alloc s = some (k, s') ∧ J H RC TC Fn s' := by
  obtain ⟨lv, fd, rts, tb, R, ht⟩ := id h
  rcases alloc_ok R ht with ⟨_, e⟩ | ⟨_, s1, lv1, fd1, tb1, R1, hr, _, oc⟩
  · exact ⟨_, _, e, h⟩
  · rcases oc with ⟨_, e⟩ | ⟨c, s', _, _, _, e, R', _⟩
    · exact ⟨_, _, e, _, _, _, _, R1, by omega⟩
    · exact ⟨_, _, e, _, _, _, _, R', by rw [List.length_append, List.length_singleton]; omega⟩
theorem load_J {H RC TC Fn : Nat} {s : S} (h : J H RC TC Fn s) (v w : Int32) : ∃ k s', k_load v w s = some (k, s') ∧ J H RC TC Fn s' := by
  obtain ⟨lv, fd, rts, tb, R, ht⟩ := id h
  rcases load_ok R v w with ⟨_, e⟩ | ⟨_, ⟨_, e⟩ | ⟨o, _, ⟨_, e⟩ | ⟨f, _, ⟨_, e⟩ | ⟨x, s', _, _, _, _, e, R', _⟩⟩⟩⟩
  · exact ⟨_, _, e, h⟩
  · exact ⟨_, _, e, h⟩
  · exact ⟨_, _, e, h⟩
  · exact ⟨_, _, e, h⟩
  · exact ⟨_, _, e, _, _, _, _, R', ht⟩
theorem store_J {H RC TC Fn : Nat} {s : S} (h : J H RC TC Fn s) (v w z : Int32) : ∃ k s', k_store v w z s = some (k, s') ∧ J H RC TC Fn s' := by
  obtain ⟨lv, fd, rts, tb, R, ht⟩ := id h
  rcases store_ok R ht v w z with ⟨_, e⟩ | ⟨o, _, ⟨_, e⟩ | ⟨f, _, _, ⟨_, e⟩ | ⟨p, _, ⟨_, e⟩ | ⟨x, s1, lv1, fd1, tb1, s', tb', _, _, _, _, _, _, e, R', _, tl⟩⟩⟩⟩
  · exact ⟨_, _, e, h⟩
  · exact ⟨_, _, e, h⟩
  · exact ⟨_, _, e, h⟩
  · exact ⟨_, _, e, h⟩
  · exact ⟨_, _, e, _, _, _, _, R', tl⟩
theorem push_J {H RC TC Fn : Nat} {s : S} (h : J H RC TC Fn s) (v : Int32) : ∃ k s', k_push v s = some (k, s') ∧ J H RC TC Fn s' := by
  obtain ⟨lv, fd, rts, tb, R, ht⟩ := id h
  rcases push_ok R v with ⟨_, e⟩ | ⟨_, ⟨_, e⟩ | ⟨o, s', _, e, R', _⟩⟩
  · exact ⟨_, _, e, h⟩
  · exact ⟨_, _, e, h⟩
  · exact ⟨_, _, e, _, _, _, _, R', ht⟩
theorem pop_J {H RC TC Fn : Nat} {s : S} (h : J H RC TC Fn s) : ∃ k s', k_pop s = some (k, s') ∧ J H RC TC Fn s' := by
  obtain ⟨lv, fd, rts, tb, R, ht⟩ := id h
  rcases pop_ok R with ⟨_, e⟩ | ⟨_, s', e, _, R'⟩
  · exact ⟨_, _, e, h⟩
  · exact ⟨_, _, e, _, _, _, _, R', ht⟩
def bl (w : Int64) (y : Nat) : Bool := w.toBitVec.getLsbD y
theorem l_smod : ∀ j : Fin 64, (Int64.ofNat j.val).toBitVec.smod 64#64 = BitVec.ofNat 64 j.val := by decide
theorem l_and63 : ∀ j : Fin 64, (Int64.ofNat j.val &&& 63) = Int64.ofNat j.val := by decide
theorem bl_shl (w : Int64) {k : Nat} (hk : k < 64) (y : Nat) : bl (w <<< (Int64.ofNat k &&& 63)) y = (decide (k ≤ y) && decide (y < 64) && bl w (y - k)) := by
  rw [l_and63 ⟨k, hk⟩]
  have hs : (w <<< Int64.ofNat k).toBitVec = w.toBitVec <<< k := by
    rw [Int64.toBitVec_shiftLeft, show (Int64.ofNat k).toBitVec.smod 64 = BitVec.ofNat 64 k from l_smod ⟨k, hk⟩, BitVec.shiftLeft_eq']
    congr 1
    simp; omega
  unfold bl
  rw [hs, BitVec.getLsbD_shiftLeft]
  by_cases a : k ≤ y
  · by_cases b : y < 64
    · simp [a, b]
    · simp [a, b]
  · simp [a]
theorem bl_or (a b : Int64) (y : Nat) : bl (a ||| b) y = (bl a y || bl b y) := by simp [bl]
theorem bl_and (a b : Int64) (y : Nat) : bl (a &&& b) y = (bl a y && bl b y) := by simp [bl]
theorem bl_zero (y : Nat) : bl 0 y = false := by simp [bl]
theorem u63 : ∀ k : Fin 64, ((Int32.ofNat k.val).toInt64.toUInt64 &&& Int64.toUInt64 63).toBitVec = BitVec.ofNat 64 k.val := by decide +kernel
theorem bl_ushr (w : Int64) {k : Nat} (hk : k < 64) (y : Nat) : bl (XT.ushrL w (Int32.ofNat k)) y = bl w (y + k) := by
  have h1 : (XT.ushrL w (Int32.ofNat k)).toBitVec = w.toBitVec >>> k := by
    unfold XT.ushrL
    show (w.toUInt64 >>> ((Int32.ofNat k).toInt64.toUInt64 &&& Int64.toUInt64 63)).toBitVec = _
    rw [UInt64.toBitVec_shiftRight, u63 ⟨k, hk⟩, BitVec.ushiftRight_eq']
    show w.toBitVec >>> (BitVec.ofNat 64 k % 64).toNat = _
    congr 1
    rw [BitVec.toNat_umod, BitVec.toNat_ofNat]
    show k % 2 ^ 64 % 64 = k
    omega
  unfold bl
  rw [h1]
  simp [Nat.add_comm]
theorem bl_one : ∀ y : Fin 64, bl 1 y.val = decide (y.val = 0) := by decide +kernel
theorem bl_ext {a b : Int64} (h : ∀ y, y < 64 → bl a y = bl b y) : a = b := by
  apply Int64.toBitVec_inj.mp
  apply BitVec.eq_of_getLsbD_eq
  intro i hi
  exact h i hi
theorem l_test (w : Int64) {k : Nat} (hk : k < 64) : ((XT.ushrL w (Int32.ofNat k)) &&& (1 : Int64) = 0) ↔ bl w k = false := by
  constructor
  · intro h
    have : bl ((XT.ushrL w (Int32.ofNat k)) &&& 1) 0 = false := by rw [h, bl_zero]
    rw [bl_and, bl_ushr w hk, show bl 1 0 = true from bl_one ⟨0, by omega⟩, Bool.and_true, Nat.zero_add] at this
    exact this
  · intro h
    apply bl_ext
    intro y hy
    rw [bl_and, bl_ushr w hk, show bl 1 y = decide (y = 0) from bl_one ⟨y, hy⟩, bl_zero]
    by_cases q : y = 0
    · subst q; rw [Nat.zero_add, h]; rfl
    · simp [q]
theorem bl_bit {k : Nat} (hk : k < 64) (y : Nat) : bl ((1 : Int64) <<< (Int64.ofNat k &&& 63)) y = decide (y = k) := by
  rw [bl_shl _ hk]
  by_cases a : k ≤ y
  · by_cases b : y < 64
    · rw [show bl 1 (y - k) = decide (y - k = 0) from bl_one ⟨y - k, by omega⟩, decide_eq_true a, decide_eq_true b, Bool.and_self, Bool.true_and]
      exact decide_eq_decide.mpr (by omega)
    · rw [decide_eq_false b, decide_eq_false (show ¬ y = k by omega)]; simp
  · rw [decide_eq_false a, decide_eq_false (show ¬ y = k by omega)]; simp

theorem to64 : ∀ k : Fin 64, (Int32.ofNat k.val).toInt64 = Int64.ofNat k.val := by decide
theorem or_bit (w : Int64) {k : Nat} (hk : k < 64) (y : Nat) : bl (w ||| ((1 : Int64) <<< ((Int32.ofNat k).toInt64 &&& 63))) y = (bl w y || decide (y = k)) := by
  rw [bl_or, to64 ⟨k, hk⟩, bl_bit hk]
theorem roots_ok {H : Nat} {RC : Nat} {TC : Nat} {Fn : Nat} {s : S} {lv : Nat → Bool} {fd : Nat → Nat → Option Nat} {rts : List (Option Nat)} {tb : List Nat} (R : RI H RC TC Fn s lv fd rts tb) (k66 : Int32 → Int32 → Int32 → Int32 → Int32 → Int32 → List Int32 → S → Option (Int32 × S)) (q : List Int32) (v3 : Int32) (v4 : Int32) (v6 : Int32) (v7 : Int32) : ∀ d j n w, j + d = rts.length → d < n → (∀ y, bl w y = decide (some y ∈ rts.take j)) → ∃ w', law_92 k66 n (Int32.ofNat H) (Int32.ofNat Fn) v3 v4 v6 v7 (Int32.ofNat rts.length) w (Int32.ofNat j) q s = law_155 k66 (Int32.ofNat H) (Int32.ofNat Fn) v3 v4 v6 v7 (Int32.ofNat rts.length) w' q s ∧ ∀ y, bl w' y = decide (some y ∈ rts) := by
  obtain ⟨G, R0, Rf, R2, Rrt, RTb, g4, w1, w2, w3, w4, w5, w6⟩ := id R
  have h8 := G.2.2.2.2.2.1
  have r6 := G.2.2.2.2.2.2.1
  intro d
  induction d with
  | zero =>
    intro j n w hj hn hw
    obtain ⟨n, rfl⟩ : ∃ j, n = j + 1 := ⟨n - 1, by omega⟩
    have : j = rts.length := by omega
    subst this
    rw [List.take_length] at hw
    exact ⟨w, by rw [law_92, if_neg (by rw [ofNat_lt (by omega) (by omega)]; omega)], hw⟩
  | succ d ih =>
    intro j n w hj hn hw
    obtain ⟨n, rfl⟩ : ∃ j, n = j + 1 := ⟨n - 1, by omega⟩
    have hj' : j < rts.length := by omega
    have ej : rts[j]? = some rts[j] := List.getElem?_eq_getElem hj'
    have tk : rts.take (j + 1) = rts.take j ++ [rts[j]] := by rw [List.take_add_one, ej]; rfl
    rw [law_92, if_pos (by rw [ofNat_lt (by omega) (by omega)]; omega), root_ok R (by omega), Option.bind_some, show rootV rts j = pc rts[j] by unfold rootV; rw [ej], ofNat_succ]
    cases e : rts[j] with
    | none =>
      rw [show pc none = -1 from rfl, if_pos rfl]
      exact ih (j + 1) n w (by omega) (by omega) fun y => by rw [hw, tk, e]; simp
    | some x =>
      obtain ⟨hx, lx⟩ := w2 x (by rw [← e]; exact List.getElem_mem hj')
      rw [show pc (some x) = Int32.ofNat x from rfl, if_neg (enc_ne (by omega)), if_neg (ofNat_nonneg (by omega)), if_pos (by rw [ofNat_lt (by omega) (by omega)]; exact hx), isLive_ok R hx, Option.bind_some, lx, if_neg (show ¬ bI true = 0 by decide)]
      refine ih (j + 1) n _ (by omega) (by omega) fun y => ?_
      rw [or_bit w (by omega), hw, tk, e]
      by_cases z : y = x
      · simp [z]
      · simp [z]
theorem fields_ok {H : Nat} {RC : Nat} {TC : Nat} {Fn : Nat} {s : S} {lv : Nat → Bool} {fd : Nat → Nat → Option Nat} {rts : List (Option Nat)} {tb : List Nat} (R : RI H RC TC Fn s lv fd rts tb) (k66 : Int32 → Int32 → Int32 → Int32 → Int32 → Int32 → List Int32 → S → Option (Int32 × S)) (q : List Int32) (v3 : Int32) (v4 : Int32) (v6 : Int32) (v7 : Int32) (v8 : Int32) {x : Nat} (hx : x < H) (lx : lv x = true) (k158 : Int32 → Int32 → Int32 → Int32 → Int32 → Int32 → Int32 → Int64 → Int32 → List Int32 → S → Option (Int32 × S)) (w : Int64) : ∀ d f n, f + d = Fn → d < n → law_189 k66 k158 n (Int32.ofNat H) (Int32.ofNat Fn) v3 v4 v6 v7 v8 w (Int32.ofNat x) (Int32.ofNat f) q s = k158 (Int32.ofNat H) (Int32.ofNat Fn) v3 v4 v6 v7 v8 w (Int32.ofNat (x + 1)) q s := by
  obtain ⟨G, R0, Rf, R2, Rrt, RTb, g4, w1, w2, w3, w4, w5, w6⟩ := id R
  have h8 := G.2.2.2.2.2.1
  have f4 := G.2.2.2.2.2.2.2.2.2
  intro d
  induction d with
  | zero =>
    intro f n hf hn
    obtain ⟨n, rfl⟩ : ∃ j, n = j + 1 := ⟨n - 1, by omega⟩
    have : f = Fn := by omega
    subst this
    rw [law_189, if_neg (by rw [ofNat_lt (by omega) (by omega)]; omega), ofNat_succ]
  | succ d ih =>
    intro f n hf hn
    obtain ⟨n, rfl⟩ : ∃ j, n = j + 1 := ⟨n - 1, by omega⟩
    have i := ih (f + 1) n (by omega) (by omega)
    rw [law_189, if_pos (by rw [ofNat_lt (by omega) (by omega)]; omega), field_ok R hx (by omega), Option.bind_some, lx, if_pos rfl, ofNat_succ]
    cases e : fd x f with
    | none => rw [show pc none = -1 from rfl, if_pos rfl]; exact i
    | some y =>
      obtain ⟨_, _, _, hy, ly⟩ := w1 x f y e
      rw [show pc (some y) = Int32.ofNat y from rfl, if_neg (enc_ne (by omega)), if_neg (ofNat_nonneg (by omega)), if_pos (by rw [ofNat_lt (by omega) (by omega)]; exact hy), isLive_ok R hy, Option.bind_some, ly, if_neg (show ¬ bI true = 0 by decide)]
      exact i
theorem cells_ok {H : Nat} {RC : Nat} {TC : Nat} {Fn : Nat} {s : S} {lv : Nat → Bool} {fd : Nat → Nat → Option Nat} {rts : List (Option Nat)} {tb : List Nat} (R : RI H RC TC Fn s lv fd rts tb) (k66 : Int32 → Int32 → Int32 → Int32 → Int32 → Int32 → List Int32 → S → Option (Int32 × S)) (q : List Int32) (v3 : Int32) (v4 : Int32) (v6 : Int32) (v7 : Int32) (v8 : Int32) (w : Int64) : ∀ d x n, x + d = H → d < n → law_158 k66 n (Int32.ofNat H) (Int32.ofNat Fn) v3 v4 v6 v7 v8 w (Int32.ofNat x) q s = law_247 k66 (Int32.ofNat H) (Int32.ofNat Fn) v3 v4 v6 v7 v8 w q s := by
  obtain ⟨G, R0, Rf, R2, Rrt, RTb, g4, w1, w2, w3, w4, w5, w6⟩ := id R
  have h8 := G.2.2.2.2.2.1
  have f4 := G.2.2.2.2.2.2.2.2.2
  intro d
  induction d with
  | zero =>
    intro x n hx hn
    obtain ⟨n, rfl⟩ : ∃ j, n = j + 1 := ⟨n - 1, by omega⟩
    have : x = H := by omega
    subst this
    rw [law_158, if_neg (by rw [ofNat_lt (by omega) (by omega)]; omega)]
  | succ d ih =>
    intro x n hx hn
    obtain ⟨n, rfl⟩ : ∃ j, n = j + 1 := ⟨n - 1, by omega⟩
    have i := ih (x + 1) n (by omega) (by omega)
    rw [law_158, if_pos (by rw [ofNat_lt (by omega) (by omega)]; omega), isLive_ok R (by omega), Option.bind_some]
    cases e : lv x with
    | false =>
      have nt : x ∉ tb := fun z => by rw [(w5 x z).2] at e; cases e
      rw [if_pos (show bI false = 0 from rfl), inTable_ok R (by omega), Option.bind_some, show decide (x ∈ tb) = false from decide_eq_false nt, if_pos (show bI false = 0 from rfl), ofNat_succ]
      exact i
    | true =>
      rw [if_neg (show ¬ bI true = 0 by decide), show (0 : Int32) = Int32.ofNat 0 from rfl, fields_ok R k66 q v3 v4 v6 v7 v8 (by omega) e _ w Fn 0 BIG (by omega) (by unfold BIG; omega)]
      exact i
theorem cntf_ok {H : Nat} {RC : Nat} {TC : Nat} {Fn : Nat} {s : S} {lv : Nat → Bool} {fd : Nat → Nat → Option Nat} {rts : List (Option Nat)} {tb : List Nat} (R : RI H RC TC Fn s lv fd rts tb) (k66 : Int32 → Int32 → Int32 → Int32 → Int32 → Int32 → List Int32 → S → Option (Int32 × S)) (q : List Int32) (v3 : Int32) (v4 : Int32) (v6 : Int32) (v7 : Int32) (v8 : Int32) {x z : Nat} (hx : x < H) (hz : z < H) (lz : lv z = true) (k250 : Int32 → Int32 → Int32 → Int32 → Int32 → Int32 → Int32 → Int64 → Int32 → List Int32 → S → Option (Int32 × S)) (k275 : Int32 → Int32 → Int32 → Int32 → Int32 → Int32 → Int32 → Int64 → Int32 → Int32 → Int32 → List Int32 → S → Option (Int32 × S)) (w : Int64) (c : Nat) : ∀ d f n, f + d = Fn → d < n → law_297 k66 k250 k275 n (Int32.ofNat H) (Int32.ofNat Fn) v3 v4 v6 v7 v8 w (Int32.ofNat x) (Int32.ofNat (c + fc fd z x f)) (Int32.ofNat z) (Int32.ofNat f) q s = k275 (Int32.ofNat H) (Int32.ofNat Fn) v3 v4 v6 v7 v8 w (Int32.ofNat x) (Int32.ofNat (c + one fd z x)) (Int32.ofNat (z + 1)) q s := by
  obtain ⟨G, R0, Rf, R2, Rrt, RTb, g4, w1, w2, w3, w4, w5, w6⟩ := id R
  have h8 := G.2.2.2.2.2.1
  have f4 := G.2.2.2.2.2.2.2.2.2
  have wF : ∀ x f y, fd x f = some y → f < Fn := fun x f y e => (w1 x f y e).2.1
  intro d
  induction d with
  | zero =>
    intro f n hf hn
    obtain ⟨n, rfl⟩ : ∃ j, n = j + 1 := ⟨n - 1, by omega⟩
    have : f = Fn := by omega
    subst this
    have ft : one fd z x = fc fd z x f := fc_top wF z x 4 f4
    rw [law_297, if_neg (by rw [ofNat_lt (by omega) (by omega)]; omega), ofNat_succ, ft]
  | succ d ih =>
    intro f n hf hn
    obtain ⟨n, rfl⟩ : ∃ j, n = j + 1 := ⟨n - 1, by omega⟩
    rw [law_297, if_pos (by rw [ofNat_lt (by omega) (by omega)]; omega), field_ok R hz (by omega), Option.bind_some, lz, if_pos rfl, ofNat_succ, ofNat_succ, ← ih (f + 1) n (by omega) (by omega)]
    congr 1
    rw [fc]
    by_cases e : fd z f = some x
    · rw [e, show pc (some x) = Int32.ofNat x from rfl, if_pos rfl, if_pos rfl, Nat.add_assoc]
    · have ne : ¬ pc (fd z f) = Int32.ofNat x := fun h => by
        cases e2 : fd z f with
        | none => rw [e2] at h; exact absurd h.symm (enc_ne (by omega))
        | some y =>
          rw [e2] at h
          have hy := (w1 z f y e2).2.2.2.1
          have := congrArg Int32.toInt h
          rw [show pc (some y) = Int32.ofNat y from rfl, ofNat_toInt (by omega), ofNat_toInt (by omega)] at this
          exact e (by rw [e2]; congr 1; omega)
      rw [if_neg ne, if_neg e]; rfl
theorem cntz_ok {H : Nat} {RC : Nat} {TC : Nat} {Fn : Nat} {s : S} {lv : Nat → Bool} {fd : Nat → Nat → Option Nat} {rts : List (Option Nat)} {tb : List Nat} (R : RI H RC TC Fn s lv fd rts tb) (k66 : Int32 → Int32 → Int32 → Int32 → Int32 → Int32 → List Int32 → S → Option (Int32 × S)) (q : List Int32) (v3 : Int32) (v4 : Int32) (v6 : Int32) (v7 : Int32) (v8 : Int32) {x : Nat} (hx : x < H) (k250 : Int32 → Int32 → Int32 → Int32 → Int32 → Int32 → Int32 → Int64 → Int32 → List Int32 → S → Option (Int32 × S)) (w : Int64) : ∀ d z n, z + d = H → d < n → law_275 k66 k250 n (Int32.ofNat H) (Int32.ofNat Fn) v3 v4 v6 v7 v8 w (Int32.ofNat x) (Int32.ofNat (deg lv fd x z)) (Int32.ofNat z) q s = law_332 k66 k250 (Int32.ofNat H) (Int32.ofNat Fn) v3 v4 v6 v7 v8 w (Int32.ofNat x) (Int32.ofNat (deg lv fd x H)) q s := by
  obtain ⟨G, R0, Rf, R2, Rrt, RTb, g4, w1, w2, w3, w4, w5, w6⟩ := id R
  have h8 := G.2.2.2.2.2.1
  have f4 := G.2.2.2.2.2.2.2.2.2
  intro d
  induction d with
  | zero =>
    intro z n hz hn
    obtain ⟨n, rfl⟩ : ∃ j, n = j + 1 := ⟨n - 1, by omega⟩
    have : z = H := by omega
    subst this
    rw [law_275, if_neg (by rw [ofNat_lt (by omega) (by omega)]; omega)]
  | succ d ih =>
    intro z n hz hn
    obtain ⟨n, rfl⟩ : ∃ j, n = j + 1 := ⟨n - 1, by omega⟩
    have i := ih (z + 1) n (by omega) (by omega)
    rw [deg] at i
    rw [law_275, if_pos (by rw [ofNat_lt (by omega) (by omega)]; omega), isLive_ok R (by omega), Option.bind_some]
    cases e : lv z with
    | false =>
      rw [e] at i
      rw [if_pos (show bI false = 0 from rfl), ofNat_succ]
      exact i
    | true =>
      rw [e, if_pos rfl] at i
      have c := cntf_ok R k66 q v3 v4 v6 v7 v8 hx (show z < H by omega) e k250 (fun v1 v2 v3 v4 v6 v7 v8 v9 v11 v12 v13 q t0 => law_275 k66 k250 n v1 v2 v3 v4 v6 v7 v8 v9 v11 v12 v13 q t0) w (deg lv fd x z) Fn 0 BIG (by omega) (by unfold BIG; omega)
      rw [fc, Nat.add_zero, show Int32.ofNat 0 = 0 from rfl] at c
      rw [if_neg (show ¬ bI true = 0 by decide), c]
      exact i
theorem counts_ok {H : Nat} {RC : Nat} {TC : Nat} {Fn : Nat} {s : S} {lv : Nat → Bool} {fd : Nat → Nat → Option Nat} {rts : List (Option Nat)} {tb : List Nat} (R : RI H RC TC Fn s lv fd rts tb) (k66 : Int32 → Int32 → Int32 → Int32 → Int32 → Int32 → List Int32 → S → Option (Int32 × S)) (q : List Int32) (v3 : Int32) (v4 : Int32) (v6 : Int32) (v7 : Int32) (v8 : Int32) (w : Int64) : ∀ d x n, x + d = H → d < n → law_250 k66 n (Int32.ofNat H) (Int32.ofNat Fn) v3 v4 v6 v7 v8 w (Int32.ofNat x) q s = law_369 k66 (Int32.ofNat H) (Int32.ofNat Fn) v3 v4 v6 v7 v8 w q s := by
  obtain ⟨G, R0, Rf, R2, Rrt, RTb, g4, w1, w2, w3, w4, w5, w6⟩ := id R
  have h8 := G.2.2.2.2.2.1
  have f4 := G.2.2.2.2.2.2.2.2.2
  intro d
  induction d with
  | zero =>
    intro x n hx hn
    obtain ⟨n, rfl⟩ : ∃ j, n = j + 1 := ⟨n - 1, by omega⟩
    have : x = H := by omega
    subst this
    rw [law_250, if_neg (by rw [ofNat_lt (by omega) (by omega)]; omega)]
  | succ d ih =>
    intro x n hx hn
    obtain ⟨n, rfl⟩ : ∃ j, n = j + 1 := ⟨n - 1, by omega⟩
    have i := ih (x + 1) n (by omega) (by omega)
    have dl := deg_le lv fd x H
    rw [law_250, if_pos (by rw [ofNat_lt (by omega) (by omega)]; omega), isLive_ok R (by omega), Option.bind_some]
    cases e : lv x with
    | false =>
      rw [if_pos (show bI false = 0 from rfl), ofNat_succ]
      exact i
    | true =>
      have c := cntz_ok R k66 q v3 v4 v6 v7 v8 (show x < H by omega) (fun v1 v2 v3 v4 v6 v7 v8 v9 v11 q t0 => law_250 k66 n v1 v2 v3 v4 v6 v7 v8 v9 v11 q t0) w H 0 BIG (by omega) (by unfold BIG; omega)
      rw [deg, show Int32.ofNat 0 = 0 from rfl] at c
      rw [if_neg (show ¬ bI true = 0 by decide), c, law_332, count_ok R (by omega), Option.bind_some, e, if_pos rfl, if_pos rfl, ofNat_succ]
      by_cases dz : deg lv fd x H = 0
      · rw [if_pos ((nat_zero (by omega)).mpr dz), inTable_ok R (by omega), Option.bind_some, show decide (x ∈ tb) = true from decide_eq_true (w6 x (by omega) e dz), if_neg (show ¬ bI true = 0 by decide)]
        exact i
      · rw [if_neg (fun z => dz ((nat_zero (by omega)).mp z))]
        exact i
theorem cntB_lt {p r : Nat → Bool} {n : Nat} (sub : ∀ x, x < n → p x = true → r x = true) (ex : ∃ x, x < n ∧ r x = true ∧ p x = false) : cntB p n < cntB r n := by
  obtain ⟨z, hz, rz, pz⟩ := ex
  have le : ∀ n (p r : Nat → Bool), (∀ x, x < n → p x = true → r x = true) → cntB p n ≤ cntB r n := by
    intro n
    induction n with
    | zero => intro p r _; exact Nat.le_refl _
    | succ n ih =>
      intro p r h
      have i := ih p r fun x hx => h x (by omega)
      unfold cntB at i ⊢
      rw [List.range_succ, List.countP_append, List.countP_append, List.countP_cons, List.countP_cons, List.countP_nil, List.countP_nil]
      have hn := h n (by omega)
      cases e : p n with
      | false => simp; omega
      | true => rw [hn e]; simp; omega
  have u := cntB_upd p z true n hz
  rw [pz] at u
  simp at u
  have := le n (aupd p z true) r (fun x hx h => by
    unfold aupd at h
    by_cases w : x = z
    · rw [w]; exact rz
    · rw [if_neg w] at h; exact sub x hx h)
  omega
theorem wf_ok {H : Nat} {RC : Nat} {TC : Nat} {Fn : Nat} {s : S} {lv : Nat → Bool} {fd : Nat → Nat → Option Nat} {rts : List (Option Nat)} {tb : List Nat} (R : RI H RC TC Fn s lv fd rts tb) (k66 : Int32 → Int32 → Int32 → Int32 → Int32 → Int32 → List Int32 → S → Option (Int32 × S)) (k392 : Int32 → Int32 → Int32 → Int32 → Int32 → Int32 → Int64 → Int64 → Int32 → List Int32 → S → Option (Int32 × S)) (q : List Int32) (v3 : Int32) (v4 : Int32) (v7 : Int32) (v8 : Int32) (v9 : Int64) (v11 : Int64) (v13 : Int32) {x : Nat} (hx : x < H) (lx : lv x = true) (k473 : Int32 → Int32 → Int32 → Int32 → Int32 → Int32 → Int64 → Int64 → Int32 → Int64 → Int32 → List Int32 → S → Option (Int32 × S)) (k486 : Int32 → Int32 → Int32 → Int32 → Int32 → Int32 → Int64 → Int64 → Int32 → Int64 → Int32 → Int64 → Int32 → List Int32 → S → Option (Int32 × S)) (v14 : Int64) (v16 : Int32) (B : Nat → Prop) : ∀ d f n w, f + d = Fn → d < n → (∀ y, bl w y = true ↔ B y ∨ ∃ g, g < f ∧ fd x g = some y) → ∃ w', law_520 k66 k392 k473 k486 n (Int32.ofNat H) (Int32.ofNat Fn) v3 v4 v7 v8 v9 v11 v13 v14 v16 w (Int32.ofNat x) (Int32.ofNat f) q s = k486 (Int32.ofNat H) (Int32.ofNat Fn) v3 v4 v7 v8 v9 v11 v13 v14 v16 w' (Int32.ofNat (x + 1)) q s ∧ ∀ y, bl w' y = true ↔ B y ∨ ∃ g, fd x g = some y := by
  obtain ⟨G, R0, Rf, R2, Rrt, RTb, g4, w1, w2, w3, w4, w5, w6⟩ := id R
  have h8 := G.2.2.2.2.2.1
  have f4 := G.2.2.2.2.2.2.2.2.2
  intro d
  induction d with
  | zero =>
    intro f n w hf hn hw
    obtain ⟨n, rfl⟩ : ∃ j, n = j + 1 := ⟨n - 1, by omega⟩
    have : f = Fn := by omega
    subst this
    refine ⟨w, by rw [law_520, if_neg (by rw [ofNat_lt (by omega) (by omega)]; omega), ofNat_succ], fun y => ?_⟩
    rw [hw]
    exact ⟨fun h => h.imp_right fun ⟨g, _, e⟩ => ⟨g, e⟩, fun h => h.imp_right fun ⟨g, e⟩ => ⟨g, (w1 x g y e).2.1, e⟩⟩
  | succ d ih =>
    intro f n w hf hn hw
    obtain ⟨n, rfl⟩ : ∃ j, n = j + 1 := ⟨n - 1, by omega⟩
    rw [law_520, if_pos (by rw [ofNat_lt (by omega) (by omega)]; omega), field_ok R hx (by omega), Option.bind_some, lx, if_pos rfl, ofNat_succ]
    cases e : fd x f with
    | none =>
      rw [show pc none = -1 from rfl, if_pos (show (-1 : Int32) < 0 by decide)]
      refine ih (f + 1) n w (by omega) (by omega) fun y => ?_
      rw [hw]
      constructor
      · exact fun h => h.imp_right fun ⟨g, a, b⟩ => ⟨g, by omega, b⟩
      · refine fun h => h.imp_right fun ⟨g, a, b⟩ => ⟨g, ?_, b⟩
        by_cases z : g = f
        · rw [z, e] at b; cases b
        · omega
    | some z =>
      have hz := (w1 x f z e).2.2.2.1
      rw [show pc (some z) = Int32.ofNat z from rfl, if_neg (ofNat_nonneg (by omega))]
      refine ih (f + 1) n _ (by omega) (by omega) fun y => ?_
      rw [or_bit w (by omega), Bool.or_eq_true, hw, decide_eq_true_eq]
      constructor
      · rintro ((h | ⟨g, a, b⟩) | h)
        · exact Or.inl h
        · exact Or.inr ⟨g, by omega, b⟩
        · exact Or.inr ⟨f, by omega, by rw [h]; exact e⟩
      · rintro (h | ⟨g, a, b⟩)
        · exact Or.inl (Or.inl h)
        · by_cases u : g = f
          · rw [u, e] at b; cases b; exact Or.inr rfl
          · exact Or.inl (Or.inr ⟨g, by omega, b⟩)
theorem wp_ok {H : Nat} {RC : Nat} {TC : Nat} {Fn : Nat} {s : S} {lv : Nat → Bool} {fd : Nat → Nat → Option Nat} {rts : List (Option Nat)} {tb : List Nat} (R : RI H RC TC Fn s lv fd rts tb) (k66 : Int32 → Int32 → Int32 → Int32 → Int32 → Int32 → List Int32 → S → Option (Int32 × S)) (k392 : Int32 → Int32 → Int32 → Int32 → Int32 → Int32 → Int64 → Int64 → Int32 → List Int32 → S → Option (Int32 × S)) (q : List Int32) (v3 : Int32) (v4 : Int32) (v7 : Int32) (v8 : Int32) (v9 : Int64) (v11 : Int64) (v13 : Int32) (k473 : Int32 → Int32 → Int32 → Int32 → Int32 → Int32 → Int64 → Int64 → Int32 → Int64 → Int32 → List Int32 → S → Option (Int32 × S)) (v14 : Int64) (v16 : Int32) : ∀ d x n w, x + d = H → d < n → (∀ y, bl w y = true ↔ bl v14 y = true ∨ ∃ z f, z < x ∧ bl v14 z = true ∧ lv z = true ∧ fd z f = some y) → ∃ w', law_486 k66 k392 k473 n (Int32.ofNat H) (Int32.ofNat Fn) v3 v4 v7 v8 v9 v11 v13 v14 v16 w (Int32.ofNat x) q s = law_563 k66 k392 k473 (Int32.ofNat H) (Int32.ofNat Fn) v3 v4 v7 v8 v9 v11 v13 v14 v16 w' q s ∧ (∀ y, bl w' y = true ↔ bl v14 y = true ∨ ∃ z f, z < H ∧ bl v14 z = true ∧ lv z = true ∧ fd z f = some y) := by
  obtain ⟨G, R0, Rf, R2, Rrt, RTb, g4, w1, w2, w3, w4, w5, w6⟩ := id R
  have h8 := G.2.2.2.2.2.1
  have f4 := G.2.2.2.2.2.2.2.2.2
  intro d
  induction d with
  | zero =>
    intro x n w hx hn hw
    obtain ⟨n, rfl⟩ : ∃ j, n = j + 1 := ⟨n - 1, by omega⟩
    have : x = H := by omega
    subst this
    exact ⟨w, by rw [law_486, if_neg (by rw [ofNat_lt (by omega) (by omega)]; omega)], hw⟩
  | succ d ih =>
    intro x n w hx hn hw
    obtain ⟨n, rfl⟩ : ∃ j, n = j + 1 := ⟨n - 1, by omega⟩
    have lt := l_test v14 (k := x) (by omega)
    rw [law_486, if_pos (by rw [ofNat_lt (by omega) (by omega)]; omega), ofNat_succ]
    have skip : (bl v14 x = true → lv x = true → False) → ∀ y, bl w y = true ↔ bl v14 y = true ∨ ∃ z f, z < x + 1 ∧ bl v14 z = true ∧ lv z = true ∧ fd z f = some y := fun no y => by
      rw [hw]
      constructor
      · exact fun h => h.imp_right fun ⟨z, f, a, b⟩ => ⟨z, f, by omega, b⟩
      · refine fun h => h.imp_right fun ⟨z, f, a, b⟩ => ⟨z, f, ?_, b⟩
        by_cases u : z = x
        · rw [u] at b; exact (no b.1 b.2.1).elim
        · omega
    cases e : bl v14 x with
    | false =>
      rw [if_pos (lt.mpr e)]
      exact ih (x + 1) n w (by omega) (by omega) (skip fun h => by rw [e] at h; cases h)
    | true =>
      rw [if_neg (fun h => by rw [lt.mp h] at e; cases e), isLive_ok R (by omega), Option.bind_some]
      cases el : lv x with
      | false =>
        rw [if_pos (show bI false = 0 from rfl)]
        exact ih (x + 1) n w (by omega) (by omega) (skip fun _ h => by rw [el] at h; cases h)
      | true =>
        rw [if_neg (show ¬ bI true = 0 by decide)]
        obtain ⟨w', e', hw'⟩ := wf_ok R k66 k392 q v3 v4 v7 v8 v9 v11 v13 (show x < H by omega) el k473 (fun v1 v2 v3 v4 v7 v8 v9 v11 v13 v14 v16 v17 v19 q t0 => law_486 k66 k392 k473 n v1 v2 v3 v4 v7 v8 v9 v11 v13 v14 v16 v17 v19 q t0) v14 v16 (fun y => bl v14 y = true ∨ ∃ z f, z < x ∧ bl v14 z = true ∧ lv z = true ∧ fd z f = some y) Fn 0 BIG w (by omega) (by unfold BIG; omega) (fun y => by
          rw [hw]; exact ⟨Or.inl, fun h => h.elim id fun ⟨g, a, _⟩ => by omega⟩)
        rw [show Int32.ofNat 0 = 0 from rfl] at e'
        rw [e']
        refine ih (x + 1) n w' (by omega) (by omega) fun y => ?_
        rw [hw']
        constructor
        · rintro ((h | ⟨z, f, a, b⟩) | ⟨g, b⟩)
          · exact Or.inl h
          · exact Or.inr ⟨z, f, by omega, b⟩
          · exact Or.inr ⟨x, g, by omega, e, el, b⟩
        · rintro (h | ⟨z, f, a, b⟩)
          · exact Or.inl (Or.inl h)
          · by_cases u : z = x
            · rw [u] at b; exact Or.inr ⟨f, b.2.2⟩
            · exact Or.inl (Or.inr ⟨z, f, by omega, b⟩)
/-- the words close -/
theorem clo_ok {H : Nat} {RC : Nat} {TC : Nat} {Fn : Nat} {s : S} {lv : Nat → Bool} {fd : Nat → Nat → Option Nat} {rts : List (Option Nat)} {tb : List Nat} (R : RI H RC TC Fn s lv fd rts tb) (k66 : Int32 → Int32 → Int32 → Int32 → Int32 → Int32 → List Int32 → S → Option (Int32 × S)) (k392 : Int32 → Int32 → Int32 → Int32 → Int32 → Int32 → Int64 → Int64 → Int32 → List Int32 → S → Option (Int32 × S)) (q : List Int32) (v3 : Int32) (v4 : Int32) (v7 : Int32) (v8 : Int32) (v9 : Int64) (v11 : Int64) (v13 : Int32) : ∀ d k n w, k + d = H + 1 → d < n → (∀ y, bl w y = true → y < H) → k ≤ cntB (bl w) H → ∃ w', law_473 k66 k392 n (Int32.ofNat H) (Int32.ofNat Fn) v3 v4 v7 v8 v9 v11 v13 w (Int32.ofNat k) q s = law_584 k66 k392 (Int32.ofNat H) (Int32.ofNat Fn) v3 v4 v7 v8 v9 v11 v13 w' q s ∧ (∀ y, bl w y = true → bl w' y = true) ∧ (∀ x f y, bl w' x = true → lv x = true → fd x f = some y → bl w' y = true) := by
  obtain ⟨G, R0, Rf, R2, Rrt, RTb, g4, w1, w2, w3, w4, w5, w6⟩ := id R
  have h8 := G.2.2.2.2.2.1
  intro d
  induction d with
  | zero =>
    intro k n w hk hn hw hc
    have := cntB_le (bl w) H
    omega
  | succ d ih =>
    intro k n w hk hn hw hc
    obtain ⟨n, rfl⟩ : ∃ j, n = j + 1 := ⟨n - 1, by omega⟩
    rw [law_473, if_neg (by rw [ofNat_lt (by omega) (by omega)]; omega)]
    obtain ⟨w', e, hw'⟩ := wp_ok R k66 k392 q v3 v4 v7 v8 v9 v11 v13 (fun v1 v2 v3 v4 v7 v8 v9 v11 v13 v14 v16 q t0 => law_473 k66 k392 n v1 v2 v3 v4 v7 v8 v9 v11 v13 v14 v16 q t0) w (Int32.ofNat k) H 0 BIG w (by omega) (by unfold BIG; omega) (fun y => ⟨Or.inl, fun h => h.elim id fun ⟨z, f, a, _⟩ => by omega⟩)
    rw [show Int32.ofNat 0 = 0 from rfl] at e
    rw [e, law_563]
    by_cases same : w' = w
    · rw [if_pos same, law_571]
      refine ⟨w, rfl, fun y h => h, fun x f y a b c => ?_⟩
      rw [← same]
      exact (hw' y).mpr (Or.inr ⟨x, f, hw x a, a, b, c⟩)
    · rw [if_neg same, ofNat_succ]
      have up : ∀ y, bl w y = true → bl w' y = true := fun y h => (hw' y).mpr (Or.inl h)
      have lo : ∀ y, bl w' y = true → y < H := fun y h => by
        rcases (hw' y).mp h with a | ⟨z, f, _, _, _, c⟩
        · exact hw y a
        · exact (w1 z f y c).2.2.2.1
      have gr : cntB (bl w) H < cntB (bl w') H := by
        refine cntB_lt (fun x _ => up x) (Classical.byContradiction fun no => same (bl_ext fun y hy => ?_))
        cases e1 : bl w' y with
        | true =>
          cases e2 : bl w y with
          | true => rfl
          | false => exact absurd ⟨y, lo y e1, e1, e2⟩ no
        | false =>
          cases e2 : bl w y with
          | false => rfl
          | true => rw [up y e2] at e1; cases e1
      obtain ⟨w2', e2, a, b⟩ := ih (k + 1) n w' (by omega) (by omega) lo (by omega)
      exact ⟨w2', e2, fun y h => a y (up y h), b⟩
theorem first_ok {H : Nat} {RC : Nat} {TC : Nat} {Fn : Nat} {s : S} {lv : Nat → Bool} {fd : Nat → Nat → Option Nat} {rts : List (Option Nat)} {tb : List Nat} (R : RI H RC TC Fn s lv fd rts tb) (k66 : Int32 → Int32 → Int32 → Int32 → Int32 → Int32 → List Int32 → S → Option (Int32 × S)) (k392 : Int32 → Int32 → Int32 → Int32 → Int32 → Int32 → Int64 → Int64 → Int32 → List Int32 → S → Option (Int32 × S)) (q : List Int32) (v3 : Int32) (v4 : Int32) (v7 : Int32) (v8 : Int32) (v9 : Int64) (v11 : Int64) {x : Nat} (hx : x < H) (lx : lv x = true) : ∀ d f n w, f + d = Fn → d < n → (∀ y, bl w y = true ↔ ∃ g, g < f ∧ fd x g = some y) → ∃ w', law_423 k66 k392 n (Int32.ofNat H) (Int32.ofNat Fn) v3 v4 v7 v8 v9 v11 (Int32.ofNat x) w (Int32.ofNat f) q s = law_460 k66 k392 (Int32.ofNat H) (Int32.ofNat Fn) v3 v4 v7 v8 v9 v11 (Int32.ofNat x) w' q s ∧ ∀ y, bl w' y = true ↔ ∃ g, fd x g = some y := by
  obtain ⟨G, R0, Rf, R2, Rrt, RTb, g4, w1, w2, w3, w4, w5, w6⟩ := id R
  have h8 := G.2.2.2.2.2.1
  have f4 := G.2.2.2.2.2.2.2.2.2
  intro d
  induction d with
  | zero =>
    intro f n w hf hn hw
    obtain ⟨n, rfl⟩ : ∃ j, n = j + 1 := ⟨n - 1, by omega⟩
    have : f = Fn := by omega
    subst this
    refine ⟨w, by rw [law_423, if_neg (by rw [ofNat_lt (by omega) (by omega)]; omega)], fun y => ?_⟩
    rw [hw]
    exact ⟨fun ⟨g, _, e⟩ => ⟨g, e⟩, fun ⟨g, e⟩ => ⟨g, (w1 x g y e).2.1, e⟩⟩
  | succ d ih =>
    intro f n w hf hn hw
    obtain ⟨n, rfl⟩ : ∃ j, n = j + 1 := ⟨n - 1, by omega⟩
    rw [law_423, if_pos (by rw [ofNat_lt (by omega) (by omega)]; omega), field_ok R hx (by omega), Option.bind_some, lx, if_pos rfl, ofNat_succ]
    cases e : fd x f with
    | none =>
      rw [show pc none = -1 from rfl, if_pos (show (-1 : Int32) < 0 by decide)]
      refine ih (f + 1) n w (by omega) (by omega) fun y => ?_
      rw [hw]
      constructor
      · exact fun ⟨g, a, b⟩ => ⟨g, by omega, b⟩
      · refine fun ⟨g, a, b⟩ => ⟨g, ?_, b⟩
        by_cases z : g = f
        · rw [z, e] at b; cases b
        · omega
    | some z =>
      have hz := (w1 x f z e).2.2.2.1
      rw [show pc (some z) = Int32.ofNat z from rfl, if_neg (ofNat_nonneg (by omega))]
      refine ih (f + 1) n _ (by omega) (by omega) fun y => ?_
      rw [or_bit w (by omega), Bool.or_eq_true, hw, decide_eq_true_eq]
      constructor
      · rintro (⟨g, a, b⟩ | h)
        · exact ⟨g, by omega, b⟩
        · exact ⟨f, by omega, by rw [h]; exact e⟩
      · rintro ⟨g, a, b⟩
        by_cases u : g = f
        · rw [u, e] at b; cases b; exact Or.inr rfl
        · exact Or.inl ⟨g, by omega, b⟩
theorem cyc_ex {H : Nat} {B : Nat → Prop} {E : Nat → Nat → Prop} (hB : ∀ y, B y → y < H) (hp : ∀ y, B y → ∃ z, B z ∧ E z y) {x : Nat} (hx : B x) : ∃ z, B z ∧ ∀ T : Nat → Prop, (∀ y, E z y → T y) → (∀ a y, T a → E a y → T y) → T z := by
  obtain ⟨p, hp⟩ : ∃ p : Nat → Nat, ∀ y, B y → B (p y) ∧ E (p y) y := by
    refine ⟨fun y => Classical.epsilon fun z => B z ∧ E z y, fun y hy => ?_⟩
    exact Classical.epsilon_spec (hp y hy)
  obtain ⟨it, i0, is⟩ : ∃ it : Nat → Nat, it 0 = x ∧ ∀ k, it (k + 1) = p (it k) := ⟨fun k => Nat.rec x (fun _ y => p y) k, rfl, fun _ => rfl⟩
  have bi : ∀ k, B (it k) := fun k => by
    induction k with
    | zero => rw [i0]; exact hx
    | succ k ih => rw [is]; exact (hp _ ih).1
  have ei : ∀ k, E (it (k + 1)) (it k) := fun k => by rw [is]; exact (hp _ (bi k)).2
  have ph : ∃ i j, i < j ∧ it i = it j := by
    apply Classical.byContradiction
    intro no
    obtain ⟨L, hL0, hLs⟩ : ∃ L : Nat → List Nat, L 0 = [] ∧ ∀ k, L (k + 1) = it k :: L k := ⟨fun k => Nat.rec [] (fun k l => it k :: l) k, rfl, fun _ => rfl⟩
    have mem : ∀ k y, y ∈ L k → ∃ i, i < k ∧ it i = y := fun k => by
      induction k with
      | zero => intro y h; rw [hL0] at h; cases h
      | succ k ih =>
        intro y h
        rw [hLs] at h
        rcases List.mem_cons.mp h with w | w
        · exact ⟨k, by omega, w.symm⟩
        · obtain ⟨i, a, b⟩ := ih y w; exact ⟨i, by omega, b⟩
    have nd : ∀ k, (L k).Nodup ∧ (L k).length = k := fun k => by
      induction k with
      | zero => rw [hL0]; exact ⟨List.nodup_nil, rfl⟩
      | succ k ih =>
        rw [hLs]
        refine ⟨List.nodup_cons.mpr ⟨fun h => ?_, ih.1⟩, by rw [List.length_cons, ih.2]⟩
        obtain ⟨i, a, b⟩ := mem k _ h
        exact no ⟨i, k, a, b⟩
    have := nodup_len (nd (H + 1)).1 (n := H) (fun y hy => by
      obtain ⟨i, _, b⟩ := mem _ y hy
      rw [← b]; exact hB _ (bi i))
    rw [(nd (H + 1)).2] at this
    omega
  obtain ⟨i, j, hij, e⟩ := ph
  refine ⟨it j, bi j, fun T t1 t2 => ?_⟩
  have down : ∀ d, i + d + 1 ≤ j → T (it (j - 1 - d)) := fun d => by
    induction d with
    | zero =>
      intro _
      refine t1 _ ?_
      have := ei (j - 1)
      rw [show j - 1 + 1 = j by omega] at this
      exact this
    | succ d ih =>
      intro h
      have := ei (j - 1 - (d + 1))
      rw [show j - 1 - (d + 1) + 1 = j - 1 - d by omega] at this
      exact t2 _ _ (ih (by omega)) this
  have := down (j - 1 - i) (by omega)
  rw [show j - 1 - (j - 1 - i) = i by omega, e] at this
  exact this
def Cy (lv : Nat → Bool) (fd : Nat → Nat → Option Nat) (z : Nat) : Prop := ∀ T : Nat → Prop, (∀ f y, fd z f = some y → T y) → (∀ a f y, T a → lv a = true → fd a f = some y → T y) → T z
def Nz (H : Nat) (lv : Nat → Bool) (fd : Nat → Nat → Option Nat) (rts : List (Option Nat)) : Prop := ∀ x, x < H → lv x = true → some x ∉ rts → deg lv fd x H ≠ 0
theorem all_in {H Fn : Nat} {lv : Nat → Bool} {fd : Nat → Nat → Option Nat} {rts : List (Option Nat)} (nz : Nz H lv fd rts) {W : Nat → Prop} (wr : ∀ y, some y ∈ rts → W y) (wc : ∀ z, z < H → lv z = true → Cy lv fd z → W z) (cl : ∀ x f y, W x → lv x = true → fd x f = some y → W y) {x : Nat} (hx : x < H) (lx : lv x = true) : W x := by
  apply Classical.byContradiction
  intro nx
  obtain ⟨z, bz, cz⟩ := cyc_ex (H := H) (B := fun y => y < H ∧ lv y = true ∧ ¬ W y) (E := fun a y => lv a = true ∧ ∃ f, fd a f = some y) (fun y h => h.1) (fun y h => by
    have nr : some y ∉ rts := fun w => h.2.2 (wr y w)
    have d := nz y h.1 h.2.1 nr
    have : ¬ ∀ z f, z < H → lv z = true → f < 4 → fd z f ≠ some y := fun w => d ((deg_zero H).mpr w)
    obtain ⟨z, h1⟩ := Classical.not_forall.mp this
    obtain ⟨f, h1⟩ := Classical.not_forall.mp h1
    obtain ⟨hz, h1⟩ := Classical.not_imp.mp h1
    obtain ⟨lz, h1⟩ := Classical.not_imp.mp h1
    obtain ⟨_, h1⟩ := Classical.not_imp.mp h1
    have h1 := Classical.not_not.mp h1
    exact ⟨z, ⟨hz, lz, fun w => h.2.2 (cl z f y w lz h1)⟩, lz, f, h1⟩) (x := x) ⟨hx, lx, nx⟩
  exact bz.2.2 (wc z bz.1 bz.2.1 fun T t1 t2 => cz T (fun y ⟨_, f, e⟩ => t1 f y e) (fun a y ta ⟨la, f, e⟩ => t2 a f y ta la e))
theorem chk_ok {H : Nat} {RC : Nat} {TC : Nat} {Fn : Nat} {s : S} {lv : Nat → Bool} {fd : Nat → Nat → Option Nat} {rts : List (Option Nat)} {tb : List Nat} (R : RI H RC TC Fn s lv fd rts tb) (k66 : Int32 → Int32 → Int32 → Int32 → Int32 → Int32 → List Int32 → S → Option (Int32 × S)) (q : List Int32) (v3 : Int32) (v4 : Int32) (v7 : Int32) (v8 : Int32) (v9 : Int64) (k392 : Int32 → Int32 → Int32 → Int32 → Int32 → Int32 → Int64 → Int64 → Int32 → List Int32 → S → Option (Int32 × S)) (v11 : Int64) (v13 : Int32) (w : Int64) (al : ∀ x, x < H → lv x = true → bl w x = true) : ∀ d x n, x + d = H → d < n → law_617 k66 k392 n (Int32.ofNat H) (Int32.ofNat Fn) v3 v4 v7 v8 v9 v11 v13 w (Int32.ofNat x) q s = k392 (Int32.ofNat H) (Int32.ofNat Fn) v3 v4 v7 v8 v9 v11 (v13 + 1) q s := by
  have h8 := R.1.2.2.2.2.2.1
  intro d
  induction d with
  | zero =>
    intro x n hx hn
    obtain ⟨n, rfl⟩ : ∃ j, n = j + 1 := ⟨n - 1, by omega⟩
    have : x = H := by omega
    subst this
    rw [law_617, if_neg (by rw [ofNat_lt (by omega) (by omega)]; omega)]
  | succ d ih =>
    intro x n hx hn
    obtain ⟨n, rfl⟩ : ∃ j, n = j + 1 := ⟨n - 1, by omega⟩
    have i := ih (x + 1) n (by omega) (by omega)
    rw [law_617, if_pos (by rw [ofNat_lt (by omega) (by omega)]; omega), isLive_ok R (by omega), Option.bind_some, ofNat_succ]
    cases e : lv x with
    | false => rw [if_pos (show bI false = 0 from rfl)]; exact i
    | true =>
      have lt := l_test w (k := x) (by omega)
      have b := al x (by omega) e
      rw [if_neg (show ¬ bI true = 0 by decide), if_neg (fun h => by rw [lt.mp h] at b; cases b)]
      exact i
theorem cycs_ok {H : Nat} {RC : Nat} {TC : Nat} {Fn : Nat} {s : S} {lv : Nat → Bool} {fd : Nat → Nat → Option Nat} {rts : List (Option Nat)} {tb : List Nat} (R : RI H RC TC Fn s lv fd rts tb) (k66 : Int32 → Int32 → Int32 → Int32 → Int32 → Int32 → List Int32 → S → Option (Int32 × S)) (q : List Int32) (v3 : Int32) (v4 : Int32) (v7 : Int32) (v8 : Int32) (v9 : Int64) (nz : Nz H lv fd rts) (h9 : ∀ y, bl v9 y = decide (some y ∈ rts)) : ∀ d x n v11, x + d = H → d + 1 < n → (∀ y, bl v11 y = true → y < H) → (∀ z, z < x → lv z = true → Cy lv fd z → bl v11 z = true) → law_392 k66 n (Int32.ofNat H) (Int32.ofNat Fn) v3 v4 v7 v8 v9 v11 (Int32.ofNat x) q s = law_659 k66 (Int32.ofNat H) (Int32.ofNat Fn) v3 v4 v7 v8 q s := by
  obtain ⟨G, R0, Rf, R2, Rrt, RTb, g4, w1, w2, w3, w4, w5, w6⟩ := id R
  have h8 := G.2.2.2.2.2.1
  have f4 := G.2.2.2.2.2.2.2.2.2
  intro d
  induction d with
  | zero =>
    intro x n v11 hx hn lo cy
    obtain ⟨n, rfl⟩ : ∃ j, n = j + 1 := ⟨n - 1, by omega⟩
    obtain ⟨n, rfl⟩ : ∃ j, n = j + 1 := ⟨n - 1, by omega⟩
    have : x = H := by omega
    subst this
    have nlt : ¬ Int32.ofNat x < Int32.ofNat x := by rw [ofNat_lt (by omega) (by omega)]; omega
    obtain ⟨w, e, up, cl⟩ := clo_ok R k66 (fun v1 v2 v3 v4 v7 v8 v9 v11 v13 q t0 => law_392 k66 (n + 1) v1 v2 v3 v4 v7 v8 v9 v11 v13 q t0) q v3 v4 v7 v8 v9 v11 (Int32.ofNat x) (x + 1) 0 BIG (v9 ||| v11) (by omega) (by unfold BIG; omega) (fun y hy => by
      rw [bl_or, Bool.or_eq_true, h9, decide_eq_true_eq] at hy
      exact hy.elim (fun h => (w2 y h).1) (lo y)) (by omega)
    rw [show Int32.ofNat 0 = 0 from rfl] at e
    rw [law_392, if_neg nlt, if_neg nlt, law_470, e, law_584, if_neg nlt]
    have al : ∀ y, y < x → lv y = true → bl w y = true := fun y hy ly => all_in (Fn := Fn) nz (W := fun y => bl w y = true) (fun y h => up y (by rw [bl_or, h9, decide_eq_true h]; rfl)) (fun z hz lz cz => up z (by rw [bl_or, cy z hz lz cz]; simp)) cl hy ly
    have c := chk_ok R k66 q v3 v4 v7 v8 v9 (fun v1 v2 v3 v4 v7 v8 v9 v11 v13 q t0 => law_392 k66 (n + 1) v1 v2 v3 v4 v7 v8 v9 v11 v13 q t0) v11 (Int32.ofNat x) w al x 0 BIG (by omega) (by unfold BIG; omega)
    rw [show Int32.ofNat 0 = 0 from rfl] at c
    rw [c, law_392, ofNat_succ, if_pos (by rw [ofNat_lt (by omega) (by omega)]; omega)]
  | succ d ih =>
    intro x n v11 hx hn lo cy
    obtain ⟨n, rfl⟩ : ∃ j, n = j + 1 := ⟨n - 1, by omega⟩
    have xlt : Int32.ofNat x < Int32.ofNat H := by rw [ofNat_lt (by omega) (by omega)]; omega
    rw [law_392, if_neg (by rw [ofNat_lt (by omega) (by omega)]; omega), if_pos xlt, isLive_ok R (by omega), Option.bind_some]
    cases el : lv x with
    | false =>
      rw [if_pos (show bI false = 0 from rfl), ofNat_succ]
      refine ih (x + 1) n v11 (by omega) (by omega) lo fun z hz lz cz => ?_
      by_cases u : z = x
      · rw [u, el] at lz; cases lz
      · exact cy z (by omega) lz cz
    | true =>
      rw [if_neg (show ¬ bI true = 0 by decide)]
      obtain ⟨w0, e0, hw0⟩ := first_ok R k66 (fun v1 v2 v3 v4 v7 v8 v9 v11 v13 q t0 => law_392 k66 n v1 v2 v3 v4 v7 v8 v9 v11 v13 q t0) q v3 v4 v7 v8 v9 v11 (show x < H by omega) el Fn 0 BIG 0 (by omega) (by unfold BIG; omega) (fun y => by
        rw [bl_zero]; exact ⟨fun h => (by cases h), fun ⟨g, a, _⟩ => by omega⟩)
      obtain ⟨w, e, up, cl⟩ := clo_ok R k66 (fun v1 v2 v3 v4 v7 v8 v9 v11 v13 q t0 => law_392 k66 n v1 v2 v3 v4 v7 v8 v9 v11 v13 q t0) q v3 v4 v7 v8 v9 v11 (Int32.ofNat x) (H + 1) 0 BIG w0 (by omega) (by unfold BIG; omega) (fun y hy => by
        obtain ⟨g, h⟩ := (hw0 y).mp hy
        exact (w1 x g y h).2.2.2.1) (by omega)
      rw [show Int32.ofNat 0 = 0 from rfl] at e0 e
      rw [e0, law_460, law_470, e, law_584, if_pos xlt, ofNat_succ]
      have lt := l_test w (k := x) (by omega)
      by_cases b : bl w x = false
      · rw [if_pos (lt.mpr b)]
        refine ih (x + 1) n v11 (by omega) (by omega) lo fun z hz lz cz => ?_
        by_cases u : z = x
        · subst u
          have := cz (fun y => bl w y = true) (fun f y h => up y ((hw0 y).mpr ⟨f, h⟩)) (fun a f y ta la h => cl a f y ta la h)
          rw [b] at this; cases this
        · exact cy z (by omega) lz cz
      · rw [if_neg (fun h => b (lt.mp h))]
        refine ih (x + 1) n _ (by omega) (by omega) (fun y hy => ?_) fun z hz lz cz => ?_
        · rw [or_bit v11 (by omega), Bool.or_eq_true, decide_eq_true_eq] at hy
          rcases hy with h | h
          · exact lo y h
          · omega
        · rw [or_bit v11 (by omega), Bool.or_eq_true, decide_eq_true_eq]
          by_cases u : z = x
          · exact Or.inr u
          · exact Or.inl (cy z (by omega) lz cz)
theorem checks_ok {H : Nat} {RC : Nat} {TC : Nat} {Fn : Nat} {s : S} {lv : Nat → Bool} {fd : Nat → Nat → Option Nat} {rts : List (Option Nat)} {tb : List Nat} (R : RI H RC TC Fn s lv fd rts tb) (q : List Int32) (v7 : Int32) (v6 : Int32) (ht : tb.length ≤ TC) (nz : v6 = 0 ∨ Nz H lv fd rts) (n : Nat) : law_66 (n + 1) (Int32.ofNat H) (Int32.ofNat Fn) (Int32.ofNat RC) (Int32.ofNat TC) v6 v7 q s = law_659 (fun v1 v2 v3 v4 v6 v7 q t0 => law_66 n v1 v2 v3 v4 v6 v7 q t0) (Int32.ofNat H) (Int32.ofNat Fn) (Int32.ofNat RC) (Int32.ofNat TC) v7 (Int32.ofNat rts.length) q s := by
  obtain ⟨G, R0, Rf, R2, Rrt, RTb, g4, w1, w2, w3, w4, w5, w6⟩ := id R
  have h8 := G.2.2.2.2.2.1
  have r6 := G.2.2.2.2.2.2.1
  have tc : TC ≤ 64 := G.2.2.2.2.2.2.2.2.1
  have f4 := G.2.2.2.2.2.2.2.2.2
  have dp : k_depth s = Int32.ofNat rts.length := by unfold k_depth; exact Rrt.1
  rw [law_66, dp, if_neg (ofNat_nonneg (by omega)), if_neg (by rw [ofNat_lt (by omega) (by omega)]; omega)]
  obtain ⟨w, e, hw⟩ := roots_ok R (fun v1 v2 v3 v4 v6 v7 q t0 => law_66 n v1 v2 v3 v4 v6 v7 q t0) q (Int32.ofNat RC) (Int32.ofNat TC) v6 v7 rts.length 0 BIG 0 (by omega) (by unfold BIG; omega) (fun y => by rw [bl_zero]; simp)
  rw [show Int32.ofNat 0 = 0 from rfl] at e
  have c1 := cells_ok R (fun v1 v2 v3 v4 v6 v7 q t0 => law_66 n v1 v2 v3 v4 v6 v7 q t0) q (Int32.ofNat RC) (Int32.ofNat TC) v6 v7 (Int32.ofNat rts.length) w H 0 BIG (by omega) (by unfold BIG; omega)
  have c2 := counts_ok R (fun v1 v2 v3 v4 v6 v7 q t0 => law_66 n v1 v2 v3 v4 v6 v7 q t0) q (Int32.ofNat RC) (Int32.ofNat TC) v6 v7 (Int32.ofNat rts.length) w H 0 BIG (by omega) (by unfold BIG; omega)
  rw [show Int32.ofNat 0 = 0 from rfl] at c1 c2
  rw [e, law_155, c1, law_247, c2, law_369, show k_tableSize s = Int32.ofNat tb.length by unfold k_tableSize; exact RTb.1, if_neg (by rw [ofNat_lt (by omega) (by omega)]; omega)]
  by_cases z : v6 = 0
  · rw [if_pos z]
  · rw [if_neg z]
    exact cycs_ok R (fun v1 v2 v3 v4 v6 v7 q t0 => law_66 n v1 v2 v3 v4 v6 v7 q t0) q (Int32.ofNat RC) (Int32.ofNat TC) v7 (Int32.ofNat rts.length) w (nz.resolve_left z) hw H 0 BIG 0 (by omega) (by unfold BIG; omega) (fun y h => by rw [bl_zero] at h; cases h) (fun z h => by omega)
theorem and_small (x : Int32) {m : Nat} (hm : m < 2147483648) : x &&& Int32.ofNat m = Int32.ofNat (x.toBitVec.toNat &&& m) ∧ x.toBitVec.toNat &&& m ≤ m := by
  refine ⟨?_, Nat.and_le_right⟩
  apply Int32.toBitVec_inj.mp
  apply BitVec.eq_of_toNat_eq
  have h1 : x.toBitVec.toNat &&& m ≤ m := Nat.and_le_right
  rw [Int32.toBitVec_and, BitVec.toNat_and]
  show x.toBitVec.toNat &&& (BitVec.ofNat 32 m).toNat = (BitVec.ofNat 32 (x.toBitVec.toNat &&& m)).toNat
  rw [BitVec.toNat_ofNat, BitVec.toNat_ofNat, Nat.mod_eq_of_lt (by omega), Nat.mod_eq_of_lt (by omega)]
theorem cell_ok (q : List Int32) (hq : q.length ≤ 260) {k : Nat} (hk : k ≤ 1000) : ∃ x, h_cell (Int32.ofNat k) q = some x := by
  unfold h_cell
  rw [show q.length.toInt32 = Int32.ofNat q.length from rfl]
  by_cases h : k < q.length
  · rw [if_pos (by rw [ofNat_lt (by omega) (by omega)]; exact h)]
    obtain ⟨x, e⟩ := ix_some q (k := k) (by omega) h
    exact ⟨x, by rw [e]; rfl⟩
  · rw [if_neg (by rw [ofNat_lt (by omega) (by omega)]; exact h)]
    exact ⟨0, rfl⟩
theorem ne_zero {k : Nat} (h : k < 1000) : ¬ Int32.ofNat (k + 1) = 0 := fun e => by
  have := (nat_zero (n := k + 1) (by omega)).mp e
  omega
def JN (H RC TC Fn : Nat) (s : S) (v6 : Int32) : Prop := ∃ lv fd rts tb, RI H RC TC Fn s lv fd rts tb ∧ tb.length ≤ TC ∧ (v6 = 0 ∨ Nz H lv fd rts)
theorem J.n {H RC TC Fn : Nat} {s : S} (h : J H RC TC Fn s) : JN H RC TC Fn s 0 := by
  obtain ⟨lv, fd, rts, tb, R, ht⟩ := h
  exact ⟨lv, fd, rts, tb, R, ht, Or.inl rfl⟩
theorem rec_N {H RC TC Fn : Nat} {s : S} (h : J H RC TC Fn s) : ∃ k s', k_reconcile s = some (k, s') ∧ JN H RC TC Fn s' 1 := by
  obtain ⟨lv, fd, rts, tb, R, ht⟩ := id h
  obtain ⟨s', P, b, e, R', _, zr, _, _, _, _, o4, _⟩ := reconcile_ok R
  have := R'.1.2.2.2.2.2.2
  exact ⟨_, s', by unfold k_reconcile; rw [e, Option.bind_some], _, _, _, _, R', by omega, Or.inr o4⟩
theorem run_ok {H RC TC Fn : Nat} (q : List Int32) (hq : q.length ≤ 260) : ∀ d k n s v6, q.length ≤ k + d → k ≤ 300 → d < n → JN H RC TC Fn s v6 → ∃ t, law_66 n (Int32.ofNat H) (Int32.ofNat Fn) (Int32.ofNat RC) (Int32.ofNat TC) v6 (Int32.ofNat k) q s = some (1, t) := by
  intro d
  induction d with
  | zero =>
    intro k n s v6 hk hk' hn ⟨lv, fd, rts, tb, R, ht, nz⟩
    obtain ⟨n, rfl⟩ : ∃ j, n = j + 1 := ⟨n - 1, by omega⟩
    rw [checks_ok R q (Int32.ofNat k) v6 ht nz n, law_659, show q.length.toInt32 = Int32.ofNat q.length from rfl, if_neg (by rw [ofNat_lt (by omega) (by omega)]; omega)]
    exact ⟨s, rfl⟩
  | succ d ih =>
    intro k n s v6 hk hk' hn ⟨lv, fd, rts, tb, R, ht, nz⟩
    obtain ⟨n, rfl⟩ : ∃ j, n = j + 1 := ⟨n - 1, by omega⟩
    rw [checks_ok R q (Int32.ofNat k) v6 ht nz n, law_659, show q.length.toInt32 = Int32.ofNat q.length from rfl]
    by_cases c : k < q.length
    · have r6 := R.1.2.2.2.2.2.2.1
      have f4 := R.1.2.2.2.2.2.2.2.2.2
      have w3 : rts.length ≤ RC := R.2.2.2.2.2.2.2.2.2.1
      have J0 : J H RC TC Fn s := ⟨lv, fd, rts, tb, R, ht⟩
      obtain ⟨a, ea⟩ := ix_some q (k := k) (by omega) c
      obtain ⟨b, eb⟩ := cell_ok q hq (k := k + 1) (by omega)
      obtain ⟨e, ee⟩ := cell_ok q hq (k := k + 2) (by omega)
      rw [if_pos (by rw [ofNat_lt (by omega) (by omega)]; exact c), ea, Option.bind_some, ofNat_succ, eb, Option.bind_some, ofNat_lit, ee, Option.bind_some, ofNat_lit, if_neg (ne_zero (k := rts.length + 1) (by omega)), ofNat_succ, if_neg (ne_zero (k := Fn) (by omega)), if_neg (ne_zero (k := rts.length + 1) (by omega)), ofNat_lit]
      have go : ∀ t v6', JN H RC TC Fn t v6' → ∃ u, law_66 n (Int32.ofNat H) (Int32.ofNat Fn) (Int32.ofNat RC) (Int32.ofNat TC) v6' (Int32.ofNat (k + 3)) q t = some (1, u) := fun t v6' h => by
        exact ih (k + 3) n t v6' (by omega) (by omega) (by omega) h
      obtain ⟨_, u0, p0, r0⟩ := alloc_J J0
      obtain ⟨_, u1, p1, r1⟩ := load_J J0 (((b &&& 31) % Int32.ofNat (rts.length + 2)) - 1) ((e &&& 7) % Int32.ofNat (Fn + 1))
      obtain ⟨_, u2, p2, r2⟩ := store_J J0 (((b &&& 31) % Int32.ofNat (rts.length + 2)) - 1) ((e &&& 7) % Int32.ofNat (Fn + 1)) ((((XT.ushr e 3) &&& 31) % Int32.ofNat (rts.length + 2)) - 1)
      obtain ⟨_, u3, p3, r3⟩ := push_J J0 (((b &&& 31) % Int32.ofNat (rts.length + 2)) - 1)
      obtain ⟨_, u4, p4, r4⟩ := pop_J J0
      obtain ⟨_, u5, p5, r5⟩ := rec_N J0
      unfold law_786
      rw [p0, p1, p2, p3, p4, p5]
      simp only [Option.bind_some]
      rw [ofNat_lit]
      by_cases c0 : (a &&& 7) = 0
      · rw [if_pos c0]; exact go _ _ r0.n
      rw [if_neg c0]
      by_cases c1 : (a &&& 7) = 1
      · rw [if_pos c1]; exact go _ _ r1.n
      rw [if_neg c1]
      by_cases c2 : (a &&& 7) = 2
      · rw [if_pos c2]; exact go _ _ r2.n
      rw [if_neg c2]
      by_cases c3 : (a &&& 7) = 3
      · rw [if_pos c3]; exact go _ _ r2.n
      rw [if_neg c3]
      by_cases c4 : (a &&& 7) = 4
      · rw [if_pos c4]; exact go _ _ r3.n
      rw [if_neg c4]
      by_cases c6 : (a &&& 7) = 6
      · rw [if_pos c6]; exact go _ _ r5
      rw [if_neg c6]
      exact go _ _ r4.n
    · rw [if_neg (by rw [ofNat_lt (by omega) (by omega)]; exact c)]
      exact ⟨s, rfl⟩
theorem clamp_mid {v lo hi : Nat} (h1 : lo ≤ v) (h2 : v ≤ hi) (h3 : hi ≤ 1000) : k_clamp (Int32.ofNat v) (Int32.ofNat lo) (Int32.ofNat hi) = Int32.ofNat v := by
  unfold k_clamp
  rw [if_neg (by rw [ofNat_lt (by omega) (by omega)]; omega), if_neg (by rw [ofNat_lt (by omega) (by omega)]; omega)]
theorem law_true (q : List Int32) (hq : q.length ≤ 260) : ∃ s, law q = some (1, s) := by
  unfold law
  obtain ⟨a, ea⟩ := cell_ok q hq (k := 0) (by omega)
  obtain ⟨b, eb⟩ := cell_ok q hq (k := 1) (by omega)
  obtain ⟨c, ec⟩ := cell_ok q hq (k := 2) (by omega)
  obtain ⟨d, ed⟩ := cell_ok q hq (k := 3) (by omega)
  rw [show h_cell 0 q = _ from ea, Option.bind_some, show h_cell 1 q = _ from eb, Option.bind_some, show h_cell 2 q = _ from ec, Option.bind_some, show h_cell 3 q = _ from ed, Option.bind_some]
  obtain ⟨a1, a2⟩ := and_small a (m := 15) (by omega)
  obtain ⟨b1, b2⟩ := and_small b (m := 3) (by omega)
  obtain ⟨c1, c2⟩ := and_small c (m := 15) (by omega)
  obtain ⟨d1, d2⟩ := and_small d (m := 7) (by omega)
  generalize a.toBitVec.toNat &&& 15 = H0 at a1 a2
  generalize b.toBitVec.toNat &&& 3 = F0 at b1 b2
  generalize c.toBitVec.toNat &&& 15 = R0 at c1 c2
  generalize d.toBitVec.toNat &&& 7 = T0 at d1 d2
  have e1 : (4 : Int32) + (a &&& 15) = Int32.ofNat (4 + H0) := by rw [show a &&& 15 = _ from a1]; exact ofNat_add' 4 H0
  have e2 : (1 : Int32) + (b &&& 3) = Int32.ofNat (1 + F0) := by rw [show b &&& 3 = _ from b1]; exact ofNat_add' 1 F0
  have e3 : (1 : Int32) + (c &&& 15) = Int32.ofNat (1 + R0) := by rw [show c &&& 15 = _ from c1]; exact ofNat_add' 1 R0
  have e4 : Int32.ofNat (1 + R0) + 1 + (d &&& 7) = Int32.ofNat (1 + R0 + 1 + T0) := by rw [show d &&& 7 = _ from d1, ofNat_succ]; exact ofNat_add' _ _
  rw [e1, e2, e3, e4]
  obtain ⟨s, e, R, _⟩ := init_RI (v1 := Int32.ofNat (4 + H0)) (v2 := Int32.ofNat (1 + F0)) (v3 := Int32.ofNat (1 + R0)) (v4 := Int32.ofNat (1 + R0 + 1 + T0)) (H := 4 + H0) (RC := 1 + R0) (TC := 1 + R0 + 1 + T0) (Fn := 1 + F0) (by omega) (by omega) (by omega) (by omega) (by omega) (clamp_mid (lo := 4) (hi := 64) (by omega) (by omega) (by omega)) (clamp_mid (lo := 1) (hi := 4) (by omega) (by omega) (by omega)) (clamp_mid (lo := 1) (hi := 16) (by omega) (by omega) (by omega)) (by rw [ofNat_succ]; exact clamp_mid (hi := 64) (by omega) (by omega) (by omega))
  rw [e, Option.bind_some]
  exact run_ok q hq 300 4 BIG s 0 (by omega) (by omega) (by unfold BIG; omega) ⟨_, _, _, _, R, by simp, Or.inl rfl⟩
set_option maxRecDepth 65536 in
set_option maxHeartbeats 40000000 in
theorem comes_1 {Post : Tables → Env → Array Value → State → Outcome → State → Prop} (hpost : ∀ tb e args s v u, (limb_1_1.after args s (.returned v) u = true ∧ limb_1_2.after args s (.returned v) u = true ∧ True) → FrameEnd s (.returned v) u (Jvm.fieldLocs frame_1_writes args s ++ Jvm.arrayLocs frame_1_arrays args s ++ Jvm.staticLocs frame_1_statics s) 32 1856 → Post tb e args s (.returned v) u) :
    ArmFor flags0 classFile x code maxLocals ret World_1 tables_1 room_1 Calls_1 rest_1 Pre_1 Post := by
  intro l hfl _ _ p e ha hc hk s m args below hf hA hF happ hP
  obtain ⟨hcalls, hrest, hpre⟩ := hP
  obtain ⟨-, -, -, hnamed, -, -, -, hat⟩ := (Spec.applies_iff hf).mp happ
  obtain ⟨hg, hn⟩ := and_e (Cond.before_iff.mp (show (Jvm.Cond.and given_1 narrow_1).before args s = true from hpre))
  obtain ⟨g0, b0⟩ := and_e hg
  have a0 := b0
  obtain ⟨w0, rfl⟩ : ∃ w0 : Value, args = #[w0] := by
    have hs : args.size = 1 := by simpa [Cond.value, given_1] using g0
    obtain ⟨L⟩ := args
    match L, hs with
    | [w0], _ => exact ⟨w0, rfl⟩
  have hw := fun d (hd : d ∈ tables_1) => atoms_spec (ws := Jvm.Cond.code x code maxLocals ret :: tables_1) hat d (List.mem_cons_of_mem _ hd)
  have hfit : Fit s := fun {y c} hc i hi => by
    obtain ⟨ha, rfl⟩ := Array.getElem?_eq_some_iff.mp hc
    have q := List.all_eq_true.mp ((Array.all_eq_true_iff_forall_mem.mp hF) _ (Array.getElem_mem ha)) i (List.mem_range.mpr hi)
    simpa [Array.getElem?_eq_getElem hi] using q
  obtain ⟨q1, q2⟩ := and_e hn
  obtain ⟨al, q, ei, A, hal, hlen⟩ := script_of hfit q1 q2
  obtain rfl : w0 = (.ref al) := Option.some.inj ei
  have hlen' : q.length ≤ 260 := by
    have e260 : (260 : Int32).toInt = 260 := rfl
    omega
  obtain ⟨t, ht⟩ := law_true q hlen'
  have C : Call PP m62 [.ref 0] (some q, []) (some (.int ((1 : Int32), t).1), (some q, [(11, ((1 : Int32), t).2)])) := call_of_go pl_1 rfl (fun h => by cases h) (law_ok q _ ht)
  obtain ⟨n, o, h1, h2, h3, _, L, rfl, ⟨rfl, N, _⟩, hq⟩ := C l s _ tables_1 al s.heap.size s.heap.size s.heap hw (facts1 hw) (Nat.le_refl _) (repW_some A hal) (Nat.zero_le _) (fun _ => ⟨rfl, rfl, rfl⟩) p e ha hc hk s m _ below hf ((Spec.applies_iff_loose hf).mp happ).1 ⟨rfl, State.Warmed39.refl s, rfl⟩ trivial
  refine ⟨n, _, h1, h2, h3, hpost _ _ _ _ _ _ ⟨Cond.after_iff.mpr rfl, Cond.after_iff.mpr (eq_i res_at (Term.int_eval (1)) rfl), trivial⟩ ⟨hq.1, hq.2.1, (hq.2.2.sift fun y hy => Or.inr (N y hy)).mono (by decide) (by decide)⟩⟩
theorem main_1_1 : Claimed_1_1 := comes_1 fun _ _ _ _ _ _ h hF => ⟨h.1, hF⟩
theorem main_1_2 : Claimed_1_2 := comes_1 fun _ _ _ _ _ _ h hF => ⟨h.2.1, hF⟩
end Jvm.Pilot.@@N@@
namespace Jvm.Pilot.@@N@@
open Jvm Jvm.ClassFile Sem Op Lib Jvm.Free Jvm.Stand Jvm.Pilot.@@N@@.Jvm.D
/-! MADE BY PROGRAM (witnessworld.py) out of the Statement's table words and the real class files: 11 classes; the members and pool entries that the words name. The judged class is class 1, her method 2. -/
namespace start1
open Jvm.ClassFile
def u (s : String) : CpInfo := .utf8 (stringToUtf16 s)
/-- a pool by its gaps: so many unusable entries, then the entry; so many at the end -/
def gap : Nat → List CpInfo → List CpInfo
  | 0, r => r
  | n + 1, r => .unusable :: gap n r
def poolList (es : List (Nat × CpInfo)) (last : Nat) : List CpInfo := es.foldr (fun e r => gap e.1 (e.2 :: r)) (gap last [])
def pool (es : List (Nat × CpInfo)) (last : Nat) : Array CpInfo := ⟨poolList es last⟩
def fileOf (pool : Array CpInfo) (this : Nat) (attrs : Array Attribute := #[]) (ms : Array MethodInfo := #[]) (fl : Nat := 33) (sup : Nat := 0) (ifs : Array Nat := #[]) (fds : Array FieldInfo := #[]) : ClassFile where
  minorVersion := 0
  majorVersion := 65
  constantPool := pool
  accessFlags := fl
  thisClass := this
  superClass := sup
  interfaces := ifs
  fields := fds
  methods := ms
  attributes := attrs
def plain (name : String) (sup : Option ClassId) : Class where
  name := name
  kind := .ordinary
  loader := none
  accessFlags := 33
  super := sup
  interfaces := #[]
  cf := none
  fields := #[]
  methods := #[]
  instanceTypes := #[]
  staticTypes := #[]
  resolved := #[]
  callSites := []
  init := .initialized
  statics := none
  mirror := none

def pool0 : Array CpInfo := pool [(5, u "<init>"), (0, u "()V"), (1, .class_ 10), (1, u "java/lang/Object")] 113

def k0c0 : Code := { maxStack := 0, maxLocals := 1, code := object_method_1_code, exceptionTable := #[], attributes := #[] }
def k0m0 : Method := { name := "<init>", desc := "()V", sig := { parameters := [], returnType := none }, accessFlags := 1, code := some k0c0 }
/-- java/lang/Object -/
def k0 : Class := { plain "java/lang/Object" none with
  accessFlags := 33
  interfaces := #[]
  cf := some (fileOf pool0 8 #[] #[{ accessFlags := 1, nameIndex := 5, descriptorIndex := 6, attributes := #[] }] 33 0 #[] #[])
  fields := #[]
  methods := #[k0m0]
  instanceTypes := #[]
  staticTypes := #[]
  resolved := Array.replicate 124 none
  statics := none }

def pool1 : Array CpInfo := pool [(2, .class_ 4), (1, u "java/lang/Object"), (0, u "<init>"), (0, u "()V"), (0, .methodref 8 9), (0, .class_ 10), (0, .nameAndType 11 12), (0, u "DeferredCountYOwnLaw"), (0, u "cell"), (0, u "([II)I"), (0, .class_ 14), (0, u "DeferredCountY"), (0, .methodref 13 16), (0, .nameAndType 5 17), (0, u "(IIII)V"), (0, .methodref 13 19), (0, .nameAndType 20 21), (0, u "depth"), (0, u "()I"), (0, .methodref 13 23), (0, .nameAndType 24 25), (0, u "root"), (0, u "(I)I"), (0, .methodref 13 27), (0, .nameAndType 28 29), (0, u "isLive"), (0, u "(I)Z"), (0, .methodref 13 31), (0, .nameAndType 32 29), (0, u "inTable"), (0, .methodref 13 34), (0, .nameAndType 35 36), (0, u "field"), (0, u "(II)I"), (0, .methodref 13 38), (0, .nameAndType 39 25), (0, u "count"), (0, .methodref 13 41), (0, .nameAndType 42 21), (0, u "tableSize"), (0, .methodref 13 44), (0, .nameAndType 45 21), (0, u "alloc"), (0, .methodref 13 47), (0, .nameAndType 48 36), (0, u "load"), (0, .methodref 13 50), (0, .nameAndType 51 52), (0, u "store"), (0, u "(III)I"), (0, .methodref 13 54), (0, .nameAndType 55 25), (0, u "push"), (0, .methodref 13 57), (0, .nameAndType 58 21), (0, u "reconcile"), (0, .methodref 13 60), (0, .nameAndType 61 21), (0, u "pop"), (3, u "law"), (0, u "([I)Z")] 4

def k1m0 : Method := { name := "<init>", desc := "()V", sig := { parameters := [], returnType := none }, accessFlags := 1, code := none }
def k1c1 : Code := { maxStack := 2, maxLocals := 2, code := method_2_code, exceptionTable := #[], attributes := #[] }
def k1m1 : Method := { name := "cell", desc := "([II)I", sig := { parameters := [(.array .int), .int], returnType := some .int }, accessFlags := 10, code := some k1c1 }
def k1c2 : Code := { maxStack := 6, maxLocals := 22, code := code, exceptionTable := #[], attributes := #[] }
def k1m2 : Method := { name := "law", desc := "([I)Z", sig := { parameters := [(.array .int)], returnType := some .boolean }, accessFlags := 9, code := some k1c2 }
/-- DeferredCountYOwnLaw -/
def k1 : Class := { plain "DeferredCountYOwnLaw" (some 0) with
  accessFlags := 49
  interfaces := #[]
  cf := some (fileOf pool1 8 #[] #[{ accessFlags := 1, nameIndex := 5, descriptorIndex := 6, attributes := #[] }, { accessFlags := 10, nameIndex := 11, descriptorIndex := 12, attributes := #[] }, { accessFlags := 9, nameIndex := 65, descriptorIndex := 66, attributes := #[] }] 49 2 #[] #[])
  fields := #[]
  methods := #[k1m0, k1m1, k1m2]
  instanceTypes := #[]
  staticTypes := #[]
  resolved := Array.replicate 71 none
  statics := none }

def pool2 : Array CpInfo := pool [(1, .methodref 2 3), (0, .class_ 4), (0, .nameAndType 5 6), (0, u "java/lang/Object"), (0, u "<init>"), (0, u "()V"), (0, .fieldref 8 9), (0, .class_ 10), (0, .nameAndType 11 12), (0, u "DeferredCountY"), (0, u "live"), (0, u "[Z"), (0, .fieldref 8 14), (0, .nameAndType 15 16), (0, u "cellFields"), (0, u "[I"), (0, .fieldref 8 18), (0, .nameAndType 19 16), (0, u "refs"), (0, .fieldref 8 21), (0, .nameAndType 22 16), (0, u "rootStack"), (0, .fieldref 8 24), (0, .nameAndType 25 16), (0, u "tableIds"), (0, .fieldref 8 27), (0, .nameAndType 28 16), (0, u "tablePos"), (0, .fieldref 8 30), (0, .nameAndType 31 12), (0, u "survivor"), (0, .fieldref 8 33), (0, .nameAndType 34 12), (0, u "rootHeld"), (0, .fieldref 8 36), (0, .nameAndType 37 12), (0, u "queued"), (0, .fieldref 8 39), (0, .nameAndType 40 16), (0, u "holders"), (0, .fieldref 8 42), (0, .nameAndType 43 16), (0, u "work"), (0, .methodref 8 45), (0, .nameAndType 46 47), (0, u "clamp"), (0, u "(III)I"), (0, .fieldref 8 49), (0, .nameAndType 50 51), (0, u "heapCells"), (0, u "I"), (0, .fieldref 8 53), (0, .nameAndType 54 51), (0, u "fieldsPer"), (0, .fieldref 8 56), (0, .nameAndType 57 51), (0, u "rootCap"), (0, .fieldref 8 59), (0, .nameAndType 60 51), (0, u "tableCap"), (0, .methodref 8 62), (0, .nameAndType 63 6), (0, u "resetHeap"), (0, .methodref 8 65), (0, .nameAndType 66 6), (0, u "resetRoots"), (0, .methodref 8 68), (0, .nameAndType 69 6), (0, u "resetTable"), (0, .methodref 8 71), (0, .nameAndType 72 6), (0, u "resetScratch"), (0, .fieldref 8 74), (0, .nameAndType 75 51), (0, u "runs"), (0, .methodref 8 77), (0, .nameAndType 78 79), (0, u "rootsFull"), (0, u "()Z"), (0, .methodref 8 81), (0, .nameAndType 82 79), (0, u "allocNeedsReconcile"), (0, .methodref 8 84), (0, .nameAndType 85 86), (0, u "runReconciliation"), (0, u "()I"), (0, .methodref 8 88), (0, .nameAndType 89 86), (0, u "lowestFreeCell"), (0, .methodref 8 91), (0, .nameAndType 92 93), (0, u "placeNewObject"), (0, u "(I)V"), (0, .methodref 8 95), (0, .nameAndType 96 97), (0, u "loadCheck"), (0, u "(II)I"), (0, .methodref 8 99), (0, .nameAndType 100 97), (0, u "readField"), (0, .methodref 8 102), (0, .nameAndType 103 93), (0, u "rootPush"), (0, .methodref 8 105), (0, .nameAndType 106 47), (0, u "storeCheck"), (0, .methodref 8 108), (0, .nameAndType 109 110), (0, u "valueOfSlot"), (0, u "(I)I"), (0, .methodref 8 112), (0, .nameAndType 113 114), (0, u "storeNeedsReconcile"), (0, u "(II)Z"), (0, .methodref 8 116), (0, .nameAndType 117 118), (0, u "assignField"), (0, u "(III)V"), (0, .methodref 8 120), (0, .nameAndType 121 93), (0, u "noteZeroCount"), (0, .methodref 8 123), (0, .nameAndType 124 110), (0, u "pushCheck"), (0, .fieldref 8 126), (0, .nameAndType 127 51), (0, u "rootDepth"), (0, .methodref 8 129), (0, .nameAndType 130 6), (0, u "rootPopTop"), (0, .methodref 8 132), (0, .nameAndType 133 134), (0, u "isRootSlot"), (0, u "(I)Z"), (0, .methodref 8 136), (0, .nameAndType 137 134), (0, u "isLiveId"), (0, .methodref 8 139), (0, .nameAndType 140 134), (0, u "isFieldNo"), (0, .methodref 8 142), (0, .nameAndType 143 134), (0, u "tableHas"), (0, .fieldref 8 145), (0, .nameAndType 146 51), (0, u "tableLen"), (0, .fieldref 8 148), (0, .nameAndType 149 51), (0, u "liveTotal"), (0, .methodref 8 151), (0, .nameAndType 152 134), (0, u "isValueSlot"), (0, .methodref 8 154), (0, .nameAndType 155 79), (0, u "hasFreeCell"), (0, .methodref 8 157), (0, .nameAndType 158 79), (0, u "tableIsFull"), (0, .methodref 8 160), (0, .nameAndType 161 93), (0, u "bringToLife"), (0, .methodref 8 163), (0, .nameAndType 164 134), (0, u "tableInsert"), (0, .methodref 8 166), (0, .nameAndType 167 134), (0, u "isObjectId"), (0, .methodref 8 169), (0, .nameAndType 170 93), (0, u "refDec"), (0, .methodref 8 172), (0, .nameAndType 173 93), (0, u "refInc"), (0, .methodref 8 175), (0, .nameAndType 176 118), (0, u "writeFieldRaw"), (0, .methodref 8 178), (0, .nameAndType 179 6), (0, u "markRootHeld"), (0, .methodref 8 181), (0, .nameAndType 182 6), (0, u "countHolders"), (0, .methodref 8 184), (0, .nameAndType 185 6), (0, u "seedWork"), (0, .methodref 8 187), (0, .nameAndType 188 6), (0, u "cascade"), (0, .methodref 8 190), (0, .nameAndType 191 86), (0, u "sweep"), (0, .methodref 8 193), (0, .nameAndType 194 6), (0, u "recountRefs"), (0, .methodref 8 196), (0, .nameAndType 197 6), (0, u "rebuildTable"), (0, .methodref 8 199), (0, .nameAndType 200 93), (0, u "addHoldersOf"), (0, .fieldref 8 202), (0, .nameAndType 203 51), (0, u "workTop"), (0, .methodref 8 205), (0, .nameAndType 206 134), (0, u "eligible"), (0, .methodref 8 208), (0, .nameAndType 209 93), (0, u "enqueue"), (0, .methodref 8 211), (0, .nameAndType 212 93), (0, u "dropHoldersOf"), (0, .methodref 8 214), (0, .nameAndType 215 93), (0, u "releaseCell"), (0, .methodref 8 217), (0, .nameAndType 218 93), (0, u "countOutgoing"), (0, .methodref 8 220), (0, .nameAndType 221 93), (0, u "clearCellFields"), (0, u "NIL"), (2, u "OK"), (1, u "ROOTS_FULL"), (1, u "ROOTS_EMPTY"), (1, u "HEAP_FULL"), (1, u "BAD_SLOT"), (1, u "BAD_FIELD"), (1, u "NULL_REF"), (1, u "BAD_OBJECT"), (1, u "MAX_HEAP"), (1, u "MAX_FIELDS"), (1, u "MAX_ROOTS"), (1, u "MAX_TABLE"), (0, u "(IIII)V"), (2, u "alloc"), (1, u "load"), (0, u "store"), (0, u "push"), (0, u "pop"), (0, u "reconcile"), (0, u "depth"), (0, u "root"), (0, u "isLive"), (0, u "field"), (0, u "count"), (0, u "inTable"), (0, u "tableSize")] 5

def k2c0 : Code := { maxStack := 4, maxLocals := 6, code := prog_1_method_1_code, exceptionTable := #[], attributes := #[] }
def k2m0 : Method := { name := "<init>", desc := "(IIII)V", sig := { parameters := [.int, .int, .int, .int], returnType := none }, accessFlags := 1, code := some k2c0 }
def k2c1 : Code := { maxStack := 2, maxLocals := 2, code := prog_1_method_2_code, exceptionTable := #[], attributes := #[] }
def k2m1 : Method := { name := "alloc", desc := "()I", sig := { parameters := [], returnType := some .int }, accessFlags := 1, code := some k2c1 }
def k2c2 : Code := { maxStack := 3, maxLocals := 6, code := prog_1_method_3_code, exceptionTable := #[], attributes := #[] }
def k2m2 : Method := { name := "load", desc := "(II)I", sig := { parameters := [.int, .int], returnType := some .int }, accessFlags := 1, code := some k2c2 }
def k2c3 : Code := { maxStack := 4, maxLocals := 8, code := prog_1_method_4_code, exceptionTable := #[], attributes := #[] }
def k2m3 : Method := { name := "store", desc := "(III)I", sig := { parameters := [.int, .int, .int], returnType := some .int }, accessFlags := 1, code := some k2c3 }
def k2c4 : Code := { maxStack := 2, maxLocals := 4, code := prog_1_method_5_code, exceptionTable := #[], attributes := #[] }
def k2m4 : Method := { name := "push", desc := "(I)I", sig := { parameters := [.int], returnType := some .int }, accessFlags := 1, code := some k2c4 }
def k2c5 : Code := { maxStack := 1, maxLocals := 1, code := prog_1_method_6_code, exceptionTable := #[], attributes := #[] }
def k2m5 : Method := { name := "pop", desc := "()I", sig := { parameters := [], returnType := some .int }, accessFlags := 1, code := some k2c5 }
def k2c6 : Code := { maxStack := 1, maxLocals := 1, code := prog_1_method_7_code, exceptionTable := #[], attributes := #[] }
def k2m6 : Method := { name := "reconcile", desc := "()I", sig := { parameters := [], returnType := some .int }, accessFlags := 1, code := some k2c6 }
def k2c7 : Code := { maxStack := 1, maxLocals := 1, code := prog_1_method_8_code, exceptionTable := #[], attributes := #[] }
def k2m7 : Method := { name := "depth", desc := "()I", sig := { parameters := [], returnType := some .int }, accessFlags := 1, code := some k2c7 }
def k2c8 : Code := { maxStack := 2, maxLocals := 2, code := prog_1_method_9_code, exceptionTable := #[], attributes := #[] }
def k2m8 : Method := { name := "root", desc := "(I)I", sig := { parameters := [.int], returnType := some .int }, accessFlags := 1, code := some k2c8 }
def k2c9 : Code := { maxStack := 2, maxLocals := 2, code := prog_1_method_10_code, exceptionTable := #[], attributes := #[] }
def k2m9 : Method := { name := "isLive", desc := "(I)Z", sig := { parameters := [.int], returnType := some .boolean }, accessFlags := 1, code := some k2c9 }
def k2c10 : Code := { maxStack := 3, maxLocals := 3, code := prog_1_method_11_code, exceptionTable := #[], attributes := #[] }
def k2m10 : Method := { name := "field", desc := "(II)I", sig := { parameters := [.int, .int], returnType := some .int }, accessFlags := 1, code := some k2c10 }
def k2c11 : Code := { maxStack := 2, maxLocals := 2, code := prog_1_method_12_code, exceptionTable := #[], attributes := #[] }
def k2m11 : Method := { name := "count", desc := "(I)I", sig := { parameters := [.int], returnType := some .int }, accessFlags := 1, code := some k2c11 }
def k2c12 : Code := { maxStack := 2, maxLocals := 2, code := prog_1_method_13_code, exceptionTable := #[], attributes := #[] }
def k2m12 : Method := { name := "inTable", desc := "(I)Z", sig := { parameters := [.int], returnType := some .boolean }, accessFlags := 1, code := some k2c12 }
def k2c13 : Code := { maxStack := 1, maxLocals := 1, code := prog_1_method_14_code, exceptionTable := #[], attributes := #[] }
def k2m13 : Method := { name := "tableSize", desc := "()I", sig := { parameters := [], returnType := some .int }, accessFlags := 1, code := some k2c13 }
def k2c14 : Code := { maxStack := 3, maxLocals := 3, code := prog_1_method_17_code, exceptionTable := #[], attributes := #[] }
def k2m14 : Method := { name := "loadCheck", desc := "(II)I", sig := { parameters := [.int, .int], returnType := some .int }, accessFlags := 2, code := some k2c14 }
def k2c15 : Code := { maxStack := 3, maxLocals := 4, code := prog_1_method_18_code, exceptionTable := #[], attributes := #[] }
def k2m15 : Method := { name := "storeCheck", desc := "(III)I", sig := { parameters := [.int, .int, .int], returnType := some .int }, accessFlags := 2, code := some k2c15 }
def k2c16 : Code := { maxStack := 2, maxLocals := 2, code := prog_1_method_19_code, exceptionTable := #[], attributes := #[] }
def k2m16 : Method := { name := "pushCheck", desc := "(I)I", sig := { parameters := [.int], returnType := some .int }, accessFlags := 2, code := some k2c16 }
def k2c17 : Code := { maxStack := 1, maxLocals := 1, code := prog_1_method_20_code, exceptionTable := #[], attributes := #[] }
def k2m17 : Method := { name := "allocNeedsReconcile", desc := "()Z", sig := { parameters := [], returnType := some .boolean }, accessFlags := 2, code := some k2c17 }
def k2c18 : Code := { maxStack := 2, maxLocals := 2, code := prog_1_method_21_code, exceptionTable := #[], attributes := #[] }
def k2m18 : Method := { name := "placeNewObject", desc := "(I)V", sig := { parameters := [.int], returnType := none }, accessFlags := 2, code := some k2c18 }
def k2c19 : Code := { maxStack := 2, maxLocals := 3, code := prog_1_method_22_code, exceptionTable := #[], attributes := #[] }
def k2m19 : Method := { name := "storeNeedsReconcile", desc := "(II)Z", sig := { parameters := [.int, .int], returnType := some .boolean }, accessFlags := 2, code := some k2c19 }
def k2c20 : Code := { maxStack := 4, maxLocals := 5, code := prog_1_method_23_code, exceptionTable := #[], attributes := #[] }
def k2m20 : Method := { name := "assignField", desc := "(III)V", sig := { parameters := [.int, .int, .int], returnType := none }, accessFlags := 2, code := some k2c20 }
def k2c21 : Code := { maxStack := 2, maxLocals := 2, code := prog_1_method_24_code, exceptionTable := #[], attributes := #[] }
def k2m21 : Method := { name := "noteZeroCount", desc := "(I)V", sig := { parameters := [.int], returnType := none }, accessFlags := 2, code := some k2c21 }
def k2c22 : Code := { maxStack := 3, maxLocals := 2, code := prog_1_method_25_code, exceptionTable := #[], attributes := #[] }
def k2m22 : Method := { name := "runReconciliation", desc := "()I", sig := { parameters := [], returnType := some .int }, accessFlags := 2, code := some k2c22 }
def k2c23 : Code := { maxStack := 3, maxLocals := 3, code := prog_1_method_26_code, exceptionTable := #[], attributes := #[] }
def k2m23 : Method := { name := "markRootHeld", desc := "()V", sig := { parameters := [], returnType := none }, accessFlags := 2, code := some k2c23 }
def k2c24 : Code := { maxStack := 4, maxLocals := 2, code := prog_1_method_27_code, exceptionTable := #[], attributes := #[] }
def k2m24 : Method := { name := "countHolders", desc := "()V", sig := { parameters := [], returnType := none }, accessFlags := 2, code := some k2c24 }
def k2c25 : Code := { maxStack := 4, maxLocals := 4, code := prog_1_method_28_code, exceptionTable := #[], attributes := #[] }
def k2m25 : Method := { name := "addHoldersOf", desc := "(I)V", sig := { parameters := [.int], returnType := none }, accessFlags := 2, code := some k2c25 }
def k2c26 : Code := { maxStack := 2, maxLocals := 2, code := prog_1_method_29_code, exceptionTable := #[], attributes := #[] }
def k2m26 : Method := { name := "seedWork", desc := "()V", sig := { parameters := [], returnType := none }, accessFlags := 2, code := some k2c26 }
def k2c27 : Code := { maxStack := 2, maxLocals := 2, code := prog_1_method_30_code, exceptionTable := #[], attributes := #[] }
def k2m27 : Method := { name := "eligible", desc := "(I)Z", sig := { parameters := [.int], returnType := some .boolean }, accessFlags := 2, code := some k2c27 }
def k2c28 : Code := { maxStack := 3, maxLocals := 2, code := prog_1_method_31_code, exceptionTable := #[], attributes := #[] }
def k2m28 : Method := { name := "enqueue", desc := "(I)V", sig := { parameters := [.int], returnType := none }, accessFlags := 2, code := some k2c28 }
def k2c29 : Code := { maxStack := 3, maxLocals := 3, code := prog_1_method_32_code, exceptionTable := #[], attributes := #[] }
def k2m29 : Method := { name := "cascade", desc := "()V", sig := { parameters := [], returnType := none }, accessFlags := 2, code := some k2c29 }
def k2c30 : Code := { maxStack := 4, maxLocals := 4, code := prog_1_method_33_code, exceptionTable := #[], attributes := #[] }
def k2m30 : Method := { name := "dropHoldersOf", desc := "(I)V", sig := { parameters := [.int], returnType := none }, accessFlags := 2, code := some k2c30 }
def k2c31 : Code := { maxStack := 2, maxLocals := 3, code := prog_1_method_34_code, exceptionTable := #[], attributes := #[] }
def k2m31 : Method := { name := "sweep", desc := "()I", sig := { parameters := [], returnType := some .int }, accessFlags := 2, code := some k2c31 }
def k2c32 : Code := { maxStack := 3, maxLocals := 2, code := prog_1_method_35_code, exceptionTable := #[], attributes := #[] }
def k2m32 : Method := { name := "recountRefs", desc := "()V", sig := { parameters := [], returnType := none }, accessFlags := 2, code := some k2c32 }
def k2c33 : Code := { maxStack := 3, maxLocals := 4, code := prog_1_method_36_code, exceptionTable := #[], attributes := #[] }
def k2m33 : Method := { name := "countOutgoing", desc := "(I)V", sig := { parameters := [.int], returnType := none }, accessFlags := 2, code := some k2c33 }
def k2c34 : Code := { maxStack := 2, maxLocals := 2, code := prog_1_method_37_code, exceptionTable := #[], attributes := #[] }
def k2m34 : Method := { name := "rebuildTable", desc := "()V", sig := { parameters := [], returnType := none }, accessFlags := 2, code := some k2c34 }
def k2c35 : Code := { maxStack := 2, maxLocals := 1, code := prog_1_method_38_code, exceptionTable := #[], attributes := #[] }
def k2m35 : Method := { name := "hasFreeCell", desc := "()Z", sig := { parameters := [], returnType := some .boolean }, accessFlags := 2, code := some k2c35 }
def k2c36 : Code := { maxStack := 2, maxLocals := 2, code := prog_1_method_39_code, exceptionTable := #[], attributes := #[] }
def k2m36 : Method := { name := "lowestFreeCell", desc := "()I", sig := { parameters := [], returnType := some .int }, accessFlags := 2, code := some k2c36 }
def k2c37 : Code := { maxStack := 3, maxLocals := 2, code := prog_1_method_40_code, exceptionTable := #[], attributes := #[] }
def k2m37 : Method := { name := "bringToLife", desc := "(I)V", sig := { parameters := [.int], returnType := none }, accessFlags := 2, code := some k2c37 }
def k2c38 : Code := { maxStack := 3, maxLocals := 2, code := prog_1_method_41_code, exceptionTable := #[], attributes := #[] }
def k2m38 : Method := { name := "releaseCell", desc := "(I)V", sig := { parameters := [.int], returnType := none }, accessFlags := 2, code := some k2c38 }
def k2c39 : Code := { maxStack := 3, maxLocals := 4, code := prog_1_method_42_code, exceptionTable := #[], attributes := #[] }
def k2m39 : Method := { name := "clearCellFields", desc := "(I)V", sig := { parameters := [.int], returnType := none }, accessFlags := 2, code := some k2c39 }
def k2c40 : Code := { maxStack := 3, maxLocals := 3, code := prog_1_method_43_code, exceptionTable := #[], attributes := #[] }
def k2m40 : Method := { name := "readField", desc := "(II)I", sig := { parameters := [.int, .int], returnType := some .int }, accessFlags := 2, code := some k2c40 }
def k2c41 : Code := { maxStack := 3, maxLocals := 4, code := prog_1_method_44_code, exceptionTable := #[], attributes := #[] }
def k2m41 : Method := { name := "writeFieldRaw", desc := "(III)V", sig := { parameters := [.int, .int, .int], returnType := none }, accessFlags := 2, code := some k2c41 }
def k2c42 : Code := { maxStack := 4, maxLocals := 2, code := prog_1_method_45_code, exceptionTable := #[], attributes := #[] }
def k2m42 : Method := { name := "refInc", desc := "(I)V", sig := { parameters := [.int], returnType := none }, accessFlags := 2, code := some k2c42 }
def k2c43 : Code := { maxStack := 4, maxLocals := 2, code := prog_1_method_46_code, exceptionTable := #[], attributes := #[] }
def k2m43 : Method := { name := "refDec", desc := "(I)V", sig := { parameters := [.int], returnType := none }, accessFlags := 2, code := some k2c43 }
def k2c44 : Code := { maxStack := 2, maxLocals := 1, code := prog_1_method_47_code, exceptionTable := #[], attributes := #[] }
def k2m44 : Method := { name := "rootsFull", desc := "()Z", sig := { parameters := [], returnType := some .boolean }, accessFlags := 2, code := some k2c44 }
def k2c45 : Code := { maxStack := 3, maxLocals := 2, code := prog_1_method_48_code, exceptionTable := #[], attributes := #[] }
def k2m45 : Method := { name := "rootPush", desc := "(I)V", sig := { parameters := [.int], returnType := none }, accessFlags := 2, code := some k2c45 }
def k2c46 : Code := { maxStack := 3, maxLocals := 1, code := prog_1_method_49_code, exceptionTable := #[], attributes := #[] }
def k2m46 : Method := { name := "rootPopTop", desc := "()V", sig := { parameters := [], returnType := none }, accessFlags := 2, code := some k2c46 }
def k2c47 : Code := { maxStack := 2, maxLocals := 2, code := prog_1_method_50_code, exceptionTable := #[], attributes := #[] }
def k2m47 : Method := { name := "valueOfSlot", desc := "(I)I", sig := { parameters := [.int], returnType := some .int }, accessFlags := 2, code := some k2c47 }
def k2c48 : Code := { maxStack := 2, maxLocals := 2, code := prog_1_method_51_code, exceptionTable := #[], attributes := #[] }
def k2m48 : Method := { name := "tableHas", desc := "(I)Z", sig := { parameters := [.int], returnType := some .boolean }, accessFlags := 2, code := some k2c48 }
def k2c49 : Code := { maxStack := 2, maxLocals := 1, code := prog_1_method_52_code, exceptionTable := #[], attributes := #[] }
def k2m49 : Method := { name := "tableIsFull", desc := "()Z", sig := { parameters := [], returnType := some .boolean }, accessFlags := 2, code := some k2c49 }
def k2c50 : Code := { maxStack := 3, maxLocals := 2, code := prog_1_method_53_code, exceptionTable := #[], attributes := #[] }
def k2m50 : Method := { name := "tableInsert", desc := "(I)Z", sig := { parameters := [.int], returnType := some .boolean }, accessFlags := 2, code := some k2c50 }
def k2c51 : Code := { maxStack := 3, maxLocals := 2, code := prog_1_method_54_code, exceptionTable := #[], attributes := #[] }
def k2m51 : Method := { name := "resetHeap", desc := "()V", sig := { parameters := [], returnType := none }, accessFlags := 2, code := some k2c51 }
def k2c52 : Code := { maxStack := 3, maxLocals := 2, code := prog_1_method_55_code, exceptionTable := #[], attributes := #[] }
def k2m52 : Method := { name := "resetRoots", desc := "()V", sig := { parameters := [], returnType := none }, accessFlags := 2, code := some k2c52 }
def k2c53 : Code := { maxStack := 3, maxLocals := 2, code := prog_1_method_56_code, exceptionTable := #[], attributes := #[] }
def k2m53 : Method := { name := "resetTable", desc := "()V", sig := { parameters := [], returnType := none }, accessFlags := 2, code := some k2c53 }
def k2c54 : Code := { maxStack := 3, maxLocals := 2, code := prog_1_method_57_code, exceptionTable := #[], attributes := #[] }
def k2m54 : Method := { name := "resetScratch", desc := "()V", sig := { parameters := [], returnType := none }, accessFlags := 2, code := some k2c54 }
def k2c55 : Code := { maxStack := 2, maxLocals := 3, code := prog_1_method_58_code, exceptionTable := #[], attributes := #[] }
def k2m55 : Method := { name := "clamp", desc := "(III)I", sig := { parameters := [.int, .int, .int], returnType := some .int }, accessFlags := 10, code := some k2c55 }
def k2c56 : Code := { maxStack := 2, maxLocals := 2, code := prog_1_method_59_code, exceptionTable := #[], attributes := #[] }
def k2m56 : Method := { name := "isObjectId", desc := "(I)Z", sig := { parameters := [.int], returnType := some .boolean }, accessFlags := 2, code := some k2c56 }
def k2c57 : Code := { maxStack := 2, maxLocals := 2, code := prog_1_method_60_code, exceptionTable := #[], attributes := #[] }
def k2m57 : Method := { name := "isLiveId", desc := "(I)Z", sig := { parameters := [.int], returnType := some .boolean }, accessFlags := 2, code := some k2c57 }
def k2c58 : Code := { maxStack := 2, maxLocals := 2, code := prog_1_method_61_code, exceptionTable := #[], attributes := #[] }
def k2m58 : Method := { name := "isFieldNo", desc := "(I)Z", sig := { parameters := [.int], returnType := some .boolean }, accessFlags := 2, code := some k2c58 }
def k2c59 : Code := { maxStack := 2, maxLocals := 2, code := prog_1_method_62_code, exceptionTable := #[], attributes := #[] }
def k2m59 : Method := { name := "isRootSlot", desc := "(I)Z", sig := { parameters := [.int], returnType := some .boolean }, accessFlags := 2, code := some k2c59 }
def k2c60 : Code := { maxStack := 2, maxLocals := 2, code := prog_1_method_63_code, exceptionTable := #[], attributes := #[] }
def k2m60 : Method := { name := "isValueSlot", desc := "(I)Z", sig := { parameters := [.int], returnType := some .boolean }, accessFlags := 2, code := some k2c60 }
/-- DeferredCountY -/
def k2 : Class := { plain "DeferredCountY" (some 0) with
  accessFlags := 49
  interfaces := #[]
  cf := some (fileOf pool2 8 #[] #[{ accessFlags := 1, nameIndex := 5, descriptorIndex := 248, attributes := #[] }, { accessFlags := 1, nameIndex := 251, descriptorIndex := 86, attributes := #[] }, { accessFlags := 1, nameIndex := 253, descriptorIndex := 97, attributes := #[] }, { accessFlags := 1, nameIndex := 254, descriptorIndex := 47, attributes := #[] }, { accessFlags := 1, nameIndex := 255, descriptorIndex := 110, attributes := #[] }, { accessFlags := 1, nameIndex := 256, descriptorIndex := 86, attributes := #[] }, { accessFlags := 1, nameIndex := 257, descriptorIndex := 86, attributes := #[] }, { accessFlags := 1, nameIndex := 258, descriptorIndex := 86, attributes := #[] }, { accessFlags := 1, nameIndex := 259, descriptorIndex := 110, attributes := #[] }, { accessFlags := 1, nameIndex := 260, descriptorIndex := 134, attributes := #[] }, { accessFlags := 1, nameIndex := 261, descriptorIndex := 97, attributes := #[] }, { accessFlags := 1, nameIndex := 262, descriptorIndex := 110, attributes := #[] }, { accessFlags := 1, nameIndex := 263, descriptorIndex := 134, attributes := #[] }, { accessFlags := 1, nameIndex := 264, descriptorIndex := 86, attributes := #[] }, { accessFlags := 2, nameIndex := 96, descriptorIndex := 97, attributes := #[] }, { accessFlags := 2, nameIndex := 106, descriptorIndex := 47, attributes := #[] }, { accessFlags := 2, nameIndex := 124, descriptorIndex := 110, attributes := #[] }, { accessFlags := 2, nameIndex := 82, descriptorIndex := 79, attributes := #[] }, { accessFlags := 2, nameIndex := 92, descriptorIndex := 93, attributes := #[] }, { accessFlags := 2, nameIndex := 113, descriptorIndex := 114, attributes := #[] }, { accessFlags := 2, nameIndex := 117, descriptorIndex := 118, attributes := #[] }, { accessFlags := 2, nameIndex := 121, descriptorIndex := 93, attributes := #[] }, { accessFlags := 2, nameIndex := 85, descriptorIndex := 86, attributes := #[] }, { accessFlags := 2, nameIndex := 179, descriptorIndex := 6, attributes := #[] }, { accessFlags := 2, nameIndex := 182, descriptorIndex := 6, attributes := #[] }, { accessFlags := 2, nameIndex := 200, descriptorIndex := 93, attributes := #[] }, { accessFlags := 2, nameIndex := 185, descriptorIndex := 6, attributes := #[] }, { accessFlags := 2, nameIndex := 206, descriptorIndex := 134, attributes := #[] }, { accessFlags := 2, nameIndex := 209, descriptorIndex := 93, attributes := #[] }, { accessFlags := 2, nameIndex := 188, descriptorIndex := 6, attributes := #[] }, { accessFlags := 2, nameIndex := 212, descriptorIndex := 93, attributes := #[] }, { accessFlags := 2, nameIndex := 191, descriptorIndex := 86, attributes := #[] }, { accessFlags := 2, nameIndex := 194, descriptorIndex := 6, attributes := #[] }, { accessFlags := 2, nameIndex := 218, descriptorIndex := 93, attributes := #[] }, { accessFlags := 2, nameIndex := 197, descriptorIndex := 6, attributes := #[] }, { accessFlags := 2, nameIndex := 155, descriptorIndex := 79, attributes := #[] }, { accessFlags := 2, nameIndex := 89, descriptorIndex := 86, attributes := #[] }, { accessFlags := 2, nameIndex := 161, descriptorIndex := 93, attributes := #[] }, { accessFlags := 2, nameIndex := 215, descriptorIndex := 93, attributes := #[] }, { accessFlags := 2, nameIndex := 221, descriptorIndex := 93, attributes := #[] }, { accessFlags := 2, nameIndex := 100, descriptorIndex := 97, attributes := #[] }, { accessFlags := 2, nameIndex := 176, descriptorIndex := 118, attributes := #[] }, { accessFlags := 2, nameIndex := 173, descriptorIndex := 93, attributes := #[] }, { accessFlags := 2, nameIndex := 170, descriptorIndex := 93, attributes := #[] }, { accessFlags := 2, nameIndex := 78, descriptorIndex := 79, attributes := #[] }, { accessFlags := 2, nameIndex := 103, descriptorIndex := 93, attributes := #[] }, { accessFlags := 2, nameIndex := 130, descriptorIndex := 6, attributes := #[] }, { accessFlags := 2, nameIndex := 109, descriptorIndex := 110, attributes := #[] }, { accessFlags := 2, nameIndex := 143, descriptorIndex := 134, attributes := #[] }, { accessFlags := 2, nameIndex := 158, descriptorIndex := 79, attributes := #[] }, { accessFlags := 2, nameIndex := 164, descriptorIndex := 134, attributes := #[] }, { accessFlags := 2, nameIndex := 63, descriptorIndex := 6, attributes := #[] }, { accessFlags := 2, nameIndex := 66, descriptorIndex := 6, attributes := #[] }, { accessFlags := 2, nameIndex := 69, descriptorIndex := 6, attributes := #[] }, { accessFlags := 2, nameIndex := 72, descriptorIndex := 6, attributes := #[] }, { accessFlags := 10, nameIndex := 46, descriptorIndex := 47, attributes := #[] }, { accessFlags := 2, nameIndex := 167, descriptorIndex := 134, attributes := #[] }, { accessFlags := 2, nameIndex := 137, descriptorIndex := 134, attributes := #[] }, { accessFlags := 2, nameIndex := 140, descriptorIndex := 134, attributes := #[] }, { accessFlags := 2, nameIndex := 133, descriptorIndex := 134, attributes := #[] }, { accessFlags := 2, nameIndex := 152, descriptorIndex := 134, attributes := #[] }] 49 2 #[] #[{ accessFlags := 25, nameIndex := 222, descriptorIndex := 51, attributes := #[] }, { accessFlags := 25, nameIndex := 225, descriptorIndex := 51, attributes := #[] }, { accessFlags := 25, nameIndex := 227, descriptorIndex := 51, attributes := #[] }, { accessFlags := 25, nameIndex := 229, descriptorIndex := 51, attributes := #[] }, { accessFlags := 25, nameIndex := 231, descriptorIndex := 51, attributes := #[] }, { accessFlags := 25, nameIndex := 233, descriptorIndex := 51, attributes := #[] }, { accessFlags := 25, nameIndex := 235, descriptorIndex := 51, attributes := #[] }, { accessFlags := 25, nameIndex := 237, descriptorIndex := 51, attributes := #[] }, { accessFlags := 25, nameIndex := 239, descriptorIndex := 51, attributes := #[] }, { accessFlags := 25, nameIndex := 241, descriptorIndex := 51, attributes := #[] }, { accessFlags := 25, nameIndex := 243, descriptorIndex := 51, attributes := #[] }, { accessFlags := 25, nameIndex := 245, descriptorIndex := 51, attributes := #[] }, { accessFlags := 25, nameIndex := 247, descriptorIndex := 51, attributes := #[] }, { accessFlags := 2, nameIndex := 50, descriptorIndex := 51, attributes := #[] }, { accessFlags := 2, nameIndex := 54, descriptorIndex := 51, attributes := #[] }, { accessFlags := 2, nameIndex := 57, descriptorIndex := 51, attributes := #[] }, { accessFlags := 2, nameIndex := 60, descriptorIndex := 51, attributes := #[] }, { accessFlags := 2, nameIndex := 11, descriptorIndex := 12, attributes := #[] }, { accessFlags := 2, nameIndex := 15, descriptorIndex := 16, attributes := #[] }, { accessFlags := 2, nameIndex := 19, descriptorIndex := 16, attributes := #[] }, { accessFlags := 2, nameIndex := 149, descriptorIndex := 51, attributes := #[] }, { accessFlags := 2, nameIndex := 22, descriptorIndex := 16, attributes := #[] }, { accessFlags := 2, nameIndex := 127, descriptorIndex := 51, attributes := #[] }, { accessFlags := 2, nameIndex := 25, descriptorIndex := 16, attributes := #[] }, { accessFlags := 2, nameIndex := 28, descriptorIndex := 16, attributes := #[] }, { accessFlags := 2, nameIndex := 146, descriptorIndex := 51, attributes := #[] }, { accessFlags := 2, nameIndex := 75, descriptorIndex := 51, attributes := #[] }, { accessFlags := 2, nameIndex := 31, descriptorIndex := 12, attributes := #[] }, { accessFlags := 2, nameIndex := 34, descriptorIndex := 12, attributes := #[] }, { accessFlags := 2, nameIndex := 37, descriptorIndex := 12, attributes := #[] }, { accessFlags := 2, nameIndex := 40, descriptorIndex := 16, attributes := #[] }, { accessFlags := 2, nameIndex := 43, descriptorIndex := 16, attributes := #[] }, { accessFlags := 2, nameIndex := 203, descriptorIndex := 51, attributes := #[] }])
  fields := #[{ name := "NIL", type := .int, accessFlags := 25, slot := 0, constantValue := 0 }, { name := "OK", type := .int, accessFlags := 25, slot := 1, constantValue := 0 }, { name := "ROOTS_FULL", type := .int, accessFlags := 25, slot := 2, constantValue := 0 }, { name := "ROOTS_EMPTY", type := .int, accessFlags := 25, slot := 3, constantValue := 0 }, { name := "HEAP_FULL", type := .int, accessFlags := 25, slot := 4, constantValue := 0 }, { name := "BAD_SLOT", type := .int, accessFlags := 25, slot := 5, constantValue := 0 }, { name := "BAD_FIELD", type := .int, accessFlags := 25, slot := 6, constantValue := 0 }, { name := "NULL_REF", type := .int, accessFlags := 25, slot := 7, constantValue := 0 }, { name := "BAD_OBJECT", type := .int, accessFlags := 25, slot := 8, constantValue := 0 }, { name := "MAX_HEAP", type := .int, accessFlags := 25, slot := 9, constantValue := 0 }, { name := "MAX_FIELDS", type := .int, accessFlags := 25, slot := 10, constantValue := 0 }, { name := "MAX_ROOTS", type := .int, accessFlags := 25, slot := 11, constantValue := 0 }, { name := "MAX_TABLE", type := .int, accessFlags := 25, slot := 12, constantValue := 0 }, { name := "heapCells", type := .int, accessFlags := 2, slot := 0, constantValue := 0 }, { name := "fieldsPer", type := .int, accessFlags := 2, slot := 1, constantValue := 0 }, { name := "rootCap", type := .int, accessFlags := 2, slot := 2, constantValue := 0 }, { name := "tableCap", type := .int, accessFlags := 2, slot := 3, constantValue := 0 }, { name := "live", type := (.array .boolean), accessFlags := 2, slot := 4, constantValue := 0 }, { name := "cellFields", type := (.array .int), accessFlags := 2, slot := 5, constantValue := 0 }, { name := "refs", type := (.array .int), accessFlags := 2, slot := 6, constantValue := 0 }, { name := "liveTotal", type := .int, accessFlags := 2, slot := 7, constantValue := 0 }, { name := "rootStack", type := (.array .int), accessFlags := 2, slot := 8, constantValue := 0 }, { name := "rootDepth", type := .int, accessFlags := 2, slot := 9, constantValue := 0 }, { name := "tableIds", type := (.array .int), accessFlags := 2, slot := 10, constantValue := 0 }, { name := "tablePos", type := (.array .int), accessFlags := 2, slot := 11, constantValue := 0 }, { name := "tableLen", type := .int, accessFlags := 2, slot := 12, constantValue := 0 }, { name := "runs", type := .int, accessFlags := 2, slot := 13, constantValue := 0 }, { name := "survivor", type := (.array .boolean), accessFlags := 2, slot := 14, constantValue := 0 }, { name := "rootHeld", type := (.array .boolean), accessFlags := 2, slot := 15, constantValue := 0 }, { name := "queued", type := (.array .boolean), accessFlags := 2, slot := 16, constantValue := 0 }, { name := "holders", type := (.array .int), accessFlags := 2, slot := 17, constantValue := 0 }, { name := "work", type := (.array .int), accessFlags := 2, slot := 18, constantValue := 0 }, { name := "workTop", type := .int, accessFlags := 2, slot := 19, constantValue := 0 }]
  methods := #[k2m0, k2m1, k2m2, k2m3, k2m4, k2m5, k2m6, k2m7, k2m8, k2m9, k2m10, k2m11, k2m12, k2m13, k2m14, k2m15, k2m16, k2m17, k2m18, k2m19, k2m20, k2m21, k2m22, k2m23, k2m24, k2m25, k2m26, k2m27, k2m28, k2m29, k2m30, k2m31, k2m32, k2m33, k2m34, k2m35, k2m36, k2m37, k2m38, k2m39, k2m40, k2m41, k2m42, k2m43, k2m44, k2m45, k2m46, k2m47, k2m48, k2m49, k2m50, k2m51, k2m52, k2m53, k2m54, k2m55, k2m56, k2m57, k2m58, k2m59, k2m60]
  instanceTypes := #[.int, .int, .int, .int, (.array .boolean), (.array .int), (.array .int), .int, (.array .int), .int, (.array .int), (.array .int), .int, .int, (.array .boolean), (.array .boolean), (.array .boolean), (.array .int), (.array .int), .int]
  staticTypes := #[.int, .int, .int, .int, .int, .int, .int, .int, .int, .int, .int, .int, .int]
  resolved := Array.replicate 270 none
  statics := none }

def pool3 : Array CpInfo := pool [(1, u "java/lang/Cloneable"), (0, .class_ 1), (0, u "java/lang/Object"), (0, .class_ 3)] 3

/-- java/lang/Cloneable -/
def k3 : Class := { plain "java/lang/Cloneable" (some 0) with
  accessFlags := 1537
  interfaces := #[]
  cf := some (fileOf pool3 2 #[] #[] 1537 4 #[] #[])
  fields := #[]
  methods := #[]
  instanceTypes := #[]
  staticTypes := #[]
  resolved := Array.replicate 8 none
  statics := none }

def pool4 : Array CpInfo := pool [(1, u "java/io/Serializable"), (0, .class_ 1), (0, u "java/lang/Object"), (0, .class_ 3)] 3

/-- java/io/Serializable -/
def k4 : Class := { plain "java/io/Serializable" (some 0) with
  accessFlags := 1537
  interfaces := #[]
  cf := some (fileOf pool4 2 #[] #[] 1537 4 #[] #[])
  fields := #[]
  methods := #[]
  instanceTypes := #[]
  staticTypes := #[]
  resolved := Array.replicate 8 none
  statics := none }

/-- the primitive boolean -/
def k5 : Class := { plain "boolean" none with kind := .primitive 'Z', accessFlags := 0x411 }
/-- [Z -/
def k6 : Class := { plain "[Z" (some 0) with kind := .array 5 .boolean, interfaces := #[3, 4], accessFlags := 1041 }

/-- the primitive byte -/
def k7 : Class := { plain "byte" none with kind := .primitive 'B', accessFlags := 0x411 }
/-- [B -/
def k8 : Class := { plain "[B" (some 0) with kind := .array 7 .byte, interfaces := #[3, 4], accessFlags := 1041 }

/-- the primitive int -/
def k9 : Class := { plain "int" none with kind := .primitive 'I', accessFlags := 0x411 }
/-- [I -/
def k10 : Class := { plain "[I" (some 0) with kind := .array 9 .int, interfaces := #[3, 4], accessFlags := 1041 }

def heap : Heap := #[{ cls := 10, slots := #[.int 0, .int 1, .int 2], vm := .none }]
def classes : Array Class := #[k0, k1, k2, k3, k4, k5, k6, k7, k8, k9, k10]
def interned : List (Array UInt16 × Addr) := []
def slotsUsed : Nat := 3
def theMethod : MethodId := ⟨1, 2⟩
def args0 : Array Value := #[.ref 0]
def aboutOver (below : List Frame) : State where
  vm := { classes := classes, interned := interned.toArray }
  heap := heap
  slotsUsed := slotsUsed
  threads := #[{ frames := .invoking theMethod args0 :: below }]
def below0 : List Frame := [.native { method := ⟨0, 0⟩, args := #[] }]
def about1 : State := aboutOver below0
def p0 : Program := .bare "" "" ""
def e0 : Env := launch0.env 0 0 0
theorem w_frames : about1.frames = Frame.invoking theMethod args0 :: below0 := rfl
set_option maxRecDepth 65536 in
theorem w_args : argsFit about1.vm theMethod args0 = true := by decide +kernel
set_option maxRecDepth 65536 in
theorem w_heap : heapFits about1 = true := by decide +kernel
set_option maxRecDepth 65536 in
theorem w_runnable : about1.curStatus? = some .runnable := by decide +kernel
set_option maxRecDepth 65536 in
theorem w_alone : about1.alone = true := by decide +kernel
set_option maxRecDepth 65536 in
theorem w_named : about1.methodNamed? x = some theMethod := by decide +kernel
set_option maxRecDepth 65536 in
theorem w_hears : about1.hears theMethod below0 = true := by decide +kernel
set_option maxRecDepth 65536 in
theorem w_ripe : about1.ripe theMethod args0 below0 = true := by decide +kernel
theorem w_running : about1.status = .running := rfl
set_option maxRecDepth 65536 in
theorem w_room : about1.hasRoom e0.platform room_1 = true :=
  launch0.hasRoom_least _ room_1 (by decide +kernel) (by decide +kernel) (by decide +kernel) (by decide +kernel) (by decide +kernel) (by decide +kernel)
theorem allAtoms_all (ts : List Jvm.Cond) (a : Array Jvm.Value) (st : Jvm.State) : (allAtoms ts).before a st = ts.all (fun c => c.before a st) := by
  induction ts with
  | nil => rfl
  | cons c t ih =>
    show (Jvm.Cond.and c (allAtoms t)).before a st = _
    rw [Jvm.Cond.before_and, ih, List.all_cons]
def words1 : List Jvm.Cond := Jvm.Cond.code x code maxLocals ret :: tables_1
/-- a 'code' word, met by the world's own term for the bytes: nothing is compared byte by byte -/
theorem code_word {y : MethodName} {bytes : ByteArray} {mx : Nat} {rt : Option FieldType} {a : Array Value} {s : State} {m : MethodId} {meth : Method} {c : Code} (h1 : s.methodNamed? y = some m) (h2 : s.vm.method? m = some meth) (h3 : meth.code = some c) (h4 : c.code = bytes)
    (h5 : (c.maxLocals == mx && c.exceptionTable.isEmpty && decide (c.maxStack ≤ mostOperands) && decide (meth.sig.returnType = rt) && !meth.locks && decide (parseMethodDescriptor y.desc = some meth.sig)) = true) : (Jvm.Cond.code y bytes mx rt).before a s = true := by
  simp only [Bool.and_eq_true, beq_iff_eq, Bool.not_eq_true', decide_eq_true_eq] at h5
  obtain ⟨⟨⟨⟨⟨g1, g2⟩, g3⟩, g4⟩, g5⟩, g6⟩ := h5
  simp [Cond.before, Cond.holds, Cond.value, h1, h2, h3, h4, g1, g2, g3, g4, g5, g6]
def isCode : Jvm.Cond → Bool
  | .code _ _ _ _ => true
  | _ => false
theorem all_split {L : List Jvm.Cond} {P : Jvm.Cond → Bool} (h1 : L.all (fun c => isCode c || P c) = true) (h2 : ∀ c ∈ L.filter isCode, P c = true) : L.all P = true := by
  refine List.all_eq_true.mpr fun c hc => ?_
  have h := List.all_eq_true.mp h1 c hc
  rcases Bool.eq_false_or_eq_true (isCode c) with hi | hi
  · exact h2 c (List.mem_filter.mpr ⟨hc, hi⟩)
  · simpa [hi] using h
set_option maxRecDepth 65536 in
theorem w_c0 : (Jvm.Cond.code x code maxLocals ret).before args0 about1 = true := code_word (m := ⟨1, 2⟩) (meth := k1m2) (c := k1c2) (by decide +kernel) rfl rfl rfl (by decide +kernel)
set_option maxRecDepth 65536 in
theorem w_c1 : (Jvm.Cond.code ({ cls := "DeferredCountYOwnLaw", name := "cell", desc := "([II)I" } : Jvm.MethodName) method_2_code (2 : Nat) (Option.some Jvm.ClassFile.FieldType.int)).before args0 about1 = true := code_word (m := ⟨1, 1⟩) (meth := k1m1) (c := k1c1) (by decide +kernel) rfl rfl rfl (by decide +kernel)
set_option maxRecDepth 65536 in
theorem w_c2 : (Jvm.Cond.code ({ cls := "DeferredCountY", name := "<init>", desc := "(IIII)V" } : Jvm.MethodName) prog_1_method_1_code (6 : Nat) (Option.none : Option Jvm.ClassFile.FieldType)).before args0 about1 = true := code_word (m := ⟨2, 0⟩) (meth := k2m0) (c := k2c0) (by decide +kernel) rfl rfl rfl (by decide +kernel)
set_option maxRecDepth 65536 in
theorem w_c3 : (Jvm.Cond.code ({ cls := "java/lang/Object", name := "<init>", desc := "()V" } : Jvm.MethodName) object_method_1_code (1 : Nat) (Option.none : Option Jvm.ClassFile.FieldType)).before args0 about1 = true := code_word (m := ⟨0, 0⟩) (meth := k0m0) (c := k0c0) (by decide +kernel) rfl rfl rfl (by decide +kernel)
set_option maxRecDepth 65536 in
theorem w_c4 : (Jvm.Cond.code ({ cls := "DeferredCountY", name := "clamp", desc := "(III)I" } : Jvm.MethodName) prog_1_method_58_code (3 : Nat) (Option.some Jvm.ClassFile.FieldType.int)).before args0 about1 = true := code_word (m := ⟨2, 55⟩) (meth := k2m55) (c := k2c55) (by decide +kernel) rfl rfl rfl (by decide +kernel)
set_option maxRecDepth 65536 in
theorem w_c5 : (Jvm.Cond.code ({ cls := "DeferredCountY", name := "resetHeap", desc := "()V" } : Jvm.MethodName) prog_1_method_54_code (2 : Nat) (Option.none : Option Jvm.ClassFile.FieldType)).before args0 about1 = true := code_word (m := ⟨2, 51⟩) (meth := k2m51) (c := k2c51) (by decide +kernel) rfl rfl rfl (by decide +kernel)
set_option maxRecDepth 65536 in
theorem w_c6 : (Jvm.Cond.code ({ cls := "DeferredCountY", name := "clearCellFields", desc := "(I)V" } : Jvm.MethodName) prog_1_method_42_code (4 : Nat) (Option.none : Option Jvm.ClassFile.FieldType)).before args0 about1 = true := code_word (m := ⟨2, 39⟩) (meth := k2m39) (c := k2c39) (by decide +kernel) rfl rfl rfl (by decide +kernel)
set_option maxRecDepth 65536 in
theorem w_c7 : (Jvm.Cond.code ({ cls := "DeferredCountY", name := "resetRoots", desc := "()V" } : Jvm.MethodName) prog_1_method_55_code (2 : Nat) (Option.none : Option Jvm.ClassFile.FieldType)).before args0 about1 = true := code_word (m := ⟨2, 52⟩) (meth := k2m52) (c := k2c52) (by decide +kernel) rfl rfl rfl (by decide +kernel)
set_option maxRecDepth 65536 in
theorem w_c8 : (Jvm.Cond.code ({ cls := "DeferredCountY", name := "resetTable", desc := "()V" } : Jvm.MethodName) prog_1_method_56_code (2 : Nat) (Option.none : Option Jvm.ClassFile.FieldType)).before args0 about1 = true := code_word (m := ⟨2, 53⟩) (meth := k2m53) (c := k2c53) (by decide +kernel) rfl rfl rfl (by decide +kernel)
set_option maxRecDepth 65536 in
theorem w_c9 : (Jvm.Cond.code ({ cls := "DeferredCountY", name := "resetScratch", desc := "()V" } : Jvm.MethodName) prog_1_method_57_code (2 : Nat) (Option.none : Option Jvm.ClassFile.FieldType)).before args0 about1 = true := code_word (m := ⟨2, 54⟩) (meth := k2m54) (c := k2c54) (by decide +kernel) rfl rfl rfl (by decide +kernel)
set_option maxRecDepth 65536 in
theorem w_c10 : (Jvm.Cond.code ({ cls := "DeferredCountY", name := "depth", desc := "()I" } : Jvm.MethodName) prog_1_method_8_code (1 : Nat) (Option.some Jvm.ClassFile.FieldType.int)).before args0 about1 = true := code_word (m := ⟨2, 7⟩) (meth := k2m7) (c := k2c7) (by decide +kernel) rfl rfl rfl (by decide +kernel)
set_option maxRecDepth 65536 in
theorem w_c11 : (Jvm.Cond.code ({ cls := "DeferredCountY", name := "isLive", desc := "(I)Z" } : Jvm.MethodName) prog_1_method_10_code (2 : Nat) (Option.some Jvm.ClassFile.FieldType.boolean)).before args0 about1 = true := code_word (m := ⟨2, 9⟩) (meth := k2m9) (c := k2c9) (by decide +kernel) rfl rfl rfl (by decide +kernel)
set_option maxRecDepth 65536 in
theorem w_c12 : (Jvm.Cond.code ({ cls := "DeferredCountY", name := "isLiveId", desc := "(I)Z" } : Jvm.MethodName) prog_1_method_60_code (2 : Nat) (Option.some Jvm.ClassFile.FieldType.boolean)).before args0 about1 = true := code_word (m := ⟨2, 57⟩) (meth := k2m57) (c := k2c57) (by decide +kernel) rfl rfl rfl (by decide +kernel)
set_option maxRecDepth 65536 in
theorem w_c13 : (Jvm.Cond.code ({ cls := "DeferredCountY", name := "isObjectId", desc := "(I)Z" } : Jvm.MethodName) prog_1_method_59_code (2 : Nat) (Option.some Jvm.ClassFile.FieldType.boolean)).before args0 about1 = true := code_word (m := ⟨2, 56⟩) (meth := k2m56) (c := k2c56) (by decide +kernel) rfl rfl rfl (by decide +kernel)
set_option maxRecDepth 65536 in
theorem w_c14 : (Jvm.Cond.code ({ cls := "DeferredCountY", name := "inTable", desc := "(I)Z" } : Jvm.MethodName) prog_1_method_13_code (2 : Nat) (Option.some Jvm.ClassFile.FieldType.boolean)).before args0 about1 = true := code_word (m := ⟨2, 12⟩) (meth := k2m12) (c := k2c12) (by decide +kernel) rfl rfl rfl (by decide +kernel)
set_option maxRecDepth 65536 in
theorem w_c15 : (Jvm.Cond.code ({ cls := "DeferredCountY", name := "tableHas", desc := "(I)Z" } : Jvm.MethodName) prog_1_method_51_code (2 : Nat) (Option.some Jvm.ClassFile.FieldType.boolean)).before args0 about1 = true := code_word (m := ⟨2, 48⟩) (meth := k2m48) (c := k2c48) (by decide +kernel) rfl rfl rfl (by decide +kernel)
set_option maxRecDepth 65536 in
theorem w_c16 : (Jvm.Cond.code ({ cls := "DeferredCountY", name := "tableSize", desc := "()I" } : Jvm.MethodName) prog_1_method_14_code (1 : Nat) (Option.some Jvm.ClassFile.FieldType.int)).before args0 about1 = true := code_word (m := ⟨2, 13⟩) (meth := k2m13) (c := k2c13) (by decide +kernel) rfl rfl rfl (by decide +kernel)
set_option maxRecDepth 65536 in
theorem w_c17 : (Jvm.Cond.code ({ cls := "DeferredCountY", name := "store", desc := "(III)I" } : Jvm.MethodName) prog_1_method_4_code (8 : Nat) (Option.some Jvm.ClassFile.FieldType.int)).before args0 about1 = true := code_word (m := ⟨2, 3⟩) (meth := k2m3) (c := k2c3) (by decide +kernel) rfl rfl rfl (by decide +kernel)
set_option maxRecDepth 65536 in
theorem w_c18 : (Jvm.Cond.code ({ cls := "DeferredCountY", name := "storeCheck", desc := "(III)I" } : Jvm.MethodName) prog_1_method_18_code (4 : Nat) (Option.some Jvm.ClassFile.FieldType.int)).before args0 about1 = true := code_word (m := ⟨2, 15⟩) (meth := k2m15) (c := k2c15) (by decide +kernel) rfl rfl rfl (by decide +kernel)
set_option maxRecDepth 65536 in
theorem w_c19 : (Jvm.Cond.code ({ cls := "DeferredCountY", name := "isRootSlot", desc := "(I)Z" } : Jvm.MethodName) prog_1_method_62_code (2 : Nat) (Option.some Jvm.ClassFile.FieldType.boolean)).before args0 about1 = true := code_word (m := ⟨2, 59⟩) (meth := k2m59) (c := k2c59) (by decide +kernel) rfl rfl rfl (by decide +kernel)
set_option maxRecDepth 65536 in
theorem w_c20 : (Jvm.Cond.code ({ cls := "DeferredCountY", name := "load", desc := "(II)I" } : Jvm.MethodName) prog_1_method_3_code (6 : Nat) (Option.some Jvm.ClassFile.FieldType.int)).before args0 about1 = true := code_word (m := ⟨2, 2⟩) (meth := k2m2) (c := k2c2) (by decide +kernel) rfl rfl rfl (by decide +kernel)
set_option maxRecDepth 65536 in
theorem w_c21 : (Jvm.Cond.code ({ cls := "DeferredCountY", name := "loadCheck", desc := "(II)I" } : Jvm.MethodName) prog_1_method_17_code (3 : Nat) (Option.some Jvm.ClassFile.FieldType.int)).before args0 about1 = true := code_word (m := ⟨2, 14⟩) (meth := k2m14) (c := k2c14) (by decide +kernel) rfl rfl rfl (by decide +kernel)
set_option maxRecDepth 65536 in
theorem w_c22 : (Jvm.Cond.code ({ cls := "DeferredCountY", name := "rootsFull", desc := "()Z" } : Jvm.MethodName) prog_1_method_47_code (1 : Nat) (Option.some Jvm.ClassFile.FieldType.boolean)).before args0 about1 = true := code_word (m := ⟨2, 44⟩) (meth := k2m44) (c := k2c44) (by decide +kernel) rfl rfl rfl (by decide +kernel)
set_option maxRecDepth 65536 in
theorem w_c23 : (Jvm.Cond.code ({ cls := "DeferredCountY", name := "alloc", desc := "()I" } : Jvm.MethodName) prog_1_method_2_code (2 : Nat) (Option.some Jvm.ClassFile.FieldType.int)).before args0 about1 = true := code_word (m := ⟨2, 1⟩) (meth := k2m1) (c := k2c1) (by decide +kernel) rfl rfl rfl (by decide +kernel)
set_option maxRecDepth 65536 in
theorem w_c24 : (Jvm.Cond.code ({ cls := "DeferredCountY", name := "allocNeedsReconcile", desc := "()Z" } : Jvm.MethodName) prog_1_method_20_code (1 : Nat) (Option.some Jvm.ClassFile.FieldType.boolean)).before args0 about1 = true := code_word (m := ⟨2, 17⟩) (meth := k2m17) (c := k2c17) (by decide +kernel) rfl rfl rfl (by decide +kernel)
set_option maxRecDepth 65536 in
theorem w_c25 : (Jvm.Cond.code ({ cls := "DeferredCountY", name := "hasFreeCell", desc := "()Z" } : Jvm.MethodName) prog_1_method_38_code (1 : Nat) (Option.some Jvm.ClassFile.FieldType.boolean)).before args0 about1 = true := code_word (m := ⟨2, 35⟩) (meth := k2m35) (c := k2c35) (by decide +kernel) rfl rfl rfl (by decide +kernel)
set_option maxRecDepth 65536 in
theorem w_c26 : (Jvm.Cond.code ({ cls := "DeferredCountY", name := "tableIsFull", desc := "()Z" } : Jvm.MethodName) prog_1_method_52_code (1 : Nat) (Option.some Jvm.ClassFile.FieldType.boolean)).before args0 about1 = true := code_word (m := ⟨2, 49⟩) (meth := k2m49) (c := k2c49) (by decide +kernel) rfl rfl rfl (by decide +kernel)
set_option maxRecDepth 65536 in
theorem w_c27 : (Jvm.Cond.code ({ cls := "DeferredCountY", name := "lowestFreeCell", desc := "()I" } : Jvm.MethodName) prog_1_method_39_code (2 : Nat) (Option.some Jvm.ClassFile.FieldType.int)).before args0 about1 = true := code_word (m := ⟨2, 36⟩) (meth := k2m36) (c := k2c36) (by decide +kernel) rfl rfl rfl (by decide +kernel)
set_option maxRecDepth 65536 in
theorem w_c28 : (Jvm.Cond.code ({ cls := "DeferredCountY", name := "placeNewObject", desc := "(I)V" } : Jvm.MethodName) prog_1_method_21_code (2 : Nat) (Option.none : Option Jvm.ClassFile.FieldType)).before args0 about1 = true := code_word (m := ⟨2, 18⟩) (meth := k2m18) (c := k2c18) (by decide +kernel) rfl rfl rfl (by decide +kernel)
set_option maxRecDepth 65536 in
theorem w_c29 : (Jvm.Cond.code ({ cls := "DeferredCountY", name := "bringToLife", desc := "(I)V" } : Jvm.MethodName) prog_1_method_40_code (2 : Nat) (Option.none : Option Jvm.ClassFile.FieldType)).before args0 about1 = true := code_word (m := ⟨2, 37⟩) (meth := k2m37) (c := k2c37) (by decide +kernel) rfl rfl rfl (by decide +kernel)
set_option maxRecDepth 65536 in
theorem w_c30 : (Jvm.Cond.code ({ cls := "DeferredCountY", name := "tableInsert", desc := "(I)Z" } : Jvm.MethodName) prog_1_method_53_code (2 : Nat) (Option.some Jvm.ClassFile.FieldType.boolean)).before args0 about1 = true := code_word (m := ⟨2, 50⟩) (meth := k2m50) (c := k2c50) (by decide +kernel) rfl rfl rfl (by decide +kernel)
set_option maxRecDepth 65536 in
theorem w_c31 : (Jvm.Cond.code ({ cls := "DeferredCountY", name := "rootPush", desc := "(I)V" } : Jvm.MethodName) prog_1_method_48_code (2 : Nat) (Option.none : Option Jvm.ClassFile.FieldType)).before args0 about1 = true := code_word (m := ⟨2, 45⟩) (meth := k2m45) (c := k2c45) (by decide +kernel) rfl rfl rfl (by decide +kernel)
set_option maxRecDepth 65536 in
theorem w_c32 : (Jvm.Cond.code ({ cls := "DeferredCountY", name := "root", desc := "(I)I" } : Jvm.MethodName) prog_1_method_9_code (2 : Nat) (Option.some Jvm.ClassFile.FieldType.int)).before args0 about1 = true := code_word (m := ⟨2, 8⟩) (meth := k2m8) (c := k2c8) (by decide +kernel) rfl rfl rfl (by decide +kernel)
set_option maxRecDepth 65536 in
theorem w_c33 : (Jvm.Cond.code ({ cls := "DeferredCountY", name := "field", desc := "(II)I" } : Jvm.MethodName) prog_1_method_11_code (3 : Nat) (Option.some Jvm.ClassFile.FieldType.int)).before args0 about1 = true := code_word (m := ⟨2, 10⟩) (meth := k2m10) (c := k2c10) (by decide +kernel) rfl rfl rfl (by decide +kernel)
set_option maxRecDepth 65536 in
theorem w_c34 : (Jvm.Cond.code ({ cls := "DeferredCountY", name := "isFieldNo", desc := "(I)Z" } : Jvm.MethodName) prog_1_method_61_code (2 : Nat) (Option.some Jvm.ClassFile.FieldType.boolean)).before args0 about1 = true := code_word (m := ⟨2, 58⟩) (meth := k2m58) (c := k2c58) (by decide +kernel) rfl rfl rfl (by decide +kernel)
set_option maxRecDepth 65536 in
theorem w_c35 : (Jvm.Cond.code ({ cls := "DeferredCountY", name := "readField", desc := "(II)I" } : Jvm.MethodName) prog_1_method_43_code (3 : Nat) (Option.some Jvm.ClassFile.FieldType.int)).before args0 about1 = true := code_word (m := ⟨2, 40⟩) (meth := k2m40) (c := k2c40) (by decide +kernel) rfl rfl rfl (by decide +kernel)
set_option maxRecDepth 65536 in
theorem w_c36 : (Jvm.Cond.code ({ cls := "DeferredCountY", name := "count", desc := "(I)I" } : Jvm.MethodName) prog_1_method_12_code (2 : Nat) (Option.some Jvm.ClassFile.FieldType.int)).before args0 about1 = true := code_word (m := ⟨2, 11⟩) (meth := k2m11) (c := k2c11) (by decide +kernel) rfl rfl rfl (by decide +kernel)
set_option maxRecDepth 65536 in
theorem w_c37 : (Jvm.Cond.code ({ cls := "DeferredCountY", name := "isValueSlot", desc := "(I)Z" } : Jvm.MethodName) prog_1_method_63_code (2 : Nat) (Option.some Jvm.ClassFile.FieldType.boolean)).before args0 about1 = true := code_word (m := ⟨2, 60⟩) (meth := k2m60) (c := k2c60) (by decide +kernel) rfl rfl rfl (by decide +kernel)
set_option maxRecDepth 65536 in
theorem w_c38 : (Jvm.Cond.code ({ cls := "DeferredCountY", name := "valueOfSlot", desc := "(I)I" } : Jvm.MethodName) prog_1_method_50_code (2 : Nat) (Option.some Jvm.ClassFile.FieldType.int)).before args0 about1 = true := code_word (m := ⟨2, 47⟩) (meth := k2m47) (c := k2c47) (by decide +kernel) rfl rfl rfl (by decide +kernel)
set_option maxRecDepth 65536 in
theorem w_c39 : (Jvm.Cond.code ({ cls := "DeferredCountY", name := "storeNeedsReconcile", desc := "(II)Z" } : Jvm.MethodName) prog_1_method_22_code (3 : Nat) (Option.some Jvm.ClassFile.FieldType.boolean)).before args0 about1 = true := code_word (m := ⟨2, 19⟩) (meth := k2m19) (c := k2c19) (by decide +kernel) rfl rfl rfl (by decide +kernel)
set_option maxRecDepth 65536 in
theorem w_c40 : (Jvm.Cond.code ({ cls := "DeferredCountY", name := "assignField", desc := "(III)V" } : Jvm.MethodName) prog_1_method_23_code (5 : Nat) (Option.none : Option Jvm.ClassFile.FieldType)).before args0 about1 = true := code_word (m := ⟨2, 20⟩) (meth := k2m20) (c := k2c20) (by decide +kernel) rfl rfl rfl (by decide +kernel)
set_option maxRecDepth 65536 in
theorem w_c41 : (Jvm.Cond.code ({ cls := "DeferredCountY", name := "refDec", desc := "(I)V" } : Jvm.MethodName) prog_1_method_46_code (2 : Nat) (Option.none : Option Jvm.ClassFile.FieldType)).before args0 about1 = true := code_word (m := ⟨2, 43⟩) (meth := k2m43) (c := k2c43) (by decide +kernel) rfl rfl rfl (by decide +kernel)
set_option maxRecDepth 65536 in
theorem w_c42 : (Jvm.Cond.code ({ cls := "DeferredCountY", name := "refInc", desc := "(I)V" } : Jvm.MethodName) prog_1_method_45_code (2 : Nat) (Option.none : Option Jvm.ClassFile.FieldType)).before args0 about1 = true := code_word (m := ⟨2, 42⟩) (meth := k2m42) (c := k2c42) (by decide +kernel) rfl rfl rfl (by decide +kernel)
set_option maxRecDepth 65536 in
theorem w_c43 : (Jvm.Cond.code ({ cls := "DeferredCountY", name := "writeFieldRaw", desc := "(III)V" } : Jvm.MethodName) prog_1_method_44_code (4 : Nat) (Option.none : Option Jvm.ClassFile.FieldType)).before args0 about1 = true := code_word (m := ⟨2, 41⟩) (meth := k2m41) (c := k2c41) (by decide +kernel) rfl rfl rfl (by decide +kernel)
set_option maxRecDepth 65536 in
theorem w_c44 : (Jvm.Cond.code ({ cls := "DeferredCountY", name := "noteZeroCount", desc := "(I)V" } : Jvm.MethodName) prog_1_method_24_code (2 : Nat) (Option.none : Option Jvm.ClassFile.FieldType)).before args0 about1 = true := code_word (m := ⟨2, 21⟩) (meth := k2m21) (c := k2c21) (by decide +kernel) rfl rfl rfl (by decide +kernel)
set_option maxRecDepth 65536 in
theorem w_c45 : (Jvm.Cond.code ({ cls := "DeferredCountY", name := "reconcile", desc := "()I" } : Jvm.MethodName) prog_1_method_7_code (1 : Nat) (Option.some Jvm.ClassFile.FieldType.int)).before args0 about1 = true := code_word (m := ⟨2, 6⟩) (meth := k2m6) (c := k2c6) (by decide +kernel) rfl rfl rfl (by decide +kernel)
set_option maxRecDepth 65536 in
theorem w_c46 : (Jvm.Cond.code ({ cls := "DeferredCountY", name := "runReconciliation", desc := "()I" } : Jvm.MethodName) prog_1_method_25_code (2 : Nat) (Option.some Jvm.ClassFile.FieldType.int)).before args0 about1 = true := code_word (m := ⟨2, 22⟩) (meth := k2m22) (c := k2c22) (by decide +kernel) rfl rfl rfl (by decide +kernel)
set_option maxRecDepth 65536 in
theorem w_c47 : (Jvm.Cond.code ({ cls := "DeferredCountY", name := "markRootHeld", desc := "()V" } : Jvm.MethodName) prog_1_method_26_code (3 : Nat) (Option.none : Option Jvm.ClassFile.FieldType)).before args0 about1 = true := code_word (m := ⟨2, 23⟩) (meth := k2m23) (c := k2c23) (by decide +kernel) rfl rfl rfl (by decide +kernel)
set_option maxRecDepth 65536 in
theorem w_c48 : (Jvm.Cond.code ({ cls := "DeferredCountY", name := "countHolders", desc := "()V" } : Jvm.MethodName) prog_1_method_27_code (2 : Nat) (Option.none : Option Jvm.ClassFile.FieldType)).before args0 about1 = true := code_word (m := ⟨2, 24⟩) (meth := k2m24) (c := k2c24) (by decide +kernel) rfl rfl rfl (by decide +kernel)
set_option maxRecDepth 65536 in
theorem w_c49 : (Jvm.Cond.code ({ cls := "DeferredCountY", name := "seedWork", desc := "()V" } : Jvm.MethodName) prog_1_method_29_code (2 : Nat) (Option.none : Option Jvm.ClassFile.FieldType)).before args0 about1 = true := code_word (m := ⟨2, 26⟩) (meth := k2m26) (c := k2c26) (by decide +kernel) rfl rfl rfl (by decide +kernel)
set_option maxRecDepth 65536 in
theorem w_c50 : (Jvm.Cond.code ({ cls := "DeferredCountY", name := "eligible", desc := "(I)Z" } : Jvm.MethodName) prog_1_method_30_code (2 : Nat) (Option.some Jvm.ClassFile.FieldType.boolean)).before args0 about1 = true := code_word (m := ⟨2, 27⟩) (meth := k2m27) (c := k2c27) (by decide +kernel) rfl rfl rfl (by decide +kernel)
set_option maxRecDepth 65536 in
theorem w_c51 : (Jvm.Cond.code ({ cls := "DeferredCountY", name := "cascade", desc := "()V" } : Jvm.MethodName) prog_1_method_32_code (3 : Nat) (Option.none : Option Jvm.ClassFile.FieldType)).before args0 about1 = true := code_word (m := ⟨2, 29⟩) (meth := k2m29) (c := k2c29) (by decide +kernel) rfl rfl rfl (by decide +kernel)
set_option maxRecDepth 65536 in
theorem w_c52 : (Jvm.Cond.code ({ cls := "DeferredCountY", name := "sweep", desc := "()I" } : Jvm.MethodName) prog_1_method_34_code (3 : Nat) (Option.some Jvm.ClassFile.FieldType.int)).before args0 about1 = true := code_word (m := ⟨2, 31⟩) (meth := k2m31) (c := k2c31) (by decide +kernel) rfl rfl rfl (by decide +kernel)
set_option maxRecDepth 65536 in
theorem w_c53 : (Jvm.Cond.code ({ cls := "DeferredCountY", name := "recountRefs", desc := "()V" } : Jvm.MethodName) prog_1_method_35_code (2 : Nat) (Option.none : Option Jvm.ClassFile.FieldType)).before args0 about1 = true := code_word (m := ⟨2, 32⟩) (meth := k2m32) (c := k2c32) (by decide +kernel) rfl rfl rfl (by decide +kernel)
set_option maxRecDepth 65536 in
theorem w_c54 : (Jvm.Cond.code ({ cls := "DeferredCountY", name := "rebuildTable", desc := "()V" } : Jvm.MethodName) prog_1_method_37_code (2 : Nat) (Option.none : Option Jvm.ClassFile.FieldType)).before args0 about1 = true := code_word (m := ⟨2, 34⟩) (meth := k2m34) (c := k2c34) (by decide +kernel) rfl rfl rfl (by decide +kernel)
set_option maxRecDepth 65536 in
theorem w_c55 : (Jvm.Cond.code ({ cls := "DeferredCountY", name := "pop", desc := "()I" } : Jvm.MethodName) prog_1_method_6_code (1 : Nat) (Option.some Jvm.ClassFile.FieldType.int)).before args0 about1 = true := code_word (m := ⟨2, 5⟩) (meth := k2m5) (c := k2c5) (by decide +kernel) rfl rfl rfl (by decide +kernel)
set_option maxRecDepth 65536 in
theorem w_c56 : (Jvm.Cond.code ({ cls := "DeferredCountY", name := "addHoldersOf", desc := "(I)V" } : Jvm.MethodName) prog_1_method_28_code (4 : Nat) (Option.none : Option Jvm.ClassFile.FieldType)).before args0 about1 = true := code_word (m := ⟨2, 25⟩) (meth := k2m25) (c := k2c25) (by decide +kernel) rfl rfl rfl (by decide +kernel)
set_option maxRecDepth 65536 in
theorem w_c57 : (Jvm.Cond.code ({ cls := "DeferredCountY", name := "countOutgoing", desc := "(I)V" } : Jvm.MethodName) prog_1_method_36_code (4 : Nat) (Option.none : Option Jvm.ClassFile.FieldType)).before args0 about1 = true := code_word (m := ⟨2, 33⟩) (meth := k2m33) (c := k2c33) (by decide +kernel) rfl rfl rfl (by decide +kernel)
set_option maxRecDepth 65536 in
theorem w_c58 : (Jvm.Cond.code ({ cls := "DeferredCountY", name := "rootPopTop", desc := "()V" } : Jvm.MethodName) prog_1_method_49_code (1 : Nat) (Option.none : Option Jvm.ClassFile.FieldType)).before args0 about1 = true := code_word (m := ⟨2, 46⟩) (meth := k2m46) (c := k2c46) (by decide +kernel) rfl rfl rfl (by decide +kernel)
set_option maxRecDepth 65536 in
theorem w_c59 : (Jvm.Cond.code ({ cls := "DeferredCountY", name := "push", desc := "(I)I" } : Jvm.MethodName) prog_1_method_5_code (4 : Nat) (Option.some Jvm.ClassFile.FieldType.int)).before args0 about1 = true := code_word (m := ⟨2, 4⟩) (meth := k2m4) (c := k2c4) (by decide +kernel) rfl rfl rfl (by decide +kernel)
set_option maxRecDepth 65536 in
theorem w_c60 : (Jvm.Cond.code ({ cls := "DeferredCountY", name := "pushCheck", desc := "(I)I" } : Jvm.MethodName) prog_1_method_19_code (2 : Nat) (Option.some Jvm.ClassFile.FieldType.int)).before args0 about1 = true := code_word (m := ⟨2, 16⟩) (meth := k2m16) (c := k2c16) (by decide +kernel) rfl rfl rfl (by decide +kernel)
set_option maxRecDepth 65536 in
theorem w_c61 : (Jvm.Cond.code ({ cls := "DeferredCountY", name := "enqueue", desc := "(I)V" } : Jvm.MethodName) prog_1_method_31_code (2 : Nat) (Option.none : Option Jvm.ClassFile.FieldType)).before args0 about1 = true := code_word (m := ⟨2, 28⟩) (meth := k2m28) (c := k2c28) (by decide +kernel) rfl rfl rfl (by decide +kernel)
set_option maxRecDepth 65536 in
theorem w_c62 : (Jvm.Cond.code ({ cls := "DeferredCountY", name := "dropHoldersOf", desc := "(I)V" } : Jvm.MethodName) prog_1_method_33_code (4 : Nat) (Option.none : Option Jvm.ClassFile.FieldType)).before args0 about1 = true := code_word (m := ⟨2, 30⟩) (meth := k2m30) (c := k2c30) (by decide +kernel) rfl rfl rfl (by decide +kernel)
set_option maxRecDepth 65536 in
theorem w_c63 : (Jvm.Cond.code ({ cls := "DeferredCountY", name := "releaseCell", desc := "(I)V" } : Jvm.MethodName) prog_1_method_41_code (2 : Nat) (Option.none : Option Jvm.ClassFile.FieldType)).before args0 about1 = true := code_word (m := ⟨2, 38⟩) (meth := k2m38) (c := k2c38) (by decide +kernel) rfl rfl rfl (by decide +kernel)
def codes1 : List Jvm.Cond := [Jvm.Cond.code x code maxLocals ret, Jvm.Cond.code ({ cls := "DeferredCountYOwnLaw", name := "cell", desc := "([II)I" } : Jvm.MethodName) method_2_code (2 : Nat) (Option.some Jvm.ClassFile.FieldType.int), Jvm.Cond.code ({ cls := "DeferredCountY", name := "<init>", desc := "(IIII)V" } : Jvm.MethodName) prog_1_method_1_code (6 : Nat) (Option.none : Option Jvm.ClassFile.FieldType), Jvm.Cond.code ({ cls := "java/lang/Object", name := "<init>", desc := "()V" } : Jvm.MethodName) object_method_1_code (1 : Nat) (Option.none : Option Jvm.ClassFile.FieldType), Jvm.Cond.code ({ cls := "DeferredCountY", name := "clamp", desc := "(III)I" } : Jvm.MethodName) prog_1_method_58_code (3 : Nat) (Option.some Jvm.ClassFile.FieldType.int), Jvm.Cond.code ({ cls := "DeferredCountY", name := "resetHeap", desc := "()V" } : Jvm.MethodName) prog_1_method_54_code (2 : Nat) (Option.none : Option Jvm.ClassFile.FieldType), Jvm.Cond.code ({ cls := "DeferredCountY", name := "clearCellFields", desc := "(I)V" } : Jvm.MethodName) prog_1_method_42_code (4 : Nat) (Option.none : Option Jvm.ClassFile.FieldType), Jvm.Cond.code ({ cls := "DeferredCountY", name := "resetRoots", desc := "()V" } : Jvm.MethodName) prog_1_method_55_code (2 : Nat) (Option.none : Option Jvm.ClassFile.FieldType), Jvm.Cond.code ({ cls := "DeferredCountY", name := "resetTable", desc := "()V" } : Jvm.MethodName) prog_1_method_56_code (2 : Nat) (Option.none : Option Jvm.ClassFile.FieldType), Jvm.Cond.code ({ cls := "DeferredCountY", name := "resetScratch", desc := "()V" } : Jvm.MethodName) prog_1_method_57_code (2 : Nat) (Option.none : Option Jvm.ClassFile.FieldType), Jvm.Cond.code ({ cls := "DeferredCountY", name := "depth", desc := "()I" } : Jvm.MethodName) prog_1_method_8_code (1 : Nat) (Option.some Jvm.ClassFile.FieldType.int), Jvm.Cond.code ({ cls := "DeferredCountY", name := "isLive", desc := "(I)Z" } : Jvm.MethodName) prog_1_method_10_code (2 : Nat) (Option.some Jvm.ClassFile.FieldType.boolean), Jvm.Cond.code ({ cls := "DeferredCountY", name := "isLiveId", desc := "(I)Z" } : Jvm.MethodName) prog_1_method_60_code (2 : Nat) (Option.some Jvm.ClassFile.FieldType.boolean), Jvm.Cond.code ({ cls := "DeferredCountY", name := "isObjectId", desc := "(I)Z" } : Jvm.MethodName) prog_1_method_59_code (2 : Nat) (Option.some Jvm.ClassFile.FieldType.boolean), Jvm.Cond.code ({ cls := "DeferredCountY", name := "inTable", desc := "(I)Z" } : Jvm.MethodName) prog_1_method_13_code (2 : Nat) (Option.some Jvm.ClassFile.FieldType.boolean), Jvm.Cond.code ({ cls := "DeferredCountY", name := "tableHas", desc := "(I)Z" } : Jvm.MethodName) prog_1_method_51_code (2 : Nat) (Option.some Jvm.ClassFile.FieldType.boolean), Jvm.Cond.code ({ cls := "DeferredCountY", name := "tableSize", desc := "()I" } : Jvm.MethodName) prog_1_method_14_code (1 : Nat) (Option.some Jvm.ClassFile.FieldType.int), Jvm.Cond.code ({ cls := "DeferredCountY", name := "store", desc := "(III)I" } : Jvm.MethodName) prog_1_method_4_code (8 : Nat) (Option.some Jvm.ClassFile.FieldType.int), Jvm.Cond.code ({ cls := "DeferredCountY", name := "storeCheck", desc := "(III)I" } : Jvm.MethodName) prog_1_method_18_code (4 : Nat) (Option.some Jvm.ClassFile.FieldType.int), Jvm.Cond.code ({ cls := "DeferredCountY", name := "isRootSlot", desc := "(I)Z" } : Jvm.MethodName) prog_1_method_62_code (2 : Nat) (Option.some Jvm.ClassFile.FieldType.boolean), Jvm.Cond.code ({ cls := "DeferredCountY", name := "load", desc := "(II)I" } : Jvm.MethodName) prog_1_method_3_code (6 : Nat) (Option.some Jvm.ClassFile.FieldType.int), Jvm.Cond.code ({ cls := "DeferredCountY", name := "loadCheck", desc := "(II)I" } : Jvm.MethodName) prog_1_method_17_code (3 : Nat) (Option.some Jvm.ClassFile.FieldType.int), Jvm.Cond.code ({ cls := "DeferredCountY", name := "rootsFull", desc := "()Z" } : Jvm.MethodName) prog_1_method_47_code (1 : Nat) (Option.some Jvm.ClassFile.FieldType.boolean), Jvm.Cond.code ({ cls := "DeferredCountY", name := "alloc", desc := "()I" } : Jvm.MethodName) prog_1_method_2_code (2 : Nat) (Option.some Jvm.ClassFile.FieldType.int), Jvm.Cond.code ({ cls := "DeferredCountY", name := "allocNeedsReconcile", desc := "()Z" } : Jvm.MethodName) prog_1_method_20_code (1 : Nat) (Option.some Jvm.ClassFile.FieldType.boolean), Jvm.Cond.code ({ cls := "DeferredCountY", name := "hasFreeCell", desc := "()Z" } : Jvm.MethodName) prog_1_method_38_code (1 : Nat) (Option.some Jvm.ClassFile.FieldType.boolean), Jvm.Cond.code ({ cls := "DeferredCountY", name := "tableIsFull", desc := "()Z" } : Jvm.MethodName) prog_1_method_52_code (1 : Nat) (Option.some Jvm.ClassFile.FieldType.boolean), Jvm.Cond.code ({ cls := "DeferredCountY", name := "lowestFreeCell", desc := "()I" } : Jvm.MethodName) prog_1_method_39_code (2 : Nat) (Option.some Jvm.ClassFile.FieldType.int), Jvm.Cond.code ({ cls := "DeferredCountY", name := "placeNewObject", desc := "(I)V" } : Jvm.MethodName) prog_1_method_21_code (2 : Nat) (Option.none : Option Jvm.ClassFile.FieldType), Jvm.Cond.code ({ cls := "DeferredCountY", name := "bringToLife", desc := "(I)V" } : Jvm.MethodName) prog_1_method_40_code (2 : Nat) (Option.none : Option Jvm.ClassFile.FieldType), Jvm.Cond.code ({ cls := "DeferredCountY", name := "tableInsert", desc := "(I)Z" } : Jvm.MethodName) prog_1_method_53_code (2 : Nat) (Option.some Jvm.ClassFile.FieldType.boolean), Jvm.Cond.code ({ cls := "DeferredCountY", name := "rootPush", desc := "(I)V" } : Jvm.MethodName) prog_1_method_48_code (2 : Nat) (Option.none : Option Jvm.ClassFile.FieldType), Jvm.Cond.code ({ cls := "DeferredCountY", name := "root", desc := "(I)I" } : Jvm.MethodName) prog_1_method_9_code (2 : Nat) (Option.some Jvm.ClassFile.FieldType.int), Jvm.Cond.code ({ cls := "DeferredCountY", name := "field", desc := "(II)I" } : Jvm.MethodName) prog_1_method_11_code (3 : Nat) (Option.some Jvm.ClassFile.FieldType.int), Jvm.Cond.code ({ cls := "DeferredCountY", name := "isFieldNo", desc := "(I)Z" } : Jvm.MethodName) prog_1_method_61_code (2 : Nat) (Option.some Jvm.ClassFile.FieldType.boolean), Jvm.Cond.code ({ cls := "DeferredCountY", name := "readField", desc := "(II)I" } : Jvm.MethodName) prog_1_method_43_code (3 : Nat) (Option.some Jvm.ClassFile.FieldType.int), Jvm.Cond.code ({ cls := "DeferredCountY", name := "count", desc := "(I)I" } : Jvm.MethodName) prog_1_method_12_code (2 : Nat) (Option.some Jvm.ClassFile.FieldType.int), Jvm.Cond.code ({ cls := "DeferredCountY", name := "isValueSlot", desc := "(I)Z" } : Jvm.MethodName) prog_1_method_63_code (2 : Nat) (Option.some Jvm.ClassFile.FieldType.boolean), Jvm.Cond.code ({ cls := "DeferredCountY", name := "valueOfSlot", desc := "(I)I" } : Jvm.MethodName) prog_1_method_50_code (2 : Nat) (Option.some Jvm.ClassFile.FieldType.int), Jvm.Cond.code ({ cls := "DeferredCountY", name := "storeNeedsReconcile", desc := "(II)Z" } : Jvm.MethodName) prog_1_method_22_code (3 : Nat) (Option.some Jvm.ClassFile.FieldType.boolean), Jvm.Cond.code ({ cls := "DeferredCountY", name := "assignField", desc := "(III)V" } : Jvm.MethodName) prog_1_method_23_code (5 : Nat) (Option.none : Option Jvm.ClassFile.FieldType), Jvm.Cond.code ({ cls := "DeferredCountY", name := "refDec", desc := "(I)V" } : Jvm.MethodName) prog_1_method_46_code (2 : Nat) (Option.none : Option Jvm.ClassFile.FieldType), Jvm.Cond.code ({ cls := "DeferredCountY", name := "refInc", desc := "(I)V" } : Jvm.MethodName) prog_1_method_45_code (2 : Nat) (Option.none : Option Jvm.ClassFile.FieldType), Jvm.Cond.code ({ cls := "DeferredCountY", name := "writeFieldRaw", desc := "(III)V" } : Jvm.MethodName) prog_1_method_44_code (4 : Nat) (Option.none : Option Jvm.ClassFile.FieldType), Jvm.Cond.code ({ cls := "DeferredCountY", name := "noteZeroCount", desc := "(I)V" } : Jvm.MethodName) prog_1_method_24_code (2 : Nat) (Option.none : Option Jvm.ClassFile.FieldType), Jvm.Cond.code ({ cls := "DeferredCountY", name := "reconcile", desc := "()I" } : Jvm.MethodName) prog_1_method_7_code (1 : Nat) (Option.some Jvm.ClassFile.FieldType.int), Jvm.Cond.code ({ cls := "DeferredCountY", name := "runReconciliation", desc := "()I" } : Jvm.MethodName) prog_1_method_25_code (2 : Nat) (Option.some Jvm.ClassFile.FieldType.int), Jvm.Cond.code ({ cls := "DeferredCountY", name := "markRootHeld", desc := "()V" } : Jvm.MethodName) prog_1_method_26_code (3 : Nat) (Option.none : Option Jvm.ClassFile.FieldType), Jvm.Cond.code ({ cls := "DeferredCountY", name := "countHolders", desc := "()V" } : Jvm.MethodName) prog_1_method_27_code (2 : Nat) (Option.none : Option Jvm.ClassFile.FieldType), Jvm.Cond.code ({ cls := "DeferredCountY", name := "seedWork", desc := "()V" } : Jvm.MethodName) prog_1_method_29_code (2 : Nat) (Option.none : Option Jvm.ClassFile.FieldType), Jvm.Cond.code ({ cls := "DeferredCountY", name := "eligible", desc := "(I)Z" } : Jvm.MethodName) prog_1_method_30_code (2 : Nat) (Option.some Jvm.ClassFile.FieldType.boolean), Jvm.Cond.code ({ cls := "DeferredCountY", name := "cascade", desc := "()V" } : Jvm.MethodName) prog_1_method_32_code (3 : Nat) (Option.none : Option Jvm.ClassFile.FieldType), Jvm.Cond.code ({ cls := "DeferredCountY", name := "sweep", desc := "()I" } : Jvm.MethodName) prog_1_method_34_code (3 : Nat) (Option.some Jvm.ClassFile.FieldType.int), Jvm.Cond.code ({ cls := "DeferredCountY", name := "recountRefs", desc := "()V" } : Jvm.MethodName) prog_1_method_35_code (2 : Nat) (Option.none : Option Jvm.ClassFile.FieldType), Jvm.Cond.code ({ cls := "DeferredCountY", name := "rebuildTable", desc := "()V" } : Jvm.MethodName) prog_1_method_37_code (2 : Nat) (Option.none : Option Jvm.ClassFile.FieldType), Jvm.Cond.code ({ cls := "DeferredCountY", name := "pop", desc := "()I" } : Jvm.MethodName) prog_1_method_6_code (1 : Nat) (Option.some Jvm.ClassFile.FieldType.int), Jvm.Cond.code ({ cls := "DeferredCountY", name := "addHoldersOf", desc := "(I)V" } : Jvm.MethodName) prog_1_method_28_code (4 : Nat) (Option.none : Option Jvm.ClassFile.FieldType), Jvm.Cond.code ({ cls := "DeferredCountY", name := "countOutgoing", desc := "(I)V" } : Jvm.MethodName) prog_1_method_36_code (4 : Nat) (Option.none : Option Jvm.ClassFile.FieldType), Jvm.Cond.code ({ cls := "DeferredCountY", name := "rootPopTop", desc := "()V" } : Jvm.MethodName) prog_1_method_49_code (1 : Nat) (Option.none : Option Jvm.ClassFile.FieldType), Jvm.Cond.code ({ cls := "DeferredCountY", name := "push", desc := "(I)I" } : Jvm.MethodName) prog_1_method_5_code (4 : Nat) (Option.some Jvm.ClassFile.FieldType.int), Jvm.Cond.code ({ cls := "DeferredCountY", name := "pushCheck", desc := "(I)I" } : Jvm.MethodName) prog_1_method_19_code (2 : Nat) (Option.some Jvm.ClassFile.FieldType.int), Jvm.Cond.code ({ cls := "DeferredCountY", name := "enqueue", desc := "(I)V" } : Jvm.MethodName) prog_1_method_31_code (2 : Nat) (Option.none : Option Jvm.ClassFile.FieldType), Jvm.Cond.code ({ cls := "DeferredCountY", name := "dropHoldersOf", desc := "(I)V" } : Jvm.MethodName) prog_1_method_33_code (4 : Nat) (Option.none : Option Jvm.ClassFile.FieldType), Jvm.Cond.code ({ cls := "DeferredCountY", name := "releaseCell", desc := "(I)V" } : Jvm.MethodName) prog_1_method_41_code (2 : Nat) (Option.none : Option Jvm.ClassFile.FieldType)]
set_option maxRecDepth 65536 in
theorem codes_eq : words1.filter isCode = codes1 := rfl
theorem w_codes : ∀ c ∈ words1.filter isCode, c.before args0 about1 = true := by
  rw [codes_eq]
  intro c hc
  simp only [codes1, List.mem_cons, List.not_mem_nil, or_false] at hc
  rcases hc with rfl | rfl | rfl | rfl | rfl | rfl | rfl | rfl | rfl | rfl | rfl | rfl | rfl | rfl | rfl | rfl | rfl | rfl | rfl | rfl | rfl | rfl | rfl | rfl | rfl | rfl | rfl | rfl | rfl | rfl | rfl | rfl | rfl | rfl | rfl | rfl | rfl | rfl | rfl | rfl | rfl | rfl | rfl | rfl | rfl | rfl | rfl | rfl | rfl | rfl | rfl | rfl | rfl | rfl | rfl | rfl | rfl | rfl | rfl | rfl | rfl | rfl | rfl | rfl
  · exact w_c0
  · exact w_c1
  · exact w_c2
  · exact w_c3
  · exact w_c4
  · exact w_c5
  · exact w_c6
  · exact w_c7
  · exact w_c8
  · exact w_c9
  · exact w_c10
  · exact w_c11
  · exact w_c12
  · exact w_c13
  · exact w_c14
  · exact w_c15
  · exact w_c16
  · exact w_c17
  · exact w_c18
  · exact w_c19
  · exact w_c20
  · exact w_c21
  · exact w_c22
  · exact w_c23
  · exact w_c24
  · exact w_c25
  · exact w_c26
  · exact w_c27
  · exact w_c28
  · exact w_c29
  · exact w_c30
  · exact w_c31
  · exact w_c32
  · exact w_c33
  · exact w_c34
  · exact w_c35
  · exact w_c36
  · exact w_c37
  · exact w_c38
  · exact w_c39
  · exact w_c40
  · exact w_c41
  · exact w_c42
  · exact w_c43
  · exact w_c44
  · exact w_c45
  · exact w_c46
  · exact w_c47
  · exact w_c48
  · exact w_c49
  · exact w_c50
  · exact w_c51
  · exact w_c52
  · exact w_c53
  · exact w_c54
  · exact w_c55
  · exact w_c56
  · exact w_c57
  · exact w_c58
  · exact w_c59
  · exact w_c60
  · exact w_c61
  · exact w_c62
  · exact w_c63
set_option maxRecDepth 65536 in
theorem w_t1 : (words1.take 24).all (fun c => isCode c || c.before args0 about1) = true := by decide +kernel
set_option maxRecDepth 65536 in
theorem w_t2 : ((words1.drop 24).take 24).all (fun c => isCode c || c.before args0 about1) = true := by decide +kernel
set_option maxRecDepth 65536 in
theorem w_t3 : (((words1.drop 24).drop 24).take 24).all (fun c => isCode c || c.before args0 about1) = true := by decide +kernel
set_option maxRecDepth 65536 in
theorem w_t4 : ((((words1.drop 24).drop 24).drop 24).take 24).all (fun c => isCode c || c.before args0 about1) = true := by decide +kernel
set_option maxRecDepth 65536 in
theorem w_t5 : (((((words1.drop 24).drop 24).drop 24).drop 24).take 24).all (fun c => isCode c || c.before args0 about1) = true := by decide +kernel
set_option maxRecDepth 65536 in
theorem w_t6 : ((((((words1.drop 24).drop 24).drop 24).drop 24).drop 24).take 24).all (fun c => isCode c || c.before args0 about1) = true := by decide +kernel
set_option maxRecDepth 65536 in
theorem w_t7 : (((((((words1.drop 24).drop 24).drop 24).drop 24).drop 24).drop 24).take 24).all (fun c => isCode c || c.before args0 about1) = true := by decide +kernel
set_option maxRecDepth 65536 in
theorem w_t8 : ((((((((words1.drop 24).drop 24).drop 24).drop 24).drop 24).drop 24).drop 24).take 24).all (fun c => isCode c || c.before args0 about1) = true := by decide +kernel
set_option maxRecDepth 65536 in
theorem w_t9 : (((((((((words1.drop 24).drop 24).drop 24).drop 24).drop 24).drop 24).drop 24).drop 24).take 24).all (fun c => isCode c || c.before args0 about1) = true := by decide +kernel
set_option maxRecDepth 65536 in
theorem w_t10 : ((((((((((words1.drop 24).drop 24).drop 24).drop 24).drop 24).drop 24).drop 24).drop 24).drop 24).take 24).all (fun c => isCode c || c.before args0 about1) = true := by decide +kernel
set_option maxRecDepth 65536 in
theorem w_t11 : (((((((((((words1.drop 24).drop 24).drop 24).drop 24).drop 24).drop 24).drop 24).drop 24).drop 24).drop 24).take 24).all (fun c => isCode c || c.before args0 about1) = true := by decide +kernel
set_option maxRecDepth 65536 in
theorem w_t12 : ((((((((((((words1.drop 24).drop 24).drop 24).drop 24).drop 24).drop 24).drop 24).drop 24).drop 24).drop 24).drop 24).take 24).all (fun c => isCode c || c.before args0 about1) = true := by decide +kernel
set_option maxRecDepth 65536 in
theorem w_t13 : ((((((((((((words1.drop 24).drop 24).drop 24).drop 24).drop 24).drop 24).drop 24).drop 24).drop 24).drop 24).drop 24).drop 24).all (fun c => isCode c || c.before args0 about1) = true := by decide +kernel
theorem w_tables : (allAtoms (Jvm.Cond.code x code maxLocals ret :: tables_1)).before args0 about1 = true := by
  rw [allAtoms_all]
  show words1.all (fun c => c.before args0 about1) = true
  refine all_split ?_ w_codes
  rw [← List.take_append_drop 24 words1, List.all_append, w_t1, ← List.take_append_drop 24 (words1.drop 24), List.all_append, w_t2, ← List.take_append_drop 24 ((words1.drop 24).drop 24), List.all_append, w_t3, ← List.take_append_drop 24 (((words1.drop 24).drop 24).drop 24), List.all_append, w_t4, ← List.take_append_drop 24 ((((words1.drop 24).drop 24).drop 24).drop 24), List.all_append, w_t5, ← List.take_append_drop 24 (((((words1.drop 24).drop 24).drop 24).drop 24).drop 24), List.all_append, w_t6, ← List.take_append_drop 24 ((((((words1.drop 24).drop 24).drop 24).drop 24).drop 24).drop 24), List.all_append, w_t7, ← List.take_append_drop 24 (((((((words1.drop 24).drop 24).drop 24).drop 24).drop 24).drop 24).drop 24), List.all_append, w_t8, ← List.take_append_drop 24 ((((((((words1.drop 24).drop 24).drop 24).drop 24).drop 24).drop 24).drop 24).drop 24), List.all_append, w_t9, ← List.take_append_drop 24 (((((((((words1.drop 24).drop 24).drop 24).drop 24).drop 24).drop 24).drop 24).drop 24).drop 24), List.all_append, w_t10, ← List.take_append_drop 24 ((((((((((words1.drop 24).drop 24).drop 24).drop 24).drop 24).drop 24).drop 24).drop 24).drop 24).drop 24), List.all_append, w_t11, ← List.take_append_drop 24 (((((((((((words1.drop 24).drop 24).drop 24).drop 24).drop 24).drop 24).drop 24).drop 24).drop 24).drop 24).drop 24), List.all_append, w_t12, w_t13]
  rfl
set_option maxRecDepth 65536 in
theorem w_rest : rest_1_c.before args0 about1 = true := by decide +kernel
set_option maxRecDepth 65536 in
theorem w_case : (Jvm.Cond.and given_1 narrow_1).before args0 about1 = true := by decide +kernel
theorem w_applies : (headSpec (Jvm.Cond.code x code maxLocals ret :: tables_1) room_1).applies x e0.platform about1 = true :=
  (Spec.applies_iff w_frames).mpr ⟨w_running, w_runnable, w_alone, w_named, w_hears, w_ripe, w_room, w_tables⟩
theorem atStart : AtStart classFile x code maxLocals ret World_1 tables_1 room_1 Calls_1 rest_1 Pre_1 launch0 p0 e0 about1 theMethod args0 below0 :=
  ⟨lists_1, trivial, launch0.admits_env _ _ _, launch0.least_env, fairChoices_fair.cas, fairChoices_fair.clock, w_frames, w_args, w_heap, w_applies, trivial, w_rest, w_case⟩
end start1
theorem witness_1 : WitnessClaimed_1 := ⟨start1.p0, start1.e0, start1.about1, start1.theMethod, start1.args0, start1.below0, start1.atStart⟩
end Jvm.Pilot.@@N@@
