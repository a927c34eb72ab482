import JvmDerived
import JvmDerived.Pilot.@@N@@Statement
import JvmDerived.Pilot.@@N@@Code
set_option linter.unusedVariables false
set_option linter.unusedSimpArgs false
namespace Jvm.AM
open Sem ClassFile Op Lib Jvm.Stand Jvm.Free Jvm.LawKit Jvm.RoadKit
/-! ## 1. The abstract objects: one object of the class, its scalars and its arrays by number -/
abbrev S : Type := (Nat → Int32) × (Nat → Int64) × (Nat → List Int32) × (Nat → List Int64)
def aupd {A : Type} (g : Nat → A) (f : Nat) (v : A) : Nat → A := fun x => if x = f then v else g x
def gI (s : S) (f : Nat) : Int32 := s.1 f
def gL (s : S) (f : Nat) : Int64 := s.2.1 f
def gA (s : S) (f : Nat) : List Int32 := s.2.2.1 f
def gB (s : S) (f : Nat) : List Int64 := s.2.2.2 f
def sI (s : S) (f : Nat) (v : Int32) : S := (aupd s.1 f v, s.2)
def sL (s : S) (f : Nat) (v : Int64) : S := (s.1, aupd s.2.1 f v, s.2.2)
def sA (s : S) (f : Nat) (v : List Int32) : S := (s.1, s.2.1, aupd s.2.2.1 f v, s.2.2.2)
def sB (s : S) (f : Nat) (v : List Int64) : S := (s.1, s.2.1, s.2.2.1, aupd s.2.2.2 f v)
def s0 : S := (fun _ => 0, fun _ => 0, fun _ => [], fun _ => [])
theorem gI_s0 (f : Nat) : gI s0 f = 0 := by simp only [gI, s0]
theorem gL_s0 (f : Nat) : gL s0 f = 0 := by simp only [gL, s0]
theorem gA_s0 (f : Nat) : gA s0 f = [] := by simp only [gA, s0]
theorem gB_s0 (f : Nat) : gB s0 f = [] := by simp only [gB, s0]
theorem gI_sI (s : S) (f g : Nat) (v : Int32) : gI (sI s f v) g = if g = f then v else gI s g := by simp only [gI, gL, gA, gB, sI, sL, sA, sB, aupd]
theorem gI_sL (s : S) (f g : Nat) (v : Int64) : gI (sL s f v) g = gI s g := by simp only [gI, gL, gA, gB, sI, sL, sA, sB, aupd]
theorem gI_sA (s : S) (f g : Nat) (v : List Int32) : gI (sA s f v) g = gI s g := by simp only [gI, gL, gA, gB, sI, sL, sA, sB, aupd]
theorem gI_sB (s : S) (f g : Nat) (v : List Int64) : gI (sB s f v) g = gI s g := by simp only [gI, gL, gA, gB, sI, sL, sA, sB, aupd]
theorem gL_sI (s : S) (f g : Nat) (v : Int32) : gL (sI s f v) g = gL s g := by simp only [gI, gL, gA, gB, sI, sL, sA, sB, aupd]
theorem gL_sL (s : S) (f g : Nat) (v : Int64) : gL (sL s f v) g = if g = f then v else gL s g := by simp only [gI, gL, gA, gB, sI, sL, sA, sB, aupd]
theorem gL_sA (s : S) (f g : Nat) (v : List Int32) : gL (sA s f v) g = gL s g := by simp only [gI, gL, gA, gB, sI, sL, sA, sB, aupd]
theorem gL_sB (s : S) (f g : Nat) (v : List Int64) : gL (sB s f v) g = gL s g := by simp only [gI, gL, gA, gB, sI, sL, sA, sB, aupd]
theorem gA_sI (s : S) (f g : Nat) (v : Int32) : gA (sI s f v) g = gA s g := by simp only [gI, gL, gA, gB, sI, sL, sA, sB, aupd]
theorem gA_sL (s : S) (f g : Nat) (v : Int64) : gA (sL s f v) g = gA s g := by simp only [gI, gL, gA, gB, sI, sL, sA, sB, aupd]
theorem gA_sA (s : S) (f g : Nat) (v : List Int32) : gA (sA s f v) g = if g = f then v else gA s g := by simp only [gI, gL, gA, gB, sI, sL, sA, sB, aupd]
theorem gA_sB (s : S) (f g : Nat) (v : List Int64) : gA (sB s f v) g = gA s g := by simp only [gI, gL, gA, gB, sI, sL, sA, sB, aupd]
theorem gB_sI (s : S) (f g : Nat) (v : Int32) : gB (sI s f v) g = gB s g := by simp only [gI, gL, gA, gB, sI, sL, sA, sB, aupd]
theorem gB_sL (s : S) (f g : Nat) (v : Int64) : gB (sL s f v) g = gB s g := by simp only [gI, gL, gA, gB, sI, sL, sA, sB, aupd]
theorem gB_sA (s : S) (f g : Nat) (v : List Int32) : gB (sA s f v) g = gB s g := by simp only [gI, gL, gA, gB, sI, sL, sA, sB, aupd]
theorem gB_sB (s : S) (f g : Nat) (v : List Int64) : gB (sB s f v) g = if g = f then v else gB s g := by simp only [gI, gL, gA, gB, sI, sL, sA, sB, aupd]
def rep {A : Type} (n : Nat) (x : A) : List A := List.replicate n x
theorem rep_length {A : Type} (n : Nat) (x : A) : (rep n x).length = n := by simp only [rep, List.length_replicate]
theorem rep_get {A : Type} (n : Nat) (x : A) (k : Nat) : (rep n x)[k]? = if k < n then some x else none := by simp only [rep, List.getElem?_replicate]
theorem rep_set {A : Type} (n : Nat) (x : A) (k : Nat) : (rep n x).set k x = rep n x := by simp only [rep, List.set_replicate_self]
/-- reading and writing a component -/
def ix {A : Type} (l : List A) (j : Int32) : Option A := if j < 0 then none else l[j.toNatClampNeg]?
def st {A : Type} (l : List A) (j : Int32) (x : A) : Option (List A) := if j < 0 then none else if j.toNatClampNeg < l.length then some (l.set j.toNatClampNeg x) else none
/-- the world of a run: the script array, if there is one; the objects made so far, each with the number of arrays that it has been given -/
abbrev W : Type := Option (List Int32) × List (Nat × S)
/-- the class: name, slots, scalar fields (name, descriptor, type), array fields in the order of their making (name, descriptor, component type, most slots) -/
abbrev CI : Type := String × Nat × List (String × String × FieldType) × List (String × String × FieldType × Nat)
def cN (c : CI) : String := c.1
def cF (c : CI) : Nat := c.2.1
def cS (c : CI) : List (String × String × FieldType) := c.2.2.1
def cA (c : CI) : List (String × String × FieldType × Nat) := c.2.2.2
def cK (c : CI) : Nat := (cA c).length
/-- the program: the sheet's words, the class -/
abbrev PI : Type := List Jvm.Cond × CI
/-- a method: name, bytes, variables, return type, room, most objects, whether it makes cells, cells and slots at its start -/
abbrev Meth : Type := MethodName × ByteArray × Nat × Option FieldType × Room × Nat × Bool × Nat × Nat
def mY (M : Meth) : MethodName := M.1
def mB (M : Meth) : ByteArray := M.2.1
def mL (M : Meth) : Nat := M.2.2.1
def mT (M : Meth) : Option FieldType := M.2.2.2.1
def mR (M : Meth) : Room := M.2.2.2.2.1
def mN (M : Meth) : Nat := M.2.2.2.2.2.1
def mTop (M : Meth) : Bool := M.2.2.2.2.2.2.1
def mUC (M : Meth) : Nat := M.2.2.2.2.2.2.2.1
def mUS (M : Meth) : Nat := M.2.2.2.2.2.2.2.2
/-! ## 2. Abstract references: 0 the script; j + 1 the cell at b + j -/
def con (α b : Nat) : Value → Value
  | .ref 0 => .ref α
  | .ref (j + 1) => .ref (b + j)
  | v => v
def cs (α b : Nat) : Slot → Slot
  | .val v => .val (con α b v)
  | .unset => .unset
  | .second => .second
def cL (α b : Nat) (L : List Slot) : Array Slot := (L.map (cs α b)).toArray
def cV (α b : Nat) (l : List Value) : List Value := l.map (con α b)
theorem con_cat (α b : Nat) (v : Value) : (con α b v).category = v.category := by
  cases v <;> try rfl
  rename_i a; cases a <;> rfl
theorem con_ref (α b : Nat) (v : Value) : (con α b v).isRef = v.isRef := by
  cases v <;> try rfl
  rename_i a; cases a <;> rfl
theorem cL_get {α b : Nat} {L : List Slot} {k : Nat} {x : Slot} (h : L[k]? = some x) : (cL α b L)[k]? = some (cs α b x) := by
  simp [cL, List.getElem?_toArray, List.getElem?_map, h]
theorem cL_size (α b : Nat) (L : List Slot) : (cL α b L).size = L.length := by simp [cL]
theorem cV_sum (α b : Nat) (l : List Value) : ((cV α b l).map fun v => v.category).sum = (l.map fun v => v.category).sum := by
  simp [cV, List.map_map, Function.comp_def, con_cat]
theorem setAt_map {α b : Nat} {l l' : Array Slot} {i : Nat} {x : Slot} (h : setAt l i x = some l') : setAt (l.map (cs α b)) i (cs α b x) = some (l'.map (cs α b)) := by
  unfold setAt at h ⊢
  split at h
  · rename_i q
    cases h
    rw [if_pos (by simpa using q)]
    simp [Array.map_setIfInBounds]
  · cases h
theorem storeSelf_map {α b : Nat} {l l' : Array Slot} {i : Nat} {v : Value} (h : storeSelf l i v = some l') : storeSelf (l.map (cs α b)) i (con α b v) = some (l'.map (cs α b)) := by
  simp only [storeSelf, Option.bind_eq_bind, Option.bind_eq_some_iff] at h ⊢
  obtain ⟨l1, h1, h2⟩ := h
  refine ⟨l1.map (cs α b), setAt_map (x := .val v) h1, ?_⟩
  rw [con_cat]
  split at h2
  · rename_i q
    rw [if_pos q]
    obtain ⟨x, h3, h4⟩ := Option.bind_eq_some_iff.mp h2
    refine Option.bind_eq_some_iff.mpr ⟨cs α b x, by simp [h3], ?_⟩
    cases x with
    | unset => exact setAt_map (x := .second) h4
    | second => exact setAt_map (x := .second) h4
    | val old =>
      simp only [cs, con_cat] at h4 ⊢
      split at h4
      · rename_i q2
        rw [if_pos q2]
        obtain ⟨y, h5, h6⟩ := Option.bind_eq_some_iff.mp h4
        exact Option.bind_eq_some_iff.mpr ⟨_, setAt_map (x := .unset) h5, setAt_map (x := .second) h6⟩
      · rename_i q2
        rw [if_neg q2]
        exact setAt_map (x := .second) h4
  · rename_i q
    rw [if_neg q]
    cases h2; rfl
theorem store_map {α b : Nat} {l l' : Array Slot} {i : Nat} {v : Value} (h : storeLocals l i v = some l') : storeLocals (l.map (cs α b)) i (con α b v) = some (l'.map (cs α b)) := by
  simp only [storeLocals, Option.bind_eq_bind, Option.bind_eq_some_iff] at h ⊢
  obtain ⟨x, h1, h2⟩ := h
  refine ⟨cs α b x, by simp [h1], ?_⟩
  cases x with
  | unset => exact storeSelf_map h2
  | second =>
    obtain ⟨y, h3, h4⟩ := Option.bind_eq_some_iff.mp h2
    exact Option.bind_eq_some_iff.mpr ⟨_, setAt_map (x := .unset) h3, storeSelf_map h4⟩
  | val old =>
    simp only [cs, con_cat] at h2 ⊢
    split at h2
    · rename_i q
      rw [if_pos q]
      obtain ⟨y, h3, h4⟩ := Option.bind_eq_some_iff.mp h2
      exact Option.bind_eq_some_iff.mpr ⟨_, setAt_map (x := .unset) h3, storeSelf_map h4⟩
    · rename_i q
      rw [if_neg q]
      exact storeSelf_map h2
theorem storeC {α b : Nat} {L L' : List Slot} {i : Nat} {v : Value} (h : storeLocals L.toArray i v = some L'.toArray) : storeLocals (cL α b L) i (con α b v) = some (cL α b L') := by
  have := store_map (α := α) (b := b) h
  simpa [cL] using this
theorem setAt_size {l l' : Array Slot} {i : Nat} {x : Slot} (h : setAt l i x = some l') : l'.size = l.size := by
  unfold setAt at h; split at h <;> cases h; simp
theorem storeSelf_size {l l' : Array Slot} {i : Nat} {v : Value} (h : storeSelf l i v = some l') : l'.size = l.size := by
  simp only [storeSelf, Option.bind_eq_bind, Option.bind_eq_some_iff] at h
  obtain ⟨l1, h1, h2⟩ := h
  have e1 := setAt_size h1
  split at h2
  · obtain ⟨x, h3, h4⟩ := Option.bind_eq_some_iff.mp h2
    cases x with
    | unset => exact (setAt_size h4).trans e1
    | second => exact (setAt_size h4).trans e1
    | val old =>
      dsimp only at h4
      split at h4
      · obtain ⟨y, h5, h6⟩ := Option.bind_eq_some_iff.mp h4
        exact (setAt_size h6).trans ((setAt_size h5).trans e1)
      · exact (setAt_size h4).trans e1
  · cases h2; exact e1
theorem store_size {l l' : Array Slot} {i : Nat} {v : Value} (h : storeLocals l i v = some l') : l'.size = l.size := by
  simp only [storeLocals, Option.bind_eq_bind, Option.bind_eq_some_iff] at h
  obtain ⟨x, h1, h2⟩ := h
  cases x with
  | unset => exact storeSelf_size h2
  | second =>
    obtain ⟨y, h3, h4⟩ := Option.bind_eq_some_iff.mp h2
    exact (storeSelf_size h4).trans (setAt_size h3)
  | val old =>
    dsimp only at h2
    split at h2
    · obtain ⟨y, h3, h4⟩ := Option.bind_eq_some_iff.mp h2
      exact (storeSelf_size h4).trans (setAt_size h3)
    · exact storeSelf_size h2
/-- a variable that may be written over by a value of one word -/
def k1 (o : Slot) : Prop := o = .unset ∨ ∃ w, o = .val w ∧ w.category = 1
def k2 (o o2 : Slot) : Prop := (o = .unset ∧ o2 = .unset) ∨ ∃ u, o = .val (.long u) ∧ o2 = .second
theorem setAt_l {L : List Slot} {k : Nat} {x : Slot} (h : k < L.length) : setAt L.toArray k x = some (L.set k x).toArray := by simp [setAt, h]
theorem get_l {L : List Slot} {k : Nat} {o : Slot} (h : L[k]? = some o) : L.toArray[k]? = some o := by rw [List.getElem?_toArray]; exact h
theorem store_u {L : List Slot} {k : Nat} {v : Value} (h : L[k]? = some .unset) : storeLocals L.toArray k v = storeSelf L.toArray k v := by
  simp only [storeLocals, Option.bind_eq_bind, get_l h, Option.bind_some]
theorem store_1 {L : List Slot} {k : Nat} {v w : Value} (h : L[k]? = some (.val w)) (hw : w.category = 1) : storeLocals L.toArray k v = storeSelf L.toArray k v := by
  simp only [storeLocals, Option.bind_eq_bind, get_l h, Option.bind_some]
  rw [if_neg (by rw [hw]; decide)]
theorem store_k {L : List Slot} {k : Nat} {v : Value} {o : Slot} (h : L[k]? = some o) (ho : k1 o) : storeLocals L.toArray k v = storeSelf L.toArray k v := by
  rcases ho with rfl | ⟨w, rfl, hw⟩
  · exact store_u h
  · exact store_1 h hw
theorem store_2 {L : List Slot} {k : Nat} {v w : Value} (h : L[k]? = some (.val w)) (hw : w.category = 2) (l2 : k + 1 < L.length) : storeLocals L.toArray k v = storeSelf (L.set (k + 1) .unset).toArray k v := by
  simp only [storeLocals, Option.bind_eq_bind, get_l h, Option.bind_some]
  rw [if_pos hw, setAt_l l2, Option.bind_some]
theorem self_1 {L : List Slot} {k : Nat} {v : Value} (hv : v.category = 1) (l : k < L.length) : storeSelf L.toArray k v = some (L.set k (.val v)).toArray := by
  simp only [storeSelf, Option.bind_eq_bind, setAt_l l, Option.bind_some]
  rw [if_neg (by rw [hv]; decide)]
theorem self_2 {L : List Slot} {k : Nat} {v : Value} {o : Slot} (hv : v.category = 2) (h : L[k + 1]? = some o) (ho : k1 o ∨ o = .second) (l : k < L.length) : storeSelf L.toArray k v = some ((L.set k (.val v)).set (k + 1) .second).toArray := by
  have l2 := (List.getElem?_eq_some_iff.mp h).1
  have e2 : (L.set k (.val v))[k + 1]? = some o := by rw [List.getElem?_set_ne (by omega)]; exact h
  simp only [storeSelf, Option.bind_eq_bind, setAt_l l, Option.bind_some]
  rw [if_pos hv, get_l e2, Option.bind_some]
  rcases ho with (rfl | ⟨w, rfl, hw⟩) | rfl
  · exact setAt_l (by rw [List.length_set]; exact l2)
  · dsimp only
    rw [if_neg (by rw [hw]; decide)]
    exact setAt_l (by rw [List.length_set]; exact l2)
  · exact setAt_l (by rw [List.length_set]; exact l2)
theorem self_3 {L : List Slot} {k : Nat} {v w : Value} (hv : v.category = 2) (h : L[k + 1]? = some (.val w)) (hw : w.category = 2) (l3 : k + 2 < L.length) (l : k < L.length) : storeSelf L.toArray k v = some (((L.set k (.val v)).set (k + 2) .unset).set (k + 1) .second).toArray := by
  have l2 := (List.getElem?_eq_some_iff.mp h).1
  have e2 : (L.set k (.val v))[k + 1]? = some (.val w) := by rw [List.getElem?_set_ne (by omega)]; exact h
  simp only [storeSelf, Option.bind_eq_bind, setAt_l l, Option.bind_some]
  rw [if_pos hv, get_l e2, Option.bind_some]
  dsimp only
  rw [if_pos hw, setAt_l (by rw [List.length_set]; exact l3), Option.bind_some, setAt_l (by rw [List.length_set, List.length_set]; exact l2)]
theorem stx {L : List Slot} {k : Nat} {o : Slot} {v : Value} (h : L[k]? = some o) (ho : k1 o) (hv : v.category = 1) : storeLocals L.toArray k v = some (L.set k (.val v)).toArray := by
  rw [store_k h ho, self_1 hv (List.getElem?_eq_some_iff.mp h).1]
theorem stx3 {L : List Slot} {k : Nat} {o o2 : Slot} {u : Int64} (h : L[k]? = some o) (h2 : L[k + 1]? = some o2) (ho : k1 o) (ho2 : k1 o2) : storeLocals L.toArray k (.long u) = some ((L.set k (.val (.long u))).set (k + 1) .second).toArray := by
  rw [store_k h ho, self_2 rfl h2 (Or.inl ho2) (List.getElem?_eq_some_iff.mp h).1]
theorem stx2 {L : List Slot} {k : Nat} {o o2 : Slot} {u : Int64} (h : L[k]? = some o) (h2 : L[k + 1]? = some o2) (ho : k2 o o2) : storeLocals L.toArray k (.long u) = some ((L.set k (.val (.long u))).set (k + 1) .second).toArray := by
  have l1 := (List.getElem?_eq_some_iff.mp h).1
  have l2 := (List.getElem?_eq_some_iff.mp h2).1
  rcases ho with ⟨rfl, rfl⟩ | ⟨u', rfl, rfl⟩
  · exact stx3 h h2 (Or.inl rfl) (Or.inl rfl)
  · rw [store_2 h rfl l2, self_2 (o := .unset) rfl (by rw [List.getElem?_set_self l2]) (Or.inl (Or.inl rfl)) (by rw [List.length_set]; exact l1)]
    rw [List.set_comm _ _ (show k + 1 ≠ k by omega), List.set_set]
theorem stx4 {L : List Slot} {k : Nat} {o2 : Slot} {w : Int64} {v : Value} (h : L[k]? = some (.val (.long w))) (h2 : L[k + 1]? = some o2) (hv : v.category = 1) : storeLocals L.toArray k v = some ((L.set (k + 1) .unset).set k (.val v)).toArray := by
  rw [store_2 h rfl (List.getElem?_eq_some_iff.mp h2).1, self_1 hv (by rw [List.length_set]; exact (List.getElem?_eq_some_iff.mp h).1)]
theorem stx5 {L : List Slot} {k : Nat} {o o3 : Slot} {w u : Int64} (h : L[k]? = some o) (ho : k1 o) (h2 : L[k + 1]? = some (.val (.long w))) (h3 : L[k + 2]? = some o3) : storeLocals L.toArray k (.long u) = some (((L.set k (.val (.long u))).set (k + 2) .unset).set (k + 1) .second).toArray := by
  rw [store_k h ho, self_3 rfl h2 rfl (List.getElem?_eq_some_iff.mp h3).1 (List.getElem?_eq_some_iff.mp h).1]
/-- a tail of dead variables -/
def wtf : Slot ⊕ Int64 → List Slot
  | .inl x => [x]
  | .inr u => [.val (.long u), .second]
def WT (D : List Slot) : Prop := ∃ l : List (Slot ⊕ Int64), D = l.flatMap wtf ∧ ∀ x, Sum.inl x ∈ l → k1 x
theorem wt0 : WT [] := ⟨[], rfl, fun _ h => nomatch h⟩
theorem wt1 {x : Slot} {D : List Slot} (h : k1 x) (W : WT D) : WT (x :: D) := by
  obtain ⟨l, rfl, g⟩ := W
  refine ⟨.inl x :: l, by simp [wtf], fun y hy => ?_⟩
  rcases List.mem_cons.mp hy with e | e
  · cases e; exact h
  · exact g y e
theorem wt2 {u : Int64} {D : List Slot} (W : WT D) : WT (.val (.long u) :: .second :: D) := by
  obtain ⟨l, rfl, g⟩ := W
  refine ⟨.inr u :: l, by simp [wtf], fun y hy => ?_⟩
  rcases List.mem_cons.mp hy with e | e
  · cases e
  · exact g y e
theorem wt12 {x y : Slot} {D : List Slot} (h : k2 x y) (W : WT D) : WT (x :: y :: D) := by
  rcases h with ⟨rfl, rfl⟩ | ⟨u, rfl, rfl⟩
  · exact wt1 (Or.inl rfl) (wt1 (Or.inl rfl) W)
  · exact wt2 W
theorem wt_cases {D : List Slot} (W : WT D) : D = [] ∨ (∃ x E, D = x :: E ∧ k1 x ∧ WT E) ∨ ∃ u E, D = .val (.long u) :: .second :: E ∧ WT E := by
  obtain ⟨l, rfl, g⟩ := W
  match l, g with
  | [], _ => exact Or.inl rfl
  | .inl x :: r, g => exact Or.inr (Or.inl ⟨x, r.flatMap wtf, by simp [wtf], g x (List.mem_cons_self ..), r, rfl, fun y hy => g y (List.mem_cons_of_mem _ hy)⟩)
  | .inr u :: r, g => exact Or.inr (Or.inr ⟨u, r.flatMap wtf, by simp [wtf], r, rfl, fun y hy => g y (List.mem_cons_of_mem _ hy)⟩)
theorem stT {L0 D : List Slot} {v : Value} {n : Nat} (W : WT D) (hl : D.length = n + 1) (hv : v.category = 1) : ∃ D', WT D' ∧ D'.length = n ∧ storeLocals (L0 ++ D).toArray L0.length v = some (L0 ++ ([.val v] : List Slot) ++ D').toArray := by
  rcases wt_cases W with rfl | ⟨x, E, rfl, hx, WE⟩ | ⟨u, E, rfl, WE⟩
  · simp at hl
  · refine ⟨E, WE, by simpa using hl, ?_⟩
    rw [stx (o := x) (by simp) hx hv]; simp
  · refine ⟨.unset :: E, wt1 (Or.inl rfl) WE, by simpa using hl, ?_⟩
    rw [stx4 (w := u) (o2 := .second) (by simp) (by rw [List.getElem?_append_right (by omega)]; simp) hv]
    simp [List.set_append]
theorem stT2 {L0 D : List Slot} {u : Int64} {n : Nat} (W : WT D) (hl : D.length = n + 2) : ∃ D', WT D' ∧ D'.length = n ∧ storeLocals (L0 ++ D).toArray L0.length (.long u) = some (L0 ++ ([.val (.long u), .second] : List Slot) ++ D').toArray := by
  rcases wt_cases W with rfl | ⟨x, E, rfl, hx, WE⟩ | ⟨w, E, rfl, WE⟩
  · simp at hl
  · rcases wt_cases WE with rfl | ⟨y, F, rfl, hy, WF⟩ | ⟨w, F, rfl, WF⟩
    · simp at hl
    · refine ⟨F, WF, by simpa using hl, ?_⟩
      rw [stx3 (o := x) (o2 := y) (by simp) (by rw [List.getElem?_append_right (by omega)]; simp) hx hy]
      simp [List.set_append]
    · refine ⟨.unset :: F, wt1 (Or.inl rfl) WF, by simpa using hl, ?_⟩
      rw [stx5 (o := x) (w := w) (o3 := .second) (by simp) hx (by rw [List.getElem?_append_right (by omega)]; simp) (by rw [List.getElem?_append_right (by omega)]; simp)]
      simp [List.set_append]
  · refine ⟨E, WE, by simpa using hl, ?_⟩
    rw [stx2 (o := .val (.long w)) (o2 := .second) (by simp) (by rw [List.getElem?_append_right (by omega)]; simp) (Or.inr ⟨w, rfl, rfl⟩)]
    simp [List.set_append]
/-- the variables at a method's entry -/
def argL : List Value → List Slot
  | [] => []
  | v :: r => if v.category = 2 then .val v :: .second :: argL r else .val v :: argL r
def entryL (as : List Value) (n : Nat) : List Slot := argL as ++ List.replicate (n - (argL as).length) .unset
theorem argL_fold : ∀ (as : List Value) (acc : List Slot), as.foldl (fun acc v => if v.category = 2 then (acc.push (.val v)).push .second else acc.push (.val v)) acc.toArray = (acc ++ argL as).toArray
  | [], acc => by simp [argL]
  | v :: r, acc => by
    simp only [List.foldl_cons, argL]
    split
    · rename_i q
      rw [show ((acc.toArray.push (Slot.val v)).push Slot.second) = (acc ++ [Slot.val v, Slot.second]).toArray by simp, argL_fold r]
      simp
    · rename_i q
      rw [show (acc.toArray.push (Slot.val v)) = (acc ++ [Slot.val v]).toArray by simp, argL_fold r]
      simp
theorem argL_map (α b : Nat) : ∀ as : List Value, argL (cV α b as) = (argL as).map (cs α b)
  | [] => rfl
  | v :: r => by
    have ih := argL_map α b r
    simp only [cV, List.map_cons, argL, con_cat] at ih ⊢
    split <;> simp [ih, cs]
theorem entry_locals (α b : Nat) (as : List Value) (n : Nat) : argsToLocals (cV α b as).toArray n = cL α b (entryL as n) := by
  have h := argL_fold (cV α b as) []
  simp only [List.nil_append] at h
  have h' : (cV α b as).toArray.foldl (fun acc v => if v.category = 2 then (acc.push (Slot.val v)).push Slot.second else acc.push (Slot.val v)) #[] = (argL (cV α b as)).toArray := by
    rw [← h]; simp
  simp only [argsToLocals]
  rw [h', argL_map]
  simp [cL, entryL, List.map_append, cs]
/-! ## 3. What the heap shows -/
def scV (ty : FieldType) (s : S) (f : Nat) : Value := match ty with
  | .long => .long (gL s f)
  | _ => .int (gI s f)
def arV (ty : FieldType) (s : S) (q : Nat) : List Value := match ty with
  | .long => (gB s q).map .long
  | _ => (gA s q).map .int
def Ar (Z : State) (h : Heap) (a : Nat) (ty : FieldType) (vs : List Value) : Prop := ∃ c : Cell, Arr Z h a c ty ∧ c.slots = vs.toArray
def Rep1 (Z : State) (ci : CI) (h : Heap) (b : Nat) (o : Nat × S) : Prop :=
  Exa Z h b (cN ci) ∧ (∀ f x, (cS ci)[f]? = some x → Fld Z h b (cN ci) x.1 x.2.1 (scV x.2.2 o.2 f)) ∧
  (∀ q x, (cA ci)[q]? = some x → Fld Z h b (cN ci) x.1 x.2.1 (if q < o.1 then .ref (b + 1 + q) else .null)) ∧
  (∀ q x, (cA ci)[q]? = some x → q < o.1 → Ar Z h (b + 1 + q) x.2.2.1 (arV x.2.2.1 o.2 q))
def RepW (Z : State) (ci : CI) (α b : Nat) (w : W) (h : Heap) : Prop :=
  (∀ l, w.1 = some l → Ar Z h α .int (l.map .int) ∧ α < b) ∧ ∀ i o, w.2[i]? = some o → Rep1 Z ci h (b + (cK ci + 1) * i) o
def Frm (lo hi : Nat) (h0 h : Heap) : Prop := ∀ (x : Nat) (c : Cell), h0[x]? = some c → (x < lo ∨ hi ≤ x) → h[x]? = some c
def usedC (w : W) : Nat := (w.2.map fun o => 1 + o.1).sum
def usedS (ci : CI) (w : W) : Nat := (w.2.map fun o => cF ci + (((cA ci).take o.1).map fun x => x.2.2.2).sum).sum
/-- what the sheet says of the class -/
def Facts (Z : State) (a0 : Array Value) (ci : CI) : Prop :=
  (Jvm.Cond.instantiable (cN ci) (cF ci)).before a0 Z = true ∧ (Jvm.Cond.initialized (cN ci)).before a0 Z = true ∧
  (∀ (f : Nat) (x : String × String × FieldType), (cS ci)[f]? = some x → Laid Z a0 (cN ci) (cN ci) x.1 x.2.1 ∧ parseFieldDescriptor x.2.1 = some x.2.2) ∧
  (∀ (q : Nat) (x : String × String × FieldType × Nat), (cA ci)[q]? = some x → Laid Z a0 (cN ci) (cN ci) x.1 x.2.1 ∧ parseFieldDescriptor x.2.1 = some (.array x.2.2.1)) ∧
  ((cS ci).map (fun x => x.1) ++ (cA ci).map (fun x => x.1)).Nodup ∧ (∀ f x, (cS ci)[f]? = some x → defaultValue x.2.2 = scV x.2.2 s0 f) ∧ (cN ci ≠ "java/lang/invoke/MethodHandle" ∧ cN ci ≠ "java/lang/invoke/VarHandle")
theorem nq {a b : Nat} (h : a ≠ b) : @Ne Addr a b := h
theorem Ar.frm {Z : State} {h h' : Heap} {a : Nat} {ty : FieldType} {vs : List Value} (A : Ar Z h a ty vs) (k : ∀ c, h[a]? = some c → h'[a]? = some c) : Ar Z h' a ty vs := by
  obtain ⟨c, ⟨q1, q2⟩, q3⟩ := A; exact ⟨c, ⟨k c q1, q2⟩, q3⟩
theorem fld_frm {Z : State} {h h' : Heap} {a : Nat} {C n d : String} {v : Value} (F : Fld Z h a C n d v) (k : ∀ c, h[a]? = some c → h'[a]? = some c) : Fld Z h' a C n d v := by
  obtain ⟨cell, cf, kc, i, f, h1, r⟩ := F; exact ⟨cell, cf, kc, i, f, k _ h1, r⟩
theorem exa_frm {Z : State} {h h' : Heap} {a : Nat} {C : String} (F : Exa Z h a C) (k : ∀ c, h[a]? = some c → h'[a]? = some c) : Exa Z h' a C := by
  obtain ⟨cell, kc, h1, r⟩ := F; exact ⟨cell, kc, k _ h1, r⟩
theorem get_lt {A : Type} {l : List A} {i : Nat} {x : A} (h : l[i]? = some x) : i < l.length := (List.getElem?_eq_some_iff.mp h).1
theorem Rep1.frm {Z : State} {ci : CI} {h h' : Heap} {b : Nat} {o : Nat × S} (F : Rep1 Z ci h b o) (k : ∀ x c, b ≤ x → x < b + (cK ci + 1) → h[x]? = some c → h'[x]? = some c) : Rep1 Z ci h' b o := by
  obtain ⟨f1, f2, f3, f4⟩ := F
  refine ⟨exa_frm f1 fun c => k b c (Nat.le_refl _) (by omega), fun f x hx => fld_frm (f2 f x hx) fun c => k b c (Nat.le_refl _) (by omega), fun q x hx => fld_frm (f3 q x hx) fun c => k b c (Nat.le_refl _) (by omega), fun q x hx hq => (f4 q x hx hq).frm fun c => k _ c (by omega) ?_⟩
  have := get_lt hx
  simp only [cK]; omega
theorem RepW.ext {Z : State} {ci : CI} {α b : Nat} {w : W} {h h' : Heap} (F : RepW Z ci α b w h) (E : Ext h h') : RepW Z ci α b w h' :=
  ⟨fun l hl => ⟨((F.1 l hl).1).frm fun c q => E.2 _ _ q, (F.1 l hl).2⟩, fun i o ho => (F.2 i o ho).frm fun x c _ _ q => E.2 _ _ q⟩
theorem Frm.refl (lo hi : Nat) (h : Heap) : Frm lo hi h h := fun _ _ q _ => q
theorem Frm.trans {lo hi : Nat} {h0 h1 h2 : Heap} (A : Frm lo hi h0 h1) (B : Frm lo hi h1 h2) : Frm lo hi h0 h2 := fun x c q r => B x c (A x c q r) r
theorem Frm.wide {lo hi lo' hi' : Nat} {h0 h1 : Heap} (A : Frm lo hi h0 h1) (q1 : lo' ≤ lo) (q2 : hi ≤ hi') : Frm lo' hi' h0 h1 := fun x c q r => A x c q (by omega)
theorem Frm.ext {lo hi : Nat} {h0 h1 h2 : Heap} (A : Frm lo hi h0 h1) (E : Ext h1 h2) : Frm lo hi h0 h2 := fun x c q r => E.2 _ _ (A x c q r)
theorem Frm.wr {lo hi : Nat} {h0 h1 h2 : Heap} {a : Nat} {sl : Nat} {v : Value} (A : Frm lo hi h0 h1) (Wt : Wr h1 h2 a sl v) (q1 : lo ≤ a) (q2 : a < hi) : Frm lo hi h0 h2 := fun x c q r => by
  have q3 := A x c q r
  obtain ⟨c', e1, -, -, -, e5, -⟩ := wr_at Wt q3
  have : x ≠ a := by omega
  rw [← e5 this]; exact e1
/-! ## 4. The walk -/
def Ok (P : PI) (M : Meth) (Z : State) (a0 : Array Value) (p : Program) (R : Room) (s : State) (m : MethodId) (meth : Method) (c : Code) (b n0 : Nat) (h0 : Heap) (uC uS : Nat) : Prop :=
  (∀ d ∈ P.1, d.before a0 Z = true) ∧ Facts Z a0 P.2 ∧ p.tables.exec = Jvm.exec ∧ Z.Warmed39 s.vm ∧ s.vm.findClass (mY M).cls = some m.cls ∧ c.code = mB M ∧ c.maxLocals = mL M ∧ meth.sig.returnType = mT M ∧ meth.name = (mY M).name ∧ R = mR M ∧ n0 ≤ b ∧
  (mTop M = true → h0.size = b + uC ∧ uC = mUC M ∧ uS = mUS M) ∧ s.heap.size = h0.size
def Inv (P : PI) (M : Meth) (l : Launch) (Z : State) (p : Program) (e : Env) (R : Room) (s : State) (m : MethodId) (args : Array Value) (below : List Frame) (meth : Method) (c : Code) (α b n0 : Nat) (h0 : Heap) (uC uS : Nat) (w : W) (T : State) (locs : List Loc) (cells slots : Nat) : Prop :=
  Stand p l e R s m args below meth c T locs cells slots ∧ RepW Z P.2 α b w T.heap ∧ Frm b (b + (cK P.2 + 1) * mN M) h0 T.heap ∧ Fr n0 locs ∧ T.heap.size = h0.size + cells ∧ cells + uC = usedC w ∧ slots + uS = usedS P.2 w ∧ cells ≤ R.cells ∧ slots ≤ R.slots ∧ w.2.length ≤ mN M
def Lv (e : Env) (T : State) (m : MethodId) (r : Option Value) (fs : List Frame) : Prop := ∀ (f : JFrame) (acts : List Action), f.method = m → f.locked = none → f.entered = [] → (doReturn e (T.setTop f) acts r).1 = T.setFrames fs
/-- from here the invocation comes to its end, with this value and this world -/
def Go (P : PI) (M : Meth) (pc : Nat) (L : List Slot) (st : List Value) (w : W) (out : Option Value × W) : Prop :=
  L.length = mL M → ∀ (l : Launch) (Z : State) (a0 : Array Value) (p : Program) (e : Env) (R : Room) (s : State) (m : MethodId) (args : Array Value) (below : List Frame) (meth : Method) (c : Code) (α b n0 : Nat) (h0 : Heap) (uC uS : Nat),
    Ok P M Z a0 p R s m meth c b n0 h0 uC uS → ∀ (T : State) (locs : List Loc) (cells slots : Nat), Inv P M l Z p e R s m args below meth c α b n0 h0 uC uS w T locs cells slots →
    ∃ (T' : State) (locs' : List Loc) (cells' slots' : Nat), Inv P M l Z p e R s m args below meth c α b n0 h0 uC uS out.2 T' locs' cells' slots' ∧
      ∀ fs, Lv e T' m (out.1.map (con α b)) fs → Steps p.tables e below (T.setTop (mkF m pc (cL α b L) (cV α b st))) (T'.setFrames fs)
section Rules
variable {P : PI} {M : Meth} {pc pc' : Nat} {L L' : List Slot} {st st' : List Value} {w w' : W} {out : Option Value × W} {x y z v : Int32} {u r : Int64}
theorem go_mv (hL : L.length = mL M → L'.length = mL M)
    (H : ∀ {p : Program} {e : Env} {below : List Frame} {T target : State} {m : MethodId} {c : Code}, At T m c below → p.tables.exec = Jvm.exec → c.code = mB M → ∀ α b : Nat, Steps p.tables e below (T.setTop (mkF m pc' (cL α b L') (cV α b st'))) target → Steps p.tables e below (T.setTop (mkF m pc (cL α b L) (cV α b st))) target)
    (k : Go P M pc' L' st' w out) : Go P M pc L st w out := by
  intro hl l Z a0 p e R s m args below meth c α b n0 h0 uC uS ok T locs cells slots I
  obtain ⟨T', l', c', n', I', fin⟩ := k (hL hl) l Z a0 p e R s m args below meth c α b n0 h0 uC uS ok T locs cells slots I
  exact ⟨T', l', c', n', I', fun fs hv => H I.1.here ok.2.2.1 ok.2.2.2.2.2.1 α b (fin fs hv)⟩
theorem go_ch (H : ∀ (l : Launch) (Z : State) (a0 : Array Value) (p : Program) (e : Env) (R : Room) (s : State) (m : MethodId) (args : Array Value) (below : List Frame) (meth : Method) (c : Code) (α b n0 : Nat) (h0 : Heap) (uC uS : Nat),
      Ok P M Z a0 p R s m meth c b n0 h0 uC uS → L.length = mL M → ∀ (T : State) (locs : List Loc) (cells slots : Nat), Inv P M l Z p e R s m args below meth c α b n0 h0 uC uS w T locs cells slots →
      ∃ (T' : State) (locs' : List Loc) (cells' slots' : Nat), Inv P M l Z p e R s m args below meth c α b n0 h0 uC uS w' T' locs' cells' slots' ∧
        ∀ target, Steps p.tables e below (T'.setTop (mkF m pc' (cL α b L) (cV α b st'))) target → Steps p.tables e below (T.setTop (mkF m pc (cL α b L) (cV α b st))) target)
    (k : Go P M pc' L st' w' out) : Go P M pc L st w out := by
  intro hl l Z a0 p e R s m args below meth c α b n0 h0 uC uS ok T locs cells slots I
  obtain ⟨T1, l1, c1, n1, I1, h1⟩ := H l Z a0 p e R s m args below meth c α b n0 h0 uC uS ok hl T locs cells slots I
  obtain ⟨T', l', c', n', I', fin⟩ := k hl l Z a0 p e R s m args below meth c α b n0 h0 uC uS ok T1 l1 c1 n1 I1
  exact ⟨T', l', c', n', I', fun fs hv => h1 _ (fin fs hv)⟩
/-! ### loads, stores, constants -/
theorem go_iloadN {k : Fin 4} (d : decode (mB M) pc = .ok (.iload_n k, 1)) (hl : L[k.val]? = some (.val (.int v))) (g : Go P M (pc + 1) L (.int v :: st) w out) : Go P M pc L (st) w out :=
  go_mv id (fun h hx hc α b r => XS.iloadN (g := mkF _ pc (cL α b L) (cV α b (st))) h hx rfl (hb hc d) (cL_get hl) r) g
theorem go_iload {k : Nat} (d : decode (mB M) pc = .ok (.iload k, 2)) (hl : L[k]? = some (.val (.int v))) (g : Go P M (pc + 2) L (.int v :: st) w out) : Go P M pc L (st) w out :=
  go_mv id (fun h hx hc α b r => XS.iload (g := mkF _ pc (cL α b L) (cV α b (st))) h hx rfl (hb hc d) (cL_get hl) r) g
theorem go_lloadN {k : Fin 4} (d : decode (mB M) pc = .ok (.lload_n k, 1)) (hl : L[k.val]? = some (.val (.long u))) (g : Go P M (pc + 1) L (.long u :: st) w out) : Go P M pc L (st) w out :=
  go_mv id (fun h hx hc α b r => XT.lloadN (g := mkF _ pc (cL α b L) (cV α b (st))) h hx rfl (hb hc d) (cL_get hl) r) g
theorem go_lload {k : Nat} (d : decode (mB M) pc = .ok (.lload k, 2)) (hl : L[k]? = some (.val (.long u))) (g : Go P M (pc + 2) L (.long u :: st) w out) : Go P M pc L (st) w out :=
  go_mv id (fun h hx hc α b r => XT.lload (g := mkF _ pc (cL α b L) (cV α b (st))) h hx rfl (hb hc d) (cL_get hl) r) g
theorem go_aloadN {k : Fin 4} {a : Nat} (d : decode (mB M) pc = .ok (.aload_n k, 1)) (hl : L[k.val]? = some (.val (.ref a))) (g : Go P M (pc + 1) L (.ref a :: st) w out) : Go P M pc L (st) w out :=
  go_mv id (fun h hx hc α b r => XS.aloadN (g := mkF _ pc (cL α b L) (cV α b (st))) h hx rfl (hb hc d) (cL_get hl) (con_ref α b (.ref a)) r) g
theorem go_aload {k : Nat} {a : Nat} (d : decode (mB M) pc = .ok (.aload k, 2)) (hl : L[k]? = some (.val (.ref a))) (g : Go P M (pc + 2) L (.ref a :: st) w out) : Go P M pc L (st) w out :=
  go_mv id (fun h hx hc α b r => XS.aload (g := mkF _ pc (cL α b L) (cV α b (st))) h hx rfl (hb hc d) (cL_get hl) (con_ref α b (.ref a)) r) g
theorem go_istoreN {k : Fin 4} (d : decode (mB M) pc = .ok (.istore_n k, 1)) (hl : storeLocals L.toArray k.val (.int x) = some L'.toArray) (g : Go P M (pc + 1) L' (st) w out) : Go P M pc L (.int x :: st) w out :=
  go_mv (fun q => by have := store_size hl; simp at this; omega) (fun h hx hc α b r => XS.istoreN (g := mkF _ pc (cL α b L) (cV α b (.int x :: st))) h hx rfl (hb hc d) rfl (storeC hl) r) g
theorem go_istore {k : Nat} (d : decode (mB M) pc = .ok (.istore k, 2)) (hl : storeLocals L.toArray k (.int x) = some L'.toArray) (g : Go P M (pc + 2) L' (st) w out) : Go P M pc L (.int x :: st) w out :=
  go_mv (fun q => by have := store_size hl; simp at this; omega) (fun h hx hc α b r => XS.istore (g := mkF _ pc (cL α b L) (cV α b (.int x :: st))) h hx rfl (hb hc d) rfl (storeC hl) r) g
theorem go_lstoreN {k : Fin 4} (d : decode (mB M) pc = .ok (.lstore_n k, 1)) (hl : storeLocals L.toArray k.val (.long u) = some L'.toArray) (g : Go P M (pc + 1) L' (st) w out) : Go P M pc L (.long u :: st) w out :=
  go_mv (fun q => by have := store_size hl; simp at this; omega) (fun h hx hc α b r => XT.lstoreN (g := mkF _ pc (cL α b L) (cV α b (.long u :: st))) h hx rfl (hb hc d) rfl (storeC hl) r) g
theorem go_lstore {k : Nat} (d : decode (mB M) pc = .ok (.lstore k, 2)) (hl : storeLocals L.toArray k (.long u) = some L'.toArray) (g : Go P M (pc + 2) L' (st) w out) : Go P M pc L (.long u :: st) w out :=
  go_mv (fun q => by have := store_size hl; simp at this; omega) (fun h hx hc α b r => XT.lstore (g := mkF _ pc (cL α b L) (cV α b (.long u :: st))) h hx rfl (hb hc d) rfl (storeC hl) r) g
theorem go_astoreN {k : Fin 4} {a : Nat} (d : decode (mB M) pc = .ok (.astore_n k, 1)) (hl : storeLocals L.toArray k.val (.ref a) = some L'.toArray) (g : Go P M (pc + 1) L' (st) w out) : Go P M pc L (.ref a :: st) w out :=
  go_mv (fun q => by have := store_size hl; simp at this; omega) (fun h hx hc α b r => XS.astoreN (g := mkF _ pc (cL α b L) (cV α b (.ref a :: st))) h hx rfl (hb hc d) rfl (con_ref α b (.ref a)) (storeC hl) r) g
theorem go_astore {k : Nat} {a : Nat} (d : decode (mB M) pc = .ok (.astore k, 2)) (hl : storeLocals L.toArray k (.ref a) = some L'.toArray) (g : Go P M (pc + 2) L' (st) w out) : Go P M pc L (.ref a :: st) w out :=
  go_mv (fun q => by have := store_size hl; simp at this; omega) (fun h hx hc α b r => XS.astore (g := mkF _ pc (cL α b L) (cV α b (.ref a :: st))) h hx rfl (hb hc d) rfl (con_ref α b (.ref a)) (storeC hl) r) g
theorem go_istoreNT {k : Fin 4} {L0 L1 D : List Slot} {n : Nat} (d : decode (mB M) pc = .ok (.istore_n k, 1)) (hk : k.val = L0.length) (h1 : L1 = L0 ++ [.val (.int x)]) (W : WT D) (hl : D.length = n + 1) (g : ∀ D', WT D' → D'.length = n → Go P M (pc + 1) (L1 ++ D') st w out) : Go P M pc (L0 ++ D) (.int x :: st) w out := by
  obtain ⟨D', W', l', e⟩ := stT (L0 := L0) (v := .int x) W hl rfl
  subst h1
  exact go_istoreN d (by rw [hk]; exact e) (g D' W' l')
theorem nilT {Q : List Slot → Prop} (g : Q []) : ∀ D', WT D' → D'.length = 0 → Q D' := fun D' _ l => by
  cases D' with
  | nil => exact g
  | cons => cases l
theorem go_istoreT {k : Nat} {L0 L1 D : List Slot} {n : Nat} (d : decode (mB M) pc = .ok (.istore k, 2)) (hk : k = L0.length) (h1 : L1 = L0 ++ [.val (.int x)]) (W : WT D) (hl : D.length = n + 1) (g : ∀ D', WT D' → D'.length = n → Go P M (pc + 2) (L1 ++ D') st w out) : Go P M pc (L0 ++ D) (.int x :: st) w out := by
  obtain ⟨D', W', l', e⟩ := stT (L0 := L0) (v := .int x) W hl rfl
  subst h1
  exact go_istore d (by rw [hk]; exact e) (g D' W' l')
theorem go_astoreNT {k : Fin 4} {L0 L1 D : List Slot} {n : Nat} {a : Nat} (d : decode (mB M) pc = .ok (.astore_n k, 1)) (hk : k.val = L0.length) (h1 : L1 = L0 ++ [.val (.ref a)]) (W : WT D) (hl : D.length = n + 1) (g : ∀ D', WT D' → D'.length = n → Go P M (pc + 1) (L1 ++ D') st w out) : Go P M pc (L0 ++ D) (.ref a :: st) w out := by
  obtain ⟨D', W', l', e⟩ := stT (L0 := L0) (v := .ref a) W hl rfl
  subst h1
  exact go_astoreN d (by rw [hk]; exact e) (g D' W' l')
theorem go_astoreT {k : Nat} {L0 L1 D : List Slot} {n : Nat} {a : Nat} (d : decode (mB M) pc = .ok (.astore k, 2)) (hk : k = L0.length) (h1 : L1 = L0 ++ [.val (.ref a)]) (W : WT D) (hl : D.length = n + 1) (g : ∀ D', WT D' → D'.length = n → Go P M (pc + 2) (L1 ++ D') st w out) : Go P M pc (L0 ++ D) (.ref a :: st) w out := by
  obtain ⟨D', W', l', e⟩ := stT (L0 := L0) (v := .ref a) W hl rfl
  subst h1
  exact go_astore d (by rw [hk]; exact e) (g D' W' l')
theorem go_lstoreNT {k : Fin 4} {L0 L1 D : List Slot} {n : Nat} (d : decode (mB M) pc = .ok (.lstore_n k, 1)) (hk : k.val = L0.length) (h1 : L1 = L0 ++ [.val (.long u), .second]) (W : WT D) (hl : D.length = n + 2) (g : ∀ D', WT D' → D'.length = n → Go P M (pc + 1) (L1 ++ D') st w out) : Go P M pc (L0 ++ D) (.long u :: st) w out := by
  obtain ⟨D', W', l', e⟩ := stT2 (L0 := L0) (u := u) W hl
  subst h1
  exact go_lstoreN d (by rw [hk]; exact e) (g D' W' l')
theorem go_lstoreT {k : Nat} {L0 L1 D : List Slot} {n : Nat} (d : decode (mB M) pc = .ok (.lstore k, 2)) (hk : k = L0.length) (h1 : L1 = L0 ++ [.val (.long u), .second]) (W : WT D) (hl : D.length = n + 2) (g : ∀ D', WT D' → D'.length = n → Go P M (pc + 2) (L1 ++ D') st w out) : Go P M pc (L0 ++ D) (.long u :: st) w out := by
  obtain ⟨D', W', l', e⟩ := stT2 (L0 := L0) (u := u) W hl
  subst h1
  exact go_lstore d (by rw [hk]; exact e) (g D' W' l')
theorem go_iconst {i : Int} (d : decode (mB M) pc = .ok (.iconst i, 1)) (hv : v = Int32.ofInt i) (g : Go P M (pc + 1) L (.int v :: st) w out) : Go P M pc L (st) w out :=
  go_mv id (fun h hx hc α b r => XS.iconst (g := mkF _ pc (cL α b L) (cV α b (st))) h hx rfl (hb hc d) (hv ▸ r)) g
theorem go_bipush {i : Int} (d : decode (mB M) pc = .ok (.bipush i, 2)) (hv : v = (Int8.ofInt i).toInt32) (g : Go P M (pc + 2) L (.int v :: st) w out) : Go P M pc L (st) w out :=
  go_mv id (fun h hx hc α b r => XS.bipush (g := mkF _ pc (cL α b L) (cV α b (st))) h hx rfl (hb hc d) (hv ▸ r)) g
theorem go_sipush {i : Int} (d : decode (mB M) pc = .ok (.sipush i, 3)) (hv : v = (Int16.ofInt i).toInt32) (g : Go P M (pc + 3) L (.int v :: st) w out) : Go P M pc L (st) w out :=
  go_mv id (fun h hx hc α b r => XS.sipush (g := mkF _ pc (cL α b L) (cV α b (st))) h hx rfl (hb hc d) (hv ▸ r)) g
theorem go_lconst {i : Fin 2} (d : decode (mB M) pc = .ok (.lconst i, 1)) (hv : u = Int64.ofNat i) (g : Go P M (pc + 1) L (.long u :: st) w out) : Go P M pc L (st) w out :=
  go_mv id (fun h hx hc α b r => XT.lconst (g := mkF _ pc (cL α b L) (cV α b (st))) h hx rfl (hb hc d) (hv ▸ r)) g
theorem go_dup  (d : decode (mB M) pc = .ok (.dup, 1))  (g : Go P M (pc + 1) L (.int x :: .int x :: st) w out) : Go P M pc L (.int x :: st) w out :=
  go_mv id (fun h hx hc α b r => XS.dup (g := mkF _ pc (cL α b L) (cV α b (.int x :: st))) h hx rfl (hb hc d) rfl rfl r) g
theorem go_dupR {a : Nat} (d : decode (mB M) pc = .ok (.dup, 1))  (g : Go P M (pc + 1) L (.ref a :: .ref a :: st) w out) : Go P M pc L (.ref a :: st) w out :=
  go_mv id (fun h hx hc α b r => XS.dup (g := mkF _ pc (cL α b L) (cV α b (.ref a :: st))) h hx rfl (hb hc d) rfl (con_cat α b (.ref a)) r) g
theorem go_dup2 {a : Nat} (d : decode (mB M) pc = .ok (.dup2, 1))  (g : Go P M (pc + 1) L (.int x :: .ref a :: .int x :: .ref a :: st) w out) : Go P M pc L (.int x :: .ref a :: st) w out :=
  go_mv id (fun h hx hc α b r => XT.dup2 (g := mkF _ pc (cL α b L) (cV α b (.int x :: .ref a :: st))) h hx rfl (hb hc d) rfl rfl (con_cat α b (.ref a)) r) g
theorem go_dup2I  (d : decode (mB M) pc = .ok (.dup2, 1))  (g : Go P M (pc + 1) L (.int x :: .int y :: .int x :: .int y :: st) w out) : Go P M pc L (.int x :: .int y :: st) w out :=
  go_mv id (fun h hx hc α b r => XT.dup2 (g := mkF _ pc (cL α b L) (cV α b (.int x :: .int y :: st))) h hx rfl (hb hc d) rfl rfl rfl r) g
theorem go_dup2L  (d : decode (mB M) pc = .ok (.dup2, 1))  (g : Go P M (pc + 1) L (.long u :: .long u :: st) w out) : Go P M pc L (.long u :: st) w out :=
  go_mv id (fun h hx hc α b r => XT.dup2L (g := mkF _ pc (cL α b L) (cV α b (.long u :: st))) h hx rfl (hb hc d) rfl r) g
theorem go_pop  (d : decode (mB M) pc = .ok (.pop, 1))  (g : Go P M (pc + 1) L (st) w out) : Go P M pc L (.int x :: st) w out :=
  go_mv id (fun h hx hc α b r => XT.pop (g := mkF _ pc (cL α b L) (cV α b (.int x :: st))) h hx rfl (hb hc d) rfl rfl r) g
theorem go_iadd  (d : decode (mB M) pc = .ok (.iadd, 1))  (g : Go P M (pc + 1) L (.int (x + y) :: st) w out) : Go P M pc L (.int y :: .int x :: st) w out :=
  go_mv id (fun h hx hc α b r => XS.iadd (g := mkF _ pc (cL α b L) (cV α b (.int y :: .int x :: st))) h hx rfl (hb hc d) rfl r) g
theorem go_isub  (d : decode (mB M) pc = .ok (.isub, 1))  (g : Go P M (pc + 1) L (.int (x - y) :: st) w out) : Go P M pc L (.int y :: .int x :: st) w out :=
  go_mv id (fun h hx hc α b r => XS.isub (g := mkF _ pc (cL α b L) (cV α b (.int y :: .int x :: st))) h hx rfl (hb hc d) rfl r) g
theorem go_imul  (d : decode (mB M) pc = .ok (.imul, 1))  (g : Go P M (pc + 1) L (.int (x * y) :: st) w out) : Go P M pc L (.int y :: .int x :: st) w out :=
  go_mv id (fun h hx hc α b r => XS.imul (g := mkF _ pc (cL α b L) (cV α b (.int y :: .int x :: st))) h hx rfl (hb hc d) rfl r) g
theorem go_iand  (d : decode (mB M) pc = .ok (.iand, 1))  (g : Go P M (pc + 1) L (.int (x &&& y) :: st) w out) : Go P M pc L (.int y :: .int x :: st) w out :=
  go_mv id (fun h hx hc α b r => XS.iand (g := mkF _ pc (cL α b L) (cV α b (.int y :: .int x :: st))) h hx rfl (hb hc d) rfl r) g
theorem go_ior  (d : decode (mB M) pc = .ok (.ior, 1))  (g : Go P M (pc + 1) L (.int (x ||| y) :: st) w out) : Go P M pc L (.int y :: .int x :: st) w out :=
  go_mv id (fun h hx hc α b r => XT.ior (g := mkF _ pc (cL α b L) (cV α b (.int y :: .int x :: st))) h hx rfl (hb hc d) rfl r) g
theorem go_ixor  (d : decode (mB M) pc = .ok (.ixor, 1))  (g : Go P M (pc + 1) L (.int (x ^^^ y) :: st) w out) : Go P M pc L (.int y :: .int x :: st) w out :=
  go_mv id (fun h hx hc α b r => XT.ixor (g := mkF _ pc (cL α b L) (cV α b (.int y :: .int x :: st))) h hx rfl (hb hc d) rfl r) g
theorem go_ishl  (d : decode (mB M) pc = .ok (.ishl, 1))  (g : Go P M (pc + 1) L (.int (x <<< (y &&& 31)) :: st) w out) : Go P M pc L (.int y :: .int x :: st) w out :=
  go_mv id (fun h hx hc α b r => XT.ishl (g := mkF _ pc (cL α b L) (cV α b (.int y :: .int x :: st))) h hx rfl (hb hc d) rfl r) g
theorem go_ishr  (d : decode (mB M) pc = .ok (.ishr, 1))  (g : Go P M (pc + 1) L (.int (x >>> (y &&& 31)) :: st) w out) : Go P M pc L (.int y :: .int x :: st) w out :=
  go_mv id (fun h hx hc α b r => XT.ishr (g := mkF _ pc (cL α b L) (cV α b (.int y :: .int x :: st))) h hx rfl (hb hc d) rfl r) g
theorem go_iushr  (d : decode (mB M) pc = .ok (.iushr, 1))  (g : Go P M (pc + 1) L (.int (XT.ushr x y) :: st) w out) : Go P M pc L (.int y :: .int x :: st) w out :=
  go_mv id (fun h hx hc α b r => XT.iushr (g := mkF _ pc (cL α b L) (cV α b (.int y :: .int x :: st))) h hx rfl (hb hc d) rfl r) g
theorem go_idiv  (d : decode (mB M) pc = .ok (.idiv, 1)) (hy : y ≠ 0) (g : Go P M (pc + 1) L (.int (x / y) :: st) w out) : Go P M pc L (.int y :: .int x :: st) w out :=
  go_mv id (fun h hx hc α b r => XS.idiv (g := mkF _ pc (cL α b L) (cV α b (.int y :: .int x :: st))) h hx rfl (hb hc d) rfl hy r) g
theorem go_irem  (d : decode (mB M) pc = .ok (.irem, 1)) (hy : y ≠ 0) (g : Go P M (pc + 1) L (.int (x % y) :: st) w out) : Go P M pc L (.int y :: .int x :: st) w out :=
  go_mv id (fun h hx hc α b r => XS.irem (g := mkF _ pc (cL α b L) (cV α b (.int y :: .int x :: st))) h hx rfl (hb hc d) rfl hy (by rw [irem_eq_mod x y]; exact r)) g
theorem go_ineg  (d : decode (mB M) pc = .ok (.ineg, 1))  (g : Go P M (pc + 1) L (.int (-x) :: st) w out) : Go P M pc L (.int x :: st) w out :=
  go_mv id (fun h hx hc α b r => XS.ineg (g := mkF _ pc (cL α b L) (cV α b (.int x :: st))) h hx rfl (hb hc d) rfl r) g
theorem go_ladd  (d : decode (mB M) pc = .ok (.ladd, 1))  (g : Go P M (pc + 1) L (.long (u + r) :: st) w out) : Go P M pc L (.long r :: .long u :: st) w out :=
  go_mv id (fun h hx hc α b k => XT.ladd (g := mkF _ pc (cL α b L) (cV α b (.long r :: .long u :: st))) h hx rfl (hb hc d) rfl k) g
theorem go_lsub  (d : decode (mB M) pc = .ok (.lsub, 1))  (g : Go P M (pc + 1) L (.long (u - r) :: st) w out) : Go P M pc L (.long r :: .long u :: st) w out :=
  go_mv id (fun h hx hc α b k => XT.lsub (g := mkF _ pc (cL α b L) (cV α b (.long r :: .long u :: st))) h hx rfl (hb hc d) rfl k) g
theorem go_lmul  (d : decode (mB M) pc = .ok (.lmul, 1))  (g : Go P M (pc + 1) L (.long (u * r) :: st) w out) : Go P M pc L (.long r :: .long u :: st) w out :=
  go_mv id (fun h hx hc α b k => XT.lmul (g := mkF _ pc (cL α b L) (cV α b (.long r :: .long u :: st))) h hx rfl (hb hc d) rfl k) g
theorem go_land  (d : decode (mB M) pc = .ok (.land, 1))  (g : Go P M (pc + 1) L (.long (u &&& r) :: st) w out) : Go P M pc L (.long r :: .long u :: st) w out :=
  go_mv id (fun h hx hc α b k => XT.land (g := mkF _ pc (cL α b L) (cV α b (.long r :: .long u :: st))) h hx rfl (hb hc d) rfl k) g
theorem go_lor  (d : decode (mB M) pc = .ok (.lor, 1))  (g : Go P M (pc + 1) L (.long (u ||| r) :: st) w out) : Go P M pc L (.long r :: .long u :: st) w out :=
  go_mv id (fun h hx hc α b k => XT.lor (g := mkF _ pc (cL α b L) (cV α b (.long r :: .long u :: st))) h hx rfl (hb hc d) rfl k) g
theorem go_lxor  (d : decode (mB M) pc = .ok (.lxor, 1))  (g : Go P M (pc + 1) L (.long (u ^^^ r) :: st) w out) : Go P M pc L (.long r :: .long u :: st) w out :=
  go_mv id (fun h hx hc α b k => XT.lxor (g := mkF _ pc (cL α b L) (cV α b (.long r :: .long u :: st))) h hx rfl (hb hc d) rfl k) g
theorem go_lshl  (d : decode (mB M) pc = .ok (.lshl, 1))  (g : Go P M (pc + 1) L (.long (u <<< (y.toInt64 &&& 63)) :: st) w out) : Go P M pc L (.int y :: .long u :: st) w out :=
  go_mv id (fun h hx hc α b r => XT.lshl (g := mkF _ pc (cL α b L) (cV α b (.int y :: .long u :: st))) h hx rfl (hb hc d) rfl r) g
theorem go_lshr  (d : decode (mB M) pc = .ok (.lshr, 1))  (g : Go P M (pc + 1) L (.long (u >>> (y.toInt64 &&& 63)) :: st) w out) : Go P M pc L (.int y :: .long u :: st) w out :=
  go_mv id (fun h hx hc α b r => XT.lshr (g := mkF _ pc (cL α b L) (cV α b (.int y :: .long u :: st))) h hx rfl (hb hc d) rfl r) g
theorem go_lushr  (d : decode (mB M) pc = .ok (.lushr, 1))  (g : Go P M (pc + 1) L (.long (XT.ushrL u y) :: st) w out) : Go P M pc L (.int y :: .long u :: st) w out :=
  go_mv id (fun h hx hc α b r => XT.lushr (g := mkF _ pc (cL α b L) (cV α b (.int y :: .long u :: st))) h hx rfl (hb hc d) rfl r) g
theorem go_lcmp  (d : decode (mB M) pc = .ok (.lcmp, 1))  (g : Go P M (pc + 1) L (.int (XT.cmpL u r) :: st) w out) : Go P M pc L (.long r :: .long u :: st) w out :=
  go_mv id (fun h hx hc α b k => XT.lcmp (g := mkF _ pc (cL α b L) (cV α b (.long r :: .long u :: st))) h hx rfl (hb hc d) rfl k) g
theorem go_i2l  (d : decode (mB M) pc = .ok (.i2l, 1))  (g : Go P M (pc + 1) L (.long x.toInt64 :: st) w out) : Go P M pc L (.int x :: st) w out :=
  go_mv id (fun h hx hc α b r => XT.i2l (g := mkF _ pc (cL α b L) (cV α b (.int x :: st))) h hx rfl (hb hc d) rfl r) g
theorem go_l2i  (d : decode (mB M) pc = .ok (.l2i, 1))  (g : Go P M (pc + 1) L (.int u.toInt32 :: st) w out) : Go P M pc L (.long u :: st) w out :=
  go_mv id (fun h hx hc α b r => XT.l2i (g := mkF _ pc (cL α b L) (cV α b (.long u :: st))) h hx rfl (hb hc d) rfl r) g
theorem go_i2b  (d : decode (mB M) pc = .ok (.i2b, 1))  (g : Go P M (pc + 1) L (.int x.toInt8.toInt32 :: st) w out) : Go P M pc L (.int x :: st) w out :=
  go_mv id (fun h hx hc α b r => XT.i2b (g := mkF _ pc (cL α b L) (cV α b (.int x :: st))) h hx rfl (hb hc d) rfl r) g
theorem go_iinc {k : Nat} {i : Int} (d : decode (mB M) pc = .ok (.iinc k i, 3)) (h1 : L[k]? = some (.val (.int x))) (hv : v = Int32.ofInt i) (hl : storeLocals L.toArray k (.int (x + v)) = some L'.toArray) (g : Go P M (pc + 3) L' (st) w out) : Go P M pc L (st) w out :=
  by subst hv; exact go_mv (fun q => by have := store_size hl; simp at this; omega) (fun h hx hc α b r => XS.iinc (g := mkF _ pc (cL α b L) (cV α b (st))) h hx rfl (hb hc d) (cL_get h1) (storeC hl) r) g
theorem go_goto {o : Int} (d : decode (mB M) pc = .ok (.goto o, 3)) (hp : 0 ≤ (pc : Int) + o ∧ ((pc : Int) + o).toNat = pc') (g : Go P M pc' L (st) w out) : Go P M pc L (st) w out :=
  go_mv id (fun h hx hc α b r => XS.goto (g := mkF _ pc (cL α b L) (cV α b (st))) h hx rfl rfl (hb hc d) hp.1 hp.2 r) g
theorem go_ifY {cd : ClassFile.Cond} {o : Int} (d : decode (mB M) pc = .ok (.ifCond cd o, 3)) (hq : ifCond.holds cd x = true) (hp : 0 ≤ (pc : Int) + o ∧ ((pc : Int) + o).toNat = pc') (g : Go P M pc' L (st) w out) : Go P M pc L (.int x :: st) w out :=
  go_mv id (fun h hx hc α b r => XS.ifYes (g := mkF _ pc (cL α b L) (cV α b (.int x :: st))) h hx rfl rfl (hb hc d) rfl hq hp.1 hp.2 r) g
theorem go_ifN {cd : ClassFile.Cond} {o : Int} (d : decode (mB M) pc = .ok (.ifCond cd o, 3)) (hq : ifCond.holds cd x = false) (g : Go P M (pc + 3) L (st) w out) : Go P M pc L (.int x :: st) w out :=
  go_mv id (fun h hx hc α b r => XS.ifNo (g := mkF _ pc (cL α b L) (cV α b (.int x :: st))) h hx rfl (hb hc d) rfl hq r) g
theorem go_icY {cd : ClassFile.Cond} {o : Int} (d : decode (mB M) pc = .ok (.if_icmp cd o, 3)) (hq : if_icmp.holds cd x y = true) (hp : 0 ≤ (pc : Int) + o ∧ ((pc : Int) + o).toNat = pc') (g : Go P M pc' L (st) w out) : Go P M pc L (.int y :: .int x :: st) w out :=
  go_mv id (fun h hx hc α b r => XS.icmpYes (g := mkF _ pc (cL α b L) (cV α b (.int y :: .int x :: st))) h hx rfl rfl (hb hc d) rfl hq hp.1 hp.2 r) g
theorem go_icN {cd : ClassFile.Cond} {o : Int} (d : decode (mB M) pc = .ok (.if_icmp cd o, 3)) (hq : if_icmp.holds cd x y = false) (g : Go P M (pc + 3) L (st) w out) : Go P M pc L (.int y :: .int x :: st) w out :=
  go_mv id (fun h hx hc α b r => XS.icmpNo (g := mkF _ pc (cL α b L) (cV α b (.int y :: .int x :: st))) h hx rfl (hb hc d) rfl hq r) g
theorem go_nonnull {o : Int} (d : decode (mB M) pc = .ok (.ifnonnull o, 3)) (hp : 0 ≤ (pc : Int) + o ∧ ((pc : Int) + o).toNat = pc') (g : Go P M pc' L st w out) : Go P M pc L (.ref 0 :: st) w out :=
  go_mv id (fun h hx hc α b r => XT.ifnonnullYes (g := mkF _ pc (cL α b L) (cV α b (.ref 0 :: st))) (b := α) h hx rfl rfl (hb hc d) rfl hp.1 hp.2 r) g
theorem go_tswIn {dflt low high : Int} {offs : Array Int} {len : Nat} {o : Int} (d : decode (mB M) pc = .ok (.tableswitch dflt low high offs, len)) (hin : ¬ (x.toInt < low ∨ x.toInt > high)) (hoff : offs[(x.toInt - low).toNat]? = some o) (hp : 0 ≤ (pc : Int) + o ∧ ((pc : Int) + o).toNat = pc') (g : Go P M pc' L st w out) : Go P M pc L (.int x :: st) w out :=
  go_mv id (fun h hx hc α b r => XS.tswIn (g := mkF _ pc (cL α b L) (cV α b (.int x :: st))) h hx rfl rfl (hb hc d) rfl hin hoff hp.1 hp.2 r) g
theorem go_tswOut {dflt low high : Int} {offs : Array Int} {len : Nat} (d : decode (mB M) pc = .ok (.tableswitch dflt low high offs, len)) (hout : x.toInt < low ∨ x.toInt > high) (hp : 0 ≤ (pc : Int) + dflt ∧ ((pc : Int) + dflt).toNat = pc') (g : Go P M pc' L st w out) : Go P M pc L (.int x :: st) w out :=
  go_mv id (fun h hx hc α b r => XS.tswOut (g := mkF _ pc (cL α b L) (cV α b (.int x :: st))) h hx rfl rfl (hb hc d) rfl hout hp.1 hp.2 r) g
/-! ### constants of the pool -/
theorem go_ldc {k : Nat} (d : decode (mB M) pc = .ok (.ldc k, 2)) (hk : Jvm.Cond.constant (mY M).cls k v ∈ P.1) (g : Go P M (pc + 2) L (.int v :: st) w out) : Go P M pc L st w out :=
  go_ch (fun l Z a0 p e R s m args below meth c α b n0 h0 uC uS ok hl T locs cells slots I => ⟨T, locs, cells, slots, I, fun target r => Stand.ldcI (g := mkF m pc (cL α b L) (cV α b st)) I.1 ok.2.2.1 ok.2.2.2.2.1 (mvT ok.2.2.2.1 (ok.1 _ hk)) rfl (hb ok.2.2.2.2.2.1 d) r⟩) g
theorem go_ldcW {k : Nat} (d : decode (mB M) pc = .ok (.ldc_w k, 3)) (hk : Jvm.Cond.constant (mY M).cls k v ∈ P.1) (g : Go P M (pc + 3) L (.int v :: st) w out) : Go P M pc L st w out :=
  go_ch (fun l Z a0 p e R s m args below meth c α b n0 h0 uC uS ok hl T locs cells slots I => ⟨T, locs, cells, slots, I, fun target r => Stand.ldcWI (g := mkF m pc (cL α b L) (cV α b st)) I.1 ok.2.2.1 ok.2.2.2.2.1 (mvT ok.2.2.2.1 (ok.1 _ hk)) rfl (hb ok.2.2.2.2.2.1 d) r⟩) g
theorem go_ldc2 {k : Nat} (d : decode (mB M) pc = .ok (.ldc2_w k, 3)) (hk : Jvm.Cond.constantLong (mY M).cls k u ∈ P.1) (g : Go P M (pc + 3) L (.long u :: st) w out) : Go P M pc L st w out :=
  go_ch (fun l Z a0 p e R s m args below meth c α b n0 h0 uC uS ok hl T locs cells slots I => ⟨T, locs, cells, slots, I, fun target r => Stand.ldc2J (g := mkF m pc (cL α b L) (cV α b st)) I.1 ok.2.2.1 ok.2.2.2.2.1 (mvT ok.2.2.2.1 (ok.1 _ hk)) rfl (hb ok.2.2.2.2.2.1 d) r⟩) g
/-! ### returns -/
theorem go_iret (hT : mT M = some .int) (d : decode (mB M) pc = .ok (.ireturn, 1)) : Go P M pc L (.int x :: st) w (some (.int x), w) := by
  intro hl l Z a0 p e R s m args below meth c α b n0 h0 uC uS ok T locs cells slots I
  exact ⟨T, locs, cells, slots, I, fun fs hv => retOut I.1 ok.2.2.1 (t := .int) (ok.2.2.2.2.2.2.2.1.trans hT) rfl (Or.inl ⟨rfl, Or.inl rfl, x, rfl⟩) (hb ok.2.2.2.2.2.1 d) hv⟩
theorem go_zret (hT : mT M = some .boolean) (d : decode (mB M) pc = .ok (.ireturn, 1)) (hz : v = nar .boolean x) : Go P M pc L (.int x :: st) w (some (.int v), w) := by
  intro hl l Z a0 p e R s m args below meth c α b n0 h0 uC uS ok T locs cells slots I
  subst hz
  exact ⟨T, locs, cells, slots, I, fun fs hv => retN I.1 ok.2.2.1 (t := .boolean) (ok.2.2.2.2.2.2.2.1.trans hT) (Or.inl rfl) (hb ok.2.2.2.2.2.1 d) hv⟩
theorem go_lret (hT : mT M = some .long) (d : decode (mB M) pc = .ok (.lreturn, 1)) : Go P M pc L (.long u :: st) w (some (.long u), w) := by
  intro hl l Z a0 p e R s m args below meth c α b n0 h0 uC uS ok T locs cells slots I
  exact ⟨T, locs, cells, slots, I, fun fs hv => retOut I.1 ok.2.2.1 (t := .long) (ok.2.2.2.2.2.2.2.1.trans hT) rfl (Or.inr (Or.inl ⟨rfl, rfl, u, rfl⟩)) (hb ok.2.2.2.2.2.1 d) hv⟩
theorem go_ret (hT : mT M = none) (d : decode (mB M) pc = .ok (.return_, 1)) : Go P M pc L [] w (none, w) := by
  intro hl l Z a0 p e R s m args below meth c α b n0 h0 uC uS ok T locs cells slots I
  exact ⟨T, locs, cells, slots, I, fun fs hv => I.1.returnOut ok.2.2.1 (ok.2.2.2.2.2.2.2.1.trans hT) (hb ok.2.2.2.2.2.1 d) hv⟩
/-! ### fields -/
variable {o o' : Nat × S} {s : S} {k n : Nat}
theorem rep_one {Z : State} {ci : CI} {α b : Nat} {h : Heap} (F : RepW Z ci α b (none, [o]) h) : Rep1 Z ci h b o := by
  have := F.2 0 o rfl
  simpa using this
theorem rep_mk {Z : State} {ci : CI} {α b : Nat} {h : Heap} (F : Rep1 Z ci h b o) : RepW Z ci α b (none, [o]) h :=
  ⟨fun l hl => (nomatch hl), fun i o1 ho => by
    cases i with
    | zero => cases ho; simpa using F
    | succ i => simp at ho⟩
/-- the entry idx names the scalar field number f; of type ty -/
def FldS (P : PI) (idx f : Nat) (ty : FieldType) : Prop := ∃ nm ds, (cS P.2)[f]? = some (nm, ds, ty) ∧ Jvm.Cond.fieldLink (cN P.2) idx (cN P.2) nm ds ∈ P.1
def FldA (P : PI) (idx q : Nat) (ty : FieldType) : Prop := ∃ nm ds cap, (cA P.2)[q]? = some (nm, ds, ty, cap) ∧ Jvm.Cond.fieldLink (cN P.2) idx (cN P.2) nm ds ∈ P.1
theorem go_getV {idx f : Nat} {ty : FieldType} (F : FldS P idx f ty) (hM : (mY M).cls = cN P.2) (d : decode (mB M) pc = .ok (.getfield idx, 3)) {vv : Value} (hv : vv = scV ty s f) (hr : ∀ α b, con α b vv = vv) (g : Go P M (pc + 3) L (vv :: st) (none, [(k, s)]) out) : Go P M pc L (.ref 1 :: st) (none, [(k, s)]) out :=
  go_ch (fun l Z a0 p e R s1 m args below meth c α b n0 h0 uC uS ok hl T locs cells slots I => by
    obtain ⟨nm, ds, f1, f2⟩ := F
    obtain ⟨hw, fa, hx, hZ, hown, hc, hml, hret, hnm, hR, hn0, htop, hsz⟩ := ok
    obtain ⟨X, Rp, Fm, Nl, hs, u1, u2, c1, c2, hN⟩ := I
    have Fd := (rep_one Rp).2.1 f _ f1
    rw [hM] at hown
    obtain ⟨T', X', e', stp⟩ := getF X hx hZ hown (host := "") (Or.inl (hw _ f2)) Via.refl rfl Fd (g := mkF m pc (cL α b L) (cV α b (.ref 1 :: st))) rfl rfl (hb hc d)
    refine ⟨T', locs, cells, slots, ⟨X', by rw [e']; exact Rp, by rw [e']; exact Fm, Nl, by rw [e']; exact hs, u1, u2, c1, c2, hN⟩, fun target r => stp target ?_⟩
    rw [show cV α b (vv :: st) = con α b vv :: cV α b st from rfl, hr, hv] at r
    exact r) g
theorem go_getI {idx f : Nat} (F : FldS P idx f .int) (hM : (mY M).cls = cN P.2) (d : decode (mB M) pc = .ok (.getfield idx, 3)) (g : Go P M (pc + 3) L (.int (gI s f) :: st) (none, [(k, s)]) out) : Go P M pc L (.ref 1 :: st) (none, [(k, s)]) out :=
  go_getV F hM d rfl (fun _ _ => rfl) g
theorem go_getZ {idx f : Nat} (F : FldS P idx f .boolean) (hM : (mY M).cls = cN P.2) (d : decode (mB M) pc = .ok (.getfield idx, 3)) (g : Go P M (pc + 3) L (.int (gI s f) :: st) (none, [(k, s)]) out) : Go P M pc L (.ref 1 :: st) (none, [(k, s)]) out :=
  go_getV F hM d rfl (fun _ _ => rfl) g
theorem go_getJ {idx f : Nat} (F : FldS P idx f .long) (hM : (mY M).cls = cN P.2) (d : decode (mB M) pc = .ok (.getfield idx, 3)) (g : Go P M (pc + 3) L (.long (gL s f) :: st) (none, [(k, s)]) out) : Go P M pc L (.ref 1 :: st) (none, [(k, s)]) out :=
  go_getV F hM d rfl (fun _ _ => rfl) g
theorem go_getA {idx q : Nat} {ty : FieldType} (F : FldA P idx q ty) (hM : (mY M).cls = cN P.2) (d : decode (mB M) pc = .ok (.getfield idx, 3)) (hq : Nat.blt q k = true) (g : Go P M (pc + 3) L (.ref (q + 2) :: st) (none, [(k, s)]) out) : Go P M pc L (.ref 1 :: st) (none, [(k, s)]) out :=
  go_ch (fun l Z a0 p e R s1 m args below meth c α b n0 h0 uC uS ok hl T locs cells slots I => by
    obtain ⟨nm, ds, cap, f1, f2⟩ := F
    obtain ⟨hw, fa, hx, hZ, hown, hc, hml, hret, hnm, hR, hn0, htop, hsz⟩ := ok
    obtain ⟨X, Rp, Fm, Nl, hs, u1, u2, c1, c2, hN⟩ := I
    have Fd := (rep_one Rp).2.2.1 q _ f1
    rw [if_pos (show q < (k, s).1 by simpa [Nat.blt_eq] using hq)] at Fd
    rw [hM] at hown
    obtain ⟨T', X', e', stp⟩ := getF X hx hZ hown (host := "") (Or.inl (hw _ f2)) Via.refl rfl Fd (g := mkF m pc (cL α b L) (cV α b (.ref 1 :: st))) rfl rfl (hb hc d)
    refine ⟨T', locs, cells, slots, ⟨X', by rw [e']; exact Rp, by rw [e']; exact Fm, Nl, by rw [e']; exact hs, u1, u2, c1, c2, hN⟩, fun target r => stp target ?_⟩
    rw [show cV α b (.ref (q + 2) :: st) = .ref (b + (q + 1)) :: cV α b st from rfl] at r
    rw [show b + 1 + q = b + (q + 1) by omega]
    exact r) g
/-- another scalar of the object takes its value -/
theorem rep_put {Z : State} {a0 : Array Value} {ci : CI} {h h' : Heap} {b : Nat} {s s' : S} {k f : Nat} {nm ds : String} {ty : FieldType} {vv : Value} (fa : Facts Z a0 ci) (F : Rep1 Z ci h b (k, s)) (hf : (cS ci)[f]? = some (nm, ds, ty))
    (Wt : Wr h h' b (Jvm.RoadKit.slotOf Z (cN ci) nm ds) vv) (hv : vv = scV ty s' f) (ho : ∀ f' x, (cS ci)[f']? = some x → f' ≠ f → scV x.2.2 s' f' = scV x.2.2 s f') (ha : gA s' = gA s) (hbb : gB s' = gB s) : Rep1 Z ci h' b (k, s') := by
  obtain ⟨f1, f2, f3, f4⟩ := F
  obtain ⟨-, -, g1, g2, g3, -⟩ := fa
  have lt := get_lt hf
  refine ⟨f1.wr Wt, fun f' x hx => ?_, fun q x hx => ?_, fun q x hx hq => ?_⟩
  · by_cases e : f' = f
    · subst e
      cases hf.symm.trans hx
      show Fld Z h' b (cN ci) nm ds (scV ty s' f')
      rw [← hv]; exact (f2 f' _ hf).same Wt
    · have lt' := get_lt hx
      show Fld Z h' b (cN ci) x.1 x.2.1 (scV x.2.2 s' f')
      rw [ho f' x hx e]
      refine (f2 f' x hx).other Wt (Or.inr ?_)
      refine slot_ne (g1 f' x hx).1 (g1 f _ hf).1 ?_ (g1 f' x hx).2 (g1 f _ hf).2
      intro en
      have n1 : ((cS ci).map (fun x => x.1) ++ (cA ci).map (fun x => x.1))[f']? = some x.1 := by rw [List.getElem?_append_left (by simpa using lt')]; simp [hx]
      have n2 : ((cS ci).map (fun x => x.1) ++ (cA ci).map (fun x => x.1))[f]? = some nm := by rw [List.getElem?_append_left (by simpa using lt)]; simp [hf]
      rw [en] at n1
      obtain ⟨i1, j1⟩ := List.getElem?_eq_some_iff.mp n1
      obtain ⟨i2, j2⟩ := List.getElem?_eq_some_iff.mp n2
      exact e ((List.getElem_inj g3).mp (j1.trans j2.symm))
  · refine (f3 q x hx).other Wt (Or.inr ?_)
    have lt' := get_lt hx
    refine slot_ne (g2 q x hx).1 (g1 f _ hf).1 ?_ (g2 q x hx).2 (g1 f _ hf).2
    intro en
    have n1 : ((cS ci).map (fun x => x.1) ++ (cA ci).map (fun x => x.1))[(cS ci).length + q]? = some x.1 := by rw [List.getElem?_append_right (by simp)]; simp [hx]
    have n2 : ((cS ci).map (fun x => x.1) ++ (cA ci).map (fun x => x.1))[f]? = some nm := by rw [List.getElem?_append_left (by simpa using lt)]; simp [hf]
    rw [en] at n1
    obtain ⟨i1, j1⟩ := List.getElem?_eq_some_iff.mp n1
    obtain ⟨i2, j2⟩ := List.getElem?_eq_some_iff.mp n2
    have := (List.getElem_inj g3).mp (j1.trans j2.symm)
    omega
  · obtain ⟨c, A, e⟩ := f4 q x hx hq
    refine ⟨c, A.other Wt (nq (by omega)), e.trans ?_⟩
    show (arV x.2.2.1 s q).toArray = (arV x.2.2.1 s' q).toArray
    unfold arV
    split <;> simp [ha, hbb]
theorem go_putV {idx f : Nat} {ty : FieldType} {vv : Value} {s' : S} (F : FldS P idx f ty) (hM : (mY M).cls = cN P.2)
    (hlays : ∀ nm ds, (cS P.2)[f]? = some (nm, ds, ty) → Jvm.Cond.lays (cN P.2) (cN P.2) nm ds ∈ P.1 ∨ (Jvm.Cond.laysFinal (cN P.2) (cN P.2) nm ds ∈ P.1 ∧ (mY M).name = "<init>"))
    (hpos : 0 < mN M) (hr : ∀ α b, con α b vv = vv) (hn : narrow ty vv = vv) (hfi : fits ty vv = true) (hv : vv = scV ty s' f) (ho : ∀ f' x, (cS P.2)[f']? = some x → f' ≠ f → scV x.2.2 s' f' = scV x.2.2 s f') (ha : gA s' = gA s) (hbb : gB s' = gB s)
    (d : decode (mB M) pc = .ok (.putfield idx, 3)) (g : Go P M (pc + 3) L st (none, [(k, s')]) out) : Go P M pc L (vv :: .ref 1 :: st) (none, [(k, s)]) out :=
  go_ch (fun l Z a0 p e R s1 m args below meth c α b n0 h0 uC uS ok hl T locs cells slots I => by
    obtain ⟨nm, ds, f1, f2⟩ := F
    obtain ⟨hw, fa, hx, hZ, hown, hc, hml, hret, hnm, hR, hn0, htop, hsz⟩ := ok
    obtain ⟨X, Rp, Fm, Nl, hs, u1, u2, c1, c2, hN⟩ := I
    have Rp1 := rep_one Rp
    have Fd := Rp1.2.1 f _ f1
    rw [hM] at hown
    obtain ⟨T', h', X', e', Wt, stp⟩ := putF X hx hZ hown (host := "") (Or.inl (hw _ f2)) Via.refl rfl Fd Rp1.1 ((hlays nm ds f1).imp (fun q => hw _ q) (fun q => ⟨hw _ q.1, rfl, hnm.trans q.2⟩)) fa.1 (fa.2.2.1 f _ f1).2 hn hfi (g := mkF m pc (cL α b L) (vv :: .ref b :: cV α b st)) rfl rfl (hb hc d)
    refine ⟨T', _, cells, slots, ⟨X', rep_mk (by rw [e']; exact rep_put fa Rp1 f1 Wt hv ho ha hbb), by rw [e']; exact Fm.wr Wt (Nat.le_refl _) (by have := Nat.mul_le_mul_left (cK P.2 + 1) hpos; omega), Fr.snoc X' Nl hn0, by rw [e', Wt.size]; exact hs, u1, u2, c1, c2, hN⟩, fun target r => ?_⟩
    rw [show cV α b (vv :: .ref 1 :: st) = con α b vv :: .ref b :: cV α b st from rfl, hr]
    exact stp target r) g
theorem scV_sI (s : S) (f : Nat) (x : Int32) (ty : FieldType) (f' : Nat) (h : f' ≠ f) : scV ty (sI s f x) f' = scV ty s f' := by
  unfold scV; split <;> simp [gI_sI, gL_sI, h]
theorem scV_sL (s : S) (f : Nat) (x : Int64) (ty : FieldType) (f' : Nat) (h : f' ≠ f) : scV ty (sL s f x) f' = scV ty s f' := by
  unfold scV; split <;> simp [gI_sL, gL_sL, h]
/-- the word that lets the field be written -/
def Wrt (P : PI) (M : Meth) (f : Nat) : Prop := ∃ nm ds ty, (cS P.2)[f]? = some (nm, ds, ty) ∧ (Jvm.Cond.lays (cN P.2) (cN P.2) nm ds ∈ P.1 ∨ (Jvm.Cond.laysFinal (cN P.2) (cN P.2) nm ds ∈ P.1 ∧ (mY M).name = "<init>"))
theorem Wrt.use {f : Nat} {ty : FieldType} (h : Wrt P M f) : ∀ nm ds, (cS P.2)[f]? = some (nm, ds, ty) → Jvm.Cond.lays (cN P.2) (cN P.2) nm ds ∈ P.1 ∨ (Jvm.Cond.laysFinal (cN P.2) (cN P.2) nm ds ∈ P.1 ∧ (mY M).name = "<init>") := by
  obtain ⟨nm, ds, ty', h1, h2⟩ := h
  intro nm' ds' h3
  cases h1.symm.trans h3
  exact h2
theorem go_putI {idx f : Nat} (F : FldS P idx f .int) (hM : (mY M).cls = cN P.2) (hl : Wrt P M f) (hp : 0 < mN M) (d : decode (mB M) pc = .ok (.putfield idx, 3)) (g : Go P M (pc + 3) L st (none, [(k, sI s f x)]) out) : Go P M pc L (.int x :: .ref 1 :: st) (none, [(k, s)]) out :=
  go_putV F hM hl.use hp (fun _ _ => rfl) rfl rfl (by simp [scV, gI_sI]) (fun f' y _ h => scV_sI s f x _ f' h) rfl rfl d g
theorem go_putZ {idx f : Nat} (F : FldS P idx f .boolean) (hM : (mY M).cls = cN P.2) (hl : Wrt P M f) (hp : 0 < mN M) (hz : x = 0 ∨ x = 1) (d : decode (mB M) pc = .ok (.putfield idx, 3)) (g : Go P M (pc + 3) L st (none, [(k, sI s f x)]) out) : Go P M pc L (.int x :: .ref 1 :: st) (none, [(k, s)]) out :=
  go_putV F hM hl.use hp (fun _ _ => rfl) (by rcases hz with rfl | rfl <;> rfl) (by rcases hz with rfl | rfl <;> rfl) (by simp [scV, gI_sI]) (fun f' y _ h => scV_sI s f x _ f' h) rfl rfl d g
theorem go_putJ {idx f : Nat} (F : FldS P idx f .long) (hM : (mY M).cls = cN P.2) (hl : Wrt P M f) (hp : 0 < mN M) (d : decode (mB M) pc = .ok (.putfield idx, 3)) (g : Go P M (pc + 3) L st (none, [(k, sL s f u)]) out) : Go P M pc L (.long u :: .ref 1 :: st) (none, [(k, s)]) out :=
  go_putV F hM hl.use hp (fun _ _ => rfl) rfl rfl (by simp [scV, gL_sL]) (fun f' y _ h => scV_sL s f u _ f' h) rfl rfl d g
/-! ### arrays -/
theorem ix_some {A : Type} {l : List A} {j : Int32} {x : A} (h : ix l j = some x) : ¬ j < 0 ∧ l[j.toNatClampNeg]? = some x := by
  unfold ix at h; split at h
  · cases h
  · rename_i q; exact ⟨q, h⟩
theorem st_some {A : Type} {l l' : List A} {j : Int32} {x : A} (h : Jvm.AM.st l j x = some l') : ¬ j < 0 ∧ j.toNatClampNeg < l.length ∧ l' = l.set j.toNatClampNeg x := by
  unfold Jvm.AM.st at h; split at h
  · cases h
  · rename_i q; split at h
    · rename_i q2; cases h; exact ⟨q, q2, rfl⟩
    · cases h
theorem ar_in {c : Cell} {vs : List Value} {j : Int32} {vv : Value} (e : c.slots = vs.toArray) (h1 : ¬ j < 0) (h2 : vs[j.toNatClampNeg]? = some vv) : ¬ (j < 0 ∨ c.slots.size ≤ j.toNatClampNeg) ∧ c.slots[j.toNatClampNeg]? = some vv := by
  have := get_lt h2
  refine ⟨fun q => ?_, by rw [e]; simpa using h2⟩
  rcases q with q | q
  · exact h1 q
  · rw [e] at q; simp at q; omega
theorem go_iaload {q : Nat} {j : Int32} {nm ds : String} {cap : Nat} (ha : (cA P.2)[q]? = some (nm, ds, .int, cap)) (hq : Nat.blt q k = true) (hx : ix (gA s q) j = some v) (d : decode (mB M) pc = .ok (.iaload, 1)) (g : Go P M (pc + 1) L (.int v :: st) (none, [(k, s)]) out) : Go P M pc L (.int j :: .ref (q + 2) :: st) (none, [(k, s)]) out :=
  go_ch (fun l Z a0 p e R s1 m args below meth c α b n0 h0 uC uS ok hl T locs cells slots I => by
    obtain ⟨cl, A, ec⟩ := (rep_one I.2.1).2.2.2 q _ ha (by simpa [Nat.blt_eq] using hq)
    obtain ⟨h1, h2⟩ := ix_some hx
    obtain ⟨h3, h4⟩ := ar_in ec h1 (vv := .int v) (by simp [arV, h2])
    refine ⟨T, locs, cells, slots, I, fun target r => ?_⟩
    refine I.1.iaload ok.2.2.1 (j := j) (v := .int v) A.1 (State.isArrayOf_alike ok.2.2.2.1.alike A.2.1) A.2.2 h3 h4 (g := mkF m pc (cL α b L) (.int j :: .ref (b + 1 + q) :: cV α b st)) rfl rfl (hb ok.2.2.2.2.2.1 d) _ r |> fun t => ?_
    rw [show cV α b (.int j :: .ref (q + 2) :: st) = .int j :: .ref (b + (q + 1)) :: cV α b st from rfl, show b + (q + 1) = b + 1 + q by omega]
    exact t) g
theorem go_laload {q : Nat} {j : Int32} {nm ds : String} {cap : Nat} (ha : (cA P.2)[q]? = some (nm, ds, .long, cap)) (hq : Nat.blt q k = true) (hx : ix (gB s q) j = some u) (d : decode (mB M) pc = .ok (.laload, 1)) (g : Go P M (pc + 1) L (.long u :: st) (none, [(k, s)]) out) : Go P M pc L (.int j :: .ref (q + 2) :: st) (none, [(k, s)]) out :=
  go_ch (fun l Z a0 p e R s1 m args below meth c α b n0 h0 uC uS ok hl T locs cells slots I => by
    obtain ⟨cl, A, ec⟩ := (rep_one I.2.1).2.2.2 q _ ha (by simpa [Nat.blt_eq] using hq)
    obtain ⟨h1, h2⟩ := ix_some hx
    obtain ⟨h3, h4⟩ := ar_in ec h1 (vv := .long u) (by simp [arV, h2])
    refine ⟨T, locs, cells, slots, I, fun target r => ?_⟩
    refine I.1.laload ok.2.2.1 (j := j) (v := .long u) A.1 (State.isArrayOf_alike ok.2.2.2.1.alike A.2.1) A.2.2 h3 h4 (g := mkF m pc (cL α b L) (.int j :: .ref (b + 1 + q) :: cV α b st)) rfl rfl (hb ok.2.2.2.2.2.1 d) _ r |> fun t => ?_
    rw [show cV α b (.int j :: .ref (q + 2) :: st) = .int j :: .ref (b + (q + 1)) :: cV α b st from rfl, show b + (q + 1) = b + 1 + q by omega]
    exact t) g
theorem go_baload {q : Nat} {j : Int32} {nm ds : String} {ty : FieldType} {cap : Nat} (ha : (cA P.2)[q]? = some (nm, ds, ty, cap)) (hty : ty = .boolean ∨ ty = .byte) (hq : Nat.blt q k = true) (hx : ix (gA s q) j = some v) (d : decode (mB M) pc = .ok (.baload, 1)) (g : Go P M (pc + 1) L (.int v :: st) (none, [(k, s)]) out) : Go P M pc L (.int j :: .ref (q + 2) :: st) (none, [(k, s)]) out :=
  go_ch (fun l Z a0 p e R s1 m args below meth c α b n0 h0 uC uS ok hl T locs cells slots I => by
    obtain ⟨cl, A, ec⟩ := (rep_one I.2.1).2.2.2 q _ ha (by simpa [Nat.blt_eq] using hq)
    obtain ⟨h1, h2⟩ := ix_some hx
    refine ⟨T, locs, cells, slots, I, fun target r => ?_⟩
    rw [show cV α b (.int j :: .ref (q + 2) :: st) = .int j :: .ref (b + (q + 1)) :: cV α b st from rfl, show b + (q + 1) = b + 1 + q by omega]
    rcases hty with rfl | rfl
    · obtain ⟨h3, h4⟩ := ar_in ec h1 (vv := .int v) (by simp [arV, h2])
      exact I.1.baloadBooleans ok.2.2.1 (j := j) (v := .int v) A.1 (State.isArrayOf_alike ok.2.2.2.1.alike A.2.1) A.2.2 h3 h4 (g := mkF m pc (cL α b L) (.int j :: .ref (b + 1 + q) :: cV α b st)) rfl rfl (hb ok.2.2.2.2.2.1 d) _ r
    · obtain ⟨h3, h4⟩ := ar_in ec h1 (vv := .int v) (by simp [arV, h2])
      exact I.1.baloadBytes ok.2.2.1 (j := j) (v := .int v) A.1 (State.isArrayOf_alike ok.2.2.2.1.alike A.2.1) A.2.2 h3 h4 (g := mkF m pc (cL α b L) (.int j :: .ref (b + 1 + q) :: cV α b st)) rfl rfl (hb ok.2.2.2.2.2.1 d) _ r) g
theorem go_alen {q : Nat} {nm ds : String} {ty : FieldType} {cap : Nat} (ha : (cA P.2)[q]? = some (nm, ds, ty, cap)) (hty : ty ≠ .long) (hq : Nat.blt q k = true) (d : decode (mB M) pc = .ok (.arraylength, 1)) (g : Go P M (pc + 1) L (.int (gA s q).length.toInt32 :: st) (none, [(k, s)]) out) : Go P M pc L (.ref (q + 2) :: st) (none, [(k, s)]) out :=
  go_ch (fun l Z a0 p e R s1 m args below meth c α b n0 h0 uC uS ok hl T locs cells slots I => by
    obtain ⟨cl, A, ec⟩ := (rep_one I.2.1).2.2.2 q _ ha (by simpa [Nat.blt_eq] using hq)
    refine ⟨T, locs, cells, slots, I, fun target r => ?_⟩
    have e1 : cl.slots.size = (gA s q).length := by rw [ec]; cases ty <;> simp [arV] at hty ⊢
    rw [show cV α b (.ref (q + 2) :: st) = .ref (b + (q + 1)) :: cV α b st from rfl, show b + (q + 1) = b + 1 + q by omega]
    refine I.1.arraylength ok.2.2.1 (cell := cl) A.1 (State.isArrayOf_alike ok.2.2.2.1.alike A.2.1) (g := mkF m pc (cL α b L) (.ref (b + 1 + q) :: cV α b st)) rfl rfl (hb ok.2.2.2.2.2.1 d) _ ?_
    rw [e1]; exact r) g
theorem go_sload {l0 : List Int32} {os : List (Nat × S)} {j : Int32} (hx : ix l0 j = some v) (d : decode (mB M) pc = .ok (.iaload, 1)) (g : Go P M (pc + 1) L (.int v :: st) (some l0, os) out) : Go P M pc L (.int j :: .ref 0 :: st) (some l0, os) out :=
  go_ch (fun l Z a0 p e R s1 m args below meth c α b n0 h0 uC uS ok hl T locs cells slots I => by
    obtain ⟨cl, A, ec⟩ := (I.2.1.1 l0 rfl).1
    obtain ⟨h1, h2⟩ := ix_some hx
    obtain ⟨h3, h4⟩ := ar_in ec h1 (vv := .int v) (by simp [h2])
    exact ⟨T, locs, cells, slots, I, fun target r => I.1.iaload ok.2.2.1 (j := j) (v := .int v) A.1 (State.isArrayOf_alike ok.2.2.2.1.alike A.2.1) A.2.2 h3 h4 (g := mkF m pc (cL α b L) (cV α b (.int j :: .ref 0 :: st))) rfl rfl (hb ok.2.2.2.2.2.1 d) _ r⟩) g
theorem go_slen {l0 : List Int32} {os : List (Nat × S)} (d : decode (mB M) pc = .ok (.arraylength, 1)) (g : Go P M (pc + 1) L (.int l0.length.toInt32 :: st) (some l0, os) out) : Go P M pc L (.ref 0 :: st) (some l0, os) out :=
  go_ch (fun l Z a0 p e R s1 m args below meth c α b n0 h0 uC uS ok hl T locs cells slots I => by
    obtain ⟨cl, A, ec⟩ := (I.2.1.1 l0 rfl).1
    refine ⟨T, locs, cells, slots, I, fun target r => ?_⟩
    have e1 : cl.slots.size = l0.length := by rw [ec]; simp
    refine I.1.arraylength ok.2.2.1 (cell := cl) A.1 (State.isArrayOf_alike ok.2.2.2.1.alike A.2.1) (g := mkF m pc (cL α b L) (cV α b (.ref 0 :: st))) rfl rfl (hb ok.2.2.2.2.2.1 d) _ ?_
    rw [e1]; exact r) g
/-- a component of an array of the object takes its value -/
theorem rep_store {Z : State} {ci : CI} {h h' : Heap} {b : Nat} {s s' : S} {k q i : Nat} {nm ds : String} {ty : FieldType} {cap : Nat} {vv : Value} (F : Rep1 Z ci h b (k, s)) (hf : (cA ci)[q]? = some (nm, ds, ty, cap)) (hq : q < k)
    (Wt : Wr h h' (b + 1 + q) i vv) (hi : i < (arV ty s q).length) (hv : arV ty s' q = (arV ty s q).set i vv) (ho : ∀ q' x, (cA ci)[q']? = some x → q' ≠ q → arV x.2.2.1 s' q' = arV x.2.2.1 s q') (ha : gI s' = gI s) (hbb : gL s' = gL s) : Rep1 Z ci h' b (k, s') := by
  obtain ⟨f1, f2, f3, f4⟩ := F
  refine ⟨f1.wr Wt, fun f x hx => ?_, fun q' x hx => (f3 q' x hx).other Wt (Or.inl (nq (by omega))), fun q' x hx hq' => ?_⟩
  · have e : scV x.2.2 s' f = scV x.2.2 s f := by unfold scV; split <;> simp [ha, hbb]
    show Fld Z h' b (cN ci) x.1 x.2.1 (scV x.2.2 s' f)
    rw [e]
    exact (f2 f x hx).other Wt (Or.inl (nq (by omega)))
  · by_cases e : q' = q
    · subst e
      cases hf.symm.trans hx
      obtain ⟨c, A, ec⟩ := f4 q' _ hf hq
      refine ⟨_, A.same Wt, ?_⟩
      show (c.setSlot i vv).slots = (arV ty s' q').toArray
      rw [hv]
      simp only [Cell.setSlot, ec]
      simp
    · obtain ⟨c, A, ec⟩ := f4 q' x hx hq'
      refine ⟨c, A.other Wt (nq (by omega)), ec.trans ?_⟩
      rw [ho q' x hx e]
theorem arV_sA (s : S) (q : Nat) (l : List Int32) (ty : FieldType) (q' : Nat) (h : q' ≠ q) : arV ty (sA s q l) q' = arV ty s q' := by
  unfold arV; split <;> simp [gA_sA, gB_sA, h]
theorem arV_sB (s : S) (q : Nat) (l : List Int64) (ty : FieldType) (q' : Nat) (h : q' ≠ q) : arV ty (sB s q l) q' = arV ty s q' := by
  unfold arV; split <;> simp [gA_sB, gB_sB, h]
theorem in_of {c : Cell} {vs : List Value} {j : Int32} (e : c.slots = vs.toArray) (h1 : ¬ j < 0) (h2 : j.toNatClampNeg < vs.length) : ¬ (j < 0 ∨ c.slots.size ≤ j.toNatClampNeg) := fun q => by
  rcases q with q | q
  · exact h1 q
  · rw [e] at q; simp at q; omega
theorem go_iastore {q : Nat} {j : Int32} {nm ds : String} {cap : Nat} {l' : List Int32} (ha : (cA P.2)[q]? = some (nm, ds, .int, cap)) (hq : Nat.blt q k = true) (hp : 0 < mN M) (hx : Jvm.AM.st (gA s q) j x = some l') (d : decode (mB M) pc = .ok (.iastore, 1)) (g : Go P M (pc + 1) L st (none, [(k, sA s q l')]) out) : Go P M pc L (.int x :: .int j :: .ref (q + 2) :: st) (none, [(k, s)]) out :=
  go_ch (fun l Z a0 p e R s1 m args below meth c α b n0 h0 uC uS ok hl T locs cells slots I => by
    have hq' : q < k := by simpa [Nat.blt_eq] using hq
    have hqK := get_lt ha
    obtain ⟨X, Rp, Fm, Nl, hs, u1, u2, c1, c2, hN⟩ := I
    obtain ⟨cl, A, ec⟩ := (rep_one Rp).2.2.2 q _ ha hq'
    obtain ⟨h1, h2, rfl⟩ := st_some hx
    have hin := in_of ec h1 (by simpa [arV] using h2)
    obtain ⟨T', h', X', e', Wt, stp⟩ := stI X ok.2.2.1 ok.2.2.2.1 rfl A (x := x) hin (g := mkF m pc (cL α b L) (.int x :: .int j :: .ref (b + 1 + q) :: cV α b st)) rfl rfl (hb ok.2.2.2.2.2.1 d)
    refine ⟨T', _, cells, slots, ⟨X', rep_mk (by rw [e']; exact rep_store (rep_one Rp) ha hq' Wt (by simpa [arV] using h2) (by simp [arV, gA_sA, List.map_set]) (fun q' y _ h => arV_sA s q _ _ q' h) rfl rfl), by rw [e']; exact Fm.wr Wt (by omega) (by have := Nat.mul_le_mul_left (cK P.2 + 1) hp; simp only [cK] at *; omega), Fr.snoc X' Nl (by have := ok.2.2.2.2.2.2.2.2.2.2.1; omega), by rw [e', Wt.size]; exact hs, u1, u2, c1, c2, hN⟩, fun target r => ?_⟩
    rw [show cV α b (.int x :: .int j :: .ref (q + 2) :: st) = .int x :: .int j :: .ref (b + (q + 1)) :: cV α b st from rfl, show b + (q + 1) = b + 1 + q by omega]
    exact stp target r) g
theorem go_lastore {q : Nat} {j : Int32} {nm ds : String} {cap : Nat} {l' : List Int64} (ha : (cA P.2)[q]? = some (nm, ds, .long, cap)) (hq : Nat.blt q k = true) (hp : 0 < mN M) (hx : Jvm.AM.st (gB s q) j u = some l') (d : decode (mB M) pc = .ok (.lastore, 1)) (g : Go P M (pc + 1) L st (none, [(k, sB s q l')]) out) : Go P M pc L (.long u :: .int j :: .ref (q + 2) :: st) (none, [(k, s)]) out :=
  go_ch (fun l Z a0 p e R s1 m args below meth c α b n0 h0 uC uS ok hl T locs cells slots I => by
    have hq' : q < k := by simpa [Nat.blt_eq] using hq
    have hqK := get_lt ha
    obtain ⟨X, Rp, Fm, Nl, hs, u1, u2, c1, c2, hN⟩ := I
    obtain ⟨cl, A, ec⟩ := (rep_one Rp).2.2.2 q _ ha hq'
    obtain ⟨h1, h2, rfl⟩ := st_some hx
    have hin := in_of ec h1 (by simpa [arV] using h2)
    obtain ⟨T', h', X', e', Wt, stp⟩ := stJ X ok.2.2.1 ok.2.2.2.1 rfl A (x := u) hin (g := mkF m pc (cL α b L) (.long u :: .int j :: .ref (b + 1 + q) :: cV α b st)) rfl rfl (hb ok.2.2.2.2.2.1 d)
    refine ⟨T', _, cells, slots, ⟨X', rep_mk (by rw [e']; exact rep_store (rep_one Rp) ha hq' Wt (by simpa [arV] using h2) (by simp [arV, gB_sB, List.map_set]) (fun q' y _ h => arV_sB s q _ _ q' h) rfl rfl), by rw [e']; exact Fm.wr Wt (by omega) (by have := Nat.mul_le_mul_left (cK P.2 + 1) hp; simp only [cK] at *; omega), Fr.snoc X' Nl (by have := ok.2.2.2.2.2.2.2.2.2.2.1; omega), by rw [e', Wt.size]; exact hs, u1, u2, c1, c2, hN⟩, fun target r => ?_⟩
    rw [show cV α b (.long u :: .int j :: .ref (q + 2) :: st) = .long u :: .int j :: .ref (b + (q + 1)) :: cV α b st from rfl, show b + (q + 1) = b + 1 + q by omega]
    exact stp target r) g
theorem go_bastore {q : Nat} {j : Int32} {nm ds : String} {ty : FieldType} {cap : Nat} {l' : List Int32} (ha : (cA P.2)[q]? = some (nm, ds, ty, cap)) (hty : ty = .boolean ∨ ty = .byte) (hq : Nat.blt q k = true) (hp : 0 < mN M) (hv : v = nar ty x) (hx : Jvm.AM.st (gA s q) j v = some l') (d : decode (mB M) pc = .ok (.bastore, 1)) (g : Go P M (pc + 1) L st (none, [(k, sA s q l')]) out) : Go P M pc L (.int x :: .int j :: .ref (q + 2) :: st) (none, [(k, s)]) out :=
  go_ch (fun l Z a0 p e R s1 m args below meth c α b n0 h0 uC uS ok hl T locs cells slots I => by
    have hq' : q < k := by simpa [Nat.blt_eq] using hq
    have hqK := get_lt ha
    obtain ⟨X, Rp, Fm, Nl, hs, u1, u2, c1, c2, hN⟩ := I
    obtain ⟨cl, A, ec⟩ := (rep_one Rp).2.2.2 q _ ha hq'
    obtain ⟨h1, h2, rfl⟩ := st_some hx
    subst hv
    have hlen : j.toNatClampNeg < (arV ty s q).length := by rcases hty with rfl | rfl <;> simpa [arV] using h2
    have hset : arV ty (sA s q ((gA s q).set j.toNatClampNeg (nar ty x))) q = (arV ty s q).set j.toNatClampNeg (.int (nar ty x)) := by rcases hty with rfl | rfl <;> simp [arV, gA_sA, List.map_set]
    have hin := in_of ec h1 hlen
    obtain ⟨T', h', X', e', Wt, stp⟩ : ∃ T' h', Stand p l e R s1 m args below meth c T' (locs ++ [⟨b + 1 + q, j.toNatClampNeg⟩]) cells slots ∧ T'.heap = h' ∧ Wr T.heap h' (b + 1 + q) j.toNatClampNeg (.int (nar ty x)) ∧ ∀ target, Steps p.tables e below (T'.setTop (mkF m (pc + 1) (cL α b L) (cV α b st))) target → Steps p.tables e below (T.setTop (mkF m pc (cL α b L) (.int x :: .int j :: .ref (b + 1 + q) :: cV α b st))) target := by
      rcases hty with rfl | rfl
      · exact stZ X ok.2.2.1 ok.2.2.2.1 rfl A (x := x) hin (g := mkF m pc (cL α b L) (.int x :: .int j :: .ref (b + 1 + q) :: cV α b st)) rfl rfl (hb ok.2.2.2.2.2.1 d)
      · exact stB X ok.2.2.1 ok.2.2.2.1 rfl A (x := x) hin (g := mkF m pc (cL α b L) (.int x :: .int j :: .ref (b + 1 + q) :: cV α b st)) rfl rfl (hb ok.2.2.2.2.2.1 d)
    refine ⟨T', _, cells, slots, ⟨X', rep_mk (by rw [e']; exact rep_store (rep_one Rp) ha hq' Wt hlen hset (fun q' y _ h => arV_sA s q _ _ q' h) rfl rfl), by rw [e']; exact Fm.wr Wt (by omega) (by have := Nat.mul_le_mul_left (cK P.2 + 1) hp; simp only [cK] at *; omega), Fr.snoc X' Nl (by have := ok.2.2.2.2.2.2.2.2.2.2.1; omega), by rw [e', Wt.size]; exact hs, u1, u2, c1, c2, hN⟩, fun target r => ?_⟩
    rw [show cV α b (.int x :: .int j :: .ref (q + 2) :: st) = .int x :: .int j :: .ref (b + (q + 1)) :: cV α b st from rfl, show b + (q + 1) = b + 1 + q by omega]
    exact stp target r) g
/-! ## 5. A method as a whole; calls -/
def Call (P : PI) (M : Meth) (as : List Value) (w : W) (out : Option Value × W) : Prop :=
  ∀ (l : Launch) (Z : State) (a0 : Array Value) (ws : List Jvm.Cond) (α b n0 : Nat) (h0 : Heap), (∀ d ∈ P.1, d.before a0 Z = true) → Facts Z a0 P.2 → n0 ≤ b → RepW Z P.2 α b w h0 → w.2.length ≤ mN M → (mTop M = true → h0.size = b + usedC w ∧ usedC w = mUC M ∧ usedS P.2 w = mUS M) →
    MetFree l (mY M) (head1 (Jvm.Cond.code (mY M) (mB M) (mL M) (mT M) :: ws) (mR M)) (fun a U => a = (cV α b as).toArray ∧ Z.Warmed39 U.vm ∧ U.heap = h0) (fun _ _ _ _ _ => True)
      (fun _ U o U' => ∃ v L, o = .returned v ∧ (v = out.1.map (con α b) ∧ Fr n0 L ∧ RepW Z P.2 α b out.2 U'.heap ∧ Frm b (b + (cK P.2 + 1) * mN M) h0 U'.heap ∧ ∃ k, U'.heap.size = h0.size + k ∧ k + usedC w = usedC out.2) ∧ FrameEnd U o U' L (mR M).cells (mR M).slots)
theorem call_of_go {as : List Value} (hpl : plainName (mY M).cls = true) (hlen : (entryL as (mL M)).length = mL M) (hret : mT M = none → out.1 = none) (g : Go P M 0 (entryL as (mL M)) [] w out) : Call P M as w out := by
  intro l Z a0 ws α b n0 h0 hw fa hn0 Rp hN htop
  refine MetFree.of_bodySF (plainFor_of_name hpl) hisR ?_
  intro p e s m args below meth c s₁ Bd hml0 hP hK
  obtain ⟨rfl, hZ, hh⟩ := hP
  have X0 : Stand p l e (mR M) s m (cV α b as).toArray below meth c s₁ [] 0 0 := Stand.of_body Bd
  have e0 : s₁.heap = h0 := by rw [← hh, Bd.state]; rfl
  obtain ⟨T', L', c', n', I', fin⟩ := g hlen l Z a0 p e (mR M) s m (cV α b as).toArray below meth c α b n0 h0 (usedC w) (usedS P.2 w) ⟨hw, fa, Bd.exec, hZ, findClass_of_methodNamed Bd.named, Bd.bytes, hml0, Bd.returns, (name_of_methodNamed Bd.named Bd.method).1, rfl, hn0, htop, by rw [hh]⟩ s₁ [] 0 0 ⟨X0, by rw [e0]; exact Rp, by rw [e0]; exact Frm.refl _ _ _, Fr.nil _, by rw [e0]; rfl, by simp, by simp, Nat.zero_le _, Nat.zero_le _, hN⟩
  obtain ⟨X', Rp', Fm', Nl', hs', u1', u2', c1', c2', hN'⟩ := I'
  obtain ⟨fs, hr, hrun, hended, hW, hsame⟩ := X'.leave (v := out.1.map (con α b)) (fun h => by rw [Bd.returns] at h; rw [hret h]; rfl)
  refine ⟨_, _, ?_, hrun, hended, _, _, rfl, ⟨rfl, Nl', Rp', Fm', c', hs', u1'⟩, ⟨_, rfl⟩, hW, hsame.mono c1' c2'⟩
  have q := fin fs hr
  rw [← entry_locals] at q
  exact q
def nr : Value → Bool
  | .ref _ => false
  | _ => true
theorem con_nr {α b : Nat} {v : Value} (h : nr v = true) : con α b v = v := by
  cases v <;> first | rfl | cases h
theorem cV_nr {α b : Nat} {l : List Value} (h : l.all nr = true) : cV α b l = l := by
  have : ∀ x ∈ l, con α b x = x := fun x hx => con_nr (List.all_eq_true.mp h x hx)
  unfold cV
  exact (List.map_congr_left this).trans (List.map_id _)
theorem rep_obj {Z : State} {ci : CI} {α b : Nat} {h : Heap} {i : Nat} (F : RepW Z ci α b w h) (ho : w.2[i]? = some o) : RepW Z ci 0 (b + (cK ci + 1) * i) (none, [o]) h := rep_mk (F.2 i o ho)
theorem rep_back {Z : State} {ci : CI} {α α' b : Nat} {h h' : Heap} {i : Nat} (F : RepW Z ci α b w h) (ho : w.2[i]? = some o) (G : RepW Z ci α' (b + (cK ci + 1) * i) (none, [o']) h') (Fm : Frm (b + (cK ci + 1) * i) (b + (cK ci + 1) * i + (cK ci + 1) * 1) h h') : RepW Z ci α b (w.1, w.2.set i o') h' := by
  refine ⟨fun l hl => ⟨((F.1 l hl).1).frm fun c q => Fm _ _ q (Or.inl ?_), (F.1 l hl).2⟩, fun j oj hj => ?_⟩
  · have := (F.1 l hl).2; exact Nat.lt_of_lt_of_le this (Nat.le_add_right _ _)
  · by_cases e : j = i
    · subst e
      rw [show (w.1, w.2.set j o').2 = w.2.set j o' from rfl, List.getElem?_set_self (get_lt ho)] at hj
      cases hj
      exact rep_one G
    · rw [show (w.1, w.2.set i o').2 = w.2.set i o' from rfl, List.getElem?_set_ne (Ne.symm e)] at hj
      refine (F.2 j oj hj).frm fun x c q1 q2 q3 => Fm _ _ q3 ?_
      rcases Nat.lt_or_gt_of_ne e with q | q
      · have := Nat.mul_le_mul_left (cK ci + 1) q
        rw [Nat.mul_succ] at this; omega
      · have := Nat.mul_le_mul_left (cK ci + 1) q
        rw [Nat.mul_succ] at this; omega
theorem sum_set {A : Type} (f : A → Nat) {a a' : A} : ∀ {l : List A} {i : Nat}, l[i]? = some a → ((l.set i a').map f).sum + f a = (l.map f).sum + f a'
  | [], i, h => by simp at h
  | b :: r, 0, h => by simp at h; subst h; simp; omega
  | b :: r, i + 1, h => by
    simp only [List.getElem?_cons_succ] at h
    have := sum_set f (a' := a') h
    simp only [List.set_cons_succ, List.map_cons, List.sum_cons]; omega
def CQ (ci : CI) (Z : State) (α b n0 : Nat) (h0 : Heap) (N : Nat) (w : W) (out : Option Value × W) (v : Option Value) (hp : Heap) (L : List Loc) : Prop := v = out.1.map (con α b) ∧ Fr n0 L ∧ RepW Z ci α b out.2 hp ∧ Frm b (b + (cK ci + 1) * N) h0 hp ∧ ∃ k, hp.size = h0.size + k ∧ k + usedC w = usedC out.2
/-- what a callee that makes nothing must fit into -/
def Small (M M' : Meth) (rest : List Value) : Prop := (mR M').cells = 0 ∧ (mR M').slots = 0 ∧ mTop M' = false ∧ Nat.ble ((mR M').frames + 1) (mR M).frames = true ∧ Nat.ble ((rest.map fun v => v.category).sum + (mL M' + 11) + (mR M').locals) (mR M).locals = true
theorem ret_st {α b b' : Nat} {r : Option Value} {rest : List Value} (hr : r.all nr = true) : (r.map (con 0 b')).toList ++ cV α b rest = cV α b (r.toList ++ rest) := by
  cases r with
  | none => rfl
  | some v => simp only [Option.map_some, Option.toList_some, cV, List.cons_append, List.nil_append, List.map_cons]; rw [con_nr (show nr v = true from hr), con_nr (show nr v = true from hr)]
theorem inv_obj {l : Launch} {Z : State} {p : Program} {e : Env} {R : Room} {s : State} {m : MethodId} {args : Array Value} {below : List Frame} {meth : Method} {c : Code} {α b n0 : Nat} {h0 : Heap} {uC uS : Nat} {T T2 : State} {locs L2 : List Loc} {cells slots rc rs i : Nat}
    (I : Inv P M l Z p e R s m args below meth c α b n0 h0 uC uS w T locs cells slots) (ho : w.2[i]? = some o) (X2 : Stand p l e R s m args below meth c T2 (locs ++ L2) (cells + rc) (slots + rs))
    (N2 : Fr n0 L2) (R2 : RepW Z P.2 0 (b + (cK P.2 + 1) * i) (none, [o']) T2.heap) (F2 : Frm (b + (cK P.2 + 1) * i) (b + (cK P.2 + 1) * i + (cK P.2 + 1) * 1) T.heap T2.heap) (k2 : ∃ k, T2.heap.size = T.heap.size + k ∧ k + usedC (none, [o]) = usedC (none, [o']))
    (hC : o'.1 = o.1 + rc) (hS : usedS P.2 (none, [o']) = usedS P.2 (none, [o]) + rs) (q1 : cells + rc ≤ R.cells) (q2 : slots + rs ≤ R.slots) : Inv P M l Z p e R s m args below meth c α b n0 h0 uC uS (w.1, w.2.set i o') T2 (locs ++ L2) (cells + rc) (slots + rs) := by
  obtain ⟨X, Rp, Fm, Nl, hs, u1, u2, c1, c2, hN⟩ := I
  obtain ⟨k, k1, k3⟩ := k2
  have hi := get_lt ho
  have a1 := sum_set (fun o : Nat × S => 1 + o.1) (a' := o') ho
  have a2 := sum_set (fun o : Nat × S => cF P.2 + (((cA P.2).take o.1).map fun x => x.2.2.2).sum) (a' := o') ho
  have hle : (cK P.2 + 1) * (i + 1) ≤ (cK P.2 + 1) * mN M := Nat.mul_le_mul_left _ (by omega)
  rw [Nat.mul_succ] at hle
  refine ⟨X2, rep_back Rp ho R2 F2, Fm.trans (F2.wide (Nat.le_add_right _ _) (by omega)), Nl.app N2, ?_, ?_, ?_, q1, q2, by simpa using hN⟩
  · simp only [usedC, List.map_cons, List.map_nil, List.sum_cons, List.sum_nil] at k3; omega
  · simp only [usedC] at u1 ⊢; omega
  · simp only [usedS, List.map_cons, List.map_nil, List.sum_cons, List.sum_nil] at u2 hS ⊢; omega
def LinkV (P : PI) (own : String) (idx : Nat) (M' : Meth) : Prop := Jvm.Cond.methodLink own idx (mY M') ∈ P.1 ∧ Jvm.Cond.declares (mY M') ∈ P.1 ∧ Jvm.Cond.selects (cN P.2) (mY M') (mY M') ∈ P.1 ∧ Jvm.Cond.instanceMethod (mY M') ∈ P.1 ∧ Jvm.Cond.code (mY M') (mB M') (mL M') (mT M') ∈ P.1 ∧ (mY M').cls = cN P.2 ∧ mN M' = 1
def LinkP (P : PI) (own : String) (idx : Nat) (M' : Meth) : Prop := Jvm.Cond.methodLink own idx (mY M') ∈ P.1 ∧ Jvm.Cond.instanceMethod (mY M') ∈ P.1 ∧ Jvm.Cond.privateMethod (mY M') ∈ P.1 ∧ Jvm.Cond.code (mY M') (mB M') (mL M') (mT M') ∈ P.1 ∧ (mY M').cls = cN P.2 ∧ mN M' = 1
def LinkS (P : PI) (own : String) (idx : Nat) (M' : Meth) : Prop := Jvm.Cond.methodLink own idx (mY M') ∈ P.1 ∧ Jvm.Cond.static (mY M') ∈ P.1 ∧ Jvm.Cond.initialized (mY M').cls ∈ P.1 ∧ Jvm.Cond.code (mY M') (mB M') (mL M') (mT M') ∈ P.1 ∧ ((mY M').cls ≠ "java/lang/invoke/MethodHandle" ∧ (mY M').cls ≠ "java/lang/invoke/VarHandle")
def LinkI (P : PI) (own : String) (idx : Nat) (M' : Meth) : Prop := Jvm.Cond.methodLink own idx (mY M') ∈ P.1 ∧ Jvm.Cond.instanceMethod (mY M') ∈ P.1 ∧ Jvm.Cond.code (mY M') (mB M') (mL M') (mT M') ∈ P.1 ∧ (mY M').cls = cN P.2 ∧ mN M' = 1 ∧ mT M' = none ∧ (mY M').name = "<init>"
variable {M' : Meth} {i idx id : Nat} {as rest : List Value} {rv : Option Value} {ps : List FieldType} {rt : Option FieldType}
theorem cV_call {α b : Nat} {jd : Nat} (hnr : as.all nr = true) (hst : st = as.reverse ++ .ref (jd + 1) :: rest) : cV α b st = as.reverse ++ .ref (b + jd) :: cV α b rest := by
  subst hst
  have h1 : cV α b as.reverse = as.reverse := cV_nr (by rw [List.all_reverse]; exact hnr)
  unfold cV at h1 ⊢
  rw [List.map_append, h1]; rfl
theorem go_virt (lk : LinkV P (mY M).cls idx M') (pd : parseMethodDescriptor (mY M').desc = some ⟨ps, rt⟩) (hn : as.length = ps.length) (hid : id = (cK P.2 + 1) * i + 1) (hst : st = as.reverse ++ .ref id :: rest) (hnr : as.all nr = true) (hrr : rv.all nr = true) (ho : w.2[i]? = some o) (hw' : w' = (w.1, w.2.set i o')) (hC : o'.1 = o.1) (sm : Small M M' rest)
    (d : decode (mB M) pc = .ok (.invokevirtual idx, 3)) (cl : Call P M' (.ref 1 :: as) (none, [o]) (rv, (none, [o']))) (g : Go P M (pc + 3) L (rv.toList ++ rest) w' out) : Go P M pc L st w out :=
  go_ch (fun l Z a0 p e R s1 m args below meth c α b n0 h0 uC uS ok hl T locs cells slots I => by
    subst hw' hid
    obtain ⟨hw, fa, hx, hZ, hown, hc, hml, hret, hnm, hR, hn0, htop, hsz⟩ := ok
    obtain ⟨k1, k2, k3, k4, k5, k6, k7⟩ := lk
    obtain ⟨z1, z2, z3, z4, z5⟩ := sm
    have C := cl l Z a0 [] 0 (b + (cK P.2 + 1) * i) n0 T.heap hw fa (Nat.le_trans hn0 (Nat.le_add_right _ _)) (rep_obj I.2.1 ho) (by rw [k7]; exact Nat.le_refl _) (fun q => by rw [z3] at q; cases q)
    have Bk := backOf (Q := CQ P.2 Z 0 (b + (cK P.2 + 1) * i) n0 T.heap (mN M') (none, [o]) (rv, (none, [o']))) (R := R) (p := p) (e := e) (below := below) (s := s1) (args := args) (len := 3) (W := (rest.map fun v => v.category).sum) C hZ (hw _ k5) (by rw [k6]; exact fa.2.1) (by rw [hR]; exact Nat.le_of_ble_eq_true z4) (by rw [hR]; exact Nat.le_of_ble_eq_true z5)
    have E := (I.2.1.2 i o ho).1
    obtain ⟨cB, kB, q1, q2, q3⟩ := isOf (T := T) hZ rfl E
    obtain ⟨v, vm1, ⟨T2, Lx, kx, nx⟩, -, X2, ⟨L2, hQ, l2, y2, n2⟩, stp⟩ := I.1.virtualBack hx (y := mY M') (z := mY M') hown (mvT hZ (hw _ k1)) (mvT hZ (hw _ k2)) (notFace_of_selects (args := #[]) (mvT hZ (hw _ k3))) (mvT hZ (hw _ k3)) (mvT hZ (hw _ k4)) (by rw [k6]; exact fa.2.2.2.2.2.2) Bk q1 q3 (g := mkF m pc (cL α b L) (cV α b st)) rfl (by show (cL α b L).size = c.maxLocals; rw [cL_size, hl, hml]) (Steps.refl _) (argsL := as) (rest := cV α b rest) (lenOf pd hn) (cV_call hnr hst)
      (by show 2 * 0 + _ ≤ _; rw [cV_sum]; exact Nat.le_of_eq (Nat.zero_add _)) (hb hc d) (fun _ _ => ⟨by rw [show (cV 0 (b + (cK P.2 + 1) * i) (.ref 1 :: as)) = .ref (b + (cK P.2 + 1) * i) :: cV 0 (b + (cK P.2 + 1) * i) as from rfl, cV_nr hnr], rfl, by rw [z1]; exact I.2.2.2.2.2.2.2.1, by rw [z2]; exact I.2.2.2.2.2.2.2.2.1⟩)
    dsimp only [Pt.U, Pt.locs, Pt.cells, Pt.slots] at X2 l2 y2 n2 stp hQ
    subst l2 y2 n2
    obtain ⟨rfl, N2, R2, F2, k8⟩ := hQ
    rw [k7] at F2
    refine ⟨T2, _, _, _, inv_obj I ho X2 N2 R2 F2 k8 (by rw [z1]; exact hC) (by rw [z2]; simp [usedS, hC]) (by rw [z1]; exact I.2.2.2.2.2.2.2.1) (by rw [z2]; exact I.2.2.2.2.2.2.2.2.1), fun target r => stp.trans ?_⟩
    rw [← ret_st (b' := b + (cK P.2 + 1) * i) hrr] at r
    exact r) g
theorem go_priv (lk : LinkP P (mY M).cls idx M') (pd : parseMethodDescriptor (mY M').desc = some ⟨ps, rt⟩) (hn : as.length = ps.length) (hid : id = (cK P.2 + 1) * i + 1) (hst : st = as.reverse ++ .ref id :: rest) (hnr : as.all nr = true) (hrr : rv.all nr = true) (ho : w.2[i]? = some o) (hw' : w' = (w.1, w.2.set i o')) (hC : o'.1 = o.1) (sm : Small M M' rest)
    (d : decode (mB M) pc = .ok (.invokevirtual idx, 3)) (cl : Call P M' (.ref 1 :: as) (none, [o]) (rv, (none, [o']))) (g : Go P M (pc + 3) L (rv.toList ++ rest) w' out) : Go P M pc L st w out :=
  go_ch (fun l Z a0 p e R s1 m args below meth c α b n0 h0 uC uS ok hl T locs cells slots I => by
    subst hw' hid
    obtain ⟨hw, fa, hx, hZ, hown, hc, hml, hret, hnm, hR, hn0, htop, hsz⟩ := ok
    obtain ⟨k1, k4, k3, k5, k6, k7⟩ := lk
    obtain ⟨z1, z2, z3, z4, z5⟩ := sm
    have C := cl l Z a0 [] 0 (b + (cK P.2 + 1) * i) n0 T.heap hw fa (Nat.le_trans hn0 (Nat.le_add_right _ _)) (rep_obj I.2.1 ho) (by rw [k7]; exact Nat.le_refl _) (fun q => by rw [z3] at q; cases q)
    have Bk := backOf (Q := CQ P.2 Z 0 (b + (cK P.2 + 1) * i) n0 T.heap (mN M') (none, [o]) (rv, (none, [o']))) (R := R) (p := p) (e := e) (below := below) (s := s1) (args := args) (len := 3) (W := (rest.map fun v => v.category).sum) C hZ (hw _ k5) (by rw [k6]; exact fa.2.1) (by rw [hR]; exact Nat.le_of_ble_eq_true z4) (by rw [hR]; exact Nat.le_of_ble_eq_true z5)
    obtain ⟨cell, q1, q2⟩ := (I.2.1.2 i o ho).1.cell
    have hy : (mY M').cls ≠ "java/lang/invoke/MethodHandle" ∧ (mY M').cls ≠ "java/lang/invoke/VarHandle" := by rw [k6]; exact fa.2.2.2.2.2.2
    have hpriv : s1.PrivateAt (mY M') := Cond.privateMethod_at (mvP hZ (hw _ k3) (args := #[]))
    have hin : (Jvm.Cond.instanceMethod (mY M')).before args s1 = true := mvT hZ (hw _ k4)
    obtain ⟨c2, kk, i1, i2, i3, i4, -⟩ := Cond.instantiable_spec fa.1
    obtain ⟨k', j1, j2⟩ := hZ.alike.2.2 _ _ i2
    have hsel : (Jvm.Cond.selects (mY M').cls (mY M') (mY M')).before args s1 = true := selects_self_of_private (c := c2) (k := k') (by rw [k6, hZ.alike.findClass]; exact i1) j1 (by
      have : kk.isInterface = false := by simp only [Bool.or_eq_false_iff] at i4; exact i4.1
      rw [j2]; exact this) hpriv hin hy
    obtain ⟨v, vm1, ⟨T2, Lx, kx, nx⟩, -, X2, ⟨L2, hQ, l2, y2, n2⟩, stp⟩ := I.1.privateBack hx (y := mY M') hown (mvT hZ (hw _ k1)) hin hsel hpriv (mvT hZ (hw _ k5)) hy Bk (g := mkF m pc (cL α b L) (cV α b st)) rfl (by show (cL α b L).size = c.maxLocals; rw [cL_size, hl, hml]) (Steps.refl _) (a := b + (cK P.2 + 1) * i) q1 q2 (argsL := as) (rest := cV α b rest) (lenOf pd hn) (cV_call hnr hst)
      (by show 2 * 0 + _ ≤ _; rw [cV_sum]; exact Nat.le_of_eq (Nat.zero_add _)) (hb hc d) (fun _ _ => ⟨by rw [show (cV 0 (b + (cK P.2 + 1) * i) (.ref 1 :: as)) = .ref (b + (cK P.2 + 1) * i) :: cV 0 (b + (cK P.2 + 1) * i) as from rfl, cV_nr hnr], rfl, by rw [z1]; exact I.2.2.2.2.2.2.2.1, by rw [z2]; exact I.2.2.2.2.2.2.2.2.1⟩)
    dsimp only [Pt.U, Pt.locs, Pt.cells, Pt.slots] at X2 l2 y2 n2 stp hQ
    subst l2 y2 n2
    obtain ⟨rfl, N2, R2, F2, k8⟩ := hQ
    rw [k7] at F2
    refine ⟨T2, _, _, _, inv_obj I ho X2 N2 R2 F2 k8 (by rw [z1]; exact hC) (by rw [z2]; simp [usedS, hC]) (by rw [z1]; exact I.2.2.2.2.2.2.2.1) (by rw [z2]; exact I.2.2.2.2.2.2.2.2.1), fun target r => stp.trans ?_⟩
    rw [← ret_st (b' := b + (cK P.2 + 1) * i) hrr] at r
    exact r) g
theorem go_stat (lk : LinkS P (mY M).cls idx M') (pd : parseMethodDescriptor (mY M').desc = some ⟨ps, rt⟩) (hn : as.length = ps.length) (hst : st = as.reverse ++ rest) (hN' : mN M' ≤ mN M ∧ w.2.length ≤ mN M') (hu : usedC w' = usedC w ∧ usedS P.2 w' = usedS P.2 w ∧ w'.2.length = w.2.length) (sm : Small M M' rest)
    (d : decode (mB M) pc = .ok (.invokestatic idx, 3)) (cl : Call P M' as w (rv, w')) (g : Go P M (pc + 3) L (rv.toList ++ rest) w' out) : Go P M pc L st w out :=
  go_ch (fun l Z a0 p e R s1 m args below meth c α b n0 h0 uC uS ok hl T locs cells slots I => by
    obtain ⟨hw, fa, hx, hZ, hown, hc, hml, hret, hnm, hR, hn0, htop, hsz⟩ := ok
    obtain ⟨k1, k2, k3, k5, k6⟩ := lk
    obtain ⟨z1, z2, z3, z4, z5⟩ := sm
    have C := cl l Z a0 [] α b n0 T.heap hw fa hn0 I.2.1 hN'.2 (fun q => by rw [z3] at q; cases q)
    have Bk := backOf (Q := CQ P.2 Z α b n0 T.heap (mN M') w (rv, w')) (R := R) (p := p) (e := e) (below := below) (s := s1) (args := args) (len := 3) (W := (rest.map fun v => v.category).sum) C hZ (hw _ k5) (hw _ k3) (by rw [hR]; exact Nat.le_of_ble_eq_true z4) (by rw [hR]; exact Nat.le_of_ble_eq_true z5)
    obtain ⟨v, vm1, ⟨T2, Lx, kx, nx⟩, -, X2, ⟨L2, hQ, l2, y2, n2⟩, stp⟩ := Jvm.LawKit.callS I.1 hx (y := mY M') hown (mvT hZ (hw _ k1)) (mvT hZ (hw _ k2)) (mvT hZ (hw _ k3)) (mvT hZ (hw _ k5)) k6 Bk (g := mkF m pc (cL α b L) (cV α b st)) rfl (by show (cL α b L).size = c.maxLocals; rw [cL_size, hl, hml]) (argsL := cV α b as) (rest := cV α b rest) (lenOf pd (by simpa [cV] using hn)) (by subst hst; simp [cV])
      (by show 2 * 0 + _ ≤ _; rw [cV_sum]; exact Nat.le_of_eq (Nat.zero_add _)) (hb hc d) (fun _ _ => ⟨rfl, rfl, by rw [z1]; exact I.2.2.2.2.2.2.2.1, by rw [z2]; exact I.2.2.2.2.2.2.2.2.1⟩)
    dsimp only [Pt.U, Pt.locs, Pt.cells, Pt.slots] at X2 l2 y2 n2 stp hQ
    subst l2 y2 n2
    obtain ⟨rfl, N2, R2, F2, k, k8, k9⟩ := hQ
    obtain ⟨X, Rp, Fm, Nl, hs, u1, u2, c1, c2, hN⟩ := I
    rw [z1, z2] at X2
    refine ⟨T2, _, _, _, ⟨X2, R2, Fm.trans (F2.wide (Nat.le_refl _) (by have := Nat.mul_le_mul_left (cK P.2 + 1) hN'.1; omega)), Nl.app N2, ?_, ?_, ?_, c1, c2, by rw [hu.2.2]; exact hN⟩, fun target r => stp target ?_⟩
    · rw [k8]; have := hu.1; simp only at k9; omega
    · rw [hu.1]; exact u1
    · rw [hu.2.1]; exact u2
    · have e1 : cV α b (rv.toList ++ rest) = (rv.map (con α b)).toList ++ cV α b rest := by cases rv <;> rfl
      rw [e1] at r; exact r) g
/-- a constructor, by its contract -/
theorem go_init {k2 : Nat} {s2 : S} (lk : LinkI P (mY M).cls idx M') (pd : parseMethodDescriptor (mY M').desc = some ⟨ps, rt⟩) (hn : as.length = ps.length) (hid : id = (cK P.2 + 1) * i + 1) (hst : st = as.reverse ++ .ref id :: rest) (hnr : as.all nr = true) (ho : w.2[i]? = some (k, s)) (hw' : w' = (w.1, w.2.set i (k2, s2)))
    (hC : k2 = k + (mR M').cells) (hS : usedS P.2 (none, [(k2, s2)]) = usedS P.2 (none, [(k, s)]) + (mR M').slots) (htM : mTop M = true) (hR1 : Nat.ble (usedC w + (mR M').cells) ((mR M).cells + mUC M) = true) (hR2 : Nat.ble (usedS P.2 w + (mR M').slots) ((mR M).slots + mUS M) = true)
    (hq : usedC w = (cK P.2 + 1) * i + usedC (none, [(k, s)]) ∧ usedC (none, [(k, s)]) = mUC M' ∧ usedS P.2 (none, [(k, s)]) = mUS M') (sm : Nat.ble ((mR M').frames + 1) (mR M).frames = true ∧ Nat.ble ((rest.map fun v => v.category).sum + (mL M' + 11) + (mR M').locals) (mR M).locals = true)
    (d : decode (mB M) pc = .ok (.invokespecial idx, 3)) (cl : Call P M' (.ref 1 :: as) (none, [(k, s)]) (none, (none, [(k2, s2)]))) (g : Go P M (pc + 3) L rest w' out) : Go P M pc L st w out :=
  go_ch (fun l Z a0 p e R s1 m args below meth c α b n0 h0 uC uS ok hl T locs cells slots I => by
    subst hw' hid
    obtain ⟨hw, fa, hx, hZ, hown, hc, hml, hret, hnm, hR, hn0, htop, hsz⟩ := ok
    obtain ⟨k1, k4, k5, k6, k7, k9, k10⟩ := lk
    obtain ⟨z4, z5⟩ := sm
    obtain ⟨t1, t2, t3⟩ := htop htM
    have Ic := I.2.2.2.2.2.1
    have Is := I.2.2.2.2.2.2.1
    have b1 : cells + (mR M').cells ≤ R.cells := by have := Nat.le_of_ble_eq_true hR1; rw [hR]; omega
    have b2 : slots + (mR M').slots ≤ R.slots := by have := Nat.le_of_ble_eq_true hR2; rw [hR]; omega
    have C := cl l Z a0 [] 0 (b + (cK P.2 + 1) * i) n0 T.heap hw fa (Nat.le_trans hn0 (Nat.le_add_right _ _)) (rep_obj I.2.1 ho) (by rw [k7]; exact Nat.le_refl _) (fun _ => ⟨by rw [I.2.2.2.2.1]; have := hq.1; omega, hq.2.1, hq.2.2⟩)
    have Bk := backOf (Q := CQ P.2 Z 0 (b + (cK P.2 + 1) * i) n0 T.heap (mN M') (none, [(k, s)]) (none, (none, [(k2, s2)]))) (R := R) (p := p) (e := e) (below := below) (s := s1) (args := args) (len := 3) (W := (rest.map fun v => v.category).sum) C hZ (hw _ k5) (by rw [k6]; exact fa.2.1) (by rw [hR]; exact Nat.le_of_ble_eq_true z4) (by rw [hR]; exact Nat.le_of_ble_eq_true z5)
    have hy : (mY M').cls ≠ "java/lang/invoke/MethodHandle" ∧ (mY M').cls ≠ "java/lang/invoke/VarHandle" := by rw [k6]; exact fa.2.2.2.2.2.2
    have hcd := hw _ k5
    rw [k9] at hcd
    obtain ⟨v, vm1, ⟨T2, Lx, kx, nx⟩, -, X2, ⟨L2, hQ, l2, y2, n2⟩, stp⟩ := I.1.specialBack hx (y := mY M') k10 hown (mvT hZ (hw _ k1)) (mvT hZ (hw _ k4)) (mvT hZ hcd) hy Bk (g := mkF m pc (cL α b L) (cV α b st)) rfl (by show (cL α b L).size = c.maxLocals; rw [cL_size, hl, hml]) (Steps.refl _) (a := b + (cK P.2 + 1) * i) (argsL := as) (rest := cV α b rest) (lenOf pd hn) (cV_call hnr hst)
      (by show 2 * 0 + _ ≤ _; rw [cV_sum]; exact Nat.le_of_eq (Nat.zero_add _)) (hb hc d) (fun _ _ => ⟨by rw [show (cV 0 (b + (cK P.2 + 1) * i) (.ref 1 :: as)) = .ref (b + (cK P.2 + 1) * i) :: cV 0 (b + (cK P.2 + 1) * i) as from rfl, cV_nr hnr], rfl, b1, b2⟩)
    dsimp only [Pt.U, Pt.locs, Pt.cells, Pt.slots] at X2 l2 y2 n2 stp hQ
    subst l2 y2 n2
    obtain ⟨rfl, N2, R2, F2, k8⟩ := hQ
    rw [k7] at F2
    exact ⟨T2, _, _, _, inv_obj I ho X2 N2 R2 F2 k8 hC hS b1 b2, fun target r => stp.trans r⟩) g
/-- Object's constructor -/
theorem go_objinit {a : Nat} (k1 : Jvm.Cond.methodLink (mY M).cls idx Lib.objectInit ∈ P.1) (k2 : Jvm.Cond.instanceMethod Lib.objectInit ∈ P.1) (k3 : Jvm.Cond.code Lib.objectInit ⟨#[0xb1]⟩ 1 none ∈ P.1) (z4 : Nat.ble 1 (mR M).frames = true) (z5 : Nat.ble ((rest.map fun v => v.category).sum + 12) (mR M).locals = true)
    (d : decode (mB M) pc = .ok (.invokespecial idx, 3)) (g : Go P M (pc + 3) L rest w out) : Go P M pc L (.ref (a + 1) :: rest) w out :=
  go_ch (fun l Z a0 p e R s1 m args below meth c α b n0 h0 uC uS ok hl T locs cells slots I => by
    obtain ⟨hw, fa, hx, hZ, hown, hc, hml, hret, hnm, hR, hn0, htop, hsz⟩ := ok
    obtain ⟨X, Rp, Fm, Nl, hs, u1, u2, c1, c2, hN⟩ := I
    obtain ⟨T', X', e', stp⟩ := initO X hx hZ hown (hw _ k1) (hw _ k2) (hw _ k3) rfl (g := mkF m pc (cL α b L) (cV α b (.ref (a + 1) :: rest))) rfl (by show (cL α b L).size = c.maxLocals; rw [cL_size, hl, hml]) (a := b + a) (rest := cV α b rest) rfl (hb hc d) (by rw [hR]; exact Nat.le_of_ble_eq_true z4) (W := (rest.map fun v => v.category).sum) (by show 2 * 0 + _ ≤ _; rw [cV_sum]; exact Nat.le_of_eq (Nat.zero_add _)) (by rw [hR]; exact Nat.le_of_ble_eq_true z5)
    exact ⟨T', locs, cells, slots, ⟨X', by rw [e']; exact Rp, by rw [e']; exact Fm, Nl, by rw [e']; exact hs, u1, u2, c1, c2, hN⟩, fun target r => stp target r⟩) g
/-- a new object of the class -/
theorem go_new {n : Nat} (k1 : Jvm.Cond.classLink (mY M).cls idx (cN P.2) ∈ P.1) (htM : mTop M = true) (hn : w.2.length = n) (hq : usedC w = (cK P.2 + 1) * n) (hw' : w' = (w.1, w.2 ++ [(0, s0)])) (hN' : Nat.blt n (mN M) = true) (hR1 : Nat.ble (usedC w + 1) ((mR M).cells + mUC M) = true) (hR2 : Nat.ble (usedS P.2 w + cF P.2) ((mR M).slots + mUS M) = true)
    (d : decode (mB M) pc = .ok (.new idx, 3)) (hid : id = (cK P.2 + 1) * n + 1) (g : Go P M (pc + 3) L (.ref id :: st) w' out) : Go P M pc L st w out :=
  go_ch (fun l Z a0 p e R s1 m args below meth c α b n0 h0 uC uS ok hl T locs cells slots I => by
    subst hw' hid
    obtain ⟨hw, fa, hx, hZ, hown, hc, hml, hret, hnm, hR, hn0, htop, hsz⟩ := ok
    obtain ⟨X, Rp, Fm, Nl, hs, u1, u2, c1, c2, hN⟩ := I
    obtain ⟨t1, t2, t3⟩ := htop htM
    have b1 : cells + 1 ≤ R.cells := by have := Nat.le_of_ble_eq_true hR1; rw [hR]; omega
    have b2 : slots + cF P.2 ≤ R.slots := by have := Nat.le_of_ble_eq_true hR2; rw [hR]; omega
    obtain ⟨T2, h2, X2, e2, E2, A2, D2, -, st2⟩ := newO X hx hZ hown (hw _ k1) fa.1 fa.2.1 rfl (g := mkF m pc (cL α b L) (cV α b st)) rfl (hb hc d) b1 b2
    have ha : T.heap.size = b + (cK P.2 + 1) * n := by rw [hs, t1]; omega
    rw [ha] at A2 D2 st2
    have sz2 : T2.heap.size = T.heap.size + 1 := by
      have q1 := X2.heapSize
      have q2 : b + (cK P.2 + 1) * n < h2.size := A2.lt
      rw [e2] at q1 ⊢
      omega
    refine ⟨T2, locs, _, _, ⟨X2, ?_, by rw [e2]; exact Fm.ext E2, Nl, by rw [sz2, hs]; omega, ?_, ?_, b1, b2, ?_⟩, fun target r => st2 target ?_⟩
    · rw [e2]
      refine ⟨fun l1 h1 => (Rp.ext E2).1 l1 h1, fun j oj hj => ?_⟩
      by_cases q : j < w.2.length
      · rw [show (w.1, w.2 ++ [(0, s0)]).2 = w.2 ++ [(0, s0)] from rfl, List.getElem?_append_left q] at hj
        exact (Rp.ext E2).2 j oj hj
      · have hj' := get_lt hj
        simp at hj'
        have ej : j = n := by omega
        subst ej
        rw [show (w.1, w.2 ++ [(0, s0)]).2 = w.2 ++ [(0, s0)] from rfl, List.getElem?_append_right (by omega)] at hj
        rw [hn] at hj; simp at hj; subst hj
        refine ⟨A2, fun f x hx => ?_, fun q x hx => ?_, fun q x _ hq => absurd hq (Nat.not_lt_zero _)⟩
        · have := D2 (fa.2.2.1 f x hx).1 (fa.2.2.1 f x hx).2
          rw [fa.2.2.2.2.2.1 f x hx] at this
          exact this
        · have := D2 (fa.2.2.2.1 q x hx).1 (fa.2.2.2.1 q x hx).2
          rw [if_neg (Nat.not_lt_zero _)]
          exact this
    · simp [usedC] at u1 ⊢; omega
    · simp [usedS] at u2 ⊢; omega
    · simp; have : n < mN M := by simpa [Nat.blt_eq] using hN'
      omega
    · exact r) g
/-- a new array, laid into its field at once -/
theorem rep_new {Z : State} {a0 : Array Value} {ci : CI} {h h1 h2 : Heap} {b : Nat} {s s' : S} {k : Nat} {nm ds : String} {ty : FieldType} {cap : Nat} {cl : Cell} (fa : Facts Z a0 ci) (F : Rep1 Z ci h b (k, s)) (hf : (cA ci)[k]? = some (nm, ds, ty, cap)) (E : Ext h h1) (A : Arr Z h1 (b + 1 + k) cl ty) (ec : cl.slots = (arV ty s' k).toArray)
    (Wt : Wr h1 h2 b (Jvm.RoadKit.slotOf Z (cN ci) nm ds) (.ref (b + 1 + k))) (ho : ∀ q' x, (cA ci)[q']? = some x → q' ≠ k → arV x.2.2.1 s' q' = arV x.2.2.1 s q') (ha : gI s' = gI s) (hbb : gL s' = gL s) : Rep1 Z ci h2 b (k + 1, s') := by
  obtain ⟨f1, f2, f3, f4⟩ := F
  obtain ⟨-, -, g1, g2, g3, -⟩ := fa
  have lt := get_lt hf
  refine ⟨(f1.ext E).wr Wt, fun f x hx => ?_, fun q x hx => ?_, fun q x hx hq => ?_⟩
  · have e : scV x.2.2 s' f = scV x.2.2 s f := by unfold scV; split <;> simp [ha, hbb]
    have lt' := get_lt hx
    show Fld Z h2 b (cN ci) x.1 x.2.1 (scV x.2.2 s' f)
    rw [e]
    refine ((f2 f x hx).ext E).other Wt (Or.inr ?_)
    refine slot_ne (g1 f x hx).1 (g2 k _ hf).1 ?_ (g1 f x hx).2 (g2 k _ hf).2
    intro en
    have n1 : ((cS ci).map (fun x => x.1) ++ (cA ci).map (fun x => x.1))[f]? = some x.1 := by rw [List.getElem?_append_left (by simpa using lt')]; simp [hx]
    have n2 : ((cS ci).map (fun x => x.1) ++ (cA ci).map (fun x => x.1))[(cS ci).length + k]? = some nm := by rw [List.getElem?_append_right (by simp)]; simp [hf]
    rw [en] at n1
    obtain ⟨i1, j1⟩ := List.getElem?_eq_some_iff.mp n1
    obtain ⟨i2, j2⟩ := List.getElem?_eq_some_iff.mp n2
    have := (List.getElem_inj g3).mp (j1.trans j2.symm)
    omega
  · by_cases e : q = k
    · subst e
      cases hf.symm.trans hx
      rw [if_pos (show q < (q + 1, s').1 from Nat.lt_succ_self q)]
      exact ((f3 q _ hf).ext E).same Wt
    · have lt' := get_lt hx
      have e2 : (if q < (k + 1, s').1 then Value.ref (b + 1 + q) else Value.null) = (if q < (k, s).1 then Value.ref (b + 1 + q) else Value.null) := by
        show (if q < k + 1 then _ else _) = (if q < k then _ else _)
        by_cases q1 : q < k
        · rw [if_pos q1, if_pos (by omega)]
        · rw [if_neg q1, if_neg (by omega)]
      rw [e2]
      refine ((f3 q x hx).ext E).other Wt (Or.inr ?_)
      refine slot_ne (g2 q x hx).1 (g2 k _ hf).1 ?_ (g2 q x hx).2 (g2 k _ hf).2
      intro en
      have n1 : ((cS ci).map (fun x => x.1) ++ (cA ci).map (fun x => x.1))[(cS ci).length + q]? = some x.1 := by rw [List.getElem?_append_right (by simp)]; simp [hx]
      have n2 : ((cS ci).map (fun x => x.1) ++ (cA ci).map (fun x => x.1))[(cS ci).length + k]? = some nm := by rw [List.getElem?_append_right (by simp)]; simp [hf]
      rw [en] at n1
      obtain ⟨i1, j1⟩ := List.getElem?_eq_some_iff.mp n1
      obtain ⟨i2, j2⟩ := List.getElem?_eq_some_iff.mp n2
      have := (List.getElem_inj g3).mp (j1.trans j2.symm)
      omega
  · by_cases e : q = k
    · subst e
      cases hf.symm.trans hx
      exact ⟨cl, A.other Wt (nq (by omega)), ec⟩
    · obtain ⟨c, B, eb⟩ := f4 q x hx (by have : q < k + 1 := hq; show q < k; omega)
      refine ⟨c, (B.ext E).other Wt (nq (by omega)), eb.trans ?_⟩
      rw [ho q x hx e]
theorem go_newV {aty : ArrayType} {ty : FieldType} {nm ds : String} {cap : Nat} {n : Int32} {s' : S} (hty : newarray.typeOf aty = ty) (ha : (cA P.2)[k]? = some (nm, ds, ty, cap)) (k0 : Jvm.Cond.arrayClass ty ∈ P.1) (k1 : Jvm.Cond.fieldLink (cN P.2) idx (cN P.2) nm ds ∈ P.1) (hM : (mY M).cls = cN P.2)
    (hlays : Jvm.Cond.lays (cN P.2) (cN P.2) nm ds ∈ P.1 ∨ (Jvm.Cond.laysFinal (cN P.2) (cN P.2) nm ds ∈ P.1 ∧ (mY M).name = "<init>")) (htM : mTop M = true) (hp : 0 < mN M) (hn : ¬ n < 0) (hcap : Nat.ble n.toNatClampNeg cap = true) (hbig : Nat.ble (cap * 8) 536870912 = true)
    (hR1 : Nat.ble (1 + k + 1) ((mR M).cells + mUC M) = true) (hR2 : Nat.ble (usedS P.2 (none, [(k, s)]) + cap) ((mR M).slots + mUS M) = true)
    (hv : arV ty s' k = List.replicate n.toNatClampNeg (defaultValue ty)) (hoth : ∀ q' x, (cA P.2)[q']? = some x → q' ≠ k → arV x.2.2.1 s' q' = arV x.2.2.1 s q') (hgI : gI s' = gI s) (hgL : gL s' = gL s)
    (d : decode (mB M) pc = .ok (.newarray aty, 2)) (d2 : decode (mB M) (pc + 2) = .ok (.putfield idx, 3)) (g : Go P M (pc + 5) L st (none, [(k + 1, s')]) out) : Go P M pc L (.int n :: .ref 1 :: st) (none, [(k, s)]) out :=
  go_ch (fun l Z a0 p e R s1 m args below meth c α b n0 h0 uC uS ok hl T locs cells slots I => by
    obtain ⟨hw, fa, hx, hZ, hown, hc, hml, hret, hnm, hR, hn0, htop, hsz⟩ := ok
    obtain ⟨X, Rp, Fm, Nl, hs, u1, u2, c1, c2, hN⟩ := I
    obtain ⟨t1, t2, t3⟩ := htop htM
    have u1' : cells + uC = 1 + k := by simpa [usedC] using u1
    have b1 : cells + 1 ≤ R.cells := by have := Nat.le_of_ble_eq_true hR1; rw [hR]; omega
    have b2 : slots + cap ≤ R.slots := by have := Nat.le_of_ble_eq_true hR2; rw [hR]; omega
    subst hty
    obtain ⟨T2, h2, cA2, X2, e2, E2, A2, st2⟩ := newP X hx hZ (hw _ k0) rfl (g := mkF m pc (cL α b L) (.int n :: .ref b :: cV α b st)) rfl (hb hc d) rfl hn (Nat.le_of_ble_eq_true hcap) (Nat.le_of_ble_eq_true hbig) b1 b2
    have hadr : T.heap.size = b + 1 + k := by rw [hs, t1]; omega
    rw [hadr] at A2 st2
    have sz2 : T2.heap.size = T.heap.size + 1 := by
      have q1 := X2.heapSize
      have q2 : b + 1 + k < h2.size := A2.lt
      rw [e2] at q1 ⊢
      omega
    have Rp1 := rep_one Rp
    have Fd := Rp1.2.2.1 k _ ha
    rw [if_neg (show ¬ k < (k, s).1 from Nat.lt_irrefl k)] at Fd
    rw [hM] at hown
    obtain ⟨T3, h3, X3, e3, Wt, st3⟩ := putF X2 hx hZ hown (host := "") (Or.inl (hw _ k1)) Via.refl e2 (Fd.ext E2) (Rp1.1.ext E2) (hlays.imp (fun q => hw _ q) (fun q => ⟨hw _ q.1, rfl, hnm.trans q.2⟩)) fa.1 (fa.2.2.2.1 k _ ha).2 (v := .ref (b + 1 + k)) rfl rfl (g := mkF m (pc + 2) (cL α b L) (.ref (b + 1 + k) :: .ref b :: cV α b st)) rfl rfl (hb hc d2)
    refine ⟨T3, _, _, _, ⟨X3, rep_mk (by rw [e3]; exact rep_new fa Rp1 ha E2 A2 (by rw [hv]; simp [newA]) Wt hoth hgI hgL), by rw [e3]; exact (Fm.ext E2).wr Wt (Nat.le_refl _) (by have := Nat.mul_le_mul_left (cK P.2 + 1) hp; omega), Fr.snoc X3 Nl hn0, by rw [e3, Wt.size, ← e2, sz2, hs]; omega, by simp [usedC]; omega, ?_, b1, b2, hN⟩, fun target r => st2 target (st3 target r)⟩
    have hk := get_lt ha
    simp only [usedS, List.map_cons, List.map_nil, List.sum_cons, List.sum_nil] at u2 ⊢
    rw [List.take_add_one, List.map_append, List.sum_append, ha]
    simp [List.map_take] at u2 ⊢; omega) g
theorem go_newI {aty : ArrayType} {ty : FieldType} {nm ds : String} {cap : Nat} {n : Int32} (hty : newarray.typeOf aty = ty) (hi : ty = .int ∨ ty = .boolean ∨ ty = .byte) (ha : (cA P.2)[k]? = some (nm, ds, ty, cap)) (k0 : Jvm.Cond.arrayClass ty ∈ P.1) (k1 : Jvm.Cond.fieldLink (cN P.2) idx (cN P.2) nm ds ∈ P.1) (hM : (mY M).cls = cN P.2)
    (hlays : Jvm.Cond.lays (cN P.2) (cN P.2) nm ds ∈ P.1 ∨ (Jvm.Cond.laysFinal (cN P.2) (cN P.2) nm ds ∈ P.1 ∧ (mY M).name = "<init>")) (htM : mTop M = true) (hp : 0 < mN M) (hn : ¬ n < 0) (hcap : Nat.ble n.toNatClampNeg cap = true) (hbig : Nat.ble (cap * 8) 536870912 = true)
    (hR1 : Nat.ble (1 + k + 1) ((mR M).cells + mUC M) = true) (hR2 : Nat.ble (usedS P.2 (none, [(k, s)]) + cap) ((mR M).slots + mUS M) = true)
    (d : decode (mB M) pc = .ok (.newarray aty, 2)) (d2 : decode (mB M) (pc + 2) = .ok (.putfield idx, 3)) (g : Go P M (pc + 5) L st (none, [(k + 1, sA s k (rep n.toNatClampNeg 0))]) out) : Go P M pc L (.int n :: .ref 1 :: st) (none, [(k, s)]) out :=
  go_newV hty ha k0 k1 hM hlays htM hp hn hcap hbig hR1 hR2 (by rcases hi with rfl | rfl | rfl <;> simp [arV, gA_sA, defaultValue, rep]) (fun q' x _ h => arV_sA s k _ _ q' h) rfl rfl d d2 g
theorem go_newJ {nm ds : String} {cap : Nat} {n : Int32} (ha : (cA P.2)[k]? = some (nm, ds, .long, cap)) (k0 : Jvm.Cond.arrayClass .long ∈ P.1) (k1 : Jvm.Cond.fieldLink (cN P.2) idx (cN P.2) nm ds ∈ P.1) (hM : (mY M).cls = cN P.2)
    (hlays : Jvm.Cond.lays (cN P.2) (cN P.2) nm ds ∈ P.1 ∨ (Jvm.Cond.laysFinal (cN P.2) (cN P.2) nm ds ∈ P.1 ∧ (mY M).name = "<init>")) (htM : mTop M = true) (hp : 0 < mN M) (hn : ¬ n < 0) (hcap : Nat.ble n.toNatClampNeg cap = true) (hbig : Nat.ble (cap * 8) 536870912 = true)
    (hR1 : Nat.ble (1 + k + 1) ((mR M).cells + mUC M) = true) (hR2 : Nat.ble (usedS P.2 (none, [(k, s)]) + cap) ((mR M).slots + mUS M) = true)
    (d : decode (mB M) pc = .ok (.newarray .long, 2)) (d2 : decode (mB M) (pc + 2) = .ok (.putfield idx, 3)) (g : Go P M (pc + 5) L st (none, [(k + 1, sB s k (rep n.toNatClampNeg 0))]) out) : Go P M pc L (.int n :: .ref 1 :: st) (none, [(k, s)]) out :=
  go_newV (aty := .long) (ty := .long) rfl ha k0 k1 hM hlays htM hp hn hcap hbig hR1 hR2 (by simp [arV, gB_sB, defaultValue, rep]) (fun q' x _ h => arV_sB s k _ _ q' h) rfl rfl d d2 g
end Rules
/-! ## the start -/
theorem tsw_out {x : Int32} {lo hi : Int} (h1 : -2147483648 ≤ lo) (h2 : hi < 2147483648) (ks : List Int32) (hk : ks = ((List.range (hi - lo + 1).toNat).map fun (j : Nat) => Int32.ofInt (lo + (j : Int)))) (hx : ∀ k ∈ ks, x ≠ k) : x.toInt < lo ∨ x.toInt > hi := by
  by_cases q1 : x.toInt < lo
  · exact Or.inl q1
  by_cases q2 : x.toInt > hi
  · exact Or.inr q2
  refine absurd rfl (hx x ?_)
  rw [hk, List.mem_map]
  refine ⟨(x.toInt - lo).toNat, List.mem_range.mpr (by omega), ?_⟩
  rw [show lo + (((x.toInt - lo).toNat : Nat) : Int) = x.toInt by omega]
  exact Int32.ofInt_toInt x
theorem list_of_array {V : Type} (a : Array V) (f : Nat → V) (h : ∀ j, j < a.size → a[j]? = some (f j)) : a = ((List.range a.size).map f).toArray := by
  apply Array.ext'
  apply List.ext_getElem?
  intro j
  by_cases q : j < a.size
  · simpa [q] using h j q
  · simp [q]
theorem small_len {n : Nat} {k : Int32} (h : n < 2 ^ 31) (q : n.toInt32 ≤ k) : (n : Int) ≤ k.toInt := by
  have e : (Int32.ofNat n).toInt = n := Int32.toInt_ofNat_of_lt h
  have := Int32.le_iff_toInt_le.mp q
  rwa [show n.toInt32.toInt = n from e] at this
theorem script_of {s : State} {args : Array Value} {t : Term} {k : Int32} (hf : Fit s) (h1 : (Cond.arrayOf t .int).value args s none s [] = some true) (h2 : (Cond.le (.length t) (.int k)).value args s none s [] = some true) :
    ∃ (a : Nat) (l : List Int32), t.eval args s none [] s = some (.ref a) ∧ Ar s s.heap a .int (l.map .int) ∧ a < s.heap.size ∧ (l.length : Int) ≤ k.toInt := by
  obtain ⟨a, ev⟩ := arr_v h1
  obtain ⟨c, A⟩ := Arr.start ev h1
  obtain ⟨x, y, ex, ey, -, -⟩ := cmp_v (Or.inr (Or.inr h2))
  obtain ⟨b, cell, e1, e2, e3, ev2⟩ := Jvm.Lib.length_spec ex
  have ea : b = a := by rw [ev] at e1; cases e1; rfl
  have ec : cell = c := by
    have := Arr.fin (Vm.Alike.refl _) A
    rw [ea, this] at e2; cases e2; rfl
  subst ea ec ev2
  obtain ⟨n, en, S⟩ := Scr.start hf A e3
  have hle : cell.slots.size.toInt32 ≤ k := by
    have ek : (Term.int k).eval args s none [] s = some (.int k) := rfl
    simp only [Cond.value, ex, ek] at h2
    simpa using h2
  refine ⟨b, (List.range cell.slots.size).map fun j => atv cell (Int32.ofNat j), ev, ⟨cell, A, ?_⟩, A.lt, ?_⟩
  · rw [List.map_map]
    refine list_of_array cell.slots _ fun j hj => ?_
    have e4 : (Int32.ofNat j).toNatClampNeg = j := by
      have : (Int32.ofNat j).toInt = j := Int32.toInt_ofNat_of_lt (by omega)
      simp [Int32.toNatClampNeg, this]
    have e5 : ¬ (Int32.ofNat j < 0) := by
      rw [Int32.lt_iff_toInt_lt, Int32.toInt_ofNat_of_lt (by omega)]; simp
    have := S.2.2.2 (Int32.ofNat j) (by rw [e4]; rintro (q | q); exact e5 q; omega)
    rw [e4] at this
    exact this
  · simpa using small_len e3 hle
theorem repW_none (Z : State) (ci : CI) (α b : Nat) (h : Heap) : RepW Z ci α b (none, []) h := ⟨fun l hl => (by cases hl), fun i o ho => (by simp at ho)⟩
theorem repW_some {Z : State} {ci : CI} {α b : Nat} {h : Heap} {l : List Int32} (A : Ar Z h α .int (l.map .int)) (q : α < b) : RepW Z ci α b (some l, []) h := ⟨fun l' hl => by cases hl; exact ⟨A, q⟩, fun i o ho => by simp at ho⟩
end Jvm.AM
/-! ## plain lemmas on ints, arrays and updates -/
namespace Jvm.PL
open Jvm.AM
theorem ofNat_toInt {k : Nat} (h : k < 2147483648) : (Int32.ofNat k).toInt = k := Int32.toInt_ofNat_of_lt h
theorem ofNat_lt {k m : Nat} (hk : k < 2147483648) (hm : m < 2147483648) : Int32.ofNat k < Int32.ofNat m ↔ k < m := by
  rw [Int32.lt_iff_toInt_lt, ofNat_toInt hk, ofNat_toInt hm]; omega
theorem lt_lit {k m : Nat} (hk : k < 2147483648) (hm : m < 2147483648 := by decide) : Int32.ofNat k < (OfNat.ofNat m : Int32) ↔ k < m := ofNat_lt hk hm
theorem ofNat_succ (k : Nat) : Int32.ofNat k + 1 = Int32.ofNat (k + 1) := by
  rw [Int32.ofNat_add]; rfl
theorem ofNat_nonneg {k : Nat} (hk : k < 2147483648) : ¬ Int32.ofNat k < 0 := by rw [Int32.lt_iff_toInt_lt, ofNat_toInt hk]; simp
theorem ofNat_clamp {k : Nat} (hk : k < 2147483648) : (Int32.ofNat k).toNatClampNeg = k := by simp [Int32.toNatClampNeg, ofNat_toInt hk]
theorem ix_ofNat {A : Type} (l : List A) {k : Nat} (hk : k < 2147483648) : ix l (Int32.ofNat k) = l[k]? := by
  unfold ix; rw [if_neg (ofNat_nonneg hk), ofNat_clamp hk]
theorem st_ofNat {A : Type} (l : List A) (x : A) {k : Nat} (hk : k < 2147483648) (hl : k < l.length) : Jvm.AM.st l (Int32.ofNat k) x = some (l.set k x) := by
  unfold Jvm.AM.st; rw [if_neg (ofNat_nonneg hk), ofNat_clamp hk, if_pos hl]
theorem toInt_clamp {v : Int32} (h : ¬ v < 0) : (v.toNatClampNeg : Int) = v.toInt := by
  rw [Int32.lt_iff_toInt_lt] at h
  simp only [Int32.toNatClampNeg]
  have : (0 : Int32).toInt = 0 := rfl
  omega
theorem eq_ofNat {v : Int32} (h : ¬ v < 0) : v = Int32.ofNat v.toNatClampNeg ∧ v.toNatClampNeg < 2147483648 := by
  have h1 := toInt_clamp h
  have h2 := v.toInt_lt
  have h3 : v.toNatClampNeg < 2147483648 := by omega
  refine ⟨Int32.toInt_inj.mp ?_, h3⟩
  rw [ofNat_toInt h3]; exact h1.symm
theorem ix_rep {A : Type} {v : Int32} {n : Nat} {x : A} (h0 : ¬ v < 0) (h1 : v < Int32.ofNat n) (hn : n < 2147483648) : ix (rep n x) v = some x := by
  obtain ⟨e, hl⟩ := eq_ofNat h0
  rw [e] at h1 ⊢
  have h2 := (ofNat_lt hl hn).mp h1
  rw [ix_ofNat _ hl, rep_get, if_pos h2]
theorem ix_nat {A : Type} (l : List A) {v : Int32} (h0 : ¬ v < 0) : ix l v = l[v.toNatClampNeg]? := by unfold ix; rw [if_neg h0]
theorem st_nat {A : Type} (l : List A) {v : Int32} {x : A} (h0 : ¬ v < 0) (hl : v.toNatClampNeg < l.length) : Jvm.AM.st l v x = some (l.set v.toNatClampNeg x) := by
  unfold Jvm.AM.st; rw [if_neg h0, if_pos hl]
theorem clamp_lt {v : Int32} {n : Nat} (h0 : ¬ v < 0) (h1 : v < Int32.ofNat n) (hn : n < 2147483648) : v.toNatClampNeg < n := by
  obtain ⟨e, hl⟩ := eq_ofNat h0
  rw [e] at h1
  exact (ofNat_lt hl hn).mp h1
theorem clamp_inj {v w : Int32} (h0 : ¬ v < 0) (h1 : ¬ w < 0) : v.toNatClampNeg = w.toNatClampNeg ↔ v = w := by
  constructor
  · intro h
    have a := toInt_clamp h0
    have b := toInt_clamp h1
    exact Int32.toInt_inj.mp (by omega)
  · intro h; rw [h]
end Jvm.PL
namespace Jvm.PL
open Jvm.AM
/-- all but the named fields and arrays is as it was -/
def Fx (I L A B : List Nat) (s s' : S) : Prop := (∀ f, f ∉ I → gI s' f = gI s f) ∧ (∀ f, f ∉ L → gL s' f = gL s f) ∧ (∀ f, f ∉ A → gA s' f = gA s f) ∧ (∀ f, f ∉ B → gB s' f = gB s f)
theorem Fx.refl (I L A B : List Nat) (s : S) : Fx I L A B s s := ⟨fun _ _ => rfl, fun _ _ => rfl, fun _ _ => rfl, fun _ _ => rfl⟩
theorem Fx.trans {I L A B : List Nat} {s t u : S} (h : Fx I L A B s t) (k : Fx I L A B t u) : Fx I L A B s u :=
  ⟨fun f q => (k.1 f q).trans (h.1 f q), fun f q => (k.2.1 f q).trans (h.2.1 f q), fun f q => (k.2.2.1 f q).trans (h.2.2.1 f q), fun f q => (k.2.2.2 f q).trans (h.2.2.2 f q)⟩
theorem Fx.mono {I L A B I' L' A' B' : List Nat} {s t : S} (h : Fx I L A B s t) (a : ∀ f ∈ I, f ∈ I') (b : ∀ f ∈ L, f ∈ L') (c : ∀ f ∈ A, f ∈ A') (d : ∀ f ∈ B, f ∈ B') : Fx I' L' A' B' s t :=
  ⟨fun f q => h.1 f fun x => q (a f x), fun f q => h.2.1 f fun x => q (b f x), fun f q => h.2.2.1 f fun x => q (c f x), fun f q => h.2.2.2 f fun x => q (d f x)⟩
theorem Fx.sA {I L A B : List Nat} {s t : S} {f : Nat} {l : List Int32} (h : Fx I L A B s t) (hf : f ∈ A) : Fx I L A B s (Jvm.AM.sA t f l) :=
  ⟨fun g q => (gI_sA _ _ _ _).trans (h.1 g q), fun g q => (gL_sA _ _ _ _).trans (h.2.1 g q), fun g q => by rw [gA_sA, if_neg (fun e : g = f => q (e ▸ hf))]; exact h.2.2.1 g q, fun g q => (gB_sA _ _ _ _).trans (h.2.2.2 g q)⟩
theorem Fx.sI {I L A B : List Nat} {s t : S} {f : Nat} {l : Int32} (h : Fx I L A B s t) (hf : f ∈ I) : Fx I L A B s (Jvm.AM.sI t f l) :=
  ⟨fun g q => by rw [gI_sI, if_neg (fun e : g = f => q (e ▸ hf))]; exact h.1 g q, fun g q => (gL_sI _ _ _ _).trans (h.2.1 g q), fun g q => (gA_sI _ _ _ _).trans (h.2.2.1 g q), fun g q => (gB_sI _ _ _ _).trans (h.2.2.2 g q)⟩
theorem Fx.sL {I L A B : List Nat} {s t : S} {f : Nat} {l : Int64} (h : Fx I L A B s t) (hf : f ∈ L) : Fx I L A B s (Jvm.AM.sL t f l) :=
  ⟨fun g q => (gI_sL _ _ _ _).trans (h.1 g q), fun g q => by rw [gL_sL, if_neg (fun e : g = f => q (e ▸ hf))]; exact h.2.1 g q, fun g q => (gA_sL _ _ _ _).trans (h.2.2.1 g q), fun g q => (gB_sL _ _ _ _).trans (h.2.2.2 g q)⟩
theorem Fx.sB {I L A B : List Nat} {s t : S} {f : Nat} {l : List Int64} (h : Fx I L A B s t) (hf : f ∈ B) : Fx I L A B s (Jvm.AM.sB t f l) :=
  ⟨fun g q => (gI_sB _ _ _ _).trans (h.1 g q), fun g q => (gL_sB _ _ _ _).trans (h.2.1 g q), fun g q => (gA_sB _ _ _ _).trans (h.2.2.1 g q), fun g q => by rw [gB_sB, if_neg (fun e : g = f => q (e ▸ hf))]; exact h.2.2.2 g q⟩
theorem ofNat_add' (a b : Nat) : Int32.ofNat a + Int32.ofNat b = Int32.ofNat (a + b) := (Int32.ofNat_add a b).symm
/-- the first k entries are x -/
def Upto {A : Type} (l : List A) (k : Nat) (x : A) : Prop := ∀ i, i < k → l[i]? = some x
theorem Upto.zero {A : Type} (l : List A) (x : A) : Upto l 0 x := fun _ h => absurd h (Nat.not_lt_zero _)
theorem Upto.set {A : Type} {l : List A} {k : Nat} {x : A} (h : Upto l k x) (hk : k < l.length) : Upto (l.set k x) (k + 1) x := fun i hi => by
  by_cases e : i = k
  · subst e; simp [hk]
  · rw [List.getElem?_set_ne (Ne.symm e)]; exact h i (by omega)
theorem Upto.all {A : Type} {l : List A} {k : Nat} {x : A} (h : Upto l k x) (hk : l.length = k) : l = rep k x := by
  apply List.ext_getElem?
  intro i
  rw [rep_get]
  by_cases q : i < k
  · rw [if_pos q]; exact h i q
  · rw [if_neg q, List.getElem?_eq_none (by omega)]
end Jvm.PL
namespace Jvm.PL
open Jvm.AM
/-- a loop by its invariant; m: the turns that are left -/
theorem run_loop {A B : Type} (L : Nat → A → B) (F : A → B) (I : Nat → A → Prop) (h : ∀ n m a, I (m + 1) a → ∃ a', L (n + 1) a = L n a' ∧ I m a') (h0 : ∀ n a, I 0 a → L (n + 1) a = F a) : ∀ m n a, m < n → I m a → ∃ a', L n a = F a' ∧ I 0 a'
  | 0, n + 1, a, _, i => ⟨a, h0 n a i, i⟩
  | m + 1, n + 1, a, q, i => by
    obtain ⟨a', e, i'⟩ := h n m a i
    obtain ⟨a'', e', i''⟩ := run_loop L F I h h0 m n a' (by omega) i'
    exact ⟨a'', e.trans e', i''⟩
/-- 'for k in 0 .. N' -/
theorem run_for {B : Type} (L : Nat → Int32 → S → B) (F : S → B) (N : Nat) (I : Nat → S → Prop) (h : ∀ n k s, k < N → I k s → ∃ s', L (n + 1) (Int32.ofNat k) s = L n (Int32.ofNat (k + 1)) s' ∧ I (k + 1) s') (h0 : ∀ n s, I N s → L (n + 1) (Int32.ofNat N) s = F s) (n : Nat) (s : S) (hn : N < n) (i : I 0 s) :
    ∃ s', L n (Int32.ofNat 0) s = F s' ∧ I N s' := by
  obtain ⟨a, e, k, hk, ea, ia⟩ := run_loop (fun n (a : Int32 × S) => L n a.1 a.2) (fun a => F a.2) (fun m a => ∃ k, k + m = N ∧ a.1 = Int32.ofNat k ∧ I k a.2)
    (fun n m a ⟨k, h1, h2, h3⟩ => by
      obtain ⟨s', e, i'⟩ := h n k a.2 (by omega) h3
      exact ⟨(Int32.ofNat (k + 1), s'), by show L (n + 1) a.1 a.2 = _; rw [h2]; exact e, k + 1, by omega, rfl, i'⟩)
    (fun n a ⟨k, h1, h2, h3⟩ => by
      have : k = N := by omega
      subst this
      show L (n + 1) a.1 a.2 = _; rw [h2]; exact h0 n a.2 h3) N n (Int32.ofNat 0, s) hn ⟨0, by omega, rfl, i⟩
  have : k = N := by omega
  subst this
  exact ⟨a.2, e, ia⟩
end Jvm.PL
namespace Jvm.PL
open Jvm.AM
/-- the end test of a loop over a script -/
theorem len_lt {n k c : Nat} (hn : n ≤ 100000) (hk : k ≤ 100000) (hc : c ≤ 100000) : (n.toInt32 - Int32.ofNat c) < Int32.ofNat k ↔ n < k + c := by
  rw [Int32.lt_iff_toInt_lt, Int32.toInt_sub, show n.toInt32 = Int32.ofNat n from rfl, ofNat_toInt (by omega), ofNat_toInt (by omega), ofNat_toInt (by omega)]
  have : ((n : Int) - c).bmod (2 ^ 32) = n - c := by
    rw [Int.bmod_eq_of_le] <;> omega
  rw [this]; omega
/-- a loop over a script, c entries a turn: it ends in what every way out says -/
theorem run_script {A B : Type} (L : Nat → Int32 → A → B) (c len : Nat) (hc : 0 < c) (P : B → Prop) (I : Nat → A → Prop) (h : ∀ n k a, k + c ≤ len → I k a → P (L (n + 1) (Int32.ofNat k) a) ∨ ∃ a', L (n + 1) (Int32.ofNat k) a = L n (Int32.ofNat (k + c)) a' ∧ I (k + c) a') (h0 : ∀ n k a, k ≤ len → len < k + c → I k a → P (L (n + 1) (Int32.ofNat k) a)) : ∀ n k a, len < n + k → k ≤ len → I k a → P (L n (Int32.ofNat k) a)
  | 0, k, a, hn, hk, i => by omega
  | n + 1, k, a, hn, hk, i => by
    by_cases q : k + c ≤ len
    · rcases h n k a q i with p | ⟨a', e, i'⟩
      · exact p
      · rw [e]; exact run_script L c len hc P I h h0 n (k + c) a' (by omega) q i'
    · exact h0 n k a hk (by omega) i
theorem ix_some {A : Type} (l : List A) {k : Nat} (hk : k < 2147483648) (hl : k < l.length) : ∃ x, ix l (Int32.ofNat k) = some x := ⟨l[k], by rw [ix_ofNat _ hk, List.getElem?_eq_getElem hl]⟩
theorem ofNat_lit (a b : Nat) : Int32.ofNat a + (OfNat.ofNat b : Int32) = Int32.ofNat (a + b) := ofNat_add' a b
end Jvm.PL
namespace Jvm.PL
open Jvm.AM
theorem upd_same {A : Type} (g : Nat → A) (f : Nat) (a b : A) : aupd (aupd g f a) f b = aupd g f b := by
  funext x; unfold aupd; by_cases q : x = f <;> simp [q]
theorem upd_comm {A : Type} (g : Nat → A) {f h : Nat} (n : f ≠ h) (a b : A) : aupd (aupd g f a) h b = aupd (aupd g h b) f a := by
  funext x; unfold aupd
  by_cases q : x = f
  · have : ¬ f = h := n
    simp [q, this]
  · by_cases r : x = h
    · rw [if_pos r, if_neg q, if_pos r]
    · rw [if_neg r, if_neg q, if_neg q, if_neg r]
theorem sA_same (s : S) (f : Nat) (a b : List Int32) : Jvm.AM.sA (Jvm.AM.sA s f a) f b = Jvm.AM.sA s f b := by
  unfold Jvm.AM.sA; simp only [upd_same]
theorem sA_comm (s : S) {f h : Nat} (n : f ≠ h) (a b : List Int32) : Jvm.AM.sA (Jvm.AM.sA s f a) h b = Jvm.AM.sA (Jvm.AM.sA s h b) f a := by
  unfold Jvm.AM.sA; simp only; rw [upd_comm _ n]
end Jvm.PL
/-! ## rows of bits -/
namespace Jvm.PL
open Jvm.AM Jvm.Free
def bt (w : Int32) (y : Nat) : Bool := w.toBitVec.getLsbD y
theorem bt_zero (y : Nat) : bt 0 y = false := by simp [bt]
theorem bt_or (a b : Int32) (y : Nat) : bt (a ||| b) y = (bt a y || bt b y) := by simp [bt]
theorem bt_and (a b : Int32) (y : Nat) : bt (a &&& b) y = (bt a y && bt b y) := by simp [bt]
theorem bt_ge (w : Int32) {y : Nat} (h : 32 ≤ y) : bt w y = false := by unfold bt; exact BitVec.getLsbD_of_ge _ _ h
theorem bt_m1 {y : Nat} (h : y < 32) : bt (-1) y = true := by
  unfold bt
  rw [show (-1 : Int32).toBitVec = BitVec.allOnes 32 from rfl, BitVec.getLsbD_allOnes]
  simp [h]
theorem bt_not (a : Int32) {y : Nat} (h : y < 32) : bt (a ^^^ (-1)) y = !bt a y := by
  have := bt_m1 h
  unfold bt at *
  rw [Int32.toBitVec_xor, BitVec.getLsbD_xor, this]; simp
theorem bt_andn (a b : Int32) (y : Nat) : bt (a &&& (b ^^^ (-1))) y = (bt a y && !bt b y) := by
  rw [bt_and]
  by_cases h : y < 32
  · rw [bt_not b h]
  · rw [bt_ge a (by omega)]; simp
theorem bt_ext {a b : Int32} (h : ∀ y, y < 32 → bt a y = bt b y) : a = b := by
  apply Int32.toBitVec_inj.mp
  apply BitVec.eq_of_getLsbD_eq
  intro i hi
  exact h i hi
theorem bt_eq0 {w : Int32} : w = 0 ↔ ∀ y, y < 32 → bt w y = false := by
  constructor
  · rintro rfl y _; exact bt_zero y
  · intro h; exact bt_ext fun y hy => by rw [h y hy, bt_zero]
theorem ushr_bit (w : Int32) {y : Nat} (hy : y < 32) : (XT.ushr w (Int32.ofNat y)).toBitVec = w.toBitVec >>> y := by
  unfold XT.ushr
  have h1 : ((Int32.ofNat y &&& 31).toUInt32.toBitVec).toNat = y := by
    show ((Int32.ofNat y &&& 31).toBitVec).toNat = y
    rw [Int32.toBitVec_and, BitVec.toNat_and]
    have e1 : (Int32.ofNat y).toBitVec.toNat = y := by
      show (BitVec.ofNat 32 y).toNat = y
      rw [BitVec.toNat_ofNat]; omega
    have e2 : (31 : Int32).toBitVec.toNat = 31 := rfl
    rw [e1, e2, show 31 = 2 ^ 5 - 1 from rfl, Nat.and_two_pow_sub_one_eq_mod]; omega
  show (w.toUInt32 >>> (Int32.ofNat y &&& 31).toUInt32).toBitVec = _
  rw [UInt32.toBitVec_shiftRight]
  show w.toBitVec >>> ((Int32.ofNat y &&& 31).toUInt32.toBitVec % 32) = _
  rw [BitVec.ushiftRight_eq']
  congr 1
  rw [BitVec.toNat_umod, h1]
  show y % 32 = y
  omega
theorem and1 (w : Int32) : (w &&& 1 = 0) ↔ bt w 0 = false := by
  constructor
  · intro h
    have : bt (w &&& 1) 0 = false := by rw [h, bt_zero]
    rw [bt_and] at this
    simpa [show bt 1 0 = true from rfl] using this
  · intro h
    refine bt_ext fun y hy => ?_
    rw [bt_and, bt_zero]
    cases y with
    | zero => rw [h]; rfl
    | succ y =>
      have : bt 1 (y + 1) = false := by
        unfold bt
        show (1#32).getLsbD (y + 1) = false
        simp [BitVec.getLsbD_one]
      rw [this]; simp
theorem test_bit (w : Int32) {y : Nat} (hy : y < 32) : (XT.ushr w (Int32.ofNat y) &&& 1 = 0) ↔ bt w y = false := by
  rw [and1]
  unfold bt
  rw [ushr_bit w hy]; simp
theorem shl_bit {b : Nat} (hb : b < 32) (y : Nat) : bt ((1 : Int32) <<< (Int32.ofNat b &&& 31)) y = decide (y = b) := by
  have h1 : (Int32.ofNat b &&& 31) = Int32.ofNat b := by
    apply Int32.toBitVec_inj.mp
    rw [Int32.toBitVec_and]
    apply BitVec.eq_of_toNat_eq
    rw [BitVec.toNat_and]
    have e1 : (Int32.ofNat b).toBitVec.toNat = b := by
      show (BitVec.ofNat 32 b).toNat = b
      rw [BitVec.toNat_ofNat]; omega
    have e2 : (31 : Int32).toBitVec.toNat = 31 := rfl
    rw [e1, e2, show 31 = 2 ^ 5 - 1 from rfl, Nat.and_two_pow_sub_one_eq_mod]; omega
  rw [h1]
  unfold bt
  have e : ((1 : Int32) <<< Int32.ofNat b).toBitVec = (1#32) <<< b := by
    rw [Int32.toBitVec_shiftLeft]
    show (1#32) <<< ((Int32.ofNat b).toBitVec.smod 32) = _
    have : (Int32.ofNat b).toBitVec.smod 32 = BitVec.ofNat 32 b := by
      have hz : ∀ b : Fin 32, (Int32.ofNat b.val).toBitVec.smod 32 = BitVec.ofNat 32 b.val := by decide
      exact hz ⟨b, hb⟩
    rw [this, BitVec.shiftLeft_eq']
    congr 1
    rw [BitVec.toNat_ofNat]; omega
  rw [e]
  simp only [BitVec.getLsbD_shiftLeft, BitVec.getLsbD_one]
  by_cases h : y = b
  · subst h; simp [hb]
  · simp [h]; omega
end Jvm.PL
namespace Jvm.Pilot.@@N@@
open Jvm Jvm.ClassFile Sem Op Lib Jvm.Free Jvm.Stand Jvm.LawKit Jvm.RoadKit Jvm.AM Jvm.PL Jvm.Pilot.@@N@@.Jvm.D
def ci1 : CI := ("DeferredCountY", 20, [("heapCells", "I", .int), ("fieldsPer", "I", .int), ("rootCap", "I", .int), ("tableCap", "I", .int), ("liveTotal", "I", .int), ("rootDepth", "I", .int), ("tableLen", "I", .int), ("workTop", "I", .int), ("runs", "I", .int)], [("live", "[Z", .boolean, 64), ("cellFields", "[I", .int, 256), ("refs", "[I", .int, 64), ("rootStack", "[I", .int, 16), ("tableIds", "[I", .int, 64), ("tablePos", "[I", .int, 64), ("survivor", "[Z", .boolean, 64), ("rootHeld", "[Z", .boolean, 64), ("queued", "[Z", .boolean, 64), ("holders", "[I", .int, 64), ("work", "[I", .int, 64)])
def PP : PI := (tables_1, ci1)
def BIG : Nat := 1000000
def m0 : Meth := (⟨"DeferredCountY", "clamp", "(III)I"⟩, prog_1_method_58_code, 3, (some .int), { frames := 0, cells := 0, slots := 0, locals := 0 }, 1, false, 0, 0)
def m1 : Meth := (⟨"DeferredCountY", "clearCellFields", "(I)V"⟩, prog_1_method_42_code, 4, none, { frames := 0, cells := 0, slots := 0, locals := 0 }, 1, false, 0, 0)
def m2 : Meth := (⟨"DeferredCountY", "resetHeap", "()V"⟩, prog_1_method_54_code, 2, none, { frames := 1, cells := 0, slots := 0, locals := 15 }, 1, false, 0, 0)
def m3 : Meth := (⟨"DeferredCountY", "resetRoots", "()V"⟩, prog_1_method_55_code, 2, none, { frames := 0, cells := 0, slots := 0, locals := 0 }, 1, false, 0, 0)
def m4 : Meth := (⟨"DeferredCountY", "resetTable", "()V"⟩, prog_1_method_56_code, 2, none, { frames := 0, cells := 0, slots := 0, locals := 0 }, 1, false, 0, 0)
def m5 : Meth := (⟨"DeferredCountY", "resetScratch", "()V"⟩, prog_1_method_57_code, 2, none, { frames := 0, cells := 0, slots := 0, locals := 0 }, 1, false, 0, 0)
def m6 : Meth := (⟨"DeferredCountY", "<init>", "(IIII)V"⟩, prog_1_method_1_code, 6, none, { frames := 2, cells := 11, slots := 848, locals := 28 }, 1, true, 1, 20)
def m7 : Meth := (⟨"DeferredCountY", "rootsFull", "()Z"⟩, prog_1_method_47_code, 1, (some .boolean), { frames := 0, cells := 0, slots := 0, locals := 0 }, 1, false, 0, 0)
def m8 : Meth := (⟨"DeferredCountY", "hasFreeCell", "()Z"⟩, prog_1_method_38_code, 1, (some .boolean), { frames := 0, cells := 0, slots := 0, locals := 0 }, 1, false, 0, 0)
def m9 : Meth := (⟨"DeferredCountY", "tableIsFull", "()Z"⟩, prog_1_method_52_code, 1, (some .boolean), { frames := 0, cells := 0, slots := 0, locals := 0 }, 1, false, 0, 0)
def m10 : Meth := (⟨"DeferredCountY", "allocNeedsReconcile", "()Z"⟩, prog_1_method_20_code, 1, (some .boolean), { frames := 1, cells := 0, slots := 0, locals := 12 }, 1, false, 0, 0)
def m11 : Meth := (⟨"DeferredCountY", "isObjectId", "(I)Z"⟩, prog_1_method_59_code, 2, (some .boolean), { frames := 0, cells := 0, slots := 0, locals := 0 }, 1, false, 0, 0)
def m12 : Meth := (⟨"DeferredCountY", "markRootHeld", "()V"⟩, prog_1_method_26_code, 3, none, { frames := 1, cells := 0, slots := 0, locals := 13 }, 1, false, 0, 0)
def m13 : Meth := (⟨"DeferredCountY", "isFieldNo", "(I)Z"⟩, prog_1_method_61_code, 2, (some .boolean), { frames := 0, cells := 0, slots := 0, locals := 0 }, 1, false, 0, 0)
def m14 : Meth := (⟨"DeferredCountY", "readField", "(II)I"⟩, prog_1_method_43_code, 3, (some .int), { frames := 1, cells := 0, slots := 0, locals := 13 }, 1, false, 0, 0)
def m15 : Meth := (⟨"DeferredCountY", "isLiveId", "(I)Z"⟩, prog_1_method_60_code, 2, (some .boolean), { frames := 1, cells := 0, slots := 0, locals := 13 }, 1, false, 0, 0)
def m16 : Meth := (⟨"DeferredCountY", "addHoldersOf", "(I)V"⟩, prog_1_method_28_code, 4, none, { frames := 2, cells := 0, slots := 0, locals := 27 }, 1, false, 0, 0)
def m17 : Meth := (⟨"DeferredCountY", "countHolders", "()V"⟩, prog_1_method_27_code, 2, none, { frames := 3, cells := 0, slots := 0, locals := 42 }, 1, false, 0, 0)
def m18 : Meth := (⟨"DeferredCountY", "eligible", "(I)Z"⟩, prog_1_method_30_code, 2, (some .boolean), { frames := 1, cells := 0, slots := 0, locals := 13 }, 1, false, 0, 0)
def m19 : Meth := (⟨"DeferredCountY", "enqueue", "(I)V"⟩, prog_1_method_31_code, 2, none, { frames := 0, cells := 0, slots := 0, locals := 0 }, 1, false, 0, 0)
def m20 : Meth := (⟨"DeferredCountY", "seedWork", "()V"⟩, prog_1_method_29_code, 2, none, { frames := 2, cells := 0, slots := 0, locals := 26 }, 1, false, 0, 0)
def m21 : Meth := (⟨"DeferredCountY", "dropHoldersOf", "(I)V"⟩, prog_1_method_33_code, 4, none, { frames := 2, cells := 0, slots := 0, locals := 27 }, 1, false, 0, 0)
def m22 : Meth := (⟨"DeferredCountY", "cascade", "()V"⟩, prog_1_method_32_code, 3, none, { frames := 3, cells := 0, slots := 0, locals := 42 }, 1, false, 0, 0)
def m23 : Meth := (⟨"DeferredCountY", "releaseCell", "(I)V"⟩, prog_1_method_41_code, 2, none, { frames := 1, cells := 0, slots := 0, locals := 15 }, 1, false, 0, 0)
def m24 : Meth := (⟨"DeferredCountY", "sweep", "()I"⟩, prog_1_method_34_code, 3, (some .int), { frames := 2, cells := 0, slots := 0, locals := 28 }, 1, false, 0, 0)
def m25 : Meth := (⟨"DeferredCountY", "refInc", "(I)V"⟩, prog_1_method_45_code, 2, none, { frames := 1, cells := 0, slots := 0, locals := 13 }, 1, false, 0, 0)
def m26 : Meth := (⟨"DeferredCountY", "countOutgoing", "(I)V"⟩, prog_1_method_36_code, 4, none, { frames := 2, cells := 0, slots := 0, locals := 27 }, 1, false, 0, 0)
def m27 : Meth := (⟨"DeferredCountY", "recountRefs", "()V"⟩, prog_1_method_35_code, 2, none, { frames := 3, cells := 0, slots := 0, locals := 42 }, 1, false, 0, 0)
def m28 : Meth := (⟨"DeferredCountY", "tableInsert", "(I)Z"⟩, prog_1_method_53_code, 2, (some .boolean), { frames := 1, cells := 0, slots := 0, locals := 13 }, 1, false, 0, 0)
def m29 : Meth := (⟨"DeferredCountY", "rebuildTable", "()V"⟩, prog_1_method_37_code, 2, none, { frames := 2, cells := 0, slots := 0, locals := 26 }, 1, false, 0, 0)
def m30 : Meth := (⟨"DeferredCountY", "runReconciliation", "()I"⟩, prog_1_method_25_code, 2, (some .int), { frames := 4, cells := 0, slots := 0, locals := 56 }, 1, false, 0, 0)
def m31 : Meth := (⟨"DeferredCountY", "lowestFreeCell", "()I"⟩, prog_1_method_39_code, 2, (some .int), { frames := 0, cells := 0, slots := 0, locals := 0 }, 1, false, 0, 0)
def m32 : Meth := (⟨"DeferredCountY", "bringToLife", "(I)V"⟩, prog_1_method_40_code, 2, none, { frames := 1, cells := 0, slots := 0, locals := 15 }, 1, false, 0, 0)
def m33 : Meth := (⟨"DeferredCountY", "rootPush", "(I)V"⟩, prog_1_method_48_code, 2, none, { frames := 0, cells := 0, slots := 0, locals := 0 }, 1, false, 0, 0)
def m34 : Meth := (⟨"DeferredCountY", "placeNewObject", "(I)V"⟩, prog_1_method_21_code, 2, none, { frames := 2, cells := 0, slots := 0, locals := 28 }, 1, false, 0, 0)
def m35 : Meth := (⟨"DeferredCountY", "alloc", "()I"⟩, prog_1_method_2_code, 2, (some .int), { frames := 5, cells := 0, slots := 0, locals := 69 }, 1, false, 0, 0)
def m36 : Meth := (⟨"DeferredCountY", "isRootSlot", "(I)Z"⟩, prog_1_method_62_code, 2, (some .boolean), { frames := 0, cells := 0, slots := 0, locals := 0 }, 1, false, 0, 0)
def m37 : Meth := (⟨"DeferredCountY", "isValueSlot", "(I)Z"⟩, prog_1_method_63_code, 2, (some .boolean), { frames := 1, cells := 0, slots := 0, locals := 13 }, 1, false, 0, 0)
def m38 : Meth := (⟨"DeferredCountY", "storeCheck", "(III)I"⟩, prog_1_method_18_code, 4, (some .int), { frames := 2, cells := 0, slots := 0, locals := 26 }, 1, false, 0, 0)
def m39 : Meth := (⟨"DeferredCountY", "valueOfSlot", "(I)I"⟩, prog_1_method_50_code, 2, (some .int), { frames := 1, cells := 0, slots := 0, locals := 13 }, 1, false, 0, 0)
def m40 : Meth := (⟨"DeferredCountY", "tableHas", "(I)Z"⟩, prog_1_method_51_code, 2, (some .boolean), { frames := 1, cells := 0, slots := 0, locals := 13 }, 1, false, 0, 0)
def m41 : Meth := (⟨"DeferredCountY", "storeNeedsReconcile", "(II)Z"⟩, prog_1_method_22_code, 3, (some .boolean), { frames := 2, cells := 0, slots := 0, locals := 26 }, 1, false, 0, 0)
def m42 : Meth := (⟨"DeferredCountY", "refDec", "(I)V"⟩, prog_1_method_46_code, 2, none, { frames := 1, cells := 0, slots := 0, locals := 13 }, 1, false, 0, 0)
def m43 : Meth := (⟨"DeferredCountY", "writeFieldRaw", "(III)V"⟩, prog_1_method_44_code, 4, none, { frames := 1, cells := 0, slots := 0, locals := 13 }, 1, false, 0, 0)
def m44 : Meth := (⟨"DeferredCountY", "assignField", "(III)V"⟩, prog_1_method_23_code, 5, none, { frames := 2, cells := 0, slots := 0, locals := 28 }, 1, false, 0, 0)
def m45 : Meth := (⟨"DeferredCountY", "noteZeroCount", "(I)V"⟩, prog_1_method_24_code, 2, none, { frames := 2, cells := 0, slots := 0, locals := 26 }, 1, false, 0, 0)
def m46 : Meth := (⟨"DeferredCountY", "store", "(III)I"⟩, prog_1_method_4_code, 8, (some .int), { frames := 5, cells := 0, slots := 0, locals := 69 }, 1, false, 0, 0)
def m47 : Meth := (⟨"DeferredCountYL3", "ans", "(I)I"⟩, method_4_code, 1, (some .int), { frames := 0, cells := 0, slots := 0, locals := 0 }, 1, false, 0, 0)
def m48 : Meth := (⟨"DeferredCountYL3", "eff", "(I)I"⟩, method_3_code, 1, (some .int), { frames := 0, cells := 0, slots := 0, locals := 0 }, 1, false, 0, 0)
def m49 : Meth := (⟨"DeferredCountY", "rootPopTop", "()V"⟩, prog_1_method_49_code, 1, none, { frames := 0, cells := 0, slots := 0, locals := 0 }, 1, false, 0, 0)
def m50 : Meth := (⟨"DeferredCountY", "pop", "()I"⟩, prog_1_method_6_code, 1, (some .int), { frames := 1, cells := 0, slots := 0, locals := 12 }, 1, false, 0, 0)
def m51 : Meth := (⟨"DeferredCountYL3", "edge", "(IIIII)I"⟩, method_2_code, 5, (some .int), { frames := 0, cells := 0, slots := 0, locals := 0 }, 1, false, 0, 0)
def m52 : Meth := (⟨"DeferredCountY", "reconcile", "()I"⟩, prog_1_method_7_code, 1, (some .int), { frames := 5, cells := 0, slots := 0, locals := 69 }, 1, false, 0, 0)
def m53 : Meth := (⟨"DeferredCountY", "isLive", "(I)Z"⟩, prog_1_method_10_code, 2, (some .boolean), { frames := 2, cells := 0, slots := 0, locals := 26 }, 1, false, 0, 0)
def m54 : Meth := (⟨"DeferredCountY", "count", "(I)I"⟩, prog_1_method_12_code, 2, (some .int), { frames := 2, cells := 0, slots := 0, locals := 26 }, 1, false, 0, 0)
def m55 : Meth := (⟨"DeferredCountY", "field", "(II)I"⟩, prog_1_method_11_code, 3, (some .int), { frames := 2, cells := 0, slots := 0, locals := 27 }, 1, false, 0, 0)
def m56 : Meth := (⟨"DeferredCountY", "inTable", "(I)Z"⟩, prog_1_method_13_code, 2, (some .boolean), { frames := 2, cells := 0, slots := 0, locals := 26 }, 1, false, 0, 0)
def m57 : Meth := (⟨"DeferredCountY", "liveCount", "()I"⟩, prog_1_method_15_code, 1, (some .int), { frames := 0, cells := 0, slots := 0, locals := 0 }, 1, false, 0, 0)
def m58 : Meth := (⟨"DeferredCountY", "tableSize", "()I"⟩, prog_1_method_14_code, 1, (some .int), { frames := 0, cells := 0, slots := 0, locals := 0 }, 1, false, 0, 0)
def m59 : Meth := (⟨"DeferredCountY", "reconciliations", "()I"⟩, prog_1_method_16_code, 1, (some .int), { frames := 0, cells := 0, slots := 0, locals := 0 }, 1, false, 0, 0)
def m60 : Meth := (x, code, maxLocals, ret, room_1, 1, true, 0, 0)
theorem ar_0 : (cA PP.2)[0]? = some ("live", "[Z", .boolean, 64) := rfl
theorem ar_1 : (cA PP.2)[1]? = some ("cellFields", "[I", .int, 256) := rfl
theorem ar_2 : (cA PP.2)[2]? = some ("refs", "[I", .int, 64) := rfl
theorem ar_3 : (cA PP.2)[3]? = some ("rootStack", "[I", .int, 16) := rfl
theorem ar_4 : (cA PP.2)[4]? = some ("tableIds", "[I", .int, 64) := rfl
theorem ar_5 : (cA PP.2)[5]? = some ("tablePos", "[I", .int, 64) := rfl
theorem ar_6 : (cA PP.2)[6]? = some ("survivor", "[Z", .boolean, 64) := rfl
theorem ar_7 : (cA PP.2)[7]? = some ("rootHeld", "[Z", .boolean, 64) := rfl
theorem ar_8 : (cA PP.2)[8]? = some ("queued", "[Z", .boolean, 64) := rfl
theorem ar_9 : (cA PP.2)[9]? = some ("holders", "[I", .int, 64) := rfl
theorem ar_10 : (cA PP.2)[10]? = some ("work", "[I", .int, 64) := rfl
theorem fa_7 : FldA PP 7 0 .boolean := ⟨_, _, _, rfl, List.mem_of_getElem? (i := 10) rfl⟩
theorem fa_13 : FldA PP 13 1 .int := ⟨_, _, _, rfl, List.mem_of_getElem? (i := 13) rfl⟩
theorem fa_17 : FldA PP 17 2 .int := ⟨_, _, _, rfl, List.mem_of_getElem? (i := 15) rfl⟩
theorem fa_20 : FldA PP 20 3 .int := ⟨_, _, _, rfl, List.mem_of_getElem? (i := 17) rfl⟩
theorem fa_23 : FldA PP 23 4 .int := ⟨_, _, _, rfl, List.mem_of_getElem? (i := 19) rfl⟩
theorem fa_26 : FldA PP 26 5 .int := ⟨_, _, _, rfl, List.mem_of_getElem? (i := 21) rfl⟩
theorem fa_29 : FldA PP 29 6 .boolean := ⟨_, _, _, rfl, List.mem_of_getElem? (i := 23) rfl⟩
theorem fa_32 : FldA PP 32 7 .boolean := ⟨_, _, _, rfl, List.mem_of_getElem? (i := 25) rfl⟩
theorem fa_35 : FldA PP 35 8 .boolean := ⟨_, _, _, rfl, List.mem_of_getElem? (i := 27) rfl⟩
theorem fa_38 : FldA PP 38 9 .int := ⟨_, _, _, rfl, List.mem_of_getElem? (i := 29) rfl⟩
theorem fa_41 : FldA PP 41 10 .int := ⟨_, _, _, rfl, List.mem_of_getElem? (i := 31) rfl⟩
theorem fs_48 : FldS PP 48 0 .int := ⟨_, _, rfl, List.mem_of_getElem? (i := 36) rfl⟩
theorem fs_52 : FldS PP 52 1 .int := ⟨_, _, rfl, List.mem_of_getElem? (i := 38) rfl⟩
theorem fs_55 : FldS PP 55 2 .int := ⟨_, _, rfl, List.mem_of_getElem? (i := 40) rfl⟩
theorem fs_58 : FldS PP 58 3 .int := ⟨_, _, rfl, List.mem_of_getElem? (i := 42) rfl⟩
theorem fs_73 : FldS PP 73 8 .int := ⟨_, _, rfl, List.mem_of_getElem? (i := 72) rfl⟩
theorem fs_125 : FldS PP 125 5 .int := ⟨_, _, rfl, List.mem_of_getElem? (i := 58) rfl⟩
theorem fs_144 : FldS PP 144 6 .int := ⟨_, _, rfl, List.mem_of_getElem? (i := 64) rfl⟩
theorem fs_147 : FldS PP 147 4 .int := ⟨_, _, rfl, List.mem_of_getElem? (i := 52) rfl⟩
theorem fs_201 : FldS PP 201 7 .int := ⟨_, _, rfl, List.mem_of_getElem? (i := 70) rfl⟩
theorem wr_0 (M : Meth) : Wrt PP M 0 := ⟨_, _, _, rfl, Or.inl (List.mem_of_getElem? (i := 37) rfl)⟩
theorem wr_1 (M : Meth) : Wrt PP M 1 := ⟨_, _, _, rfl, Or.inl (List.mem_of_getElem? (i := 39) rfl)⟩
theorem wr_2 (M : Meth) : Wrt PP M 2 := ⟨_, _, _, rfl, Or.inl (List.mem_of_getElem? (i := 41) rfl)⟩
theorem wr_3 (M : Meth) : Wrt PP M 3 := ⟨_, _, _, rfl, Or.inl (List.mem_of_getElem? (i := 43) rfl)⟩
theorem wr_4 (M : Meth) : Wrt PP M 4 := ⟨_, _, _, rfl, Or.inl (List.mem_of_getElem? (i := 53) rfl)⟩
theorem wr_5 (M : Meth) : Wrt PP M 5 := ⟨_, _, _, rfl, Or.inl (List.mem_of_getElem? (i := 59) rfl)⟩
theorem wr_6 (M : Meth) : Wrt PP M 6 := ⟨_, _, _, rfl, Or.inl (List.mem_of_getElem? (i := 65) rfl)⟩
theorem wr_7 (M : Meth) : Wrt PP M 7 := ⟨_, _, _, rfl, Or.inl (List.mem_of_getElem? (i := 71) rfl)⟩
theorem wr_8 (M : Meth) : Wrt PP M 8 := ⟨_, _, _, rfl, Or.inl (List.mem_of_getElem? (i := 73) rfl)⟩
theorem oid_0 : 1 = (cK PP.2 + 1) * 0 + 1 := rfl
theorem pl_0 : plainName "DeferredCountY" = true := by first | (simp [plainName, overriddenIn]; done) | decide +kernel
theorem pl_1 : plainName "DeferredCountYL3" = true := by first | (simp [plainName, overriddenIn]; done) | decide +kernel
theorem hm_0 : (mY m0).cls = cN PP.2 := rfl
theorem hn_0 : 0 < mN m0 := by decide
theorem pd_0 : parseMethodDescriptor (mY m0).desc = some ⟨[.int, .int, .int], (some .int)⟩ := by decide +kernel
theorem hm_1 : (mY m1).cls = cN PP.2 := rfl
theorem hn_1 : 0 < mN m1 := by decide
theorem pd_1 : parseMethodDescriptor (mY m1).desc = some ⟨[.int], none⟩ := by decide +kernel
theorem hm_2 : (mY m2).cls = cN PP.2 := rfl
theorem hn_2 : 0 < mN m2 := by decide
theorem pd_2 : parseMethodDescriptor (mY m2).desc = some ⟨[], none⟩ := by decide +kernel
theorem hm_3 : (mY m3).cls = cN PP.2 := rfl
theorem hn_3 : 0 < mN m3 := by decide
theorem pd_3 : parseMethodDescriptor (mY m3).desc = some ⟨[], none⟩ := by decide +kernel
theorem hm_4 : (mY m4).cls = cN PP.2 := rfl
theorem hn_4 : 0 < mN m4 := by decide
theorem pd_4 : parseMethodDescriptor (mY m4).desc = some ⟨[], none⟩ := by decide +kernel
theorem hm_5 : (mY m5).cls = cN PP.2 := rfl
theorem hn_5 : 0 < mN m5 := by decide
theorem pd_5 : parseMethodDescriptor (mY m5).desc = some ⟨[], none⟩ := by decide +kernel
theorem hm_6 : (mY m6).cls = cN PP.2 := rfl
theorem hn_6 : 0 < mN m6 := by decide
theorem pd_6 : parseMethodDescriptor (mY m6).desc = some ⟨[.int, .int, .int, .int], none⟩ := by decide +kernel
theorem hm_7 : (mY m7).cls = cN PP.2 := rfl
theorem hn_7 : 0 < mN m7 := by decide
theorem pd_7 : parseMethodDescriptor (mY m7).desc = some ⟨[], (some .boolean)⟩ := by decide +kernel
theorem hm_8 : (mY m8).cls = cN PP.2 := rfl
theorem hn_8 : 0 < mN m8 := by decide
theorem pd_8 : parseMethodDescriptor (mY m8).desc = some ⟨[], (some .boolean)⟩ := by decide +kernel
theorem hm_9 : (mY m9).cls = cN PP.2 := rfl
theorem hn_9 : 0 < mN m9 := by decide
theorem pd_9 : parseMethodDescriptor (mY m9).desc = some ⟨[], (some .boolean)⟩ := by decide +kernel
theorem hm_10 : (mY m10).cls = cN PP.2 := rfl
theorem hn_10 : 0 < mN m10 := by decide
theorem pd_10 : parseMethodDescriptor (mY m10).desc = some ⟨[], (some .boolean)⟩ := by decide +kernel
theorem hm_11 : (mY m11).cls = cN PP.2 := rfl
theorem hn_11 : 0 < mN m11 := by decide
theorem pd_11 : parseMethodDescriptor (mY m11).desc = some ⟨[.int], (some .boolean)⟩ := by decide +kernel
theorem hm_12 : (mY m12).cls = cN PP.2 := rfl
theorem hn_12 : 0 < mN m12 := by decide
theorem pd_12 : parseMethodDescriptor (mY m12).desc = some ⟨[], none⟩ := by decide +kernel
theorem hm_13 : (mY m13).cls = cN PP.2 := rfl
theorem hn_13 : 0 < mN m13 := by decide
theorem pd_13 : parseMethodDescriptor (mY m13).desc = some ⟨[.int], (some .boolean)⟩ := by decide +kernel
theorem hm_14 : (mY m14).cls = cN PP.2 := rfl
theorem hn_14 : 0 < mN m14 := by decide
theorem pd_14 : parseMethodDescriptor (mY m14).desc = some ⟨[.int, .int], (some .int)⟩ := by decide +kernel
theorem hm_15 : (mY m15).cls = cN PP.2 := rfl
theorem hn_15 : 0 < mN m15 := by decide
theorem pd_15 : parseMethodDescriptor (mY m15).desc = some ⟨[.int], (some .boolean)⟩ := by decide +kernel
theorem hm_16 : (mY m16).cls = cN PP.2 := rfl
theorem hn_16 : 0 < mN m16 := by decide
theorem pd_16 : parseMethodDescriptor (mY m16).desc = some ⟨[.int], none⟩ := by decide +kernel
theorem hm_17 : (mY m17).cls = cN PP.2 := rfl
theorem hn_17 : 0 < mN m17 := by decide
theorem pd_17 : parseMethodDescriptor (mY m17).desc = some ⟨[], none⟩ := by decide +kernel
theorem hm_18 : (mY m18).cls = cN PP.2 := rfl
theorem hn_18 : 0 < mN m18 := by decide
theorem pd_18 : parseMethodDescriptor (mY m18).desc = some ⟨[.int], (some .boolean)⟩ := by decide +kernel
theorem hm_19 : (mY m19).cls = cN PP.2 := rfl
theorem hn_19 : 0 < mN m19 := by decide
theorem pd_19 : parseMethodDescriptor (mY m19).desc = some ⟨[.int], none⟩ := by decide +kernel
theorem hm_20 : (mY m20).cls = cN PP.2 := rfl
theorem hn_20 : 0 < mN m20 := by decide
theorem pd_20 : parseMethodDescriptor (mY m20).desc = some ⟨[], none⟩ := by decide +kernel
theorem hm_21 : (mY m21).cls = cN PP.2 := rfl
theorem hn_21 : 0 < mN m21 := by decide
theorem pd_21 : parseMethodDescriptor (mY m21).desc = some ⟨[.int], none⟩ := by decide +kernel
theorem hm_22 : (mY m22).cls = cN PP.2 := rfl
theorem hn_22 : 0 < mN m22 := by decide
theorem pd_22 : parseMethodDescriptor (mY m22).desc = some ⟨[], none⟩ := by decide +kernel
theorem hm_23 : (mY m23).cls = cN PP.2 := rfl
theorem hn_23 : 0 < mN m23 := by decide
theorem pd_23 : parseMethodDescriptor (mY m23).desc = some ⟨[.int], none⟩ := by decide +kernel
theorem hm_24 : (mY m24).cls = cN PP.2 := rfl
theorem hn_24 : 0 < mN m24 := by decide
theorem pd_24 : parseMethodDescriptor (mY m24).desc = some ⟨[], (some .int)⟩ := by decide +kernel
theorem hm_25 : (mY m25).cls = cN PP.2 := rfl
theorem hn_25 : 0 < mN m25 := by decide
theorem pd_25 : parseMethodDescriptor (mY m25).desc = some ⟨[.int], none⟩ := by decide +kernel
theorem hm_26 : (mY m26).cls = cN PP.2 := rfl
theorem hn_26 : 0 < mN m26 := by decide
theorem pd_26 : parseMethodDescriptor (mY m26).desc = some ⟨[.int], none⟩ := by decide +kernel
theorem hm_27 : (mY m27).cls = cN PP.2 := rfl
theorem hn_27 : 0 < mN m27 := by decide
theorem pd_27 : parseMethodDescriptor (mY m27).desc = some ⟨[], none⟩ := by decide +kernel
theorem hm_28 : (mY m28).cls = cN PP.2 := rfl
theorem hn_28 : 0 < mN m28 := by decide
theorem pd_28 : parseMethodDescriptor (mY m28).desc = some ⟨[.int], (some .boolean)⟩ := by decide +kernel
theorem hm_29 : (mY m29).cls = cN PP.2 := rfl
theorem hn_29 : 0 < mN m29 := by decide
theorem pd_29 : parseMethodDescriptor (mY m29).desc = some ⟨[], none⟩ := by decide +kernel
theorem hm_30 : (mY m30).cls = cN PP.2 := rfl
theorem hn_30 : 0 < mN m30 := by decide
theorem pd_30 : parseMethodDescriptor (mY m30).desc = some ⟨[], (some .int)⟩ := by decide +kernel
theorem hm_31 : (mY m31).cls = cN PP.2 := rfl
theorem hn_31 : 0 < mN m31 := by decide
theorem pd_31 : parseMethodDescriptor (mY m31).desc = some ⟨[], (some .int)⟩ := by decide +kernel
theorem hm_32 : (mY m32).cls = cN PP.2 := rfl
theorem hn_32 : 0 < mN m32 := by decide
theorem pd_32 : parseMethodDescriptor (mY m32).desc = some ⟨[.int], none⟩ := by decide +kernel
theorem hm_33 : (mY m33).cls = cN PP.2 := rfl
theorem hn_33 : 0 < mN m33 := by decide
theorem pd_33 : parseMethodDescriptor (mY m33).desc = some ⟨[.int], none⟩ := by decide +kernel
theorem hm_34 : (mY m34).cls = cN PP.2 := rfl
theorem hn_34 : 0 < mN m34 := by decide
theorem pd_34 : parseMethodDescriptor (mY m34).desc = some ⟨[.int], none⟩ := by decide +kernel
theorem hm_35 : (mY m35).cls = cN PP.2 := rfl
theorem hn_35 : 0 < mN m35 := by decide
theorem pd_35 : parseMethodDescriptor (mY m35).desc = some ⟨[], (some .int)⟩ := by decide +kernel
theorem hm_36 : (mY m36).cls = cN PP.2 := rfl
theorem hn_36 : 0 < mN m36 := by decide
theorem pd_36 : parseMethodDescriptor (mY m36).desc = some ⟨[.int], (some .boolean)⟩ := by decide +kernel
theorem hm_37 : (mY m37).cls = cN PP.2 := rfl
theorem hn_37 : 0 < mN m37 := by decide
theorem pd_37 : parseMethodDescriptor (mY m37).desc = some ⟨[.int], (some .boolean)⟩ := by decide +kernel
theorem hm_38 : (mY m38).cls = cN PP.2 := rfl
theorem hn_38 : 0 < mN m38 := by decide
theorem pd_38 : parseMethodDescriptor (mY m38).desc = some ⟨[.int, .int, .int], (some .int)⟩ := by decide +kernel
theorem hm_39 : (mY m39).cls = cN PP.2 := rfl
theorem hn_39 : 0 < mN m39 := by decide
theorem pd_39 : parseMethodDescriptor (mY m39).desc = some ⟨[.int], (some .int)⟩ := by decide +kernel
theorem hm_40 : (mY m40).cls = cN PP.2 := rfl
theorem hn_40 : 0 < mN m40 := by decide
theorem pd_40 : parseMethodDescriptor (mY m40).desc = some ⟨[.int], (some .boolean)⟩ := by decide +kernel
theorem hm_41 : (mY m41).cls = cN PP.2 := rfl
theorem hn_41 : 0 < mN m41 := by decide
theorem pd_41 : parseMethodDescriptor (mY m41).desc = some ⟨[.int, .int], (some .boolean)⟩ := by decide +kernel
theorem hm_42 : (mY m42).cls = cN PP.2 := rfl
theorem hn_42 : 0 < mN m42 := by decide
theorem pd_42 : parseMethodDescriptor (mY m42).desc = some ⟨[.int], none⟩ := by decide +kernel
theorem hm_43 : (mY m43).cls = cN PP.2 := rfl
theorem hn_43 : 0 < mN m43 := by decide
theorem pd_43 : parseMethodDescriptor (mY m43).desc = some ⟨[.int, .int, .int], none⟩ := by decide +kernel
theorem hm_44 : (mY m44).cls = cN PP.2 := rfl
theorem hn_44 : 0 < mN m44 := by decide
theorem pd_44 : parseMethodDescriptor (mY m44).desc = some ⟨[.int, .int, .int], none⟩ := by decide +kernel
theorem hm_45 : (mY m45).cls = cN PP.2 := rfl
theorem hn_45 : 0 < mN m45 := by decide
theorem pd_45 : parseMethodDescriptor (mY m45).desc = some ⟨[.int], none⟩ := by decide +kernel
theorem hm_46 : (mY m46).cls = cN PP.2 := rfl
theorem hn_46 : 0 < mN m46 := by decide
theorem pd_46 : parseMethodDescriptor (mY m46).desc = some ⟨[.int, .int, .int], (some .int)⟩ := by decide +kernel
theorem hn_47 : 0 < mN m47 := by decide
theorem pd_47 : parseMethodDescriptor (mY m47).desc = some ⟨[.int], (some .int)⟩ := by decide +kernel
theorem hn_48 : 0 < mN m48 := by decide
theorem pd_48 : parseMethodDescriptor (mY m48).desc = some ⟨[.int], (some .int)⟩ := by decide +kernel
theorem hm_49 : (mY m49).cls = cN PP.2 := rfl
theorem hn_49 : 0 < mN m49 := by decide
theorem pd_49 : parseMethodDescriptor (mY m49).desc = some ⟨[], none⟩ := by decide +kernel
theorem hm_50 : (mY m50).cls = cN PP.2 := rfl
theorem hn_50 : 0 < mN m50 := by decide
theorem pd_50 : parseMethodDescriptor (mY m50).desc = some ⟨[], (some .int)⟩ := by decide +kernel
theorem hn_51 : 0 < mN m51 := by decide
theorem pd_51 : parseMethodDescriptor (mY m51).desc = some ⟨[.int, .int, .int, .int, .int], (some .int)⟩ := by decide +kernel
theorem hm_52 : (mY m52).cls = cN PP.2 := rfl
theorem hn_52 : 0 < mN m52 := by decide
theorem pd_52 : parseMethodDescriptor (mY m52).desc = some ⟨[], (some .int)⟩ := by decide +kernel
theorem hm_53 : (mY m53).cls = cN PP.2 := rfl
theorem hn_53 : 0 < mN m53 := by decide
theorem pd_53 : parseMethodDescriptor (mY m53).desc = some ⟨[.int], (some .boolean)⟩ := by decide +kernel
theorem hm_54 : (mY m54).cls = cN PP.2 := rfl
theorem hn_54 : 0 < mN m54 := by decide
theorem pd_54 : parseMethodDescriptor (mY m54).desc = some ⟨[.int], (some .int)⟩ := by decide +kernel
theorem hm_55 : (mY m55).cls = cN PP.2 := rfl
theorem hn_55 : 0 < mN m55 := by decide
theorem pd_55 : parseMethodDescriptor (mY m55).desc = some ⟨[.int, .int], (some .int)⟩ := by decide +kernel
theorem hm_56 : (mY m56).cls = cN PP.2 := rfl
theorem hn_56 : 0 < mN m56 := by decide
theorem pd_56 : parseMethodDescriptor (mY m56).desc = some ⟨[.int], (some .boolean)⟩ := by decide +kernel
theorem hm_57 : (mY m57).cls = cN PP.2 := rfl
theorem hn_57 : 0 < mN m57 := by decide
theorem pd_57 : parseMethodDescriptor (mY m57).desc = some ⟨[], (some .int)⟩ := by decide +kernel
theorem hm_58 : (mY m58).cls = cN PP.2 := rfl
theorem hn_58 : 0 < mN m58 := by decide
theorem pd_58 : parseMethodDescriptor (mY m58).desc = some ⟨[], (some .int)⟩ := by decide +kernel
theorem hm_59 : (mY m59).cls = cN PP.2 := rfl
theorem hn_59 : 0 < mN m59 := by decide
theorem pd_59 : parseMethodDescriptor (mY m59).desc = some ⟨[], (some .int)⟩ := by decide +kernel
theorem hn_60 : 0 < mN m60 := by decide
theorem d0_0 : decode (mB m0) 0 = .ok (.iload_n 0, 1) := by decide +kernel
theorem d0_1 : decode (mB m0) 1 = .ok (.iload_n 1, 1) := by decide +kernel
theorem d0_2 : decode (mB m0) 2 = .ok (.if_icmp .ge 5, 3) := by decide +kernel
theorem d0_5 : decode (mB m0) 5 = .ok (.iload_n 1, 1) := by decide +kernel
theorem d0_6 : decode (mB m0) 6 = .ok (.ireturn, 1) := by decide +kernel
theorem d0_7 : decode (mB m0) 7 = .ok (.iload_n 0, 1) := by decide +kernel
theorem d0_8 : decode (mB m0) 8 = .ok (.iload_n 2, 1) := by decide +kernel
theorem d0_9 : decode (mB m0) 9 = .ok (.if_icmp .le 5, 3) := by decide +kernel
theorem d0_12 : decode (mB m0) 12 = .ok (.iload_n 2, 1) := by decide +kernel
theorem d0_13 : decode (mB m0) 13 = .ok (.ireturn, 1) := by decide +kernel
theorem d0_14 : decode (mB m0) 14 = .ok (.iload_n 0, 1) := by decide +kernel
theorem d0_15 : decode (mB m0) 15 = .ok (.ireturn, 1) := by decide +kernel
theorem d1_0 : decode (mB m1) 0 = .ok (.iload_n 1, 1) := by decide +kernel
theorem d1_1 : decode (mB m1) 1 = .ok (.ifCond .lt 9, 3) := by decide +kernel
theorem d1_4 : decode (mB m1) 4 = .ok (.iload_n 1, 1) := by decide +kernel
theorem d1_5 : decode (mB m1) 5 = .ok (.bipush 64, 2) := by decide +kernel
theorem d1_7 : decode (mB m1) 7 = .ok (.if_icmp .lt 4, 3) := by decide +kernel
theorem d1_10 : decode (mB m1) 10 = .ok (.return_, 1) := by decide +kernel
theorem d1_11 : decode (mB m1) 11 = .ok (.iload_n 1, 1) := by decide +kernel
theorem d1_12 : decode (mB m1) 12 = .ok (.iconst 4, 1) := by decide +kernel
theorem d1_13 : decode (mB m1) 13 = .ok (.imul, 1) := by decide +kernel
theorem d1_14 : decode (mB m1) 14 = .ok (.istore_n 2, 1) := by decide +kernel
theorem d1_15 : decode (mB m1) 15 = .ok (.iconst 0, 1) := by decide +kernel
theorem d1_16 : decode (mB m1) 16 = .ok (.istore_n 3, 1) := by decide +kernel
theorem d1_17 : decode (mB m1) 17 = .ok (.iload_n 3, 1) := by decide +kernel
theorem d1_18 : decode (mB m1) 18 = .ok (.iconst 4, 1) := by decide +kernel
theorem d1_19 : decode (mB m1) 19 = .ok (.if_icmp .ge 18, 3) := by decide +kernel
theorem d1_22 : decode (mB m1) 22 = .ok (.aload_n 0, 1) := by decide +kernel
theorem d1_23 : decode (mB m1) 23 = .ok (.getfield 13, 3) := by decide +kernel
theorem d1_26 : decode (mB m1) 26 = .ok (.iload_n 2, 1) := by decide +kernel
theorem d1_27 : decode (mB m1) 27 = .ok (.iload_n 3, 1) := by decide +kernel
theorem d1_28 : decode (mB m1) 28 = .ok (.iadd, 1) := by decide +kernel
theorem d1_29 : decode (mB m1) 29 = .ok (.iconst (-1), 1) := by decide +kernel
theorem d1_30 : decode (mB m1) 30 = .ok (.iastore, 1) := by decide +kernel
theorem d1_31 : decode (mB m1) 31 = .ok (.iinc 3 1, 3) := by decide +kernel
theorem d1_34 : decode (mB m1) 34 = .ok (.goto (-17), 3) := by decide +kernel
theorem d1_37 : decode (mB m1) 37 = .ok (.return_, 1) := by decide +kernel
theorem d2_0 : decode (mB m2) 0 = .ok (.iconst 0, 1) := by decide +kernel
theorem d2_1 : decode (mB m2) 1 = .ok (.istore_n 1, 1) := by decide +kernel
theorem d2_2 : decode (mB m2) 2 = .ok (.iload_n 1, 1) := by decide +kernel
theorem d2_3 : decode (mB m2) 3 = .ok (.bipush 64, 2) := by decide +kernel
theorem d2_5 : decode (mB m2) 5 = .ok (.if_icmp .ge 28, 3) := by decide +kernel
theorem d2_8 : decode (mB m2) 8 = .ok (.aload_n 0, 1) := by decide +kernel
theorem d2_9 : decode (mB m2) 9 = .ok (.getfield 7, 3) := by decide +kernel
theorem d2_12 : decode (mB m2) 12 = .ok (.iload_n 1, 1) := by decide +kernel
theorem d2_13 : decode (mB m2) 13 = .ok (.iconst 0, 1) := by decide +kernel
theorem d2_14 : decode (mB m2) 14 = .ok (.bastore, 1) := by decide +kernel
theorem d2_15 : decode (mB m2) 15 = .ok (.aload_n 0, 1) := by decide +kernel
theorem d2_16 : decode (mB m2) 16 = .ok (.getfield 17, 3) := by decide +kernel
theorem d2_19 : decode (mB m2) 19 = .ok (.iload_n 1, 1) := by decide +kernel
theorem d2_20 : decode (mB m2) 20 = .ok (.iconst 0, 1) := by decide +kernel
theorem d2_21 : decode (mB m2) 21 = .ok (.iastore, 1) := by decide +kernel
theorem d2_22 : decode (mB m2) 22 = .ok (.aload_n 0, 1) := by decide +kernel
theorem d2_23 : decode (mB m2) 23 = .ok (.iload_n 1, 1) := by decide +kernel
theorem d2_24 : decode (mB m2) 24 = .ok (.invokevirtual 219, 3) := by decide +kernel
theorem d2_27 : decode (mB m2) 27 = .ok (.iinc 1 1, 3) := by decide +kernel
theorem d2_30 : decode (mB m2) 30 = .ok (.goto (-28), 3) := by decide +kernel
theorem d2_33 : decode (mB m2) 33 = .ok (.aload_n 0, 1) := by decide +kernel
theorem d2_34 : decode (mB m2) 34 = .ok (.iconst 0, 1) := by decide +kernel
theorem d2_35 : decode (mB m2) 35 = .ok (.putfield 147, 3) := by decide +kernel
theorem d2_38 : decode (mB m2) 38 = .ok (.return_, 1) := by decide +kernel
theorem d3_0 : decode (mB m3) 0 = .ok (.iconst 0, 1) := by decide +kernel
theorem d3_1 : decode (mB m3) 1 = .ok (.istore_n 1, 1) := by decide +kernel
theorem d3_2 : decode (mB m3) 2 = .ok (.iload_n 1, 1) := by decide +kernel
theorem d3_3 : decode (mB m3) 3 = .ok (.bipush 16, 2) := by decide +kernel
theorem d3_5 : decode (mB m3) 5 = .ok (.if_icmp .ge 16, 3) := by decide +kernel
theorem d3_8 : decode (mB m3) 8 = .ok (.aload_n 0, 1) := by decide +kernel
theorem d3_9 : decode (mB m3) 9 = .ok (.getfield 20, 3) := by decide +kernel
theorem d3_12 : decode (mB m3) 12 = .ok (.iload_n 1, 1) := by decide +kernel
theorem d3_13 : decode (mB m3) 13 = .ok (.iconst (-1), 1) := by decide +kernel
theorem d3_14 : decode (mB m3) 14 = .ok (.iastore, 1) := by decide +kernel
theorem d3_15 : decode (mB m3) 15 = .ok (.iinc 1 1, 3) := by decide +kernel
theorem d3_18 : decode (mB m3) 18 = .ok (.goto (-16), 3) := by decide +kernel
theorem d3_21 : decode (mB m3) 21 = .ok (.aload_n 0, 1) := by decide +kernel
theorem d3_22 : decode (mB m3) 22 = .ok (.iconst 0, 1) := by decide +kernel
theorem d3_23 : decode (mB m3) 23 = .ok (.putfield 125, 3) := by decide +kernel
theorem d3_26 : decode (mB m3) 26 = .ok (.return_, 1) := by decide +kernel
theorem d4_0 : decode (mB m4) 0 = .ok (.iconst 0, 1) := by decide +kernel
theorem d4_1 : decode (mB m4) 1 = .ok (.istore_n 1, 1) := by decide +kernel
theorem d4_2 : decode (mB m4) 2 = .ok (.iload_n 1, 1) := by decide +kernel
theorem d4_3 : decode (mB m4) 3 = .ok (.bipush 64, 2) := by decide +kernel
theorem d4_5 : decode (mB m4) 5 = .ok (.if_icmp .ge 16, 3) := by decide +kernel
theorem d4_8 : decode (mB m4) 8 = .ok (.aload_n 0, 1) := by decide +kernel
theorem d4_9 : decode (mB m4) 9 = .ok (.getfield 23, 3) := by decide +kernel
theorem d4_12 : decode (mB m4) 12 = .ok (.iload_n 1, 1) := by decide +kernel
theorem d4_13 : decode (mB m4) 13 = .ok (.iconst (-1), 1) := by decide +kernel
theorem d4_14 : decode (mB m4) 14 = .ok (.iastore, 1) := by decide +kernel
theorem d4_15 : decode (mB m4) 15 = .ok (.iinc 1 1, 3) := by decide +kernel
theorem d4_18 : decode (mB m4) 18 = .ok (.goto (-16), 3) := by decide +kernel
theorem d4_21 : decode (mB m4) 21 = .ok (.iconst 0, 1) := by decide +kernel
theorem d4_22 : decode (mB m4) 22 = .ok (.istore_n 1, 1) := by decide +kernel
theorem d4_23 : decode (mB m4) 23 = .ok (.iload_n 1, 1) := by decide +kernel
theorem d4_24 : decode (mB m4) 24 = .ok (.bipush 64, 2) := by decide +kernel
theorem d4_26 : decode (mB m4) 26 = .ok (.if_icmp .ge 16, 3) := by decide +kernel
theorem d4_29 : decode (mB m4) 29 = .ok (.aload_n 0, 1) := by decide +kernel
theorem d4_30 : decode (mB m4) 30 = .ok (.getfield 26, 3) := by decide +kernel
theorem d4_33 : decode (mB m4) 33 = .ok (.iload_n 1, 1) := by decide +kernel
theorem d4_34 : decode (mB m4) 34 = .ok (.iconst (-1), 1) := by decide +kernel
theorem d4_35 : decode (mB m4) 35 = .ok (.iastore, 1) := by decide +kernel
theorem d4_36 : decode (mB m4) 36 = .ok (.iinc 1 1, 3) := by decide +kernel
theorem d4_39 : decode (mB m4) 39 = .ok (.goto (-16), 3) := by decide +kernel
theorem d4_42 : decode (mB m4) 42 = .ok (.aload_n 0, 1) := by decide +kernel
theorem d4_43 : decode (mB m4) 43 = .ok (.iconst 0, 1) := by decide +kernel
theorem d4_44 : decode (mB m4) 44 = .ok (.putfield 144, 3) := by decide +kernel
theorem d4_47 : decode (mB m4) 47 = .ok (.return_, 1) := by decide +kernel
theorem d5_0 : decode (mB m5) 0 = .ok (.iconst 0, 1) := by decide +kernel
theorem d5_1 : decode (mB m5) 1 = .ok (.istore_n 1, 1) := by decide +kernel
theorem d5_2 : decode (mB m5) 2 = .ok (.iload_n 1, 1) := by decide +kernel
theorem d5_3 : decode (mB m5) 3 = .ok (.bipush 64, 2) := by decide +kernel
theorem d5_5 : decode (mB m5) 5 = .ok (.if_icmp .ge 44, 3) := by decide +kernel
theorem d5_8 : decode (mB m5) 8 = .ok (.aload_n 0, 1) := by decide +kernel
theorem d5_9 : decode (mB m5) 9 = .ok (.getfield 29, 3) := by decide +kernel
theorem d5_12 : decode (mB m5) 12 = .ok (.iload_n 1, 1) := by decide +kernel
theorem d5_13 : decode (mB m5) 13 = .ok (.iconst 0, 1) := by decide +kernel
theorem d5_14 : decode (mB m5) 14 = .ok (.bastore, 1) := by decide +kernel
theorem d5_15 : decode (mB m5) 15 = .ok (.aload_n 0, 1) := by decide +kernel
theorem d5_16 : decode (mB m5) 16 = .ok (.getfield 32, 3) := by decide +kernel
theorem d5_19 : decode (mB m5) 19 = .ok (.iload_n 1, 1) := by decide +kernel
theorem d5_20 : decode (mB m5) 20 = .ok (.iconst 0, 1) := by decide +kernel
theorem d5_21 : decode (mB m5) 21 = .ok (.bastore, 1) := by decide +kernel
theorem d5_22 : decode (mB m5) 22 = .ok (.aload_n 0, 1) := by decide +kernel
theorem d5_23 : decode (mB m5) 23 = .ok (.getfield 35, 3) := by decide +kernel
theorem d5_26 : decode (mB m5) 26 = .ok (.iload_n 1, 1) := by decide +kernel
theorem d5_27 : decode (mB m5) 27 = .ok (.iconst 0, 1) := by decide +kernel
theorem d5_28 : decode (mB m5) 28 = .ok (.bastore, 1) := by decide +kernel
theorem d5_29 : decode (mB m5) 29 = .ok (.aload_n 0, 1) := by decide +kernel
theorem d5_30 : decode (mB m5) 30 = .ok (.getfield 38, 3) := by decide +kernel
theorem d5_33 : decode (mB m5) 33 = .ok (.iload_n 1, 1) := by decide +kernel
theorem d5_34 : decode (mB m5) 34 = .ok (.iconst 0, 1) := by decide +kernel
theorem d5_35 : decode (mB m5) 35 = .ok (.iastore, 1) := by decide +kernel
theorem d5_36 : decode (mB m5) 36 = .ok (.aload_n 0, 1) := by decide +kernel
theorem d5_37 : decode (mB m5) 37 = .ok (.getfield 41, 3) := by decide +kernel
theorem d5_40 : decode (mB m5) 40 = .ok (.iload_n 1, 1) := by decide +kernel
theorem d5_41 : decode (mB m5) 41 = .ok (.iconst (-1), 1) := by decide +kernel
theorem d5_42 : decode (mB m5) 42 = .ok (.iastore, 1) := by decide +kernel
theorem d5_43 : decode (mB m5) 43 = .ok (.iinc 1 1, 3) := by decide +kernel
theorem d5_46 : decode (mB m5) 46 = .ok (.goto (-44), 3) := by decide +kernel
theorem d5_49 : decode (mB m5) 49 = .ok (.aload_n 0, 1) := by decide +kernel
theorem d5_50 : decode (mB m5) 50 = .ok (.iconst 0, 1) := by decide +kernel
theorem d5_51 : decode (mB m5) 51 = .ok (.putfield 201, 3) := by decide +kernel
theorem d5_54 : decode (mB m5) 54 = .ok (.return_, 1) := by decide +kernel
theorem d6_0 : decode (mB m6) 0 = .ok (.aload_n 0, 1) := by decide +kernel
theorem d6_1 : decode (mB m6) 1 = .ok (.invokespecial 1, 3) := by decide +kernel
theorem d6_4 : decode (mB m6) 4 = .ok (.aload_n 0, 1) := by decide +kernel
theorem d6_5 : decode (mB m6) 5 = .ok (.bipush 64, 2) := by decide +kernel
theorem d6_7 : decode (mB m6) 7 = .ok (.newarray .boolean, 2) := by decide +kernel
theorem d6_9 : decode (mB m6) 9 = .ok (.putfield 7, 3) := by decide +kernel
theorem d6_12 : decode (mB m6) 12 = .ok (.aload_n 0, 1) := by decide +kernel
theorem d6_13 : decode (mB m6) 13 = .ok (.sipush 256, 3) := by decide +kernel
theorem d6_16 : decode (mB m6) 16 = .ok (.newarray .int, 2) := by decide +kernel
theorem d6_18 : decode (mB m6) 18 = .ok (.putfield 13, 3) := by decide +kernel
theorem d6_21 : decode (mB m6) 21 = .ok (.aload_n 0, 1) := by decide +kernel
theorem d6_22 : decode (mB m6) 22 = .ok (.bipush 64, 2) := by decide +kernel
theorem d6_24 : decode (mB m6) 24 = .ok (.newarray .int, 2) := by decide +kernel
theorem d6_26 : decode (mB m6) 26 = .ok (.putfield 17, 3) := by decide +kernel
theorem d6_29 : decode (mB m6) 29 = .ok (.aload_n 0, 1) := by decide +kernel
theorem d6_30 : decode (mB m6) 30 = .ok (.bipush 16, 2) := by decide +kernel
theorem d6_32 : decode (mB m6) 32 = .ok (.newarray .int, 2) := by decide +kernel
theorem d6_34 : decode (mB m6) 34 = .ok (.putfield 20, 3) := by decide +kernel
theorem d6_37 : decode (mB m6) 37 = .ok (.aload_n 0, 1) := by decide +kernel
theorem d6_38 : decode (mB m6) 38 = .ok (.bipush 64, 2) := by decide +kernel
theorem d6_40 : decode (mB m6) 40 = .ok (.newarray .int, 2) := by decide +kernel
theorem d6_42 : decode (mB m6) 42 = .ok (.putfield 23, 3) := by decide +kernel
theorem d6_45 : decode (mB m6) 45 = .ok (.aload_n 0, 1) := by decide +kernel
theorem d6_46 : decode (mB m6) 46 = .ok (.bipush 64, 2) := by decide +kernel
theorem d6_48 : decode (mB m6) 48 = .ok (.newarray .int, 2) := by decide +kernel
theorem d6_50 : decode (mB m6) 50 = .ok (.putfield 26, 3) := by decide +kernel
theorem d6_53 : decode (mB m6) 53 = .ok (.aload_n 0, 1) := by decide +kernel
theorem d6_54 : decode (mB m6) 54 = .ok (.bipush 64, 2) := by decide +kernel
theorem d6_56 : decode (mB m6) 56 = .ok (.newarray .boolean, 2) := by decide +kernel
theorem d6_58 : decode (mB m6) 58 = .ok (.putfield 29, 3) := by decide +kernel
theorem d6_61 : decode (mB m6) 61 = .ok (.aload_n 0, 1) := by decide +kernel
theorem d6_62 : decode (mB m6) 62 = .ok (.bipush 64, 2) := by decide +kernel
theorem d6_64 : decode (mB m6) 64 = .ok (.newarray .boolean, 2) := by decide +kernel
theorem d6_66 : decode (mB m6) 66 = .ok (.putfield 32, 3) := by decide +kernel
theorem d6_69 : decode (mB m6) 69 = .ok (.aload_n 0, 1) := by decide +kernel
theorem d6_70 : decode (mB m6) 70 = .ok (.bipush 64, 2) := by decide +kernel
theorem d6_72 : decode (mB m6) 72 = .ok (.newarray .boolean, 2) := by decide +kernel
theorem d6_74 : decode (mB m6) 74 = .ok (.putfield 35, 3) := by decide +kernel
theorem d6_77 : decode (mB m6) 77 = .ok (.aload_n 0, 1) := by decide +kernel
theorem d6_78 : decode (mB m6) 78 = .ok (.bipush 64, 2) := by decide +kernel
theorem d6_80 : decode (mB m6) 80 = .ok (.newarray .int, 2) := by decide +kernel
theorem d6_82 : decode (mB m6) 82 = .ok (.putfield 38, 3) := by decide +kernel
theorem d6_85 : decode (mB m6) 85 = .ok (.aload_n 0, 1) := by decide +kernel
theorem d6_86 : decode (mB m6) 86 = .ok (.bipush 64, 2) := by decide +kernel
theorem d6_88 : decode (mB m6) 88 = .ok (.newarray .int, 2) := by decide +kernel
theorem d6_90 : decode (mB m6) 90 = .ok (.putfield 41, 3) := by decide +kernel
theorem d6_93 : decode (mB m6) 93 = .ok (.aload_n 0, 1) := by decide +kernel
theorem d6_94 : decode (mB m6) 94 = .ok (.iload_n 1, 1) := by decide +kernel
theorem d6_95 : decode (mB m6) 95 = .ok (.iconst 4, 1) := by decide +kernel
theorem d6_96 : decode (mB m6) 96 = .ok (.bipush 64, 2) := by decide +kernel
theorem d6_98 : decode (mB m6) 98 = .ok (.invokestatic 44, 3) := by decide +kernel
theorem d6_101 : decode (mB m6) 101 = .ok (.putfield 48, 3) := by decide +kernel
theorem d6_104 : decode (mB m6) 104 = .ok (.aload_n 0, 1) := by decide +kernel
theorem d6_105 : decode (mB m6) 105 = .ok (.iload_n 2, 1) := by decide +kernel
theorem d6_106 : decode (mB m6) 106 = .ok (.iconst 1, 1) := by decide +kernel
theorem d6_107 : decode (mB m6) 107 = .ok (.iconst 4, 1) := by decide +kernel
theorem d6_108 : decode (mB m6) 108 = .ok (.invokestatic 44, 3) := by decide +kernel
theorem d6_111 : decode (mB m6) 111 = .ok (.putfield 52, 3) := by decide +kernel
theorem d6_114 : decode (mB m6) 114 = .ok (.aload_n 0, 1) := by decide +kernel
theorem d6_115 : decode (mB m6) 115 = .ok (.iload_n 3, 1) := by decide +kernel
theorem d6_116 : decode (mB m6) 116 = .ok (.iconst 1, 1) := by decide +kernel
theorem d6_117 : decode (mB m6) 117 = .ok (.bipush 16, 2) := by decide +kernel
theorem d6_119 : decode (mB m6) 119 = .ok (.invokestatic 44, 3) := by decide +kernel
theorem d6_122 : decode (mB m6) 122 = .ok (.putfield 55, 3) := by decide +kernel
theorem d6_125 : decode (mB m6) 125 = .ok (.aload_n 0, 1) := by decide +kernel
theorem d6_126 : decode (mB m6) 126 = .ok (.getfield 55, 3) := by decide +kernel
theorem d6_129 : decode (mB m6) 129 = .ok (.iconst 1, 1) := by decide +kernel
theorem d6_130 : decode (mB m6) 130 = .ok (.iadd, 1) := by decide +kernel
theorem d6_131 : decode (mB m6) 131 = .ok (.istore 5, 2) := by decide +kernel
theorem d6_133 : decode (mB m6) 133 = .ok (.aload_n 0, 1) := by decide +kernel
theorem d6_134 : decode (mB m6) 134 = .ok (.iload 4, 2) := by decide +kernel
theorem d6_136 : decode (mB m6) 136 = .ok (.iload 5, 2) := by decide +kernel
theorem d6_138 : decode (mB m6) 138 = .ok (.bipush 64, 2) := by decide +kernel
theorem d6_140 : decode (mB m6) 140 = .ok (.invokestatic 44, 3) := by decide +kernel
theorem d6_143 : decode (mB m6) 143 = .ok (.putfield 58, 3) := by decide +kernel
theorem d6_146 : decode (mB m6) 146 = .ok (.aload_n 0, 1) := by decide +kernel
theorem d6_147 : decode (mB m6) 147 = .ok (.invokevirtual 61, 3) := by decide +kernel
theorem d6_150 : decode (mB m6) 150 = .ok (.aload_n 0, 1) := by decide +kernel
theorem d6_151 : decode (mB m6) 151 = .ok (.invokevirtual 64, 3) := by decide +kernel
theorem d6_154 : decode (mB m6) 154 = .ok (.aload_n 0, 1) := by decide +kernel
theorem d6_155 : decode (mB m6) 155 = .ok (.invokevirtual 67, 3) := by decide +kernel
theorem d6_158 : decode (mB m6) 158 = .ok (.aload_n 0, 1) := by decide +kernel
theorem d6_159 : decode (mB m6) 159 = .ok (.invokevirtual 70, 3) := by decide +kernel
theorem d6_162 : decode (mB m6) 162 = .ok (.aload_n 0, 1) := by decide +kernel
theorem d6_163 : decode (mB m6) 163 = .ok (.iconst 0, 1) := by decide +kernel
theorem d6_164 : decode (mB m6) 164 = .ok (.putfield 73, 3) := by decide +kernel
theorem d6_167 : decode (mB m6) 167 = .ok (.return_, 1) := by decide +kernel
theorem d7_0 : decode (mB m7) 0 = .ok (.aload_n 0, 1) := by decide +kernel
theorem d7_1 : decode (mB m7) 1 = .ok (.getfield 125, 3) := by decide +kernel
theorem d7_4 : decode (mB m7) 4 = .ok (.aload_n 0, 1) := by decide +kernel
theorem d7_5 : decode (mB m7) 5 = .ok (.getfield 55, 3) := by decide +kernel
theorem d7_8 : decode (mB m7) 8 = .ok (.if_icmp .lt 7, 3) := by decide +kernel
theorem d7_11 : decode (mB m7) 11 = .ok (.iconst 1, 1) := by decide +kernel
theorem d7_12 : decode (mB m7) 12 = .ok (.goto 4, 3) := by decide +kernel
theorem d7_15 : decode (mB m7) 15 = .ok (.iconst 0, 1) := by decide +kernel
theorem d7_16 : decode (mB m7) 16 = .ok (.ireturn, 1) := by decide +kernel
theorem d8_0 : decode (mB m8) 0 = .ok (.aload_n 0, 1) := by decide +kernel
theorem d8_1 : decode (mB m8) 1 = .ok (.getfield 147, 3) := by decide +kernel
theorem d8_4 : decode (mB m8) 4 = .ok (.aload_n 0, 1) := by decide +kernel
theorem d8_5 : decode (mB m8) 5 = .ok (.getfield 48, 3) := by decide +kernel
theorem d8_8 : decode (mB m8) 8 = .ok (.if_icmp .ge 7, 3) := by decide +kernel
theorem d8_11 : decode (mB m8) 11 = .ok (.iconst 1, 1) := by decide +kernel
theorem d8_12 : decode (mB m8) 12 = .ok (.goto 4, 3) := by decide +kernel
theorem d8_15 : decode (mB m8) 15 = .ok (.iconst 0, 1) := by decide +kernel
theorem d8_16 : decode (mB m8) 16 = .ok (.ireturn, 1) := by decide +kernel
theorem d9_0 : decode (mB m9) 0 = .ok (.aload_n 0, 1) := by decide +kernel
theorem d9_1 : decode (mB m9) 1 = .ok (.getfield 144, 3) := by decide +kernel
theorem d9_4 : decode (mB m9) 4 = .ok (.aload_n 0, 1) := by decide +kernel
theorem d9_5 : decode (mB m9) 5 = .ok (.getfield 58, 3) := by decide +kernel
theorem d9_8 : decode (mB m9) 8 = .ok (.if_icmp .lt 7, 3) := by decide +kernel
theorem d9_11 : decode (mB m9) 11 = .ok (.iconst 1, 1) := by decide +kernel
theorem d9_12 : decode (mB m9) 12 = .ok (.goto 4, 3) := by decide +kernel
theorem d9_15 : decode (mB m9) 15 = .ok (.iconst 0, 1) := by decide +kernel
theorem d9_16 : decode (mB m9) 16 = .ok (.ireturn, 1) := by decide +kernel
theorem d10_0 : decode (mB m10) 0 = .ok (.aload_n 0, 1) := by decide +kernel
theorem d10_1 : decode (mB m10) 1 = .ok (.invokevirtual 153, 3) := by decide +kernel
theorem d10_4 : decode (mB m10) 4 = .ok (.ifCond .ne 5, 3) := by decide +kernel
theorem d10_7 : decode (mB m10) 7 = .ok (.iconst 1, 1) := by decide +kernel
theorem d10_8 : decode (mB m10) 8 = .ok (.ireturn, 1) := by decide +kernel
theorem d10_9 : decode (mB m10) 9 = .ok (.aload_n 0, 1) := by decide +kernel
theorem d10_10 : decode (mB m10) 10 = .ok (.invokevirtual 156, 3) := by decide +kernel
theorem d10_13 : decode (mB m10) 13 = .ok (.ireturn, 1) := by decide +kernel
theorem d11_0 : decode (mB m11) 0 = .ok (.iload_n 1, 1) := by decide +kernel
theorem d11_1 : decode (mB m11) 1 = .ok (.ifCond .lt 15, 3) := by decide +kernel
theorem d11_4 : decode (mB m11) 4 = .ok (.iload_n 1, 1) := by decide +kernel
theorem d11_5 : decode (mB m11) 5 = .ok (.aload_n 0, 1) := by decide +kernel
theorem d11_6 : decode (mB m11) 6 = .ok (.getfield 48, 3) := by decide +kernel
theorem d11_9 : decode (mB m11) 9 = .ok (.if_icmp .ge 7, 3) := by decide +kernel
theorem d11_12 : decode (mB m11) 12 = .ok (.iconst 1, 1) := by decide +kernel
theorem d11_13 : decode (mB m11) 13 = .ok (.goto 4, 3) := by decide +kernel
theorem d11_16 : decode (mB m11) 16 = .ok (.iconst 0, 1) := by decide +kernel
theorem d11_17 : decode (mB m11) 17 = .ok (.ireturn, 1) := by decide +kernel
theorem d12_0 : decode (mB m12) 0 = .ok (.iconst 0, 1) := by decide +kernel
theorem d12_1 : decode (mB m12) 1 = .ok (.istore_n 1, 1) := by decide +kernel
theorem d12_2 : decode (mB m12) 2 = .ok (.iload_n 1, 1) := by decide +kernel
theorem d12_3 : decode (mB m12) 3 = .ok (.bipush 64, 2) := by decide +kernel
theorem d12_5 : decode (mB m12) 5 = .ok (.if_icmp .ge 16, 3) := by decide +kernel
theorem d12_8 : decode (mB m12) 8 = .ok (.aload_n 0, 1) := by decide +kernel
theorem d12_9 : decode (mB m12) 9 = .ok (.getfield 32, 3) := by decide +kernel
theorem d12_12 : decode (mB m12) 12 = .ok (.iload_n 1, 1) := by decide +kernel
theorem d12_13 : decode (mB m12) 13 = .ok (.iconst 0, 1) := by decide +kernel
theorem d12_14 : decode (mB m12) 14 = .ok (.bastore, 1) := by decide +kernel
theorem d12_15 : decode (mB m12) 15 = .ok (.iinc 1 1, 3) := by decide +kernel
theorem d12_18 : decode (mB m12) 18 = .ok (.goto (-16), 3) := by decide +kernel
theorem d12_21 : decode (mB m12) 21 = .ok (.iconst 0, 1) := by decide +kernel
theorem d12_22 : decode (mB m12) 22 = .ok (.istore_n 1, 1) := by decide +kernel
theorem d12_23 : decode (mB m12) 23 = .ok (.iload_n 1, 1) := by decide +kernel
theorem d12_24 : decode (mB m12) 24 = .ok (.aload_n 0, 1) := by decide +kernel
theorem d12_25 : decode (mB m12) 25 = .ok (.getfield 125, 3) := by decide +kernel
theorem d12_28 : decode (mB m12) 28 = .ok (.if_icmp .ge 37, 3) := by decide +kernel
theorem d12_31 : decode (mB m12) 31 = .ok (.iload_n 1, 1) := by decide +kernel
theorem d12_32 : decode (mB m12) 32 = .ok (.bipush 16, 2) := by decide +kernel
theorem d12_34 : decode (mB m12) 34 = .ok (.if_icmp .ge 31, 3) := by decide +kernel
theorem d12_37 : decode (mB m12) 37 = .ok (.aload_n 0, 1) := by decide +kernel
theorem d12_38 : decode (mB m12) 38 = .ok (.getfield 20, 3) := by decide +kernel
theorem d12_41 : decode (mB m12) 41 = .ok (.iload_n 1, 1) := by decide +kernel
theorem d12_42 : decode (mB m12) 42 = .ok (.iaload, 1) := by decide +kernel
theorem d12_43 : decode (mB m12) 43 = .ok (.istore_n 2, 1) := by decide +kernel
theorem d12_44 : decode (mB m12) 44 = .ok (.aload_n 0, 1) := by decide +kernel
theorem d12_45 : decode (mB m12) 45 = .ok (.iload_n 2, 1) := by decide +kernel
theorem d12_46 : decode (mB m12) 46 = .ok (.invokevirtual 165, 3) := by decide +kernel
theorem d12_49 : decode (mB m12) 49 = .ok (.ifCond .eq 10, 3) := by decide +kernel
theorem d12_52 : decode (mB m12) 52 = .ok (.aload_n 0, 1) := by decide +kernel
theorem d12_53 : decode (mB m12) 53 = .ok (.getfield 32, 3) := by decide +kernel
theorem d12_56 : decode (mB m12) 56 = .ok (.iload_n 2, 1) := by decide +kernel
theorem d12_57 : decode (mB m12) 57 = .ok (.iconst 1, 1) := by decide +kernel
theorem d12_58 : decode (mB m12) 58 = .ok (.bastore, 1) := by decide +kernel
theorem d12_59 : decode (mB m12) 59 = .ok (.iinc 1 1, 3) := by decide +kernel
theorem d12_62 : decode (mB m12) 62 = .ok (.goto (-39), 3) := by decide +kernel
theorem d12_65 : decode (mB m12) 65 = .ok (.return_, 1) := by decide +kernel
theorem d13_0 : decode (mB m13) 0 = .ok (.iload_n 1, 1) := by decide +kernel
theorem d13_1 : decode (mB m13) 1 = .ok (.ifCond .lt 15, 3) := by decide +kernel
theorem d13_4 : decode (mB m13) 4 = .ok (.iload_n 1, 1) := by decide +kernel
theorem d13_5 : decode (mB m13) 5 = .ok (.aload_n 0, 1) := by decide +kernel
theorem d13_6 : decode (mB m13) 6 = .ok (.getfield 52, 3) := by decide +kernel
theorem d13_9 : decode (mB m13) 9 = .ok (.if_icmp .ge 7, 3) := by decide +kernel
theorem d13_12 : decode (mB m13) 12 = .ok (.iconst 1, 1) := by decide +kernel
theorem d13_13 : decode (mB m13) 13 = .ok (.goto 4, 3) := by decide +kernel
theorem d13_16 : decode (mB m13) 16 = .ok (.iconst 0, 1) := by decide +kernel
theorem d13_17 : decode (mB m13) 17 = .ok (.ireturn, 1) := by decide +kernel
theorem d14_0 : decode (mB m14) 0 = .ok (.aload_n 0, 1) := by decide +kernel
theorem d14_1 : decode (mB m14) 1 = .ok (.iload_n 1, 1) := by decide +kernel
theorem d14_2 : decode (mB m14) 2 = .ok (.invokevirtual 165, 3) := by decide +kernel
theorem d14_5 : decode (mB m14) 5 = .ok (.ifCond .ne 5, 3) := by decide +kernel
theorem d14_8 : decode (mB m14) 8 = .ok (.iconst (-1), 1) := by decide +kernel
theorem d14_9 : decode (mB m14) 9 = .ok (.ireturn, 1) := by decide +kernel
theorem d14_10 : decode (mB m14) 10 = .ok (.aload_n 0, 1) := by decide +kernel
theorem d14_11 : decode (mB m14) 11 = .ok (.iload_n 2, 1) := by decide +kernel
theorem d14_12 : decode (mB m14) 12 = .ok (.invokevirtual 138, 3) := by decide +kernel
theorem d14_15 : decode (mB m14) 15 = .ok (.ifCond .ne 5, 3) := by decide +kernel
theorem d14_18 : decode (mB m14) 18 = .ok (.iconst (-1), 1) := by decide +kernel
theorem d14_19 : decode (mB m14) 19 = .ok (.ireturn, 1) := by decide +kernel
theorem d14_20 : decode (mB m14) 20 = .ok (.aload_n 0, 1) := by decide +kernel
theorem d14_21 : decode (mB m14) 21 = .ok (.getfield 13, 3) := by decide +kernel
theorem d14_24 : decode (mB m14) 24 = .ok (.iload_n 1, 1) := by decide +kernel
theorem d14_25 : decode (mB m14) 25 = .ok (.iconst 4, 1) := by decide +kernel
theorem d14_26 : decode (mB m14) 26 = .ok (.imul, 1) := by decide +kernel
theorem d14_27 : decode (mB m14) 27 = .ok (.iload_n 2, 1) := by decide +kernel
theorem d14_28 : decode (mB m14) 28 = .ok (.iadd, 1) := by decide +kernel
theorem d14_29 : decode (mB m14) 29 = .ok (.iaload, 1) := by decide +kernel
theorem d14_30 : decode (mB m14) 30 = .ok (.ireturn, 1) := by decide +kernel
theorem d15_0 : decode (mB m15) 0 = .ok (.aload_n 0, 1) := by decide +kernel
theorem d15_1 : decode (mB m15) 1 = .ok (.iload_n 1, 1) := by decide +kernel
theorem d15_2 : decode (mB m15) 2 = .ok (.invokevirtual 165, 3) := by decide +kernel
theorem d15_5 : decode (mB m15) 5 = .ok (.ifCond .eq 16, 3) := by decide +kernel
theorem d15_8 : decode (mB m15) 8 = .ok (.aload_n 0, 1) := by decide +kernel
theorem d15_9 : decode (mB m15) 9 = .ok (.getfield 7, 3) := by decide +kernel
theorem d15_12 : decode (mB m15) 12 = .ok (.iload_n 1, 1) := by decide +kernel
theorem d15_13 : decode (mB m15) 13 = .ok (.baload, 1) := by decide +kernel
theorem d15_14 : decode (mB m15) 14 = .ok (.ifCond .eq 7, 3) := by decide +kernel
theorem d15_17 : decode (mB m15) 17 = .ok (.iconst 1, 1) := by decide +kernel
theorem d15_18 : decode (mB m15) 18 = .ok (.goto 4, 3) := by decide +kernel
theorem d15_21 : decode (mB m15) 21 = .ok (.iconst 0, 1) := by decide +kernel
theorem d15_22 : decode (mB m15) 22 = .ok (.ireturn, 1) := by decide +kernel
theorem d16_0 : decode (mB m16) 0 = .ok (.iconst 0, 1) := by decide +kernel
theorem d16_1 : decode (mB m16) 1 = .ok (.istore_n 2, 1) := by decide +kernel
theorem d16_2 : decode (mB m16) 2 = .ok (.iload_n 2, 1) := by decide +kernel
theorem d16_3 : decode (mB m16) 3 = .ok (.aload_n 0, 1) := by decide +kernel
theorem d16_4 : decode (mB m16) 4 = .ok (.getfield 52, 3) := by decide +kernel
theorem d16_7 : decode (mB m16) 7 = .ok (.if_icmp .ge 38, 3) := by decide +kernel
theorem d16_10 : decode (mB m16) 10 = .ok (.aload_n 0, 1) := by decide +kernel
theorem d16_11 : decode (mB m16) 11 = .ok (.iload_n 1, 1) := by decide +kernel
theorem d16_12 : decode (mB m16) 12 = .ok (.iload_n 2, 1) := by decide +kernel
theorem d16_13 : decode (mB m16) 13 = .ok (.invokevirtual 98, 3) := by decide +kernel
theorem d16_16 : decode (mB m16) 16 = .ok (.istore_n 3, 1) := by decide +kernel
theorem d16_17 : decode (mB m16) 17 = .ok (.aload_n 0, 1) := by decide +kernel
theorem d16_18 : decode (mB m16) 18 = .ok (.iload_n 3, 1) := by decide +kernel
theorem d16_19 : decode (mB m16) 19 = .ok (.invokevirtual 135, 3) := by decide +kernel
theorem d16_22 : decode (mB m16) 22 = .ok (.ifCond .eq 17, 3) := by decide +kernel
theorem d16_25 : decode (mB m16) 25 = .ok (.aload_n 0, 1) := by decide +kernel
theorem d16_26 : decode (mB m16) 26 = .ok (.getfield 38, 3) := by decide +kernel
theorem d16_29 : decode (mB m16) 29 = .ok (.iload_n 3, 1) := by decide +kernel
theorem d16_30 : decode (mB m16) 30 = .ok (.aload_n 0, 1) := by decide +kernel
theorem d16_31 : decode (mB m16) 31 = .ok (.getfield 38, 3) := by decide +kernel
theorem d16_34 : decode (mB m16) 34 = .ok (.iload_n 3, 1) := by decide +kernel
theorem d16_35 : decode (mB m16) 35 = .ok (.iaload, 1) := by decide +kernel
theorem d16_36 : decode (mB m16) 36 = .ok (.iconst 1, 1) := by decide +kernel
theorem d16_37 : decode (mB m16) 37 = .ok (.iadd, 1) := by decide +kernel
theorem d16_38 : decode (mB m16) 38 = .ok (.iastore, 1) := by decide +kernel
theorem d16_39 : decode (mB m16) 39 = .ok (.iinc 2 1, 3) := by decide +kernel
theorem d16_42 : decode (mB m16) 42 = .ok (.goto (-40), 3) := by decide +kernel
theorem d16_45 : decode (mB m16) 45 = .ok (.return_, 1) := by decide +kernel
theorem d17_0 : decode (mB m17) 0 = .ok (.iconst 0, 1) := by decide +kernel
theorem d17_1 : decode (mB m17) 1 = .ok (.istore_n 1, 1) := by decide +kernel
theorem d17_2 : decode (mB m17) 2 = .ok (.iload_n 1, 1) := by decide +kernel
theorem d17_3 : decode (mB m17) 3 = .ok (.bipush 64, 2) := by decide +kernel
theorem d17_5 : decode (mB m17) 5 = .ok (.if_icmp .ge 51, 3) := by decide +kernel
theorem d17_8 : decode (mB m17) 8 = .ok (.aload_n 0, 1) := by decide +kernel
theorem d17_9 : decode (mB m17) 9 = .ok (.getfield 38, 3) := by decide +kernel
theorem d17_12 : decode (mB m17) 12 = .ok (.iload_n 1, 1) := by decide +kernel
theorem d17_13 : decode (mB m17) 13 = .ok (.iconst 0, 1) := by decide +kernel
theorem d17_14 : decode (mB m17) 14 = .ok (.iastore, 1) := by decide +kernel
theorem d17_15 : decode (mB m17) 15 = .ok (.aload_n 0, 1) := by decide +kernel
theorem d17_16 : decode (mB m17) 16 = .ok (.getfield 35, 3) := by decide +kernel
theorem d17_19 : decode (mB m17) 19 = .ok (.iload_n 1, 1) := by decide +kernel
theorem d17_20 : decode (mB m17) 20 = .ok (.iconst 0, 1) := by decide +kernel
theorem d17_21 : decode (mB m17) 21 = .ok (.bastore, 1) := by decide +kernel
theorem d17_22 : decode (mB m17) 22 = .ok (.aload_n 0, 1) := by decide +kernel
theorem d17_23 : decode (mB m17) 23 = .ok (.getfield 29, 3) := by decide +kernel
theorem d17_26 : decode (mB m17) 26 = .ok (.iload_n 1, 1) := by decide +kernel
theorem d17_27 : decode (mB m17) 27 = .ok (.iload_n 1, 1) := by decide +kernel
theorem d17_28 : decode (mB m17) 28 = .ok (.aload_n 0, 1) := by decide +kernel
theorem d17_29 : decode (mB m17) 29 = .ok (.getfield 48, 3) := by decide +kernel
theorem d17_32 : decode (mB m17) 32 = .ok (.if_icmp .ge 16, 3) := by decide +kernel
theorem d17_35 : decode (mB m17) 35 = .ok (.aload_n 0, 1) := by decide +kernel
theorem d17_36 : decode (mB m17) 36 = .ok (.getfield 7, 3) := by decide +kernel
theorem d17_39 : decode (mB m17) 39 = .ok (.iload_n 1, 1) := by decide +kernel
theorem d17_40 : decode (mB m17) 40 = .ok (.baload, 1) := by decide +kernel
theorem d17_41 : decode (mB m17) 41 = .ok (.ifCond .eq 7, 3) := by decide +kernel
theorem d17_44 : decode (mB m17) 44 = .ok (.iconst 1, 1) := by decide +kernel
theorem d17_45 : decode (mB m17) 45 = .ok (.goto 4, 3) := by decide +kernel
theorem d17_48 : decode (mB m17) 48 = .ok (.iconst 0, 1) := by decide +kernel
theorem d17_49 : decode (mB m17) 49 = .ok (.bastore, 1) := by decide +kernel
theorem d17_50 : decode (mB m17) 50 = .ok (.iinc 1 1, 3) := by decide +kernel
theorem d17_53 : decode (mB m17) 53 = .ok (.goto (-51), 3) := by decide +kernel
theorem d17_56 : decode (mB m17) 56 = .ok (.iconst 0, 1) := by decide +kernel
theorem d17_57 : decode (mB m17) 57 = .ok (.istore_n 1, 1) := by decide +kernel
theorem d17_58 : decode (mB m17) 58 = .ok (.iload_n 1, 1) := by decide +kernel
theorem d17_59 : decode (mB m17) 59 = .ok (.aload_n 0, 1) := by decide +kernel
theorem d17_60 : decode (mB m17) 60 = .ok (.getfield 48, 3) := by decide +kernel
theorem d17_63 : decode (mB m17) 63 = .ok (.if_icmp .ge 23, 3) := by decide +kernel
theorem d17_66 : decode (mB m17) 66 = .ok (.aload_n 0, 1) := by decide +kernel
theorem d17_67 : decode (mB m17) 67 = .ok (.getfield 7, 3) := by decide +kernel
theorem d17_70 : decode (mB m17) 70 = .ok (.iload_n 1, 1) := by decide +kernel
theorem d17_71 : decode (mB m17) 71 = .ok (.baload, 1) := by decide +kernel
theorem d17_72 : decode (mB m17) 72 = .ok (.ifCond .eq 8, 3) := by decide +kernel
theorem d17_75 : decode (mB m17) 75 = .ok (.aload_n 0, 1) := by decide +kernel
theorem d17_76 : decode (mB m17) 76 = .ok (.iload_n 1, 1) := by decide +kernel
theorem d17_77 : decode (mB m17) 77 = .ok (.invokevirtual 198, 3) := by decide +kernel
theorem d17_80 : decode (mB m17) 80 = .ok (.iinc 1 1, 3) := by decide +kernel
theorem d17_83 : decode (mB m17) 83 = .ok (.goto (-25), 3) := by decide +kernel
theorem d17_86 : decode (mB m17) 86 = .ok (.return_, 1) := by decide +kernel
theorem d18_0 : decode (mB m18) 0 = .ok (.aload_n 0, 1) := by decide +kernel
theorem d18_1 : decode (mB m18) 1 = .ok (.iload_n 1, 1) := by decide +kernel
theorem d18_2 : decode (mB m18) 2 = .ok (.invokevirtual 165, 3) := by decide +kernel
theorem d18_5 : decode (mB m18) 5 = .ok (.ifCond .ne 5, 3) := by decide +kernel
theorem d18_8 : decode (mB m18) 8 = .ok (.iconst 0, 1) := by decide +kernel
theorem d18_9 : decode (mB m18) 9 = .ok (.ireturn, 1) := by decide +kernel
theorem d18_10 : decode (mB m18) 10 = .ok (.aload_n 0, 1) := by decide +kernel
theorem d18_11 : decode (mB m18) 11 = .ok (.getfield 29, 3) := by decide +kernel
theorem d18_14 : decode (mB m18) 14 = .ok (.iload_n 1, 1) := by decide +kernel
theorem d18_15 : decode (mB m18) 15 = .ok (.baload, 1) := by decide +kernel
theorem d18_16 : decode (mB m18) 16 = .ok (.ifCond .ne 5, 3) := by decide +kernel
theorem d18_19 : decode (mB m18) 19 = .ok (.iconst 0, 1) := by decide +kernel
theorem d18_20 : decode (mB m18) 20 = .ok (.ireturn, 1) := by decide +kernel
theorem d18_21 : decode (mB m18) 21 = .ok (.aload_n 0, 1) := by decide +kernel
theorem d18_22 : decode (mB m18) 22 = .ok (.getfield 32, 3) := by decide +kernel
theorem d18_25 : decode (mB m18) 25 = .ok (.iload_n 1, 1) := by decide +kernel
theorem d18_26 : decode (mB m18) 26 = .ok (.baload, 1) := by decide +kernel
theorem d18_27 : decode (mB m18) 27 = .ok (.ifCond .eq 5, 3) := by decide +kernel
theorem d18_30 : decode (mB m18) 30 = .ok (.iconst 0, 1) := by decide +kernel
theorem d18_31 : decode (mB m18) 31 = .ok (.ireturn, 1) := by decide +kernel
theorem d18_32 : decode (mB m18) 32 = .ok (.aload_n 0, 1) := by decide +kernel
theorem d18_33 : decode (mB m18) 33 = .ok (.getfield 35, 3) := by decide +kernel
theorem d18_36 : decode (mB m18) 36 = .ok (.iload_n 1, 1) := by decide +kernel
theorem d18_37 : decode (mB m18) 37 = .ok (.baload, 1) := by decide +kernel
theorem d18_38 : decode (mB m18) 38 = .ok (.ifCond .eq 5, 3) := by decide +kernel
theorem d18_41 : decode (mB m18) 41 = .ok (.iconst 0, 1) := by decide +kernel
theorem d18_42 : decode (mB m18) 42 = .ok (.ireturn, 1) := by decide +kernel
theorem d18_43 : decode (mB m18) 43 = .ok (.aload_n 0, 1) := by decide +kernel
theorem d18_44 : decode (mB m18) 44 = .ok (.getfield 38, 3) := by decide +kernel
theorem d18_47 : decode (mB m18) 47 = .ok (.iload_n 1, 1) := by decide +kernel
theorem d18_48 : decode (mB m18) 48 = .ok (.iaload, 1) := by decide +kernel
theorem d18_49 : decode (mB m18) 49 = .ok (.ifCond .ne 7, 3) := by decide +kernel
theorem d18_52 : decode (mB m18) 52 = .ok (.iconst 1, 1) := by decide +kernel
theorem d18_53 : decode (mB m18) 53 = .ok (.goto 4, 3) := by decide +kernel
theorem d18_56 : decode (mB m18) 56 = .ok (.iconst 0, 1) := by decide +kernel
theorem d18_57 : decode (mB m18) 57 = .ok (.ireturn, 1) := by decide +kernel
theorem d19_0 : decode (mB m19) 0 = .ok (.aload_n 0, 1) := by decide +kernel
theorem d19_1 : decode (mB m19) 1 = .ok (.getfield 201, 3) := by decide +kernel
theorem d19_4 : decode (mB m19) 4 = .ok (.bipush 64, 2) := by decide +kernel
theorem d19_6 : decode (mB m19) 6 = .ok (.if_icmp .lt 4, 3) := by decide +kernel
theorem d19_9 : decode (mB m19) 9 = .ok (.return_, 1) := by decide +kernel
theorem d19_10 : decode (mB m19) 10 = .ok (.aload_n 0, 1) := by decide +kernel
theorem d19_11 : decode (mB m19) 11 = .ok (.getfield 41, 3) := by decide +kernel
theorem d19_14 : decode (mB m19) 14 = .ok (.aload_n 0, 1) := by decide +kernel
theorem d19_15 : decode (mB m19) 15 = .ok (.getfield 201, 3) := by decide +kernel
theorem d19_18 : decode (mB m19) 18 = .ok (.iload_n 1, 1) := by decide +kernel
theorem d19_19 : decode (mB m19) 19 = .ok (.iastore, 1) := by decide +kernel
theorem d19_20 : decode (mB m19) 20 = .ok (.aload_n 0, 1) := by decide +kernel
theorem d19_21 : decode (mB m19) 21 = .ok (.aload_n 0, 1) := by decide +kernel
theorem d19_22 : decode (mB m19) 22 = .ok (.getfield 201, 3) := by decide +kernel
theorem d19_25 : decode (mB m19) 25 = .ok (.iconst 1, 1) := by decide +kernel
theorem d19_26 : decode (mB m19) 26 = .ok (.iadd, 1) := by decide +kernel
theorem d19_27 : decode (mB m19) 27 = .ok (.putfield 201, 3) := by decide +kernel
theorem d19_30 : decode (mB m19) 30 = .ok (.aload_n 0, 1) := by decide +kernel
theorem d19_31 : decode (mB m19) 31 = .ok (.getfield 35, 3) := by decide +kernel
theorem d19_34 : decode (mB m19) 34 = .ok (.iload_n 1, 1) := by decide +kernel
theorem d19_35 : decode (mB m19) 35 = .ok (.iconst 1, 1) := by decide +kernel
theorem d19_36 : decode (mB m19) 36 = .ok (.bastore, 1) := by decide +kernel
theorem d19_37 : decode (mB m19) 37 = .ok (.return_, 1) := by decide +kernel
theorem d20_0 : decode (mB m20) 0 = .ok (.aload_n 0, 1) := by decide +kernel
theorem d20_1 : decode (mB m20) 1 = .ok (.iconst 0, 1) := by decide +kernel
theorem d20_2 : decode (mB m20) 2 = .ok (.putfield 201, 3) := by decide +kernel
theorem d20_5 : decode (mB m20) 5 = .ok (.iconst 0, 1) := by decide +kernel
theorem d20_6 : decode (mB m20) 6 = .ok (.istore_n 1, 1) := by decide +kernel
theorem d20_7 : decode (mB m20) 7 = .ok (.iload_n 1, 1) := by decide +kernel
theorem d20_8 : decode (mB m20) 8 = .ok (.aload_n 0, 1) := by decide +kernel
theorem d20_9 : decode (mB m20) 9 = .ok (.getfield 48, 3) := by decide +kernel
theorem d20_12 : decode (mB m20) 12 = .ok (.if_icmp .ge 22, 3) := by decide +kernel
theorem d20_15 : decode (mB m20) 15 = .ok (.aload_n 0, 1) := by decide +kernel
theorem d20_16 : decode (mB m20) 16 = .ok (.iload_n 1, 1) := by decide +kernel
theorem d20_17 : decode (mB m20) 17 = .ok (.invokevirtual 204, 3) := by decide +kernel
theorem d20_20 : decode (mB m20) 20 = .ok (.ifCond .eq 8, 3) := by decide +kernel
theorem d20_23 : decode (mB m20) 23 = .ok (.aload_n 0, 1) := by decide +kernel
theorem d20_24 : decode (mB m20) 24 = .ok (.iload_n 1, 1) := by decide +kernel
theorem d20_25 : decode (mB m20) 25 = .ok (.invokevirtual 207, 3) := by decide +kernel
theorem d20_28 : decode (mB m20) 28 = .ok (.iinc 1 1, 3) := by decide +kernel
theorem d20_31 : decode (mB m20) 31 = .ok (.goto (-24), 3) := by decide +kernel
theorem d20_34 : decode (mB m20) 34 = .ok (.return_, 1) := by decide +kernel
theorem d21_0 : decode (mB m21) 0 = .ok (.iconst 0, 1) := by decide +kernel
theorem d21_1 : decode (mB m21) 1 = .ok (.istore_n 2, 1) := by decide +kernel
theorem d21_2 : decode (mB m21) 2 = .ok (.iload_n 2, 1) := by decide +kernel
theorem d21_3 : decode (mB m21) 3 = .ok (.aload_n 0, 1) := by decide +kernel
theorem d21_4 : decode (mB m21) 4 = .ok (.getfield 52, 3) := by decide +kernel
theorem d21_7 : decode (mB m21) 7 = .ok (.if_icmp .ge 60, 3) := by decide +kernel
theorem d21_10 : decode (mB m21) 10 = .ok (.aload_n 0, 1) := by decide +kernel
theorem d21_11 : decode (mB m21) 11 = .ok (.iload_n 1, 1) := by decide +kernel
theorem d21_12 : decode (mB m21) 12 = .ok (.iload_n 2, 1) := by decide +kernel
theorem d21_13 : decode (mB m21) 13 = .ok (.invokevirtual 98, 3) := by decide +kernel
theorem d21_16 : decode (mB m21) 16 = .ok (.istore_n 3, 1) := by decide +kernel
theorem d21_17 : decode (mB m21) 17 = .ok (.aload_n 0, 1) := by decide +kernel
theorem d21_18 : decode (mB m21) 18 = .ok (.iload_n 3, 1) := by decide +kernel
theorem d21_19 : decode (mB m21) 19 = .ok (.invokevirtual 135, 3) := by decide +kernel
theorem d21_22 : decode (mB m21) 22 = .ok (.ifCond .eq 39, 3) := by decide +kernel
theorem d21_25 : decode (mB m21) 25 = .ok (.aload_n 0, 1) := by decide +kernel
theorem d21_26 : decode (mB m21) 26 = .ok (.getfield 38, 3) := by decide +kernel
theorem d21_29 : decode (mB m21) 29 = .ok (.iload_n 3, 1) := by decide +kernel
theorem d21_30 : decode (mB m21) 30 = .ok (.iaload, 1) := by decide +kernel
theorem d21_31 : decode (mB m21) 31 = .ok (.ifCond .le 30, 3) := by decide +kernel
theorem d21_34 : decode (mB m21) 34 = .ok (.aload_n 0, 1) := by decide +kernel
theorem d21_35 : decode (mB m21) 35 = .ok (.getfield 38, 3) := by decide +kernel
theorem d21_38 : decode (mB m21) 38 = .ok (.iload_n 3, 1) := by decide +kernel
theorem d21_39 : decode (mB m21) 39 = .ok (.aload_n 0, 1) := by decide +kernel
theorem d21_40 : decode (mB m21) 40 = .ok (.getfield 38, 3) := by decide +kernel
theorem d21_43 : decode (mB m21) 43 = .ok (.iload_n 3, 1) := by decide +kernel
theorem d21_44 : decode (mB m21) 44 = .ok (.iaload, 1) := by decide +kernel
theorem d21_45 : decode (mB m21) 45 = .ok (.iconst 1, 1) := by decide +kernel
theorem d21_46 : decode (mB m21) 46 = .ok (.isub, 1) := by decide +kernel
theorem d21_47 : decode (mB m21) 47 = .ok (.iastore, 1) := by decide +kernel
theorem d21_48 : decode (mB m21) 48 = .ok (.aload_n 0, 1) := by decide +kernel
theorem d21_49 : decode (mB m21) 49 = .ok (.iload_n 3, 1) := by decide +kernel
theorem d21_50 : decode (mB m21) 50 = .ok (.invokevirtual 204, 3) := by decide +kernel
theorem d21_53 : decode (mB m21) 53 = .ok (.ifCond .eq 8, 3) := by decide +kernel
theorem d21_56 : decode (mB m21) 56 = .ok (.aload_n 0, 1) := by decide +kernel
theorem d21_57 : decode (mB m21) 57 = .ok (.iload_n 3, 1) := by decide +kernel
theorem d21_58 : decode (mB m21) 58 = .ok (.invokevirtual 207, 3) := by decide +kernel
theorem d21_61 : decode (mB m21) 61 = .ok (.iinc 2 1, 3) := by decide +kernel
theorem d21_64 : decode (mB m21) 64 = .ok (.goto (-62), 3) := by decide +kernel
theorem d21_67 : decode (mB m21) 67 = .ok (.return_, 1) := by decide +kernel
theorem d22_0 : decode (mB m22) 0 = .ok (.iconst 0, 1) := by decide +kernel
theorem d22_1 : decode (mB m22) 1 = .ok (.istore_n 1, 1) := by decide +kernel
theorem d22_2 : decode (mB m22) 2 = .ok (.iload_n 1, 1) := by decide +kernel
theorem d22_3 : decode (mB m22) 3 = .ok (.bipush 64, 2) := by decide +kernel
theorem d22_5 : decode (mB m22) 5 = .ok (.if_icmp .gt 56, 3) := by decide +kernel
theorem d22_8 : decode (mB m22) 8 = .ok (.aload_n 0, 1) := by decide +kernel
theorem d22_9 : decode (mB m22) 9 = .ok (.getfield 201, 3) := by decide +kernel
theorem d22_12 : decode (mB m22) 12 = .ok (.ifCond .le 49, 3) := by decide +kernel
theorem d22_15 : decode (mB m22) 15 = .ok (.aload_n 0, 1) := by decide +kernel
theorem d22_16 : decode (mB m22) 16 = .ok (.aload_n 0, 1) := by decide +kernel
theorem d22_17 : decode (mB m22) 17 = .ok (.getfield 201, 3) := by decide +kernel
theorem d22_20 : decode (mB m22) 20 = .ok (.iconst 1, 1) := by decide +kernel
theorem d22_21 : decode (mB m22) 21 = .ok (.isub, 1) := by decide +kernel
theorem d22_22 : decode (mB m22) 22 = .ok (.putfield 201, 3) := by decide +kernel
theorem d22_25 : decode (mB m22) 25 = .ok (.aload_n 0, 1) := by decide +kernel
theorem d22_26 : decode (mB m22) 26 = .ok (.getfield 41, 3) := by decide +kernel
theorem d22_29 : decode (mB m22) 29 = .ok (.aload_n 0, 1) := by decide +kernel
theorem d22_30 : decode (mB m22) 30 = .ok (.getfield 201, 3) := by decide +kernel
theorem d22_33 : decode (mB m22) 33 = .ok (.iaload, 1) := by decide +kernel
theorem d22_34 : decode (mB m22) 34 = .ok (.istore_n 2, 1) := by decide +kernel
theorem d22_35 : decode (mB m22) 35 = .ok (.aload_n 0, 1) := by decide +kernel
theorem d22_36 : decode (mB m22) 36 = .ok (.iload_n 2, 1) := by decide +kernel
theorem d22_37 : decode (mB m22) 37 = .ok (.invokevirtual 165, 3) := by decide +kernel
theorem d22_40 : decode (mB m22) 40 = .ok (.ifCond .eq 15, 3) := by decide +kernel
theorem d22_43 : decode (mB m22) 43 = .ok (.aload_n 0, 1) := by decide +kernel
theorem d22_44 : decode (mB m22) 44 = .ok (.getfield 29, 3) := by decide +kernel
theorem d22_47 : decode (mB m22) 47 = .ok (.iload_n 2, 1) := by decide +kernel
theorem d22_48 : decode (mB m22) 48 = .ok (.iconst 0, 1) := by decide +kernel
theorem d22_49 : decode (mB m22) 49 = .ok (.bastore, 1) := by decide +kernel
theorem d22_50 : decode (mB m22) 50 = .ok (.aload_n 0, 1) := by decide +kernel
theorem d22_51 : decode (mB m22) 51 = .ok (.iload_n 2, 1) := by decide +kernel
theorem d22_52 : decode (mB m22) 52 = .ok (.invokevirtual 210, 3) := by decide +kernel
theorem d22_55 : decode (mB m22) 55 = .ok (.iinc 1 1, 3) := by decide +kernel
theorem d22_58 : decode (mB m22) 58 = .ok (.goto (-56), 3) := by decide +kernel
theorem d22_61 : decode (mB m22) 61 = .ok (.aload_n 0, 1) := by decide +kernel
theorem d22_62 : decode (mB m22) 62 = .ok (.iconst 0, 1) := by decide +kernel
theorem d22_63 : decode (mB m22) 63 = .ok (.putfield 201, 3) := by decide +kernel
theorem d22_66 : decode (mB m22) 66 = .ok (.return_, 1) := by decide +kernel
theorem d23_0 : decode (mB m23) 0 = .ok (.aload_n 0, 1) := by decide +kernel
theorem d23_1 : decode (mB m23) 1 = .ok (.iload_n 1, 1) := by decide +kernel
theorem d23_2 : decode (mB m23) 2 = .ok (.invokevirtual 165, 3) := by decide +kernel
theorem d23_5 : decode (mB m23) 5 = .ok (.ifCond .ne 4, 3) := by decide +kernel
theorem d23_8 : decode (mB m23) 8 = .ok (.return_, 1) := by decide +kernel
theorem d23_9 : decode (mB m23) 9 = .ok (.aload_n 0, 1) := by decide +kernel
theorem d23_10 : decode (mB m23) 10 = .ok (.getfield 7, 3) := by decide +kernel
theorem d23_13 : decode (mB m23) 13 = .ok (.iload_n 1, 1) := by decide +kernel
theorem d23_14 : decode (mB m23) 14 = .ok (.baload, 1) := by decide +kernel
theorem d23_15 : decode (mB m23) 15 = .ok (.ifCond .ne 4, 3) := by decide +kernel
theorem d23_18 : decode (mB m23) 18 = .ok (.return_, 1) := by decide +kernel
theorem d23_19 : decode (mB m23) 19 = .ok (.aload_n 0, 1) := by decide +kernel
theorem d23_20 : decode (mB m23) 20 = .ok (.getfield 7, 3) := by decide +kernel
theorem d23_23 : decode (mB m23) 23 = .ok (.iload_n 1, 1) := by decide +kernel
theorem d23_24 : decode (mB m23) 24 = .ok (.iconst 0, 1) := by decide +kernel
theorem d23_25 : decode (mB m23) 25 = .ok (.bastore, 1) := by decide +kernel
theorem d23_26 : decode (mB m23) 26 = .ok (.aload_n 0, 1) := by decide +kernel
theorem d23_27 : decode (mB m23) 27 = .ok (.iload_n 1, 1) := by decide +kernel
theorem d23_28 : decode (mB m23) 28 = .ok (.invokevirtual 219, 3) := by decide +kernel
theorem d23_31 : decode (mB m23) 31 = .ok (.aload_n 0, 1) := by decide +kernel
theorem d23_32 : decode (mB m23) 32 = .ok (.getfield 17, 3) := by decide +kernel
theorem d23_35 : decode (mB m23) 35 = .ok (.iload_n 1, 1) := by decide +kernel
theorem d23_36 : decode (mB m23) 36 = .ok (.iconst 0, 1) := by decide +kernel
theorem d23_37 : decode (mB m23) 37 = .ok (.iastore, 1) := by decide +kernel
theorem d23_38 : decode (mB m23) 38 = .ok (.aload_n 0, 1) := by decide +kernel
theorem d23_39 : decode (mB m23) 39 = .ok (.aload_n 0, 1) := by decide +kernel
theorem d23_40 : decode (mB m23) 40 = .ok (.getfield 147, 3) := by decide +kernel
theorem d23_43 : decode (mB m23) 43 = .ok (.iconst 1, 1) := by decide +kernel
theorem d23_44 : decode (mB m23) 44 = .ok (.isub, 1) := by decide +kernel
theorem d23_45 : decode (mB m23) 45 = .ok (.putfield 147, 3) := by decide +kernel
theorem d23_48 : decode (mB m23) 48 = .ok (.return_, 1) := by decide +kernel
theorem d24_0 : decode (mB m24) 0 = .ok (.iconst 0, 1) := by decide +kernel
theorem d24_1 : decode (mB m24) 1 = .ok (.istore_n 1, 1) := by decide +kernel
theorem d24_2 : decode (mB m24) 2 = .ok (.iconst 0, 1) := by decide +kernel
theorem d24_3 : decode (mB m24) 3 = .ok (.istore_n 2, 1) := by decide +kernel
theorem d24_4 : decode (mB m24) 4 = .ok (.iload_n 2, 1) := by decide +kernel
theorem d24_5 : decode (mB m24) 5 = .ok (.aload_n 0, 1) := by decide +kernel
theorem d24_6 : decode (mB m24) 6 = .ok (.getfield 48, 3) := by decide +kernel
theorem d24_9 : decode (mB m24) 9 = .ok (.if_icmp .ge 36, 3) := by decide +kernel
theorem d24_12 : decode (mB m24) 12 = .ok (.aload_n 0, 1) := by decide +kernel
theorem d24_13 : decode (mB m24) 13 = .ok (.getfield 7, 3) := by decide +kernel
theorem d24_16 : decode (mB m24) 16 = .ok (.iload_n 2, 1) := by decide +kernel
theorem d24_17 : decode (mB m24) 17 = .ok (.baload, 1) := by decide +kernel
theorem d24_18 : decode (mB m24) 18 = .ok (.ifCond .eq 21, 3) := by decide +kernel
theorem d24_21 : decode (mB m24) 21 = .ok (.aload_n 0, 1) := by decide +kernel
theorem d24_22 : decode (mB m24) 22 = .ok (.getfield 29, 3) := by decide +kernel
theorem d24_25 : decode (mB m24) 25 = .ok (.iload_n 2, 1) := by decide +kernel
theorem d24_26 : decode (mB m24) 26 = .ok (.baload, 1) := by decide +kernel
theorem d24_27 : decode (mB m24) 27 = .ok (.ifCond .ne 12, 3) := by decide +kernel
theorem d24_30 : decode (mB m24) 30 = .ok (.aload_n 0, 1) := by decide +kernel
theorem d24_31 : decode (mB m24) 31 = .ok (.iload_n 2, 1) := by decide +kernel
theorem d24_32 : decode (mB m24) 32 = .ok (.invokevirtual 213, 3) := by decide +kernel
theorem d24_35 : decode (mB m24) 35 = .ok (.iload_n 1, 1) := by decide +kernel
theorem d24_36 : decode (mB m24) 36 = .ok (.iconst 1, 1) := by decide +kernel
theorem d24_37 : decode (mB m24) 37 = .ok (.iadd, 1) := by decide +kernel
theorem d24_38 : decode (mB m24) 38 = .ok (.istore_n 1, 1) := by decide +kernel
theorem d24_39 : decode (mB m24) 39 = .ok (.iinc 2 1, 3) := by decide +kernel
theorem d24_42 : decode (mB m24) 42 = .ok (.goto (-38), 3) := by decide +kernel
theorem d24_45 : decode (mB m24) 45 = .ok (.iload_n 1, 1) := by decide +kernel
theorem d24_46 : decode (mB m24) 46 = .ok (.ireturn, 1) := by decide +kernel
theorem d25_0 : decode (mB m25) 0 = .ok (.aload_n 0, 1) := by decide +kernel
theorem d25_1 : decode (mB m25) 1 = .ok (.iload_n 1, 1) := by decide +kernel
theorem d25_2 : decode (mB m25) 2 = .ok (.invokevirtual 165, 3) := by decide +kernel
theorem d25_5 : decode (mB m25) 5 = .ok (.ifCond .eq 17, 3) := by decide +kernel
theorem d25_8 : decode (mB m25) 8 = .ok (.aload_n 0, 1) := by decide +kernel
theorem d25_9 : decode (mB m25) 9 = .ok (.getfield 17, 3) := by decide +kernel
theorem d25_12 : decode (mB m25) 12 = .ok (.iload_n 1, 1) := by decide +kernel
theorem d25_13 : decode (mB m25) 13 = .ok (.aload_n 0, 1) := by decide +kernel
theorem d25_14 : decode (mB m25) 14 = .ok (.getfield 17, 3) := by decide +kernel
theorem d25_17 : decode (mB m25) 17 = .ok (.iload_n 1, 1) := by decide +kernel
theorem d25_18 : decode (mB m25) 18 = .ok (.iaload, 1) := by decide +kernel
theorem d25_19 : decode (mB m25) 19 = .ok (.iconst 1, 1) := by decide +kernel
theorem d25_20 : decode (mB m25) 20 = .ok (.iadd, 1) := by decide +kernel
theorem d25_21 : decode (mB m25) 21 = .ok (.iastore, 1) := by decide +kernel
theorem d25_22 : decode (mB m25) 22 = .ok (.return_, 1) := by decide +kernel
theorem d26_0 : decode (mB m26) 0 = .ok (.iconst 0, 1) := by decide +kernel
theorem d26_1 : decode (mB m26) 1 = .ok (.istore_n 2, 1) := by decide +kernel
theorem d26_2 : decode (mB m26) 2 = .ok (.iload_n 2, 1) := by decide +kernel
theorem d26_3 : decode (mB m26) 3 = .ok (.aload_n 0, 1) := by decide +kernel
theorem d26_4 : decode (mB m26) 4 = .ok (.getfield 52, 3) := by decide +kernel
theorem d26_7 : decode (mB m26) 7 = .ok (.if_icmp .ge 29, 3) := by decide +kernel
theorem d26_10 : decode (mB m26) 10 = .ok (.aload_n 0, 1) := by decide +kernel
theorem d26_11 : decode (mB m26) 11 = .ok (.iload_n 1, 1) := by decide +kernel
theorem d26_12 : decode (mB m26) 12 = .ok (.iload_n 2, 1) := by decide +kernel
theorem d26_13 : decode (mB m26) 13 = .ok (.invokevirtual 98, 3) := by decide +kernel
theorem d26_16 : decode (mB m26) 16 = .ok (.istore_n 3, 1) := by decide +kernel
theorem d26_17 : decode (mB m26) 17 = .ok (.aload_n 0, 1) := by decide +kernel
theorem d26_18 : decode (mB m26) 18 = .ok (.iload_n 3, 1) := by decide +kernel
theorem d26_19 : decode (mB m26) 19 = .ok (.invokevirtual 135, 3) := by decide +kernel
theorem d26_22 : decode (mB m26) 22 = .ok (.ifCond .eq 8, 3) := by decide +kernel
theorem d26_25 : decode (mB m26) 25 = .ok (.aload_n 0, 1) := by decide +kernel
theorem d26_26 : decode (mB m26) 26 = .ok (.iload_n 3, 1) := by decide +kernel
theorem d26_27 : decode (mB m26) 27 = .ok (.invokevirtual 171, 3) := by decide +kernel
theorem d26_30 : decode (mB m26) 30 = .ok (.iinc 2 1, 3) := by decide +kernel
theorem d26_33 : decode (mB m26) 33 = .ok (.goto (-31), 3) := by decide +kernel
theorem d26_36 : decode (mB m26) 36 = .ok (.return_, 1) := by decide +kernel
theorem d27_0 : decode (mB m27) 0 = .ok (.iconst 0, 1) := by decide +kernel
theorem d27_1 : decode (mB m27) 1 = .ok (.istore_n 1, 1) := by decide +kernel
theorem d27_2 : decode (mB m27) 2 = .ok (.iload_n 1, 1) := by decide +kernel
theorem d27_3 : decode (mB m27) 3 = .ok (.bipush 64, 2) := by decide +kernel
theorem d27_5 : decode (mB m27) 5 = .ok (.if_icmp .ge 16, 3) := by decide +kernel
theorem d27_8 : decode (mB m27) 8 = .ok (.aload_n 0, 1) := by decide +kernel
theorem d27_9 : decode (mB m27) 9 = .ok (.getfield 17, 3) := by decide +kernel
theorem d27_12 : decode (mB m27) 12 = .ok (.iload_n 1, 1) := by decide +kernel
theorem d27_13 : decode (mB m27) 13 = .ok (.iconst 0, 1) := by decide +kernel
theorem d27_14 : decode (mB m27) 14 = .ok (.iastore, 1) := by decide +kernel
theorem d27_15 : decode (mB m27) 15 = .ok (.iinc 1 1, 3) := by decide +kernel
theorem d27_18 : decode (mB m27) 18 = .ok (.goto (-16), 3) := by decide +kernel
theorem d27_21 : decode (mB m27) 21 = .ok (.iconst 0, 1) := by decide +kernel
theorem d27_22 : decode (mB m27) 22 = .ok (.istore_n 1, 1) := by decide +kernel
theorem d27_23 : decode (mB m27) 23 = .ok (.iload_n 1, 1) := by decide +kernel
theorem d27_24 : decode (mB m27) 24 = .ok (.aload_n 0, 1) := by decide +kernel
theorem d27_25 : decode (mB m27) 25 = .ok (.getfield 48, 3) := by decide +kernel
theorem d27_28 : decode (mB m27) 28 = .ok (.if_icmp .ge 23, 3) := by decide +kernel
theorem d27_31 : decode (mB m27) 31 = .ok (.aload_n 0, 1) := by decide +kernel
theorem d27_32 : decode (mB m27) 32 = .ok (.getfield 7, 3) := by decide +kernel
theorem d27_35 : decode (mB m27) 35 = .ok (.iload_n 1, 1) := by decide +kernel
theorem d27_36 : decode (mB m27) 36 = .ok (.baload, 1) := by decide +kernel
theorem d27_37 : decode (mB m27) 37 = .ok (.ifCond .eq 8, 3) := by decide +kernel
theorem d27_40 : decode (mB m27) 40 = .ok (.aload_n 0, 1) := by decide +kernel
theorem d27_41 : decode (mB m27) 41 = .ok (.iload_n 1, 1) := by decide +kernel
theorem d27_42 : decode (mB m27) 42 = .ok (.invokevirtual 216, 3) := by decide +kernel
theorem d27_45 : decode (mB m27) 45 = .ok (.iinc 1 1, 3) := by decide +kernel
theorem d27_48 : decode (mB m27) 48 = .ok (.goto (-25), 3) := by decide +kernel
theorem d27_51 : decode (mB m27) 51 = .ok (.return_, 1) := by decide +kernel
theorem d28_0 : decode (mB m28) 0 = .ok (.aload_n 0, 1) := by decide +kernel
theorem d28_1 : decode (mB m28) 1 = .ok (.iload_n 1, 1) := by decide +kernel
theorem d28_2 : decode (mB m28) 2 = .ok (.invokevirtual 165, 3) := by decide +kernel
theorem d28_5 : decode (mB m28) 5 = .ok (.ifCond .ne 5, 3) := by decide +kernel
theorem d28_8 : decode (mB m28) 8 = .ok (.iconst 0, 1) := by decide +kernel
theorem d28_9 : decode (mB m28) 9 = .ok (.ireturn, 1) := by decide +kernel
theorem d28_10 : decode (mB m28) 10 = .ok (.aload_n 0, 1) := by decide +kernel
theorem d28_11 : decode (mB m28) 11 = .ok (.getfield 26, 3) := by decide +kernel
theorem d28_14 : decode (mB m28) 14 = .ok (.iload_n 1, 1) := by decide +kernel
theorem d28_15 : decode (mB m28) 15 = .ok (.iaload, 1) := by decide +kernel
theorem d28_16 : decode (mB m28) 16 = .ok (.iconst (-1), 1) := by decide +kernel
theorem d28_17 : decode (mB m28) 17 = .ok (.if_icmp .eq 5, 3) := by decide +kernel
theorem d28_20 : decode (mB m28) 20 = .ok (.iconst 0, 1) := by decide +kernel
theorem d28_21 : decode (mB m28) 21 = .ok (.ireturn, 1) := by decide +kernel
theorem d28_22 : decode (mB m28) 22 = .ok (.aload_n 0, 1) := by decide +kernel
theorem d28_23 : decode (mB m28) 23 = .ok (.getfield 144, 3) := by decide +kernel
theorem d28_26 : decode (mB m28) 26 = .ok (.aload_n 0, 1) := by decide +kernel
theorem d28_27 : decode (mB m28) 27 = .ok (.getfield 58, 3) := by decide +kernel
theorem d28_30 : decode (mB m28) 30 = .ok (.if_icmp .ge 12, 3) := by decide +kernel
theorem d28_33 : decode (mB m28) 33 = .ok (.aload_n 0, 1) := by decide +kernel
theorem d28_34 : decode (mB m28) 34 = .ok (.getfield 144, 3) := by decide +kernel
theorem d28_37 : decode (mB m28) 37 = .ok (.bipush 64, 2) := by decide +kernel
theorem d28_39 : decode (mB m28) 39 = .ok (.if_icmp .lt 5, 3) := by decide +kernel
theorem d28_42 : decode (mB m28) 42 = .ok (.iconst 0, 1) := by decide +kernel
theorem d28_43 : decode (mB m28) 43 = .ok (.ireturn, 1) := by decide +kernel
theorem d28_44 : decode (mB m28) 44 = .ok (.aload_n 0, 1) := by decide +kernel
theorem d28_45 : decode (mB m28) 45 = .ok (.getfield 23, 3) := by decide +kernel
theorem d28_48 : decode (mB m28) 48 = .ok (.aload_n 0, 1) := by decide +kernel
theorem d28_49 : decode (mB m28) 49 = .ok (.getfield 144, 3) := by decide +kernel
theorem d28_52 : decode (mB m28) 52 = .ok (.iload_n 1, 1) := by decide +kernel
theorem d28_53 : decode (mB m28) 53 = .ok (.iastore, 1) := by decide +kernel
theorem d28_54 : decode (mB m28) 54 = .ok (.aload_n 0, 1) := by decide +kernel
theorem d28_55 : decode (mB m28) 55 = .ok (.getfield 26, 3) := by decide +kernel
theorem d28_58 : decode (mB m28) 58 = .ok (.iload_n 1, 1) := by decide +kernel
theorem d28_59 : decode (mB m28) 59 = .ok (.aload_n 0, 1) := by decide +kernel
theorem d28_60 : decode (mB m28) 60 = .ok (.getfield 144, 3) := by decide +kernel
theorem d28_63 : decode (mB m28) 63 = .ok (.iastore, 1) := by decide +kernel
theorem d28_64 : decode (mB m28) 64 = .ok (.aload_n 0, 1) := by decide +kernel
theorem d28_65 : decode (mB m28) 65 = .ok (.aload_n 0, 1) := by decide +kernel
theorem d28_66 : decode (mB m28) 66 = .ok (.getfield 144, 3) := by decide +kernel
theorem d28_69 : decode (mB m28) 69 = .ok (.iconst 1, 1) := by decide +kernel
theorem d28_70 : decode (mB m28) 70 = .ok (.iadd, 1) := by decide +kernel
theorem d28_71 : decode (mB m28) 71 = .ok (.putfield 144, 3) := by decide +kernel
theorem d28_74 : decode (mB m28) 74 = .ok (.iconst 1, 1) := by decide +kernel
theorem d28_75 : decode (mB m28) 75 = .ok (.ireturn, 1) := by decide +kernel
theorem d29_0 : decode (mB m29) 0 = .ok (.aload_n 0, 1) := by decide +kernel
theorem d29_1 : decode (mB m29) 1 = .ok (.invokevirtual 67, 3) := by decide +kernel
theorem d29_4 : decode (mB m29) 4 = .ok (.iconst 0, 1) := by decide +kernel
theorem d29_5 : decode (mB m29) 5 = .ok (.istore_n 1, 1) := by decide +kernel
theorem d29_6 : decode (mB m29) 6 = .ok (.iload_n 1, 1) := by decide +kernel
theorem d29_7 : decode (mB m29) 7 = .ok (.aload_n 0, 1) := by decide +kernel
theorem d29_8 : decode (mB m29) 8 = .ok (.getfield 48, 3) := by decide +kernel
theorem d29_11 : decode (mB m29) 11 = .ok (.if_icmp .ge 33, 3) := by decide +kernel
theorem d29_14 : decode (mB m29) 14 = .ok (.aload_n 0, 1) := by decide +kernel
theorem d29_15 : decode (mB m29) 15 = .ok (.getfield 7, 3) := by decide +kernel
theorem d29_18 : decode (mB m29) 18 = .ok (.iload_n 1, 1) := by decide +kernel
theorem d29_19 : decode (mB m29) 19 = .ok (.baload, 1) := by decide +kernel
theorem d29_20 : decode (mB m29) 20 = .ok (.ifCond .eq 18, 3) := by decide +kernel
theorem d29_23 : decode (mB m29) 23 = .ok (.aload_n 0, 1) := by decide +kernel
theorem d29_24 : decode (mB m29) 24 = .ok (.getfield 17, 3) := by decide +kernel
theorem d29_27 : decode (mB m29) 27 = .ok (.iload_n 1, 1) := by decide +kernel
theorem d29_28 : decode (mB m29) 28 = .ok (.iaload, 1) := by decide +kernel
theorem d29_29 : decode (mB m29) 29 = .ok (.ifCond .ne 9, 3) := by decide +kernel
theorem d29_32 : decode (mB m29) 32 = .ok (.aload_n 0, 1) := by decide +kernel
theorem d29_33 : decode (mB m29) 33 = .ok (.iload_n 1, 1) := by decide +kernel
theorem d29_34 : decode (mB m29) 34 = .ok (.invokevirtual 162, 3) := by decide +kernel
theorem d29_37 : decode (mB m29) 37 = .ok (.pop, 1) := by decide +kernel
theorem d29_38 : decode (mB m29) 38 = .ok (.iinc 1 1, 3) := by decide +kernel
theorem d29_41 : decode (mB m29) 41 = .ok (.goto (-35), 3) := by decide +kernel
theorem d29_44 : decode (mB m29) 44 = .ok (.return_, 1) := by decide +kernel
theorem d30_0 : decode (mB m30) 0 = .ok (.aload_n 0, 1) := by decide +kernel
theorem d30_1 : decode (mB m30) 1 = .ok (.aload_n 0, 1) := by decide +kernel
theorem d30_2 : decode (mB m30) 2 = .ok (.getfield 73, 3) := by decide +kernel
theorem d30_5 : decode (mB m30) 5 = .ok (.iconst 1, 1) := by decide +kernel
theorem d30_6 : decode (mB m30) 6 = .ok (.iadd, 1) := by decide +kernel
theorem d30_7 : decode (mB m30) 7 = .ok (.putfield 73, 3) := by decide +kernel
theorem d30_10 : decode (mB m30) 10 = .ok (.aload_n 0, 1) := by decide +kernel
theorem d30_11 : decode (mB m30) 11 = .ok (.invokevirtual 177, 3) := by decide +kernel
theorem d30_14 : decode (mB m30) 14 = .ok (.aload_n 0, 1) := by decide +kernel
theorem d30_15 : decode (mB m30) 15 = .ok (.invokevirtual 180, 3) := by decide +kernel
theorem d30_18 : decode (mB m30) 18 = .ok (.aload_n 0, 1) := by decide +kernel
theorem d30_19 : decode (mB m30) 19 = .ok (.invokevirtual 183, 3) := by decide +kernel
theorem d30_22 : decode (mB m30) 22 = .ok (.aload_n 0, 1) := by decide +kernel
theorem d30_23 : decode (mB m30) 23 = .ok (.invokevirtual 186, 3) := by decide +kernel
theorem d30_26 : decode (mB m30) 26 = .ok (.aload_n 0, 1) := by decide +kernel
theorem d30_27 : decode (mB m30) 27 = .ok (.invokevirtual 189, 3) := by decide +kernel
theorem d30_30 : decode (mB m30) 30 = .ok (.istore_n 1, 1) := by decide +kernel
theorem d30_31 : decode (mB m30) 31 = .ok (.aload_n 0, 1) := by decide +kernel
theorem d30_32 : decode (mB m30) 32 = .ok (.invokevirtual 192, 3) := by decide +kernel
theorem d30_35 : decode (mB m30) 35 = .ok (.aload_n 0, 1) := by decide +kernel
theorem d30_36 : decode (mB m30) 36 = .ok (.invokevirtual 195, 3) := by decide +kernel
theorem d30_39 : decode (mB m30) 39 = .ok (.iload_n 1, 1) := by decide +kernel
theorem d30_40 : decode (mB m30) 40 = .ok (.ireturn, 1) := by decide +kernel
theorem d31_0 : decode (mB m31) 0 = .ok (.iconst 0, 1) := by decide +kernel
theorem d31_1 : decode (mB m31) 1 = .ok (.istore_n 1, 1) := by decide +kernel
theorem d31_2 : decode (mB m31) 2 = .ok (.iload_n 1, 1) := by decide +kernel
theorem d31_3 : decode (mB m31) 3 = .ok (.aload_n 0, 1) := by decide +kernel
theorem d31_4 : decode (mB m31) 4 = .ok (.getfield 48, 3) := by decide +kernel
theorem d31_7 : decode (mB m31) 7 = .ok (.if_icmp .ge 20, 3) := by decide +kernel
theorem d31_10 : decode (mB m31) 10 = .ok (.aload_n 0, 1) := by decide +kernel
theorem d31_11 : decode (mB m31) 11 = .ok (.getfield 7, 3) := by decide +kernel
theorem d31_14 : decode (mB m31) 14 = .ok (.iload_n 1, 1) := by decide +kernel
theorem d31_15 : decode (mB m31) 15 = .ok (.baload, 1) := by decide +kernel
theorem d31_16 : decode (mB m31) 16 = .ok (.ifCond .ne 5, 3) := by decide +kernel
theorem d31_19 : decode (mB m31) 19 = .ok (.iload_n 1, 1) := by decide +kernel
theorem d31_20 : decode (mB m31) 20 = .ok (.ireturn, 1) := by decide +kernel
theorem d31_21 : decode (mB m31) 21 = .ok (.iinc 1 1, 3) := by decide +kernel
theorem d31_24 : decode (mB m31) 24 = .ok (.goto (-22), 3) := by decide +kernel
theorem d31_27 : decode (mB m31) 27 = .ok (.iconst (-1), 1) := by decide +kernel
theorem d31_28 : decode (mB m31) 28 = .ok (.ireturn, 1) := by decide +kernel
theorem d32_0 : decode (mB m32) 0 = .ok (.aload_n 0, 1) := by decide +kernel
theorem d32_1 : decode (mB m32) 1 = .ok (.iload_n 1, 1) := by decide +kernel
theorem d32_2 : decode (mB m32) 2 = .ok (.invokevirtual 165, 3) := by decide +kernel
theorem d32_5 : decode (mB m32) 5 = .ok (.ifCond .ne 4, 3) := by decide +kernel
theorem d32_8 : decode (mB m32) 8 = .ok (.return_, 1) := by decide +kernel
theorem d32_9 : decode (mB m32) 9 = .ok (.aload_n 0, 1) := by decide +kernel
theorem d32_10 : decode (mB m32) 10 = .ok (.getfield 7, 3) := by decide +kernel
theorem d32_13 : decode (mB m32) 13 = .ok (.iload_n 1, 1) := by decide +kernel
theorem d32_14 : decode (mB m32) 14 = .ok (.baload, 1) := by decide +kernel
theorem d32_15 : decode (mB m32) 15 = .ok (.ifCond .eq 4, 3) := by decide +kernel
theorem d32_18 : decode (mB m32) 18 = .ok (.return_, 1) := by decide +kernel
theorem d32_19 : decode (mB m32) 19 = .ok (.aload_n 0, 1) := by decide +kernel
theorem d32_20 : decode (mB m32) 20 = .ok (.getfield 7, 3) := by decide +kernel
theorem d32_23 : decode (mB m32) 23 = .ok (.iload_n 1, 1) := by decide +kernel
theorem d32_24 : decode (mB m32) 24 = .ok (.iconst 1, 1) := by decide +kernel
theorem d32_25 : decode (mB m32) 25 = .ok (.bastore, 1) := by decide +kernel
theorem d32_26 : decode (mB m32) 26 = .ok (.aload_n 0, 1) := by decide +kernel
theorem d32_27 : decode (mB m32) 27 = .ok (.iload_n 1, 1) := by decide +kernel
theorem d32_28 : decode (mB m32) 28 = .ok (.invokevirtual 219, 3) := by decide +kernel
theorem d32_31 : decode (mB m32) 31 = .ok (.aload_n 0, 1) := by decide +kernel
theorem d32_32 : decode (mB m32) 32 = .ok (.getfield 17, 3) := by decide +kernel
theorem d32_35 : decode (mB m32) 35 = .ok (.iload_n 1, 1) := by decide +kernel
theorem d32_36 : decode (mB m32) 36 = .ok (.iconst 0, 1) := by decide +kernel
theorem d32_37 : decode (mB m32) 37 = .ok (.iastore, 1) := by decide +kernel
theorem d32_38 : decode (mB m32) 38 = .ok (.aload_n 0, 1) := by decide +kernel
theorem d32_39 : decode (mB m32) 39 = .ok (.aload_n 0, 1) := by decide +kernel
theorem d32_40 : decode (mB m32) 40 = .ok (.getfield 147, 3) := by decide +kernel
theorem d32_43 : decode (mB m32) 43 = .ok (.iconst 1, 1) := by decide +kernel
theorem d32_44 : decode (mB m32) 44 = .ok (.iadd, 1) := by decide +kernel
theorem d32_45 : decode (mB m32) 45 = .ok (.putfield 147, 3) := by decide +kernel
theorem d32_48 : decode (mB m32) 48 = .ok (.return_, 1) := by decide +kernel
theorem d33_0 : decode (mB m33) 0 = .ok (.aload_n 0, 1) := by decide +kernel
theorem d33_1 : decode (mB m33) 1 = .ok (.getfield 125, 3) := by decide +kernel
theorem d33_4 : decode (mB m33) 4 = .ok (.aload_n 0, 1) := by decide +kernel
theorem d33_5 : decode (mB m33) 5 = .ok (.getfield 55, 3) := by decide +kernel
theorem d33_8 : decode (mB m33) 8 = .ok (.if_icmp .ge 12, 3) := by decide +kernel
theorem d33_11 : decode (mB m33) 11 = .ok (.aload_n 0, 1) := by decide +kernel
theorem d33_12 : decode (mB m33) 12 = .ok (.getfield 125, 3) := by decide +kernel
theorem d33_15 : decode (mB m33) 15 = .ok (.bipush 16, 2) := by decide +kernel
theorem d33_17 : decode (mB m33) 17 = .ok (.if_icmp .lt 4, 3) := by decide +kernel
theorem d33_20 : decode (mB m33) 20 = .ok (.return_, 1) := by decide +kernel
theorem d33_21 : decode (mB m33) 21 = .ok (.aload_n 0, 1) := by decide +kernel
theorem d33_22 : decode (mB m33) 22 = .ok (.getfield 20, 3) := by decide +kernel
theorem d33_25 : decode (mB m33) 25 = .ok (.aload_n 0, 1) := by decide +kernel
theorem d33_26 : decode (mB m33) 26 = .ok (.getfield 125, 3) := by decide +kernel
theorem d33_29 : decode (mB m33) 29 = .ok (.iload_n 1, 1) := by decide +kernel
theorem d33_30 : decode (mB m33) 30 = .ok (.iastore, 1) := by decide +kernel
theorem d33_31 : decode (mB m33) 31 = .ok (.aload_n 0, 1) := by decide +kernel
theorem d33_32 : decode (mB m33) 32 = .ok (.aload_n 0, 1) := by decide +kernel
theorem d33_33 : decode (mB m33) 33 = .ok (.getfield 125, 3) := by decide +kernel
theorem d33_36 : decode (mB m33) 36 = .ok (.iconst 1, 1) := by decide +kernel
theorem d33_37 : decode (mB m33) 37 = .ok (.iadd, 1) := by decide +kernel
theorem d33_38 : decode (mB m33) 38 = .ok (.putfield 125, 3) := by decide +kernel
theorem d33_41 : decode (mB m33) 41 = .ok (.return_, 1) := by decide +kernel
theorem d34_0 : decode (mB m34) 0 = .ok (.aload_n 0, 1) := by decide +kernel
theorem d34_1 : decode (mB m34) 1 = .ok (.iload_n 1, 1) := by decide +kernel
theorem d34_2 : decode (mB m34) 2 = .ok (.invokevirtual 159, 3) := by decide +kernel
theorem d34_5 : decode (mB m34) 5 = .ok (.aload_n 0, 1) := by decide +kernel
theorem d34_6 : decode (mB m34) 6 = .ok (.iload_n 1, 1) := by decide +kernel
theorem d34_7 : decode (mB m34) 7 = .ok (.invokevirtual 162, 3) := by decide +kernel
theorem d34_10 : decode (mB m34) 10 = .ok (.pop, 1) := by decide +kernel
theorem d34_11 : decode (mB m34) 11 = .ok (.aload_n 0, 1) := by decide +kernel
theorem d34_12 : decode (mB m34) 12 = .ok (.iload_n 1, 1) := by decide +kernel
theorem d34_13 : decode (mB m34) 13 = .ok (.invokevirtual 101, 3) := by decide +kernel
theorem d34_16 : decode (mB m34) 16 = .ok (.return_, 1) := by decide +kernel
theorem d35_0 : decode (mB m35) 0 = .ok (.aload_n 0, 1) := by decide +kernel
theorem d35_1 : decode (mB m35) 1 = .ok (.invokevirtual 76, 3) := by decide +kernel
theorem d35_4 : decode (mB m35) 4 = .ok (.ifCond .eq 6, 3) := by decide +kernel
theorem d35_7 : decode (mB m35) 7 = .ok (.bipush (-2), 2) := by decide +kernel
theorem d35_9 : decode (mB m35) 9 = .ok (.ireturn, 1) := by decide +kernel
theorem d35_10 : decode (mB m35) 10 = .ok (.aload_n 0, 1) := by decide +kernel
theorem d35_11 : decode (mB m35) 11 = .ok (.invokevirtual 80, 3) := by decide +kernel
theorem d35_14 : decode (mB m35) 14 = .ok (.ifCond .eq 8, 3) := by decide +kernel
theorem d35_17 : decode (mB m35) 17 = .ok (.aload_n 0, 1) := by decide +kernel
theorem d35_18 : decode (mB m35) 18 = .ok (.invokevirtual 83, 3) := by decide +kernel
theorem d35_21 : decode (mB m35) 21 = .ok (.pop, 1) := by decide +kernel
theorem d35_22 : decode (mB m35) 22 = .ok (.aload_n 0, 1) := by decide +kernel
theorem d35_23 : decode (mB m35) 23 = .ok (.invokevirtual 87, 3) := by decide +kernel
theorem d35_26 : decode (mB m35) 26 = .ok (.istore_n 1, 1) := by decide +kernel
theorem d35_27 : decode (mB m35) 27 = .ok (.iload_n 1, 1) := by decide +kernel
theorem d35_28 : decode (mB m35) 28 = .ok (.iconst (-1), 1) := by decide +kernel
theorem d35_29 : decode (mB m35) 29 = .ok (.if_icmp .ne 6, 3) := by decide +kernel
theorem d35_32 : decode (mB m35) 32 = .ok (.bipush (-4), 2) := by decide +kernel
theorem d35_34 : decode (mB m35) 34 = .ok (.ireturn, 1) := by decide +kernel
theorem d35_35 : decode (mB m35) 35 = .ok (.aload_n 0, 1) := by decide +kernel
theorem d35_36 : decode (mB m35) 36 = .ok (.iload_n 1, 1) := by decide +kernel
theorem d35_37 : decode (mB m35) 37 = .ok (.invokevirtual 90, 3) := by decide +kernel
theorem d35_40 : decode (mB m35) 40 = .ok (.iload_n 1, 1) := by decide +kernel
theorem d35_41 : decode (mB m35) 41 = .ok (.ireturn, 1) := by decide +kernel
theorem d36_0 : decode (mB m36) 0 = .ok (.iload_n 1, 1) := by decide +kernel
theorem d36_1 : decode (mB m36) 1 = .ok (.ifCond .lt 15, 3) := by decide +kernel
theorem d36_4 : decode (mB m36) 4 = .ok (.iload_n 1, 1) := by decide +kernel
theorem d36_5 : decode (mB m36) 5 = .ok (.aload_n 0, 1) := by decide +kernel
theorem d36_6 : decode (mB m36) 6 = .ok (.getfield 125, 3) := by decide +kernel
theorem d36_9 : decode (mB m36) 9 = .ok (.if_icmp .ge 7, 3) := by decide +kernel
theorem d36_12 : decode (mB m36) 12 = .ok (.iconst 1, 1) := by decide +kernel
theorem d36_13 : decode (mB m36) 13 = .ok (.goto 4, 3) := by decide +kernel
theorem d36_16 : decode (mB m36) 16 = .ok (.iconst 0, 1) := by decide +kernel
theorem d36_17 : decode (mB m36) 17 = .ok (.ireturn, 1) := by decide +kernel
theorem d37_0 : decode (mB m37) 0 = .ok (.iload_n 1, 1) := by decide +kernel
theorem d37_1 : decode (mB m37) 1 = .ok (.iconst (-1), 1) := by decide +kernel
theorem d37_2 : decode (mB m37) 2 = .ok (.if_icmp .ne 5, 3) := by decide +kernel
theorem d37_5 : decode (mB m37) 5 = .ok (.iconst 1, 1) := by decide +kernel
theorem d37_6 : decode (mB m37) 6 = .ok (.ireturn, 1) := by decide +kernel
theorem d37_7 : decode (mB m37) 7 = .ok (.aload_n 0, 1) := by decide +kernel
theorem d37_8 : decode (mB m37) 8 = .ok (.iload_n 1, 1) := by decide +kernel
theorem d37_9 : decode (mB m37) 9 = .ok (.invokevirtual 131, 3) := by decide +kernel
theorem d37_12 : decode (mB m37) 12 = .ok (.ireturn, 1) := by decide +kernel
theorem d38_0 : decode (mB m38) 0 = .ok (.aload_n 0, 1) := by decide +kernel
theorem d38_1 : decode (mB m38) 1 = .ok (.iload_n 1, 1) := by decide +kernel
theorem d38_2 : decode (mB m38) 2 = .ok (.invokevirtual 131, 3) := by decide +kernel
theorem d38_5 : decode (mB m38) 5 = .ok (.ifCond .ne 6, 3) := by decide +kernel
theorem d38_8 : decode (mB m38) 8 = .ok (.bipush (-5), 2) := by decide +kernel
theorem d38_10 : decode (mB m38) 10 = .ok (.ireturn, 1) := by decide +kernel
theorem d38_11 : decode (mB m38) 11 = .ok (.aload_n 0, 1) := by decide +kernel
theorem d38_12 : decode (mB m38) 12 = .ok (.iload_n 2, 1) := by decide +kernel
theorem d38_13 : decode (mB m38) 13 = .ok (.invokevirtual 138, 3) := by decide +kernel
theorem d38_16 : decode (mB m38) 16 = .ok (.ifCond .ne 6, 3) := by decide +kernel
theorem d38_19 : decode (mB m38) 19 = .ok (.bipush (-6), 2) := by decide +kernel
theorem d38_21 : decode (mB m38) 21 = .ok (.ireturn, 1) := by decide +kernel
theorem d38_22 : decode (mB m38) 22 = .ok (.aload_n 0, 1) := by decide +kernel
theorem d38_23 : decode (mB m38) 23 = .ok (.iload_n 3, 1) := by decide +kernel
theorem d38_24 : decode (mB m38) 24 = .ok (.invokevirtual 150, 3) := by decide +kernel
theorem d38_27 : decode (mB m38) 27 = .ok (.ifCond .ne 6, 3) := by decide +kernel
theorem d38_30 : decode (mB m38) 30 = .ok (.bipush (-5), 2) := by decide +kernel
theorem d38_32 : decode (mB m38) 32 = .ok (.ireturn, 1) := by decide +kernel
theorem d38_33 : decode (mB m38) 33 = .ok (.aload_n 0, 1) := by decide +kernel
theorem d38_34 : decode (mB m38) 34 = .ok (.getfield 20, 3) := by decide +kernel
theorem d38_37 : decode (mB m38) 37 = .ok (.iload_n 1, 1) := by decide +kernel
theorem d38_38 : decode (mB m38) 38 = .ok (.iaload, 1) := by decide +kernel
theorem d38_39 : decode (mB m38) 39 = .ok (.iconst (-1), 1) := by decide +kernel
theorem d38_40 : decode (mB m38) 40 = .ok (.if_icmp .ne 6, 3) := by decide +kernel
theorem d38_43 : decode (mB m38) 43 = .ok (.bipush (-7), 2) := by decide +kernel
theorem d38_45 : decode (mB m38) 45 = .ok (.ireturn, 1) := by decide +kernel
theorem d38_46 : decode (mB m38) 46 = .ok (.aload_n 0, 1) := by decide +kernel
theorem d38_47 : decode (mB m38) 47 = .ok (.aload_n 0, 1) := by decide +kernel
theorem d38_48 : decode (mB m38) 48 = .ok (.getfield 20, 3) := by decide +kernel
theorem d38_51 : decode (mB m38) 51 = .ok (.iload_n 1, 1) := by decide +kernel
theorem d38_52 : decode (mB m38) 52 = .ok (.iaload, 1) := by decide +kernel
theorem d38_53 : decode (mB m38) 53 = .ok (.invokevirtual 135, 3) := by decide +kernel
theorem d38_56 : decode (mB m38) 56 = .ok (.ifCond .ne 6, 3) := by decide +kernel
theorem d38_59 : decode (mB m38) 59 = .ok (.bipush (-7), 2) := by decide +kernel
theorem d38_61 : decode (mB m38) 61 = .ok (.ireturn, 1) := by decide +kernel
theorem d38_62 : decode (mB m38) 62 = .ok (.iconst 0, 1) := by decide +kernel
theorem d38_63 : decode (mB m38) 63 = .ok (.ireturn, 1) := by decide +kernel
theorem d39_0 : decode (mB m39) 0 = .ok (.iload_n 1, 1) := by decide +kernel
theorem d39_1 : decode (mB m39) 1 = .ok (.iconst (-1), 1) := by decide +kernel
theorem d39_2 : decode (mB m39) 2 = .ok (.if_icmp .ne 5, 3) := by decide +kernel
theorem d39_5 : decode (mB m39) 5 = .ok (.iconst (-1), 1) := by decide +kernel
theorem d39_6 : decode (mB m39) 6 = .ok (.ireturn, 1) := by decide +kernel
theorem d39_7 : decode (mB m39) 7 = .ok (.aload_n 0, 1) := by decide +kernel
theorem d39_8 : decode (mB m39) 8 = .ok (.iload_n 1, 1) := by decide +kernel
theorem d39_9 : decode (mB m39) 9 = .ok (.invokevirtual 131, 3) := by decide +kernel
theorem d39_12 : decode (mB m39) 12 = .ok (.ifCond .ne 5, 3) := by decide +kernel
theorem d39_15 : decode (mB m39) 15 = .ok (.iconst (-1), 1) := by decide +kernel
theorem d39_16 : decode (mB m39) 16 = .ok (.ireturn, 1) := by decide +kernel
theorem d39_17 : decode (mB m39) 17 = .ok (.aload_n 0, 1) := by decide +kernel
theorem d39_18 : decode (mB m39) 18 = .ok (.getfield 20, 3) := by decide +kernel
theorem d39_21 : decode (mB m39) 21 = .ok (.iload_n 1, 1) := by decide +kernel
theorem d39_22 : decode (mB m39) 22 = .ok (.iaload, 1) := by decide +kernel
theorem d39_23 : decode (mB m39) 23 = .ok (.ireturn, 1) := by decide +kernel
theorem d40_0 : decode (mB m40) 0 = .ok (.aload_n 0, 1) := by decide +kernel
theorem d40_1 : decode (mB m40) 1 = .ok (.iload_n 1, 1) := by decide +kernel
theorem d40_2 : decode (mB m40) 2 = .ok (.invokevirtual 165, 3) := by decide +kernel
theorem d40_5 : decode (mB m40) 5 = .ok (.ifCond .ne 5, 3) := by decide +kernel
theorem d40_8 : decode (mB m40) 8 = .ok (.iconst 0, 1) := by decide +kernel
theorem d40_9 : decode (mB m40) 9 = .ok (.ireturn, 1) := by decide +kernel
theorem d40_10 : decode (mB m40) 10 = .ok (.aload_n 0, 1) := by decide +kernel
theorem d40_11 : decode (mB m40) 11 = .ok (.getfield 26, 3) := by decide +kernel
theorem d40_14 : decode (mB m40) 14 = .ok (.iload_n 1, 1) := by decide +kernel
theorem d40_15 : decode (mB m40) 15 = .ok (.iaload, 1) := by decide +kernel
theorem d40_16 : decode (mB m40) 16 = .ok (.iconst (-1), 1) := by decide +kernel
theorem d40_17 : decode (mB m40) 17 = .ok (.if_icmp .eq 7, 3) := by decide +kernel
theorem d40_20 : decode (mB m40) 20 = .ok (.iconst 1, 1) := by decide +kernel
theorem d40_21 : decode (mB m40) 21 = .ok (.goto 4, 3) := by decide +kernel
theorem d40_24 : decode (mB m40) 24 = .ok (.iconst 0, 1) := by decide +kernel
theorem d40_25 : decode (mB m40) 25 = .ok (.ireturn, 1) := by decide +kernel
theorem d41_0 : decode (mB m41) 0 = .ok (.iload_n 1, 1) := by decide +kernel
theorem d41_1 : decode (mB m41) 1 = .ok (.iconst (-1), 1) := by decide +kernel
theorem d41_2 : decode (mB m41) 2 = .ok (.if_icmp .ne 5, 3) := by decide +kernel
theorem d41_5 : decode (mB m41) 5 = .ok (.iconst 0, 1) := by decide +kernel
theorem d41_6 : decode (mB m41) 6 = .ok (.ireturn, 1) := by decide +kernel
theorem d41_7 : decode (mB m41) 7 = .ok (.iload_n 1, 1) := by decide +kernel
theorem d41_8 : decode (mB m41) 8 = .ok (.iload_n 2, 1) := by decide +kernel
theorem d41_9 : decode (mB m41) 9 = .ok (.if_icmp .ne 5, 3) := by decide +kernel
theorem d41_12 : decode (mB m41) 12 = .ok (.iconst 0, 1) := by decide +kernel
theorem d41_13 : decode (mB m41) 13 = .ok (.ireturn, 1) := by decide +kernel
theorem d41_14 : decode (mB m41) 14 = .ok (.aload_n 0, 1) := by decide +kernel
theorem d41_15 : decode (mB m41) 15 = .ok (.iload_n 1, 1) := by decide +kernel
theorem d41_16 : decode (mB m41) 16 = .ok (.invokevirtual 165, 3) := by decide +kernel
theorem d41_19 : decode (mB m41) 19 = .ok (.ifCond .ne 5, 3) := by decide +kernel
theorem d41_22 : decode (mB m41) 22 = .ok (.iconst 0, 1) := by decide +kernel
theorem d41_23 : decode (mB m41) 23 = .ok (.ireturn, 1) := by decide +kernel
theorem d41_24 : decode (mB m41) 24 = .ok (.aload_n 0, 1) := by decide +kernel
theorem d41_25 : decode (mB m41) 25 = .ok (.getfield 17, 3) := by decide +kernel
theorem d41_28 : decode (mB m41) 28 = .ok (.iload_n 1, 1) := by decide +kernel
theorem d41_29 : decode (mB m41) 29 = .ok (.iaload, 1) := by decide +kernel
theorem d41_30 : decode (mB m41) 30 = .ok (.iconst 1, 1) := by decide +kernel
theorem d41_31 : decode (mB m41) 31 = .ok (.if_icmp .eq 5, 3) := by decide +kernel
theorem d41_34 : decode (mB m41) 34 = .ok (.iconst 0, 1) := by decide +kernel
theorem d41_35 : decode (mB m41) 35 = .ok (.ireturn, 1) := by decide +kernel
theorem d41_36 : decode (mB m41) 36 = .ok (.aload_n 0, 1) := by decide +kernel
theorem d41_37 : decode (mB m41) 37 = .ok (.iload_n 1, 1) := by decide +kernel
theorem d41_38 : decode (mB m41) 38 = .ok (.invokevirtual 141, 3) := by decide +kernel
theorem d41_41 : decode (mB m41) 41 = .ok (.ifCond .eq 5, 3) := by decide +kernel
theorem d41_44 : decode (mB m41) 44 = .ok (.iconst 0, 1) := by decide +kernel
theorem d41_45 : decode (mB m41) 45 = .ok (.ireturn, 1) := by decide +kernel
theorem d41_46 : decode (mB m41) 46 = .ok (.aload_n 0, 1) := by decide +kernel
theorem d41_47 : decode (mB m41) 47 = .ok (.invokevirtual 156, 3) := by decide +kernel
theorem d41_50 : decode (mB m41) 50 = .ok (.ireturn, 1) := by decide +kernel
theorem d42_0 : decode (mB m42) 0 = .ok (.aload_n 0, 1) := by decide +kernel
theorem d42_1 : decode (mB m42) 1 = .ok (.iload_n 1, 1) := by decide +kernel
theorem d42_2 : decode (mB m42) 2 = .ok (.invokevirtual 165, 3) := by decide +kernel
theorem d42_5 : decode (mB m42) 5 = .ok (.ifCond .eq 26, 3) := by decide +kernel
theorem d42_8 : decode (mB m42) 8 = .ok (.aload_n 0, 1) := by decide +kernel
theorem d42_9 : decode (mB m42) 9 = .ok (.getfield 17, 3) := by decide +kernel
theorem d42_12 : decode (mB m42) 12 = .ok (.iload_n 1, 1) := by decide +kernel
theorem d42_13 : decode (mB m42) 13 = .ok (.iaload, 1) := by decide +kernel
theorem d42_14 : decode (mB m42) 14 = .ok (.ifCond .le 17, 3) := by decide +kernel
theorem d42_17 : decode (mB m42) 17 = .ok (.aload_n 0, 1) := by decide +kernel
theorem d42_18 : decode (mB m42) 18 = .ok (.getfield 17, 3) := by decide +kernel
theorem d42_21 : decode (mB m42) 21 = .ok (.iload_n 1, 1) := by decide +kernel
theorem d42_22 : decode (mB m42) 22 = .ok (.aload_n 0, 1) := by decide +kernel
theorem d42_23 : decode (mB m42) 23 = .ok (.getfield 17, 3) := by decide +kernel
theorem d42_26 : decode (mB m42) 26 = .ok (.iload_n 1, 1) := by decide +kernel
theorem d42_27 : decode (mB m42) 27 = .ok (.iaload, 1) := by decide +kernel
theorem d42_28 : decode (mB m42) 28 = .ok (.iconst 1, 1) := by decide +kernel
theorem d42_29 : decode (mB m42) 29 = .ok (.isub, 1) := by decide +kernel
theorem d42_30 : decode (mB m42) 30 = .ok (.iastore, 1) := by decide +kernel
theorem d42_31 : decode (mB m42) 31 = .ok (.return_, 1) := by decide +kernel
theorem d43_0 : decode (mB m43) 0 = .ok (.aload_n 0, 1) := by decide +kernel
theorem d43_1 : decode (mB m43) 1 = .ok (.iload_n 1, 1) := by decide +kernel
theorem d43_2 : decode (mB m43) 2 = .ok (.invokevirtual 165, 3) := by decide +kernel
theorem d43_5 : decode (mB m43) 5 = .ok (.ifCond .ne 4, 3) := by decide +kernel
theorem d43_8 : decode (mB m43) 8 = .ok (.return_, 1) := by decide +kernel
theorem d43_9 : decode (mB m43) 9 = .ok (.aload_n 0, 1) := by decide +kernel
theorem d43_10 : decode (mB m43) 10 = .ok (.iload_n 2, 1) := by decide +kernel
theorem d43_11 : decode (mB m43) 11 = .ok (.invokevirtual 138, 3) := by decide +kernel
theorem d43_14 : decode (mB m43) 14 = .ok (.ifCond .ne 4, 3) := by decide +kernel
theorem d43_17 : decode (mB m43) 17 = .ok (.return_, 1) := by decide +kernel
theorem d43_18 : decode (mB m43) 18 = .ok (.aload_n 0, 1) := by decide +kernel
theorem d43_19 : decode (mB m43) 19 = .ok (.getfield 13, 3) := by decide +kernel
theorem d43_22 : decode (mB m43) 22 = .ok (.iload_n 1, 1) := by decide +kernel
theorem d43_23 : decode (mB m43) 23 = .ok (.iconst 4, 1) := by decide +kernel
theorem d43_24 : decode (mB m43) 24 = .ok (.imul, 1) := by decide +kernel
theorem d43_25 : decode (mB m43) 25 = .ok (.iload_n 2, 1) := by decide +kernel
theorem d43_26 : decode (mB m43) 26 = .ok (.iadd, 1) := by decide +kernel
theorem d43_27 : decode (mB m43) 27 = .ok (.iload_n 3, 1) := by decide +kernel
theorem d43_28 : decode (mB m43) 28 = .ok (.iastore, 1) := by decide +kernel
theorem d43_29 : decode (mB m43) 29 = .ok (.return_, 1) := by decide +kernel
theorem d44_0 : decode (mB m44) 0 = .ok (.aload_n 0, 1) := by decide +kernel
theorem d44_1 : decode (mB m44) 1 = .ok (.iload_n 1, 1) := by decide +kernel
theorem d44_2 : decode (mB m44) 2 = .ok (.iload_n 2, 1) := by decide +kernel
theorem d44_3 : decode (mB m44) 3 = .ok (.invokevirtual 98, 3) := by decide +kernel
theorem d44_6 : decode (mB m44) 6 = .ok (.istore 4, 2) := by decide +kernel
theorem d44_8 : decode (mB m44) 8 = .ok (.aload_n 0, 1) := by decide +kernel
theorem d44_9 : decode (mB m44) 9 = .ok (.iload 4, 2) := by decide +kernel
theorem d44_11 : decode (mB m44) 11 = .ok (.invokevirtual 168, 3) := by decide +kernel
theorem d44_14 : decode (mB m44) 14 = .ok (.aload_n 0, 1) := by decide +kernel
theorem d44_15 : decode (mB m44) 15 = .ok (.iload_n 3, 1) := by decide +kernel
theorem d44_16 : decode (mB m44) 16 = .ok (.invokevirtual 171, 3) := by decide +kernel
theorem d44_19 : decode (mB m44) 19 = .ok (.aload_n 0, 1) := by decide +kernel
theorem d44_20 : decode (mB m44) 20 = .ok (.iload_n 1, 1) := by decide +kernel
theorem d44_21 : decode (mB m44) 21 = .ok (.iload_n 2, 1) := by decide +kernel
theorem d44_22 : decode (mB m44) 22 = .ok (.iload_n 3, 1) := by decide +kernel
theorem d44_23 : decode (mB m44) 23 = .ok (.invokevirtual 174, 3) := by decide +kernel
theorem d44_26 : decode (mB m44) 26 = .ok (.return_, 1) := by decide +kernel
theorem d45_0 : decode (mB m45) 0 = .ok (.iload_n 1, 1) := by decide +kernel
theorem d45_1 : decode (mB m45) 1 = .ok (.iconst (-1), 1) := by decide +kernel
theorem d45_2 : decode (mB m45) 2 = .ok (.if_icmp .ne 4, 3) := by decide +kernel
theorem d45_5 : decode (mB m45) 5 = .ok (.return_, 1) := by decide +kernel
theorem d45_6 : decode (mB m45) 6 = .ok (.aload_n 0, 1) := by decide +kernel
theorem d45_7 : decode (mB m45) 7 = .ok (.iload_n 1, 1) := by decide +kernel
theorem d45_8 : decode (mB m45) 8 = .ok (.invokevirtual 165, 3) := by decide +kernel
theorem d45_11 : decode (mB m45) 11 = .ok (.ifCond .ne 4, 3) := by decide +kernel
theorem d45_14 : decode (mB m45) 14 = .ok (.return_, 1) := by decide +kernel
theorem d45_15 : decode (mB m45) 15 = .ok (.aload_n 0, 1) := by decide +kernel
theorem d45_16 : decode (mB m45) 16 = .ok (.getfield 17, 3) := by decide +kernel
theorem d45_19 : decode (mB m45) 19 = .ok (.iload_n 1, 1) := by decide +kernel
theorem d45_20 : decode (mB m45) 20 = .ok (.iaload, 1) := by decide +kernel
theorem d45_21 : decode (mB m45) 21 = .ok (.ifCond .eq 4, 3) := by decide +kernel
theorem d45_24 : decode (mB m45) 24 = .ok (.return_, 1) := by decide +kernel
theorem d45_25 : decode (mB m45) 25 = .ok (.aload_n 0, 1) := by decide +kernel
theorem d45_26 : decode (mB m45) 26 = .ok (.iload_n 1, 1) := by decide +kernel
theorem d45_27 : decode (mB m45) 27 = .ok (.invokevirtual 141, 3) := by decide +kernel
theorem d45_30 : decode (mB m45) 30 = .ok (.ifCond .eq 4, 3) := by decide +kernel
theorem d45_33 : decode (mB m45) 33 = .ok (.return_, 1) := by decide +kernel
theorem d45_34 : decode (mB m45) 34 = .ok (.aload_n 0, 1) := by decide +kernel
theorem d45_35 : decode (mB m45) 35 = .ok (.iload_n 1, 1) := by decide +kernel
theorem d45_36 : decode (mB m45) 36 = .ok (.invokevirtual 162, 3) := by decide +kernel
theorem d45_39 : decode (mB m45) 39 = .ok (.pop, 1) := by decide +kernel
theorem d45_40 : decode (mB m45) 40 = .ok (.return_, 1) := by decide +kernel
theorem d46_0 : decode (mB m46) 0 = .ok (.aload_n 0, 1) := by decide +kernel
theorem d46_1 : decode (mB m46) 1 = .ok (.iload_n 1, 1) := by decide +kernel
theorem d46_2 : decode (mB m46) 2 = .ok (.iload_n 2, 1) := by decide +kernel
theorem d46_3 : decode (mB m46) 3 = .ok (.iload_n 3, 1) := by decide +kernel
theorem d46_4 : decode (mB m46) 4 = .ok (.invokevirtual 104, 3) := by decide +kernel
theorem d46_7 : decode (mB m46) 7 = .ok (.istore 4, 2) := by decide +kernel
theorem d46_9 : decode (mB m46) 9 = .ok (.iload 4, 2) := by decide +kernel
theorem d46_11 : decode (mB m46) 11 = .ok (.ifCond .eq 6, 3) := by decide +kernel
theorem d46_14 : decode (mB m46) 14 = .ok (.iload 4, 2) := by decide +kernel
theorem d46_16 : decode (mB m46) 16 = .ok (.ireturn, 1) := by decide +kernel
theorem d46_17 : decode (mB m46) 17 = .ok (.aload_n 0, 1) := by decide +kernel
theorem d46_18 : decode (mB m46) 18 = .ok (.getfield 20, 3) := by decide +kernel
theorem d46_21 : decode (mB m46) 21 = .ok (.iload_n 1, 1) := by decide +kernel
theorem d46_22 : decode (mB m46) 22 = .ok (.iaload, 1) := by decide +kernel
theorem d46_23 : decode (mB m46) 23 = .ok (.istore 5, 2) := by decide +kernel
theorem d46_25 : decode (mB m46) 25 = .ok (.aload_n 0, 1) := by decide +kernel
theorem d46_26 : decode (mB m46) 26 = .ok (.iload_n 3, 1) := by decide +kernel
theorem d46_27 : decode (mB m46) 27 = .ok (.invokevirtual 107, 3) := by decide +kernel
theorem d46_30 : decode (mB m46) 30 = .ok (.istore 6, 2) := by decide +kernel
theorem d46_32 : decode (mB m46) 32 = .ok (.aload_n 0, 1) := by decide +kernel
theorem d46_33 : decode (mB m46) 33 = .ok (.iload 5, 2) := by decide +kernel
theorem d46_35 : decode (mB m46) 35 = .ok (.iload_n 2, 1) := by decide +kernel
theorem d46_36 : decode (mB m46) 36 = .ok (.invokevirtual 98, 3) := by decide +kernel
theorem d46_39 : decode (mB m46) 39 = .ok (.istore 7, 2) := by decide +kernel
theorem d46_41 : decode (mB m46) 41 = .ok (.aload_n 0, 1) := by decide +kernel
theorem d46_42 : decode (mB m46) 42 = .ok (.iload 7, 2) := by decide +kernel
theorem d46_44 : decode (mB m46) 44 = .ok (.iload 6, 2) := by decide +kernel
theorem d46_46 : decode (mB m46) 46 = .ok (.invokevirtual 111, 3) := by decide +kernel
theorem d46_49 : decode (mB m46) 49 = .ok (.ifCond .eq 8, 3) := by decide +kernel
theorem d46_52 : decode (mB m46) 52 = .ok (.aload_n 0, 1) := by decide +kernel
theorem d46_53 : decode (mB m46) 53 = .ok (.invokevirtual 83, 3) := by decide +kernel
theorem d46_56 : decode (mB m46) 56 = .ok (.pop, 1) := by decide +kernel
theorem d46_57 : decode (mB m46) 57 = .ok (.aload_n 0, 1) := by decide +kernel
theorem d46_58 : decode (mB m46) 58 = .ok (.iload 5, 2) := by decide +kernel
theorem d46_60 : decode (mB m46) 60 = .ok (.iload_n 2, 1) := by decide +kernel
theorem d46_61 : decode (mB m46) 61 = .ok (.iload 6, 2) := by decide +kernel
theorem d46_63 : decode (mB m46) 63 = .ok (.invokevirtual 115, 3) := by decide +kernel
theorem d46_66 : decode (mB m46) 66 = .ok (.aload_n 0, 1) := by decide +kernel
theorem d46_67 : decode (mB m46) 67 = .ok (.iload 7, 2) := by decide +kernel
theorem d46_69 : decode (mB m46) 69 = .ok (.invokevirtual 119, 3) := by decide +kernel
theorem d46_72 : decode (mB m46) 72 = .ok (.iconst 0, 1) := by decide +kernel
theorem d46_73 : decode (mB m46) 73 = .ok (.ireturn, 1) := by decide +kernel
theorem d47_0 : decode (mB m47) 0 = .ok (.iload_n 0, 1) := by decide +kernel
theorem d47_1 : decode (mB m47) 1 = .ok (.iconst (-1), 1) := by decide +kernel
theorem d47_2 : decode (mB m47) 2 = .ok (.if_icmp .lt 12, 3) := by decide +kernel
theorem d47_5 : decode (mB m47) 5 = .ok (.iload_n 0, 1) := by decide +kernel
theorem d47_6 : decode (mB m47) 6 = .ok (.iconst 3, 1) := by decide +kernel
theorem d47_7 : decode (mB m47) 7 = .ok (.if_icmp .gt 7, 3) := by decide +kernel
theorem d47_10 : decode (mB m47) 10 = .ok (.iconst 0, 1) := by decide +kernel
theorem d47_11 : decode (mB m47) 11 = .ok (.goto 5, 3) := by decide +kernel
theorem d47_14 : decode (mB m47) 14 = .ok (.bipush (-5), 2) := by decide +kernel
theorem d47_16 : decode (mB m47) 16 = .ok (.ireturn, 1) := by decide +kernel
theorem d48_0 : decode (mB m48) 0 = .ok (.iload_n 0, 1) := by decide +kernel
theorem d48_1 : decode (mB m48) 1 = .ok (.ifCond .lt 12, 3) := by decide +kernel
theorem d48_4 : decode (mB m48) 4 = .ok (.iload_n 0, 1) := by decide +kernel
theorem d48_5 : decode (mB m48) 5 = .ok (.iconst 3, 1) := by decide +kernel
theorem d48_6 : decode (mB m48) 6 = .ok (.if_icmp .gt 7, 3) := by decide +kernel
theorem d48_9 : decode (mB m48) 9 = .ok (.iload_n 0, 1) := by decide +kernel
theorem d48_10 : decode (mB m48) 10 = .ok (.goto 4, 3) := by decide +kernel
theorem d48_13 : decode (mB m48) 13 = .ok (.iconst (-1), 1) := by decide +kernel
theorem d48_14 : decode (mB m48) 14 = .ok (.ireturn, 1) := by decide +kernel
theorem d49_0 : decode (mB m49) 0 = .ok (.aload_n 0, 1) := by decide +kernel
theorem d49_1 : decode (mB m49) 1 = .ok (.getfield 125, 3) := by decide +kernel
theorem d49_4 : decode (mB m49) 4 = .ok (.ifCond .gt 4, 3) := by decide +kernel
theorem d49_7 : decode (mB m49) 7 = .ok (.return_, 1) := by decide +kernel
theorem d49_8 : decode (mB m49) 8 = .ok (.aload_n 0, 1) := by decide +kernel
theorem d49_9 : decode (mB m49) 9 = .ok (.aload_n 0, 1) := by decide +kernel
theorem d49_10 : decode (mB m49) 10 = .ok (.getfield 125, 3) := by decide +kernel
theorem d49_13 : decode (mB m49) 13 = .ok (.iconst 1, 1) := by decide +kernel
theorem d49_14 : decode (mB m49) 14 = .ok (.isub, 1) := by decide +kernel
theorem d49_15 : decode (mB m49) 15 = .ok (.putfield 125, 3) := by decide +kernel
theorem d49_18 : decode (mB m49) 18 = .ok (.aload_n 0, 1) := by decide +kernel
theorem d49_19 : decode (mB m49) 19 = .ok (.getfield 20, 3) := by decide +kernel
theorem d49_22 : decode (mB m49) 22 = .ok (.aload_n 0, 1) := by decide +kernel
theorem d49_23 : decode (mB m49) 23 = .ok (.getfield 125, 3) := by decide +kernel
theorem d49_26 : decode (mB m49) 26 = .ok (.iconst (-1), 1) := by decide +kernel
theorem d49_27 : decode (mB m49) 27 = .ok (.iastore, 1) := by decide +kernel
theorem d49_28 : decode (mB m49) 28 = .ok (.return_, 1) := by decide +kernel
theorem d50_0 : decode (mB m50) 0 = .ok (.aload_n 0, 1) := by decide +kernel
theorem d50_1 : decode (mB m50) 1 = .ok (.getfield 125, 3) := by decide +kernel
theorem d50_4 : decode (mB m50) 4 = .ok (.ifCond .gt 6, 3) := by decide +kernel
theorem d50_7 : decode (mB m50) 7 = .ok (.bipush (-3), 2) := by decide +kernel
theorem d50_9 : decode (mB m50) 9 = .ok (.ireturn, 1) := by decide +kernel
theorem d50_10 : decode (mB m50) 10 = .ok (.aload_n 0, 1) := by decide +kernel
theorem d50_11 : decode (mB m50) 11 = .ok (.invokevirtual 128, 3) := by decide +kernel
theorem d50_14 : decode (mB m50) 14 = .ok (.iconst 0, 1) := by decide +kernel
theorem d50_15 : decode (mB m50) 15 = .ok (.ireturn, 1) := by decide +kernel
theorem d51_0 : decode (mB m51) 0 = .ok (.iload_n 0, 1) := by decide +kernel
theorem d51_1 : decode (mB m51) 1 = .ok (.ifCond .ne 7, 3) := by decide +kernel
theorem d51_4 : decode (mB m51) 4 = .ok (.iload_n 1, 1) := by decide +kernel
theorem d51_5 : decode (mB m51) 5 = .ok (.goto 23, 3) := by decide +kernel
theorem d51_8 : decode (mB m51) 8 = .ok (.iload_n 0, 1) := by decide +kernel
theorem d51_9 : decode (mB m51) 9 = .ok (.iconst 1, 1) := by decide +kernel
theorem d51_10 : decode (mB m51) 10 = .ok (.if_icmp .ne 7, 3) := by decide +kernel
theorem d51_13 : decode (mB m51) 13 = .ok (.iload_n 2, 1) := by decide +kernel
theorem d51_14 : decode (mB m51) 14 = .ok (.goto 14, 3) := by decide +kernel
theorem d51_17 : decode (mB m51) 17 = .ok (.iload_n 0, 1) := by decide +kernel
theorem d51_18 : decode (mB m51) 18 = .ok (.iconst 2, 1) := by decide +kernel
theorem d51_19 : decode (mB m51) 19 = .ok (.if_icmp .ne 7, 3) := by decide +kernel
theorem d51_22 : decode (mB m51) 22 = .ok (.iload_n 3, 1) := by decide +kernel
theorem d51_23 : decode (mB m51) 23 = .ok (.goto 5, 3) := by decide +kernel
theorem d51_26 : decode (mB m51) 26 = .ok (.iload 4, 2) := by decide +kernel
theorem d51_28 : decode (mB m51) 28 = .ok (.ireturn, 1) := by decide +kernel
theorem d52_0 : decode (mB m52) 0 = .ok (.aload_n 0, 1) := by decide +kernel
theorem d52_1 : decode (mB m52) 1 = .ok (.invokevirtual 83, 3) := by decide +kernel
theorem d52_4 : decode (mB m52) 4 = .ok (.ireturn, 1) := by decide +kernel
theorem d53_0 : decode (mB m53) 0 = .ok (.aload_n 0, 1) := by decide +kernel
theorem d53_1 : decode (mB m53) 1 = .ok (.iload_n 1, 1) := by decide +kernel
theorem d53_2 : decode (mB m53) 2 = .ok (.invokevirtual 135, 3) := by decide +kernel
theorem d53_5 : decode (mB m53) 5 = .ok (.ireturn, 1) := by decide +kernel
theorem d54_0 : decode (mB m54) 0 = .ok (.aload_n 0, 1) := by decide +kernel
theorem d54_1 : decode (mB m54) 1 = .ok (.iload_n 1, 1) := by decide +kernel
theorem d54_2 : decode (mB m54) 2 = .ok (.invokevirtual 135, 3) := by decide +kernel
theorem d54_5 : decode (mB m54) 5 = .ok (.ifCond .ne 6, 3) := by decide +kernel
theorem d54_8 : decode (mB m54) 8 = .ok (.bipush (-8), 2) := by decide +kernel
theorem d54_10 : decode (mB m54) 10 = .ok (.ireturn, 1) := by decide +kernel
theorem d54_11 : decode (mB m54) 11 = .ok (.aload_n 0, 1) := by decide +kernel
theorem d54_12 : decode (mB m54) 12 = .ok (.getfield 17, 3) := by decide +kernel
theorem d54_15 : decode (mB m54) 15 = .ok (.iload_n 1, 1) := by decide +kernel
theorem d54_16 : decode (mB m54) 16 = .ok (.iaload, 1) := by decide +kernel
theorem d54_17 : decode (mB m54) 17 = .ok (.ireturn, 1) := by decide +kernel
theorem d55_0 : decode (mB m55) 0 = .ok (.aload_n 0, 1) := by decide +kernel
theorem d55_1 : decode (mB m55) 1 = .ok (.iload_n 1, 1) := by decide +kernel
theorem d55_2 : decode (mB m55) 2 = .ok (.invokevirtual 135, 3) := by decide +kernel
theorem d55_5 : decode (mB m55) 5 = .ok (.ifCond .ne 6, 3) := by decide +kernel
theorem d55_8 : decode (mB m55) 8 = .ok (.bipush (-8), 2) := by decide +kernel
theorem d55_10 : decode (mB m55) 10 = .ok (.ireturn, 1) := by decide +kernel
theorem d55_11 : decode (mB m55) 11 = .ok (.aload_n 0, 1) := by decide +kernel
theorem d55_12 : decode (mB m55) 12 = .ok (.iload_n 2, 1) := by decide +kernel
theorem d55_13 : decode (mB m55) 13 = .ok (.invokevirtual 138, 3) := by decide +kernel
theorem d55_16 : decode (mB m55) 16 = .ok (.ifCond .ne 6, 3) := by decide +kernel
theorem d55_19 : decode (mB m55) 19 = .ok (.bipush (-6), 2) := by decide +kernel
theorem d55_21 : decode (mB m55) 21 = .ok (.ireturn, 1) := by decide +kernel
theorem d55_22 : decode (mB m55) 22 = .ok (.aload_n 0, 1) := by decide +kernel
theorem d55_23 : decode (mB m55) 23 = .ok (.iload_n 1, 1) := by decide +kernel
theorem d55_24 : decode (mB m55) 24 = .ok (.iload_n 2, 1) := by decide +kernel
theorem d55_25 : decode (mB m55) 25 = .ok (.invokevirtual 98, 3) := by decide +kernel
theorem d55_28 : decode (mB m55) 28 = .ok (.ireturn, 1) := by decide +kernel
theorem d56_0 : decode (mB m56) 0 = .ok (.aload_n 0, 1) := by decide +kernel
theorem d56_1 : decode (mB m56) 1 = .ok (.iload_n 1, 1) := by decide +kernel
theorem d56_2 : decode (mB m56) 2 = .ok (.invokevirtual 141, 3) := by decide +kernel
theorem d56_5 : decode (mB m56) 5 = .ok (.ireturn, 1) := by decide +kernel
theorem d57_0 : decode (mB m57) 0 = .ok (.aload_n 0, 1) := by decide +kernel
theorem d57_1 : decode (mB m57) 1 = .ok (.getfield 147, 3) := by decide +kernel
theorem d57_4 : decode (mB m57) 4 = .ok (.ireturn, 1) := by decide +kernel
theorem d58_0 : decode (mB m58) 0 = .ok (.aload_n 0, 1) := by decide +kernel
theorem d58_1 : decode (mB m58) 1 = .ok (.getfield 144, 3) := by decide +kernel
theorem d58_4 : decode (mB m58) 4 = .ok (.ireturn, 1) := by decide +kernel
theorem d59_0 : decode (mB m59) 0 = .ok (.aload_n 0, 1) := by decide +kernel
theorem d59_1 : decode (mB m59) 1 = .ok (.getfield 73, 3) := by decide +kernel
theorem d59_4 : decode (mB m59) 4 = .ok (.ireturn, 1) := by decide +kernel
theorem d60_0 : decode (mB m60) 0 = .ok (.new 7, 3) := by decide +kernel
theorem d60_3 : decode (mB m60) 3 = .ok (.dup, 1) := by decide +kernel
theorem d60_4 : decode (mB m60) 4 = .ok (.bipush 8, 2) := by decide +kernel
theorem d60_6 : decode (mB m60) 6 = .ok (.iconst 1, 1) := by decide +kernel
theorem d60_7 : decode (mB m60) 7 = .ok (.iconst 4, 1) := by decide +kernel
theorem d60_8 : decode (mB m60) 8 = .ok (.bipush 16, 2) := by decide +kernel
theorem d60_10 : decode (mB m60) 10 = .ok (.invokespecial 9, 3) := by decide +kernel
theorem d60_13 : decode (mB m60) 13 = .ok (.astore 5, 2) := by decide +kernel
theorem d60_15 : decode (mB m60) 15 = .ok (.iconst 0, 1) := by decide +kernel
theorem d60_16 : decode (mB m60) 16 = .ok (.istore 6, 2) := by decide +kernel
theorem d60_18 : decode (mB m60) 18 = .ok (.iload 6, 2) := by decide +kernel
theorem d60_20 : decode (mB m60) 20 = .ok (.iconst 4, 1) := by decide +kernel
theorem d60_21 : decode (mB m60) 21 = .ok (.if_icmp .ge 25, 3) := by decide +kernel
theorem d60_24 : decode (mB m60) 24 = .ok (.aload 5, 2) := by decide +kernel
theorem d60_26 : decode (mB m60) 26 = .ok (.invokevirtual 12, 3) := by decide +kernel
theorem d60_29 : decode (mB m60) 29 = .ok (.istore 7, 2) := by decide +kernel
theorem d60_31 : decode (mB m60) 31 = .ok (.iload 7, 2) := by decide +kernel
theorem d60_33 : decode (mB m60) 33 = .ok (.iload 6, 2) := by decide +kernel
theorem d60_35 : decode (mB m60) 35 = .ok (.if_icmp .eq 5, 3) := by decide +kernel
theorem d60_38 : decode (mB m60) 38 = .ok (.iconst 0, 1) := by decide +kernel
theorem d60_39 : decode (mB m60) 39 = .ok (.ireturn, 1) := by decide +kernel
theorem d60_40 : decode (mB m60) 40 = .ok (.iinc 6 1, 3) := by decide +kernel
theorem d60_43 : decode (mB m60) 43 = .ok (.goto (-25), 3) := by decide +kernel
theorem d60_46 : decode (mB m60) 46 = .ok (.aload 5, 2) := by decide +kernel
theorem d60_48 : decode (mB m60) 48 = .ok (.iconst 0, 1) := by decide +kernel
theorem d60_49 : decode (mB m60) 49 = .ok (.iconst 0, 1) := by decide +kernel
theorem d60_50 : decode (mB m60) 50 = .ok (.iload_n 0, 1) := by decide +kernel
theorem d60_51 : decode (mB m60) 51 = .ok (.invokevirtual 16, 3) := by decide +kernel
theorem d60_54 : decode (mB m60) 54 = .ok (.istore 6, 2) := by decide +kernel
theorem d60_56 : decode (mB m60) 56 = .ok (.aload 5, 2) := by decide +kernel
theorem d60_58 : decode (mB m60) 58 = .ok (.iconst 1, 1) := by decide +kernel
theorem d60_59 : decode (mB m60) 59 = .ok (.iconst 0, 1) := by decide +kernel
theorem d60_60 : decode (mB m60) 60 = .ok (.iload_n 1, 1) := by decide +kernel
theorem d60_61 : decode (mB m60) 61 = .ok (.invokevirtual 16, 3) := by decide +kernel
theorem d60_64 : decode (mB m60) 64 = .ok (.istore 7, 2) := by decide +kernel
theorem d60_66 : decode (mB m60) 66 = .ok (.aload 5, 2) := by decide +kernel
theorem d60_68 : decode (mB m60) 68 = .ok (.iconst 2, 1) := by decide +kernel
theorem d60_69 : decode (mB m60) 69 = .ok (.iconst 0, 1) := by decide +kernel
theorem d60_70 : decode (mB m60) 70 = .ok (.iload_n 2, 1) := by decide +kernel
theorem d60_71 : decode (mB m60) 71 = .ok (.invokevirtual 16, 3) := by decide +kernel
theorem d60_74 : decode (mB m60) 74 = .ok (.istore 8, 2) := by decide +kernel
theorem d60_76 : decode (mB m60) 76 = .ok (.aload 5, 2) := by decide +kernel
theorem d60_78 : decode (mB m60) 78 = .ok (.iconst 3, 1) := by decide +kernel
theorem d60_79 : decode (mB m60) 79 = .ok (.iconst 0, 1) := by decide +kernel
theorem d60_80 : decode (mB m60) 80 = .ok (.iload_n 3, 1) := by decide +kernel
theorem d60_81 : decode (mB m60) 81 = .ok (.invokevirtual 16, 3) := by decide +kernel
theorem d60_84 : decode (mB m60) 84 = .ok (.istore 9, 2) := by decide +kernel
theorem d60_86 : decode (mB m60) 86 = .ok (.iload_n 0, 1) := by decide +kernel
theorem d60_87 : decode (mB m60) 87 = .ok (.invokestatic 20, 3) := by decide +kernel
theorem d60_90 : decode (mB m60) 90 = .ok (.istore 10, 2) := by decide +kernel
theorem d60_92 : decode (mB m60) 92 = .ok (.iload_n 1, 1) := by decide +kernel
theorem d60_93 : decode (mB m60) 93 = .ok (.invokestatic 20, 3) := by decide +kernel
theorem d60_96 : decode (mB m60) 96 = .ok (.istore 11, 2) := by decide +kernel
theorem d60_98 : decode (mB m60) 98 = .ok (.iload_n 2, 1) := by decide +kernel
theorem d60_99 : decode (mB m60) 99 = .ok (.invokestatic 20, 3) := by decide +kernel
theorem d60_102 : decode (mB m60) 102 = .ok (.istore 12, 2) := by decide +kernel
theorem d60_104 : decode (mB m60) 104 = .ok (.iload_n 3, 1) := by decide +kernel
theorem d60_105 : decode (mB m60) 105 = .ok (.invokestatic 20, 3) := by decide +kernel
theorem d60_108 : decode (mB m60) 108 = .ok (.istore 13, 2) := by decide +kernel
theorem d60_110 : decode (mB m60) 110 = .ok (.iload 6, 2) := by decide +kernel
theorem d60_112 : decode (mB m60) 112 = .ok (.iload 10, 2) := by decide +kernel
theorem d60_114 : decode (mB m60) 114 = .ok (.if_icmp .ne 24, 3) := by decide +kernel
theorem d60_117 : decode (mB m60) 117 = .ok (.iload 7, 2) := by decide +kernel
theorem d60_119 : decode (mB m60) 119 = .ok (.iload 11, 2) := by decide +kernel
theorem d60_121 : decode (mB m60) 121 = .ok (.if_icmp .ne 17, 3) := by decide +kernel
theorem d60_124 : decode (mB m60) 124 = .ok (.iload 8, 2) := by decide +kernel
theorem d60_126 : decode (mB m60) 126 = .ok (.iload 12, 2) := by decide +kernel
theorem d60_128 : decode (mB m60) 128 = .ok (.if_icmp .ne 10, 3) := by decide +kernel
theorem d60_131 : decode (mB m60) 131 = .ok (.iload 9, 2) := by decide +kernel
theorem d60_133 : decode (mB m60) 133 = .ok (.iload 13, 2) := by decide +kernel
theorem d60_135 : decode (mB m60) 135 = .ok (.if_icmp .eq 5, 3) := by decide +kernel
theorem d60_138 : decode (mB m60) 138 = .ok (.iconst 0, 1) := by decide +kernel
theorem d60_139 : decode (mB m60) 139 = .ok (.ireturn, 1) := by decide +kernel
theorem d60_140 : decode (mB m60) 140 = .ok (.iload_n 0, 1) := by decide +kernel
theorem d60_141 : decode (mB m60) 141 = .ok (.invokestatic 26, 3) := by decide +kernel
theorem d60_144 : decode (mB m60) 144 = .ok (.istore 14, 2) := by decide +kernel
theorem d60_146 : decode (mB m60) 146 = .ok (.iload_n 1, 1) := by decide +kernel
theorem d60_147 : decode (mB m60) 147 = .ok (.invokestatic 26, 3) := by decide +kernel
theorem d60_150 : decode (mB m60) 150 = .ok (.istore 15, 2) := by decide +kernel
theorem d60_152 : decode (mB m60) 152 = .ok (.iload_n 2, 1) := by decide +kernel
theorem d60_153 : decode (mB m60) 153 = .ok (.invokestatic 26, 3) := by decide +kernel
theorem d60_156 : decode (mB m60) 156 = .ok (.istore 16, 2) := by decide +kernel
theorem d60_158 : decode (mB m60) 158 = .ok (.iload_n 3, 1) := by decide +kernel
theorem d60_159 : decode (mB m60) 159 = .ok (.invokestatic 26, 3) := by decide +kernel
theorem d60_162 : decode (mB m60) 162 = .ok (.istore 17, 2) := by decide +kernel
theorem d60_164 : decode (mB m60) 164 = .ok (.iload 4, 2) := by decide +kernel
theorem d60_166 : decode (mB m60) 166 = .ok (.ifCond .ge 7, 3) := by decide +kernel
theorem d60_169 : decode (mB m60) 169 = .ok (.iconst 0, 1) := by decide +kernel
theorem d60_170 : decode (mB m60) 170 = .ok (.goto 15, 3) := by decide +kernel
theorem d60_173 : decode (mB m60) 173 = .ok (.iload 4, 2) := by decide +kernel
theorem d60_175 : decode (mB m60) 175 = .ok (.iconst 4, 1) := by decide +kernel
theorem d60_176 : decode (mB m60) 176 = .ok (.if_icmp .le 7, 3) := by decide +kernel
theorem d60_179 : decode (mB m60) 179 = .ok (.iconst 4, 1) := by decide +kernel
theorem d60_180 : decode (mB m60) 180 = .ok (.goto 5, 3) := by decide +kernel
theorem d60_183 : decode (mB m60) 183 = .ok (.iload 4, 2) := by decide +kernel
theorem d60_185 : decode (mB m60) 185 = .ok (.istore 18, 2) := by decide +kernel
theorem d60_187 : decode (mB m60) 187 = .ok (.iconst 0, 1) := by decide +kernel
theorem d60_188 : decode (mB m60) 188 = .ok (.istore 19, 2) := by decide +kernel
theorem d60_190 : decode (mB m60) 190 = .ok (.iload 19, 2) := by decide +kernel
theorem d60_192 : decode (mB m60) 192 = .ok (.iconst 4, 1) := by decide +kernel
theorem d60_193 : decode (mB m60) 193 = .ok (.if_icmp .ge 30, 3) := by decide +kernel
theorem d60_196 : decode (mB m60) 196 = .ok (.iload 19, 2) := by decide +kernel
theorem d60_198 : decode (mB m60) 198 = .ok (.iload 18, 2) := by decide +kernel
theorem d60_200 : decode (mB m60) 200 = .ok (.if_icmp .ge 17, 3) := by decide +kernel
theorem d60_203 : decode (mB m60) 203 = .ok (.aload 5, 2) := by decide +kernel
theorem d60_205 : decode (mB m60) 205 = .ok (.invokevirtual 29, 3) := by decide +kernel
theorem d60_208 : decode (mB m60) 208 = .ok (.istore 20, 2) := by decide +kernel
theorem d60_210 : decode (mB m60) 210 = .ok (.iload 20, 2) := by decide +kernel
theorem d60_212 : decode (mB m60) 212 = .ok (.ifCond .eq 5, 3) := by decide +kernel
theorem d60_215 : decode (mB m60) 215 = .ok (.iconst 0, 1) := by decide +kernel
theorem d60_216 : decode (mB m60) 216 = .ok (.ireturn, 1) := by decide +kernel
theorem d60_217 : decode (mB m60) 217 = .ok (.iinc 19 1, 3) := by decide +kernel
theorem d60_220 : decode (mB m60) 220 = .ok (.goto (-30), 3) := by decide +kernel
theorem d60_223 : decode (mB m60) 223 = .ok (.iconst 1, 1) := by decide +kernel
theorem d60_224 : decode (mB m60) 224 = .ok (.iconst 4, 1) := by decide +kernel
theorem d60_225 : decode (mB m60) 225 = .ok (.iload 18, 2) := by decide +kernel
theorem d60_227 : decode (mB m60) 227 = .ok (.isub, 1) := by decide +kernel
theorem d60_228 : decode (mB m60) 228 = .ok (.ishl, 1) := by decide +kernel
theorem d60_229 : decode (mB m60) 229 = .ok (.iconst 1, 1) := by decide +kernel
theorem d60_230 : decode (mB m60) 230 = .ok (.isub, 1) := by decide +kernel
theorem d60_231 : decode (mB m60) 231 = .ok (.istore 19, 2) := by decide +kernel
theorem d60_233 : decode (mB m60) 233 = .ok (.bipush 15, 2) := by decide +kernel
theorem d60_235 : decode (mB m60) 235 = .ok (.istore 20, 2) := by decide +kernel
theorem d60_237 : decode (mB m60) 237 = .ok (.iconst 0, 1) := by decide +kernel
theorem d60_238 : decode (mB m60) 238 = .ok (.istore 21, 2) := by decide +kernel
theorem d60_240 : decode (mB m60) 240 = .ok (.iload 21, 2) := by decide +kernel
theorem d60_242 : decode (mB m60) 242 = .ok (.iconst 4, 1) := by decide +kernel
theorem d60_243 : decode (mB m60) 243 = .ok (.if_icmp .ge 115, 3) := by decide +kernel
theorem d60_246 : decode (mB m60) 246 = .ok (.iconst 0, 1) := by decide +kernel
theorem d60_247 : decode (mB m60) 247 = .ok (.istore 22, 2) := by decide +kernel
theorem d60_249 : decode (mB m60) 249 = .ok (.iload 22, 2) := by decide +kernel
theorem d60_251 : decode (mB m60) 251 = .ok (.iconst 4, 1) := by decide +kernel
theorem d60_252 : decode (mB m60) 252 = .ok (.if_icmp .ge 100, 3) := by decide +kernel
theorem d60_255 : decode (mB m60) 255 = .ok (.iload 20, 2) := by decide +kernel
theorem d60_257 : decode (mB m60) 257 = .ok (.iload 22, 2) := by decide +kernel
theorem d60_259 : decode (mB m60) 259 = .ok (.ishr, 1) := by decide +kernel
theorem d60_260 : decode (mB m60) 260 = .ok (.iconst 1, 1) := by decide +kernel
theorem d60_261 : decode (mB m60) 261 = .ok (.iand, 1) := by decide +kernel
theorem d60_262 : decode (mB m60) 262 = .ok (.iconst 1, 1) := by decide +kernel
theorem d60_263 : decode (mB m60) 263 = .ok (.if_icmp .ne 83, 3) := by decide +kernel
theorem d60_266 : decode (mB m60) 266 = .ok (.iload 19, 2) := by decide +kernel
theorem d60_268 : decode (mB m60) 268 = .ok (.iload 22, 2) := by decide +kernel
theorem d60_270 : decode (mB m60) 270 = .ok (.ishr, 1) := by decide +kernel
theorem d60_271 : decode (mB m60) 271 = .ok (.iconst 1, 1) := by decide +kernel
theorem d60_272 : decode (mB m60) 272 = .ok (.iand, 1) := by decide +kernel
theorem d60_273 : decode (mB m60) 273 = .ok (.ifCond .ne 73, 3) := by decide +kernel
theorem d60_276 : decode (mB m60) 276 = .ok (.iconst 0, 1) := by decide +kernel
theorem d60_277 : decode (mB m60) 277 = .ok (.istore 23, 2) := by decide +kernel
theorem d60_279 : decode (mB m60) 279 = .ok (.iconst 0, 1) := by decide +kernel
theorem d60_280 : decode (mB m60) 280 = .ok (.istore 24, 2) := by decide +kernel
theorem d60_282 : decode (mB m60) 282 = .ok (.iload 24, 2) := by decide +kernel
theorem d60_284 : decode (mB m60) 284 = .ok (.iconst 4, 1) := by decide +kernel
theorem d60_285 : decode (mB m60) 285 = .ok (.if_icmp .ge 45, 3) := by decide +kernel
theorem d60_288 : decode (mB m60) 288 = .ok (.iload 24, 2) := by decide +kernel
theorem d60_290 : decode (mB m60) 290 = .ok (.iload 14, 2) := by decide +kernel
theorem d60_292 : decode (mB m60) 292 = .ok (.iload 15, 2) := by decide +kernel
theorem d60_294 : decode (mB m60) 294 = .ok (.iload 16, 2) := by decide +kernel
theorem d60_296 : decode (mB m60) 296 = .ok (.iload 17, 2) := by decide +kernel
theorem d60_298 : decode (mB m60) 298 = .ok (.invokestatic 32, 3) := by decide +kernel
theorem d60_301 : decode (mB m60) 301 = .ok (.istore 25, 2) := by decide +kernel
theorem d60_303 : decode (mB m60) 303 = .ok (.iload 20, 2) := by decide +kernel
theorem d60_305 : decode (mB m60) 305 = .ok (.iload 24, 2) := by decide +kernel
theorem d60_307 : decode (mB m60) 307 = .ok (.ishr, 1) := by decide +kernel
theorem d60_308 : decode (mB m60) 308 = .ok (.iconst 1, 1) := by decide +kernel
theorem d60_309 : decode (mB m60) 309 = .ok (.iand, 1) := by decide +kernel
theorem d60_310 : decode (mB m60) 310 = .ok (.iconst 1, 1) := by decide +kernel
theorem d60_311 : decode (mB m60) 311 = .ok (.if_icmp .ne 13, 3) := by decide +kernel
theorem d60_314 : decode (mB m60) 314 = .ok (.iload 25, 2) := by decide +kernel
theorem d60_316 : decode (mB m60) 316 = .ok (.iload 22, 2) := by decide +kernel
theorem d60_318 : decode (mB m60) 318 = .ok (.if_icmp .ne 6, 3) := by decide +kernel
theorem d60_321 : decode (mB m60) 321 = .ok (.iconst 1, 1) := by decide +kernel
theorem d60_322 : decode (mB m60) 322 = .ok (.istore 23, 2) := by decide +kernel
theorem d60_324 : decode (mB m60) 324 = .ok (.iinc 24 1, 3) := by decide +kernel
theorem d60_327 : decode (mB m60) 327 = .ok (.goto (-45), 3) := by decide +kernel
theorem d60_330 : decode (mB m60) 330 = .ok (.iload 23, 2) := by decide +kernel
theorem d60_332 : decode (mB m60) 332 = .ok (.ifCond .ne 14, 3) := by decide +kernel
theorem d60_335 : decode (mB m60) 335 = .ok (.iload 20, 2) := by decide +kernel
theorem d60_337 : decode (mB m60) 337 = .ok (.iconst 1, 1) := by decide +kernel
theorem d60_338 : decode (mB m60) 338 = .ok (.iload 22, 2) := by decide +kernel
theorem d60_340 : decode (mB m60) 340 = .ok (.ishl, 1) := by decide +kernel
theorem d60_341 : decode (mB m60) 341 = .ok (.iconst (-1), 1) := by decide +kernel
theorem d60_342 : decode (mB m60) 342 = .ok (.ixor, 1) := by decide +kernel
theorem d60_343 : decode (mB m60) 343 = .ok (.iand, 1) := by decide +kernel
theorem d60_344 : decode (mB m60) 344 = .ok (.istore 20, 2) := by decide +kernel
theorem d60_346 : decode (mB m60) 346 = .ok (.iinc 22 1, 3) := by decide +kernel
theorem d60_349 : decode (mB m60) 349 = .ok (.goto (-100), 3) := by decide +kernel
theorem d60_352 : decode (mB m60) 352 = .ok (.iinc 21 1, 3) := by decide +kernel
theorem d60_355 : decode (mB m60) 355 = .ok (.goto (-115), 3) := by decide +kernel
theorem d60_358 : decode (mB m60) 358 = .ok (.aload 5, 2) := by decide +kernel
theorem d60_360 : decode (mB m60) 360 = .ok (.invokevirtual 36, 3) := by decide +kernel
theorem d60_363 : decode (mB m60) 363 = .ok (.istore 21, 2) := by decide +kernel
theorem d60_365 : decode (mB m60) 365 = .ok (.iconst 0, 1) := by decide +kernel
theorem d60_366 : decode (mB m60) 366 = .ok (.istore 22, 2) := by decide +kernel
theorem d60_368 : decode (mB m60) 368 = .ok (.iconst 0, 1) := by decide +kernel
theorem d60_369 : decode (mB m60) 369 = .ok (.istore 23, 2) := by decide +kernel
theorem d60_371 : decode (mB m60) 371 = .ok (.iconst 0, 1) := by decide +kernel
theorem d60_372 : decode (mB m60) 372 = .ok (.istore 24, 2) := by decide +kernel
theorem d60_374 : decode (mB m60) 374 = .ok (.iconst 0, 1) := by decide +kernel
theorem d60_375 : decode (mB m60) 375 = .ok (.istore 25, 2) := by decide +kernel
theorem d60_377 : decode (mB m60) 377 = .ok (.iload 25, 2) := by decide +kernel
theorem d60_379 : decode (mB m60) 379 = .ok (.iconst 4, 1) := by decide +kernel
theorem d60_380 : decode (mB m60) 380 = .ok (.if_icmp .ge 214, 3) := by decide +kernel
theorem d60_383 : decode (mB m60) 383 = .ok (.iload 20, 2) := by decide +kernel
theorem d60_385 : decode (mB m60) 385 = .ok (.iload 25, 2) := by decide +kernel
theorem d60_387 : decode (mB m60) 387 = .ok (.ishr, 1) := by decide +kernel
theorem d60_388 : decode (mB m60) 388 = .ok (.iconst 1, 1) := by decide +kernel
theorem d60_389 : decode (mB m60) 389 = .ok (.iand, 1) := by decide +kernel
theorem d60_390 : decode (mB m60) 390 = .ok (.iconst 1, 1) := by decide +kernel
theorem d60_391 : decode (mB m60) 391 = .ok (.if_icmp .ne 7, 3) := by decide +kernel
theorem d60_394 : decode (mB m60) 394 = .ok (.iconst 1, 1) := by decide +kernel
theorem d60_395 : decode (mB m60) 395 = .ok (.goto 4, 3) := by decide +kernel
theorem d60_398 : decode (mB m60) 398 = .ok (.iconst 0, 1) := by decide +kernel
theorem d60_399 : decode (mB m60) 399 = .ok (.istore 26, 2) := by decide +kernel
theorem d60_401 : decode (mB m60) 401 = .ok (.iconst 0, 1) := by decide +kernel
theorem d60_402 : decode (mB m60) 402 = .ok (.istore 27, 2) := by decide +kernel
theorem d60_404 : decode (mB m60) 404 = .ok (.iconst 0, 1) := by decide +kernel
theorem d60_405 : decode (mB m60) 405 = .ok (.istore 28, 2) := by decide +kernel
theorem d60_407 : decode (mB m60) 407 = .ok (.iload 28, 2) := by decide +kernel
theorem d60_409 : decode (mB m60) 409 = .ok (.iconst 4, 1) := by decide +kernel
theorem d60_410 : decode (mB m60) 410 = .ok (.if_icmp .ge 45, 3) := by decide +kernel
theorem d60_413 : decode (mB m60) 413 = .ok (.iload 28, 2) := by decide +kernel
theorem d60_415 : decode (mB m60) 415 = .ok (.iload 14, 2) := by decide +kernel
theorem d60_417 : decode (mB m60) 417 = .ok (.iload 15, 2) := by decide +kernel
theorem d60_419 : decode (mB m60) 419 = .ok (.iload 16, 2) := by decide +kernel
theorem d60_421 : decode (mB m60) 421 = .ok (.iload 17, 2) := by decide +kernel
theorem d60_423 : decode (mB m60) 423 = .ok (.invokestatic 32, 3) := by decide +kernel
theorem d60_426 : decode (mB m60) 426 = .ok (.istore 29, 2) := by decide +kernel
theorem d60_428 : decode (mB m60) 428 = .ok (.iload 20, 2) := by decide +kernel
theorem d60_430 : decode (mB m60) 430 = .ok (.iload 28, 2) := by decide +kernel
theorem d60_432 : decode (mB m60) 432 = .ok (.ishr, 1) := by decide +kernel
theorem d60_433 : decode (mB m60) 433 = .ok (.iconst 1, 1) := by decide +kernel
theorem d60_434 : decode (mB m60) 434 = .ok (.iand, 1) := by decide +kernel
theorem d60_435 : decode (mB m60) 435 = .ok (.iconst 1, 1) := by decide +kernel
theorem d60_436 : decode (mB m60) 436 = .ok (.if_icmp .ne 13, 3) := by decide +kernel
theorem d60_439 : decode (mB m60) 439 = .ok (.iload 29, 2) := by decide +kernel
theorem d60_441 : decode (mB m60) 441 = .ok (.iload 25, 2) := by decide +kernel
theorem d60_443 : decode (mB m60) 443 = .ok (.if_icmp .ne 6, 3) := by decide +kernel
theorem d60_446 : decode (mB m60) 446 = .ok (.iinc 27 1, 3) := by decide +kernel
theorem d60_449 : decode (mB m60) 449 = .ok (.iinc 28 1, 3) := by decide +kernel
theorem d60_452 : decode (mB m60) 452 = .ok (.goto (-45), 3) := by decide +kernel
theorem d60_455 : decode (mB m60) 455 = .ok (.iload 25, 2) := by decide +kernel
theorem d60_457 : decode (mB m60) 457 = .ok (.iload 14, 2) := by decide +kernel
theorem d60_459 : decode (mB m60) 459 = .ok (.iload 15, 2) := by decide +kernel
theorem d60_461 : decode (mB m60) 461 = .ok (.iload 16, 2) := by decide +kernel
theorem d60_463 : decode (mB m60) 463 = .ok (.iload 17, 2) := by decide +kernel
theorem d60_465 : decode (mB m60) 465 = .ok (.invokestatic 32, 3) := by decide +kernel
theorem d60_468 : decode (mB m60) 468 = .ok (.istore 28, 2) := by decide +kernel
theorem d60_470 : decode (mB m60) 470 = .ok (.aload 5, 2) := by decide +kernel
theorem d60_472 : decode (mB m60) 472 = .ok (.iload 25, 2) := by decide +kernel
theorem d60_474 : decode (mB m60) 474 = .ok (.invokevirtual 39, 3) := by decide +kernel
theorem d60_477 : decode (mB m60) 477 = .ok (.istore 29, 2) := by decide +kernel
theorem d60_479 : decode (mB m60) 479 = .ok (.aload 5, 2) := by decide +kernel
theorem d60_481 : decode (mB m60) 481 = .ok (.iload 25, 2) := by decide +kernel
theorem d60_483 : decode (mB m60) 483 = .ok (.invokevirtual 43, 3) := by decide +kernel
theorem d60_486 : decode (mB m60) 486 = .ok (.istore 30, 2) := by decide +kernel
theorem d60_488 : decode (mB m60) 488 = .ok (.aload 5, 2) := by decide +kernel
theorem d60_490 : decode (mB m60) 490 = .ok (.iload 25, 2) := by decide +kernel
theorem d60_492 : decode (mB m60) 492 = .ok (.iconst 0, 1) := by decide +kernel
theorem d60_493 : decode (mB m60) 493 = .ok (.invokevirtual 46, 3) := by decide +kernel
theorem d60_496 : decode (mB m60) 496 = .ok (.istore 31, 2) := by decide +kernel
theorem d60_498 : decode (mB m60) 498 = .ok (.aload 5, 2) := by decide +kernel
theorem d60_500 : decode (mB m60) 500 = .ok (.iload 25, 2) := by decide +kernel
theorem d60_502 : decode (mB m60) 502 = .ok (.invokevirtual 50, 3) := by decide +kernel
theorem d60_505 : decode (mB m60) 505 = .ok (.istore 32, 2) := by decide +kernel
theorem d60_507 : decode (mB m60) 507 = .ok (.iload 26, 2) := by decide +kernel
theorem d60_509 : decode (mB m60) 509 = .ok (.ifCond .eq 50, 3) := by decide +kernel
theorem d60_512 : decode (mB m60) 512 = .ok (.iinc 24 1, 3) := by decide +kernel
theorem d60_515 : decode (mB m60) 515 = .ok (.iload 27, 2) := by decide +kernel
theorem d60_517 : decode (mB m60) 517 = .ok (.ifCond .ne 6, 3) := by decide +kernel
theorem d60_520 : decode (mB m60) 520 = .ok (.iinc 23 1, 3) := by decide +kernel
theorem d60_523 : decode (mB m60) 523 = .ok (.iload 29, 2) := by decide +kernel
theorem d60_525 : decode (mB m60) 525 = .ok (.ifCond .eq 32, 3) := by decide +kernel
theorem d60_528 : decode (mB m60) 528 = .ok (.iload 30, 2) := by decide +kernel
theorem d60_530 : decode (mB m60) 530 = .ok (.iload 27, 2) := by decide +kernel
theorem d60_532 : decode (mB m60) 532 = .ok (.if_icmp .ne 25, 3) := by decide +kernel
theorem d60_535 : decode (mB m60) 535 = .ok (.iload 31, 2) := by decide +kernel
theorem d60_537 : decode (mB m60) 537 = .ok (.iload 28, 2) := by decide +kernel
theorem d60_539 : decode (mB m60) 539 = .ok (.if_icmp .ne 18, 3) := by decide +kernel
theorem d60_542 : decode (mB m60) 542 = .ok (.iload 32, 2) := by decide +kernel
theorem d60_544 : decode (mB m60) 544 = .ok (.iload 27, 2) := by decide +kernel
theorem d60_546 : decode (mB m60) 546 = .ok (.ifCond .ne 7, 3) := by decide +kernel
theorem d60_549 : decode (mB m60) 549 = .ok (.iconst 1, 1) := by decide +kernel
theorem d60_550 : decode (mB m60) 550 = .ok (.goto 4, 3) := by decide +kernel
theorem d60_553 : decode (mB m60) 553 = .ok (.iconst 0, 1) := by decide +kernel
theorem d60_554 : decode (mB m60) 554 = .ok (.if_icmp .eq 34, 3) := by decide +kernel
theorem d60_557 : decode (mB m60) 557 = .ok (.iconst 0, 1) := by decide +kernel
theorem d60_558 : decode (mB m60) 558 = .ok (.ireturn, 1) := by decide +kernel
theorem d60_559 : decode (mB m60) 559 = .ok (.iinc 22 1, 3) := by decide +kernel
theorem d60_562 : decode (mB m60) 562 = .ok (.iload 29, 2) := by decide +kernel
theorem d60_564 : decode (mB m60) 564 = .ok (.ifCond .ne 22, 3) := by decide +kernel
theorem d60_567 : decode (mB m60) 567 = .ok (.iload 30, 2) := by decide +kernel
theorem d60_569 : decode (mB m60) 569 = .ok (.bipush (-8), 2) := by decide +kernel
theorem d60_571 : decode (mB m60) 571 = .ok (.if_icmp .ne 15, 3) := by decide +kernel
theorem d60_574 : decode (mB m60) 574 = .ok (.iload 31, 2) := by decide +kernel
theorem d60_576 : decode (mB m60) 576 = .ok (.bipush (-8), 2) := by decide +kernel
theorem d60_578 : decode (mB m60) 578 = .ok (.if_icmp .ne 8, 3) := by decide +kernel
theorem d60_581 : decode (mB m60) 581 = .ok (.iload 32, 2) := by decide +kernel
theorem d60_583 : decode (mB m60) 583 = .ok (.ifCond .eq 5, 3) := by decide +kernel
theorem d60_586 : decode (mB m60) 586 = .ok (.iconst 0, 1) := by decide +kernel
theorem d60_587 : decode (mB m60) 587 = .ok (.ireturn, 1) := by decide +kernel
theorem d60_588 : decode (mB m60) 588 = .ok (.iinc 25 1, 3) := by decide +kernel
theorem d60_591 : decode (mB m60) 591 = .ok (.goto (-214), 3) := by decide +kernel
theorem d60_594 : decode (mB m60) 594 = .ok (.aload 5, 2) := by decide +kernel
theorem d60_596 : decode (mB m60) 596 = .ok (.invokevirtual 53, 3) := by decide +kernel
theorem d60_599 : decode (mB m60) 599 = .ok (.istore 25, 2) := by decide +kernel
theorem d60_601 : decode (mB m60) 601 = .ok (.aload 5, 2) := by decide +kernel
theorem d60_603 : decode (mB m60) 603 = .ok (.invokevirtual 56, 3) := by decide +kernel
theorem d60_606 : decode (mB m60) 606 = .ok (.istore 26, 2) := by decide +kernel
theorem d60_608 : decode (mB m60) 608 = .ok (.aload 5, 2) := by decide +kernel
theorem d60_610 : decode (mB m60) 610 = .ok (.invokevirtual 59, 3) := by decide +kernel
theorem d60_613 : decode (mB m60) 613 = .ok (.istore 27, 2) := by decide +kernel
theorem d60_615 : decode (mB m60) 615 = .ok (.iload 21, 2) := by decide +kernel
theorem d60_617 : decode (mB m60) 617 = .ok (.iload 22, 2) := by decide +kernel
theorem d60_619 : decode (mB m60) 619 = .ok (.if_icmp .ne 27, 3) := by decide +kernel
theorem d60_622 : decode (mB m60) 622 = .ok (.iload 25, 2) := by decide +kernel
theorem d60_624 : decode (mB m60) 624 = .ok (.iload 24, 2) := by decide +kernel
theorem d60_626 : decode (mB m60) 626 = .ok (.if_icmp .ne 20, 3) := by decide +kernel
theorem d60_629 : decode (mB m60) 629 = .ok (.iload 26, 2) := by decide +kernel
theorem d60_631 : decode (mB m60) 631 = .ok (.iload 23, 2) := by decide +kernel
theorem d60_633 : decode (mB m60) 633 = .ok (.if_icmp .ne 13, 3) := by decide +kernel
theorem d60_636 : decode (mB m60) 636 = .ok (.iload 27, 2) := by decide +kernel
theorem d60_638 : decode (mB m60) 638 = .ok (.iconst 1, 1) := by decide +kernel
theorem d60_639 : decode (mB m60) 639 = .ok (.if_icmp .ne 7, 3) := by decide +kernel
theorem d60_642 : decode (mB m60) 642 = .ok (.iconst 1, 1) := by decide +kernel
theorem d60_643 : decode (mB m60) 643 = .ok (.goto 4, 3) := by decide +kernel
theorem d60_646 : decode (mB m60) 646 = .ok (.iconst 0, 1) := by decide +kernel
theorem d60_647 : decode (mB m60) 647 = .ok (.ireturn, 1) := by decide +kernel
theorem cb_m8 : (-8 : Int32) = (Int8.ofInt (-8)).toInt32 := by decide
theorem cb_m7 : (-7 : Int32) = (Int8.ofInt (-7)).toInt32 := by decide
theorem cb_m6 : (-6 : Int32) = (Int8.ofInt (-6)).toInt32 := by decide
theorem cb_m5 : (-5 : Int32) = (Int8.ofInt (-5)).toInt32 := by decide
theorem cb_m4 : (-4 : Int32) = (Int8.ofInt (-4)).toInt32 := by decide
theorem cb_m3 : (-3 : Int32) = (Int8.ofInt (-3)).toInt32 := by decide
theorem cb_m2 : (-2 : Int32) = (Int8.ofInt (-2)).toInt32 := by decide
theorem cb_8 : (8 : Int32) = (Int8.ofInt (8)).toInt32 := by decide
theorem cb_15 : (15 : Int32) = (Int8.ofInt (15)).toInt32 := by decide
theorem cb_16 : (16 : Int32) = (Int8.ofInt (16)).toInt32 := by decide
theorem cb_64 : (64 : Int32) = (Int8.ofInt (64)).toInt32 := by decide
theorem ci_m1 : (-1 : Int32) = Int32.ofInt (-1) := by decide
theorem ci_0 : (0 : Int32) = Int32.ofInt (0) := by decide
theorem ci_1 : (1 : Int32) = Int32.ofInt (1) := by decide
theorem ci_2 : (2 : Int32) = Int32.ofInt (2) := by decide
theorem ci_3 : (3 : Int32) = Int32.ofInt (3) := by decide
theorem ci_4 : (4 : Int32) = Int32.ofInt (4) := by decide
theorem cs_256 : (256 : Int32) = (Int16.ofInt (256)).toInt32 := by decide
theorem j_1_7 : 0 ≤ ((1 : Nat) : Int) + (7) ∧ (((1 : Nat) : Int) + (7)).toNat = 8 := by decide
theorem j_1_9 : 0 ≤ ((1 : Nat) : Int) + (9) ∧ (((1 : Nat) : Int) + (9)).toNat = 10 := by decide
theorem j_1_12 : 0 ≤ ((1 : Nat) : Int) + (12) ∧ (((1 : Nat) : Int) + (12)).toNat = 13 := by decide
theorem j_1_15 : 0 ≤ ((1 : Nat) : Int) + (15) ∧ (((1 : Nat) : Int) + (15)).toNat = 16 := by decide
theorem j_2_4 : 0 ≤ ((2 : Nat) : Int) + (4) ∧ (((2 : Nat) : Int) + (4)).toNat = 6 := by decide
theorem j_2_5 : 0 ≤ ((2 : Nat) : Int) + (5) ∧ (((2 : Nat) : Int) + (5)).toNat = 7 := by decide
theorem j_2_12 : 0 ≤ ((2 : Nat) : Int) + (12) ∧ (((2 : Nat) : Int) + (12)).toNat = 14 := by decide
theorem j_4_4 : 0 ≤ ((4 : Nat) : Int) + (4) ∧ (((4 : Nat) : Int) + (4)).toNat = 8 := by decide
theorem j_4_5 : 0 ≤ ((4 : Nat) : Int) + (5) ∧ (((4 : Nat) : Int) + (5)).toNat = 9 := by decide
theorem j_4_6 : 0 ≤ ((4 : Nat) : Int) + (6) ∧ (((4 : Nat) : Int) + (6)).toNat = 10 := by decide
theorem j_5_4 : 0 ≤ ((5 : Nat) : Int) + (4) ∧ (((5 : Nat) : Int) + (4)).toNat = 9 := by decide
theorem j_5_5 : 0 ≤ ((5 : Nat) : Int) + (5) ∧ (((5 : Nat) : Int) + (5)).toNat = 10 := by decide
theorem j_5_6 : 0 ≤ ((5 : Nat) : Int) + (6) ∧ (((5 : Nat) : Int) + (6)).toNat = 11 := by decide
theorem j_5_16 : 0 ≤ ((5 : Nat) : Int) + (16) ∧ (((5 : Nat) : Int) + (16)).toNat = 21 := by decide
theorem j_5_17 : 0 ≤ ((5 : Nat) : Int) + (17) ∧ (((5 : Nat) : Int) + (17)).toNat = 22 := by decide
theorem j_5_23 : 0 ≤ ((5 : Nat) : Int) + (23) ∧ (((5 : Nat) : Int) + (23)).toNat = 28 := by decide
theorem j_5_26 : 0 ≤ ((5 : Nat) : Int) + (26) ∧ (((5 : Nat) : Int) + (26)).toNat = 31 := by decide
theorem j_5_28 : 0 ≤ ((5 : Nat) : Int) + (28) ∧ (((5 : Nat) : Int) + (28)).toNat = 33 := by decide
theorem j_5_44 : 0 ≤ ((5 : Nat) : Int) + (44) ∧ (((5 : Nat) : Int) + (44)).toNat = 49 := by decide
theorem j_5_51 : 0 ≤ ((5 : Nat) : Int) + (51) ∧ (((5 : Nat) : Int) + (51)).toNat = 56 := by decide
theorem j_5_56 : 0 ≤ ((5 : Nat) : Int) + (56) ∧ (((5 : Nat) : Int) + (56)).toNat = 61 := by decide
theorem j_6_4 : 0 ≤ ((6 : Nat) : Int) + (4) ∧ (((6 : Nat) : Int) + (4)).toNat = 10 := by decide
theorem j_6_7 : 0 ≤ ((6 : Nat) : Int) + (7) ∧ (((6 : Nat) : Int) + (7)).toNat = 13 := by decide
theorem j_7_4 : 0 ≤ ((7 : Nat) : Int) + (4) ∧ (((7 : Nat) : Int) + (4)).toNat = 11 := by decide
theorem j_7_7 : 0 ≤ ((7 : Nat) : Int) + (7) ∧ (((7 : Nat) : Int) + (7)).toNat = 14 := by decide
theorem j_7_20 : 0 ≤ ((7 : Nat) : Int) + (20) ∧ (((7 : Nat) : Int) + (20)).toNat = 27 := by decide
theorem j_7_29 : 0 ≤ ((7 : Nat) : Int) + (29) ∧ (((7 : Nat) : Int) + (29)).toNat = 36 := by decide
theorem j_7_38 : 0 ≤ ((7 : Nat) : Int) + (38) ∧ (((7 : Nat) : Int) + (38)).toNat = 45 := by decide
theorem j_7_60 : 0 ≤ ((7 : Nat) : Int) + (60) ∧ (((7 : Nat) : Int) + (60)).toNat = 67 := by decide
theorem j_8_7 : 0 ≤ ((8 : Nat) : Int) + (7) ∧ (((8 : Nat) : Int) + (7)).toNat = 15 := by decide
theorem j_8_12 : 0 ≤ ((8 : Nat) : Int) + (12) ∧ (((8 : Nat) : Int) + (12)).toNat = 20 := by decide
theorem j_9_5 : 0 ≤ ((9 : Nat) : Int) + (5) ∧ (((9 : Nat) : Int) + (5)).toNat = 14 := by decide
theorem j_9_7 : 0 ≤ ((9 : Nat) : Int) + (7) ∧ (((9 : Nat) : Int) + (7)).toNat = 16 := by decide
theorem j_9_36 : 0 ≤ ((9 : Nat) : Int) + (36) ∧ (((9 : Nat) : Int) + (36)).toNat = 45 := by decide
theorem j_10_4 : 0 ≤ ((10 : Nat) : Int) + (4) ∧ (((10 : Nat) : Int) + (4)).toNat = 14 := by decide
theorem j_10_7 : 0 ≤ ((10 : Nat) : Int) + (7) ∧ (((10 : Nat) : Int) + (7)).toNat = 17 := by decide
theorem j_11_4 : 0 ≤ ((11 : Nat) : Int) + (4) ∧ (((11 : Nat) : Int) + (4)).toNat = 15 := by decide
theorem j_11_5 : 0 ≤ ((11 : Nat) : Int) + (5) ∧ (((11 : Nat) : Int) + (5)).toNat = 16 := by decide
theorem j_11_6 : 0 ≤ ((11 : Nat) : Int) + (6) ∧ (((11 : Nat) : Int) + (6)).toNat = 17 := by decide
theorem j_11_33 : 0 ≤ ((11 : Nat) : Int) + (33) ∧ (((11 : Nat) : Int) + (33)).toNat = 44 := by decide
theorem j_12_4 : 0 ≤ ((12 : Nat) : Int) + (4) ∧ (((12 : Nat) : Int) + (4)).toNat = 16 := by decide
theorem j_12_5 : 0 ≤ ((12 : Nat) : Int) + (5) ∧ (((12 : Nat) : Int) + (5)).toNat = 17 := by decide
theorem j_12_22 : 0 ≤ ((12 : Nat) : Int) + (22) ∧ (((12 : Nat) : Int) + (22)).toNat = 34 := by decide
theorem j_12_49 : 0 ≤ ((12 : Nat) : Int) + (49) ∧ (((12 : Nat) : Int) + (49)).toNat = 61 := by decide
theorem j_13_4 : 0 ≤ ((13 : Nat) : Int) + (4) ∧ (((13 : Nat) : Int) + (4)).toNat = 17 := by decide
theorem j_14_4 : 0 ≤ ((14 : Nat) : Int) + (4) ∧ (((14 : Nat) : Int) + (4)).toNat = 18 := by decide
theorem j_14_7 : 0 ≤ ((14 : Nat) : Int) + (7) ∧ (((14 : Nat) : Int) + (7)).toNat = 21 := by decide
theorem j_14_8 : 0 ≤ ((14 : Nat) : Int) + (8) ∧ (((14 : Nat) : Int) + (8)).toNat = 22 := by decide
theorem j_14_14 : 0 ≤ ((14 : Nat) : Int) + (14) ∧ (((14 : Nat) : Int) + (14)).toNat = 28 := by decide
theorem j_14_17 : 0 ≤ ((14 : Nat) : Int) + (17) ∧ (((14 : Nat) : Int) + (17)).toNat = 31 := by decide
theorem j_15_4 : 0 ≤ ((15 : Nat) : Int) + (4) ∧ (((15 : Nat) : Int) + (4)).toNat = 19 := by decide
theorem j_15_5 : 0 ≤ ((15 : Nat) : Int) + (5) ∧ (((15 : Nat) : Int) + (5)).toNat = 20 := by decide
theorem j_16_5 : 0 ≤ ((16 : Nat) : Int) + (5) ∧ (((16 : Nat) : Int) + (5)).toNat = 21 := by decide
theorem j_16_6 : 0 ≤ ((16 : Nat) : Int) + (6) ∧ (((16 : Nat) : Int) + (6)).toNat = 22 := by decide
theorem j_17_4 : 0 ≤ ((17 : Nat) : Int) + (4) ∧ (((17 : Nat) : Int) + (4)).toNat = 21 := by decide
theorem j_17_5 : 0 ≤ ((17 : Nat) : Int) + (5) ∧ (((17 : Nat) : Int) + (5)).toNat = 22 := by decide
theorem j_17_7 : 0 ≤ ((17 : Nat) : Int) + (7) ∧ (((17 : Nat) : Int) + (7)).toNat = 24 := by decide
theorem j_18_m16 : 0 ≤ ((18 : Nat) : Int) + (-16) ∧ (((18 : Nat) : Int) + (-16)).toNat = 2 := by decide
theorem j_18_4 : 0 ≤ ((18 : Nat) : Int) + (4) ∧ (((18 : Nat) : Int) + (4)).toNat = 22 := by decide
theorem j_18_21 : 0 ≤ ((18 : Nat) : Int) + (21) ∧ (((18 : Nat) : Int) + (21)).toNat = 39 := by decide
theorem j_19_5 : 0 ≤ ((19 : Nat) : Int) + (5) ∧ (((19 : Nat) : Int) + (5)).toNat = 24 := by decide
theorem j_19_7 : 0 ≤ ((19 : Nat) : Int) + (7) ∧ (((19 : Nat) : Int) + (7)).toNat = 26 := by decide
theorem j_19_18 : 0 ≤ ((19 : Nat) : Int) + (18) ∧ (((19 : Nat) : Int) + (18)).toNat = 37 := by decide
theorem j_20_8 : 0 ≤ ((20 : Nat) : Int) + (8) ∧ (((20 : Nat) : Int) + (8)).toNat = 28 := by decide
theorem j_20_18 : 0 ≤ ((20 : Nat) : Int) + (18) ∧ (((20 : Nat) : Int) + (18)).toNat = 38 := by decide
theorem j_21_4 : 0 ≤ ((21 : Nat) : Int) + (4) ∧ (((21 : Nat) : Int) + (4)).toNat = 25 := by decide
theorem j_21_25 : 0 ≤ ((21 : Nat) : Int) + (25) ∧ (((21 : Nat) : Int) + (25)).toNat = 46 := by decide
theorem j_22_8 : 0 ≤ ((22 : Nat) : Int) + (8) ∧ (((22 : Nat) : Int) + (8)).toNat = 30 := by decide
theorem j_22_17 : 0 ≤ ((22 : Nat) : Int) + (17) ∧ (((22 : Nat) : Int) + (17)).toNat = 39 := by decide
theorem j_22_39 : 0 ≤ ((22 : Nat) : Int) + (39) ∧ (((22 : Nat) : Int) + (39)).toNat = 61 := by decide
theorem j_23_5 : 0 ≤ ((23 : Nat) : Int) + (5) ∧ (((23 : Nat) : Int) + (5)).toNat = 28 := by decide
theorem j_24_m22 : 0 ≤ ((24 : Nat) : Int) + (-22) ∧ (((24 : Nat) : Int) + (-22)).toNat = 2 := by decide
theorem j_26_16 : 0 ≤ ((26 : Nat) : Int) + (16) ∧ (((26 : Nat) : Int) + (16)).toNat = 42 := by decide
theorem j_27_5 : 0 ≤ ((27 : Nat) : Int) + (5) ∧ (((27 : Nat) : Int) + (5)).toNat = 32 := by decide
theorem j_27_6 : 0 ≤ ((27 : Nat) : Int) + (6) ∧ (((27 : Nat) : Int) + (6)).toNat = 33 := by decide
theorem j_27_12 : 0 ≤ ((27 : Nat) : Int) + (12) ∧ (((27 : Nat) : Int) + (12)).toNat = 39 := by decide
theorem j_28_23 : 0 ≤ ((28 : Nat) : Int) + (23) ∧ (((28 : Nat) : Int) + (23)).toNat = 51 := by decide
theorem j_28_37 : 0 ≤ ((28 : Nat) : Int) + (37) ∧ (((28 : Nat) : Int) + (37)).toNat = 65 := by decide
theorem j_29_6 : 0 ≤ ((29 : Nat) : Int) + (6) ∧ (((29 : Nat) : Int) + (6)).toNat = 35 := by decide
theorem j_29_9 : 0 ≤ ((29 : Nat) : Int) + (9) ∧ (((29 : Nat) : Int) + (9)).toNat = 38 := by decide
theorem j_30_m28 : 0 ≤ ((30 : Nat) : Int) + (-28) ∧ (((30 : Nat) : Int) + (-28)).toNat = 2 := by decide
theorem j_30_4 : 0 ≤ ((30 : Nat) : Int) + (4) ∧ (((30 : Nat) : Int) + (4)).toNat = 34 := by decide
theorem j_30_12 : 0 ≤ ((30 : Nat) : Int) + (12) ∧ (((30 : Nat) : Int) + (12)).toNat = 42 := by decide
theorem j_31_m24 : 0 ≤ ((31 : Nat) : Int) + (-24) ∧ (((31 : Nat) : Int) + (-24)).toNat = 7 := by decide
theorem j_31_5 : 0 ≤ ((31 : Nat) : Int) + (5) ∧ (((31 : Nat) : Int) + (5)).toNat = 36 := by decide
theorem j_31_30 : 0 ≤ ((31 : Nat) : Int) + (30) ∧ (((31 : Nat) : Int) + (30)).toNat = 61 := by decide
theorem j_32_16 : 0 ≤ ((32 : Nat) : Int) + (16) ∧ (((32 : Nat) : Int) + (16)).toNat = 48 := by decide
theorem j_33_m31 : 0 ≤ ((33 : Nat) : Int) + (-31) ∧ (((33 : Nat) : Int) + (-31)).toNat = 2 := by decide
theorem j_34_m17 : 0 ≤ ((34 : Nat) : Int) + (-17) ∧ (((34 : Nat) : Int) + (-17)).toNat = 17 := by decide
theorem j_34_31 : 0 ≤ ((34 : Nat) : Int) + (31) ∧ (((34 : Nat) : Int) + (31)).toNat = 65 := by decide
theorem j_35_5 : 0 ≤ ((35 : Nat) : Int) + (5) ∧ (((35 : Nat) : Int) + (5)).toNat = 40 := by decide
theorem j_37_8 : 0 ≤ ((37 : Nat) : Int) + (8) ∧ (((37 : Nat) : Int) + (8)).toNat = 45 := by decide
theorem j_38_5 : 0 ≤ ((38 : Nat) : Int) + (5) ∧ (((38 : Nat) : Int) + (5)).toNat = 43 := by decide
theorem j_39_m16 : 0 ≤ ((39 : Nat) : Int) + (-16) ∧ (((39 : Nat) : Int) + (-16)).toNat = 23 := by decide
theorem j_39_5 : 0 ≤ ((39 : Nat) : Int) + (5) ∧ (((39 : Nat) : Int) + (5)).toNat = 44 := by decide
theorem j_40_6 : 0 ≤ ((40 : Nat) : Int) + (6) ∧ (((40 : Nat) : Int) + (6)).toNat = 46 := by decide
theorem j_40_15 : 0 ≤ ((40 : Nat) : Int) + (15) ∧ (((40 : Nat) : Int) + (15)).toNat = 55 := by decide
theorem j_41_m35 : 0 ≤ ((41 : Nat) : Int) + (-35) ∧ (((41 : Nat) : Int) + (-35)).toNat = 6 := by decide
theorem j_41_5 : 0 ≤ ((41 : Nat) : Int) + (5) ∧ (((41 : Nat) : Int) + (5)).toNat = 46 := by decide
theorem j_41_7 : 0 ≤ ((41 : Nat) : Int) + (7) ∧ (((41 : Nat) : Int) + (7)).toNat = 48 := by decide
theorem j_42_m40 : 0 ≤ ((42 : Nat) : Int) + (-40) ∧ (((42 : Nat) : Int) + (-40)).toNat = 2 := by decide
theorem j_42_m38 : 0 ≤ ((42 : Nat) : Int) + (-38) ∧ (((42 : Nat) : Int) + (-38)).toNat = 4 := by decide
theorem j_43_m25 : 0 ≤ ((43 : Nat) : Int) + (-25) ∧ (((43 : Nat) : Int) + (-25)).toNat = 18 := by decide
theorem j_45_4 : 0 ≤ ((45 : Nat) : Int) + (4) ∧ (((45 : Nat) : Int) + (4)).toNat = 49 := by decide
theorem j_46_m44 : 0 ≤ ((46 : Nat) : Int) + (-44) ∧ (((46 : Nat) : Int) + (-44)).toNat = 2 := by decide
theorem j_48_m25 : 0 ≤ ((48 : Nat) : Int) + (-25) ∧ (((48 : Nat) : Int) + (-25)).toNat = 23 := by decide
theorem j_49_7 : 0 ≤ ((49 : Nat) : Int) + (7) ∧ (((49 : Nat) : Int) + (7)).toNat = 56 := by decide
theorem j_49_8 : 0 ≤ ((49 : Nat) : Int) + (8) ∧ (((49 : Nat) : Int) + (8)).toNat = 57 := by decide
theorem j_49_10 : 0 ≤ ((49 : Nat) : Int) + (10) ∧ (((49 : Nat) : Int) + (10)).toNat = 59 := by decide
theorem j_53_m51 : 0 ≤ ((53 : Nat) : Int) + (-51) ∧ (((53 : Nat) : Int) + (-51)).toNat = 2 := by decide
theorem j_53_4 : 0 ≤ ((53 : Nat) : Int) + (4) ∧ (((53 : Nat) : Int) + (4)).toNat = 57 := by decide
theorem j_53_8 : 0 ≤ ((53 : Nat) : Int) + (8) ∧ (((53 : Nat) : Int) + (8)).toNat = 61 := by decide
theorem j_56_6 : 0 ≤ ((56 : Nat) : Int) + (6) ∧ (((56 : Nat) : Int) + (6)).toNat = 62 := by decide
theorem j_58_m56 : 0 ≤ ((58 : Nat) : Int) + (-56) ∧ (((58 : Nat) : Int) + (-56)).toNat = 2 := by decide
theorem j_62_m39 : 0 ≤ ((62 : Nat) : Int) + (-39) ∧ (((62 : Nat) : Int) + (-39)).toNat = 23 := by decide
theorem j_63_23 : 0 ≤ ((63 : Nat) : Int) + (23) ∧ (((63 : Nat) : Int) + (23)).toNat = 86 := by decide
theorem j_64_m62 : 0 ≤ ((64 : Nat) : Int) + (-62) ∧ (((64 : Nat) : Int) + (-62)).toNat = 2 := by decide
theorem j_72_8 : 0 ≤ ((72 : Nat) : Int) + (8) ∧ (((72 : Nat) : Int) + (8)).toNat = 80 := by decide
theorem j_83_m25 : 0 ≤ ((83 : Nat) : Int) + (-25) ∧ (((83 : Nat) : Int) + (-25)).toNat = 58 := by decide
theorem j_114_24 : 0 ≤ ((114 : Nat) : Int) + (24) ∧ (((114 : Nat) : Int) + (24)).toNat = 138 := by decide
theorem j_121_17 : 0 ≤ ((121 : Nat) : Int) + (17) ∧ (((121 : Nat) : Int) + (17)).toNat = 138 := by decide
theorem j_128_10 : 0 ≤ ((128 : Nat) : Int) + (10) ∧ (((128 : Nat) : Int) + (10)).toNat = 138 := by decide
theorem j_135_5 : 0 ≤ ((135 : Nat) : Int) + (5) ∧ (((135 : Nat) : Int) + (5)).toNat = 140 := by decide
theorem j_166_7 : 0 ≤ ((166 : Nat) : Int) + (7) ∧ (((166 : Nat) : Int) + (7)).toNat = 173 := by decide
theorem j_170_15 : 0 ≤ ((170 : Nat) : Int) + (15) ∧ (((170 : Nat) : Int) + (15)).toNat = 185 := by decide
theorem j_176_7 : 0 ≤ ((176 : Nat) : Int) + (7) ∧ (((176 : Nat) : Int) + (7)).toNat = 183 := by decide
theorem j_180_5 : 0 ≤ ((180 : Nat) : Int) + (5) ∧ (((180 : Nat) : Int) + (5)).toNat = 185 := by decide
theorem j_193_30 : 0 ≤ ((193 : Nat) : Int) + (30) ∧ (((193 : Nat) : Int) + (30)).toNat = 223 := by decide
theorem j_200_17 : 0 ≤ ((200 : Nat) : Int) + (17) ∧ (((200 : Nat) : Int) + (17)).toNat = 217 := by decide
theorem j_212_5 : 0 ≤ ((212 : Nat) : Int) + (5) ∧ (((212 : Nat) : Int) + (5)).toNat = 217 := by decide
theorem j_220_m30 : 0 ≤ ((220 : Nat) : Int) + (-30) ∧ (((220 : Nat) : Int) + (-30)).toNat = 190 := by decide
theorem j_243_115 : 0 ≤ ((243 : Nat) : Int) + (115) ∧ (((243 : Nat) : Int) + (115)).toNat = 358 := by decide
theorem j_252_100 : 0 ≤ ((252 : Nat) : Int) + (100) ∧ (((252 : Nat) : Int) + (100)).toNat = 352 := by decide
theorem j_263_83 : 0 ≤ ((263 : Nat) : Int) + (83) ∧ (((263 : Nat) : Int) + (83)).toNat = 346 := by decide
theorem j_273_73 : 0 ≤ ((273 : Nat) : Int) + (73) ∧ (((273 : Nat) : Int) + (73)).toNat = 346 := by decide
theorem j_285_45 : 0 ≤ ((285 : Nat) : Int) + (45) ∧ (((285 : Nat) : Int) + (45)).toNat = 330 := by decide
theorem j_311_13 : 0 ≤ ((311 : Nat) : Int) + (13) ∧ (((311 : Nat) : Int) + (13)).toNat = 324 := by decide
theorem j_318_6 : 0 ≤ ((318 : Nat) : Int) + (6) ∧ (((318 : Nat) : Int) + (6)).toNat = 324 := by decide
theorem j_327_m45 : 0 ≤ ((327 : Nat) : Int) + (-45) ∧ (((327 : Nat) : Int) + (-45)).toNat = 282 := by decide
theorem j_332_14 : 0 ≤ ((332 : Nat) : Int) + (14) ∧ (((332 : Nat) : Int) + (14)).toNat = 346 := by decide
theorem j_349_m100 : 0 ≤ ((349 : Nat) : Int) + (-100) ∧ (((349 : Nat) : Int) + (-100)).toNat = 249 := by decide
theorem j_355_m115 : 0 ≤ ((355 : Nat) : Int) + (-115) ∧ (((355 : Nat) : Int) + (-115)).toNat = 240 := by decide
theorem j_380_214 : 0 ≤ ((380 : Nat) : Int) + (214) ∧ (((380 : Nat) : Int) + (214)).toNat = 594 := by decide
theorem j_391_7 : 0 ≤ ((391 : Nat) : Int) + (7) ∧ (((391 : Nat) : Int) + (7)).toNat = 398 := by decide
theorem j_395_4 : 0 ≤ ((395 : Nat) : Int) + (4) ∧ (((395 : Nat) : Int) + (4)).toNat = 399 := by decide
theorem j_410_45 : 0 ≤ ((410 : Nat) : Int) + (45) ∧ (((410 : Nat) : Int) + (45)).toNat = 455 := by decide
theorem j_436_13 : 0 ≤ ((436 : Nat) : Int) + (13) ∧ (((436 : Nat) : Int) + (13)).toNat = 449 := by decide
theorem j_443_6 : 0 ≤ ((443 : Nat) : Int) + (6) ∧ (((443 : Nat) : Int) + (6)).toNat = 449 := by decide
theorem j_452_m45 : 0 ≤ ((452 : Nat) : Int) + (-45) ∧ (((452 : Nat) : Int) + (-45)).toNat = 407 := by decide
theorem j_509_50 : 0 ≤ ((509 : Nat) : Int) + (50) ∧ (((509 : Nat) : Int) + (50)).toNat = 559 := by decide
theorem j_517_6 : 0 ≤ ((517 : Nat) : Int) + (6) ∧ (((517 : Nat) : Int) + (6)).toNat = 523 := by decide
theorem j_525_32 : 0 ≤ ((525 : Nat) : Int) + (32) ∧ (((525 : Nat) : Int) + (32)).toNat = 557 := by decide
theorem j_532_25 : 0 ≤ ((532 : Nat) : Int) + (25) ∧ (((532 : Nat) : Int) + (25)).toNat = 557 := by decide
theorem j_539_18 : 0 ≤ ((539 : Nat) : Int) + (18) ∧ (((539 : Nat) : Int) + (18)).toNat = 557 := by decide
theorem j_546_7 : 0 ≤ ((546 : Nat) : Int) + (7) ∧ (((546 : Nat) : Int) + (7)).toNat = 553 := by decide
theorem j_550_4 : 0 ≤ ((550 : Nat) : Int) + (4) ∧ (((550 : Nat) : Int) + (4)).toNat = 554 := by decide
theorem j_554_34 : 0 ≤ ((554 : Nat) : Int) + (34) ∧ (((554 : Nat) : Int) + (34)).toNat = 588 := by decide
theorem j_564_22 : 0 ≤ ((564 : Nat) : Int) + (22) ∧ (((564 : Nat) : Int) + (22)).toNat = 586 := by decide
theorem j_571_15 : 0 ≤ ((571 : Nat) : Int) + (15) ∧ (((571 : Nat) : Int) + (15)).toNat = 586 := by decide
theorem j_578_8 : 0 ≤ ((578 : Nat) : Int) + (8) ∧ (((578 : Nat) : Int) + (8)).toNat = 586 := by decide
theorem j_583_5 : 0 ≤ ((583 : Nat) : Int) + (5) ∧ (((583 : Nat) : Int) + (5)).toNat = 588 := by decide
theorem j_591_m214 : 0 ≤ ((591 : Nat) : Int) + (-214) ∧ (((591 : Nat) : Int) + (-214)).toNat = 377 := by decide
theorem j_619_27 : 0 ≤ ((619 : Nat) : Int) + (27) ∧ (((619 : Nat) : Int) + (27)).toNat = 646 := by decide
theorem j_626_20 : 0 ≤ ((626 : Nat) : Int) + (20) ∧ (((626 : Nat) : Int) + (20)).toNat = 646 := by decide
theorem j_633_13 : 0 ≤ ((633 : Nat) : Int) + (13) ∧ (((633 : Nat) : Int) + (13)).toNat = 646 := by decide
theorem j_639_7 : 0 ≤ ((639 : Nat) : Int) + (7) ∧ (((639 : Nat) : Int) + (7)).toNat = 646 := by decide
theorem j_643_4 : 0 ≤ ((643 : Nat) : Int) + (4) ∧ (((643 : Nat) : Int) + (4)).toNat = 647 := by decide
theorem lk_0_44 : LinkS PP "DeferredCountY" 44 m0 := ⟨List.mem_of_getElem? (i := 33) rfl, List.mem_of_getElem? (i := 34) rfl, List.mem_of_getElem? (i := 2) rfl, List.mem_of_getElem? (i := 35) rfl, by decide⟩
theorem lk_0_61 : LinkP PP "DeferredCountY" 61 m2 := ⟨List.mem_of_getElem? (i := 44) rfl, List.mem_of_getElem? (i := 45) rfl, List.mem_of_getElem? (i := 46) rfl, List.mem_of_getElem? (i := 47) rfl, rfl, rfl⟩
theorem lk_0_64 : LinkP PP "DeferredCountY" 64 m3 := ⟨List.mem_of_getElem? (i := 54) rfl, List.mem_of_getElem? (i := 55) rfl, List.mem_of_getElem? (i := 56) rfl, List.mem_of_getElem? (i := 57) rfl, rfl, rfl⟩
theorem lk_0_67 : LinkP PP "DeferredCountY" 67 m4 := ⟨List.mem_of_getElem? (i := 60) rfl, List.mem_of_getElem? (i := 61) rfl, List.mem_of_getElem? (i := 62) rfl, List.mem_of_getElem? (i := 63) rfl, rfl, rfl⟩
theorem lk_0_70 : LinkP PP "DeferredCountY" 70 m5 := ⟨List.mem_of_getElem? (i := 66) rfl, List.mem_of_getElem? (i := 67) rfl, List.mem_of_getElem? (i := 68) rfl, List.mem_of_getElem? (i := 69) rfl, rfl, rfl⟩
theorem lk_0_76 : LinkP PP "DeferredCountY" 76 m7 := ⟨List.mem_of_getElem? (i := 79) rfl, List.mem_of_getElem? (i := 80) rfl, List.mem_of_getElem? (i := 81) rfl, List.mem_of_getElem? (i := 82) rfl, rfl, rfl⟩
theorem lk_0_80 : LinkP PP "DeferredCountY" 80 m10 := ⟨List.mem_of_getElem? (i := 83) rfl, List.mem_of_getElem? (i := 84) rfl, List.mem_of_getElem? (i := 85) rfl, List.mem_of_getElem? (i := 86) rfl, rfl, rfl⟩
theorem lk_0_83 : LinkP PP "DeferredCountY" 83 m30 := ⟨List.mem_of_getElem? (i := 188) rfl, List.mem_of_getElem? (i := 189) rfl, List.mem_of_getElem? (i := 190) rfl, List.mem_of_getElem? (i := 191) rfl, rfl, rfl⟩
theorem lk_0_87 : LinkP PP "DeferredCountY" 87 m31 := ⟨List.mem_of_getElem? (i := 95) rfl, List.mem_of_getElem? (i := 96) rfl, List.mem_of_getElem? (i := 97) rfl, List.mem_of_getElem? (i := 98) rfl, rfl, rfl⟩
theorem lk_0_90 : LinkP PP "DeferredCountY" 90 m34 := ⟨List.mem_of_getElem? (i := 99) rfl, List.mem_of_getElem? (i := 100) rfl, List.mem_of_getElem? (i := 101) rfl, List.mem_of_getElem? (i := 102) rfl, rfl, rfl⟩
theorem lk_0_98 : LinkP PP "DeferredCountY" 98 m14 := ⟨List.mem_of_getElem? (i := 148) rfl, List.mem_of_getElem? (i := 149) rfl, List.mem_of_getElem? (i := 150) rfl, List.mem_of_getElem? (i := 151) rfl, rfl, rfl⟩
theorem lk_0_101 : LinkP PP "DeferredCountY" 101 m33 := ⟨List.mem_of_getElem? (i := 115) rfl, List.mem_of_getElem? (i := 116) rfl, List.mem_of_getElem? (i := 117) rfl, List.mem_of_getElem? (i := 118) rfl, rfl, rfl⟩
theorem lk_0_104 : LinkP PP "DeferredCountY" 104 m38 := ⟨List.mem_of_getElem? (i := 124) rfl, List.mem_of_getElem? (i := 125) rfl, List.mem_of_getElem? (i := 126) rfl, List.mem_of_getElem? (i := 127) rfl, rfl, rfl⟩
theorem lk_0_107 : LinkP PP "DeferredCountY" 107 m39 := ⟨List.mem_of_getElem? (i := 144) rfl, List.mem_of_getElem? (i := 145) rfl, List.mem_of_getElem? (i := 146) rfl, List.mem_of_getElem? (i := 147) rfl, rfl, rfl⟩
theorem lk_0_111 : LinkP PP "DeferredCountY" 111 m41 := ⟨List.mem_of_getElem? (i := 152) rfl, List.mem_of_getElem? (i := 153) rfl, List.mem_of_getElem? (i := 154) rfl, List.mem_of_getElem? (i := 155) rfl, rfl, rfl⟩
theorem lk_0_115 : LinkP PP "DeferredCountY" 115 m44 := ⟨List.mem_of_getElem? (i := 156) rfl, List.mem_of_getElem? (i := 157) rfl, List.mem_of_getElem? (i := 158) rfl, List.mem_of_getElem? (i := 159) rfl, rfl, rfl⟩
theorem lk_0_119 : LinkP PP "DeferredCountY" 119 m45 := ⟨List.mem_of_getElem? (i := 172) rfl, List.mem_of_getElem? (i := 173) rfl, List.mem_of_getElem? (i := 174) rfl, List.mem_of_getElem? (i := 175) rfl, rfl, rfl⟩
theorem lk_0_128 : LinkP PP "DeferredCountY" 128 m49 := ⟨List.mem_of_getElem? (i := 279) rfl, List.mem_of_getElem? (i := 280) rfl, List.mem_of_getElem? (i := 281) rfl, List.mem_of_getElem? (i := 282) rfl, rfl, rfl⟩
theorem lk_0_131 : LinkP PP "DeferredCountY" 131 m36 := ⟨List.mem_of_getElem? (i := 128) rfl, List.mem_of_getElem? (i := 129) rfl, List.mem_of_getElem? (i := 130) rfl, List.mem_of_getElem? (i := 131) rfl, rfl, rfl⟩
theorem lk_0_135 : LinkP PP "DeferredCountY" 135 m15 := ⟨List.mem_of_getElem? (i := 140) rfl, List.mem_of_getElem? (i := 141) rfl, List.mem_of_getElem? (i := 142) rfl, List.mem_of_getElem? (i := 143) rfl, rfl, rfl⟩
theorem lk_0_138 : LinkP PP "DeferredCountY" 138 m13 := ⟨List.mem_of_getElem? (i := 132) rfl, List.mem_of_getElem? (i := 133) rfl, List.mem_of_getElem? (i := 134) rfl, List.mem_of_getElem? (i := 135) rfl, rfl, rfl⟩
theorem lk_0_141 : LinkP PP "DeferredCountY" 141 m40 := ⟨List.mem_of_getElem? (i := 255) rfl, List.mem_of_getElem? (i := 256) rfl, List.mem_of_getElem? (i := 257) rfl, List.mem_of_getElem? (i := 258) rfl, rfl, rfl⟩
theorem lk_0_150 : LinkP PP "DeferredCountY" 150 m37 := ⟨List.mem_of_getElem? (i := 136) rfl, List.mem_of_getElem? (i := 137) rfl, List.mem_of_getElem? (i := 138) rfl, List.mem_of_getElem? (i := 139) rfl, rfl, rfl⟩
theorem lk_0_153 : LinkP PP "DeferredCountY" 153 m8 := ⟨List.mem_of_getElem? (i := 87) rfl, List.mem_of_getElem? (i := 88) rfl, List.mem_of_getElem? (i := 89) rfl, List.mem_of_getElem? (i := 90) rfl, rfl, rfl⟩
theorem lk_0_156 : LinkP PP "DeferredCountY" 156 m9 := ⟨List.mem_of_getElem? (i := 91) rfl, List.mem_of_getElem? (i := 92) rfl, List.mem_of_getElem? (i := 93) rfl, List.mem_of_getElem? (i := 94) rfl, rfl, rfl⟩
theorem lk_0_159 : LinkP PP "DeferredCountY" 159 m32 := ⟨List.mem_of_getElem? (i := 103) rfl, List.mem_of_getElem? (i := 104) rfl, List.mem_of_getElem? (i := 105) rfl, List.mem_of_getElem? (i := 106) rfl, rfl, rfl⟩
theorem lk_0_162 : LinkP PP "DeferredCountY" 162 m28 := ⟨List.mem_of_getElem? (i := 111) rfl, List.mem_of_getElem? (i := 112) rfl, List.mem_of_getElem? (i := 113) rfl, List.mem_of_getElem? (i := 114) rfl, rfl, rfl⟩
theorem lk_0_165 : LinkP PP "DeferredCountY" 165 m11 := ⟨List.mem_of_getElem? (i := 107) rfl, List.mem_of_getElem? (i := 108) rfl, List.mem_of_getElem? (i := 109) rfl, List.mem_of_getElem? (i := 110) rfl, rfl, rfl⟩
theorem lk_0_168 : LinkP PP "DeferredCountY" 168 m42 := ⟨List.mem_of_getElem? (i := 160) rfl, List.mem_of_getElem? (i := 161) rfl, List.mem_of_getElem? (i := 162) rfl, List.mem_of_getElem? (i := 163) rfl, rfl, rfl⟩
theorem lk_0_171 : LinkP PP "DeferredCountY" 171 m25 := ⟨List.mem_of_getElem? (i := 164) rfl, List.mem_of_getElem? (i := 165) rfl, List.mem_of_getElem? (i := 166) rfl, List.mem_of_getElem? (i := 167) rfl, rfl, rfl⟩
theorem lk_0_174 : LinkP PP "DeferredCountY" 174 m43 := ⟨List.mem_of_getElem? (i := 168) rfl, List.mem_of_getElem? (i := 169) rfl, List.mem_of_getElem? (i := 170) rfl, List.mem_of_getElem? (i := 171) rfl, rfl, rfl⟩
theorem lk_0_177 : LinkP PP "DeferredCountY" 177 m12 := ⟨List.mem_of_getElem? (i := 192) rfl, List.mem_of_getElem? (i := 193) rfl, List.mem_of_getElem? (i := 194) rfl, List.mem_of_getElem? (i := 195) rfl, rfl, rfl⟩
theorem lk_0_180 : LinkP PP "DeferredCountY" 180 m17 := ⟨List.mem_of_getElem? (i := 196) rfl, List.mem_of_getElem? (i := 197) rfl, List.mem_of_getElem? (i := 198) rfl, List.mem_of_getElem? (i := 199) rfl, rfl, rfl⟩
theorem lk_0_183 : LinkP PP "DeferredCountY" 183 m20 := ⟨List.mem_of_getElem? (i := 204) rfl, List.mem_of_getElem? (i := 205) rfl, List.mem_of_getElem? (i := 206) rfl, List.mem_of_getElem? (i := 207) rfl, rfl, rfl⟩
theorem lk_0_186 : LinkP PP "DeferredCountY" 186 m22 := ⟨List.mem_of_getElem? (i := 212) rfl, List.mem_of_getElem? (i := 213) rfl, List.mem_of_getElem? (i := 214) rfl, List.mem_of_getElem? (i := 215) rfl, rfl, rfl⟩
theorem lk_0_189 : LinkP PP "DeferredCountY" 189 m24 := ⟨List.mem_of_getElem? (i := 216) rfl, List.mem_of_getElem? (i := 217) rfl, List.mem_of_getElem? (i := 218) rfl, List.mem_of_getElem? (i := 219) rfl, rfl, rfl⟩
theorem lk_0_192 : LinkP PP "DeferredCountY" 192 m27 := ⟨List.mem_of_getElem? (i := 220) rfl, List.mem_of_getElem? (i := 221) rfl, List.mem_of_getElem? (i := 222) rfl, List.mem_of_getElem? (i := 223) rfl, rfl, rfl⟩
theorem lk_0_195 : LinkP PP "DeferredCountY" 195 m29 := ⟨List.mem_of_getElem? (i := 228) rfl, List.mem_of_getElem? (i := 229) rfl, List.mem_of_getElem? (i := 230) rfl, List.mem_of_getElem? (i := 231) rfl, rfl, rfl⟩
theorem lk_0_198 : LinkP PP "DeferredCountY" 198 m16 := ⟨List.mem_of_getElem? (i := 200) rfl, List.mem_of_getElem? (i := 201) rfl, List.mem_of_getElem? (i := 202) rfl, List.mem_of_getElem? (i := 203) rfl, rfl, rfl⟩
theorem lk_0_204 : LinkP PP "DeferredCountY" 204 m18 := ⟨List.mem_of_getElem? (i := 208) rfl, List.mem_of_getElem? (i := 209) rfl, List.mem_of_getElem? (i := 210) rfl, List.mem_of_getElem? (i := 211) rfl, rfl, rfl⟩
theorem lk_0_207 : LinkP PP "DeferredCountY" 207 m19 := ⟨List.mem_of_getElem? (i := 283) rfl, List.mem_of_getElem? (i := 284) rfl, List.mem_of_getElem? (i := 285) rfl, List.mem_of_getElem? (i := 286) rfl, rfl, rfl⟩
theorem lk_0_210 : LinkP PP "DeferredCountY" 210 m21 := ⟨List.mem_of_getElem? (i := 287) rfl, List.mem_of_getElem? (i := 288) rfl, List.mem_of_getElem? (i := 289) rfl, List.mem_of_getElem? (i := 290) rfl, rfl, rfl⟩
theorem lk_0_213 : LinkP PP "DeferredCountY" 213 m23 := ⟨List.mem_of_getElem? (i := 291) rfl, List.mem_of_getElem? (i := 292) rfl, List.mem_of_getElem? (i := 293) rfl, List.mem_of_getElem? (i := 294) rfl, rfl, rfl⟩
theorem lk_0_216 : LinkP PP "DeferredCountY" 216 m26 := ⟨List.mem_of_getElem? (i := 224) rfl, List.mem_of_getElem? (i := 225) rfl, List.mem_of_getElem? (i := 226) rfl, List.mem_of_getElem? (i := 227) rfl, rfl, rfl⟩
theorem lk_0_219 : LinkP PP "DeferredCountY" 219 m1 := ⟨List.mem_of_getElem? (i := 48) rfl, List.mem_of_getElem? (i := 49) rfl, List.mem_of_getElem? (i := 50) rfl, List.mem_of_getElem? (i := 51) rfl, rfl, rfl⟩
theorem lk_1_9 : LinkI PP "DeferredCountYL3" 9 m6 := ⟨List.mem_of_getElem? (i := 3) rfl, List.mem_of_getElem? (i := 4) rfl, List.mem_of_getElem? (i := 5) rfl, rfl, rfl, rfl, rfl⟩
theorem lk_1_12 : LinkV PP "DeferredCountYL3" 12 m35 := ⟨List.mem_of_getElem? (i := 74) rfl, List.mem_of_getElem? (i := 75) rfl, List.mem_of_getElem? (i := 77) rfl, List.mem_of_getElem? (i := 76) rfl, List.mem_of_getElem? (i := 78) rfl, rfl, rfl⟩
theorem lk_1_16 : LinkV PP "DeferredCountYL3" 16 m46 := ⟨List.mem_of_getElem? (i := 119) rfl, List.mem_of_getElem? (i := 120) rfl, List.mem_of_getElem? (i := 122) rfl, List.mem_of_getElem? (i := 121) rfl, List.mem_of_getElem? (i := 123) rfl, rfl, rfl⟩
theorem lk_1_20 : LinkS PP "DeferredCountYL3" 20 m47 := ⟨List.mem_of_getElem? (i := 176) rfl, List.mem_of_getElem? (i := 177) rfl, List.mem_of_getElem? (i := 178) rfl, List.mem_of_getElem? (i := 179) rfl, by decide⟩
theorem lk_1_26 : LinkS PP "DeferredCountYL3" 26 m48 := ⟨List.mem_of_getElem? (i := 180) rfl, List.mem_of_getElem? (i := 181) rfl, List.mem_of_getElem? (i := 178) rfl, List.mem_of_getElem? (i := 182) rfl, by decide⟩
theorem lk_1_29 : LinkV PP "DeferredCountYL3" 29 m50 := ⟨List.mem_of_getElem? (i := 274) rfl, List.mem_of_getElem? (i := 275) rfl, List.mem_of_getElem? (i := 277) rfl, List.mem_of_getElem? (i := 276) rfl, List.mem_of_getElem? (i := 278) rfl, rfl, rfl⟩
theorem lk_1_32 : LinkS PP "DeferredCountYL3" 32 m51 := ⟨List.mem_of_getElem? (i := 232) rfl, List.mem_of_getElem? (i := 233) rfl, List.mem_of_getElem? (i := 178) rfl, List.mem_of_getElem? (i := 234) rfl, by decide⟩
theorem lk_1_36 : LinkV PP "DeferredCountYL3" 36 m52 := ⟨List.mem_of_getElem? (i := 183) rfl, List.mem_of_getElem? (i := 184) rfl, List.mem_of_getElem? (i := 186) rfl, List.mem_of_getElem? (i := 185) rfl, List.mem_of_getElem? (i := 187) rfl, rfl, rfl⟩
theorem lk_1_39 : LinkV PP "DeferredCountYL3" 39 m53 := ⟨List.mem_of_getElem? (i := 235) rfl, List.mem_of_getElem? (i := 236) rfl, List.mem_of_getElem? (i := 238) rfl, List.mem_of_getElem? (i := 237) rfl, List.mem_of_getElem? (i := 239) rfl, rfl, rfl⟩
theorem lk_1_43 : LinkV PP "DeferredCountYL3" 43 m54 := ⟨List.mem_of_getElem? (i := 240) rfl, List.mem_of_getElem? (i := 241) rfl, List.mem_of_getElem? (i := 243) rfl, List.mem_of_getElem? (i := 242) rfl, List.mem_of_getElem? (i := 244) rfl, rfl, rfl⟩
theorem lk_1_46 : LinkV PP "DeferredCountYL3" 46 m55 := ⟨List.mem_of_getElem? (i := 245) rfl, List.mem_of_getElem? (i := 246) rfl, List.mem_of_getElem? (i := 248) rfl, List.mem_of_getElem? (i := 247) rfl, List.mem_of_getElem? (i := 249) rfl, rfl, rfl⟩
theorem lk_1_50 : LinkV PP "DeferredCountYL3" 50 m56 := ⟨List.mem_of_getElem? (i := 250) rfl, List.mem_of_getElem? (i := 251) rfl, List.mem_of_getElem? (i := 253) rfl, List.mem_of_getElem? (i := 252) rfl, List.mem_of_getElem? (i := 254) rfl, rfl, rfl⟩
theorem lk_1_53 : LinkV PP "DeferredCountYL3" 53 m57 := ⟨List.mem_of_getElem? (i := 259) rfl, List.mem_of_getElem? (i := 260) rfl, List.mem_of_getElem? (i := 262) rfl, List.mem_of_getElem? (i := 261) rfl, List.mem_of_getElem? (i := 263) rfl, rfl, rfl⟩
theorem lk_1_56 : LinkV PP "DeferredCountYL3" 56 m58 := ⟨List.mem_of_getElem? (i := 264) rfl, List.mem_of_getElem? (i := 265) rfl, List.mem_of_getElem? (i := 267) rfl, List.mem_of_getElem? (i := 266) rfl, List.mem_of_getElem? (i := 268) rfl, rfl, rfl⟩
theorem lk_1_59 : LinkV PP "DeferredCountYL3" 59 m59 := ⟨List.mem_of_getElem? (i := 269) rfl, List.mem_of_getElem? (i := 270) rfl, List.mem_of_getElem? (i := 272) rfl, List.mem_of_getElem? (i := 271) rfl, List.mem_of_getElem? (i := 273) rfl, rfl, rfl⟩
theorem facts1 {Z : State} {a0 : Array Value} (hw : ∀ d ∈ tables_1, d.before a0 Z = true) : Facts Z a0 ci1 := by
  refine ⟨hw _ (List.mem_of_getElem? (i := 1) rfl), hw _ (List.mem_of_getElem? (i := 2) rfl), ?_, ?_, by decide, ?_, by decide⟩
  · intro f x hx
    match f, hx with
    | 0, hx => cases hx; exact ⟨Or.inl (hw _ (List.mem_of_getElem? (i := 37) rfl)), by decide⟩
    | 1, hx => cases hx; exact ⟨Or.inl (hw _ (List.mem_of_getElem? (i := 39) rfl)), by decide⟩
    | 2, hx => cases hx; exact ⟨Or.inl (hw _ (List.mem_of_getElem? (i := 41) rfl)), by decide⟩
    | 3, hx => cases hx; exact ⟨Or.inl (hw _ (List.mem_of_getElem? (i := 43) rfl)), by decide⟩
    | 4, hx => cases hx; exact ⟨Or.inl (hw _ (List.mem_of_getElem? (i := 53) rfl)), by decide⟩
    | 5, hx => cases hx; exact ⟨Or.inl (hw _ (List.mem_of_getElem? (i := 59) rfl)), by decide⟩
    | 6, hx => cases hx; exact ⟨Or.inl (hw _ (List.mem_of_getElem? (i := 65) rfl)), by decide⟩
    | 7, hx => cases hx; exact ⟨Or.inl (hw _ (List.mem_of_getElem? (i := 71) rfl)), by decide⟩
    | 8, hx => cases hx; exact ⟨Or.inl (hw _ (List.mem_of_getElem? (i := 73) rfl)), by decide⟩
    | n + 9, hx => simp [cS, ci1] at hx
  · intro q x hx
    match q, hx with
    | 0, hx => cases hx; exact ⟨Or.inl (hw _ (List.mem_of_getElem? (i := 11) rfl)), by decide⟩
    | 1, hx => cases hx; exact ⟨Or.inl (hw _ (List.mem_of_getElem? (i := 14) rfl)), by decide⟩
    | 2, hx => cases hx; exact ⟨Or.inl (hw _ (List.mem_of_getElem? (i := 16) rfl)), by decide⟩
    | 3, hx => cases hx; exact ⟨Or.inl (hw _ (List.mem_of_getElem? (i := 18) rfl)), by decide⟩
    | 4, hx => cases hx; exact ⟨Or.inl (hw _ (List.mem_of_getElem? (i := 20) rfl)), by decide⟩
    | 5, hx => cases hx; exact ⟨Or.inl (hw _ (List.mem_of_getElem? (i := 22) rfl)), by decide⟩
    | 6, hx => cases hx; exact ⟨Or.inl (hw _ (List.mem_of_getElem? (i := 24) rfl)), by decide⟩
    | 7, hx => cases hx; exact ⟨Or.inl (hw _ (List.mem_of_getElem? (i := 26) rfl)), by decide⟩
    | 8, hx => cases hx; exact ⟨Or.inl (hw _ (List.mem_of_getElem? (i := 28) rfl)), by decide⟩
    | 9, hx => cases hx; exact ⟨Or.inl (hw _ (List.mem_of_getElem? (i := 30) rfl)), by decide⟩
    | 10, hx => cases hx; exact ⟨Or.inl (hw _ (List.mem_of_getElem? (i := 32) rfl)), by decide⟩
    | n + 11, hx => simp [cA, ci1] at hx
  · intro f x hx
    match f, hx with
    | 0, hx => cases hx; rfl
    | 1, hx => cases hx; rfl
    | 2, hx => cases hx; rfl
    | 3, hx => cases hx; rfl
    | 4, hx => cases hx; rfl
    | 5, hx => cases hx; rfl
    | 6, hx => cases hx; rfl
    | 7, hx => cases hx; rfl
    | 8, hx => cases hx; rfl
    | n + 9, hx => simp [cS, ci1] at hx
def k_clamp  (v0 : Int32) (v1 : Int32) (v2 : Int32)  : Int32 :=
  if v0 < v1 then
    v1
  else
    if v2 < v0 then
      v2
    else
      v0
def k_clearCellFields_17  : Nat → Int32 → Int32 → S → Option S
  | 0, _, _, _ => none
  | n + 1, v2, v3, s =>
    if v3 < (4 : Int32) then
      (Jvm.AM.st (gA s 1) (v2 + v3) (-1 : Int32)).bind fun a30 =>
      k_clearCellFields_17 n v2 (v3 + (1 : Int32)) (sA s 1 a30)
    else
      some s
def k_clearCellFields  (v1 : Int32) (s : S) : Option S :=
  if v1 < 0 then
    some s
  else
    if v1 < (64 : Int32) then
      k_clearCellFields_17 BIG (v1 * (4 : Int32)) (0 : Int32) s
    else
      some s
def k_resetHeap_33   (s : S) : Option S :=
  some (sI s 4 (0 : Int32))
def k_resetHeap_2  : Nat → Int32 → S → Option S
  | 0, _, _ => none
  | n + 1, v1, s =>
    if v1 < (64 : Int32) then
      (Jvm.AM.st (gA s 0) v1 (0 : Int32)).bind fun a14 =>
      (Jvm.AM.st (gA s 2) v1 (0 : Int32)).bind fun a21 =>
      (k_clearCellFields v1 (sA (sA s 0 a14) 2 a21)).bind fun r24 =>
      k_resetHeap_2 n (v1 + (1 : Int32)) r24
    else
      k_resetHeap_33 s
def k_resetHeap   (s : S) : Option S :=
  k_resetHeap_2 BIG (0 : Int32) s
def k_resetRoots_21   (s : S) : Option S :=
  some (sI s 5 (0 : Int32))
def k_resetRoots_2  : Nat → Int32 → S → Option S
  | 0, _, _ => none
  | n + 1, v1, s =>
    if v1 < (16 : Int32) then
      (Jvm.AM.st (gA s 3) v1 (-1 : Int32)).bind fun a14 =>
      k_resetRoots_2 n (v1 + (1 : Int32)) (sA s 3 a14)
    else
      k_resetRoots_21 s
def k_resetRoots   (s : S) : Option S :=
  k_resetRoots_2 BIG (0 : Int32) s
def k_resetTable_42   (s : S) : Option S :=
  some (sI s 6 (0 : Int32))
def k_resetTable_23  : Nat → Int32 → S → Option S
  | 0, _, _ => none
  | n + 1, v1, s =>
    if v1 < (64 : Int32) then
      (Jvm.AM.st (gA s 5) v1 (-1 : Int32)).bind fun a35 =>
      k_resetTable_23 n (v1 + (1 : Int32)) (sA s 5 a35)
    else
      k_resetTable_42 s
def k_resetTable_21   (s : S) : Option S :=
  k_resetTable_23 BIG (0 : Int32) s
def k_resetTable_2  : Nat → Int32 → S → Option S
  | 0, _, _ => none
  | n + 1, v1, s =>
    if v1 < (64 : Int32) then
      (Jvm.AM.st (gA s 4) v1 (-1 : Int32)).bind fun a14 =>
      k_resetTable_2 n (v1 + (1 : Int32)) (sA s 4 a14)
    else
      k_resetTable_21 s
def k_resetTable   (s : S) : Option S :=
  k_resetTable_2 BIG (0 : Int32) s
def k_resetScratch_49   (s : S) : Option S :=
  some (sI s 7 (0 : Int32))
def k_resetScratch_2  : Nat → Int32 → S → Option S
  | 0, _, _ => none
  | n + 1, v1, s =>
    if v1 < (64 : Int32) then
      (Jvm.AM.st (gA s 6) v1 (0 : Int32)).bind fun a14 =>
      (Jvm.AM.st (gA s 7) v1 (0 : Int32)).bind fun a21 =>
      (Jvm.AM.st (gA s 8) v1 (0 : Int32)).bind fun a28 =>
      (Jvm.AM.st (gA s 9) v1 (0 : Int32)).bind fun a35 =>
      (Jvm.AM.st (gA s 10) v1 (-1 : Int32)).bind fun a42 =>
      k_resetScratch_2 n (v1 + (1 : Int32)) (sA (sA (sA (sA (sA s 6 a14) 7 a21) 8 a28) 9 a35) 10 a42)
    else
      k_resetScratch_49 s
def k_resetScratch   (s : S) : Option S :=
  k_resetScratch_2 BIG (0 : Int32) s
def k_init  (v1 : Int32) (v2 : Int32) (v3 : Int32) (v4 : Int32)  : Option S :=
  (k_resetHeap (sI (sI (sI (sI (sA (sA (sA (sA (sA (sA (sA (sA (sA (sA (sA s0 0 (rep 64 0)) 1 (rep 256 0)) 2 (rep 64 0)) 3 (rep 16 0)) 4 (rep 64 0)) 5 (rep 64 0)) 6 (rep 64 0)) 7 (rep 64 0)) 8 (rep 64 0)) 9 (rep 64 0)) 10 (rep 64 0)) 0 (k_clamp v1 (4 : Int32) (64 : Int32))) 1 (k_clamp v2 (1 : Int32) (4 : Int32))) 2 (k_clamp v3 (1 : Int32) (16 : Int32))) 3 (k_clamp v4 ((k_clamp v3 (1 : Int32) (16 : Int32)) + (1 : Int32)) (64 : Int32)))).bind fun r147 =>
  (k_resetRoots r147).bind fun r151 =>
  (k_resetTable r151).bind fun r155 =>
  (k_resetScratch r155).bind fun r159 =>
  some (sI r159 8 (0 : Int32))
def k_rootsFull   (s : S) : Int32 :=
  if (gI s 5) < (gI s 2) then
    (0 : Int32)
  else
    (1 : Int32)
def k_hasFreeCell   (s : S) : Int32 :=
  if (gI s 4) < (gI s 0) then
    (1 : Int32)
  else
    (0 : Int32)
def k_tableIsFull   (s : S) : Int32 :=
  if (gI s 6) < (gI s 3) then
    (0 : Int32)
  else
    (1 : Int32)
def k_allocNeedsReconcile   (s : S) : Int32 :=
  if (k_hasFreeCell s) = 0 then
    (1 : Int32)
  else
    nar .boolean (k_tableIsFull s)
def k_isObjectId  (v1 : Int32) (s : S) : Int32 :=
  if v1 < 0 then
    (0 : Int32)
  else
    if v1 < (gI s 0) then
      (1 : Int32)
    else
      (0 : Int32)
def k_markRootHeld_23  : Nat → Int32 → S → Option S
  | 0, _, _ => none
  | n + 1, v1, s =>
    if v1 < (gI s 5) then
      if v1 < (16 : Int32) then
        (ix (gA s 3) v1).bind fun a42 =>
        if (k_isObjectId a42 s) = 0 then
          k_markRootHeld_23 n (v1 + (1 : Int32)) s
        else
          (Jvm.AM.st (gA s 7) a42 (1 : Int32)).bind fun a58 =>
          k_markRootHeld_23 n (v1 + (1 : Int32)) (sA s 7 a58)
      else
        some s
    else
      some s
def k_markRootHeld_21   (s : S) : Option S :=
  k_markRootHeld_23 BIG (0 : Int32) s
def k_markRootHeld_2  : Nat → Int32 → S → Option S
  | 0, _, _ => none
  | n + 1, v1, s =>
    if v1 < (64 : Int32) then
      (Jvm.AM.st (gA s 7) v1 (0 : Int32)).bind fun a14 =>
      k_markRootHeld_2 n (v1 + (1 : Int32)) (sA s 7 a14)
    else
      k_markRootHeld_21 s
def k_markRootHeld   (s : S) : Option S :=
  k_markRootHeld_2 BIG (0 : Int32) s
def k_isFieldNo  (v1 : Int32) (s : S) : Int32 :=
  if v1 < 0 then
    (0 : Int32)
  else
    if v1 < (gI s 1) then
      (1 : Int32)
    else
      (0 : Int32)
def k_readField  (v1 : Int32) (v2 : Int32) (s : S) : Option Int32 :=
  if (k_isObjectId v1 s) = 0 then
    some (-1 : Int32)
  else
    if (k_isFieldNo v2 s) = 0 then
      some (-1 : Int32)
    else
      (ix (gA s 1) ((v1 * (4 : Int32)) + v2)).bind fun a29 =>
      some a29
def k_isLiveId  (v1 : Int32) (s : S) : Option Int32 :=
  if (k_isObjectId v1 s) = 0 then
    some (0 : Int32)
  else
    (ix (gA s 0) v1).bind fun a13 =>
    if a13 = 0 then
      some (0 : Int32)
    else
      some (1 : Int32)
def k_addHoldersOf_2  : Nat → Int32 → Int32 → S → Option S
  | 0, _, _, _ => none
  | n + 1, v1, v2, s =>
    if v2 < (gI s 1) then
      (k_readField v1 v2 s).bind fun r13 =>
      (k_isLiveId r13 s).bind fun r19 =>
      if r19 = 0 then
        k_addHoldersOf_2 n v1 (v2 + (1 : Int32)) s
      else
        (ix (gA s 9) r13).bind fun a35 =>
        (Jvm.AM.st (gA s 9) r13 (a35 + (1 : Int32))).bind fun a38 =>
        k_addHoldersOf_2 n v1 (v2 + (1 : Int32)) (sA s 9 a38)
    else
      some s
def k_addHoldersOf  (v1 : Int32) (s : S) : Option S :=
  k_addHoldersOf_2 BIG v1 (0 : Int32) s
def k_countHolders_58  : Nat → Int32 → S → Option S
  | 0, _, _ => none
  | n + 1, v1, s =>
    if v1 < (gI s 0) then
      (ix (gA s 0) v1).bind fun a71 =>
      if a71 = 0 then
        k_countHolders_58 n (v1 + (1 : Int32)) s
      else
        (k_addHoldersOf v1 s).bind fun r77 =>
        k_countHolders_58 n (v1 + (1 : Int32)) r77
    else
      some s
def k_countHolders_56   (s : S) : Option S :=
  k_countHolders_58 BIG (0 : Int32) s
def k_countHolders_49 (k2 : Int32 → S → Option S) (v1 : Int32) (p0 : Int32) (p1 : Int32) (s : S) : Option S :=
  (Jvm.AM.st (gA s 6) p1 (nar .boolean p0)).bind fun a49 =>
  k2 (v1 + (1 : Int32)) (sA s 6 a49)
def k_countHolders_48 (k2 : Int32 → S → Option S) (v1 : Int32) (p0 : Int32) (s : S) : Option S :=
  k_countHolders_49 k2 v1 (0 : Int32) p0 s
def k_countHolders_2  : Nat → Int32 → S → Option S
  | 0, _, _ => none
  | n + 1, v1, s =>
    if v1 < (64 : Int32) then
      (Jvm.AM.st (gA s 9) v1 (0 : Int32)).bind fun a14 =>
      (Jvm.AM.st (gA s 8) v1 (0 : Int32)).bind fun a21 =>
      if v1 < (gI s 0) then
        (ix (gA s 0) v1).bind fun a40 =>
        k_countHolders_49 (fun v1 s => k_countHolders_2 n v1 s) v1 (if a40 = 0 then (0 : Int32) else (1 : Int32)) v1 (sA (sA s 9 a14) 8 a21)
      else
        k_countHolders_48 (fun v1 s => k_countHolders_2 n v1 s) v1 v1 (sA (sA s 9 a14) 8 a21)
    else
      k_countHolders_56 s
def k_countHolders   (s : S) : Option S :=
  k_countHolders_2 BIG (0 : Int32) s
def k_eligible  (v1 : Int32) (s : S) : Option Int32 :=
  if (k_isObjectId v1 s) = 0 then
    some (0 : Int32)
  else
    (ix (gA s 6) v1).bind fun a15 =>
    if a15 = 0 then
      some (0 : Int32)
    else
      (ix (gA s 7) v1).bind fun a26 =>
      if a26 = 0 then
        (ix (gA s 8) v1).bind fun a37 =>
        if a37 = 0 then
          (ix (gA s 9) v1).bind fun a48 =>
          if a48 = 0 then
            some (1 : Int32)
          else
            some (0 : Int32)
        else
          some (0 : Int32)
      else
        some (0 : Int32)
def k_enqueue  (v1 : Int32) (s : S) : Option S :=
  if (gI s 7) < (64 : Int32) then
    (Jvm.AM.st (gA s 10) (gI s 7) v1).bind fun a19 =>
    (Jvm.AM.st (gA s 8) v1 (1 : Int32)).bind fun a36 =>
    some (sA (sI (sA s 10 a19) 7 ((gI s 7) + (1 : Int32))) 8 a36)
  else
    some s
def k_seedWork_7  : Nat → Int32 → S → Option S
  | 0, _, _ => none
  | n + 1, v1, s =>
    if v1 < (gI s 0) then
      (k_eligible v1 s).bind fun r17 =>
      if r17 = 0 then
        k_seedWork_7 n (v1 + (1 : Int32)) s
      else
        (k_enqueue v1 s).bind fun r25 =>
        k_seedWork_7 n (v1 + (1 : Int32)) r25
    else
      some s
def k_seedWork   (s : S) : Option S :=
  k_seedWork_7 BIG (0 : Int32) (sI s 7 (0 : Int32))
def k_dropHoldersOf_2  : Nat → Int32 → Int32 → S → Option S
  | 0, _, _, _ => none
  | n + 1, v1, v2, s =>
    if v2 < (gI s 1) then
      (k_readField v1 v2 s).bind fun r13 =>
      (k_isLiveId r13 s).bind fun r19 =>
      if r19 = 0 then
        k_dropHoldersOf_2 n v1 (v2 + (1 : Int32)) s
      else
        (ix (gA s 9) r13).bind fun a30 =>
        if 0 < a30 then
          (ix (gA s 9) r13).bind fun a44 =>
          (Jvm.AM.st (gA s 9) r13 (a44 - (1 : Int32))).bind fun a47 =>
          (k_eligible r13 (sA s 9 a47)).bind fun r50 =>
          if r50 = 0 then
            k_dropHoldersOf_2 n v1 (v2 + (1 : Int32)) (sA s 9 a47)
          else
            (k_enqueue r13 (sA s 9 a47)).bind fun r58 =>
            k_dropHoldersOf_2 n v1 (v2 + (1 : Int32)) r58
        else
          k_dropHoldersOf_2 n v1 (v2 + (1 : Int32)) s
    else
      some s
def k_dropHoldersOf  (v1 : Int32) (s : S) : Option S :=
  k_dropHoldersOf_2 BIG v1 (0 : Int32) s
def k_cascade_61   (s : S) : Option S :=
  some (sI s 7 (0 : Int32))
def k_cascade_2  : Nat → Int32 → S → Option S
  | 0, _, _ => none
  | n + 1, v1, s =>
    if (64 : Int32) < v1 then
      k_cascade_61 s
    else
      if 0 < (gI s 7) then
        (ix (gA s 10) ((gI s 7) - (1 : Int32))).bind fun a33 =>
        if (k_isObjectId a33 (sI s 7 ((gI s 7) - (1 : Int32)))) = 0 then
          k_cascade_2 n (v1 + (1 : Int32)) (sI s 7 ((gI s 7) - (1 : Int32)))
        else
          (Jvm.AM.st (gA s 6) a33 (0 : Int32)).bind fun a49 =>
          (k_dropHoldersOf a33 (sA (sI s 7 ((gI s 7) - (1 : Int32))) 6 a49)).bind fun r52 =>
          k_cascade_2 n (v1 + (1 : Int32)) r52
      else
        k_cascade_61 s
def k_cascade   (s : S) : Option S :=
  k_cascade_2 BIG (0 : Int32) s
def k_releaseCell  (v1 : Int32) (s : S) : Option S :=
  if (k_isObjectId v1 s) = 0 then
    some s
  else
    (ix (gA s 0) v1).bind fun a14 =>
    if a14 = 0 then
      some s
    else
      (Jvm.AM.st (gA s 0) v1 (0 : Int32)).bind fun a25 =>
      (k_clearCellFields v1 (sA s 0 a25)).bind fun r28 =>
      (Jvm.AM.st (gA r28 2) v1 (0 : Int32)).bind fun a37 =>
      some (sI (sA r28 2 a37) 4 ((gI r28 4) - (1 : Int32)))
def k_sweep_4  : Nat → Int32 → Int32 → S → Option (Int32 × S)
  | 0, _, _, _ => none
  | n + 1, v1, v2, s =>
    if v2 < (gI s 0) then
      (ix (gA s 0) v2).bind fun a17 =>
      if a17 = 0 then
        k_sweep_4 n v1 (v2 + (1 : Int32)) s
      else
        (ix (gA s 6) v2).bind fun a26 =>
        if a26 = 0 then
          (k_releaseCell v2 s).bind fun r32 =>
          k_sweep_4 n (v1 + (1 : Int32)) (v2 + (1 : Int32)) r32
        else
          k_sweep_4 n v1 (v2 + (1 : Int32)) s
    else
      some (v1, s)
def k_sweep   (s : S) : Option (Int32 × S) :=
  k_sweep_4 BIG (0 : Int32) (0 : Int32) s
def k_refInc  (v1 : Int32) (s : S) : Option S :=
  if (k_isObjectId v1 s) = 0 then
    some s
  else
    (ix (gA s 2) v1).bind fun a18 =>
    (Jvm.AM.st (gA s 2) v1 (a18 + (1 : Int32))).bind fun a21 =>
    some (sA s 2 a21)
def k_countOutgoing_2  : Nat → Int32 → Int32 → S → Option S
  | 0, _, _, _ => none
  | n + 1, v1, v2, s =>
    if v2 < (gI s 1) then
      (k_readField v1 v2 s).bind fun r13 =>
      (k_isLiveId r13 s).bind fun r19 =>
      if r19 = 0 then
        k_countOutgoing_2 n v1 (v2 + (1 : Int32)) s
      else
        (k_refInc r13 s).bind fun r27 =>
        k_countOutgoing_2 n v1 (v2 + (1 : Int32)) r27
    else
      some s
def k_countOutgoing  (v1 : Int32) (s : S) : Option S :=
  k_countOutgoing_2 BIG v1 (0 : Int32) s
def k_recountRefs_23  : Nat → Int32 → S → Option S
  | 0, _, _ => none
  | n + 1, v1, s =>
    if v1 < (gI s 0) then
      (ix (gA s 0) v1).bind fun a36 =>
      if a36 = 0 then
        k_recountRefs_23 n (v1 + (1 : Int32)) s
      else
        (k_countOutgoing v1 s).bind fun r42 =>
        k_recountRefs_23 n (v1 + (1 : Int32)) r42
    else
      some s
def k_recountRefs_21   (s : S) : Option S :=
  k_recountRefs_23 BIG (0 : Int32) s
def k_recountRefs_2  : Nat → Int32 → S → Option S
  | 0, _, _ => none
  | n + 1, v1, s =>
    if v1 < (64 : Int32) then
      (Jvm.AM.st (gA s 2) v1 (0 : Int32)).bind fun a14 =>
      k_recountRefs_2 n (v1 + (1 : Int32)) (sA s 2 a14)
    else
      k_recountRefs_21 s
def k_recountRefs   (s : S) : Option S :=
  k_recountRefs_2 BIG (0 : Int32) s
def k_tableInsert  (v1 : Int32) (s : S) : Option (Int32 × S) :=
  if (k_isObjectId v1 s) = 0 then
    some ((0 : Int32), s)
  else
    (ix (gA s 5) v1).bind fun a15 =>
    if a15 = (-1 : Int32) then
      if (gI s 6) < (gI s 3) then
        if (gI s 6) < (64 : Int32) then
          (Jvm.AM.st (gA s 4) (gI s 6) v1).bind fun a53 =>
          (Jvm.AM.st (gA s 5) v1 (gI s 6)).bind fun a63 =>
          some ((1 : Int32), sI (sA (sA s 4 a53) 5 a63) 6 ((gI s 6) + (1 : Int32)))
        else
          some ((0 : Int32), s)
      else
        some ((0 : Int32), s)
    else
      some ((0 : Int32), s)
def k_rebuildTable_6  : Nat → Int32 → S → Option S
  | 0, _, _ => none
  | n + 1, v1, s =>
    if v1 < (gI s 0) then
      (ix (gA s 0) v1).bind fun a19 =>
      if a19 = 0 then
        k_rebuildTable_6 n (v1 + (1 : Int32)) s
      else
        (ix (gA s 2) v1).bind fun a28 =>
        if a28 = 0 then
          (k_tableInsert v1 s).bind fun r34 =>
          k_rebuildTable_6 n (v1 + (1 : Int32)) r34.2
        else
          k_rebuildTable_6 n (v1 + (1 : Int32)) s
    else
      some s
def k_rebuildTable   (s : S) : Option S :=
  (k_resetTable s).bind fun r1 =>
  k_rebuildTable_6 BIG (0 : Int32) r1
def k_runReconciliation   (s : S) : Option (Int32 × S) :=
  (k_markRootHeld (sI s 8 ((gI s 8) + (1 : Int32)))).bind fun r11 =>
  (k_countHolders r11).bind fun r15 =>
  (k_seedWork r15).bind fun r19 =>
  (k_cascade r19).bind fun r23 =>
  (k_sweep r23).bind fun r27 =>
  (k_recountRefs r27.2).bind fun r32 =>
  (k_rebuildTable r32).bind fun r36 =>
  some (r27.1, r36)
def k_lowestFreeCell_2  : Nat → Int32 → S → Option Int32
  | 0, _, _ => none
  | n + 1, v1, s =>
    if v1 < (gI s 0) then
      (ix (gA s 0) v1).bind fun a15 =>
      if a15 = 0 then
        some v1
      else
        k_lowestFreeCell_2 n (v1 + (1 : Int32)) s
    else
      some (-1 : Int32)
def k_lowestFreeCell   (s : S) : Option Int32 :=
  k_lowestFreeCell_2 BIG (0 : Int32) s
def k_bringToLife  (v1 : Int32) (s : S) : Option S :=
  if (k_isObjectId v1 s) = 0 then
    some s
  else
    (ix (gA s 0) v1).bind fun a14 =>
    if a14 = 0 then
      (Jvm.AM.st (gA s 0) v1 (1 : Int32)).bind fun a25 =>
      (k_clearCellFields v1 (sA s 0 a25)).bind fun r28 =>
      (Jvm.AM.st (gA r28 2) v1 (0 : Int32)).bind fun a37 =>
      some (sI (sA r28 2 a37) 4 ((gI r28 4) + (1 : Int32)))
    else
      some s
def k_rootPush  (v1 : Int32) (s : S) : Option S :=
  if (gI s 5) < (gI s 2) then
    if (gI s 5) < (16 : Int32) then
      (Jvm.AM.st (gA s 3) (gI s 5) v1).bind fun a30 =>
      some (sI (sA s 3 a30) 5 ((gI s 5) + (1 : Int32)))
    else
      some s
  else
    some s
def k_placeNewObject  (v1 : Int32) (s : S) : Option S :=
  (k_bringToLife v1 s).bind fun r2 =>
  (k_tableInsert v1 r2).bind fun r7 =>
  (k_rootPush v1 r7.2).bind fun r13 =>
  some r13
def k_alloc_22   (s : S) : Option (Int32 × S) :=
  (k_lowestFreeCell s).bind fun r23 =>
  if r23 = (-1 : Int32) then
    some ((-4 : Int32), s)
  else
    (k_placeNewObject r23 s).bind fun r37 =>
    some (r23, r37)
def k_alloc   (s : S) : Option (Int32 × S) :=
  if (k_rootsFull s) = 0 then
    if (k_allocNeedsReconcile s) = 0 then
      k_alloc_22 s
    else
      (k_runReconciliation s).bind fun r18 =>
      k_alloc_22 r18.2
  else
    some ((-2 : Int32), s)
def k_isRootSlot  (v1 : Int32) (s : S) : Int32 :=
  if v1 < 0 then
    (0 : Int32)
  else
    if v1 < (gI s 5) then
      (1 : Int32)
    else
      (0 : Int32)
def k_isValueSlot  (v1 : Int32) (s : S) : Int32 :=
  if v1 = (-1 : Int32) then
    (1 : Int32)
  else
    nar .boolean (k_isRootSlot v1 s)
def k_storeCheck  (v1 : Int32) (v2 : Int32) (v3 : Int32) (s : S) : Option Int32 :=
  if (k_isRootSlot v1 s) = 0 then
    some (-5 : Int32)
  else
    if (k_isFieldNo v2 s) = 0 then
      some (-6 : Int32)
    else
      if (k_isValueSlot v3 s) = 0 then
        some (-5 : Int32)
      else
        (ix (gA s 3) v1).bind fun a38 =>
        if a38 = (-1 : Int32) then
          some (-7 : Int32)
        else
          (ix (gA s 3) v1).bind fun a52 =>
          (k_isLiveId a52 s).bind fun r53 =>
          if r53 = 0 then
            some (-7 : Int32)
          else
            some (0 : Int32)
def k_valueOfSlot  (v1 : Int32) (s : S) : Option Int32 :=
  if v1 = (-1 : Int32) then
    some (-1 : Int32)
  else
    if (k_isRootSlot v1 s) = 0 then
      some (-1 : Int32)
    else
      (ix (gA s 3) v1).bind fun a22 =>
      some a22
def k_tableHas  (v1 : Int32) (s : S) : Option Int32 :=
  if (k_isObjectId v1 s) = 0 then
    some (0 : Int32)
  else
    (ix (gA s 5) v1).bind fun a15 =>
    if a15 = (-1 : Int32) then
      some (0 : Int32)
    else
      some (1 : Int32)
def k_storeNeedsReconcile  (v1 : Int32) (v2 : Int32) (s : S) : Option Int32 :=
  if v1 = (-1 : Int32) then
    some (0 : Int32)
  else
    if v1 = v2 then
      some (0 : Int32)
    else
      if (k_isObjectId v1 s) = 0 then
        some (0 : Int32)
      else
        (ix (gA s 2) v1).bind fun a29 =>
        if a29 = (1 : Int32) then
          (k_tableHas v1 s).bind fun r38 =>
          if r38 = 0 then
            some (nar .boolean (k_tableIsFull s))
          else
            some (0 : Int32)
        else
          some (0 : Int32)
def k_refDec  (v1 : Int32) (s : S) : Option S :=
  if (k_isObjectId v1 s) = 0 then
    some s
  else
    (ix (gA s 2) v1).bind fun a13 =>
    if 0 < a13 then
      (ix (gA s 2) v1).bind fun a27 =>
      (Jvm.AM.st (gA s 2) v1 (a27 - (1 : Int32))).bind fun a30 =>
      some (sA s 2 a30)
    else
      some s
def k_writeFieldRaw  (v1 : Int32) (v2 : Int32) (v3 : Int32) (s : S) : Option S :=
  if (k_isObjectId v1 s) = 0 then
    some s
  else
    if (k_isFieldNo v2 s) = 0 then
      some s
    else
      (Jvm.AM.st (gA s 1) ((v1 * (4 : Int32)) + v2) v3).bind fun a28 =>
      some (sA s 1 a28)
def k_assignField  (v1 : Int32) (v2 : Int32) (v3 : Int32) (s : S) : Option S :=
  (k_readField v1 v2 s).bind fun r3 =>
  (k_refDec r3 s).bind fun r11 =>
  (k_refInc v3 r11).bind fun r16 =>
  (k_writeFieldRaw v1 v2 v3 r16).bind fun r23 =>
  some r23
def k_noteZeroCount  (v1 : Int32) (s : S) : Option S :=
  if v1 = (-1 : Int32) then
    some s
  else
    if (k_isObjectId v1 s) = 0 then
      some s
    else
      (ix (gA s 2) v1).bind fun a20 =>
      if a20 = 0 then
        (k_tableHas v1 s).bind fun r27 =>
        if r27 = 0 then
          (k_tableInsert v1 s).bind fun r36 =>
          some r36.2
        else
          some s
      else
        some s
def k_store_57  (v2 : Int32) (v5 : Int32) (v6 : Int32) (v7 : Int32) (s : S) : Option (Int32 × S) :=
  (k_assignField v5 v2 v6 s).bind fun r63 =>
  (k_noteZeroCount v7 r63).bind fun r69 =>
  some ((0 : Int32), r69)
def k_store  (v1 : Int32) (v2 : Int32) (v3 : Int32) (s : S) : Option (Int32 × S) :=
  (k_storeCheck v1 v2 v3 s).bind fun r4 =>
  if r4 = 0 then
    (ix (gA s 3) v1).bind fun a22 =>
    (k_valueOfSlot v3 s).bind fun r27 =>
    (k_readField a22 v2 s).bind fun r36 =>
    (k_storeNeedsReconcile r36 r27 s).bind fun r46 =>
    if r46 = 0 then
      k_store_57 v2 a22 r27 r36 s
    else
      (k_runReconciliation s).bind fun r53 =>
      k_store_57 v2 a22 r27 r36 r53.2
  else
    some (r4, s)
def k_rootPopTop   (s : S) : Option S :=
  if 0 < (gI s 5) then
    (Jvm.AM.st (gA s 3) ((gI s 5) - (1 : Int32)) (-1 : Int32)).bind fun a27 =>
    some (sA (sI s 5 ((gI s 5) - (1 : Int32))) 3 a27)
  else
    some s
def k_pop   (s : S) : Option (Int32 × S) :=
  if 0 < (gI s 5) then
    (k_rootPopTop s).bind fun r11 =>
    some ((0 : Int32), r11)
  else
    some ((-3 : Int32), s)
def k_reconcile   (s : S) : Option (Int32 × S) :=
  (k_runReconciliation s).bind fun r1 =>
  some (r1.1, r1.2)
def k_isLive  (v1 : Int32) (s : S) : Option Int32 :=
  (k_isLiveId v1 s).bind fun r2 =>
  some (nar .boolean r2)
def k_count  (v1 : Int32) (s : S) : Option Int32 :=
  (k_isLiveId v1 s).bind fun r2 =>
  if r2 = 0 then
    some (-8 : Int32)
  else
    (ix (gA s 2) v1).bind fun a16 =>
    some a16
def k_field  (v1 : Int32) (v2 : Int32) (s : S) : Option Int32 :=
  (k_isLiveId v1 s).bind fun r2 =>
  if r2 = 0 then
    some (-8 : Int32)
  else
    if (k_isFieldNo v2 s) = 0 then
      some (-6 : Int32)
    else
      (k_readField v1 v2 s).bind fun r25 =>
      some r25
def k_inTable  (v1 : Int32) (s : S) : Option Int32 :=
  (k_tableHas v1 s).bind fun r2 =>
  some (nar .boolean r2)
def k_liveCount   (s : S) : Int32 :=
  gI s 4
def k_tableSize   (s : S) : Int32 :=
  gI s 6
def k_reconciliations   (s : S) : Int32 :=
  gI s 8
def h_ans  (v0 : Int32)  : Int32 :=
  if v0 < (-1 : Int32) then
    (-5 : Int32)
  else
    if (3 : Int32) < v0 then
      (-5 : Int32)
    else
      (0 : Int32)
def h_eff  (v0 : Int32)  : Int32 :=
  if v0 < 0 then
    (-1 : Int32)
  else
    if (3 : Int32) < v0 then
      (-1 : Int32)
    else
      v0
def h_edge  (v0 : Int32) (v1 : Int32) (v2 : Int32) (v3 : Int32) (v4 : Int32)  : Int32 :=
  if v0 = 0 then
    v1
  else
    if v0 = (1 : Int32) then
      v2
    else
      if v0 = (2 : Int32) then
        v3
      else
        v4
def law_594  (v21 : Int32) (v22 : Int32) (v23 : Int32) (v24 : Int32) (t0 : S) : Option (Int32 × S) :=
  if v21 = v22 then
    if (k_liveCount t0) = v24 then
      if (k_tableSize t0) = v23 then
        if (k_reconciliations t0) = (1 : Int32) then
          some ((1 : Int32), t0)
        else
          some ((0 : Int32), t0)
      else
        some ((0 : Int32), t0)
    else
      some ((0 : Int32), t0)
  else
    some ((0 : Int32), t0)
def law_554 (k377 : Int32 → Int32 → Int32 → Int32 → Int32 → Int32 → Int32 → Int32 → Int32 → Int32 → S → Option (Int32 × S)) (v14 : Int32) (v15 : Int32) (v16 : Int32) (v17 : Int32) (v20 : Int32) (v21 : Int32) (v22 : Int32) (v23 : Int32) (v24 : Int32) (v25 : Int32) (p0 : Int32) (p1 : Int32) (t0 : S) : Option (Int32 × S) :=
  if p1 = p0 then
    k377 v14 v15 v16 v17 v20 v21 v22 v23 v24 (v25 + (1 : Int32)) t0
  else
    some ((0 : Int32), t0)
def law_523 (k377 : Int32 → Int32 → Int32 → Int32 → Int32 → Int32 → Int32 → Int32 → Int32 → Int32 → S → Option (Int32 × S)) (v14 : Int32) (v15 : Int32) (v16 : Int32) (v17 : Int32) (v20 : Int32) (v21 : Int32) (v22 : Int32) (v23 : Int32) (v24 : Int32) (v25 : Int32) (v27 : Int32) (v28 : Int32) (v29 : Int32) (v30 : Int32) (v31 : Int32) (v32 : Int32) (t0 : S) : Option (Int32 × S) :=
  if v29 = 0 then
    some ((0 : Int32), t0)
  else
    if v30 = v27 then
      if v31 = v28 then
        law_554 k377 v14 v15 v16 v17 v20 v21 v22 v23 v24 v25 (if v27 = 0 then (1 : Int32) else (0 : Int32)) v32 t0
      else
        some ((0 : Int32), t0)
    else
      some ((0 : Int32), t0)
def law_455 (k377 : Int32 → Int32 → Int32 → Int32 → Int32 → Int32 → Int32 → Int32 → Int32 → Int32 → S → Option (Int32 × S)) (v14 : Int32) (v15 : Int32) (v16 : Int32) (v17 : Int32) (v20 : Int32) (v21 : Int32) (v22 : Int32) (v23 : Int32) (v24 : Int32) (v25 : Int32) (v26 : Int32) (v27 : Int32) (t0 : S) : Option (Int32 × S) :=
  (k_isLive v25 t0).bind fun r474 =>
  (k_count v25 t0).bind fun r483 =>
  (k_field v25 (0 : Int32) t0).bind fun r493 =>
  (k_inTable v25 t0).bind fun r502 =>
  if v26 = 0 then
    if r474 = 0 then
      if r483 = (-8 : Int32) then
        if r493 = (-8 : Int32) then
          if r502 = 0 then
            k377 v14 v15 v16 v17 v20 v21 (v22 + (1 : Int32)) v23 v24 (v25 + (1 : Int32)) t0
          else
            some ((0 : Int32), t0)
        else
          some ((0 : Int32), t0)
      else
        some ((0 : Int32), t0)
    else
      some ((0 : Int32), t0)
  else
    law_523 k377 v14 v15 v16 v17 v20 v21 v22 (if v27 = 0 then v23 + (1 : Int32) else v23) (v24 + (1 : Int32)) v25 v27 (h_edge v25 v14 v15 v16 v17) r474 r483 r493 r502 t0
def law_407 (k377 : Int32 → Int32 → Int32 → Int32 → Int32 → Int32 → Int32 → Int32 → Int32 → Int32 → S → Option (Int32 × S)) : Nat → Int32 → Int32 → Int32 → Int32 → Int32 → Int32 → Int32 → Int32 → Int32 → Int32 → Int32 → Int32 → Int32 → S → Option (Int32 × S)
  | 0, _, _, _, _, _, _, _, _, _, _, _, _, _, _ => none
  | n + 1, v14, v15, v16, v17, v20, v21, v22, v23, v24, v25, v26, v27, v28, t0 =>
    if v28 < (4 : Int32) then
      law_407 k377 n v14 v15 v16 v17 v20 v21 v22 v23 v24 v25 v26 (if ((v20 >>> (v28 &&& 31)) &&& (1 : Int32)) = (1 : Int32) then if (h_edge v28 v14 v15 v16 v17) = v25 then v27 + (1 : Int32) else v27 else v27) (v28 + (1 : Int32)) t0
    else
      law_455 k377 v14 v15 v16 v17 v20 v21 v22 v23 v24 v25 v26 v27 t0
def law_399 (k377 : Int32 → Int32 → Int32 → Int32 → Int32 → Int32 → Int32 → Int32 → Int32 → Int32 → S → Option (Int32 × S)) (v14 : Int32) (v15 : Int32) (v16 : Int32) (v17 : Int32) (v20 : Int32) (v21 : Int32) (v22 : Int32) (v23 : Int32) (v24 : Int32) (v25 : Int32) (p0 : Int32) (t0 : S) : Option (Int32 × S) :=
  law_407 k377 BIG v14 v15 v16 v17 v20 v21 v22 v23 v24 v25 p0 (0 : Int32) (0 : Int32) t0
def law_377  : Nat → Int32 → Int32 → Int32 → Int32 → Int32 → Int32 → Int32 → Int32 → Int32 → Int32 → S → Option (Int32 × S)
  | 0, _, _, _, _, _, _, _, _, _, _, _ => none
  | n + 1, v14, v15, v16, v17, v20, v21, v22, v23, v24, v25, t0 =>
    if v25 < (4 : Int32) then
      law_399 (fun v14 v15 v16 v17 v20 v21 v22 v23 v24 v25 t0 => law_377 n v14 v15 v16 v17 v20 v21 v22 v23 v24 v25 t0) v14 v15 v16 v17 v20 v21 v22 v23 v24 v25 (if ((v20 >>> (v25 &&& 31)) &&& (1 : Int32)) = (1 : Int32) then (1 : Int32) else (0 : Int32)) t0
    else
      law_594 v21 v22 v23 v24 t0
def law_358  (v14 : Int32) (v15 : Int32) (v16 : Int32) (v17 : Int32) (v20 : Int32) (t0 : S) : Option (Int32 × S) :=
  (k_reconcile t0).bind fun r360 =>
  law_377 BIG v14 v15 v16 v17 v20 r360.1 (0 : Int32) (0 : Int32) (0 : Int32) (0 : Int32) r360.2
def law_330 (k240 : Int32 → Int32 → Int32 → Int32 → Int32 → Int32 → Int32 → S → Option (Int32 × S)) (k249 : Int32 → Int32 → Int32 → Int32 → Int32 → Int32 → Int32 → Int32 → S → Option (Int32 × S)) (v14 : Int32) (v15 : Int32) (v16 : Int32) (v17 : Int32) (v19 : Int32) (v20 : Int32) (v21 : Int32) (v22 : Int32) (v23 : Int32) (t0 : S) : Option (Int32 × S) :=
  k249 v14 v15 v16 v17 v19 (if v23 = 0 then v20 &&& (((1 : Int32) <<< (v22 &&& 31)) ^^^ (-1 : Int32)) else v20) v21 (v22 + (1 : Int32)) t0
def law_282 (k240 : Int32 → Int32 → Int32 → Int32 → Int32 → Int32 → Int32 → S → Option (Int32 × S)) (k249 : Int32 → Int32 → Int32 → Int32 → Int32 → Int32 → Int32 → Int32 → S → Option (Int32 × S)) : Nat → Int32 → Int32 → Int32 → Int32 → Int32 → Int32 → Int32 → Int32 → Int32 → Int32 → S → Option (Int32 × S)
  | 0, _, _, _, _, _, _, _, _, _, _, _ => none
  | n + 1, v14, v15, v16, v17, v19, v20, v21, v22, v23, v24, t0 =>
    if v24 < (4 : Int32) then
      law_282 k240 k249 n v14 v15 v16 v17 v19 v20 v21 v22 (if ((v20 >>> (v24 &&& 31)) &&& (1 : Int32)) = (1 : Int32) then if (h_edge v24 v14 v15 v16 v17) = v22 then (1 : Int32) else v23 else v23) (v24 + (1 : Int32)) t0
    else
      law_330 k240 k249 v14 v15 v16 v17 v19 v20 v21 v22 v23 t0
def law_249 (k240 : Int32 → Int32 → Int32 → Int32 → Int32 → Int32 → Int32 → S → Option (Int32 × S)) : Nat → Int32 → Int32 → Int32 → Int32 → Int32 → Int32 → Int32 → Int32 → S → Option (Int32 × S)
  | 0, _, _, _, _, _, _, _, _, _ => none
  | n + 1, v14, v15, v16, v17, v19, v20, v21, v22, t0 =>
    if v22 < (4 : Int32) then
      if ((v20 >>> (v22 &&& 31)) &&& (1 : Int32)) = (1 : Int32) then
        if ((v19 >>> (v22 &&& 31)) &&& (1 : Int32)) = 0 then
          law_282 k240 (fun v14 v15 v16 v17 v19 v20 v21 v22 t0 => law_249 k240 n v14 v15 v16 v17 v19 v20 v21 v22 t0) BIG v14 v15 v16 v17 v19 v20 v21 v22 (0 : Int32) (0 : Int32) t0
        else
          law_249 k240 n v14 v15 v16 v17 v19 v20 v21 (v22 + (1 : Int32)) t0
      else
        law_249 k240 n v14 v15 v16 v17 v19 v20 v21 (v22 + (1 : Int32)) t0
    else
      k240 v14 v15 v16 v17 v19 v20 (v21 + (1 : Int32)) t0
def law_240  : Nat → Int32 → Int32 → Int32 → Int32 → Int32 → Int32 → Int32 → S → Option (Int32 × S)
  | 0, _, _, _, _, _, _, _, _ => none
  | n + 1, v14, v15, v16, v17, v19, v20, v21, t0 =>
    if v21 < (4 : Int32) then
      law_249 (fun v14 v15 v16 v17 v19 v20 v21 t0 => law_240 n v14 v15 v16 v17 v19 v20 v21 t0) BIG v14 v15 v16 v17 v19 v20 v21 (0 : Int32) t0
    else
      law_358 v14 v15 v16 v17 v20 t0
def law_223  (v14 : Int32) (v15 : Int32) (v16 : Int32) (v17 : Int32) (v18 : Int32) (t0 : S) : Option (Int32 × S) :=
  law_240 BIG v14 v15 v16 v17 (((1 : Int32) <<< (((4 : Int32) - v18) &&& 31)) - (1 : Int32)) (15 : Int32) (0 : Int32) t0
def law_190  : Nat → Int32 → Int32 → Int32 → Int32 → Int32 → Int32 → S → Option (Int32 × S)
  | 0, _, _, _, _, _, _, _ => none
  | n + 1, v14, v15, v16, v17, v18, v19, t0 =>
    if v19 < (4 : Int32) then
      if v19 < v18 then
        (k_pop t0).bind fun r205 =>
        if r205.1 = 0 then
          law_190 n v14 v15 v16 v17 v18 (v19 + (1 : Int32)) r205.2
        else
          some ((0 : Int32), r205.2)
      else
        law_190 n v14 v15 v16 v17 v18 (v19 + (1 : Int32)) t0
    else
      law_223 v14 v15 v16 v17 v18 t0
def law_185  (v14 : Int32) (v15 : Int32) (v16 : Int32) (v17 : Int32) (p0 : Int32) (t0 : S) : Option (Int32 × S) :=
  law_190 BIG v14 v15 v16 v17 p0 (0 : Int32) t0
def law_46  (v0 : Int32) (v1 : Int32) (v2 : Int32) (v3 : Int32) (v4 : Int32) (t0 : S) : Option (Int32 × S) :=
  (k_store (0 : Int32) (0 : Int32) v0 t0).bind fun r51 =>
  (k_store (1 : Int32) (0 : Int32) v1 r51.2).bind fun r61 =>
  (k_store (2 : Int32) (0 : Int32) v2 r61.2).bind fun r71 =>
  (k_store (3 : Int32) (0 : Int32) v3 r71.2).bind fun r81 =>
  if r51.1 = (h_ans v0) then
    if r61.1 = (h_ans v1) then
      if r71.1 = (h_ans v2) then
        if r81.1 = (h_ans v3) then
          law_185 (h_eff v0) (h_eff v1) (h_eff v2) (h_eff v3) (if v4 < 0 then (0 : Int32) else if (4 : Int32) < v4 then (4 : Int32) else v4) r81.2
        else
          some ((0 : Int32), r81.2)
      else
        some ((0 : Int32), r81.2)
    else
      some ((0 : Int32), r81.2)
  else
    some ((0 : Int32), r81.2)
def law_18  : Nat → Int32 → Int32 → Int32 → Int32 → Int32 → Int32 → S → Option (Int32 × S)
  | 0, _, _, _, _, _, _, _ => none
  | n + 1, v0, v1, v2, v3, v4, v6, t0 =>
    if v6 < (4 : Int32) then
      (k_alloc t0).bind fun r26 =>
      if r26.1 = v6 then
        law_18 n v0 v1 v2 v3 v4 (v6 + (1 : Int32)) r26.2
      else
        some ((0 : Int32), r26.2)
    else
      law_46 v0 v1 v2 v3 v4 t0
def law  (v0 : Int32) (v1 : Int32) (v2 : Int32) (v3 : Int32) (v4 : Int32)  : Option (Int32 × S) :=
  (k_init (8 : Int32) (1 : Int32) (4 : Int32) (16 : Int32)).bind fun r10 =>
  law_18 BIG v0 v1 v2 v3 v4 (0 : Int32) r10
set_option maxRecDepth 65536 in
set_option maxHeartbeats 4000000 in
theorem k_clamp_ok  {w : W} : ∀ (v0 : Int32) (v1 : Int32) (v2 : Int32)   (o : Int32), k_clamp v0 v1 v2 = o → Go PP m0 0 [.val (.int v0), .val (.int v1), .val (.int v2)] [] w (some (.int o), w) := by
  intro v0 v1 v2 o hf
  unfold k_clamp at hf
  refine go_iloadN (pc := 0) d0_0 rfl (go_iloadN (pc := 1) d0_1 rfl ?_)
  by_cases h1 : v0 < v1
  · replace hf := (if_pos h1).symm.trans hf
    refine go_icN (pc := 2) d0_2 (XT.ii_ge_f h1) ?_
    refine go_iloadN (pc := 5) d0_5 rfl ?_
    cases hf
    exact go_iret (pc := 6) rfl d0_6
  · replace hf := (if_neg h1).symm.trans hf
    refine go_icY (pc := 2) (pc' := 7) d0_2 (XT.ii_ge_t h1) j_2_5 ?_
    refine go_iloadN (pc := 7) d0_7 rfl (go_iloadN (pc := 8) d0_8 rfl ?_)
    by_cases h2 : v2 < v0
    · replace hf := (if_pos h2).symm.trans hf
      refine go_icN (pc := 9) d0_9 (XT.ii_le_f h2) ?_
      refine go_iloadN (pc := 12) d0_12 rfl ?_
      cases hf
      exact go_iret (pc := 13) rfl d0_13
    · replace hf := (if_neg h2).symm.trans hf
      refine go_icY (pc := 9) (pc' := 14) d0_9 (XT.ii_le_t h2) j_9_5 ?_
      refine go_iloadN (pc := 14) d0_14 rfl ?_
      cases hf
      exact go_iret (pc := 15) rfl d0_15
theorem c_k_clamp (v0 : Int32) (v1 : Int32) (v2 : Int32) (w : W) : Call PP m0 [.int v0, .int v1, .int v2] w (some (.int (k_clamp v0 v1 v2)), w) := call_of_go pl_0 rfl (fun h => nomatch h) (k_clamp_ok v0 v1 v2   _ rfl)
set_option maxRecDepth 65536 in
set_option maxHeartbeats 4000000 in
theorem k_clearCellFields_17_ok  : ∀ (n : Nat) (v2 : Int32) (v3 : Int32) (s : S) (x1 : Slot) (hx1 : k1 x1) (o : S), k_clearCellFields_17 n v2 v3 s = some o → Go PP m1 17 [.val (.ref 1), x1, .val (.int v2), .val (.int v3)] [] (none, [(11, s)]) (none, (none, [(11, o)])) := by
  intro n
  induction n with
  | zero => intro v2 v3 s x1 hx1 o hf; exact nomatch hf
  | succ n ih =>
    intro v2 v3 s x1 hx1 o hf
    unfold k_clearCellFields_17 at hf
    refine go_iloadN (pc := 17) d1_17 rfl (go_iconst (pc := 18) d1_18 ci_4 ?_)
    by_cases h1 : v3 < (4 : Int32)
    · replace hf := (if_pos h1).symm.trans hf
      refine go_icN (pc := 19) d1_19 (XT.ii_ge_f h1) ?_
      refine go_aloadN (pc := 22) d1_22 rfl (go_getA (pc := 23) fa_13 hm_1 d1_23 rfl (go_iloadN (pc := 26) d1_26 rfl (go_iloadN (pc := 27) d1_27 rfl (go_iadd (pc := 28) d1_28 (go_iconst (pc := 29) d1_29 ci_m1 ?_)))))
      obtain ⟨a30, e2, hf⟩ := Option.bind_eq_some_iff.mp hf
      refine go_iastore (pc := 30) (q := 1) ar_1 rfl hn_1 e2 d1_30 ?_
      refine go_iinc (pc := 31) (L' := [.val (.ref 1), x1, .val (.int v2), .val (.int (v3 + (1 : Int32)))]) d1_31 rfl ci_1 rfl (go_goto (pc := 34) (pc' := 17) d1_34 j_34_m17 ?_)
      exact ih v2 (v3 + (1 : Int32)) (sA s 1 a30) x1 hx1 _ hf
    · replace hf := (if_neg h1).symm.trans hf
      refine go_icY (pc := 19) (pc' := 37) d1_19 (XT.ii_ge_t h1) j_19_18 ?_
      cases hf
      exact go_ret (pc := 37) rfl d1_37
set_option maxRecDepth 65536 in
set_option maxHeartbeats 4000000 in
theorem k_clearCellFields_ok  : ∀ (v1 : Int32) (s : S)  (o : S), k_clearCellFields v1 s = some o → Go PP m1 0 [.val (.ref 1), .val (.int v1), .unset, .unset] [] (none, [(11, s)]) (none, (none, [(11, o)])) := by
  intro v1 s o hf
  unfold k_clearCellFields at hf
  refine go_iloadN (pc := 0) d1_0 rfl ?_
  by_cases h1 : v1 < 0
  · replace hf := (if_pos h1).symm.trans hf
    refine go_ifY (pc := 1) (pc' := 10) d1_1 (XT.i0_lt_t h1) j_1_9 ?_
    cases hf
    exact go_ret (pc := 10) rfl d1_10
  · replace hf := (if_neg h1).symm.trans hf
    refine go_ifN (pc := 1) d1_1 (XT.i0_lt_f h1) ?_
    refine go_iloadN (pc := 4) d1_4 rfl (go_bipush (pc := 5) d1_5 cb_64 ?_)
    by_cases h2 : v1 < (64 : Int32)
    · replace hf := (if_pos h2).symm.trans hf
      refine go_icY (pc := 7) (pc' := 11) d1_7 (XT.ii_lt_t h2) j_7_4 ?_
      refine go_iloadN (pc := 11) d1_11 rfl (go_iconst (pc := 12) d1_12 ci_4 (go_imul (pc := 13) d1_13 (go_istoreN (pc := 14) (L' := [.val (.ref 1), .val (.int v1), .val (.int (v1 * (4 : Int32))), .unset]) d1_14 rfl (go_iconst (pc := 15) d1_15 ci_0 (go_istoreN (pc := 16) (L' := [.val (.ref 1), .val (.int v1), .val (.int (v1 * (4 : Int32))), .val (.int (0 : Int32))]) d1_16 rfl ?_)))))
      exact k_clearCellFields_17_ok BIG (v1 * (4 : Int32)) (0 : Int32) s (.val (.int v1)) (Or.inr ⟨_, rfl, rfl⟩) _ hf
    · replace hf := (if_neg h2).symm.trans hf
      refine go_icN (pc := 7) d1_7 (XT.ii_lt_f h2) ?_
      cases hf
      exact go_ret (pc := 10) rfl d1_10
theorem c_k_clearCellFields (v1 : Int32) (s : S) (o : S) (hf : k_clearCellFields v1 s = some o) : Call PP m1 [.ref 1, .int v1] (none, [(11, s)]) (none, (none, [(11, o)])) := call_of_go pl_0 rfl (fun _ => rfl) (k_clearCellFields_ok v1 s   _ hf)
set_option maxRecDepth 65536 in
set_option maxHeartbeats 4000000 in
theorem k_resetHeap_33_ok  : ∀  (s : S) (x1 : Slot) (hx1 : k1 x1) (o : S), k_resetHeap_33 s = some o → Go PP m2 33 [.val (.ref 1), x1] [] (none, [(11, s)]) (none, (none, [(11, o)])) := by
  intro s x1 hx1 o hf
  unfold k_resetHeap_33 at hf
  refine go_aloadN (pc := 33) d2_33 rfl (go_iconst (pc := 34) d2_34 ci_0 (go_putI (pc := 35) fs_147 hm_2 (wr_4 _) hn_2 d2_35 ?_))
  cases hf
  exact go_ret (pc := 38) rfl d2_38
set_option maxRecDepth 65536 in
set_option maxHeartbeats 4000000 in
theorem k_resetHeap_2_ok  : ∀ (n : Nat) (v1 : Int32) (s : S)  (o : S), k_resetHeap_2 n v1 s = some o → Go PP m2 2 [.val (.ref 1), .val (.int v1)] [] (none, [(11, s)]) (none, (none, [(11, o)])) := by
  intro n
  induction n with
  | zero => intro v1 s o hf; exact nomatch hf
  | succ n ih =>
    intro v1 s o hf
    unfold k_resetHeap_2 at hf
    refine go_iloadN (pc := 2) d2_2 rfl (go_bipush (pc := 3) d2_3 cb_64 ?_)
    by_cases h1 : v1 < (64 : Int32)
    · replace hf := (if_pos h1).symm.trans hf
      refine go_icN (pc := 5) d2_5 (XT.ii_ge_f h1) ?_
      refine go_aloadN (pc := 8) d2_8 rfl (go_getA (pc := 9) fa_7 hm_2 d2_9 rfl (go_iloadN (pc := 12) d2_12 rfl (go_iconst (pc := 13) d2_13 ci_0 ?_)))
      obtain ⟨a14, e2, hf⟩ := Option.bind_eq_some_iff.mp hf
      refine go_bastore (pc := 14) (q := 0) ar_0 (by decide) rfl hn_2 (by decide) e2 d2_14 ?_
      refine go_aloadN (pc := 15) d2_15 rfl (go_getA (pc := 16) fa_17 hm_2 d2_16 rfl (go_iloadN (pc := 19) d2_19 rfl (go_iconst (pc := 20) d2_20 ci_0 ?_)))
      obtain ⟨a21, e3, hf⟩ := Option.bind_eq_some_iff.mp hf
      refine go_iastore (pc := 21) (q := 2) ar_2 rfl hn_2 e3 d2_21 ?_
      refine go_aloadN (pc := 22) d2_22 rfl (go_iloadN (pc := 23) d2_23 rfl ?_)
      obtain ⟨r24, e4, hf⟩ := Option.bind_eq_some_iff.mp hf
      refine go_priv (pc := 24) (i := 0) (as := [.int v1]) (rest := []) (w' := (none, [(11, r24)])) lk_0_219 pd_1 rfl oid_0 rfl rfl rfl rfl rfl rfl ⟨rfl, rfl, rfl, rfl, rfl⟩ d2_24 (c_k_clearCellFields v1 (sA (sA s 0 a14) 2 a21) _ e4) ?_
      refine go_iinc (pc := 27) (L' := [.val (.ref 1), .val (.int (v1 + (1 : Int32)))]) d2_27 rfl ci_1 rfl (go_goto (pc := 30) (pc' := 2) d2_30 j_30_m28 ?_)
      exact ih (v1 + (1 : Int32)) r24 _ hf
    · replace hf := (if_neg h1).symm.trans hf
      refine go_icY (pc := 5) (pc' := 33) d2_5 (XT.ii_ge_t h1) j_5_28 ?_
      exact k_resetHeap_33_ok s (.val (.int v1)) (Or.inr ⟨_, rfl, rfl⟩) _ hf
set_option maxRecDepth 65536 in
set_option maxHeartbeats 4000000 in
theorem k_resetHeap_ok  : ∀  (s : S)  (o : S), k_resetHeap s = some o → Go PP m2 0 [.val (.ref 1), .unset] [] (none, [(11, s)]) (none, (none, [(11, o)])) := by
  intro s o hf
  unfold k_resetHeap at hf
  refine go_iconst (pc := 0) d2_0 ci_0 (go_istoreN (pc := 1) (L' := [.val (.ref 1), .val (.int (0 : Int32))]) d2_1 rfl ?_)
  exact k_resetHeap_2_ok BIG (0 : Int32) s _ hf
theorem c_k_resetHeap (s : S) (o : S) (hf : k_resetHeap s = some o) : Call PP m2 [.ref 1] (none, [(11, s)]) (none, (none, [(11, o)])) := call_of_go pl_0 rfl (fun _ => rfl) (k_resetHeap_ok s   _ hf)
set_option maxRecDepth 65536 in
set_option maxHeartbeats 4000000 in
theorem k_resetRoots_21_ok  : ∀  (s : S) (x1 : Slot) (hx1 : k1 x1) (o : S), k_resetRoots_21 s = some o → Go PP m3 21 [.val (.ref 1), x1] [] (none, [(11, s)]) (none, (none, [(11, o)])) := by
  intro s x1 hx1 o hf
  unfold k_resetRoots_21 at hf
  refine go_aloadN (pc := 21) d3_21 rfl (go_iconst (pc := 22) d3_22 ci_0 (go_putI (pc := 23) fs_125 hm_3 (wr_5 _) hn_3 d3_23 ?_))
  cases hf
  exact go_ret (pc := 26) rfl d3_26
set_option maxRecDepth 65536 in
set_option maxHeartbeats 4000000 in
theorem k_resetRoots_2_ok  : ∀ (n : Nat) (v1 : Int32) (s : S)  (o : S), k_resetRoots_2 n v1 s = some o → Go PP m3 2 [.val (.ref 1), .val (.int v1)] [] (none, [(11, s)]) (none, (none, [(11, o)])) := by
  intro n
  induction n with
  | zero => intro v1 s o hf; exact nomatch hf
  | succ n ih =>
    intro v1 s o hf
    unfold k_resetRoots_2 at hf
    refine go_iloadN (pc := 2) d3_2 rfl (go_bipush (pc := 3) d3_3 cb_16 ?_)
    by_cases h1 : v1 < (16 : Int32)
    · replace hf := (if_pos h1).symm.trans hf
      refine go_icN (pc := 5) d3_5 (XT.ii_ge_f h1) ?_
      refine go_aloadN (pc := 8) d3_8 rfl (go_getA (pc := 9) fa_20 hm_3 d3_9 rfl (go_iloadN (pc := 12) d3_12 rfl (go_iconst (pc := 13) d3_13 ci_m1 ?_)))
      obtain ⟨a14, e2, hf⟩ := Option.bind_eq_some_iff.mp hf
      refine go_iastore (pc := 14) (q := 3) ar_3 rfl hn_3 e2 d3_14 ?_
      refine go_iinc (pc := 15) (L' := [.val (.ref 1), .val (.int (v1 + (1 : Int32)))]) d3_15 rfl ci_1 rfl (go_goto (pc := 18) (pc' := 2) d3_18 j_18_m16 ?_)
      exact ih (v1 + (1 : Int32)) (sA s 3 a14) _ hf
    · replace hf := (if_neg h1).symm.trans hf
      refine go_icY (pc := 5) (pc' := 21) d3_5 (XT.ii_ge_t h1) j_5_16 ?_
      exact k_resetRoots_21_ok s (.val (.int v1)) (Or.inr ⟨_, rfl, rfl⟩) _ hf
set_option maxRecDepth 65536 in
set_option maxHeartbeats 4000000 in
theorem k_resetRoots_ok  : ∀  (s : S)  (o : S), k_resetRoots s = some o → Go PP m3 0 [.val (.ref 1), .unset] [] (none, [(11, s)]) (none, (none, [(11, o)])) := by
  intro s o hf
  unfold k_resetRoots at hf
  refine go_iconst (pc := 0) d3_0 ci_0 (go_istoreN (pc := 1) (L' := [.val (.ref 1), .val (.int (0 : Int32))]) d3_1 rfl ?_)
  exact k_resetRoots_2_ok BIG (0 : Int32) s _ hf
theorem c_k_resetRoots (s : S) (o : S) (hf : k_resetRoots s = some o) : Call PP m3 [.ref 1] (none, [(11, s)]) (none, (none, [(11, o)])) := call_of_go pl_0 rfl (fun _ => rfl) (k_resetRoots_ok s   _ hf)
set_option maxRecDepth 65536 in
set_option maxHeartbeats 4000000 in
theorem k_resetTable_42_ok  : ∀  (s : S) (x1 : Slot) (hx1 : k1 x1) (o : S), k_resetTable_42 s = some o → Go PP m4 42 [.val (.ref 1), x1] [] (none, [(11, s)]) (none, (none, [(11, o)])) := by
  intro s x1 hx1 o hf
  unfold k_resetTable_42 at hf
  refine go_aloadN (pc := 42) d4_42 rfl (go_iconst (pc := 43) d4_43 ci_0 (go_putI (pc := 44) fs_144 hm_4 (wr_6 _) hn_4 d4_44 ?_))
  cases hf
  exact go_ret (pc := 47) rfl d4_47
set_option maxRecDepth 65536 in
set_option maxHeartbeats 4000000 in
theorem k_resetTable_23_ok  : ∀ (n : Nat) (v1 : Int32) (s : S)  (o : S), k_resetTable_23 n v1 s = some o → Go PP m4 23 [.val (.ref 1), .val (.int v1)] [] (none, [(11, s)]) (none, (none, [(11, o)])) := by
  intro n
  induction n with
  | zero => intro v1 s o hf; exact nomatch hf
  | succ n ih =>
    intro v1 s o hf
    unfold k_resetTable_23 at hf
    refine go_iloadN (pc := 23) d4_23 rfl (go_bipush (pc := 24) d4_24 cb_64 ?_)
    by_cases h1 : v1 < (64 : Int32)
    · replace hf := (if_pos h1).symm.trans hf
      refine go_icN (pc := 26) d4_26 (XT.ii_ge_f h1) ?_
      refine go_aloadN (pc := 29) d4_29 rfl (go_getA (pc := 30) fa_26 hm_4 d4_30 rfl (go_iloadN (pc := 33) d4_33 rfl (go_iconst (pc := 34) d4_34 ci_m1 ?_)))
      obtain ⟨a35, e2, hf⟩ := Option.bind_eq_some_iff.mp hf
      refine go_iastore (pc := 35) (q := 5) ar_5 rfl hn_4 e2 d4_35 ?_
      refine go_iinc (pc := 36) (L' := [.val (.ref 1), .val (.int (v1 + (1 : Int32)))]) d4_36 rfl ci_1 rfl (go_goto (pc := 39) (pc' := 23) d4_39 j_39_m16 ?_)
      exact ih (v1 + (1 : Int32)) (sA s 5 a35) _ hf
    · replace hf := (if_neg h1).symm.trans hf
      refine go_icY (pc := 26) (pc' := 42) d4_26 (XT.ii_ge_t h1) j_26_16 ?_
      exact k_resetTable_42_ok s (.val (.int v1)) (Or.inr ⟨_, rfl, rfl⟩) _ hf
set_option maxRecDepth 65536 in
set_option maxHeartbeats 4000000 in
theorem k_resetTable_21_ok  : ∀  (s : S) (x1 : Slot) (hx1 : k1 x1) (o : S), k_resetTable_21 s = some o → Go PP m4 21 [.val (.ref 1), x1] [] (none, [(11, s)]) (none, (none, [(11, o)])) := by
  intro s x1 hx1 o hf
  unfold k_resetTable_21 at hf
  refine go_iconst (pc := 21) d4_21 ci_0 (go_istoreN (pc := 22) (L' := [.val (.ref 1), .val (.int (0 : Int32))]) d4_22 (stx rfl hx1 rfl) ?_)
  exact k_resetTable_23_ok BIG (0 : Int32) s _ hf
set_option maxRecDepth 65536 in
set_option maxHeartbeats 4000000 in
theorem k_resetTable_2_ok  : ∀ (n : Nat) (v1 : Int32) (s : S)  (o : S), k_resetTable_2 n v1 s = some o → Go PP m4 2 [.val (.ref 1), .val (.int v1)] [] (none, [(11, s)]) (none, (none, [(11, o)])) := by
  intro n
  induction n with
  | zero => intro v1 s o hf; exact nomatch hf
  | succ n ih =>
    intro v1 s o hf
    unfold k_resetTable_2 at hf
    refine go_iloadN (pc := 2) d4_2 rfl (go_bipush (pc := 3) d4_3 cb_64 ?_)
    by_cases h1 : v1 < (64 : Int32)
    · replace hf := (if_pos h1).symm.trans hf
      refine go_icN (pc := 5) d4_5 (XT.ii_ge_f h1) ?_
      refine go_aloadN (pc := 8) d4_8 rfl (go_getA (pc := 9) fa_23 hm_4 d4_9 rfl (go_iloadN (pc := 12) d4_12 rfl (go_iconst (pc := 13) d4_13 ci_m1 ?_)))
      obtain ⟨a14, e2, hf⟩ := Option.bind_eq_some_iff.mp hf
      refine go_iastore (pc := 14) (q := 4) ar_4 rfl hn_4 e2 d4_14 ?_
      refine go_iinc (pc := 15) (L' := [.val (.ref 1), .val (.int (v1 + (1 : Int32)))]) d4_15 rfl ci_1 rfl (go_goto (pc := 18) (pc' := 2) d4_18 j_18_m16 ?_)
      exact ih (v1 + (1 : Int32)) (sA s 4 a14) _ hf
    · replace hf := (if_neg h1).symm.trans hf
      refine go_icY (pc := 5) (pc' := 21) d4_5 (XT.ii_ge_t h1) j_5_16 ?_
      exact k_resetTable_21_ok s (.val (.int v1)) (Or.inr ⟨_, rfl, rfl⟩) _ hf
set_option maxRecDepth 65536 in
set_option maxHeartbeats 4000000 in
theorem k_resetTable_ok  : ∀  (s : S)  (o : S), k_resetTable s = some o → Go PP m4 0 [.val (.ref 1), .unset] [] (none, [(11, s)]) (none, (none, [(11, o)])) := by
  intro s o hf
  unfold k_resetTable at hf
  refine go_iconst (pc := 0) d4_0 ci_0 (go_istoreN (pc := 1) (L' := [.val (.ref 1), .val (.int (0 : Int32))]) d4_1 rfl ?_)
  exact k_resetTable_2_ok BIG (0 : Int32) s _ hf
theorem c_k_resetTable (s : S) (o : S) (hf : k_resetTable s = some o) : Call PP m4 [.ref 1] (none, [(11, s)]) (none, (none, [(11, o)])) := call_of_go pl_0 rfl (fun _ => rfl) (k_resetTable_ok s   _ hf)
set_option maxRecDepth 65536 in
set_option maxHeartbeats 4000000 in
theorem k_resetScratch_49_ok  : ∀  (s : S) (x1 : Slot) (hx1 : k1 x1) (o : S), k_resetScratch_49 s = some o → Go PP m5 49 [.val (.ref 1), x1] [] (none, [(11, s)]) (none, (none, [(11, o)])) := by
  intro s x1 hx1 o hf
  unfold k_resetScratch_49 at hf
  refine go_aloadN (pc := 49) d5_49 rfl (go_iconst (pc := 50) d5_50 ci_0 (go_putI (pc := 51) fs_201 hm_5 (wr_7 _) hn_5 d5_51 ?_))
  cases hf
  exact go_ret (pc := 54) rfl d5_54
set_option maxRecDepth 65536 in
set_option maxHeartbeats 4000000 in
theorem k_resetScratch_2_ok  : ∀ (n : Nat) (v1 : Int32) (s : S)  (o : S), k_resetScratch_2 n v1 s = some o → Go PP m5 2 [.val (.ref 1), .val (.int v1)] [] (none, [(11, s)]) (none, (none, [(11, o)])) := by
  intro n
  induction n with
  | zero => intro v1 s o hf; exact nomatch hf
  | succ n ih =>
    intro v1 s o hf
    unfold k_resetScratch_2 at hf
    refine go_iloadN (pc := 2) d5_2 rfl (go_bipush (pc := 3) d5_3 cb_64 ?_)
    by_cases h1 : v1 < (64 : Int32)
    · replace hf := (if_pos h1).symm.trans hf
      refine go_icN (pc := 5) d5_5 (XT.ii_ge_f h1) ?_
      refine go_aloadN (pc := 8) d5_8 rfl (go_getA (pc := 9) fa_29 hm_5 d5_9 rfl (go_iloadN (pc := 12) d5_12 rfl (go_iconst (pc := 13) d5_13 ci_0 ?_)))
      obtain ⟨a14, e2, hf⟩ := Option.bind_eq_some_iff.mp hf
      refine go_bastore (pc := 14) (q := 6) ar_6 (by decide) rfl hn_5 (by decide) e2 d5_14 ?_
      refine go_aloadN (pc := 15) d5_15 rfl (go_getA (pc := 16) fa_32 hm_5 d5_16 rfl (go_iloadN (pc := 19) d5_19 rfl (go_iconst (pc := 20) d5_20 ci_0 ?_)))
      obtain ⟨a21, e3, hf⟩ := Option.bind_eq_some_iff.mp hf
      refine go_bastore (pc := 21) (q := 7) ar_7 (by decide) rfl hn_5 (by decide) e3 d5_21 ?_
      refine go_aloadN (pc := 22) d5_22 rfl (go_getA (pc := 23) fa_35 hm_5 d5_23 rfl (go_iloadN (pc := 26) d5_26 rfl (go_iconst (pc := 27) d5_27 ci_0 ?_)))
      obtain ⟨a28, e4, hf⟩ := Option.bind_eq_some_iff.mp hf
      refine go_bastore (pc := 28) (q := 8) ar_8 (by decide) rfl hn_5 (by decide) e4 d5_28 ?_
      refine go_aloadN (pc := 29) d5_29 rfl (go_getA (pc := 30) fa_38 hm_5 d5_30 rfl (go_iloadN (pc := 33) d5_33 rfl (go_iconst (pc := 34) d5_34 ci_0 ?_)))
      obtain ⟨a35, e5, hf⟩ := Option.bind_eq_some_iff.mp hf
      refine go_iastore (pc := 35) (q := 9) ar_9 rfl hn_5 e5 d5_35 ?_
      refine go_aloadN (pc := 36) d5_36 rfl (go_getA (pc := 37) fa_41 hm_5 d5_37 rfl (go_iloadN (pc := 40) d5_40 rfl (go_iconst (pc := 41) d5_41 ci_m1 ?_)))
      obtain ⟨a42, e6, hf⟩ := Option.bind_eq_some_iff.mp hf
      refine go_iastore (pc := 42) (q := 10) ar_10 rfl hn_5 e6 d5_42 ?_
      refine go_iinc (pc := 43) (L' := [.val (.ref 1), .val (.int (v1 + (1 : Int32)))]) d5_43 rfl ci_1 rfl (go_goto (pc := 46) (pc' := 2) d5_46 j_46_m44 ?_)
      exact ih (v1 + (1 : Int32)) (sA (sA (sA (sA (sA s 6 a14) 7 a21) 8 a28) 9 a35) 10 a42) _ hf
    · replace hf := (if_neg h1).symm.trans hf
      refine go_icY (pc := 5) (pc' := 49) d5_5 (XT.ii_ge_t h1) j_5_44 ?_
      exact k_resetScratch_49_ok s (.val (.int v1)) (Or.inr ⟨_, rfl, rfl⟩) _ hf
set_option maxRecDepth 65536 in
set_option maxHeartbeats 4000000 in
theorem k_resetScratch_ok  : ∀  (s : S)  (o : S), k_resetScratch s = some o → Go PP m5 0 [.val (.ref 1), .unset] [] (none, [(11, s)]) (none, (none, [(11, o)])) := by
  intro s o hf
  unfold k_resetScratch at hf
  refine go_iconst (pc := 0) d5_0 ci_0 (go_istoreN (pc := 1) (L' := [.val (.ref 1), .val (.int (0 : Int32))]) d5_1 rfl ?_)
  exact k_resetScratch_2_ok BIG (0 : Int32) s _ hf
theorem c_k_resetScratch (s : S) (o : S) (hf : k_resetScratch s = some o) : Call PP m5 [.ref 1] (none, [(11, s)]) (none, (none, [(11, o)])) := call_of_go pl_0 rfl (fun _ => rfl) (k_resetScratch_ok s   _ hf)
set_option maxRecDepth 65536 in
set_option maxHeartbeats 4000000 in
theorem k_init_ok  : ∀ (v1 : Int32) (v2 : Int32) (v3 : Int32) (v4 : Int32)   (o : S), k_init v1 v2 v3 v4 = some o → Go PP m6 0 [.val (.ref 1), .val (.int v1), .val (.int v2), .val (.int v3), .val (.int v4), .unset] [] (none, [(0, s0)]) (none, (none, [(11, o)])) := by
  intro v1 v2 v3 v4 o hf
  unfold k_init at hf
  refine go_aloadN (pc := 0) d6_0 rfl ?_
  refine go_objinit (pc := 1) (rest := []) (a := 0) (List.mem_of_getElem? (i := 6) rfl) (List.mem_of_getElem? (i := 7) rfl) (List.mem_of_getElem? (i := 8) rfl) rfl rfl d6_1 ?_
  refine go_aloadN (pc := 4) d6_4 rfl (go_bipush (pc := 5) d6_5 cb_64 ?_)
  refine go_newI (pc := 7) (ty := .boolean) rfl (by decide) ar_0 (List.mem_of_getElem? (i := 9) rfl) (List.mem_of_getElem? (i := 10) rfl) hm_6 (Or.inl (List.mem_of_getElem? (i := 11) rfl)) rfl hn_6 (by decide) rfl rfl rfl rfl d6_7 d6_9 ?_
  refine go_aloadN (pc := 12) d6_12 rfl (go_sipush (pc := 13) d6_13 cs_256 ?_)
  refine go_newI (pc := 16) (ty := .int) rfl (by decide) ar_1 (List.mem_of_getElem? (i := 12) rfl) (List.mem_of_getElem? (i := 13) rfl) hm_6 (Or.inl (List.mem_of_getElem? (i := 14) rfl)) rfl hn_6 (by decide) rfl rfl rfl rfl d6_16 d6_18 ?_
  refine go_aloadN (pc := 21) d6_21 rfl (go_bipush (pc := 22) d6_22 cb_64 ?_)
  refine go_newI (pc := 24) (ty := .int) rfl (by decide) ar_2 (List.mem_of_getElem? (i := 12) rfl) (List.mem_of_getElem? (i := 15) rfl) hm_6 (Or.inl (List.mem_of_getElem? (i := 16) rfl)) rfl hn_6 (by decide) rfl rfl rfl rfl d6_24 d6_26 ?_
  refine go_aloadN (pc := 29) d6_29 rfl (go_bipush (pc := 30) d6_30 cb_16 ?_)
  refine go_newI (pc := 32) (ty := .int) rfl (by decide) ar_3 (List.mem_of_getElem? (i := 12) rfl) (List.mem_of_getElem? (i := 17) rfl) hm_6 (Or.inl (List.mem_of_getElem? (i := 18) rfl)) rfl hn_6 (by decide) rfl rfl rfl rfl d6_32 d6_34 ?_
  refine go_aloadN (pc := 37) d6_37 rfl (go_bipush (pc := 38) d6_38 cb_64 ?_)
  refine go_newI (pc := 40) (ty := .int) rfl (by decide) ar_4 (List.mem_of_getElem? (i := 12) rfl) (List.mem_of_getElem? (i := 19) rfl) hm_6 (Or.inl (List.mem_of_getElem? (i := 20) rfl)) rfl hn_6 (by decide) rfl rfl rfl rfl d6_40 d6_42 ?_
  refine go_aloadN (pc := 45) d6_45 rfl (go_bipush (pc := 46) d6_46 cb_64 ?_)
  refine go_newI (pc := 48) (ty := .int) rfl (by decide) ar_5 (List.mem_of_getElem? (i := 12) rfl) (List.mem_of_getElem? (i := 21) rfl) hm_6 (Or.inl (List.mem_of_getElem? (i := 22) rfl)) rfl hn_6 (by decide) rfl rfl rfl rfl d6_48 d6_50 ?_
  refine go_aloadN (pc := 53) d6_53 rfl (go_bipush (pc := 54) d6_54 cb_64 ?_)
  refine go_newI (pc := 56) (ty := .boolean) rfl (by decide) ar_6 (List.mem_of_getElem? (i := 9) rfl) (List.mem_of_getElem? (i := 23) rfl) hm_6 (Or.inl (List.mem_of_getElem? (i := 24) rfl)) rfl hn_6 (by decide) rfl rfl rfl rfl d6_56 d6_58 ?_
  refine go_aloadN (pc := 61) d6_61 rfl (go_bipush (pc := 62) d6_62 cb_64 ?_)
  refine go_newI (pc := 64) (ty := .boolean) rfl (by decide) ar_7 (List.mem_of_getElem? (i := 9) rfl) (List.mem_of_getElem? (i := 25) rfl) hm_6 (Or.inl (List.mem_of_getElem? (i := 26) rfl)) rfl hn_6 (by decide) rfl rfl rfl rfl d6_64 d6_66 ?_
  refine go_aloadN (pc := 69) d6_69 rfl (go_bipush (pc := 70) d6_70 cb_64 ?_)
  refine go_newI (pc := 72) (ty := .boolean) rfl (by decide) ar_8 (List.mem_of_getElem? (i := 9) rfl) (List.mem_of_getElem? (i := 27) rfl) hm_6 (Or.inl (List.mem_of_getElem? (i := 28) rfl)) rfl hn_6 (by decide) rfl rfl rfl rfl d6_72 d6_74 ?_
  refine go_aloadN (pc := 77) d6_77 rfl (go_bipush (pc := 78) d6_78 cb_64 ?_)
  refine go_newI (pc := 80) (ty := .int) rfl (by decide) ar_9 (List.mem_of_getElem? (i := 12) rfl) (List.mem_of_getElem? (i := 29) rfl) hm_6 (Or.inl (List.mem_of_getElem? (i := 30) rfl)) rfl hn_6 (by decide) rfl rfl rfl rfl d6_80 d6_82 ?_
  refine go_aloadN (pc := 85) d6_85 rfl (go_bipush (pc := 86) d6_86 cb_64 ?_)
  refine go_newI (pc := 88) (ty := .int) rfl (by decide) ar_10 (List.mem_of_getElem? (i := 12) rfl) (List.mem_of_getElem? (i := 31) rfl) hm_6 (Or.inl (List.mem_of_getElem? (i := 32) rfl)) rfl hn_6 (by decide) rfl rfl rfl rfl d6_88 d6_90 ?_
  refine go_aloadN (pc := 93) d6_93 rfl (go_iloadN (pc := 94) d6_94 rfl (go_iconst (pc := 95) d6_95 ci_4 (go_bipush (pc := 96) d6_96 cb_64 ?_)))
  refine go_stat (pc := 98) (as := [.int v1, .int (4 : Int32), .int (64 : Int32)]) (rest := [.ref 1]) (w' := (none, [(11, sA (sA (sA (sA (sA (sA (sA (sA (sA (sA (sA s0 0 (rep 64 0)) 1 (rep 256 0)) 2 (rep 64 0)) 3 (rep 16 0)) 4 (rep 64 0)) 5 (rep 64 0)) 6 (rep 64 0)) 7 (rep 64 0)) 8 (rep 64 0)) 9 (rep 64 0)) 10 (rep 64 0))])) lk_0_44 pd_0 rfl rfl ⟨Nat.le_of_ble_eq_true rfl, Nat.le_of_ble_eq_true rfl⟩ ⟨rfl, rfl, rfl⟩ ⟨rfl, rfl, rfl, rfl, rfl⟩ d6_98 (c_k_clamp v1 (4 : Int32) (64 : Int32) (none, [(11, sA (sA (sA (sA (sA (sA (sA (sA (sA (sA (sA s0 0 (rep 64 0)) 1 (rep 256 0)) 2 (rep 64 0)) 3 (rep 16 0)) 4 (rep 64 0)) 5 (rep 64 0)) 6 (rep 64 0)) 7 (rep 64 0)) 8 (rep 64 0)) 9 (rep 64 0)) 10 (rep 64 0))])) ?_
  refine go_putI (pc := 101) fs_48 hm_6 (wr_0 _) hn_6 d6_101 (go_aloadN (pc := 104) d6_104 rfl (go_iloadN (pc := 105) d6_105 rfl (go_iconst (pc := 106) d6_106 ci_1 (go_iconst (pc := 107) d6_107 ci_4 ?_))))
  refine go_stat (pc := 108) (as := [.int v2, .int (1 : Int32), .int (4 : Int32)]) (rest := [.ref 1]) (w' := (none, [(11, sI (sA (sA (sA (sA (sA (sA (sA (sA (sA (sA (sA s0 0 (rep 64 0)) 1 (rep 256 0)) 2 (rep 64 0)) 3 (rep 16 0)) 4 (rep 64 0)) 5 (rep 64 0)) 6 (rep 64 0)) 7 (rep 64 0)) 8 (rep 64 0)) 9 (rep 64 0)) 10 (rep 64 0)) 0 (k_clamp v1 (4 : Int32) (64 : Int32)))])) lk_0_44 pd_0 rfl rfl ⟨Nat.le_of_ble_eq_true rfl, Nat.le_of_ble_eq_true rfl⟩ ⟨rfl, rfl, rfl⟩ ⟨rfl, rfl, rfl, rfl, rfl⟩ d6_108 (c_k_clamp v2 (1 : Int32) (4 : Int32) (none, [(11, sI (sA (sA (sA (sA (sA (sA (sA (sA (sA (sA (sA s0 0 (rep 64 0)) 1 (rep 256 0)) 2 (rep 64 0)) 3 (rep 16 0)) 4 (rep 64 0)) 5 (rep 64 0)) 6 (rep 64 0)) 7 (rep 64 0)) 8 (rep 64 0)) 9 (rep 64 0)) 10 (rep 64 0)) 0 (k_clamp v1 (4 : Int32) (64 : Int32)))])) ?_
  refine go_putI (pc := 111) fs_52 hm_6 (wr_1 _) hn_6 d6_111 (go_aloadN (pc := 114) d6_114 rfl (go_iloadN (pc := 115) d6_115 rfl (go_iconst (pc := 116) d6_116 ci_1 (go_bipush (pc := 117) d6_117 cb_16 ?_))))
  refine go_stat (pc := 119) (as := [.int v3, .int (1 : Int32), .int (16 : Int32)]) (rest := [.ref 1]) (w' := (none, [(11, sI (sI (sA (sA (sA (sA (sA (sA (sA (sA (sA (sA (sA s0 0 (rep 64 0)) 1 (rep 256 0)) 2 (rep 64 0)) 3 (rep 16 0)) 4 (rep 64 0)) 5 (rep 64 0)) 6 (rep 64 0)) 7 (rep 64 0)) 8 (rep 64 0)) 9 (rep 64 0)) 10 (rep 64 0)) 0 (k_clamp v1 (4 : Int32) (64 : Int32))) 1 (k_clamp v2 (1 : Int32) (4 : Int32)))])) lk_0_44 pd_0 rfl rfl ⟨Nat.le_of_ble_eq_true rfl, Nat.le_of_ble_eq_true rfl⟩ ⟨rfl, rfl, rfl⟩ ⟨rfl, rfl, rfl, rfl, rfl⟩ d6_119 (c_k_clamp v3 (1 : Int32) (16 : Int32) (none, [(11, sI (sI (sA (sA (sA (sA (sA (sA (sA (sA (sA (sA (sA s0 0 (rep 64 0)) 1 (rep 256 0)) 2 (rep 64 0)) 3 (rep 16 0)) 4 (rep 64 0)) 5 (rep 64 0)) 6 (rep 64 0)) 7 (rep 64 0)) 8 (rep 64 0)) 9 (rep 64 0)) 10 (rep 64 0)) 0 (k_clamp v1 (4 : Int32) (64 : Int32))) 1 (k_clamp v2 (1 : Int32) (4 : Int32)))])) ?_
  refine go_putI (pc := 122) fs_55 hm_6 (wr_2 _) hn_6 d6_122 (go_aloadN (pc := 125) d6_125 rfl (go_getI (pc := 126) fs_55 hm_6 d6_126 (go_iconst (pc := 129) d6_129 ci_1 (go_iadd (pc := 130) d6_130 (go_istore (pc := 131) (L' := [.val (.ref 1), .val (.int v1), .val (.int v2), .val (.int v3), .val (.int v4), .val (.int ((k_clamp v3 (1 : Int32) (16 : Int32)) + (1 : Int32)))]) d6_131 rfl (go_aloadN (pc := 133) d6_133 rfl (go_iload (pc := 134) d6_134 rfl ?_)))))))
  refine go_iload (pc := 136) d6_136 rfl (go_bipush (pc := 138) d6_138 cb_64 ?_)
  refine go_stat (pc := 140) (as := [.int v4, .int ((k_clamp v3 (1 : Int32) (16 : Int32)) + (1 : Int32)), .int (64 : Int32)]) (rest := [.ref 1]) (w' := (none, [(11, sI (sI (sI (sA (sA (sA (sA (sA (sA (sA (sA (sA (sA (sA s0 0 (rep 64 0)) 1 (rep 256 0)) 2 (rep 64 0)) 3 (rep 16 0)) 4 (rep 64 0)) 5 (rep 64 0)) 6 (rep 64 0)) 7 (rep 64 0)) 8 (rep 64 0)) 9 (rep 64 0)) 10 (rep 64 0)) 0 (k_clamp v1 (4 : Int32) (64 : Int32))) 1 (k_clamp v2 (1 : Int32) (4 : Int32))) 2 (k_clamp v3 (1 : Int32) (16 : Int32)))])) lk_0_44 pd_0 rfl rfl ⟨Nat.le_of_ble_eq_true rfl, Nat.le_of_ble_eq_true rfl⟩ ⟨rfl, rfl, rfl⟩ ⟨rfl, rfl, rfl, rfl, rfl⟩ d6_140 (c_k_clamp v4 ((k_clamp v3 (1 : Int32) (16 : Int32)) + (1 : Int32)) (64 : Int32) (none, [(11, sI (sI (sI (sA (sA (sA (sA (sA (sA (sA (sA (sA (sA (sA s0 0 (rep 64 0)) 1 (rep 256 0)) 2 (rep 64 0)) 3 (rep 16 0)) 4 (rep 64 0)) 5 (rep 64 0)) 6 (rep 64 0)) 7 (rep 64 0)) 8 (rep 64 0)) 9 (rep 64 0)) 10 (rep 64 0)) 0 (k_clamp v1 (4 : Int32) (64 : Int32))) 1 (k_clamp v2 (1 : Int32) (4 : Int32))) 2 (k_clamp v3 (1 : Int32) (16 : Int32)))])) ?_
  refine go_putI (pc := 143) fs_58 hm_6 (wr_3 _) hn_6 d6_143 (go_aloadN (pc := 146) d6_146 rfl ?_)
  obtain ⟨r147, e12, hf⟩ := Option.bind_eq_some_iff.mp hf
  refine go_priv (pc := 147) (i := 0) (as := []) (rest := []) (w' := (none, [(11, r147)])) lk_0_61 pd_2 rfl oid_0 rfl rfl rfl rfl rfl rfl ⟨rfl, rfl, rfl, rfl, rfl⟩ d6_147 (c_k_resetHeap (sI (sI (sI (sI (sA (sA (sA (sA (sA (sA (sA (sA (sA (sA (sA s0 0 (rep 64 0)) 1 (rep 256 0)) 2 (rep 64 0)) 3 (rep 16 0)) 4 (rep 64 0)) 5 (rep 64 0)) 6 (rep 64 0)) 7 (rep 64 0)) 8 (rep 64 0)) 9 (rep 64 0)) 10 (rep 64 0)) 0 (k_clamp v1 (4 : Int32) (64 : Int32))) 1 (k_clamp v2 (1 : Int32) (4 : Int32))) 2 (k_clamp v3 (1 : Int32) (16 : Int32))) 3 (k_clamp v4 ((k_clamp v3 (1 : Int32) (16 : Int32)) + (1 : Int32)) (64 : Int32))) _ e12) ?_
  refine go_aloadN (pc := 150) d6_150 rfl ?_
  obtain ⟨r151, e13, hf⟩ := Option.bind_eq_some_iff.mp hf
  refine go_priv (pc := 151) (i := 0) (as := []) (rest := []) (w' := (none, [(11, r151)])) lk_0_64 pd_3 rfl oid_0 rfl rfl rfl rfl rfl rfl ⟨rfl, rfl, rfl, rfl, rfl⟩ d6_151 (c_k_resetRoots r147 _ e13) ?_
  refine go_aloadN (pc := 154) d6_154 rfl ?_
  obtain ⟨r155, e14, hf⟩ := Option.bind_eq_some_iff.mp hf
  refine go_priv (pc := 155) (i := 0) (as := []) (rest := []) (w' := (none, [(11, r155)])) lk_0_67 pd_4 rfl oid_0 rfl rfl rfl rfl rfl rfl ⟨rfl, rfl, rfl, rfl, rfl⟩ d6_155 (c_k_resetTable r151 _ e14) ?_
  refine go_aloadN (pc := 158) d6_158 rfl ?_
  obtain ⟨r159, e15, hf⟩ := Option.bind_eq_some_iff.mp hf
  refine go_priv (pc := 159) (i := 0) (as := []) (rest := []) (w' := (none, [(11, r159)])) lk_0_70 pd_5 rfl oid_0 rfl rfl rfl rfl rfl rfl ⟨rfl, rfl, rfl, rfl, rfl⟩ d6_159 (c_k_resetScratch r155 _ e15) ?_
  refine go_aloadN (pc := 162) d6_162 rfl (go_iconst (pc := 163) d6_163 ci_0 (go_putI (pc := 164) fs_73 hm_6 (wr_8 _) hn_6 d6_164 ?_))
  cases hf
  exact go_ret (pc := 167) rfl d6_167
theorem c_k_init (v1 : Int32) (v2 : Int32) (v3 : Int32) (v4 : Int32) (o : S) (hf : k_init v1 v2 v3 v4 = some o) : Call PP m6 [.ref 1, .int v1, .int v2, .int v3, .int v4] (none, [(0, s0)]) (none, (none, [(11, o)])) := call_of_go pl_0 rfl (fun _ => rfl) (k_init_ok v1 v2 v3 v4   _ hf)
set_option maxRecDepth 65536 in
set_option maxHeartbeats 4000000 in
theorem k_rootsFull_ok  : ∀  (s : S)  (o : Int32), k_rootsFull s = o → Go PP m7 0 [.val (.ref 1)] [] (none, [(11, s)]) (some (.int o), (none, [(11, s)])) := by
  intro s o hf
  unfold k_rootsFull at hf
  refine go_aloadN (pc := 0) d7_0 rfl (go_getI (pc := 1) fs_125 hm_7 d7_1 (go_aloadN (pc := 4) d7_4 rfl (go_getI (pc := 5) fs_55 hm_7 d7_5 ?_)))
  by_cases h1 : (gI s 5) < (gI s 2)
  · replace hf := (if_pos h1).symm.trans hf
    refine go_icY (pc := 8) (pc' := 15) d7_8 (XT.ii_lt_t h1) j_8_7 ?_
    refine go_iconst (pc := 15) d7_15 ci_0 ?_
    cases hf
    exact go_zret (pc := 16) rfl d7_16 (show (0 : Int32) = nar .boolean (0 : Int32) by decide)
  · replace hf := (if_neg h1).symm.trans hf
    refine go_icN (pc := 8) d7_8 (XT.ii_lt_f h1) ?_
    refine go_iconst (pc := 11) d7_11 ci_1 (go_goto (pc := 12) (pc' := 16) d7_12 j_12_4 ?_)
    cases hf
    exact go_zret (pc := 16) rfl d7_16 (show (1 : Int32) = nar .boolean (1 : Int32) by decide)
theorem c_k_rootsFull (s : S) : Call PP m7 [.ref 1] (none, [(11, s)]) (some (.int (k_rootsFull s)), (none, [(11, s)])) := call_of_go pl_0 rfl (fun h => nomatch h) (k_rootsFull_ok s   _ rfl)
set_option maxRecDepth 65536 in
set_option maxHeartbeats 4000000 in
theorem k_hasFreeCell_ok  : ∀  (s : S)  (o : Int32), k_hasFreeCell s = o → Go PP m8 0 [.val (.ref 1)] [] (none, [(11, s)]) (some (.int o), (none, [(11, s)])) := by
  intro s o hf
  unfold k_hasFreeCell at hf
  refine go_aloadN (pc := 0) d8_0 rfl (go_getI (pc := 1) fs_147 hm_8 d8_1 (go_aloadN (pc := 4) d8_4 rfl (go_getI (pc := 5) fs_48 hm_8 d8_5 ?_)))
  by_cases h1 : (gI s 4) < (gI s 0)
  · replace hf := (if_pos h1).symm.trans hf
    refine go_icN (pc := 8) d8_8 (XT.ii_ge_f h1) ?_
    refine go_iconst (pc := 11) d8_11 ci_1 (go_goto (pc := 12) (pc' := 16) d8_12 j_12_4 ?_)
    cases hf
    exact go_zret (pc := 16) rfl d8_16 (show (1 : Int32) = nar .boolean (1 : Int32) by decide)
  · replace hf := (if_neg h1).symm.trans hf
    refine go_icY (pc := 8) (pc' := 15) d8_8 (XT.ii_ge_t h1) j_8_7 ?_
    refine go_iconst (pc := 15) d8_15 ci_0 ?_
    cases hf
    exact go_zret (pc := 16) rfl d8_16 (show (0 : Int32) = nar .boolean (0 : Int32) by decide)
theorem c_k_hasFreeCell (s : S) : Call PP m8 [.ref 1] (none, [(11, s)]) (some (.int (k_hasFreeCell s)), (none, [(11, s)])) := call_of_go pl_0 rfl (fun h => nomatch h) (k_hasFreeCell_ok s   _ rfl)
set_option maxRecDepth 65536 in
set_option maxHeartbeats 4000000 in
theorem k_tableIsFull_ok  : ∀  (s : S)  (o : Int32), k_tableIsFull s = o → Go PP m9 0 [.val (.ref 1)] [] (none, [(11, s)]) (some (.int o), (none, [(11, s)])) := by
  intro s o hf
  unfold k_tableIsFull at hf
  refine go_aloadN (pc := 0) d9_0 rfl (go_getI (pc := 1) fs_144 hm_9 d9_1 (go_aloadN (pc := 4) d9_4 rfl (go_getI (pc := 5) fs_58 hm_9 d9_5 ?_)))
  by_cases h1 : (gI s 6) < (gI s 3)
  · replace hf := (if_pos h1).symm.trans hf
    refine go_icY (pc := 8) (pc' := 15) d9_8 (XT.ii_lt_t h1) j_8_7 ?_
    refine go_iconst (pc := 15) d9_15 ci_0 ?_
    cases hf
    exact go_zret (pc := 16) rfl d9_16 (show (0 : Int32) = nar .boolean (0 : Int32) by decide)
  · replace hf := (if_neg h1).symm.trans hf
    refine go_icN (pc := 8) d9_8 (XT.ii_lt_f h1) ?_
    refine go_iconst (pc := 11) d9_11 ci_1 (go_goto (pc := 12) (pc' := 16) d9_12 j_12_4 ?_)
    cases hf
    exact go_zret (pc := 16) rfl d9_16 (show (1 : Int32) = nar .boolean (1 : Int32) by decide)
theorem c_k_tableIsFull (s : S) : Call PP m9 [.ref 1] (none, [(11, s)]) (some (.int (k_tableIsFull s)), (none, [(11, s)])) := call_of_go pl_0 rfl (fun h => nomatch h) (k_tableIsFull_ok s   _ rfl)
set_option maxRecDepth 65536 in
set_option maxHeartbeats 4000000 in
theorem k_allocNeedsReconcile_ok  : ∀  (s : S)  (o : Int32), k_allocNeedsReconcile s = o → Go PP m10 0 [.val (.ref 1)] [] (none, [(11, s)]) (some (.int o), (none, [(11, s)])) := by
  intro s o hf
  unfold k_allocNeedsReconcile at hf
  refine go_aloadN (pc := 0) d10_0 rfl ?_
  refine go_priv (pc := 1) (i := 0) (as := []) (rest := []) (w' := (none, [(11, s)])) lk_0_153 pd_8 rfl oid_0 rfl rfl rfl rfl rfl rfl ⟨rfl, rfl, rfl, rfl, rfl⟩ d10_1 (c_k_hasFreeCell s) ?_
  by_cases h1 : (k_hasFreeCell s) = 0
  · replace hf := (if_pos h1).symm.trans hf
    refine go_ifN (pc := 4) d10_4 (XT.i0_ne_f h1) ?_
    refine go_iconst (pc := 7) d10_7 ci_1 ?_
    cases hf
    exact go_zret (pc := 8) rfl d10_8 (show (1 : Int32) = nar .boolean (1 : Int32) by decide)
  · replace hf := (if_neg h1).symm.trans hf
    refine go_ifY (pc := 4) (pc' := 9) d10_4 (XT.i0_ne_t h1) j_4_5 ?_
    refine go_aloadN (pc := 9) d10_9 rfl ?_
    refine go_priv (pc := 10) (i := 0) (as := []) (rest := []) (w' := (none, [(11, s)])) lk_0_156 pd_9 rfl oid_0 rfl rfl rfl rfl rfl rfl ⟨rfl, rfl, rfl, rfl, rfl⟩ d10_10 (c_k_tableIsFull s) ?_
    cases hf
    exact go_zret (pc := 13) rfl d10_13 rfl
theorem c_k_allocNeedsReconcile (s : S) : Call PP m10 [.ref 1] (none, [(11, s)]) (some (.int (k_allocNeedsReconcile s)), (none, [(11, s)])) := call_of_go pl_0 rfl (fun h => nomatch h) (k_allocNeedsReconcile_ok s   _ rfl)
set_option maxRecDepth 65536 in
set_option maxHeartbeats 4000000 in
theorem k_isObjectId_ok  : ∀ (v1 : Int32) (s : S)  (o : Int32), k_isObjectId v1 s = o → Go PP m11 0 [.val (.ref 1), .val (.int v1)] [] (none, [(11, s)]) (some (.int o), (none, [(11, s)])) := by
  intro v1 s o hf
  unfold k_isObjectId at hf
  refine go_iloadN (pc := 0) d11_0 rfl ?_
  by_cases h1 : v1 < 0
  · replace hf := (if_pos h1).symm.trans hf
    refine go_ifY (pc := 1) (pc' := 16) d11_1 (XT.i0_lt_t h1) j_1_15 ?_
    refine go_iconst (pc := 16) d11_16 ci_0 ?_
    cases hf
    exact go_zret (pc := 17) rfl d11_17 (show (0 : Int32) = nar .boolean (0 : Int32) by decide)
  · replace hf := (if_neg h1).symm.trans hf
    refine go_ifN (pc := 1) d11_1 (XT.i0_lt_f h1) ?_
    refine go_iloadN (pc := 4) d11_4 rfl (go_aloadN (pc := 5) d11_5 rfl (go_getI (pc := 6) fs_48 hm_11 d11_6 ?_))
    by_cases h2 : v1 < (gI s 0)
    · replace hf := (if_pos h2).symm.trans hf
      refine go_icN (pc := 9) d11_9 (XT.ii_ge_f h2) ?_
      refine go_iconst (pc := 12) d11_12 ci_1 (go_goto (pc := 13) (pc' := 17) d11_13 j_13_4 ?_)
      cases hf
      exact go_zret (pc := 17) rfl d11_17 (show (1 : Int32) = nar .boolean (1 : Int32) by decide)
    · replace hf := (if_neg h2).symm.trans hf
      refine go_icY (pc := 9) (pc' := 16) d11_9 (XT.ii_ge_t h2) j_9_7 ?_
      refine go_iconst (pc := 16) d11_16 ci_0 ?_
      cases hf
      exact go_zret (pc := 17) rfl d11_17 (show (0 : Int32) = nar .boolean (0 : Int32) by decide)
theorem c_k_isObjectId (v1 : Int32) (s : S) : Call PP m11 [.ref 1, .int v1] (none, [(11, s)]) (some (.int (k_isObjectId v1 s)), (none, [(11, s)])) := call_of_go pl_0 rfl (fun h => nomatch h) (k_isObjectId_ok v1 s   _ rfl)
set_option maxRecDepth 65536 in
set_option maxHeartbeats 4000000 in
theorem k_markRootHeld_23_ok  : ∀ (n : Nat) (v1 : Int32) (s : S) (x2 : Slot) (hx2 : k1 x2) (o : S), k_markRootHeld_23 n v1 s = some o → Go PP m12 23 [.val (.ref 1), .val (.int v1), x2] [] (none, [(11, s)]) (none, (none, [(11, o)])) := by
  intro n
  induction n with
  | zero => intro v1 s x2 hx2 o hf; exact nomatch hf
  | succ n ih =>
    intro v1 s x2 hx2 o hf
    unfold k_markRootHeld_23 at hf
    refine go_iloadN (pc := 23) d12_23 rfl (go_aloadN (pc := 24) d12_24 rfl (go_getI (pc := 25) fs_125 hm_12 d12_25 ?_))
    by_cases h1 : v1 < (gI s 5)
    · replace hf := (if_pos h1).symm.trans hf
      refine go_icN (pc := 28) d12_28 (XT.ii_ge_f h1) ?_
      refine go_iloadN (pc := 31) d12_31 rfl (go_bipush (pc := 32) d12_32 cb_16 ?_)
      by_cases h2 : v1 < (16 : Int32)
      · replace hf := (if_pos h2).symm.trans hf
        refine go_icN (pc := 34) d12_34 (XT.ii_ge_f h2) ?_
        refine go_aloadN (pc := 37) d12_37 rfl (go_getA (pc := 38) fa_20 hm_12 d12_38 rfl (go_iloadN (pc := 41) d12_41 rfl ?_))
        obtain ⟨a42, e3, hf⟩ := Option.bind_eq_some_iff.mp hf
        refine go_iaload (pc := 42) (q := 3) ar_3 rfl e3 d12_42 ?_
        refine go_istoreN (pc := 43) (L' := [.val (.ref 1), .val (.int v1), .val (.int a42)]) d12_43 (stx rfl hx2 rfl) (go_aloadN (pc := 44) d12_44 rfl (go_iloadN (pc := 45) d12_45 rfl ?_))
        refine go_priv (pc := 46) (i := 0) (as := [.int a42]) (rest := []) (w' := (none, [(11, s)])) lk_0_165 pd_11 rfl oid_0 rfl rfl rfl rfl rfl rfl ⟨rfl, rfl, rfl, rfl, rfl⟩ d12_46 (c_k_isObjectId a42 s) ?_
        by_cases h4 : (k_isObjectId a42 s) = 0
        · replace hf := (if_pos h4).symm.trans hf
          refine go_ifY (pc := 49) (pc' := 59) d12_49 (XT.i0_eq_t h4) j_49_10 ?_
          refine go_iinc (pc := 59) (L' := [.val (.ref 1), .val (.int (v1 + (1 : Int32))), .val (.int a42)]) d12_59 rfl ci_1 rfl (go_goto (pc := 62) (pc' := 23) d12_62 j_62_m39 ?_)
          exact ih (v1 + (1 : Int32)) s (.val (.int a42)) (Or.inr ⟨_, rfl, rfl⟩) _ hf
        · replace hf := (if_neg h4).symm.trans hf
          refine go_ifN (pc := 49) d12_49 (XT.i0_eq_f h4) ?_
          refine go_aloadN (pc := 52) d12_52 rfl (go_getA (pc := 53) fa_32 hm_12 d12_53 rfl (go_iloadN (pc := 56) d12_56 rfl (go_iconst (pc := 57) d12_57 ci_1 ?_)))
          obtain ⟨a58, e5, hf⟩ := Option.bind_eq_some_iff.mp hf
          refine go_bastore (pc := 58) (q := 7) ar_7 (by decide) rfl hn_12 (by decide) e5 d12_58 ?_
          refine go_iinc (pc := 59) (L' := [.val (.ref 1), .val (.int (v1 + (1 : Int32))), .val (.int a42)]) d12_59 rfl ci_1 rfl (go_goto (pc := 62) (pc' := 23) d12_62 j_62_m39 ?_)
          exact ih (v1 + (1 : Int32)) (sA s 7 a58) (.val (.int a42)) (Or.inr ⟨_, rfl, rfl⟩) _ hf
      · replace hf := (if_neg h2).symm.trans hf
        refine go_icY (pc := 34) (pc' := 65) d12_34 (XT.ii_ge_t h2) j_34_31 ?_
        cases hf
        exact go_ret (pc := 65) rfl d12_65
    · replace hf := (if_neg h1).symm.trans hf
      refine go_icY (pc := 28) (pc' := 65) d12_28 (XT.ii_ge_t h1) j_28_37 ?_
      cases hf
      exact go_ret (pc := 65) rfl d12_65
set_option maxRecDepth 65536 in
set_option maxHeartbeats 4000000 in
theorem k_markRootHeld_21_ok  : ∀  (s : S) (x1 : Slot) (hx1 : k1 x1) (o : S), k_markRootHeld_21 s = some o → Go PP m12 21 [.val (.ref 1), x1, .unset] [] (none, [(11, s)]) (none, (none, [(11, o)])) := by
  intro s x1 hx1 o hf
  unfold k_markRootHeld_21 at hf
  refine go_iconst (pc := 21) d12_21 ci_0 (go_istoreN (pc := 22) (L' := [.val (.ref 1), .val (.int (0 : Int32)), .unset]) d12_22 (stx rfl hx1 rfl) ?_)
  exact k_markRootHeld_23_ok BIG (0 : Int32) s .unset (Or.inl rfl) _ hf
set_option maxRecDepth 65536 in
set_option maxHeartbeats 4000000 in
theorem k_markRootHeld_2_ok  : ∀ (n : Nat) (v1 : Int32) (s : S)  (o : S), k_markRootHeld_2 n v1 s = some o → Go PP m12 2 [.val (.ref 1), .val (.int v1), .unset] [] (none, [(11, s)]) (none, (none, [(11, o)])) := by
  intro n
  induction n with
  | zero => intro v1 s o hf; exact nomatch hf
  | succ n ih =>
    intro v1 s o hf
    unfold k_markRootHeld_2 at hf
    refine go_iloadN (pc := 2) d12_2 rfl (go_bipush (pc := 3) d12_3 cb_64 ?_)
    by_cases h1 : v1 < (64 : Int32)
    · replace hf := (if_pos h1).symm.trans hf
      refine go_icN (pc := 5) d12_5 (XT.ii_ge_f h1) ?_
      refine go_aloadN (pc := 8) d12_8 rfl (go_getA (pc := 9) fa_32 hm_12 d12_9 rfl (go_iloadN (pc := 12) d12_12 rfl (go_iconst (pc := 13) d12_13 ci_0 ?_)))
      obtain ⟨a14, e2, hf⟩ := Option.bind_eq_some_iff.mp hf
      refine go_bastore (pc := 14) (q := 7) ar_7 (by decide) rfl hn_12 (by decide) e2 d12_14 ?_
      refine go_iinc (pc := 15) (L' := [.val (.ref 1), .val (.int (v1 + (1 : Int32))), .unset]) d12_15 rfl ci_1 rfl (go_goto (pc := 18) (pc' := 2) d12_18 j_18_m16 ?_)
      exact ih (v1 + (1 : Int32)) (sA s 7 a14) _ hf
    · replace hf := (if_neg h1).symm.trans hf
      refine go_icY (pc := 5) (pc' := 21) d12_5 (XT.ii_ge_t h1) j_5_16 ?_
      exact k_markRootHeld_21_ok s (.val (.int v1)) (Or.inr ⟨_, rfl, rfl⟩) _ hf
set_option maxRecDepth 65536 in
set_option maxHeartbeats 4000000 in
theorem k_markRootHeld_ok  : ∀  (s : S)  (o : S), k_markRootHeld s = some o → Go PP m12 0 [.val (.ref 1), .unset, .unset] [] (none, [(11, s)]) (none, (none, [(11, o)])) := by
  intro s o hf
  unfold k_markRootHeld at hf
  refine go_iconst (pc := 0) d12_0 ci_0 (go_istoreN (pc := 1) (L' := [.val (.ref 1), .val (.int (0 : Int32)), .unset]) d12_1 rfl ?_)
  exact k_markRootHeld_2_ok BIG (0 : Int32) s _ hf
theorem c_k_markRootHeld (s : S) (o : S) (hf : k_markRootHeld s = some o) : Call PP m12 [.ref 1] (none, [(11, s)]) (none, (none, [(11, o)])) := call_of_go pl_0 rfl (fun _ => rfl) (k_markRootHeld_ok s   _ hf)
set_option maxRecDepth 65536 in
set_option maxHeartbeats 4000000 in
theorem k_isFieldNo_ok  : ∀ (v1 : Int32) (s : S)  (o : Int32), k_isFieldNo v1 s = o → Go PP m13 0 [.val (.ref 1), .val (.int v1)] [] (none, [(11, s)]) (some (.int o), (none, [(11, s)])) := by
  intro v1 s o hf
  unfold k_isFieldNo at hf
  refine go_iloadN (pc := 0) d13_0 rfl ?_
  by_cases h1 : v1 < 0
  · replace hf := (if_pos h1).symm.trans hf
    refine go_ifY (pc := 1) (pc' := 16) d13_1 (XT.i0_lt_t h1) j_1_15 ?_
    refine go_iconst (pc := 16) d13_16 ci_0 ?_
    cases hf
    exact go_zret (pc := 17) rfl d13_17 (show (0 : Int32) = nar .boolean (0 : Int32) by decide)
  · replace hf := (if_neg h1).symm.trans hf
    refine go_ifN (pc := 1) d13_1 (XT.i0_lt_f h1) ?_
    refine go_iloadN (pc := 4) d13_4 rfl (go_aloadN (pc := 5) d13_5 rfl (go_getI (pc := 6) fs_52 hm_13 d13_6 ?_))
    by_cases h2 : v1 < (gI s 1)
    · replace hf := (if_pos h2).symm.trans hf
      refine go_icN (pc := 9) d13_9 (XT.ii_ge_f h2) ?_
      refine go_iconst (pc := 12) d13_12 ci_1 (go_goto (pc := 13) (pc' := 17) d13_13 j_13_4 ?_)
      cases hf
      exact go_zret (pc := 17) rfl d13_17 (show (1 : Int32) = nar .boolean (1 : Int32) by decide)
    · replace hf := (if_neg h2).symm.trans hf
      refine go_icY (pc := 9) (pc' := 16) d13_9 (XT.ii_ge_t h2) j_9_7 ?_
      refine go_iconst (pc := 16) d13_16 ci_0 ?_
      cases hf
      exact go_zret (pc := 17) rfl d13_17 (show (0 : Int32) = nar .boolean (0 : Int32) by decide)
theorem c_k_isFieldNo (v1 : Int32) (s : S) : Call PP m13 [.ref 1, .int v1] (none, [(11, s)]) (some (.int (k_isFieldNo v1 s)), (none, [(11, s)])) := call_of_go pl_0 rfl (fun h => nomatch h) (k_isFieldNo_ok v1 s   _ rfl)
set_option maxRecDepth 65536 in
set_option maxHeartbeats 4000000 in
theorem k_readField_ok  : ∀ (v1 : Int32) (v2 : Int32) (s : S)  (o : Int32), k_readField v1 v2 s = some o → Go PP m14 0 [.val (.ref 1), .val (.int v1), .val (.int v2)] [] (none, [(11, s)]) (some (.int o), (none, [(11, s)])) := by
  intro v1 v2 s o hf
  unfold k_readField at hf
  refine go_aloadN (pc := 0) d14_0 rfl (go_iloadN (pc := 1) d14_1 rfl ?_)
  refine go_priv (pc := 2) (i := 0) (as := [.int v1]) (rest := []) (w' := (none, [(11, s)])) lk_0_165 pd_11 rfl oid_0 rfl rfl rfl rfl rfl rfl ⟨rfl, rfl, rfl, rfl, rfl⟩ d14_2 (c_k_isObjectId v1 s) ?_
  by_cases h1 : (k_isObjectId v1 s) = 0
  · replace hf := (if_pos h1).symm.trans hf
    refine go_ifN (pc := 5) d14_5 (XT.i0_ne_f h1) ?_
    refine go_iconst (pc := 8) d14_8 ci_m1 ?_
    cases hf
    exact go_iret (pc := 9) rfl d14_9
  · replace hf := (if_neg h1).symm.trans hf
    refine go_ifY (pc := 5) (pc' := 10) d14_5 (XT.i0_ne_t h1) j_5_5 ?_
    refine go_aloadN (pc := 10) d14_10 rfl (go_iloadN (pc := 11) d14_11 rfl ?_)
    refine go_priv (pc := 12) (i := 0) (as := [.int v2]) (rest := []) (w' := (none, [(11, s)])) lk_0_138 pd_13 rfl oid_0 rfl rfl rfl rfl rfl rfl ⟨rfl, rfl, rfl, rfl, rfl⟩ d14_12 (c_k_isFieldNo v2 s) ?_
    by_cases h2 : (k_isFieldNo v2 s) = 0
    · replace hf := (if_pos h2).symm.trans hf
      refine go_ifN (pc := 15) d14_15 (XT.i0_ne_f h2) ?_
      refine go_iconst (pc := 18) d14_18 ci_m1 ?_
      cases hf
      exact go_iret (pc := 19) rfl d14_19
    · replace hf := (if_neg h2).symm.trans hf
      refine go_ifY (pc := 15) (pc' := 20) d14_15 (XT.i0_ne_t h2) j_15_5 ?_
      refine go_aloadN (pc := 20) d14_20 rfl (go_getA (pc := 21) fa_13 hm_14 d14_21 rfl (go_iloadN (pc := 24) d14_24 rfl (go_iconst (pc := 25) d14_25 ci_4 (go_imul (pc := 26) d14_26 (go_iloadN (pc := 27) d14_27 rfl (go_iadd (pc := 28) d14_28 ?_))))))
      obtain ⟨a29, e3, hf⟩ := Option.bind_eq_some_iff.mp hf
      refine go_iaload (pc := 29) (q := 1) ar_1 rfl e3 d14_29 ?_
      cases hf
      exact go_iret (pc := 30) rfl d14_30
theorem c_k_readField (v1 : Int32) (v2 : Int32) (s : S) (o : Int32) (hf : k_readField v1 v2 s = some o) : Call PP m14 [.ref 1, .int v1, .int v2] (none, [(11, s)]) (some (.int o), (none, [(11, s)])) := call_of_go pl_0 rfl (fun h => nomatch h) (k_readField_ok v1 v2 s   _ hf)
set_option maxRecDepth 65536 in
set_option maxHeartbeats 4000000 in
theorem k_isLiveId_ok  : ∀ (v1 : Int32) (s : S)  (o : Int32), k_isLiveId v1 s = some o → Go PP m15 0 [.val (.ref 1), .val (.int v1)] [] (none, [(11, s)]) (some (.int o), (none, [(11, s)])) := by
  intro v1 s o hf
  unfold k_isLiveId at hf
  refine go_aloadN (pc := 0) d15_0 rfl (go_iloadN (pc := 1) d15_1 rfl ?_)
  refine go_priv (pc := 2) (i := 0) (as := [.int v1]) (rest := []) (w' := (none, [(11, s)])) lk_0_165 pd_11 rfl oid_0 rfl rfl rfl rfl rfl rfl ⟨rfl, rfl, rfl, rfl, rfl⟩ d15_2 (c_k_isObjectId v1 s) ?_
  by_cases h1 : (k_isObjectId v1 s) = 0
  · replace hf := (if_pos h1).symm.trans hf
    refine go_ifY (pc := 5) (pc' := 21) d15_5 (XT.i0_eq_t h1) j_5_16 ?_
    refine go_iconst (pc := 21) d15_21 ci_0 ?_
    cases hf
    exact go_zret (pc := 22) rfl d15_22 (show (0 : Int32) = nar .boolean (0 : Int32) by decide)
  · replace hf := (if_neg h1).symm.trans hf
    refine go_ifN (pc := 5) d15_5 (XT.i0_eq_f h1) ?_
    refine go_aloadN (pc := 8) d15_8 rfl (go_getA (pc := 9) fa_7 hm_15 d15_9 rfl (go_iloadN (pc := 12) d15_12 rfl ?_))
    obtain ⟨a13, e2, hf⟩ := Option.bind_eq_some_iff.mp hf
    refine go_baload (pc := 13) (q := 0) ar_0 (by decide) rfl e2 d15_13 ?_
    by_cases h3 : a13 = 0
    · replace hf := (if_pos h3).symm.trans hf
      refine go_ifY (pc := 14) (pc' := 21) d15_14 (XT.i0_eq_t h3) j_14_7 ?_
      refine go_iconst (pc := 21) d15_21 ci_0 ?_
      cases hf
      exact go_zret (pc := 22) rfl d15_22 (show (0 : Int32) = nar .boolean (0 : Int32) by decide)
    · replace hf := (if_neg h3).symm.trans hf
      refine go_ifN (pc := 14) d15_14 (XT.i0_eq_f h3) ?_
      refine go_iconst (pc := 17) d15_17 ci_1 (go_goto (pc := 18) (pc' := 22) d15_18 j_18_4 ?_)
      cases hf
      exact go_zret (pc := 22) rfl d15_22 (show (1 : Int32) = nar .boolean (1 : Int32) by decide)
theorem c_k_isLiveId (v1 : Int32) (s : S) (o : Int32) (hf : k_isLiveId v1 s = some o) : Call PP m15 [.ref 1, .int v1] (none, [(11, s)]) (some (.int o), (none, [(11, s)])) := call_of_go pl_0 rfl (fun h => nomatch h) (k_isLiveId_ok v1 s   _ hf)
set_option maxRecDepth 65536 in
set_option maxHeartbeats 4000000 in
theorem k_addHoldersOf_2_ok  : ∀ (n : Nat) (v1 : Int32) (v2 : Int32) (s : S) (x3 : Slot) (hx3 : k1 x3) (o : S), k_addHoldersOf_2 n v1 v2 s = some o → Go PP m16 2 [.val (.ref 1), .val (.int v1), .val (.int v2), x3] [] (none, [(11, s)]) (none, (none, [(11, o)])) := by
  intro n
  induction n with
  | zero => intro v1 v2 s x3 hx3 o hf; exact nomatch hf
  | succ n ih =>
    intro v1 v2 s x3 hx3 o hf
    unfold k_addHoldersOf_2 at hf
    refine go_iloadN (pc := 2) d16_2 rfl (go_aloadN (pc := 3) d16_3 rfl (go_getI (pc := 4) fs_52 hm_16 d16_4 ?_))
    by_cases h1 : v2 < (gI s 1)
    · replace hf := (if_pos h1).symm.trans hf
      refine go_icN (pc := 7) d16_7 (XT.ii_ge_f h1) ?_
      refine go_aloadN (pc := 10) d16_10 rfl (go_iloadN (pc := 11) d16_11 rfl (go_iloadN (pc := 12) d16_12 rfl ?_))
      obtain ⟨r13, e2, hf⟩ := Option.bind_eq_some_iff.mp hf
      refine go_priv (pc := 13) (i := 0) (as := [.int v1, .int v2]) (rest := []) (w' := (none, [(11, s)])) lk_0_98 pd_14 rfl oid_0 rfl rfl rfl rfl rfl rfl ⟨rfl, rfl, rfl, rfl, rfl⟩ d16_13 (c_k_readField v1 v2 s _ e2) ?_
      refine go_istoreN (pc := 16) (L' := [.val (.ref 1), .val (.int v1), .val (.int v2), .val (.int r13)]) d16_16 (stx rfl hx3 rfl) (go_aloadN (pc := 17) d16_17 rfl (go_iloadN (pc := 18) d16_18 rfl ?_))
      obtain ⟨r19, e3, hf⟩ := Option.bind_eq_some_iff.mp hf
      refine go_priv (pc := 19) (i := 0) (as := [.int r13]) (rest := []) (w' := (none, [(11, s)])) lk_0_135 pd_15 rfl oid_0 rfl rfl rfl rfl rfl rfl ⟨rfl, rfl, rfl, rfl, rfl⟩ d16_19 (c_k_isLiveId r13 s _ e3) ?_
      by_cases h4 : r19 = 0
      · replace hf := (if_pos h4).symm.trans hf
        refine go_ifY (pc := 22) (pc' := 39) d16_22 (XT.i0_eq_t h4) j_22_17 ?_
        refine go_iinc (pc := 39) (L' := [.val (.ref 1), .val (.int v1), .val (.int (v2 + (1 : Int32))), .val (.int r13)]) d16_39 rfl ci_1 rfl (go_goto (pc := 42) (pc' := 2) d16_42 j_42_m40 ?_)
        exact ih v1 (v2 + (1 : Int32)) s (.val (.int r13)) (Or.inr ⟨_, rfl, rfl⟩) _ hf
      · replace hf := (if_neg h4).symm.trans hf
        refine go_ifN (pc := 22) d16_22 (XT.i0_eq_f h4) ?_
        refine go_aloadN (pc := 25) d16_25 rfl (go_getA (pc := 26) fa_38 hm_16 d16_26 rfl (go_iloadN (pc := 29) d16_29 rfl (go_aloadN (pc := 30) d16_30 rfl (go_getA (pc := 31) fa_38 hm_16 d16_31 rfl (go_iloadN (pc := 34) d16_34 rfl ?_)))))
        obtain ⟨a35, e5, hf⟩ := Option.bind_eq_some_iff.mp hf
        refine go_iaload (pc := 35) (q := 9) ar_9 rfl e5 d16_35 ?_
        refine go_iconst (pc := 36) d16_36 ci_1 (go_iadd (pc := 37) d16_37 ?_)
        obtain ⟨a38, e6, hf⟩ := Option.bind_eq_some_iff.mp hf
        refine go_iastore (pc := 38) (q := 9) ar_9 rfl hn_16 e6 d16_38 ?_
        refine go_iinc (pc := 39) (L' := [.val (.ref 1), .val (.int v1), .val (.int (v2 + (1 : Int32))), .val (.int r13)]) d16_39 rfl ci_1 rfl (go_goto (pc := 42) (pc' := 2) d16_42 j_42_m40 ?_)
        exact ih v1 (v2 + (1 : Int32)) (sA s 9 a38) (.val (.int r13)) (Or.inr ⟨_, rfl, rfl⟩) _ hf
    · replace hf := (if_neg h1).symm.trans hf
      refine go_icY (pc := 7) (pc' := 45) d16_7 (XT.ii_ge_t h1) j_7_38 ?_
      cases hf
      exact go_ret (pc := 45) rfl d16_45
set_option maxRecDepth 65536 in
set_option maxHeartbeats 4000000 in
theorem k_addHoldersOf_ok  : ∀ (v1 : Int32) (s : S)  (o : S), k_addHoldersOf v1 s = some o → Go PP m16 0 [.val (.ref 1), .val (.int v1), .unset, .unset] [] (none, [(11, s)]) (none, (none, [(11, o)])) := by
  intro v1 s o hf
  unfold k_addHoldersOf at hf
  refine go_iconst (pc := 0) d16_0 ci_0 (go_istoreN (pc := 1) (L' := [.val (.ref 1), .val (.int v1), .val (.int (0 : Int32)), .unset]) d16_1 rfl ?_)
  exact k_addHoldersOf_2_ok BIG v1 (0 : Int32) s .unset (Or.inl rfl) _ hf
theorem c_k_addHoldersOf (v1 : Int32) (s : S) (o : S) (hf : k_addHoldersOf v1 s = some o) : Call PP m16 [.ref 1, .int v1] (none, [(11, s)]) (none, (none, [(11, o)])) := call_of_go pl_0 rfl (fun _ => rfl) (k_addHoldersOf_ok v1 s   _ hf)
set_option maxRecDepth 65536 in
set_option maxHeartbeats 4000000 in
theorem k_countHolders_58_ok  : ∀ (n : Nat) (v1 : Int32) (s : S)  (o : S), k_countHolders_58 n v1 s = some o → Go PP m17 58 [.val (.ref 1), .val (.int v1)] [] (none, [(11, s)]) (none, (none, [(11, o)])) := by
  intro n
  induction n with
  | zero => intro v1 s o hf; exact nomatch hf
  | succ n ih =>
    intro v1 s o hf
    unfold k_countHolders_58 at hf
    refine go_iloadN (pc := 58) d17_58 rfl (go_aloadN (pc := 59) d17_59 rfl (go_getI (pc := 60) fs_48 hm_17 d17_60 ?_))
    by_cases h1 : v1 < (gI s 0)
    · replace hf := (if_pos h1).symm.trans hf
      refine go_icN (pc := 63) d17_63 (XT.ii_ge_f h1) ?_
      refine go_aloadN (pc := 66) d17_66 rfl (go_getA (pc := 67) fa_7 hm_17 d17_67 rfl (go_iloadN (pc := 70) d17_70 rfl ?_))
      obtain ⟨a71, e2, hf⟩ := Option.bind_eq_some_iff.mp hf
      refine go_baload (pc := 71) (q := 0) ar_0 (by decide) rfl e2 d17_71 ?_
      by_cases h3 : a71 = 0
      · replace hf := (if_pos h3).symm.trans hf
        refine go_ifY (pc := 72) (pc' := 80) d17_72 (XT.i0_eq_t h3) j_72_8 ?_
        refine go_iinc (pc := 80) (L' := [.val (.ref 1), .val (.int (v1 + (1 : Int32)))]) d17_80 rfl ci_1 rfl (go_goto (pc := 83) (pc' := 58) d17_83 j_83_m25 ?_)
        exact ih (v1 + (1 : Int32)) s _ hf
      · replace hf := (if_neg h3).symm.trans hf
        refine go_ifN (pc := 72) d17_72 (XT.i0_eq_f h3) ?_
        refine go_aloadN (pc := 75) d17_75 rfl (go_iloadN (pc := 76) d17_76 rfl ?_)
        obtain ⟨r77, e4, hf⟩ := Option.bind_eq_some_iff.mp hf
        refine go_priv (pc := 77) (i := 0) (as := [.int v1]) (rest := []) (w' := (none, [(11, r77)])) lk_0_198 pd_16 rfl oid_0 rfl rfl rfl rfl rfl rfl ⟨rfl, rfl, rfl, rfl, rfl⟩ d17_77 (c_k_addHoldersOf v1 s _ e4) ?_
        refine go_iinc (pc := 80) (L' := [.val (.ref 1), .val (.int (v1 + (1 : Int32)))]) d17_80 rfl ci_1 rfl (go_goto (pc := 83) (pc' := 58) d17_83 j_83_m25 ?_)
        exact ih (v1 + (1 : Int32)) r77 _ hf
    · replace hf := (if_neg h1).symm.trans hf
      refine go_icY (pc := 63) (pc' := 86) d17_63 (XT.ii_ge_t h1) j_63_23 ?_
      cases hf
      exact go_ret (pc := 86) rfl d17_86
set_option maxRecDepth 65536 in
set_option maxHeartbeats 4000000 in
theorem k_countHolders_56_ok  : ∀  (s : S) (x1 : Slot) (hx1 : k1 x1) (o : S), k_countHolders_56 s = some o → Go PP m17 56 [.val (.ref 1), x1] [] (none, [(11, s)]) (none, (none, [(11, o)])) := by
  intro s x1 hx1 o hf
  unfold k_countHolders_56 at hf
  refine go_iconst (pc := 56) d17_56 ci_0 (go_istoreN (pc := 57) (L' := [.val (.ref 1), .val (.int (0 : Int32))]) d17_57 (stx rfl hx1 rfl) ?_)
  exact k_countHolders_58_ok BIG (0 : Int32) s _ hf
def T_k_countHolders_2 (k2 : Int32 → S → Option S) : Prop := ∀ (v1 : Int32) (s : S)  (o : S), k2 v1 s = some o → Go PP m17 2 [.val (.ref 1), .val (.int v1)] [] (none, [(11, s)]) (none, (none, [(11, o)]))
set_option maxRecDepth 65536 in
set_option maxHeartbeats 4000000 in
theorem k_countHolders_49_ok {k2 : Int32 → S → Option S} (hk2 : T_k_countHolders_2 k2) : ∀ (v1 : Int32) (p0 : Int32) (p1 : Int32) (s : S)  (o : S), k_countHolders_49 k2 v1 p0 p1 s = some o → Go PP m17 49 [.val (.ref 1), .val (.int v1)] [.int p0, .int p1, .ref 8] (none, [(11, s)]) (none, (none, [(11, o)])) := by
  intro v1 p0 p1 s o hf
  unfold k_countHolders_49 at hf
  obtain ⟨a49, e1, hf⟩ := Option.bind_eq_some_iff.mp hf
  refine go_bastore (pc := 49) (q := 6) ar_6 (by decide) rfl hn_17 rfl e1 d17_49 ?_
  refine go_iinc (pc := 50) (L' := [.val (.ref 1), .val (.int (v1 + (1 : Int32)))]) d17_50 rfl ci_1 rfl (go_goto (pc := 53) (pc' := 2) d17_53 j_53_m51 ?_)
  exact hk2 (v1 + (1 : Int32)) (sA s 6 a49) _ hf
set_option maxRecDepth 65536 in
set_option maxHeartbeats 4000000 in
theorem k_countHolders_48_ok {k2 : Int32 → S → Option S} (hk2 : T_k_countHolders_2 k2) : ∀ (v1 : Int32) (p0 : Int32) (s : S)  (o : S), k_countHolders_48 k2 v1 p0 s = some o → Go PP m17 48 [.val (.ref 1), .val (.int v1)] [.int p0, .ref 8] (none, [(11, s)]) (none, (none, [(11, o)])) := by
  intro v1 p0 s o hf
  unfold k_countHolders_48 at hf
  refine go_iconst (pc := 48) d17_48 ci_0 ?_
  exact k_countHolders_49_ok hk2 v1 (0 : Int32) p0 s _ hf
set_option maxRecDepth 65536 in
set_option maxHeartbeats 4000000 in
theorem k_countHolders_2_ok  : ∀ (n : Nat) (v1 : Int32) (s : S)  (o : S), k_countHolders_2 n v1 s = some o → Go PP m17 2 [.val (.ref 1), .val (.int v1)] [] (none, [(11, s)]) (none, (none, [(11, o)])) := by
  intro n
  induction n with
  | zero => intro v1 s o hf; exact nomatch hf
  | succ n ih =>
    intro v1 s o hf
    unfold k_countHolders_2 at hf
    refine go_iloadN (pc := 2) d17_2 rfl (go_bipush (pc := 3) d17_3 cb_64 ?_)
    by_cases h1 : v1 < (64 : Int32)
    · replace hf := (if_pos h1).symm.trans hf
      refine go_icN (pc := 5) d17_5 (XT.ii_ge_f h1) ?_
      refine go_aloadN (pc := 8) d17_8 rfl (go_getA (pc := 9) fa_38 hm_17 d17_9 rfl (go_iloadN (pc := 12) d17_12 rfl (go_iconst (pc := 13) d17_13 ci_0 ?_)))
      obtain ⟨a14, e2, hf⟩ := Option.bind_eq_some_iff.mp hf
      refine go_iastore (pc := 14) (q := 9) ar_9 rfl hn_17 e2 d17_14 ?_
      refine go_aloadN (pc := 15) d17_15 rfl (go_getA (pc := 16) fa_35 hm_17 d17_16 rfl (go_iloadN (pc := 19) d17_19 rfl (go_iconst (pc := 20) d17_20 ci_0 ?_)))
      obtain ⟨a21, e3, hf⟩ := Option.bind_eq_some_iff.mp hf
      refine go_bastore (pc := 21) (q := 8) ar_8 (by decide) rfl hn_17 (by decide) e3 d17_21 ?_
      refine go_aloadN (pc := 22) d17_22 rfl (go_getA (pc := 23) fa_29 hm_17 d17_23 rfl (go_iloadN (pc := 26) d17_26 rfl (go_iloadN (pc := 27) d17_27 rfl (go_aloadN (pc := 28) d17_28 rfl (go_getI (pc := 29) fs_48 hm_17 d17_29 ?_)))))
      by_cases h4 : v1 < (gI s 0)
      · replace hf := (if_pos h4).symm.trans hf
        refine go_icN (pc := 32) d17_32 (XT.ii_ge_f h4) ?_
        refine go_aloadN (pc := 35) d17_35 rfl (go_getA (pc := 36) fa_7 hm_17 d17_36 rfl (go_iloadN (pc := 39) d17_39 rfl ?_))
        obtain ⟨a40, e5, hf⟩ := Option.bind_eq_some_iff.mp hf
        refine go_baload (pc := 40) (q := 0) ar_0 (by decide) rfl e5 d17_40 ?_
        by_cases h6 : a40 = 0
        · refine go_ifY (pc := 41) (pc' := 48) d17_41 (XT.i0_eq_t h6) j_41_7 ?_
          refine go_iconst (pc := 48) d17_48 ci_0 ?_
          exact k_countHolders_49_ok ih v1 (0 : Int32) v1 (sA (sA s 9 a14) 8 a21) _ (by simpa only [if_pos h6] using hf)
        · refine go_ifN (pc := 41) d17_41 (XT.i0_eq_f h6) ?_
          refine go_iconst (pc := 44) d17_44 ci_1 (go_goto (pc := 45) (pc' := 49) d17_45 j_45_4 ?_)
          exact k_countHolders_49_ok ih v1 (1 : Int32) v1 (sA (sA s 9 a14) 8 a21) _ (by simpa only [if_neg h6] using hf)
      · replace hf := (if_neg h4).symm.trans hf
        refine go_icY (pc := 32) (pc' := 48) d17_32 (XT.ii_ge_t h4) j_32_16 ?_
        exact k_countHolders_48_ok ih v1 v1 (sA (sA s 9 a14) 8 a21) _ hf
    · replace hf := (if_neg h1).symm.trans hf
      refine go_icY (pc := 5) (pc' := 56) d17_5 (XT.ii_ge_t h1) j_5_51 ?_
      exact k_countHolders_56_ok s (.val (.int v1)) (Or.inr ⟨_, rfl, rfl⟩) _ hf
set_option maxRecDepth 65536 in
set_option maxHeartbeats 4000000 in
theorem k_countHolders_ok  : ∀  (s : S)  (o : S), k_countHolders s = some o → Go PP m17 0 [.val (.ref 1), .unset] [] (none, [(11, s)]) (none, (none, [(11, o)])) := by
  intro s o hf
  unfold k_countHolders at hf
  refine go_iconst (pc := 0) d17_0 ci_0 (go_istoreN (pc := 1) (L' := [.val (.ref 1), .val (.int (0 : Int32))]) d17_1 rfl ?_)
  exact k_countHolders_2_ok BIG (0 : Int32) s _ hf
theorem c_k_countHolders (s : S) (o : S) (hf : k_countHolders s = some o) : Call PP m17 [.ref 1] (none, [(11, s)]) (none, (none, [(11, o)])) := call_of_go pl_0 rfl (fun _ => rfl) (k_countHolders_ok s   _ hf)
set_option maxRecDepth 65536 in
set_option maxHeartbeats 4000000 in
theorem k_eligible_ok  : ∀ (v1 : Int32) (s : S)  (o : Int32), k_eligible v1 s = some o → Go PP m18 0 [.val (.ref 1), .val (.int v1)] [] (none, [(11, s)]) (some (.int o), (none, [(11, s)])) := by
  intro v1 s o hf
  unfold k_eligible at hf
  refine go_aloadN (pc := 0) d18_0 rfl (go_iloadN (pc := 1) d18_1 rfl ?_)
  refine go_priv (pc := 2) (i := 0) (as := [.int v1]) (rest := []) (w' := (none, [(11, s)])) lk_0_165 pd_11 rfl oid_0 rfl rfl rfl rfl rfl rfl ⟨rfl, rfl, rfl, rfl, rfl⟩ d18_2 (c_k_isObjectId v1 s) ?_
  by_cases h1 : (k_isObjectId v1 s) = 0
  · replace hf := (if_pos h1).symm.trans hf
    refine go_ifN (pc := 5) d18_5 (XT.i0_ne_f h1) ?_
    refine go_iconst (pc := 8) d18_8 ci_0 ?_
    cases hf
    exact go_zret (pc := 9) rfl d18_9 (show (0 : Int32) = nar .boolean (0 : Int32) by decide)
  · replace hf := (if_neg h1).symm.trans hf
    refine go_ifY (pc := 5) (pc' := 10) d18_5 (XT.i0_ne_t h1) j_5_5 ?_
    refine go_aloadN (pc := 10) d18_10 rfl (go_getA (pc := 11) fa_29 hm_18 d18_11 rfl (go_iloadN (pc := 14) d18_14 rfl ?_))
    obtain ⟨a15, e2, hf⟩ := Option.bind_eq_some_iff.mp hf
    refine go_baload (pc := 15) (q := 6) ar_6 (by decide) rfl e2 d18_15 ?_
    by_cases h3 : a15 = 0
    · replace hf := (if_pos h3).symm.trans hf
      refine go_ifN (pc := 16) d18_16 (XT.i0_ne_f h3) ?_
      refine go_iconst (pc := 19) d18_19 ci_0 ?_
      cases hf
      exact go_zret (pc := 20) rfl d18_20 (show (0 : Int32) = nar .boolean (0 : Int32) by decide)
    · replace hf := (if_neg h3).symm.trans hf
      refine go_ifY (pc := 16) (pc' := 21) d18_16 (XT.i0_ne_t h3) j_16_5 ?_
      refine go_aloadN (pc := 21) d18_21 rfl (go_getA (pc := 22) fa_32 hm_18 d18_22 rfl (go_iloadN (pc := 25) d18_25 rfl ?_))
      obtain ⟨a26, e4, hf⟩ := Option.bind_eq_some_iff.mp hf
      refine go_baload (pc := 26) (q := 7) ar_7 (by decide) rfl e4 d18_26 ?_
      by_cases h5 : a26 = 0
      · replace hf := (if_pos h5).symm.trans hf
        refine go_ifY (pc := 27) (pc' := 32) d18_27 (XT.i0_eq_t h5) j_27_5 ?_
        refine go_aloadN (pc := 32) d18_32 rfl (go_getA (pc := 33) fa_35 hm_18 d18_33 rfl (go_iloadN (pc := 36) d18_36 rfl ?_))
        obtain ⟨a37, e6, hf⟩ := Option.bind_eq_some_iff.mp hf
        refine go_baload (pc := 37) (q := 8) ar_8 (by decide) rfl e6 d18_37 ?_
        by_cases h7 : a37 = 0
        · replace hf := (if_pos h7).symm.trans hf
          refine go_ifY (pc := 38) (pc' := 43) d18_38 (XT.i0_eq_t h7) j_38_5 ?_
          refine go_aloadN (pc := 43) d18_43 rfl (go_getA (pc := 44) fa_38 hm_18 d18_44 rfl (go_iloadN (pc := 47) d18_47 rfl ?_))
          obtain ⟨a48, e8, hf⟩ := Option.bind_eq_some_iff.mp hf
          refine go_iaload (pc := 48) (q := 9) ar_9 rfl e8 d18_48 ?_
          by_cases h9 : a48 = 0
          · replace hf := (if_pos h9).symm.trans hf
            refine go_ifN (pc := 49) d18_49 (XT.i0_ne_f h9) ?_
            refine go_iconst (pc := 52) d18_52 ci_1 (go_goto (pc := 53) (pc' := 57) d18_53 j_53_4 ?_)
            cases hf
            exact go_zret (pc := 57) rfl d18_57 (show (1 : Int32) = nar .boolean (1 : Int32) by decide)
          · replace hf := (if_neg h9).symm.trans hf
            refine go_ifY (pc := 49) (pc' := 56) d18_49 (XT.i0_ne_t h9) j_49_7 ?_
            refine go_iconst (pc := 56) d18_56 ci_0 ?_
            cases hf
            exact go_zret (pc := 57) rfl d18_57 (show (0 : Int32) = nar .boolean (0 : Int32) by decide)
        · replace hf := (if_neg h7).symm.trans hf
          refine go_ifN (pc := 38) d18_38 (XT.i0_eq_f h7) ?_
          refine go_iconst (pc := 41) d18_41 ci_0 ?_
          cases hf
          exact go_zret (pc := 42) rfl d18_42 (show (0 : Int32) = nar .boolean (0 : Int32) by decide)
      · replace hf := (if_neg h5).symm.trans hf
        refine go_ifN (pc := 27) d18_27 (XT.i0_eq_f h5) ?_
        refine go_iconst (pc := 30) d18_30 ci_0 ?_
        cases hf
        exact go_zret (pc := 31) rfl d18_31 (show (0 : Int32) = nar .boolean (0 : Int32) by decide)
theorem c_k_eligible (v1 : Int32) (s : S) (o : Int32) (hf : k_eligible v1 s = some o) : Call PP m18 [.ref 1, .int v1] (none, [(11, s)]) (some (.int o), (none, [(11, s)])) := call_of_go pl_0 rfl (fun h => nomatch h) (k_eligible_ok v1 s   _ hf)
set_option maxRecDepth 65536 in
set_option maxHeartbeats 4000000 in
theorem k_enqueue_ok  : ∀ (v1 : Int32) (s : S)  (o : S), k_enqueue v1 s = some o → Go PP m19 0 [.val (.ref 1), .val (.int v1)] [] (none, [(11, s)]) (none, (none, [(11, o)])) := by
  intro v1 s o hf
  unfold k_enqueue at hf
  refine go_aloadN (pc := 0) d19_0 rfl (go_getI (pc := 1) fs_201 hm_19 d19_1 (go_bipush (pc := 4) d19_4 cb_64 ?_))
  by_cases h1 : (gI s 7) < (64 : Int32)
  · replace hf := (if_pos h1).symm.trans hf
    refine go_icY (pc := 6) (pc' := 10) d19_6 (XT.ii_lt_t h1) j_6_4 ?_
    refine go_aloadN (pc := 10) d19_10 rfl (go_getA (pc := 11) fa_41 hm_19 d19_11 rfl (go_aloadN (pc := 14) d19_14 rfl (go_getI (pc := 15) fs_201 hm_19 d19_15 (go_iloadN (pc := 18) d19_18 rfl ?_))))
    obtain ⟨a19, e2, hf⟩ := Option.bind_eq_some_iff.mp hf
    refine go_iastore (pc := 19) (q := 10) ar_10 rfl hn_19 e2 d19_19 ?_
    refine go_aloadN (pc := 20) d19_20 rfl (go_aloadN (pc := 21) d19_21 rfl (go_getI (pc := 22) fs_201 hm_19 d19_22 (go_iconst (pc := 25) d19_25 ci_1 (go_iadd (pc := 26) d19_26 (go_putI (pc := 27) fs_201 hm_19 (wr_7 _) hn_19 d19_27 (go_aloadN (pc := 30) d19_30 rfl (go_getA (pc := 31) fa_35 hm_19 d19_31 rfl ?_)))))))
    refine go_iloadN (pc := 34) d19_34 rfl (go_iconst (pc := 35) d19_35 ci_1 ?_)
    obtain ⟨a36, e3, hf⟩ := Option.bind_eq_some_iff.mp hf
    refine go_bastore (pc := 36) (q := 8) ar_8 (by decide) rfl hn_19 (by decide) e3 d19_36 ?_
    cases hf
    exact go_ret (pc := 37) rfl d19_37
  · replace hf := (if_neg h1).symm.trans hf
    refine go_icN (pc := 6) d19_6 (XT.ii_lt_f h1) ?_
    cases hf
    exact go_ret (pc := 9) rfl d19_9
theorem c_k_enqueue (v1 : Int32) (s : S) (o : S) (hf : k_enqueue v1 s = some o) : Call PP m19 [.ref 1, .int v1] (none, [(11, s)]) (none, (none, [(11, o)])) := call_of_go pl_0 rfl (fun _ => rfl) (k_enqueue_ok v1 s   _ hf)
set_option maxRecDepth 65536 in
set_option maxHeartbeats 4000000 in
theorem k_seedWork_7_ok  : ∀ (n : Nat) (v1 : Int32) (s : S)  (o : S), k_seedWork_7 n v1 s = some o → Go PP m20 7 [.val (.ref 1), .val (.int v1)] [] (none, [(11, s)]) (none, (none, [(11, o)])) := by
  intro n
  induction n with
  | zero => intro v1 s o hf; exact nomatch hf
  | succ n ih =>
    intro v1 s o hf
    unfold k_seedWork_7 at hf
    refine go_iloadN (pc := 7) d20_7 rfl (go_aloadN (pc := 8) d20_8 rfl (go_getI (pc := 9) fs_48 hm_20 d20_9 ?_))
    by_cases h1 : v1 < (gI s 0)
    · replace hf := (if_pos h1).symm.trans hf
      refine go_icN (pc := 12) d20_12 (XT.ii_ge_f h1) ?_
      refine go_aloadN (pc := 15) d20_15 rfl (go_iloadN (pc := 16) d20_16 rfl ?_)
      obtain ⟨r17, e2, hf⟩ := Option.bind_eq_some_iff.mp hf
      refine go_priv (pc := 17) (i := 0) (as := [.int v1]) (rest := []) (w' := (none, [(11, s)])) lk_0_204 pd_18 rfl oid_0 rfl rfl rfl rfl rfl rfl ⟨rfl, rfl, rfl, rfl, rfl⟩ d20_17 (c_k_eligible v1 s _ e2) ?_
      by_cases h3 : r17 = 0
      · replace hf := (if_pos h3).symm.trans hf
        refine go_ifY (pc := 20) (pc' := 28) d20_20 (XT.i0_eq_t h3) j_20_8 ?_
        refine go_iinc (pc := 28) (L' := [.val (.ref 1), .val (.int (v1 + (1 : Int32)))]) d20_28 rfl ci_1 rfl (go_goto (pc := 31) (pc' := 7) d20_31 j_31_m24 ?_)
        exact ih (v1 + (1 : Int32)) s _ hf
      · replace hf := (if_neg h3).symm.trans hf
        refine go_ifN (pc := 20) d20_20 (XT.i0_eq_f h3) ?_
        refine go_aloadN (pc := 23) d20_23 rfl (go_iloadN (pc := 24) d20_24 rfl ?_)
        obtain ⟨r25, e4, hf⟩ := Option.bind_eq_some_iff.mp hf
        refine go_priv (pc := 25) (i := 0) (as := [.int v1]) (rest := []) (w' := (none, [(11, r25)])) lk_0_207 pd_19 rfl oid_0 rfl rfl rfl rfl rfl rfl ⟨rfl, rfl, rfl, rfl, rfl⟩ d20_25 (c_k_enqueue v1 s _ e4) ?_
        refine go_iinc (pc := 28) (L' := [.val (.ref 1), .val (.int (v1 + (1 : Int32)))]) d20_28 rfl ci_1 rfl (go_goto (pc := 31) (pc' := 7) d20_31 j_31_m24 ?_)
        exact ih (v1 + (1 : Int32)) r25 _ hf
    · replace hf := (if_neg h1).symm.trans hf
      refine go_icY (pc := 12) (pc' := 34) d20_12 (XT.ii_ge_t h1) j_12_22 ?_
      cases hf
      exact go_ret (pc := 34) rfl d20_34
set_option maxRecDepth 65536 in
set_option maxHeartbeats 4000000 in
theorem k_seedWork_ok  : ∀  (s : S)  (o : S), k_seedWork s = some o → Go PP m20 0 [.val (.ref 1), .unset] [] (none, [(11, s)]) (none, (none, [(11, o)])) := by
  intro s o hf
  unfold k_seedWork at hf
  refine go_aloadN (pc := 0) d20_0 rfl (go_iconst (pc := 1) d20_1 ci_0 (go_putI (pc := 2) fs_201 hm_20 (wr_7 _) hn_20 d20_2 (go_iconst (pc := 5) d20_5 ci_0 (go_istoreN (pc := 6) (L' := [.val (.ref 1), .val (.int (0 : Int32))]) d20_6 rfl ?_))))
  exact k_seedWork_7_ok BIG (0 : Int32) (sI s 7 (0 : Int32)) _ hf
theorem c_k_seedWork (s : S) (o : S) (hf : k_seedWork s = some o) : Call PP m20 [.ref 1] (none, [(11, s)]) (none, (none, [(11, o)])) := call_of_go pl_0 rfl (fun _ => rfl) (k_seedWork_ok s   _ hf)
set_option maxRecDepth 65536 in
set_option maxHeartbeats 4000000 in
theorem k_dropHoldersOf_2_ok  : ∀ (n : Nat) (v1 : Int32) (v2 : Int32) (s : S) (x3 : Slot) (hx3 : k1 x3) (o : S), k_dropHoldersOf_2 n v1 v2 s = some o → Go PP m21 2 [.val (.ref 1), .val (.int v1), .val (.int v2), x3] [] (none, [(11, s)]) (none, (none, [(11, o)])) := by
  intro n
  induction n with
  | zero => intro v1 v2 s x3 hx3 o hf; exact nomatch hf
  | succ n ih =>
    intro v1 v2 s x3 hx3 o hf
    unfold k_dropHoldersOf_2 at hf
    refine go_iloadN (pc := 2) d21_2 rfl (go_aloadN (pc := 3) d21_3 rfl (go_getI (pc := 4) fs_52 hm_21 d21_4 ?_))
    by_cases h1 : v2 < (gI s 1)
    · replace hf := (if_pos h1).symm.trans hf
      refine go_icN (pc := 7) d21_7 (XT.ii_ge_f h1) ?_
      refine go_aloadN (pc := 10) d21_10 rfl (go_iloadN (pc := 11) d21_11 rfl (go_iloadN (pc := 12) d21_12 rfl ?_))
      obtain ⟨r13, e2, hf⟩ := Option.bind_eq_some_iff.mp hf
      refine go_priv (pc := 13) (i := 0) (as := [.int v1, .int v2]) (rest := []) (w' := (none, [(11, s)])) lk_0_98 pd_14 rfl oid_0 rfl rfl rfl rfl rfl rfl ⟨rfl, rfl, rfl, rfl, rfl⟩ d21_13 (c_k_readField v1 v2 s _ e2) ?_
      refine go_istoreN (pc := 16) (L' := [.val (.ref 1), .val (.int v1), .val (.int v2), .val (.int r13)]) d21_16 (stx rfl hx3 rfl) (go_aloadN (pc := 17) d21_17 rfl (go_iloadN (pc := 18) d21_18 rfl ?_))
      obtain ⟨r19, e3, hf⟩ := Option.bind_eq_some_iff.mp hf
      refine go_priv (pc := 19) (i := 0) (as := [.int r13]) (rest := []) (w' := (none, [(11, s)])) lk_0_135 pd_15 rfl oid_0 rfl rfl rfl rfl rfl rfl ⟨rfl, rfl, rfl, rfl, rfl⟩ d21_19 (c_k_isLiveId r13 s _ e3) ?_
      by_cases h4 : r19 = 0
      · replace hf := (if_pos h4).symm.trans hf
        refine go_ifY (pc := 22) (pc' := 61) d21_22 (XT.i0_eq_t h4) j_22_39 ?_
        refine go_iinc (pc := 61) (L' := [.val (.ref 1), .val (.int v1), .val (.int (v2 + (1 : Int32))), .val (.int r13)]) d21_61 rfl ci_1 rfl (go_goto (pc := 64) (pc' := 2) d21_64 j_64_m62 ?_)
        exact ih v1 (v2 + (1 : Int32)) s (.val (.int r13)) (Or.inr ⟨_, rfl, rfl⟩) _ hf
      · replace hf := (if_neg h4).symm.trans hf
        refine go_ifN (pc := 22) d21_22 (XT.i0_eq_f h4) ?_
        refine go_aloadN (pc := 25) d21_25 rfl (go_getA (pc := 26) fa_38 hm_21 d21_26 rfl (go_iloadN (pc := 29) d21_29 rfl ?_))
        obtain ⟨a30, e5, hf⟩ := Option.bind_eq_some_iff.mp hf
        refine go_iaload (pc := 30) (q := 9) ar_9 rfl e5 d21_30 ?_
        by_cases h6 : 0 < a30
        · replace hf := (if_pos h6).symm.trans hf
          refine go_ifN (pc := 31) d21_31 (XT.i0_le_f h6) ?_
          refine go_aloadN (pc := 34) d21_34 rfl (go_getA (pc := 35) fa_38 hm_21 d21_35 rfl (go_iloadN (pc := 38) d21_38 rfl (go_aloadN (pc := 39) d21_39 rfl (go_getA (pc := 40) fa_38 hm_21 d21_40 rfl (go_iloadN (pc := 43) d21_43 rfl ?_)))))
          obtain ⟨a44, e7, hf⟩ := Option.bind_eq_some_iff.mp hf
          refine go_iaload (pc := 44) (q := 9) ar_9 rfl e7 d21_44 ?_
          refine go_iconst (pc := 45) d21_45 ci_1 (go_isub (pc := 46) d21_46 ?_)
          obtain ⟨a47, e8, hf⟩ := Option.bind_eq_some_iff.mp hf
          refine go_iastore (pc := 47) (q := 9) ar_9 rfl hn_21 e8 d21_47 ?_
          refine go_aloadN (pc := 48) d21_48 rfl (go_iloadN (pc := 49) d21_49 rfl ?_)
          obtain ⟨r50, e9, hf⟩ := Option.bind_eq_some_iff.mp hf
          refine go_priv (pc := 50) (i := 0) (as := [.int r13]) (rest := []) (w' := (none, [(11, sA s 9 a47)])) lk_0_204 pd_18 rfl oid_0 rfl rfl rfl rfl rfl rfl ⟨rfl, rfl, rfl, rfl, rfl⟩ d21_50 (c_k_eligible r13 (sA s 9 a47) _ e9) ?_
          by_cases h10 : r50 = 0
          · replace hf := (if_pos h10).symm.trans hf
            refine go_ifY (pc := 53) (pc' := 61) d21_53 (XT.i0_eq_t h10) j_53_8 ?_
            refine go_iinc (pc := 61) (L' := [.val (.ref 1), .val (.int v1), .val (.int (v2 + (1 : Int32))), .val (.int r13)]) d21_61 rfl ci_1 rfl (go_goto (pc := 64) (pc' := 2) d21_64 j_64_m62 ?_)
            exact ih v1 (v2 + (1 : Int32)) (sA s 9 a47) (.val (.int r13)) (Or.inr ⟨_, rfl, rfl⟩) _ hf
          · replace hf := (if_neg h10).symm.trans hf
            refine go_ifN (pc := 53) d21_53 (XT.i0_eq_f h10) ?_
            refine go_aloadN (pc := 56) d21_56 rfl (go_iloadN (pc := 57) d21_57 rfl ?_)
            obtain ⟨r58, e11, hf⟩ := Option.bind_eq_some_iff.mp hf
            refine go_priv (pc := 58) (i := 0) (as := [.int r13]) (rest := []) (w' := (none, [(11, r58)])) lk_0_207 pd_19 rfl oid_0 rfl rfl rfl rfl rfl rfl ⟨rfl, rfl, rfl, rfl, rfl⟩ d21_58 (c_k_enqueue r13 (sA s 9 a47) _ e11) ?_
            refine go_iinc (pc := 61) (L' := [.val (.ref 1), .val (.int v1), .val (.int (v2 + (1 : Int32))), .val (.int r13)]) d21_61 rfl ci_1 rfl (go_goto (pc := 64) (pc' := 2) d21_64 j_64_m62 ?_)
            exact ih v1 (v2 + (1 : Int32)) r58 (.val (.int r13)) (Or.inr ⟨_, rfl, rfl⟩) _ hf
        · replace hf := (if_neg h6).symm.trans hf
          refine go_ifY (pc := 31) (pc' := 61) d21_31 (XT.i0_le_t h6) j_31_30 ?_
          refine go_iinc (pc := 61) (L' := [.val (.ref 1), .val (.int v1), .val (.int (v2 + (1 : Int32))), .val (.int r13)]) d21_61 rfl ci_1 rfl (go_goto (pc := 64) (pc' := 2) d21_64 j_64_m62 ?_)
          exact ih v1 (v2 + (1 : Int32)) s (.val (.int r13)) (Or.inr ⟨_, rfl, rfl⟩) _ hf
    · replace hf := (if_neg h1).symm.trans hf
      refine go_icY (pc := 7) (pc' := 67) d21_7 (XT.ii_ge_t h1) j_7_60 ?_
      cases hf
      exact go_ret (pc := 67) rfl d21_67
set_option maxRecDepth 65536 in
set_option maxHeartbeats 4000000 in
theorem k_dropHoldersOf_ok  : ∀ (v1 : Int32) (s : S)  (o : S), k_dropHoldersOf v1 s = some o → Go PP m21 0 [.val (.ref 1), .val (.int v1), .unset, .unset] [] (none, [(11, s)]) (none, (none, [(11, o)])) := by
  intro v1 s o hf
  unfold k_dropHoldersOf at hf
  refine go_iconst (pc := 0) d21_0 ci_0 (go_istoreN (pc := 1) (L' := [.val (.ref 1), .val (.int v1), .val (.int (0 : Int32)), .unset]) d21_1 rfl ?_)
  exact k_dropHoldersOf_2_ok BIG v1 (0 : Int32) s .unset (Or.inl rfl) _ hf
theorem c_k_dropHoldersOf (v1 : Int32) (s : S) (o : S) (hf : k_dropHoldersOf v1 s = some o) : Call PP m21 [.ref 1, .int v1] (none, [(11, s)]) (none, (none, [(11, o)])) := call_of_go pl_0 rfl (fun _ => rfl) (k_dropHoldersOf_ok v1 s   _ hf)
set_option maxRecDepth 65536 in
set_option maxHeartbeats 4000000 in
theorem k_cascade_61_ok  : ∀  (s : S) (x1 : Slot) (x2 : Slot) (hx1 : k1 x1) (hx2 : k1 x2) (o : S), k_cascade_61 s = some o → Go PP m22 61 [.val (.ref 1), x1, x2] [] (none, [(11, s)]) (none, (none, [(11, o)])) := by
  intro s x1 x2 hx1 hx2 o hf
  unfold k_cascade_61 at hf
  refine go_aloadN (pc := 61) d22_61 rfl (go_iconst (pc := 62) d22_62 ci_0 (go_putI (pc := 63) fs_201 hm_22 (wr_7 _) hn_22 d22_63 ?_))
  cases hf
  exact go_ret (pc := 66) rfl d22_66
set_option maxRecDepth 65536 in
set_option maxHeartbeats 4000000 in
theorem k_cascade_2_ok  : ∀ (n : Nat) (v1 : Int32) (s : S) (x2 : Slot) (hx2 : k1 x2) (o : S), k_cascade_2 n v1 s = some o → Go PP m22 2 [.val (.ref 1), .val (.int v1), x2] [] (none, [(11, s)]) (none, (none, [(11, o)])) := by
  intro n
  induction n with
  | zero => intro v1 s x2 hx2 o hf; exact nomatch hf
  | succ n ih =>
    intro v1 s x2 hx2 o hf
    unfold k_cascade_2 at hf
    refine go_iloadN (pc := 2) d22_2 rfl (go_bipush (pc := 3) d22_3 cb_64 ?_)
    by_cases h1 : (64 : Int32) < v1
    · replace hf := (if_pos h1).symm.trans hf
      refine go_icY (pc := 5) (pc' := 61) d22_5 (XT.ii_gt_t h1) j_5_56 ?_
      exact k_cascade_61_ok s (.val (.int v1)) x2 (Or.inr ⟨_, rfl, rfl⟩) hx2 _ hf
    · replace hf := (if_neg h1).symm.trans hf
      refine go_icN (pc := 5) d22_5 (XT.ii_gt_f h1) ?_
      refine go_aloadN (pc := 8) d22_8 rfl (go_getI (pc := 9) fs_201 hm_22 d22_9 ?_)
      by_cases h2 : 0 < (gI s 7)
      · replace hf := (if_pos h2).symm.trans hf
        refine go_ifN (pc := 12) d22_12 (XT.i0_le_f h2) ?_
        refine go_aloadN (pc := 15) d22_15 rfl (go_aloadN (pc := 16) d22_16 rfl (go_getI (pc := 17) fs_201 hm_22 d22_17 (go_iconst (pc := 20) d22_20 ci_1 (go_isub (pc := 21) d22_21 (go_putI (pc := 22) fs_201 hm_22 (wr_7 _) hn_22 d22_22 (go_aloadN (pc := 25) d22_25 rfl (go_getA (pc := 26) fa_41 hm_22 d22_26 rfl ?_)))))))
        refine go_aloadN (pc := 29) d22_29 rfl (go_getI (pc := 30) fs_201 hm_22 d22_30 ?_)
        obtain ⟨a33, e3, hf⟩ := Option.bind_eq_some_iff.mp hf
        refine go_iaload (pc := 33) (q := 10) ar_10 rfl e3 d22_33 ?_
        refine go_istoreN (pc := 34) (L' := [.val (.ref 1), .val (.int v1), .val (.int a33)]) d22_34 (stx rfl hx2 rfl) (go_aloadN (pc := 35) d22_35 rfl (go_iloadN (pc := 36) d22_36 rfl ?_))
        refine go_priv (pc := 37) (i := 0) (as := [.int a33]) (rest := []) (w' := (none, [(11, sI s 7 ((gI s 7) - (1 : Int32)))])) lk_0_165 pd_11 rfl oid_0 rfl rfl rfl rfl rfl rfl ⟨rfl, rfl, rfl, rfl, rfl⟩ d22_37 (c_k_isObjectId a33 (sI s 7 ((gI s 7) - (1 : Int32)))) ?_
        by_cases h4 : (k_isObjectId a33 (sI s 7 ((gI s 7) - (1 : Int32)))) = 0
        · replace hf := (if_pos h4).symm.trans hf
          refine go_ifY (pc := 40) (pc' := 55) d22_40 (XT.i0_eq_t h4) j_40_15 ?_
          refine go_iinc (pc := 55) (L' := [.val (.ref 1), .val (.int (v1 + (1 : Int32))), .val (.int a33)]) d22_55 rfl ci_1 rfl (go_goto (pc := 58) (pc' := 2) d22_58 j_58_m56 ?_)
          exact ih (v1 + (1 : Int32)) (sI s 7 ((gI s 7) - (1 : Int32))) (.val (.int a33)) (Or.inr ⟨_, rfl, rfl⟩) _ hf
        · replace hf := (if_neg h4).symm.trans hf
          refine go_ifN (pc := 40) d22_40 (XT.i0_eq_f h4) ?_
          refine go_aloadN (pc := 43) d22_43 rfl (go_getA (pc := 44) fa_29 hm_22 d22_44 rfl (go_iloadN (pc := 47) d22_47 rfl (go_iconst (pc := 48) d22_48 ci_0 ?_)))
          obtain ⟨a49, e5, hf⟩ := Option.bind_eq_some_iff.mp hf
          refine go_bastore (pc := 49) (q := 6) ar_6 (by decide) rfl hn_22 (by decide) e5 d22_49 ?_
          refine go_aloadN (pc := 50) d22_50 rfl (go_iloadN (pc := 51) d22_51 rfl ?_)
          obtain ⟨r52, e6, hf⟩ := Option.bind_eq_some_iff.mp hf
          refine go_priv (pc := 52) (i := 0) (as := [.int a33]) (rest := []) (w' := (none, [(11, r52)])) lk_0_210 pd_21 rfl oid_0 rfl rfl rfl rfl rfl rfl ⟨rfl, rfl, rfl, rfl, rfl⟩ d22_52 (c_k_dropHoldersOf a33 (sA (sI s 7 ((gI s 7) - (1 : Int32))) 6 a49) _ e6) ?_
          refine go_iinc (pc := 55) (L' := [.val (.ref 1), .val (.int (v1 + (1 : Int32))), .val (.int a33)]) d22_55 rfl ci_1 rfl (go_goto (pc := 58) (pc' := 2) d22_58 j_58_m56 ?_)
          exact ih (v1 + (1 : Int32)) r52 (.val (.int a33)) (Or.inr ⟨_, rfl, rfl⟩) _ hf
      · replace hf := (if_neg h2).symm.trans hf
        refine go_ifY (pc := 12) (pc' := 61) d22_12 (XT.i0_le_t h2) j_12_49 ?_
        exact k_cascade_61_ok s (.val (.int v1)) x2 (Or.inr ⟨_, rfl, rfl⟩) hx2 _ hf
set_option maxRecDepth 65536 in
set_option maxHeartbeats 4000000 in
theorem k_cascade_ok  : ∀  (s : S)  (o : S), k_cascade s = some o → Go PP m22 0 [.val (.ref 1), .unset, .unset] [] (none, [(11, s)]) (none, (none, [(11, o)])) := by
  intro s o hf
  unfold k_cascade at hf
  refine go_iconst (pc := 0) d22_0 ci_0 (go_istoreN (pc := 1) (L' := [.val (.ref 1), .val (.int (0 : Int32)), .unset]) d22_1 rfl ?_)
  exact k_cascade_2_ok BIG (0 : Int32) s .unset (Or.inl rfl) _ hf
theorem c_k_cascade (s : S) (o : S) (hf : k_cascade s = some o) : Call PP m22 [.ref 1] (none, [(11, s)]) (none, (none, [(11, o)])) := call_of_go pl_0 rfl (fun _ => rfl) (k_cascade_ok s   _ hf)
set_option maxRecDepth 65536 in
set_option maxHeartbeats 4000000 in
theorem k_releaseCell_ok  : ∀ (v1 : Int32) (s : S)  (o : S), k_releaseCell v1 s = some o → Go PP m23 0 [.val (.ref 1), .val (.int v1)] [] (none, [(11, s)]) (none, (none, [(11, o)])) := by
  intro v1 s o hf
  unfold k_releaseCell at hf
  refine go_aloadN (pc := 0) d23_0 rfl (go_iloadN (pc := 1) d23_1 rfl ?_)
  refine go_priv (pc := 2) (i := 0) (as := [.int v1]) (rest := []) (w' := (none, [(11, s)])) lk_0_165 pd_11 rfl oid_0 rfl rfl rfl rfl rfl rfl ⟨rfl, rfl, rfl, rfl, rfl⟩ d23_2 (c_k_isObjectId v1 s) ?_
  by_cases h1 : (k_isObjectId v1 s) = 0
  · replace hf := (if_pos h1).symm.trans hf
    refine go_ifN (pc := 5) d23_5 (XT.i0_ne_f h1) ?_
    cases hf
    exact go_ret (pc := 8) rfl d23_8
  · replace hf := (if_neg h1).symm.trans hf
    refine go_ifY (pc := 5) (pc' := 9) d23_5 (XT.i0_ne_t h1) j_5_4 ?_
    refine go_aloadN (pc := 9) d23_9 rfl (go_getA (pc := 10) fa_7 hm_23 d23_10 rfl (go_iloadN (pc := 13) d23_13 rfl ?_))
    obtain ⟨a14, e2, hf⟩ := Option.bind_eq_some_iff.mp hf
    refine go_baload (pc := 14) (q := 0) ar_0 (by decide) rfl e2 d23_14 ?_
    by_cases h3 : a14 = 0
    · replace hf := (if_pos h3).symm.trans hf
      refine go_ifN (pc := 15) d23_15 (XT.i0_ne_f h3) ?_
      cases hf
      exact go_ret (pc := 18) rfl d23_18
    · replace hf := (if_neg h3).symm.trans hf
      refine go_ifY (pc := 15) (pc' := 19) d23_15 (XT.i0_ne_t h3) j_15_4 ?_
      refine go_aloadN (pc := 19) d23_19 rfl (go_getA (pc := 20) fa_7 hm_23 d23_20 rfl (go_iloadN (pc := 23) d23_23 rfl (go_iconst (pc := 24) d23_24 ci_0 ?_)))
      obtain ⟨a25, e4, hf⟩ := Option.bind_eq_some_iff.mp hf
      refine go_bastore (pc := 25) (q := 0) ar_0 (by decide) rfl hn_23 (by decide) e4 d23_25 ?_
      refine go_aloadN (pc := 26) d23_26 rfl (go_iloadN (pc := 27) d23_27 rfl ?_)
      obtain ⟨r28, e5, hf⟩ := Option.bind_eq_some_iff.mp hf
      refine go_priv (pc := 28) (i := 0) (as := [.int v1]) (rest := []) (w' := (none, [(11, r28)])) lk_0_219 pd_1 rfl oid_0 rfl rfl rfl rfl rfl rfl ⟨rfl, rfl, rfl, rfl, rfl⟩ d23_28 (c_k_clearCellFields v1 (sA s 0 a25) _ e5) ?_
      refine go_aloadN (pc := 31) d23_31 rfl (go_getA (pc := 32) fa_17 hm_23 d23_32 rfl (go_iloadN (pc := 35) d23_35 rfl (go_iconst (pc := 36) d23_36 ci_0 ?_)))
      obtain ⟨a37, e6, hf⟩ := Option.bind_eq_some_iff.mp hf
      refine go_iastore (pc := 37) (q := 2) ar_2 rfl hn_23 e6 d23_37 ?_
      refine go_aloadN (pc := 38) d23_38 rfl (go_aloadN (pc := 39) d23_39 rfl (go_getI (pc := 40) fs_147 hm_23 d23_40 (go_iconst (pc := 43) d23_43 ci_1 (go_isub (pc := 44) d23_44 (go_putI (pc := 45) fs_147 hm_23 (wr_4 _) hn_23 d23_45 ?_)))))
      cases hf
      exact go_ret (pc := 48) rfl d23_48
theorem c_k_releaseCell (v1 : Int32) (s : S) (o : S) (hf : k_releaseCell v1 s = some o) : Call PP m23 [.ref 1, .int v1] (none, [(11, s)]) (none, (none, [(11, o)])) := call_of_go pl_0 rfl (fun _ => rfl) (k_releaseCell_ok v1 s   _ hf)
set_option maxRecDepth 65536 in
set_option maxHeartbeats 4000000 in
theorem k_sweep_4_ok  : ∀ (n : Nat) (v1 : Int32) (v2 : Int32) (s : S)  (o : Int32 × S), k_sweep_4 n v1 v2 s = some o → Go PP m24 4 [.val (.ref 1), .val (.int v1), .val (.int v2)] [] (none, [(11, s)]) (some (.int o.1), (none, [(11, o.2)])) := by
  intro n
  induction n with
  | zero => intro v1 v2 s o hf; exact nomatch hf
  | succ n ih =>
    intro v1 v2 s o hf
    unfold k_sweep_4 at hf
    refine go_iloadN (pc := 4) d24_4 rfl (go_aloadN (pc := 5) d24_5 rfl (go_getI (pc := 6) fs_48 hm_24 d24_6 ?_))
    by_cases h1 : v2 < (gI s 0)
    · replace hf := (if_pos h1).symm.trans hf
      refine go_icN (pc := 9) d24_9 (XT.ii_ge_f h1) ?_
      refine go_aloadN (pc := 12) d24_12 rfl (go_getA (pc := 13) fa_7 hm_24 d24_13 rfl (go_iloadN (pc := 16) d24_16 rfl ?_))
      obtain ⟨a17, e2, hf⟩ := Option.bind_eq_some_iff.mp hf
      refine go_baload (pc := 17) (q := 0) ar_0 (by decide) rfl e2 d24_17 ?_
      by_cases h3 : a17 = 0
      · replace hf := (if_pos h3).symm.trans hf
        refine go_ifY (pc := 18) (pc' := 39) d24_18 (XT.i0_eq_t h3) j_18_21 ?_
        refine go_iinc (pc := 39) (L' := [.val (.ref 1), .val (.int v1), .val (.int (v2 + (1 : Int32)))]) d24_39 rfl ci_1 rfl (go_goto (pc := 42) (pc' := 4) d24_42 j_42_m38 ?_)
        exact ih v1 (v2 + (1 : Int32)) s _ hf
      · replace hf := (if_neg h3).symm.trans hf
        refine go_ifN (pc := 18) d24_18 (XT.i0_eq_f h3) ?_
        refine go_aloadN (pc := 21) d24_21 rfl (go_getA (pc := 22) fa_29 hm_24 d24_22 rfl (go_iloadN (pc := 25) d24_25 rfl ?_))
        obtain ⟨a26, e4, hf⟩ := Option.bind_eq_some_iff.mp hf
        refine go_baload (pc := 26) (q := 6) ar_6 (by decide) rfl e4 d24_26 ?_
        by_cases h5 : a26 = 0
        · replace hf := (if_pos h5).symm.trans hf
          refine go_ifN (pc := 27) d24_27 (XT.i0_ne_f h5) ?_
          refine go_aloadN (pc := 30) d24_30 rfl (go_iloadN (pc := 31) d24_31 rfl ?_)
          obtain ⟨r32, e6, hf⟩ := Option.bind_eq_some_iff.mp hf
          refine go_priv (pc := 32) (i := 0) (as := [.int v2]) (rest := []) (w' := (none, [(11, r32)])) lk_0_213 pd_23 rfl oid_0 rfl rfl rfl rfl rfl rfl ⟨rfl, rfl, rfl, rfl, rfl⟩ d24_32 (c_k_releaseCell v2 s _ e6) ?_
          refine go_iloadN (pc := 35) d24_35 rfl (go_iconst (pc := 36) d24_36 ci_1 (go_iadd (pc := 37) d24_37 (go_istoreN (pc := 38) (L' := [.val (.ref 1), .val (.int (v1 + (1 : Int32))), .val (.int v2)]) d24_38 rfl (go_iinc (pc := 39) (L' := [.val (.ref 1), .val (.int (v1 + (1 : Int32))), .val (.int (v2 + (1 : Int32)))]) d24_39 rfl ci_1 rfl (go_goto (pc := 42) (pc' := 4) d24_42 j_42_m38 ?_)))))
          exact ih (v1 + (1 : Int32)) (v2 + (1 : Int32)) r32 _ hf
        · replace hf := (if_neg h5).symm.trans hf
          refine go_ifY (pc := 27) (pc' := 39) d24_27 (XT.i0_ne_t h5) j_27_12 ?_
          refine go_iinc (pc := 39) (L' := [.val (.ref 1), .val (.int v1), .val (.int (v2 + (1 : Int32)))]) d24_39 rfl ci_1 rfl (go_goto (pc := 42) (pc' := 4) d24_42 j_42_m38 ?_)
          exact ih v1 (v2 + (1 : Int32)) s _ hf
    · replace hf := (if_neg h1).symm.trans hf
      refine go_icY (pc := 9) (pc' := 45) d24_9 (XT.ii_ge_t h1) j_9_36 ?_
      refine go_iloadN (pc := 45) d24_45 rfl ?_
      cases hf
      exact go_iret (pc := 46) rfl d24_46
set_option maxRecDepth 65536 in
set_option maxHeartbeats 4000000 in
theorem k_sweep_ok  : ∀  (s : S)  (o : Int32 × S), k_sweep s = some o → Go PP m24 0 [.val (.ref 1), .unset, .unset] [] (none, [(11, s)]) (some (.int o.1), (none, [(11, o.2)])) := by
  intro s o hf
  unfold k_sweep at hf
  refine go_iconst (pc := 0) d24_0 ci_0 (go_istoreN (pc := 1) (L' := [.val (.ref 1), .val (.int (0 : Int32)), .unset]) d24_1 rfl (go_iconst (pc := 2) d24_2 ci_0 (go_istoreN (pc := 3) (L' := [.val (.ref 1), .val (.int (0 : Int32)), .val (.int (0 : Int32))]) d24_3 rfl ?_)))
  exact k_sweep_4_ok BIG (0 : Int32) (0 : Int32) s _ hf
theorem c_k_sweep (s : S) (o : Int32 × S) (hf : k_sweep s = some o) : Call PP m24 [.ref 1] (none, [(11, s)]) (some (.int o.1), (none, [(11, o.2)])) := call_of_go pl_0 rfl (fun h => nomatch h) (k_sweep_ok s   _ hf)
set_option maxRecDepth 65536 in
set_option maxHeartbeats 4000000 in
theorem k_refInc_ok  : ∀ (v1 : Int32) (s : S)  (o : S), k_refInc v1 s = some o → Go PP m25 0 [.val (.ref 1), .val (.int v1)] [] (none, [(11, s)]) (none, (none, [(11, o)])) := by
  intro v1 s o hf
  unfold k_refInc at hf
  refine go_aloadN (pc := 0) d25_0 rfl (go_iloadN (pc := 1) d25_1 rfl ?_)
  refine go_priv (pc := 2) (i := 0) (as := [.int v1]) (rest := []) (w' := (none, [(11, s)])) lk_0_165 pd_11 rfl oid_0 rfl rfl rfl rfl rfl rfl ⟨rfl, rfl, rfl, rfl, rfl⟩ d25_2 (c_k_isObjectId v1 s) ?_
  by_cases h1 : (k_isObjectId v1 s) = 0
  · replace hf := (if_pos h1).symm.trans hf
    refine go_ifY (pc := 5) (pc' := 22) d25_5 (XT.i0_eq_t h1) j_5_17 ?_
    cases hf
    exact go_ret (pc := 22) rfl d25_22
  · replace hf := (if_neg h1).symm.trans hf
    refine go_ifN (pc := 5) d25_5 (XT.i0_eq_f h1) ?_
    refine go_aloadN (pc := 8) d25_8 rfl (go_getA (pc := 9) fa_17 hm_25 d25_9 rfl (go_iloadN (pc := 12) d25_12 rfl (go_aloadN (pc := 13) d25_13 rfl (go_getA (pc := 14) fa_17 hm_25 d25_14 rfl (go_iloadN (pc := 17) d25_17 rfl ?_)))))
    obtain ⟨a18, e2, hf⟩ := Option.bind_eq_some_iff.mp hf
    refine go_iaload (pc := 18) (q := 2) ar_2 rfl e2 d25_18 ?_
    refine go_iconst (pc := 19) d25_19 ci_1 (go_iadd (pc := 20) d25_20 ?_)
    obtain ⟨a21, e3, hf⟩ := Option.bind_eq_some_iff.mp hf
    refine go_iastore (pc := 21) (q := 2) ar_2 rfl hn_25 e3 d25_21 ?_
    cases hf
    exact go_ret (pc := 22) rfl d25_22
theorem c_k_refInc (v1 : Int32) (s : S) (o : S) (hf : k_refInc v1 s = some o) : Call PP m25 [.ref 1, .int v1] (none, [(11, s)]) (none, (none, [(11, o)])) := call_of_go pl_0 rfl (fun _ => rfl) (k_refInc_ok v1 s   _ hf)
set_option maxRecDepth 65536 in
set_option maxHeartbeats 4000000 in
theorem k_countOutgoing_2_ok  : ∀ (n : Nat) (v1 : Int32) (v2 : Int32) (s : S) (x3 : Slot) (hx3 : k1 x3) (o : S), k_countOutgoing_2 n v1 v2 s = some o → Go PP m26 2 [.val (.ref 1), .val (.int v1), .val (.int v2), x3] [] (none, [(11, s)]) (none, (none, [(11, o)])) := by
  intro n
  induction n with
  | zero => intro v1 v2 s x3 hx3 o hf; exact nomatch hf
  | succ n ih =>
    intro v1 v2 s x3 hx3 o hf
    unfold k_countOutgoing_2 at hf
    refine go_iloadN (pc := 2) d26_2 rfl (go_aloadN (pc := 3) d26_3 rfl (go_getI (pc := 4) fs_52 hm_26 d26_4 ?_))
    by_cases h1 : v2 < (gI s 1)
    · replace hf := (if_pos h1).symm.trans hf
      refine go_icN (pc := 7) d26_7 (XT.ii_ge_f h1) ?_
      refine go_aloadN (pc := 10) d26_10 rfl (go_iloadN (pc := 11) d26_11 rfl (go_iloadN (pc := 12) d26_12 rfl ?_))
      obtain ⟨r13, e2, hf⟩ := Option.bind_eq_some_iff.mp hf
      refine go_priv (pc := 13) (i := 0) (as := [.int v1, .int v2]) (rest := []) (w' := (none, [(11, s)])) lk_0_98 pd_14 rfl oid_0 rfl rfl rfl rfl rfl rfl ⟨rfl, rfl, rfl, rfl, rfl⟩ d26_13 (c_k_readField v1 v2 s _ e2) ?_
      refine go_istoreN (pc := 16) (L' := [.val (.ref 1), .val (.int v1), .val (.int v2), .val (.int r13)]) d26_16 (stx rfl hx3 rfl) (go_aloadN (pc := 17) d26_17 rfl (go_iloadN (pc := 18) d26_18 rfl ?_))
      obtain ⟨r19, e3, hf⟩ := Option.bind_eq_some_iff.mp hf
      refine go_priv (pc := 19) (i := 0) (as := [.int r13]) (rest := []) (w' := (none, [(11, s)])) lk_0_135 pd_15 rfl oid_0 rfl rfl rfl rfl rfl rfl ⟨rfl, rfl, rfl, rfl, rfl⟩ d26_19 (c_k_isLiveId r13 s _ e3) ?_
      by_cases h4 : r19 = 0
      · replace hf := (if_pos h4).symm.trans hf
        refine go_ifY (pc := 22) (pc' := 30) d26_22 (XT.i0_eq_t h4) j_22_8 ?_
        refine go_iinc (pc := 30) (L' := [.val (.ref 1), .val (.int v1), .val (.int (v2 + (1 : Int32))), .val (.int r13)]) d26_30 rfl ci_1 rfl (go_goto (pc := 33) (pc' := 2) d26_33 j_33_m31 ?_)
        exact ih v1 (v2 + (1 : Int32)) s (.val (.int r13)) (Or.inr ⟨_, rfl, rfl⟩) _ hf
      · replace hf := (if_neg h4).symm.trans hf
        refine go_ifN (pc := 22) d26_22 (XT.i0_eq_f h4) ?_
        refine go_aloadN (pc := 25) d26_25 rfl (go_iloadN (pc := 26) d26_26 rfl ?_)
        obtain ⟨r27, e5, hf⟩ := Option.bind_eq_some_iff.mp hf
        refine go_priv (pc := 27) (i := 0) (as := [.int r13]) (rest := []) (w' := (none, [(11, r27)])) lk_0_171 pd_25 rfl oid_0 rfl rfl rfl rfl rfl rfl ⟨rfl, rfl, rfl, rfl, rfl⟩ d26_27 (c_k_refInc r13 s _ e5) ?_
        refine go_iinc (pc := 30) (L' := [.val (.ref 1), .val (.int v1), .val (.int (v2 + (1 : Int32))), .val (.int r13)]) d26_30 rfl ci_1 rfl (go_goto (pc := 33) (pc' := 2) d26_33 j_33_m31 ?_)
        exact ih v1 (v2 + (1 : Int32)) r27 (.val (.int r13)) (Or.inr ⟨_, rfl, rfl⟩) _ hf
    · replace hf := (if_neg h1).symm.trans hf
      refine go_icY (pc := 7) (pc' := 36) d26_7 (XT.ii_ge_t h1) j_7_29 ?_
      cases hf
      exact go_ret (pc := 36) rfl d26_36
set_option maxRecDepth 65536 in
set_option maxHeartbeats 4000000 in
theorem k_countOutgoing_ok  : ∀ (v1 : Int32) (s : S)  (o : S), k_countOutgoing v1 s = some o → Go PP m26 0 [.val (.ref 1), .val (.int v1), .unset, .unset] [] (none, [(11, s)]) (none, (none, [(11, o)])) := by
  intro v1 s o hf
  unfold k_countOutgoing at hf
  refine go_iconst (pc := 0) d26_0 ci_0 (go_istoreN (pc := 1) (L' := [.val (.ref 1), .val (.int v1), .val (.int (0 : Int32)), .unset]) d26_1 rfl ?_)
  exact k_countOutgoing_2_ok BIG v1 (0 : Int32) s .unset (Or.inl rfl) _ hf
theorem c_k_countOutgoing (v1 : Int32) (s : S) (o : S) (hf : k_countOutgoing v1 s = some o) : Call PP m26 [.ref 1, .int v1] (none, [(11, s)]) (none, (none, [(11, o)])) := call_of_go pl_0 rfl (fun _ => rfl) (k_countOutgoing_ok v1 s   _ hf)
set_option maxRecDepth 65536 in
set_option maxHeartbeats 4000000 in
theorem k_recountRefs_23_ok  : ∀ (n : Nat) (v1 : Int32) (s : S)  (o : S), k_recountRefs_23 n v1 s = some o → Go PP m27 23 [.val (.ref 1), .val (.int v1)] [] (none, [(11, s)]) (none, (none, [(11, o)])) := by
  intro n
  induction n with
  | zero => intro v1 s o hf; exact nomatch hf
  | succ n ih =>
    intro v1 s o hf
    unfold k_recountRefs_23 at hf
    refine go_iloadN (pc := 23) d27_23 rfl (go_aloadN (pc := 24) d27_24 rfl (go_getI (pc := 25) fs_48 hm_27 d27_25 ?_))
    by_cases h1 : v1 < (gI s 0)
    · replace hf := (if_pos h1).symm.trans hf
      refine go_icN (pc := 28) d27_28 (XT.ii_ge_f h1) ?_
      refine go_aloadN (pc := 31) d27_31 rfl (go_getA (pc := 32) fa_7 hm_27 d27_32 rfl (go_iloadN (pc := 35) d27_35 rfl ?_))
      obtain ⟨a36, e2, hf⟩ := Option.bind_eq_some_iff.mp hf
      refine go_baload (pc := 36) (q := 0) ar_0 (by decide) rfl e2 d27_36 ?_
      by_cases h3 : a36 = 0
      · replace hf := (if_pos h3).symm.trans hf
        refine go_ifY (pc := 37) (pc' := 45) d27_37 (XT.i0_eq_t h3) j_37_8 ?_
        refine go_iinc (pc := 45) (L' := [.val (.ref 1), .val (.int (v1 + (1 : Int32)))]) d27_45 rfl ci_1 rfl (go_goto (pc := 48) (pc' := 23) d27_48 j_48_m25 ?_)
        exact ih (v1 + (1 : Int32)) s _ hf
      · replace hf := (if_neg h3).symm.trans hf
        refine go_ifN (pc := 37) d27_37 (XT.i0_eq_f h3) ?_
        refine go_aloadN (pc := 40) d27_40 rfl (go_iloadN (pc := 41) d27_41 rfl ?_)
        obtain ⟨r42, e4, hf⟩ := Option.bind_eq_some_iff.mp hf
        refine go_priv (pc := 42) (i := 0) (as := [.int v1]) (rest := []) (w' := (none, [(11, r42)])) lk_0_216 pd_26 rfl oid_0 rfl rfl rfl rfl rfl rfl ⟨rfl, rfl, rfl, rfl, rfl⟩ d27_42 (c_k_countOutgoing v1 s _ e4) ?_
        refine go_iinc (pc := 45) (L' := [.val (.ref 1), .val (.int (v1 + (1 : Int32)))]) d27_45 rfl ci_1 rfl (go_goto (pc := 48) (pc' := 23) d27_48 j_48_m25 ?_)
        exact ih (v1 + (1 : Int32)) r42 _ hf
    · replace hf := (if_neg h1).symm.trans hf
      refine go_icY (pc := 28) (pc' := 51) d27_28 (XT.ii_ge_t h1) j_28_23 ?_
      cases hf
      exact go_ret (pc := 51) rfl d27_51
set_option maxRecDepth 65536 in
set_option maxHeartbeats 4000000 in
theorem k_recountRefs_21_ok  : ∀  (s : S) (x1 : Slot) (hx1 : k1 x1) (o : S), k_recountRefs_21 s = some o → Go PP m27 21 [.val (.ref 1), x1] [] (none, [(11, s)]) (none, (none, [(11, o)])) := by
  intro s x1 hx1 o hf
  unfold k_recountRefs_21 at hf
  refine go_iconst (pc := 21) d27_21 ci_0 (go_istoreN (pc := 22) (L' := [.val (.ref 1), .val (.int (0 : Int32))]) d27_22 (stx rfl hx1 rfl) ?_)
  exact k_recountRefs_23_ok BIG (0 : Int32) s _ hf
set_option maxRecDepth 65536 in
set_option maxHeartbeats 4000000 in
theorem k_recountRefs_2_ok  : ∀ (n : Nat) (v1 : Int32) (s : S)  (o : S), k_recountRefs_2 n v1 s = some o → Go PP m27 2 [.val (.ref 1), .val (.int v1)] [] (none, [(11, s)]) (none, (none, [(11, o)])) := by
  intro n
  induction n with
  | zero => intro v1 s o hf; exact nomatch hf
  | succ n ih =>
    intro v1 s o hf
    unfold k_recountRefs_2 at hf
    refine go_iloadN (pc := 2) d27_2 rfl (go_bipush (pc := 3) d27_3 cb_64 ?_)
    by_cases h1 : v1 < (64 : Int32)
    · replace hf := (if_pos h1).symm.trans hf
      refine go_icN (pc := 5) d27_5 (XT.ii_ge_f h1) ?_
      refine go_aloadN (pc := 8) d27_8 rfl (go_getA (pc := 9) fa_17 hm_27 d27_9 rfl (go_iloadN (pc := 12) d27_12 rfl (go_iconst (pc := 13) d27_13 ci_0 ?_)))
      obtain ⟨a14, e2, hf⟩ := Option.bind_eq_some_iff.mp hf
      refine go_iastore (pc := 14) (q := 2) ar_2 rfl hn_27 e2 d27_14 ?_
      refine go_iinc (pc := 15) (L' := [.val (.ref 1), .val (.int (v1 + (1 : Int32)))]) d27_15 rfl ci_1 rfl (go_goto (pc := 18) (pc' := 2) d27_18 j_18_m16 ?_)
      exact ih (v1 + (1 : Int32)) (sA s 2 a14) _ hf
    · replace hf := (if_neg h1).symm.trans hf
      refine go_icY (pc := 5) (pc' := 21) d27_5 (XT.ii_ge_t h1) j_5_16 ?_
      exact k_recountRefs_21_ok s (.val (.int v1)) (Or.inr ⟨_, rfl, rfl⟩) _ hf
set_option maxRecDepth 65536 in
set_option maxHeartbeats 4000000 in
theorem k_recountRefs_ok  : ∀  (s : S)  (o : S), k_recountRefs s = some o → Go PP m27 0 [.val (.ref 1), .unset] [] (none, [(11, s)]) (none, (none, [(11, o)])) := by
  intro s o hf
  unfold k_recountRefs at hf
  refine go_iconst (pc := 0) d27_0 ci_0 (go_istoreN (pc := 1) (L' := [.val (.ref 1), .val (.int (0 : Int32))]) d27_1 rfl ?_)
  exact k_recountRefs_2_ok BIG (0 : Int32) s _ hf
theorem c_k_recountRefs (s : S) (o : S) (hf : k_recountRefs s = some o) : Call PP m27 [.ref 1] (none, [(11, s)]) (none, (none, [(11, o)])) := call_of_go pl_0 rfl (fun _ => rfl) (k_recountRefs_ok s   _ hf)
set_option maxRecDepth 65536 in
set_option maxHeartbeats 4000000 in
theorem k_tableInsert_ok  : ∀ (v1 : Int32) (s : S)  (o : Int32 × S), k_tableInsert v1 s = some o → Go PP m28 0 [.val (.ref 1), .val (.int v1)] [] (none, [(11, s)]) (some (.int o.1), (none, [(11, o.2)])) := by
  intro v1 s o hf
  unfold k_tableInsert at hf
  refine go_aloadN (pc := 0) d28_0 rfl (go_iloadN (pc := 1) d28_1 rfl ?_)
  refine go_priv (pc := 2) (i := 0) (as := [.int v1]) (rest := []) (w' := (none, [(11, s)])) lk_0_165 pd_11 rfl oid_0 rfl rfl rfl rfl rfl rfl ⟨rfl, rfl, rfl, rfl, rfl⟩ d28_2 (c_k_isObjectId v1 s) ?_
  by_cases h1 : (k_isObjectId v1 s) = 0
  · replace hf := (if_pos h1).symm.trans hf
    refine go_ifN (pc := 5) d28_5 (XT.i0_ne_f h1) ?_
    refine go_iconst (pc := 8) d28_8 ci_0 ?_
    cases hf
    exact go_zret (pc := 9) rfl d28_9 (show (0 : Int32) = nar .boolean (0 : Int32) by decide)
  · replace hf := (if_neg h1).symm.trans hf
    refine go_ifY (pc := 5) (pc' := 10) d28_5 (XT.i0_ne_t h1) j_5_5 ?_
    refine go_aloadN (pc := 10) d28_10 rfl (go_getA (pc := 11) fa_26 hm_28 d28_11 rfl (go_iloadN (pc := 14) d28_14 rfl ?_))
    obtain ⟨a15, e2, hf⟩ := Option.bind_eq_some_iff.mp hf
    refine go_iaload (pc := 15) (q := 5) ar_5 rfl e2 d28_15 ?_
    refine go_iconst (pc := 16) d28_16 ci_m1 ?_
    by_cases h3 : a15 = (-1 : Int32)
    · replace hf := (if_pos h3).symm.trans hf
      refine go_icY (pc := 17) (pc' := 22) d28_17 (XT.ii_eq_t h3) j_17_5 ?_
      refine go_aloadN (pc := 22) d28_22 rfl (go_getI (pc := 23) fs_144 hm_28 d28_23 (go_aloadN (pc := 26) d28_26 rfl (go_getI (pc := 27) fs_58 hm_28 d28_27 ?_)))
      by_cases h4 : (gI s 6) < (gI s 3)
      · replace hf := (if_pos h4).symm.trans hf
        refine go_icN (pc := 30) d28_30 (XT.ii_ge_f h4) ?_
        refine go_aloadN (pc := 33) d28_33 rfl (go_getI (pc := 34) fs_144 hm_28 d28_34 (go_bipush (pc := 37) d28_37 cb_64 ?_))
        by_cases h5 : (gI s 6) < (64 : Int32)
        · replace hf := (if_pos h5).symm.trans hf
          refine go_icY (pc := 39) (pc' := 44) d28_39 (XT.ii_lt_t h5) j_39_5 ?_
          refine go_aloadN (pc := 44) d28_44 rfl (go_getA (pc := 45) fa_23 hm_28 d28_45 rfl (go_aloadN (pc := 48) d28_48 rfl (go_getI (pc := 49) fs_144 hm_28 d28_49 (go_iloadN (pc := 52) d28_52 rfl ?_))))
          obtain ⟨a53, e6, hf⟩ := Option.bind_eq_some_iff.mp hf
          refine go_iastore (pc := 53) (q := 4) ar_4 rfl hn_28 e6 d28_53 ?_
          refine go_aloadN (pc := 54) d28_54 rfl (go_getA (pc := 55) fa_26 hm_28 d28_55 rfl (go_iloadN (pc := 58) d28_58 rfl (go_aloadN (pc := 59) d28_59 rfl (go_getI (pc := 60) fs_144 hm_28 d28_60 ?_))))
          obtain ⟨a63, e7, hf⟩ := Option.bind_eq_some_iff.mp hf
          refine go_iastore (pc := 63) (q := 5) ar_5 rfl hn_28 e7 d28_63 ?_
          refine go_aloadN (pc := 64) d28_64 rfl (go_aloadN (pc := 65) d28_65 rfl (go_getI (pc := 66) fs_144 hm_28 d28_66 (go_iconst (pc := 69) d28_69 ci_1 (go_iadd (pc := 70) d28_70 (go_putI (pc := 71) fs_144 hm_28 (wr_6 _) hn_28 d28_71 (go_iconst (pc := 74) d28_74 ci_1 ?_))))))
          cases hf
          exact go_zret (pc := 75) rfl d28_75 (show (1 : Int32) = nar .boolean (1 : Int32) by decide)
        · replace hf := (if_neg h5).symm.trans hf
          refine go_icN (pc := 39) d28_39 (XT.ii_lt_f h5) ?_
          refine go_iconst (pc := 42) d28_42 ci_0 ?_
          cases hf
          exact go_zret (pc := 43) rfl d28_43 (show (0 : Int32) = nar .boolean (0 : Int32) by decide)
      · replace hf := (if_neg h4).symm.trans hf
        refine go_icY (pc := 30) (pc' := 42) d28_30 (XT.ii_ge_t h4) j_30_12 ?_
        refine go_iconst (pc := 42) d28_42 ci_0 ?_
        cases hf
        exact go_zret (pc := 43) rfl d28_43 (show (0 : Int32) = nar .boolean (0 : Int32) by decide)
    · replace hf := (if_neg h3).symm.trans hf
      refine go_icN (pc := 17) d28_17 (XT.ii_eq_f h3) ?_
      refine go_iconst (pc := 20) d28_20 ci_0 ?_
      cases hf
      exact go_zret (pc := 21) rfl d28_21 (show (0 : Int32) = nar .boolean (0 : Int32) by decide)
theorem c_k_tableInsert (v1 : Int32) (s : S) (o : Int32 × S) (hf : k_tableInsert v1 s = some o) : Call PP m28 [.ref 1, .int v1] (none, [(11, s)]) (some (.int o.1), (none, [(11, o.2)])) := call_of_go pl_0 rfl (fun h => nomatch h) (k_tableInsert_ok v1 s   _ hf)
set_option maxRecDepth 65536 in
set_option maxHeartbeats 4000000 in
theorem k_rebuildTable_6_ok  : ∀ (n : Nat) (v1 : Int32) (s : S)  (o : S), k_rebuildTable_6 n v1 s = some o → Go PP m29 6 [.val (.ref 1), .val (.int v1)] [] (none, [(11, s)]) (none, (none, [(11, o)])) := by
  intro n
  induction n with
  | zero => intro v1 s o hf; exact nomatch hf
  | succ n ih =>
    intro v1 s o hf
    unfold k_rebuildTable_6 at hf
    refine go_iloadN (pc := 6) d29_6 rfl (go_aloadN (pc := 7) d29_7 rfl (go_getI (pc := 8) fs_48 hm_29 d29_8 ?_))
    by_cases h1 : v1 < (gI s 0)
    · replace hf := (if_pos h1).symm.trans hf
      refine go_icN (pc := 11) d29_11 (XT.ii_ge_f h1) ?_
      refine go_aloadN (pc := 14) d29_14 rfl (go_getA (pc := 15) fa_7 hm_29 d29_15 rfl (go_iloadN (pc := 18) d29_18 rfl ?_))
      obtain ⟨a19, e2, hf⟩ := Option.bind_eq_some_iff.mp hf
      refine go_baload (pc := 19) (q := 0) ar_0 (by decide) rfl e2 d29_19 ?_
      by_cases h3 : a19 = 0
      · replace hf := (if_pos h3).symm.trans hf
        refine go_ifY (pc := 20) (pc' := 38) d29_20 (XT.i0_eq_t h3) j_20_18 ?_
        refine go_iinc (pc := 38) (L' := [.val (.ref 1), .val (.int (v1 + (1 : Int32)))]) d29_38 rfl ci_1 rfl (go_goto (pc := 41) (pc' := 6) d29_41 j_41_m35 ?_)
        exact ih (v1 + (1 : Int32)) s _ hf
      · replace hf := (if_neg h3).symm.trans hf
        refine go_ifN (pc := 20) d29_20 (XT.i0_eq_f h3) ?_
        refine go_aloadN (pc := 23) d29_23 rfl (go_getA (pc := 24) fa_17 hm_29 d29_24 rfl (go_iloadN (pc := 27) d29_27 rfl ?_))
        obtain ⟨a28, e4, hf⟩ := Option.bind_eq_some_iff.mp hf
        refine go_iaload (pc := 28) (q := 2) ar_2 rfl e4 d29_28 ?_
        by_cases h5 : a28 = 0
        · replace hf := (if_pos h5).symm.trans hf
          refine go_ifN (pc := 29) d29_29 (XT.i0_ne_f h5) ?_
          refine go_aloadN (pc := 32) d29_32 rfl (go_iloadN (pc := 33) d29_33 rfl ?_)
          obtain ⟨r34, e6, hf⟩ := Option.bind_eq_some_iff.mp hf
          refine go_priv (pc := 34) (i := 0) (as := [.int v1]) (rest := []) (w' := (none, [(11, r34.2)])) lk_0_162 pd_28 rfl oid_0 rfl rfl rfl rfl rfl rfl ⟨rfl, rfl, rfl, rfl, rfl⟩ d29_34 (c_k_tableInsert v1 s _ e6) ?_
          refine go_pop (pc := 37) d29_37 (go_iinc (pc := 38) (L' := [.val (.ref 1), .val (.int (v1 + (1 : Int32)))]) d29_38 rfl ci_1 rfl (go_goto (pc := 41) (pc' := 6) d29_41 j_41_m35 ?_))
          exact ih (v1 + (1 : Int32)) r34.2 _ hf
        · replace hf := (if_neg h5).symm.trans hf
          refine go_ifY (pc := 29) (pc' := 38) d29_29 (XT.i0_ne_t h5) j_29_9 ?_
          refine go_iinc (pc := 38) (L' := [.val (.ref 1), .val (.int (v1 + (1 : Int32)))]) d29_38 rfl ci_1 rfl (go_goto (pc := 41) (pc' := 6) d29_41 j_41_m35 ?_)
          exact ih (v1 + (1 : Int32)) s _ hf
    · replace hf := (if_neg h1).symm.trans hf
      refine go_icY (pc := 11) (pc' := 44) d29_11 (XT.ii_ge_t h1) j_11_33 ?_
      cases hf
      exact go_ret (pc := 44) rfl d29_44
set_option maxRecDepth 65536 in
set_option maxHeartbeats 4000000 in
theorem k_rebuildTable_ok  : ∀  (s : S)  (o : S), k_rebuildTable s = some o → Go PP m29 0 [.val (.ref 1), .unset] [] (none, [(11, s)]) (none, (none, [(11, o)])) := by
  intro s o hf
  unfold k_rebuildTable at hf
  refine go_aloadN (pc := 0) d29_0 rfl ?_
  obtain ⟨r1, e1, hf⟩ := Option.bind_eq_some_iff.mp hf
  refine go_priv (pc := 1) (i := 0) (as := []) (rest := []) (w' := (none, [(11, r1)])) lk_0_67 pd_4 rfl oid_0 rfl rfl rfl rfl rfl rfl ⟨rfl, rfl, rfl, rfl, rfl⟩ d29_1 (c_k_resetTable s _ e1) ?_
  refine go_iconst (pc := 4) d29_4 ci_0 (go_istoreN (pc := 5) (L' := [.val (.ref 1), .val (.int (0 : Int32))]) d29_5 rfl ?_)
  exact k_rebuildTable_6_ok BIG (0 : Int32) r1 _ hf
theorem c_k_rebuildTable (s : S) (o : S) (hf : k_rebuildTable s = some o) : Call PP m29 [.ref 1] (none, [(11, s)]) (none, (none, [(11, o)])) := call_of_go pl_0 rfl (fun _ => rfl) (k_rebuildTable_ok s   _ hf)
set_option maxRecDepth 65536 in
set_option maxHeartbeats 4000000 in
theorem k_runReconciliation_ok  : ∀  (s : S)  (o : Int32 × S), k_runReconciliation s = some o → Go PP m30 0 [.val (.ref 1), .unset] [] (none, [(11, s)]) (some (.int o.1), (none, [(11, o.2)])) := by
  intro s o hf
  unfold k_runReconciliation at hf
  refine go_aloadN (pc := 0) d30_0 rfl (go_aloadN (pc := 1) d30_1 rfl (go_getI (pc := 2) fs_73 hm_30 d30_2 (go_iconst (pc := 5) d30_5 ci_1 (go_iadd (pc := 6) d30_6 (go_putI (pc := 7) fs_73 hm_30 (wr_8 _) hn_30 d30_7 (go_aloadN (pc := 10) d30_10 rfl ?_))))))
  obtain ⟨r11, e1, hf⟩ := Option.bind_eq_some_iff.mp hf
  refine go_priv (pc := 11) (i := 0) (as := []) (rest := []) (w' := (none, [(11, r11)])) lk_0_177 pd_12 rfl oid_0 rfl rfl rfl rfl rfl rfl ⟨rfl, rfl, rfl, rfl, rfl⟩ d30_11 (c_k_markRootHeld (sI s 8 ((gI s 8) + (1 : Int32))) _ e1) ?_
  refine go_aloadN (pc := 14) d30_14 rfl ?_
  obtain ⟨r15, e2, hf⟩ := Option.bind_eq_some_iff.mp hf
  refine go_priv (pc := 15) (i := 0) (as := []) (rest := []) (w' := (none, [(11, r15)])) lk_0_180 pd_17 rfl oid_0 rfl rfl rfl rfl rfl rfl ⟨rfl, rfl, rfl, rfl, rfl⟩ d30_15 (c_k_countHolders r11 _ e2) ?_
  refine go_aloadN (pc := 18) d30_18 rfl ?_
  obtain ⟨r19, e3, hf⟩ := Option.bind_eq_some_iff.mp hf
  refine go_priv (pc := 19) (i := 0) (as := []) (rest := []) (w' := (none, [(11, r19)])) lk_0_183 pd_20 rfl oid_0 rfl rfl rfl rfl rfl rfl ⟨rfl, rfl, rfl, rfl, rfl⟩ d30_19 (c_k_seedWork r15 _ e3) ?_
  refine go_aloadN (pc := 22) d30_22 rfl ?_
  obtain ⟨r23, e4, hf⟩ := Option.bind_eq_some_iff.mp hf
  refine go_priv (pc := 23) (i := 0) (as := []) (rest := []) (w' := (none, [(11, r23)])) lk_0_186 pd_22 rfl oid_0 rfl rfl rfl rfl rfl rfl ⟨rfl, rfl, rfl, rfl, rfl⟩ d30_23 (c_k_cascade r19 _ e4) ?_
  refine go_aloadN (pc := 26) d30_26 rfl ?_
  obtain ⟨r27, e5, hf⟩ := Option.bind_eq_some_iff.mp hf
  refine go_priv (pc := 27) (i := 0) (as := []) (rest := []) (w' := (none, [(11, r27.2)])) lk_0_189 pd_24 rfl oid_0 rfl rfl rfl rfl rfl rfl ⟨rfl, rfl, rfl, rfl, rfl⟩ d30_27 (c_k_sweep r23 _ e5) ?_
  refine go_istoreN (pc := 30) (L' := [.val (.ref 1), .val (.int r27.1)]) d30_30 rfl (go_aloadN (pc := 31) d30_31 rfl ?_)
  obtain ⟨r32, e6, hf⟩ := Option.bind_eq_some_iff.mp hf
  refine go_priv (pc := 32) (i := 0) (as := []) (rest := []) (w' := (none, [(11, r32)])) lk_0_192 pd_27 rfl oid_0 rfl rfl rfl rfl rfl rfl ⟨rfl, rfl, rfl, rfl, rfl⟩ d30_32 (c_k_recountRefs r27.2 _ e6) ?_
  refine go_aloadN (pc := 35) d30_35 rfl ?_
  obtain ⟨r36, e7, hf⟩ := Option.bind_eq_some_iff.mp hf
  refine go_priv (pc := 36) (i := 0) (as := []) (rest := []) (w' := (none, [(11, r36)])) lk_0_195 pd_29 rfl oid_0 rfl rfl rfl rfl rfl rfl ⟨rfl, rfl, rfl, rfl, rfl⟩ d30_36 (c_k_rebuildTable r32 _ e7) ?_
  refine go_iloadN (pc := 39) d30_39 rfl ?_
  cases hf
  exact go_iret (pc := 40) rfl d30_40
theorem c_k_runReconciliation (s : S) (o : Int32 × S) (hf : k_runReconciliation s = some o) : Call PP m30 [.ref 1] (none, [(11, s)]) (some (.int o.1), (none, [(11, o.2)])) := call_of_go pl_0 rfl (fun h => nomatch h) (k_runReconciliation_ok s   _ hf)
set_option maxRecDepth 65536 in
set_option maxHeartbeats 4000000 in
theorem k_lowestFreeCell_2_ok  : ∀ (n : Nat) (v1 : Int32) (s : S)  (o : Int32), k_lowestFreeCell_2 n v1 s = some o → Go PP m31 2 [.val (.ref 1), .val (.int v1)] [] (none, [(11, s)]) (some (.int o), (none, [(11, s)])) := by
  intro n
  induction n with
  | zero => intro v1 s o hf; exact nomatch hf
  | succ n ih =>
    intro v1 s o hf
    unfold k_lowestFreeCell_2 at hf
    refine go_iloadN (pc := 2) d31_2 rfl (go_aloadN (pc := 3) d31_3 rfl (go_getI (pc := 4) fs_48 hm_31 d31_4 ?_))
    by_cases h1 : v1 < (gI s 0)
    · replace hf := (if_pos h1).symm.trans hf
      refine go_icN (pc := 7) d31_7 (XT.ii_ge_f h1) ?_
      refine go_aloadN (pc := 10) d31_10 rfl (go_getA (pc := 11) fa_7 hm_31 d31_11 rfl (go_iloadN (pc := 14) d31_14 rfl ?_))
      obtain ⟨a15, e2, hf⟩ := Option.bind_eq_some_iff.mp hf
      refine go_baload (pc := 15) (q := 0) ar_0 (by decide) rfl e2 d31_15 ?_
      by_cases h3 : a15 = 0
      · replace hf := (if_pos h3).symm.trans hf
        refine go_ifN (pc := 16) d31_16 (XT.i0_ne_f h3) ?_
        refine go_iloadN (pc := 19) d31_19 rfl ?_
        cases hf
        exact go_iret (pc := 20) rfl d31_20
      · replace hf := (if_neg h3).symm.trans hf
        refine go_ifY (pc := 16) (pc' := 21) d31_16 (XT.i0_ne_t h3) j_16_5 ?_
        refine go_iinc (pc := 21) (L' := [.val (.ref 1), .val (.int (v1 + (1 : Int32)))]) d31_21 rfl ci_1 rfl (go_goto (pc := 24) (pc' := 2) d31_24 j_24_m22 ?_)
        exact ih (v1 + (1 : Int32)) s _ hf
    · replace hf := (if_neg h1).symm.trans hf
      refine go_icY (pc := 7) (pc' := 27) d31_7 (XT.ii_ge_t h1) j_7_20 ?_
      refine go_iconst (pc := 27) d31_27 ci_m1 ?_
      cases hf
      exact go_iret (pc := 28) rfl d31_28
set_option maxRecDepth 65536 in
set_option maxHeartbeats 4000000 in
theorem k_lowestFreeCell_ok  : ∀  (s : S)  (o : Int32), k_lowestFreeCell s = some o → Go PP m31 0 [.val (.ref 1), .unset] [] (none, [(11, s)]) (some (.int o), (none, [(11, s)])) := by
  intro s o hf
  unfold k_lowestFreeCell at hf
  refine go_iconst (pc := 0) d31_0 ci_0 (go_istoreN (pc := 1) (L' := [.val (.ref 1), .val (.int (0 : Int32))]) d31_1 rfl ?_)
  exact k_lowestFreeCell_2_ok BIG (0 : Int32) s _ hf
theorem c_k_lowestFreeCell (s : S) (o : Int32) (hf : k_lowestFreeCell s = some o) : Call PP m31 [.ref 1] (none, [(11, s)]) (some (.int o), (none, [(11, s)])) := call_of_go pl_0 rfl (fun h => nomatch h) (k_lowestFreeCell_ok s   _ hf)
set_option maxRecDepth 65536 in
set_option maxHeartbeats 4000000 in
theorem k_bringToLife_ok  : ∀ (v1 : Int32) (s : S)  (o : S), k_bringToLife v1 s = some o → Go PP m32 0 [.val (.ref 1), .val (.int v1)] [] (none, [(11, s)]) (none, (none, [(11, o)])) := by
  intro v1 s o hf
  unfold k_bringToLife at hf
  refine go_aloadN (pc := 0) d32_0 rfl (go_iloadN (pc := 1) d32_1 rfl ?_)
  refine go_priv (pc := 2) (i := 0) (as := [.int v1]) (rest := []) (w' := (none, [(11, s)])) lk_0_165 pd_11 rfl oid_0 rfl rfl rfl rfl rfl rfl ⟨rfl, rfl, rfl, rfl, rfl⟩ d32_2 (c_k_isObjectId v1 s) ?_
  by_cases h1 : (k_isObjectId v1 s) = 0
  · replace hf := (if_pos h1).symm.trans hf
    refine go_ifN (pc := 5) d32_5 (XT.i0_ne_f h1) ?_
    cases hf
    exact go_ret (pc := 8) rfl d32_8
  · replace hf := (if_neg h1).symm.trans hf
    refine go_ifY (pc := 5) (pc' := 9) d32_5 (XT.i0_ne_t h1) j_5_4 ?_
    refine go_aloadN (pc := 9) d32_9 rfl (go_getA (pc := 10) fa_7 hm_32 d32_10 rfl (go_iloadN (pc := 13) d32_13 rfl ?_))
    obtain ⟨a14, e2, hf⟩ := Option.bind_eq_some_iff.mp hf
    refine go_baload (pc := 14) (q := 0) ar_0 (by decide) rfl e2 d32_14 ?_
    by_cases h3 : a14 = 0
    · replace hf := (if_pos h3).symm.trans hf
      refine go_ifY (pc := 15) (pc' := 19) d32_15 (XT.i0_eq_t h3) j_15_4 ?_
      refine go_aloadN (pc := 19) d32_19 rfl (go_getA (pc := 20) fa_7 hm_32 d32_20 rfl (go_iloadN (pc := 23) d32_23 rfl (go_iconst (pc := 24) d32_24 ci_1 ?_)))
      obtain ⟨a25, e4, hf⟩ := Option.bind_eq_some_iff.mp hf
      refine go_bastore (pc := 25) (q := 0) ar_0 (by decide) rfl hn_32 (by decide) e4 d32_25 ?_
      refine go_aloadN (pc := 26) d32_26 rfl (go_iloadN (pc := 27) d32_27 rfl ?_)
      obtain ⟨r28, e5, hf⟩ := Option.bind_eq_some_iff.mp hf
      refine go_priv (pc := 28) (i := 0) (as := [.int v1]) (rest := []) (w' := (none, [(11, r28)])) lk_0_219 pd_1 rfl oid_0 rfl rfl rfl rfl rfl rfl ⟨rfl, rfl, rfl, rfl, rfl⟩ d32_28 (c_k_clearCellFields v1 (sA s 0 a25) _ e5) ?_
      refine go_aloadN (pc := 31) d32_31 rfl (go_getA (pc := 32) fa_17 hm_32 d32_32 rfl (go_iloadN (pc := 35) d32_35 rfl (go_iconst (pc := 36) d32_36 ci_0 ?_)))
      obtain ⟨a37, e6, hf⟩ := Option.bind_eq_some_iff.mp hf
      refine go_iastore (pc := 37) (q := 2) ar_2 rfl hn_32 e6 d32_37 ?_
      refine go_aloadN (pc := 38) d32_38 rfl (go_aloadN (pc := 39) d32_39 rfl (go_getI (pc := 40) fs_147 hm_32 d32_40 (go_iconst (pc := 43) d32_43 ci_1 (go_iadd (pc := 44) d32_44 (go_putI (pc := 45) fs_147 hm_32 (wr_4 _) hn_32 d32_45 ?_)))))
      cases hf
      exact go_ret (pc := 48) rfl d32_48
    · replace hf := (if_neg h3).symm.trans hf
      refine go_ifN (pc := 15) d32_15 (XT.i0_eq_f h3) ?_
      cases hf
      exact go_ret (pc := 18) rfl d32_18
theorem c_k_bringToLife (v1 : Int32) (s : S) (o : S) (hf : k_bringToLife v1 s = some o) : Call PP m32 [.ref 1, .int v1] (none, [(11, s)]) (none, (none, [(11, o)])) := call_of_go pl_0 rfl (fun _ => rfl) (k_bringToLife_ok v1 s   _ hf)
set_option maxRecDepth 65536 in
set_option maxHeartbeats 4000000 in
theorem k_rootPush_ok  : ∀ (v1 : Int32) (s : S)  (o : S), k_rootPush v1 s = some o → Go PP m33 0 [.val (.ref 1), .val (.int v1)] [] (none, [(11, s)]) (none, (none, [(11, o)])) := by
  intro v1 s o hf
  unfold k_rootPush at hf
  refine go_aloadN (pc := 0) d33_0 rfl (go_getI (pc := 1) fs_125 hm_33 d33_1 (go_aloadN (pc := 4) d33_4 rfl (go_getI (pc := 5) fs_55 hm_33 d33_5 ?_)))
  by_cases h1 : (gI s 5) < (gI s 2)
  · replace hf := (if_pos h1).symm.trans hf
    refine go_icN (pc := 8) d33_8 (XT.ii_ge_f h1) ?_
    refine go_aloadN (pc := 11) d33_11 rfl (go_getI (pc := 12) fs_125 hm_33 d33_12 (go_bipush (pc := 15) d33_15 cb_16 ?_))
    by_cases h2 : (gI s 5) < (16 : Int32)
    · replace hf := (if_pos h2).symm.trans hf
      refine go_icY (pc := 17) (pc' := 21) d33_17 (XT.ii_lt_t h2) j_17_4 ?_
      refine go_aloadN (pc := 21) d33_21 rfl (go_getA (pc := 22) fa_20 hm_33 d33_22 rfl (go_aloadN (pc := 25) d33_25 rfl (go_getI (pc := 26) fs_125 hm_33 d33_26 (go_iloadN (pc := 29) d33_29 rfl ?_))))
      obtain ⟨a30, e3, hf⟩ := Option.bind_eq_some_iff.mp hf
      refine go_iastore (pc := 30) (q := 3) ar_3 rfl hn_33 e3 d33_30 ?_
      refine go_aloadN (pc := 31) d33_31 rfl (go_aloadN (pc := 32) d33_32 rfl (go_getI (pc := 33) fs_125 hm_33 d33_33 (go_iconst (pc := 36) d33_36 ci_1 (go_iadd (pc := 37) d33_37 (go_putI (pc := 38) fs_125 hm_33 (wr_5 _) hn_33 d33_38 ?_)))))
      cases hf
      exact go_ret (pc := 41) rfl d33_41
    · replace hf := (if_neg h2).symm.trans hf
      refine go_icN (pc := 17) d33_17 (XT.ii_lt_f h2) ?_
      cases hf
      exact go_ret (pc := 20) rfl d33_20
  · replace hf := (if_neg h1).symm.trans hf
    refine go_icY (pc := 8) (pc' := 20) d33_8 (XT.ii_ge_t h1) j_8_12 ?_
    cases hf
    exact go_ret (pc := 20) rfl d33_20
theorem c_k_rootPush (v1 : Int32) (s : S) (o : S) (hf : k_rootPush v1 s = some o) : Call PP m33 [.ref 1, .int v1] (none, [(11, s)]) (none, (none, [(11, o)])) := call_of_go pl_0 rfl (fun _ => rfl) (k_rootPush_ok v1 s   _ hf)
set_option maxRecDepth 65536 in
set_option maxHeartbeats 4000000 in
theorem k_placeNewObject_ok  : ∀ (v1 : Int32) (s : S)  (o : S), k_placeNewObject v1 s = some o → Go PP m34 0 [.val (.ref 1), .val (.int v1)] [] (none, [(11, s)]) (none, (none, [(11, o)])) := by
  intro v1 s o hf
  unfold k_placeNewObject at hf
  refine go_aloadN (pc := 0) d34_0 rfl (go_iloadN (pc := 1) d34_1 rfl ?_)
  obtain ⟨r2, e1, hf⟩ := Option.bind_eq_some_iff.mp hf
  refine go_priv (pc := 2) (i := 0) (as := [.int v1]) (rest := []) (w' := (none, [(11, r2)])) lk_0_159 pd_32 rfl oid_0 rfl rfl rfl rfl rfl rfl ⟨rfl, rfl, rfl, rfl, rfl⟩ d34_2 (c_k_bringToLife v1 s _ e1) ?_
  refine go_aloadN (pc := 5) d34_5 rfl (go_iloadN (pc := 6) d34_6 rfl ?_)
  obtain ⟨r7, e2, hf⟩ := Option.bind_eq_some_iff.mp hf
  refine go_priv (pc := 7) (i := 0) (as := [.int v1]) (rest := []) (w' := (none, [(11, r7.2)])) lk_0_162 pd_28 rfl oid_0 rfl rfl rfl rfl rfl rfl ⟨rfl, rfl, rfl, rfl, rfl⟩ d34_7 (c_k_tableInsert v1 r2 _ e2) ?_
  refine go_pop (pc := 10) d34_10 (go_aloadN (pc := 11) d34_11 rfl (go_iloadN (pc := 12) d34_12 rfl ?_))
  obtain ⟨r13, e3, hf⟩ := Option.bind_eq_some_iff.mp hf
  refine go_priv (pc := 13) (i := 0) (as := [.int v1]) (rest := []) (w' := (none, [(11, r13)])) lk_0_101 pd_33 rfl oid_0 rfl rfl rfl rfl rfl rfl ⟨rfl, rfl, rfl, rfl, rfl⟩ d34_13 (c_k_rootPush v1 r7.2 _ e3) ?_
  cases hf
  exact go_ret (pc := 16) rfl d34_16
theorem c_k_placeNewObject (v1 : Int32) (s : S) (o : S) (hf : k_placeNewObject v1 s = some o) : Call PP m34 [.ref 1, .int v1] (none, [(11, s)]) (none, (none, [(11, o)])) := call_of_go pl_0 rfl (fun _ => rfl) (k_placeNewObject_ok v1 s   _ hf)
set_option maxRecDepth 65536 in
set_option maxHeartbeats 4000000 in
theorem k_alloc_22_ok  : ∀  (s : S)  (o : Int32 × S), k_alloc_22 s = some o → Go PP m35 22 [.val (.ref 1), .unset] [] (none, [(11, s)]) (some (.int o.1), (none, [(11, o.2)])) := by
  intro s o hf
  unfold k_alloc_22 at hf
  refine go_aloadN (pc := 22) d35_22 rfl ?_
  obtain ⟨r23, e1, hf⟩ := Option.bind_eq_some_iff.mp hf
  refine go_priv (pc := 23) (i := 0) (as := []) (rest := []) (w' := (none, [(11, s)])) lk_0_87 pd_31 rfl oid_0 rfl rfl rfl rfl rfl rfl ⟨rfl, rfl, rfl, rfl, rfl⟩ d35_23 (c_k_lowestFreeCell s _ e1) ?_
  refine go_istoreN (pc := 26) (L' := [.val (.ref 1), .val (.int r23)]) d35_26 rfl (go_iloadN (pc := 27) d35_27 rfl (go_iconst (pc := 28) d35_28 ci_m1 ?_))
  by_cases h2 : r23 = (-1 : Int32)
  · replace hf := (if_pos h2).symm.trans hf
    refine go_icN (pc := 29) d35_29 (XT.ii_ne_f h2) ?_
    refine go_bipush (pc := 32) d35_32 cb_m4 ?_
    cases hf
    exact go_iret (pc := 34) rfl d35_34
  · replace hf := (if_neg h2).symm.trans hf
    refine go_icY (pc := 29) (pc' := 35) d35_29 (XT.ii_ne_t h2) j_29_6 ?_
    refine go_aloadN (pc := 35) d35_35 rfl (go_iloadN (pc := 36) d35_36 rfl ?_)
    obtain ⟨r37, e3, hf⟩ := Option.bind_eq_some_iff.mp hf
    refine go_priv (pc := 37) (i := 0) (as := [.int r23]) (rest := []) (w' := (none, [(11, r37)])) lk_0_90 pd_34 rfl oid_0 rfl rfl rfl rfl rfl rfl ⟨rfl, rfl, rfl, rfl, rfl⟩ d35_37 (c_k_placeNewObject r23 s _ e3) ?_
    refine go_iloadN (pc := 40) d35_40 rfl ?_
    cases hf
    exact go_iret (pc := 41) rfl d35_41
set_option maxRecDepth 65536 in
set_option maxHeartbeats 4000000 in
theorem k_alloc_ok  : ∀  (s : S)  (o : Int32 × S), k_alloc s = some o → Go PP m35 0 [.val (.ref 1), .unset] [] (none, [(11, s)]) (some (.int o.1), (none, [(11, o.2)])) := by
  intro s o hf
  unfold k_alloc at hf
  refine go_aloadN (pc := 0) d35_0 rfl ?_
  refine go_priv (pc := 1) (i := 0) (as := []) (rest := []) (w' := (none, [(11, s)])) lk_0_76 pd_7 rfl oid_0 rfl rfl rfl rfl rfl rfl ⟨rfl, rfl, rfl, rfl, rfl⟩ d35_1 (c_k_rootsFull s) ?_
  by_cases h1 : (k_rootsFull s) = 0
  · replace hf := (if_pos h1).symm.trans hf
    refine go_ifY (pc := 4) (pc' := 10) d35_4 (XT.i0_eq_t h1) j_4_6 ?_
    refine go_aloadN (pc := 10) d35_10 rfl ?_
    refine go_priv (pc := 11) (i := 0) (as := []) (rest := []) (w' := (none, [(11, s)])) lk_0_80 pd_10 rfl oid_0 rfl rfl rfl rfl rfl rfl ⟨rfl, rfl, rfl, rfl, rfl⟩ d35_11 (c_k_allocNeedsReconcile s) ?_
    by_cases h2 : (k_allocNeedsReconcile s) = 0
    · replace hf := (if_pos h2).symm.trans hf
      refine go_ifY (pc := 14) (pc' := 22) d35_14 (XT.i0_eq_t h2) j_14_8 ?_
      exact k_alloc_22_ok s _ hf
    · replace hf := (if_neg h2).symm.trans hf
      refine go_ifN (pc := 14) d35_14 (XT.i0_eq_f h2) ?_
      refine go_aloadN (pc := 17) d35_17 rfl ?_
      obtain ⟨r18, e3, hf⟩ := Option.bind_eq_some_iff.mp hf
      refine go_priv (pc := 18) (i := 0) (as := []) (rest := []) (w' := (none, [(11, r18.2)])) lk_0_83 pd_30 rfl oid_0 rfl rfl rfl rfl rfl rfl ⟨rfl, rfl, rfl, rfl, rfl⟩ d35_18 (c_k_runReconciliation s _ e3) ?_
      refine go_pop (pc := 21) d35_21 ?_
      exact k_alloc_22_ok r18.2 _ hf
  · replace hf := (if_neg h1).symm.trans hf
    refine go_ifN (pc := 4) d35_4 (XT.i0_eq_f h1) ?_
    refine go_bipush (pc := 7) d35_7 cb_m2 ?_
    cases hf
    exact go_iret (pc := 9) rfl d35_9
theorem c_k_alloc (s : S) (o : Int32 × S) (hf : k_alloc s = some o) : Call PP m35 [.ref 1] (none, [(11, s)]) (some (.int o.1), (none, [(11, o.2)])) := call_of_go pl_0 rfl (fun h => nomatch h) (k_alloc_ok s   _ hf)
set_option maxRecDepth 65536 in
set_option maxHeartbeats 4000000 in
theorem k_isRootSlot_ok  : ∀ (v1 : Int32) (s : S)  (o : Int32), k_isRootSlot v1 s = o → Go PP m36 0 [.val (.ref 1), .val (.int v1)] [] (none, [(11, s)]) (some (.int o), (none, [(11, s)])) := by
  intro v1 s o hf
  unfold k_isRootSlot at hf
  refine go_iloadN (pc := 0) d36_0 rfl ?_
  by_cases h1 : v1 < 0
  · replace hf := (if_pos h1).symm.trans hf
    refine go_ifY (pc := 1) (pc' := 16) d36_1 (XT.i0_lt_t h1) j_1_15 ?_
    refine go_iconst (pc := 16) d36_16 ci_0 ?_
    cases hf
    exact go_zret (pc := 17) rfl d36_17 (show (0 : Int32) = nar .boolean (0 : Int32) by decide)
  · replace hf := (if_neg h1).symm.trans hf
    refine go_ifN (pc := 1) d36_1 (XT.i0_lt_f h1) ?_
    refine go_iloadN (pc := 4) d36_4 rfl (go_aloadN (pc := 5) d36_5 rfl (go_getI (pc := 6) fs_125 hm_36 d36_6 ?_))
    by_cases h2 : v1 < (gI s 5)
    · replace hf := (if_pos h2).symm.trans hf
      refine go_icN (pc := 9) d36_9 (XT.ii_ge_f h2) ?_
      refine go_iconst (pc := 12) d36_12 ci_1 (go_goto (pc := 13) (pc' := 17) d36_13 j_13_4 ?_)
      cases hf
      exact go_zret (pc := 17) rfl d36_17 (show (1 : Int32) = nar .boolean (1 : Int32) by decide)
    · replace hf := (if_neg h2).symm.trans hf
      refine go_icY (pc := 9) (pc' := 16) d36_9 (XT.ii_ge_t h2) j_9_7 ?_
      refine go_iconst (pc := 16) d36_16 ci_0 ?_
      cases hf
      exact go_zret (pc := 17) rfl d36_17 (show (0 : Int32) = nar .boolean (0 : Int32) by decide)
theorem c_k_isRootSlot (v1 : Int32) (s : S) : Call PP m36 [.ref 1, .int v1] (none, [(11, s)]) (some (.int (k_isRootSlot v1 s)), (none, [(11, s)])) := call_of_go pl_0 rfl (fun h => nomatch h) (k_isRootSlot_ok v1 s   _ rfl)
set_option maxRecDepth 65536 in
set_option maxHeartbeats 4000000 in
theorem k_isValueSlot_ok  : ∀ (v1 : Int32) (s : S)  (o : Int32), k_isValueSlot v1 s = o → Go PP m37 0 [.val (.ref 1), .val (.int v1)] [] (none, [(11, s)]) (some (.int o), (none, [(11, s)])) := by
  intro v1 s o hf
  unfold k_isValueSlot at hf
  refine go_iloadN (pc := 0) d37_0 rfl (go_iconst (pc := 1) d37_1 ci_m1 ?_)
  by_cases h1 : v1 = (-1 : Int32)
  · replace hf := (if_pos h1).symm.trans hf
    refine go_icN (pc := 2) d37_2 (XT.ii_ne_f h1) ?_
    refine go_iconst (pc := 5) d37_5 ci_1 ?_
    cases hf
    exact go_zret (pc := 6) rfl d37_6 (show (1 : Int32) = nar .boolean (1 : Int32) by decide)
  · replace hf := (if_neg h1).symm.trans hf
    refine go_icY (pc := 2) (pc' := 7) d37_2 (XT.ii_ne_t h1) j_2_5 ?_
    refine go_aloadN (pc := 7) d37_7 rfl (go_iloadN (pc := 8) d37_8 rfl ?_)
    refine go_priv (pc := 9) (i := 0) (as := [.int v1]) (rest := []) (w' := (none, [(11, s)])) lk_0_131 pd_36 rfl oid_0 rfl rfl rfl rfl rfl rfl ⟨rfl, rfl, rfl, rfl, rfl⟩ d37_9 (c_k_isRootSlot v1 s) ?_
    cases hf
    exact go_zret (pc := 12) rfl d37_12 rfl
theorem c_k_isValueSlot (v1 : Int32) (s : S) : Call PP m37 [.ref 1, .int v1] (none, [(11, s)]) (some (.int (k_isValueSlot v1 s)), (none, [(11, s)])) := call_of_go pl_0 rfl (fun h => nomatch h) (k_isValueSlot_ok v1 s   _ rfl)
set_option maxRecDepth 65536 in
set_option maxHeartbeats 4000000 in
theorem k_storeCheck_ok  : ∀ (v1 : Int32) (v2 : Int32) (v3 : Int32) (s : S)  (o : Int32), k_storeCheck v1 v2 v3 s = some o → Go PP m38 0 [.val (.ref 1), .val (.int v1), .val (.int v2), .val (.int v3)] [] (none, [(11, s)]) (some (.int o), (none, [(11, s)])) := by
  intro v1 v2 v3 s o hf
  unfold k_storeCheck at hf
  refine go_aloadN (pc := 0) d38_0 rfl (go_iloadN (pc := 1) d38_1 rfl ?_)
  refine go_priv (pc := 2) (i := 0) (as := [.int v1]) (rest := []) (w' := (none, [(11, s)])) lk_0_131 pd_36 rfl oid_0 rfl rfl rfl rfl rfl rfl ⟨rfl, rfl, rfl, rfl, rfl⟩ d38_2 (c_k_isRootSlot v1 s) ?_
  by_cases h1 : (k_isRootSlot v1 s) = 0
  · replace hf := (if_pos h1).symm.trans hf
    refine go_ifN (pc := 5) d38_5 (XT.i0_ne_f h1) ?_
    refine go_bipush (pc := 8) d38_8 cb_m5 ?_
    cases hf
    exact go_iret (pc := 10) rfl d38_10
  · replace hf := (if_neg h1).symm.trans hf
    refine go_ifY (pc := 5) (pc' := 11) d38_5 (XT.i0_ne_t h1) j_5_6 ?_
    refine go_aloadN (pc := 11) d38_11 rfl (go_iloadN (pc := 12) d38_12 rfl ?_)
    refine go_priv (pc := 13) (i := 0) (as := [.int v2]) (rest := []) (w' := (none, [(11, s)])) lk_0_138 pd_13 rfl oid_0 rfl rfl rfl rfl rfl rfl ⟨rfl, rfl, rfl, rfl, rfl⟩ d38_13 (c_k_isFieldNo v2 s) ?_
    by_cases h2 : (k_isFieldNo v2 s) = 0
    · replace hf := (if_pos h2).symm.trans hf
      refine go_ifN (pc := 16) d38_16 (XT.i0_ne_f h2) ?_
      refine go_bipush (pc := 19) d38_19 cb_m6 ?_
      cases hf
      exact go_iret (pc := 21) rfl d38_21
    · replace hf := (if_neg h2).symm.trans hf
      refine go_ifY (pc := 16) (pc' := 22) d38_16 (XT.i0_ne_t h2) j_16_6 ?_
      refine go_aloadN (pc := 22) d38_22 rfl (go_iloadN (pc := 23) d38_23 rfl ?_)
      refine go_priv (pc := 24) (i := 0) (as := [.int v3]) (rest := []) (w' := (none, [(11, s)])) lk_0_150 pd_37 rfl oid_0 rfl rfl rfl rfl rfl rfl ⟨rfl, rfl, rfl, rfl, rfl⟩ d38_24 (c_k_isValueSlot v3 s) ?_
      by_cases h3 : (k_isValueSlot v3 s) = 0
      · replace hf := (if_pos h3).symm.trans hf
        refine go_ifN (pc := 27) d38_27 (XT.i0_ne_f h3) ?_
        refine go_bipush (pc := 30) d38_30 cb_m5 ?_
        cases hf
        exact go_iret (pc := 32) rfl d38_32
      · replace hf := (if_neg h3).symm.trans hf
        refine go_ifY (pc := 27) (pc' := 33) d38_27 (XT.i0_ne_t h3) j_27_6 ?_
        refine go_aloadN (pc := 33) d38_33 rfl (go_getA (pc := 34) fa_20 hm_38 d38_34 rfl (go_iloadN (pc := 37) d38_37 rfl ?_))
        obtain ⟨a38, e4, hf⟩ := Option.bind_eq_some_iff.mp hf
        refine go_iaload (pc := 38) (q := 3) ar_3 rfl e4 d38_38 ?_
        refine go_iconst (pc := 39) d38_39 ci_m1 ?_
        by_cases h5 : a38 = (-1 : Int32)
        · replace hf := (if_pos h5).symm.trans hf
          refine go_icN (pc := 40) d38_40 (XT.ii_ne_f h5) ?_
          refine go_bipush (pc := 43) d38_43 cb_m7 ?_
          cases hf
          exact go_iret (pc := 45) rfl d38_45
        · replace hf := (if_neg h5).symm.trans hf
          refine go_icY (pc := 40) (pc' := 46) d38_40 (XT.ii_ne_t h5) j_40_6 ?_
          refine go_aloadN (pc := 46) d38_46 rfl (go_aloadN (pc := 47) d38_47 rfl (go_getA (pc := 48) fa_20 hm_38 d38_48 rfl (go_iloadN (pc := 51) d38_51 rfl ?_)))
          obtain ⟨a52, e6, hf⟩ := Option.bind_eq_some_iff.mp hf
          refine go_iaload (pc := 52) (q := 3) ar_3 rfl e6 d38_52 ?_
          obtain ⟨r53, e7, hf⟩ := Option.bind_eq_some_iff.mp hf
          refine go_priv (pc := 53) (i := 0) (as := [.int a52]) (rest := []) (w' := (none, [(11, s)])) lk_0_135 pd_15 rfl oid_0 rfl rfl rfl rfl rfl rfl ⟨rfl, rfl, rfl, rfl, rfl⟩ d38_53 (c_k_isLiveId a52 s _ e7) ?_
          by_cases h8 : r53 = 0
          · replace hf := (if_pos h8).symm.trans hf
            refine go_ifN (pc := 56) d38_56 (XT.i0_ne_f h8) ?_
            refine go_bipush (pc := 59) d38_59 cb_m7 ?_
            cases hf
            exact go_iret (pc := 61) rfl d38_61
          · replace hf := (if_neg h8).symm.trans hf
            refine go_ifY (pc := 56) (pc' := 62) d38_56 (XT.i0_ne_t h8) j_56_6 ?_
            refine go_iconst (pc := 62) d38_62 ci_0 ?_
            cases hf
            exact go_iret (pc := 63) rfl d38_63
theorem c_k_storeCheck (v1 : Int32) (v2 : Int32) (v3 : Int32) (s : S) (o : Int32) (hf : k_storeCheck v1 v2 v3 s = some o) : Call PP m38 [.ref 1, .int v1, .int v2, .int v3] (none, [(11, s)]) (some (.int o), (none, [(11, s)])) := call_of_go pl_0 rfl (fun h => nomatch h) (k_storeCheck_ok v1 v2 v3 s   _ hf)
set_option maxRecDepth 65536 in
set_option maxHeartbeats 4000000 in
theorem k_valueOfSlot_ok  : ∀ (v1 : Int32) (s : S)  (o : Int32), k_valueOfSlot v1 s = some o → Go PP m39 0 [.val (.ref 1), .val (.int v1)] [] (none, [(11, s)]) (some (.int o), (none, [(11, s)])) := by
  intro v1 s o hf
  unfold k_valueOfSlot at hf
  refine go_iloadN (pc := 0) d39_0 rfl (go_iconst (pc := 1) d39_1 ci_m1 ?_)
  by_cases h1 : v1 = (-1 : Int32)
  · replace hf := (if_pos h1).symm.trans hf
    refine go_icN (pc := 2) d39_2 (XT.ii_ne_f h1) ?_
    refine go_iconst (pc := 5) d39_5 ci_m1 ?_
    cases hf
    exact go_iret (pc := 6) rfl d39_6
  · replace hf := (if_neg h1).symm.trans hf
    refine go_icY (pc := 2) (pc' := 7) d39_2 (XT.ii_ne_t h1) j_2_5 ?_
    refine go_aloadN (pc := 7) d39_7 rfl (go_iloadN (pc := 8) d39_8 rfl ?_)
    refine go_priv (pc := 9) (i := 0) (as := [.int v1]) (rest := []) (w' := (none, [(11, s)])) lk_0_131 pd_36 rfl oid_0 rfl rfl rfl rfl rfl rfl ⟨rfl, rfl, rfl, rfl, rfl⟩ d39_9 (c_k_isRootSlot v1 s) ?_
    by_cases h2 : (k_isRootSlot v1 s) = 0
    · replace hf := (if_pos h2).symm.trans hf
      refine go_ifN (pc := 12) d39_12 (XT.i0_ne_f h2) ?_
      refine go_iconst (pc := 15) d39_15 ci_m1 ?_
      cases hf
      exact go_iret (pc := 16) rfl d39_16
    · replace hf := (if_neg h2).symm.trans hf
      refine go_ifY (pc := 12) (pc' := 17) d39_12 (XT.i0_ne_t h2) j_12_5 ?_
      refine go_aloadN (pc := 17) d39_17 rfl (go_getA (pc := 18) fa_20 hm_39 d39_18 rfl (go_iloadN (pc := 21) d39_21 rfl ?_))
      obtain ⟨a22, e3, hf⟩ := Option.bind_eq_some_iff.mp hf
      refine go_iaload (pc := 22) (q := 3) ar_3 rfl e3 d39_22 ?_
      cases hf
      exact go_iret (pc := 23) rfl d39_23
theorem c_k_valueOfSlot (v1 : Int32) (s : S) (o : Int32) (hf : k_valueOfSlot v1 s = some o) : Call PP m39 [.ref 1, .int v1] (none, [(11, s)]) (some (.int o), (none, [(11, s)])) := call_of_go pl_0 rfl (fun h => nomatch h) (k_valueOfSlot_ok v1 s   _ hf)
set_option maxRecDepth 65536 in
set_option maxHeartbeats 4000000 in
theorem k_tableHas_ok  : ∀ (v1 : Int32) (s : S)  (o : Int32), k_tableHas v1 s = some o → Go PP m40 0 [.val (.ref 1), .val (.int v1)] [] (none, [(11, s)]) (some (.int o), (none, [(11, s)])) := by
  intro v1 s o hf
  unfold k_tableHas at hf
  refine go_aloadN (pc := 0) d40_0 rfl (go_iloadN (pc := 1) d40_1 rfl ?_)
  refine go_priv (pc := 2) (i := 0) (as := [.int v1]) (rest := []) (w' := (none, [(11, s)])) lk_0_165 pd_11 rfl oid_0 rfl rfl rfl rfl rfl rfl ⟨rfl, rfl, rfl, rfl, rfl⟩ d40_2 (c_k_isObjectId v1 s) ?_
  by_cases h1 : (k_isObjectId v1 s) = 0
  · replace hf := (if_pos h1).symm.trans hf
    refine go_ifN (pc := 5) d40_5 (XT.i0_ne_f h1) ?_
    refine go_iconst (pc := 8) d40_8 ci_0 ?_
    cases hf
    exact go_zret (pc := 9) rfl d40_9 (show (0 : Int32) = nar .boolean (0 : Int32) by decide)
  · replace hf := (if_neg h1).symm.trans hf
    refine go_ifY (pc := 5) (pc' := 10) d40_5 (XT.i0_ne_t h1) j_5_5 ?_
    refine go_aloadN (pc := 10) d40_10 rfl (go_getA (pc := 11) fa_26 hm_40 d40_11 rfl (go_iloadN (pc := 14) d40_14 rfl ?_))
    obtain ⟨a15, e2, hf⟩ := Option.bind_eq_some_iff.mp hf
    refine go_iaload (pc := 15) (q := 5) ar_5 rfl e2 d40_15 ?_
    refine go_iconst (pc := 16) d40_16 ci_m1 ?_
    by_cases h3 : a15 = (-1 : Int32)
    · replace hf := (if_pos h3).symm.trans hf
      refine go_icY (pc := 17) (pc' := 24) d40_17 (XT.ii_eq_t h3) j_17_7 ?_
      refine go_iconst (pc := 24) d40_24 ci_0 ?_
      cases hf
      exact go_zret (pc := 25) rfl d40_25 (show (0 : Int32) = nar .boolean (0 : Int32) by decide)
    · replace hf := (if_neg h3).symm.trans hf
      refine go_icN (pc := 17) d40_17 (XT.ii_eq_f h3) ?_
      refine go_iconst (pc := 20) d40_20 ci_1 (go_goto (pc := 21) (pc' := 25) d40_21 j_21_4 ?_)
      cases hf
      exact go_zret (pc := 25) rfl d40_25 (show (1 : Int32) = nar .boolean (1 : Int32) by decide)
theorem c_k_tableHas (v1 : Int32) (s : S) (o : Int32) (hf : k_tableHas v1 s = some o) : Call PP m40 [.ref 1, .int v1] (none, [(11, s)]) (some (.int o), (none, [(11, s)])) := call_of_go pl_0 rfl (fun h => nomatch h) (k_tableHas_ok v1 s   _ hf)
set_option maxRecDepth 65536 in
set_option maxHeartbeats 4000000 in
theorem k_storeNeedsReconcile_ok  : ∀ (v1 : Int32) (v2 : Int32) (s : S)  (o : Int32), k_storeNeedsReconcile v1 v2 s = some o → Go PP m41 0 [.val (.ref 1), .val (.int v1), .val (.int v2)] [] (none, [(11, s)]) (some (.int o), (none, [(11, s)])) := by
  intro v1 v2 s o hf
  unfold k_storeNeedsReconcile at hf
  refine go_iloadN (pc := 0) d41_0 rfl (go_iconst (pc := 1) d41_1 ci_m1 ?_)
  by_cases h1 : v1 = (-1 : Int32)
  · replace hf := (if_pos h1).symm.trans hf
    refine go_icN (pc := 2) d41_2 (XT.ii_ne_f h1) ?_
    refine go_iconst (pc := 5) d41_5 ci_0 ?_
    cases hf
    exact go_zret (pc := 6) rfl d41_6 (show (0 : Int32) = nar .boolean (0 : Int32) by decide)
  · replace hf := (if_neg h1).symm.trans hf
    refine go_icY (pc := 2) (pc' := 7) d41_2 (XT.ii_ne_t h1) j_2_5 ?_
    refine go_iloadN (pc := 7) d41_7 rfl (go_iloadN (pc := 8) d41_8 rfl ?_)
    by_cases h2 : v1 = v2
    · replace hf := (if_pos h2).symm.trans hf
      refine go_icN (pc := 9) d41_9 (XT.ii_ne_f h2) ?_
      refine go_iconst (pc := 12) d41_12 ci_0 ?_
      cases hf
      exact go_zret (pc := 13) rfl d41_13 (show (0 : Int32) = nar .boolean (0 : Int32) by decide)
    · replace hf := (if_neg h2).symm.trans hf
      refine go_icY (pc := 9) (pc' := 14) d41_9 (XT.ii_ne_t h2) j_9_5 ?_
      refine go_aloadN (pc := 14) d41_14 rfl (go_iloadN (pc := 15) d41_15 rfl ?_)
      refine go_priv (pc := 16) (i := 0) (as := [.int v1]) (rest := []) (w' := (none, [(11, s)])) lk_0_165 pd_11 rfl oid_0 rfl rfl rfl rfl rfl rfl ⟨rfl, rfl, rfl, rfl, rfl⟩ d41_16 (c_k_isObjectId v1 s) ?_
      by_cases h3 : (k_isObjectId v1 s) = 0
      · replace hf := (if_pos h3).symm.trans hf
        refine go_ifN (pc := 19) d41_19 (XT.i0_ne_f h3) ?_
        refine go_iconst (pc := 22) d41_22 ci_0 ?_
        cases hf
        exact go_zret (pc := 23) rfl d41_23 (show (0 : Int32) = nar .boolean (0 : Int32) by decide)
      · replace hf := (if_neg h3).symm.trans hf
        refine go_ifY (pc := 19) (pc' := 24) d41_19 (XT.i0_ne_t h3) j_19_5 ?_
        refine go_aloadN (pc := 24) d41_24 rfl (go_getA (pc := 25) fa_17 hm_41 d41_25 rfl (go_iloadN (pc := 28) d41_28 rfl ?_))
        obtain ⟨a29, e4, hf⟩ := Option.bind_eq_some_iff.mp hf
        refine go_iaload (pc := 29) (q := 2) ar_2 rfl e4 d41_29 ?_
        refine go_iconst (pc := 30) d41_30 ci_1 ?_
        by_cases h5 : a29 = (1 : Int32)
        · replace hf := (if_pos h5).symm.trans hf
          refine go_icY (pc := 31) (pc' := 36) d41_31 (XT.ii_eq_t h5) j_31_5 ?_
          refine go_aloadN (pc := 36) d41_36 rfl (go_iloadN (pc := 37) d41_37 rfl ?_)
          obtain ⟨r38, e6, hf⟩ := Option.bind_eq_some_iff.mp hf
          refine go_priv (pc := 38) (i := 0) (as := [.int v1]) (rest := []) (w' := (none, [(11, s)])) lk_0_141 pd_40 rfl oid_0 rfl rfl rfl rfl rfl rfl ⟨rfl, rfl, rfl, rfl, rfl⟩ d41_38 (c_k_tableHas v1 s _ e6) ?_
          by_cases h7 : r38 = 0
          · replace hf := (if_pos h7).symm.trans hf
            refine go_ifY (pc := 41) (pc' := 46) d41_41 (XT.i0_eq_t h7) j_41_5 ?_
            refine go_aloadN (pc := 46) d41_46 rfl ?_
            refine go_priv (pc := 47) (i := 0) (as := []) (rest := []) (w' := (none, [(11, s)])) lk_0_156 pd_9 rfl oid_0 rfl rfl rfl rfl rfl rfl ⟨rfl, rfl, rfl, rfl, rfl⟩ d41_47 (c_k_tableIsFull s) ?_
            cases hf
            exact go_zret (pc := 50) rfl d41_50 rfl
          · replace hf := (if_neg h7).symm.trans hf
            refine go_ifN (pc := 41) d41_41 (XT.i0_eq_f h7) ?_
            refine go_iconst (pc := 44) d41_44 ci_0 ?_
            cases hf
            exact go_zret (pc := 45) rfl d41_45 (show (0 : Int32) = nar .boolean (0 : Int32) by decide)
        · replace hf := (if_neg h5).symm.trans hf
          refine go_icN (pc := 31) d41_31 (XT.ii_eq_f h5) ?_
          refine go_iconst (pc := 34) d41_34 ci_0 ?_
          cases hf
          exact go_zret (pc := 35) rfl d41_35 (show (0 : Int32) = nar .boolean (0 : Int32) by decide)
theorem c_k_storeNeedsReconcile (v1 : Int32) (v2 : Int32) (s : S) (o : Int32) (hf : k_storeNeedsReconcile v1 v2 s = some o) : Call PP m41 [.ref 1, .int v1, .int v2] (none, [(11, s)]) (some (.int o), (none, [(11, s)])) := call_of_go pl_0 rfl (fun h => nomatch h) (k_storeNeedsReconcile_ok v1 v2 s   _ hf)
set_option maxRecDepth 65536 in
set_option maxHeartbeats 4000000 in
theorem k_refDec_ok  : ∀ (v1 : Int32) (s : S)  (o : S), k_refDec v1 s = some o → Go PP m42 0 [.val (.ref 1), .val (.int v1)] [] (none, [(11, s)]) (none, (none, [(11, o)])) := by
  intro v1 s o hf
  unfold k_refDec at hf
  refine go_aloadN (pc := 0) d42_0 rfl (go_iloadN (pc := 1) d42_1 rfl ?_)
  refine go_priv (pc := 2) (i := 0) (as := [.int v1]) (rest := []) (w' := (none, [(11, s)])) lk_0_165 pd_11 rfl oid_0 rfl rfl rfl rfl rfl rfl ⟨rfl, rfl, rfl, rfl, rfl⟩ d42_2 (c_k_isObjectId v1 s) ?_
  by_cases h1 : (k_isObjectId v1 s) = 0
  · replace hf := (if_pos h1).symm.trans hf
    refine go_ifY (pc := 5) (pc' := 31) d42_5 (XT.i0_eq_t h1) j_5_26 ?_
    cases hf
    exact go_ret (pc := 31) rfl d42_31
  · replace hf := (if_neg h1).symm.trans hf
    refine go_ifN (pc := 5) d42_5 (XT.i0_eq_f h1) ?_
    refine go_aloadN (pc := 8) d42_8 rfl (go_getA (pc := 9) fa_17 hm_42 d42_9 rfl (go_iloadN (pc := 12) d42_12 rfl ?_))
    obtain ⟨a13, e2, hf⟩ := Option.bind_eq_some_iff.mp hf
    refine go_iaload (pc := 13) (q := 2) ar_2 rfl e2 d42_13 ?_
    by_cases h3 : 0 < a13
    · replace hf := (if_pos h3).symm.trans hf
      refine go_ifN (pc := 14) d42_14 (XT.i0_le_f h3) ?_
      refine go_aloadN (pc := 17) d42_17 rfl (go_getA (pc := 18) fa_17 hm_42 d42_18 rfl (go_iloadN (pc := 21) d42_21 rfl (go_aloadN (pc := 22) d42_22 rfl (go_getA (pc := 23) fa_17 hm_42 d42_23 rfl (go_iloadN (pc := 26) d42_26 rfl ?_)))))
      obtain ⟨a27, e4, hf⟩ := Option.bind_eq_some_iff.mp hf
      refine go_iaload (pc := 27) (q := 2) ar_2 rfl e4 d42_27 ?_
      refine go_iconst (pc := 28) d42_28 ci_1 (go_isub (pc := 29) d42_29 ?_)
      obtain ⟨a30, e5, hf⟩ := Option.bind_eq_some_iff.mp hf
      refine go_iastore (pc := 30) (q := 2) ar_2 rfl hn_42 e5 d42_30 ?_
      cases hf
      exact go_ret (pc := 31) rfl d42_31
    · replace hf := (if_neg h3).symm.trans hf
      refine go_ifY (pc := 14) (pc' := 31) d42_14 (XT.i0_le_t h3) j_14_17 ?_
      cases hf
      exact go_ret (pc := 31) rfl d42_31
theorem c_k_refDec (v1 : Int32) (s : S) (o : S) (hf : k_refDec v1 s = some o) : Call PP m42 [.ref 1, .int v1] (none, [(11, s)]) (none, (none, [(11, o)])) := call_of_go pl_0 rfl (fun _ => rfl) (k_refDec_ok v1 s   _ hf)
set_option maxRecDepth 65536 in
set_option maxHeartbeats 4000000 in
theorem k_writeFieldRaw_ok  : ∀ (v1 : Int32) (v2 : Int32) (v3 : Int32) (s : S)  (o : S), k_writeFieldRaw v1 v2 v3 s = some o → Go PP m43 0 [.val (.ref 1), .val (.int v1), .val (.int v2), .val (.int v3)] [] (none, [(11, s)]) (none, (none, [(11, o)])) := by
  intro v1 v2 v3 s o hf
  unfold k_writeFieldRaw at hf
  refine go_aloadN (pc := 0) d43_0 rfl (go_iloadN (pc := 1) d43_1 rfl ?_)
  refine go_priv (pc := 2) (i := 0) (as := [.int v1]) (rest := []) (w' := (none, [(11, s)])) lk_0_165 pd_11 rfl oid_0 rfl rfl rfl rfl rfl rfl ⟨rfl, rfl, rfl, rfl, rfl⟩ d43_2 (c_k_isObjectId v1 s) ?_
  by_cases h1 : (k_isObjectId v1 s) = 0
  · replace hf := (if_pos h1).symm.trans hf
    refine go_ifN (pc := 5) d43_5 (XT.i0_ne_f h1) ?_
    cases hf
    exact go_ret (pc := 8) rfl d43_8
  · replace hf := (if_neg h1).symm.trans hf
    refine go_ifY (pc := 5) (pc' := 9) d43_5 (XT.i0_ne_t h1) j_5_4 ?_
    refine go_aloadN (pc := 9) d43_9 rfl (go_iloadN (pc := 10) d43_10 rfl ?_)
    refine go_priv (pc := 11) (i := 0) (as := [.int v2]) (rest := []) (w' := (none, [(11, s)])) lk_0_138 pd_13 rfl oid_0 rfl rfl rfl rfl rfl rfl ⟨rfl, rfl, rfl, rfl, rfl⟩ d43_11 (c_k_isFieldNo v2 s) ?_
    by_cases h2 : (k_isFieldNo v2 s) = 0
    · replace hf := (if_pos h2).symm.trans hf
      refine go_ifN (pc := 14) d43_14 (XT.i0_ne_f h2) ?_
      cases hf
      exact go_ret (pc := 17) rfl d43_17
    · replace hf := (if_neg h2).symm.trans hf
      refine go_ifY (pc := 14) (pc' := 18) d43_14 (XT.i0_ne_t h2) j_14_4 ?_
      refine go_aloadN (pc := 18) d43_18 rfl (go_getA (pc := 19) fa_13 hm_43 d43_19 rfl (go_iloadN (pc := 22) d43_22 rfl (go_iconst (pc := 23) d43_23 ci_4 (go_imul (pc := 24) d43_24 (go_iloadN (pc := 25) d43_25 rfl (go_iadd (pc := 26) d43_26 (go_iloadN (pc := 27) d43_27 rfl ?_)))))))
      obtain ⟨a28, e3, hf⟩ := Option.bind_eq_some_iff.mp hf
      refine go_iastore (pc := 28) (q := 1) ar_1 rfl hn_43 e3 d43_28 ?_
      cases hf
      exact go_ret (pc := 29) rfl d43_29
theorem c_k_writeFieldRaw (v1 : Int32) (v2 : Int32) (v3 : Int32) (s : S) (o : S) (hf : k_writeFieldRaw v1 v2 v3 s = some o) : Call PP m43 [.ref 1, .int v1, .int v2, .int v3] (none, [(11, s)]) (none, (none, [(11, o)])) := call_of_go pl_0 rfl (fun _ => rfl) (k_writeFieldRaw_ok v1 v2 v3 s   _ hf)
set_option maxRecDepth 65536 in
set_option maxHeartbeats 4000000 in
theorem k_assignField_ok  : ∀ (v1 : Int32) (v2 : Int32) (v3 : Int32) (s : S)  (o : S), k_assignField v1 v2 v3 s = some o → Go PP m44 0 [.val (.ref 1), .val (.int v1), .val (.int v2), .val (.int v3), .unset] [] (none, [(11, s)]) (none, (none, [(11, o)])) := by
  intro v1 v2 v3 s o hf
  unfold k_assignField at hf
  refine go_aloadN (pc := 0) d44_0 rfl (go_iloadN (pc := 1) d44_1 rfl (go_iloadN (pc := 2) d44_2 rfl ?_))
  obtain ⟨r3, e1, hf⟩ := Option.bind_eq_some_iff.mp hf
  refine go_priv (pc := 3) (i := 0) (as := [.int v1, .int v2]) (rest := []) (w' := (none, [(11, s)])) lk_0_98 pd_14 rfl oid_0 rfl rfl rfl rfl rfl rfl ⟨rfl, rfl, rfl, rfl, rfl⟩ d44_3 (c_k_readField v1 v2 s _ e1) ?_
  refine go_istore (pc := 6) (L' := [.val (.ref 1), .val (.int v1), .val (.int v2), .val (.int v3), .val (.int r3)]) d44_6 rfl (go_aloadN (pc := 8) d44_8 rfl (go_iload (pc := 9) d44_9 rfl ?_))
  obtain ⟨r11, e2, hf⟩ := Option.bind_eq_some_iff.mp hf
  refine go_priv (pc := 11) (i := 0) (as := [.int r3]) (rest := []) (w' := (none, [(11, r11)])) lk_0_168 pd_42 rfl oid_0 rfl rfl rfl rfl rfl rfl ⟨rfl, rfl, rfl, rfl, rfl⟩ d44_11 (c_k_refDec r3 s _ e2) ?_
  refine go_aloadN (pc := 14) d44_14 rfl (go_iloadN (pc := 15) d44_15 rfl ?_)
  obtain ⟨r16, e3, hf⟩ := Option.bind_eq_some_iff.mp hf
  refine go_priv (pc := 16) (i := 0) (as := [.int v3]) (rest := []) (w' := (none, [(11, r16)])) lk_0_171 pd_25 rfl oid_0 rfl rfl rfl rfl rfl rfl ⟨rfl, rfl, rfl, rfl, rfl⟩ d44_16 (c_k_refInc v3 r11 _ e3) ?_
  refine go_aloadN (pc := 19) d44_19 rfl (go_iloadN (pc := 20) d44_20 rfl (go_iloadN (pc := 21) d44_21 rfl (go_iloadN (pc := 22) d44_22 rfl ?_)))
  obtain ⟨r23, e4, hf⟩ := Option.bind_eq_some_iff.mp hf
  refine go_priv (pc := 23) (i := 0) (as := [.int v1, .int v2, .int v3]) (rest := []) (w' := (none, [(11, r23)])) lk_0_174 pd_43 rfl oid_0 rfl rfl rfl rfl rfl rfl ⟨rfl, rfl, rfl, rfl, rfl⟩ d44_23 (c_k_writeFieldRaw v1 v2 v3 r16 _ e4) ?_
  cases hf
  exact go_ret (pc := 26) rfl d44_26
theorem c_k_assignField (v1 : Int32) (v2 : Int32) (v3 : Int32) (s : S) (o : S) (hf : k_assignField v1 v2 v3 s = some o) : Call PP m44 [.ref 1, .int v1, .int v2, .int v3] (none, [(11, s)]) (none, (none, [(11, o)])) := call_of_go pl_0 rfl (fun _ => rfl) (k_assignField_ok v1 v2 v3 s   _ hf)
set_option maxRecDepth 65536 in
set_option maxHeartbeats 4000000 in
theorem k_noteZeroCount_ok  : ∀ (v1 : Int32) (s : S)  (o : S), k_noteZeroCount v1 s = some o → Go PP m45 0 [.val (.ref 1), .val (.int v1)] [] (none, [(11, s)]) (none, (none, [(11, o)])) := by
  intro v1 s o hf
  unfold k_noteZeroCount at hf
  refine go_iloadN (pc := 0) d45_0 rfl (go_iconst (pc := 1) d45_1 ci_m1 ?_)
  by_cases h1 : v1 = (-1 : Int32)
  · replace hf := (if_pos h1).symm.trans hf
    refine go_icN (pc := 2) d45_2 (XT.ii_ne_f h1) ?_
    cases hf
    exact go_ret (pc := 5) rfl d45_5
  · replace hf := (if_neg h1).symm.trans hf
    refine go_icY (pc := 2) (pc' := 6) d45_2 (XT.ii_ne_t h1) j_2_4 ?_
    refine go_aloadN (pc := 6) d45_6 rfl (go_iloadN (pc := 7) d45_7 rfl ?_)
    refine go_priv (pc := 8) (i := 0) (as := [.int v1]) (rest := []) (w' := (none, [(11, s)])) lk_0_165 pd_11 rfl oid_0 rfl rfl rfl rfl rfl rfl ⟨rfl, rfl, rfl, rfl, rfl⟩ d45_8 (c_k_isObjectId v1 s) ?_
    by_cases h2 : (k_isObjectId v1 s) = 0
    · replace hf := (if_pos h2).symm.trans hf
      refine go_ifN (pc := 11) d45_11 (XT.i0_ne_f h2) ?_
      cases hf
      exact go_ret (pc := 14) rfl d45_14
    · replace hf := (if_neg h2).symm.trans hf
      refine go_ifY (pc := 11) (pc' := 15) d45_11 (XT.i0_ne_t h2) j_11_4 ?_
      refine go_aloadN (pc := 15) d45_15 rfl (go_getA (pc := 16) fa_17 hm_45 d45_16 rfl (go_iloadN (pc := 19) d45_19 rfl ?_))
      obtain ⟨a20, e3, hf⟩ := Option.bind_eq_some_iff.mp hf
      refine go_iaload (pc := 20) (q := 2) ar_2 rfl e3 d45_20 ?_
      by_cases h4 : a20 = 0
      · replace hf := (if_pos h4).symm.trans hf
        refine go_ifY (pc := 21) (pc' := 25) d45_21 (XT.i0_eq_t h4) j_21_4 ?_
        refine go_aloadN (pc := 25) d45_25 rfl (go_iloadN (pc := 26) d45_26 rfl ?_)
        obtain ⟨r27, e5, hf⟩ := Option.bind_eq_some_iff.mp hf
        refine go_priv (pc := 27) (i := 0) (as := [.int v1]) (rest := []) (w' := (none, [(11, s)])) lk_0_141 pd_40 rfl oid_0 rfl rfl rfl rfl rfl rfl ⟨rfl, rfl, rfl, rfl, rfl⟩ d45_27 (c_k_tableHas v1 s _ e5) ?_
        by_cases h6 : r27 = 0
        · replace hf := (if_pos h6).symm.trans hf
          refine go_ifY (pc := 30) (pc' := 34) d45_30 (XT.i0_eq_t h6) j_30_4 ?_
          refine go_aloadN (pc := 34) d45_34 rfl (go_iloadN (pc := 35) d45_35 rfl ?_)
          obtain ⟨r36, e7, hf⟩ := Option.bind_eq_some_iff.mp hf
          refine go_priv (pc := 36) (i := 0) (as := [.int v1]) (rest := []) (w' := (none, [(11, r36.2)])) lk_0_162 pd_28 rfl oid_0 rfl rfl rfl rfl rfl rfl ⟨rfl, rfl, rfl, rfl, rfl⟩ d45_36 (c_k_tableInsert v1 s _ e7) ?_
          refine go_pop (pc := 39) d45_39 ?_
          cases hf
          exact go_ret (pc := 40) rfl d45_40
        · replace hf := (if_neg h6).symm.trans hf
          refine go_ifN (pc := 30) d45_30 (XT.i0_eq_f h6) ?_
          cases hf
          exact go_ret (pc := 33) rfl d45_33
      · replace hf := (if_neg h4).symm.trans hf
        refine go_ifN (pc := 21) d45_21 (XT.i0_eq_f h4) ?_
        cases hf
        exact go_ret (pc := 24) rfl d45_24
theorem c_k_noteZeroCount (v1 : Int32) (s : S) (o : S) (hf : k_noteZeroCount v1 s = some o) : Call PP m45 [.ref 1, .int v1] (none, [(11, s)]) (none, (none, [(11, o)])) := call_of_go pl_0 rfl (fun _ => rfl) (k_noteZeroCount_ok v1 s   _ hf)
set_option maxRecDepth 65536 in
set_option maxHeartbeats 4000000 in
theorem k_store_57_ok  : ∀ (v2 : Int32) (v5 : Int32) (v6 : Int32) (v7 : Int32) (s : S) (x1 : Slot) (x3 : Slot) (x4 : Slot) (hx1 : k1 x1) (hx3 : k1 x3) (hx4 : k1 x4) (o : Int32 × S), k_store_57 v2 v5 v6 v7 s = some o → Go PP m46 57 [.val (.ref 1), x1, .val (.int v2), x3, x4, .val (.int v5), .val (.int v6), .val (.int v7)] [] (none, [(11, s)]) (some (.int o.1), (none, [(11, o.2)])) := by
  intro v2 v5 v6 v7 s x1 x3 x4 hx1 hx3 hx4 o hf
  unfold k_store_57 at hf
  refine go_aloadN (pc := 57) d46_57 rfl (go_iload (pc := 58) d46_58 rfl (go_iloadN (pc := 60) d46_60 rfl (go_iload (pc := 61) d46_61 rfl ?_)))
  obtain ⟨r63, e1, hf⟩ := Option.bind_eq_some_iff.mp hf
  refine go_priv (pc := 63) (i := 0) (as := [.int v5, .int v2, .int v6]) (rest := []) (w' := (none, [(11, r63)])) lk_0_115 pd_44 rfl oid_0 rfl rfl rfl rfl rfl rfl ⟨rfl, rfl, rfl, rfl, rfl⟩ d46_63 (c_k_assignField v5 v2 v6 s _ e1) ?_
  refine go_aloadN (pc := 66) d46_66 rfl (go_iload (pc := 67) d46_67 rfl ?_)
  obtain ⟨r69, e2, hf⟩ := Option.bind_eq_some_iff.mp hf
  refine go_priv (pc := 69) (i := 0) (as := [.int v7]) (rest := []) (w' := (none, [(11, r69)])) lk_0_119 pd_45 rfl oid_0 rfl rfl rfl rfl rfl rfl ⟨rfl, rfl, rfl, rfl, rfl⟩ d46_69 (c_k_noteZeroCount v7 r63 _ e2) ?_
  refine go_iconst (pc := 72) d46_72 ci_0 ?_
  cases hf
  exact go_iret (pc := 73) rfl d46_73
set_option maxRecDepth 65536 in
set_option maxHeartbeats 4000000 in
theorem k_store_ok  : ∀ (v1 : Int32) (v2 : Int32) (v3 : Int32) (s : S)  (o : Int32 × S), k_store v1 v2 v3 s = some o → Go PP m46 0 [.val (.ref 1), .val (.int v1), .val (.int v2), .val (.int v3), .unset, .unset, .unset, .unset] [] (none, [(11, s)]) (some (.int o.1), (none, [(11, o.2)])) := by
  intro v1 v2 v3 s o hf
  unfold k_store at hf
  refine go_aloadN (pc := 0) d46_0 rfl (go_iloadN (pc := 1) d46_1 rfl (go_iloadN (pc := 2) d46_2 rfl (go_iloadN (pc := 3) d46_3 rfl ?_)))
  obtain ⟨r4, e1, hf⟩ := Option.bind_eq_some_iff.mp hf
  refine go_priv (pc := 4) (i := 0) (as := [.int v1, .int v2, .int v3]) (rest := []) (w' := (none, [(11, s)])) lk_0_104 pd_38 rfl oid_0 rfl rfl rfl rfl rfl rfl ⟨rfl, rfl, rfl, rfl, rfl⟩ d46_4 (c_k_storeCheck v1 v2 v3 s _ e1) ?_
  refine go_istore (pc := 7) (L' := [.val (.ref 1), .val (.int v1), .val (.int v2), .val (.int v3), .val (.int r4), .unset, .unset, .unset]) d46_7 rfl (go_iload (pc := 9) d46_9 rfl ?_)
  by_cases h2 : r4 = 0
  · replace hf := (if_pos h2).symm.trans hf
    refine go_ifY (pc := 11) (pc' := 17) d46_11 (XT.i0_eq_t h2) j_11_6 ?_
    refine go_aloadN (pc := 17) d46_17 rfl (go_getA (pc := 18) fa_20 hm_46 d46_18 rfl (go_iloadN (pc := 21) d46_21 rfl ?_))
    obtain ⟨a22, e3, hf⟩ := Option.bind_eq_some_iff.mp hf
    refine go_iaload (pc := 22) (q := 3) ar_3 rfl e3 d46_22 ?_
    refine go_istore (pc := 23) (L' := [.val (.ref 1), .val (.int v1), .val (.int v2), .val (.int v3), .val (.int r4), .val (.int a22), .unset, .unset]) d46_23 rfl (go_aloadN (pc := 25) d46_25 rfl (go_iloadN (pc := 26) d46_26 rfl ?_))
    obtain ⟨r27, e4, hf⟩ := Option.bind_eq_some_iff.mp hf
    refine go_priv (pc := 27) (i := 0) (as := [.int v3]) (rest := []) (w' := (none, [(11, s)])) lk_0_107 pd_39 rfl oid_0 rfl rfl rfl rfl rfl rfl ⟨rfl, rfl, rfl, rfl, rfl⟩ d46_27 (c_k_valueOfSlot v3 s _ e4) ?_
    refine go_istore (pc := 30) (L' := [.val (.ref 1), .val (.int v1), .val (.int v2), .val (.int v3), .val (.int r4), .val (.int a22), .val (.int r27), .unset]) d46_30 rfl (go_aloadN (pc := 32) d46_32 rfl (go_iload (pc := 33) d46_33 rfl (go_iloadN (pc := 35) d46_35 rfl ?_)))
    obtain ⟨r36, e5, hf⟩ := Option.bind_eq_some_iff.mp hf
    refine go_priv (pc := 36) (i := 0) (as := [.int a22, .int v2]) (rest := []) (w' := (none, [(11, s)])) lk_0_98 pd_14 rfl oid_0 rfl rfl rfl rfl rfl rfl ⟨rfl, rfl, rfl, rfl, rfl⟩ d46_36 (c_k_readField a22 v2 s _ e5) ?_
    refine go_istore (pc := 39) (L' := [.val (.ref 1), .val (.int v1), .val (.int v2), .val (.int v3), .val (.int r4), .val (.int a22), .val (.int r27), .val (.int r36)]) d46_39 rfl (go_aloadN (pc := 41) d46_41 rfl (go_iload (pc := 42) d46_42 rfl (go_iload (pc := 44) d46_44 rfl ?_)))
    obtain ⟨r46, e6, hf⟩ := Option.bind_eq_some_iff.mp hf
    refine go_priv (pc := 46) (i := 0) (as := [.int r36, .int r27]) (rest := []) (w' := (none, [(11, s)])) lk_0_111 pd_41 rfl oid_0 rfl rfl rfl rfl rfl rfl ⟨rfl, rfl, rfl, rfl, rfl⟩ d46_46 (c_k_storeNeedsReconcile r36 r27 s _ e6) ?_
    by_cases h7 : r46 = 0
    · replace hf := (if_pos h7).symm.trans hf
      refine go_ifY (pc := 49) (pc' := 57) d46_49 (XT.i0_eq_t h7) j_49_8 ?_
      exact k_store_57_ok v2 a22 r27 r36 s (.val (.int v1)) (.val (.int v3)) (.val (.int r4)) (Or.inr ⟨_, rfl, rfl⟩) (Or.inr ⟨_, rfl, rfl⟩) (Or.inr ⟨_, rfl, rfl⟩) _ hf
    · replace hf := (if_neg h7).symm.trans hf
      refine go_ifN (pc := 49) d46_49 (XT.i0_eq_f h7) ?_
      refine go_aloadN (pc := 52) d46_52 rfl ?_
      obtain ⟨r53, e8, hf⟩ := Option.bind_eq_some_iff.mp hf
      refine go_priv (pc := 53) (i := 0) (as := []) (rest := []) (w' := (none, [(11, r53.2)])) lk_0_83 pd_30 rfl oid_0 rfl rfl rfl rfl rfl rfl ⟨rfl, rfl, rfl, rfl, rfl⟩ d46_53 (c_k_runReconciliation s _ e8) ?_
      refine go_pop (pc := 56) d46_56 ?_
      exact k_store_57_ok v2 a22 r27 r36 r53.2 (.val (.int v1)) (.val (.int v3)) (.val (.int r4)) (Or.inr ⟨_, rfl, rfl⟩) (Or.inr ⟨_, rfl, rfl⟩) (Or.inr ⟨_, rfl, rfl⟩) _ hf
  · replace hf := (if_neg h2).symm.trans hf
    refine go_ifN (pc := 11) d46_11 (XT.i0_eq_f h2) ?_
    refine go_iload (pc := 14) d46_14 rfl ?_
    cases hf
    exact go_iret (pc := 16) rfl d46_16
theorem c_k_store (v1 : Int32) (v2 : Int32) (v3 : Int32) (s : S) (o : Int32 × S) (hf : k_store v1 v2 v3 s = some o) : Call PP m46 [.ref 1, .int v1, .int v2, .int v3] (none, [(11, s)]) (some (.int o.1), (none, [(11, o.2)])) := call_of_go pl_0 rfl (fun h => nomatch h) (k_store_ok v1 v2 v3 s   _ hf)
set_option maxRecDepth 65536 in
set_option maxHeartbeats 4000000 in
theorem k_rootPopTop_ok  : ∀  (s : S)  (o : S), k_rootPopTop s = some o → Go PP m49 0 [.val (.ref 1)] [] (none, [(11, s)]) (none, (none, [(11, o)])) := by
  intro s o hf
  unfold k_rootPopTop at hf
  refine go_aloadN (pc := 0) d49_0 rfl (go_getI (pc := 1) fs_125 hm_49 d49_1 ?_)
  by_cases h1 : 0 < (gI s 5)
  · replace hf := (if_pos h1).symm.trans hf
    refine go_ifY (pc := 4) (pc' := 8) d49_4 (XT.i0_gt_t h1) j_4_4 ?_
    refine go_aloadN (pc := 8) d49_8 rfl (go_aloadN (pc := 9) d49_9 rfl (go_getI (pc := 10) fs_125 hm_49 d49_10 (go_iconst (pc := 13) d49_13 ci_1 (go_isub (pc := 14) d49_14 (go_putI (pc := 15) fs_125 hm_49 (wr_5 _) hn_49 d49_15 (go_aloadN (pc := 18) d49_18 rfl (go_getA (pc := 19) fa_20 hm_49 d49_19 rfl ?_)))))))
    refine go_aloadN (pc := 22) d49_22 rfl (go_getI (pc := 23) fs_125 hm_49 d49_23 (go_iconst (pc := 26) d49_26 ci_m1 ?_))
    obtain ⟨a27, e2, hf⟩ := Option.bind_eq_some_iff.mp hf
    refine go_iastore (pc := 27) (q := 3) ar_3 rfl hn_49 e2 d49_27 ?_
    cases hf
    exact go_ret (pc := 28) rfl d49_28
  · replace hf := (if_neg h1).symm.trans hf
    refine go_ifN (pc := 4) d49_4 (XT.i0_gt_f h1) ?_
    cases hf
    exact go_ret (pc := 7) rfl d49_7
theorem c_k_rootPopTop (s : S) (o : S) (hf : k_rootPopTop s = some o) : Call PP m49 [.ref 1] (none, [(11, s)]) (none, (none, [(11, o)])) := call_of_go pl_0 rfl (fun _ => rfl) (k_rootPopTop_ok s   _ hf)
set_option maxRecDepth 65536 in
set_option maxHeartbeats 4000000 in
theorem k_pop_ok  : ∀  (s : S)  (o : Int32 × S), k_pop s = some o → Go PP m50 0 [.val (.ref 1)] [] (none, [(11, s)]) (some (.int o.1), (none, [(11, o.2)])) := by
  intro s o hf
  unfold k_pop at hf
  refine go_aloadN (pc := 0) d50_0 rfl (go_getI (pc := 1) fs_125 hm_50 d50_1 ?_)
  by_cases h1 : 0 < (gI s 5)
  · replace hf := (if_pos h1).symm.trans hf
    refine go_ifY (pc := 4) (pc' := 10) d50_4 (XT.i0_gt_t h1) j_4_6 ?_
    refine go_aloadN (pc := 10) d50_10 rfl ?_
    obtain ⟨r11, e2, hf⟩ := Option.bind_eq_some_iff.mp hf
    refine go_priv (pc := 11) (i := 0) (as := []) (rest := []) (w' := (none, [(11, r11)])) lk_0_128 pd_49 rfl oid_0 rfl rfl rfl rfl rfl rfl ⟨rfl, rfl, rfl, rfl, rfl⟩ d50_11 (c_k_rootPopTop s _ e2) ?_
    refine go_iconst (pc := 14) d50_14 ci_0 ?_
    cases hf
    exact go_iret (pc := 15) rfl d50_15
  · replace hf := (if_neg h1).symm.trans hf
    refine go_ifN (pc := 4) d50_4 (XT.i0_gt_f h1) ?_
    refine go_bipush (pc := 7) d50_7 cb_m3 ?_
    cases hf
    exact go_iret (pc := 9) rfl d50_9
theorem c_k_pop (s : S) (o : Int32 × S) (hf : k_pop s = some o) : Call PP m50 [.ref 1] (none, [(11, s)]) (some (.int o.1), (none, [(11, o.2)])) := call_of_go pl_0 rfl (fun h => nomatch h) (k_pop_ok s   _ hf)
set_option maxRecDepth 65536 in
set_option maxHeartbeats 4000000 in
theorem k_reconcile_ok  : ∀  (s : S)  (o : Int32 × S), k_reconcile s = some o → Go PP m52 0 [.val (.ref 1)] [] (none, [(11, s)]) (some (.int o.1), (none, [(11, o.2)])) := by
  intro s o hf
  unfold k_reconcile at hf
  refine go_aloadN (pc := 0) d52_0 rfl ?_
  obtain ⟨r1, e1, hf⟩ := Option.bind_eq_some_iff.mp hf
  refine go_priv (pc := 1) (i := 0) (as := []) (rest := []) (w' := (none, [(11, r1.2)])) lk_0_83 pd_30 rfl oid_0 rfl rfl rfl rfl rfl rfl ⟨rfl, rfl, rfl, rfl, rfl⟩ d52_1 (c_k_runReconciliation s _ e1) ?_
  cases hf
  exact go_iret (pc := 4) rfl d52_4
theorem c_k_reconcile (s : S) (o : Int32 × S) (hf : k_reconcile s = some o) : Call PP m52 [.ref 1] (none, [(11, s)]) (some (.int o.1), (none, [(11, o.2)])) := call_of_go pl_0 rfl (fun h => nomatch h) (k_reconcile_ok s   _ hf)
set_option maxRecDepth 65536 in
set_option maxHeartbeats 4000000 in
theorem k_isLive_ok  : ∀ (v1 : Int32) (s : S)  (o : Int32), k_isLive v1 s = some o → Go PP m53 0 [.val (.ref 1), .val (.int v1)] [] (none, [(11, s)]) (some (.int o), (none, [(11, s)])) := by
  intro v1 s o hf
  unfold k_isLive at hf
  refine go_aloadN (pc := 0) d53_0 rfl (go_iloadN (pc := 1) d53_1 rfl ?_)
  obtain ⟨r2, e1, hf⟩ := Option.bind_eq_some_iff.mp hf
  refine go_priv (pc := 2) (i := 0) (as := [.int v1]) (rest := []) (w' := (none, [(11, s)])) lk_0_135 pd_15 rfl oid_0 rfl rfl rfl rfl rfl rfl ⟨rfl, rfl, rfl, rfl, rfl⟩ d53_2 (c_k_isLiveId v1 s _ e1) ?_
  cases hf
  exact go_zret (pc := 5) rfl d53_5 rfl
theorem c_k_isLive (v1 : Int32) (s : S) (o : Int32) (hf : k_isLive v1 s = some o) : Call PP m53 [.ref 1, .int v1] (none, [(11, s)]) (some (.int o), (none, [(11, s)])) := call_of_go pl_0 rfl (fun h => nomatch h) (k_isLive_ok v1 s   _ hf)
set_option maxRecDepth 65536 in
set_option maxHeartbeats 4000000 in
theorem k_count_ok  : ∀ (v1 : Int32) (s : S)  (o : Int32), k_count v1 s = some o → Go PP m54 0 [.val (.ref 1), .val (.int v1)] [] (none, [(11, s)]) (some (.int o), (none, [(11, s)])) := by
  intro v1 s o hf
  unfold k_count at hf
  refine go_aloadN (pc := 0) d54_0 rfl (go_iloadN (pc := 1) d54_1 rfl ?_)
  obtain ⟨r2, e1, hf⟩ := Option.bind_eq_some_iff.mp hf
  refine go_priv (pc := 2) (i := 0) (as := [.int v1]) (rest := []) (w' := (none, [(11, s)])) lk_0_135 pd_15 rfl oid_0 rfl rfl rfl rfl rfl rfl ⟨rfl, rfl, rfl, rfl, rfl⟩ d54_2 (c_k_isLiveId v1 s _ e1) ?_
  by_cases h2 : r2 = 0
  · replace hf := (if_pos h2).symm.trans hf
    refine go_ifN (pc := 5) d54_5 (XT.i0_ne_f h2) ?_
    refine go_bipush (pc := 8) d54_8 cb_m8 ?_
    cases hf
    exact go_iret (pc := 10) rfl d54_10
  · replace hf := (if_neg h2).symm.trans hf
    refine go_ifY (pc := 5) (pc' := 11) d54_5 (XT.i0_ne_t h2) j_5_6 ?_
    refine go_aloadN (pc := 11) d54_11 rfl (go_getA (pc := 12) fa_17 hm_54 d54_12 rfl (go_iloadN (pc := 15) d54_15 rfl ?_))
    obtain ⟨a16, e3, hf⟩ := Option.bind_eq_some_iff.mp hf
    refine go_iaload (pc := 16) (q := 2) ar_2 rfl e3 d54_16 ?_
    cases hf
    exact go_iret (pc := 17) rfl d54_17
theorem c_k_count (v1 : Int32) (s : S) (o : Int32) (hf : k_count v1 s = some o) : Call PP m54 [.ref 1, .int v1] (none, [(11, s)]) (some (.int o), (none, [(11, s)])) := call_of_go pl_0 rfl (fun h => nomatch h) (k_count_ok v1 s   _ hf)
set_option maxRecDepth 65536 in
set_option maxHeartbeats 4000000 in
theorem k_field_ok  : ∀ (v1 : Int32) (v2 : Int32) (s : S)  (o : Int32), k_field v1 v2 s = some o → Go PP m55 0 [.val (.ref 1), .val (.int v1), .val (.int v2)] [] (none, [(11, s)]) (some (.int o), (none, [(11, s)])) := by
  intro v1 v2 s o hf
  unfold k_field at hf
  refine go_aloadN (pc := 0) d55_0 rfl (go_iloadN (pc := 1) d55_1 rfl ?_)
  obtain ⟨r2, e1, hf⟩ := Option.bind_eq_some_iff.mp hf
  refine go_priv (pc := 2) (i := 0) (as := [.int v1]) (rest := []) (w' := (none, [(11, s)])) lk_0_135 pd_15 rfl oid_0 rfl rfl rfl rfl rfl rfl ⟨rfl, rfl, rfl, rfl, rfl⟩ d55_2 (c_k_isLiveId v1 s _ e1) ?_
  by_cases h2 : r2 = 0
  · replace hf := (if_pos h2).symm.trans hf
    refine go_ifN (pc := 5) d55_5 (XT.i0_ne_f h2) ?_
    refine go_bipush (pc := 8) d55_8 cb_m8 ?_
    cases hf
    exact go_iret (pc := 10) rfl d55_10
  · replace hf := (if_neg h2).symm.trans hf
    refine go_ifY (pc := 5) (pc' := 11) d55_5 (XT.i0_ne_t h2) j_5_6 ?_
    refine go_aloadN (pc := 11) d55_11 rfl (go_iloadN (pc := 12) d55_12 rfl ?_)
    refine go_priv (pc := 13) (i := 0) (as := [.int v2]) (rest := []) (w' := (none, [(11, s)])) lk_0_138 pd_13 rfl oid_0 rfl rfl rfl rfl rfl rfl ⟨rfl, rfl, rfl, rfl, rfl⟩ d55_13 (c_k_isFieldNo v2 s) ?_
    by_cases h3 : (k_isFieldNo v2 s) = 0
    · replace hf := (if_pos h3).symm.trans hf
      refine go_ifN (pc := 16) d55_16 (XT.i0_ne_f h3) ?_
      refine go_bipush (pc := 19) d55_19 cb_m6 ?_
      cases hf
      exact go_iret (pc := 21) rfl d55_21
    · replace hf := (if_neg h3).symm.trans hf
      refine go_ifY (pc := 16) (pc' := 22) d55_16 (XT.i0_ne_t h3) j_16_6 ?_
      refine go_aloadN (pc := 22) d55_22 rfl (go_iloadN (pc := 23) d55_23 rfl (go_iloadN (pc := 24) d55_24 rfl ?_))
      obtain ⟨r25, e4, hf⟩ := Option.bind_eq_some_iff.mp hf
      refine go_priv (pc := 25) (i := 0) (as := [.int v1, .int v2]) (rest := []) (w' := (none, [(11, s)])) lk_0_98 pd_14 rfl oid_0 rfl rfl rfl rfl rfl rfl ⟨rfl, rfl, rfl, rfl, rfl⟩ d55_25 (c_k_readField v1 v2 s _ e4) ?_
      cases hf
      exact go_iret (pc := 28) rfl d55_28
theorem c_k_field (v1 : Int32) (v2 : Int32) (s : S) (o : Int32) (hf : k_field v1 v2 s = some o) : Call PP m55 [.ref 1, .int v1, .int v2] (none, [(11, s)]) (some (.int o), (none, [(11, s)])) := call_of_go pl_0 rfl (fun h => nomatch h) (k_field_ok v1 v2 s   _ hf)
set_option maxRecDepth 65536 in
set_option maxHeartbeats 4000000 in
theorem k_inTable_ok  : ∀ (v1 : Int32) (s : S)  (o : Int32), k_inTable v1 s = some o → Go PP m56 0 [.val (.ref 1), .val (.int v1)] [] (none, [(11, s)]) (some (.int o), (none, [(11, s)])) := by
  intro v1 s o hf
  unfold k_inTable at hf
  refine go_aloadN (pc := 0) d56_0 rfl (go_iloadN (pc := 1) d56_1 rfl ?_)
  obtain ⟨r2, e1, hf⟩ := Option.bind_eq_some_iff.mp hf
  refine go_priv (pc := 2) (i := 0) (as := [.int v1]) (rest := []) (w' := (none, [(11, s)])) lk_0_141 pd_40 rfl oid_0 rfl rfl rfl rfl rfl rfl ⟨rfl, rfl, rfl, rfl, rfl⟩ d56_2 (c_k_tableHas v1 s _ e1) ?_
  cases hf
  exact go_zret (pc := 5) rfl d56_5 rfl
theorem c_k_inTable (v1 : Int32) (s : S) (o : Int32) (hf : k_inTable v1 s = some o) : Call PP m56 [.ref 1, .int v1] (none, [(11, s)]) (some (.int o), (none, [(11, s)])) := call_of_go pl_0 rfl (fun h => nomatch h) (k_inTable_ok v1 s   _ hf)
set_option maxRecDepth 65536 in
set_option maxHeartbeats 4000000 in
theorem k_liveCount_ok  : ∀  (s : S)  (o : Int32), k_liveCount s = o → Go PP m57 0 [.val (.ref 1)] [] (none, [(11, s)]) (some (.int o), (none, [(11, s)])) := by
  intro s o hf
  unfold k_liveCount at hf
  refine go_aloadN (pc := 0) d57_0 rfl (go_getI (pc := 1) fs_147 hm_57 d57_1 ?_)
  cases hf
  exact go_iret (pc := 4) rfl d57_4
theorem c_k_liveCount (s : S) : Call PP m57 [.ref 1] (none, [(11, s)]) (some (.int (k_liveCount s)), (none, [(11, s)])) := call_of_go pl_0 rfl (fun h => nomatch h) (k_liveCount_ok s   _ rfl)
set_option maxRecDepth 65536 in
set_option maxHeartbeats 4000000 in
theorem k_tableSize_ok  : ∀  (s : S)  (o : Int32), k_tableSize s = o → Go PP m58 0 [.val (.ref 1)] [] (none, [(11, s)]) (some (.int o), (none, [(11, s)])) := by
  intro s o hf
  unfold k_tableSize at hf
  refine go_aloadN (pc := 0) d58_0 rfl (go_getI (pc := 1) fs_144 hm_58 d58_1 ?_)
  cases hf
  exact go_iret (pc := 4) rfl d58_4
theorem c_k_tableSize (s : S) : Call PP m58 [.ref 1] (none, [(11, s)]) (some (.int (k_tableSize s)), (none, [(11, s)])) := call_of_go pl_0 rfl (fun h => nomatch h) (k_tableSize_ok s   _ rfl)
set_option maxRecDepth 65536 in
set_option maxHeartbeats 4000000 in
theorem k_reconciliations_ok  : ∀  (s : S)  (o : Int32), k_reconciliations s = o → Go PP m59 0 [.val (.ref 1)] [] (none, [(11, s)]) (some (.int o), (none, [(11, s)])) := by
  intro s o hf
  unfold k_reconciliations at hf
  refine go_aloadN (pc := 0) d59_0 rfl (go_getI (pc := 1) fs_73 hm_59 d59_1 ?_)
  cases hf
  exact go_iret (pc := 4) rfl d59_4
theorem c_k_reconciliations (s : S) : Call PP m59 [.ref 1] (none, [(11, s)]) (some (.int (k_reconciliations s)), (none, [(11, s)])) := call_of_go pl_0 rfl (fun h => nomatch h) (k_reconciliations_ok s   _ rfl)
set_option maxRecDepth 65536 in
set_option maxHeartbeats 4000000 in
theorem h_ans_ok_n1  {y0 : S} : ∀ (v0 : Int32)   (o : Int32), h_ans v0 = o → Go PP m47 0 [.val (.int v0)] [] (none, [(11, y0)]) (some (.int o), (none, [(11, y0)])) := by
  intro v0 o hf
  unfold h_ans at hf
  refine go_iloadN (pc := 0) d47_0 rfl (go_iconst (pc := 1) d47_1 ci_m1 ?_)
  by_cases h1 : v0 < (-1 : Int32)
  · replace hf := (if_pos h1).symm.trans hf
    refine go_icY (pc := 2) (pc' := 14) d47_2 (XT.ii_lt_t h1) j_2_12 ?_
    refine go_bipush (pc := 14) d47_14 cb_m5 ?_
    cases hf
    exact go_iret (pc := 16) rfl d47_16
  · replace hf := (if_neg h1).symm.trans hf
    refine go_icN (pc := 2) d47_2 (XT.ii_lt_f h1) ?_
    refine go_iloadN (pc := 5) d47_5 rfl (go_iconst (pc := 6) d47_6 ci_3 ?_)
    by_cases h2 : (3 : Int32) < v0
    · replace hf := (if_pos h2).symm.trans hf
      refine go_icY (pc := 7) (pc' := 14) d47_7 (XT.ii_gt_t h2) j_7_7 ?_
      refine go_bipush (pc := 14) d47_14 cb_m5 ?_
      cases hf
      exact go_iret (pc := 16) rfl d47_16
    · replace hf := (if_neg h2).symm.trans hf
      refine go_icN (pc := 7) d47_7 (XT.ii_gt_f h2) ?_
      refine go_iconst (pc := 10) d47_10 ci_0 (go_goto (pc := 11) (pc' := 16) d47_11 j_11_5 ?_)
      cases hf
      exact go_iret (pc := 16) rfl d47_16
theorem c_h_ans_n1 (v0 : Int32) (y0 : S) : Call PP m47 [.int v0] (none, [(11, y0)]) (some (.int (h_ans v0)), (none, [(11, y0)])) := call_of_go pl_1 rfl (fun h => nomatch h) (h_ans_ok_n1 v0   _ rfl)
set_option maxRecDepth 65536 in
set_option maxHeartbeats 4000000 in
theorem h_eff_ok_n1  {y0 : S} : ∀ (v0 : Int32)   (o : Int32), h_eff v0 = o → Go PP m48 0 [.val (.int v0)] [] (none, [(11, y0)]) (some (.int o), (none, [(11, y0)])) := by
  intro v0 o hf
  unfold h_eff at hf
  refine go_iloadN (pc := 0) d48_0 rfl ?_
  by_cases h1 : v0 < 0
  · replace hf := (if_pos h1).symm.trans hf
    refine go_ifY (pc := 1) (pc' := 13) d48_1 (XT.i0_lt_t h1) j_1_12 ?_
    refine go_iconst (pc := 13) d48_13 ci_m1 ?_
    cases hf
    exact go_iret (pc := 14) rfl d48_14
  · replace hf := (if_neg h1).symm.trans hf
    refine go_ifN (pc := 1) d48_1 (XT.i0_lt_f h1) ?_
    refine go_iloadN (pc := 4) d48_4 rfl (go_iconst (pc := 5) d48_5 ci_3 ?_)
    by_cases h2 : (3 : Int32) < v0
    · replace hf := (if_pos h2).symm.trans hf
      refine go_icY (pc := 6) (pc' := 13) d48_6 (XT.ii_gt_t h2) j_6_7 ?_
      refine go_iconst (pc := 13) d48_13 ci_m1 ?_
      cases hf
      exact go_iret (pc := 14) rfl d48_14
    · replace hf := (if_neg h2).symm.trans hf
      refine go_icN (pc := 6) d48_6 (XT.ii_gt_f h2) ?_
      refine go_iloadN (pc := 9) d48_9 rfl (go_goto (pc := 10) (pc' := 14) d48_10 j_10_4 ?_)
      cases hf
      exact go_iret (pc := 14) rfl d48_14
theorem c_h_eff_n1 (v0 : Int32) (y0 : S) : Call PP m48 [.int v0] (none, [(11, y0)]) (some (.int (h_eff v0)), (none, [(11, y0)])) := call_of_go pl_1 rfl (fun h => nomatch h) (h_eff_ok_n1 v0   _ rfl)
set_option maxRecDepth 65536 in
set_option maxHeartbeats 4000000 in
theorem h_edge_ok_n1  {y0 : S} : ∀ (v0 : Int32) (v1 : Int32) (v2 : Int32) (v3 : Int32) (v4 : Int32)   (o : Int32), h_edge v0 v1 v2 v3 v4 = o → Go PP m51 0 [.val (.int v0), .val (.int v1), .val (.int v2), .val (.int v3), .val (.int v4)] [] (none, [(11, y0)]) (some (.int o), (none, [(11, y0)])) := by
  intro v0 v1 v2 v3 v4 o hf
  unfold h_edge at hf
  refine go_iloadN (pc := 0) d51_0 rfl ?_
  by_cases h1 : v0 = 0
  · replace hf := (if_pos h1).symm.trans hf
    refine go_ifN (pc := 1) d51_1 (XT.i0_ne_f h1) ?_
    refine go_iloadN (pc := 4) d51_4 rfl (go_goto (pc := 5) (pc' := 28) d51_5 j_5_23 ?_)
    cases hf
    exact go_iret (pc := 28) rfl d51_28
  · replace hf := (if_neg h1).symm.trans hf
    refine go_ifY (pc := 1) (pc' := 8) d51_1 (XT.i0_ne_t h1) j_1_7 ?_
    refine go_iloadN (pc := 8) d51_8 rfl (go_iconst (pc := 9) d51_9 ci_1 ?_)
    by_cases h2 : v0 = (1 : Int32)
    · replace hf := (if_pos h2).symm.trans hf
      refine go_icN (pc := 10) d51_10 (XT.ii_ne_f h2) ?_
      refine go_iloadN (pc := 13) d51_13 rfl (go_goto (pc := 14) (pc' := 28) d51_14 j_14_14 ?_)
      cases hf
      exact go_iret (pc := 28) rfl d51_28
    · replace hf := (if_neg h2).symm.trans hf
      refine go_icY (pc := 10) (pc' := 17) d51_10 (XT.ii_ne_t h2) j_10_7 ?_
      refine go_iloadN (pc := 17) d51_17 rfl (go_iconst (pc := 18) d51_18 ci_2 ?_)
      by_cases h3 : v0 = (2 : Int32)
      · replace hf := (if_pos h3).symm.trans hf
        refine go_icN (pc := 19) d51_19 (XT.ii_ne_f h3) ?_
        refine go_iloadN (pc := 22) d51_22 rfl (go_goto (pc := 23) (pc' := 28) d51_23 j_23_5 ?_)
        cases hf
        exact go_iret (pc := 28) rfl d51_28
      · replace hf := (if_neg h3).symm.trans hf
        refine go_icY (pc := 19) (pc' := 26) d51_19 (XT.ii_ne_t h3) j_19_7 ?_
        refine go_iload (pc := 26) d51_26 rfl ?_
        cases hf
        exact go_iret (pc := 28) rfl d51_28
theorem c_h_edge_n1 (v0 : Int32) (v1 : Int32) (v2 : Int32) (v3 : Int32) (v4 : Int32) (y0 : S) : Call PP m51 [.int v0, .int v1, .int v2, .int v3, .int v4] (none, [(11, y0)]) (some (.int (h_edge v0 v1 v2 v3 v4)), (none, [(11, y0)])) := call_of_go pl_1 rfl (fun h => nomatch h) (h_edge_ok_n1 v0 v1 v2 v3 v4   _ rfl)
set_option maxRecDepth 65536 in
set_option maxHeartbeats 4000000 in
theorem law_594_ok  : ∀ (v21 : Int32) (v22 : Int32) (v23 : Int32) (v24 : Int32) (t0 : S) (x0 : Slot) (x1 : Slot) (x2 : Slot) (x3 : Slot) (x4 : Slot) (x6 : Slot) (x7 : Slot) (x8 : Slot) (x9 : Slot) (x10 : Slot) (x11 : Slot) (x12 : Slot) (x13 : Slot) (x14 : Slot) (x15 : Slot) (x16 : Slot) (x17 : Slot) (x18 : Slot) (x19 : Slot) (x20 : Slot) (x25 : Slot) (x26 : Slot) (x27 : Slot) (x28 : Slot) (x29 : Slot) (x30 : Slot) (x31 : Slot) (x32 : Slot) (hx0 : k1 x0) (hx1 : k1 x1) (hx2 : k1 x2) (hx3 : k1 x3) (hx4 : k1 x4) (hx6 : k1 x6) (hx7 : k1 x7) (hx8 : k1 x8) (hx9 : k1 x9) (hx10 : k1 x10) (hx11 : k1 x11) (hx12 : k1 x12) (hx13 : k1 x13) (hx14 : k1 x14) (hx15 : k1 x15) (hx16 : k1 x16) (hx17 : k1 x17) (hx18 : k1 x18) (hx19 : k1 x19) (hx20 : k1 x20) (hx25 : k1 x25) (hx26 : k1 x26) (hx27 : k1 x27) (hx28 : k1 x28) (hx29 : k1 x29) (hx30 : k1 x30) (hx31 : k1 x31) (hx32 : k1 x32) (o : Int32 × S), law_594 v21 v22 v23 v24 t0 = some o → Go PP m60 594 [x0, x1, x2, x3, x4, .val (.ref 1), x6, x7, x8, x9, x10, x11, x12, x13, x14, x15, x16, x17, x18, x19, x20, .val (.int v21), .val (.int v22), .val (.int v23), .val (.int v24), x25, x26, x27, x28, x29, x30, x31, x32] [] (none, [(11, t0)]) (some (.int o.1), (none, [(11, o.2)])) := by
  intro v21 v22 v23 v24 t0 x0 x1 x2 x3 x4 x6 x7 x8 x9 x10 x11 x12 x13 x14 x15 x16 x17 x18 x19 x20 x25 x26 x27 x28 x29 x30 x31 x32 hx0 hx1 hx2 hx3 hx4 hx6 hx7 hx8 hx9 hx10 hx11 hx12 hx13 hx14 hx15 hx16 hx17 hx18 hx19 hx20 hx25 hx26 hx27 hx28 hx29 hx30 hx31 hx32 o hf
  unfold law_594 at hf
  refine go_aload (pc := 594) d60_594 rfl ?_
  refine go_virt (pc := 596) (i := 0) (as := []) (rest := []) (w' := (none, [(11, t0)])) lk_1_53 pd_57 rfl oid_0 rfl rfl rfl rfl rfl rfl ⟨rfl, rfl, rfl, rfl, rfl⟩ d60_596 (c_k_liveCount t0) ?_
  refine go_istore (pc := 599) (L' := [x0, x1, x2, x3, x4, .val (.ref 1), x6, x7, x8, x9, x10, x11, x12, x13, x14, x15, x16, x17, x18, x19, x20, .val (.int v21), .val (.int v22), .val (.int v23), .val (.int v24), .val (.int (k_liveCount t0)), x26, x27, x28, x29, x30, x31, x32]) d60_599 (stx rfl hx25 rfl) (go_aload (pc := 601) d60_601 rfl ?_)
  refine go_virt (pc := 603) (i := 0) (as := []) (rest := []) (w' := (none, [(11, t0)])) lk_1_56 pd_58 rfl oid_0 rfl rfl rfl rfl rfl rfl ⟨rfl, rfl, rfl, rfl, rfl⟩ d60_603 (c_k_tableSize t0) ?_
  refine go_istore (pc := 606) (L' := [x0, x1, x2, x3, x4, .val (.ref 1), x6, x7, x8, x9, x10, x11, x12, x13, x14, x15, x16, x17, x18, x19, x20, .val (.int v21), .val (.int v22), .val (.int v23), .val (.int v24), .val (.int (k_liveCount t0)), .val (.int (k_tableSize t0)), x27, x28, x29, x30, x31, x32]) d60_606 (stx rfl hx26 rfl) (go_aload (pc := 608) d60_608 rfl ?_)
  refine go_virt (pc := 610) (i := 0) (as := []) (rest := []) (w' := (none, [(11, t0)])) lk_1_59 pd_59 rfl oid_0 rfl rfl rfl rfl rfl rfl ⟨rfl, rfl, rfl, rfl, rfl⟩ d60_610 (c_k_reconciliations t0) ?_
  refine go_istore (pc := 613) (L' := [x0, x1, x2, x3, x4, .val (.ref 1), x6, x7, x8, x9, x10, x11, x12, x13, x14, x15, x16, x17, x18, x19, x20, .val (.int v21), .val (.int v22), .val (.int v23), .val (.int v24), .val (.int (k_liveCount t0)), .val (.int (k_tableSize t0)), .val (.int (k_reconciliations t0)), x28, x29, x30, x31, x32]) d60_613 (stx rfl hx27 rfl) (go_iload (pc := 615) d60_615 rfl (go_iload (pc := 617) d60_617 rfl ?_))
  by_cases h1 : v21 = v22
  · replace hf := (if_pos h1).symm.trans hf
    refine go_icN (pc := 619) d60_619 (XT.ii_ne_f h1) ?_
    refine go_iload (pc := 622) d60_622 rfl (go_iload (pc := 624) d60_624 rfl ?_)
    by_cases h2 : (k_liveCount t0) = v24
    · replace hf := (if_pos h2).symm.trans hf
      refine go_icN (pc := 626) d60_626 (XT.ii_ne_f h2) ?_
      refine go_iload (pc := 629) d60_629 rfl (go_iload (pc := 631) d60_631 rfl ?_)
      by_cases h3 : (k_tableSize t0) = v23
      · replace hf := (if_pos h3).symm.trans hf
        refine go_icN (pc := 633) d60_633 (XT.ii_ne_f h3) ?_
        refine go_iload (pc := 636) d60_636 rfl (go_iconst (pc := 638) d60_638 ci_1 ?_)
        by_cases h4 : (k_reconciliations t0) = (1 : Int32)
        · replace hf := (if_pos h4).symm.trans hf
          refine go_icN (pc := 639) d60_639 (XT.ii_ne_f h4) ?_
          refine go_iconst (pc := 642) d60_642 ci_1 (go_goto (pc := 643) (pc' := 647) d60_643 j_643_4 ?_)
          cases hf
          exact go_zret (pc := 647) rfl d60_647 (show (1 : Int32) = nar .boolean (1 : Int32) by decide)
        · replace hf := (if_neg h4).symm.trans hf
          refine go_icY (pc := 639) (pc' := 646) d60_639 (XT.ii_ne_t h4) j_639_7 ?_
          refine go_iconst (pc := 646) d60_646 ci_0 ?_
          cases hf
          exact go_zret (pc := 647) rfl d60_647 (show (0 : Int32) = nar .boolean (0 : Int32) by decide)
      · replace hf := (if_neg h3).symm.trans hf
        refine go_icY (pc := 633) (pc' := 646) d60_633 (XT.ii_ne_t h3) j_633_13 ?_
        refine go_iconst (pc := 646) d60_646 ci_0 ?_
        cases hf
        exact go_zret (pc := 647) rfl d60_647 (show (0 : Int32) = nar .boolean (0 : Int32) by decide)
    · replace hf := (if_neg h2).symm.trans hf
      refine go_icY (pc := 626) (pc' := 646) d60_626 (XT.ii_ne_t h2) j_626_20 ?_
      refine go_iconst (pc := 646) d60_646 ci_0 ?_
      cases hf
      exact go_zret (pc := 647) rfl d60_647 (show (0 : Int32) = nar .boolean (0 : Int32) by decide)
  · replace hf := (if_neg h1).symm.trans hf
    refine go_icY (pc := 619) (pc' := 646) d60_619 (XT.ii_ne_t h1) j_619_27 ?_
    refine go_iconst (pc := 646) d60_646 ci_0 ?_
    cases hf
    exact go_zret (pc := 647) rfl d60_647 (show (0 : Int32) = nar .boolean (0 : Int32) by decide)
def T_law_377 (k377 : Int32 → Int32 → Int32 → Int32 → Int32 → Int32 → Int32 → Int32 → Int32 → Int32 → S → Option (Int32 × S)) : Prop := ∀ (v14 : Int32) (v15 : Int32) (v16 : Int32) (v17 : Int32) (v20 : Int32) (v21 : Int32) (v22 : Int32) (v23 : Int32) (v24 : Int32) (v25 : Int32) (t0 : S) (x0 : Slot) (x1 : Slot) (x2 : Slot) (x3 : Slot) (x4 : Slot) (x6 : Slot) (x7 : Slot) (x8 : Slot) (x9 : Slot) (x10 : Slot) (x11 : Slot) (x12 : Slot) (x13 : Slot) (x18 : Slot) (x19 : Slot) (x26 : Slot) (x27 : Slot) (x28 : Slot) (x29 : Slot) (x30 : Slot) (x31 : Slot) (x32 : Slot) (hx0 : k1 x0) (hx1 : k1 x1) (hx2 : k1 x2) (hx3 : k1 x3) (hx4 : k1 x4) (hx6 : k1 x6) (hx7 : k1 x7) (hx8 : k1 x8) (hx9 : k1 x9) (hx10 : k1 x10) (hx11 : k1 x11) (hx12 : k1 x12) (hx13 : k1 x13) (hx18 : k1 x18) (hx19 : k1 x19) (hx26 : k1 x26) (hx27 : k1 x27) (hx28 : k1 x28) (hx29 : k1 x29) (hx30 : k1 x30) (hx31 : k1 x31) (hx32 : k1 x32) (o : Int32 × S), k377 v14 v15 v16 v17 v20 v21 v22 v23 v24 v25 t0 = some o → Go PP m60 377 [x0, x1, x2, x3, x4, .val (.ref 1), x6, x7, x8, x9, x10, x11, x12, x13, .val (.int v14), .val (.int v15), .val (.int v16), .val (.int v17), x18, x19, .val (.int v20), .val (.int v21), .val (.int v22), .val (.int v23), .val (.int v24), .val (.int v25), x26, x27, x28, x29, x30, x31, x32] [] (none, [(11, t0)]) (some (.int o.1), (none, [(11, o.2)]))
set_option maxRecDepth 65536 in
set_option maxHeartbeats 4000000 in
theorem law_554_ok {k377 : Int32 → Int32 → Int32 → Int32 → Int32 → Int32 → Int32 → Int32 → Int32 → Int32 → S → Option (Int32 × S)} (hk377 : T_law_377 k377) : ∀ (v14 : Int32) (v15 : Int32) (v16 : Int32) (v17 : Int32) (v20 : Int32) (v21 : Int32) (v22 : Int32) (v23 : Int32) (v24 : Int32) (v25 : Int32) (p0 : Int32) (p1 : Int32) (t0 : S) (x0 : Slot) (x1 : Slot) (x2 : Slot) (x3 : Slot) (x4 : Slot) (x6 : Slot) (x7 : Slot) (x8 : Slot) (x9 : Slot) (x10 : Slot) (x11 : Slot) (x12 : Slot) (x13 : Slot) (x18 : Slot) (x19 : Slot) (x26 : Slot) (x27 : Slot) (x28 : Slot) (x29 : Slot) (x30 : Slot) (x31 : Slot) (x32 : Slot) (hx0 : k1 x0) (hx1 : k1 x1) (hx2 : k1 x2) (hx3 : k1 x3) (hx4 : k1 x4) (hx6 : k1 x6) (hx7 : k1 x7) (hx8 : k1 x8) (hx9 : k1 x9) (hx10 : k1 x10) (hx11 : k1 x11) (hx12 : k1 x12) (hx13 : k1 x13) (hx18 : k1 x18) (hx19 : k1 x19) (hx26 : k1 x26) (hx27 : k1 x27) (hx28 : k1 x28) (hx29 : k1 x29) (hx30 : k1 x30) (hx31 : k1 x31) (hx32 : k1 x32) (o : Int32 × S), law_554 k377 v14 v15 v16 v17 v20 v21 v22 v23 v24 v25 p0 p1 t0 = some o → Go PP m60 554 [x0, x1, x2, x3, x4, .val (.ref 1), x6, x7, x8, x9, x10, x11, x12, x13, .val (.int v14), .val (.int v15), .val (.int v16), .val (.int v17), x18, x19, .val (.int v20), .val (.int v21), .val (.int v22), .val (.int v23), .val (.int v24), .val (.int v25), x26, x27, x28, x29, x30, x31, x32] [.int p0, .int p1] (none, [(11, t0)]) (some (.int o.1), (none, [(11, o.2)])) := by
  intro v14 v15 v16 v17 v20 v21 v22 v23 v24 v25 p0 p1 t0 x0 x1 x2 x3 x4 x6 x7 x8 x9 x10 x11 x12 x13 x18 x19 x26 x27 x28 x29 x30 x31 x32 hx0 hx1 hx2 hx3 hx4 hx6 hx7 hx8 hx9 hx10 hx11 hx12 hx13 hx18 hx19 hx26 hx27 hx28 hx29 hx30 hx31 hx32 o hf
  unfold law_554 at hf
  by_cases h1 : p1 = p0
  · replace hf := (if_pos h1).symm.trans hf
    refine go_icY (pc := 554) (pc' := 588) d60_554 (XT.ii_eq_t h1) j_554_34 ?_
    refine go_iinc (pc := 588) (L' := [x0, x1, x2, x3, x4, .val (.ref 1), x6, x7, x8, x9, x10, x11, x12, x13, .val (.int v14), .val (.int v15), .val (.int v16), .val (.int v17), x18, x19, .val (.int v20), .val (.int v21), .val (.int v22), .val (.int v23), .val (.int v24), .val (.int (v25 + (1 : Int32))), x26, x27, x28, x29, x30, x31, x32]) d60_588 rfl ci_1 rfl (go_goto (pc := 591) (pc' := 377) d60_591 j_591_m214 ?_)
    exact hk377 v14 v15 v16 v17 v20 v21 v22 v23 v24 (v25 + (1 : Int32)) t0 x0 x1 x2 x3 x4 x6 x7 x8 x9 x10 x11 x12 x13 x18 x19 x26 x27 x28 x29 x30 x31 x32 hx0 hx1 hx2 hx3 hx4 hx6 hx7 hx8 hx9 hx10 hx11 hx12 hx13 hx18 hx19 hx26 hx27 hx28 hx29 hx30 hx31 hx32 _ hf
  · replace hf := (if_neg h1).symm.trans hf
    refine go_icN (pc := 554) d60_554 (XT.ii_eq_f h1) ?_
    refine go_iconst (pc := 557) d60_557 ci_0 ?_
    cases hf
    exact go_zret (pc := 558) rfl d60_558 (show (0 : Int32) = nar .boolean (0 : Int32) by decide)
set_option maxRecDepth 65536 in
set_option maxHeartbeats 4000000 in
theorem law_523_ok {k377 : Int32 → Int32 → Int32 → Int32 → Int32 → Int32 → Int32 → Int32 → Int32 → Int32 → S → Option (Int32 × S)} (hk377 : T_law_377 k377) : ∀ (v14 : Int32) (v15 : Int32) (v16 : Int32) (v17 : Int32) (v20 : Int32) (v21 : Int32) (v22 : Int32) (v23 : Int32) (v24 : Int32) (v25 : Int32) (v27 : Int32) (v28 : Int32) (v29 : Int32) (v30 : Int32) (v31 : Int32) (v32 : Int32) (t0 : S) (x0 : Slot) (x1 : Slot) (x2 : Slot) (x3 : Slot) (x4 : Slot) (x6 : Slot) (x7 : Slot) (x8 : Slot) (x9 : Slot) (x10 : Slot) (x11 : Slot) (x12 : Slot) (x13 : Slot) (x18 : Slot) (x19 : Slot) (x26 : Slot) (hx0 : k1 x0) (hx1 : k1 x1) (hx2 : k1 x2) (hx3 : k1 x3) (hx4 : k1 x4) (hx6 : k1 x6) (hx7 : k1 x7) (hx8 : k1 x8) (hx9 : k1 x9) (hx10 : k1 x10) (hx11 : k1 x11) (hx12 : k1 x12) (hx13 : k1 x13) (hx18 : k1 x18) (hx19 : k1 x19) (hx26 : k1 x26) (o : Int32 × S), law_523 k377 v14 v15 v16 v17 v20 v21 v22 v23 v24 v25 v27 v28 v29 v30 v31 v32 t0 = some o → Go PP m60 523 [x0, x1, x2, x3, x4, .val (.ref 1), x6, x7, x8, x9, x10, x11, x12, x13, .val (.int v14), .val (.int v15), .val (.int v16), .val (.int v17), x18, x19, .val (.int v20), .val (.int v21), .val (.int v22), .val (.int v23), .val (.int v24), .val (.int v25), x26, .val (.int v27), .val (.int v28), .val (.int v29), .val (.int v30), .val (.int v31), .val (.int v32)] [] (none, [(11, t0)]) (some (.int o.1), (none, [(11, o.2)])) := by
  intro v14 v15 v16 v17 v20 v21 v22 v23 v24 v25 v27 v28 v29 v30 v31 v32 t0 x0 x1 x2 x3 x4 x6 x7 x8 x9 x10 x11 x12 x13 x18 x19 x26 hx0 hx1 hx2 hx3 hx4 hx6 hx7 hx8 hx9 hx10 hx11 hx12 hx13 hx18 hx19 hx26 o hf
  unfold law_523 at hf
  refine go_iload (pc := 523) d60_523 rfl ?_
  by_cases h1 : v29 = 0
  · replace hf := (if_pos h1).symm.trans hf
    refine go_ifY (pc := 525) (pc' := 557) d60_525 (XT.i0_eq_t h1) j_525_32 ?_
    refine go_iconst (pc := 557) d60_557 ci_0 ?_
    cases hf
    exact go_zret (pc := 558) rfl d60_558 (show (0 : Int32) = nar .boolean (0 : Int32) by decide)
  · replace hf := (if_neg h1).symm.trans hf
    refine go_ifN (pc := 525) d60_525 (XT.i0_eq_f h1) ?_
    refine go_iload (pc := 528) d60_528 rfl (go_iload (pc := 530) d60_530 rfl ?_)
    by_cases h2 : v30 = v27
    · replace hf := (if_pos h2).symm.trans hf
      refine go_icN (pc := 532) d60_532 (XT.ii_ne_f h2) ?_
      refine go_iload (pc := 535) d60_535 rfl (go_iload (pc := 537) d60_537 rfl ?_)
      by_cases h3 : v31 = v28
      · replace hf := (if_pos h3).symm.trans hf
        refine go_icN (pc := 539) d60_539 (XT.ii_ne_f h3) ?_
        refine go_iload (pc := 542) d60_542 rfl (go_iload (pc := 544) d60_544 rfl ?_)
        by_cases h4 : v27 = 0
        · refine go_ifN (pc := 546) d60_546 (XT.i0_ne_f h4) ?_
          refine go_iconst (pc := 549) d60_549 ci_1 (go_goto (pc := 550) (pc' := 554) d60_550 j_550_4 ?_)
          exact law_554_ok hk377 v14 v15 v16 v17 v20 v21 v22 v23 v24 v25 (1 : Int32) v32 t0 x0 x1 x2 x3 x4 x6 x7 x8 x9 x10 x11 x12 x13 x18 x19 x26 (.val (.int v27)) (.val (.int v28)) (.val (.int v29)) (.val (.int v30)) (.val (.int v31)) (.val (.int v32)) hx0 hx1 hx2 hx3 hx4 hx6 hx7 hx8 hx9 hx10 hx11 hx12 hx13 hx18 hx19 hx26 (Or.inr ⟨_, rfl, rfl⟩) (Or.inr ⟨_, rfl, rfl⟩) (Or.inr ⟨_, rfl, rfl⟩) (Or.inr ⟨_, rfl, rfl⟩) (Or.inr ⟨_, rfl, rfl⟩) (Or.inr ⟨_, rfl, rfl⟩) _ (by simpa only [if_pos h4] using hf)
        · refine go_ifY (pc := 546) (pc' := 553) d60_546 (XT.i0_ne_t h4) j_546_7 ?_
          refine go_iconst (pc := 553) d60_553 ci_0 ?_
          exact law_554_ok hk377 v14 v15 v16 v17 v20 v21 v22 v23 v24 v25 (0 : Int32) v32 t0 x0 x1 x2 x3 x4 x6 x7 x8 x9 x10 x11 x12 x13 x18 x19 x26 (.val (.int v27)) (.val (.int v28)) (.val (.int v29)) (.val (.int v30)) (.val (.int v31)) (.val (.int v32)) hx0 hx1 hx2 hx3 hx4 hx6 hx7 hx8 hx9 hx10 hx11 hx12 hx13 hx18 hx19 hx26 (Or.inr ⟨_, rfl, rfl⟩) (Or.inr ⟨_, rfl, rfl⟩) (Or.inr ⟨_, rfl, rfl⟩) (Or.inr ⟨_, rfl, rfl⟩) (Or.inr ⟨_, rfl, rfl⟩) (Or.inr ⟨_, rfl, rfl⟩) _ (by simpa only [if_neg h4] using hf)
      · replace hf := (if_neg h3).symm.trans hf
        refine go_icY (pc := 539) (pc' := 557) d60_539 (XT.ii_ne_t h3) j_539_18 ?_
        refine go_iconst (pc := 557) d60_557 ci_0 ?_
        cases hf
        exact go_zret (pc := 558) rfl d60_558 (show (0 : Int32) = nar .boolean (0 : Int32) by decide)
    · replace hf := (if_neg h2).symm.trans hf
      refine go_icY (pc := 532) (pc' := 557) d60_532 (XT.ii_ne_t h2) j_532_25 ?_
      refine go_iconst (pc := 557) d60_557 ci_0 ?_
      cases hf
      exact go_zret (pc := 558) rfl d60_558 (show (0 : Int32) = nar .boolean (0 : Int32) by decide)
set_option maxRecDepth 65536 in
set_option maxHeartbeats 4000000 in
theorem law_455_ok {k377 : Int32 → Int32 → Int32 → Int32 → Int32 → Int32 → Int32 → Int32 → Int32 → Int32 → S → Option (Int32 × S)} (hk377 : T_law_377 k377) : ∀ (v14 : Int32) (v15 : Int32) (v16 : Int32) (v17 : Int32) (v20 : Int32) (v21 : Int32) (v22 : Int32) (v23 : Int32) (v24 : Int32) (v25 : Int32) (v26 : Int32) (v27 : Int32) (t0 : S) (x0 : Slot) (x1 : Slot) (x2 : Slot) (x3 : Slot) (x4 : Slot) (x6 : Slot) (x7 : Slot) (x8 : Slot) (x9 : Slot) (x10 : Slot) (x11 : Slot) (x12 : Slot) (x13 : Slot) (x18 : Slot) (x19 : Slot) (x28 : Slot) (x29 : Slot) (x30 : Slot) (x31 : Slot) (x32 : Slot) (hx0 : k1 x0) (hx1 : k1 x1) (hx2 : k1 x2) (hx3 : k1 x3) (hx4 : k1 x4) (hx6 : k1 x6) (hx7 : k1 x7) (hx8 : k1 x8) (hx9 : k1 x9) (hx10 : k1 x10) (hx11 : k1 x11) (hx12 : k1 x12) (hx13 : k1 x13) (hx18 : k1 x18) (hx19 : k1 x19) (hx28 : k1 x28) (hx29 : k1 x29) (hx30 : k1 x30) (hx31 : k1 x31) (hx32 : k1 x32) (o : Int32 × S), law_455 k377 v14 v15 v16 v17 v20 v21 v22 v23 v24 v25 v26 v27 t0 = some o → Go PP m60 455 [x0, x1, x2, x3, x4, .val (.ref 1), x6, x7, x8, x9, x10, x11, x12, x13, .val (.int v14), .val (.int v15), .val (.int v16), .val (.int v17), x18, x19, .val (.int v20), .val (.int v21), .val (.int v22), .val (.int v23), .val (.int v24), .val (.int v25), .val (.int v26), .val (.int v27), x28, x29, x30, x31, x32] [] (none, [(11, t0)]) (some (.int o.1), (none, [(11, o.2)])) := by
  intro v14 v15 v16 v17 v20 v21 v22 v23 v24 v25 v26 v27 t0 x0 x1 x2 x3 x4 x6 x7 x8 x9 x10 x11 x12 x13 x18 x19 x28 x29 x30 x31 x32 hx0 hx1 hx2 hx3 hx4 hx6 hx7 hx8 hx9 hx10 hx11 hx12 hx13 hx18 hx19 hx28 hx29 hx30 hx31 hx32 o hf
  unfold law_455 at hf
  refine go_iload (pc := 455) d60_455 rfl (go_iload (pc := 457) d60_457 rfl (go_iload (pc := 459) d60_459 rfl (go_iload (pc := 461) d60_461 rfl (go_iload (pc := 463) d60_463 rfl ?_))))
  refine go_stat (pc := 465) (as := [.int v25, .int v14, .int v15, .int v16, .int v17]) (rest := []) (w' := (none, [(11, t0)])) lk_1_32 pd_51 rfl rfl ⟨Nat.le_of_ble_eq_true rfl, Nat.le_of_ble_eq_true rfl⟩ ⟨rfl, rfl, rfl⟩ ⟨rfl, rfl, rfl, rfl, rfl⟩ d60_465 (c_h_edge_n1 v25 v14 v15 v16 v17 t0) ?_
  refine go_istore (pc := 468) (L' := [x0, x1, x2, x3, x4, .val (.ref 1), x6, x7, x8, x9, x10, x11, x12, x13, .val (.int v14), .val (.int v15), .val (.int v16), .val (.int v17), x18, x19, .val (.int v20), .val (.int v21), .val (.int v22), .val (.int v23), .val (.int v24), .val (.int v25), .val (.int v26), .val (.int v27), .val (.int (h_edge v25 v14 v15 v16 v17)), x29, x30, x31, x32]) d60_468 (stx rfl hx28 rfl) (go_aload (pc := 470) d60_470 rfl (go_iload (pc := 472) d60_472 rfl ?_))
  obtain ⟨r474, e1, hf⟩ := Option.bind_eq_some_iff.mp hf
  refine go_virt (pc := 474) (i := 0) (as := [.int v25]) (rest := []) (w' := (none, [(11, t0)])) lk_1_39 pd_53 rfl oid_0 rfl rfl rfl rfl rfl rfl ⟨rfl, rfl, rfl, rfl, rfl⟩ d60_474 (c_k_isLive v25 t0 _ e1) ?_
  refine go_istore (pc := 477) (L' := [x0, x1, x2, x3, x4, .val (.ref 1), x6, x7, x8, x9, x10, x11, x12, x13, .val (.int v14), .val (.int v15), .val (.int v16), .val (.int v17), x18, x19, .val (.int v20), .val (.int v21), .val (.int v22), .val (.int v23), .val (.int v24), .val (.int v25), .val (.int v26), .val (.int v27), .val (.int (h_edge v25 v14 v15 v16 v17)), .val (.int r474), x30, x31, x32]) d60_477 (stx rfl hx29 rfl) (go_aload (pc := 479) d60_479 rfl (go_iload (pc := 481) d60_481 rfl ?_))
  obtain ⟨r483, e2, hf⟩ := Option.bind_eq_some_iff.mp hf
  refine go_virt (pc := 483) (i := 0) (as := [.int v25]) (rest := []) (w' := (none, [(11, t0)])) lk_1_43 pd_54 rfl oid_0 rfl rfl rfl rfl rfl rfl ⟨rfl, rfl, rfl, rfl, rfl⟩ d60_483 (c_k_count v25 t0 _ e2) ?_
  refine go_istore (pc := 486) (L' := [x0, x1, x2, x3, x4, .val (.ref 1), x6, x7, x8, x9, x10, x11, x12, x13, .val (.int v14), .val (.int v15), .val (.int v16), .val (.int v17), x18, x19, .val (.int v20), .val (.int v21), .val (.int v22), .val (.int v23), .val (.int v24), .val (.int v25), .val (.int v26), .val (.int v27), .val (.int (h_edge v25 v14 v15 v16 v17)), .val (.int r474), .val (.int r483), x31, x32]) d60_486 (stx rfl hx30 rfl) (go_aload (pc := 488) d60_488 rfl (go_iload (pc := 490) d60_490 rfl (go_iconst (pc := 492) d60_492 ci_0 ?_)))
  obtain ⟨r493, e3, hf⟩ := Option.bind_eq_some_iff.mp hf
  refine go_virt (pc := 493) (i := 0) (as := [.int v25, .int (0 : Int32)]) (rest := []) (w' := (none, [(11, t0)])) lk_1_46 pd_55 rfl oid_0 rfl rfl rfl rfl rfl rfl ⟨rfl, rfl, rfl, rfl, rfl⟩ d60_493 (c_k_field v25 (0 : Int32) t0 _ e3) ?_
  refine go_istore (pc := 496) (L' := [x0, x1, x2, x3, x4, .val (.ref 1), x6, x7, x8, x9, x10, x11, x12, x13, .val (.int v14), .val (.int v15), .val (.int v16), .val (.int v17), x18, x19, .val (.int v20), .val (.int v21), .val (.int v22), .val (.int v23), .val (.int v24), .val (.int v25), .val (.int v26), .val (.int v27), .val (.int (h_edge v25 v14 v15 v16 v17)), .val (.int r474), .val (.int r483), .val (.int r493), x32]) d60_496 (stx rfl hx31 rfl) (go_aload (pc := 498) d60_498 rfl (go_iload (pc := 500) d60_500 rfl ?_))
  obtain ⟨r502, e4, hf⟩ := Option.bind_eq_some_iff.mp hf
  refine go_virt (pc := 502) (i := 0) (as := [.int v25]) (rest := []) (w' := (none, [(11, t0)])) lk_1_50 pd_56 rfl oid_0 rfl rfl rfl rfl rfl rfl ⟨rfl, rfl, rfl, rfl, rfl⟩ d60_502 (c_k_inTable v25 t0 _ e4) ?_
  refine go_istore (pc := 505) (L' := [x0, x1, x2, x3, x4, .val (.ref 1), x6, x7, x8, x9, x10, x11, x12, x13, .val (.int v14), .val (.int v15), .val (.int v16), .val (.int v17), x18, x19, .val (.int v20), .val (.int v21), .val (.int v22), .val (.int v23), .val (.int v24), .val (.int v25), .val (.int v26), .val (.int v27), .val (.int (h_edge v25 v14 v15 v16 v17)), .val (.int r474), .val (.int r483), .val (.int r493), .val (.int r502)]) d60_505 (stx rfl hx32 rfl) (go_iload (pc := 507) d60_507 rfl ?_)
  by_cases h5 : v26 = 0
  · replace hf := (if_pos h5).symm.trans hf
    refine go_ifY (pc := 509) (pc' := 559) d60_509 (XT.i0_eq_t h5) j_509_50 ?_
    refine go_iinc (pc := 559) (L' := [x0, x1, x2, x3, x4, .val (.ref 1), x6, x7, x8, x9, x10, x11, x12, x13, .val (.int v14), .val (.int v15), .val (.int v16), .val (.int v17), x18, x19, .val (.int v20), .val (.int v21), .val (.int (v22 + (1 : Int32))), .val (.int v23), .val (.int v24), .val (.int v25), .val (.int v26), .val (.int v27), .val (.int (h_edge v25 v14 v15 v16 v17)), .val (.int r474), .val (.int r483), .val (.int r493), .val (.int r502)]) d60_559 rfl ci_1 rfl (go_iload (pc := 562) d60_562 rfl ?_)
    by_cases h6 : r474 = 0
    · replace hf := (if_pos h6).symm.trans hf
      refine go_ifN (pc := 564) d60_564 (XT.i0_ne_f h6) ?_
      refine go_iload (pc := 567) d60_567 rfl (go_bipush (pc := 569) d60_569 cb_m8 ?_)
      by_cases h7 : r483 = (-8 : Int32)
      · replace hf := (if_pos h7).symm.trans hf
        refine go_icN (pc := 571) d60_571 (XT.ii_ne_f h7) ?_
        refine go_iload (pc := 574) d60_574 rfl (go_bipush (pc := 576) d60_576 cb_m8 ?_)
        by_cases h8 : r493 = (-8 : Int32)
        · replace hf := (if_pos h8).symm.trans hf
          refine go_icN (pc := 578) d60_578 (XT.ii_ne_f h8) ?_
          refine go_iload (pc := 581) d60_581 rfl ?_
          by_cases h9 : r502 = 0
          · replace hf := (if_pos h9).symm.trans hf
            refine go_ifY (pc := 583) (pc' := 588) d60_583 (XT.i0_eq_t h9) j_583_5 ?_
            refine go_iinc (pc := 588) (L' := [x0, x1, x2, x3, x4, .val (.ref 1), x6, x7, x8, x9, x10, x11, x12, x13, .val (.int v14), .val (.int v15), .val (.int v16), .val (.int v17), x18, x19, .val (.int v20), .val (.int v21), .val (.int (v22 + (1 : Int32))), .val (.int v23), .val (.int v24), .val (.int (v25 + (1 : Int32))), .val (.int v26), .val (.int v27), .val (.int (h_edge v25 v14 v15 v16 v17)), .val (.int r474), .val (.int r483), .val (.int r493), .val (.int r502)]) d60_588 rfl ci_1 rfl (go_goto (pc := 591) (pc' := 377) d60_591 j_591_m214 ?_)
            exact hk377 v14 v15 v16 v17 v20 v21 (v22 + (1 : Int32)) v23 v24 (v25 + (1 : Int32)) t0 x0 x1 x2 x3 x4 x6 x7 x8 x9 x10 x11 x12 x13 x18 x19 (.val (.int v26)) (.val (.int v27)) (.val (.int (h_edge v25 v14 v15 v16 v17))) (.val (.int r474)) (.val (.int r483)) (.val (.int r493)) (.val (.int r502)) hx0 hx1 hx2 hx3 hx4 hx6 hx7 hx8 hx9 hx10 hx11 hx12 hx13 hx18 hx19 (Or.inr ⟨_, rfl, rfl⟩) (Or.inr ⟨_, rfl, rfl⟩) (Or.inr ⟨_, rfl, rfl⟩) (Or.inr ⟨_, rfl, rfl⟩) (Or.inr ⟨_, rfl, rfl⟩) (Or.inr ⟨_, rfl, rfl⟩) (Or.inr ⟨_, rfl, rfl⟩) _ hf
          · replace hf := (if_neg h9).symm.trans hf
            refine go_ifN (pc := 583) d60_583 (XT.i0_eq_f h9) ?_
            refine go_iconst (pc := 586) d60_586 ci_0 ?_
            cases hf
            exact go_zret (pc := 587) rfl d60_587 (show (0 : Int32) = nar .boolean (0 : Int32) by decide)
        · replace hf := (if_neg h8).symm.trans hf
          refine go_icY (pc := 578) (pc' := 586) d60_578 (XT.ii_ne_t h8) j_578_8 ?_
          refine go_iconst (pc := 586) d60_586 ci_0 ?_
          cases hf
          exact go_zret (pc := 587) rfl d60_587 (show (0 : Int32) = nar .boolean (0 : Int32) by decide)
      · replace hf := (if_neg h7).symm.trans hf
        refine go_icY (pc := 571) (pc' := 586) d60_571 (XT.ii_ne_t h7) j_571_15 ?_
        refine go_iconst (pc := 586) d60_586 ci_0 ?_
        cases hf
        exact go_zret (pc := 587) rfl d60_587 (show (0 : Int32) = nar .boolean (0 : Int32) by decide)
    · replace hf := (if_neg h6).symm.trans hf
      refine go_ifY (pc := 564) (pc' := 586) d60_564 (XT.i0_ne_t h6) j_564_22 ?_
      refine go_iconst (pc := 586) d60_586 ci_0 ?_
      cases hf
      exact go_zret (pc := 587) rfl d60_587 (show (0 : Int32) = nar .boolean (0 : Int32) by decide)
  · replace hf := (if_neg h5).symm.trans hf
    refine go_ifN (pc := 509) d60_509 (XT.i0_eq_f h5) ?_
    refine go_iinc (pc := 512) (L' := [x0, x1, x2, x3, x4, .val (.ref 1), x6, x7, x8, x9, x10, x11, x12, x13, .val (.int v14), .val (.int v15), .val (.int v16), .val (.int v17), x18, x19, .val (.int v20), .val (.int v21), .val (.int v22), .val (.int v23), .val (.int (v24 + (1 : Int32))), .val (.int v25), .val (.int v26), .val (.int v27), .val (.int (h_edge v25 v14 v15 v16 v17)), .val (.int r474), .val (.int r483), .val (.int r493), .val (.int r502)]) d60_512 rfl ci_1 rfl (go_iload (pc := 515) d60_515 rfl ?_)
    by_cases h10 : v27 = 0
    · refine go_ifN (pc := 517) d60_517 (XT.i0_ne_f h10) ?_
      refine go_iinc (pc := 520) (L' := [x0, x1, x2, x3, x4, .val (.ref 1), x6, x7, x8, x9, x10, x11, x12, x13, .val (.int v14), .val (.int v15), .val (.int v16), .val (.int v17), x18, x19, .val (.int v20), .val (.int v21), .val (.int v22), .val (.int (v23 + (1 : Int32))), .val (.int (v24 + (1 : Int32))), .val (.int v25), .val (.int v26), .val (.int v27), .val (.int (h_edge v25 v14 v15 v16 v17)), .val (.int r474), .val (.int r483), .val (.int r493), .val (.int r502)]) d60_520 rfl ci_1 rfl ?_
      exact law_523_ok hk377 v14 v15 v16 v17 v20 v21 v22 (v23 + (1 : Int32)) (v24 + (1 : Int32)) v25 v27 (h_edge v25 v14 v15 v16 v17) r474 r483 r493 r502 t0 x0 x1 x2 x3 x4 x6 x7 x8 x9 x10 x11 x12 x13 x18 x19 (.val (.int v26)) hx0 hx1 hx2 hx3 hx4 hx6 hx7 hx8 hx9 hx10 hx11 hx12 hx13 hx18 hx19 (Or.inr ⟨_, rfl, rfl⟩) _ (by simpa only [if_pos h10] using hf)
    · refine go_ifY (pc := 517) (pc' := 523) d60_517 (XT.i0_ne_t h10) j_517_6 ?_
      exact law_523_ok hk377 v14 v15 v16 v17 v20 v21 v22 v23 (v24 + (1 : Int32)) v25 v27 (h_edge v25 v14 v15 v16 v17) r474 r483 r493 r502 t0 x0 x1 x2 x3 x4 x6 x7 x8 x9 x10 x11 x12 x13 x18 x19 (.val (.int v26)) hx0 hx1 hx2 hx3 hx4 hx6 hx7 hx8 hx9 hx10 hx11 hx12 hx13 hx18 hx19 (Or.inr ⟨_, rfl, rfl⟩) _ (by simpa only [if_neg h10] using hf)
set_option maxRecDepth 65536 in
set_option maxHeartbeats 4000000 in
theorem law_407_ok {k377 : Int32 → Int32 → Int32 → Int32 → Int32 → Int32 → Int32 → Int32 → Int32 → Int32 → S → Option (Int32 × S)} (hk377 : T_law_377 k377) : ∀ (n : Nat) (v14 : Int32) (v15 : Int32) (v16 : Int32) (v17 : Int32) (v20 : Int32) (v21 : Int32) (v22 : Int32) (v23 : Int32) (v24 : Int32) (v25 : Int32) (v26 : Int32) (v27 : Int32) (v28 : Int32) (t0 : S) (x0 : Slot) (x1 : Slot) (x2 : Slot) (x3 : Slot) (x4 : Slot) (x6 : Slot) (x7 : Slot) (x8 : Slot) (x9 : Slot) (x10 : Slot) (x11 : Slot) (x12 : Slot) (x13 : Slot) (x18 : Slot) (x19 : Slot) (x29 : Slot) (x30 : Slot) (x31 : Slot) (x32 : Slot) (hx0 : k1 x0) (hx1 : k1 x1) (hx2 : k1 x2) (hx3 : k1 x3) (hx4 : k1 x4) (hx6 : k1 x6) (hx7 : k1 x7) (hx8 : k1 x8) (hx9 : k1 x9) (hx10 : k1 x10) (hx11 : k1 x11) (hx12 : k1 x12) (hx13 : k1 x13) (hx18 : k1 x18) (hx19 : k1 x19) (hx29 : k1 x29) (hx30 : k1 x30) (hx31 : k1 x31) (hx32 : k1 x32) (o : Int32 × S), law_407 k377 n v14 v15 v16 v17 v20 v21 v22 v23 v24 v25 v26 v27 v28 t0 = some o → Go PP m60 407 [x0, x1, x2, x3, x4, .val (.ref 1), x6, x7, x8, x9, x10, x11, x12, x13, .val (.int v14), .val (.int v15), .val (.int v16), .val (.int v17), x18, x19, .val (.int v20), .val (.int v21), .val (.int v22), .val (.int v23), .val (.int v24), .val (.int v25), .val (.int v26), .val (.int v27), .val (.int v28), x29, x30, x31, x32] [] (none, [(11, t0)]) (some (.int o.1), (none, [(11, o.2)])) := by
  intro n
  induction n with
  | zero => intro v14 v15 v16 v17 v20 v21 v22 v23 v24 v25 v26 v27 v28 t0 x0 x1 x2 x3 x4 x6 x7 x8 x9 x10 x11 x12 x13 x18 x19 x29 x30 x31 x32 hx0 hx1 hx2 hx3 hx4 hx6 hx7 hx8 hx9 hx10 hx11 hx12 hx13 hx18 hx19 hx29 hx30 hx31 hx32 o hf; exact nomatch hf
  | succ n ih =>
    intro v14 v15 v16 v17 v20 v21 v22 v23 v24 v25 v26 v27 v28 t0 x0 x1 x2 x3 x4 x6 x7 x8 x9 x10 x11 x12 x13 x18 x19 x29 x30 x31 x32 hx0 hx1 hx2 hx3 hx4 hx6 hx7 hx8 hx9 hx10 hx11 hx12 hx13 hx18 hx19 hx29 hx30 hx31 hx32 o hf
    unfold law_407 at hf
    refine go_iload (pc := 407) d60_407 rfl (go_iconst (pc := 409) d60_409 ci_4 ?_)
    by_cases h1 : v28 < (4 : Int32)
    · replace hf := (if_pos h1).symm.trans hf
      refine go_icN (pc := 410) d60_410 (XT.ii_ge_f h1) ?_
      refine go_iload (pc := 413) d60_413 rfl (go_iload (pc := 415) d60_415 rfl (go_iload (pc := 417) d60_417 rfl (go_iload (pc := 419) d60_419 rfl (go_iload (pc := 421) d60_421 rfl ?_))))
      refine go_stat (pc := 423) (as := [.int v28, .int v14, .int v15, .int v16, .int v17]) (rest := []) (w' := (none, [(11, t0)])) lk_1_32 pd_51 rfl rfl ⟨Nat.le_of_ble_eq_true rfl, Nat.le_of_ble_eq_true rfl⟩ ⟨rfl, rfl, rfl⟩ ⟨rfl, rfl, rfl, rfl, rfl⟩ d60_423 (c_h_edge_n1 v28 v14 v15 v16 v17 t0) ?_
      refine go_istore (pc := 426) (L' := [x0, x1, x2, x3, x4, .val (.ref 1), x6, x7, x8, x9, x10, x11, x12, x13, .val (.int v14), .val (.int v15), .val (.int v16), .val (.int v17), x18, x19, .val (.int v20), .val (.int v21), .val (.int v22), .val (.int v23), .val (.int v24), .val (.int v25), .val (.int v26), .val (.int v27), .val (.int v28), .val (.int (h_edge v28 v14 v15 v16 v17)), x30, x31, x32]) d60_426 (stx rfl hx29 rfl) (go_iload (pc := 428) d60_428 rfl (go_iload (pc := 430) d60_430 rfl (go_ishr (pc := 432) d60_432 (go_iconst (pc := 433) d60_433 ci_1 (go_iand (pc := 434) d60_434 (go_iconst (pc := 435) d60_435 ci_1 ?_))))))
      by_cases h2 : ((v20 >>> (v28 &&& 31)) &&& (1 : Int32)) = (1 : Int32)
      · refine go_icN (pc := 436) d60_436 (XT.ii_ne_f h2) ?_
        refine go_iload (pc := 439) d60_439 rfl (go_iload (pc := 441) d60_441 rfl ?_)
        by_cases h3 : (h_edge v28 v14 v15 v16 v17) = v25
        · refine go_icN (pc := 443) d60_443 (XT.ii_ne_f h3) ?_
          refine go_iinc (pc := 446) (L' := [x0, x1, x2, x3, x4, .val (.ref 1), x6, x7, x8, x9, x10, x11, x12, x13, .val (.int v14), .val (.int v15), .val (.int v16), .val (.int v17), x18, x19, .val (.int v20), .val (.int v21), .val (.int v22), .val (.int v23), .val (.int v24), .val (.int v25), .val (.int v26), .val (.int (v27 + (1 : Int32))), .val (.int v28), .val (.int (h_edge v28 v14 v15 v16 v17)), x30, x31, x32]) d60_446 rfl ci_1 rfl (go_iinc (pc := 449) (L' := [x0, x1, x2, x3, x4, .val (.ref 1), x6, x7, x8, x9, x10, x11, x12, x13, .val (.int v14), .val (.int v15), .val (.int v16), .val (.int v17), x18, x19, .val (.int v20), .val (.int v21), .val (.int v22), .val (.int v23), .val (.int v24), .val (.int v25), .val (.int v26), .val (.int (v27 + (1 : Int32))), .val (.int (v28 + (1 : Int32))), .val (.int (h_edge v28 v14 v15 v16 v17)), x30, x31, x32]) d60_449 rfl ci_1 rfl (go_goto (pc := 452) (pc' := 407) d60_452 j_452_m45 ?_))
          exact ih v14 v15 v16 v17 v20 v21 v22 v23 v24 v25 v26 (v27 + (1 : Int32)) (v28 + (1 : Int32)) t0 x0 x1 x2 x3 x4 x6 x7 x8 x9 x10 x11 x12 x13 x18 x19 (.val (.int (h_edge v28 v14 v15 v16 v17))) x30 x31 x32 hx0 hx1 hx2 hx3 hx4 hx6 hx7 hx8 hx9 hx10 hx11 hx12 hx13 hx18 hx19 (Or.inr ⟨_, rfl, rfl⟩) hx30 hx31 hx32 _ (by simpa only [if_pos h2, if_pos h3] using hf)
        · refine go_icY (pc := 443) (pc' := 449) d60_443 (XT.ii_ne_t h3) j_443_6 ?_
          refine go_iinc (pc := 449) (L' := [x0, x1, x2, x3, x4, .val (.ref 1), x6, x7, x8, x9, x10, x11, x12, x13, .val (.int v14), .val (.int v15), .val (.int v16), .val (.int v17), x18, x19, .val (.int v20), .val (.int v21), .val (.int v22), .val (.int v23), .val (.int v24), .val (.int v25), .val (.int v26), .val (.int v27), .val (.int (v28 + (1 : Int32))), .val (.int (h_edge v28 v14 v15 v16 v17)), x30, x31, x32]) d60_449 rfl ci_1 rfl (go_goto (pc := 452) (pc' := 407) d60_452 j_452_m45 ?_)
          exact ih v14 v15 v16 v17 v20 v21 v22 v23 v24 v25 v26 v27 (v28 + (1 : Int32)) t0 x0 x1 x2 x3 x4 x6 x7 x8 x9 x10 x11 x12 x13 x18 x19 (.val (.int (h_edge v28 v14 v15 v16 v17))) x30 x31 x32 hx0 hx1 hx2 hx3 hx4 hx6 hx7 hx8 hx9 hx10 hx11 hx12 hx13 hx18 hx19 (Or.inr ⟨_, rfl, rfl⟩) hx30 hx31 hx32 _ (by simpa only [if_pos h2, if_neg h3] using hf)
      · refine go_icY (pc := 436) (pc' := 449) d60_436 (XT.ii_ne_t h2) j_436_13 ?_
        refine go_iinc (pc := 449) (L' := [x0, x1, x2, x3, x4, .val (.ref 1), x6, x7, x8, x9, x10, x11, x12, x13, .val (.int v14), .val (.int v15), .val (.int v16), .val (.int v17), x18, x19, .val (.int v20), .val (.int v21), .val (.int v22), .val (.int v23), .val (.int v24), .val (.int v25), .val (.int v26), .val (.int v27), .val (.int (v28 + (1 : Int32))), .val (.int (h_edge v28 v14 v15 v16 v17)), x30, x31, x32]) d60_449 rfl ci_1 rfl (go_goto (pc := 452) (pc' := 407) d60_452 j_452_m45 ?_)
        exact ih v14 v15 v16 v17 v20 v21 v22 v23 v24 v25 v26 v27 (v28 + (1 : Int32)) t0 x0 x1 x2 x3 x4 x6 x7 x8 x9 x10 x11 x12 x13 x18 x19 (.val (.int (h_edge v28 v14 v15 v16 v17))) x30 x31 x32 hx0 hx1 hx2 hx3 hx4 hx6 hx7 hx8 hx9 hx10 hx11 hx12 hx13 hx18 hx19 (Or.inr ⟨_, rfl, rfl⟩) hx30 hx31 hx32 _ (by simpa only [if_neg h2] using hf)
    · replace hf := (if_neg h1).symm.trans hf
      refine go_icY (pc := 410) (pc' := 455) d60_410 (XT.ii_ge_t h1) j_410_45 ?_
      exact law_455_ok hk377 v14 v15 v16 v17 v20 v21 v22 v23 v24 v25 v26 v27 t0 x0 x1 x2 x3 x4 x6 x7 x8 x9 x10 x11 x12 x13 x18 x19 (.val (.int v28)) x29 x30 x31 x32 hx0 hx1 hx2 hx3 hx4 hx6 hx7 hx8 hx9 hx10 hx11 hx12 hx13 hx18 hx19 (Or.inr ⟨_, rfl, rfl⟩) hx29 hx30 hx31 hx32 _ hf
set_option maxRecDepth 65536 in
set_option maxHeartbeats 4000000 in
theorem law_399_ok {k377 : Int32 → Int32 → Int32 → Int32 → Int32 → Int32 → Int32 → Int32 → Int32 → Int32 → S → Option (Int32 × S)} (hk377 : T_law_377 k377) : ∀ (v14 : Int32) (v15 : Int32) (v16 : Int32) (v17 : Int32) (v20 : Int32) (v21 : Int32) (v22 : Int32) (v23 : Int32) (v24 : Int32) (v25 : Int32) (p0 : Int32) (t0 : S) (x0 : Slot) (x1 : Slot) (x2 : Slot) (x3 : Slot) (x4 : Slot) (x6 : Slot) (x7 : Slot) (x8 : Slot) (x9 : Slot) (x10 : Slot) (x11 : Slot) (x12 : Slot) (x13 : Slot) (x18 : Slot) (x19 : Slot) (x26 : Slot) (x27 : Slot) (x28 : Slot) (x29 : Slot) (x30 : Slot) (x31 : Slot) (x32 : Slot) (hx0 : k1 x0) (hx1 : k1 x1) (hx2 : k1 x2) (hx3 : k1 x3) (hx4 : k1 x4) (hx6 : k1 x6) (hx7 : k1 x7) (hx8 : k1 x8) (hx9 : k1 x9) (hx10 : k1 x10) (hx11 : k1 x11) (hx12 : k1 x12) (hx13 : k1 x13) (hx18 : k1 x18) (hx19 : k1 x19) (hx26 : k1 x26) (hx27 : k1 x27) (hx28 : k1 x28) (hx29 : k1 x29) (hx30 : k1 x30) (hx31 : k1 x31) (hx32 : k1 x32) (o : Int32 × S), law_399 k377 v14 v15 v16 v17 v20 v21 v22 v23 v24 v25 p0 t0 = some o → Go PP m60 399 [x0, x1, x2, x3, x4, .val (.ref 1), x6, x7, x8, x9, x10, x11, x12, x13, .val (.int v14), .val (.int v15), .val (.int v16), .val (.int v17), x18, x19, .val (.int v20), .val (.int v21), .val (.int v22), .val (.int v23), .val (.int v24), .val (.int v25), x26, x27, x28, x29, x30, x31, x32] [.int p0] (none, [(11, t0)]) (some (.int o.1), (none, [(11, o.2)])) := by
  intro v14 v15 v16 v17 v20 v21 v22 v23 v24 v25 p0 t0 x0 x1 x2 x3 x4 x6 x7 x8 x9 x10 x11 x12 x13 x18 x19 x26 x27 x28 x29 x30 x31 x32 hx0 hx1 hx2 hx3 hx4 hx6 hx7 hx8 hx9 hx10 hx11 hx12 hx13 hx18 hx19 hx26 hx27 hx28 hx29 hx30 hx31 hx32 o hf
  unfold law_399 at hf
  refine go_istore (pc := 399) (L' := [x0, x1, x2, x3, x4, .val (.ref 1), x6, x7, x8, x9, x10, x11, x12, x13, .val (.int v14), .val (.int v15), .val (.int v16), .val (.int v17), x18, x19, .val (.int v20), .val (.int v21), .val (.int v22), .val (.int v23), .val (.int v24), .val (.int v25), .val (.int p0), x27, x28, x29, x30, x31, x32]) d60_399 (stx rfl hx26 rfl) (go_iconst (pc := 401) d60_401 ci_0 (go_istore (pc := 402) (L' := [x0, x1, x2, x3, x4, .val (.ref 1), x6, x7, x8, x9, x10, x11, x12, x13, .val (.int v14), .val (.int v15), .val (.int v16), .val (.int v17), x18, x19, .val (.int v20), .val (.int v21), .val (.int v22), .val (.int v23), .val (.int v24), .val (.int v25), .val (.int p0), .val (.int (0 : Int32)), x28, x29, x30, x31, x32]) d60_402 (stx rfl hx27 rfl) (go_iconst (pc := 404) d60_404 ci_0 (go_istore (pc := 405) (L' := [x0, x1, x2, x3, x4, .val (.ref 1), x6, x7, x8, x9, x10, x11, x12, x13, .val (.int v14), .val (.int v15), .val (.int v16), .val (.int v17), x18, x19, .val (.int v20), .val (.int v21), .val (.int v22), .val (.int v23), .val (.int v24), .val (.int v25), .val (.int p0), .val (.int (0 : Int32)), .val (.int (0 : Int32)), x29, x30, x31, x32]) d60_405 (stx rfl hx28 rfl) ?_))))
  exact law_407_ok hk377 BIG v14 v15 v16 v17 v20 v21 v22 v23 v24 v25 p0 (0 : Int32) (0 : Int32) t0 x0 x1 x2 x3 x4 x6 x7 x8 x9 x10 x11 x12 x13 x18 x19 x29 x30 x31 x32 hx0 hx1 hx2 hx3 hx4 hx6 hx7 hx8 hx9 hx10 hx11 hx12 hx13 hx18 hx19 hx29 hx30 hx31 hx32 _ hf
set_option maxRecDepth 65536 in
set_option maxHeartbeats 4000000 in
theorem law_377_ok  : ∀ (n : Nat) (v14 : Int32) (v15 : Int32) (v16 : Int32) (v17 : Int32) (v20 : Int32) (v21 : Int32) (v22 : Int32) (v23 : Int32) (v24 : Int32) (v25 : Int32) (t0 : S) (x0 : Slot) (x1 : Slot) (x2 : Slot) (x3 : Slot) (x4 : Slot) (x6 : Slot) (x7 : Slot) (x8 : Slot) (x9 : Slot) (x10 : Slot) (x11 : Slot) (x12 : Slot) (x13 : Slot) (x18 : Slot) (x19 : Slot) (x26 : Slot) (x27 : Slot) (x28 : Slot) (x29 : Slot) (x30 : Slot) (x31 : Slot) (x32 : Slot) (hx0 : k1 x0) (hx1 : k1 x1) (hx2 : k1 x2) (hx3 : k1 x3) (hx4 : k1 x4) (hx6 : k1 x6) (hx7 : k1 x7) (hx8 : k1 x8) (hx9 : k1 x9) (hx10 : k1 x10) (hx11 : k1 x11) (hx12 : k1 x12) (hx13 : k1 x13) (hx18 : k1 x18) (hx19 : k1 x19) (hx26 : k1 x26) (hx27 : k1 x27) (hx28 : k1 x28) (hx29 : k1 x29) (hx30 : k1 x30) (hx31 : k1 x31) (hx32 : k1 x32) (o : Int32 × S), law_377 n v14 v15 v16 v17 v20 v21 v22 v23 v24 v25 t0 = some o → Go PP m60 377 [x0, x1, x2, x3, x4, .val (.ref 1), x6, x7, x8, x9, x10, x11, x12, x13, .val (.int v14), .val (.int v15), .val (.int v16), .val (.int v17), x18, x19, .val (.int v20), .val (.int v21), .val (.int v22), .val (.int v23), .val (.int v24), .val (.int v25), x26, x27, x28, x29, x30, x31, x32] [] (none, [(11, t0)]) (some (.int o.1), (none, [(11, o.2)])) := by
  intro n
  induction n with
  | zero => intro v14 v15 v16 v17 v20 v21 v22 v23 v24 v25 t0 x0 x1 x2 x3 x4 x6 x7 x8 x9 x10 x11 x12 x13 x18 x19 x26 x27 x28 x29 x30 x31 x32 hx0 hx1 hx2 hx3 hx4 hx6 hx7 hx8 hx9 hx10 hx11 hx12 hx13 hx18 hx19 hx26 hx27 hx28 hx29 hx30 hx31 hx32 o hf; exact nomatch hf
  | succ n ih =>
    intro v14 v15 v16 v17 v20 v21 v22 v23 v24 v25 t0 x0 x1 x2 x3 x4 x6 x7 x8 x9 x10 x11 x12 x13 x18 x19 x26 x27 x28 x29 x30 x31 x32 hx0 hx1 hx2 hx3 hx4 hx6 hx7 hx8 hx9 hx10 hx11 hx12 hx13 hx18 hx19 hx26 hx27 hx28 hx29 hx30 hx31 hx32 o hf
    unfold law_377 at hf
    refine go_iload (pc := 377) d60_377 rfl (go_iconst (pc := 379) d60_379 ci_4 ?_)
    by_cases h1 : v25 < (4 : Int32)
    · replace hf := (if_pos h1).symm.trans hf
      refine go_icN (pc := 380) d60_380 (XT.ii_ge_f h1) ?_
      refine go_iload (pc := 383) d60_383 rfl (go_iload (pc := 385) d60_385 rfl (go_ishr (pc := 387) d60_387 (go_iconst (pc := 388) d60_388 ci_1 (go_iand (pc := 389) d60_389 (go_iconst (pc := 390) d60_390 ci_1 ?_)))))
      by_cases h2 : ((v20 >>> (v25 &&& 31)) &&& (1 : Int32)) = (1 : Int32)
      · refine go_icN (pc := 391) d60_391 (XT.ii_ne_f h2) ?_
        refine go_iconst (pc := 394) d60_394 ci_1 (go_goto (pc := 395) (pc' := 399) d60_395 j_395_4 ?_)
        exact law_399_ok ih v14 v15 v16 v17 v20 v21 v22 v23 v24 v25 (1 : Int32) t0 x0 x1 x2 x3 x4 x6 x7 x8 x9 x10 x11 x12 x13 x18 x19 x26 x27 x28 x29 x30 x31 x32 hx0 hx1 hx2 hx3 hx4 hx6 hx7 hx8 hx9 hx10 hx11 hx12 hx13 hx18 hx19 hx26 hx27 hx28 hx29 hx30 hx31 hx32 _ (by simpa only [if_pos h2] using hf)
      · refine go_icY (pc := 391) (pc' := 398) d60_391 (XT.ii_ne_t h2) j_391_7 ?_
        refine go_iconst (pc := 398) d60_398 ci_0 ?_
        exact law_399_ok ih v14 v15 v16 v17 v20 v21 v22 v23 v24 v25 (0 : Int32) t0 x0 x1 x2 x3 x4 x6 x7 x8 x9 x10 x11 x12 x13 x18 x19 x26 x27 x28 x29 x30 x31 x32 hx0 hx1 hx2 hx3 hx4 hx6 hx7 hx8 hx9 hx10 hx11 hx12 hx13 hx18 hx19 hx26 hx27 hx28 hx29 hx30 hx31 hx32 _ (by simpa only [if_neg h2] using hf)
    · replace hf := (if_neg h1).symm.trans hf
      refine go_icY (pc := 380) (pc' := 594) d60_380 (XT.ii_ge_t h1) j_380_214 ?_
      exact law_594_ok v21 v22 v23 v24 t0 x0 x1 x2 x3 x4 x6 x7 x8 x9 x10 x11 x12 x13 (.val (.int v14)) (.val (.int v15)) (.val (.int v16)) (.val (.int v17)) x18 x19 (.val (.int v20)) (.val (.int v25)) x26 x27 x28 x29 x30 x31 x32 hx0 hx1 hx2 hx3 hx4 hx6 hx7 hx8 hx9 hx10 hx11 hx12 hx13 (Or.inr ⟨_, rfl, rfl⟩) (Or.inr ⟨_, rfl, rfl⟩) (Or.inr ⟨_, rfl, rfl⟩) (Or.inr ⟨_, rfl, rfl⟩) hx18 hx19 (Or.inr ⟨_, rfl, rfl⟩) (Or.inr ⟨_, rfl, rfl⟩) hx26 hx27 hx28 hx29 hx30 hx31 hx32 _ hf
set_option maxRecDepth 65536 in
set_option maxHeartbeats 4000000 in
theorem law_358_ok  : ∀ (v14 : Int32) (v15 : Int32) (v16 : Int32) (v17 : Int32) (v20 : Int32) (t0 : S) (x0 : Slot) (x1 : Slot) (x2 : Slot) (x3 : Slot) (x4 : Slot) (x6 : Slot) (x7 : Slot) (x8 : Slot) (x9 : Slot) (x10 : Slot) (x11 : Slot) (x12 : Slot) (x13 : Slot) (x18 : Slot) (x19 : Slot) (x21 : Slot) (x22 : Slot) (x23 : Slot) (x24 : Slot) (x25 : Slot) (hx0 : k1 x0) (hx1 : k1 x1) (hx2 : k1 x2) (hx3 : k1 x3) (hx4 : k1 x4) (hx6 : k1 x6) (hx7 : k1 x7) (hx8 : k1 x8) (hx9 : k1 x9) (hx10 : k1 x10) (hx11 : k1 x11) (hx12 : k1 x12) (hx13 : k1 x13) (hx18 : k1 x18) (hx19 : k1 x19) (hx21 : k1 x21) (hx22 : k1 x22) (hx23 : k1 x23) (hx24 : k1 x24) (hx25 : k1 x25) (o : Int32 × S), law_358 v14 v15 v16 v17 v20 t0 = some o → Go PP m60 358 [x0, x1, x2, x3, x4, .val (.ref 1), x6, x7, x8, x9, x10, x11, x12, x13, .val (.int v14), .val (.int v15), .val (.int v16), .val (.int v17), x18, x19, .val (.int v20), x21, x22, x23, x24, x25, .unset, .unset, .unset, .unset, .unset, .unset, .unset] [] (none, [(11, t0)]) (some (.int o.1), (none, [(11, o.2)])) := by
  intro v14 v15 v16 v17 v20 t0 x0 x1 x2 x3 x4 x6 x7 x8 x9 x10 x11 x12 x13 x18 x19 x21 x22 x23 x24 x25 hx0 hx1 hx2 hx3 hx4 hx6 hx7 hx8 hx9 hx10 hx11 hx12 hx13 hx18 hx19 hx21 hx22 hx23 hx24 hx25 o hf
  unfold law_358 at hf
  refine go_aload (pc := 358) d60_358 rfl ?_
  obtain ⟨r360, e1, hf⟩ := Option.bind_eq_some_iff.mp hf
  refine go_virt (pc := 360) (i := 0) (as := []) (rest := []) (w' := (none, [(11, r360.2)])) lk_1_36 pd_52 rfl oid_0 rfl rfl rfl rfl rfl rfl ⟨rfl, rfl, rfl, rfl, rfl⟩ d60_360 (c_k_reconcile t0 _ e1) ?_
  refine go_istore (pc := 363) (L' := [x0, x1, x2, x3, x4, .val (.ref 1), x6, x7, x8, x9, x10, x11, x12, x13, .val (.int v14), .val (.int v15), .val (.int v16), .val (.int v17), x18, x19, .val (.int v20), .val (.int r360.1), x22, x23, x24, x25, .unset, .unset, .unset, .unset, .unset, .unset, .unset]) d60_363 (stx rfl hx21 rfl) (go_iconst (pc := 365) d60_365 ci_0 (go_istore (pc := 366) (L' := [x0, x1, x2, x3, x4, .val (.ref 1), x6, x7, x8, x9, x10, x11, x12, x13, .val (.int v14), .val (.int v15), .val (.int v16), .val (.int v17), x18, x19, .val (.int v20), .val (.int r360.1), .val (.int (0 : Int32)), x23, x24, x25, .unset, .unset, .unset, .unset, .unset, .unset, .unset]) d60_366 (stx rfl hx22 rfl) (go_iconst (pc := 368) d60_368 ci_0 (go_istore (pc := 369) (L' := [x0, x1, x2, x3, x4, .val (.ref 1), x6, x7, x8, x9, x10, x11, x12, x13, .val (.int v14), .val (.int v15), .val (.int v16), .val (.int v17), x18, x19, .val (.int v20), .val (.int r360.1), .val (.int (0 : Int32)), .val (.int (0 : Int32)), x24, x25, .unset, .unset, .unset, .unset, .unset, .unset, .unset]) d60_369 (stx rfl hx23 rfl) (go_iconst (pc := 371) d60_371 ci_0 (go_istore (pc := 372) (L' := [x0, x1, x2, x3, x4, .val (.ref 1), x6, x7, x8, x9, x10, x11, x12, x13, .val (.int v14), .val (.int v15), .val (.int v16), .val (.int v17), x18, x19, .val (.int v20), .val (.int r360.1), .val (.int (0 : Int32)), .val (.int (0 : Int32)), .val (.int (0 : Int32)), x25, .unset, .unset, .unset, .unset, .unset, .unset, .unset]) d60_372 (stx rfl hx24 rfl) (go_iconst (pc := 374) d60_374 ci_0 ?_)))))))
  refine go_istore (pc := 375) (L' := [x0, x1, x2, x3, x4, .val (.ref 1), x6, x7, x8, x9, x10, x11, x12, x13, .val (.int v14), .val (.int v15), .val (.int v16), .val (.int v17), x18, x19, .val (.int v20), .val (.int r360.1), .val (.int (0 : Int32)), .val (.int (0 : Int32)), .val (.int (0 : Int32)), .val (.int (0 : Int32)), .unset, .unset, .unset, .unset, .unset, .unset, .unset]) d60_375 (stx rfl hx25 rfl) ?_
  exact law_377_ok BIG v14 v15 v16 v17 v20 r360.1 (0 : Int32) (0 : Int32) (0 : Int32) (0 : Int32) r360.2 x0 x1 x2 x3 x4 x6 x7 x8 x9 x10 x11 x12 x13 x18 x19 .unset .unset .unset .unset .unset .unset .unset hx0 hx1 hx2 hx3 hx4 hx6 hx7 hx8 hx9 hx10 hx11 hx12 hx13 hx18 hx19 (Or.inl rfl) (Or.inl rfl) (Or.inl rfl) (Or.inl rfl) (Or.inl rfl) (Or.inl rfl) (Or.inl rfl) _ hf
def T_law_240 (k240 : Int32 → Int32 → Int32 → Int32 → Int32 → Int32 → Int32 → S → Option (Int32 × S)) : Prop := ∀ (v14 : Int32) (v15 : Int32) (v16 : Int32) (v17 : Int32) (v19 : Int32) (v20 : Int32) (v21 : Int32) (t0 : S) (x0 : Slot) (x1 : Slot) (x2 : Slot) (x3 : Slot) (x4 : Slot) (x6 : Slot) (x7 : Slot) (x8 : Slot) (x9 : Slot) (x10 : Slot) (x11 : Slot) (x12 : Slot) (x13 : Slot) (x18 : Slot) (x22 : Slot) (x23 : Slot) (x24 : Slot) (x25 : Slot) (hx0 : k1 x0) (hx1 : k1 x1) (hx2 : k1 x2) (hx3 : k1 x3) (hx4 : k1 x4) (hx6 : k1 x6) (hx7 : k1 x7) (hx8 : k1 x8) (hx9 : k1 x9) (hx10 : k1 x10) (hx11 : k1 x11) (hx12 : k1 x12) (hx13 : k1 x13) (hx18 : k1 x18) (hx22 : k1 x22) (hx23 : k1 x23) (hx24 : k1 x24) (hx25 : k1 x25) (o : Int32 × S), k240 v14 v15 v16 v17 v19 v20 v21 t0 = some o → Go PP m60 240 [x0, x1, x2, x3, x4, .val (.ref 1), x6, x7, x8, x9, x10, x11, x12, x13, .val (.int v14), .val (.int v15), .val (.int v16), .val (.int v17), x18, .val (.int v19), .val (.int v20), .val (.int v21), x22, x23, x24, x25, .unset, .unset, .unset, .unset, .unset, .unset, .unset] [] (none, [(11, t0)]) (some (.int o.1), (none, [(11, o.2)]))
def T_law_249 (k249 : Int32 → Int32 → Int32 → Int32 → Int32 → Int32 → Int32 → Int32 → S → Option (Int32 × S)) : Prop := ∀ (v14 : Int32) (v15 : Int32) (v16 : Int32) (v17 : Int32) (v19 : Int32) (v20 : Int32) (v21 : Int32) (v22 : Int32) (t0 : S) (x0 : Slot) (x1 : Slot) (x2 : Slot) (x3 : Slot) (x4 : Slot) (x6 : Slot) (x7 : Slot) (x8 : Slot) (x9 : Slot) (x10 : Slot) (x11 : Slot) (x12 : Slot) (x13 : Slot) (x18 : Slot) (x23 : Slot) (x24 : Slot) (x25 : Slot) (hx0 : k1 x0) (hx1 : k1 x1) (hx2 : k1 x2) (hx3 : k1 x3) (hx4 : k1 x4) (hx6 : k1 x6) (hx7 : k1 x7) (hx8 : k1 x8) (hx9 : k1 x9) (hx10 : k1 x10) (hx11 : k1 x11) (hx12 : k1 x12) (hx13 : k1 x13) (hx18 : k1 x18) (hx23 : k1 x23) (hx24 : k1 x24) (hx25 : k1 x25) (o : Int32 × S), k249 v14 v15 v16 v17 v19 v20 v21 v22 t0 = some o → Go PP m60 249 [x0, x1, x2, x3, x4, .val (.ref 1), x6, x7, x8, x9, x10, x11, x12, x13, .val (.int v14), .val (.int v15), .val (.int v16), .val (.int v17), x18, .val (.int v19), .val (.int v20), .val (.int v21), .val (.int v22), x23, x24, x25, .unset, .unset, .unset, .unset, .unset, .unset, .unset] [] (none, [(11, t0)]) (some (.int o.1), (none, [(11, o.2)]))
set_option maxRecDepth 65536 in
set_option maxHeartbeats 4000000 in
theorem law_330_ok {k240 : Int32 → Int32 → Int32 → Int32 → Int32 → Int32 → Int32 → S → Option (Int32 × S)} {k249 : Int32 → Int32 → Int32 → Int32 → Int32 → Int32 → Int32 → Int32 → S → Option (Int32 × S)} (hk240 : T_law_240 k240) (hk249 : T_law_249 k249) : ∀ (v14 : Int32) (v15 : Int32) (v16 : Int32) (v17 : Int32) (v19 : Int32) (v20 : Int32) (v21 : Int32) (v22 : Int32) (v23 : Int32) (t0 : S) (x0 : Slot) (x1 : Slot) (x2 : Slot) (x3 : Slot) (x4 : Slot) (x6 : Slot) (x7 : Slot) (x8 : Slot) (x9 : Slot) (x10 : Slot) (x11 : Slot) (x12 : Slot) (x13 : Slot) (x18 : Slot) (x24 : Slot) (x25 : Slot) (hx0 : k1 x0) (hx1 : k1 x1) (hx2 : k1 x2) (hx3 : k1 x3) (hx4 : k1 x4) (hx6 : k1 x6) (hx7 : k1 x7) (hx8 : k1 x8) (hx9 : k1 x9) (hx10 : k1 x10) (hx11 : k1 x11) (hx12 : k1 x12) (hx13 : k1 x13) (hx18 : k1 x18) (hx24 : k1 x24) (hx25 : k1 x25) (o : Int32 × S), law_330 k240 k249 v14 v15 v16 v17 v19 v20 v21 v22 v23 t0 = some o → Go PP m60 330 [x0, x1, x2, x3, x4, .val (.ref 1), x6, x7, x8, x9, x10, x11, x12, x13, .val (.int v14), .val (.int v15), .val (.int v16), .val (.int v17), x18, .val (.int v19), .val (.int v20), .val (.int v21), .val (.int v22), .val (.int v23), x24, x25, .unset, .unset, .unset, .unset, .unset, .unset, .unset] [] (none, [(11, t0)]) (some (.int o.1), (none, [(11, o.2)])) := by
  intro v14 v15 v16 v17 v19 v20 v21 v22 v23 t0 x0 x1 x2 x3 x4 x6 x7 x8 x9 x10 x11 x12 x13 x18 x24 x25 hx0 hx1 hx2 hx3 hx4 hx6 hx7 hx8 hx9 hx10 hx11 hx12 hx13 hx18 hx24 hx25 o hf
  unfold law_330 at hf
  refine go_iload (pc := 330) d60_330 rfl ?_
  by_cases h1 : v23 = 0
  · refine go_ifN (pc := 332) d60_332 (XT.i0_ne_f h1) ?_
    refine go_iload (pc := 335) d60_335 rfl (go_iconst (pc := 337) d60_337 ci_1 (go_iload (pc := 338) d60_338 rfl (go_ishl (pc := 340) d60_340 (go_iconst (pc := 341) d60_341 ci_m1 (go_ixor (pc := 342) d60_342 (go_iand (pc := 343) d60_343 (go_istore (pc := 344) (L' := [x0, x1, x2, x3, x4, .val (.ref 1), x6, x7, x8, x9, x10, x11, x12, x13, .val (.int v14), .val (.int v15), .val (.int v16), .val (.int v17), x18, .val (.int v19), .val (.int (v20 &&& (((1 : Int32) <<< (v22 &&& 31)) ^^^ (-1 : Int32)))), .val (.int v21), .val (.int v22), .val (.int v23), x24, x25, .unset, .unset, .unset, .unset, .unset, .unset, .unset]) d60_344 rfl ?_)))))))
    refine go_iinc (pc := 346) (L' := [x0, x1, x2, x3, x4, .val (.ref 1), x6, x7, x8, x9, x10, x11, x12, x13, .val (.int v14), .val (.int v15), .val (.int v16), .val (.int v17), x18, .val (.int v19), .val (.int (v20 &&& (((1 : Int32) <<< (v22 &&& 31)) ^^^ (-1 : Int32)))), .val (.int v21), .val (.int (v22 + (1 : Int32))), .val (.int v23), x24, x25, .unset, .unset, .unset, .unset, .unset, .unset, .unset]) d60_346 rfl ci_1 rfl (go_goto (pc := 349) (pc' := 249) d60_349 j_349_m100 ?_)
    exact hk249 v14 v15 v16 v17 v19 (v20 &&& (((1 : Int32) <<< (v22 &&& 31)) ^^^ (-1 : Int32))) v21 (v22 + (1 : Int32)) t0 x0 x1 x2 x3 x4 x6 x7 x8 x9 x10 x11 x12 x13 x18 (.val (.int v23)) x24 x25 hx0 hx1 hx2 hx3 hx4 hx6 hx7 hx8 hx9 hx10 hx11 hx12 hx13 hx18 (Or.inr ⟨_, rfl, rfl⟩) hx24 hx25 _ (by simpa only [if_pos h1] using hf)
  · refine go_ifY (pc := 332) (pc' := 346) d60_332 (XT.i0_ne_t h1) j_332_14 ?_
    refine go_iinc (pc := 346) (L' := [x0, x1, x2, x3, x4, .val (.ref 1), x6, x7, x8, x9, x10, x11, x12, x13, .val (.int v14), .val (.int v15), .val (.int v16), .val (.int v17), x18, .val (.int v19), .val (.int v20), .val (.int v21), .val (.int (v22 + (1 : Int32))), .val (.int v23), x24, x25, .unset, .unset, .unset, .unset, .unset, .unset, .unset]) d60_346 rfl ci_1 rfl (go_goto (pc := 349) (pc' := 249) d60_349 j_349_m100 ?_)
    exact hk249 v14 v15 v16 v17 v19 v20 v21 (v22 + (1 : Int32)) t0 x0 x1 x2 x3 x4 x6 x7 x8 x9 x10 x11 x12 x13 x18 (.val (.int v23)) x24 x25 hx0 hx1 hx2 hx3 hx4 hx6 hx7 hx8 hx9 hx10 hx11 hx12 hx13 hx18 (Or.inr ⟨_, rfl, rfl⟩) hx24 hx25 _ (by simpa only [if_neg h1] using hf)
set_option maxRecDepth 65536 in
set_option maxHeartbeats 4000000 in
theorem law_282_ok {k240 : Int32 → Int32 → Int32 → Int32 → Int32 → Int32 → Int32 → S → Option (Int32 × S)} {k249 : Int32 → Int32 → Int32 → Int32 → Int32 → Int32 → Int32 → Int32 → S → Option (Int32 × S)} (hk240 : T_law_240 k240) (hk249 : T_law_249 k249) : ∀ (n : Nat) (v14 : Int32) (v15 : Int32) (v16 : Int32) (v17 : Int32) (v19 : Int32) (v20 : Int32) (v21 : Int32) (v22 : Int32) (v23 : Int32) (v24 : Int32) (t0 : S) (x0 : Slot) (x1 : Slot) (x2 : Slot) (x3 : Slot) (x4 : Slot) (x6 : Slot) (x7 : Slot) (x8 : Slot) (x9 : Slot) (x10 : Slot) (x11 : Slot) (x12 : Slot) (x13 : Slot) (x18 : Slot) (x25 : Slot) (hx0 : k1 x0) (hx1 : k1 x1) (hx2 : k1 x2) (hx3 : k1 x3) (hx4 : k1 x4) (hx6 : k1 x6) (hx7 : k1 x7) (hx8 : k1 x8) (hx9 : k1 x9) (hx10 : k1 x10) (hx11 : k1 x11) (hx12 : k1 x12) (hx13 : k1 x13) (hx18 : k1 x18) (hx25 : k1 x25) (o : Int32 × S), law_282 k240 k249 n v14 v15 v16 v17 v19 v20 v21 v22 v23 v24 t0 = some o → Go PP m60 282 [x0, x1, x2, x3, x4, .val (.ref 1), x6, x7, x8, x9, x10, x11, x12, x13, .val (.int v14), .val (.int v15), .val (.int v16), .val (.int v17), x18, .val (.int v19), .val (.int v20), .val (.int v21), .val (.int v22), .val (.int v23), .val (.int v24), x25, .unset, .unset, .unset, .unset, .unset, .unset, .unset] [] (none, [(11, t0)]) (some (.int o.1), (none, [(11, o.2)])) := by
  intro n
  induction n with
  | zero => intro v14 v15 v16 v17 v19 v20 v21 v22 v23 v24 t0 x0 x1 x2 x3 x4 x6 x7 x8 x9 x10 x11 x12 x13 x18 x25 hx0 hx1 hx2 hx3 hx4 hx6 hx7 hx8 hx9 hx10 hx11 hx12 hx13 hx18 hx25 o hf; exact nomatch hf
  | succ n ih =>
    intro v14 v15 v16 v17 v19 v20 v21 v22 v23 v24 t0 x0 x1 x2 x3 x4 x6 x7 x8 x9 x10 x11 x12 x13 x18 x25 hx0 hx1 hx2 hx3 hx4 hx6 hx7 hx8 hx9 hx10 hx11 hx12 hx13 hx18 hx25 o hf
    unfold law_282 at hf
    refine go_iload (pc := 282) d60_282 rfl (go_iconst (pc := 284) d60_284 ci_4 ?_)
    by_cases h1 : v24 < (4 : Int32)
    · replace hf := (if_pos h1).symm.trans hf
      refine go_icN (pc := 285) d60_285 (XT.ii_ge_f h1) ?_
      refine go_iload (pc := 288) d60_288 rfl (go_iload (pc := 290) d60_290 rfl (go_iload (pc := 292) d60_292 rfl (go_iload (pc := 294) d60_294 rfl (go_iload (pc := 296) d60_296 rfl ?_))))
      refine go_stat (pc := 298) (as := [.int v24, .int v14, .int v15, .int v16, .int v17]) (rest := []) (w' := (none, [(11, t0)])) lk_1_32 pd_51 rfl rfl ⟨Nat.le_of_ble_eq_true rfl, Nat.le_of_ble_eq_true rfl⟩ ⟨rfl, rfl, rfl⟩ ⟨rfl, rfl, rfl, rfl, rfl⟩ d60_298 (c_h_edge_n1 v24 v14 v15 v16 v17 t0) ?_
      refine go_istore (pc := 301) (L' := [x0, x1, x2, x3, x4, .val (.ref 1), x6, x7, x8, x9, x10, x11, x12, x13, .val (.int v14), .val (.int v15), .val (.int v16), .val (.int v17), x18, .val (.int v19), .val (.int v20), .val (.int v21), .val (.int v22), .val (.int v23), .val (.int v24), .val (.int (h_edge v24 v14 v15 v16 v17)), .unset, .unset, .unset, .unset, .unset, .unset, .unset]) d60_301 (stx rfl hx25 rfl) (go_iload (pc := 303) d60_303 rfl (go_iload (pc := 305) d60_305 rfl (go_ishr (pc := 307) d60_307 (go_iconst (pc := 308) d60_308 ci_1 (go_iand (pc := 309) d60_309 (go_iconst (pc := 310) d60_310 ci_1 ?_))))))
      by_cases h2 : ((v20 >>> (v24 &&& 31)) &&& (1 : Int32)) = (1 : Int32)
      · refine go_icN (pc := 311) d60_311 (XT.ii_ne_f h2) ?_
        refine go_iload (pc := 314) d60_314 rfl (go_iload (pc := 316) d60_316 rfl ?_)
        by_cases h3 : (h_edge v24 v14 v15 v16 v17) = v22
        · refine go_icN (pc := 318) d60_318 (XT.ii_ne_f h3) ?_
          refine go_iconst (pc := 321) d60_321 ci_1 (go_istore (pc := 322) (L' := [x0, x1, x2, x3, x4, .val (.ref 1), x6, x7, x8, x9, x10, x11, x12, x13, .val (.int v14), .val (.int v15), .val (.int v16), .val (.int v17), x18, .val (.int v19), .val (.int v20), .val (.int v21), .val (.int v22), .val (.int (1 : Int32)), .val (.int v24), .val (.int (h_edge v24 v14 v15 v16 v17)), .unset, .unset, .unset, .unset, .unset, .unset, .unset]) d60_322 rfl (go_iinc (pc := 324) (L' := [x0, x1, x2, x3, x4, .val (.ref 1), x6, x7, x8, x9, x10, x11, x12, x13, .val (.int v14), .val (.int v15), .val (.int v16), .val (.int v17), x18, .val (.int v19), .val (.int v20), .val (.int v21), .val (.int v22), .val (.int (1 : Int32)), .val (.int (v24 + (1 : Int32))), .val (.int (h_edge v24 v14 v15 v16 v17)), .unset, .unset, .unset, .unset, .unset, .unset, .unset]) d60_324 rfl ci_1 rfl (go_goto (pc := 327) (pc' := 282) d60_327 j_327_m45 ?_)))
          exact ih v14 v15 v16 v17 v19 v20 v21 v22 (1 : Int32) (v24 + (1 : Int32)) t0 x0 x1 x2 x3 x4 x6 x7 x8 x9 x10 x11 x12 x13 x18 (.val (.int (h_edge v24 v14 v15 v16 v17))) hx0 hx1 hx2 hx3 hx4 hx6 hx7 hx8 hx9 hx10 hx11 hx12 hx13 hx18 (Or.inr ⟨_, rfl, rfl⟩) _ (by simpa only [if_pos h2, if_pos h3] using hf)
        · refine go_icY (pc := 318) (pc' := 324) d60_318 (XT.ii_ne_t h3) j_318_6 ?_
          refine go_iinc (pc := 324) (L' := [x0, x1, x2, x3, x4, .val (.ref 1), x6, x7, x8, x9, x10, x11, x12, x13, .val (.int v14), .val (.int v15), .val (.int v16), .val (.int v17), x18, .val (.int v19), .val (.int v20), .val (.int v21), .val (.int v22), .val (.int v23), .val (.int (v24 + (1 : Int32))), .val (.int (h_edge v24 v14 v15 v16 v17)), .unset, .unset, .unset, .unset, .unset, .unset, .unset]) d60_324 rfl ci_1 rfl (go_goto (pc := 327) (pc' := 282) d60_327 j_327_m45 ?_)
          exact ih v14 v15 v16 v17 v19 v20 v21 v22 v23 (v24 + (1 : Int32)) t0 x0 x1 x2 x3 x4 x6 x7 x8 x9 x10 x11 x12 x13 x18 (.val (.int (h_edge v24 v14 v15 v16 v17))) hx0 hx1 hx2 hx3 hx4 hx6 hx7 hx8 hx9 hx10 hx11 hx12 hx13 hx18 (Or.inr ⟨_, rfl, rfl⟩) _ (by simpa only [if_pos h2, if_neg h3] using hf)
      · refine go_icY (pc := 311) (pc' := 324) d60_311 (XT.ii_ne_t h2) j_311_13 ?_
        refine go_iinc (pc := 324) (L' := [x0, x1, x2, x3, x4, .val (.ref 1), x6, x7, x8, x9, x10, x11, x12, x13, .val (.int v14), .val (.int v15), .val (.int v16), .val (.int v17), x18, .val (.int v19), .val (.int v20), .val (.int v21), .val (.int v22), .val (.int v23), .val (.int (v24 + (1 : Int32))), .val (.int (h_edge v24 v14 v15 v16 v17)), .unset, .unset, .unset, .unset, .unset, .unset, .unset]) d60_324 rfl ci_1 rfl (go_goto (pc := 327) (pc' := 282) d60_327 j_327_m45 ?_)
        exact ih v14 v15 v16 v17 v19 v20 v21 v22 v23 (v24 + (1 : Int32)) t0 x0 x1 x2 x3 x4 x6 x7 x8 x9 x10 x11 x12 x13 x18 (.val (.int (h_edge v24 v14 v15 v16 v17))) hx0 hx1 hx2 hx3 hx4 hx6 hx7 hx8 hx9 hx10 hx11 hx12 hx13 hx18 (Or.inr ⟨_, rfl, rfl⟩) _ (by simpa only [if_neg h2] using hf)
    · replace hf := (if_neg h1).symm.trans hf
      refine go_icY (pc := 285) (pc' := 330) d60_285 (XT.ii_ge_t h1) j_285_45 ?_
      exact law_330_ok hk240 hk249 v14 v15 v16 v17 v19 v20 v21 v22 v23 t0 x0 x1 x2 x3 x4 x6 x7 x8 x9 x10 x11 x12 x13 x18 (.val (.int v24)) x25 hx0 hx1 hx2 hx3 hx4 hx6 hx7 hx8 hx9 hx10 hx11 hx12 hx13 hx18 (Or.inr ⟨_, rfl, rfl⟩) hx25 _ hf
set_option maxRecDepth 65536 in
set_option maxHeartbeats 4000000 in
theorem law_249_ok {k240 : Int32 → Int32 → Int32 → Int32 → Int32 → Int32 → Int32 → S → Option (Int32 × S)} (hk240 : T_law_240 k240) : ∀ (n : Nat) (v14 : Int32) (v15 : Int32) (v16 : Int32) (v17 : Int32) (v19 : Int32) (v20 : Int32) (v21 : Int32) (v22 : Int32) (t0 : S) (x0 : Slot) (x1 : Slot) (x2 : Slot) (x3 : Slot) (x4 : Slot) (x6 : Slot) (x7 : Slot) (x8 : Slot) (x9 : Slot) (x10 : Slot) (x11 : Slot) (x12 : Slot) (x13 : Slot) (x18 : Slot) (x23 : Slot) (x24 : Slot) (x25 : Slot) (hx0 : k1 x0) (hx1 : k1 x1) (hx2 : k1 x2) (hx3 : k1 x3) (hx4 : k1 x4) (hx6 : k1 x6) (hx7 : k1 x7) (hx8 : k1 x8) (hx9 : k1 x9) (hx10 : k1 x10) (hx11 : k1 x11) (hx12 : k1 x12) (hx13 : k1 x13) (hx18 : k1 x18) (hx23 : k1 x23) (hx24 : k1 x24) (hx25 : k1 x25) (o : Int32 × S), law_249 k240 n v14 v15 v16 v17 v19 v20 v21 v22 t0 = some o → Go PP m60 249 [x0, x1, x2, x3, x4, .val (.ref 1), x6, x7, x8, x9, x10, x11, x12, x13, .val (.int v14), .val (.int v15), .val (.int v16), .val (.int v17), x18, .val (.int v19), .val (.int v20), .val (.int v21), .val (.int v22), x23, x24, x25, .unset, .unset, .unset, .unset, .unset, .unset, .unset] [] (none, [(11, t0)]) (some (.int o.1), (none, [(11, o.2)])) := by
  intro n
  induction n with
  | zero => intro v14 v15 v16 v17 v19 v20 v21 v22 t0 x0 x1 x2 x3 x4 x6 x7 x8 x9 x10 x11 x12 x13 x18 x23 x24 x25 hx0 hx1 hx2 hx3 hx4 hx6 hx7 hx8 hx9 hx10 hx11 hx12 hx13 hx18 hx23 hx24 hx25 o hf; exact nomatch hf
  | succ n ih =>
    intro v14 v15 v16 v17 v19 v20 v21 v22 t0 x0 x1 x2 x3 x4 x6 x7 x8 x9 x10 x11 x12 x13 x18 x23 x24 x25 hx0 hx1 hx2 hx3 hx4 hx6 hx7 hx8 hx9 hx10 hx11 hx12 hx13 hx18 hx23 hx24 hx25 o hf
    unfold law_249 at hf
    refine go_iload (pc := 249) d60_249 rfl (go_iconst (pc := 251) d60_251 ci_4 ?_)
    by_cases h1 : v22 < (4 : Int32)
    · replace hf := (if_pos h1).symm.trans hf
      refine go_icN (pc := 252) d60_252 (XT.ii_ge_f h1) ?_
      refine go_iload (pc := 255) d60_255 rfl (go_iload (pc := 257) d60_257 rfl (go_ishr (pc := 259) d60_259 (go_iconst (pc := 260) d60_260 ci_1 (go_iand (pc := 261) d60_261 (go_iconst (pc := 262) d60_262 ci_1 ?_)))))
      by_cases h2 : ((v20 >>> (v22 &&& 31)) &&& (1 : Int32)) = (1 : Int32)
      · replace hf := (if_pos h2).symm.trans hf
        refine go_icN (pc := 263) d60_263 (XT.ii_ne_f h2) ?_
        refine go_iload (pc := 266) d60_266 rfl (go_iload (pc := 268) d60_268 rfl (go_ishr (pc := 270) d60_270 (go_iconst (pc := 271) d60_271 ci_1 (go_iand (pc := 272) d60_272 ?_))))
        by_cases h3 : ((v19 >>> (v22 &&& 31)) &&& (1 : Int32)) = 0
        · replace hf := (if_pos h3).symm.trans hf
          refine go_ifN (pc := 273) d60_273 (XT.i0_ne_f h3) ?_
          refine go_iconst (pc := 276) d60_276 ci_0 (go_istore (pc := 277) (L' := [x0, x1, x2, x3, x4, .val (.ref 1), x6, x7, x8, x9, x10, x11, x12, x13, .val (.int v14), .val (.int v15), .val (.int v16), .val (.int v17), x18, .val (.int v19), .val (.int v20), .val (.int v21), .val (.int v22), .val (.int (0 : Int32)), x24, x25, .unset, .unset, .unset, .unset, .unset, .unset, .unset]) d60_277 (stx rfl hx23 rfl) (go_iconst (pc := 279) d60_279 ci_0 (go_istore (pc := 280) (L' := [x0, x1, x2, x3, x4, .val (.ref 1), x6, x7, x8, x9, x10, x11, x12, x13, .val (.int v14), .val (.int v15), .val (.int v16), .val (.int v17), x18, .val (.int v19), .val (.int v20), .val (.int v21), .val (.int v22), .val (.int (0 : Int32)), .val (.int (0 : Int32)), x25, .unset, .unset, .unset, .unset, .unset, .unset, .unset]) d60_280 (stx rfl hx24 rfl) ?_)))
          exact law_282_ok hk240 ih BIG v14 v15 v16 v17 v19 v20 v21 v22 (0 : Int32) (0 : Int32) t0 x0 x1 x2 x3 x4 x6 x7 x8 x9 x10 x11 x12 x13 x18 x25 hx0 hx1 hx2 hx3 hx4 hx6 hx7 hx8 hx9 hx10 hx11 hx12 hx13 hx18 hx25 _ hf
        · replace hf := (if_neg h3).symm.trans hf
          refine go_ifY (pc := 273) (pc' := 346) d60_273 (XT.i0_ne_t h3) j_273_73 ?_
          refine go_iinc (pc := 346) (L' := [x0, x1, x2, x3, x4, .val (.ref 1), x6, x7, x8, x9, x10, x11, x12, x13, .val (.int v14), .val (.int v15), .val (.int v16), .val (.int v17), x18, .val (.int v19), .val (.int v20), .val (.int v21), .val (.int (v22 + (1 : Int32))), x23, x24, x25, .unset, .unset, .unset, .unset, .unset, .unset, .unset]) d60_346 rfl ci_1 rfl (go_goto (pc := 349) (pc' := 249) d60_349 j_349_m100 ?_)
          exact ih v14 v15 v16 v17 v19 v20 v21 (v22 + (1 : Int32)) t0 x0 x1 x2 x3 x4 x6 x7 x8 x9 x10 x11 x12 x13 x18 x23 x24 x25 hx0 hx1 hx2 hx3 hx4 hx6 hx7 hx8 hx9 hx10 hx11 hx12 hx13 hx18 hx23 hx24 hx25 _ hf
      · replace hf := (if_neg h2).symm.trans hf
        refine go_icY (pc := 263) (pc' := 346) d60_263 (XT.ii_ne_t h2) j_263_83 ?_
        refine go_iinc (pc := 346) (L' := [x0, x1, x2, x3, x4, .val (.ref 1), x6, x7, x8, x9, x10, x11, x12, x13, .val (.int v14), .val (.int v15), .val (.int v16), .val (.int v17), x18, .val (.int v19), .val (.int v20), .val (.int v21), .val (.int (v22 + (1 : Int32))), x23, x24, x25, .unset, .unset, .unset, .unset, .unset, .unset, .unset]) d60_346 rfl ci_1 rfl (go_goto (pc := 349) (pc' := 249) d60_349 j_349_m100 ?_)
        exact ih v14 v15 v16 v17 v19 v20 v21 (v22 + (1 : Int32)) t0 x0 x1 x2 x3 x4 x6 x7 x8 x9 x10 x11 x12 x13 x18 x23 x24 x25 hx0 hx1 hx2 hx3 hx4 hx6 hx7 hx8 hx9 hx10 hx11 hx12 hx13 hx18 hx23 hx24 hx25 _ hf
    · replace hf := (if_neg h1).symm.trans hf
      refine go_icY (pc := 252) (pc' := 352) d60_252 (XT.ii_ge_t h1) j_252_100 ?_
      refine go_iinc (pc := 352) (L' := [x0, x1, x2, x3, x4, .val (.ref 1), x6, x7, x8, x9, x10, x11, x12, x13, .val (.int v14), .val (.int v15), .val (.int v16), .val (.int v17), x18, .val (.int v19), .val (.int v20), .val (.int (v21 + (1 : Int32))), .val (.int v22), x23, x24, x25, .unset, .unset, .unset, .unset, .unset, .unset, .unset]) d60_352 rfl ci_1 rfl (go_goto (pc := 355) (pc' := 240) d60_355 j_355_m115 ?_)
      exact hk240 v14 v15 v16 v17 v19 v20 (v21 + (1 : Int32)) t0 x0 x1 x2 x3 x4 x6 x7 x8 x9 x10 x11 x12 x13 x18 (.val (.int v22)) x23 x24 x25 hx0 hx1 hx2 hx3 hx4 hx6 hx7 hx8 hx9 hx10 hx11 hx12 hx13 hx18 (Or.inr ⟨_, rfl, rfl⟩) hx23 hx24 hx25 _ hf
set_option maxRecDepth 65536 in
set_option maxHeartbeats 4000000 in
theorem law_240_ok  : ∀ (n : Nat) (v14 : Int32) (v15 : Int32) (v16 : Int32) (v17 : Int32) (v19 : Int32) (v20 : Int32) (v21 : Int32) (t0 : S) (x0 : Slot) (x1 : Slot) (x2 : Slot) (x3 : Slot) (x4 : Slot) (x6 : Slot) (x7 : Slot) (x8 : Slot) (x9 : Slot) (x10 : Slot) (x11 : Slot) (x12 : Slot) (x13 : Slot) (x18 : Slot) (x22 : Slot) (x23 : Slot) (x24 : Slot) (x25 : Slot) (hx0 : k1 x0) (hx1 : k1 x1) (hx2 : k1 x2) (hx3 : k1 x3) (hx4 : k1 x4) (hx6 : k1 x6) (hx7 : k1 x7) (hx8 : k1 x8) (hx9 : k1 x9) (hx10 : k1 x10) (hx11 : k1 x11) (hx12 : k1 x12) (hx13 : k1 x13) (hx18 : k1 x18) (hx22 : k1 x22) (hx23 : k1 x23) (hx24 : k1 x24) (hx25 : k1 x25) (o : Int32 × S), law_240 n v14 v15 v16 v17 v19 v20 v21 t0 = some o → Go PP m60 240 [x0, x1, x2, x3, x4, .val (.ref 1), x6, x7, x8, x9, x10, x11, x12, x13, .val (.int v14), .val (.int v15), .val (.int v16), .val (.int v17), x18, .val (.int v19), .val (.int v20), .val (.int v21), x22, x23, x24, x25, .unset, .unset, .unset, .unset, .unset, .unset, .unset] [] (none, [(11, t0)]) (some (.int o.1), (none, [(11, o.2)])) := by
  intro n
  induction n with
  | zero => intro v14 v15 v16 v17 v19 v20 v21 t0 x0 x1 x2 x3 x4 x6 x7 x8 x9 x10 x11 x12 x13 x18 x22 x23 x24 x25 hx0 hx1 hx2 hx3 hx4 hx6 hx7 hx8 hx9 hx10 hx11 hx12 hx13 hx18 hx22 hx23 hx24 hx25 o hf; exact nomatch hf
  | succ n ih =>
    intro v14 v15 v16 v17 v19 v20 v21 t0 x0 x1 x2 x3 x4 x6 x7 x8 x9 x10 x11 x12 x13 x18 x22 x23 x24 x25 hx0 hx1 hx2 hx3 hx4 hx6 hx7 hx8 hx9 hx10 hx11 hx12 hx13 hx18 hx22 hx23 hx24 hx25 o hf
    unfold law_240 at hf
    refine go_iload (pc := 240) d60_240 rfl (go_iconst (pc := 242) d60_242 ci_4 ?_)
    by_cases h1 : v21 < (4 : Int32)
    · replace hf := (if_pos h1).symm.trans hf
      refine go_icN (pc := 243) d60_243 (XT.ii_ge_f h1) ?_
      refine go_iconst (pc := 246) d60_246 ci_0 (go_istore (pc := 247) (L' := [x0, x1, x2, x3, x4, .val (.ref 1), x6, x7, x8, x9, x10, x11, x12, x13, .val (.int v14), .val (.int v15), .val (.int v16), .val (.int v17), x18, .val (.int v19), .val (.int v20), .val (.int v21), .val (.int (0 : Int32)), x23, x24, x25, .unset, .unset, .unset, .unset, .unset, .unset, .unset]) d60_247 (stx rfl hx22 rfl) ?_)
      exact law_249_ok ih BIG v14 v15 v16 v17 v19 v20 v21 (0 : Int32) t0 x0 x1 x2 x3 x4 x6 x7 x8 x9 x10 x11 x12 x13 x18 x23 x24 x25 hx0 hx1 hx2 hx3 hx4 hx6 hx7 hx8 hx9 hx10 hx11 hx12 hx13 hx18 hx23 hx24 hx25 _ hf
    · replace hf := (if_neg h1).symm.trans hf
      refine go_icY (pc := 243) (pc' := 358) d60_243 (XT.ii_ge_t h1) j_243_115 ?_
      exact law_358_ok v14 v15 v16 v17 v20 t0 x0 x1 x2 x3 x4 x6 x7 x8 x9 x10 x11 x12 x13 x18 (.val (.int v19)) (.val (.int v21)) x22 x23 x24 x25 hx0 hx1 hx2 hx3 hx4 hx6 hx7 hx8 hx9 hx10 hx11 hx12 hx13 hx18 (Or.inr ⟨_, rfl, rfl⟩) (Or.inr ⟨_, rfl, rfl⟩) hx22 hx23 hx24 hx25 _ hf
set_option maxRecDepth 65536 in
set_option maxHeartbeats 4000000 in
theorem law_223_ok  : ∀ (v14 : Int32) (v15 : Int32) (v16 : Int32) (v17 : Int32) (v18 : Int32) (t0 : S) (x0 : Slot) (x1 : Slot) (x2 : Slot) (x3 : Slot) (x4 : Slot) (x6 : Slot) (x7 : Slot) (x8 : Slot) (x9 : Slot) (x10 : Slot) (x11 : Slot) (x12 : Slot) (x13 : Slot) (x19 : Slot) (x20 : Slot) (hx0 : k1 x0) (hx1 : k1 x1) (hx2 : k1 x2) (hx3 : k1 x3) (hx4 : k1 x4) (hx6 : k1 x6) (hx7 : k1 x7) (hx8 : k1 x8) (hx9 : k1 x9) (hx10 : k1 x10) (hx11 : k1 x11) (hx12 : k1 x12) (hx13 : k1 x13) (hx19 : k1 x19) (hx20 : k1 x20) (o : Int32 × S), law_223 v14 v15 v16 v17 v18 t0 = some o → Go PP m60 223 [x0, x1, x2, x3, x4, .val (.ref 1), x6, x7, x8, x9, x10, x11, x12, x13, .val (.int v14), .val (.int v15), .val (.int v16), .val (.int v17), .val (.int v18), x19, x20, .unset, .unset, .unset, .unset, .unset, .unset, .unset, .unset, .unset, .unset, .unset, .unset] [] (none, [(11, t0)]) (some (.int o.1), (none, [(11, o.2)])) := by
  intro v14 v15 v16 v17 v18 t0 x0 x1 x2 x3 x4 x6 x7 x8 x9 x10 x11 x12 x13 x19 x20 hx0 hx1 hx2 hx3 hx4 hx6 hx7 hx8 hx9 hx10 hx11 hx12 hx13 hx19 hx20 o hf
  unfold law_223 at hf
  refine go_iconst (pc := 223) d60_223 ci_1 (go_iconst (pc := 224) d60_224 ci_4 (go_iload (pc := 225) d60_225 rfl (go_isub (pc := 227) d60_227 (go_ishl (pc := 228) d60_228 (go_iconst (pc := 229) d60_229 ci_1 (go_isub (pc := 230) d60_230 (go_istore (pc := 231) (L' := [x0, x1, x2, x3, x4, .val (.ref 1), x6, x7, x8, x9, x10, x11, x12, x13, .val (.int v14), .val (.int v15), .val (.int v16), .val (.int v17), .val (.int v18), .val (.int (((1 : Int32) <<< (((4 : Int32) - v18) &&& 31)) - (1 : Int32))), x20, .unset, .unset, .unset, .unset, .unset, .unset, .unset, .unset, .unset, .unset, .unset, .unset]) d60_231 (stx rfl hx19 rfl) ?_)))))))
  refine go_bipush (pc := 233) d60_233 cb_15 (go_istore (pc := 235) (L' := [x0, x1, x2, x3, x4, .val (.ref 1), x6, x7, x8, x9, x10, x11, x12, x13, .val (.int v14), .val (.int v15), .val (.int v16), .val (.int v17), .val (.int v18), .val (.int (((1 : Int32) <<< (((4 : Int32) - v18) &&& 31)) - (1 : Int32))), .val (.int (15 : Int32)), .unset, .unset, .unset, .unset, .unset, .unset, .unset, .unset, .unset, .unset, .unset, .unset]) d60_235 (stx rfl hx20 rfl) (go_iconst (pc := 237) d60_237 ci_0 (go_istore (pc := 238) (L' := [x0, x1, x2, x3, x4, .val (.ref 1), x6, x7, x8, x9, x10, x11, x12, x13, .val (.int v14), .val (.int v15), .val (.int v16), .val (.int v17), .val (.int v18), .val (.int (((1 : Int32) <<< (((4 : Int32) - v18) &&& 31)) - (1 : Int32))), .val (.int (15 : Int32)), .val (.int (0 : Int32)), .unset, .unset, .unset, .unset, .unset, .unset, .unset, .unset, .unset, .unset, .unset]) d60_238 rfl ?_)))
  exact law_240_ok BIG v14 v15 v16 v17 (((1 : Int32) <<< (((4 : Int32) - v18) &&& 31)) - (1 : Int32)) (15 : Int32) (0 : Int32) t0 x0 x1 x2 x3 x4 x6 x7 x8 x9 x10 x11 x12 x13 (.val (.int v18)) .unset .unset .unset .unset hx0 hx1 hx2 hx3 hx4 hx6 hx7 hx8 hx9 hx10 hx11 hx12 hx13 (Or.inr ⟨_, rfl, rfl⟩) (Or.inl rfl) (Or.inl rfl) (Or.inl rfl) (Or.inl rfl) _ hf
set_option maxRecDepth 65536 in
set_option maxHeartbeats 4000000 in
theorem law_190_ok  : ∀ (n : Nat) (v14 : Int32) (v15 : Int32) (v16 : Int32) (v17 : Int32) (v18 : Int32) (v19 : Int32) (t0 : S) (x0 : Slot) (x1 : Slot) (x2 : Slot) (x3 : Slot) (x4 : Slot) (x6 : Slot) (x7 : Slot) (x8 : Slot) (x9 : Slot) (x10 : Slot) (x11 : Slot) (x12 : Slot) (x13 : Slot) (x20 : Slot) (hx0 : k1 x0) (hx1 : k1 x1) (hx2 : k1 x2) (hx3 : k1 x3) (hx4 : k1 x4) (hx6 : k1 x6) (hx7 : k1 x7) (hx8 : k1 x8) (hx9 : k1 x9) (hx10 : k1 x10) (hx11 : k1 x11) (hx12 : k1 x12) (hx13 : k1 x13) (hx20 : k1 x20) (o : Int32 × S), law_190 n v14 v15 v16 v17 v18 v19 t0 = some o → Go PP m60 190 [x0, x1, x2, x3, x4, .val (.ref 1), x6, x7, x8, x9, x10, x11, x12, x13, .val (.int v14), .val (.int v15), .val (.int v16), .val (.int v17), .val (.int v18), .val (.int v19), x20, .unset, .unset, .unset, .unset, .unset, .unset, .unset, .unset, .unset, .unset, .unset, .unset] [] (none, [(11, t0)]) (some (.int o.1), (none, [(11, o.2)])) := by
  intro n
  induction n with
  | zero => intro v14 v15 v16 v17 v18 v19 t0 x0 x1 x2 x3 x4 x6 x7 x8 x9 x10 x11 x12 x13 x20 hx0 hx1 hx2 hx3 hx4 hx6 hx7 hx8 hx9 hx10 hx11 hx12 hx13 hx20 o hf; exact nomatch hf
  | succ n ih =>
    intro v14 v15 v16 v17 v18 v19 t0 x0 x1 x2 x3 x4 x6 x7 x8 x9 x10 x11 x12 x13 x20 hx0 hx1 hx2 hx3 hx4 hx6 hx7 hx8 hx9 hx10 hx11 hx12 hx13 hx20 o hf
    unfold law_190 at hf
    refine go_iload (pc := 190) d60_190 rfl (go_iconst (pc := 192) d60_192 ci_4 ?_)
    by_cases h1 : v19 < (4 : Int32)
    · replace hf := (if_pos h1).symm.trans hf
      refine go_icN (pc := 193) d60_193 (XT.ii_ge_f h1) ?_
      refine go_iload (pc := 196) d60_196 rfl (go_iload (pc := 198) d60_198 rfl ?_)
      by_cases h2 : v19 < v18
      · replace hf := (if_pos h2).symm.trans hf
        refine go_icN (pc := 200) d60_200 (XT.ii_ge_f h2) ?_
        refine go_aload (pc := 203) d60_203 rfl ?_
        obtain ⟨r205, e3, hf⟩ := Option.bind_eq_some_iff.mp hf
        refine go_virt (pc := 205) (i := 0) (as := []) (rest := []) (w' := (none, [(11, r205.2)])) lk_1_29 pd_50 rfl oid_0 rfl rfl rfl rfl rfl rfl ⟨rfl, rfl, rfl, rfl, rfl⟩ d60_205 (c_k_pop t0 _ e3) ?_
        refine go_istore (pc := 208) (L' := [x0, x1, x2, x3, x4, .val (.ref 1), x6, x7, x8, x9, x10, x11, x12, x13, .val (.int v14), .val (.int v15), .val (.int v16), .val (.int v17), .val (.int v18), .val (.int v19), .val (.int r205.1), .unset, .unset, .unset, .unset, .unset, .unset, .unset, .unset, .unset, .unset, .unset, .unset]) d60_208 (stx rfl hx20 rfl) (go_iload (pc := 210) d60_210 rfl ?_)
        by_cases h4 : r205.1 = 0
        · replace hf := (if_pos h4).symm.trans hf
          refine go_ifY (pc := 212) (pc' := 217) d60_212 (XT.i0_eq_t h4) j_212_5 ?_
          refine go_iinc (pc := 217) (L' := [x0, x1, x2, x3, x4, .val (.ref 1), x6, x7, x8, x9, x10, x11, x12, x13, .val (.int v14), .val (.int v15), .val (.int v16), .val (.int v17), .val (.int v18), .val (.int (v19 + (1 : Int32))), .val (.int r205.1), .unset, .unset, .unset, .unset, .unset, .unset, .unset, .unset, .unset, .unset, .unset, .unset]) d60_217 rfl ci_1 rfl (go_goto (pc := 220) (pc' := 190) d60_220 j_220_m30 ?_)
          exact ih v14 v15 v16 v17 v18 (v19 + (1 : Int32)) r205.2 x0 x1 x2 x3 x4 x6 x7 x8 x9 x10 x11 x12 x13 (.val (.int r205.1)) hx0 hx1 hx2 hx3 hx4 hx6 hx7 hx8 hx9 hx10 hx11 hx12 hx13 (Or.inr ⟨_, rfl, rfl⟩) _ hf
        · replace hf := (if_neg h4).symm.trans hf
          refine go_ifN (pc := 212) d60_212 (XT.i0_eq_f h4) ?_
          refine go_iconst (pc := 215) d60_215 ci_0 ?_
          cases hf
          exact go_zret (pc := 216) rfl d60_216 (show (0 : Int32) = nar .boolean (0 : Int32) by decide)
      · replace hf := (if_neg h2).symm.trans hf
        refine go_icY (pc := 200) (pc' := 217) d60_200 (XT.ii_ge_t h2) j_200_17 ?_
        refine go_iinc (pc := 217) (L' := [x0, x1, x2, x3, x4, .val (.ref 1), x6, x7, x8, x9, x10, x11, x12, x13, .val (.int v14), .val (.int v15), .val (.int v16), .val (.int v17), .val (.int v18), .val (.int (v19 + (1 : Int32))), x20, .unset, .unset, .unset, .unset, .unset, .unset, .unset, .unset, .unset, .unset, .unset, .unset]) d60_217 rfl ci_1 rfl (go_goto (pc := 220) (pc' := 190) d60_220 j_220_m30 ?_)
        exact ih v14 v15 v16 v17 v18 (v19 + (1 : Int32)) t0 x0 x1 x2 x3 x4 x6 x7 x8 x9 x10 x11 x12 x13 x20 hx0 hx1 hx2 hx3 hx4 hx6 hx7 hx8 hx9 hx10 hx11 hx12 hx13 hx20 _ hf
    · replace hf := (if_neg h1).symm.trans hf
      refine go_icY (pc := 193) (pc' := 223) d60_193 (XT.ii_ge_t h1) j_193_30 ?_
      exact law_223_ok v14 v15 v16 v17 v18 t0 x0 x1 x2 x3 x4 x6 x7 x8 x9 x10 x11 x12 x13 (.val (.int v19)) x20 hx0 hx1 hx2 hx3 hx4 hx6 hx7 hx8 hx9 hx10 hx11 hx12 hx13 (Or.inr ⟨_, rfl, rfl⟩) hx20 _ hf
set_option maxRecDepth 65536 in
set_option maxHeartbeats 4000000 in
theorem law_185_ok  : ∀ (v14 : Int32) (v15 : Int32) (v16 : Int32) (v17 : Int32) (p0 : Int32) (t0 : S) (x0 : Slot) (x1 : Slot) (x2 : Slot) (x3 : Slot) (x4 : Slot) (x6 : Slot) (x7 : Slot) (x8 : Slot) (x9 : Slot) (x10 : Slot) (x11 : Slot) (x12 : Slot) (x13 : Slot) (hx0 : k1 x0) (hx1 : k1 x1) (hx2 : k1 x2) (hx3 : k1 x3) (hx4 : k1 x4) (hx6 : k1 x6) (hx7 : k1 x7) (hx8 : k1 x8) (hx9 : k1 x9) (hx10 : k1 x10) (hx11 : k1 x11) (hx12 : k1 x12) (hx13 : k1 x13) (o : Int32 × S), law_185 v14 v15 v16 v17 p0 t0 = some o → Go PP m60 185 [x0, x1, x2, x3, x4, .val (.ref 1), x6, x7, x8, x9, x10, x11, x12, x13, .val (.int v14), .val (.int v15), .val (.int v16), .val (.int v17), .unset, .unset, .unset, .unset, .unset, .unset, .unset, .unset, .unset, .unset, .unset, .unset, .unset, .unset, .unset] [.int p0] (none, [(11, t0)]) (some (.int o.1), (none, [(11, o.2)])) := by
  intro v14 v15 v16 v17 p0 t0 x0 x1 x2 x3 x4 x6 x7 x8 x9 x10 x11 x12 x13 hx0 hx1 hx2 hx3 hx4 hx6 hx7 hx8 hx9 hx10 hx11 hx12 hx13 o hf
  unfold law_185 at hf
  refine go_istore (pc := 185) (L' := [x0, x1, x2, x3, x4, .val (.ref 1), x6, x7, x8, x9, x10, x11, x12, x13, .val (.int v14), .val (.int v15), .val (.int v16), .val (.int v17), .val (.int p0), .unset, .unset, .unset, .unset, .unset, .unset, .unset, .unset, .unset, .unset, .unset, .unset, .unset, .unset]) d60_185 rfl (go_iconst (pc := 187) d60_187 ci_0 (go_istore (pc := 188) (L' := [x0, x1, x2, x3, x4, .val (.ref 1), x6, x7, x8, x9, x10, x11, x12, x13, .val (.int v14), .val (.int v15), .val (.int v16), .val (.int v17), .val (.int p0), .val (.int (0 : Int32)), .unset, .unset, .unset, .unset, .unset, .unset, .unset, .unset, .unset, .unset, .unset, .unset, .unset]) d60_188 rfl ?_))
  exact law_190_ok BIG v14 v15 v16 v17 p0 (0 : Int32) t0 x0 x1 x2 x3 x4 x6 x7 x8 x9 x10 x11 x12 x13 .unset hx0 hx1 hx2 hx3 hx4 hx6 hx7 hx8 hx9 hx10 hx11 hx12 hx13 (Or.inl rfl) _ hf
set_option maxRecDepth 65536 in
set_option maxHeartbeats 4000000 in
theorem law_46_ok  : ∀ (v0 : Int32) (v1 : Int32) (v2 : Int32) (v3 : Int32) (v4 : Int32) (t0 : S) (x6 : Slot) (x7 : Slot) (hx6 : k1 x6) (hx7 : k1 x7) (o : Int32 × S), law_46 v0 v1 v2 v3 v4 t0 = some o → Go PP m60 46 [.val (.int v0), .val (.int v1), .val (.int v2), .val (.int v3), .val (.int v4), .val (.ref 1), x6, x7, .unset, .unset, .unset, .unset, .unset, .unset, .unset, .unset, .unset, .unset, .unset, .unset, .unset, .unset, .unset, .unset, .unset, .unset, .unset, .unset, .unset, .unset, .unset, .unset, .unset] [] (none, [(11, t0)]) (some (.int o.1), (none, [(11, o.2)])) := by
  intro v0 v1 v2 v3 v4 t0 x6 x7 hx6 hx7 o hf
  unfold law_46 at hf
  refine go_aload (pc := 46) d60_46 rfl (go_iconst (pc := 48) d60_48 ci_0 (go_iconst (pc := 49) d60_49 ci_0 (go_iloadN (pc := 50) d60_50 rfl ?_)))
  obtain ⟨r51, e1, hf⟩ := Option.bind_eq_some_iff.mp hf
  refine go_virt (pc := 51) (i := 0) (as := [.int (0 : Int32), .int (0 : Int32), .int v0]) (rest := []) (w' := (none, [(11, r51.2)])) lk_1_16 pd_46 rfl oid_0 rfl rfl rfl rfl rfl rfl ⟨rfl, rfl, rfl, rfl, rfl⟩ d60_51 (c_k_store (0 : Int32) (0 : Int32) v0 t0 _ e1) ?_
  refine go_istore (pc := 54) (L' := [.val (.int v0), .val (.int v1), .val (.int v2), .val (.int v3), .val (.int v4), .val (.ref 1), .val (.int r51.1), x7, .unset, .unset, .unset, .unset, .unset, .unset, .unset, .unset, .unset, .unset, .unset, .unset, .unset, .unset, .unset, .unset, .unset, .unset, .unset, .unset, .unset, .unset, .unset, .unset, .unset]) d60_54 (stx rfl hx6 rfl) (go_aload (pc := 56) d60_56 rfl (go_iconst (pc := 58) d60_58 ci_1 (go_iconst (pc := 59) d60_59 ci_0 (go_iloadN (pc := 60) d60_60 rfl ?_))))
  obtain ⟨r61, e2, hf⟩ := Option.bind_eq_some_iff.mp hf
  refine go_virt (pc := 61) (i := 0) (as := [.int (1 : Int32), .int (0 : Int32), .int v1]) (rest := []) (w' := (none, [(11, r61.2)])) lk_1_16 pd_46 rfl oid_0 rfl rfl rfl rfl rfl rfl ⟨rfl, rfl, rfl, rfl, rfl⟩ d60_61 (c_k_store (1 : Int32) (0 : Int32) v1 r51.2 _ e2) ?_
  refine go_istore (pc := 64) (L' := [.val (.int v0), .val (.int v1), .val (.int v2), .val (.int v3), .val (.int v4), .val (.ref 1), .val (.int r51.1), .val (.int r61.1), .unset, .unset, .unset, .unset, .unset, .unset, .unset, .unset, .unset, .unset, .unset, .unset, .unset, .unset, .unset, .unset, .unset, .unset, .unset, .unset, .unset, .unset, .unset, .unset, .unset]) d60_64 (stx rfl hx7 rfl) (go_aload (pc := 66) d60_66 rfl (go_iconst (pc := 68) d60_68 ci_2 (go_iconst (pc := 69) d60_69 ci_0 (go_iloadN (pc := 70) d60_70 rfl ?_))))
  obtain ⟨r71, e3, hf⟩ := Option.bind_eq_some_iff.mp hf
  refine go_virt (pc := 71) (i := 0) (as := [.int (2 : Int32), .int (0 : Int32), .int v2]) (rest := []) (w' := (none, [(11, r71.2)])) lk_1_16 pd_46 rfl oid_0 rfl rfl rfl rfl rfl rfl ⟨rfl, rfl, rfl, rfl, rfl⟩ d60_71 (c_k_store (2 : Int32) (0 : Int32) v2 r61.2 _ e3) ?_
  refine go_istore (pc := 74) (L' := [.val (.int v0), .val (.int v1), .val (.int v2), .val (.int v3), .val (.int v4), .val (.ref 1), .val (.int r51.1), .val (.int r61.1), .val (.int r71.1), .unset, .unset, .unset, .unset, .unset, .unset, .unset, .unset, .unset, .unset, .unset, .unset, .unset, .unset, .unset, .unset, .unset, .unset, .unset, .unset, .unset, .unset, .unset, .unset]) d60_74 rfl (go_aload (pc := 76) d60_76 rfl (go_iconst (pc := 78) d60_78 ci_3 (go_iconst (pc := 79) d60_79 ci_0 (go_iloadN (pc := 80) d60_80 rfl ?_))))
  obtain ⟨r81, e4, hf⟩ := Option.bind_eq_some_iff.mp hf
  refine go_virt (pc := 81) (i := 0) (as := [.int (3 : Int32), .int (0 : Int32), .int v3]) (rest := []) (w' := (none, [(11, r81.2)])) lk_1_16 pd_46 rfl oid_0 rfl rfl rfl rfl rfl rfl ⟨rfl, rfl, rfl, rfl, rfl⟩ d60_81 (c_k_store (3 : Int32) (0 : Int32) v3 r71.2 _ e4) ?_
  refine go_istore (pc := 84) (L' := [.val (.int v0), .val (.int v1), .val (.int v2), .val (.int v3), .val (.int v4), .val (.ref 1), .val (.int r51.1), .val (.int r61.1), .val (.int r71.1), .val (.int r81.1), .unset, .unset, .unset, .unset, .unset, .unset, .unset, .unset, .unset, .unset, .unset, .unset, .unset, .unset, .unset, .unset, .unset, .unset, .unset, .unset, .unset, .unset, .unset]) d60_84 rfl (go_iloadN (pc := 86) d60_86 rfl ?_)
  refine go_stat (pc := 87) (as := [.int v0]) (rest := []) (w' := (none, [(11, r81.2)])) lk_1_20 pd_47 rfl rfl ⟨Nat.le_of_ble_eq_true rfl, Nat.le_of_ble_eq_true rfl⟩ ⟨rfl, rfl, rfl⟩ ⟨rfl, rfl, rfl, rfl, rfl⟩ d60_87 (c_h_ans_n1 v0 r81.2) ?_
  refine go_istore (pc := 90) (L' := [.val (.int v0), .val (.int v1), .val (.int v2), .val (.int v3), .val (.int v4), .val (.ref 1), .val (.int r51.1), .val (.int r61.1), .val (.int r71.1), .val (.int r81.1), .val (.int (h_ans v0)), .unset, .unset, .unset, .unset, .unset, .unset, .unset, .unset, .unset, .unset, .unset, .unset, .unset, .unset, .unset, .unset, .unset, .unset, .unset, .unset, .unset, .unset]) d60_90 rfl (go_iloadN (pc := 92) d60_92 rfl ?_)
  refine go_stat (pc := 93) (as := [.int v1]) (rest := []) (w' := (none, [(11, r81.2)])) lk_1_20 pd_47 rfl rfl ⟨Nat.le_of_ble_eq_true rfl, Nat.le_of_ble_eq_true rfl⟩ ⟨rfl, rfl, rfl⟩ ⟨rfl, rfl, rfl, rfl, rfl⟩ d60_93 (c_h_ans_n1 v1 r81.2) ?_
  refine go_istore (pc := 96) (L' := [.val (.int v0), .val (.int v1), .val (.int v2), .val (.int v3), .val (.int v4), .val (.ref 1), .val (.int r51.1), .val (.int r61.1), .val (.int r71.1), .val (.int r81.1), .val (.int (h_ans v0)), .val (.int (h_ans v1)), .unset, .unset, .unset, .unset, .unset, .unset, .unset, .unset, .unset, .unset, .unset, .unset, .unset, .unset, .unset, .unset, .unset, .unset, .unset, .unset, .unset]) d60_96 rfl (go_iloadN (pc := 98) d60_98 rfl ?_)
  refine go_stat (pc := 99) (as := [.int v2]) (rest := []) (w' := (none, [(11, r81.2)])) lk_1_20 pd_47 rfl rfl ⟨Nat.le_of_ble_eq_true rfl, Nat.le_of_ble_eq_true rfl⟩ ⟨rfl, rfl, rfl⟩ ⟨rfl, rfl, rfl, rfl, rfl⟩ d60_99 (c_h_ans_n1 v2 r81.2) ?_
  refine go_istore (pc := 102) (L' := [.val (.int v0), .val (.int v1), .val (.int v2), .val (.int v3), .val (.int v4), .val (.ref 1), .val (.int r51.1), .val (.int r61.1), .val (.int r71.1), .val (.int r81.1), .val (.int (h_ans v0)), .val (.int (h_ans v1)), .val (.int (h_ans v2)), .unset, .unset, .unset, .unset, .unset, .unset, .unset, .unset, .unset, .unset, .unset, .unset, .unset, .unset, .unset, .unset, .unset, .unset, .unset, .unset]) d60_102 rfl (go_iloadN (pc := 104) d60_104 rfl ?_)
  refine go_stat (pc := 105) (as := [.int v3]) (rest := []) (w' := (none, [(11, r81.2)])) lk_1_20 pd_47 rfl rfl ⟨Nat.le_of_ble_eq_true rfl, Nat.le_of_ble_eq_true rfl⟩ ⟨rfl, rfl, rfl⟩ ⟨rfl, rfl, rfl, rfl, rfl⟩ d60_105 (c_h_ans_n1 v3 r81.2) ?_
  refine go_istore (pc := 108) (L' := [.val (.int v0), .val (.int v1), .val (.int v2), .val (.int v3), .val (.int v4), .val (.ref 1), .val (.int r51.1), .val (.int r61.1), .val (.int r71.1), .val (.int r81.1), .val (.int (h_ans v0)), .val (.int (h_ans v1)), .val (.int (h_ans v2)), .val (.int (h_ans v3)), .unset, .unset, .unset, .unset, .unset, .unset, .unset, .unset, .unset, .unset, .unset, .unset, .unset, .unset, .unset, .unset, .unset, .unset, .unset]) d60_108 rfl (go_iload (pc := 110) d60_110 rfl (go_iload (pc := 112) d60_112 rfl ?_))
  by_cases h5 : r51.1 = (h_ans v0)
  · replace hf := (if_pos h5).symm.trans hf
    refine go_icN (pc := 114) d60_114 (XT.ii_ne_f h5) ?_
    refine go_iload (pc := 117) d60_117 rfl (go_iload (pc := 119) d60_119 rfl ?_)
    by_cases h6 : r61.1 = (h_ans v1)
    · replace hf := (if_pos h6).symm.trans hf
      refine go_icN (pc := 121) d60_121 (XT.ii_ne_f h6) ?_
      refine go_iload (pc := 124) d60_124 rfl (go_iload (pc := 126) d60_126 rfl ?_)
      by_cases h7 : r71.1 = (h_ans v2)
      · replace hf := (if_pos h7).symm.trans hf
        refine go_icN (pc := 128) d60_128 (XT.ii_ne_f h7) ?_
        refine go_iload (pc := 131) d60_131 rfl (go_iload (pc := 133) d60_133 rfl ?_)
        by_cases h8 : r81.1 = (h_ans v3)
        · replace hf := (if_pos h8).symm.trans hf
          refine go_icY (pc := 135) (pc' := 140) d60_135 (XT.ii_eq_t h8) j_135_5 ?_
          refine go_iloadN (pc := 140) d60_140 rfl ?_
          refine go_stat (pc := 141) (as := [.int v0]) (rest := []) (w' := (none, [(11, r81.2)])) lk_1_26 pd_48 rfl rfl ⟨Nat.le_of_ble_eq_true rfl, Nat.le_of_ble_eq_true rfl⟩ ⟨rfl, rfl, rfl⟩ ⟨rfl, rfl, rfl, rfl, rfl⟩ d60_141 (c_h_eff_n1 v0 r81.2) ?_
          refine go_istore (pc := 144) (L' := [.val (.int v0), .val (.int v1), .val (.int v2), .val (.int v3), .val (.int v4), .val (.ref 1), .val (.int r51.1), .val (.int r61.1), .val (.int r71.1), .val (.int r81.1), .val (.int (h_ans v0)), .val (.int (h_ans v1)), .val (.int (h_ans v2)), .val (.int (h_ans v3)), .val (.int (h_eff v0)), .unset, .unset, .unset, .unset, .unset, .unset, .unset, .unset, .unset, .unset, .unset, .unset, .unset, .unset, .unset, .unset, .unset, .unset]) d60_144 rfl (go_iloadN (pc := 146) d60_146 rfl ?_)
          refine go_stat (pc := 147) (as := [.int v1]) (rest := []) (w' := (none, [(11, r81.2)])) lk_1_26 pd_48 rfl rfl ⟨Nat.le_of_ble_eq_true rfl, Nat.le_of_ble_eq_true rfl⟩ ⟨rfl, rfl, rfl⟩ ⟨rfl, rfl, rfl, rfl, rfl⟩ d60_147 (c_h_eff_n1 v1 r81.2) ?_
          refine go_istore (pc := 150) (L' := [.val (.int v0), .val (.int v1), .val (.int v2), .val (.int v3), .val (.int v4), .val (.ref 1), .val (.int r51.1), .val (.int r61.1), .val (.int r71.1), .val (.int r81.1), .val (.int (h_ans v0)), .val (.int (h_ans v1)), .val (.int (h_ans v2)), .val (.int (h_ans v3)), .val (.int (h_eff v0)), .val (.int (h_eff v1)), .unset, .unset, .unset, .unset, .unset, .unset, .unset, .unset, .unset, .unset, .unset, .unset, .unset, .unset, .unset, .unset, .unset]) d60_150 rfl (go_iloadN (pc := 152) d60_152 rfl ?_)
          refine go_stat (pc := 153) (as := [.int v2]) (rest := []) (w' := (none, [(11, r81.2)])) lk_1_26 pd_48 rfl rfl ⟨Nat.le_of_ble_eq_true rfl, Nat.le_of_ble_eq_true rfl⟩ ⟨rfl, rfl, rfl⟩ ⟨rfl, rfl, rfl, rfl, rfl⟩ d60_153 (c_h_eff_n1 v2 r81.2) ?_
          refine go_istore (pc := 156) (L' := [.val (.int v0), .val (.int v1), .val (.int v2), .val (.int v3), .val (.int v4), .val (.ref 1), .val (.int r51.1), .val (.int r61.1), .val (.int r71.1), .val (.int r81.1), .val (.int (h_ans v0)), .val (.int (h_ans v1)), .val (.int (h_ans v2)), .val (.int (h_ans v3)), .val (.int (h_eff v0)), .val (.int (h_eff v1)), .val (.int (h_eff v2)), .unset, .unset, .unset, .unset, .unset, .unset, .unset, .unset, .unset, .unset, .unset, .unset, .unset, .unset, .unset, .unset]) d60_156 rfl (go_iloadN (pc := 158) d60_158 rfl ?_)
          refine go_stat (pc := 159) (as := [.int v3]) (rest := []) (w' := (none, [(11, r81.2)])) lk_1_26 pd_48 rfl rfl ⟨Nat.le_of_ble_eq_true rfl, Nat.le_of_ble_eq_true rfl⟩ ⟨rfl, rfl, rfl⟩ ⟨rfl, rfl, rfl, rfl, rfl⟩ d60_159 (c_h_eff_n1 v3 r81.2) ?_
          refine go_istore (pc := 162) (L' := [.val (.int v0), .val (.int v1), .val (.int v2), .val (.int v3), .val (.int v4), .val (.ref 1), .val (.int r51.1), .val (.int r61.1), .val (.int r71.1), .val (.int r81.1), .val (.int (h_ans v0)), .val (.int (h_ans v1)), .val (.int (h_ans v2)), .val (.int (h_ans v3)), .val (.int (h_eff v0)), .val (.int (h_eff v1)), .val (.int (h_eff v2)), .val (.int (h_eff v3)), .unset, .unset, .unset, .unset, .unset, .unset, .unset, .unset, .unset, .unset, .unset, .unset, .unset, .unset, .unset]) d60_162 rfl (go_iload (pc := 164) d60_164 rfl ?_)
          by_cases h9 : v4 < 0
          · refine go_ifN (pc := 166) d60_166 (XT.i0_ge_f h9) ?_
            refine go_iconst (pc := 169) d60_169 ci_0 (go_goto (pc := 170) (pc' := 185) d60_170 j_170_15 ?_)
            exact law_185_ok (h_eff v0) (h_eff v1) (h_eff v2) (h_eff v3) (0 : Int32) r81.2 (.val (.int v0)) (.val (.int v1)) (.val (.int v2)) (.val (.int v3)) (.val (.int v4)) (.val (.int r51.1)) (.val (.int r61.1)) (.val (.int r71.1)) (.val (.int r81.1)) (.val (.int (h_ans v0))) (.val (.int (h_ans v1))) (.val (.int (h_ans v2))) (.val (.int (h_ans v3))) (Or.inr ⟨_, rfl, rfl⟩) (Or.inr ⟨_, rfl, rfl⟩) (Or.inr ⟨_, rfl, rfl⟩) (Or.inr ⟨_, rfl, rfl⟩) (Or.inr ⟨_, rfl, rfl⟩) (Or.inr ⟨_, rfl, rfl⟩) (Or.inr ⟨_, rfl, rfl⟩) (Or.inr ⟨_, rfl, rfl⟩) (Or.inr ⟨_, rfl, rfl⟩) (Or.inr ⟨_, rfl, rfl⟩) (Or.inr ⟨_, rfl, rfl⟩) (Or.inr ⟨_, rfl, rfl⟩) (Or.inr ⟨_, rfl, rfl⟩) _ (by simpa only [if_pos h9] using hf)
          · refine go_ifY (pc := 166) (pc' := 173) d60_166 (XT.i0_ge_t h9) j_166_7 ?_
            refine go_iload (pc := 173) d60_173 rfl (go_iconst (pc := 175) d60_175 ci_4 ?_)
            by_cases h10 : (4 : Int32) < v4
            · refine go_icN (pc := 176) d60_176 (XT.ii_le_f h10) ?_
              refine go_iconst (pc := 179) d60_179 ci_4 (go_goto (pc := 180) (pc' := 185) d60_180 j_180_5 ?_)
              exact law_185_ok (h_eff v0) (h_eff v1) (h_eff v2) (h_eff v3) (4 : Int32) r81.2 (.val (.int v0)) (.val (.int v1)) (.val (.int v2)) (.val (.int v3)) (.val (.int v4)) (.val (.int r51.1)) (.val (.int r61.1)) (.val (.int r71.1)) (.val (.int r81.1)) (.val (.int (h_ans v0))) (.val (.int (h_ans v1))) (.val (.int (h_ans v2))) (.val (.int (h_ans v3))) (Or.inr ⟨_, rfl, rfl⟩) (Or.inr ⟨_, rfl, rfl⟩) (Or.inr ⟨_, rfl, rfl⟩) (Or.inr ⟨_, rfl, rfl⟩) (Or.inr ⟨_, rfl, rfl⟩) (Or.inr ⟨_, rfl, rfl⟩) (Or.inr ⟨_, rfl, rfl⟩) (Or.inr ⟨_, rfl, rfl⟩) (Or.inr ⟨_, rfl, rfl⟩) (Or.inr ⟨_, rfl, rfl⟩) (Or.inr ⟨_, rfl, rfl⟩) (Or.inr ⟨_, rfl, rfl⟩) (Or.inr ⟨_, rfl, rfl⟩) _ (by simpa only [if_neg h9, if_pos h10] using hf)
            · refine go_icY (pc := 176) (pc' := 183) d60_176 (XT.ii_le_t h10) j_176_7 ?_
              refine go_iload (pc := 183) d60_183 rfl ?_
              exact law_185_ok (h_eff v0) (h_eff v1) (h_eff v2) (h_eff v3) v4 r81.2 (.val (.int v0)) (.val (.int v1)) (.val (.int v2)) (.val (.int v3)) (.val (.int v4)) (.val (.int r51.1)) (.val (.int r61.1)) (.val (.int r71.1)) (.val (.int r81.1)) (.val (.int (h_ans v0))) (.val (.int (h_ans v1))) (.val (.int (h_ans v2))) (.val (.int (h_ans v3))) (Or.inr ⟨_, rfl, rfl⟩) (Or.inr ⟨_, rfl, rfl⟩) (Or.inr ⟨_, rfl, rfl⟩) (Or.inr ⟨_, rfl, rfl⟩) (Or.inr ⟨_, rfl, rfl⟩) (Or.inr ⟨_, rfl, rfl⟩) (Or.inr ⟨_, rfl, rfl⟩) (Or.inr ⟨_, rfl, rfl⟩) (Or.inr ⟨_, rfl, rfl⟩) (Or.inr ⟨_, rfl, rfl⟩) (Or.inr ⟨_, rfl, rfl⟩) (Or.inr ⟨_, rfl, rfl⟩) (Or.inr ⟨_, rfl, rfl⟩) _ (by simpa only [if_neg h9, if_neg h10] using hf)
        · replace hf := (if_neg h8).symm.trans hf
          refine go_icN (pc := 135) d60_135 (XT.ii_eq_f h8) ?_
          refine go_iconst (pc := 138) d60_138 ci_0 ?_
          cases hf
          exact go_zret (pc := 139) rfl d60_139 (show (0 : Int32) = nar .boolean (0 : Int32) by decide)
      · replace hf := (if_neg h7).symm.trans hf
        refine go_icY (pc := 128) (pc' := 138) d60_128 (XT.ii_ne_t h7) j_128_10 ?_
        refine go_iconst (pc := 138) d60_138 ci_0 ?_
        cases hf
        exact go_zret (pc := 139) rfl d60_139 (show (0 : Int32) = nar .boolean (0 : Int32) by decide)
    · replace hf := (if_neg h6).symm.trans hf
      refine go_icY (pc := 121) (pc' := 138) d60_121 (XT.ii_ne_t h6) j_121_17 ?_
      refine go_iconst (pc := 138) d60_138 ci_0 ?_
      cases hf
      exact go_zret (pc := 139) rfl d60_139 (show (0 : Int32) = nar .boolean (0 : Int32) by decide)
  · replace hf := (if_neg h5).symm.trans hf
    refine go_icY (pc := 114) (pc' := 138) d60_114 (XT.ii_ne_t h5) j_114_24 ?_
    refine go_iconst (pc := 138) d60_138 ci_0 ?_
    cases hf
    exact go_zret (pc := 139) rfl d60_139 (show (0 : Int32) = nar .boolean (0 : Int32) by decide)
set_option maxRecDepth 65536 in
set_option maxHeartbeats 4000000 in
theorem law_18_ok  : ∀ (n : Nat) (v0 : Int32) (v1 : Int32) (v2 : Int32) (v3 : Int32) (v4 : Int32) (v6 : Int32) (t0 : S) (x7 : Slot) (hx7 : k1 x7) (o : Int32 × S), law_18 n v0 v1 v2 v3 v4 v6 t0 = some o → Go PP m60 18 [.val (.int v0), .val (.int v1), .val (.int v2), .val (.int v3), .val (.int v4), .val (.ref 1), .val (.int v6), x7, .unset, .unset, .unset, .unset, .unset, .unset, .unset, .unset, .unset, .unset, .unset, .unset, .unset, .unset, .unset, .unset, .unset, .unset, .unset, .unset, .unset, .unset, .unset, .unset, .unset] [] (none, [(11, t0)]) (some (.int o.1), (none, [(11, o.2)])) := by
  intro n
  induction n with
  | zero => intro v0 v1 v2 v3 v4 v6 t0 x7 hx7 o hf; exact nomatch hf
  | succ n ih =>
    intro v0 v1 v2 v3 v4 v6 t0 x7 hx7 o hf
    unfold law_18 at hf
    refine go_iload (pc := 18) d60_18 rfl (go_iconst (pc := 20) d60_20 ci_4 ?_)
    by_cases h1 : v6 < (4 : Int32)
    · replace hf := (if_pos h1).symm.trans hf
      refine go_icN (pc := 21) d60_21 (XT.ii_ge_f h1) ?_
      refine go_aload (pc := 24) d60_24 rfl ?_
      obtain ⟨r26, e2, hf⟩ := Option.bind_eq_some_iff.mp hf
      refine go_virt (pc := 26) (i := 0) (as := []) (rest := []) (w' := (none, [(11, r26.2)])) lk_1_12 pd_35 rfl oid_0 rfl rfl rfl rfl rfl rfl ⟨rfl, rfl, rfl, rfl, rfl⟩ d60_26 (c_k_alloc t0 _ e2) ?_
      refine go_istore (pc := 29) (L' := [.val (.int v0), .val (.int v1), .val (.int v2), .val (.int v3), .val (.int v4), .val (.ref 1), .val (.int v6), .val (.int r26.1), .unset, .unset, .unset, .unset, .unset, .unset, .unset, .unset, .unset, .unset, .unset, .unset, .unset, .unset, .unset, .unset, .unset, .unset, .unset, .unset, .unset, .unset, .unset, .unset, .unset]) d60_29 (stx rfl hx7 rfl) (go_iload (pc := 31) d60_31 rfl (go_iload (pc := 33) d60_33 rfl ?_))
      by_cases h3 : r26.1 = v6
      · replace hf := (if_pos h3).symm.trans hf
        refine go_icY (pc := 35) (pc' := 40) d60_35 (XT.ii_eq_t h3) j_35_5 ?_
        refine go_iinc (pc := 40) (L' := [.val (.int v0), .val (.int v1), .val (.int v2), .val (.int v3), .val (.int v4), .val (.ref 1), .val (.int (v6 + (1 : Int32))), .val (.int r26.1), .unset, .unset, .unset, .unset, .unset, .unset, .unset, .unset, .unset, .unset, .unset, .unset, .unset, .unset, .unset, .unset, .unset, .unset, .unset, .unset, .unset, .unset, .unset, .unset, .unset]) d60_40 rfl ci_1 rfl (go_goto (pc := 43) (pc' := 18) d60_43 j_43_m25 ?_)
        exact ih v0 v1 v2 v3 v4 (v6 + (1 : Int32)) r26.2 (.val (.int r26.1)) (Or.inr ⟨_, rfl, rfl⟩) _ hf
      · replace hf := (if_neg h3).symm.trans hf
        refine go_icN (pc := 35) d60_35 (XT.ii_eq_f h3) ?_
        refine go_iconst (pc := 38) d60_38 ci_0 ?_
        cases hf
        exact go_zret (pc := 39) rfl d60_39 (show (0 : Int32) = nar .boolean (0 : Int32) by decide)
    · replace hf := (if_neg h1).symm.trans hf
      refine go_icY (pc := 21) (pc' := 46) d60_21 (XT.ii_ge_t h1) j_21_25 ?_
      exact law_46_ok v0 v1 v2 v3 v4 t0 (.val (.int v6)) x7 (Or.inr ⟨_, rfl, rfl⟩) hx7 _ hf
set_option maxRecDepth 65536 in
set_option maxHeartbeats 4000000 in
theorem law_ok  : ∀ (v0 : Int32) (v1 : Int32) (v2 : Int32) (v3 : Int32) (v4 : Int32)   (o : Int32 × S), law v0 v1 v2 v3 v4 = some o → Go PP m60 0 [.val (.int v0), .val (.int v1), .val (.int v2), .val (.int v3), .val (.int v4), .unset, .unset, .unset, .unset, .unset, .unset, .unset, .unset, .unset, .unset, .unset, .unset, .unset, .unset, .unset, .unset, .unset, .unset, .unset, .unset, .unset, .unset, .unset, .unset, .unset, .unset, .unset, .unset] [] (none, []) (some (.int o.1), (none, [(11, o.2)])) := by
  intro v0 v1 v2 v3 v4 o hf
  unfold law at hf
  refine go_new (pc := 0) (n := 0) (w' := (none, [(0, s0)])) (List.mem_of_getElem? (i := 0) rfl) rfl rfl rfl rfl rfl rfl rfl d60_0 oid_0 ?_
  refine go_dupR (pc := 3) d60_3 (go_bipush (pc := 4) d60_4 cb_8 (go_iconst (pc := 6) d60_6 ci_1 (go_iconst (pc := 7) d60_7 ci_4 (go_bipush (pc := 8) d60_8 cb_16 ?_))))
  obtain ⟨r10, e2, hf⟩ := Option.bind_eq_some_iff.mp hf
  refine go_init (pc := 10) (i := 0) (as := [.int (8 : Int32), .int (1 : Int32), .int (4 : Int32), .int (16 : Int32)]) (rest := [.ref 1]) (w' := (none, [(11, r10)])) lk_1_9 pd_6 rfl oid_0 rfl rfl rfl rfl rfl rfl rfl rfl rfl ⟨rfl, rfl, rfl⟩ ⟨rfl, rfl⟩ d60_10 (c_k_init (8 : Int32) (1 : Int32) (4 : Int32) (16 : Int32) _ e2) ?_
  refine go_astore (pc := 13) (L' := [.val (.int v0), .val (.int v1), .val (.int v2), .val (.int v3), .val (.int v4), .val (.ref 1), .unset, .unset, .unset, .unset, .unset, .unset, .unset, .unset, .unset, .unset, .unset, .unset, .unset, .unset, .unset, .unset, .unset, .unset, .unset, .unset, .unset, .unset, .unset, .unset, .unset, .unset, .unset]) d60_13 rfl (go_iconst (pc := 15) d60_15 ci_0 (go_istore (pc := 16) (L' := [.val (.int v0), .val (.int v1), .val (.int v2), .val (.int v3), .val (.int v4), .val (.ref 1), .val (.int (0 : Int32)), .unset, .unset, .unset, .unset, .unset, .unset, .unset, .unset, .unset, .unset, .unset, .unset, .unset, .unset, .unset, .unset, .unset, .unset, .unset, .unset, .unset, .unset, .unset, .unset, .unset, .unset]) d60_16 rfl ?_))
  exact law_18_ok BIG v0 v1 v2 v3 v4 (0 : Int32) r10 .unset (Or.inl rfl) _ hf
def own_len (s : S) : Prop := (gA s 0).length = 64 ∧ (gA s 1).length = 256 ∧ (gA s 2).length = 64 ∧ (gA s 3).length = 16 ∧ (gA s 4).length = 64 ∧ (gA s 5).length = 64 ∧ (gA s 6).length = 64 ∧ (gA s 7).length = 64 ∧ (gA s 8).length = 64 ∧ (gA s 9).length = 64 ∧ (gA s 10).length = 64
theorem own_ccf (s : S) (j : Nat) (hj : j < 64) (hl : (gA s 1).length = 256) : ∃ s', k_clearCellFields (Int32.ofNat j) s = some s' ∧ Fx [] [] [1] [] s s' ∧ (gA s' 1).length = 256 ∧ ∀ i, i < 256 → (gA s' 1)[i]? = if 4 * j ≤ i ∧ i < 4 * j + 4 then some (-1 : Int32) else (gA s 1)[i]? := by
  have h0 : ¬ Int32.ofNat j < 0 := ofNat_nonneg (by omega)
  have h1 : Int32.ofNat j < 64 := (lt_lit (by omega)).mpr hj
  have hm : Int32.ofNat j * 4 = Int32.ofNat (j * 4) := (Int32.ofNat_mul j 4).symm
  obtain ⟨s', e, F', l', U⟩ := run_for (fun n v s => k_clearCellFields_17 n (Int32.ofNat (j * 4)) v s) some 4 (fun k u => Fx [] [] [1] [] s u ∧ (gA u 1).length = 256 ∧ ∀ i, i < 256 → (gA u 1)[i]? = if 4 * j ≤ i ∧ i < 4 * j + k then some (-1 : Int32) else (gA s 1)[i]?) (by
    intro n k u hk ⟨F, l, U⟩
    refine ⟨sA u 1 ((gA u 1).set (j * 4 + k) (-1)), ?_, F.sA (by simp), by simp [gA_sA, l], ?_⟩
    · show k_clearCellFields_17 (n + 1) _ _ _ = k_clearCellFields_17 n _ _ _
      rw [k_clearCellFields_17, if_pos ((lt_lit (by omega)).mpr hk), ofNat_add', st_ofNat _ _ (by omega) (by omega), ofNat_succ]; rfl
    · intro i hi
      simp only [gA_sA, if_true]
      by_cases q : i = j * 4 + k
      · subst q; rw [List.getElem?_set_self (by omega), if_pos (by omega)]
      · rw [List.getElem?_set_ne (by omega), U i hi]
        by_cases r : 4 * j ≤ i ∧ i < 4 * j + k
        · rw [if_pos r, if_pos (by omega)]
        · rw [if_neg r, if_neg (by omega)]) (fun n s _ => by show k_clearCellFields_17 (n + 1) _ _ _ = _; rw [k_clearCellFields_17, if_neg (by decide)]) BIG s (by decide) ⟨Fx.refl .., hl, fun i hi => by rw [if_neg (by omega)]⟩
  refine ⟨s', ?_, F', l', U⟩
  unfold k_clearCellFields
  rw [if_neg h0, if_pos h1, hm]
  exact e
def own_J (t s : S) : Prop := Fx [4, 5, 6, 7] [] [0, 1, 2, 3, 4, 5, 6, 7, 8, 9, 10] [] t s ∧ own_len s
theorem own_rh (t s : S) (h : own_J t s) : ∃ s', k_resetHeap s = some s' ∧ own_J t s' ∧ gI s' 4 = 0 ∧ (∀ i, i < 64 → (gA s' 0)[i]? = some 0) ∧ (∀ i, i < 64 → (gA s' 2)[i]? = some 0) ∧ (∀ i, i < 256 → (gA s' 1)[i]? = some (-1 : Int32)) := by
  obtain ⟨s', e, i, U, U2, U1⟩ := run_for k_resetHeap_2 k_resetHeap_33 64 (fun k s => own_J t s ∧ (∀ i, i < k → (gA s 0)[i]? = some 0) ∧ (∀ i, i < k → (gA s 2)[i]? = some 0) ∧ (∀ i, i < 4 * k → (gA s 1)[i]? = some (-1 : Int32))) (by
    intro n k s hk ⟨⟨F, l0, l1, l2, l3, l4, l5, l6, l7, l8, l9, l10⟩, U, U2, U1⟩
    obtain ⟨s', e, F', l', g1⟩ := own_ccf (sA (sA s 0 ((gA s 0).set k 0)) 2 ((gA s 2).set k 0)) k hk (by simp [gA_sA, l1])
    have g : ∀ f, f ≠ 1 → gA s' f = gA (sA (sA s 0 ((gA s 0).set k 0)) 2 ((gA s 2).set k 0)) f := fun f hf => F'.2.2.1 f (by simpa using hf)
    refine ⟨s', ?_, ⟨((F.sA (by simp)).sA (by simp)).trans (F'.mono (by simp) (by simp) (by simp) (by simp)), ?_⟩, ?_, ?_, ?_⟩
    · rw [k_resetHeap_2, if_pos ((lt_lit (by omega)).mpr hk), st_ofNat _ _ (by omega) (by omega), Option.bind_some, st_ofNat _ _ (by omega) (by omega), Option.bind_some, e, Option.bind_some, ofNat_succ]
    · simp [own_len, l', g, gA_sA, *]
    · intro i hi
      rw [g 0 (by decide)]
      simp only [gA_sA]
      by_cases q : i = k
      · subst q; simp [l0, hk]
      · simp; rw [List.getElem?_set_ne (by omega)]; exact U i (by omega)
    · intro i hi
      rw [g 2 (by decide)]
      simp only [gA_sA]
      by_cases q : i = k
      · subst q; simp [l2, hk]
      · simp; rw [List.getElem?_set_ne (by omega)]; exact U2 i (by omega)
    · intro i hi
      rw [g1 i (by omega)]
      by_cases q : 4 * k ≤ i ∧ i < 4 * k + 4
      · rw [if_pos q]
      · rw [if_neg q]; simp [gA_sA]; exact U1 i (by omega)) (fun n s _ => by rw [k_resetHeap_2, if_neg (by decide)]) BIG s (by decide) ⟨h, fun i hi => absurd hi (Nat.not_lt_zero _), fun i hi => absurd hi (Nat.not_lt_zero _), fun i hi => absurd hi (by omega)⟩
  refine ⟨_, e, ⟨i.1.sI (by simp), ?_⟩, by simp [gI_sI], fun j hj => by simp only [gA_sI]; exact U j hj, fun j hj => by simp only [gA_sI]; exact U2 j hj, fun j hj => by simp only [gA_sI]; exact U1 j (by omega)⟩
  have := i.2
  simp [own_len, gA_sI] at this ⊢; exact this
theorem own_rr (t s : S) (h : own_J t s) : ∃ s', k_resetRoots s = some s' ∧ own_J t s' ∧ gI s' 5 = 0 ∧ Fx [5] [] [3] [] s s' := by
  obtain ⟨s', e, i, F2⟩ := run_for k_resetRoots_2 k_resetRoots_21 16 (fun k u => own_J t u ∧ Fx [5] [] [3] [] s u) (by
    intro n k u hk ⟨⟨F, l0, l1, l2, l3, l4, l5, l6, l7, l8, l9, l10⟩, F2⟩
    refine ⟨sA u 3 ((gA u 3).set k (-1)), ?_, ⟨F.sA (by simp), ?_⟩, F2.sA (by simp)⟩
    · rw [k_resetRoots_2, if_pos ((lt_lit (by omega)).mpr hk), st_ofNat _ _ (by omega) (by omega), Option.bind_some, ofNat_succ]
    · simp [own_len, gA_sA, *]) (fun n s _ => by rw [k_resetRoots_2, if_neg (by decide)]) BIG s (by decide) ⟨h, Fx.refl ..⟩
  refine ⟨_, e, ⟨i.1.sI (by simp), ?_⟩, by simp [gI_sI], F2.sI (by simp)⟩
  have := i.2
  simp [own_len, gA_sI] at this ⊢; exact this
theorem own_rt (t s : S) (h : own_J t s) : ∃ s', k_resetTable s = some s' ∧ own_J t s' ∧ gI s' 6 = 0 ∧ (∀ i, i < 64 → (gA s' 5)[i]? = some (-1 : Int32)) ∧ Fx [6] [] [4, 5] [] s s' := by
  obtain ⟨u, e, i, F2⟩ := run_for k_resetTable_2 k_resetTable_21 64 (fun k u => own_J t u ∧ Fx [6] [] [4, 5] [] s u) (by
    intro n k u hk ⟨⟨F, l0, l1, l2, l3, l4, l5, l6, l7, l8, l9, l10⟩, F2⟩
    refine ⟨sA u 4 ((gA u 4).set k (-1)), ?_, ⟨F.sA (by simp), ?_⟩, F2.sA (by simp)⟩
    · rw [k_resetTable_2, if_pos ((lt_lit (by omega)).mpr hk), st_ofNat _ _ (by omega) (by omega), Option.bind_some, ofNat_succ]
    · simp [own_len, gA_sA, *]) (fun n s _ => by rw [k_resetTable_2, if_neg (by decide)]) BIG s (by decide) ⟨h, Fx.refl ..⟩
  obtain ⟨w, e2, i2, F3, U⟩ := run_for k_resetTable_23 k_resetTable_42 64 (fun k w => own_J t w ∧ Fx [6] [] [4, 5] [] s w ∧ Upto (gA w 5) k (-1)) (by
    intro n k u hk ⟨⟨F, l0, l1, l2, l3, l4, l5, l6, l7, l8, l9, l10⟩, F2, U⟩
    refine ⟨sA u 5 ((gA u 5).set k (-1)), ?_, ⟨F.sA (by simp), ?_⟩, F2.sA (by simp), ?_⟩
    · rw [k_resetTable_23, if_pos ((lt_lit (by omega)).mpr hk), st_ofNat _ _ (by omega) (by omega), Option.bind_some, ofNat_succ]
    · simp [own_len, gA_sA, *]
    · simp only [gA_sA, if_true]; exact U.set (by omega)) (fun n s _ => by rw [k_resetTable_23, if_neg (by decide)]) BIG u (by decide) ⟨i, F2, Upto.zero _ _⟩
  refine ⟨_, e.trans e2, ⟨i2.1.sI (by simp), ?_⟩, by simp [gI_sI], fun j hj => by simp only [gA_sI]; exact U j hj, F3.sI (by simp)⟩
  have := i2.2
  simp [own_len, gA_sI] at this ⊢; exact this
theorem own_rs (t s : S) (h : own_J t s) : ∃ s', k_resetScratch s = some s' ∧ own_J t s' ∧ Fx [7] [] [6, 7, 8, 9, 10] [] s s' := by
  obtain ⟨s', e, i, F2⟩ := run_for k_resetScratch_2 k_resetScratch_49 64 (fun k u => own_J t u ∧ Fx [7] [] [6, 7, 8, 9, 10] [] s u) (by
    intro n k u hk ⟨⟨F, l0, l1, l2, l3, l4, l5, l6, l7, l8, l9, l10⟩, F2⟩
    refine ⟨sA (sA (sA (sA (sA u 6 ((gA u 6).set k 0)) 7 ((gA u 7).set k 0)) 8 ((gA u 8).set k 0)) 9 ((gA u 9).set k 0)) 10 ((gA u 10).set k (-1)), ?_, ⟨((((F.sA (by simp)).sA (by simp)).sA (by simp)).sA (by simp)).sA (by simp), ?_⟩, ((((F2.sA (by simp)).sA (by simp)).sA (by simp)).sA (by simp)).sA (by simp)⟩
    · rw [k_resetScratch_2, if_pos ((lt_lit (by omega)).mpr hk), st_ofNat _ _ (by omega) (by omega), Option.bind_some, st_ofNat _ _ (by omega) (by omega), Option.bind_some, st_ofNat _ _ (by omega) (by omega), Option.bind_some, st_ofNat _ _ (by omega) (by omega), Option.bind_some, st_ofNat _ _ (by omega) (by omega), Option.bind_some, ofNat_succ]
    · simp [own_len, gA_sA, *]) (fun n s _ => by rw [k_resetScratch_2, if_neg (by decide)]) BIG s (by decide) ⟨h, Fx.refl ..⟩
  refine ⟨_, e, ⟨i.1.sI (by simp), ?_⟩, F2.sI (by simp)⟩
  have := i.2
  simp [own_len, gA_sI] at this ⊢; exact this
def bI (b : Bool) : Int32 := if b then 1 else 0
theorem bI_ite (b : Bool) : (if bI b = 0 then some (0 : Int32) else some 1) = some (bI b) := by cases b <;> rfl
def pc : Option Nat → Int32
  | none => -1
  | some x => Int32.ofNat x
/-- field f of s shows g below H -/
def Rg (H : Nat) (s : S) (f : Nat) (g : Nat → Int32) : Prop := ∀ x, x < H → (gA s f)[x]? = some (g x)
theorem Rg.fx {H : Nat} {s t : S} {f : Nat} {g : Nat → Int32} (h : Rg H s f g) (e : gA t f = gA s f) : Rg H t f g := by unfold Rg; rw [e]; exact h
theorem Rg.put {H : Nat} {s : S} {f : Nat} {g : Nat → Int32} (h : Rg H s f g) {x : Nat} (hx : x < (gA s f).length) (v : Int32) : Rg H (sA s f ((gA s f).set x v)) f (aupd g x v) := fun y hy => by
  rw [gA_sA, if_pos rfl]
  unfold aupd
  by_cases q : y = x
  · subst q; rw [if_pos rfl, List.getElem?_set_self hx]
  · rw [if_neg q, List.getElem?_set_ne (by omega)]; exact h y hy
theorem Rg.congr {H : Nat} {s : S} {f : Nat} {g g' : Nat → Int32} (h : Rg H s f g) (e : ∀ x, x < H → g x = g' x) : Rg H s f g' := fun x hx => by rw [h x hx, e x hx]
def Gd (H RC TC Fn : Nat) (s : S) : Prop := gI s 0 = Int32.ofNat H ∧ gI s 1 = Int32.ofNat Fn ∧ gI s 2 = Int32.ofNat RC ∧ gI s 3 = Int32.ofNat TC ∧ own_len s ∧ H ≤ 19 ∧ RC ≤ 16 ∧ RC < TC ∧ TC ≤ 64 ∧ Fn ≤ 4
theorem len_of {s t : S} (h : own_len s) (e : ∀ k, k ≤ 10 → (gA t k).length = (gA s k).length) : own_len t := by
  obtain ⟨l0, l1, l2, l3, l4, l5, l6, l7, l8, l9, l10⟩ := h
  exact ⟨by rw [e 0 (by omega)]; exact l0, by rw [e 1 (by omega)]; exact l1, by rw [e 2 (by omega)]; exact l2, by rw [e 3 (by omega)]; exact l3, by rw [e 4 (by omega)]; exact l4, by rw [e 5 (by omega)]; exact l5, by rw [e 6 (by omega)]; exact l6, by rw [e 7 (by omega)]; exact l7, by rw [e 8 (by omega)]; exact l8, by rw [e 9 (by omega)]; exact l9, by rw [e 10 (by omega)]; exact l10⟩
theorem len_set {s : S} (h : own_len s) {f x : Nat} {v : Int32} : own_len (sA s f ((gA s f).set x v)) := len_of h fun k _ => by
  rw [gA_sA]
  by_cases q : k = f
  · rw [if_pos q, List.length_set, q]
  · rw [if_neg q]
theorem len_sI {s : S} (h : own_len s) {f : Nat} {v : Int32} : own_len (sI s f v) := len_of h fun k _ => by rw [gA_sI]
theorem len64 {s : S} (h : own_len s) {f : Nat} (hf : f = 0 ∨ f = 2 ∨ f = 4 ∨ f = 5 ∨ f = 6 ∨ f = 7 ∨ f = 8 ∨ f = 9 ∨ f = 10) : (gA s f).length = 64 := by
  obtain ⟨l0, l1, l2, l3, l4, l5, l6, l7, l8, l9, l10⟩ := h
  rcases hf with rfl | rfl | rfl | rfl | rfl | rfl | rfl | rfl | rfl <;> assumption
theorem Gd.put {H RC TC Fn : Nat} {s : S} (h : Gd H RC TC Fn s) {f x : Nat} {v : Int32} : Gd H RC TC Fn (sA s f ((gA s f).set x v)) := by
  obtain ⟨g0, g1, g2, g3, l, b⟩ := h
  exact ⟨by rw [gI_sA]; exact g0, by rw [gI_sA]; exact g1, by rw [gI_sA]; exact g2, by rw [gI_sA]; exact g3, len_set l, b⟩
theorem Gd.sI {H RC TC Fn : Nat} {s : S} (h : Gd H RC TC Fn s) {f : Nat} {v : Int32} (hf : 4 ≤ f) : Gd H RC TC Fn (sI s f v) := by
  obtain ⟨g0, g1, g2, g3, l, b⟩ := h
  exact ⟨by rw [gI_sI, if_neg (by omega)]; exact g0, by rw [gI_sI, if_neg (by omega)]; exact g1, by rw [gI_sI, if_neg (by omega)]; exact g2, by rw [gI_sI, if_neg (by omega)]; exact g3, len_sI l, b⟩
theorem Gd.fx {H RC TC Fn : Nat} {s t : S} (h : Gd H RC TC Fn s) (i : ∀ k, k < 4 → gI t k = gI s k) (l : own_len t) : Gd H RC TC Fn t := by
  obtain ⟨g0, g1, g2, g3, _, b⟩ := h
  exact ⟨by rw [i 0 (by omega)]; exact g0, by rw [i 1 (by omega)]; exact g1, by rw [i 2 (by omega)]; exact g2, by rw [i 3 (by omega)]; exact g3, l, b⟩
theorem obj_yes {H RC TC Fn : Nat} {s : S} (G : Gd H RC TC Fn s) {x : Nat} (hx : x < H) : k_isObjectId (Int32.ofNat x) s = 1 := by
  obtain ⟨g0, g1, g2, g3, l, b⟩ := G
  unfold k_isObjectId
  rw [if_neg (ofNat_nonneg (by omega)), g0, if_pos (by rw [ofNat_lt (by omega) (by omega)]; exact hx)]
theorem obj_nil (s : S) : k_isObjectId (-1) s = 0 := by unfold k_isObjectId; rw [if_pos (by decide)]
def Rfd (H : Nat) (s : S) (fd : Nat → Nat → Option Nat) : Prop := ∀ x f, x < H → f < 4 → (gA s 1)[4 * x + f]? = some (pc (fd x f))
theorem Rfd.fx {H : Nat} {s t : S} {fd : Nat → Nat → Option Nat} (h : Rfd H s fd) (e : gA t 1 = gA s 1) : Rfd H t fd := by unfold Rfd; rw [e]; exact h
theorem fno_yes {H RC TC Fn : Nat} {s : S} (G : Gd H RC TC Fn s) {f : Nat} (hf : f < Fn) : k_isFieldNo (Int32.ofNat f) s = 1 := by
  have f4 := G.2.2.2.2.2.2.2.2.2
  unfold k_isFieldNo
  rw [if_neg (ofNat_nonneg (by omega)), G.2.1, if_pos (by rw [ofNat_lt (by omega) (by omega)]; exact hf)]
theorem mul4 (x f : Nat) : Int32.ofNat x * 4 + Int32.ofNat f = Int32.ofNat (4 * x + f) := by
  rw [show Int32.ofNat x * 4 = Int32.ofNat (x * 4) from (Int32.ofNat_mul x 4).symm, ofNat_add', Nat.mul_comm]
theorem read_ok {H RC TC Fn : Nat} {s : S} (G : Gd H RC TC Fn s) {fd : Nat → Nat → Option Nat} (R : Rfd H s fd) {x f : Nat} (hx : x < H) (hf : f < Fn) : k_readField (Int32.ofNat x) (Int32.ofNat f) s = some (pc (fd x f)) := by
  have h8 := G.2.2.2.2.2.1
  have f4 := G.2.2.2.2.2.2.2.2.2
  unfold k_readField
  rw [obj_yes G hx, if_neg (by decide), fno_yes G hf, if_neg (by decide), mul4, ix_ofNat _ (by omega), R x f hx (by omega), Option.bind_some]
def lvO (lv : Nat → Bool) : Option Nat → Int32
  | none => 0
  | some y => bI (lv y)
theorem live_ok {H RC TC Fn : Nat} {s : S} (G : Gd H RC TC Fn s) {lv : Nat → Bool} (R : Rg H s 0 (fun x => bI (lv x))) {o : Option Nat} (ho : ∀ y, o = some y → y < H) : k_isLiveId (pc o) s = some (lvO lv o) := by
  have h8 := G.2.2.2.2.2.1
  unfold k_isLiveId
  cases o with
  | none => rw [show pc none = -1 from rfl, obj_nil, if_pos rfl]; rfl
  | some y =>
    have hy := ho y rfl
    rw [show pc (some y) = Int32.ofNat y from rfl, obj_yes G hy, if_neg (by decide), ix_ofNat _ (by omega), R y hy, Option.bind_some]
    exact bI_ite _
def fc (fd : Nat → Nat → Option Nat) (y x : Nat) : Nat → Nat
  | 0 => 0
  | k + 1 => fc fd y x k + (if fd y k = some x then 1 else 0)
theorem fc_zero {fd : Nat → Nat → Option Nat} {y x : Nat} : ∀ k, fc fd y x k = 0 ↔ ∀ f, f < k → fd y f ≠ some x
  | 0 => ⟨fun _ f h => by omega, fun _ => rfl⟩
  | k + 1 => by
    rw [fc]
    have ih := fc_zero (fd := fd) (y := y) (x := x) k
    constructor
    · intro h f hf
      by_cases q : f = k
      · subst q
        intro e
        rw [if_pos e] at h
        omega
      · exact ih.mp (by omega) f (by omega)
    · intro h
      rw [ih.mpr fun f hf => h f (by omega), if_neg (h k (by omega))]
theorem fc_le (fd : Nat → Nat → Option Nat) (y x : Nat) : ∀ k, fc fd y x k ≤ k
  | 0 => Nat.le_refl _
  | k + 1 => by
    rw [fc]
    have := fc_le fd y x k
    split <;> omega
theorem fc_congr {fd gd : Nat → Nat → Option Nat} {y x : Nat} : ∀ k, (∀ f, f < k → fd y f = gd y f) → fc fd y x k = fc gd y x k
  | 0, _ => rfl
  | k + 1, h => by rw [fc, fc, fc_congr k fun f hf => h f (by omega), h k (by omega)]
def one (fd : Nat → Nat → Option Nat) (y x : Nat) : Nat := fc fd y x 4
theorem fc_top {fd : Nat → Nat → Option Nat} {Fn : Nat} (wF : ∀ x f y, fd x f = some y → f < Fn) (y x : Nat) : ∀ k, Fn ≤ k → fc fd y x k = fc fd y x Fn
  | 0, h => by rw [show Fn = 0 by omega]
  | k + 1, h => by
    by_cases q : Fn = k + 1
    · rw [q]
    · rw [fc, fc_top wF y x k (by omega), if_neg (fun e => by have := wF y k x e; omega), Nat.add_zero]
def deg (P : Nat → Bool) (fd : Nat → Nat → Option Nat) (x : Nat) : Nat → Nat
  | 0 => 0
  | n + 1 => deg P fd x n + (if P n then one fd n x else 0)
theorem deg_congr {P Q : Nat → Bool} {fd gd : Nat → Nat → Option Nat} {x : Nat} : ∀ n, (∀ y, y < n → P y = Q y ∧ (P y = true → one fd y x = one gd y x)) → deg P fd x n = deg Q gd x n
  | 0, _ => rfl
  | n + 1, h => by
    rw [deg, deg, deg_congr n fun y hy => h y (by omega)]
    obtain ⟨h1, h2⟩ := h n (by omega)
    rw [← h1]
    cases e : P n with
    | false => rfl
    | true => rw [if_pos rfl, if_pos rfl, h2 e]
theorem deg_drop {P : Nat → Bool} {fd : Nat → Nat → Option Nat} {x z : Nat} (hz : P z = true) : ∀ n, z < n → deg (aupd P z false) fd x n + one fd z x = deg P fd x n
  | 0, h => by omega
  | n + 1, h => by
    rw [deg, deg]
    by_cases q : z = n
    · subst q
      have e : deg (aupd P z false) fd x z = deg P fd x z := deg_congr z fun y hy => by
        have : aupd P z false y = P y := by unfold aupd; rw [if_neg (by omega)]
        rw [this]; exact ⟨rfl, fun _ => rfl⟩
      have e2 : aupd P z false z = false := by unfold aupd; rw [if_pos rfl]
      rw [e, e2, hz]; simp
    · have := deg_drop (fd := fd) (x := x) hz n (by omega)
      have e2 : aupd P z false n = P n := by unfold aupd; rw [if_neg (by omega)]
      rw [e2]; omega
theorem deg_zero {P : Nat → Bool} {fd : Nat → Nat → Option Nat} {x : Nat} : ∀ n, deg P fd x n = 0 ↔ ∀ y f, y < n → P y = true → f < 4 → fd y f ≠ some x
  | 0 => ⟨fun _ y f h => by omega, fun _ => rfl⟩
  | n + 1 => by
    rw [deg]
    have ih := deg_zero (P := P) (fd := fd) (x := x) n
    constructor
    · intro h y f hy hp hf
      by_cases q : y = n
      · subst q
        rw [hp, if_pos rfl] at h
        exact (fc_zero 4).mp (show fc fd y x 4 = 0 by unfold one at h; omega) f hf
      · exact (ih.mp (by omega)) y f (by omega) hp hf
    · intro h
      have h1 := ih.mpr fun y f hy hp hf => h y f (by omega) hp hf
      rw [h1]
      cases e : P n with
      | false => rfl
      | true =>
        rw [if_pos rfl]
        rw [Nat.zero_add]
        exact (fc_zero 4).mpr fun f hf => h n f (by omega) e hf
theorem deg_le (P : Nat → Bool) (fd : Nat → Nat → Option Nat) (x : Nat) : ∀ n, deg P fd x n ≤ 4 * n
  | 0 => by simp [deg]
  | n + 1 => by
    rw [deg]
    have := deg_le P fd x n
    have : one fd n x ≤ 4 := fc_le ..
    split <;> omega
/-- what a heap shows -/
def Rr (s : S) (rts : List (Option Nat)) : Prop := gI s 5 = Int32.ofNat rts.length ∧ ∀ (i : Nat) (o : Option Nat), rts[i]? = some o → (gA s 3)[i]? = some (pc o)
theorem Rr.fx {s t : S} {rts : List (Option Nat)} (h : Rr s rts) (i5 : gI t 5 = gI s 5) (e : gA t 3 = gA s 3) : Rr t rts := by unfold Rr; rw [i5, e]; exact h
theorem clr7 : ∀ m j N s, j + m = 64 → m < N → own_len s → Upto (gA s 7) j 0 → ∃ s', k_markRootHeld_2 N (Int32.ofNat j) s = k_markRootHeld_21 s' ∧ Fx [] [] [7] [] s s' ∧ own_len s' ∧ gA s' 7 = rep 64 0
  | _, _, 0, _, _, h, _, _ => by omega
  | 0, j, N + 1, s, hj, _, l, u => by
    have : j = 64 := by omega
    subst this
    exact ⟨s, by rw [k_markRootHeld_2, if_neg (by decide)], Fx.refl .., l, u.all (len64 l (by simp))⟩
  | m + 1, j, N + 1, s, hj, hN, l, u => by
    have l7 := len64 l (f := 7) (by simp)
    rw [k_markRootHeld_2, if_pos ((lt_lit (m := 64) (by omega) (by decide)).mpr (by omega)), st_ofNat _ _ (by omega) (by omega), Option.bind_some, ofNat_succ]
    obtain ⟨s', e, F, r⟩ := clr7 m (j + 1) N (sA s 7 ((gA s 7).set j 0)) (by omega) (by omega) (len_set l) (by rw [gA_sA, if_pos rfl]; exact u.set (by omega))
    exact ⟨s', e, ((Fx.refl ..).sA (by simp)).trans F, r⟩
def held (rts : List (Option Nat)) (x : Nat) : Bool := decide (some x ∈ rts)
theorem mark_loop {H RC TC Fn : Nat} {rts : List (Option Nat)} (hl : rts.length ≤ 16) (hr : ∀ y, some y ∈ rts → y < H) : ∀ m j N s, j + m = rts.length → m < N → Gd H RC TC Fn s → Rr s rts → Rg H s 7 (fun x => bI (held (rts.take j) x)) → ∃ s', k_markRootHeld_23 N (Int32.ofNat j) s = some s' ∧ Fx [] [] [7] [] s s' ∧ Gd H RC TC Fn s' ∧ Rg H s' 7 (fun x => bI (held rts x))
  | _, _, 0, _, _, h, _, _, _ => by omega
  | 0, j, N + 1, s, hj, _, G, R, g => by
    have : j = rts.length := by omega
    subst this
    rw [List.take_length] at g
    exact ⟨s, by rw [k_markRootHeld_23, R.1, if_neg (by rw [ofNat_lt (by omega) (by omega)]; omega)], Fx.refl .., G, g⟩
  | m + 1, j, N + 1, s, hj, hN, G, R, g => by
    have hj' : j < rts.length := by omega
    have ej : rts[j]? = some rts[j] := List.getElem?_eq_getElem hj'
    have h8 := G.2.2.2.2.2.1
    have l7 := len64 G.2.2.2.2.1 (f := 7) (by simp)
    have tk : rts.take (j + 1) = rts.take j ++ [rts[j]] := by rw [List.take_add_one, ej]; rfl
    rw [k_markRootHeld_23, R.1, if_pos (by rw [ofNat_lt (by omega) (by omega)]; exact hj'), if_pos ((lt_lit (m := 16) (by omega) (by decide)).mpr (by omega)), ix_ofNat _ (by omega), R.2 j _ ej, Option.bind_some, ofNat_succ]
    cases e : rts[j] with
    | none =>
      rw [show pc none = -1 from rfl, obj_nil, if_pos rfl]
      refine mark_loop hl hr m (j + 1) N s (by omega) (by omega) G R (g.congr fun x hx => ?_)
      rw [tk, e]; unfold held; simp
    | some y =>
      have hy : y < H := hr y (by rw [← e]; exact List.getElem_mem hj')
      rw [show pc (some y) = Int32.ofNat y from rfl, obj_yes G hy, if_neg (by decide), st_ofNat _ _ (by omega) (by omega), Option.bind_some]
      obtain ⟨s', e', F, r⟩ := mark_loop hl hr m (j + 1) N (sA s 7 ((gA s 7).set y 1)) (by omega) (by omega) G.put (R.fx (by rw [gI_sA]) (by rw [gA_sA, if_neg (by decide)])) ((g.put (by omega) 1).congr fun x hx => by
        unfold aupd
        by_cases w : x = y
        · rw [if_pos w, tk, e]; unfold held; simp [w]; rfl
        · rw [if_neg w, tk, e]; unfold held; simp [w])
      exact ⟨s', e', ((Fx.refl ..).sA (by simp)).trans F, r⟩
theorem mark_ok {H RC TC Fn : Nat} {rts : List (Option Nat)} (hl : rts.length ≤ 16) (hr : ∀ y, some y ∈ rts → y < H) {s : S} (G : Gd H RC TC Fn s) (R : Rr s rts) : ∃ s', k_markRootHeld s = some s' ∧ Fx [] [] [7] [] s s' ∧ Gd H RC TC Fn s' ∧ Rg H s' 7 (fun x => bI (held rts x)) := by
  have h8 := G.2.2.2.2.2.1
  obtain ⟨t, e, F, l, a⟩ := clr7 64 0 BIG s (by omega) (by unfold BIG; omega) G.2.2.2.2.1 (Upto.zero _ _)
  have Gt : Gd H RC TC Fn t := G.fx (fun k _ => F.1 k (by simp)) l
  obtain ⟨s', e2, F2, G2, g2⟩ := mark_loop hl hr rts.length 0 BIG t (by omega) (by unfold BIG; omega) Gt (R.fx (F.1 5 (by simp)) (F.2.2.1 3 (by simp))) (fun x hx => by
    rw [a]; unfold rep; rw [List.getElem?_replicate, if_pos (by omega)]; unfold held; simp; rfl)
  refine ⟨s', ?_, F.trans F2, G2, g2⟩
  unfold k_markRootHeld
  rw [show (0 : Int32) = Int32.ofNat 0 from rfl, e]
  exact e2
theorem init_cnt {H RC TC Fn : Nat} {lv : Nat → Bool} : ∀ m j N s, j + m = 64 → m < N → Gd H RC TC Fn s → Rg H s 0 (fun x => bI (lv x)) → Upto (gA s 9) j 0 → Upto (gA s 8) j 0 → (∀ x, x < j → x < H → (gA s 6)[x]? = some (bI (lv x))) → ∃ s', k_countHolders_2 N (Int32.ofNat j) s = k_countHolders_56 s' ∧ Fx [] [] [6, 8, 9] [] s s' ∧ Gd H RC TC Fn s' ∧ Rg H s' 9 (fun _ => 0) ∧ Rg H s' 8 (fun _ => 0) ∧ Rg H s' 6 (fun x => bI (lv x))
  | _, _, 0, _, _, h, _, _, _, _, _ => by omega
  | 0, j, N + 1, s, hj, _, G, R, u9, u8, g6 => by
    have : j = 64 := by omega
    subst this
    have h8 := G.2.2.2.2.2.1
    exact ⟨s, by rw [k_countHolders_2, if_neg (by decide)], Fx.refl .., G, fun x hx => u9 x (by omega), fun x hx => u8 x (by omega), fun x hx => g6 x (by omega) hx⟩
  | m + 1, j, N + 1, s, hj, hN, G, R, u9, u8, g6 => by
    have h8 := G.2.2.2.2.2.1
    have l9 := len64 G.2.2.2.2.1 (f := 9) (by simp)
    have l8 := len64 G.2.2.2.2.1 (f := 8) (by simp)
    have l6 := len64 G.2.2.2.2.1 (f := 6) (by simp)
    have nb : ∀ b, nar .boolean (bI b) = bI b := fun b => by cases b <;> decide
    have key : ∀ p0 : Int32, (j < H → p0 = bI (lv j)) → (p0 = 0 ∨ p0 = 1) → ∃ s', k_countHolders_49 (fun v1 s => k_countHolders_2 N v1 s) (Int32.ofNat j) p0 (Int32.ofNat j) (sA (sA s 9 ((gA s 9).set j 0)) 8 ((gA s 8).set j 0)) = k_countHolders_56 s' ∧ Fx [] [] [6, 8, 9] [] s s' ∧ Gd H RC TC Fn s' ∧ Rg H s' 9 (fun _ => 0) ∧ Rg H s' 8 (fun _ => 0) ∧ Rg H s' 6 (fun x => bI (lv x)) := fun p0 hp h01 => by
      unfold k_countHolders_49
      have n01 : nar .boolean p0 = p0 := by rcases h01 with h | h <;> rw [h] <;> decide
      have e6 : gA (sA (sA s 9 ((gA s 9).set j 0)) 8 ((gA s 8).set j 0)) 6 = gA s 6 := by simp only [gA_sA]; rfl
      have Gt : Gd H RC TC Fn (sA (sA s 9 ((gA s 9).set j 0)) 8 ((gA s 8).set j 0)) := by
        have := (G.put (f := 9) (x := j) (v := 0)).put (f := 8) (x := j) (v := 0)
        rw [gA_sA, if_neg (by decide)] at this
        exact this
      rw [n01, e6, st_ofNat _ _ (by omega) (by omega), Option.bind_some, ofNat_succ]
      have Gt2 := Gt.put (f := 6) (x := j) (v := p0)
      rw [e6] at Gt2
      obtain ⟨s', e, F, r⟩ := init_cnt m (j + 1) N (sA (sA (sA s 9 ((gA s 9).set j 0)) 8 ((gA s 8).set j 0)) 6 ((gA s 6).set j p0)) (by omega) (by omega) Gt2 (R.fx (by simp only [gA_sA]; rfl)) (by simp only [gA_sA]; exact u9.set (by omega)) (by simp only [gA_sA]; exact u8.set (by omega)) (fun x hx hH => by
        simp only [gA_sA, if_true]
        by_cases w : x = j
        · subst w; rw [List.getElem?_set_self (by omega), hp hH]
        · rw [List.getElem?_set_ne (by omega)]; exact g6 x (by omega) hH)
      exact ⟨s', e, ((((Fx.refl ..).sA (by simp)).sA (by simp)).sA (by simp)).trans F, r⟩
    rw [k_countHolders_2, if_pos ((lt_lit (m := 64) (by omega) (by decide)).mpr (by omega)), st_ofNat _ _ (by omega) (by omega), Option.bind_some, st_ofNat _ _ (by omega) (by omega), Option.bind_some, G.1]
    by_cases q : j < H
    · rw [if_pos (by rw [ofNat_lt (by omega) (by omega)]; exact q), ix_ofNat _ (by omega), R j q, Option.bind_some]
      refine key _ (fun _ => ?_) ?_
      · show (if bI (lv j) = 0 then (0 : Int32) else 1) = bI (lv j)
        cases lv j <;> rfl
      · show (if bI (lv j) = 0 then (0 : Int32) else 1) = 0 ∨ (if bI (lv j) = 0 then (0 : Int32) else 1) = 1
        cases lv j
        · exact Or.inl rfl
        · exact Or.inr rfl
    · rw [if_neg (by rw [ofNat_lt (by omega) (by omega)]; exact q)]
      exact key 0 (fun z => absurd z q) (Or.inl rfl)
/-- one field pair is counted into array a -/
theorem add_loop {H RC TC Fn : Nat} {lv : Nat → Bool} {fd : Nat → Nat → Option Nat} (w1 : ∀ x f y, fd x f = some y → y < H ∧ lv y = true) (wF : ∀ x f y, fd x f = some y → f < Fn) {y : Nat} (hy : y < H) {s : S} (G : Gd H RC TC Fn s) (R0 : Rg H s 0 (fun x => bI (lv x))) (Rf : Rfd H s fd) {g : Nat → Nat} (gb : ∀ x, x < H → g x ≤ 100) (R9 : Rg H s 9 (fun x => Int32.ofNat (g x))) : ∃ s', k_addHoldersOf (Int32.ofNat y) s = some s' ∧ Fx [] [] [9] [] s s' ∧ Gd H RC TC Fn s' ∧ Rg H s' 9 (fun x => Int32.ofNat (g x + one fd y x)) := by
  have h8 := G.2.2.2.2.2.1
  have f4 := G.2.2.2.2.2.2.2.2.2
  -- one step
  have step : ∀ (f : Nat) (n : Nat) (s : S) (g : Nat → Nat), f < Fn → Gd H RC TC Fn s → Rg H s 0 (fun x => bI (lv x)) → Rfd H s fd → Rg H s 9 (fun x => Int32.ofNat (g x)) → ∃ s', k_addHoldersOf_2 (n + 1) (Int32.ofNat y) (Int32.ofNat f) s = k_addHoldersOf_2 n (Int32.ofNat y) (Int32.ofNat (f + 1)) s' ∧ Fx [] [] [9] [] s s' ∧ Gd H RC TC Fn s' ∧ Rg H s' 9 (fun x => Int32.ofNat (g x + if fd y f = some x then 1 else 0)) := fun f n s g hf G R0 Rf R9 => by
    have l9 := len64 G.2.2.2.2.1 (f := 9) (by simp)
    rw [k_addHoldersOf_2, G.2.1, if_pos (by rw [ofNat_lt (by omega) (by omega)]; exact hf), read_ok G Rf hy hf, Option.bind_some, live_ok G R0 (fun z hz => (w1 y f z hz).1), Option.bind_some, ofNat_succ]
    cases e : fd y f with
    | none =>
      rw [if_pos (show lvO lv none = 0 from rfl)]
      exact ⟨s, rfl, Fx.refl .., G, R9.congr fun x hx => by simp⟩
    | some z =>
      obtain ⟨hz, lz⟩ := w1 y f z e
      rw [show lvO lv (some z) = bI (lv z) from rfl, lz, if_neg (by decide), show pc (some z) = Int32.ofNat z from rfl, ix_ofNat _ (by omega), R9 z hz, Option.bind_some, ofNat_succ, st_ofNat _ _ (by omega) (by omega), Option.bind_some]
      refine ⟨_, rfl, (Fx.refl ..).sA (by simp), G.put, (R9.put (by omega) _).congr fun x hx => ?_⟩
      unfold aupd
      by_cases w : x = z
      · rw [if_pos w, w, if_pos rfl]
      · rw [if_neg w, if_neg (fun q => w (Option.some.inj q).symm)]; rfl
  have loop : ∀ m f n (s : S), f + m = Fn → m < n → Gd H RC TC Fn s → Rg H s 0 (fun x => bI (lv x)) → Rfd H s fd → Rg H s 9 (fun x => Int32.ofNat (g x + fc fd y x f)) → ∃ s', k_addHoldersOf_2 n (Int32.ofNat y) (Int32.ofNat f) s = some s' ∧ Fx [] [] [9] [] s s' ∧ Gd H RC TC Fn s' ∧ Rg H s' 9 (fun x => Int32.ofNat (g x + fc fd y x Fn)) := by
    intro m
    induction m with
    | zero =>
      intro f n s hf hn G R0 Rf R9
      obtain ⟨n, rfl⟩ : ∃ k, n = k + 1 := ⟨n - 1, by omega⟩
      have : f = Fn := by omega
      subst this
      exact ⟨s, by rw [k_addHoldersOf_2, G.2.1, if_neg (by rw [ofNat_lt (by omega) (by omega)]; omega)], Fx.refl .., G, R9⟩
    | succ m ih =>
      intro f n s hf hn G R0 Rf R9
      obtain ⟨n, rfl⟩ : ∃ k, n = k + 1 := ⟨n - 1, by omega⟩
      obtain ⟨t, e1, F1, G1, R1⟩ := step f n s _ (by omega) G R0 Rf R9
      obtain ⟨u, e2, F2, r⟩ := ih (f + 1) n t (by omega) (by omega) G1 (R0.fx (F1.2.2.1 0 (by simp))) (Rf.fx (F1.2.2.1 1 (by simp))) (R1.congr fun x hx => by rw [fc, Nat.add_assoc])
      exact ⟨u, e1.trans e2, F1.trans F2, r⟩
  obtain ⟨u, e, F, G', R⟩ := loop Fn 0 BIG s (by omega) (by unfold BIG; omega) G R0 Rf R9
  refine ⟨u, e, F, G', R.congr fun x hx => ?_⟩
  unfold one
  rw [fc_top wF y x 4 f4]
theorem cnt_loop {H RC TC Fn : Nat} {lv : Nat → Bool} {fd : Nat → Nat → Option Nat} (w1 : ∀ x f y, fd x f = some y → y < H ∧ lv y = true) (wF : ∀ x f y, fd x f = some y → f < Fn) : ∀ m j N s, j + m = H → m < N → Gd H RC TC Fn s → Rg H s 0 (fun x => bI (lv x)) → Rfd H s fd → Rg H s 9 (fun x => Int32.ofNat (deg lv fd x j)) → ∃ s', k_countHolders_58 N (Int32.ofNat j) s = some s' ∧ Fx [] [] [9] [] s s' ∧ Gd H RC TC Fn s' ∧ Rg H s' 9 (fun x => Int32.ofNat (deg lv fd x H))
  | _, _, 0, _, _, h, _, _, _, _ => by omega
  | 0, j, N + 1, s, hj, _, G, R0, Rf, R9 => by
    have : j = H := by omega
    subst this
    have h8 := G.2.2.2.2.2.1
    exact ⟨s, by rw [k_countHolders_58, G.1, if_neg (by rw [ofNat_lt (by omega) (by omega)]; omega)], Fx.refl .., G, R9⟩
  | m + 1, j, N + 1, s, hj, hN, G, R0, Rf, R9 => by
    have h8 := G.2.2.2.2.2.1
    rw [k_countHolders_58, G.1, if_pos (by rw [ofNat_lt (by omega) (by omega)]; omega), ix_ofNat _ (by omega), show (gA s 0)[j]? = some (bI (lv j)) from R0 j (by omega), Option.bind_some, ofNat_succ]
    cases e : lv j with
    | false =>
      rw [if_pos (show bI false = 0 from rfl)]
      exact cnt_loop w1 wF m (j + 1) N s (by omega) (by omega) G R0 Rf (R9.congr fun x hx => by rw [deg, e]; rfl)
    | true =>
      rw [if_neg (show ¬ bI true = 0 by decide)]
      obtain ⟨t, e1, F1, G1, R1⟩ := add_loop w1 wF (y := j) (by omega) G R0 Rf (fun x hx => by have := deg_le lv fd x j; omega) R9
      rw [e1, Option.bind_some]
      obtain ⟨s', e2, F2, r⟩ := cnt_loop w1 wF m (j + 1) N t (by omega) (by omega) G1 (R0.fx (F1.2.2.1 0 (by simp))) (Rf.fx (F1.2.2.1 1 (by simp))) (R1.congr fun x hx => by rw [deg, e]; rfl)
      exact ⟨s', e2, F1.trans F2, r⟩
def RW (s : S) (W : List Nat) : Prop := gI s 7 = Int32.ofNat W.length ∧ W.length ≤ 19 ∧ ∀ (i x : Nat), W[i]? = some x → (gA s 10)[i]? = some (Int32.ofNat x)
theorem RW.fx {s t : S} {W : List Nat} (h : RW s W) (i : gI t 7 = gI s 7) (e : gA t 10 = gA s 10) : RW t W := by unfold RW; rw [i, e]; exact h
/-- the state of the work -/
def Cs (H RC TC Fn : Nat) (s : S) (lv : Nat → Bool) (fd : Nat → Nat → Option Nat) (hd P Q : Nat → Bool) (hold : Nat → Nat) (W : List Nat) : Prop := Gd H RC TC Fn s ∧ Rg H s 0 (fun x => bI (lv x)) ∧ Rfd H s fd ∧ Rg H s 6 (fun x => bI (P x)) ∧ Rg H s 7 (fun x => bI (hd x)) ∧ Rg H s 8 (fun x => bI (Q x)) ∧ Rg H s 9 (fun x => Int32.ofNat (hold x)) ∧ RW s W ∧ ∀ x, x < H → hold x ≤ 100
def elig (hd P Q : Nat → Bool) (hold : Nat → Nat) (x : Nat) : Bool := P x && !hd x && !Q x && decide (hold x = 0)
theorem nat_zero {n : Nat} (h : n ≤ 1000) : Int32.ofNat n = 0 ↔ n = 0 := by
  constructor
  · intro e
    have := congrArg Int32.toInt e
    rw [ofNat_toInt (by omega), show (0 : Int32).toInt = 0 from rfl] at this
    omega
  · intro e; rw [e]; rfl
theorem elig_ok {H RC TC Fn : Nat} {s : S} {lv : Nat → Bool} {fd : Nat → Nat → Option Nat} {hd P Q : Nat → Bool} {hold : Nat → Nat} {W : List Nat} (C : Cs H RC TC Fn s lv fd hd P Q hold W) {x : Nat} (hx : x < H) : k_eligible (Int32.ofNat x) s = some (bI (elig hd P Q hold x)) := by
  obtain ⟨G, R0, Rf, R6, R7, R8, R9, _, hb⟩ := C
  have h8 := G.2.2.2.2.2.1
  unfold k_eligible elig
  rw [obj_yes G hx, if_neg (by decide), ix_ofNat _ (by omega), show (gA s 6)[x]? = some (bI (P x)) from R6 x hx, Option.bind_some]
  cases P x
  · rw [if_pos (show bI false = 0 from rfl)]; rfl
  rw [if_neg (show ¬ bI true = 0 by decide), ix_ofNat _ (by omega), show (gA s 7)[x]? = some (bI (hd x)) from R7 x hx, Option.bind_some]
  cases hd x
  case true => rw [if_neg (show ¬ bI true = 0 by decide)]; rfl
  rw [if_pos (show bI false = 0 from rfl), ix_ofNat _ (by omega), show (gA s 8)[x]? = some (bI (Q x)) from R8 x hx, Option.bind_some]
  cases Q x
  case true => rw [if_neg (show ¬ bI true = 0 by decide)]; rfl
  rw [if_pos (show bI false = 0 from rfl), ix_ofNat _ (by omega), show (gA s 9)[x]? = some (Int32.ofNat (hold x)) from R9 x hx, Option.bind_some]
  have z := nat_zero (n := hold x) (by have := hb x hx; omega)
  by_cases q : hold x = 0
  · rw [if_pos (z.mpr q)]; simp [q]; rfl
  · rw [if_neg (fun e => q (z.mp e))]; simp [q]; rfl
theorem enq_ok {H RC TC Fn : Nat} {s : S} {lv : Nat → Bool} {fd : Nat → Nat → Option Nat} {hd P Q : Nat → Bool} {hold : Nat → Nat} {W : List Nat} (C : Cs H RC TC Fn s lv fd hd P Q hold W) {x : Nat} (hx : x < H) (hW : W.length < 19) : ∃ s', k_enqueue (Int32.ofNat x) s = some s' ∧ Fx [7] [] [8, 10] [] s s' ∧ Cs H RC TC Fn s' lv fd hd P (aupd Q x true) hold (W ++ [x]) := by
  obtain ⟨G, R0, Rf, R6, R7, R8, R9, ⟨w7, w8, wi⟩, hb⟩ := C
  have h8 := G.2.2.2.2.2.1
  have l8 := len64 G.2.2.2.2.1 (f := 8) (by simp)
  have l10 := len64 G.2.2.2.2.1 (f := 10) (by simp)
  have e8 : gA (sI (sA s 10 ((gA s 10).set W.length (Int32.ofNat x))) 7 (Int32.ofNat (W.length + 1))) 8 = gA s 8 := by rw [gA_sI, gA_sA, if_neg (by decide)]
  have G1 : Gd H RC TC Fn (sI (sA s 10 ((gA s 10).set W.length (Int32.ofNat x))) 7 (Int32.ofNat (W.length + 1))) := G.put.sI (by omega)
  have G2 := G1.put (f := 8) (x := x) (v := 1)
  rw [e8] at G2
  refine ⟨sA (sI (sA s 10 ((gA s 10).set W.length (Int32.ofNat x))) 7 (Int32.ofNat (W.length + 1))) 8 ((gA s 8).set x 1), ?_, ?_, G2, ?_, ?_, ?_, ?_, ?_, ?_, ⟨?_, ?_, ?_⟩, hb⟩
  · unfold k_enqueue
    rw [w7, if_pos ((lt_lit (m := 64) (by omega) (by decide)).mpr (by omega)), st_ofNat _ _ (by omega) (by omega), Option.bind_some, st_ofNat _ _ (by omega) (by omega), Option.bind_some, ofNat_succ]
  · exact (((Fx.refl ..).sA (by simp)).sI (by simp)).sA (by simp)
  · exact R0.fx (by simp only [gA_sA, gA_sI]; rfl)
  · exact Rf.fx (by simp only [gA_sA, gA_sI]; rfl)
  · exact R6.fx (by simp only [gA_sA, gA_sI]; rfl)
  · exact R7.fx (by simp only [gA_sA, gA_sI]; rfl)
  · intro y hy
    rw [gA_sA, if_pos rfl]
    show _ = some (bI (aupd Q x true y))
    unfold aupd
    by_cases q : y = x
    · subst q; rw [if_pos rfl, List.getElem?_set_self (by omega)]; rfl
    · rw [if_neg q, List.getElem?_set_ne (by omega)]; exact R8 y hy
  · exact R9.fx (by simp only [gA_sA, gA_sI]; rfl)
  · rw [gI_sA, gI_sI, if_pos rfl, List.length_append, List.length_singleton]
  · rw [List.length_append, List.length_singleton]; omega
  · intro i y hi
    have e10 : gA (sA (sI (sA s 10 ((gA s 10).set W.length (Int32.ofNat x))) 7 (Int32.ofNat (W.length + 1))) 8 ((gA s 8).set x 1)) 10 = (gA s 10).set W.length (Int32.ofNat x) := by simp only [gA_sA, gA_sI]; rfl
    rw [e10]
    have il := (List.getElem?_eq_some_iff.mp hi).1
    rw [List.length_append, List.length_singleton] at il
    by_cases q : i < W.length
    · rw [List.getElem?_append_left q] at hi
      rw [List.getElem?_set_ne (by omega)]; exact wi i y hi
    · have : i = W.length := by omega
      subst this
      rw [List.getElem?_append_right (by omega), Nat.sub_self] at hi
      cases hi
      rw [List.getElem?_set_self (by omega)]
theorem nodup_len {l : List Nat} (nd : l.Nodup) {n : Nat} (h : ∀ x ∈ l, x < n) : l.length ≤ n := by
  have key : ∀ (n : Nat) (l : List Nat), l.Nodup → (∀ x ∈ l, x < n) → l.length ≤ n := by
    intro n
    induction n with
    | zero =>
      intro l nd h
      cases l with
      | nil => simp
      | cons a r => exact absurd (h a List.mem_cons_self) (by omega)
    | succ n ih =>
      intro l nd h
      by_cases q : n ∈ l
      · have := ih (l.erase n) (List.Nodup.erase n nd) (fun x hx => by
          have h1 := (List.Nodup.mem_erase_iff nd).mp hx
          have := h x h1.2
          omega)
        rw [List.length_erase_of_mem q] at this
        omega
      · have := ih l nd (fun x hx => by
          have := h x hx
          have : x ≠ n := fun e => q (e ▸ hx)
          omega)
        omega
  exact key n l nd h
theorem seed_loop {H RC TC Fn : Nat} {lv : Nat → Bool} {fd : Nat → Nat → Option Nat} {hd P : Nat → Bool} {hold : Nat → Nat} : ∀ m j N s Q W, j + m = H → m < N → Cs H RC TC Fn s lv fd hd P Q hold W → W.Nodup → (∀ x, x ∈ W ↔ x < j ∧ P x = true ∧ hd x = false ∧ hold x = 0) → (∀ x, Q x = decide (x ∈ W)) → ∃ s' Q' W', k_seedWork_7 N (Int32.ofNat j) s = some s' ∧ Fx [7] [] [8, 10] [] s s' ∧ Cs H RC TC Fn s' lv fd hd P Q' hold W' ∧ W'.Nodup ∧ (∀ x, x ∈ W' ↔ x < H ∧ P x = true ∧ hd x = false ∧ hold x = 0) ∧ (∀ x, Q' x = decide (x ∈ W'))
  | _, _, 0, _, _, _, _, h, _, _, _, _ => by omega
  | 0, j, N + 1, s, Q, W, hj, _, C, nd, mw, mq => by
    have : j = H := by omega
    subst this
    have h8 := C.1.2.2.2.2.2.1
    exact ⟨s, Q, W, by rw [k_seedWork_7, C.1.1, if_neg (by rw [ofNat_lt (by omega) (by omega)]; omega)], Fx.refl .., C, nd, mw, mq⟩
  | m + 1, j, N + 1, s, Q, W, hj, hN, C, nd, mw, mq => by
    have h8 := C.1.2.2.2.2.2.1
    have hjH : j < H := by omega
    rw [k_seedWork_7, C.1.1, if_pos (by rw [ofNat_lt (by omega) (by omega)]; omega), elig_ok C hjH, Option.bind_some, ofNat_succ]
    have nj : j ∉ W := fun z => by have := ((mw j).mp z).1; omega
    have qj : Q j = false := by rw [mq j]; exact decide_eq_false nj
    by_cases q : P j = true ∧ hd j = false ∧ hold j = 0
    · have e : elig hd P Q hold j = true := by unfold elig; simp [q.1, q.2.1, q.2.2, qj]
      have wl : W.length ≤ j := nodup_len nd (fun x hx => ((mw x).mp hx).1)
      obtain ⟨t, et, Ft, Ct⟩ := enq_ok C hjH (by omega)
      rw [e, if_neg (show ¬ bI true = 0 by decide), et, Option.bind_some]
      obtain ⟨s', Q', W', e', F', r⟩ := seed_loop m (j + 1) N t (aupd Q j true) (W ++ [j]) (by omega) (by omega) Ct (by
        rw [List.nodup_append]; exact ⟨nd, by simp, fun x hx y hy => by rw [List.mem_singleton.mp hy]; intro z; rw [z] at hx; exact nj hx⟩) (fun x => by
        rw [List.mem_append, mw x, List.mem_singleton]
        constructor
        · rintro (z | z)
          · exact ⟨by omega, z.2⟩
          · rw [z]; exact ⟨by omega, q⟩
        · rintro ⟨z1, z2⟩
          by_cases w : x = j
          · exact Or.inr w
          · exact Or.inl ⟨by omega, z2⟩) (fun x => by
        unfold aupd
        by_cases w : x = j
        · rw [if_pos w, w]; simp
        · rw [if_neg w, mq x]; simp [w])
      exact ⟨s', Q', W', e', Ft.trans F', r⟩
    · have e : elig hd P Q hold j = false := by
        unfold elig
        cases hP : P j with
        | false => rfl
        | true =>
          cases hh : hd j with
          | true => rfl
          | false =>
            have : hold j ≠ 0 := fun z => q ⟨hP, hh, z⟩
            simp [this]
      rw [e, if_pos (show bI false = 0 from rfl)]
      exact seed_loop m (j + 1) N s Q W (by omega) (by omega) C nd (fun x => by
        rw [mw x]
        constructor
        · rintro ⟨z1, z2⟩; exact ⟨by omega, z2⟩
        · rintro ⟨z1, z2⟩
          by_cases w : x = j
          · rw [w] at z2; exact absurd z2 q
          · exact ⟨by omega, z2⟩) mq
/-- while the fields of x are dropped -/
def Md (H : Nat) (lv : Nat → Bool) (fd : Nat → Nat → Option Nat) (hd P Q : Nat → Bool) (hold : Nat → Nat) (W : List Nat) (x f : Nat) : Prop := (∀ y, y < H → hold y + fc fd x y f = deg P fd y H + one fd x y) ∧ W.Nodup ∧ (∀ y, y ∈ W ↔ y < H ∧ Q y = true ∧ P y = true) ∧ (∀ y, y < H → Q y = true → hold y = 0 ∧ hd y = false) ∧ (∀ y, y < H → P y = true → hd y = false → hold y = 0 → Q y = true) ∧ (∀ y, y < H → lv y = true → P y = false → Q y = true) ∧ (∀ y, y < H → P y = true → lv y = true)
theorem drop_step {H RC TC Fn : Nat} {lv : Nat → Bool} {fd : Nat → Nat → Option Nat} (w1 : ∀ x f y, fd x f = some y → y < H ∧ lv y = true) (wF : ∀ x f y, fd x f = some y → f < Fn) {hd P Q : Nat → Bool} {hold : Nat → Nat} {W : List Nat} {x f n : Nat} {s : S} (hx : x < H) (hf : f < Fn) (C : Cs H RC TC Fn s lv fd hd P Q hold W) (M : Md H lv fd hd P Q hold W x f) : ∃ s' Q' hold' W', k_dropHoldersOf_2 (n + 1) (Int32.ofNat x) (Int32.ofNat f) s = k_dropHoldersOf_2 n (Int32.ofNat x) (Int32.ofNat (f + 1)) s' ∧ Fx [7] [] [8, 9, 10] [] s s' ∧ Cs H RC TC Fn s' lv fd hd P Q' hold' W' ∧ Md H lv fd hd P Q' hold' W' x (f + 1) := by
  obtain ⟨G, R0, Rf, R6, R7, R8, R9, RWs, hb⟩ := id C
  obtain ⟨m1, m2, m3, m4, m5, m6, m7⟩ := id M
  have h8 := G.2.2.2.2.2.1
  have l9 := len64 G.2.2.2.2.1 (f := 9) (by simp)
  have f4 := G.2.2.2.2.2.2.2.2.2
  rw [k_dropHoldersOf_2, G.2.1, if_pos (by rw [ofNat_lt (by omega) (by omega)]; exact hf), read_ok G Rf hx hf, Option.bind_some, live_ok G R0 (fun z hz => (w1 x f z hz).1), Option.bind_some, ofNat_succ]
  cases e : fd x f with
  | none =>
    rw [if_pos (show lvO lv none = 0 from rfl)]
    refine ⟨s, Q, hold, W, rfl, Fx.refl .., C, fun y hy => ?_, m2, m3, m4, m5, m6, m7⟩
    have := m1 y hy
    rw [fc, e]
    simpa using this
  | some y =>
    obtain ⟨hy, ly⟩ := w1 x f y e
    have rp : fc fd x y (f + 1) = fc fd x y f + 1 := by rw [fc, if_pos e]
    have rn : ∀ z, z ≠ y → fc fd x z (f + 1) = fc fd x z f := fun z hz => by rw [fc, if_neg (fun q => hz (Option.some.inj (q.symm.trans e))), Nat.add_zero]
    have rle : fc fd x y (f + 1) ≤ one fd x y := by
      unfold one
      have mono : ∀ a b, fc fd x y a ≤ fc fd x y (a + b) := fun a b => by
        induction b with
        | zero => exact Nat.le_refl _
        | succ b ih => rw [show a + (b + 1) = (a + b) + 1 by omega, fc]; omega
      have := mono (f + 1) (4 - (f + 1))
      rw [show f + 1 + (4 - (f + 1)) = 4 by omega] at this
      exact this
    have hp : 0 < hold y := by have := m1 y hy; omega
    have hby := hb y hy
    rw [show lvO lv (some y) = bI (lv y) from rfl, ly, if_neg (by decide), show pc (some y) = Int32.ofNat y from rfl, ix_ofNat _ (by omega), show (gA s 9)[y]? = some (Int32.ofNat (hold y)) from R9 y hy, Option.bind_some, Option.bind_some, if_pos (by rw [show (0 : Int32) = Int32.ofNat 0 from rfl, ofNat_lt (by omega) (by omega)]; exact hp)]
    have s1 : Int32.ofNat (hold y) - 1 = Int32.ofNat (hold y - 1) := by
      have := ofNat_succ (hold y - 1)
      rw [show hold y - 1 + 1 = hold y by omega] at this
      rw [← this]; simp
    rw [s1, st_ofNat _ _ (by omega) (by omega), Option.bind_some]
    have C1 : Cs H RC TC Fn (sA s 9 ((gA s 9).set y (Int32.ofNat (hold y - 1)))) lv fd hd P Q (aupd hold y (hold y - 1)) W := by
      refine ⟨G.put, R0.fx (by rw [gA_sA, if_neg (by decide)]), Rf.fx (by rw [gA_sA, if_neg (by decide)]), R6.fx (by rw [gA_sA, if_neg (by decide)]), R7.fx (by rw [gA_sA, if_neg (by decide)]), R8.fx (by rw [gA_sA, if_neg (by decide)]), (R9.put (by omega) _).congr fun z hz => ?_, RWs.fx (by rw [gI_sA]) (by rw [gA_sA, if_neg (by decide)]), fun z hz => ?_⟩
      · unfold aupd
        by_cases w : z = y
        · rw [if_pos w, if_pos w]
        · rw [if_neg w, if_neg w]
      · unfold aupd
        by_cases w : z = y
        · rw [if_pos w]; omega
        · rw [if_neg w]; exact hb z hz
    have nQ : Q y = false := by
      cases hQ : Q y with
      | false => rfl
      | true => have := (m4 y hy hQ).1; omega
    have F0 : Fx [7] [] [8, 9, 10] [] s (sA s 9 ((gA s 9).set y (Int32.ofNat (hold y - 1)))) := (Fx.refl ..).sA (by simp)
    have m1' : ∀ z, z < H → (aupd hold y (hold y - 1)) z + fc fd x z (f + 1) = deg P fd z H + one fd x z := fun z hz => by
      unfold aupd
      by_cases w : z = y
      · rw [if_pos w, w, rp]; have := m1 y hy; omega
      · rw [if_neg w, rn z w]; exact m1 z hz
    rw [elig_ok C1 hy, Option.bind_some]
    by_cases q : P y = true ∧ hd y = false ∧ hold y - 1 = 0
    · have ee : elig hd P Q (aupd hold y (hold y - 1)) y = true := by
        unfold elig
        rw [show (aupd hold y (hold y - 1)) y = hold y - 1 by unfold aupd; rw [if_pos rfl]]
        simp [q.1, q.2.1, q.2.2, nQ]
      have nW : y ∉ W := fun z => by rw [((m3 y).mp z).2.1] at nQ; cases nQ
      have wl : W.length < 19 := by
        have n2 : (y :: W).Nodup := List.nodup_cons.mpr ⟨nW, m2⟩
        have := nodup_len n2 (n := H) (fun z hz => by
          rcases List.mem_cons.mp hz with w | w
          · rw [w]; exact hy
          · exact ((m3 z).mp w).1)
        rw [List.length_cons] at this
        omega
      obtain ⟨t, et, Ft, Ct⟩ := enq_ok C1 hy wl
      rw [ee, if_neg (show ¬ bI true = 0 by decide), et, Option.bind_some]
      refine ⟨t, aupd Q y true, _, W ++ [y], rfl, F0.trans (Ft.mono (by simp) (by simp) (by simp) (by simp)), Ct, m1', ?_, fun z => ?_, fun z hz hQ => ?_, fun z hz h1 h2 h3 => ?_, fun z hz h1 h2 => ?_, m7⟩
      · rw [List.nodup_append]; exact ⟨m2, by simp, fun a ha b hb => by rw [List.mem_singleton.mp hb]; intro w; rw [w] at ha; exact nW ha⟩
      · rw [List.mem_append, m3 z, List.mem_singleton]
        unfold aupd
        by_cases w : z = y
        · rw [if_pos w, w]; simp [hy, q.1]
        · rw [if_neg w]; simp [w]
      · unfold aupd at hQ ⊢
        by_cases w : z = y
        · rw [if_pos w, w]; exact ⟨q.2.2, q.2.1⟩
        · rw [if_neg w] at hQ ⊢; exact m4 z hz hQ
      · unfold aupd at h3 ⊢
        by_cases w : z = y
        · rw [if_pos w]
        · rw [if_neg w] at h3 ⊢; exact m5 z hz h1 h2 h3
      · unfold aupd
        by_cases w : z = y
        · rw [if_pos w]
        · rw [if_neg w]; exact m6 z hz h1 h2
    · have ee : elig hd P Q (aupd hold y (hold y - 1)) y = false := by
        unfold elig
        rw [show (aupd hold y (hold y - 1)) y = hold y - 1 by unfold aupd; rw [if_pos rfl]]
        cases hP : P y with
        | false => rfl
        | true =>
          cases hh : hd y with
          | true => rfl
          | false =>
            have : ¬ (hold y - 1 = 0) := fun z => q ⟨hP, hh, z⟩
            simp [this]
      rw [ee, if_pos (show bI false = 0 from rfl)]
      refine ⟨_, Q, _, W, rfl, F0, C1, m1', m2, m3, fun z hz hQ => ?_, fun z hz h1 h2 h3 => ?_, m6, m7⟩
      · unfold aupd
        by_cases w : z = y
        · rw [w, nQ] at hQ; cases hQ
        · rw [if_neg w]; exact m4 z hz hQ
      · unfold aupd at h3
        by_cases w : z = y
        · rw [if_pos w] at h3
          rw [w] at h1 h2
          exact absurd ⟨h1, h2, h3⟩ q
        · rw [if_neg w] at h3; exact m5 z hz h1 h2 h3
theorem drop_ok {H RC TC Fn : Nat} {lv : Nat → Bool} {fd : Nat → Nat → Option Nat} (w1 : ∀ x f y, fd x f = some y → y < H ∧ lv y = true) (wF : ∀ x f y, fd x f = some y → f < Fn) {hd P Q : Nat → Bool} {hold : Nat → Nat} {W : List Nat} {x : Nat} {s : S} (hx : x < H) (C : Cs H RC TC Fn s lv fd hd P Q hold W) (M : Md H lv fd hd P Q hold W x 0) : ∃ s' Q' hold' W', k_dropHoldersOf (Int32.ofNat x) s = some s' ∧ Fx [7] [] [8, 9, 10] [] s s' ∧ Cs H RC TC Fn s' lv fd hd P Q' hold' W' ∧ Md H lv fd hd P Q' hold' W' x Fn := by
  have f4 := C.1.2.2.2.2.2.2.2.2.2
  have loop : ∀ m f n (s : S) Q hold W, f + m = Fn → m < n → Cs H RC TC Fn s lv fd hd P Q hold W → Md H lv fd hd P Q hold W x f → ∃ s' Q' hold' W', k_dropHoldersOf_2 n (Int32.ofNat x) (Int32.ofNat f) s = some s' ∧ Fx [7] [] [8, 9, 10] [] s s' ∧ Cs H RC TC Fn s' lv fd hd P Q' hold' W' ∧ Md H lv fd hd P Q' hold' W' x Fn := by
    intro m
    induction m with
    | zero =>
      intro f n s Q hold W hf hn C M
      obtain ⟨n, rfl⟩ : ∃ k, n = k + 1 := ⟨n - 1, by omega⟩
      have : f = Fn := by omega
      subst this
      exact ⟨s, Q, hold, W, by rw [k_dropHoldersOf_2, C.1.2.1, if_neg (by rw [ofNat_lt (by omega) (by omega)]; omega)], Fx.refl .., C, M⟩
    | succ m ih =>
      intro f n s Q hold W hf hn C M
      obtain ⟨n, rfl⟩ : ∃ k, n = k + 1 := ⟨n - 1, by omega⟩
      obtain ⟨t, Q1, h1, W1, e1, F1, C1, M1⟩ := drop_step (n := n) w1 wF hx (by omega) C M
      obtain ⟨u, Q2, h2, W2, e2, F2, r⟩ := ih (f + 1) n t Q1 h1 W1 (by omega) (by omega) C1 M1
      exact ⟨u, Q2, h2, W2, e1.trans e2, F1.trans F2, r⟩
  exact loop Fn 0 BIG s Q hold W (by omega) (by unfold BIG; omega) C M
def cntB (p : Nat → Bool) (H : Nat) : Nat := (List.range H).countP fun x => p x
theorem cntB_upd (p : Nat → Bool) (z : Nat) (b : Bool) : ∀ H, z < H → cntB (aupd p z b) H + (if p z then 1 else 0) = cntB p H + (if b then 1 else 0)
  | 0, h => by omega
  | n + 1, h => by
    unfold cntB
    rw [List.range_succ, List.countP_append, List.countP_append, List.countP_cons, List.countP_cons, List.countP_nil, List.countP_nil]
    by_cases q : z = n
    · subst q
      have e : (List.range z).countP (fun i => aupd p z b i) = (List.range z).countP (fun i => p i) := by
        apply List.countP_congr
        intro i hi
        have := List.mem_range.mp hi
        unfold aupd
        rw [if_neg (by omega)]
      have e2 : aupd p z b z = b := by unfold aupd; rw [if_pos rfl]
      rw [e, e2]
      omega
    · have := cntB_upd p z b n (by omega)
      unfold cntB at this
      have e2 : aupd p z b n = p n := by unfold aupd; rw [if_neg (by omega)]
      rw [e2]
      omega
theorem cntB_congr {p q : Nat → Bool} {H : Nat} (h : ∀ x, x < H → p x = q x) : cntB p H = cntB q H := by
  unfold cntB
  apply List.countP_congr
  intro x hx
  rw [h x (List.mem_range.mp hx)]
theorem cntB_le (p : Nat → Bool) (H : Nat) : cntB p H ≤ H := by
  unfold cntB; exact Nat.le_trans List.countP_le_length (by simp)
def CI (H : Nat) (lv : Nat → Bool) (fd : Nat → Nat → Option Nat) (hd P Q : Nat → Bool) (hold : Nat → Nat) (W : List Nat) : Prop := (∀ y, y < H → hold y = deg P fd y H) ∧ W.Nodup ∧ (∀ y, y ∈ W ↔ y < H ∧ Q y = true ∧ P y = true) ∧ (∀ y, y < H → Q y = true → hold y = 0 ∧ hd y = false) ∧ (∀ y, y < H → P y = true → hd y = false → hold y = 0 → Q y = true) ∧ (∀ y, y < H → lv y = true → P y = false → Q y = true) ∧ (∀ y, y < H → P y = true → lv y = true)
theorem casc_loop {H RC TC Fn : Nat} {lv : Nat → Bool} {fd : Nat → Nat → Option Nat} (w1 : ∀ x f y, fd x f = some y → y < H ∧ lv y = true) (wF : ∀ x f y, fd x f = some y → f < Fn) {hd : Nat → Bool} : ∀ m j N s P Q hold W, cntB P H ≤ m → j + m ≤ 64 → m < N → Cs H RC TC Fn s lv fd hd P Q hold W → CI H lv fd hd P Q hold W → ∃ s' P' Q' hold', k_cascade_2 N (Int32.ofNat j) s = some s' ∧ Fx [7] [] [6, 8, 9, 10] [] s s' ∧ Gd H RC TC Fn s' ∧ Rg H s' 6 (fun x => bI (P' x)) ∧ CI H lv fd hd P' Q' hold' [] ∧ (W = [] → P' = P) ∧ ∀ S : Nat → Bool, (∀ y, S y = true → y < H ∧ (hd y = true ∨ ∃ z f, S z = true ∧ fd z f = some y)) → (∀ y, S y = true → P y = true) → ∀ y, S y = true → P' y = true
  | m, j, 0, _, _, _, _, _, _, _, h, _, _ => by omega
  | m, j, N + 1, s, P, Q, hold, W, hm, hj, hN, C, I => by
    obtain ⟨G, R0, Rf, R6, R7, R8, R9, ⟨w7, w8, wi⟩, hb⟩ := id C
    obtain ⟨c1, c2, c3, c4, c5, c6, c7⟩ := id I
    have h8 := G.2.2.2.2.2.1
    rw [k_cascade_2, if_neg (fun z => by rw [show (64 : Int32) = Int32.ofNat 64 from rfl, ofNat_lt (by omega) (by omega)] at z; omega), w7]
    rcases List.eq_nil_or_concat W with w | ⟨W0, x, w⟩
    · subst w
      rw [if_neg (by decide)]
      exact ⟨sI s 7 0, P, Q, hold, rfl, (Fx.refl ..).sI (by simp), G.sI (by omega), R6.fx (by rw [gA_sI]), I, fun _ => rfl, fun S _ h => h⟩
    · have w' : W = W0 ++ [x] := by rw [w]; simp
      subst w'
      have wl : (W0 ++ [x]).length = W0.length + 1 := by simp
      have xm : x ∈ W0 ++ [x] := by simp
      obtain ⟨hx, qx, px⟩ := (c3 x).mp xm
      have nx : x ∉ W0 := fun z => by
        have := (List.nodup_append.mp c2).2.2 x z x (by simp)
        exact this rfl
      have sub1 : Int32.ofNat (W0 ++ [x]).length - 1 = Int32.ofNat W0.length := by rw [wl, ← ofNat_succ]; simp
      have ex : (gA s 10)[W0.length]? = some (Int32.ofNat x) := wi W0.length x (by rw [List.getElem?_append_right (by omega), Nat.sub_self]; rfl)
      have l6 := len64 G.2.2.2.2.1 (f := 6) (by simp)
      have G1 : Gd H RC TC Fn (sI s 7 (Int32.ofNat W0.length)) := G.sI (by omega)
      have G2 := G1.put (f := 6) (x := x) (v := 0)
      rw [gA_sI] at G2
      rw [if_pos (by rw [show (0 : Int32) = Int32.ofNat 0 from rfl, ofNat_lt (by omega) (by omega)]; omega), sub1, ix_ofNat _ (by omega), ex, Option.bind_some, obj_yes G1 hx, if_neg (by decide), st_ofNat _ _ (by omega) (by omega), Option.bind_some]
      have C1 : Cs H RC TC Fn (sA (sI s 7 (Int32.ofNat W0.length)) 6 ((gA s 6).set x 0)) lv fd hd (aupd P x false) Q hold W0 := by
        refine ⟨G2, R0.fx (by simp only [gA_sA, gA_sI]; rfl), Rf.fx (by simp only [gA_sA, gA_sI]; rfl), ?_, R7.fx (by simp only [gA_sA, gA_sI]; rfl), R8.fx (by simp only [gA_sA, gA_sI]; rfl), R9.fx (by simp only [gA_sA, gA_sI]; rfl), ⟨?_, by omega, fun i y hi => ?_⟩, hb⟩
        · intro y hy
          rw [gA_sA, if_pos rfl]
          show _ = some (bI (aupd P x false y))
          unfold aupd
          by_cases q : y = x
          · subst q; rw [if_pos rfl, List.getElem?_set_self (by omega)]; rfl
          · rw [if_neg q, List.getElem?_set_ne (by omega)]; exact R6 y hy
        · rw [gI_sA, gI_sI, if_pos rfl]
        · have il := (List.getElem?_eq_some_iff.mp hi).1
          have := wi i y (by rw [List.getElem?_append_left il]; exact hi)
          simp only [gA_sA, gA_sI]
          exact this
      have M1 : Md H lv fd hd (aupd P x false) Q hold W0 x 0 := by
        refine ⟨fun y hy => ?_, (List.nodup_append.mp c2).1, fun y => ?_, c4, fun y hy h1 h2 h3 => ?_, fun y hy h1 h2 => ?_, fun y hy h1 => ?_⟩
        · rw [c1 y hy, ← deg_drop (fd := fd) (x := y) px H hx, fc]; rfl
        · unfold aupd
          by_cases q : y = x
          · rw [if_pos q, q]; simp [nx]
          · rw [if_neg q]
            have := c3 y
            rw [List.mem_append, List.mem_singleton] at this
            constructor
            · intro z; exact this.mp (Or.inl z)
            · intro z; exact (this.mpr z).elim (fun y => y) (fun y => absurd y q)
        · unfold aupd at h1
          by_cases q : y = x
          · rw [if_pos q] at h1; cases h1
          · rw [if_neg q] at h1; exact c5 y hy h1 h2 h3
        · unfold aupd at h2
          by_cases q : y = x
          · rw [q]; exact qx
          · rw [if_neg q] at h2; exact c6 y hy h1 h2
        · unfold aupd at h1
          by_cases q : y = x
          · rw [if_pos q] at h1; cases h1
          · rw [if_neg q] at h1; exact c7 y hy h1
      obtain ⟨t, Q1, hold1, W1, e1, F1, C2, M2⟩ := drop_ok w1 wF hx C1 M1
      have I2 : CI H lv fd hd (aupd P x false) Q1 hold1 W1 := by
        obtain ⟨a1, a2⟩ := M2
        refine ⟨fun y hy => ?_, a2⟩
        have h := a1 y hy
        have ft := fc_top wF x y 4 G.2.2.2.2.2.2.2.2.2
        unfold one at h
        omega
      have cb := cntB_upd P x false H hx
      rw [px] at cb
      simp at cb
      rw [e1, Option.bind_some, ofNat_succ]
      obtain ⟨m', rfl⟩ : ∃ m', m = m' + 1 := ⟨m - 1, by omega⟩
      obtain ⟨s', P', Q', hold', e', F', G', R', I', _, mx⟩ := casc_loop w1 wF m' (j + 1) N t (aupd P x false) Q1 hold1 W1 (by omega) (by omega) (by omega) C2 I2
      refine ⟨s', P', Q', hold', e', ?_, G', R', I', fun z => absurd z (by simp), fun S hS hP => mx S hS fun z hz => ?_⟩
      · exact ((((Fx.refl ..).sI (by simp)).sA (by simp)).trans (F1.mono (by simp) (by simp) (by simp) (by simp))).trans F'
      · by_cases w : z = x
        · subst w
          have hq := c4 z hx qx
          rcases (hS z hz).2 with w | ⟨a, f, ha, hf⟩
          · rw [hq.2] at w; cases w
          · have h0 := hq.1
            rw [c1 z hx] at h0
            have f4 := G.2.2.2.2.2.2.2.2.2
            have := wF a f z hf
            exact absurd hf ((deg_zero H).mp h0 a f (hS a ha).1 (hP a ha) (by omega))
        · rw [show aupd P x false z = P z by unfold aupd; rw [if_neg w]]; exact hP z hz
theorem rel_ok {H RC TC Fn : Nat} {s : S} (G : Gd H RC TC Fn s) {lv : Nat → Bool} {fd : Nat → Nat → Option Nat} {n : Nat} (R0 : Rg H s 0 (fun x => bI (lv x))) (Rf : Rfd H s fd) (hn : gI s 4 = Int32.ofNat (n + 1)) {x : Nat} (hx : x < H) (lx : lv x = true) : ∃ s', k_releaseCell (Int32.ofNat x) s = some s' ∧ Fx [4] [] [0, 1, 2] [] s s' ∧ Gd H RC TC Fn s' ∧ Rg H s' 0 (fun y => bI (aupd lv x false y)) ∧ Rfd H s' (fun y f => if y = x then none else fd y f) ∧ gI s' 4 = Int32.ofNat n := by
  have h8 := G.2.2.2.2.2.1
  have l0 := len64 G.2.2.2.2.1 (f := 0) (by simp)
  have l2 := len64 G.2.2.2.2.1 (f := 2) (by simp)
  have l1 : (gA s 1).length = 256 := G.2.2.2.2.1.2.1
  obtain ⟨t, et, Ft, lt, gt⟩ := own_ccf (sA s 0 ((gA s 0).set x 0)) x (by omega) (by rw [gA_sA, if_neg (by decide)]; exact l1)
  have t0 : gA t 0 = (gA s 0).set x 0 := by rw [Ft.2.2.1 0 (by simp), gA_sA, if_pos rfl]
  have t2 : gA t 2 = gA s 2 := by rw [Ft.2.2.1 2 (by simp), gA_sA, if_neg (by decide)]
  have lnt : own_len t := len_of G.2.2.2.2.1 fun k hk => by
    by_cases q : k = 1
    · rw [q, lt, l1]
    · rw [Ft.2.2.1 k (by simp [q]), gA_sA]
      by_cases w : k = 0
      · rw [if_pos w, List.length_set, w]
      · rw [if_neg w]
  have Gt : Gd H RC TC Fn t := G.fx (fun k _ => by rw [Ft.1 k (by simp), gI_sA]) lnt
  have G2 := (Gt.put (f := 2) (x := x) (v := 0)).sI (f := 4) (v := Int32.ofNat n) (by omega)
  rw [t2] at G2
  refine ⟨sI (sA t 2 ((gA s 2).set x 0)) 4 (Int32.ofNat n), ?_, ?_, G2, ?_, ?_, by rw [gI_sI, if_pos rfl]⟩
  · unfold k_releaseCell
    rw [obj_yes G hx, if_neg (by decide), ix_ofNat _ (by omega), show (gA s 0)[x]? = some (bI (lv x)) from R0 x hx, Option.bind_some, lx, if_neg (show ¬ bI true = 0 by decide), st_ofNat _ _ (by omega) (by omega), Option.bind_some, et, Option.bind_some, t2, st_ofNat _ _ (by omega) (by omega), Option.bind_some, Ft.1 4 (by simp), gI_sA, hn, ← ofNat_succ]
    simp
  · have F0 : Fx [4] [] [0, 1, 2] [] s (sA s 0 ((gA s 0).set x 0)) := (Fx.refl ..).sA (by simp)
    exact ((F0.trans (Ft.mono (by simp) (by simp) (by simp) (by simp))).sA (by simp)).sI (by simp)
  · intro y hy
    simp only [gA_sI, gA_sA]
    rw [if_neg (by decide), t0]
    unfold aupd
    by_cases q : y = x
    · subst q; rw [if_pos rfl, List.getElem?_set_self (by omega)]; rfl
    · rw [if_neg q, List.getElem?_set_ne (by omega)]; exact R0 y hy
  · intro y f hy hf
    simp only [gA_sI, gA_sA]
    rw [if_neg (by decide), gt _ (by omega)]
    by_cases q : y = x
    · rw [if_pos q, if_pos (by omega)]; rfl
    · rw [if_neg q, if_neg (by omega), gA_sA, if_neg (by decide)]; exact Rf y f hy hf
def lvM (P lv : Nat → Bool) (j y : Nat) : Bool := if y < j then P y else lv y
def fdM (P : Nat → Bool) (fd : Nat → Nat → Option Nat) (j y f : Nat) : Option Nat := if y < j ∧ P y = false then none else fd y f
theorem sweep_loop {H RC TC Fn : Nat} {lv P : Nat → Bool} {fd : Nat → Nat → Option Nat} (sub : ∀ x, x < H → P x = true → lv x = true) (dead : ∀ x f, lv x = false → fd x f = none) : ∀ m j N s a, j + m = H → m < N → Gd H RC TC Fn s → Rg H s 0 (fun x => bI (lvM P lv j x)) → Rfd H s (fdM P fd j) → Rg H s 6 (fun x => bI (P x)) → a + cntB (lvM P lv j) H = cntB lv H → gI s 4 = Int32.ofNat (cntB (lvM P lv j) H) → ∃ s' b, k_sweep_4 N (Int32.ofNat a) (Int32.ofNat j) s = some (Int32.ofNat b, s') ∧ Fx [4] [] [0, 1, 2] [] s s' ∧ Gd H RC TC Fn s' ∧ Rg H s' 0 (fun x => bI (P x)) ∧ Rfd H s' (fdM P fd H) ∧ b + cntB P H = cntB lv H ∧ gI s' 4 = Int32.ofNat (cntB P H)
  | _, _, 0, _, _, _, h, _, _, _, _, _, _ => by omega
  | 0, j, N + 1, s, a, hj, _, G, R0, Rf, R6, ha, h4 => by
    have : j = H := by omega
    subst this
    have h8 := G.2.2.2.2.2.1
    have e : cntB (lvM P lv j) j = cntB P j := cntB_congr fun x hx => by unfold lvM; rw [if_pos hx]
    rw [e] at ha h4
    exact ⟨s, a, by rw [k_sweep_4, G.1, if_neg (by rw [ofNat_lt (by omega) (by omega)]; omega)], Fx.refl .., G, R0.congr fun x hx => by unfold lvM; rw [if_pos hx], Rf, ha, h4⟩
  | m + 1, j, N + 1, s, a, hj, hN, G, R0, Rf, R6, ha, h4 => by
    have h8 := G.2.2.2.2.2.1
    have hjH : j < H := by omega
    have ej : lvM P lv j j = lv j := by unfold lvM; rw [if_neg (by omega)]
    rw [k_sweep_4, G.1, if_pos (by rw [ofNat_lt (by omega) (by omega)]; omega), ix_ofNat _ (by omega), show (gA s 0)[j]? = some (bI (lvM P lv j j)) from R0 j hjH, Option.bind_some, ej, ix_ofNat _ (by omega), show (gA s 6)[j]? = some (bI (P j)) from R6 j hjH, Option.bind_some, ofNat_succ, ofNat_succ]
    have same : P j = lv j → ∃ s' b, k_sweep_4 N (Int32.ofNat a) (Int32.ofNat (j + 1)) s = some (Int32.ofNat b, s') ∧ Fx [4] [] [0, 1, 2] [] s s' ∧ Gd H RC TC Fn s' ∧ Rg H s' 0 (fun x => bI (P x)) ∧ Rfd H s' (fdM P fd H) ∧ b + cntB P H = cntB lv H ∧ gI s' 4 = Int32.ofNat (cntB P H) := fun pe => by
      have el : ∀ x, lvM P lv j x = lvM P lv (j + 1) x := fun x => by
        unfold lvM
        by_cases q : x = j
        · rw [q, if_neg (by omega), if_pos (by omega), pe]
        · by_cases w : x < j
          · rw [if_pos w, if_pos (by omega)]
          · rw [if_neg w, if_neg (by omega)]
      have ec : cntB (lvM P lv j) H = cntB (lvM P lv (j + 1)) H := cntB_congr fun x _ => el x
      rw [ec] at ha h4
      refine sweep_loop sub dead m (j + 1) N s a (by omega) (by omega) G (R0.congr fun x hx => by rw [el x]) (fun x f hx hf => ?_) R6 ha h4
      rw [Rf x f hx hf]
      congr 2
      unfold fdM
      by_cases q : x = j
      · subst q
        rw [if_neg (by omega)]
        by_cases w : P x = false
        · rw [if_pos ⟨by omega, w⟩, dead x f (by rw [← pe]; exact w)]
        · rw [if_neg (fun z => w z.2)]
      · by_cases w : x < j ∧ P x = false
        · rw [if_pos w, if_pos ⟨by omega, w.2⟩]
        · rw [if_neg w, if_neg (fun z => w ⟨by omega, z.2⟩)]
    cases el : lv j with
    | false =>
      rw [if_pos (show bI false = 0 from rfl)]
      refine same ?_
      rw [el]
      cases hP : P j with
      | false => rfl
      | true => rw [sub j hjH hP] at el; cases el
    | true =>
      rw [if_neg (show ¬ bI true = 0 by decide)]
      cases hP : P j with
      | true =>
        rw [if_neg (show ¬ bI true = 0 by decide)]
        exact same (by rw [hP, el])
      | false =>
        rw [if_pos (show bI false = 0 from rfl)]
        have lj : lvM P lv j j = true := by rw [ej, el]
        have cb := cntB_upd (lvM P lv j) j false H hjH
        rw [lj] at cb
        simp at cb
        have eu : ∀ x, aupd (lvM P lv j) j false x = lvM P lv (j + 1) x := fun x => by
          unfold aupd lvM
          by_cases q : x = j
          · rw [if_pos q, q, if_pos (by omega), hP]
          · rw [if_neg q]
            by_cases w : x < j
            · rw [if_pos w, if_pos (by omega)]
            · rw [if_neg w, if_neg (by omega)]
        have ec : cntB (aupd (lvM P lv j) j false) H = cntB (lvM P lv (j + 1)) H := cntB_congr fun x _ => eu x
        rw [ec] at cb
        obtain ⟨t, et, Ft, Gt, t0, tf, t4⟩ := rel_ok G (n := cntB (lvM P lv (j + 1)) H) R0 Rf (by rw [h4, ← cb]) hjH lj
        rw [et, Option.bind_some]
        obtain ⟨s', b, e', F', r⟩ := sweep_loop sub dead m (j + 1) N t (a + 1) (by omega) (by omega) Gt (t0.congr fun x hx => by rw [eu x]) (fun x f hx hf => by
          rw [tf x f hx hf]
          congr 2
          unfold fdM
          dsimp only
          by_cases q : x = j
          · rw [if_pos q, q, if_pos ⟨by omega, hP⟩]
          · rw [if_neg q]
            by_cases w : x < j ∧ P x = false
            · rw [if_pos w, if_pos ⟨by omega, w.2⟩]
            · rw [if_neg w, if_neg (fun z => w ⟨by omega, z.2⟩)]) (R6.fx (Ft.2.2.1 6 (by simp))) (by omega) t4
        exact ⟨s', b, e', Ft.trans F', r⟩
theorem clr2 : ∀ m j N s, j + m = 64 → m < N → own_len s → Upto (gA s 2) j 0 → ∃ s', k_recountRefs_2 N (Int32.ofNat j) s = k_recountRefs_21 s' ∧ Fx [] [] [2] [] s s' ∧ own_len s' ∧ gA s' 2 = rep 64 0
  | _, _, 0, _, _, h, _, _ => by omega
  | 0, j, N + 1, s, hj, _, l, u => by
    have : j = 64 := by omega
    subst this
    exact ⟨s, by rw [k_recountRefs_2, if_neg (by decide)], Fx.refl .., l, u.all (len64 l (by simp))⟩
  | m + 1, j, N + 1, s, hj, hN, l, u => by
    have l2 := len64 l (f := 2) (by simp)
    rw [k_recountRefs_2, if_pos ((lt_lit (m := 64) (by omega) (by decide)).mpr (by omega)), st_ofNat _ _ (by omega) (by omega), Option.bind_some, ofNat_succ]
    obtain ⟨s', e, F, r⟩ := clr2 m (j + 1) N (sA s 2 ((gA s 2).set j 0)) (by omega) (by omega) (len_set l) (by rw [gA_sA, if_pos rfl]; exact u.set (by omega))
    exact ⟨s', e, ((Fx.refl ..).sA (by simp)).trans F, r⟩
theorem inc_ok {H RC TC Fn : Nat} {s : S} (G : Gd H RC TC Fn s) {g : Nat → Nat} (R2 : Rg H s 2 (fun x => Int32.ofNat (g x))) {z : Nat} (hz : z < H) : k_refInc (Int32.ofNat z) s = some (sA s 2 ((gA s 2).set z (Int32.ofNat (g z + 1)))) ∧ Gd H RC TC Fn (sA s 2 ((gA s 2).set z (Int32.ofNat (g z + 1)))) ∧ Rg H (sA s 2 ((gA s 2).set z (Int32.ofNat (g z + 1)))) 2 (fun x => Int32.ofNat (aupd g z (g z + 1) x)) := by
  have h8 := G.2.2.2.2.2.1
  have l2 := len64 G.2.2.2.2.1 (f := 2) (by simp)
  refine ⟨?_, G.put, (R2.put (by omega) _).congr fun x hx => ?_⟩
  · unfold k_refInc
    rw [obj_yes G hz, if_neg (by decide), ix_ofNat _ (by omega), show (gA s 2)[z]? = some (Int32.ofNat (g z)) from R2 z hz, Option.bind_some, ofNat_succ, st_ofNat _ _ (by omega) (by omega), Option.bind_some]
  · unfold aupd
    by_cases w : x = z
    · rw [if_pos w, if_pos w]
    · rw [if_neg w, if_neg w]
theorem out_ok {H RC TC Fn : Nat} {lv : Nat → Bool} {fd : Nat → Nat → Option Nat} (w1 : ∀ x f y, x < H → f < Fn → fd x f = some y → y < H ∧ lv y = true) (wF : ∀ x f y, fd x f = some y → f < Fn) {y : Nat} (hy : y < H) {s : S} (G : Gd H RC TC Fn s) (R0 : Rg H s 0 (fun x => bI (lv x))) (Rf : Rfd H s fd) {g : Nat → Nat} (R2 : Rg H s 2 (fun x => Int32.ofNat (g x))) : ∃ s', k_countOutgoing (Int32.ofNat y) s = some s' ∧ Fx [] [] [2] [] s s' ∧ Gd H RC TC Fn s' ∧ Rg H s' 2 (fun x => Int32.ofNat (g x + one fd y x)) := by
  have h8 := G.2.2.2.2.2.1
  have f4 := G.2.2.2.2.2.2.2.2.2
  have step : ∀ (f : Nat) (n : Nat) (s : S) (g : Nat → Nat), f < Fn → Gd H RC TC Fn s → Rg H s 0 (fun x => bI (lv x)) → Rfd H s fd → Rg H s 2 (fun x => Int32.ofNat (g x)) → ∃ s', k_countOutgoing_2 (n + 1) (Int32.ofNat y) (Int32.ofNat f) s = k_countOutgoing_2 n (Int32.ofNat y) (Int32.ofNat (f + 1)) s' ∧ Fx [] [] [2] [] s s' ∧ Gd H RC TC Fn s' ∧ Rg H s' 2 (fun x => Int32.ofNat (g x + if fd y f = some x then 1 else 0)) := fun f n s g hf G R0 Rf R2 => by
    rw [k_countOutgoing_2, G.2.1, if_pos (by rw [ofNat_lt (by omega) (by omega)]; exact hf), read_ok G Rf hy hf, Option.bind_some, live_ok G R0 (fun z hz => (w1 y f z hy hf hz).1), Option.bind_some, ofNat_succ]
    cases e : fd y f with
    | none =>
      rw [if_pos (show lvO lv none = 0 from rfl)]
      exact ⟨s, rfl, Fx.refl .., G, R2.congr fun x hx => by simp⟩
    | some z =>
      obtain ⟨hz, lz⟩ := w1 y f z hy hf e
      obtain ⟨e1, G1, R1⟩ := inc_ok G R2 hz
      rw [show lvO lv (some z) = bI (lv z) from rfl, lz, if_neg (by decide), show pc (some z) = Int32.ofNat z from rfl, e1, Option.bind_some]
      refine ⟨_, rfl, (Fx.refl ..).sA (by simp), G1, R1.congr fun x hx => ?_⟩
      unfold aupd
      by_cases w : x = z
      · rw [if_pos w, w, if_pos rfl]
      · rw [if_neg w, if_neg (fun q => w (Option.some.inj q).symm)]; rfl
  have loop : ∀ m f n (s : S), f + m = Fn → m < n → Gd H RC TC Fn s → Rg H s 0 (fun x => bI (lv x)) → Rfd H s fd → Rg H s 2 (fun x => Int32.ofNat (g x + fc fd y x f)) → ∃ s', k_countOutgoing_2 n (Int32.ofNat y) (Int32.ofNat f) s = some s' ∧ Fx [] [] [2] [] s s' ∧ Gd H RC TC Fn s' ∧ Rg H s' 2 (fun x => Int32.ofNat (g x + fc fd y x Fn)) := by
    intro m
    induction m with
    | zero =>
      intro f n s hf hn G R0 Rf R9
      obtain ⟨n, rfl⟩ : ∃ k, n = k + 1 := ⟨n - 1, by omega⟩
      have : f = Fn := by omega
      subst this
      exact ⟨s, by rw [k_countOutgoing_2, G.2.1, if_neg (by rw [ofNat_lt (by omega) (by omega)]; omega)], Fx.refl .., G, R9⟩
    | succ m ih =>
      intro f n s hf hn G R0 Rf R9
      obtain ⟨n, rfl⟩ : ∃ k, n = k + 1 := ⟨n - 1, by omega⟩
      obtain ⟨t, e1, F1, G1, R1⟩ := step f n s _ (by omega) G R0 Rf R9
      obtain ⟨u, e2, F2, r⟩ := ih (f + 1) n t (by omega) (by omega) G1 (R0.fx (F1.2.2.1 0 (by simp))) (Rf.fx (F1.2.2.1 1 (by simp))) (R1.congr fun x hx => by rw [fc, Nat.add_assoc])
      exact ⟨u, e1.trans e2, F1.trans F2, r⟩
  obtain ⟨u, e, F, G', R⟩ := loop Fn 0 BIG s (by omega) (by unfold BIG; omega) G R0 Rf R2
  refine ⟨u, e, F, G', R.congr fun x hx => ?_⟩
  unfold one
  rw [fc_top wF y x 4 f4]
theorem rec_loop {H RC TC Fn : Nat} {lv : Nat → Bool} {fd : Nat → Nat → Option Nat} (w1 : ∀ x f y, x < H → f < Fn → fd x f = some y → y < H ∧ lv y = true) (wF : ∀ x f y, fd x f = some y → f < Fn) : ∀ m j N s, j + m = H → m < N → Gd H RC TC Fn s → Rg H s 0 (fun x => bI (lv x)) → Rfd H s fd → Rg H s 2 (fun x => Int32.ofNat (deg lv fd x j)) → ∃ s', k_recountRefs_23 N (Int32.ofNat j) s = some s' ∧ Fx [] [] [2] [] s s' ∧ Gd H RC TC Fn s' ∧ Rg H s' 2 (fun x => Int32.ofNat (deg lv fd x H))
  | _, _, 0, _, _, h, _, _, _, _ => by omega
  | 0, j, N + 1, s, hj, _, G, R0, Rf, R2 => by
    have : j = H := by omega
    subst this
    have h8 := G.2.2.2.2.2.1
    exact ⟨s, by rw [k_recountRefs_23, G.1, if_neg (by rw [ofNat_lt (by omega) (by omega)]; omega)], Fx.refl .., G, R2⟩
  | m + 1, j, N + 1, s, hj, hN, G, R0, Rf, R2 => by
    have h8 := G.2.2.2.2.2.1
    rw [k_recountRefs_23, G.1, if_pos (by rw [ofNat_lt (by omega) (by omega)]; omega), ix_ofNat _ (by omega), show (gA s 0)[j]? = some (bI (lv j)) from R0 j (by omega), Option.bind_some, ofNat_succ]
    cases e : lv j with
    | false =>
      rw [if_pos (show bI false = 0 from rfl)]
      exact rec_loop w1 wF m (j + 1) N s (by omega) (by omega) G R0 Rf (R2.congr fun x hx => by rw [deg, e]; rfl)
    | true =>
      rw [if_neg (show ¬ bI true = 0 by decide)]
      obtain ⟨t, e1, F1, G1, R1⟩ := out_ok w1 wF (y := j) (by omega) G R0 Rf R2
      rw [e1, Option.bind_some]
      obtain ⟨s', e2, F2, r⟩ := rec_loop w1 wF m (j + 1) N t (by omega) (by omega) G1 (R0.fx (F1.2.2.1 0 (by simp))) (Rf.fx (F1.2.2.1 1 (by simp))) (R1.congr fun x hx => by rw [deg, e]; rfl)
      exact ⟨s', e2, F1.trans F2, r⟩
theorem recount_ok {H RC TC Fn : Nat} {lv : Nat → Bool} {fd : Nat → Nat → Option Nat} (w1 : ∀ x f y, x < H → f < Fn → fd x f = some y → y < H ∧ lv y = true) (wF : ∀ x f y, fd x f = some y → f < Fn) {s : S} (G : Gd H RC TC Fn s) (R0 : Rg H s 0 (fun x => bI (lv x))) (Rf : Rfd H s fd) : ∃ s', k_recountRefs s = some s' ∧ Fx [] [] [2] [] s s' ∧ Gd H RC TC Fn s' ∧ Rg H s' 2 (fun x => Int32.ofNat (deg lv fd x H)) := by
  have h8 := G.2.2.2.2.2.1
  obtain ⟨t, e, F, l, a⟩ := clr2 64 0 BIG s (by omega) (by unfold BIG; omega) G.2.2.2.2.1 (Upto.zero _ _)
  have Gt : Gd H RC TC Fn t := G.fx (fun k _ => F.1 k (by simp)) l
  obtain ⟨s', e2, F2, G2, g2⟩ := rec_loop w1 wF H 0 BIG t (by omega) (by unfold BIG; omega) Gt (R0.fx (F.2.2.1 0 (by simp))) (Rf.fx (F.2.2.1 1 (by simp))) (fun x hx => by
    rw [a]; unfold rep; rw [List.getElem?_replicate, if_pos (by omega)]; rfl)
  refine ⟨s', ?_, F.trans F2, G2, g2⟩
  unfold k_recountRefs
  rw [show (0 : Int32) = Int32.ofNat 0 from rfl, e]
  exact e2
/-- the table -/
def RT (H : Nat) (s : S) (tb : List Nat) : Prop := gI s 6 = Int32.ofNat tb.length ∧ tb.length ≤ 19 ∧ ∀ x, x < H → ∃ p, (gA s 5)[x]? = some p ∧ (p = -1 ↔ x ∉ tb)
theorem RT.fx {H : Nat} {s t : S} {tb : List Nat} (h : RT H s tb) (i : gI t 6 = gI s 6) (e : gA t 5 = gA s 5) : RT H t tb := by unfold RT; rw [i, e]; exact h
theorem enc_ne {c : Nat} (hc : c < 1000) : Int32.ofNat c ≠ -1 := fun e => absurd (show (-1 : Int32) < 0 by decide) (by rw [← e]; exact ofNat_nonneg (by omega))
theorem ins_ok {H RC TC Fn : Nat} {s : S} (G : Gd H RC TC Fn s) {tb : List Nat} (R : RT H s tb) {x : Nat} (hx : x < H) (nx : x ∉ tb) (room : tb.length < TC) (t8 : tb.length < 19) : ∃ s', k_tableInsert (Int32.ofNat x) s = some (1, s') ∧ Fx [6] [] [4, 5] [] s s' ∧ Gd H RC TC Fn s' ∧ RT H s' (tb ++ [x]) := by
  have h8 := G.2.2.2.2.2.1
  have l4 := len64 G.2.2.2.2.1 (f := 4) (by simp)
  have l5 := len64 G.2.2.2.2.1 (f := 5) (by simp)
  obtain ⟨r6, rl, ri⟩ := R
  obtain ⟨p, ep, hp⟩ := ri x hx
  have tc : TC ≤ 64 := G.2.2.2.2.2.2.2.2.1
  have e5 : gA (sA s 4 ((gA s 4).set tb.length (Int32.ofNat x))) 5 = gA s 5 := by rw [gA_sA, if_neg (by decide)]
  have G2 := ((G.put (f := 4) (x := tb.length) (v := Int32.ofNat x)).put (f := 5) (x := x) (v := Int32.ofNat tb.length)).sI (f := 6) (v := Int32.ofNat (tb.length + 1)) (by omega)
  rw [e5] at G2
  refine ⟨sI (sA (sA s 4 ((gA s 4).set tb.length (Int32.ofNat x))) 5 ((gA s 5).set x (Int32.ofNat tb.length))) 6 (Int32.ofNat (tb.length + 1)), ?_, (((Fx.refl ..).sA (by simp)).sA (by simp)).sI (by simp), G2, ?_, ?_, ?_⟩
  · unfold k_tableInsert
    rw [obj_yes G hx, if_neg (by decide), ix_ofNat _ (by omega), ep, Option.bind_some, if_pos (hp.mpr nx), r6, G.2.2.2.1, if_pos (by rw [ofNat_lt (by omega) (by omega)]; exact room), if_pos ((lt_lit (m := 64) (by omega) (by decide)).mpr (by omega)), st_ofNat _ _ (by omega) (by omega), Option.bind_some, st_ofNat _ _ (by omega) (by omega), Option.bind_some, ofNat_succ]
  · rw [gI_sI, if_pos rfl, List.length_append, List.length_singleton]
  · rw [List.length_append, List.length_singleton]; omega
  · intro y hy
    rw [gA_sI, gA_sA, if_pos rfl]
    by_cases q : y = x
    · subst q
      exact ⟨Int32.ofNat tb.length, List.getElem?_set_self (by omega), fun z => absurd z (enc_ne (by omega)), fun z => absurd (by simp) z⟩
    · obtain ⟨p', ep', hp'⟩ := ri y hy
      refine ⟨p', by rw [List.getElem?_set_ne (by omega)]; exact ep', ?_⟩
      rw [hp']
      simp [q]
def zl (lv : Nat → Bool) (fd : Nat → Nat → Option Nat) (H j : Nat) : List Nat := (List.range j).filter fun x => lv x && decide (deg lv fd x H = 0)
theorem zl_mem {lv : Nat → Bool} {fd : Nat → Nat → Option Nat} {H j x : Nat} : x ∈ zl lv fd H j ↔ x < j ∧ lv x = true ∧ deg lv fd x H = 0 := by
  unfold zl
  rw [List.mem_filter, List.mem_range]
  simp
theorem nodup_filter (p : Nat → Bool) {l : List Nat} (h : l.Nodup) : (l.filter p).Nodup := List.Nodup.sublist List.filter_sublist h
theorem zl_nodup (lv : Nat → Bool) (fd : Nat → Nat → Option Nat) (H j : Nat) : (zl lv fd H j).Nodup := nodup_filter _ List.nodup_range
theorem reb_loop {H RC TC Fn : Nat} {lv : Nat → Bool} {fd : Nat → Nat → Option Nat} (room : ∀ l : List Nat, l.Nodup → (∀ x ∈ l, x < H ∧ lv x = true ∧ deg lv fd x H = 0) → l.length ≤ RC) : ∀ m j N s, j + m = H → m < N → Gd H RC TC Fn s → Rg H s 0 (fun x => bI (lv x)) → Rg H s 2 (fun x => Int32.ofNat (deg lv fd x H)) → RT H s (zl lv fd H j) → ∃ s', k_rebuildTable_6 N (Int32.ofNat j) s = some s' ∧ Fx [6] [] [4, 5] [] s s' ∧ Gd H RC TC Fn s' ∧ RT H s' (zl lv fd H H)
  | _, _, 0, _, _, h, _, _, _, _ => by omega
  | 0, j, N + 1, s, hj, _, G, R0, R2, R => by
    have : j = H := by omega
    subst this
    have h8 := G.2.2.2.2.2.1
    exact ⟨s, by rw [k_rebuildTable_6, G.1, if_neg (by rw [ofNat_lt (by omega) (by omega)]; omega)], Fx.refl .., G, R⟩
  | m + 1, j, N + 1, s, hj, hN, G, R0, R2, R => by
    have h8 := G.2.2.2.2.2.1
    have hjH : j < H := by omega
    have dl := deg_le lv fd j H
    have zs : zl lv fd H (j + 1) = zl lv fd H j ++ (if (lv j && decide (deg lv fd j H = 0)) then [j] else []) := by
      unfold zl
      rw [List.range_succ, List.filter_append]
      congr 1
      rw [List.filter_cons, List.filter_nil]
    rw [k_rebuildTable_6, G.1, if_pos (by rw [ofNat_lt (by omega) (by omega)]; omega), ix_ofNat _ (by omega), show (gA s 0)[j]? = some (bI (lv j)) from R0 j hjH, Option.bind_some, ix_ofNat _ (by omega), show (gA s 2)[j]? = some (Int32.ofNat (deg lv fd j H)) from R2 j hjH, Option.bind_some, ofNat_succ]
    cases el : lv j with
    | false =>
      rw [el] at zs
      simp at zs
      rw [if_pos (show bI false = 0 from rfl)]
      exact reb_loop room m (j + 1) N s (by omega) (by omega) G R0 R2 (by rw [zs]; exact R)
    | true =>
      rw [el] at zs
      rw [if_neg (show ¬ bI true = 0 by decide)]
      by_cases q : deg lv fd j H = 0
      · simp [q] at zs
        have nj : j ∉ zl lv fd H j := fun z => by have := (zl_mem.mp z).1; omega
        have nd2 : (zl lv fd H j ++ [j]).Nodup := by
          rw [List.nodup_append]
          exact ⟨zl_nodup .., by simp, fun a ha b hb => by rw [List.mem_singleton.mp hb]; intro w; rw [w] at ha; exact nj ha⟩
        have rm := room (zl lv fd H j ++ [j]) nd2 (fun x hx => by
          rcases List.mem_append.mp hx with w | w
          · have := zl_mem.mp w; exact ⟨by omega, this.2⟩
          · rw [List.mem_singleton.mp w]; exact ⟨hjH, el, q⟩)
        rw [List.length_append, List.length_singleton] at rm
        have b := G.2.2.2.2.2.2
        obtain ⟨t, et, Ft, Gt, Rt⟩ := ins_ok G R hjH nj (by omega) (by omega)
        rw [q, if_pos (show Int32.ofNat 0 = 0 from rfl), et, Option.bind_some]
        obtain ⟨s', e', F', r⟩ := reb_loop room m (j + 1) N t (by omega) (by omega) Gt (R0.fx (Ft.2.2.1 0 (by simp))) (R2.fx (Ft.2.2.1 2 (by simp))) (by rw [zs]; exact Rt)
        exact ⟨s', e', Ft.trans F', r⟩
      · simp [q] at zs
        rw [if_neg (fun z => q ((nat_zero (by omega)).mp z))]
        exact reb_loop room m (j + 1) N s (by omega) (by omega) G R0 R2 (by rw [zs]; exact R)
theorem rebuild_ok {H RC TC Fn : Nat} {lv : Nat → Bool} {fd : Nat → Nat → Option Nat} (room : ∀ l : List Nat, l.Nodup → (∀ x ∈ l, x < H ∧ lv x = true ∧ deg lv fd x H = 0) → l.length ≤ RC) {s : S} (G : Gd H RC TC Fn s) (R0 : Rg H s 0 (fun x => bI (lv x))) (R2 : Rg H s 2 (fun x => Int32.ofNat (deg lv fd x H))) : ∃ s', k_rebuildTable s = some s' ∧ Fx [6] [] [4, 5] [] s s' ∧ Gd H RC TC Fn s' ∧ RT H s' (zl lv fd H H) := by
  have h8 := G.2.2.2.2.2.1
  obtain ⟨t, e, ⟨_, l⟩, t6, t5, F⟩ := own_rt s s ⟨Fx.refl .., G.2.2.2.2.1⟩
  have Gt : Gd H RC TC Fn t := G.fx (fun k hk => F.1 k (by simp; omega)) l
  obtain ⟨s', e2, F2, r⟩ := reb_loop room H 0 BIG t (by omega) (by unfold BIG; omega) Gt (R0.fx (F.2.2.1 0 (by simp))) (R2.fx (F.2.2.1 2 (by simp))) ⟨t6, by simp [zl], fun x hx => ⟨-1, t5 x (by omega), by simp [zl]⟩⟩
  refine ⟨s', ?_, F.trans F2, r⟩
  unfold k_rebuildTable
  rw [e, Option.bind_some, show (0 : Int32) = Int32.ofNat 0 from rfl]
  exact e2
def Wf (H RC Fn : Nat) (lv : Nat → Bool) (fd : Nat → Nat → Option Nat) (rts : List (Option Nat)) (tb : List Nat) : Prop := (∀ x f y, fd x f = some y → x < H ∧ f < Fn ∧ lv x = true ∧ y < H ∧ lv y = true) ∧ (∀ y, some y ∈ rts → y < H ∧ lv y = true) ∧ rts.length ≤ RC ∧ tb.Nodup ∧ (∀ x ∈ tb, x < H ∧ lv x = true) ∧ (∀ x, x < H → lv x = true → deg lv fd x H = 0 → x ∈ tb)
def RI (H RC TC Fn : Nat) (s : S) (lv : Nat → Bool) (fd : Nat → Nat → Option Nat) (rts : List (Option Nat)) (tb : List Nat) : Prop := Gd H RC TC Fn s ∧ Rg H s 0 (fun x => bI (lv x)) ∧ Rfd H s fd ∧ Rg H s 2 (fun x => Int32.ofNat (deg lv fd x H)) ∧ Rr s rts ∧ RT H s tb ∧ gI s 4 = Int32.ofNat (cntB lv H) ∧ Wf H RC Fn lv fd rts tb
theorem nodup_sub : ∀ {l m : List Nat}, l.Nodup → (∀ x ∈ l, x ∈ m) → l.length ≤ m.length
  | [], _, _, _ => by simp
  | x :: l, m, nd, h => by
    have hx := h x List.mem_cons_self
    have h1 := nodup_sub (l := l) (m := m.erase x) (List.nodup_cons.mp nd).2 (fun y hy => by
      have hy' := h y (List.mem_cons_of_mem _ hy)
      have ne : y ≠ x := fun e => (List.nodup_cons.mp nd).1 (e ▸ hy)
      exact (List.mem_erase_of_ne ne).mpr hy')
    rw [List.length_erase_of_mem hx] at h1
    have := List.length_pos_of_mem hx
    rw [List.length_cons]
    omega
theorem root_len {rts : List (Option Nat)} {l : List Nat} (nd : l.Nodup) (h : ∀ x ∈ l, some x ∈ rts) : l.length ≤ rts.length := by
  have := nodup_sub (m := rts.filterMap id) nd (fun x hx => by
    rw [List.mem_filterMap]
    exact ⟨some x, h x hx, rfl⟩)
  exact Nat.le_trans this (List.length_filterMap_le _ _)
theorem reconcile_ok {H RC TC Fn : Nat} {s : S} {lv : Nat → Bool} {fd : Nat → Nat → Option Nat} {rts : List (Option Nat)} {tb : List Nat} (h : RI H RC TC Fn s lv fd rts tb) : ∃ s' P b, k_runReconciliation s = some (Int32.ofNat b, s') ∧ RI H RC TC Fn s' P (fdM P fd H) rts (zl P (fdM P fd H) H H) ∧ gI s' 8 = gI s 8 + 1 ∧ (zl P (fdM P fd H) H H).length ≤ RC ∧ b + cntB P H = cntB lv H ∧ (∀ x, x < H → P x = true → lv x = true) ∧ (∀ x, x < H → some x ∈ rts → P x = true) ∧ (∀ x, x < H → P x = true → ∀ f y, fd x f = some y → P y = true) ∧ (∀ x, x < H → P x = true → some x ∉ rts → deg P (fdM P fd H) x H ≠ 0) ∧ ((∀ x, x < H → lv x = true → some x ∉ rts → deg lv fd x H ≠ 0) → ∀ x, x < H → P x = lv x) ∧ ∀ S : Nat → Bool, (∀ y, S y = true → y < H ∧ lv y = true ∧ (some y ∈ rts ∨ ∃ z f, S z = true ∧ fd z f = some y)) → ∀ y, S y = true → P y = true := by
  obtain ⟨G, R0, Rf, R2, Rrt, RTb, g4, w1, w2, w3, w4, w5, w6⟩ := h
  have h8 := G.2.2.2.2.2.1
  have rc6 : RC ≤ 16 := G.2.2.2.2.2.2.1
  have f4 := G.2.2.2.2.2.2.2.2.2
  have wF : ∀ x f y, fd x f = some y → f < Fn := fun x f y e => (w1 x f y e).2.1
  have w1' : ∀ x f y, fd x f = some y → y < H ∧ lv y = true := fun x f y e => (w1 x f y e).2.2.2
  -- mark
  obtain ⟨a, ea, Fa, Ga, A7⟩ := mark_ok (s := sI s 8 (gI s 8 + 1)) (by omega) (fun y hy => (w2 y hy).1) (G.sI (by omega)) (Rrt.fx (by rw [gI_sI, if_neg (by decide)]) (by rw [gA_sI]))
  have aA : ∀ k, k ≠ 7 → gA a k = gA s k := fun k hk => by rw [Fa.2.2.1 k (by simp [hk]), gA_sI]
  have aI : ∀ k, k ≠ 8 → gI a k = gI s k := fun k hk => by rw [Fa.1 k (by simp), gI_sI, if_neg hk]
  have a8 : gI a 8 = gI s 8 + 1 := by rw [Fa.1 8 (by simp), gI_sI, if_pos rfl]
  have A0 : Rg H a 0 (fun x => bI (lv x)) := R0.fx (aA 0 (by decide))
  have Af : Rfd H a fd := Rf.fx (aA 1 (by decide))
  -- count
  obtain ⟨b, eb, Fb, Gb, B9, B8, B6⟩ := init_cnt 64 0 BIG a (by omega) (by unfold BIG; omega) Ga A0 (Upto.zero _ _) (Upto.zero _ _) (fun x hx => by omega)
  obtain ⟨c, ec, Fc, Gc, C9⟩ := cnt_loop w1' wF H 0 BIG b (by omega) (by unfold BIG; omega) Gb (A0.fx (Fb.2.2.1 0 (by simp))) (Af.fx (Fb.2.2.1 1 (by simp))) B9
  have cA : ∀ k, k ≠ 6 → k ≠ 8 → k ≠ 9 → gA c k = gA a k := fun k x y z => by rw [Fc.2.2.1 k (by simp [z]), Fb.2.2.1 k (by simp [x, y, z])]
  have cI : ∀ k, gI c k = gI a k := fun k => by rw [Fc.1 k (by simp), Fb.1 k (by simp)]
  have ecnt : k_countHolders a = some c := by
    unfold k_countHolders
    rw [show (0 : Int32) = Int32.ofNat 0 from rfl, eb]
    exact ec
  -- seed
  have CS : Cs H RC TC Fn (sI c 7 0) lv fd (held rts) lv (fun _ => false) (fun x => deg lv fd x H) [] := by
    refine ⟨Gc.sI (by omega), A0.fx (by rw [gA_sI, cA 0 (by decide) (by decide) (by decide)]), Af.fx (by rw [gA_sI, cA 1 (by decide) (by decide) (by decide)]), B6.fx (by rw [gA_sI, Fc.2.2.1 6 (by simp)]), A7.fx (by rw [gA_sI, cA 7 (by decide) (by decide) (by decide)]), (B8.fx (by rw [gA_sI, Fc.2.2.1 8 (by simp)])).congr fun x hx => rfl, C9.fx (by rw [gA_sI]), ⟨by rw [gI_sI, if_pos rfl]; rfl, by simp, fun i x hi => by cases hi⟩, fun x hx => by have := deg_le lv fd x H; show deg lv fd x H ≤ 100; omega⟩
  obtain ⟨d, Q, W, ed, Fd, CD, ndW, mW, mQ⟩ := seed_loop H 0 BIG (sI c 7 0) (fun _ => false) [] (by omega) (by unfold BIG; omega) CS List.nodup_nil (fun x => by simp) (fun x => by simp)
  have eseed : k_seedWork c = some d := by
    unfold k_seedWork
    rw [show k_seedWork_7 BIG 0 (sI c 7 0) = k_seedWork_7 BIG (Int32.ofNat 0) (sI c 7 0) from rfl]
    exact ed
  -- cascade
  have CI0 : CI H lv fd (held rts) lv Q (fun x => deg lv fd x H) W := by
    refine ⟨fun y _ => rfl, ndW, fun y => ?_, fun y hy hq => ?_, fun y hy p1 p2 p3 => ?_, fun y hy p1 p2 => ?_, fun y _ p => p⟩
    · constructor
      · intro z
        have := (mW y).mp z
        exact ⟨this.1, by rw [mQ y]; exact decide_eq_true z, this.2.1⟩
      · rintro ⟨z1, z2, _⟩
        rw [mQ y] at z2
        exact decide_eq_true_eq.mp z2
    · rw [mQ y] at hq
      have := (mW y).mp (decide_eq_true_eq.mp hq)
      exact ⟨this.2.2.2, this.2.2.1⟩
    · rw [mQ y]; exact decide_eq_true ((mW y).mpr ⟨hy, p1, p2, p3⟩)
    · rw [p1] at p2; cases p2
  have lvb := cntB_le lv H
  obtain ⟨e, P, Q', hold', ee, Fe, Ge, E6, CI1, stay, mx⟩ := casc_loop w1' wF 19 0 BIG d lv Q _ W (by omega) (by omega) (by unfold BIG; omega) CD CI0
  obtain ⟨i1, _, i3, i4, i5, i6, i7⟩ := CI1
  have ecas : k_cascade d = some e := ee
  have eA : ∀ k, k ≤ 5 → gA e k = gA s k := fun k hk => by
    rw [Fe.2.2.1 k (by simp; omega), Fd.2.2.1 k (by simp; omega), gA_sI, cA k (by omega) (by omega) (by omega), aA k (by omega)]
  have eI : ∀ k, k ≠ 7 → k ≠ 8 → gI e k = gI s k := fun k x y => by
    rw [Fe.1 k (by simp [x]), Fd.1 k (by simp [x]), gI_sI, if_neg x, cI, aI k y]
  have e8 : gI e 8 = gI s 8 + 1 := by
    rw [Fe.1 8 (by simp), Fd.1 8 (by simp), gI_sI, if_neg (by decide), cI]; exact a8
  have dead : ∀ x f, lv x = false → fd x f = none := fun x f hl => by
    cases hfd : fd x f with
    | none => rfl
    | some y => rw [(w1 x f y hfd).2.2.1] at hl; cases hl
  -- facts of the survivors
  have o1 : ∀ x, x < H → P x = true → lv x = true := i7
  have o2 : ∀ x, x < H → some x ∈ rts → P x = true := fun x hx hr => by
    cases hP : P x with
    | true => rfl
    | false =>
      have := (i4 x hx (i6 x hx (w2 x hr).2 hP)).2
      unfold held at this
      simp [hr] at this
  have o3 : ∀ x, x < H → P x = true → ∀ f y, fd x f = some y → P y = true := fun x hx hp f y hfd => by
    obtain ⟨_, hf, _, hy, ly⟩ := w1 x f y hfd
    cases hP : P y with
    | true => rfl
    | false =>
      have hz := (i4 y hy (i6 y hy ly hP)).1
      rw [i1 y hy] at hz
      exact absurd hfd ((deg_zero H).mp hz x f hx hp (by omega))
  have fdm : ∀ x f, x < H → P x = true → fdM P fd H x f = fd x f := fun x f hx hp => by
    unfold fdM
    rw [if_neg (fun z => by rw [hp] at z; cases z.2)]
  have degE : ∀ x, deg P (fdM P fd H) x H = deg P fd x H := fun x => deg_congr H fun y hy => ⟨rfl, fun hp => fc_congr 4 fun f _ => fdm y f hy hp⟩
  have o4 : ∀ x, x < H → P x = true → some x ∉ rts → deg P (fdM P fd H) x H ≠ 0 := fun x hx hp hr z => by
    rw [degE] at z
    have hh : held rts x = false := by unfold held; exact decide_eq_false hr
    have hq := i5 x hx hp hh (by rw [i1 x hx]; exact z)
    have := (i3 x).mpr ⟨hx, hq, hp⟩
    cases this
  -- sweep
  obtain ⟨t, n, et, Ft, Gt, T0, Tf, cnt, t4⟩ := sweep_loop o1 dead H 0 BIG e 0 (by omega) (by unfold BIG; omega) Ge ((R0.fx (eA 0 (by omega))).congr fun x hx => by unfold lvM; rw [if_neg (by omega)]) (fun x f hx hf => by
    rw [(Rf.fx (eA 1 (by omega))) x f hx hf]; congr 2) E6 (by
    rw [Nat.zero_add]; exact cntB_congr fun x hx => by unfold lvM; rw [if_neg (by omega)]) (by
    rw [eI 4 (by decide) (by decide), g4, show cntB (lvM P lv 0) H = cntB lv H from cntB_congr fun x hx => by unfold lvM; rw [if_neg (by omega)]])
  have esw : k_sweep e = some (Int32.ofNat n, t) := et
  have wFP : ∀ x f y, fdM P fd H x f = some y → f < Fn := fun x f y e => by
    unfold fdM at e
    by_cases w : x < H ∧ P x = false
    · rw [if_pos w] at e; cases e
    · rw [if_neg w] at e; exact wF x f y e
  have w1P : ∀ x f y, x < H → f < Fn → fdM P fd H x f = some y → y < H ∧ P y = true := fun x f y hx hf hfd => by
    have hp : P x = true := by
      cases hP : P x with
      | true => rfl
      | false => unfold fdM at hfd; rw [if_pos ⟨hx, hP⟩] at hfd; cases hfd
    rw [fdm x f hx hp] at hfd
    exact ⟨(w1' x f y hfd).1, o3 x hx hp f y hfd⟩
  obtain ⟨u, eu, Fu, Gu, U2⟩ := recount_ok w1P wFP Gt T0 Tf
  have room : ∀ l : List Nat, l.Nodup → (∀ x ∈ l, x < H ∧ P x = true ∧ deg P (fdM P fd H) x H = 0) → l.length ≤ RC := fun l nd hl => by
    refine Nat.le_trans (root_len nd fun x hx => ?_) w3
    obtain ⟨z1, z2, z3⟩ := hl x hx
    by_cases hr : some x ∈ rts
    · exact hr
    · exact absurd z3 (o4 x z1 z2 hr)
  obtain ⟨v, ev, Fv, Gv, VT⟩ := rebuild_ok room Gu (T0.fx (Fu.2.2.1 0 (by simp))) U2
  have vI : ∀ k, k ≠ 4 → k ≠ 6 → k ≠ 7 → k ≠ 8 → gI v k = gI s k := fun k x y z w => by
    rw [Fv.1 k (by simp [y]), Fu.1 k (by simp), Ft.1 k (by simp [x]), eI k z w]
  refine ⟨v, P, n, ?_, ⟨Gv, T0.fx (by rw [Fv.2.2.1 0 (by simp), Fu.2.2.1 0 (by simp)]), Tf.fx (by rw [Fv.2.2.1 1 (by simp), Fu.2.2.1 1 (by simp)]), U2.fx (Fv.2.2.1 2 (by simp)), Rrt.fx (vI 5 (by decide) (by decide) (by decide) (by decide)) (by rw [Fv.2.2.1 3 (by simp), Fu.2.2.1 3 (by simp), Ft.2.2.1 3 (by simp), eA 3 (by omega)]), VT, ?_, fun x f y hfd => ?_, fun y hy => ⟨(w2 y hy).1, o2 y (w2 y hy).1 hy⟩, w3, zl_nodup .., fun x hx => ?_, fun x hx hp hz => zl_mem.mpr ⟨hx, hp, hz⟩⟩, ?_, room _ (zl_nodup ..) (fun x hx => zl_mem.mp hx), cnt, o1, o2, o3, o4, fun nz x hx => ?_, fun S hS => mx S (fun y hy => ⟨(hS y hy).1, (hS y hy).2.2.elim (fun w => Or.inl (by unfold held; exact decide_eq_true w)) Or.inr⟩) fun y hy => (hS y hy).2.1⟩
  · unfold k_runReconciliation
    rw [ea, Option.bind_some, ecnt, Option.bind_some, eseed, Option.bind_some, ecas, Option.bind_some, esw, Option.bind_some]
    dsimp only
    rw [eu, Option.bind_some, ev, Option.bind_some]
  · rw [Fv.1 4 (by simp), Fu.1 4 (by simp), t4]
  · have hx : x < H ∧ P x = true ∧ fd x f = some y := by
      unfold fdM at hfd
      by_cases w : x < H ∧ P x = false
      · rw [if_pos w] at hfd; cases hfd
      · rw [if_neg w] at hfd
        have hx := (w1 x f y hfd).1
        refine ⟨hx, ?_, hfd⟩
        cases hP : P x with
        | true => rfl
        | false => exact absurd ⟨hx, hP⟩ w
    obtain ⟨_, hf, _, hy, _⟩ := w1 x f y hx.2.2
    exact ⟨hx.1, hf, hx.2.1, hy, o3 x hx.1 hx.2.1 f y hx.2.2⟩
  · have := zl_mem.mp hx; exact ⟨this.1, this.2.1⟩
  · rw [Fv.1 8 (by simp), Fu.1 8 (by simp), Ft.1 8 (by simp)]; exact e8
  · have we : W = [] := by
      cases W with
      | nil => rfl
      | cons z l =>
        obtain ⟨z1, z2, z3, z4⟩ := (mW z).mp List.mem_cons_self
        exact absurd z4 (nz z z1 z2 (fun hr => by unfold held at z3; simp [hr] at z3))
    rw [stay we]
theorem rfull {H RC TC Fn : Nat} {s : S} {lv : Nat → Bool} {fd : Nat → Nat → Option Nat} {rts : List (Option Nat)} {tb : List Nat} (h : RI H RC TC Fn s lv fd rts tb) : k_rootsFull s = if rts.length < RC then 0 else 1 := by
  obtain ⟨G, R0, Rf, R2, Rrt, RTb, g4, w1, w2, w3, _⟩ := h
  have := G.2.2.2.2.2.2.1
  unfold k_rootsFull
  rw [Rrt.1, G.2.2.1]
  by_cases q : rts.length < RC
  · rw [if_pos (by rw [ofNat_lt (by omega) (by omega)]; exact q), if_pos q]
  · rw [if_neg (by rw [ofNat_lt (by omega) (by omega)]; exact q), if_neg q]
def slotO (rts : List (Option Nat)) (v : Int32) : Option (Option Nat) := if v < 0 then none else rts[v.toNatClampNeg]?
theorem rslot {H RC TC Fn : Nat} {s : S} {lv : Nat → Bool} {fd : Nat → Nat → Option Nat} {rts : List (Option Nat)} {tb : List Nat} (h : RI H RC TC Fn s lv fd rts tb) (v : Int32) : (slotO rts v = none ∧ k_isRootSlot v s = 0) ∨ ∃ i o, i < rts.length ∧ v = Int32.ofNat i ∧ rts[i]? = some o ∧ slotO rts v = some o ∧ k_isRootSlot v s = 1 ∧ ix (gA s 3) v = some (pc o) := by
  obtain ⟨G, R0, Rf, R2, Rrt, RTb, g4, w1, w2, w3, _⟩ := h
  have := G.2.2.2.2.2.2.1
  unfold slotO k_isRootSlot
  rw [Rrt.1]
  by_cases q : v < 0
  · left; rw [if_pos q, if_pos q]; exact ⟨rfl, rfl⟩
  · rw [if_neg q, if_neg q]
    obtain ⟨e, l⟩ := eq_ofNat q
    by_cases w : v < Int32.ofNat rts.length
    · right
      have c := clamp_lt q w (by omega)
      refine ⟨v.toNatClampNeg, rts[v.toNatClampNeg], c, e, List.getElem?_eq_getElem c, List.getElem?_eq_getElem c, by rw [if_pos w], ?_⟩
      rw [ix_nat _ q]
      exact Rrt.2 _ _ (List.getElem?_eq_getElem c)
    · left
      rw [if_neg w]
      refine ⟨List.getElem?_eq_none ?_, rfl⟩
      rw [e, ofNat_lt l (by omega)] at w
      omega
theorem push_root {H RC TC Fn : Nat} {s : S} {lv : Nat → Bool} {fd : Nat → Nat → Option Nat} {rts : List (Option Nat)} {tb : List Nat} (h : RI H RC TC Fn s lv fd rts tb) {o : Option Nat} (ho : ∀ y, o = some y → y < H ∧ lv y = true) (room : rts.length < RC) : ∃ s', k_rootPush (pc o) s = some s' ∧ Fx [5] [] [3] [] s s' ∧ RI H RC TC Fn s' lv fd (rts ++ [o]) tb := by
  obtain ⟨G, R0, Rf, R2, Rrt, RTb, g4, w1, w2, w3, w4, w5, w6⟩ := h
  have r6 := G.2.2.2.2.2.2.1
  have l3 : (gA s 3).length = 16 := G.2.2.2.2.1.2.2.2.1
  refine ⟨sI (sA s 3 ((gA s 3).set rts.length (pc o))) 5 (Int32.ofNat (rts.length + 1)), ?_, ((Fx.refl ..).sA (by simp)).sI (by simp), G.put.sI (by omega), R0.fx (by simp only [gA_sI, gA_sA]; rfl), Rf.fx (by simp only [gA_sI, gA_sA]; rfl), R2.fx (by simp only [gA_sI, gA_sA]; rfl), ⟨?_, fun i p hi => ?_⟩, RTb.fx (by rw [gI_sI, if_neg (by decide), gI_sA]) (by simp only [gA_sI, gA_sA]; rfl), by rw [gI_sI, if_neg (by decide), gI_sA]; exact g4, w1, fun y hy => ?_, ?_, w4, w5, w6⟩
  · unfold k_rootPush
    rw [Rrt.1, G.2.2.1, if_pos (by rw [ofNat_lt (by omega) (by omega)]; exact room), if_pos ((lt_lit (m := 16) (by omega) (by decide)).mpr (by omega)), st_ofNat _ _ (by omega) (by omega), Option.bind_some, ofNat_succ]
  · rw [gI_sI, if_pos rfl, List.length_append, List.length_singleton]
  · rw [gA_sI, gA_sA, if_pos rfl]
    have il := (List.getElem?_eq_some_iff.mp hi).1
    rw [List.length_append, List.length_singleton] at il
    by_cases q : i < rts.length
    · rw [List.getElem?_append_left q] at hi
      rw [List.getElem?_set_ne (by omega)]; exact Rrt.2 i p hi
    · have : i = rts.length := by omega
      subst this
      rw [List.getElem?_append_right (by omega), Nat.sub_self] at hi
      cases hi
      rw [List.getElem?_set_self (by omega)]
  · rcases List.mem_append.mp hy with z | z
    · exact w2 y z
    · exact ho y (List.mem_singleton.mp z).symm
  · rw [List.length_append, List.length_singleton]; omega
theorem pop_ok {H RC TC Fn : Nat} {s : S} {lv : Nat → Bool} {fd : Nat → Nat → Option Nat} {rts : List (Option Nat)} {tb : List Nat} (h : RI H RC TC Fn s lv fd rts tb) : (rts = [] ∧ k_pop s = some (-3, s)) ∨ (rts ≠ [] ∧ ∃ s', k_pop s = some (0, s') ∧ Fx [5] [] [3] [] s s' ∧ RI H RC TC Fn s' lv fd rts.dropLast tb) := by
  obtain ⟨G, R0, Rf, R2, Rrt, RTb, g4, w1, w2, w3, w4, w5, w6⟩ := id h
  have r6 := G.2.2.2.2.2.2.1
  have l3 : (gA s 3).length = 16 := G.2.2.2.2.1.2.2.2.1
  unfold k_pop k_rootPopTop
  rw [Rrt.1]
  rcases List.eq_nil_or_concat rts with w | ⟨r, o, w⟩
  · left
    subst w
    rw [if_neg (by decide)]
    exact ⟨rfl, rfl⟩
  · right
    have w' : rts = r ++ [o] := by rw [w]; simp
    subst w'
    have ll : (r ++ [o]).length = r.length + 1 := by simp
    have s1 : Int32.ofNat (r ++ [o]).length - 1 = Int32.ofNat r.length := by rw [ll, ← ofNat_succ]; simp
    refine ⟨by simp, ?_⟩
    rw [if_pos (by rw [show (0 : Int32) = Int32.ofNat 0 from rfl, ofNat_lt (by omega) (by omega)]; omega), if_pos (by rw [show (0 : Int32) = Int32.ofNat 0 from rfl, ofNat_lt (by omega) (by omega)]; omega), s1, st_ofNat _ _ (by omega) (by omega), Option.bind_some, Option.bind_some, List.dropLast_concat]
    have G2 := (G.sI (f := 5) (v := Int32.ofNat r.length) (by omega)).put (f := 3) (x := r.length) (v := -1)
    rw [gA_sI] at G2
    refine ⟨_, rfl, ((Fx.refl ..).sI (by simp)).sA (by simp), G2, R0.fx (by simp only [gA_sI, gA_sA]; rfl), Rf.fx (by simp only [gA_sI, gA_sA]; rfl), R2.fx (by simp only [gA_sI, gA_sA]; rfl), ⟨by rw [gI_sA, gI_sI, if_pos rfl], fun i p hi => ?_⟩, RTb.fx (by rw [gI_sA, gI_sI, if_neg (by decide)]) (by simp only [gA_sI, gA_sA]; rfl), by rw [gI_sA, gI_sI, if_neg (by decide)]; exact g4, w1, fun y hy => w2 y (List.mem_append_left _ hy), by omega, w4, w5, w6⟩
    have il := (List.getElem?_eq_some_iff.mp hi).1
    rw [gA_sA, if_pos rfl, List.getElem?_set_ne (by omega)]
    exact Rrt.2 i p (by rw [List.getElem?_append_left il]; exact hi)
theorem deg_life {lv : Nat → Bool} {fd : Nat → Nat → Option Nat} {c : Nat} (nf : ∀ f, f < 4 → fd c f = none) (x : Nat) (lc : lv c = false) : ∀ n, deg (aupd lv c true) fd x n = deg lv fd x n
  | 0 => rfl
  | n + 1 => by
    rw [deg, deg, deg_life nf x lc n]
    by_cases q : n = c
    · subst q
      have o : one fd n x = 0 := (fc_zero 4).mpr fun f hf => by rw [nf f hf]; simp
      rw [o]; split <;> split <;> rfl
    · have e : aupd lv c true n = lv n := by unfold aupd; rw [if_neg q]
      rw [e]
theorem low_loop {H RC TC Fn : Nat} {s : S} {lv : Nat → Bool} (G : Gd H RC TC Fn s) (R0 : Rg H s 0 (fun x => bI (lv x))) : ∀ m j N, j + m = H → m < N → (∀ i, i < j → lv i = true) → (k_lowestFreeCell_2 N (Int32.ofNat j) s = some (-1) ∧ ∀ i, i < H → lv i = true) ∨ ∃ c, c < H ∧ lv c = false ∧ (∀ i, i < c → lv i = true) ∧ k_lowestFreeCell_2 N (Int32.ofNat j) s = some (Int32.ofNat c)
  | _, _, 0, _, h, _ => by omega
  | 0, j, N + 1, hj, _, b => by
    have h8 := G.2.2.2.2.2.1
    exact Or.inl ⟨by rw [k_lowestFreeCell_2, G.1, if_neg (by rw [ofNat_lt (by omega) (by omega)]; omega)], fun i hi => b i (by omega)⟩
  | m + 1, j, N + 1, hj, hN, b => by
    have h8 := G.2.2.2.2.2.1
    rw [k_lowestFreeCell_2, G.1, if_pos (by rw [ofNat_lt (by omega) (by omega)]; omega), ix_ofNat _ (by omega), show (gA s 0)[j]? = some (bI (lv j)) from R0 j (by omega), Option.bind_some, ofNat_succ]
    cases e : lv j with
    | false => exact Or.inr ⟨j, by omega, e, b, by rw [if_pos (show bI false = 0 from rfl)]⟩
    | true =>
      rw [if_neg (show ¬ bI true = 0 by decide)]
      refine low_loop G R0 m (j + 1) N (by omega) (by omega) fun i hi => ?_
      by_cases w : i = j
      · rw [w]; exact e
      · exact b i (by omega)
theorem cntB_full {p : Nat → Bool} {H : Nat} : cntB p H = H ↔ ∀ x, x < H → p x = true := by
  unfold cntB
  constructor
  · intro h x hx
    have : (List.range H).countP (fun x => p x) = (List.range H).length := by rw [h, List.length_range]
    exact List.countP_eq_length.mp this x (List.mem_range.mpr hx)
  · intro h
    have : (List.range H).countP (fun x => p x) = (List.range H).length := List.countP_eq_length.mpr fun x hx => h x (List.mem_range.mp hx)
    rw [this, List.length_range]
theorem place_ok {H RC TC Fn : Nat} {s : S} {lv : Nat → Bool} {fd : Nat → Nat → Option Nat} {rts : List (Option Nat)} {tb : List Nat} (h : RI H RC TC Fn s lv fd rts tb) {c : Nat} (hc : c < H) (lc : lv c = false) (room : tb.length < TC) (rr : rts.length < RC) : ∃ s', k_placeNewObject (Int32.ofNat c) s = some s' ∧ RI H RC TC Fn s' (aupd lv c true) fd (rts ++ [some c]) (tb ++ [c]) ∧ gI s' 8 = gI s 8 := by
  obtain ⟨G, R0, Rf, R2, Rrt, RTb, g4, w1, w2, w3, w4, w5, w6⟩ := id h
  have h8 := G.2.2.2.2.2.1
  have l0 := len64 G.2.2.2.2.1 (f := 0) (by simp)
  have l2 := len64 G.2.2.2.2.1 (f := 2) (by simp)
  have l1 : (gA s 1).length = 256 := G.2.2.2.2.1.2.1
  have nf : ∀ f, f < 4 → fd c f = none := fun f _ => by
    cases e : fd c f with
    | none => rfl
    | some y => rw [(w1 c f y e).2.2.1] at lc; cases lc
  have dl : ∀ x, deg (aupd lv c true) fd x H = deg lv fd x H := fun x => deg_life nf x lc H
  have dc : deg lv fd c H = 0 := (deg_zero H).mpr fun y f hy hp hf e => by rw [(w1 y f c e).2.2.2.2] at lc; cases lc
  have cu := cntB_upd lv c true H hc
  rw [lc] at cu
  simp at cu
  obtain ⟨t, et, Ft, lt, gt⟩ := own_ccf (sA s 0 ((gA s 0).set c 1)) c (by omega) (by rw [gA_sA, if_neg (by decide)]; exact l1)
  have t0 : gA t 0 = (gA s 0).set c 1 := by rw [Ft.2.2.1 0 (by simp), gA_sA, if_pos rfl]
  have t2 : gA t 2 = gA s 2 := by rw [Ft.2.2.1 2 (by simp), gA_sA, if_neg (by decide)]
  have lnt : own_len t := len_of G.2.2.2.2.1 fun k hk => by
    by_cases q : k = 1
    · rw [q, lt, l1]
    · rw [Ft.2.2.1 k (by simp [q]), gA_sA]
      by_cases w : k = 0
      · rw [if_pos w, List.length_set, w]
      · rw [if_neg w]
  have Gt : Gd H RC TC Fn t := G.fx (fun k _ => by rw [Ft.1 k (by simp), gI_sA]) lnt
  have G2 := (Gt.put (f := 2) (x := c) (v := 0)).sI (f := 4) (v := Int32.ofNat (cntB lv H + 1)) (by omega)
  rw [t2] at G2
  obtain ⟨u, hu⟩ : ∃ u, u = sI (sA t 2 ((gA s 2).set c 0)) 4 (Int32.ofNat (cntB lv H + 1)) := ⟨_, rfl⟩
  rw [← hu] at G2
  have bl : k_bringToLife (Int32.ofNat c) s = some u := by
    unfold k_bringToLife
    rw [obj_yes G hc, if_neg (by decide), ix_ofNat _ (by omega), show (gA s 0)[c]? = some (bI (lv c)) from R0 c hc, Option.bind_some, lc, if_pos (show bI false = 0 from rfl), st_ofNat _ _ (by omega) (by omega), Option.bind_some, et, Option.bind_some, t2, st_ofNat _ _ (by omega) (by omega), Option.bind_some, Ft.1 4 (by simp), gI_sA, g4, ofNat_succ, ← hu]
  have uA : ∀ k, k ≠ 0 → k ≠ 1 → k ≠ 2 → gA u k = gA s k := fun k a b d => by
    rw [hu, gA_sI, gA_sA, if_neg d, Ft.2.2.1 k (by simp [b]), gA_sA, if_neg a]
  have uI : ∀ k, k ≠ 4 → gI u k = gI s k := fun k a => by rw [hu, gI_sI, if_neg a, gI_sA, Ft.1 k (by simp), gI_sA]
  have ntb : c ∉ tb := fun z => by rw [(w5 c z).2] at lc; cases lc
  have tl : tb.length < 19 := by
    have := nodup_len (l := c :: tb) (List.nodup_cons.mpr ⟨ntb, w4⟩) (n := H) (fun z hz => by
      rcases List.mem_cons.mp hz with w | w
      · rw [w]; exact hc
      · exact (w5 z w).1)
    rw [List.length_cons] at this
    omega
  obtain ⟨v, ev, Fv, Gv, VT⟩ := ins_ok G2 (RTb.fx (uI 6 (by decide)) (uA 5 (by decide) (by decide) (by decide))) hc ntb room tl
  have RIv : RI H RC TC Fn v (aupd lv c true) fd rts (tb ++ [c]) := by
    refine ⟨Gv, ?_, ?_, ?_, (Rrt.fx (uI 5 (by decide)) (uA 3 (by decide) (by decide) (by decide))).fx (Fv.1 5 (by simp)) (Fv.2.2.1 3 (by simp)), VT, ?_, fun x f y e => ?_, fun y hy => ?_, w3, ?_, fun x hx => ?_, fun x hx hl hz => ?_⟩
    · intro y hy
      rw [Fv.2.2.1 0 (by simp), hu, gA_sI, gA_sA, if_neg (by decide), t0]
      unfold aupd
      dsimp only
      by_cases q : y = c
      · subst q; rw [if_pos rfl, List.getElem?_set_self (by omega)]; rfl
      · rw [if_neg q, List.getElem?_set_ne (by omega)]; exact R0 y hy
    · intro y f hy hf
      rw [Fv.2.2.1 1 (by simp), hu, gA_sI, gA_sA, if_neg (by decide), gt _ (by omega)]
      by_cases q : y = c
      · rw [if_pos (by omega), q, nf f hf]; rfl
      · rw [if_neg (by omega), gA_sA, if_neg (by decide)]; exact Rf y f hy hf
    · intro y hy
      rw [Fv.2.2.1 2 (by simp), hu, gA_sI, gA_sA, if_pos rfl]
      dsimp only
      rw [dl]
      by_cases q : y = c
      · subst q; rw [List.getElem?_set_self (by omega), dc]; rfl
      · rw [List.getElem?_set_ne (by omega)]; exact R2 y hy
    · rw [Fv.1 4 (by simp), hu, gI_sI, if_pos rfl, ← cu]
    · obtain ⟨a1, a2, a3, a4, a5⟩ := w1 x f y e
      refine ⟨a1, a2, ?_, a4, ?_⟩
      · unfold aupd; split
        · rfl
        · exact a3
      · unfold aupd; split
        · rfl
        · exact a5
    · obtain ⟨a1, a2⟩ := w2 y hy
      refine ⟨a1, ?_⟩
      unfold aupd; split
      · rfl
      · exact a2
    · rw [List.nodup_append]; exact ⟨w4, by simp, fun a ha b hb => by rw [List.mem_singleton.mp hb]; intro w; rw [w] at ha; exact ntb ha⟩
    · rcases List.mem_append.mp hx with w | w
      · obtain ⟨a1, a2⟩ := w5 x w
        refine ⟨a1, ?_⟩
        unfold aupd; split
        · rfl
        · exact a2
      · rw [List.mem_singleton.mp w]
        refine ⟨hc, ?_⟩
        unfold aupd; rw [if_pos rfl]
    · rw [dl] at hz
      by_cases q : x = c
      · rw [q]; simp
      · unfold aupd at hl
        rw [if_neg q] at hl
        exact List.mem_append_left _ (w6 x hx hl hz)
  obtain ⟨w, ew, Fw, RIw⟩ := push_root RIv (o := some c) (fun y hy => by cases hy; exact ⟨hc, by unfold aupd; rw [if_pos rfl]⟩) rr
  refine ⟨w, ?_, RIw, by rw [Fw.1 8 (by simp), Fv.1 8 (by simp), uI 8 (by decide)]⟩
  unfold k_placeNewObject
  rw [bl, Option.bind_some, ev, Option.bind_some]
  dsimp only
  rw [show Int32.ofNat c = pc (some c) from rfl, ew, Option.bind_some]
theorem alloc_ok {H RC TC Fn : Nat} {s : S} {lv : Nat → Bool} {fd : Nat → Nat → Option Nat} {rts : List (Option Nat)} {tb : List Nat} (h : RI H RC TC Fn s lv fd rts tb) (ht : tb.length ≤ TC) : (RC ≤ rts.length ∧ k_alloc s = some (-2, s)) ∨ (rts.length < RC ∧ ∃ s1 lv1 fd1 tb1, RI H RC TC Fn s1 lv1 fd1 rts tb1 ∧ tb1.length < TC ∧ ((cntB lv H < H ∧ tb.length < TC ∧ s1 = s ∧ lv1 = lv ∧ fd1 = fd ∧ tb1 = tb) ∨ (¬ (cntB lv H < H ∧ tb.length < TC) ∧ gI s1 8 = gI s 8 + 1 ∧ ∃ b, k_runReconciliation s = some (b, s1))) ∧ ((cntB lv1 H = H ∧ k_alloc s = some (-4, s1)) ∨ ∃ c s', c < H ∧ lv1 c = false ∧ (∀ i, i < c → lv1 i = true) ∧ k_alloc s = some (Int32.ofNat c, s') ∧ RI H RC TC Fn s' (aupd lv1 c true) fd1 (rts ++ [some c]) (tb1 ++ [c]) ∧ gI s' 8 = gI s1 8)) := by
  obtain ⟨G, R0, Rf, R2, Rrt, RTb, g4, w1, w2, w3, w4, w5, w6⟩ := id h
  have h8 := G.2.2.2.2.2.1
  have gb := G.2.2.2.2.2.2
  have cb := cntB_le lv H
  have rf := rfull h
  by_cases q : rts.length < RC
  · right
    refine ⟨q, ?_⟩
    rw [if_pos q] at rf
    have fin : ∀ s1 lv1 fd1 tb1, RI H RC TC Fn s1 lv1 fd1 rts tb1 → tb1.length < TC → (cntB lv1 H = H ∧ k_alloc_22 s1 = some (-4, s1)) ∨ ∃ c s', c < H ∧ lv1 c = false ∧ (∀ i, i < c → lv1 i = true) ∧ k_alloc_22 s1 = some (Int32.ofNat c, s') ∧ RI H RC TC Fn s' (aupd lv1 c true) fd1 (rts ++ [some c]) (tb1 ++ [c]) ∧ gI s' 8 = gI s1 8 := fun s1 lv1 fd1 tb1 h1 hr => by
      unfold k_alloc_22 k_lowestFreeCell
      rw [show (0 : Int32) = Int32.ofNat 0 from rfl]
      rcases low_loop h1.1 h1.2.1 H 0 BIG (by omega) (by unfold BIG; omega) (fun i hi => by omega) with ⟨e, al⟩ | ⟨c, hc, lc, al, e⟩
      · left
        refine ⟨cntB_full.mpr al, ?_⟩
        rw [e, Option.bind_some, if_pos rfl]
      · right
        obtain ⟨s', es, R', g8⟩ := place_ok h1 hc lc hr q
        refine ⟨c, s', hc, lc, al, ?_, R', g8⟩
        rw [e, Option.bind_some, if_neg (enc_ne (by omega)), es, Option.bind_some]
    have hf : k_hasFreeCell s = if cntB lv H < H then 1 else 0 := by
      unfold k_hasFreeCell
      rw [g4, G.1]
      by_cases w : cntB lv H < H
      · rw [if_pos (by rw [ofNat_lt (by omega) (by omega)]; exact w), if_pos w]
      · rw [if_neg (by rw [ofNat_lt (by omega) (by omega)]; exact w), if_neg w]
    have tf : k_tableIsFull s = if tb.length < TC then 0 else 1 := by
      unfold k_tableIsFull
      rw [RTb.1, G.2.2.2.1]
      have := RTb.2.1
      by_cases w : tb.length < TC
      · rw [if_pos (by rw [ofNat_lt (by omega) (by omega)]; exact w), if_pos w]
      · rw [if_neg (by rw [ofNat_lt (by omega) (by omega)]; exact w), if_neg w]
    by_cases w : cntB lv H < H ∧ tb.length < TC
    · have nr : k_allocNeedsReconcile s = 0 := by
        unfold k_allocNeedsReconcile
        rw [hf, if_pos w.1, if_neg (by decide), tf, if_pos w.2]; rfl
      refine ⟨s, lv, fd, tb, h, w.2, Or.inl ⟨w.1, w.2, rfl, rfl, rfl, rfl⟩, ?_⟩
      unfold k_alloc
      rw [rf, if_pos rfl, nr, if_pos rfl]
      exact fin s lv fd tb h w.2
    · have nr : ¬ k_allocNeedsReconcile s = 0 := by
        unfold k_allocNeedsReconcile
        by_cases z : cntB lv H < H
        · rw [hf, if_pos z, if_neg (by decide), tf, if_neg (fun y => w ⟨z, y⟩)]; decide
        · rw [hf, if_neg z, if_pos rfl]; decide
      obtain ⟨s1, P, b, e, R1, g8, zr, _⟩ := reconcile_ok h
      have zlr : (zl P (fdM P fd H) H H).length < TC := by omega
      refine ⟨s1, P, _, _, R1, zlr, Or.inr ⟨w, g8, _, e⟩, ?_⟩
      unfold k_alloc
      rw [rf, if_pos rfl, if_neg nr, e, Option.bind_some]
      exact fin s1 P _ _ R1 zlr
  · left
    rw [if_neg q] at rf
    refine ⟨by omega, ?_⟩
    unfold k_alloc
    rw [rf, if_neg (by decide)]
def setF (fd : Nat → Nat → Option Nat) (x f : Nat) (o : Option Nat) : Nat → Nat → Option Nat := fun y g => if y = x ∧ g = f then o else fd y g
theorem setF_ne {fd : Nat → Nat → Option Nat} {x f : Nat} {o : Option Nat} {y g : Nat} (h : y ≠ x) : setF fd x f o y g = fd y g := by unfold setF; rw [if_neg (fun z => h z.1)]
theorem fc_setn {fd : Nat → Nat → Option Nat} {x f : Nat} {o : Option Nat} {z : Nat} : ∀ k, k ≤ f → fc (setF fd x f o) x z k = fc fd x z k := fun k hk => fc_congr k fun g hg => by unfold setF; rw [if_neg (fun w => by omega)]
theorem fc_set {fd : Nat → Nat → Option Nat} {x f : Nat} (o : Option Nat) (z : Nat) : ∀ k, f < k → fc (setF fd x f o) x z k + (if fd x f = some z then 1 else 0) = fc fd x z k + (if o = some z then 1 else 0)
  | 0, h => by omega
  | k + 1, h => by
    rw [fc, fc]
    by_cases q : f = k
    · subst q
      rw [fc_setn f (Nat.le_refl _), show setF fd x f o x f = o by unfold setF; rw [if_pos ⟨rfl, rfl⟩]]
      omega
    · have ih := fc_set (fd := fd) (x := x) (f := f) o z k (by omega)
      rw [show setF fd x f o x k = fd x k by unfold setF; rw [if_neg (fun w => q w.2.symm)]]
      omega
theorem deg_set {lv : Nat → Bool} {fd : Nat → Nat → Option Nat} {x f : Nat} (o : Option Nat) (hf : f < 4) (lx : lv x = true) (z : Nat) : ∀ n, x < n → deg lv (setF fd x f o) z n + (if fd x f = some z then 1 else 0) = deg lv fd z n + (if o = some z then 1 else 0)
  | 0, h => by omega
  | n + 1, h => by
    rw [deg, deg]
    by_cases q : x = n
    · subst q
      have e : deg lv (setF fd x f o) z x = deg lv fd z x := deg_congr x fun y hy => ⟨rfl, fun _ => fc_congr 4 fun g _ => setF_ne (by omega)⟩
      rw [e, lx, if_pos rfl, if_pos rfl]
      have := fc_set (fd := fd) (x := x) (f := f) o z 4 hf
      unfold one
      omega
    · have ih := deg_set (lv := lv) (fd := fd) (f := f) o hf lx z n (by omega)
      have e : one (setF fd x f o) n z = one fd n z := fc_congr 4 fun g _ => setF_ne (by omega)
      rw [e]
      omega
theorem assign_ok {H RC TC Fn : Nat} {s : S} {lv : Nat → Bool} {fd : Nat → Nat → Option Nat} {rts : List (Option Nat)} {tb : List Nat} (h : RI H RC TC Fn s lv fd rts tb) {x f : Nat} {o : Option Nat} (hx : x < H) (hf : f < Fn) (lx : lv x = true) (ho : ∀ y, o = some y → y < H ∧ lv y = true) : ∃ s', k_assignField (Int32.ofNat x) (Int32.ofNat f) (pc o) s = some s' ∧ Fx [] [] [1, 2] [] s s' ∧ Gd H RC TC Fn s' ∧ Rfd H s' (setF fd x f o) ∧ Rg H s' 2 (fun z => Int32.ofNat (deg lv (setF fd x f o) z H)) := by
  obtain ⟨G, R0, Rf, R2, Rrt, RTb, g4, w1, w2, w3, w4, w5, w6⟩ := h
  have h8 := G.2.2.2.2.2.1
  have l2 := len64 G.2.2.2.2.1 (f := 2) (by simp)
  have l1 : (gA s 1).length = 256 := G.2.2.2.2.1.2.1
  have f4 := G.2.2.2.2.2.2.2.2.2
  have D := deg_set (lv := lv) (fd := fd) (x := x) (f := f) o (show f < 4 by omega) lx
  -- the count of the old target falls
  obtain ⟨t, et, Ft, Gt, T2⟩ : ∃ t, k_refDec (pc (fd x f)) s = some t ∧ Fx [] [] [2] [] s t ∧ Gd H RC TC Fn t ∧ Rg H t 2 (fun z => Int32.ofNat (deg lv fd z H - if fd x f = some z then 1 else 0)) := by
    unfold k_refDec
    cases e : fd x f with
    | none =>
      rw [show pc none = -1 from rfl, obj_nil, if_pos rfl]
      exact ⟨s, rfl, Fx.refl .., G, R2.congr fun z hz => by simp⟩
    | some y =>
      obtain ⟨_, _, _, hy, ly⟩ := w1 x f y e
      have dp : 0 < deg lv fd y H := by
        have := D y H hx
        rw [e] at this
        rcases Nat.eq_zero_or_pos (deg lv fd y H) with z | z
        · exact absurd e ((deg_zero H).mp z x f hx lx (by omega))
        · exact z
      have dl := deg_le lv fd y H
      rw [show pc (some y) = Int32.ofNat y from rfl, obj_yes G hy, if_neg (by decide), ix_ofNat _ (by omega), show (gA s 2)[y]? = some (Int32.ofNat (deg lv fd y H)) from R2 y hy, Option.bind_some, Option.bind_some, if_pos (by rw [show (0 : Int32) = Int32.ofNat 0 from rfl, ofNat_lt (by omega) (by omega)]; exact dp)]
      have s1 : Int32.ofNat (deg lv fd y H) - 1 = Int32.ofNat (deg lv fd y H - 1) := by
        have := ofNat_succ (deg lv fd y H - 1)
        rw [show deg lv fd y H - 1 + 1 = deg lv fd y H by omega] at this
        rw [← this]; simp
      rw [s1, st_ofNat _ _ (by omega) (by omega), Option.bind_some]
      refine ⟨_, rfl, (Fx.refl ..).sA (by simp), G.put, (R2.put (by omega) _).congr fun z hz => ?_⟩
      unfold aupd
      by_cases w : z = y
      · rw [if_pos w, w, if_pos rfl]
      · rw [if_neg w, if_neg (fun q => w (Option.some.inj q).symm)]; rfl
  obtain ⟨u, eu, Fu, Gu, U2⟩ : ∃ u, k_refInc (pc o) t = some u ∧ Fx [] [] [2] [] t u ∧ Gd H RC TC Fn u ∧ Rg H u 2 (fun z => Int32.ofNat (deg lv (setF fd x f o) z H)) := by
    have key : ∀ z, z < H → deg lv fd z H - (if fd x f = some z then 1 else 0) + (if o = some z then 1 else 0) = deg lv (setF fd x f o) z H := fun z hz => by
      have d := D z H hx
      by_cases w : fd x f = some z
      · have dp : 0 < deg lv fd z H := by
          rcases Nat.eq_zero_or_pos (deg lv fd z H) with y | y
          · exact absurd w ((deg_zero H).mp y x f hx lx (by omega))
          · exact y
        rw [if_pos w] at d ⊢
        omega
      · rw [if_neg w] at d ⊢
        omega
    cases e : o with
    | none =>
      rw [e] at key
      unfold k_refInc
      rw [show pc none = -1 from rfl, obj_nil, if_pos rfl]
      exact ⟨t, rfl, Fx.refl .., Gt, T2.congr fun z hz => by rw [← key z hz]; simp⟩
    | some y =>
      rw [e] at key
      have hy := (ho y e).1
      obtain ⟨e1, G1, R1⟩ := inc_ok Gt T2 hy
      refine ⟨_, e1, (Fx.refl ..).sA (by simp), G1, R1.congr fun z hz => ?_⟩
      rw [← key z hz]
      unfold aupd
      by_cases w : z = y
      · rw [if_pos w, w, if_pos rfl]
      · rw [if_neg w, if_neg (fun q => w (Option.some.inj q).symm)]; rfl
  have u1 : gA u 1 = gA s 1 := by rw [Fu.2.2.1 1 (by simp), Ft.2.2.1 1 (by simp)]
  have G3 := Gu.put (f := 1) (x := 4 * x + f) (v := pc o)
  rw [u1] at G3
  refine ⟨sA u 1 ((gA s 1).set (4 * x + f) (pc o)), ?_, ?_, G3, fun y g hy hg => ?_, U2.fx (by rw [gA_sA, if_neg (by decide)])⟩
  · unfold k_assignField k_writeFieldRaw
    rw [read_ok G Rf hx hf, Option.bind_some, et, Option.bind_some, eu, Option.bind_some, obj_yes Gu hx, if_neg (by decide), fno_yes Gu hf, if_neg (by decide), mul4, u1, st_ofNat _ _ (by omega) (by omega), Option.bind_some, Option.bind_some]
  · exact ((Ft.mono (by simp) (by simp) (by simp) (by simp)).trans (Fu.mono (by simp) (by simp) (by simp) (by simp))).sA (by simp)
  · rw [gA_sA, if_pos rfl]
    unfold setF
    by_cases w : y = x ∧ g = f
    · rw [if_pos w, w.1, w.2, List.getElem?_set_self (by omega)]
    · rw [if_neg w, List.getElem?_set_ne (by omega)]; exact Rf y g hy hg
theorem store57_ok {H RC TC Fn : Nat} {s : S} {lv : Nat → Bool} {fd : Nat → Nat → Option Nat} {rts : List (Option Nat)} {tb : List Nat} (h : RI H RC TC Fn s lv fd rts tb) {x f : Nat} {o : Option Nat} (hx : x < H) (hf : f < Fn) (lx : lv x = true) (ho : ∀ y, o = some y → y < H ∧ lv y = true) (room : ∀ y, fd x f = some y → o ≠ some y → deg lv fd y H = 1 → y ∉ tb → tb.length < TC) : ∃ s' tb', k_store_57 (Int32.ofNat f) (Int32.ofNat x) (pc o) (pc (fd x f)) s = some (0, s') ∧ RI H RC TC Fn s' lv (setF fd x f o) rts tb' ∧ gI s' 8 = gI s 8 ∧ (∀ y, fd x f = some y → deg lv (setF fd x f o) y H = 0 → y ∈ tb') ∧ (tb.length ≤ TC → tb'.length ≤ TC) := by
  obtain ⟨G, R0, Rf, R2, Rrt, RTb, g4, w1, w2, w3, w4, w5, w6⟩ := id h
  have h8 := G.2.2.2.2.2.1
  have f4 := G.2.2.2.2.2.2.2.2.2
  have D := fun z => deg_set (lv := lv) (fd := fd) (x := x) (f := f) o (show f < 4 by omega) lx z H hx
  obtain ⟨t, et, Ft, Gt, Tf, T2⟩ := assign_ok h hx hf lx ho
  have w1' : ∀ a g y, setF fd x f o a g = some y → a < H ∧ g < Fn ∧ lv a = true ∧ y < H ∧ lv y = true := fun a g y e => by
    unfold setF at e
    by_cases w : a = x ∧ g = f
    · rw [if_pos w] at e
      obtain ⟨b1, b2⟩ := ho y e
      exact ⟨by rw [w.1]; exact hx, by rw [w.2]; exact hf, by rw [w.1]; exact lx, b1, b2⟩
    · rw [if_neg w] at e; exact w1 a g y e
  have RTt : RT H t tb := RTb.fx (Ft.1 6 (by simp)) (Ft.2.2.1 5 (by simp))
  unfold k_store_57
  rw [et, Option.bind_some]
  -- where nothing is entered
  have stay : (∀ y, fd x f = some y → deg lv (setF fd x f o) y H = 0 → y ∈ tb) → RI H RC TC Fn t lv (setF fd x f o) rts tb := fun hy => by
    refine ⟨Gt, R0.fx (Ft.2.2.1 0 (by simp)), Tf, T2, Rrt.fx (Ft.1 5 (by simp)) (Ft.2.2.1 3 (by simp)), RTt, by rw [Ft.1 4 (by simp)]; exact g4, w1', w2, w3, w4, w5, fun z hz lz dz => ?_⟩
    by_cases w : fd x f = some z
    · exact hy z w dz
    · have d := D z
      rw [if_neg w] at d
      exact w6 z hz lz (by omega)
  unfold k_noteZeroCount
  cases e : fd x f with
  | none =>
    rw [show pc none = -1 from rfl, if_pos rfl, Option.bind_some]
    exact ⟨t, tb, rfl, stay (fun y hy => by rw [e] at hy; cases hy), Ft.1 8 (by simp), fun y hy => (by cases hy), fun q => q⟩
  | some y =>
    obtain ⟨_, _, _, hy, ly⟩ := w1 x f y e
    have dl := deg_le lv (setF fd x f o) y H
    have dpos : 0 < deg lv fd y H := by
      rcases Nat.eq_zero_or_pos (deg lv fd y H) with z | z
      · exact absurd e ((deg_zero H).mp z x f hx lx (by omega))
      · exact z
    rw [show pc (some y) = Int32.ofNat y from rfl, if_neg (enc_ne (by omega)), obj_yes Gt hy, if_neg (by decide), ix_ofNat _ (by omega), show (gA t 2)[y]? = some (Int32.ofNat (deg lv (setF fd x f o) y H)) from T2 y hy, Option.bind_some]
    by_cases dz : deg lv (setF fd x f o) y H = 0
    · have d := D y
      rw [dz, e, if_pos rfl] at d
      have on : o ≠ some y := fun q => by rw [if_pos q] at d; omega
      rw [if_neg on] at d
      obtain ⟨p, ep, hp⟩ := RTt.2.2 y hy
      have th : k_tableHas (Int32.ofNat y) t = some (if y ∈ tb then 1 else 0) := by
        unfold k_tableHas
        rw [obj_yes Gt hy, if_neg (by decide), ix_ofNat _ (by omega), ep, Option.bind_some]
        by_cases w : y ∈ tb
        · rw [if_neg (fun q => hp.mp q w), if_pos w]
        · rw [if_pos (hp.mpr w), if_neg w]
      rw [dz, if_pos (show Int32.ofNat 0 = 0 from rfl), th, Option.bind_some]
      by_cases w : y ∈ tb
      · rw [if_pos w, if_neg (by decide), Option.bind_some]
        exact ⟨t, tb, rfl, stay (fun z hz _ => by rw [e] at hz; cases hz; exact w), Ft.1 8 (by simp), fun z hz _ => (by cases hz; exact w), fun q => q⟩
      · rw [if_neg w, if_pos rfl]
        have tl : tb.length < 19 := by
          have := nodup_len (l := y :: tb) (List.nodup_cons.mpr ⟨w, w4⟩) (n := H) (fun z hz => by
            rcases List.mem_cons.mp hz with q | q
            · rw [q]; exact hy
            · exact (w5 z q).1)
          rw [List.length_cons] at this
          omega
        obtain ⟨u, eu, Fu, Gu, UT⟩ := ins_ok Gt RTt hy w (room y e on (by omega) w) tl
        rw [eu, Option.bind_some, Option.bind_some]
        refine ⟨u, tb ++ [y], rfl, ⟨Gu, (R0.fx (Ft.2.2.1 0 (by simp))).fx (Fu.2.2.1 0 (by simp)), Tf.fx (Fu.2.2.1 1 (by simp)), T2.fx (Fu.2.2.1 2 (by simp)), (Rrt.fx (Ft.1 5 (by simp)) (Ft.2.2.1 3 (by simp))).fx (Fu.1 5 (by simp)) (Fu.2.2.1 3 (by simp)), UT, by rw [Fu.1 4 (by simp), Ft.1 4 (by simp)]; exact g4, w1', w2, w3, ?_, fun z hz => ?_, fun z hz lz dz' => ?_⟩, by rw [Fu.1 8 (by simp), Ft.1 8 (by simp)], fun z hz _ => (by cases hz; simp), fun _ => ?_⟩
        · rw [List.nodup_append]; exact ⟨w4, by simp, fun a ha b hb => by rw [List.mem_singleton.mp hb]; intro q; rw [q] at ha; exact w ha⟩
        · rcases List.mem_append.mp hz with q | q
          · exact w5 z q
          · rw [List.mem_singleton.mp q]; exact ⟨hy, ly⟩
        · by_cases q : z = y
          · rw [q]; simp
          · have d' := D z
            rw [e, if_neg (fun r => q (Option.some.inj r).symm)] at d'
            exact List.mem_append_left _ (w6 z hz lz (by omega))
        · have := room y e on (by omega) w
          rw [List.length_append, List.length_singleton]; omega
    · rw [if_neg (fun z => dz ((nat_zero (by omega)).mp z)), Option.bind_some]
      exact ⟨t, tb, rfl, stay (fun z hz q => by rw [e] at hz; cases hz; exact absurd q dz), Ft.1 8 (by simp), fun z hz q => (by cases hz; exact absurd q dz), fun q => q⟩
def fieldO (Fn : Nat) (v : Int32) : Option Nat := if v < 0 then none else if v < Int32.ofNat Fn then some v.toNatClampNeg else none
theorem fno {H RC TC Fn : Nat} {s : S} (G : Gd H RC TC Fn s) (v : Int32) : (fieldO Fn v = none ∧ k_isFieldNo v s = 0) ∨ ∃ f, f < Fn ∧ v = Int32.ofNat f ∧ fieldO Fn v = some f ∧ k_isFieldNo v s = 1 := by
  have f4 := G.2.2.2.2.2.2.2.2.2
  unfold fieldO k_isFieldNo
  rw [G.2.1]
  by_cases q : v < 0
  · left; rw [if_pos q, if_pos q]; exact ⟨rfl, rfl⟩
  · by_cases w : v < Int32.ofNat Fn
    · right
      exact ⟨v.toNatClampNeg, clamp_lt q w (by omega), (eq_ofNat q).1, by rw [if_neg q, if_pos w], by rw [if_neg q, if_pos w]⟩
    · left; rw [if_neg q, if_neg q, if_neg w, if_neg w]; exact ⟨rfl, rfl⟩
theorem live_obj {H RC TC Fn : Nat} {s : S} {lv : Nat → Bool} (G : Gd H RC TC Fn s) (R0 : Rg H s 0 (fun x => bI (lv x))) {x : Nat} (hx : x < H) : k_isLiveId (Int32.ofNat x) s = some (bI (lv x)) := by
  have := live_ok G R0 (o := some x) (fun y hy => by cases hy; exact hx)
  exact this
/-- what a value slot names: none if it is bad -/
def valO (rts : List (Option Nat)) (v : Int32) : Option (Option Nat) := if v = -1 then some none else slotO rts v
theorem vslot {H RC TC Fn : Nat} {s : S} {lv : Nat → Bool} {fd : Nat → Nat → Option Nat} {rts : List (Option Nat)} {tb : List Nat} (h : RI H RC TC Fn s lv fd rts tb) (v : Int32) : (valO rts v = none ∧ k_isValueSlot v s = 0) ∨ ∃ o, valO rts v = some o ∧ k_isValueSlot v s = 1 ∧ k_valueOfSlot v s = some (pc o) ∧ ∀ y, o = some y → y < H ∧ lv y = true ∧ some y ∈ rts := by
  obtain ⟨G, R0, Rf, R2, Rrt, RTb, g4, w1, w2, w3, w4, w5, w6⟩ := id h
  unfold valO k_isValueSlot k_valueOfSlot
  by_cases q : v = -1
  · right
    refine ⟨none, by rw [if_pos q], by rw [if_pos q], by rw [if_pos q]; rfl, fun y hy => by cases hy⟩
  · rw [if_neg q, if_neg q]
    rcases rslot h v with ⟨e1, e2⟩ | ⟨i, o, hi, ev, ei, e1, e2, e3⟩
    · left
      rw [e1, e2]; exact ⟨rfl, by decide⟩
    · right
      refine ⟨o, e1, by rw [e2]; decide, ?_, fun y hy => ?_⟩
      · rw [if_neg q, e2, if_neg (by decide), e3, Option.bind_some]
      · subst hy
        have := List.mem_of_getElem? ei
        exact ⟨(w2 y this).1, (w2 y this).2, this⟩
theorem store_ok {H RC TC Fn : Nat} {s : S} {lv : Nat → Bool} {fd : Nat → Nat → Option Nat} {rts : List (Option Nat)} {tb : List Nat} (h : RI H RC TC Fn s lv fd rts tb) (ht : tb.length ≤ TC) (v w z : Int32) : (slotO rts v = none ∧ k_store v w z s = some (-5, s)) ∨ ∃ o, slotO rts v = some o ∧ ((fieldO Fn w = none ∧ k_store v w z s = some (-6, s)) ∨ ∃ f, fieldO Fn w = some f ∧ f < Fn ∧ ((valO rts z = none ∧ k_store v w z s = some (-5, s)) ∨ ∃ p, valO rts z = some p ∧ ((o = none ∧ k_store v w z s = some (-7, s)) ∨ ∃ x s1 lv1 fd1 tb1 s' tb', o = some x ∧ x < H ∧ lv x = true ∧ RI H RC TC Fn s1 lv1 fd1 rts tb1 ∧ ((s1 = s ∧ lv1 = lv ∧ fd1 = fd ∧ tb1 = tb) ∨ (tb.length = TC ∧ gI s1 8 = gI s 8 + 1)) ∧ fd1 x f = fd x f ∧ k_store v w z s = some (0, s') ∧ RI H RC TC Fn s' lv1 (setF fd1 x f p) rts tb' ∧ gI s' 8 = gI s1 8 ∧ tb'.length ≤ TC))) := by
  obtain ⟨G, R0, Rf, R2, Rrt, RTb, g4, w1, w2, w3, w4, w5, w6⟩ := id h
  have h8 := G.2.2.2.2.2.1
  have gb := G.2.2.2.2.2.2
  unfold k_store k_storeCheck
  rcases rslot h v with ⟨e1, e2⟩ | ⟨i, o, hi, ev, ei, e1, e2, e3⟩
  · left
    rw [e2, if_pos rfl, Option.bind_some, if_neg (by decide)]
    exact ⟨e1, rfl⟩
  · right
    refine ⟨o, e1, ?_⟩
    rw [e2, if_neg (by decide)]
    rcases fno G w with ⟨f1, f2⟩ | ⟨f, hf, ew, f1, f2⟩
    · left
      rw [f2, if_pos rfl, Option.bind_some, if_neg (by decide)]
      exact ⟨f1, rfl⟩
    · right
      refine ⟨f, f1, hf, ?_⟩
      rw [f2, if_neg (by decide)]
      rcases vslot h z with ⟨z1, z2⟩ | ⟨p, z1, z2, z3, z4⟩
      · left
        rw [z2, if_pos rfl, Option.bind_some, if_neg (by decide)]
        exact ⟨z1, rfl⟩
      · right
        refine ⟨p, z1, ?_⟩
        rw [z2, if_neg (by decide), e3, Option.bind_some, Option.bind_some, Option.bind_some]
        cases o with
        | none =>
          left
          rw [show pc none = -1 from rfl, if_pos rfl, Option.bind_some, if_neg (by decide)]
          exact ⟨rfl, rfl⟩
        | some x =>
          right
          have xr : some x ∈ rts := List.mem_of_getElem? ei
          obtain ⟨hx, lx⟩ := w2 x xr
          rw [show pc (some x) = Int32.ofNat x from rfl, if_neg (enc_ne (by omega)), live_obj G R0 hx, Option.bind_some, lx, if_neg (show ¬ bI true = 0 by decide), Option.bind_some, if_pos rfl, z3, Option.bind_some, ew, read_ok G Rf hx hf, Option.bind_some]
          have tf : k_tableIsFull s = if tb.length < TC then 0 else 1 := by
            unfold k_tableIsFull
            rw [RTb.1, G.2.2.2.1]
            have := RTb.2.1
            by_cases w : tb.length < TC
            · rw [if_pos (by rw [ofNat_lt (by omega) (by omega)]; exact w), if_pos w]
            · rw [if_neg (by rw [ofNat_lt (by omega) (by omega)]; exact w), if_neg w]
          have p8 : ∀ y, p = some y → y < 19 := fun y hy => by have := (z4 y hy).1; omega
          have sn : ∃ b : Int32, k_storeNeedsReconcile (pc (fd x f)) (pc p) s = some b ∧ (b = 0 → ∀ y, fd x f = some y → p ≠ some y → deg lv fd y H = 1 → y ∉ tb → tb.length < TC) ∧ (b ≠ 0 → tb.length = TC) := by
            unfold k_storeNeedsReconcile
            cases e : fd x f with
            | none => exact ⟨0, by rw [show pc none = -1 from rfl, if_pos rfl], fun _ y hy => (by cases hy), fun q => absurd rfl q⟩
            | some y =>
              obtain ⟨_, _, _, hy, ly⟩ := w1 x f y e
              have dl := deg_le lv fd y H
              rw [show pc (some y) = Int32.ofNat y from rfl, if_neg (enc_ne (by omega))]
              by_cases c1 : p = some y
              · rw [c1, show pc (some y) = Int32.ofNat y from rfl, if_pos rfl]
                exact ⟨0, rfl, fun _ y' hy' n => by cases hy'; exact absurd rfl n, fun q => absurd rfl q⟩
              · have c1' : ¬ Int32.ofNat y = pc p := fun q => c1 (by
                  cases hp : p with
                  | none => rw [hp] at q; exact absurd q (enc_ne (by omega))
                  | some y2 =>
                    rw [hp] at q
                    have b2 := p8 y2 hp
                    have := congrArg Int32.toInt q
                    rw [ofNat_toInt (by omega), show pc (some y2) = Int32.ofNat y2 from rfl, ofNat_toInt (by omega)] at this
                    congr 1; omega)
                rw [if_neg c1', obj_yes G hy, if_neg (by decide), ix_ofNat _ (by omega), show (gA s 2)[y]? = some (Int32.ofNat (deg lv fd y H)) from R2 y hy, Option.bind_some]
                by_cases c2 : deg lv fd y H = 1
                · obtain ⟨pp, ep, hp⟩ := RTb.2.2 y hy
                  have th : k_tableHas (Int32.ofNat y) s = some (if y ∈ tb then 1 else 0) := by
                    unfold k_tableHas
                    rw [obj_yes G hy, if_neg (by decide), ix_ofNat _ (by omega), ep, Option.bind_some]
                    by_cases w : y ∈ tb
                    · rw [if_neg (fun q => hp.mp q w), if_pos w]
                    · rw [if_pos (hp.mpr w), if_neg w]
                  rw [c2, if_pos (show Int32.ofNat 1 = 1 from rfl), th, Option.bind_some]
                  by_cases c3 : y ∈ tb
                  · rw [if_pos c3, if_neg (by decide)]
                    exact ⟨0, rfl, fun _ y' hy' _ _ n => by cases hy'; exact absurd c3 n, fun q => absurd rfl q⟩
                  · rw [if_neg c3, if_pos rfl, tf]
                    by_cases c4 : tb.length < TC
                    · rw [if_pos c4]
                      exact ⟨_, rfl, fun _ _ _ _ _ _ => c4, fun q => absurd rfl q⟩
                    · rw [if_neg c4]
                      exact ⟨_, rfl, fun q => absurd q (by decide), fun _ => by omega⟩
                · have c2' : ¬ Int32.ofNat (deg lv fd y H) = 1 := fun q => c2 (by
                    have := congrArg Int32.toInt q
                    rw [ofNat_toInt (by omega), show (1 : Int32).toInt = 1 from rfl] at this
                    omega)
                  rw [if_neg c2']
                  exact ⟨0, rfl, fun _ y' hy' _ n => by cases hy'; exact absurd n c2, fun q => absurd rfl q⟩
          obtain ⟨b, eb, hb0, hb1⟩ := sn
          rw [eb, Option.bind_some]
          by_cases q : b = 0
          · rw [if_pos q]
            obtain ⟨s', tb', es, R', g8, _, tl⟩ := store57_ok h (o := p) hx hf lx (fun y hy => ⟨(z4 y hy).1, (z4 y hy).2.1⟩) (hb0 q)
            exact ⟨x, s, lv, fd, tb, s', tb', rfl, hx, lx, h, Or.inl ⟨rfl, rfl, rfl, rfl⟩, rfl, es, R', g8, tl ht⟩
          · rw [if_neg q]
            obtain ⟨s1, P, n, er, R1, g8, zr, cnt, o1, o2, o3, o4, _⟩ := reconcile_ok h
            have px := o2 x hx xr
            have fx : fdM P fd H x f = fd x f := by unfold fdM; rw [if_neg (fun q => by rw [px] at q; cases q.2)]
            obtain ⟨s', tb', es, R', g8', _, tl⟩ := store57_ok R1 (o := p) hx hf px (fun y hy => ⟨(z4 y hy).1, o2 y (z4 y hy).1 (z4 y hy).2.2⟩) (fun _ _ _ _ _ => by omega)
            rw [fx] at es
            rw [er, Option.bind_some]
            exact ⟨x, s1, P, _, _, s', tb', rfl, hx, lx, R1, Or.inr ⟨hb1 q, g8⟩, fx, es, R', g8', tl (by omega)⟩
theorem nb (b : Bool) : nar .boolean (bI b) = bI b := by cases b <;> decide
theorem isLive_ok {H RC TC Fn : Nat} {s : S} {lv : Nat → Bool} {fd : Nat → Nat → Option Nat} {rts : List (Option Nat)} {tb : List Nat} (h : RI H RC TC Fn s lv fd rts tb) {x : Nat} (hx : x < H) : k_isLive (Int32.ofNat x) s = some (bI (lv x)) := by
  unfold k_isLive
  rw [live_obj h.1 h.2.1 hx, Option.bind_some, nb]
theorem count_ok {H RC TC Fn : Nat} {s : S} {lv : Nat → Bool} {fd : Nat → Nat → Option Nat} {rts : List (Option Nat)} {tb : List Nat} (h : RI H RC TC Fn s lv fd rts tb) {x : Nat} (hx : x < H) : k_count (Int32.ofNat x) s = some (if lv x then Int32.ofNat (deg lv fd x H) else -8) := by
  have h8 := h.1.2.2.2.2.2.1
  unfold k_count
  rw [live_obj h.1 h.2.1 hx, Option.bind_some]
  cases lv x
  · rfl
  · rw [if_neg (show ¬ bI true = 0 by decide), ix_ofNat _ (by omega), show (gA s 2)[x]? = _ from h.2.2.2.1 x hx, Option.bind_some]; rfl
theorem inTable_ok {H RC TC Fn : Nat} {s : S} {lv : Nat → Bool} {fd : Nat → Nat → Option Nat} {rts : List (Option Nat)} {tb : List Nat} (h : RI H RC TC Fn s lv fd rts tb) {x : Nat} (hx : x < H) : k_inTable (Int32.ofNat x) s = some (bI (decide (x ∈ tb))) := by
  have h8 := h.1.2.2.2.2.2.1
  obtain ⟨p, ep, hp⟩ := h.2.2.2.2.2.1.2.2 x hx
  unfold k_inTable k_tableHas
  rw [obj_yes h.1 hx, if_neg (by decide), ix_ofNat _ (by omega), ep, Option.bind_some]
  by_cases w : x ∈ tb
  · rw [if_neg (fun q => hp.mp q w), Option.bind_some, show decide (x ∈ tb) = true from decide_eq_true w]; rfl
  · rw [if_pos (hp.mpr w), Option.bind_some, show decide (x ∈ tb) = false from decide_eq_false w]; rfl
theorem field_ok {H RC TC Fn : Nat} {s : S} {lv : Nat → Bool} {fd : Nat → Nat → Option Nat} {rts : List (Option Nat)} {tb : List Nat} (h : RI H RC TC Fn s lv fd rts tb) {x f : Nat} (hx : x < H) (hf : f < Fn) : k_field (Int32.ofNat x) (Int32.ofNat f) s = some (if lv x then pc (fd x f) else -8) := by
  unfold k_field
  rw [live_obj h.1 h.2.1 hx, Option.bind_some]
  cases lv x
  · rfl
  · rw [if_neg (show ¬ bI true = 0 by decide), fno_yes h.1 hf, if_neg (by decide), read_ok h.1 h.2.2.1 hx hf, Option.bind_some]; rfl
theorem wf0 (H RC Fn : Nat) : Wf H RC Fn (fun _ => false) (fun _ _ => none) [] [] := ⟨fun x f y e => (by cases e), fun y hy => (by cases hy), (by simp), List.nodup_nil, fun x hx => (by cases hx), fun x hx e => (by cases e)⟩
theorem init_RI {v1 v2 v3 v4 : Int32} {H RC TC Fn : Nat} (h8 : H ≤ 19) (r6 : RC ≤ 16) (rt : RC < TC) (t64 : TC ≤ 64) (f4 : Fn ≤ 4) (e1 : k_clamp v1 4 64 = Int32.ofNat H) (e2 : k_clamp v2 1 4 = Int32.ofNat Fn) (e3 : k_clamp v3 1 16 = Int32.ofNat RC) (e4 : k_clamp v4 (Int32.ofNat RC + 1) 64 = Int32.ofNat TC) : ∃ s, k_init v1 v2 v3 v4 = some s ∧ RI H RC TC Fn s (fun _ => false) (fun _ _ => none) [] [] ∧ gI s 8 = 0 := by
  unfold k_init
  rw [e1, e2, e3, e4]
  obtain ⟨z, hz⟩ : ∃ z, z = (sI (sI (sI (sI (sA (sA (sA (sA (sA (sA (sA (sA (sA (sA (sA s0 0 (rep 64 0)) 1 (rep 256 0)) 2 (rep 64 0)) 3 (rep 16 0)) 4 (rep 64 0)) 5 (rep 64 0)) 6 (rep 64 0)) 7 (rep 64 0)) 8 (rep 64 0)) 9 (rep 64 0)) 10 (rep 64 0)) 0 (Int32.ofNat H)) 1 (Int32.ofNat Fn)) 2 (Int32.ofNat RC)) 3 (Int32.ofNat TC)) := ⟨_, rfl⟩
  have lz : own_len z := by
    rw [hz]
    refine ⟨?_, ?_, ?_, ?_, ?_, ?_, ?_, ?_, ?_, ?_, ?_⟩ <;> simp only [gA_sI, gA_sA] <;> exact rep_length ..
  rw [← hz]
  have J0 : own_J z z := ⟨Fx.refl .., lz⟩
  obtain ⟨a, ea, Ja, a4, a0, a2, a1⟩ := own_rh z z J0
  obtain ⟨b, eb, Jb, b5, Fb⟩ := own_rr z a Ja
  obtain ⟨c, ec, Jc, c6, c5, Fc⟩ := own_rt z b Jb
  obtain ⟨d, ed, Jd, Fd⟩ := own_rs z c Jc
  rw [ea, Option.bind_some, eb, Option.bind_some, ec, Option.bind_some, ed, Option.bind_some]
  have dI : ∀ k, k < 4 → gI (sI d 8 0) k = gI z k := fun k hk => by rw [gI_sI, if_neg (by omega)]; exact Jd.1.1 k (by simp; omega)
  have dA : ∀ k, k ≤ 2 → gA d k = gA a k := fun k hk => by rw [Fd.2.2.1 k (by simp; omega), Fc.2.2.1 k (by simp; omega), Fb.2.2.1 k (by simp; omega)]
  refine ⟨_, rfl, ⟨⟨by rw [dI 0 (by omega), hz]; simp [gI_sI], by rw [dI 1 (by omega), hz]; simp [gI_sI], by rw [dI 2 (by omega), hz]; simp [gI_sI], by rw [dI 3 (by omega), hz]; simp [gI_sI], len_sI Jd.2, h8, r6, rt, t64, f4⟩, fun x hx => ?_, fun x f hx hf => ?_, fun x hx => ?_, ⟨?_, fun i o hi => (by cases hi)⟩, ⟨?_, by simp, fun x hx => ⟨-1, ?_, by simp⟩⟩, ?_, wf0 H RC Fn⟩, by rw [gI_sI, if_pos rfl]⟩
  · rw [gA_sI, dA 0 (by omega)]; exact a0 x (by omega)
  · rw [gA_sI, dA 1 (by omega)]; exact a1 _ (by omega)
  · rw [gA_sI, dA 2 (by omega), a2 x (by omega)]
    show some 0 = some (Int32.ofNat (deg (fun _ => false) (fun _ _ => none) x H))
    rw [show deg (fun _ => false) (fun _ _ => none) x H = 0 from (deg_zero H).mpr fun y f _ hp => by cases hp]; rfl
  · rw [gI_sI, if_neg (by decide), Fd.1 5 (by simp), Fc.1 5 (by simp)]; exact b5
  · rw [gI_sI, if_neg (by decide), Fd.1 6 (by simp)]; exact c6
  · rw [gA_sI, Fd.2.2.1 5 (by simp)]; exact c5 x (by omega)
  · rw [gI_sI, if_neg (by decide), Fd.1 4 (by simp), Fc.1 4 (by simp), Fb.1 4 (by simp), a4]
    have : cntB (fun _ => false) H = 0 := by
      unfold cntB
      rw [List.countP_eq_zero]
      intro x _ q; cases q
    rw [this]; rfl
def R4 : List (Option Nat) := [some 0, some 1, some 2, some 3]
def lvK (k : Nat) (x : Nat) : Bool := decide (x < k)
theorem lvK_upd (k : Nat) : aupd (lvK k) k true = lvK (k + 1) := by
  funext x
  unfold aupd lvK
  by_cases q : x = k
  · rw [if_pos q, q]; simp
  · rw [if_neg q]
    by_cases w : x < k
    · simp [w]; omega
    · simp [w]; omega
theorem lvK_cnt : ∀ k, k ≤ 8 → cntB (lvK k) 8 = k := by
  intro k hk
  have : ∀ k : Fin 9, cntB (lvK k.val) 8 = k.val := by decide
  exact this ⟨k, by omega⟩
theorem tb_len {H RC TC Fn : Nat} {s : S} {lv : Nat → Bool} {fd : Nat → Nat → Option Nat} {rts : List (Option Nat)} {tb : List Nat} (h : RI H RC TC Fn s lv fd rts tb) : tb.length ≤ H := by
  obtain ⟨_, _, _, _, _, _, _, _, _, _, w4, w5, _⟩ := h
  exact nodup_len w4 fun x hx => (w5 x hx).1
theorem al_loop (v0 v1 v2 v3 v4 : Int32) : ∀ m k n s tb, k + m = 4 → m < n → RI 8 4 16 1 s (lvK k) (fun _ _ => none) (R4.take k) tb → gI s 8 = 0 → ∃ s' tb', law_18 n v0 v1 v2 v3 v4 (Int32.ofNat k) s = law_46 v0 v1 v2 v3 v4 s' ∧ RI 8 4 16 1 s' (lvK 4) (fun _ _ => none) R4 tb' ∧ gI s' 8 = 0 := by
  intro m
  induction m with
  | zero =>
    intro k n s tb hk hn R g
    obtain ⟨n, rfl⟩ : ∃ j, n = j + 1 := ⟨n - 1, by omega⟩
    have : k = 4 := by omega
    subst this
    exact ⟨s, tb, by rw [law_18, if_neg (by decide)], R, g⟩
  | succ m ih =>
    intro k n s tb hk hn R g
    obtain ⟨n, rfl⟩ : ∃ j, n = j + 1 := ⟨n - 1, by omega⟩
    have tl := tb_len R
    have rl : (R4.take k).length = k := by rw [List.length_take]; show min k 4 = k; omega
    rw [law_18, if_pos ((lt_lit (m := 4) (by omega) (by decide)).mpr (by omega))]
    rcases alloc_ok R (by omega) with ⟨h, _⟩ | ⟨_, s1, lv1, fd1, tb1, R1, t1, ch, oc⟩
    · rw [rl] at h; omega
    · have cn := lvK_cnt k (by omega)
      rcases ch with ⟨_, _, e1, e2, e3, e4⟩ | ⟨h, _⟩
      · subst e1 e2 e3 e4
        rcases oc with ⟨h, _⟩ | ⟨c, s', hc, lc, al, e, R', g'⟩
        · omega
        · have ck : c = k := by
            have h1 : ¬ c < k := fun w => by rw [show lvK k c = true from decide_eq_true w] at lc; cases lc
            have h2 : ¬ k < c := fun w => by
              have := of_decide_eq_true (al k w)
              omega
            omega
          subst ck
          rw [e, Option.bind_some, if_pos rfl, ofNat_succ]
          have tk : R4.take c ++ [some c] = R4.take (c + 1) := by
            rcases (show c = 0 ∨ c = 1 ∨ c = 2 ∨ c = 3 by omega) with w | w | w | w <;> subst w <;> rfl
          rw [lvK_upd, tk] at R'
          exact ih (c + 1) n s' _ (by omega) (by omega) R' (by rw [g', g])
      · exact absurd ⟨by omega, by omega⟩ h
theorem slot4 {z : Int32} : (slotO R4 z = none ∧ (z < 0 ∨ 3 < z)) ∨ ∃ i, i < 4 ∧ z = Int32.ofNat i ∧ slotO R4 z = some (some i) := by
  unfold slotO
  by_cases q : z < 0
  · left; rw [if_pos q]; exact ⟨rfl, Or.inl q⟩
  · rw [if_neg q]
    obtain ⟨e, l⟩ := eq_ofNat q
    by_cases w : z.toNatClampNeg < 4
    · right
      refine ⟨z.toNatClampNeg, w, e, ?_⟩
      generalize z.toNatClampNeg = i at w
      rcases (show i = 0 ∨ i = 1 ∨ i = 2 ∨ i = 3 by omega) with w | w | w | w <;> subst w <;> rfl
    · left
      refine ⟨List.getElem?_eq_none (by show 4 ≤ _; omega), Or.inr ?_⟩
      rw [e, show (3 : Int32) = Int32.ofNat 3 from rfl, ofNat_lt (by omega) l]
      omega
theorem val4 (z : Int32) : (valO R4 z = none ∧ h_ans z = -5 ∧ h_eff z = -1) ∨ ∃ p, valO R4 z = some p ∧ h_ans z = 0 ∧ h_eff z = pc p ∧ ∀ y, p = some y → y < 4 := by
  unfold valO
  by_cases q : z = -1
  · right
    subst q
    exact ⟨none, by rw [if_pos rfl], by decide, by decide, fun y h => by cases h⟩
  · rw [if_neg q]
    rcases slot4 (z := z) with ⟨e, h⟩ | ⟨i, hi, e, h⟩
    · left
      refine ⟨e, ?_, ?_⟩
      · unfold h_ans
        rcases h with h | h
        · have : z < -1 := by
            rw [Int32.lt_iff_toInt_lt] at h ⊢
            have n1 : z.toInt ≠ -1 := fun w => q (by rw [← Int32.toInt_inj, w]; rfl)
            have e0 : (0 : Int32).toInt = 0 := rfl
            have e1 : (-1 : Int32).toInt = -1 := rfl
            omega
          rw [if_pos this]
        · by_cases w : z < -1
          · rw [if_pos w]
          · rw [if_neg w, if_pos h]
      · unfold h_eff
        rcases h with h | h
        · rw [if_pos h]
        · by_cases w : z < 0
          · rw [if_pos w]
          · rw [if_neg w, if_pos h]
    · right
      refine ⟨some i, h, ?_, ?_, fun y w => by cases w; exact hi⟩
      · rw [e]
        rcases (show i = 0 ∨ i = 1 ∨ i = 2 ∨ i = 3 by omega) with w | w | w | w <;> subst w <;> decide
      · rw [e]
        rcases (show i = 0 ∨ i = 1 ∨ i = 2 ∨ i = 3 by omega) with w | w | w | w <;> subst w <;> decide
theorem st4 {s : S} {fd : Nat → Nat → Option Nat} {tb : List Nat} {i : Nat} (hi : i < 4) (R : RI 8 4 16 1 s (lvK 4) fd R4 tb) (hn : fd i 0 = none) (v : Int32) : ∃ s' tb' p, k_store (Int32.ofNat i) 0 v s = some (h_ans v, s') ∧ h_eff v = pc p ∧ (∀ y, p = some y → y < 4) ∧ RI 8 4 16 1 s' (lvK 4) (setF fd i 0 p) R4 tb' ∧ gI s' 8 = gI s 8 := by
  have tl := tb_len R
  have sl : slotO R4 (Int32.ofNat i) = some (some i) := by
    rcases (show i = 0 ∨ i = 1 ∨ i = 2 ∨ i = 3 by omega) with w | w | w | w <;> subst w <;> decide
  have same : setF fd i 0 none = fd := by
    funext y g
    unfold setF
    by_cases w : y = i ∧ g = 0
    · rw [if_pos w, w.1, w.2, hn]
    · rw [if_neg w]
  have fe : fieldO 1 0 = some 0 := by decide
  rcases store_ok R (by omega) (Int32.ofNat i) 0 v with ⟨h, _⟩ | ⟨o, h, ⟨h2, _⟩ | ⟨f, h2, hf, ⟨h3, e⟩ | ⟨p, h3, ⟨h4, _⟩ | ⟨x, s1, lv1, fd1, tb1, s', tb', h4, hx, lx, R1, ch, fe1, e, R', g, tl'⟩⟩⟩⟩
  · rw [sl] at h; cases h
  · rw [fe] at h2; cases h2
  · rcases val4 v with ⟨_, a, b⟩ | ⟨p, h, _⟩
    · rw [e]
      exact ⟨s, tb, none, by rw [a], by rw [b]; rfl, fun y w => (by cases w), by rw [same]; exact R, rfl⟩
    · rw [h] at h3; cases h3
  · rw [sl] at h; cases h; cases h4
  · rw [sl] at h; cases h; cases h4
    rw [fe] at h2; cases h2
    rcases val4 v with ⟨h, _, _⟩ | ⟨p', h, a, b, c⟩
    · rw [h] at h3; cases h3
    · rw [h] at h3; cases h3
      rcases ch with ⟨e1, e2, e3, e4⟩ | ⟨z, _⟩
      · subst e1 e2 e3 e4
        exact ⟨s', tb', _, by rw [a]; exact e, b, c, R', g⟩
      · omega
theorem pop_loop (v14 v15 v16 v17 : Int32) {fd : Nat → Nat → Option Nat} {tb : List Nat} {p : Nat} (hp : p ≤ 4) : ∀ m k n s, k + m = 4 → m < n → RI 8 4 16 1 s (lvK 4) fd (R4.take (4 - min k p)) tb → gI s 8 = 0 → ∃ s', law_190 n v14 v15 v16 v17 (Int32.ofNat p) (Int32.ofNat k) s = law_223 v14 v15 v16 v17 (Int32.ofNat p) s' ∧ RI 8 4 16 1 s' (lvK 4) fd (R4.take (4 - p)) tb ∧ gI s' 8 = 0 := by
  intro m
  induction m with
  | zero =>
    intro k n s hk hn R g
    obtain ⟨n, rfl⟩ : ∃ j, n = j + 1 := ⟨n - 1, by omega⟩
    have : k = 4 := by omega
    subst this
    rw [show min 4 p = p by omega] at R
    exact ⟨s, by rw [law_190, if_neg (by decide)], R, g⟩
  | succ m ih =>
    intro k n s hk hn R g
    obtain ⟨n, rfl⟩ : ∃ j, n = j + 1 := ⟨n - 1, by omega⟩
    rw [law_190, if_pos ((lt_lit (m := 4) (by omega) (by decide)).mpr (by omega)), ofNat_succ]
    by_cases q : k < p
    · rw [if_pos (by rw [ofNat_lt (by omega) (by omega)]; exact q)]
      rw [show min k p = k by omega] at R
      rcases pop_ok R with ⟨h, _⟩ | ⟨_, s', e, F, R'⟩
      · rcases (show k = 0 ∨ k = 1 ∨ k = 2 ∨ k = 3 by omega) with w | w | w | w <;> subst w <;> cases h
      · have dl : (R4.take (4 - k)).dropLast = R4.take (4 - min (k + 1) p) := by
          rw [show min (k + 1) p = k + 1 by omega]
          rcases (show k = 0 ∨ k = 1 ∨ k = 2 ∨ k = 3 by omega) with w | w | w | w <;> subst w <;> rfl
        rw [dl] at R'
        rw [e, Option.bind_some]
        dsimp only
        rw [if_pos rfl]
        exact ih (k + 1) n s' (by omega) (by omega) R' (by rw [F.1 8 (by simp), g])
    · rw [if_neg (by rw [ofNat_lt (by omega) (by omega)]; exact q)]
      rw [show min k p = min (k + 1) p by omega] at R
      exact ih (k + 1) n s (by omega) (by omega) R g
/-- words of four bits -/
def tb4 (m i : Nat) : Bool := m / 2 ^ i % 2 == 1
def clr (m i : Nat) : Nat := if tb4 m i then m - 2 ^ i else m
def card4 (m : Nat) : Nat := (if tb4 m 0 then 1 else 0) + (if tb4 m 1 then 1 else 0) + (if tb4 m 2 then 1 else 0) + (if tb4 m 3 then 1 else 0)
theorem w_bit {m i : Nat} (hm : m < 16) (hi : i < 4) : ((Int32.ofNat m >>> (Int32.ofNat i &&& 31)) &&& 1) = bI (tb4 m i) := by
  have : ∀ (m : Fin 16) (i : Fin 4), ((Int32.ofNat m.val >>> (Int32.ofNat i.val &&& 31)) &&& 1) = bI (tb4 m.val i.val) := by decide +kernel
  exact this ⟨m, hm⟩ ⟨i, hi⟩
theorem w_clr {m i : Nat} (hm : m < 16) (hi : i < 4) : (Int32.ofNat m &&& (((1 : Int32) <<< (Int32.ofNat i &&& 31)) ^^^ (-1 : Int32))) = Int32.ofNat (clr m i) := by
  have : ∀ (m : Fin 16) (i : Fin 4), (Int32.ofNat m.val &&& (((1 : Int32) <<< (Int32.ofNat i.val &&& 31)) ^^^ (-1 : Int32))) = Int32.ofNat (clr m.val i.val) := by decide +kernel
  exact this ⟨m, hm⟩ ⟨i, hi⟩
theorem clr_lt {m i : Nat} (hm : m < 16) : clr m i < 16 := by
  unfold clr
  have := Nat.sub_le m (2 ^ i)
  split <;> omega
theorem clr_bit {m i j : Nat} (hm : m < 16) (hi : i < 4) (hj : j < 4) : tb4 (clr m i) j = (tb4 m j && !decide (j = i)) := by
  have : ∀ (m : Fin 16) (i j : Fin 4), tb4 (clr m.val i.val) j.val = (tb4 m.val j.val && !decide (j.val = i.val)) := by decide +kernel
  exact this ⟨m, hm⟩ ⟨i, hi⟩ ⟨j, hj⟩
theorem clr_card {m i : Nat} (hm : m < 16) (hi : i < 4) (h : tb4 m i = true) : card4 (clr m i) + 1 = card4 m := by
  have : ∀ (m : Fin 16) (i : Fin 4), tb4 m.val i.val = true → card4 (clr m.val i.val) + 1 = card4 m.val := by decide +kernel
  exact this ⟨m, hm⟩ ⟨i, hi⟩ h
theorem bI_one {b : Bool} : bI b = 1 ↔ b = true := by cases b <;> decide
/-- someone of m below j points at x -/
def prd (ed : Nat → Option Nat) (m x : Nat) : Nat → Bool
  | 0 => false
  | j + 1 => prd ed m x j || (tb4 m j && decide (ed j = some x))
theorem prd_iff {ed : Nat → Option Nat} {m x : Nat} : ∀ j, prd ed m x j = true ↔ ∃ z, z < j ∧ tb4 m z = true ∧ ed z = some x
  | 0 => ⟨fun h => (by cases h), fun ⟨z, h, _⟩ => by omega⟩
  | j + 1 => by
    rw [prd, Bool.or_eq_true, prd_iff j, Bool.and_eq_true, decide_eq_true_eq]
    constructor
    · rintro (⟨z, a, b⟩ | h)
      · exact ⟨z, by omega, b⟩
      · exact ⟨j, by omega, h⟩
    · rintro ⟨z, a, b⟩
      by_cases q : z = j
      · subst q; exact Or.inr b
      · exact Or.inl ⟨z, by omega, b⟩
/-- the words that stand for the edges -/
def Ed (ed : Nat → Option Nat) (v14 v15 v16 v17 : Int32) : Prop := ∀ z, z < 4 → h_edge (Int32.ofNat z) v14 v15 v16 v17 = pc (ed z) ∧ ∀ y, ed z = some y → y < 4
theorem ed_eq {ed : Nat → Option Nat} {v14 v15 v16 v17 : Int32} (E : Ed ed v14 v15 v16 v17) {z x : Nat} (hz : z < 4) (hx : x < 4) : h_edge (Int32.ofNat z) v14 v15 v16 v17 = Int32.ofNat x ↔ ed z = some x := by
  rw [(E z hz).1]
  cases e : ed z with
  | none => exact ⟨fun h => absurd h.symm (enc_ne (by omega)), fun h => (by cases h)⟩
  | some y =>
    have := (E z hz).2 y e
    constructor
    · intro h
      have := congrArg Int32.toInt h
      rw [show pc (some y) = Int32.ofNat y from rfl, ofNat_toInt (by omega), ofNat_toInt (by omega)] at this
      congr 1; omega
    · intro h; cases h; rfl
theorem scan_ok {ed : Nat → Option Nat} {v14 v15 v16 v17 : Int32} (E : Ed ed v14 v15 v16 v17) {k240 : Int32 → Int32 → Int32 → Int32 → Int32 → Int32 → Int32 → S → Option (Int32 × S)} {k249 : Int32 → Int32 → Int32 → Int32 → Int32 → Int32 → Int32 → Int32 → S → Option (Int32 × S)} (v19 v21 : Int32) {m x : Nat} (hm : m < 16) (hx : x < 4) (t : S) : ∀ d j n, j + d = 4 → d < n → law_282 k240 k249 n v14 v15 v16 v17 v19 (Int32.ofNat m) v21 (Int32.ofNat x) (bI (prd ed m x j)) (Int32.ofNat j) t = k249 v14 v15 v16 v17 v19 (Int32.ofNat (if prd ed m x 4 then m else clr m x)) v21 (Int32.ofNat (x + 1)) t := by
  intro d
  induction d with
  | zero =>
    intro j n hj hn
    obtain ⟨n, rfl⟩ : ∃ j, n = j + 1 := ⟨n - 1, by omega⟩
    have : j = 4 := by omega
    subst this
    rw [law_282, if_neg (by decide), law_330, ofNat_succ]
    cases prd ed m x 4
    · rw [if_pos (show bI false = 0 from rfl), w_clr hm hx]; rfl
    · rw [if_neg (show ¬ bI true = 0 by decide)]; rfl
  | succ d ih =>
    intro j n hj hn
    obtain ⟨n, rfl⟩ : ∃ j, n = j + 1 := ⟨n - 1, by omega⟩
    rw [law_282, if_pos ((lt_lit (m := 4) (by omega) (by decide)).mpr (by omega)), w_bit hm (by omega), ofNat_succ, ← ih (j + 1) n (by omega) (by omega)]
    congr 1
    rw [prd]
    cases h1 : tb4 m j
    · rw [if_neg (show ¬ bI false = 1 by decide)]; simp
    · rw [if_pos (show bI true = 1 from rfl)]
      by_cases h2 : ed j = some x
      · rw [if_pos ((ed_eq E (by omega) hx).mpr h2)]; simp [h2]; rfl
      · rw [if_neg (fun h => h2 ((ed_eq E (by omega) hx).mp h))]; simp [h2]
/-- x need not go -/
def okx (ed : Nat → Option Nat) (r m x : Nat) : Prop := tb4 m x = true → r ≤ x → prd ed m x 4 = true
def clo (ed : Nat → Option Nat) (r m : Nat) : Prop := ∀ x, x < 4 → okx ed r m x
def Pst (ed : Nat → Option Nat) (r : Nat) (T : Nat → Bool) : Prop := ∀ y, T y = true → y < 4 ∧ (y < r ∨ ∃ z, T z = true ∧ ed z = some y)
theorem pass_ok {ed : Nat → Option Nat} {v14 v15 v16 v17 : Int32} (E : Ed ed v14 v15 v16 v17) {k240 : Int32 → Int32 → Int32 → Int32 → Int32 → Int32 → Int32 → S → Option (Int32 × S)} (v21 : Int32) {r m0 : Nat} (hr : r ≤ 4) (t : S) : ∀ d x n m, x + d = 4 → d < n → m < 16 → ((m = m0 ∧ ∀ y, y < x → okx ed r m0 y) ∨ (card4 m < card4 m0 ∧ ¬ clo ed r m0)) → (∀ T, Pst ed r T → (∀ y, T y = true → tb4 m0 y = true) → ∀ y, T y = true → tb4 m y = true) → ∃ m', law_249 k240 n v14 v15 v16 v17 (Int32.ofNat (2 ^ r - 1)) (Int32.ofNat m) v21 (Int32.ofNat x) t = k240 v14 v15 v16 v17 (Int32.ofNat (2 ^ r - 1)) (Int32.ofNat m') (v21 + 1) t ∧ m' < 16 ∧ ((m' = m0 ∧ clo ed r m0) ∨ (card4 m' < card4 m0 ∧ ¬ clo ed r m0)) ∧ (∀ T, Pst ed r T → (∀ y, T y = true → tb4 m0 y = true) → ∀ y, T y = true → tb4 m' y = true) := by
  intro d
  induction d with
  | zero =>
    intro x n m hx hn hm I T
    obtain ⟨n, rfl⟩ : ∃ j, n = j + 1 := ⟨n - 1, by omega⟩
    have : x = 4 := by omega
    subst this
    exact ⟨m, by rw [law_249, if_neg (by decide)], hm, I, T⟩
  | succ d ih =>
    intro x n m hx hn hm I T
    obtain ⟨n, rfl⟩ : ∃ j, n = j + 1 := ⟨n - 1, by omega⟩
    have hx4 : x < 4 := by omega
    have hr2 : ((Int32.ofNat (2 ^ r - 1) >>> (Int32.ofNat x &&& 31)) &&& 1) = bI (decide (x < r)) := by
      have : ∀ (r : Fin 5) (i : Fin 4), ((Int32.ofNat (2 ^ r.val - 1) >>> (Int32.ofNat i.val &&& 31)) &&& 1) = bI (decide (i.val < r.val)) := by decide +kernel
      exact this ⟨r, by omega⟩ ⟨x, by omega⟩
    rw [law_249, if_pos ((lt_lit (m := 4) (by omega) (by decide)).mpr (by omega)), w_bit hm hx4, hr2, ofNat_succ]
    have keep : okx ed r m x → (m = m0 ∧ ∀ y, y < x + 1 → okx ed r m0 y) ∨ (card4 m < card4 m0 ∧ ¬ clo ed r m0) := fun h => by
      rcases I with ⟨a, b⟩ | h2
      · left
        refine ⟨a, fun y hy => ?_⟩
        by_cases q : y = x
        · rw [q, ← a]; exact h
        · exact b y (by omega)
      · exact Or.inr h2
    cases h1 : tb4 m x
    · rw [if_neg (show ¬ bI false = 1 by decide)]
      exact ih (x + 1) n m (by omega) (by omega) hm (keep fun h => by rw [h1] at h; cases h) T
    · rw [if_pos (show bI true = 1 from rfl)]
      by_cases h2 : x < r
      · rw [show decide (x < r) = true from decide_eq_true h2, if_neg (show ¬ bI true = 0 by decide)]
        exact ih (x + 1) n m (by omega) (by omega) hm (keep fun _ h => by omega) T
      · rw [show decide (x < r) = false from decide_eq_false h2, if_pos (show bI false = 0 from rfl)]
        have sc := scan_ok (k240 := k240) (k249 := fun v14 v15 v16 v17 v19 v20 v21 v22 t0 => law_249 k240 n v14 v15 v16 v17 v19 v20 v21 v22 t0) E (Int32.ofNat (2 ^ r - 1)) v21 hm hx4 t 4 0 BIG (by omega) (by unfold BIG; omega)
        rw [show bI (prd ed m x 0) = 0 from rfl, show Int32.ofNat 0 = 0 from rfl] at sc
        rw [sc]
        cases h3 : prd ed m x 4
        · rw [if_neg (by decide)]
          refine ih (x + 1) n (clr m x) (by omega) (by omega) (clr_lt hm) (Or.inr ?_) fun S hS h0 y hy => ?_
          · have cc := clr_card hm hx4 h1
            rcases I with ⟨a, b⟩ | h4
            · refine ⟨by rw [← a]; omega, fun c => ?_⟩
              have := c x hx4 (by rw [← a]; exact h1) (by omega)
              rw [← a, h3] at this; cases this
            · exact ⟨by omega, h4.2⟩
          · have t1 := T S hS h0 y hy
            rw [clr_bit hm hx4 (hS y hy).1, t1]
            by_cases q : y = x
            · exfalso
              subst q
              rcases (hS y hy).2 with w | ⟨z, hz, ez⟩
              · omega
              · have : prd ed m y 4 = true := (prd_iff 4).mpr ⟨z, (hS z hz).1, T S hS h0 z hz, ez⟩
                rw [h3] at this; cases this
            · simp [q]
        · rw [if_pos rfl]
          exact ih (x + 1) n m (by omega) (by omega) hm (keep fun _ _ => h3) T
theorem card_zero {m : Nat} (h : card4 m = 0) {x : Nat} (hx : x < 4) : tb4 m x = false := by
  unfold card4 at h
  rcases (show x = 0 ∨ x = 1 ∨ x = 2 ∨ x = 3 by omega) with w | w | w | w <;> subst w
  · cases e : tb4 m 0 with
    | false => rfl
    | true => rw [e, if_pos rfl] at h; omega
  · cases e : tb4 m 1 with
    | false => rfl
    | true => rw [e, if_pos rfl] at h; omega
  · cases e : tb4 m 2 with
    | false => rfl
    | true => rw [e, if_pos rfl] at h; omega
  · cases e : tb4 m 3 with
    | false => rfl
    | true => rw [e, if_pos rfl] at h; omega
theorem passes {ed : Nat → Option Nat} {v14 v15 v16 v17 : Int32} (E : Ed ed v14 v15 v16 v17) {r : Nat} (hr : r ≤ 4) (t : S) : ∀ d k n m, k + d = 4 → d < n → m < 16 → (clo ed r m ∨ card4 m ≤ d) → (∀ T, Pst ed r T → ∀ y, T y = true → tb4 m y = true) → ∃ m', law_240 n v14 v15 v16 v17 (Int32.ofNat (2 ^ r - 1)) (Int32.ofNat m) (Int32.ofNat k) t = law_358 v14 v15 v16 v17 (Int32.ofNat m') t ∧ m' < 16 ∧ clo ed r m' ∧ (∀ T, Pst ed r T → ∀ y, T y = true → tb4 m' y = true) := by
  intro d
  induction d with
  | zero =>
    intro k n m hk hn hm I T
    obtain ⟨n, rfl⟩ : ∃ j, n = j + 1 := ⟨n - 1, by omega⟩
    have : k = 4 := by omega
    subst this
    refine ⟨m, by rw [law_240, if_neg (by decide)], hm, ?_, T⟩
    rcases I with h | h
    · exact h
    · intro x hx h1
      rw [card_zero (by omega) hx] at h1; cases h1
  | succ d ih =>
    intro k n m hk hn hm I T
    obtain ⟨n, rfl⟩ : ∃ j, n = j + 1 := ⟨n - 1, by omega⟩
    rw [law_240, if_pos ((lt_lit (m := 4) (by omega) (by decide)).mpr (by omega))]
    obtain ⟨m', e, hm', ch, T'⟩ := pass_ok (k240 := fun v14 v15 v16 v17 v19 v20 v21 t0 => law_240 n v14 v15 v16 v17 v19 v20 v21 t0) E (Int32.ofNat k) hr (m0 := m) t 4 0 BIG m (by omega) (by unfold BIG; omega) hm (Or.inl ⟨rfl, fun y h => by omega⟩) (fun S hS h0 => h0)
    rw [show (0 : Int32) = Int32.ofNat 0 from rfl, e, ofNat_succ]
    refine ih (k + 1) n m' (by omega) (by omega) hm' ?_ fun S hS => T' S hS (T S hS)
    rcases ch with ⟨a, b⟩ | ⟨a, b⟩
    · left; rw [a]; exact b
    · right
      rcases I with h | h
      · exact absurd h b
      · omega
def cnd (ed : Nat → Option Nat) (m x : Nat) : Nat → Nat
  | 0 => 0
  | j + 1 => cnd ed m x j + (if tb4 m j = true ∧ ed j = some x then 1 else 0)
theorem cnd_ok {ed : Nat → Option Nat} {v14 v15 v16 v17 : Int32} (E : Ed ed v14 v15 v16 v17) {k377 : Int32 → Int32 → Int32 → Int32 → Int32 → Int32 → Int32 → Int32 → Int32 → Int32 → S → Option (Int32 × S)} (v21 v22 v23 v24 v26 : Int32) {m x : Nat} (hm : m < 16) (hx : x < 4) (t : S) : ∀ d j n, j + d = 4 → d < n → law_407 k377 n v14 v15 v16 v17 (Int32.ofNat m) v21 v22 v23 v24 (Int32.ofNat x) v26 (Int32.ofNat (cnd ed m x j)) (Int32.ofNat j) t = law_455 k377 v14 v15 v16 v17 (Int32.ofNat m) v21 v22 v23 v24 (Int32.ofNat x) v26 (Int32.ofNat (cnd ed m x 4)) t := by
  intro d
  induction d with
  | zero =>
    intro j n hj hn
    obtain ⟨n, rfl⟩ : ∃ j, n = j + 1 := ⟨n - 1, by omega⟩
    have : j = 4 := by omega
    subst this
    rw [law_407, if_neg (by decide)]
  | succ d ih =>
    intro j n hj hn
    obtain ⟨n, rfl⟩ : ∃ j, n = j + 1 := ⟨n - 1, by omega⟩
    rw [law_407, if_pos ((lt_lit (m := 4) (by omega) (by decide)).mpr (by omega)), w_bit hm (by omega), ofNat_succ, ofNat_succ, ← ih (j + 1) n (by omega) (by omega)]
    congr 1
    rw [cnd]
    cases h1 : tb4 m j
    · rw [if_neg (show ¬ bI false = 1 by decide)]; simp
    · rw [if_pos (show bI true = 1 from rfl)]
      by_cases h2 : ed j = some x
      · rw [if_pos ((ed_eq E (by omega) hx).mpr h2), if_pos ⟨rfl, h2⟩]
      · rw [if_neg (fun h => h2 ((ed_eq E (by omega) hx).mp h)), if_neg (fun h => h2 h.2)]; rfl
theorem cnd_le (ed : Nat → Option Nat) (m x : Nat) : ∀ j, cnd ed m x j ≤ j
  | 0 => Nat.le_refl _
  | j + 1 => by rw [cnd]; have := cnd_le ed m x j; split <;> omega
theorem cnd_deg {ed : Nat → Option Nat} {m x : Nat} {P : Nat → Bool} {fd : Nat → Nat → Option Nat} (hP : ∀ z, z < 4 → P z = tb4 m z) (hfd : ∀ z, z < 4 → tb4 m z = true → fd z 0 = ed z) (wF : ∀ x f y, fd x f = some y → f < 1) : ∀ j, j ≤ 4 → deg P fd x j = cnd ed m x j
  | 0, _ => rfl
  | j + 1, h => by
    rw [deg, cnd, cnd_deg hP hfd wF j (by omega), hP j (by omega)]
    congr 1
    cases h1 : tb4 m j
    · simp
    · rw [if_pos rfl]
      unfold one
      rw [fc_top wF j x 4 (by omega), fc, fc, Nat.zero_add, hfd j (by omega) h1]
      simp
theorem deg_high {P : Nat → Bool} {fd : Nat → Nat → Option Nat} {x a : Nat} (h : ∀ z, a ≤ z → P z = false) : ∀ b, deg P fd x (a + b) = deg P fd x a
  | 0 => rfl
  | b + 1 => by rw [← Nat.add_assoc, deg, deg_high h b, h (a + b) (by omega)]; rfl
theorem cntB_succ (P : Nat → Bool) (n : Nat) : cntB P (n + 1) = cntB P n + (if P n then 1 else 0) := by
  unfold cntB
  rw [List.range_succ, List.countP_append, List.countP_cons, List.countP_nil]
  simp
theorem cntB_high {P : Nat → Bool} {a : Nat} (h : ∀ z, a ≤ z → P z = false) : ∀ b, cntB P (a + b) = cntB P a
  | 0 => rfl
  | b + 1 => by rw [← Nat.add_assoc, cntB_succ, cntB_high h b, h (a + b) (by omega)]; rfl
theorem zl_succ (P : Nat → Bool) (fd : Nat → Nat → Option Nat) (H j : Nat) : (zl P fd H (j + 1)).length = (zl P fd H j).length + (if P j = true ∧ deg P fd j H = 0 then 1 else 0) := by
  unfold zl
  rw [List.range_succ, List.filter_append, List.length_append, List.filter_cons, List.filter_nil]
  congr 1
  by_cases q : P j = true ∧ deg P fd j H = 0
  · rw [if_pos q, if_pos (by simp [q.1, q.2])]; rfl
  · rw [if_neg q, if_neg (fun h => q (by simpa using h))]; rfl
theorem zl_high {P : Nat → Bool} {fd : Nat → Nat → Option Nat} {H a : Nat} (h : ∀ z, a ≤ z → P z = false) : ∀ b, (zl P fd H (a + b)).length = (zl P fd H a).length
  | 0 => rfl
  | b + 1 => by rw [← Nat.add_assoc, zl_succ, zl_high h b, if_neg (fun w => by rw [h (a + b) (by omega)] at w; cases w.1)]; rfl
theorem zl_len (P : Nat → Bool) (fd : Nat → Nat → Option Nat) (H j : Nat) : (zl P fd H j).length ≤ j := by
  unfold zl
  exact Nat.le_trans (List.length_filter_le _ _) (by simp)
theorem fin_loop {ed : Nat → Option Nat} {v14 v15 v16 v17 : Int32} (E : Ed ed v14 v15 v16 v17) {m : Nat} (hm : m < 16) {P : Nat → Bool} {fd : Nat → Nat → Option Nat} {rts : List (Option Nat)} (hP : ∀ z, z < 4 → P z = tb4 m z) (hfd : ∀ z, z < 4 → tb4 m z = true → fd z 0 = ed z) (hH : ∀ z, 4 ≤ z → P z = false) {t : S} (R : RI 8 4 16 1 t P fd rts (zl P fd 8 8)) (v21 : Int32) : ∀ d j n, j + d = 4 → d < n → law_377 n v14 v15 v16 v17 (Int32.ofNat m) v21 (Int32.ofNat (j - cntB P j)) (Int32.ofNat (zl P fd 8 j).length) (Int32.ofNat (cntB P j)) (Int32.ofNat j) t = law_594 v21 (Int32.ofNat (4 - cntB P 4)) (Int32.ofNat (zl P fd 8 4).length) (Int32.ofNat (cntB P 4)) t := by
  intro d
  induction d with
  | zero =>
    intro j n hj hn
    obtain ⟨n, rfl⟩ : ∃ j, n = j + 1 := ⟨n - 1, by omega⟩
    have : j = 4 := by omega
    subst this
    rw [law_377, if_neg (by decide)]
  | succ d ih =>
    intro j n hj hn
    obtain ⟨n, rfl⟩ : ∃ j, n = j + 1 := ⟨n - 1, by omega⟩
    have hj4 : j < 4 := by omega
    have wF : ∀ x f y, fd x f = some y → f < 1 := fun x f y e => (R.2.2.2.2.2.2.2.1 x f y e).2.1
    have cl := cnd_le ed m j 4
    have cb := cntB_le P j
    have dg : deg P fd j 8 = cnd ed m j 4 := by rw [show 8 = 4 + 4 from rfl, deg_high hH 4, cnd_deg hP hfd wF 4 (by omega)]
    rw [law_377, if_pos ((lt_lit (m := 4) (by omega) (by decide)).mpr (by omega)), w_bit hm hj4, law_399]
    have cc := cnd_ok (k377 := fun v14 v15 v16 v17 v20 v21 v22 v23 v24 v25 t0 => law_377 n v14 v15 v16 v17 v20 v21 v22 v23 v24 v25 t0) E v21 (Int32.ofNat (j - cntB P j)) (Int32.ofNat (zl P fd 8 j).length) (Int32.ofNat (cntB P j)) (if bI (tb4 m j) = 1 then 1 else 0) hm hj4 t 4 0 BIG (by omega) (by unfold BIG; omega)
    rw [show Int32.ofNat (cnd ed m j 0) = 0 from rfl, show Int32.ofNat 0 = 0 from rfl] at cc
    rw [cc, law_455, isLive_ok R (by omega), Option.bind_some, count_ok R (by omega), Option.bind_some, show (0 : Int32) = Int32.ofNat 0 from rfl, field_ok R (by omega) (by omega), Option.bind_some, inTable_ok R (by omega), Option.bind_some, hP j hj4, dg, show Int32.ofNat 0 = 0 from rfl]
    have zs := zl_succ P fd 8 j
    have cs := cntB_succ P j
    rw [hP j hj4] at zs cs
    rw [dg] at zs
    have ihj := ih (j + 1) n (by omega) (by omega)
    rw [zs, cs] at ihj
    cases h1 : tb4 m j
    · rw [h1] at ihj
      rw [if_neg (show ¬ ((false : Bool) = true ∧ cnd ed m j 4 = 0) by simp), if_neg (show ¬ (false : Bool) = true by decide), Nat.add_zero, Nat.add_zero] at ihj
      have ni : j ∉ zl P fd 8 8 := fun w => by have := (zl_mem.mp w).2.1; rw [hP j hj4, h1] at this; cases this
      rw [show (if bI false = 1 then (1 : Int32) else 0) = 0 by decide, if_pos rfl, if_pos (show bI false = 0 from rfl), if_neg (show ¬ (false : Bool) = true by decide), if_neg (show ¬ (false : Bool) = true by decide), if_pos rfl, if_pos rfl, show decide (j ∈ zl P fd 8 8) = false from decide_eq_false ni, if_pos (show bI false = 0 from rfl), ofNat_succ, ofNat_succ, show j - cntB P j + 1 = j + 1 - cntB P j by omega]
      exact ihj
    · rw [h1] at ihj
      have mi : j ∈ zl P fd 8 8 ↔ cnd ed m j 4 = 0 := by rw [zl_mem, dg]; exact ⟨fun w => w.2.2, fun w => ⟨by omega, by rw [hP j hj4]; exact h1, w⟩⟩
      have fe : pc (fd j 0) = h_edge (Int32.ofNat j) v14 v15 v16 v17 := by rw [hfd j hj4 h1, (E j hj4).1]
      rw [show (if bI true = 1 then (1 : Int32) else 0) = 1 by decide, if_neg (show ¬ (1 : Int32) = 0 by decide), law_523, if_neg (show ¬ bI true = 0 by decide), if_pos rfl, if_pos rfl, if_pos rfl, if_pos fe, law_554]
      have bz : bI (decide (j ∈ zl P fd 8 8)) = (if Int32.ofNat (cnd ed m j 4) = 0 then 1 else 0) := by
        by_cases w : cnd ed m j 4 = 0
        · rw [if_pos ((nat_zero (by omega)).mpr w), show decide (j ∈ zl P fd 8 8) = true from decide_eq_true (mi.mpr w)]; rfl
        · rw [if_neg (fun z => w ((nat_zero (by omega)).mp z)), show decide (j ∈ zl P fd 8 8) = false from decide_eq_false (fun z => w (mi.mp z))]; rfl
      rw [if_pos bz]
      rw [if_pos rfl] at ihj
      have z1 : (if Int32.ofNat (cnd ed m j 4) = 0 then Int32.ofNat (zl P fd 8 j).length + 1 else Int32.ofNat (zl P fd 8 j).length) = Int32.ofNat ((zl P fd 8 j).length + if true = true ∧ cnd ed m j 4 = 0 then 1 else 0) := by
        by_cases w : cnd ed m j 4 = 0
        · rw [if_pos ((nat_zero (by omega)).mpr w), if_pos ⟨rfl, w⟩, ofNat_succ]
        · rw [if_neg (fun z => w ((nat_zero (by omega)).mp z)), if_neg (fun z => w z.2)]; rfl
      rw [z1, ofNat_succ, ofNat_succ]
      rw [show j + 1 - (cntB P j + 1) = j - cntB P j by omega] at ihj
      exact ihj
theorem mask5 {p : Nat} (h : p ≤ 4) : ((1 : Int32) <<< (((4 : Int32) - Int32.ofNat p) &&& 31)) - 1 = Int32.ofNat (2 ^ (4 - p) - 1) := by
  have : ∀ p : Fin 5, ((1 : Int32) <<< (((4 : Int32) - Int32.ofNat p.val) &&& 31)) - 1 = Int32.ofNat (2 ^ (4 - p.val) - 1) := by decide +kernel
  exact this ⟨p, by omega⟩
theorem root4 {r y : Nat} (h : r ≤ 4) : some y ∈ R4.take r ↔ y < r := by
  rcases (show r = 0 ∨ r = 1 ∨ r = 2 ∨ r = 3 ∨ r = 4 by omega) with w | w | w | w | w <;> subst w <;> simp [R4] <;> omega
theorem tail_ok {ed : Nat → Option Nat} {v14 v15 v16 v17 : Int32} (E : Ed ed v14 v15 v16 v17) {p : Nat} (hp : p ≤ 4) {s : S} {fd : Nat → Nat → Option Nat} {tb : List Nat} (R : RI 8 4 16 1 s (lvK 4) fd (R4.take (4 - p)) tb) (hfd : ∀ z, z < 4 → fd z 0 = ed z) (g : gI s 8 = 0) : ∃ s', law_223 v14 v15 v16 v17 (Int32.ofNat p) s = some (1, s') := by
  rw [law_223, mask5 hp, show (15 : Int32) = Int32.ofNat 15 from rfl]
  obtain ⟨m, e, hm, cl, T⟩ := passes E (r := 4 - p) (by omega) s 4 0 BIG 15 (by omega) (by unfold BIG; omega) (by omega) (Or.inr (by decide)) (fun T hT y hy => by
    have := (hT y hy).1
    rcases (show y = 0 ∨ y = 1 ∨ y = 2 ∨ y = 3 by omega) with w | w | w | w <;> subst w <;> decide)
  rw [show (0 : Int32) = Int32.ofNat 0 from rfl, e, law_358]
  obtain ⟨t, P, b, er, R', g8, zr, cnt, o1, o2, o3, o4, _, mx⟩ := reconcile_ok R
  have w1 := R.2.2.2.2.2.2.2.1
  have fdm : ∀ x f, P x = true → fdM P fd 8 x f = fd x f := fun x f hp => by
    unfold fdM
    rw [if_neg (fun z => by rw [hp] at z; cases z.2)]
  have p4 : ∀ y, y < 8 → P y = true → y < 4 := fun y hy h => of_decide_eq_true (o1 y hy h)
  have pT : Pst ed (4 - p) (fun y => decide (y < 8) && P y) := fun y hy => by
    rw [Bool.and_eq_true, decide_eq_true_eq] at hy
    refine ⟨p4 y hy.1 hy.2, ?_⟩
    by_cases q : some y ∈ R4.take (4 - p)
    · exact Or.inl ((root4 (by omega)).mp q)
    · right
      have h := o4 y hy.1 hy.2 q
      have : ¬ ∀ z f, z < 8 → P z = true → f < 4 → fdM P fd 8 z f ≠ some y := fun w => h ((deg_zero 8).mpr w)
      obtain ⟨z, h⟩ := Classical.not_forall.mp this
      obtain ⟨f, h⟩ := Classical.not_forall.mp h
      obtain ⟨hz, h⟩ := Classical.not_imp.mp h
      obtain ⟨pz, h⟩ := Classical.not_imp.mp h
      obtain ⟨hf, h⟩ := Classical.not_imp.mp h
      have h := Classical.not_not.mp h
      rw [fdm z f pz] at h
      have f1 := (w1 z f y h).2.1
      have : f = 0 := by omega
      subst this
      rw [hfd z (p4 z hz pz)] at h
      exact ⟨z, by rw [Bool.and_eq_true, decide_eq_true_eq]; exact ⟨hz, pz⟩, h⟩
  have pm : ∀ y, y < 8 → P y = true → tb4 m y = true := fun y hy h => T _ pT y (by rw [Bool.and_eq_true, decide_eq_true_eq]; exact ⟨hy, h⟩)
  have mp : ∀ y, y < 4 → tb4 m y = true → P y = true := fun y hy h => mx (fun y => decide (y < 4) && tb4 m y) (fun y hy => by
    rw [Bool.and_eq_true, decide_eq_true_eq] at hy
    refine ⟨by omega, decide_eq_true hy.1, ?_⟩
    by_cases q : y < 4 - p
    · exact Or.inl ((root4 (by omega)).mpr q)
    · right
      obtain ⟨z, hz, bz, ez⟩ := (prd_iff 4).mp (cl y hy.1 hy.2 (by omega))
      exact ⟨z, 0, by rw [Bool.and_eq_true, decide_eq_true_eq]; exact ⟨hz, bz⟩, by rw [hfd z hz]; exact ez⟩) y (by rw [Bool.and_eq_true, decide_eq_true_eq]; exact ⟨hy, h⟩)
  -- the survivors, false above 8
  obtain ⟨P', hP'⟩ : ∃ P' : Nat → Bool, P' = fun y => decide (y < 4) && P y := ⟨_, rfl⟩
  have pe : ∀ y, y < 8 → P' y = P y := fun y hy => by
    rw [hP']
    by_cases q : y < 4
    · simp [q]
    · cases h : P y with
      | false => simp [h]
      | true => exact absurd (p4 y hy h) q
  have fde : ∀ x f, fdM P' fd 8 x f = fdM P fd 8 x f := fun x f => by
    unfold fdM
    by_cases q : x < 8
    · rw [pe x q]
    · rw [if_neg (fun w => q w.1), if_neg (fun w => q w.1)]
  have fdf : fdM P' fd 8 = fdM P fd 8 := by funext x f; exact fde x f
  have dge : ∀ x, deg P' (fdM P' fd 8) x 8 = deg P (fdM P fd 8) x 8 := fun x => by
    rw [fdf]; exact deg_congr 8 fun y hy => ⟨pe y hy, fun _ => rfl⟩
  have zle : zl P' (fdM P' fd 8) 8 8 = zl P (fdM P fd 8) 8 8 := by
    unfold zl
    apply List.filter_congr
    intro x hx
    rw [pe x (List.mem_range.mp hx), dge x]
  have cbe : cntB P' 8 = cntB P 8 := cntB_congr pe
  have R2 : RI 8 4 16 1 t P' (fdM P' fd 8) (R4.take (4 - p)) (zl P' (fdM P' fd 8) 8 8) := by
    obtain ⟨G, R0, Rf, Rn, Rrt, RTb, g4, v1, v2, v3, v4, v5, v6⟩ := R'
    refine ⟨G, R0.congr fun x hx => by rw [pe x hx], by rw [fdf]; exact Rf, Rn.congr fun x hx => by rw [dge x], Rrt, by rw [zle]; exact RTb, by rw [cbe]; exact g4, fun x f y e => ?_, fun y hy => ?_, v3, by rw [zle]; exact v4, fun x hx => ?_, fun x hx hl hz => ?_⟩
    · rw [fdf] at e
      obtain ⟨a1, a2, a3, a4, a5⟩ := v1 x f y e
      exact ⟨a1, a2, by rw [pe x a1]; exact a3, a4, by rw [pe y a4]; exact a5⟩
    · obtain ⟨a1, a2⟩ := v2 y hy
      exact ⟨a1, by rw [pe y a1]; exact a2⟩
    · rw [zle] at hx
      obtain ⟨a1, a2⟩ := v5 x hx
      exact ⟨a1, by rw [pe x a1]; exact a2⟩
    · rw [zle]
      rw [dge] at hz
      rw [pe x hx] at hl
      exact v6 x hx hl hz
  have hH : ∀ z, 4 ≤ z → P' z = false := fun z hz => by rw [hP']; simp; intro h; omega
  have hPm : ∀ z, z < 4 → P' z = tb4 m z := fun z hz => by
    rw [pe z (by omega)]
    cases h : tb4 m z with
    | true => exact mp z hz h
    | false =>
      cases h2 : P z with
      | false => rfl
      | true => rw [pm z (by omega) h2] at h; cases h
  have er2 : k_reconcile s = some (Int32.ofNat b, t) := by unfold k_reconcile; rw [er, Option.bind_some]
  rw [er2, Option.bind_some]
  have fl := fin_loop E hm hPm (fun z hz hb => by rw [fdf, fdm z 0 (by rw [← pe z (by omega), hPm z hz]; exact hb), hfd z hz]) hH R2 (Int32.ofNat b) 4 0 BIG (by omega) (by unfold BIG; omega)
  rw [show Int32.ofNat (0 - cntB P' 0) = 0 from rfl, show Int32.ofNat (zl P' (fdM P' fd 8) 8 0).length = 0 from rfl, show Int32.ofNat (cntB P' 0) = 0 from rfl, show Int32.ofNat 0 = 0 from rfl] at fl
  dsimp only
  rw [fl, law_594]
  have c8 : cntB P' 8 = cntB P' 4 := cntB_high hH 4
  have z8 : (zl P' (fdM P' fd 8) 8 8).length = (zl P' (fdM P' fd 8) 8 4).length := zl_high hH 4
  have l4 := lvK_cnt 4 (by omega)
  have bb : b = 4 - cntB P' 4 := by omega
  rw [if_pos (by rw [bb]), if_pos (show k_liveCount t = _ by unfold k_liveCount; rw [R2.2.2.2.2.2.2.1, c8]), if_pos (show k_tableSize t = _ by unfold k_tableSize; rw [R2.2.2.2.2.2.1.1, z8]), if_pos (show k_reconciliations t = 1 by unfold k_reconciliations; rw [g8, g]; rfl)]
  exact ⟨t, rfl⟩
theorem law_true (v0 v1 v2 v3 v4 : Int32) : ∃ s, law v0 v1 v2 v3 v4 = some (1, s) := by
  unfold law
  obtain ⟨s, e, R, g⟩ := init_RI (v1 := 8) (v2 := 1) (v3 := 4) (v4 := 16) (H := 8) (RC := 4) (TC := 16) (Fn := 1) (by omega) (by omega) (by omega) (by omega) (by omega) (by decide) (by decide) (by decide) (by decide)
  rw [e, Option.bind_some]
  have l0 : lvK 0 = fun _ => false := by funext x; simp [lvK]
  obtain ⟨t, tb, e, R, g⟩ := al_loop v0 v1 v2 v3 v4 4 0 BIG s [] (by omega) (by unfold BIG; omega) (by rw [l0]; exact R) g
  rw [show (0 : Int32) = Int32.ofNat 0 from rfl, e]
  obtain ⟨a, tba, p0, ea, f0, b0, Ra, ga⟩ := st4 (i := 0) (by omega) R rfl v0
  obtain ⟨b, tbb, p1, eb, f1, b1, Rb, gb⟩ := st4 (i := 1) (by omega) Ra rfl v1
  obtain ⟨c, tbc, p2, ec, f2, b2, Rc, gc⟩ := st4 (i := 2) (by omega) Rb rfl v2
  obtain ⟨d, tbd, p3, ed, f3, b3, Rd, gd⟩ := st4 (i := 3) (by omega) Rc rfl v3
  unfold law_46
  rw [show k_store 0 0 v0 t = _ from ea, Option.bind_some]
  dsimp only
  rw [show k_store 1 0 v1 a = _ from eb, Option.bind_some]
  dsimp only
  rw [show k_store 2 0 v2 b = _ from ec, Option.bind_some]
  dsimp only
  rw [show k_store 3 0 v3 c = _ from ed, Option.bind_some]
  dsimp only
  rw [if_pos rfl, if_pos rfl, if_pos rfl, if_pos rfl, law_185, f0, f1, f2, f3]
  obtain ⟨p, hp, pe⟩ : ∃ p, p ≤ 4 ∧ (if v4 < 0 then (0 : Int32) else if (4 : Int32) < v4 then (4 : Int32) else v4) = Int32.ofNat p := by
    by_cases q : v4 < 0
    · exact ⟨0, by omega, by rw [if_pos q]; rfl⟩
    · by_cases w : (4 : Int32) < v4
      · exact ⟨4, by omega, by rw [if_neg q, if_pos w]; rfl⟩
      · obtain ⟨e, l⟩ := eq_ofNat q
        refine ⟨v4.toNatClampNeg, ?_, by rw [if_neg q, if_neg w]; exact e⟩
        rw [e, show (4 : Int32) = Int32.ofNat 4 from rfl, ofNat_lt (by omega) l] at w
        omega
  rw [pe]
  obtain ⟨u, eu, Ru, gu⟩ := pop_loop (pc p0) (pc p1) (pc p2) (pc p3) hp 4 0 BIG d (by omega) (by unfold BIG; omega) (by rw [show min 0 p = 0 by omega]; exact Rd) (by rw [gd, gc, gb, ga, g])
  rw [show (0 : Int32) = Int32.ofNat 0 from rfl, eu]
  refine tail_ok (ed := fun z => if z = 0 then p0 else if z = 1 then p1 else if z = 2 then p2 else p3) (fun z hz => ?_) hp Ru (fun z hz => ?_) gu
  · rcases (show z = 0 ∨ z = 1 ∨ z = 2 ∨ z = 3 by omega) with w | w | w | w <;> subst w
    · exact ⟨rfl, b0⟩
    · exact ⟨rfl, b1⟩
    · exact ⟨rfl, b2⟩
    · exact ⟨rfl, b3⟩
  · rcases (show z = 0 ∨ z = 1 ∨ z = 2 ∨ z = 3 by omega) with w | w | w | w <;> subst w <;> rfl
set_option maxRecDepth 65536 in
set_option maxHeartbeats 40000000 in
theorem comes_1 {Post : Tables → Env → Array Value → State → Outcome → State → Prop} (hpost : ∀ tb e args s v u, (limb_1_1.after args s (.returned v) u = true ∧ limb_1_2.after args s (.returned v) u = true ∧ True) → FrameEnd s (.returned v) u (Jvm.fieldLocs frame_1_writes args s ++ Jvm.arrayLocs frame_1_arrays args s ++ Jvm.staticLocs frame_1_statics s) 32 1856 → Post tb e args s (.returned v) u) :
    ArmFor flags0 classFile x code maxLocals ret World_1 tables_1 room_1 Calls_1 rest_1 Pre_1 Post := by
  intro l hfl _ _ p e ha hc hk s m args below hf hA hF happ hP
  obtain ⟨hcalls, hrest, hpre⟩ := hP
  obtain ⟨-, -, -, hnamed, -, -, -, hat⟩ := (Spec.applies_iff hf).mp happ
  obtain ⟨hg, hn⟩ := and_e (Cond.before_iff.mp (show (Jvm.Cond.and given_1 narrow_1).before args s = true from hpre))
  obtain ⟨g0, b0⟩ := and_e hg
  obtain ⟨a0, b1⟩ := and_e b0
  obtain ⟨a1, b2⟩ := and_e b1
  obtain ⟨a2, b3⟩ := and_e b2
  obtain ⟨a3, b4⟩ := and_e b3
  have a4 := b4
  obtain ⟨w0, w1, w2, w3, w4, rfl⟩ : ∃ w0 w1 w2 w3 w4 : Value, args = #[w0, w1, w2, w3, w4] := by
    have hs : args.size = 5 := by simpa [Cond.value, given_1] using g0
    obtain ⟨L⟩ := args
    match L, hs with
    | [w0, w1, w2, w3, w4], _ => exact ⟨w0, w1, w2, w3, w4, rfl⟩
  have hw := fun d (hd : d ∈ tables_1) => atoms_spec (ws := Jvm.Cond.code x code maxLocals ret :: tables_1) hat d (List.mem_cons_of_mem _ hd)
  have hfit : Fit s := fun {y c} hc i hi => by
    obtain ⟨ha, rfl⟩ := Array.getElem?_eq_some_iff.mp hc
    have q := List.all_eq_true.mp ((Array.all_eq_true_iff_forall_mem.mp hF) _ (Array.getElem_mem ha)) i (List.mem_range.mpr hi)
    simpa [Array.getElem?_eq_getElem hi] using q
  obtain ⟨i0, ei0⟩ := is_v a0
  obtain rfl : w0 = (.int i0) := Option.some.inj ei0
  obtain ⟨i1, ei1⟩ := is_v a1
  obtain rfl : w1 = (.int i1) := Option.some.inj ei1
  obtain ⟨i2, ei2⟩ := is_v a2
  obtain rfl : w2 = (.int i2) := Option.some.inj ei2
  obtain ⟨i3, ei3⟩ := is_v a3
  obtain rfl : w3 = (.int i3) := Option.some.inj ei3
  obtain ⟨i4, ei4⟩ := is_v a4
  obtain rfl : w4 = (.int i4) := Option.some.inj ei4
  obtain ⟨t, ht⟩ := law_true i0 i1 i2 i3 i4
  have C : Call PP m60 [.int i0, .int i1, .int i2, .int i3, .int i4] (none, []) (some (.int ((1 : Int32), t).1), (none, [(11, ((1 : Int32), t).2)])) := call_of_go pl_1 rfl (fun h => by cases h) (law_ok i0 i1 i2 i3 i4 _ ht)
  obtain ⟨n, o, h1, h2, h3, _, L, rfl, ⟨rfl, N, _⟩, hq⟩ := C l s _ tables_1 0 s.heap.size s.heap.size s.heap hw (facts1 hw) (Nat.le_refl _) (repW_none ..) (Nat.zero_le _) (fun _ => ⟨rfl, rfl, rfl⟩) p e ha hc hk s m _ below hf ((Spec.applies_iff_loose hf).mp happ).1 ⟨rfl, State.Warmed39.refl s, rfl⟩ trivial
  refine ⟨n, _, h1, h2, h3, hpost _ _ _ _ _ _ ⟨Cond.after_iff.mpr rfl, Cond.after_iff.mpr (eq_i res_at (Term.int_eval (1)) rfl), trivial⟩ ⟨hq.1, hq.2.1, (hq.2.2.sift fun y hy => Or.inr (N y hy)).mono (by decide) (by decide)⟩⟩
theorem main_1_1 : Claimed_1_1 := comes_1 fun _ _ _ _ _ _ h hF => ⟨h.1, hF⟩
theorem main_1_2 : Claimed_1_2 := comes_1 fun _ _ _ _ _ _ h hF => ⟨h.2.1, hF⟩
end Jvm.Pilot.@@N@@
namespace Jvm.Pilot.@@N@@
open Jvm Jvm.ClassFile Sem Op Lib Jvm.Free Jvm.Stand Jvm.Pilot.@@N@@.Jvm.D
/-! MADE BY PROGRAM (witnessworld.py) out of the Statement's table words and the real class files: 11 classes; the members and pool entries that the words name. The judged class is class 1, her method 4. -/
namespace start1
open Jvm.ClassFile
def u (s : String) : CpInfo := .utf8 (stringToUtf16 s)
/-- a pool by its gaps: so many unusable entries, then the entry; so many at the end -/
def gap : Nat → List CpInfo → List CpInfo
  | 0, r => r
  | n + 1, r => .unusable :: gap n r
def poolList (es : List (Nat × CpInfo)) (last : Nat) : List CpInfo := es.foldr (fun e r => gap e.1 (e.2 :: r)) (gap last [])
def pool (es : List (Nat × CpInfo)) (last : Nat) : Array CpInfo := ⟨poolList es last⟩
def fileOf (pool : Array CpInfo) (this : Nat) (attrs : Array Attribute := #[]) (ms : Array MethodInfo := #[]) (fl : Nat := 33) (sup : Nat := 0) (ifs : Array Nat := #[]) (fds : Array FieldInfo := #[]) : ClassFile where
  minorVersion := 0
  majorVersion := 65
  constantPool := pool
  accessFlags := fl
  thisClass := this
  superClass := sup
  interfaces := ifs
  fields := fds
  methods := ms
  attributes := attrs
def plain (name : String) (sup : Option ClassId) : Class where
  name := name
  kind := .ordinary
  loader := none
  accessFlags := 33
  super := sup
  interfaces := #[]
  cf := none
  fields := #[]
  methods := #[]
  instanceTypes := #[]
  staticTypes := #[]
  resolved := #[]
  callSites := []
  init := .initialized
  statics := none
  mirror := none

def pool0 : Array CpInfo := pool [(5, u "<init>"), (0, u "()V"), (1, .class_ 10), (1, u "java/lang/Object")] 113

def k0c0 : Code := { maxStack := 0, maxLocals := 1, code := object_method_1_code, exceptionTable := #[], attributes := #[] }
def k0m0 : Method := { name := "<init>", desc := "()V", sig := { parameters := [], returnType := none }, accessFlags := 1, code := some k0c0 }
/-- java/lang/Object -/
def k0 : Class := { plain "java/lang/Object" none with
  accessFlags := 33
  interfaces := #[]
  cf := some (fileOf pool0 8 #[] #[{ accessFlags := 1, nameIndex := 5, descriptorIndex := 6, attributes := #[] }] 33 0 #[] #[])
  fields := #[]
  methods := #[k0m0]
  instanceTypes := #[]
  staticTypes := #[]
  resolved := Array.replicate 124 none
  statics := none }

def pool1 : Array CpInfo := pool [(2, .class_ 4), (1, u "java/lang/Object"), (0, u "<init>"), (0, u "()V"), (0, .class_ 8), (0, u "DeferredCountY"), (0, .methodref 7 10), (0, .nameAndType 5 11), (0, u "(IIII)V"), (0, .methodref 7 13), (0, .nameAndType 14 15), (0, u "alloc"), (0, u "()I"), (0, .methodref 7 17), (0, .nameAndType 18 19), (0, u "store"), (0, u "(III)I"), (0, .methodref 21 22), (0, .class_ 23), (0, .nameAndType 24 25), (0, u "DeferredCountYL3"), (0, u "ans"), (0, u "(I)I"), (0, .methodref 21 27), (0, .nameAndType 28 25), (0, u "eff"), (0, .methodref 7 30), (0, .nameAndType 31 15), (0, u "pop"), (0, .methodref 21 33), (0, .nameAndType 34 35), (0, u "edge"), (0, u "(IIIII)I"), (0, .methodref 7 37), (0, .nameAndType 38 15), (0, u "reconcile"), (0, .methodref 7 40), (0, .nameAndType 41 42), (0, u "isLive"), (0, u "(I)Z"), (0, .methodref 7 44), (0, .nameAndType 45 25), (0, u "count"), (0, .methodref 7 47), (0, .nameAndType 48 49), (0, u "field"), (0, u "(II)I"), (0, .methodref 7 51), (0, .nameAndType 52 42), (0, u "inTable"), (0, .methodref 7 54), (0, .nameAndType 55 15), (0, u "liveCount"), (0, .methodref 7 57), (0, .nameAndType 58 15), (0, u "tableSize"), (0, .methodref 7 60), (0, .nameAndType 61 15), (0, u "reconciliations"), (3, u "law"), (0, u "(IIIII)Z")] 2

def k1m0 : Method := { name := "<init>", desc := "()V", sig := { parameters := [], returnType := none }, accessFlags := 1, code := none }
def k1c1 : Code := { maxStack := 2, maxLocals := 5, code := method_2_code, exceptionTable := #[], attributes := #[] }
def k1m1 : Method := { name := "edge", desc := "(IIIII)I", sig := { parameters := [.int, .int, .int, .int, .int], returnType := some .int }, accessFlags := 10, code := some k1c1 }
def k1c2 : Code := { maxStack := 2, maxLocals := 1, code := method_3_code, exceptionTable := #[], attributes := #[] }
def k1m2 : Method := { name := "eff", desc := "(I)I", sig := { parameters := [.int], returnType := some .int }, accessFlags := 10, code := some k1c2 }
def k1c3 : Code := { maxStack := 2, maxLocals := 1, code := method_4_code, exceptionTable := #[], attributes := #[] }
def k1m3 : Method := { name := "ans", desc := "(I)I", sig := { parameters := [.int], returnType := some .int }, accessFlags := 10, code := some k1c3 }
def k1c4 : Code := { maxStack := 6, maxLocals := 33, code := code, exceptionTable := #[], attributes := #[] }
def k1m4 : Method := { name := "law", desc := "(IIIII)Z", sig := { parameters := [.int, .int, .int, .int, .int], returnType := some .boolean }, accessFlags := 9, code := some k1c4 }
/-- DeferredCountYL3 -/
def k1 : Class := { plain "DeferredCountYL3" (some 0) with
  accessFlags := 49
  interfaces := #[]
  cf := some (fileOf pool1 21 #[] #[{ accessFlags := 1, nameIndex := 5, descriptorIndex := 6, attributes := #[] }, { accessFlags := 10, nameIndex := 34, descriptorIndex := 35, attributes := #[] }, { accessFlags := 10, nameIndex := 28, descriptorIndex := 25, attributes := #[] }, { accessFlags := 10, nameIndex := 24, descriptorIndex := 25, attributes := #[] }, { accessFlags := 9, nameIndex := 65, descriptorIndex := 66, attributes := #[] }] 49 2 #[] #[])
  fields := #[]
  methods := #[k1m0, k1m1, k1m2, k1m3, k1m4]
  instanceTypes := #[]
  staticTypes := #[]
  resolved := Array.replicate 69 none
  statics := none }

def pool2 : Array CpInfo := pool [(1, .methodref 2 3), (0, .class_ 4), (0, .nameAndType 5 6), (0, u "java/lang/Object"), (0, u "<init>"), (0, u "()V"), (0, .fieldref 8 9), (0, .class_ 10), (0, .nameAndType 11 12), (0, u "DeferredCountY"), (0, u "live"), (0, u "[Z"), (0, .fieldref 8 14), (0, .nameAndType 15 16), (0, u "cellFields"), (0, u "[I"), (0, .fieldref 8 18), (0, .nameAndType 19 16), (0, u "refs"), (0, .fieldref 8 21), (0, .nameAndType 22 16), (0, u "rootStack"), (0, .fieldref 8 24), (0, .nameAndType 25 16), (0, u "tableIds"), (0, .fieldref 8 27), (0, .nameAndType 28 16), (0, u "tablePos"), (0, .fieldref 8 30), (0, .nameAndType 31 12), (0, u "survivor"), (0, .fieldref 8 33), (0, .nameAndType 34 12), (0, u "rootHeld"), (0, .fieldref 8 36), (0, .nameAndType 37 12), (0, u "queued"), (0, .fieldref 8 39), (0, .nameAndType 40 16), (0, u "holders"), (0, .fieldref 8 42), (0, .nameAndType 43 16), (0, u "work"), (0, .methodref 8 45), (0, .nameAndType 46 47), (0, u "clamp"), (0, u "(III)I"), (0, .fieldref 8 49), (0, .nameAndType 50 51), (0, u "heapCells"), (0, u "I"), (0, .fieldref 8 53), (0, .nameAndType 54 51), (0, u "fieldsPer"), (0, .fieldref 8 56), (0, .nameAndType 57 51), (0, u "rootCap"), (0, .fieldref 8 59), (0, .nameAndType 60 51), (0, u "tableCap"), (0, .methodref 8 62), (0, .nameAndType 63 6), (0, u "resetHeap"), (0, .methodref 8 65), (0, .nameAndType 66 6), (0, u "resetRoots"), (0, .methodref 8 68), (0, .nameAndType 69 6), (0, u "resetTable"), (0, .methodref 8 71), (0, .nameAndType 72 6), (0, u "resetScratch"), (0, .fieldref 8 74), (0, .nameAndType 75 51), (0, u "runs"), (0, .methodref 8 77), (0, .nameAndType 78 79), (0, u "rootsFull"), (0, u "()Z"), (0, .methodref 8 81), (0, .nameAndType 82 79), (0, u "allocNeedsReconcile"), (0, .methodref 8 84), (0, .nameAndType 85 86), (0, u "runReconciliation"), (0, u "()I"), (0, .methodref 8 88), (0, .nameAndType 89 86), (0, u "lowestFreeCell"), (0, .methodref 8 91), (0, .nameAndType 92 93), (0, u "placeNewObject"), (0, u "(I)V"), (3, u "(II)I"), (0, .methodref 8 99), (0, .nameAndType 100 97), (0, u "readField"), (0, .methodref 8 102), (0, .nameAndType 103 93), (0, u "rootPush"), (0, .methodref 8 105), (0, .nameAndType 106 47), (0, u "storeCheck"), (0, .methodref 8 108), (0, .nameAndType 109 110), (0, u "valueOfSlot"), (0, u "(I)I"), (0, .methodref 8 112), (0, .nameAndType 113 114), (0, u "storeNeedsReconcile"), (0, u "(II)Z"), (0, .methodref 8 116), (0, .nameAndType 117 118), (0, u "assignField"), (0, u "(III)V"), (0, .methodref 8 120), (0, .nameAndType 121 93), (0, u "noteZeroCount"), (3, .fieldref 8 126), (0, .nameAndType 127 51), (0, u "rootDepth"), (0, .methodref 8 129), (0, .nameAndType 130 6), (0, u "rootPopTop"), (0, .methodref 8 132), (0, .nameAndType 133 134), (0, u "isRootSlot"), (0, u "(I)Z"), (0, .methodref 8 136), (0, .nameAndType 137 134), (0, u "isLiveId"), (0, .methodref 8 139), (0, .nameAndType 140 134), (0, u "isFieldNo"), (0, .methodref 8 142), (0, .nameAndType 143 134), (0, u "tableHas"), (0, .fieldref 8 145), (0, .nameAndType 146 51), (0, u "tableLen"), (0, .fieldref 8 148), (0, .nameAndType 149 51), (0, u "liveTotal"), (0, .methodref 8 151), (0, .nameAndType 152 134), (0, u "isValueSlot"), (0, .methodref 8 154), (0, .nameAndType 155 79), (0, u "hasFreeCell"), (0, .methodref 8 157), (0, .nameAndType 158 79), (0, u "tableIsFull"), (0, .methodref 8 160), (0, .nameAndType 161 93), (0, u "bringToLife"), (0, .methodref 8 163), (0, .nameAndType 164 134), (0, u "tableInsert"), (0, .methodref 8 166), (0, .nameAndType 167 134), (0, u "isObjectId"), (0, .methodref 8 169), (0, .nameAndType 170 93), (0, u "refDec"), (0, .methodref 8 172), (0, .nameAndType 173 93), (0, u "refInc"), (0, .methodref 8 175), (0, .nameAndType 176 118), (0, u "writeFieldRaw"), (0, .methodref 8 178), (0, .nameAndType 179 6), (0, u "markRootHeld"), (0, .methodref 8 181), (0, .nameAndType 182 6), (0, u "countHolders"), (0, .methodref 8 184), (0, .nameAndType 185 6), (0, u "seedWork"), (0, .methodref 8 187), (0, .nameAndType 188 6), (0, u "cascade"), (0, .methodref 8 190), (0, .nameAndType 191 86), (0, u "sweep"), (0, .methodref 8 193), (0, .nameAndType 194 6), (0, u "recountRefs"), (0, .methodref 8 196), (0, .nameAndType 197 6), (0, u "rebuildTable"), (0, .methodref 8 199), (0, .nameAndType 200 93), (0, u "addHoldersOf"), (0, .fieldref 8 202), (0, .nameAndType 203 51), (0, u "workTop"), (0, .methodref 8 205), (0, .nameAndType 206 134), (0, u "eligible"), (0, .methodref 8 208), (0, .nameAndType 209 93), (0, u "enqueue"), (0, .methodref 8 211), (0, .nameAndType 212 93), (0, u "dropHoldersOf"), (0, .methodref 8 214), (0, .nameAndType 215 93), (0, u "releaseCell"), (0, .methodref 8 217), (0, .nameAndType 218 93), (0, u "countOutgoing"), (0, .methodref 8 220), (0, .nameAndType 221 93), (0, u "clearCellFields"), (0, u "NIL"), (2, u "OK"), (1, u "ROOTS_FULL"), (1, u "ROOTS_EMPTY"), (1, u "HEAP_FULL"), (1, u "BAD_SLOT"), (1, u "BAD_FIELD"), (1, u "NULL_REF"), (1, u "BAD_OBJECT"), (1, u "MAX_HEAP"), (1, u "MAX_FIELDS"), (1, u "MAX_ROOTS"), (1, u "MAX_TABLE"), (0, u "(IIII)V"), (2, u "alloc"), (2, u "store"), (1, u "pop"), (0, u "reconcile"), (2, u "isLive"), (0, u "field"), (0, u "count"), (0, u "inTable"), (0, u "tableSize"), (0, u "liveCount"), (0, u "reconciliations")] 3

def k2c0 : Code := { maxStack := 4, maxLocals := 6, code := prog_1_method_1_code, exceptionTable := #[], attributes := #[] }
def k2m0 : Method := { name := "<init>", desc := "(IIII)V", sig := { parameters := [.int, .int, .int, .int], returnType := none }, accessFlags := 1, code := some k2c0 }
def k2c1 : Code := { maxStack := 2, maxLocals := 2, code := prog_1_method_2_code, exceptionTable := #[], attributes := #[] }
def k2m1 : Method := { name := "alloc", desc := "()I", sig := { parameters := [], returnType := some .int }, accessFlags := 1, code := some k2c1 }
def k2c2 : Code := { maxStack := 4, maxLocals := 8, code := prog_1_method_4_code, exceptionTable := #[], attributes := #[] }
def k2m2 : Method := { name := "store", desc := "(III)I", sig := { parameters := [.int, .int, .int], returnType := some .int }, accessFlags := 1, code := some k2c2 }
def k2c3 : Code := { maxStack := 1, maxLocals := 1, code := prog_1_method_6_code, exceptionTable := #[], attributes := #[] }
def k2m3 : Method := { name := "pop", desc := "()I", sig := { parameters := [], returnType := some .int }, accessFlags := 1, code := some k2c3 }
def k2c4 : Code := { maxStack := 1, maxLocals := 1, code := prog_1_method_7_code, exceptionTable := #[], attributes := #[] }
def k2m4 : Method := { name := "reconcile", desc := "()I", sig := { parameters := [], returnType := some .int }, accessFlags := 1, code := some k2c4 }
def k2c5 : Code := { maxStack := 2, maxLocals := 2, code := prog_1_method_10_code, exceptionTable := #[], attributes := #[] }
def k2m5 : Method := { name := "isLive", desc := "(I)Z", sig := { parameters := [.int], returnType := some .boolean }, accessFlags := 1, code := some k2c5 }
def k2c6 : Code := { maxStack := 3, maxLocals := 3, code := prog_1_method_11_code, exceptionTable := #[], attributes := #[] }
def k2m6 : Method := { name := "field", desc := "(II)I", sig := { parameters := [.int, .int], returnType := some .int }, accessFlags := 1, code := some k2c6 }
def k2c7 : Code := { maxStack := 2, maxLocals := 2, code := prog_1_method_12_code, exceptionTable := #[], attributes := #[] }
def k2m7 : Method := { name := "count", desc := "(I)I", sig := { parameters := [.int], returnType := some .int }, accessFlags := 1, code := some k2c7 }
def k2c8 : Code := { maxStack := 2, maxLocals := 2, code := prog_1_method_13_code, exceptionTable := #[], attributes := #[] }
def k2m8 : Method := { name := "inTable", desc := "(I)Z", sig := { parameters := [.int], returnType := some .boolean }, accessFlags := 1, code := some k2c8 }
def k2c9 : Code := { maxStack := 1, maxLocals := 1, code := prog_1_method_14_code, exceptionTable := #[], attributes := #[] }
def k2m9 : Method := { name := "tableSize", desc := "()I", sig := { parameters := [], returnType := some .int }, accessFlags := 1, code := some k2c9 }
def k2c10 : Code := { maxStack := 1, maxLocals := 1, code := prog_1_method_15_code, exceptionTable := #[], attributes := #[] }
def k2m10 : Method := { name := "liveCount", desc := "()I", sig := { parameters := [], returnType := some .int }, accessFlags := 1, code := some k2c10 }
def k2c11 : Code := { maxStack := 1, maxLocals := 1, code := prog_1_method_16_code, exceptionTable := #[], attributes := #[] }
def k2m11 : Method := { name := "reconciliations", desc := "()I", sig := { parameters := [], returnType := some .int }, accessFlags := 1, code := some k2c11 }
def k2c12 : Code := { maxStack := 3, maxLocals := 4, code := prog_1_method_18_code, exceptionTable := #[], attributes := #[] }
def k2m12 : Method := { name := "storeCheck", desc := "(III)I", sig := { parameters := [.int, .int, .int], returnType := some .int }, accessFlags := 2, code := some k2c12 }
def k2c13 : Code := { maxStack := 1, maxLocals := 1, code := prog_1_method_20_code, exceptionTable := #[], attributes := #[] }
def k2m13 : Method := { name := "allocNeedsReconcile", desc := "()Z", sig := { parameters := [], returnType := some .boolean }, accessFlags := 2, code := some k2c13 }
def k2c14 : Code := { maxStack := 2, maxLocals := 2, code := prog_1_method_21_code, exceptionTable := #[], attributes := #[] }
def k2m14 : Method := { name := "placeNewObject", desc := "(I)V", sig := { parameters := [.int], returnType := none }, accessFlags := 2, code := some k2c14 }
def k2c15 : Code := { maxStack := 2, maxLocals := 3, code := prog_1_method_22_code, exceptionTable := #[], attributes := #[] }
def k2m15 : Method := { name := "storeNeedsReconcile", desc := "(II)Z", sig := { parameters := [.int, .int], returnType := some .boolean }, accessFlags := 2, code := some k2c15 }
def k2c16 : Code := { maxStack := 4, maxLocals := 5, code := prog_1_method_23_code, exceptionTable := #[], attributes := #[] }
def k2m16 : Method := { name := "assignField", desc := "(III)V", sig := { parameters := [.int, .int, .int], returnType := none }, accessFlags := 2, code := some k2c16 }
def k2c17 : Code := { maxStack := 2, maxLocals := 2, code := prog_1_method_24_code, exceptionTable := #[], attributes := #[] }
def k2m17 : Method := { name := "noteZeroCount", desc := "(I)V", sig := { parameters := [.int], returnType := none }, accessFlags := 2, code := some k2c17 }
def k2c18 : Code := { maxStack := 3, maxLocals := 2, code := prog_1_method_25_code, exceptionTable := #[], attributes := #[] }
def k2m18 : Method := { name := "runReconciliation", desc := "()I", sig := { parameters := [], returnType := some .int }, accessFlags := 2, code := some k2c18 }
def k2c19 : Code := { maxStack := 3, maxLocals := 3, code := prog_1_method_26_code, exceptionTable := #[], attributes := #[] }
def k2m19 : Method := { name := "markRootHeld", desc := "()V", sig := { parameters := [], returnType := none }, accessFlags := 2, code := some k2c19 }
def k2c20 : Code := { maxStack := 4, maxLocals := 2, code := prog_1_method_27_code, exceptionTable := #[], attributes := #[] }
def k2m20 : Method := { name := "countHolders", desc := "()V", sig := { parameters := [], returnType := none }, accessFlags := 2, code := some k2c20 }
def k2c21 : Code := { maxStack := 4, maxLocals := 4, code := prog_1_method_28_code, exceptionTable := #[], attributes := #[] }
def k2m21 : Method := { name := "addHoldersOf", desc := "(I)V", sig := { parameters := [.int], returnType := none }, accessFlags := 2, code := some k2c21 }
def k2c22 : Code := { maxStack := 2, maxLocals := 2, code := prog_1_method_29_code, exceptionTable := #[], attributes := #[] }
def k2m22 : Method := { name := "seedWork", desc := "()V", sig := { parameters := [], returnType := none }, accessFlags := 2, code := some k2c22 }
def k2c23 : Code := { maxStack := 2, maxLocals := 2, code := prog_1_method_30_code, exceptionTable := #[], attributes := #[] }
def k2m23 : Method := { name := "eligible", desc := "(I)Z", sig := { parameters := [.int], returnType := some .boolean }, accessFlags := 2, code := some k2c23 }
def k2c24 : Code := { maxStack := 3, maxLocals := 2, code := prog_1_method_31_code, exceptionTable := #[], attributes := #[] }
def k2m24 : Method := { name := "enqueue", desc := "(I)V", sig := { parameters := [.int], returnType := none }, accessFlags := 2, code := some k2c24 }
def k2c25 : Code := { maxStack := 3, maxLocals := 3, code := prog_1_method_32_code, exceptionTable := #[], attributes := #[] }
def k2m25 : Method := { name := "cascade", desc := "()V", sig := { parameters := [], returnType := none }, accessFlags := 2, code := some k2c25 }
def k2c26 : Code := { maxStack := 4, maxLocals := 4, code := prog_1_method_33_code, exceptionTable := #[], attributes := #[] }
def k2m26 : Method := { name := "dropHoldersOf", desc := "(I)V", sig := { parameters := [.int], returnType := none }, accessFlags := 2, code := some k2c26 }
def k2c27 : Code := { maxStack := 2, maxLocals := 3, code := prog_1_method_34_code, exceptionTable := #[], attributes := #[] }
def k2m27 : Method := { name := "sweep", desc := "()I", sig := { parameters := [], returnType := some .int }, accessFlags := 2, code := some k2c27 }
def k2c28 : Code := { maxStack := 3, maxLocals := 2, code := prog_1_method_35_code, exceptionTable := #[], attributes := #[] }
def k2m28 : Method := { name := "recountRefs", desc := "()V", sig := { parameters := [], returnType := none }, accessFlags := 2, code := some k2c28 }
def k2c29 : Code := { maxStack := 3, maxLocals := 4, code := prog_1_method_36_code, exceptionTable := #[], attributes := #[] }
def k2m29 : Method := { name := "countOutgoing", desc := "(I)V", sig := { parameters := [.int], returnType := none }, accessFlags := 2, code := some k2c29 }
def k2c30 : Code := { maxStack := 2, maxLocals := 2, code := prog_1_method_37_code, exceptionTable := #[], attributes := #[] }
def k2m30 : Method := { name := "rebuildTable", desc := "()V", sig := { parameters := [], returnType := none }, accessFlags := 2, code := some k2c30 }
def k2c31 : Code := { maxStack := 2, maxLocals := 1, code := prog_1_method_38_code, exceptionTable := #[], attributes := #[] }
def k2m31 : Method := { name := "hasFreeCell", desc := "()Z", sig := { parameters := [], returnType := some .boolean }, accessFlags := 2, code := some k2c31 }
def k2c32 : Code := { maxStack := 2, maxLocals := 2, code := prog_1_method_39_code, exceptionTable := #[], attributes := #[] }
def k2m32 : Method := { name := "lowestFreeCell", desc := "()I", sig := { parameters := [], returnType := some .int }, accessFlags := 2, code := some k2c32 }
def k2c33 : Code := { maxStack := 3, maxLocals := 2, code := prog_1_method_40_code, exceptionTable := #[], attributes := #[] }
def k2m33 : Method := { name := "bringToLife", desc := "(I)V", sig := { parameters := [.int], returnType := none }, accessFlags := 2, code := some k2c33 }
def k2c34 : Code := { maxStack := 3, maxLocals := 2, code := prog_1_method_41_code, exceptionTable := #[], attributes := #[] }
def k2m34 : Method := { name := "releaseCell", desc := "(I)V", sig := { parameters := [.int], returnType := none }, accessFlags := 2, code := some k2c34 }
def k2c35 : Code := { maxStack := 3, maxLocals := 4, code := prog_1_method_42_code, exceptionTable := #[], attributes := #[] }
def k2m35 : Method := { name := "clearCellFields", desc := "(I)V", sig := { parameters := [.int], returnType := none }, accessFlags := 2, code := some k2c35 }
def k2c36 : Code := { maxStack := 3, maxLocals := 3, code := prog_1_method_43_code, exceptionTable := #[], attributes := #[] }
def k2m36 : Method := { name := "readField", desc := "(II)I", sig := { parameters := [.int, .int], returnType := some .int }, accessFlags := 2, code := some k2c36 }
def k2c37 : Code := { maxStack := 3, maxLocals := 4, code := prog_1_method_44_code, exceptionTable := #[], attributes := #[] }
def k2m37 : Method := { name := "writeFieldRaw", desc := "(III)V", sig := { parameters := [.int, .int, .int], returnType := none }, accessFlags := 2, code := some k2c37 }
def k2c38 : Code := { maxStack := 4, maxLocals := 2, code := prog_1_method_45_code, exceptionTable := #[], attributes := #[] }
def k2m38 : Method := { name := "refInc", desc := "(I)V", sig := { parameters := [.int], returnType := none }, accessFlags := 2, code := some k2c38 }
def k2c39 : Code := { maxStack := 4, maxLocals := 2, code := prog_1_method_46_code, exceptionTable := #[], attributes := #[] }
def k2m39 : Method := { name := "refDec", desc := "(I)V", sig := { parameters := [.int], returnType := none }, accessFlags := 2, code := some k2c39 }
def k2c40 : Code := { maxStack := 2, maxLocals := 1, code := prog_1_method_47_code, exceptionTable := #[], attributes := #[] }
def k2m40 : Method := { name := "rootsFull", desc := "()Z", sig := { parameters := [], returnType := some .boolean }, accessFlags := 2, code := some k2c40 }
def k2c41 : Code := { maxStack := 3, maxLocals := 2, code := prog_1_method_48_code, exceptionTable := #[], attributes := #[] }
def k2m41 : Method := { name := "rootPush", desc := "(I)V", sig := { parameters := [.int], returnType := none }, accessFlags := 2, code := some k2c41 }
def k2c42 : Code := { maxStack := 3, maxLocals := 1, code := prog_1_method_49_code, exceptionTable := #[], attributes := #[] }
def k2m42 : Method := { name := "rootPopTop", desc := "()V", sig := { parameters := [], returnType := none }, accessFlags := 2, code := some k2c42 }
def k2c43 : Code := { maxStack := 2, maxLocals := 2, code := prog_1_method_50_code, exceptionTable := #[], attributes := #[] }
def k2m43 : Method := { name := "valueOfSlot", desc := "(I)I", sig := { parameters := [.int], returnType := some .int }, accessFlags := 2, code := some k2c43 }
def k2c44 : Code := { maxStack := 2, maxLocals := 2, code := prog_1_method_51_code, exceptionTable := #[], attributes := #[] }
def k2m44 : Method := { name := "tableHas", desc := "(I)Z", sig := { parameters := [.int], returnType := some .boolean }, accessFlags := 2, code := some k2c44 }
def k2c45 : Code := { maxStack := 2, maxLocals := 1, code := prog_1_method_52_code, exceptionTable := #[], attributes := #[] }
def k2m45 : Method := { name := "tableIsFull", desc := "()Z", sig := { parameters := [], returnType := some .boolean }, accessFlags := 2, code := some k2c45 }
def k2c46 : Code := { maxStack := 3, maxLocals := 2, code := prog_1_method_53_code, exceptionTable := #[], attributes := #[] }
def k2m46 : Method := { name := "tableInsert", desc := "(I)Z", sig := { parameters := [.int], returnType := some .boolean }, accessFlags := 2, code := some k2c46 }
def k2c47 : Code := { maxStack := 3, maxLocals := 2, code := prog_1_method_54_code, exceptionTable := #[], attributes := #[] }
def k2m47 : Method := { name := "resetHeap", desc := "()V", sig := { parameters := [], returnType := none }, accessFlags := 2, code := some k2c47 }
def k2c48 : Code := { maxStack := 3, maxLocals := 2, code := prog_1_method_55_code, exceptionTable := #[], attributes := #[] }
def k2m48 : Method := { name := "resetRoots", desc := "()V", sig := { parameters := [], returnType := none }, accessFlags := 2, code := some k2c48 }
def k2c49 : Code := { maxStack := 3, maxLocals := 2, code := prog_1_method_56_code, exceptionTable := #[], attributes := #[] }
def k2m49 : Method := { name := "resetTable", desc := "()V", sig := { parameters := [], returnType := none }, accessFlags := 2, code := some k2c49 }
def k2c50 : Code := { maxStack := 3, maxLocals := 2, code := prog_1_method_57_code, exceptionTable := #[], attributes := #[] }
def k2m50 : Method := { name := "resetScratch", desc := "()V", sig := { parameters := [], returnType := none }, accessFlags := 2, code := some k2c50 }
def k2c51 : Code := { maxStack := 2, maxLocals := 3, code := prog_1_method_58_code, exceptionTable := #[], attributes := #[] }
def k2m51 : Method := { name := "clamp", desc := "(III)I", sig := { parameters := [.int, .int, .int], returnType := some .int }, accessFlags := 10, code := some k2c51 }
def k2c52 : Code := { maxStack := 2, maxLocals := 2, code := prog_1_method_59_code, exceptionTable := #[], attributes := #[] }
def k2m52 : Method := { name := "isObjectId", desc := "(I)Z", sig := { parameters := [.int], returnType := some .boolean }, accessFlags := 2, code := some k2c52 }
def k2c53 : Code := { maxStack := 2, maxLocals := 2, code := prog_1_method_60_code, exceptionTable := #[], attributes := #[] }
def k2m53 : Method := { name := "isLiveId", desc := "(I)Z", sig := { parameters := [.int], returnType := some .boolean }, accessFlags := 2, code := some k2c53 }
def k2c54 : Code := { maxStack := 2, maxLocals := 2, code := prog_1_method_61_code, exceptionTable := #[], attributes := #[] }
def k2m54 : Method := { name := "isFieldNo", desc := "(I)Z", sig := { parameters := [.int], returnType := some .boolean }, accessFlags := 2, code := some k2c54 }
def k2c55 : Code := { maxStack := 2, maxLocals := 2, code := prog_1_method_62_code, exceptionTable := #[], attributes := #[] }
def k2m55 : Method := { name := "isRootSlot", desc := "(I)Z", sig := { parameters := [.int], returnType := some .boolean }, accessFlags := 2, code := some k2c55 }
def k2c56 : Code := { maxStack := 2, maxLocals := 2, code := prog_1_method_63_code, exceptionTable := #[], attributes := #[] }
def k2m56 : Method := { name := "isValueSlot", desc := "(I)Z", sig := { parameters := [.int], returnType := some .boolean }, accessFlags := 2, code := some k2c56 }
/-- DeferredCountY -/
def k2 : Class := { plain "DeferredCountY" (some 0) with
  accessFlags := 49
  interfaces := #[]
  cf := some (fileOf pool2 8 #[] #[{ accessFlags := 1, nameIndex := 5, descriptorIndex := 248, attributes := #[] }, { accessFlags := 1, nameIndex := 251, descriptorIndex := 86, attributes := #[] }, { accessFlags := 1, nameIndex := 254, descriptorIndex := 47, attributes := #[] }, { accessFlags := 1, nameIndex := 256, descriptorIndex := 86, attributes := #[] }, { accessFlags := 1, nameIndex := 257, descriptorIndex := 86, attributes := #[] }, { accessFlags := 1, nameIndex := 260, descriptorIndex := 134, attributes := #[] }, { accessFlags := 1, nameIndex := 261, descriptorIndex := 97, attributes := #[] }, { accessFlags := 1, nameIndex := 262, descriptorIndex := 110, attributes := #[] }, { accessFlags := 1, nameIndex := 263, descriptorIndex := 134, attributes := #[] }, { accessFlags := 1, nameIndex := 264, descriptorIndex := 86, attributes := #[] }, { accessFlags := 1, nameIndex := 265, descriptorIndex := 86, attributes := #[] }, { accessFlags := 1, nameIndex := 266, descriptorIndex := 86, attributes := #[] }, { accessFlags := 2, nameIndex := 106, descriptorIndex := 47, attributes := #[] }, { accessFlags := 2, nameIndex := 82, descriptorIndex := 79, attributes := #[] }, { accessFlags := 2, nameIndex := 92, descriptorIndex := 93, attributes := #[] }, { accessFlags := 2, nameIndex := 113, descriptorIndex := 114, attributes := #[] }, { accessFlags := 2, nameIndex := 117, descriptorIndex := 118, attributes := #[] }, { accessFlags := 2, nameIndex := 121, descriptorIndex := 93, attributes := #[] }, { accessFlags := 2, nameIndex := 85, descriptorIndex := 86, attributes := #[] }, { accessFlags := 2, nameIndex := 179, descriptorIndex := 6, attributes := #[] }, { accessFlags := 2, nameIndex := 182, descriptorIndex := 6, attributes := #[] }, { accessFlags := 2, nameIndex := 200, descriptorIndex := 93, attributes := #[] }, { accessFlags := 2, nameIndex := 185, descriptorIndex := 6, attributes := #[] }, { accessFlags := 2, nameIndex := 206, descriptorIndex := 134, attributes := #[] }, { accessFlags := 2, nameIndex := 209, descriptorIndex := 93, attributes := #[] }, { accessFlags := 2, nameIndex := 188, descriptorIndex := 6, attributes := #[] }, { accessFlags := 2, nameIndex := 212, descriptorIndex := 93, attributes := #[] }, { accessFlags := 2, nameIndex := 191, descriptorIndex := 86, attributes := #[] }, { accessFlags := 2, nameIndex := 194, descriptorIndex := 6, attributes := #[] }, { accessFlags := 2, nameIndex := 218, descriptorIndex := 93, attributes := #[] }, { accessFlags := 2, nameIndex := 197, descriptorIndex := 6, attributes := #[] }, { accessFlags := 2, nameIndex := 155, descriptorIndex := 79, attributes := #[] }, { accessFlags := 2, nameIndex := 89, descriptorIndex := 86, attributes := #[] }, { accessFlags := 2, nameIndex := 161, descriptorIndex := 93, attributes := #[] }, { accessFlags := 2, nameIndex := 215, descriptorIndex := 93, attributes := #[] }, { accessFlags := 2, nameIndex := 221, descriptorIndex := 93, attributes := #[] }, { accessFlags := 2, nameIndex := 100, descriptorIndex := 97, attributes := #[] }, { accessFlags := 2, nameIndex := 176, descriptorIndex := 118, attributes := #[] }, { accessFlags := 2, nameIndex := 173, descriptorIndex := 93, attributes := #[] }, { accessFlags := 2, nameIndex := 170, descriptorIndex := 93, attributes := #[] }, { accessFlags := 2, nameIndex := 78, descriptorIndex := 79, attributes := #[] }, { accessFlags := 2, nameIndex := 103, descriptorIndex := 93, attributes := #[] }, { accessFlags := 2, nameIndex := 130, descriptorIndex := 6, attributes := #[] }, { accessFlags := 2, nameIndex := 109, descriptorIndex := 110, attributes := #[] }, { accessFlags := 2, nameIndex := 143, descriptorIndex := 134, attributes := #[] }, { accessFlags := 2, nameIndex := 158, descriptorIndex := 79, attributes := #[] }, { accessFlags := 2, nameIndex := 164, descriptorIndex := 134, attributes := #[] }, { accessFlags := 2, nameIndex := 63, descriptorIndex := 6, attributes := #[] }, { accessFlags := 2, nameIndex := 66, descriptorIndex := 6, attributes := #[] }, { accessFlags := 2, nameIndex := 69, descriptorIndex := 6, attributes := #[] }, { accessFlags := 2, nameIndex := 72, descriptorIndex := 6, attributes := #[] }, { accessFlags := 10, nameIndex := 46, descriptorIndex := 47, attributes := #[] }, { accessFlags := 2, nameIndex := 167, descriptorIndex := 134, attributes := #[] }, { accessFlags := 2, nameIndex := 137, descriptorIndex := 134, attributes := #[] }, { accessFlags := 2, nameIndex := 140, descriptorIndex := 134, attributes := #[] }, { accessFlags := 2, nameIndex := 133, descriptorIndex := 134, attributes := #[] }, { accessFlags := 2, nameIndex := 152, descriptorIndex := 134, attributes := #[] }] 49 2 #[] #[{ accessFlags := 25, nameIndex := 222, descriptorIndex := 51, attributes := #[] }, { accessFlags := 25, nameIndex := 225, descriptorIndex := 51, attributes := #[] }, { accessFlags := 25, nameIndex := 227, descriptorIndex := 51, attributes := #[] }, { accessFlags := 25, nameIndex := 229, descriptorIndex := 51, attributes := #[] }, { accessFlags := 25, nameIndex := 231, descriptorIndex := 51, attributes := #[] }, { accessFlags := 25, nameIndex := 233, descriptorIndex := 51, attributes := #[] }, { accessFlags := 25, nameIndex := 235, descriptorIndex := 51, attributes := #[] }, { accessFlags := 25, nameIndex := 237, descriptorIndex := 51, attributes := #[] }, { accessFlags := 25, nameIndex := 239, descriptorIndex := 51, attributes := #[] }, { accessFlags := 25, nameIndex := 241, descriptorIndex := 51, attributes := #[] }, { accessFlags := 25, nameIndex := 243, descriptorIndex := 51, attributes := #[] }, { accessFlags := 25, nameIndex := 245, descriptorIndex := 51, attributes := #[] }, { accessFlags := 25, nameIndex := 247, descriptorIndex := 51, attributes := #[] }, { accessFlags := 2, nameIndex := 50, descriptorIndex := 51, attributes := #[] }, { accessFlags := 2, nameIndex := 54, descriptorIndex := 51, attributes := #[] }, { accessFlags := 2, nameIndex := 57, descriptorIndex := 51, attributes := #[] }, { accessFlags := 2, nameIndex := 60, descriptorIndex := 51, attributes := #[] }, { accessFlags := 2, nameIndex := 11, descriptorIndex := 12, attributes := #[] }, { accessFlags := 2, nameIndex := 15, descriptorIndex := 16, attributes := #[] }, { accessFlags := 2, nameIndex := 19, descriptorIndex := 16, attributes := #[] }, { accessFlags := 2, nameIndex := 149, descriptorIndex := 51, attributes := #[] }, { accessFlags := 2, nameIndex := 22, descriptorIndex := 16, attributes := #[] }, { accessFlags := 2, nameIndex := 127, descriptorIndex := 51, attributes := #[] }, { accessFlags := 2, nameIndex := 25, descriptorIndex := 16, attributes := #[] }, { accessFlags := 2, nameIndex := 28, descriptorIndex := 16, attributes := #[] }, { accessFlags := 2, nameIndex := 146, descriptorIndex := 51, attributes := #[] }, { accessFlags := 2, nameIndex := 75, descriptorIndex := 51, attributes := #[] }, { accessFlags := 2, nameIndex := 31, descriptorIndex := 12, attributes := #[] }, { accessFlags := 2, nameIndex := 34, descriptorIndex := 12, attributes := #[] }, { accessFlags := 2, nameIndex := 37, descriptorIndex := 12, attributes := #[] }, { accessFlags := 2, nameIndex := 40, descriptorIndex := 16, attributes := #[] }, { accessFlags := 2, nameIndex := 43, descriptorIndex := 16, attributes := #[] }, { accessFlags := 2, nameIndex := 203, descriptorIndex := 51, attributes := #[] }])
  fields := #[{ name := "NIL", type := .int, accessFlags := 25, slot := 0, constantValue := 0 }, { name := "OK", type := .int, accessFlags := 25, slot := 1, constantValue := 0 }, { name := "ROOTS_FULL", type := .int, accessFlags := 25, slot := 2, constantValue := 0 }, { name := "ROOTS_EMPTY", type := .int, accessFlags := 25, slot := 3, constantValue := 0 }, { name := "HEAP_FULL", type := .int, accessFlags := 25, slot := 4, constantValue := 0 }, { name := "BAD_SLOT", type := .int, accessFlags := 25, slot := 5, constantValue := 0 }, { name := "BAD_FIELD", type := .int, accessFlags := 25, slot := 6, constantValue := 0 }, { name := "NULL_REF", type := .int, accessFlags := 25, slot := 7, constantValue := 0 }, { name := "BAD_OBJECT", type := .int, accessFlags := 25, slot := 8, constantValue := 0 }, { name := "MAX_HEAP", type := .int, accessFlags := 25, slot := 9, constantValue := 0 }, { name := "MAX_FIELDS", type := .int, accessFlags := 25, slot := 10, constantValue := 0 }, { name := "MAX_ROOTS", type := .int, accessFlags := 25, slot := 11, constantValue := 0 }, { name := "MAX_TABLE", type := .int, accessFlags := 25, slot := 12, constantValue := 0 }, { name := "heapCells", type := .int, accessFlags := 2, slot := 0, constantValue := 0 }, { name := "fieldsPer", type := .int, accessFlags := 2, slot := 1, constantValue := 0 }, { name := "rootCap", type := .int, accessFlags := 2, slot := 2, constantValue := 0 }, { name := "tableCap", type := .int, accessFlags := 2, slot := 3, constantValue := 0 }, { name := "live", type := (.array .boolean), accessFlags := 2, slot := 4, constantValue := 0 }, { name := "cellFields", type := (.array .int), accessFlags := 2, slot := 5, constantValue := 0 }, { name := "refs", type := (.array .int), accessFlags := 2, slot := 6, constantValue := 0 }, { name := "liveTotal", type := .int, accessFlags := 2, slot := 7, constantValue := 0 }, { name := "rootStack", type := (.array .int), accessFlags := 2, slot := 8, constantValue := 0 }, { name := "rootDepth", type := .int, accessFlags := 2, slot := 9, constantValue := 0 }, { name := "tableIds", type := (.array .int), accessFlags := 2, slot := 10, constantValue := 0 }, { name := "tablePos", type := (.array .int), accessFlags := 2, slot := 11, constantValue := 0 }, { name := "tableLen", type := .int, accessFlags := 2, slot := 12, constantValue := 0 }, { name := "runs", type := .int, accessFlags := 2, slot := 13, constantValue := 0 }, { name := "survivor", type := (.array .boolean), accessFlags := 2, slot := 14, constantValue := 0 }, { name := "rootHeld", type := (.array .boolean), accessFlags := 2, slot := 15, constantValue := 0 }, { name := "queued", type := (.array .boolean), accessFlags := 2, slot := 16, constantValue := 0 }, { name := "holders", type := (.array .int), accessFlags := 2, slot := 17, constantValue := 0 }, { name := "work", type := (.array .int), accessFlags := 2, slot := 18, constantValue := 0 }, { name := "workTop", type := .int, accessFlags := 2, slot := 19, constantValue := 0 }]
  methods := #[k2m0, k2m1, k2m2, k2m3, k2m4, k2m5, k2m6, k2m7, k2m8, k2m9, k2m10, k2m11, k2m12, k2m13, k2m14, k2m15, k2m16, k2m17, k2m18, k2m19, k2m20, k2m21, k2m22, k2m23, k2m24, k2m25, k2m26, k2m27, k2m28, k2m29, k2m30, k2m31, k2m32, k2m33, k2m34, k2m35, k2m36, k2m37, k2m38, k2m39, k2m40, k2m41, k2m42, k2m43, k2m44, k2m45, k2m46, k2m47, k2m48, k2m49, k2m50, k2m51, k2m52, k2m53, k2m54, k2m55, k2m56]
  instanceTypes := #[.int, .int, .int, .int, (.array .boolean), (.array .int), (.array .int), .int, (.array .int), .int, (.array .int), (.array .int), .int, .int, (.array .boolean), (.array .boolean), (.array .boolean), (.array .int), (.array .int), .int]
  staticTypes := #[.int, .int, .int, .int, .int, .int, .int, .int, .int, .int, .int, .int, .int]
  resolved := Array.replicate 270 none
  statics := none }

def pool3 : Array CpInfo := pool [(1, u "java/lang/Cloneable"), (0, .class_ 1), (0, u "java/lang/Object"), (0, .class_ 3)] 3

/-- java/lang/Cloneable -/
def k3 : Class := { plain "java/lang/Cloneable" (some 0) with
  accessFlags := 1537
  interfaces := #[]
  cf := some (fileOf pool3 2 #[] #[] 1537 4 #[] #[])
  fields := #[]
  methods := #[]
  instanceTypes := #[]
  staticTypes := #[]
  resolved := Array.replicate 8 none
  statics := none }

def pool4 : Array CpInfo := pool [(1, u "java/io/Serializable"), (0, .class_ 1), (0, u "java/lang/Object"), (0, .class_ 3)] 3

/-- java/io/Serializable -/
def k4 : Class := { plain "java/io/Serializable" (some 0) with
  accessFlags := 1537
  interfaces := #[]
  cf := some (fileOf pool4 2 #[] #[] 1537 4 #[] #[])
  fields := #[]
  methods := #[]
  instanceTypes := #[]
  staticTypes := #[]
  resolved := Array.replicate 8 none
  statics := none }

/-- the primitive boolean -/
def k5 : Class := { plain "boolean" none with kind := .primitive 'Z', accessFlags := 0x411 }
/-- [Z -/
def k6 : Class := { plain "[Z" (some 0) with kind := .array 5 .boolean, interfaces := #[3, 4], accessFlags := 1041 }

/-- the primitive byte -/
def k7 : Class := { plain "byte" none with kind := .primitive 'B', accessFlags := 0x411 }
/-- [B -/
def k8 : Class := { plain "[B" (some 0) with kind := .array 7 .byte, interfaces := #[3, 4], accessFlags := 1041 }

/-- the primitive int -/
def k9 : Class := { plain "int" none with kind := .primitive 'I', accessFlags := 0x411 }
/-- [I -/
def k10 : Class := { plain "[I" (some 0) with kind := .array 9 .int, interfaces := #[3, 4], accessFlags := 1041 }

def heap : Heap := #[]
def classes : Array Class := #[k0, k1, k2, k3, k4, k5, k6, k7, k8, k9, k10]
def interned : List (Array UInt16 × Addr) := []
def slotsUsed : Nat := 0
def theMethod : MethodId := ⟨1, 4⟩
def args0 : Array Value := #[.int 5, .int 5, .int 5, .int 5, .int 5]
def aboutOver (below : List Frame) : State where
  vm := { classes := classes, interned := interned.toArray }
  heap := heap
  slotsUsed := slotsUsed
  threads := #[{ frames := .invoking theMethod args0 :: below }]
def below0 : List Frame := [.native { method := ⟨0, 0⟩, args := #[] }]
def about1 : State := aboutOver below0
def p0 : Program := .bare "" "" ""
def e0 : Env := launch0.env 0 0 0
theorem w_frames : about1.frames = Frame.invoking theMethod args0 :: below0 := rfl
set_option maxRecDepth 65536 in
theorem w_args : argsFit about1.vm theMethod args0 = true := by decide +kernel
set_option maxRecDepth 65536 in
theorem w_heap : heapFits about1 = true := by decide +kernel
set_option maxRecDepth 65536 in
theorem w_runnable : about1.curStatus? = some .runnable := by decide +kernel
set_option maxRecDepth 65536 in
theorem w_alone : about1.alone = true := by decide +kernel
set_option maxRecDepth 65536 in
theorem w_named : about1.methodNamed? x = some theMethod := by decide +kernel
set_option maxRecDepth 65536 in
theorem w_hears : about1.hears theMethod below0 = true := by decide +kernel
set_option maxRecDepth 65536 in
theorem w_ripe : about1.ripe theMethod args0 below0 = true := by decide +kernel
theorem w_running : about1.status = .running := rfl
set_option maxRecDepth 65536 in
theorem w_room : about1.hasRoom e0.platform room_1 = true :=
  launch0.hasRoom_least _ room_1 (by decide +kernel) (by decide +kernel) (by decide +kernel) (by decide +kernel) (by decide +kernel) (by decide +kernel)
theorem allAtoms_all (ts : List Jvm.Cond) (a : Array Jvm.Value) (st : Jvm.State) : (allAtoms ts).before a st = ts.all (fun c => c.before a st) := by
  induction ts with
  | nil => rfl
  | cons c t ih =>
    show (Jvm.Cond.and c (allAtoms t)).before a st = _
    rw [Jvm.Cond.before_and, ih, List.all_cons]
def words1 : List Jvm.Cond := Jvm.Cond.code x code maxLocals ret :: tables_1
/-- a 'code' word, met by the world's own term for the bytes: nothing is compared byte by byte -/
theorem code_word {y : MethodName} {bytes : ByteArray} {mx : Nat} {rt : Option FieldType} {a : Array Value} {s : State} {m : MethodId} {meth : Method} {c : Code} (h1 : s.methodNamed? y = some m) (h2 : s.vm.method? m = some meth) (h3 : meth.code = some c) (h4 : c.code = bytes)
    (h5 : (c.maxLocals == mx && c.exceptionTable.isEmpty && decide (c.maxStack ≤ mostOperands) && decide (meth.sig.returnType = rt) && !meth.locks && decide (parseMethodDescriptor y.desc = some meth.sig)) = true) : (Jvm.Cond.code y bytes mx rt).before a s = true := by
  simp only [Bool.and_eq_true, beq_iff_eq, Bool.not_eq_true', decide_eq_true_eq] at h5
  obtain ⟨⟨⟨⟨⟨g1, g2⟩, g3⟩, g4⟩, g5⟩, g6⟩ := h5
  simp [Cond.before, Cond.holds, Cond.value, h1, h2, h3, h4, g1, g2, g3, g4, g5, g6]
def isCode : Jvm.Cond → Bool
  | .code _ _ _ _ => true
  | _ => false
theorem all_split {L : List Jvm.Cond} {P : Jvm.Cond → Bool} (h1 : L.all (fun c => isCode c || P c) = true) (h2 : ∀ c ∈ L.filter isCode, P c = true) : L.all P = true := by
  refine List.all_eq_true.mpr fun c hc => ?_
  have h := List.all_eq_true.mp h1 c hc
  rcases Bool.eq_false_or_eq_true (isCode c) with hi | hi
  · exact h2 c (List.mem_filter.mpr ⟨hc, hi⟩)
  · simpa [hi] using h
set_option maxRecDepth 65536 in
theorem w_c0 : (Jvm.Cond.code x code maxLocals ret).before args0 about1 = true := code_word (m := ⟨1, 4⟩) (meth := k1m4) (c := k1c4) (by decide +kernel) rfl rfl rfl (by decide +kernel)
set_option maxRecDepth 65536 in
theorem w_c1 : (Jvm.Cond.code ({ cls := "DeferredCountY", name := "<init>", desc := "(IIII)V" } : Jvm.MethodName) prog_1_method_1_code (6 : Nat) (Option.none : Option Jvm.ClassFile.FieldType)).before args0 about1 = true := code_word (m := ⟨2, 0⟩) (meth := k2m0) (c := k2c0) (by decide +kernel) rfl rfl rfl (by decide +kernel)
set_option maxRecDepth 65536 in
theorem w_c2 : (Jvm.Cond.code ({ cls := "java/lang/Object", name := "<init>", desc := "()V" } : Jvm.MethodName) object_method_1_code (1 : Nat) (Option.none : Option Jvm.ClassFile.FieldType)).before args0 about1 = true := code_word (m := ⟨0, 0⟩) (meth := k0m0) (c := k0c0) (by decide +kernel) rfl rfl rfl (by decide +kernel)
set_option maxRecDepth 65536 in
theorem w_c3 : (Jvm.Cond.code ({ cls := "DeferredCountY", name := "clamp", desc := "(III)I" } : Jvm.MethodName) prog_1_method_58_code (3 : Nat) (Option.some Jvm.ClassFile.FieldType.int)).before args0 about1 = true := code_word (m := ⟨2, 51⟩) (meth := k2m51) (c := k2c51) (by decide +kernel) rfl rfl rfl (by decide +kernel)
set_option maxRecDepth 65536 in
theorem w_c4 : (Jvm.Cond.code ({ cls := "DeferredCountY", name := "resetHeap", desc := "()V" } : Jvm.MethodName) prog_1_method_54_code (2 : Nat) (Option.none : Option Jvm.ClassFile.FieldType)).before args0 about1 = true := code_word (m := ⟨2, 47⟩) (meth := k2m47) (c := k2c47) (by decide +kernel) rfl rfl rfl (by decide +kernel)
set_option maxRecDepth 65536 in
theorem w_c5 : (Jvm.Cond.code ({ cls := "DeferredCountY", name := "clearCellFields", desc := "(I)V" } : Jvm.MethodName) prog_1_method_42_code (4 : Nat) (Option.none : Option Jvm.ClassFile.FieldType)).before args0 about1 = true := code_word (m := ⟨2, 35⟩) (meth := k2m35) (c := k2c35) (by decide +kernel) rfl rfl rfl (by decide +kernel)
set_option maxRecDepth 65536 in
theorem w_c6 : (Jvm.Cond.code ({ cls := "DeferredCountY", name := "resetRoots", desc := "()V" } : Jvm.MethodName) prog_1_method_55_code (2 : Nat) (Option.none : Option Jvm.ClassFile.FieldType)).before args0 about1 = true := code_word (m := ⟨2, 48⟩) (meth := k2m48) (c := k2c48) (by decide +kernel) rfl rfl rfl (by decide +kernel)
set_option maxRecDepth 65536 in
theorem w_c7 : (Jvm.Cond.code ({ cls := "DeferredCountY", name := "resetTable", desc := "()V" } : Jvm.MethodName) prog_1_method_56_code (2 : Nat) (Option.none : Option Jvm.ClassFile.FieldType)).before args0 about1 = true := code_word (m := ⟨2, 49⟩) (meth := k2m49) (c := k2c49) (by decide +kernel) rfl rfl rfl (by decide +kernel)
set_option maxRecDepth 65536 in
theorem w_c8 : (Jvm.Cond.code ({ cls := "DeferredCountY", name := "resetScratch", desc := "()V" } : Jvm.MethodName) prog_1_method_57_code (2 : Nat) (Option.none : Option Jvm.ClassFile.FieldType)).before args0 about1 = true := code_word (m := ⟨2, 50⟩) (meth := k2m50) (c := k2c50) (by decide +kernel) rfl rfl rfl (by decide +kernel)
set_option maxRecDepth 65536 in
theorem w_c9 : (Jvm.Cond.code ({ cls := "DeferredCountY", name := "alloc", desc := "()I" } : Jvm.MethodName) prog_1_method_2_code (2 : Nat) (Option.some Jvm.ClassFile.FieldType.int)).before args0 about1 = true := code_word (m := ⟨2, 1⟩) (meth := k2m1) (c := k2c1) (by decide +kernel) rfl rfl rfl (by decide +kernel)
set_option maxRecDepth 65536 in
theorem w_c10 : (Jvm.Cond.code ({ cls := "DeferredCountY", name := "rootsFull", desc := "()Z" } : Jvm.MethodName) prog_1_method_47_code (1 : Nat) (Option.some Jvm.ClassFile.FieldType.boolean)).before args0 about1 = true := code_word (m := ⟨2, 40⟩) (meth := k2m40) (c := k2c40) (by decide +kernel) rfl rfl rfl (by decide +kernel)
set_option maxRecDepth 65536 in
theorem w_c11 : (Jvm.Cond.code ({ cls := "DeferredCountY", name := "allocNeedsReconcile", desc := "()Z" } : Jvm.MethodName) prog_1_method_20_code (1 : Nat) (Option.some Jvm.ClassFile.FieldType.boolean)).before args0 about1 = true := code_word (m := ⟨2, 13⟩) (meth := k2m13) (c := k2c13) (by decide +kernel) rfl rfl rfl (by decide +kernel)
set_option maxRecDepth 65536 in
theorem w_c12 : (Jvm.Cond.code ({ cls := "DeferredCountY", name := "hasFreeCell", desc := "()Z" } : Jvm.MethodName) prog_1_method_38_code (1 : Nat) (Option.some Jvm.ClassFile.FieldType.boolean)).before args0 about1 = true := code_word (m := ⟨2, 31⟩) (meth := k2m31) (c := k2c31) (by decide +kernel) rfl rfl rfl (by decide +kernel)
set_option maxRecDepth 65536 in
theorem w_c13 : (Jvm.Cond.code ({ cls := "DeferredCountY", name := "tableIsFull", desc := "()Z" } : Jvm.MethodName) prog_1_method_52_code (1 : Nat) (Option.some Jvm.ClassFile.FieldType.boolean)).before args0 about1 = true := code_word (m := ⟨2, 45⟩) (meth := k2m45) (c := k2c45) (by decide +kernel) rfl rfl rfl (by decide +kernel)
set_option maxRecDepth 65536 in
theorem w_c14 : (Jvm.Cond.code ({ cls := "DeferredCountY", name := "lowestFreeCell", desc := "()I" } : Jvm.MethodName) prog_1_method_39_code (2 : Nat) (Option.some Jvm.ClassFile.FieldType.int)).before args0 about1 = true := code_word (m := ⟨2, 32⟩) (meth := k2m32) (c := k2c32) (by decide +kernel) rfl rfl rfl (by decide +kernel)
set_option maxRecDepth 65536 in
theorem w_c15 : (Jvm.Cond.code ({ cls := "DeferredCountY", name := "placeNewObject", desc := "(I)V" } : Jvm.MethodName) prog_1_method_21_code (2 : Nat) (Option.none : Option Jvm.ClassFile.FieldType)).before args0 about1 = true := code_word (m := ⟨2, 14⟩) (meth := k2m14) (c := k2c14) (by decide +kernel) rfl rfl rfl (by decide +kernel)
set_option maxRecDepth 65536 in
theorem w_c16 : (Jvm.Cond.code ({ cls := "DeferredCountY", name := "bringToLife", desc := "(I)V" } : Jvm.MethodName) prog_1_method_40_code (2 : Nat) (Option.none : Option Jvm.ClassFile.FieldType)).before args0 about1 = true := code_word (m := ⟨2, 33⟩) (meth := k2m33) (c := k2c33) (by decide +kernel) rfl rfl rfl (by decide +kernel)
set_option maxRecDepth 65536 in
theorem w_c17 : (Jvm.Cond.code ({ cls := "DeferredCountY", name := "isObjectId", desc := "(I)Z" } : Jvm.MethodName) prog_1_method_59_code (2 : Nat) (Option.some Jvm.ClassFile.FieldType.boolean)).before args0 about1 = true := code_word (m := ⟨2, 52⟩) (meth := k2m52) (c := k2c52) (by decide +kernel) rfl rfl rfl (by decide +kernel)
set_option maxRecDepth 65536 in
theorem w_c18 : (Jvm.Cond.code ({ cls := "DeferredCountY", name := "tableInsert", desc := "(I)Z" } : Jvm.MethodName) prog_1_method_53_code (2 : Nat) (Option.some Jvm.ClassFile.FieldType.boolean)).before args0 about1 = true := code_word (m := ⟨2, 46⟩) (meth := k2m46) (c := k2c46) (by decide +kernel) rfl rfl rfl (by decide +kernel)
set_option maxRecDepth 65536 in
theorem w_c19 : (Jvm.Cond.code ({ cls := "DeferredCountY", name := "rootPush", desc := "(I)V" } : Jvm.MethodName) prog_1_method_48_code (2 : Nat) (Option.none : Option Jvm.ClassFile.FieldType)).before args0 about1 = true := code_word (m := ⟨2, 41⟩) (meth := k2m41) (c := k2c41) (by decide +kernel) rfl rfl rfl (by decide +kernel)
set_option maxRecDepth 65536 in
theorem w_c20 : (Jvm.Cond.code ({ cls := "DeferredCountY", name := "store", desc := "(III)I" } : Jvm.MethodName) prog_1_method_4_code (8 : Nat) (Option.some Jvm.ClassFile.FieldType.int)).before args0 about1 = true := code_word (m := ⟨2, 2⟩) (meth := k2m2) (c := k2c2) (by decide +kernel) rfl rfl rfl (by decide +kernel)
set_option maxRecDepth 65536 in
theorem w_c21 : (Jvm.Cond.code ({ cls := "DeferredCountY", name := "storeCheck", desc := "(III)I" } : Jvm.MethodName) prog_1_method_18_code (4 : Nat) (Option.some Jvm.ClassFile.FieldType.int)).before args0 about1 = true := code_word (m := ⟨2, 12⟩) (meth := k2m12) (c := k2c12) (by decide +kernel) rfl rfl rfl (by decide +kernel)
set_option maxRecDepth 65536 in
theorem w_c22 : (Jvm.Cond.code ({ cls := "DeferredCountY", name := "isRootSlot", desc := "(I)Z" } : Jvm.MethodName) prog_1_method_62_code (2 : Nat) (Option.some Jvm.ClassFile.FieldType.boolean)).before args0 about1 = true := code_word (m := ⟨2, 55⟩) (meth := k2m55) (c := k2c55) (by decide +kernel) rfl rfl rfl (by decide +kernel)
set_option maxRecDepth 65536 in
theorem w_c23 : (Jvm.Cond.code ({ cls := "DeferredCountY", name := "isFieldNo", desc := "(I)Z" } : Jvm.MethodName) prog_1_method_61_code (2 : Nat) (Option.some Jvm.ClassFile.FieldType.boolean)).before args0 about1 = true := code_word (m := ⟨2, 54⟩) (meth := k2m54) (c := k2c54) (by decide +kernel) rfl rfl rfl (by decide +kernel)
set_option maxRecDepth 65536 in
theorem w_c24 : (Jvm.Cond.code ({ cls := "DeferredCountY", name := "isValueSlot", desc := "(I)Z" } : Jvm.MethodName) prog_1_method_63_code (2 : Nat) (Option.some Jvm.ClassFile.FieldType.boolean)).before args0 about1 = true := code_word (m := ⟨2, 56⟩) (meth := k2m56) (c := k2c56) (by decide +kernel) rfl rfl rfl (by decide +kernel)
set_option maxRecDepth 65536 in
theorem w_c25 : (Jvm.Cond.code ({ cls := "DeferredCountY", name := "isLiveId", desc := "(I)Z" } : Jvm.MethodName) prog_1_method_60_code (2 : Nat) (Option.some Jvm.ClassFile.FieldType.boolean)).before args0 about1 = true := code_word (m := ⟨2, 53⟩) (meth := k2m53) (c := k2c53) (by decide +kernel) rfl rfl rfl (by decide +kernel)
set_option maxRecDepth 65536 in
theorem w_c26 : (Jvm.Cond.code ({ cls := "DeferredCountY", name := "valueOfSlot", desc := "(I)I" } : Jvm.MethodName) prog_1_method_50_code (2 : Nat) (Option.some Jvm.ClassFile.FieldType.int)).before args0 about1 = true := code_word (m := ⟨2, 43⟩) (meth := k2m43) (c := k2c43) (by decide +kernel) rfl rfl rfl (by decide +kernel)
set_option maxRecDepth 65536 in
theorem w_c27 : (Jvm.Cond.code ({ cls := "DeferredCountY", name := "readField", desc := "(II)I" } : Jvm.MethodName) prog_1_method_43_code (3 : Nat) (Option.some Jvm.ClassFile.FieldType.int)).before args0 about1 = true := code_word (m := ⟨2, 36⟩) (meth := k2m36) (c := k2c36) (by decide +kernel) rfl rfl rfl (by decide +kernel)
set_option maxRecDepth 65536 in
theorem w_c28 : (Jvm.Cond.code ({ cls := "DeferredCountY", name := "storeNeedsReconcile", desc := "(II)Z" } : Jvm.MethodName) prog_1_method_22_code (3 : Nat) (Option.some Jvm.ClassFile.FieldType.boolean)).before args0 about1 = true := code_word (m := ⟨2, 15⟩) (meth := k2m15) (c := k2c15) (by decide +kernel) rfl rfl rfl (by decide +kernel)
set_option maxRecDepth 65536 in
theorem w_c29 : (Jvm.Cond.code ({ cls := "DeferredCountY", name := "assignField", desc := "(III)V" } : Jvm.MethodName) prog_1_method_23_code (5 : Nat) (Option.none : Option Jvm.ClassFile.FieldType)).before args0 about1 = true := code_word (m := ⟨2, 16⟩) (meth := k2m16) (c := k2c16) (by decide +kernel) rfl rfl rfl (by decide +kernel)
set_option maxRecDepth 65536 in
theorem w_c30 : (Jvm.Cond.code ({ cls := "DeferredCountY", name := "refDec", desc := "(I)V" } : Jvm.MethodName) prog_1_method_46_code (2 : Nat) (Option.none : Option Jvm.ClassFile.FieldType)).before args0 about1 = true := code_word (m := ⟨2, 39⟩) (meth := k2m39) (c := k2c39) (by decide +kernel) rfl rfl rfl (by decide +kernel)
set_option maxRecDepth 65536 in
theorem w_c31 : (Jvm.Cond.code ({ cls := "DeferredCountY", name := "refInc", desc := "(I)V" } : Jvm.MethodName) prog_1_method_45_code (2 : Nat) (Option.none : Option Jvm.ClassFile.FieldType)).before args0 about1 = true := code_word (m := ⟨2, 38⟩) (meth := k2m38) (c := k2c38) (by decide +kernel) rfl rfl rfl (by decide +kernel)
set_option maxRecDepth 65536 in
theorem w_c32 : (Jvm.Cond.code ({ cls := "DeferredCountY", name := "writeFieldRaw", desc := "(III)V" } : Jvm.MethodName) prog_1_method_44_code (4 : Nat) (Option.none : Option Jvm.ClassFile.FieldType)).before args0 about1 = true := code_word (m := ⟨2, 37⟩) (meth := k2m37) (c := k2c37) (by decide +kernel) rfl rfl rfl (by decide +kernel)
set_option maxRecDepth 65536 in
theorem w_c33 : (Jvm.Cond.code ({ cls := "DeferredCountY", name := "noteZeroCount", desc := "(I)V" } : Jvm.MethodName) prog_1_method_24_code (2 : Nat) (Option.none : Option Jvm.ClassFile.FieldType)).before args0 about1 = true := code_word (m := ⟨2, 17⟩) (meth := k2m17) (c := k2c17) (by decide +kernel) rfl rfl rfl (by decide +kernel)
set_option maxRecDepth 65536 in
theorem w_c34 : (Jvm.Cond.code ({ cls := "DeferredCountYL3", name := "ans", desc := "(I)I" } : Jvm.MethodName) method_4_code (1 : Nat) (Option.some Jvm.ClassFile.FieldType.int)).before args0 about1 = true := code_word (m := ⟨1, 3⟩) (meth := k1m3) (c := k1c3) (by decide +kernel) rfl rfl rfl (by decide +kernel)
set_option maxRecDepth 65536 in
theorem w_c35 : (Jvm.Cond.code ({ cls := "DeferredCountYL3", name := "eff", desc := "(I)I" } : Jvm.MethodName) method_3_code (1 : Nat) (Option.some Jvm.ClassFile.FieldType.int)).before args0 about1 = true := code_word (m := ⟨1, 2⟩) (meth := k1m2) (c := k1c2) (by decide +kernel) rfl rfl rfl (by decide +kernel)
set_option maxRecDepth 65536 in
theorem w_c36 : (Jvm.Cond.code ({ cls := "DeferredCountY", name := "reconcile", desc := "()I" } : Jvm.MethodName) prog_1_method_7_code (1 : Nat) (Option.some Jvm.ClassFile.FieldType.int)).before args0 about1 = true := code_word (m := ⟨2, 4⟩) (meth := k2m4) (c := k2c4) (by decide +kernel) rfl rfl rfl (by decide +kernel)
set_option maxRecDepth 65536 in
theorem w_c37 : (Jvm.Cond.code ({ cls := "DeferredCountY", name := "runReconciliation", desc := "()I" } : Jvm.MethodName) prog_1_method_25_code (2 : Nat) (Option.some Jvm.ClassFile.FieldType.int)).before args0 about1 = true := code_word (m := ⟨2, 18⟩) (meth := k2m18) (c := k2c18) (by decide +kernel) rfl rfl rfl (by decide +kernel)
set_option maxRecDepth 65536 in
theorem w_c38 : (Jvm.Cond.code ({ cls := "DeferredCountY", name := "markRootHeld", desc := "()V" } : Jvm.MethodName) prog_1_method_26_code (3 : Nat) (Option.none : Option Jvm.ClassFile.FieldType)).before args0 about1 = true := code_word (m := ⟨2, 19⟩) (meth := k2m19) (c := k2c19) (by decide +kernel) rfl rfl rfl (by decide +kernel)
set_option maxRecDepth 65536 in
theorem w_c39 : (Jvm.Cond.code ({ cls := "DeferredCountY", name := "countHolders", desc := "()V" } : Jvm.MethodName) prog_1_method_27_code (2 : Nat) (Option.none : Option Jvm.ClassFile.FieldType)).before args0 about1 = true := code_word (m := ⟨2, 20⟩) (meth := k2m20) (c := k2c20) (by decide +kernel) rfl rfl rfl (by decide +kernel)
set_option maxRecDepth 65536 in
theorem w_c40 : (Jvm.Cond.code ({ cls := "DeferredCountY", name := "addHoldersOf", desc := "(I)V" } : Jvm.MethodName) prog_1_method_28_code (4 : Nat) (Option.none : Option Jvm.ClassFile.FieldType)).before args0 about1 = true := code_word (m := ⟨2, 21⟩) (meth := k2m21) (c := k2c21) (by decide +kernel) rfl rfl rfl (by decide +kernel)
set_option maxRecDepth 65536 in
theorem w_c41 : (Jvm.Cond.code ({ cls := "DeferredCountY", name := "seedWork", desc := "()V" } : Jvm.MethodName) prog_1_method_29_code (2 : Nat) (Option.none : Option Jvm.ClassFile.FieldType)).before args0 about1 = true := code_word (m := ⟨2, 22⟩) (meth := k2m22) (c := k2c22) (by decide +kernel) rfl rfl rfl (by decide +kernel)
set_option maxRecDepth 65536 in
theorem w_c42 : (Jvm.Cond.code ({ cls := "DeferredCountY", name := "eligible", desc := "(I)Z" } : Jvm.MethodName) prog_1_method_30_code (2 : Nat) (Option.some Jvm.ClassFile.FieldType.boolean)).before args0 about1 = true := code_word (m := ⟨2, 23⟩) (meth := k2m23) (c := k2c23) (by decide +kernel) rfl rfl rfl (by decide +kernel)
set_option maxRecDepth 65536 in
theorem w_c43 : (Jvm.Cond.code ({ cls := "DeferredCountY", name := "cascade", desc := "()V" } : Jvm.MethodName) prog_1_method_32_code (3 : Nat) (Option.none : Option Jvm.ClassFile.FieldType)).before args0 about1 = true := code_word (m := ⟨2, 25⟩) (meth := k2m25) (c := k2c25) (by decide +kernel) rfl rfl rfl (by decide +kernel)
set_option maxRecDepth 65536 in
theorem w_c44 : (Jvm.Cond.code ({ cls := "DeferredCountY", name := "sweep", desc := "()I" } : Jvm.MethodName) prog_1_method_34_code (3 : Nat) (Option.some Jvm.ClassFile.FieldType.int)).before args0 about1 = true := code_word (m := ⟨2, 27⟩) (meth := k2m27) (c := k2c27) (by decide +kernel) rfl rfl rfl (by decide +kernel)
set_option maxRecDepth 65536 in
theorem w_c45 : (Jvm.Cond.code ({ cls := "DeferredCountY", name := "recountRefs", desc := "()V" } : Jvm.MethodName) prog_1_method_35_code (2 : Nat) (Option.none : Option Jvm.ClassFile.FieldType)).before args0 about1 = true := code_word (m := ⟨2, 28⟩) (meth := k2m28) (c := k2c28) (by decide +kernel) rfl rfl rfl (by decide +kernel)
set_option maxRecDepth 65536 in
theorem w_c46 : (Jvm.Cond.code ({ cls := "DeferredCountY", name := "countOutgoing", desc := "(I)V" } : Jvm.MethodName) prog_1_method_36_code (4 : Nat) (Option.none : Option Jvm.ClassFile.FieldType)).before args0 about1 = true := code_word (m := ⟨2, 29⟩) (meth := k2m29) (c := k2c29) (by decide +kernel) rfl rfl rfl (by decide +kernel)
set_option maxRecDepth 65536 in
theorem w_c47 : (Jvm.Cond.code ({ cls := "DeferredCountY", name := "rebuildTable", desc := "()V" } : Jvm.MethodName) prog_1_method_37_code (2 : Nat) (Option.none : Option Jvm.ClassFile.FieldType)).before args0 about1 = true := code_word (m := ⟨2, 30⟩) (meth := k2m30) (c := k2c30) (by decide +kernel) rfl rfl rfl (by decide +kernel)
set_option maxRecDepth 65536 in
theorem w_c48 : (Jvm.Cond.code ({ cls := "DeferredCountYL3", name := "edge", desc := "(IIIII)I" } : Jvm.MethodName) method_2_code (5 : Nat) (Option.some Jvm.ClassFile.FieldType.int)).before args0 about1 = true := code_word (m := ⟨1, 1⟩) (meth := k1m1) (c := k1c1) (by decide +kernel) rfl rfl rfl (by decide +kernel)
set_option maxRecDepth 65536 in
theorem w_c49 : (Jvm.Cond.code ({ cls := "DeferredCountY", name := "isLive", desc := "(I)Z" } : Jvm.MethodName) prog_1_method_10_code (2 : Nat) (Option.some Jvm.ClassFile.FieldType.boolean)).before args0 about1 = true := code_word (m := ⟨2, 5⟩) (meth := k2m5) (c := k2c5) (by decide +kernel) rfl rfl rfl (by decide +kernel)
set_option maxRecDepth 65536 in
theorem w_c50 : (Jvm.Cond.code ({ cls := "DeferredCountY", name := "count", desc := "(I)I" } : Jvm.MethodName) prog_1_method_12_code (2 : Nat) (Option.some Jvm.ClassFile.FieldType.int)).before args0 about1 = true := code_word (m := ⟨2, 7⟩) (meth := k2m7) (c := k2c7) (by decide +kernel) rfl rfl rfl (by decide +kernel)
set_option maxRecDepth 65536 in
theorem w_c51 : (Jvm.Cond.code ({ cls := "DeferredCountY", name := "field", desc := "(II)I" } : Jvm.MethodName) prog_1_method_11_code (3 : Nat) (Option.some Jvm.ClassFile.FieldType.int)).before args0 about1 = true := code_word (m := ⟨2, 6⟩) (meth := k2m6) (c := k2c6) (by decide +kernel) rfl rfl rfl (by decide +kernel)
set_option maxRecDepth 65536 in
theorem w_c52 : (Jvm.Cond.code ({ cls := "DeferredCountY", name := "inTable", desc := "(I)Z" } : Jvm.MethodName) prog_1_method_13_code (2 : Nat) (Option.some Jvm.ClassFile.FieldType.boolean)).before args0 about1 = true := code_word (m := ⟨2, 8⟩) (meth := k2m8) (c := k2c8) (by decide +kernel) rfl rfl rfl (by decide +kernel)
set_option maxRecDepth 65536 in
theorem w_c53 : (Jvm.Cond.code ({ cls := "DeferredCountY", name := "tableHas", desc := "(I)Z" } : Jvm.MethodName) prog_1_method_51_code (2 : Nat) (Option.some Jvm.ClassFile.FieldType.boolean)).before args0 about1 = true := code_word (m := ⟨2, 44⟩) (meth := k2m44) (c := k2c44) (by decide +kernel) rfl rfl rfl (by decide +kernel)
set_option maxRecDepth 65536 in
theorem w_c54 : (Jvm.Cond.code ({ cls := "DeferredCountY", name := "liveCount", desc := "()I" } : Jvm.MethodName) prog_1_method_15_code (1 : Nat) (Option.some Jvm.ClassFile.FieldType.int)).before args0 about1 = true := code_word (m := ⟨2, 10⟩) (meth := k2m10) (c := k2c10) (by decide +kernel) rfl rfl rfl (by decide +kernel)
set_option maxRecDepth 65536 in
theorem w_c55 : (Jvm.Cond.code ({ cls := "DeferredCountY", name := "tableSize", desc := "()I" } : Jvm.MethodName) prog_1_method_14_code (1 : Nat) (Option.some Jvm.ClassFile.FieldType.int)).before args0 about1 = true := code_word (m := ⟨2, 9⟩) (meth := k2m9) (c := k2c9) (by decide +kernel) rfl rfl rfl (by decide +kernel)
set_option maxRecDepth 65536 in
theorem w_c56 : (Jvm.Cond.code ({ cls := "DeferredCountY", name := "reconciliations", desc := "()I" } : Jvm.MethodName) prog_1_method_16_code (1 : Nat) (Option.some Jvm.ClassFile.FieldType.int)).before args0 about1 = true := code_word (m := ⟨2, 11⟩) (meth := k2m11) (c := k2c11) (by decide +kernel) rfl rfl rfl (by decide +kernel)
set_option maxRecDepth 65536 in
theorem w_c57 : (Jvm.Cond.code ({ cls := "DeferredCountY", name := "pop", desc := "()I" } : Jvm.MethodName) prog_1_method_6_code (1 : Nat) (Option.some Jvm.ClassFile.FieldType.int)).before args0 about1 = true := code_word (m := ⟨2, 3⟩) (meth := k2m3) (c := k2c3) (by decide +kernel) rfl rfl rfl (by decide +kernel)
set_option maxRecDepth 65536 in
theorem w_c58 : (Jvm.Cond.code ({ cls := "DeferredCountY", name := "rootPopTop", desc := "()V" } : Jvm.MethodName) prog_1_method_49_code (1 : Nat) (Option.none : Option Jvm.ClassFile.FieldType)).before args0 about1 = true := code_word (m := ⟨2, 42⟩) (meth := k2m42) (c := k2c42) (by decide +kernel) rfl rfl rfl (by decide +kernel)
set_option maxRecDepth 65536 in
theorem w_c59 : (Jvm.Cond.code ({ cls := "DeferredCountY", name := "enqueue", desc := "(I)V" } : Jvm.MethodName) prog_1_method_31_code (2 : Nat) (Option.none : Option Jvm.ClassFile.FieldType)).before args0 about1 = true := code_word (m := ⟨2, 24⟩) (meth := k2m24) (c := k2c24) (by decide +kernel) rfl rfl rfl (by decide +kernel)
set_option maxRecDepth 65536 in
theorem w_c60 : (Jvm.Cond.code ({ cls := "DeferredCountY", name := "dropHoldersOf", desc := "(I)V" } : Jvm.MethodName) prog_1_method_33_code (4 : Nat) (Option.none : Option Jvm.ClassFile.FieldType)).before args0 about1 = true := code_word (m := ⟨2, 26⟩) (meth := k2m26) (c := k2c26) (by decide +kernel) rfl rfl rfl (by decide +kernel)
set_option maxRecDepth 65536 in
theorem w_c61 : (Jvm.Cond.code ({ cls := "DeferredCountY", name := "releaseCell", desc := "(I)V" } : Jvm.MethodName) prog_1_method_41_code (2 : Nat) (Option.none : Option Jvm.ClassFile.FieldType)).before args0 about1 = true := code_word (m := ⟨2, 34⟩) (meth := k2m34) (c := k2c34) (by decide +kernel) rfl rfl rfl (by decide +kernel)
def codes1 : List Jvm.Cond := [Jvm.Cond.code x code maxLocals ret, Jvm.Cond.code ({ cls := "DeferredCountY", name := "<init>", desc := "(IIII)V" } : Jvm.MethodName) prog_1_method_1_code (6 : Nat) (Option.none : Option Jvm.ClassFile.FieldType), Jvm.Cond.code ({ cls := "java/lang/Object", name := "<init>", desc := "()V" } : Jvm.MethodName) object_method_1_code (1 : Nat) (Option.none : Option Jvm.ClassFile.FieldType), Jvm.Cond.code ({ cls := "DeferredCountY", name := "clamp", desc := "(III)I" } : Jvm.MethodName) prog_1_method_58_code (3 : Nat) (Option.some Jvm.ClassFile.FieldType.int), Jvm.Cond.code ({ cls := "DeferredCountY", name := "resetHeap", desc := "()V" } : Jvm.MethodName) prog_1_method_54_code (2 : Nat) (Option.none : Option Jvm.ClassFile.FieldType), Jvm.Cond.code ({ cls := "DeferredCountY", name := "clearCellFields", desc := "(I)V" } : Jvm.MethodName) prog_1_method_42_code (4 : Nat) (Option.none : Option Jvm.ClassFile.FieldType), Jvm.Cond.code ({ cls := "DeferredCountY", name := "resetRoots", desc := "()V" } : Jvm.MethodName) prog_1_method_55_code (2 : Nat) (Option.none : Option Jvm.ClassFile.FieldType), Jvm.Cond.code ({ cls := "DeferredCountY", name := "resetTable", desc := "()V" } : Jvm.MethodName) prog_1_method_56_code (2 : Nat) (Option.none : Option Jvm.ClassFile.FieldType), Jvm.Cond.code ({ cls := "DeferredCountY", name := "resetScratch", desc := "()V" } : Jvm.MethodName) prog_1_method_57_code (2 : Nat) (Option.none : Option Jvm.ClassFile.FieldType), Jvm.Cond.code ({ cls := "DeferredCountY", name := "alloc", desc := "()I" } : Jvm.MethodName) prog_1_method_2_code (2 : Nat) (Option.some Jvm.ClassFile.FieldType.int), Jvm.Cond.code ({ cls := "DeferredCountY", name := "rootsFull", desc := "()Z" } : Jvm.MethodName) prog_1_method_47_code (1 : Nat) (Option.some Jvm.ClassFile.FieldType.boolean), Jvm.Cond.code ({ cls := "DeferredCountY", name := "allocNeedsReconcile", desc := "()Z" } : Jvm.MethodName) prog_1_method_20_code (1 : Nat) (Option.some Jvm.ClassFile.FieldType.boolean), Jvm.Cond.code ({ cls := "DeferredCountY", name := "hasFreeCell", desc := "()Z" } : Jvm.MethodName) prog_1_method_38_code (1 : Nat) (Option.some Jvm.ClassFile.FieldType.boolean), Jvm.Cond.code ({ cls := "DeferredCountY", name := "tableIsFull", desc := "()Z" } : Jvm.MethodName) prog_1_method_52_code (1 : Nat) (Option.some Jvm.ClassFile.FieldType.boolean), Jvm.Cond.code ({ cls := "DeferredCountY", name := "lowestFreeCell", desc := "()I" } : Jvm.MethodName) prog_1_method_39_code (2 : Nat) (Option.some Jvm.ClassFile.FieldType.int), Jvm.Cond.code ({ cls := "DeferredCountY", name := "placeNewObject", desc := "(I)V" } : Jvm.MethodName) prog_1_method_21_code (2 : Nat) (Option.none : Option Jvm.ClassFile.FieldType), Jvm.Cond.code ({ cls := "DeferredCountY", name := "bringToLife", desc := "(I)V" } : Jvm.MethodName) prog_1_method_40_code (2 : Nat) (Option.none : Option Jvm.ClassFile.FieldType), Jvm.Cond.code ({ cls := "DeferredCountY", name := "isObjectId", desc := "(I)Z" } : Jvm.MethodName) prog_1_method_59_code (2 : Nat) (Option.some Jvm.ClassFile.FieldType.boolean), Jvm.Cond.code ({ cls := "DeferredCountY", name := "tableInsert", desc := "(I)Z" } : Jvm.MethodName) prog_1_method_53_code (2 : Nat) (Option.some Jvm.ClassFile.FieldType.boolean), Jvm.Cond.code ({ cls := "DeferredCountY", name := "rootPush", desc := "(I)V" } : Jvm.MethodName) prog_1_method_48_code (2 : Nat) (Option.none : Option Jvm.ClassFile.FieldType), Jvm.Cond.code ({ cls := "DeferredCountY", name := "store", desc := "(III)I" } : Jvm.MethodName) prog_1_method_4_code (8 : Nat) (Option.some Jvm.ClassFile.FieldType.int), Jvm.Cond.code ({ cls := "DeferredCountY", name := "storeCheck", desc := "(III)I" } : Jvm.MethodName) prog_1_method_18_code (4 : Nat) (Option.some Jvm.ClassFile.FieldType.int), Jvm.Cond.code ({ cls := "DeferredCountY", name := "isRootSlot", desc := "(I)Z" } : Jvm.MethodName) prog_1_method_62_code (2 : Nat) (Option.some Jvm.ClassFile.FieldType.boolean), Jvm.Cond.code ({ cls := "DeferredCountY", name := "isFieldNo", desc := "(I)Z" } : Jvm.MethodName) prog_1_method_61_code (2 : Nat) (Option.some Jvm.ClassFile.FieldType.boolean), Jvm.Cond.code ({ cls := "DeferredCountY", name := "isValueSlot", desc := "(I)Z" } : Jvm.MethodName) prog_1_method_63_code (2 : Nat) (Option.some Jvm.ClassFile.FieldType.boolean), Jvm.Cond.code ({ cls := "DeferredCountY", name := "isLiveId", desc := "(I)Z" } : Jvm.MethodName) prog_1_method_60_code (2 : Nat) (Option.some Jvm.ClassFile.FieldType.boolean), Jvm.Cond.code ({ cls := "DeferredCountY", name := "valueOfSlot", desc := "(I)I" } : Jvm.MethodName) prog_1_method_50_code (2 : Nat) (Option.some Jvm.ClassFile.FieldType.int), Jvm.Cond.code ({ cls := "DeferredCountY", name := "readField", desc := "(II)I" } : Jvm.MethodName) prog_1_method_43_code (3 : Nat) (Option.some Jvm.ClassFile.FieldType.int), Jvm.Cond.code ({ cls := "DeferredCountY", name := "storeNeedsReconcile", desc := "(II)Z" } : Jvm.MethodName) prog_1_method_22_code (3 : Nat) (Option.some Jvm.ClassFile.FieldType.boolean), Jvm.Cond.code ({ cls := "DeferredCountY", name := "assignField", desc := "(III)V" } : Jvm.MethodName) prog_1_method_23_code (5 : Nat) (Option.none : Option Jvm.ClassFile.FieldType), Jvm.Cond.code ({ cls := "DeferredCountY", name := "refDec", desc := "(I)V" } : Jvm.MethodName) prog_1_method_46_code (2 : Nat) (Option.none : Option Jvm.ClassFile.FieldType), Jvm.Cond.code ({ cls := "DeferredCountY", name := "refInc", desc := "(I)V" } : Jvm.MethodName) prog_1_method_45_code (2 : Nat) (Option.none : Option Jvm.ClassFile.FieldType), Jvm.Cond.code ({ cls := "DeferredCountY", name := "writeFieldRaw", desc := "(III)V" } : Jvm.MethodName) prog_1_method_44_code (4 : Nat) (Option.none : Option Jvm.ClassFile.FieldType), Jvm.Cond.code ({ cls := "DeferredCountY", name := "noteZeroCount", desc := "(I)V" } : Jvm.MethodName) prog_1_method_24_code (2 : Nat) (Option.none : Option Jvm.ClassFile.FieldType), Jvm.Cond.code ({ cls := "DeferredCountYL3", name := "ans", desc := "(I)I" } : Jvm.MethodName) method_4_code (1 : Nat) (Option.some Jvm.ClassFile.FieldType.int), Jvm.Cond.code ({ cls := "DeferredCountYL3", name := "eff", desc := "(I)I" } : Jvm.MethodName) method_3_code (1 : Nat) (Option.some Jvm.ClassFile.FieldType.int), Jvm.Cond.code ({ cls := "DeferredCountY", name := "reconcile", desc := "()I" } : Jvm.MethodName) prog_1_method_7_code (1 : Nat) (Option.some Jvm.ClassFile.FieldType.int), Jvm.Cond.code ({ cls := "DeferredCountY", name := "runReconciliation", desc := "()I" } : Jvm.MethodName) prog_1_method_25_code (2 : Nat) (Option.some Jvm.ClassFile.FieldType.int), Jvm.Cond.code ({ cls := "DeferredCountY", name := "markRootHeld", desc := "()V" } : Jvm.MethodName) prog_1_method_26_code (3 : Nat) (Option.none : Option Jvm.ClassFile.FieldType), Jvm.Cond.code ({ cls := "DeferredCountY", name := "countHolders", desc := "()V" } : Jvm.MethodName) prog_1_method_27_code (2 : Nat) (Option.none : Option Jvm.ClassFile.FieldType), Jvm.Cond.code ({ cls := "DeferredCountY", name := "addHoldersOf", desc := "(I)V" } : Jvm.MethodName) prog_1_method_28_code (4 : Nat) (Option.none : Option Jvm.ClassFile.FieldType), Jvm.Cond.code ({ cls := "DeferredCountY", name := "seedWork", desc := "()V" } : Jvm.MethodName) prog_1_method_29_code (2 : Nat) (Option.none : Option Jvm.ClassFile.FieldType), Jvm.Cond.code ({ cls := "DeferredCountY", name := "eligible", desc := "(I)Z" } : Jvm.MethodName) prog_1_method_30_code (2 : Nat) (Option.some Jvm.ClassFile.FieldType.boolean), Jvm.Cond.code ({ cls := "DeferredCountY", name := "cascade", desc := "()V" } : Jvm.MethodName) prog_1_method_32_code (3 : Nat) (Option.none : Option Jvm.ClassFile.FieldType), Jvm.Cond.code ({ cls := "DeferredCountY", name := "sweep", desc := "()I" } : Jvm.MethodName) prog_1_method_34_code (3 : Nat) (Option.some Jvm.ClassFile.FieldType.int), Jvm.Cond.code ({ cls := "DeferredCountY", name := "recountRefs", desc := "()V" } : Jvm.MethodName) prog_1_method_35_code (2 : Nat) (Option.none : Option Jvm.ClassFile.FieldType), Jvm.Cond.code ({ cls := "DeferredCountY", name := "countOutgoing", desc := "(I)V" } : Jvm.MethodName) prog_1_method_36_code (4 : Nat) (Option.none : Option Jvm.ClassFile.FieldType), Jvm.Cond.code ({ cls := "DeferredCountY", name := "rebuildTable", desc := "()V" } : Jvm.MethodName) prog_1_method_37_code (2 : Nat) (Option.none : Option Jvm.ClassFile.FieldType), Jvm.Cond.code ({ cls := "DeferredCountYL3", name := "edge", desc := "(IIIII)I" } : Jvm.MethodName) method_2_code (5 : Nat) (Option.some Jvm.ClassFile.FieldType.int), Jvm.Cond.code ({ cls := "DeferredCountY", name := "isLive", desc := "(I)Z" } : Jvm.MethodName) prog_1_method_10_code (2 : Nat) (Option.some Jvm.ClassFile.FieldType.boolean), Jvm.Cond.code ({ cls := "DeferredCountY", name := "count", desc := "(I)I" } : Jvm.MethodName) prog_1_method_12_code (2 : Nat) (Option.some Jvm.ClassFile.FieldType.int), Jvm.Cond.code ({ cls := "DeferredCountY", name := "field", desc := "(II)I" } : Jvm.MethodName) prog_1_method_11_code (3 : Nat) (Option.some Jvm.ClassFile.FieldType.int), Jvm.Cond.code ({ cls := "DeferredCountY", name := "inTable", desc := "(I)Z" } : Jvm.MethodName) prog_1_method_13_code (2 : Nat) (Option.some Jvm.ClassFile.FieldType.boolean), Jvm.Cond.code ({ cls := "DeferredCountY", name := "tableHas", desc := "(I)Z" } : Jvm.MethodName) prog_1_method_51_code (2 : Nat) (Option.some Jvm.ClassFile.FieldType.boolean), Jvm.Cond.code ({ cls := "DeferredCountY", name := "liveCount", desc := "()I" } : Jvm.MethodName) prog_1_method_15_code (1 : Nat) (Option.some Jvm.ClassFile.FieldType.int), Jvm.Cond.code ({ cls := "DeferredCountY", name := "tableSize", desc := "()I" } : Jvm.MethodName) prog_1_method_14_code (1 : Nat) (Option.some Jvm.ClassFile.FieldType.int), Jvm.Cond.code ({ cls := "DeferredCountY", name := "reconciliations", desc := "()I" } : Jvm.MethodName) prog_1_method_16_code (1 : Nat) (Option.some Jvm.ClassFile.FieldType.int), Jvm.Cond.code ({ cls := "DeferredCountY", name := "pop", desc := "()I" } : Jvm.MethodName) prog_1_method_6_code (1 : Nat) (Option.some Jvm.ClassFile.FieldType.int), Jvm.Cond.code ({ cls := "DeferredCountY", name := "rootPopTop", desc := "()V" } : Jvm.MethodName) prog_1_method_49_code (1 : Nat) (Option.none : Option Jvm.ClassFile.FieldType), Jvm.Cond.code ({ cls := "DeferredCountY", name := "enqueue", desc := "(I)V" } : Jvm.MethodName) prog_1_method_31_code (2 : Nat) (Option.none : Option Jvm.ClassFile.FieldType), Jvm.Cond.code ({ cls := "DeferredCountY", name := "dropHoldersOf", desc := "(I)V" } : Jvm.MethodName) prog_1_method_33_code (4 : Nat) (Option.none : Option Jvm.ClassFile.FieldType), Jvm.Cond.code ({ cls := "DeferredCountY", name := "releaseCell", desc := "(I)V" } : Jvm.MethodName) prog_1_method_41_code (2 : Nat) (Option.none : Option Jvm.ClassFile.FieldType)]
set_option maxRecDepth 65536 in
theorem codes_eq : words1.filter isCode = codes1 := rfl
theorem w_codes : ∀ c ∈ words1.filter isCode, c.before args0 about1 = true := by
  rw [codes_eq]
  intro c hc
  simp only [codes1, List.mem_cons, List.not_mem_nil, or_false] at hc
  rcases hc with rfl | rfl | rfl | rfl | rfl | rfl | rfl | rfl | rfl | rfl | rfl | rfl | rfl | rfl | rfl | rfl | rfl | rfl | rfl | rfl | rfl | rfl | rfl | rfl | rfl | rfl | rfl | rfl | rfl | rfl | rfl | rfl | rfl | rfl | rfl | rfl | rfl | rfl | rfl | rfl | rfl | rfl | rfl | rfl | rfl | rfl | rfl | rfl | rfl | rfl | rfl | rfl | rfl | rfl | rfl | rfl | rfl | rfl | rfl | rfl | rfl | rfl
  · exact w_c0
  · exact w_c1
  · exact w_c2
  · exact w_c3
  · exact w_c4
  · exact w_c5
  · exact w_c6
  · exact w_c7
  · exact w_c8
  · exact w_c9
  · exact w_c10
  · exact w_c11
  · exact w_c12
  · exact w_c13
  · exact w_c14
  · exact w_c15
  · exact w_c16
  · exact w_c17
  · exact w_c18
  · exact w_c19
  · exact w_c20
  · exact w_c21
  · exact w_c22
  · exact w_c23
  · exact w_c24
  · exact w_c25
  · exact w_c26
  · exact w_c27
  · exact w_c28
  · exact w_c29
  · exact w_c30
  · exact w_c31
  · exact w_c32
  · exact w_c33
  · exact w_c34
  · exact w_c35
  · exact w_c36
  · exact w_c37
  · exact w_c38
  · exact w_c39
  · exact w_c40
  · exact w_c41
  · exact w_c42
  · exact w_c43
  · exact w_c44
  · exact w_c45
  · exact w_c46
  · exact w_c47
  · exact w_c48
  · exact w_c49
  · exact w_c50
  · exact w_c51
  · exact w_c52
  · exact w_c53
  · exact w_c54
  · exact w_c55
  · exact w_c56
  · exact w_c57
  · exact w_c58
  · exact w_c59
  · exact w_c60
  · exact w_c61
set_option maxRecDepth 65536 in
theorem w_t1 : (words1.take 24).all (fun c => isCode c || c.before args0 about1) = true := by decide +kernel
set_option maxRecDepth 65536 in
theorem w_t2 : ((words1.drop 24).take 24).all (fun c => isCode c || c.before args0 about1) = true := by decide +kernel
set_option maxRecDepth 65536 in
theorem w_t3 : (((words1.drop 24).drop 24).take 24).all (fun c => isCode c || c.before args0 about1) = true := by decide +kernel
set_option maxRecDepth 65536 in
theorem w_t4 : ((((words1.drop 24).drop 24).drop 24).take 24).all (fun c => isCode c || c.before args0 about1) = true := by decide +kernel
set_option maxRecDepth 65536 in
theorem w_t5 : (((((words1.drop 24).drop 24).drop 24).drop 24).take 24).all (fun c => isCode c || c.before args0 about1) = true := by decide +kernel
set_option maxRecDepth 65536 in
theorem w_t6 : ((((((words1.drop 24).drop 24).drop 24).drop 24).drop 24).take 24).all (fun c => isCode c || c.before args0 about1) = true := by decide +kernel
set_option maxRecDepth 65536 in
theorem w_t7 : (((((((words1.drop 24).drop 24).drop 24).drop 24).drop 24).drop 24).take 24).all (fun c => isCode c || c.before args0 about1) = true := by decide +kernel
set_option maxRecDepth 65536 in
theorem w_t8 : ((((((((words1.drop 24).drop 24).drop 24).drop 24).drop 24).drop 24).drop 24).take 24).all (fun c => isCode c || c.before args0 about1) = true := by decide +kernel
set_option maxRecDepth 65536 in
theorem w_t9 : (((((((((words1.drop 24).drop 24).drop 24).drop 24).drop 24).drop 24).drop 24).drop 24).take 24).all (fun c => isCode c || c.before args0 about1) = true := by decide +kernel
set_option maxRecDepth 65536 in
theorem w_t10 : ((((((((((words1.drop 24).drop 24).drop 24).drop 24).drop 24).drop 24).drop 24).drop 24).drop 24).take 24).all (fun c => isCode c || c.before args0 about1) = true := by decide +kernel
set_option maxRecDepth 65536 in
theorem w_t11 : (((((((((((words1.drop 24).drop 24).drop 24).drop 24).drop 24).drop 24).drop 24).drop 24).drop 24).drop 24).take 24).all (fun c => isCode c || c.before args0 about1) = true := by decide +kernel
set_option maxRecDepth 65536 in
theorem w_t12 : ((((((((((((words1.drop 24).drop 24).drop 24).drop 24).drop 24).drop 24).drop 24).drop 24).drop 24).drop 24).drop 24).take 24).all (fun c => isCode c || c.before args0 about1) = true := by decide +kernel
set_option maxRecDepth 65536 in
theorem w_t13 : ((((((((((((words1.drop 24).drop 24).drop 24).drop 24).drop 24).drop 24).drop 24).drop 24).drop 24).drop 24).drop 24).drop 24).all (fun c => isCode c || c.before args0 about1) = true := by decide +kernel
theorem w_tables : (allAtoms (Jvm.Cond.code x code maxLocals ret :: tables_1)).before args0 about1 = true := by
  rw [allAtoms_all]
  show words1.all (fun c => c.before args0 about1) = true
  refine all_split ?_ w_codes
  rw [← List.take_append_drop 24 words1, List.all_append, w_t1, ← List.take_append_drop 24 (words1.drop 24), List.all_append, w_t2, ← List.take_append_drop 24 ((words1.drop 24).drop 24), List.all_append, w_t3, ← List.take_append_drop 24 (((words1.drop 24).drop 24).drop 24), List.all_append, w_t4, ← List.take_append_drop 24 ((((words1.drop 24).drop 24).drop 24).drop 24), List.all_append, w_t5, ← List.take_append_drop 24 (((((words1.drop 24).drop 24).drop 24).drop 24).drop 24), List.all_append, w_t6, ← List.take_append_drop 24 ((((((words1.drop 24).drop 24).drop 24).drop 24).drop 24).drop 24), List.all_append, w_t7, ← List.take_append_drop 24 (((((((words1.drop 24).drop 24).drop 24).drop 24).drop 24).drop 24).drop 24), List.all_append, w_t8, ← List.take_append_drop 24 ((((((((words1.drop 24).drop 24).drop 24).drop 24).drop 24).drop 24).drop 24).drop 24), List.all_append, w_t9, ← List.take_append_drop 24 (((((((((words1.drop 24).drop 24).drop 24).drop 24).drop 24).drop 24).drop 24).drop 24).drop 24), List.all_append, w_t10, ← List.take_append_drop 24 ((((((((((words1.drop 24).drop 24).drop 24).drop 24).drop 24).drop 24).drop 24).drop 24).drop 24).drop 24), List.all_append, w_t11, ← List.take_append_drop 24 (((((((((((words1.drop 24).drop 24).drop 24).drop 24).drop 24).drop 24).drop 24).drop 24).drop 24).drop 24).drop 24), List.all_append, w_t12, w_t13]
  rfl
set_option maxRecDepth 65536 in
theorem w_case : (Jvm.Cond.and given_1 narrow_1).before args0 about1 = true := by decide +kernel
theorem w_applies : (headSpec (Jvm.Cond.code x code maxLocals ret :: tables_1) room_1).applies x e0.platform about1 = true :=
  (Spec.applies_iff w_frames).mpr ⟨w_running, w_runnable, w_alone, w_named, w_hears, w_ripe, w_room, w_tables⟩
theorem atStart : AtStart classFile x code maxLocals ret World_1 tables_1 room_1 Calls_1 rest_1 Pre_1 launch0 p0 e0 about1 theMethod args0 below0 :=
  ⟨lists_1, trivial, launch0.admits_env _ _ _, launch0.least_env, fairChoices_fair.cas, fairChoices_fair.clock, w_frames, w_args, w_heap, w_applies, trivial, trivial, w_case⟩
end start1
theorem witness_1 : WitnessClaimed_1 := ⟨start1.p0, start1.e0, start1.about1, start1.theMethod, start1.args0, start1.below0, start1.atStart⟩
end Jvm.Pilot.@@N@@
